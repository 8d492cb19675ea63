import PyProof.Rows.All
import Wide.All
import OpenK.AllK
import Wide.FinOn
import Open.SpecLaws
import KE.OsGo
import HandS.ForMost
import HandS.ForSpec
import HandS.Deep
import HandS.Conv
import HandS.TupLen
import HandS.NoneIn
import HandS.Style
import HandS.Wide
import HandS.CallRecv
import HandS.Walk
import HandS.Flow
import PySem.Challenge.RW_wordoperators_s01_answers
set_option Elab.async false
set_option linter.all false
section
set_option linter.all false
set_option Elab.async false
namespace Wo
open Sq15

/-! ### rows of things for pieces -/
def rows (T : List Nat) (A : Nat → Nat → Nat → Nat) : List Piece → Nat → Nat → Nat
  | [], i, j => if i = j then 1 else 0
  | .word w :: l, i, j => if i < j ∧ T[i]? = some w then rows T A l (i + 1) j else 0
  | .hole k :: l, i, j => ((List.range (j - i)).map fun d => A k i (i + d + 1) * rows T A l (i + d + 1) j).sum

def hasWord : List Piece → Bool
  | [] => false
  | .word _ :: _ => true
  | .hole _ :: l => hasWord l

theorem sum_zero : ∀ (l : List Nat), (∀ x ∈ l, x = 0) → l.sum = 0
  | [], _ => rfl
  | x :: l, h => by
    rw [List.sum_cons, h x (List.mem_cons_self ..), sum_zero l fun y hy => h y (List.mem_cons_of_mem _ hy)]
theorem exists_of_sum : ∀ (l : List Nat), l.sum ≠ 0 → ∃ x ∈ l, x ≠ 0 := fun l h => by
  by_cases q : ∀ x ∈ l, x = 0
  · exact absurd (sum_zero l q) h
  · simp only [Classical.not_forall] at q
    obtain ⟨x, hx, hn⟩ := q
    exact ⟨x, hx, hn⟩
theorem mul_nz {a b : Nat} (h : a * b ≠ 0) : a ≠ 0 ∧ b ≠ 0 := ⟨fun e => h (by rw [e, Nat.zero_mul]), fun e => h (by rw [e, Nat.mul_zero])⟩

theorem rows_len {T : List Nat} {A : Nat → Nat → Nat → Nat} : ∀ (l : List Piece) (i j : Nat), rows T A l i j ≠ 0 → i + l.length ≤ j
  | [], i, j, h => by
    unfold rows at h
    split at h
    · simp; omega
    · exact absurd rfl h
  | .word w :: l, i, j, h => by
    unfold rows at h
    split at h
    · have := rows_len l (i + 1) j h
      simp only [List.length_cons]; omega
    · exact absurd rfl h
  | .hole k :: l, i, j, h => by
    unfold rows at h
    obtain ⟨x, hx, hn⟩ := exists_of_sum _ h
    obtain ⟨d, hd, rfl⟩ := List.mem_map.mp hx
    have := rows_len l (i + d + 1) j (mul_nz hn).2
    simp only [List.length_cons]; omega
theorem rows_short {T : List Nat} {A : Nat → Nat → Nat → Nat} {l : List Piece} {i j : Nat} (h : j < i + l.length) : rows T A l i j = 0 := by
  by_cases q : rows T A l i j = 0
  · exact q
  · have := rows_len l i j q; omega
theorem map_sum_congr {f g : Nat → Nat} : ∀ (l : List Nat), (∀ x ∈ l, f x = g x) → (l.map f).sum = (l.map g).sum := fun l h => by
  rw [List.map_congr_left h]

theorem rows_congr1 {T : List Nat} {A B : Nat → Nat → Nat → Nat} : ∀ (l : List Piece) (i j : Nat), (∀ k a b, i ≤ a → a < b → b ≤ j → A k a b = B k a b) → rows T A l i j = rows T B l i j
  | [], i, j, _ => rfl
  | .word w :: l, i, j, h => by
    unfold rows
    rw [rows_congr1 l (i + 1) j fun k a b h1 h2 h3 => h k a b (by omega) h2 h3]
  | .hole k :: l, i, j, h => by
    unfold rows
    refine map_sum_congr _ fun d hd => ?_
    have hd' := List.mem_range.mp hd
    rw [rows_congr1 l (i + d + 1) j fun k a b h1 h2 h3 => h k a b (by omega) h2 h3, h k i (i + d + 1) (by omega) (by omega) (by omega)]
theorem rows_congr2 {T : List Nat} {A B : Nat → Nat → Nat → Nat} : ∀ (l : List Piece) (i j : Nat), hasWord l = true → (∀ k a b, i ≤ a → a < b → b ≤ j → b - a < j - i → A k a b = B k a b) → rows T A l i j = rows T B l i j
  | [], i, j, w, _ => Bool.noConfusion w
  | .word w :: l, i, j, _, h => by
    unfold rows
    rw [rows_congr1 l (i + 1) j fun k a b h1 h2 h3 => h k a b (by omega) h2 h3 (by omega)]
  | .hole k :: l, i, j, w, h => by
    unfold rows
    refine map_sum_congr _ fun d hd => ?_
    have hd' := List.mem_range.mp hd
    rw [rows_congr1 l (i + d + 1) j fun k a b h1 h2 h3 => h k a b (by omega) h2 h3 (by omega)]
    by_cases q : d + 1 < j - i
    · rw [h k i (i + d + 1) (by omega) (by omega) (by omega) (by omega)]
    · have hl : l ≠ [] := by rintro rfl; exact Bool.noConfusion w
      have hp : 0 < l.length := List.length_pos_iff.mpr hl
      rw [rows_short (l := l) (i := i + d + 1) (j := j) (by omega), Nat.mul_zero, Nat.mul_zero]

/-! ### counts -/
section
variable (h : House) (T : List Nat)
def fits (o k : Nat) : List Nat := (List.range h.ops.length).filter fun q => h.may o k (some q)
def atomAt (i j : Nat) : Nat := if j = i + 1 ∧ h.atoms.contains ((T[i]?).getD OPEN) = true then 1 else 0
def isBr (T : List Nat) (i j : Nat) : Prop := i + 2 < j ∧ T[i]? = some OPEN ∧ T[j - 1]? = some CLOSE
instance (T : List Nat) (i j : Nat) : Decidable (isBr T i j) := inferInstanceAs (Decidable (_ ∧ _ ∧ _))
def cntF : Nat → List Nat → Nat → Nat → Nat
  | 0, _, _, _ => 0
  | f + 1, S, i, j => (S.map fun o => rows T (fun k a b => cntF f (fits h o k) a b) (h.pieces o) i j).sum + atomAt h T i j + (if isBr T i j then cntF f (List.range h.ops.length) (i + 1) (j - 1) else 0)
/-- how many readings a stretch has whose top operator is among S -/
def cnt (S : List Nat) (i j : Nat) : Nat := cntF h T (j - i + 1) S i j
/-- in how many ways pieces of the operator o are a stretch -/
def cR (o : Nat) (l : List Piece) (i j : Nat) : Nat := rows T (fun k a b => cnt h T (fits h o k) a b) l i j
def brkAt (i j : Nat) : Nat := if isBr T i j then cnt h T (List.range h.ops.length) (i + 1) (j - 1) else 0
end

/-! ### pieces -/
theorem between_word : ∀ (k : Nat) (l : List Nat), l ≠ [] → hasWord (between k l) = true
  | _, [], h => absurd rfl h
  | _, [w], _ => rfl
  | _, w :: x :: l, _ => rfl
theorem hasWord_append : ∀ (a b : List Piece), hasWord (a ++ b) = (hasWord a || hasWord b)
  | [], b => rfl
  | .word _ :: a, b => rfl
  | .hole _ :: a, b => hasWord_append a b
theorem pieces_word {x : Op} (h : x.names ≠ []) : hasWord x.pieces = true := by
  unfold Op.pieces
  rw [hasWord_append, hasWord_append, between_word _ _ h]
  simp

/-- what holds of a house between two calls -/
structure OpOk (words groups : Nat) (x : Op) : Prop where
  fix : x.fix ≤ 5
  group : x.group < groups
  some_ : x.names ≠ []
  few : x.names.length ≤ 6
  low : ∀ w ∈ x.names, 2 ≤ w ∧ w < words
structure Ok (h : House) : Prop where
  w3 : 3 ≤ h.words
  w64 : h.words ≤ 64
  g1 : 1 ≤ h.groups
  g16 : h.groups ≤ 16
  atoms : ∀ a ∈ h.atoms, 2 ≤ a ∧ a < h.words
  ops : ∀ x ∈ h.ops, OpOk h.words h.groups x
  few : h.ops.length ≤ 24
  tin : ∀ p ∈ h.tighter, p.1 < h.groups ∧ p.2 < h.groups
  tnd : h.tighter.Nodup

theorem Ok.op_at {h : House} (K : Ok h) {o : Nat} {x : Op} (e : h.ops[o]? = some x) : OpOk h.words h.groups x := K.ops x (List.mem_of_getElem? e)
theorem pieces_of {h : House} {o : Nat} {x : Op} (e : h.ops[o]? = some x) : h.pieces o = x.pieces := by unfold House.pieces; rw [e]
theorem pieces_none {h : House} {o : Nat} (e : h.ops[o]? = none) : h.pieces o = [] := by unfold House.pieces; rw [e]
theorem Ok.word {h : House} (K : Ok h) (o : Nat) : h.pieces o = [] ∨ hasWord (h.pieces o) = true := by
  cases e : h.ops[o]? with
  | none => exact .inl (pieces_none e)
  | some x => exact .inr (by rw [pieces_of e]; exact pieces_word (K.op_at e).some_)

theorem cntF_eq {h : House} (K : Ok h) {T : List Nat} : ∀ (f g : Nat) (S : List Nat) (i j : Nat), j - i < f → j - i < g → cntF h T f S i j = cntF h T g S i j
  | 0, _, _, _, _, h1, _ => absurd h1 (Nat.not_lt_zero _)
  | _ + 1, 0, _, _, _, _, h2 => absurd h2 (Nat.not_lt_zero _)
  | f + 1, g + 1, S, i, j, h1, h2 => by
    unfold cntF
    have e1 : ∀ o, rows T (fun k a b => cntF h T f (fits h o k) a b) (h.pieces o) i j = rows T (fun k a b => cntF h T g (fits h o k) a b) (h.pieces o) i j := fun o => by
      rcases K.word o with e | e
      · rw [e]; rfl
      · exact rows_congr2 _ i j e fun k a b h3 h4 h5 h6 => cntF_eq K f g _ a b (by omega) (by omega)
    have e2 : (if isBr T i j then cntF h T f (List.range h.ops.length) (i + 1) (j - 1) else 0) = (if isBr T i j then cntF h T g (List.range h.ops.length) (i + 1) (j - 1) else 0) := by
      by_cases c : isBr T i j
      · have c1 := c.1
        rw [if_pos c, if_pos c, cntF_eq K f g _ (i + 1) (j - 1) (by omega) (by omega)]
      · rw [if_neg c, if_neg c]
    rw [e2, map_sum_congr S fun o _ => e1 o]
theorem cnt_eq {h : House} (K : Ok h) (T : List Nat) (S : List Nat) (i j : Nat) : cnt h T S i j = (S.map fun o => cR h T o (h.pieces o) i j).sum + atomAt h T i j + brkAt h T i j := by
  have e1 : ∀ o, rows T (fun k a b => cntF h T (j - i) (fits h o k) a b) (h.pieces o) i j = cR h T o (h.pieces o) i j := fun o => by
    unfold cR
    rcases K.word o with e | e
    · rw [e]; rfl
    · exact rows_congr2 _ i j e fun k a b h3 h4 h5 h6 => cntF_eq K _ _ _ a b (by omega) (by omega)
  have e2 : (if isBr T i j then cntF h T (j - i) (List.range h.ops.length) (i + 1) (j - 1) else 0) = brkAt h T i j := by
    unfold brkAt
    by_cases c : isBr T i j
    · have c1 := c.1
      rw [if_pos c, if_pos c]
      exact cntF_eq K _ _ _ (i + 1) (j - 1) (by omega) (by omega)
    · rw [if_neg c, if_neg c]
  unfold cnt cntF
  rw [e2, map_sum_congr S fun o _ => e1 o]
end Wo
end
section
set_option linter.all false
set_option Elab.async false
namespace Wo
open Sq15
theorem cR_nil (h : House) (T : List Nat) (o i j : Nat) : cR h T o [] i j = if i = j then 1 else 0 := rfl
theorem cR_word (h : House) (T : List Nat) (o w : Nat) (l : List Piece) (i j : Nat) : cR h T o (.word w :: l) i j = if i < j ∧ T[i]? = some w then cR h T o l (i + 1) j else 0 := rfl
theorem cR_hole (h : House) (T : List Nat) (o k : Nat) (l : List Piece) (i j : Nat) : cR h T o (.hole k :: l) i j = ((List.range (j - i)).map fun d => cnt h T (fits h o k) i (i + d + 1) * cR h T o l (i + d + 1) j).sum := rfl
theorem cR_short {h : House} {T : List Nat} {o : Nat} {l : List Piece} {i j : Nat} (q : j < i + l.length) : cR h T o l i j = 0 := rows_short q

/-! ### a stretch that has readings is even -/
def delta (w : Nat) : Int := (if w = 0 then 1 else 0) - (if w = 1 then 1 else 0)
def dep (T : List Nat) (i : Nat) : Int := ((T.take i).map delta).sum
theorem delta_two {w : Nat} (h : 2 ≤ w) : delta w = 0 := by unfold delta; rw [if_neg (by omega), if_neg (by omega)]; rfl
theorem dep_step {T : List Nat} {i w : Nat} (e : T[i]? = some w) : dep T (i + 1) = dep T i + delta w := by
  unfold dep
  rw [List.take_add_one, e]
  simp [List.sum_append]
def Even (T : List Nat) (i j : Nat) : Prop := dep T j = dep T i ∧ ∀ k, i ≤ k → k < j → dep T i ≤ dep T k
theorem Even.refl {T : List Nat} {i : Nat} : Even T i i := ⟨rfl, fun k h1 h2 => absurd h2 (by omega)⟩
theorem Even.trans {T : List Nat} {i j k : Nat} (a : Even T i j) (b : Even T j k) : Even T i k :=
  ⟨b.1.trans a.1, fun m h1 h2 => by
    by_cases c : m < j
    · exact a.2 m h1 c
    · have := b.2 m (by omega) h2
      rw [a.1] at this; exact this⟩
theorem Even.one {T : List Nat} {i w : Nat} (e : T[i]? = some w) (h : 2 ≤ w) : Even T i (i + 1) := by
  refine ⟨by rw [dep_step e, delta_two h, Int.add_zero], fun k h1 h2 => ?_⟩
  obtain rfl : k = i := by omega
  exact Int.le_refl _
theorem Even.br {T : List Nat} {i j : Nat} (c : isBr T i j) (e : Even T (i + 1) (j - 1)) : Even T i j := by
  obtain ⟨c1, c2, c3⟩ := c
  have d1 : dep T (i + 1) = dep T i + 1 := dep_step c2
  have d2 : dep T (j - 1 + 1) = dep T (j - 1) + -1 := dep_step c3
  rw [show j - 1 + 1 = j by omega] at d2
  have e1 := e.1
  refine ⟨by omega, fun k h1 h2 => ?_⟩
  by_cases q : k = i
  · rw [q]; exact Int.le_refl _
  by_cases q2 : k = j - 1
  · rw [q2]; omega
  · have := e.2 k (by omega) (by omega)
    omega
def lowWords (l : List Piece) : Prop := ∀ w, Piece.word w ∈ l → 2 ≤ w
theorem rows_even {T : List Nat} {A : Nat → Nat → Nat → Nat} (hA : ∀ k a b, A k a b ≠ 0 → Even T a b) : ∀ (l : List Piece) (i j : Nat), lowWords l → rows T A l i j ≠ 0 → Even T i j
  | [], i, j, _, h => by
    unfold rows at h
    split at h
    · rename_i e; rw [e]; exact .refl
    · exact absurd rfl h
  | .word w :: l, i, j, lw, h => by
    unfold rows at h
    split at h
    · rename_i e
      exact (Even.one e.2 (lw w (List.mem_cons_self ..))).trans (rows_even hA l (i + 1) j (fun v hv => lw v (List.mem_cons_of_mem _ hv)) h)
    · exact absurd rfl h
  | .hole k :: l, i, j, lw, h => by
    unfold rows at h
    obtain ⟨x, hx, hn⟩ := exists_of_sum _ h
    obtain ⟨d, hd, rfl⟩ := List.mem_map.mp hx
    exact (hA k _ _ (mul_nz hn).1).trans (rows_even hA l _ j (fun v hv => lw v (List.mem_cons_of_mem _ hv)) (mul_nz hn).2)
theorem between_mem : ∀ (k : Nat) (l : List Nat) (w : Nat), Piece.word w ∈ between k l → w ∈ l
  | _, [], w, h => absurd h (by simp [between])
  | _, [x], w, h => by
    simp [between] at h
    simp [h]
  | k, x :: y :: l, w, h => by
    unfold between at h
    simp only [List.mem_cons] at h
    rcases h with h | h | h
    · cases h; exact List.mem_cons_self ..
    · cases h
    · exact List.mem_cons_of_mem _ (between_mem (k + 1) (y :: l) w h)
theorem pieces_mem {x : Op} {w : Nat} (h : Piece.word w ∈ x.pieces) : w ∈ x.names := by
  unfold Op.pieces at h
  simp only [List.mem_append] at h
  rcases h with h | h | h
  · split at h <;> simp at h
  · exact between_mem _ _ w h
  · split at h <;> simp at h
theorem Ok.low {h : House} (K : Ok h) (o : Nat) : lowWords (h.pieces o) := fun w hw => by
  cases e : h.ops[o]? with
  | none => rw [pieces_none e] at hw; simp at hw
  | some x =>
    rw [pieces_of e] at hw
    exact ((K.op_at e).low w (pieces_mem hw)).1
theorem atom_at {h : House} {T : List Nat} {i j : Nat} (K : Ok h) (e : atomAt h T i j ≠ 0) : j = i + 1 ∧ ∃ w, T[i]? = some w ∧ w ∈ h.atoms ∧ 2 ≤ w := by
  unfold atomAt at e
  split at e
  · rename_i c
    refine ⟨c.1, ?_⟩
    have m := c.2
    rw [List.contains_iff_mem] at m
    have m2 := K.atoms _ m
    cases t : T[i]? with
    | none => rw [t] at m2; exact absurd m2.1 (by decide)
    | some w =>
      rw [t] at m m2
      exact ⟨w, rfl, m, m2.1⟩
  · exact absurd rfl e
theorem cntF_even {h : House} (K : Ok h) {T : List Nat} : ∀ (f : Nat) (S : List Nat) (i j : Nat), cntF h T f S i j ≠ 0 → Even T i j
  | 0, _, _, _, e => absurd rfl e
  | f + 1, S, i, j, e => by
    unfold cntF at e
    by_cases c1 : (S.map fun o => rows T (fun k a b => cntF h T f (fits h o k) a b) (h.pieces o) i j).sum = 0
    · by_cases c2 : atomAt h T i j = 0
      · rw [c1, c2] at e
        by_cases c3 : isBr T i j
        · rw [if_pos c3, Nat.add_zero, Nat.zero_add] at e
          exact Even.br c3 (cntF_even K f _ _ _ e)
        · rw [if_neg c3] at e
          exact absurd rfl e
      · obtain ⟨rfl, w, h1, _, h2⟩ := atom_at K c2
        exact Even.one h1 h2
    · obtain ⟨x, hx, hn⟩ := exists_of_sum _ c1
      obtain ⟨o, ho, rfl⟩ := List.mem_map.mp hx
      exact rows_even (fun k a b => cntF_even K f _ a b) _ i j (K.low o) hn
theorem cnt_even {h : House} (K : Ok h) {T : List Nat} {S : List Nat} {i j : Nat} (e : cnt h T S i j ≠ 0) : Even T i j := cntF_even K _ _ _ _ e

/-! ### bounds -/
def wc : List Piece → Nat
  | [] => 0
  | .word _ :: l => wc l + 1
  | .hole _ :: l => wc l
theorem wc_pos : ∀ {l : List Piece}, hasWord l = true → 1 ≤ wc l
  | .word _ :: l, _ => Nat.le_add_left ..
  | .hole _ :: l, h => wc_pos (l := l) h
theorem sum_le_mul {c : Nat} : ∀ (l : List Nat), (∀ x ∈ l, x ≤ c) → l.sum ≤ l.length * c
  | [], _ => by simp
  | x :: l, h => by
    have a := sum_le_mul l fun y hy => h y (List.mem_cons_of_mem _ hy)
    have b := h x (List.mem_cons_self ..)
    rw [List.sum_cons, List.length_cons, Nat.succ_mul]
    omega
theorem sum_mul (l : List Nat) (c : Nat) : l.sum * c = (l.map (· * c)).sum := by
  induction l with
  | nil => simp
  | cons x l ih => rw [List.sum_cons, List.map_cons, List.sum_cons, Nat.add_mul, ih]
theorem rows_le {T : List Nat} {A : Nat → Nat → Nat → Nat} : ∀ (l : List Piece) (i j : Nat), j - i ≤ 32 → (∀ k a b, i ≤ a → a < b → b ≤ j → A k a b ≤ 32 ^ (2 * (b - a) - 1)) → rows T A l i j * 32 ^ (2 * wc l) ≤ 32 ^ (2 * (j - i))
  | [], i, j, _, _ => by
    unfold rows wc
    split
    · rw [Nat.mul_zero, Nat.pow_zero, Nat.one_mul]
      exact Nat.pow_pos (by decide)
    · rw [Nat.zero_mul]; exact Nat.zero_le _
  | .word w :: l, i, j, h32, hA => by
    unfold rows wc
    split
    · rename_i c
      have ih := rows_le (T := T) l (i + 1) j (by omega) fun k a b h1 h2 h3 => hA k a b (by omega) h2 h3
      rw [show 2 * (wc l + 1) = 2 * wc l + 2 by omega, show 2 * (j - i) = 2 * (j - (i + 1)) + 2 by omega, Nat.pow_add, Nat.pow_add, ← Nat.mul_assoc]
      exact Nat.mul_le_mul_right _ ih
    · rw [Nat.zero_mul]; exact Nat.zero_le _
  | .hole k :: l, i, j, h32, hA => by
    unfold rows wc
    rw [sum_mul, List.map_map]
    by_cases c : j ≤ i
    · rw [show j - i = 0 by omega]
      simp
    refine Nat.le_trans (sum_le_mul (c := 32 ^ (2 * (j - i) - 1)) _ fun x hx => ?_) ?_
    · obtain ⟨d, hd, rfl⟩ := List.mem_map.mp hx
      have hd' := List.mem_range.mp hd
      have ih := rows_le (T := T) l (i + d + 1) j (by omega) fun k a b h1 h2 h3 => hA k a b (by omega) h2 h3
      have hk := hA k i (i + d + 1) (by omega) (by omega) (by omega)
      show A k i (i + d + 1) * rows T A l (i + d + 1) j * 32 ^ (2 * wc l) ≤ _
      rw [Nat.mul_assoc]
      refine Nat.le_trans (Nat.mul_le_mul hk ih) ?_
      rw [← Nat.pow_add]
      exact Nat.pow_le_pow_right (by decide) (by omega)
    · rw [List.length_map, List.length_range]
      refine Nat.le_trans (Nat.mul_le_mul_right _ h32) ?_
      rw [← Nat.pow_succ']
      exact Nat.pow_le_pow_right (by decide) (by omega)
theorem fits_len (h : House) (o k : Nat) : (fits h o k).length ≤ h.ops.length := by
  unfold fits
  exact Nat.le_trans (List.length_filter_le ..) (by rw [List.length_range]; exact Nat.le_refl _)
theorem rows_op_le {h : House} (K : Ok h) {T : List Nat} {A : Nat → Nat → Nat → Nat} {o i j : Nat} (hij : i < j) (h32 : j - i ≤ 32) (hA : ∀ k a b, i ≤ a → a < b → b ≤ j → A k a b ≤ 32 ^ (2 * (b - a) - 1)) : rows T A (h.pieces o) i j ≤ 32 ^ (2 * (j - i) - 2) := by
  rcases K.word o with e | e
  · rw [e]
    show (if i = j then 1 else 0) ≤ _
    rw [if_neg (by omega)]
    exact Nat.zero_le _
  · have a := rows_le (T := T) (h.pieces o) i j h32 hA
    have b := wc_pos e
    have c : rows T A (h.pieces o) i j * 32 ^ 2 ≤ 32 ^ (2 * (j - i) - 2) * 32 ^ 2 := by
      rw [← Nat.pow_add, show 2 * (j - i) - 2 + 2 = 2 * (j - i) by omega]
      exact Nat.le_trans (Nat.mul_le_mul_left _ (Nat.pow_le_pow_right (by decide) (by omega))) a
    exact Nat.le_of_mul_le_mul_right c (by decide)
theorem cntF_le {h : House} (K : Ok h) {T : List Nat} : ∀ (f : Nat) (S : List Nat) (i j : Nat), S.length ≤ 24 → i < j → j - i ≤ 32 → cntF h T f S i j ≤ 32 ^ (2 * (j - i) - 1)
  | 0, _, _, _, _, _, _ => Nat.zero_le _
  | f + 1, S, i, j, hS, hij, h32 => by
    unfold cntF
    have a : (S.map fun o => rows T (fun k a b => cntF h T f (fits h o k) a b) (h.pieces o) i j).sum ≤ 24 * 32 ^ (2 * (j - i) - 2) := by
      refine Nat.le_trans (sum_le_mul (c := 32 ^ (2 * (j - i) - 2)) _ fun x hx => ?_) (Nat.mul_le_mul_right _ (by rw [List.length_map]; exact hS))
      obtain ⟨o, ho, rfl⟩ := List.mem_map.mp hx
      exact rows_op_le K hij h32 fun k a b h1 h2 h3 => cntF_le K f _ a b (Nat.le_trans (fits_len h o k) K.few) h2 (by omega)
    have b : atomAt h T i j ≤ 32 ^ (2 * (j - i) - 2) := by
      have p : 1 ≤ 32 ^ (2 * (j - i) - 2) := Nat.pow_pos (by decide)
      unfold atomAt
      split <;> omega
    have c : (if isBr T i j then cntF h T f (List.range h.ops.length) (i + 1) (j - 1) else 0) ≤ 32 ^ (2 * (j - i) - 2) := by
      split
      · rename_i q
        have q1 := q.1
        refine Nat.le_trans (cntF_le K f _ (i + 1) (j - 1) (by rw [List.length_range]; exact K.few) (by omega) (by omega)) ?_
        exact Nat.pow_le_pow_right (by decide) (by omega)
      · exact Nat.zero_le _
    have d : 32 ^ (2 * (j - i) - 1) = 32 * 32 ^ (2 * (j - i) - 2) := by
      rw [← Nat.pow_succ']
      congr 1
      omega
    rw [d]
    omega
def BIG : Nat := 400
theorem cnt_le {h : House} (K : Ok h) {T : List Nat} {S : List Nat} {i j : Nat} (hS : S.length ≤ 24) (hij : i < j) (h32 : j - i ≤ 32) : cnt h T S i j < 2 ^ BIG := by
  refine Nat.lt_of_le_of_lt (cntF_le K _ S i j hS hij h32) ?_
  rw [show (32 : Nat) = 2 ^ 5 by decide, ← Nat.pow_mul]
  exact Nat.pow_lt_pow_right (by decide) (by unfold BIG; omega)
theorem cR_le {h : House} (K : Ok h) {T : List Nat} {o : Nat} (l : List Piece) {i j : Nat} (h32 : j - i ≤ 32) : cR h T o l i j < 2 ^ BIG := by
  have a := rows_le (T := T) (A := fun k a b => cnt h T (fits h o k) a b) l i j h32 fun k a b h1 h2 h3 => cntF_le K _ _ a b (Nat.le_trans (fits_len h o k) K.few) h2 (by omega)
  have b : cR h T o l i j ≤ cR h T o l i j * 32 ^ (2 * wc l) := Nat.le_mul_of_pos_right _ (Nat.pow_pos (by decide))
  refine Nat.lt_of_le_of_lt (Nat.le_trans b a) ?_
  rw [show (32 : Nat) = 2 ^ 5 by decide, ← Nat.pow_mul]
  exact Nat.pow_lt_pow_right (by decide) (by unfold BIG; omega)
end Wo
end
section
set_option linter.all false
set_option Elab.async false
namespace Wo
open Sq15
/-! ### the specification's table -/
section
variable (h : House) (T : List Nat)
def val (x i j : Nat) : Nat := if x < h.ops.length then cR h T x (h.pieces x) i j else if x = h.ops.length then atomAt h T i j else brkAt h T i j
def rowOf (i j : Nat) : Array Nat :=
  let r := ((List.range h.kinds).map fun x => val h T x i j).toArray
  r ++ (h.slots.map fun l => (l.map fun x => r.getD x 0).sum).toArray
end
def Right (h : House) (t : Array (Array Nat)) (i j : Nat) : Prop := t[h.cell i j]? = some (rowOf h h.text i j)
theorem getD_list (l : List Nat) (a : Nat) : l.toArray.getD a 0 = (l[a]?).getD 0 := by
  rw [Array.getD_eq_getD_getElem?, List.getElem?_toArray]
theorem getD_map_range {n a : Nat} {f : Nat → Nat} (h : a < n) : (((List.range n).map f).toArray).getD a 0 = f a := by
  rw [getD_list, List.getElem?_map, List.getElem?_range h]; rfl
theorem look_val {h : House} {t : Array (Array Nat)} {i j x : Nat} (r : Right h t i j) (hx : x < h.kinds) : look t (h.cell i j) x = val h h.text x i j := by
  unfold look
  rw [show t[h.cell i j]? = _ from r]
  unfold rowOf
  simp only [Option.getD_some]
  rw [Array.getElem?_append_left (by simpa using hx), List.getElem?_toArray, List.getElem?_map, List.getElem?_range hx]
  rfl
theorem range_two (n : Nat) : List.range (n + 2) = List.range n ++ [n, n + 1] := by
  rw [List.range_succ, List.range_succ, List.append_assoc]; rfl
theorem val_op {h : House} {T : List Nat} {x i j : Nat} (q : x < h.ops.length) : val h T x i j = cR h T x (h.pieces x) i j := by unfold val; rw [if_pos q]
theorem val_atom {h : House} {T : List Nat} {i j : Nat} : val h T h.ops.length i j = atomAt h T i j := by unfold val; rw [if_neg (by omega), if_pos rfl]
theorem val_brk {h : House} {T : List Nat} {i j : Nat} : val h T (h.ops.length + 1) i j = brkAt h T i j := by unfold val; rw [if_neg (by omega), if_neg (by omega)]
theorem sum_vals {h : House} (K : Ok h) {T : List Nat} {i j : Nat} : ((List.range h.kinds).map fun x => val h T x i j).sum = cnt h T (List.range h.ops.length) i j := by
  unfold House.kinds
  rw [range_two, List.map_append, List.sum_append, cnt_eq K]
  simp only [List.map_cons, List.map_nil, List.sum_cons, List.sum_nil, val_atom, val_brk, Nat.add_zero]
  rw [map_sum_congr (List.range h.ops.length) fun x hx => val_op (List.mem_range.mp hx), Nat.add_assoc]
theorem may_none (h : House) (o k : Nat) : h.may o k none = true := rfl
theorem slot_list {h : House} {o k : Nat} : (List.range h.kinds).filter (fun x => h.may o k (h.topOf x)) = fits h o k ++ [h.ops.length, h.ops.length + 1] := by
  unfold House.kinds fits
  rw [range_two, List.filter_append]
  congr 1
  · refine List.filter_congr fun x hx => ?_
    unfold House.topOf
    rw [if_pos (List.mem_range.mp hx)]
  · have e1 : h.topOf h.ops.length = none := by unfold House.topOf; rw [if_neg (by omega)]
    have e2 : h.topOf (h.ops.length + 1) = none := by unfold House.topOf; rw [if_neg (by omega)]
    simp [List.filter_cons, e1, e2, may_none]
theorem sum_slot {h : House} (K : Ok h) {T : List Nat} {i j o k : Nat} : (((List.range h.kinds).filter fun x => h.may o k (h.topOf x)).map fun x => val h T x i j).sum = cnt h T (fits h o k) i j := by
  rw [slot_list, List.map_append, List.sum_append, cnt_eq K]
  simp only [List.map_cons, List.map_nil, List.sum_cons, List.sum_nil, val_atom, val_brk, Nat.add_zero]
  rw [map_sum_congr (fits h o k) fun x hx => val_op (List.mem_range.mp (List.mem_filter.mp hx).1), Nat.add_assoc]
def holesAt (h : House) (o : Nat) : Nat := ((h.ops[o]?).map Op.holes).getD 0
theorem flat_at {α : Type} {f : Nat → List α} : ∀ (m o k : Nat), o < m → k < (f o).length → ((List.range m).flatMap f)[((List.range o).map fun x => (f x).length).sum + k]? = (f o)[k]?
  | 0, o, k, h1, _ => absurd h1 (by omega)
  | m + 1, o, k, h1, h2 => by
    rw [List.range_succ, List.flatMap_append]
    have el : ∀ n, ((List.range n).flatMap f).length = ((List.range n).map fun x => (f x).length).sum := fun n => by rw [List.length_flatMap]
    by_cases c : o < m
    · have ih := flat_at m o k c h2
      have lt : ((List.range o).map fun x => (f x).length).sum + k < ((List.range m).flatMap f).length := by
        rcases Nat.lt_or_ge (((List.range o).map fun x => (f x).length).sum + k) ((List.range m).flatMap f).length with z | z
        · exact z
        · rw [List.getElem?_eq_none_iff.mpr z] at ih
          have := List.getElem?_eq_none_iff.mp ih.symm
          omega
      rw [List.getElem?_append_left lt]
      exact ih
    · obtain rfl : o = m := by omega
      rw [List.getElem?_append_right (by rw [el]; omega), el, Nat.add_sub_cancel_left]
      simp
theorem slots_sum (h : House) : ∀ (o : Nat), o ≤ h.ops.length → ((h.ops.take o).map Op.holes).sum = ((List.range o).map fun x => holesAt h x).sum
  | 0, _ => by simp
  | o + 1, q => by
    rw [List.take_add_one, List.range_succ, List.map_append, List.map_append, List.sum_append, List.sum_append, slots_sum h o (by omega)]
    congr 1
    unfold holesAt
    simp [List.getElem?_eq_getElem (show o < h.ops.length by omega)]
theorem slots_at {h : House} {o k : Nat} (ho : o < h.ops.length) (hk : k < holesAt h o) : h.slots[h.slot o - h.kinds + k]? = some ((List.range h.kinds).filter fun x => h.may o k (h.topOf x)) := by
  have e : h.slot o - h.kinds = ((List.range o).map fun x => ((List.range (holesAt h x)).map fun k => (List.range h.kinds).filter fun y => h.may x k (h.topOf y)).length).sum := by
    unfold House.slot
    rw [Nat.add_sub_cancel_left, slots_sum h o (by omega)]
    simp
  rw [e]
  have q := flat_at (f := fun x => (List.range (holesAt h x)).map fun k => (List.range h.kinds).filter fun y => h.may x k (h.topOf y)) h.ops.length o k ho (by simpa using hk)
  refine Eq.trans q ?_
  rw [List.getElem?_map, List.getElem?_range hk]
  rfl
theorem look_slot {h : House} (K : Ok h) {t : Array (Array Nat)} {i j o k : Nat} (r : Right h t i j) (ho : o < h.ops.length) (hk : k < holesAt h o) : look t (h.cell i j) (h.slot o + k) = cnt h h.text (fits h o k) i j := by
  unfold look
  rw [show t[h.cell i j]? = _ from r]
  unfold rowOf
  simp only [Option.getD_some]
  have hs : h.kinds ≤ h.slot o := by unfold House.slot; omega
  rw [Array.getElem?_append_right (by simp; omega), List.getElem?_toArray, List.getElem?_map]
  rw [show h.slot o + k - ((List.map (fun x => val h h.text x i j) (List.range h.kinds)).toArray).size = h.slot o - h.kinds + k by simp; omega, slots_at ho hk]
  rw [← sum_slot K]
  simp only [Option.map_some, Option.getD_some]
  refine map_sum_congr _ fun x hx => ?_
  rw [getD_map_range (List.mem_range.mp (List.mem_filter.mp hx).1)]

theorem all_zero {v : Array Nat} (h : (v.all fun n => n == 0) = true) (a : Nat) : v.getD a 0 = 0 := by
  rw [Array.getD_eq_getD_getElem?]
  by_cases c : a < v.size
  · rw [Array.getElem?_eq_getElem c]
    have := (Array.all_eq_true.mp h) a c
    simpa using this
  · rw [Array.getElem?_eq_none (by omega)]; rfl
theorem ends_ok {h : House} (K : Ok h) {t : Array (Array Nat)} {o i j : Nat} (ho : o < h.ops.length) (hij : i ≤ j) (R : ∀ a b, i ≤ a → a < b → b ≤ j → b - a < j - i → Right h t a b) :
    ∀ (l : List Piece), (∀ k, Piece.hole k ∈ l → k < holesAt h o) → (h.ends t (h.slot o) i j l).size = j - i + 1 ∧ ∀ a, a ≤ j - i → (0 < a ∨ hasWord l = true) → (h.ends t (h.slot o) i j l).getD a 0 = cR h h.text o l (i + a) j
  | [], _ => by
    unfold House.ends
    refine ⟨by simp, fun a ha _ => ?_⟩
    rw [cR_nil, Array.getD_eq_getD_getElem?, Array.getElem?_push]
    by_cases c : a = j - i
    · rw [if_pos (by simpa using c), if_pos (by omega)]; rfl
    · rw [if_neg (by simpa using c), if_neg (by omega), Array.getElem?_replicate]
      split <;> rfl
  | p :: l, hk => by
    obtain ⟨sz, ih⟩ := ends_ok K ho hij R l fun k m => hk k (List.mem_cons_of_mem _ m)
    unfold House.ends
    simp only []
    by_cases c : ((h.ends t (h.slot o) i j l).all fun n => n == 0) = true
    · rw [if_pos c]
      refine ⟨sz, fun a ha hw => ?_⟩
      rw [all_zero c]
      cases p with
      | word w =>
        rw [cR_word]
        split
        · rename_i q
          have z := ih (a + 1) (by omega) (.inl (by omega))
          rw [all_zero c] at z
          exact z
        · rfl
      | hole k =>
        rw [cR_hole]
        refine (sum_zero _ fun x hx => ?_).symm
        obtain ⟨d, hd, rfl⟩ := List.mem_map.mp hx
        have hd' := List.mem_range.mp hd
        have z := ih (a + d + 1) (by omega) (.inl (by omega))
        rw [all_zero c, show i + (a + d + 1) = i + a + d + 1 by omega] at z
        rw [← z, Nat.mul_zero]
    · rw [if_neg c]
      refine ⟨by simp, fun a ha hw => ?_⟩
      rw [getD_map_range (by omega)]
      cases p with
      | word w =>
        simp only []
        rw [cR_word]
        by_cases q : h.text[i + a]? = some w
        · rw [if_pos q]
          by_cases q2 : i + a < j
          · rw [if_pos ⟨q2, q⟩, ih (a + 1) (by omega) (.inl (by omega))]
            rfl
          · rw [if_neg fun z => q2 z.1, Array.getD_eq_getD_getElem?, Array.getElem?_eq_none (by rw [sz]; omega)]
            rfl
        · rw [if_neg q, if_neg fun z => q z.2]
      | hole k =>
        simp only []
        rw [cR_hole, show j - i - a = j - (i + a) by omega]
        refine map_sum_congr _ fun d hd => ?_
        have hd' := List.mem_range.mp hd
        have z := ih (a + d + 1) (by omega) (.inl (by omega))
        rw [show i + (a + d + 1) = i + a + d + 1 by omega] at z
        by_cases q : (h.ends t (h.slot o) i j l).getD (a + d + 1) 0 = 0
        · rw [if_pos q]
          rw [q] at z
          rw [← z, Nat.mul_zero]
        · rw [if_neg q, z]
          rw [z] at q
          have q2 : d + 1 < j - i ∨ 0 < a := by
            rcases Nat.lt_or_ge 0 a with y | y
            · exact .inr y
            · rcases Nat.lt_or_ge (d + 1) (j - i) with y2 | y2
              · exact .inl y2
              · have hl := hw.resolve_left (by omega)
                have hl2 : hasWord l = true := hl
                have : l ≠ [] := by rintro rfl; exact Bool.noConfusion hl2
                have hp : 0 < l.length := List.length_pos_iff.mpr this
                exact absurd (cR_short (by omega)) q
          rw [look_slot K (R (i + a) (i + a + d + 1) (by omega) (by omega) (by omega) (by omega)) ho (hk k (List.mem_cons_self ..))]
end Wo
end
section
set_option linter.all false
set_option Elab.async false
namespace Wo
open Sq15
theorem between_hole : ∀ (k : Nat) (l : List Nat) (m : Nat), Piece.hole m ∈ between k l → k ≤ m ∧ m + 2 ≤ k + l.length
  | _, [], m, h => absurd h (by simp [between])
  | _, [x], m, h => absurd h (by simp [between])
  | k, x :: y :: l, m, h => by
    unfold between at h
    simp only [List.mem_cons] at h
    rcases h with h | h | h
    · cases h
    · cases h
      simp only [List.length_cons]; omega
    · have := between_hole (k + 1) (y :: l) m h
      simp only [List.length_cons] at *
      omega
theorem hole_lt {x : Op} (hn : x.names ≠ []) {k : Nat} (h : Piece.hole k ∈ x.pieces) : k < x.holes := by
  have hp : 0 < x.names.length := List.length_pos_iff.mpr hn
  unfold Op.pieces at h
  unfold Op.holes
  simp only [List.mem_append] at h
  rcases h with h | h | h
  · split at h
    · rename_i c
      simp at h
      rw [if_pos c]
      omega
    · simp at h
  · have := between_hole _ _ _ h
    omega
  · split at h
    · rename_i c
      simp at h
      rw [if_pos c]
      omega
    · simp at h
theorem Ok.hole {h : House} (K : Ok h) {o k : Nat} (m : Piece.hole k ∈ h.pieces o) : k < holesAt h o := by
  cases e : h.ops[o]? with
  | none => rw [pieces_none e] at m; simp at m
  | some x =>
    rw [pieces_of e] at m
    unfold holesAt
    rw [e]
    exact hole_lt (K.op_at e).some_ m

theorem kind_ok {h : House} (K : Ok h) {t : Array (Array Nat)} {x i j : Nat} (hij : i < j) (R : ∀ a b, i ≤ a → a < b → b ≤ j → b - a < j - i → Right h t a b) : h.kind t x i j = val h h.text x i j := by
  unfold House.kind val
  by_cases c : x < h.ops.length
  · rw [if_pos c, if_pos c]
    unfold House.rows
    rw [((ends_ok K c (Nat.le_of_lt hij) R (h.pieces x) fun k m => K.hole m).2 0 (by omega) (.inr ?_))]
    · rfl
    · rcases K.word x with e | e
      · have := List.getElem?_eq_getElem c
        have q := pieces_word (K.op_at this).some_
        rw [← pieces_of this] at q
        exact q
      · exact e
  · rw [if_neg c, if_neg c]
    by_cases c2 : x = h.ops.length
    · rw [if_pos c2, if_pos c2]
      rfl
    · rw [if_neg c2, if_neg c2]
      unfold brkAt
      by_cases c3 : isBr h.text i j
      · rw [if_pos c3]
        refine (if_pos (show i + 2 < j ∧ h.text[i]? = some OPEN ∧ h.text[j - 1]? = some CLOSE from c3)).trans ?_
        have c1 := c3.1
        unfold House.any
        rw [← sum_vals K]
        exact map_sum_congr _ fun y hy => look_val (R (i + 1) (j - 1) (by omega) (by omega) (by omega) (by omega)) (List.mem_range.mp hy)
      · rw [if_neg c3]
        exact if_neg c3
theorem fold_range {α : Type} (f : α → Nat → α) (P : Nat → α → Prop) (a : α) (h0 : P 0 a) : ∀ (n : Nat), (∀ m t, m < n → P m t → P (m + 1) (f t m)) → P n ((List.range n).foldl f a)
  | 0, _ => h0
  | n + 1, hs => by
    rw [List.range_succ, List.foldl_append]
    exact hs n _ (Nat.lt_succ_self _) (fold_range f P a h0 n fun m t hm => hs m t (Nat.lt_succ_of_lt hm))
theorem cell_inj {h : House} {a b c d : Nat} (hb : b ≤ h.text.length) (hd : d ≤ h.text.length) (e : h.cell a b = h.cell c d) : a = c ∧ b = d := by
  unfold House.cell at e
  have e1 : (a * (h.text.length + 1) + b) / (h.text.length + 1) = a := by
    rw [Nat.mul_comm, Nat.mul_add_div (by omega), Nat.div_eq_of_lt (by omega), Nat.add_zero]
  have e2 : (c * (h.text.length + 1) + d) / (h.text.length + 1) = c := by
    rw [Nat.mul_comm, Nat.mul_add_div (by omega), Nat.div_eq_of_lt (by omega), Nat.add_zero]
  rw [e] at e1
  have q : a = c := e1.symm.trans e2
  subst q
  exact ⟨rfl, by omega⟩
theorem cell_lt {h : House} {a b : Nat} (ha : a ≤ h.text.length) (hb : b ≤ h.text.length) : h.cell a b < (h.text.length + 1) * (h.text.length + 1) := by
  unfold House.cell
  have : a * (h.text.length + 1) ≤ h.text.length * (h.text.length + 1) := Nat.mul_le_mul_right _ ha
  rw [Nat.succ_mul]
  omega
def Filled (h : House) (d m : Nat) (t : Array (Array Nat)) : Prop := t.size = (h.text.length + 1) * (h.text.length + 1) ∧ ∀ a b, a < b → b ≤ h.text.length → (b - a ≤ d ∨ (b - a = d + 1 ∧ a < m)) → Right h t a b
def stretch (h : House) (d : Nat) (t : Array (Array Nat)) (i : Nat) : Array (Array Nat) :=
  let r := ((List.range h.kinds).map fun x => h.kind t x i (i + d + 1)).toArray
  t.setIfInBounds (h.cell i (i + d + 1)) (r ++ (h.slots.map fun l => (l.map fun x => r.getD x 0).sum).toArray)
theorem stretch_ok {h : House} (K : Ok h) {d m : Nat} {t : Array (Array Nat)} (hm : m < h.text.length - d) (F : Filled h d m t) : Filled h d (m + 1) (stretch h d t m) := by
  obtain ⟨sz, F⟩ := F
  have e : (List.range h.kinds).map (fun x => h.kind t x m (m + d + 1)) = (List.range h.kinds).map fun x => val h h.text x m (m + d + 1) := List.map_congr_left fun x hx => kind_ok K (by omega) fun a b h1 h2 h3 h4 => F a b h2 (by omega) (.inl (by omega))
  have e2 : stretch h d t m = t.setIfInBounds (h.cell m (m + d + 1)) (rowOf h h.text m (m + d + 1)) := by
    unfold stretch rowOf
    rw [e]
  refine ⟨by rw [e2, Array.size_setIfInBounds, sz], fun a b h1 h2 h3 => ?_⟩
  unfold Right
  rw [e2, Array.getElem?_setIfInBounds]
  by_cases c : a = m ∧ b = m + d + 1
  · obtain ⟨rfl, rfl⟩ := c
    rw [if_pos rfl, if_pos (by rw [sz]; exact cell_lt (by omega) (by omega))]
  · rw [if_neg fun z => c (let q := cell_inj (by omega) h2 z; ⟨q.1.symm, q.2.symm⟩)]
    exact F a b h1 h2 (by omega)
theorem filled_ok {h : House} (K : Ok h) : Filled h h.text.length 0 h.filled.table := by
  refine fold_range (fun t d => (List.range (h.text.length - d)).foldl (stretch h d) t) (fun d t => Filled h d 0 t) _ ⟨by simp, fun a b h1 h2 h3 => by omega⟩ h.text.length fun d t hd F => ?_
  have q := fold_range (stretch h d) (fun m t => Filled h d m t) t F (h.text.length - d) fun m t hm F => stretch_ok K hm F
  exact ⟨q.1, fun a b h1 h2 h3 => q.2 a b h1 h2 (by omega)⟩
theorem filled_right {h : House} (K : Ok h) {a b : Nat} (h1 : a < b) (h2 : b ≤ h.text.length) : Right h h.filled.table a b := (filled_ok K).2 a b h1 h2 (.inl (by omega))

/-! ### the text of a house does not matter to its counts -/
theorem cntF_text (h : House) (l : List Nat) (t : Array (Array Nat)) (T : List Nat) : ∀ (f : Nat) (S : List Nat) (i j : Nat), cntF { h with text := l, table := t } T f S i j = cntF h T f S i j
  | 0, _, _, _ => rfl
  | f + 1, S, i, j => by
    unfold cntF
    have e : (fun o => rows T (fun k a b => cntF { h with text := l, table := t } T f (fits { h with text := l, table := t } o k) a b) (House.pieces { h with text := l, table := t } o) i j) = fun o => rows T (fun k a b => cntF h T f (fits h o k) a b) (h.pieces o) i j := by
      funext o
      have e1 : (fun k a b => cntF { h with text := l, table := t } T f (fits { h with text := l, table := t } o k) a b) = fun k a b => cntF h T f (fits h o k) a b := by
        funext k a b
        exact cntF_text h l t T f _ a b
      rw [e1]
      rfl
    rw [e, cntF_text h l t T f]
    rfl
theorem cnt_text (h : House) (l : List Nat) (t : Array (Array Nat)) (T S : List Nat) (i j : Nat) : cnt { h with text := l, table := t } T S i j = cnt h T S i j := cntF_text h l t T _ S i j
theorem cR_text (h : House) (l : List Nat) (t : Array (Array Nat)) (T : List Nat) (o : Nat) (p : List Piece) (i j : Nat) : cR { h with text := l, table := t } T o p i j = cR h T o p i j := by
  unfold cR
  have e : (fun k a b => cnt { h with text := l, table := t } T (fits { h with text := l, table := t } o k) a b) = fun k a b => cnt h T (fits h o k) a b := by
    funext k a b
    exact cnt_text h l t T _ a b
  rw [e]
theorem val_text (h : House) (l : List Nat) (t : Array (Array Nat)) (T : List Nat) (x i j : Nat) : val { h with text := l, table := t } T x i j = val h T x i j := by
  unfold val
  rw [cR_text]
  unfold brkAt
  rw [cnt_text]
  rfl
theorem rowOf_text (h : House) (l : List Nat) (t : Array (Array Nat)) (T : List Nat) (i j : Nat) : rowOf { h with text := l, table := t } T i j = rowOf h T i j := by
  unfold rowOf
  have e : (fun x => val { h with text := l, table := t } T x i j) = fun x => val h T x i j := by
    funext x
    exact val_text h l t T x i j
  rw [e]
  rfl
theorem Ok.text {h : House} (K : Ok h) (l : List Nat) (t : Array (Array Nat)) : Ok { h with text := l, table := t } := ⟨K.w3, K.w64, K.g1, K.g16, K.atoms, K.ops, K.few, K.tin, K.tnd⟩
theorem with_eq (h : House) (l : List Nat) : h.with_ l = { h with text := l, table := (h.with_ l).table } := rfl
theorem with_right {h : House} (K : Ok h) {l : List Nat} {a b : Nat} (h1 : a < b) (h2 : b ≤ l.length) : Right (h.with_ l) (h.with_ l).table a b := by
  have q := filled_right (h := { h with text := l }) (K.text l h.table) h1 h2
  unfold Right at q ⊢
  rw [with_eq, rowOf_text]
  rw [show ({ h with text := l } : House) = { h with text := l, table := h.table } from rfl, rowOf_text] at q
  exact q
theorem count_eq {h : House} (K : Ok h) {l : List Nat} (hl : l ≠ []) : (h.with_ l).count = cnt h l (List.range h.ops.length) 0 l.length := by
  have K2 : Ok (h.with_ l) := by rw [with_eq]; exact K.text _ _
  unfold House.count
  rw [if_neg (show ¬ (h.with_ l).text = [] from hl)]
  unfold House.any
  have e : ((List.range (h.with_ l).kinds).map fun x => look (h.with_ l).table ((h.with_ l).cell 0 (h.with_ l).text.length) x) = (List.range (h.with_ l).kinds).map fun x => val (h.with_ l) (h.with_ l).text x 0 (h.with_ l).text.length :=
    List.map_congr_left fun x hx => look_val (with_right K (List.length_pos_iff.mpr hl) (Nat.le_refl _)) (List.mem_range.mp hx)
  rw [e, sum_vals K2]
  conv => lhs; rw [with_eq]
  rw [cnt_text]
end Wo
end
section
set_option linter.all false
set_option Elab.async false
namespace Wo
open Sq15
/-! ### the reading by its number: the program's loops as lists -/
def pick2 (F A : Nat → Nat) : List Nat → Nat → Nat → Nat × Nat × Nat
  | [], e, n => (e, 1, n)
  | s :: l, e, n => if n < F s * A s then (s, F s, n) else pick2 F A l e (n - F s * A s)
def stops (i j : Nat) : List Nat := (List.range (j - i)).map fun d => i + d + 1
section
variable (h : House) (T : List Nat)
def pieceOf (o k : Nat) (l : List Piece) (i j n : Nat) : Nat × Nat × Nat := pick2 (fun s => cR h T o l s j) (fun s => cnt h T (fits h o k) i s) (stops i j) j n
def opL (rd : Nat → Nat → Nat → Nat → List Nat) (o : Nat) : List Piece → Nat → Nat → Nat → List Nat
  | [], _, _, _ => []
  | .word _ :: l, i, j, n => opL rd o l (i + 1) j n
  | .hole k :: l, i, j, n => rd k i (pieceOf h T o k l i j n).1 ((pieceOf h T o k l i j n).2.2 / (pieceOf h T o k l i j n).2.1) ++ opL rd o l (pieceOf h T o k l i j n).1 j ((pieceOf h T o k l i j n).2.2 % (pieceOf h T o k l i j n).2.1)
def rdS (brd : Nat → List Nat) (opr : Nat → Nat → List Nat) (i j : Nat) : List Nat → Nat → List Nat
  | [], n => if n < atomAt h T i j then [T.getD i 0] else 128 :: brd (n - atomAt h T i j)
  | o :: S, n => if n < cR h T o (h.pieces o) i j then (64 + o) :: opr o n else rdS brd opr i j S (n - cR h T o (h.pieces o) i j)
def rdF : Nat → List Nat → Nat → Nat → Nat → List Nat
  | 0, _, _, _, _ => [0]
  | f + 1, S, i, j, n => rdS h T (fun m => rdF f (List.range h.ops.length) (i + 1) (j - 1) m) (fun o m => opL h T (fun k a b c => rdF f (fits h o k) a b c) o (h.pieces o) i j m) i j S n
end

/-! ### against the specification -/
mutual
def wt : Ex → Nat
  | .atom _ => 1
  | .op _ ks => 1 + wtAll ks
  | .paren e => 1 + wt e
def wtAll : List Ex → Nat
  | [] => 0
  | e :: l => wt e + wtAll l
end
mutual
theorem row_len : ∀ e : Ex, (row e).length = wt e
  | .atom _ => by simp [row, wt]
  | .op o ks => by
    have := rowAll_len ks
    simp [row, wt]; omega
  | .paren e => by
    have := row_len e
    simp [row, wt]; omega
theorem rowAll_len : ∀ l : List Ex, (rowAll l).length = wtAll l
  | [] => by simp [rowAll, wtAll]
  | e :: l => by
    have a := row_len e
    have b := rowAll_len l
    simp [rowAll, wtAll]; omega
end
def hc : List Piece → Nat
  | [] => 0
  | .word _ :: l => hc l
  | .hole _ :: l => hc l + 1
theorem hc_append : ∀ (a b : List Piece), hc (a ++ b) = hc a + hc b
  | [], b => by simp [hc]
  | .word _ :: a, b => by simp [hc, hc_append a b]
  | .hole _ :: a, b => by simp [hc, hc_append a b]; omega
theorem between_hc : ∀ (k : Nat) (l : List Nat), l ≠ [] → hc (between k l) = l.length - 1
  | _, [], h => absurd rfl h
  | _, [_], _ => rfl
  | k, _ :: y :: l, _ => by
    have := between_hc (k + 1) (y :: l) (by simp)
    unfold between
    simp only [hc, this, List.length_cons]
    omega
theorem pieces_hc {x : Op} (hn : x.names ≠ []) : hc x.pieces = x.holes := by
  unfold Op.pieces Op.holes
  simp only [hc_append, between_hc _ _ hn]
  split <;> split <;> simp [hc] <;> omega

theorem pick_filter {q : Nat → Bool} {w : Nat → Nat} : ∀ (L : List Nat) (n : Nat), pick (L.map fun x => (x, if q x = true then w x else 0)) n = pick ((L.filter q).map fun x => (x, w x)) n
  | [], n => rfl
  | x :: L, n => by
    cases c : q x with
    | true =>
      rw [List.filter_cons_of_pos c, List.map_cons, List.map_cons]
      unfold pick
      simp only [c, if_true]
      split
      · rfl
      · exact pick_filter L _
    | false =>
      rw [List.filter_cons_of_neg (by rw [c]; decide), List.map_cons, ← pick_filter (q := q) (w := w) L n]
      simp [pick, c]
theorem pick_congr {v w : Nat → Nat} (L : List Nat) (n : Nat) (e : ∀ x ∈ L, v x = w x) : pick (L.map fun x => (x, v x)) n = pick (L.map fun x => (x, w x)) n := by
  rw [List.map_congr_left fun x hx => by rw [e x hx]]
theorem pick_some {w : Nat → Nat} : ∀ (L : List Nat) (n : Nat), n < (L.map w).sum → ∃ x m, pick (L.map fun x => (x, w x)) n = some (x, m) ∧ x ∈ L ∧ m < w x
  | [], n, h => absurd h (by simp)
  | x :: L, n, h => by
    rw [List.map_cons]
    unfold pick
    by_cases c : n < w x
    · rw [if_pos c]
      exact ⟨x, n, rfl, List.mem_cons_self .., c⟩
    · rw [if_neg c]
      rw [List.map_cons, List.sum_cons] at h
      obtain ⟨y, m, h1, h2, h3⟩ := pick_some (w := w) L (n - w x) (by omega)
      exact ⟨y, m, h1, List.mem_cons_of_mem _ h2, h3⟩
theorem pick2_pick {F A : Nat → Nat} {e : Nat} : ∀ (L : List Nat) (n : Nat) {x m : Nat}, pick (L.map fun s => (s, A s * F s)) n = some (x, m) → pick2 F A L e n = (x, F x, m)
  | [], n, x, m, h => by simp [pick] at h
  | s :: L, n, x, m, h => by
    rw [List.map_cons] at h
    unfold pick at h
    unfold pick2
    by_cases c : n < A s * F s
    · rw [if_pos c] at h
      cases h
      rw [if_pos (by rw [Nat.mul_comm]; exact c)]
    · rw [if_neg c] at h
      rw [if_neg (by rw [Nat.mul_comm]; exact c), Nat.mul_comm (F s)]
      exact pick2_pick L _ h
theorem cR_stops (h : House) (T : List Nat) (o k : Nat) (l : List Piece) (i j : Nat) : cR h T o (.hole k :: l) i j = ((stops i j).map fun s => cnt h T (fits h o k) i s * cR h T o l s j).sum := by
  rw [cR_hole]
  unfold stops
  rw [List.map_map]
  rfl
/-- what a piece is found to be -/
theorem pieceOf_ok {h : House} {T : List Nat} {o k i j n : Nat} {l : List Piece} (hn : n < cR h T o (.hole k :: l) i j) : ∃ s m, pick ((stops i j).map fun s => (s, cnt h T (fits h o k) i s * cR h T o l s j)) n = some (s, m) ∧ i < s ∧ s ≤ j ∧ m < cnt h T (fits h o k) i s * cR h T o l s j ∧ pieceOf h T o k l i j n = (s, cR h T o l s j, m) := by
  rw [cR_stops] at hn
  obtain ⟨s, m, h1, h2, h3⟩ := pick_some (w := fun s => cnt h T (fits h o k) i s * cR h T o l s j) _ n hn
  have h2' : s ∈ (List.range (j - i)).map fun d => i + d + 1 := h2
  obtain ⟨d, hd, rfl⟩ := List.mem_map.mp h2'
  have hd' := List.mem_range.mp hd
  exact ⟨_, m, h1, by omega, by omega, h3, pick2_pick (F := fun s => cR h T o l s j) (A := fun s => cnt h T (fits h o k) i s) _ n h1⟩
theorem div_mod_lt {m a b : Nat} (h : m < a * b) : m / b < a ∧ m % b < b := by
  have hb : 0 < b := Nat.pos_of_ne_zero fun e => by rw [e, Nat.mul_zero] at h; exact Nat.not_lt_zero _ h
  exact ⟨(Nat.div_lt_iff_lt_mul hb).mpr h, Nat.mod_lt _ hb⟩

/-- a house with its table -/
structure Tab (g : House) : Prop where
  ok : Ok g
  right : ∀ a b, a < b → b ≤ g.text.length → Right g g.table a b
/-- what is due of a part: its list, that it's made, its weight -/
def Due (g : House) (d : Nat) (r : List Nat) (e : Ex) : Prop := r = row e ∧ g.made e = true ∧ wt e ≤ d
theorem things_ok {g : House} (B : Tab g) {o D : Nat} (ho : o < g.ops.length) {rd : Nat → Nat → Nat → Nat → List Nat} {ex : Nat → Nat → Nat → Nat → Nat → Ex}
    (IH : ∀ k i j n, i < j → j ≤ g.text.length → j - i < D → n < cnt g g.text (fits g o k) i j → Due g (j - i) (rd k i j n) (ex o k i j n)) :
    ∀ (l : List Piece) (i j n : Nat), (∀ k, Piece.hole k ∈ l → k < holesAt g o) → i ≤ j → j ≤ g.text.length → j - i ≤ D → (hasWord l = true ∨ j - i < D) → n < cR g g.text o l i j →
      opL g g.text rd o l i j n = rowAll (g.thingsAt ex o l i j n) ∧ (g.thingsAt ex o l i j n).length = hc l ∧ g.madeAll (g.thingsAt ex o l i j n) = true ∧ wtAll (g.thingsAt ex o l i j n) + wc l ≤ j - i
  | [], i, j, n, _, _, _, _, _, hn => by
    simp [opL, House.thingsAt, rowAll, House.madeAll, hc, wtAll, wc]
  | [.word w], i, j, n, _, _, _, _, _, hn => by
    have : i < j := by
      rw [cR_word] at hn
      split at hn
      · rename_i c; exact c.1
      · omega
    simp [opL, House.thingsAt, rowAll, House.madeAll, hc, wtAll, wc]
    omega
  | [.hole k], i, j, n, hk, hij, hj, hD, hw, hn => by
    obtain ⟨s, m, h1, h2, h3, h4, h5⟩ := pieceOf_ok hn
    have hs : s = j := by
      rw [cR_nil] at h4
      split at h4
      · assumption
      · simp at h4
    subst hs
    have e1 : cR g g.text o [] s s = 1 := by rw [cR_nil, if_pos rfl]
    have hm : m = n := by
      have z := pick_some (w := fun s' => cnt g g.text (fits g o k) i s' * cR g g.text o [] s' s) (stops i s) n (by rw [← cR_stops]; exact hn)
      have gen : ∀ (L : List Nat) (n' : Nat) {x m' : Nat}, pick (L.map fun s' => (s', cnt g g.text (fits g o k) i s' * cR g g.text o [] s' s)) n' = some (x, m') → (∀ y ∈ L.dropLast, y ≠ s) → x = s → (∀ y ∈ L, y ≠ s → cR g g.text o [] y s = 0) → m' = n' := by
        intro L
        induction L with
        | nil => intro n' x m' h; simp [pick] at h
        | cons y L ih =>
          intro n' x m' h hd hx hz
          rw [List.map_cons] at h
          unfold pick at h
          split at h
          · cases h; rfl
          · rename_i c
            have hy : y ≠ s := by
              cases L with
              | nil => simp [pick] at h
              | cons z L => exact hd y (by simp)
            have e0 := hz y (List.mem_cons_self ..) hy
            rw [e0, Nat.mul_zero, Nat.sub_zero] at h
            refine ih n' h (fun z hz' => hd z ?_) hx fun z hz' => hz z (List.mem_cons_of_mem _ hz')
            cases L with
            | nil => simp at hz'
            | cons z2 L => rw [List.dropLast_cons₂]; exact List.mem_cons_of_mem _ hz'
      refine gen (stops i s) n h1 ?_ rfl ?_
      · intro y hy
        have : stops i s = (stops i (s - 1)) ++ [s] := by
          unfold stops
          rw [show s - i = (s - 1 - i) + 1 by omega, List.range_succ, List.map_append]
          simp
          omega
        rw [this, List.dropLast_concat] at hy
        unfold stops at hy
        obtain ⟨d, hd, rfl⟩ := List.mem_map.mp hy
        have := List.mem_range.mp hd
        omega
      · intro y hy hne
        rw [cR_nil, if_neg hne]
    subst hm
    rw [e1, Nat.mul_one] at h4
    have := IH k i s m h2 hj (hw.elim (fun z => Bool.noConfusion z) fun z => z) h4
    obtain ⟨r1, r2, r3⟩ := this
    unfold opL
    rw [h5]
    simp only [e1, Nat.div_one, House.thingsAt, rowAll, House.madeAll, hc, wtAll, wc, opL, List.append_nil, r1, r2, List.length_cons, List.length_nil]
    refine ⟨?_, ?_, ?_, ?_⟩ <;> first | trivial | rfl | omega
  | .word w :: p :: l, i, j, n, hk, hij, hj, hD, hw, hn => by
    rw [cR_word] at hn
    split at hn
    case isFalse => omega
    rename_i c
    obtain ⟨c1, c2⟩ := c
    have en := ends_ok B.ok ho hij (fun a b _ h1 h2 _ => B.right a b h1 (by omega)) (p :: l) fun k m => hk k (List.mem_cons_of_mem _ m)
    have e1 := en.2 1 (by omega) (.inl (by omega))
    have ih := things_ok B ho IH (p :: l) (i + 1) j n (fun k m => hk k (List.mem_cons_of_mem _ m)) (by omega) hj (by omega) (.inr (by omega)) hn
    have ep : pick ((List.range (j - i)).map fun d => (i + d + 1, g.piece g.table o (.word w) i (i + d + 1) * (g.ends g.table (g.slot o) i j (p :: l)).getD (d + 1) 0)) n = some (i + 1, n) := by
      rw [show j - i = (j - i - 1) + 1 by omega, List.range_succ_eq_map, List.map_cons]
      unfold pick
      have : g.piece g.table o (.word w) i (i + 0 + 1) = 1 := by
        unfold House.piece
        simp only []
        rw [if_pos ⟨trivial, c2⟩]
      rw [if_pos]
      simp only [this, Nat.one_mul]
      rw [show 0 + 1 = 1 from rfl, e1]
      exact hn
    unfold House.thingsAt opL
    simp only [ep]
    rw [show i + 1 - i = 1 by omega, e1, Nat.mod_eq_of_lt hn]
    simp only [List.nil_append, hc, wc]
    refine ⟨ih.1, ih.2.1, ih.2.2.1, ?_⟩
    have := ih.2.2.2
    omega
  | .hole k :: p :: l, i, j, n, hk, hij, hj, hD, hw, hn => by
    obtain ⟨s, m, h1, h2, h3, h4, h5⟩ := pieceOf_ok hn
    have en := ends_ok B.ok ho hij (fun a b _ h1 h2 _ => B.right a b h1 (by omega)) (p :: l) fun k m => hk k (List.mem_cons_of_mem _ m)
    have lt := mul_nz (a := cnt g g.text (fits g o k) i s) (b := cR g g.text o (p :: l) s j) (by omega)
    have lt2 := rows_len _ _ _ lt.2
    simp only [List.length_cons] at lt2
    have dm := div_mod_lt h4
    have r := IH k i s (m / cR g g.text o (p :: l) s j) h2 (by omega) (by omega) dm.1
    have ih := things_ok B ho IH (p :: l) s j (m % cR g g.text o (p :: l) s j) (fun k m => hk k (List.mem_cons_of_mem _ m)) (by omega) hj (by omega) (.inr (by omega)) dm.2
    have ep : pick ((List.range (j - i)).map fun d => (i + d + 1, g.piece g.table o (.hole k) i (i + d + 1) * (g.ends g.table (g.slot o) i j (p :: l)).getD (d + 1) 0)) n = some (s, m) := by
      rw [← h1]
      unfold stops
      rw [List.map_map]
      congr 1
      refine List.map_congr_left fun d hd => ?_
      have hd' := List.mem_range.mp hd
      have q := en.2 (d + 1) (by omega) (.inl (by omega))
      rw [q]
      show (i + d + 1, _) = (i + d + 1, _)
      unfold House.piece House.thing
      simp only []
      rw [if_pos (by omega), look_slot B.ok (B.right i (i + d + 1) (by omega) (by omega)) ho (hk k (List.mem_cons_self ..)), show i + (d + 1) = i + d + 1 by omega]
    have e1 := en.2 (s - i) (by omega) (.inl (by omega))
    rw [show i + (s - i) = s by omega] at e1
    unfold House.thingsAt opL
    simp only [ep, e1, h5]
    obtain ⟨r1, r2, r3⟩ := r
    obtain ⟨i1, i2, i3, i4⟩ := ih
    refine ⟨?_, ?_, ?_, ?_⟩
    · rw [r1, i1]
      simp [rowAll]
    · simp [hc, i2]
    · simp [House.madeAll, r2, i3]
    · simp [wtAll, wc]
      omega
end Wo
end
section
set_option linter.all false
set_option Elab.async false
namespace Wo
open Sq15
theorem kinds_filter {h : House} {p : Option Nat → Bool} (pn : p none = true) : (List.range h.kinds).filter (fun x => p (h.topOf x)) = (List.range h.ops.length).filter (fun q => p (some q)) ++ [h.ops.length, h.ops.length + 1] := by
  unfold House.kinds
  rw [range_two, List.filter_append]
  congr 1
  · refine List.filter_congr fun x hx => ?_
    unfold House.topOf
    rw [if_pos (List.mem_range.mp hx)]
  · have e1 : h.topOf h.ops.length = none := by unfold House.topOf; rw [if_neg (by omega)]
    have e2 : h.topOf (h.ops.length + 1) = none := by unfold House.topOf; rw [if_neg (by omega)]
    simp [List.filter_cons, e1, e2, pn]
theorem rdS_ok {h : House} {T : List Nat} {brd : Nat → List Nat} {opr : Nat → Nat → List Nat} {i j : Nat} : ∀ (S : List Nat) (n : Nat), (∀ o ∈ S, o < h.ops.length) → n < (S.map fun o => cR h T o (h.pieces o) i j).sum + atomAt h T i j + brkAt h T i j →
    ∃ x m, pick ((S ++ [h.ops.length, h.ops.length + 1]).map fun x => (x, val h T x i j)) n = some (x, m) ∧
      ((x ∈ S ∧ m < cR h T x (h.pieces x) i j ∧ rdS h T brd opr i j S n = (64 + x) :: opr x m) ∨ (x = h.ops.length ∧ m < atomAt h T i j ∧ rdS h T brd opr i j S n = [T.getD i 0]) ∨ (x = h.ops.length + 1 ∧ m < brkAt h T i j ∧ rdS h T brd opr i j S n = 128 :: brd m))
  | [], n, _, hn => by
    rw [List.map_nil, List.sum_nil, Nat.zero_add] at hn
    rw [List.nil_append, List.map_cons, List.map_cons, List.map_nil, val_atom, val_brk]
    unfold rdS
    simp only [pick]
    by_cases c : n < atomAt h T i j
    · rw [if_pos c, if_pos c]
      exact ⟨_, _, rfl, .inr (.inl ⟨rfl, c, rfl⟩)⟩
    · rw [if_neg c, if_neg c, if_pos (by omega)]
      exact ⟨_, _, rfl, .inr (.inr ⟨rfl, by omega, rfl⟩)⟩
  | o :: S, n, ho, hn => by
    rw [List.map_cons, List.sum_cons] at hn
    rw [List.cons_append, List.map_cons, val_op (ho o (List.mem_cons_self ..))]
    unfold rdS
    simp only [pick]
    by_cases c : n < cR h T o (h.pieces o) i j
    · rw [if_pos c, if_pos c]
      exact ⟨_, _, rfl, .inl ⟨List.mem_cons_self .., c, rfl⟩⟩
    · rw [if_neg c, if_neg c]
      obtain ⟨x, m, h1, h2⟩ := rdS_ok (h := h) (T := T) (brd := brd) (opr := opr) (i := i) (j := j) S (n - cR h T o (h.pieces o) i j) (fun y hy => ho y (List.mem_cons_of_mem _ hy)) (by omega)
      exact ⟨x, m, h1, h2.imp (fun z => ⟨List.mem_cons_of_mem _ z.1, z.2⟩) fun z => z⟩
theorem exAt_ok {g : House} (B : Tab g) : ∀ (f : Nat) (p : Option Nat → Bool) (i j n : Nat), p none = true → i < j → j ≤ g.text.length → j - i < f → n < cnt g g.text ((List.range g.ops.length).filter fun q => p (some q)) i j →
    Due g (j - i) (rdF g g.text f ((List.range g.ops.length).filter fun q => p (some q)) i j n) (g.exAt f p i j n)
  | 0, _, _, _, _, _, _, _, hf, _ => absurd hf (Nat.not_lt_zero _)
  | f + 1, p, i, j, n, pn, hij, hj, hf, hn => by
    rw [cnt_eq B.ok] at hn
    obtain ⟨x, m, h1, h2⟩ := rdS_ok (h := g) (T := g.text) (brd := fun m => rdF g g.text f (List.range g.ops.length) (i + 1) (j - 1) m)
      (opr := fun o m => opL g g.text (fun k a b c => rdF g g.text f (fits g o k) a b c) o (g.pieces o) i j m) (i := i) (j := j) _ n (fun o ho => List.mem_range.mp (List.mem_filter.mp ho).1) hn
    have ep : pick ((List.range g.kinds).map fun x => (x, if p (g.topOf x) = true then look g.table (g.cell i j) x else 0)) n = some (x, m) := by
      rw [pick_filter (q := fun x => p (g.topOf x)) (w := fun x => look g.table (g.cell i j) x), kinds_filter pn, ← h1]
      refine pick_congr _ n fun y hy => look_val (B.right i j hij hj) ?_
      rw [← kinds_filter pn] at hy
      exact List.mem_range.mp (List.mem_filter.mp hy).1
    have er : rdF g g.text (f + 1) ((List.range g.ops.length).filter fun q => p (some q)) i j n = rdS g g.text (fun m => rdF g g.text f (List.range g.ops.length) (i + 1) (j - 1) m) (fun o m => opL g g.text (fun k a b c => rdF g g.text f (fits g o k) a b c) o (g.pieces o) i j m) i j ((List.range g.ops.length).filter fun q => p (some q)) n := rfl
    rw [er]
    unfold House.exAt
    simp only [ep]
    rcases h2 with ⟨hx, hm, e⟩ | ⟨hx, hm, e⟩ | ⟨hx, hm, e⟩
    · have hx' := List.mem_range.mp (List.mem_filter.mp hx).1
      rw [if_pos hx', e]
      have hw : hasWord (g.pieces x) = true := by
        have q := List.getElem?_eq_getElem hx'
        rw [pieces_of q]
        exact pieces_word (B.ok.op_at q).some_
      have t := things_ok B hx' (D := f) (rd := fun k a b c => rdF g g.text f (fits g x k) a b c) (ex := fun o k => g.exAt f (g.may o k))
        (fun k a b c h1 h2 h3 h4 => ?_) (g.pieces x) i j m (fun k q => B.ok.hole q) (Nat.le_of_lt hij) hj (by omega) (.inl hw) hm
      · obtain ⟨t1, t2, t3, t4⟩ := t
        have w1 := wc_pos hw
        refine ⟨?_, ?_, ?_⟩
        · simp only [t1, row]
        · unfold House.made
          have q := List.getElem?_eq_getElem hx'
          rw [q]
          simp only []
          rw [t3, t2, pieces_of q, pieces_hc (B.ok.op_at q).some_]
          simp
        · unfold wt
          omega
      · exact exAt_ok B f (g.may x k) a b c rfl h1 h2 h3 h4
    · rw [if_neg (by omega), if_pos hx, e]
      have q := atom_at B.ok (T := g.text) (i := i) (j := j) (by omega)
      obtain ⟨_, w, q1, q2, q3⟩ := q
      refine ⟨?_, ?_, ?_⟩
      · rw [List.getD_eq_getElem?_getD]
        rfl
      · unfold House.made
        rw [q1]
        exact List.contains_iff_mem.mpr q2
      · unfold wt
        omega
    · rw [if_neg (by omega), if_neg (by omega), e]
      unfold brkAt at hm
      by_cases c : isBr g.text i j
      · rw [if_pos c] at hm
        have c1 := c.1
        have fr : (List.range g.ops.length).filter (fun _ => true) = List.range g.ops.length := List.filter_eq_self.mpr fun _ _ => rfl
        have r := exAt_ok B f (fun _ => true) (i + 1) (j - 1) m rfl (by omega) (by omega) (by omega) (by rw [fr]; exact hm)
        rw [fr] at r
        obtain ⟨r1, r2, r3⟩ := r
        refine ⟨?_, ?_, ?_⟩
        · simp only [r1, row]
        · unfold House.made
          exact r2
        · unfold wt
          omega
      · rw [if_neg c] at hm
        exact absurd hm (Nat.not_lt_zero _)

theorem Tab.with_ {h : House} (K : Ok h) (l : List Nat) : Tab (h.with_ l) :=
  ⟨by rw [with_eq]; exact K.text _ _, fun a b h1 h2 => with_right K h1 h2⟩
theorem Tab.count {g : House} (B : Tab g) (ht : g.text ≠ []) : g.count = cnt g g.text (List.range g.ops.length) 0 g.text.length := by
  unfold House.count
  rw [if_neg ht]
  unfold House.any
  have e : ((List.range g.kinds).map fun x => look g.table (g.cell 0 g.text.length) x) = (List.range g.kinds).map fun x => val g g.text x 0 g.text.length :=
    List.map_congr_left fun x hx => look_val (B.right 0 g.text.length (List.length_pos_iff.mpr ht) (Nat.le_refl _)) (List.mem_range.mp hx)
  rw [e, sum_vals B.ok]
/-- the k-th reading -/
theorem Tab.reading {g : House} (B : Tab g) (ht : g.text ≠ []) {k : Nat} (hk : k < g.count) :
    ∃ e, g.reading k = some e ∧ Due g g.text.length (rdF g g.text (g.text.length + 1) (List.range g.ops.length) 0 g.text.length k) e := by
  unfold House.reading
  rw [if_pos hk]
  have fr : (List.range g.ops.length).filter (fun _ => true) = List.range g.ops.length := List.filter_eq_self.mpr fun _ _ => rfl
  have q := exAt_ok B (g.text.length + 1) (fun _ => true) 0 g.text.length k rfl (List.length_pos_iff.mpr ht) (Nat.le_refl _) (by omega) (by rw [fr, ← B.count ht]; exact hk)
  rw [fr] at q
  exact ⟨_, rfl, q⟩
theorem Tab.reading_none {g : House} {k : Nat} (hk : ¬ k < g.count) : g.reading k = none := by
  unfold House.reading
  rw [if_neg hk]
end Wo
end
section
set_option linter.all false
set_option Elab.async false
namespace Wo
open Sq15
/-! ### no two things side by side in an operator -/
def altB : List Piece → Bool
  | [] => true
  | .word _ :: l => altB l
  | [.hole _] => true
  | .hole _ :: .word _ :: l => altB l
  | .hole _ :: .hole _ :: _ => false
theorem altB_hole {k w : Nat} {l : List Piece} : altB (.hole k :: .word w :: l) = altB l := rfl
theorem between_head : ∀ (k w : Nat) (l : List Nat) (r : List Piece), ∃ t, between k (w :: l) ++ r = .word w :: t
  | _, _, [], r => ⟨r, rfl⟩
  | _, _, _ :: _, _ => ⟨_, rfl⟩
theorem between_alt : ∀ (k : Nat) (l : List Nat) (r : List Piece), l ≠ [] → (r = [] ∨ ∃ m, r = [.hole m]) → altB (between k l ++ r) = true
  | _, [], _, h, _ => absurd rfl h
  | _, [w], r, _, h => by
    rcases h with rfl | ⟨m, rfl⟩ <;> rfl
  | k, w :: y :: l, r, _, h => by
    have ih := between_alt (k + 1) (y :: l) r (by simp) h
    obtain ⟨t, e⟩ := between_head (k + 1) y l r
    show altB (.word w :: .hole k :: (between (k + 1) (y :: l) ++ r)) = true
    rw [e] at ih ⊢
    exact ih
theorem pieces_alt {x : Op} (h : x.names ≠ []) : altB x.pieces = true := by
  unfold Op.pieces
  have e : ∀ r, (r = [] ∨ ∃ m, r = [.hole m]) → altB ((if x.before = true then [.hole 0] else []) ++ (between (if x.before = true then 1 else 0) x.names ++ r)) = true := fun r hr => by
    have q := between_alt (if x.before = true then 1 else 0) x.names r h hr
    split
    · rename_i c
      rw [if_pos c] at q
      cases en : x.names with
      | nil => exact absurd en h
      | cons w l =>
        rw [en] at q
        obtain ⟨t, e⟩ := between_head 1 w l r
        rw [e] at q ⊢
        exact q
    · rename_i c
      rw [if_neg c] at q
      exact q
  refine e _ ?_
  split
  · exact .inr ⟨_, rfl⟩
  · exact .inl rfl
theorem altB_tail : ∀ {p : Piece} {l : List Piece}, altB (p :: l) = true → altB l = true
  | .word _, _, h => h
  | .hole _, [], _ => rfl
  | .hole _, .word _ :: _, h => h
  | .hole _, .hole _ :: _, h => Bool.noConfusion h
theorem altB_drop : ∀ (s : Nat) {l : List Piece}, altB l = true → altB (l.drop s) = true
  | 0, _, h => h
  | _ + 1, [], _ => rfl
  | s + 1, _ :: l, h => altB_drop s (altB_tail h)
theorem altB_word {k : Nat} {l : List Piece} (h : altB (.hole k :: l) = true) (hl : l ≠ []) : hasWord l = true := by
  cases l with
  | nil => exact absurd rfl hl
  | cons p l =>
    cases p with
    | word w => rfl
    | hole m => exact Bool.noConfusion h
theorem between_len : ∀ (k : Nat) (l : List Nat), (between k l).length ≤ 2 * l.length
  | _, [] => Nat.le_refl _
  | _, [_] => by simp [between]
  | k, _ :: y :: l => by
    have := between_len (k + 1) (y :: l)
    unfold between
    simp only [List.length_cons] at *
    omega
theorem pieces_len {x : Op} (h : x.names.length ≤ 6) : x.pieces.length ≤ 14 := by
  unfold Op.pieces
  have a := between_len 1 x.names
  have b := between_len 0 x.names
  simp only [List.length_append]
  split <;> split <;> simp only [List.length_cons, List.length_nil] at * <;> omega
theorem sum_snoc (f : Nat → Nat) (n : Nat) : ((List.range (n + 1)).map f).sum = ((List.range n).map f).sum + f n := by
  rw [List.range_succ, List.map_append, List.sum_append]
  simp
theorem cR_hole_more {h : House} {T : List Nat} {o k : Nat} {l : List Piece} {b e : Nat} (hl : l ≠ []) (hbe : b < e) : cR h T o (.hole k :: l) b e = ((List.range (e - b - 1)).map fun d => cnt h T (fits h o k) b (b + d + 1) * cR h T o l (b + d + 1) e).sum := by
  rw [cR_hole, show e - b = (e - b - 1) + 1 by omega, sum_snoc]
  have hp : 0 < l.length := List.length_pos_iff.mpr hl
  rw [cR_short (l := l) (i := b + (e - b - 1) + 1) (j := e) (by omega), Nat.mul_zero, Nat.add_zero]
  rfl
theorem cR_hole_last {h : House} {T : List Nat} {o k : Nat} {b e : Nat} (hbe : b < e) : cR h T o [.hole k] b e = cnt h T (fits h o k) b e := by
  rw [cR_hole, show e - b = (e - b - 1) + 1 by omega, sum_snoc]
  rw [sum_zero _ fun x hx => ?_]
  · rw [cR_nil, if_pos (by omega), Nat.zero_add, Nat.mul_one, show b + (e - b - 1) + 1 = e by omega]
  · obtain ⟨d, hd, rfl⟩ := List.mem_map.mp hx
    have := List.mem_range.mp hd
    rw [cR_nil, if_neg (by omega), Nat.mul_zero]
theorem drop_at {l : List Piece} {s : Nat} {p : Piece} (h : l[s]? = some p) : l.drop s = p :: l.drop (s + 1) := by
  obtain ⟨lt, rfl⟩ := List.getElem?_eq_some_iff.mp h
  exact List.drop_eq_getElem_cons lt
end Wo
end
section
set_option linter.all false
set_option Elab.async false
namespace Wo
open Sq15
/-! ### at which pieces the things stand -/
def spotsF : Nat → List Piece → List Nat
  | _, [] => []
  | n, .word _ :: l => spotsF (n + 1) l
  | n, .hole _ :: l => n :: spotsF (n + 1) l
/-- the things are numbered from m -/
def numd : Nat → List Piece → Prop
  | _, [] => True
  | m, .word _ :: l => numd m l
  | m, .hole k :: l => k = m ∧ numd (m + 1) l
theorem numd_append : ∀ (m : Nat) (a b : List Piece), numd m a → numd (m + hc a) b → numd m (a ++ b)
  | _, [], _, _, h => by simpa [hc] using h
  | m, .word _ :: a, b, h1, h2 => numd_append m a b h1 h2
  | m, .hole k :: a, b, h1, h2 => ⟨h1.1, numd_append (m + 1) a b h1.2 (by simp only [hc] at h2; rw [show m + 1 + hc a = m + (hc a + 1) by omega]; exact h2)⟩
theorem between_numd : ∀ (k : Nat) (l : List Nat), numd k (between k l)
  | _, [] => trivial
  | _, [_] => trivial
  | k, _ :: y :: l => ⟨rfl, between_numd (k + 1) (y :: l)⟩
theorem pieces_numd {x : Op} (h : x.names ≠ []) : numd 0 x.pieces := by
  unfold Op.pieces
  have lp : 0 < x.names.length := List.length_pos_iff.mpr h
  by_cases c : x.before = true
  · have hb := between_hc 1 x.names h
    simp only [if_pos c]
    refine numd_append _ _ _ ⟨rfl, trivial⟩ (numd_append _ _ _ (between_numd 1 x.names) ?_)
    by_cases d : x.behind = true
    · rw [if_pos d]
      refine ⟨?_, trivial⟩
      rw [hb]
      simp [hc]
      omega
    · rw [if_neg d]
      trivial
  · have hb := between_hc 0 x.names h
    simp only [if_neg c]
    refine numd_append _ _ _ trivial (numd_append _ _ _ (between_numd 0 x.names) ?_)
    by_cases d : x.behind = true
    · rw [if_pos d]
      refine ⟨?_, trivial⟩
      rw [hb]
      simp [hc]
    · rw [if_neg d]
      trivial
theorem spotsF_len : ∀ (n : Nat) (l : List Piece), (spotsF n l).length = hc l
  | _, [] => rfl
  | n, .word _ :: l => spotsF_len (n + 1) l
  | n, .hole _ :: l => by simp only [spotsF, hc, List.length_cons, spotsF_len (n + 1) l]
theorem spot_of : ∀ (n m : Nat) (l : List Piece) (j : Nat), numd m l → j < hc l → ∃ i, (spotsF n l)[j]? = some (n + i) ∧ l[i]? = some (.hole (m + j))
  | _, _, [], _, _, h => absurd h (Nat.not_lt_zero _)
  | n, m, .word _ :: l, j, h1, h2 => by
    obtain ⟨i, e1, e2⟩ := spot_of (n + 1) m l j h1 h2
    exact ⟨i + 1, by rw [show n + (i + 1) = n + 1 + i by omega]; exact e1, by simpa using e2⟩
  | n, m, .hole k :: l, 0, h1, h2 => ⟨0, rfl, by rw [h1.1]; rfl⟩
  | n, m, .hole k :: l, j + 1, h1, h2 => by
    obtain ⟨i, e1, e2⟩ := spot_of (n + 1) (m + 1) l j h1.2 (by simpa [hc] using h2)
    exact ⟨i + 1, by rw [show n + (i + 1) = n + 1 + i by omega]; exact e1, by rw [show m + (j + 1) = m + 1 + j by omega]; simpa using e2⟩
theorem of_spot : ∀ (n m : Nat) (l : List Piece) (i k : Nat), numd m l → l[i]? = some (.hole k) → m ≤ k ∧ k - m < hc l ∧ (spotsF n l)[k - m]? = some (n + i)
  | _, _, [], _, _, _, h => by simp at h
  | n, m, .word _ :: l, 0, k, h1, h2 => by simp at h2
  | n, m, .word _ :: l, i + 1, k, h1, h2 => by
    obtain ⟨a, b, c⟩ := of_spot (n + 1) m l i k h1 (by simpa using h2)
    exact ⟨a, b, by rw [show n + (i + 1) = n + 1 + i by omega]; exact c⟩
  | n, m, .hole j :: l, 0, k, h1, h2 => by
    have e : j = k := by simpa using h2
    have e2 := h1.1
    obtain rfl : k = m := by omega
    exact ⟨Nat.le_refl _, by simp [hc], by simp [spotsF]⟩
  | n, m, .hole j :: l, i + 1, k, h1, h2 => by
    obtain ⟨a, b, c⟩ := of_spot (n + 1) (m + 1) l i k h1.2 (by simpa using h2)
    refine ⟨by omega, by simp only [hc]; omega, ?_⟩
    rw [show k - m = (k - (m + 1)) + 1 by omega, show n + (i + 1) = n + 1 + i by omega]
    exact c
theorem between_last : ∀ (k : Nat) (l : List Nat), l ≠ [] → ∃ t w, between k l = t ++ [.word w]
  | _, [], h => absurd rfl h
  | _, [w], _ => ⟨[], w, rfl⟩
  | k, x :: y :: l, _ => by
    obtain ⟨t, w, e⟩ := between_last (k + 1) (y :: l) (by simp)
    exact ⟨.word x :: .hole k :: t, w, by show _ :: _ :: between (k + 1) (y :: l) = _; rw [e]; rfl⟩
theorem between_len_eq : ∀ (k : Nat) (l : List Nat), l ≠ [] → 1 ≤ (between k l).length
  | _, [], h => absurd rfl h
  | _, [w], _ => Nat.le_refl 1
  | k, x :: y :: l, _ => by simp [between]
/-- where a thing stands -/
theorem spot_ok {x : Op} (hn : x.names ≠ []) {k : Nat} (hk : k < x.holes) : ∃ s, (spotsF 0 x.pieces)[k]? = some s ∧ x.pieces[s]? = some (.hole k) ∧ s < x.pieces.length ∧ 2 ≤ x.pieces.length ∧
    (s = 0 ↔ (x.before && k == 0) = true) ∧ (s = x.pieces.length - 1 ↔ (x.behind && k == x.holes - 1) = true) := by
  have nd := pieces_numd hn
  obtain ⟨i, e1, e2⟩ := spot_of 0 0 x.pieces k nd (by rw [pieces_hc hn]; exact hk)
  rw [Nat.zero_add] at e1 e2
  obtain ⟨lt, _⟩ := List.getElem?_eq_some_iff.mp e2
  have lp : 0 < x.names.length := List.length_pos_iff.mpr hn
  have le1 := fun k => between_len_eq k x.names hn
  -- the first piece
  have first : x.pieces[0]? = some (.hole k) ↔ (x.before && k == 0) = true := by
    unfold Op.pieces
    cases c : x.before with
    | true =>
      simp only [if_true, List.cons_append, List.nil_append, List.getElem?_cons_zero, Bool.true_and]
      constructor
      · intro h
        have : 0 = k := by simpa using h
        simp [this]
      · intro h
        have : k = 0 := by simpa using h
        rw [this]
    | false =>
      cases en : x.names with
      | nil => exact absurd en hn
      | cons w l =>
        obtain ⟨t, e⟩ := between_head 0 w l (if x.behind = true then [.hole (0 + (w :: l).length - 1)] else [])
        simp only [if_neg Bool.false_ne_true, List.nil_append]
        rw [e]
        simp
  have last : x.pieces[x.pieces.length - 1]? = some (.hole k) ↔ (x.behind && k == x.holes - 1) = true := by
    rw [← List.getLast?_eq_getElem?]
    unfold Op.pieces
    cases c : x.behind with
    | true =>
      simp only [if_true, ← List.append_assoc, List.getLast?_concat, Bool.true_and]
      have eh : x.holes - 1 = (if x.before = true then 1 else 0) + x.names.length - 1 := by
        unfold Op.holes
        rw [c]
        simp only [if_true]
        omega
      rw [eh]
      constructor
      · intro h
        have : (if x.before = true then 1 else 0) + x.names.length - 1 = k := by simpa using h
        simp [this]
      · intro h
        have : k = (if x.before = true then 1 else 0) + x.names.length - 1 := by simpa using h
        rw [this]
    | false =>
      obtain ⟨t, w, e⟩ := between_last (if x.before = true then 1 else 0) x.names hn
      simp only [if_neg Bool.false_ne_true, List.append_nil]
      rw [e, ← List.append_assoc, List.getLast?_concat]
      simp
  have uniq : ∀ j, x.pieces[j]? = some (.hole k) → j = i := fun j h => by
    have q := (of_spot 0 0 x.pieces j k nd h).2.2
    rw [Nat.sub_zero, Nat.zero_add, e1] at q
    exact (Option.some.inj q).symm
  have len2 : 2 ≤ x.pieces.length := by
    rcases Nat.lt_or_ge x.pieces.length 2 with z | z
    · have w := pieces_word hn
      cases ep : x.pieces with
      | nil => rw [ep] at lt; simp at lt
      | cons p l =>
        rw [ep] at z w e2
        cases l with
        | cons a b => simp only [List.length_cons]; omega
        | nil =>
          cases i with
          | succ i => simp at e2
          | zero =>
            have : p = .hole k := by simpa using e2
            rw [this] at w
            exact Bool.noConfusion w
    · exact z
  refine ⟨i, e1, e2, lt, len2, ⟨fun z => first.mp (by rw [← z]; exact e2), fun z => (uniq 0 (first.mpr z)).symm⟩, ⟨fun z => last.mp (by rw [← z]; exact e2), fun z => (uniq _ (last.mpr z)).symm⟩⟩
/-- the program's test of a spot is the specification's of a thing -/
theorem may_spot {h : House} {o q k : Nat} {x y : Op} (hx : h.ops[o]? = some x) (hy : h.ops[q]? = some y) {s : Nat} (len2 : 2 ≤ x.pieces.length) (l0 : s = 0 ↔ (x.before && k == 0) = true) (l1 : s = x.pieces.length - 1 ↔ (x.behind && k == x.holes - 1) = true) (lt : s < x.pieces.length) :
    h.may o k (some q) = if (0 < s ∧ s < x.pieces.length - 1) ∨ y.fix = 0 then true else if h.tighter.contains (x.group, y.group) = true then true else
      (x.group == y.group && (if s = 0 then (x.fix == 2 || x.fix == 4) && (y.fix == 2 || y.fix == 4) else (x.fix == 1 || x.fix == 5) && (y.fix == 1 || y.fix == 5))) := by
  unfold House.may
  simp only [hx, hy]
  by_cases a : s = 0
  · have b : ¬ s = x.pieces.length - 1 := by omega
    have ea := l0.mp a
    have eb : (x.behind && k == x.holes - 1) = false := Bool.eq_false_iff.mpr fun z => b (l1.mpr z)
    rw [ea, eb]
    by_cases f : y.fix = 0
    · rw [if_pos (Or.inr f)]
      simp [f]
    · rw [if_neg (show ¬ ((0 < s ∧ s < x.pieces.length - 1) ∨ y.fix = 0) by omega), if_pos a]
      simp [f]
  · by_cases b : s = x.pieces.length - 1
    · have ea : (x.before && k == 0) = false := Bool.eq_false_iff.mpr fun z => a (l0.mpr z)
      have eb := l1.mp b
      rw [ea, eb]
      by_cases f : y.fix = 0
      · rw [if_pos (Or.inr f)]
        simp [f]
      · rw [if_neg (show ¬ ((0 < s ∧ s < x.pieces.length - 1) ∨ y.fix = 0) by omega), if_neg a]
        simp [f]
    · have ea : (x.before && k == 0) = false := Bool.eq_false_iff.mpr fun z => a (l0.mpr z)
      have eb : (x.behind && k == x.holes - 1) = false := Bool.eq_false_iff.mpr fun z => b (l1.mpr z)
      rw [ea, eb, if_pos (Or.inl ⟨by omega, by omega⟩)]
      simp
end Wo
end
section
set_option linter.all false
set_option Elab.async false
namespace Wo
open Sq15
theorem opL_len {h : House} {T : List Nat} {o D : Nat} {rd : Nat → Nat → Nat → Nat → List Nat} (IH : ∀ k i j n, i < j → j - i < D → n < cnt h T (fits h o k) i j → (rd k i j n).length ≤ j - i) :
    ∀ (l : List Piece) (i j n : Nat), i ≤ j → j - i ≤ D → (hasWord l = true ∨ j - i < D) → n < cR h T o l i j → (opL h T rd o l i j n).length + wc l ≤ j - i
  | [], i, j, n, _, _, _, _ => by simp [opL, wc]
  | .word w :: l, i, j, n, hij, hD, hw, hn => by
    rw [cR_word] at hn
    split at hn
    case isFalse => omega
    rename_i c
    have := opL_len IH l (i + 1) j n (by omega) (by omega) (.inr (by omega)) hn
    simp only [opL, wc]
    omega
  | .hole k :: l, i, j, n, hij, hD, hw, hn => by
    obtain ⟨s, m, h1, h2, h3, h4, h5⟩ := pieceOf_ok hn
    have lt := mul_nz (a := cnt h T (fits h o k) i s) (b := cR h T o l s j) (by omega)
    have lt2 := rows_len _ _ _ lt.2
    have dm := div_mod_lt h4
    have sD : s - i < D := by
      rcases hw with hw | hw
      · have : l ≠ [] := by rintro rfl; exact Bool.noConfusion hw
        have := List.length_pos_iff.mpr this
        omega
      · omega
    have r := IH k i s (m / cR h T o l s j) h2 sD dm.1
    have ih := opL_len IH l s j (m % cR h T o l s j) h3 (by omega) (.inr (by omega)) dm.2
    simp only [opL, wc, h5, List.length_append]
    omega
theorem rdS_len {h : House} {T : List Nat} {brd : Nat → List Nat} {opr : Nat → Nat → List Nat} {i j : Nat} (hb : ∀ m, m < brkAt h T i j → (brd m).length + 1 ≤ j - i) (ho : ∀ o m, m < cR h T o (h.pieces o) i j → (opr o m).length + 1 ≤ j - i) (hij : i < j) :
    ∀ (S : List Nat) (n : Nat), n < (S.map fun o => cR h T o (h.pieces o) i j).sum + atomAt h T i j + brkAt h T i j → (rdS h T brd opr i j S n).length ≤ j - i
  | [], n, hn => by
    rw [List.map_nil, List.sum_nil, Nat.zero_add] at hn
    unfold rdS
    split
    · simp only [List.length_singleton]
      omega
    · simp only [List.length_cons]
      exact hb _ (by omega)
  | o :: S, n, hn => by
    rw [List.map_cons, List.sum_cons] at hn
    unfold rdS
    split
    · rename_i c
      simp only [List.length_cons]
      exact ho o n c
    · exact rdS_len hb ho hij S _ (by omega)
theorem rdF_len {h : House} (K : Ok h) {T : List Nat} : ∀ (f : Nat) (S : List Nat) (i j n : Nat), i < j → j - i < f → n < cnt h T S i j → (rdF h T f S i j n).length ≤ j - i
  | 0, _, _, _, _, _, hf, _ => absurd hf (Nat.not_lt_zero _)
  | f + 1, S, i, j, n, hij, hf, hn => by
    rw [cnt_eq K] at hn
    refine rdS_len (fun m hm => ?_) (fun o m hm => ?_) hij S n hn
    · unfold brkAt at hm
      split at hm
      · rename_i c
        have c1 := c.1
        have := rdF_len K f _ (i + 1) (j - 1) m (by omega) (by omega) hm
        omega
      · omega
    · rcases K.word o with e | e
      · rw [e, cR_nil, if_neg (by omega)] at hm
        omega
      · have := opL_len (D := f) (rd := fun k a b c => rdF h T f (fits h o k) a b c) (fun k a b c h1 h2 h3 => rdF_len K f _ a b c h1 h2 h3) (h.pieces o) i j m (by omega) (by omega) (.inl e) hm
        have w := wc_pos e
        omega
end Wo
end
section
set_option linter.all false
set_option Elab.async false
namespace Wo
open Sq15
/-! ### the pieces of an operator as numbers -/
def pz : Piece → Int
  | .word w => w
  | .hole _ => -1
def bw : List Nat → List Int
  | [] => []
  | [w] => [(w : Int)]
  | w :: y :: l => (w : Int) :: -1 :: bw (y :: l)
theorem between_bw : ∀ (k : Nat) (l : List Nat), (between k l).map pz = bw l
  | _, [] => rfl
  | _, [_] => rfl
  | k, w :: y :: l => by
    have := between_bw (k + 1) (y :: l)
    show pz (.word w) :: pz (.hole k) :: (between (k + 1) (y :: l)).map pz = (w : Int) :: -1 :: bw (y :: l)
    rw [this]
    rfl
theorem bw_snoc : ∀ (l : List Nat) (w : Nat), bw (l ++ [w]) = bw l ++ (if 0 < l.length then [-1] else []) ++ [(w : Int)]
  | [], w => rfl
  | [x], w => rfl
  | x :: y :: l, w => by
    have := bw_snoc (y :: l) w
    show (x : Int) :: -1 :: bw (y :: l ++ [w]) = (x : Int) :: -1 :: bw (y :: l) ++ (if 0 < (x :: y :: l).length then [-1] else []) ++ [(w : Int)]
    rw [this, if_pos (by simp), if_pos (by simp)]
    rfl
theorem pieces_bw (x : Op) : x.pieces.map pz = (if x.before = true then [-1] else []) ++ (bw x.names ++ (if x.behind = true then [-1] else [])) := by
  unfold Op.pieces
  simp only [List.map_append, between_bw]
  congr 1
  · split <;> rfl
  · congr 1
    split <;> rfl
theorem bw_len : ∀ l : List Nat, (bw l).length ≤ 2 * l.length
  | [] => Nat.le_refl _
  | [_] => by simp [bw]
  | x :: y :: l => by
    have := bw_len (y :: l)
    simp only [bw, List.length_cons] at *
    omega
theorem before_in {f : Nat} (h : f ≤ 5) : ([2, 3, 4, 5] : List Nat).contains f = decide (2 ≤ f) := by
  have : f = 0 ∨ f = 1 ∨ f = 2 ∨ f = 3 ∨ f = 4 ∨ f = 5 := by omega
  rcases this with rfl | rfl | rfl | rfl | rfl | rfl <;> rfl
theorem behind_in {f : Nat} (h : f ≤ 5) : ([1, 3, 4, 5] : List Nat).contains f = (f == 1 || decide (3 ≤ f)) := by
  have : f = 0 ∨ f = 1 ∨ f = 2 ∨ f = 3 ∨ f = 4 ∨ f = 5 := by omega
  rcases this with rfl | rfl | rfl | rfl | rfl | rfl <;> rfl
/-! ### what follows when a group is told tighter -/
def lowT (h : House) (a : Nat) : List Nat := a :: (h.tighter.filterMap fun x => if x.2 = a then some x.1 else none)
def highT (h : House) (b : Nat) : List Nat := b :: (h.tighter.filterMap fun x => if x.1 = b then some x.2 else none)
def insT (m : List (Nat × Nat)) (x : Nat × Nat) : List (Nat × Nat) := if m.contains x then m else m ++ [x]
def newT (h : House) (a b : Nat) : List (Nat × Nat) := ((lowT h a).flatMap fun x => (highT h b).map fun y => (x, y)).foldl insT h.tighter
theorem mem_lowT {h : House} {a x : Nat} : x ∈ lowT h a ↔ x = a ∨ (x, a) ∈ h.tighter := by
  unfold lowT
  rw [List.mem_cons, List.mem_filterMap]
  constructor
  · rintro (e | ⟨p, hp, e⟩)
    · exact .inl e
    · split at e
      · rename_i c
        cases e
        refine .inr ?_
        rw [← c]
        exact hp
      · cases e
  · rintro (e | e)
    · exact .inl e
    · exact .inr ⟨(x, a), e, by simp⟩
theorem mem_highT {h : House} {b x : Nat} : x ∈ highT h b ↔ x = b ∨ (b, x) ∈ h.tighter := by
  unfold highT
  rw [List.mem_cons, List.mem_filterMap]
  constructor
  · rintro (e | ⟨p, hp, e⟩)
    · exact .inl e
    · split at e
      · rename_i c
        cases e
        refine .inr ?_
        rw [← c]
        exact hp
      · cases e
  · rintro (e | e)
    · exact .inl e
    · exact .inr ⟨(b, x), e, by simp⟩
theorem nd_snoc' {α : Type} {l : List α} {x : α} (h : l.Nodup) (n : x ∉ l) : (l ++ [x]).Nodup := by
  rw [List.nodup_append]
  refine ⟨h, by simp, fun a ha b hb => ?_⟩
  rw [List.mem_singleton] at hb
  intro e
  rw [e, hb] at ha
  exact n ha
theorem fold_insT : ∀ (l : List (Nat × Nat)) (m : List (Nat × Nat)), m.Nodup → (l.foldl insT m).Nodup ∧ ∀ p, p ∈ l.foldl insT m ↔ p ∈ m ∨ p ∈ l
  | [], m, h => ⟨h, fun p => by simp⟩
  | x :: l, m, h => by
    have nd : (insT m x).Nodup := by
      unfold insT
      split
      · exact h
      · rename_i c
        exact nd_snoc' h fun z => c (List.contains_iff_mem.mpr z)
    have mm : ∀ p, p ∈ insT m x ↔ p ∈ m ∨ p = x := fun p => by
      unfold insT
      split
      · rename_i c
        have := List.contains_iff_mem.mp c
        constructor
        · exact .inl
        · rintro (z | z)
          · exact z
          · rw [z]; exact this
      · rw [List.mem_append, List.mem_singleton]
    obtain ⟨h1, h2⟩ := fold_insT l (insT m x) nd
    refine ⟨h1, fun p => ?_⟩
    rw [List.foldl_cons, h2, mm, List.mem_cons, or_assoc]
theorem mem_newT {h : House} (K : Ok h) {a b : Nat} {p : Nat × Nat} : p ∈ newT h a b ↔ p ∈ h.tighter ∨ ((p.1 = a ∨ (p.1, a) ∈ h.tighter) ∧ (p.2 = b ∨ (b, p.2) ∈ h.tighter)) := by
  unfold newT
  rw [(fold_insT _ _ K.tnd).2, List.mem_flatMap]
  constructor
  · rintro (z | ⟨x, hx, hp⟩)
    · exact .inl z
    · obtain ⟨y, hy, rfl⟩ := List.mem_map.mp hp
      exact .inr ⟨mem_lowT.mp hx, mem_highT.mp hy⟩
  · rintro (z | ⟨z1, z2⟩)
    · exact .inl z
    · exact .inr ⟨p.1, mem_lowT.mpr z1, List.mem_map.mpr ⟨p.2, mem_highT.mpr z2, rfl⟩⟩
theorem newT_nd {h : House} (K : Ok h) {a b : Nat} : (newT h a b).Nodup := (fold_insT _ _ K.tnd).1
theorem newT_in {h : House} (K : Ok h) {a b : Nat} (ha : a < h.groups) (hb : b < h.groups) {p : Nat × Nat} (m : p ∈ newT h a b) : p.1 < h.groups ∧ p.2 < h.groups := by
  rcases (mem_newT K).mp m with z | ⟨z1, z2⟩
  · exact K.tin p z
  · refine ⟨?_, ?_⟩
    · rcases z1 with z | z
      · omega
      · exact (K.tin _ z).1
    · rcases z2 with z | z
      · omega
      · exact (K.tin _ z).2
/-- two lists without repetition and of the same members are of one length -/
theorem nd_sub {α : Type} [BEq α] [LawfulBEq α] : ∀ (a b : List α), a.Nodup → (∀ x ∈ a, x ∈ b) → a.length ≤ b.length
  | [], _, _, _ => Nat.zero_le _
  | x :: a, b, nd, h => by
    rw [List.nodup_cons] at nd
    have hx := h x (List.mem_cons_self ..)
    have q := nd_sub a (b.erase x) nd.2 fun y hy => by
      have hne : y ≠ x := fun e => nd.1 (e ▸ hy)
      exact (List.mem_erase_of_ne hne).mpr (h y (List.mem_cons_of_mem _ hy))
    rw [List.length_erase_of_mem hx] at q
    have := List.length_pos_of_mem hx
    rw [List.length_cons]
    omega
theorem nd_same {α : Type} [BEq α] [LawfulBEq α] {a b : List α} (ha : a.Nodup) (hb : b.Nodup) (h : ∀ x, x ∈ a ↔ x ∈ b) : a.length = b.length :=
  Nat.le_antisymm (nd_sub a b ha fun x hx => (h x).mp hx) (nd_sub b a hb fun x hx => (h x).mpr hx)
end Wo
end
section
set_option linter.all false
set_option Elab.async false
namespace Wo
open Sq15
/-! ### an expression as a list: number, whose, which -/
abbrev An := Nat × Int × Nat
mutual
def annE (w : Int) (k : Nat) : Ex → List An
  | .atom a => [(a, w, k)]
  | .op o ks => (64 + o, w, k) :: annAll o 0 ks
  | .paren e => annE w k e
def annAll (o k : Nat) : List Ex → List An
  | [] => []
  | e :: l => annE (o : Int) k e ++ annAll o (k + 1) l
end
section
variable (h : House)
def isOp (n : Nat) : Bool := decide (64 ≤ n) && decide (n < 64 + h.ops.length)
def wants (o m : Nat) : List (Int × Nat) := (List.range m).map fun j => ((o : Int), j)
def parse : List Nat → List (Int × Nat) → Option (List An)
  | [], [] => some []
  | [], _ :: _ => none
  | _ :: _, [] => none
  | n :: l, wk :: W => if isOp h n = true then (parse l (wants (n - 64) (holesAt h (n - 64)) ++ W)).map fun A => (n, wk.1, wk.2) :: A
      else if h.atoms.contains n = true then (parse l W).map fun A => (n, wk.1, wk.2) :: A else none
end
theorem parse_cons (h : House) (n : Nat) (l : List Nat) (wk : Int × Nat) (W : List (Int × Nat)) : parse h (n :: l) (wk :: W) = if isOp h n = true then (parse h l (wants (n - 64) (holesAt h (n - 64)) ++ W)).map fun A => (n, wk.1, wk.2) :: A
      else if h.atoms.contains n = true then (parse h l W).map fun A => (n, wk.1, wk.2) :: A else none := rfl
def wantsF (o k m : Nat) : List (Int × Nat) := (List.range m).map fun j => ((o : Int), k + j)
theorem wantsF_succ (o k m : Nat) : wantsF o k (m + 1) = ((o : Int), k) :: wantsF o (k + 1) m := by
  unfold wantsF
  rw [List.range_succ_eq_map, List.map_cons, List.map_map]
  congr 1
  refine List.map_congr_left fun j _ => ?_
  show ((o : Int), k + (j + 1)) = ((o : Int), k + 1 + j)
  rw [show k + (j + 1) = k + 1 + j by omega]
theorem wantsF_zero (o m : Nat) : wantsF o 0 m = wants o m := by
  unfold wantsF wants
  refine List.map_congr_left fun j _ => ?_
  rw [Nat.zero_add]
theorem made_op {h : House} {o : Nat} {ks : List Ex} (m : h.made (.op o ks) = true) : ∃ x, h.ops[o]? = some x ∧ ks.length = x.holes ∧ h.madeAll ks = true := by
  unfold House.made at m
  rw [Bool.and_eq_true] at m
  obtain ⟨m1, m2⟩ := m
  cases e : h.ops[o]? with
  | none => rw [e] at m1; cases m1
  | some x =>
    rw [e] at m1
    exact ⟨x, rfl, by simpa using m1, m2⟩
theorem made_atom {h : House} {a : Nat} (m : h.made (.atom a) = true) : h.atoms.contains a = true := by
  unfold House.made at m
  exact m
theorem made_cons {h : House} {e : Ex} {l : List Ex} (m : h.madeAll (e :: l) = true) : h.made e = true ∧ h.madeAll l = true := by
  unfold House.madeAll at m
  exact Bool.and_eq_true_iff.mp m
theorem isOp_op {h : House} {o : Nat} {x : Op} (e : h.ops[o]? = some x) : isOp h (64 + o) = true ∧ 64 + o - 64 = o := by
  obtain ⟨lt, _⟩ := List.getElem?_eq_some_iff.mp e
  refine ⟨?_, by omega⟩
  unfold isOp
  rw [decide_eq_true (show 64 ≤ 64 + o by omega), decide_eq_true (show 64 + o < 64 + h.ops.length by omega)]
  rfl
theorem isOp_low {h : House} {n : Nat} (q : n < 64) : isOp h n = false := by
  unfold isOp
  rw [decide_eq_false (show ¬ 64 ≤ n by omega)]
  rfl
theorem Ok.atom_low {h : House} (K : Ok h) {a : Nat} (m : h.atoms.contains a = true) : a < 64 := by
  have := K.atoms a (List.contains_iff_mem.mp m)
  have := K.w64
  omega
theorem holesAt_eq {h : House} {o : Nat} {x : Op} (e : h.ops[o]? = some x) : holesAt h o = x.holes := by unfold holesAt; rw [e]; rfl
mutual
theorem parse_row {h : House} (K : Ok h) : ∀ (e : Ex) (w : Int) (k : Nat) (l : List Nat) (W : List (Int × Nat)), h.made e = true → brackets e = 0 → parse h (row e ++ l) ((w, k) :: W) = (parse h l W).map (annE w k e ++ ·)
  | .atom a, w, k, l, W, m, _ => by
    have ma := made_atom m
    show parse h (a :: l) ((w, k) :: W) = _
    rw [parse_cons, isOp_low (K.atom_low ma), if_neg Bool.false_ne_true, if_pos ma]
    rfl
  | .op o ks, w, k, l, W, m, b => by
    obtain ⟨x, hx, hl, hm⟩ := made_op m
    obtain ⟨i1, i2⟩ := isOp_op hx
    have bk : bracketsAll ks = 0 := by unfold brackets at b; exact b
    show parse h ((64 + o) :: (rowAll ks ++ l)) ((w, k) :: W) = _
    have := parse_rowAll K ks o 0 l W hm bk
    rw [parse_cons, if_pos i1, i2, holesAt_eq hx, ← hl, ← wantsF_zero, this, Option.map_map]
    rfl
  | .paren e, w, k, l, W, m, b => by
    unfold brackets at b
    omega
theorem parse_rowAll {h : House} (K : Ok h) : ∀ (es : List Ex) (o k : Nat) (l : List Nat) (W : List (Int × Nat)), h.madeAll es = true → bracketsAll es = 0 → parse h (rowAll es ++ l) (wantsF o k es.length ++ W) = (parse h l W).map (annAll o k es ++ ·)
  | [], o, k, l, W, _, _ => by
    show parse h l W = (parse h l W).map fun A => A
    cases parse h l W <;> rfl
  | e :: es, o, k, l, W, m, b => by
    obtain ⟨m1, m2⟩ := made_cons m
    have bs : brackets e = 0 ∧ bracketsAll es = 0 := by unfold bracketsAll at b; omega
    rw [List.length_cons, wantsF_succ]
    show parse h ((row e ++ rowAll es) ++ l) (((o : Int), k) :: (wantsF o (k + 1) es.length ++ W)) = _
    rw [List.append_assoc, parse_row K e _ _ _ _ m1 bs.1, parse_rowAll K es o (k + 1) l W m2 bs.2, Option.map_map]
    congr 1
    funext A
    show annE (o : Int) k e ++ (annAll o (k + 1) es ++ A) = (annE (o : Int) k e ++ annAll o (k + 1) es) ++ A
    rw [List.append_assoc]
end
theorem parse_one {h : House} (K : Ok h) {e : Ex} (m : h.made e = true) (b : brackets e = 0) : parse h (row e) [(-1, 0)] = some (annE (-1) 0 e) := by
  have := parse_row K e (-1) 0 [] [] m b
  rw [List.append_nil] at this
  rw [this]
  simp [parse]
/-! ### the specification's reading of a list -/
def stp (h : House) (n : Nat) (s : Option (List Ex)) : Option (List Ex) := s.bind fun st =>
    if n < 64 then some (.atom n :: st)
    else if n = 128 then (match st with
      | [] => none
      | e :: r => some (.paren e :: r))
    else match h.ops[n - 64]? with
      | some x => if st.length < x.holes then none else some (.op (n - 64) (st.take x.holes) :: st.drop x.holes)
      | none => none
def stk (h : House) (l : List Nat) : Option (List Ex) := l.foldr (stp h) (some [])
theorem exOf_stk (h : House) (l : List Nat) : h.exOf l = match stk h l with
  | some [e] => some e
  | _ => none := rfl
theorem rowAll_append : ∀ a b : List Ex, rowAll (a ++ b) = rowAll a ++ rowAll b
  | [], b => rfl
  | e :: a, b => by
    show row e ++ rowAll (a ++ b) = (row e ++ rowAll a) ++ rowAll b
    rw [rowAll_append a b, List.append_assoc]
theorem stk_row {h : House} : ∀ (l : List Nat) (es : List Ex), stk h l = some es → l = rowAll es
  | [], es, e => by
    cases e
    rfl
  | n :: l, es, e => by
    have e1 : stp h n (stk h l) = some es := e
    cases q : stk h l with
    | none => rw [q] at e1; cases e1
    | some st =>
      have ih := stk_row l st q
      rw [q] at e1
      unfold stp at e1
      simp only [Option.bind_some] at e1
      by_cases c : n < 64
      · rw [if_pos c] at e1
        cases e1
        rw [ih]
        rfl
      · rw [if_neg c] at e1
        by_cases c2 : n = 128
        · rw [if_pos c2] at e1
          cases st with
          | nil => cases e1
          | cons a r =>
            cases e1
            rw [ih, c2]
            rfl
        · rw [if_neg c2] at e1
          cases hx : h.ops[n - 64]? with
          | none => rw [hx] at e1; cases e1
          | some x =>
            rw [hx] at e1
            simp only [] at e1
            split at e1
            · cases e1
            · cases e1
              show n :: l = ((64 + (n - 64)) :: rowAll (st.take x.holes)) ++ rowAll (st.drop x.holes)
              rw [List.cons_append, ← rowAll_append, List.take_append_drop, ← ih, show 64 + (n - 64) = n by omega]
theorem madeAll_append {h : House} : ∀ a b : List Ex, h.madeAll (a ++ b) = (h.madeAll a && h.madeAll b)
  | [], b => by simp [House.madeAll]
  | e :: a, b => by simp [House.madeAll, madeAll_append a b, Bool.and_assoc]
theorem bracketsAll_append : ∀ a b : List Ex, bracketsAll (a ++ b) = bracketsAll a + bracketsAll b
  | [], b => by simp [bracketsAll]
  | e :: a, b => by
    simp only [List.cons_append, bracketsAll, bracketsAll_append a b]
    omega
/-- what's parsed stands for an expression -/
theorem parse_some {h : House} (K : Ok h) : ∀ (l : List Nat) (W : List (Int × Nat)) (A : List An), parse h l W = some A → ∃ es, stk h l = some es ∧ es.length = W.length ∧ h.madeAll es = true ∧ bracketsAll es = 0
  | [], [], _, _ => ⟨[], rfl, rfl, by simp [House.madeAll], by simp [bracketsAll]⟩
  | [], _ :: _, _, e => by cases e
  | _ :: _, [], _, e => by cases e
  | n :: l, wk :: W, A, e => by
    unfold parse at e
    by_cases c : isOp h n = true
    · rw [if_pos c] at e
      cases q : parse h l (wants (n - 64) (holesAt h (n - 64)) ++ W) with
      | none => rw [q] at e; cases e
      | some A' =>
        obtain ⟨es, s1, s2, s3, s4⟩ := parse_some K l _ _ q
        have n64 : 64 ≤ n ∧ n < 64 + h.ops.length := by
          unfold isOp at c
          rw [Bool.and_eq_true] at c
          exact ⟨of_decide_eq_true c.1, of_decide_eq_true c.2⟩
        have hx : h.ops[n - 64]? = some h.ops[n - 64] := List.getElem?_eq_getElem (by omega)
        generalize h.ops[n - 64] = x at hx
        have few := K.few
        have hl : es.length = x.holes + W.length := by
          rw [s2, List.length_append, holesAt_eq hx]
          unfold wants
          rw [List.length_map, List.length_range]
        refine ⟨.op (n - 64) (es.take x.holes) :: es.drop x.holes, ?_, ?_, ?_, ?_⟩
        · show stp h n (stk h l) = _
          rw [s1]
          unfold stp
          simp only [Option.bind_some, hx]
          rw [if_neg (by omega), if_neg (by omega), if_neg (by omega)]
        · simp only [List.length_cons, List.length_drop]
          omega
        · have s3' := s3
          rw [← List.take_append_drop x.holes es, madeAll_append, Bool.and_eq_true] at s3'
          unfold House.madeAll House.made
          simp only [hx, s3'.1, s3'.2, List.length_take, Bool.and_true, beq_iff_eq]
          omega
        · rw [← List.take_append_drop x.holes es, bracketsAll_append] at s4
          unfold bracketsAll brackets
          omega
    · rw [if_neg c] at e
      by_cases c2 : h.atoms.contains n = true
      · rw [if_pos c2] at e
        cases q : parse h l W with
        | none => rw [q] at e; cases e
        | some A' =>
          obtain ⟨es, s1, s2, s3, s4⟩ := parse_some K l _ _ q
          refine ⟨.atom n :: es, ?_, by simp [s2], ?_, ?_⟩
          · show stp h n (stk h l) = _
            rw [s1]
            unfold stp
            simp only [Option.bind_some]
            rw [if_pos (K.atom_low c2)]
          · unfold House.madeAll House.made
            rw [c2, s3]
            rfl
          · unfold bracketsAll brackets
            omega
      · rw [if_neg c2] at e
        cases e
/-- the program's list of a told expression is the specification's -/
theorem parse_exOf {h : House} (K : Ok h) (l : List Nat) : parse h l [(-1, 0)] = match h.exOf l with
    | some e => if h.made e = true ∧ brackets e = 0 then some (annE (-1) 0 e) else none
    | none => none := by
  cases q : parse h l [(-1, 0)] with
  | some A =>
    obtain ⟨es, s1, s2, s3, s4⟩ := parse_some K l _ _ q
    match es, s2 with
    | [e], _ =>
      obtain ⟨m, _⟩ := made_cons s3
      have b : brackets e = 0 := by
        unfold bracketsAll at s4
        omega
      have lr := stk_row l _ s1
      have lr2 : l = row e := by rw [lr]; show row e ++ [] = _; rw [List.append_nil]
      rw [exOf_stk, s1]
      simp only []
      rw [if_pos ⟨m, b⟩, ← q, lr2]
      exact parse_one K m b
  | none =>
    rw [exOf_stk]
    cases s1 : stk h l with
    | none => rfl
    | some es =>
      match es with
      | [] => rfl
      | [e] =>
        simp only []
        by_cases c : h.made e = true ∧ brackets e = 0
        · have lr := stk_row l _ s1
          have lr2 : l = row e := by rw [lr]; show row e ++ [] = _; rw [List.append_nil]
          rw [lr2, parse_one K c.1 c.2] at q
          cases q
        · rw [if_neg c]
      | _ :: _ :: _ => rfl
end Wo
end
section
set_option linter.all false
set_option Elab.async false
namespace Wo
open Sq15
/-! ### what mustn't, what may be bare -/
section
variable (h : House)
def barB (t : An) : Bool := decide (t.2.1 ≠ -1) && (decide (64 ≤ t.1) && !h.may t.2.1.toNat t.2.2 (some (t.1 - 64)))
def bareB (t : An) : Bool := decide (t.2.1 ≠ -1) && !barB h t
end
def idx {α : Type} (p : α → Bool) : Nat → List α → List Nat
  | _, [] => []
  | n, a :: l => (if p a = true then [n] else []) ++ idx p (n + 1) l
theorem idx_append {α : Type} {p : α → Bool} : ∀ (n : Nat) (a b : List α), idx p n (a ++ b) = idx p n a ++ idx p (n + a.length) b
  | n, [], b => rfl
  | n, x :: a, b => by
    show _ ++ idx p (n + 1) (a ++ b) = (_ ++ idx p (n + 1) a) ++ idx p (n + (a.length + 1)) b
    rw [idx_append (n + 1) a b, List.append_assoc, show n + 1 + a.length = n + (a.length + 1) by omega]
theorem idx_snoc {α : Type} {p : α → Bool} (n : Nat) (a : List α) (x : α) : idx p n (a ++ [x]) = idx p n a ++ (if p x = true then [n + a.length] else []) := by
  rw [idx_append]
  show _ ++ ((if p x = true then [n + a.length] else []) ++ []) = _
  rw [List.append_nil]
theorem idx_ge {α : Type} {p : α → Bool} : ∀ (n : Nat) (l : List α), ∀ x ∈ idx p n l, n ≤ x ∧ x < n + l.length
  | _, [], x, h => by simp [idx] at h
  | n, a :: l, x, h => by
    have h2 : x ∈ (if p a = true then [n] else []) ++ idx p (n + 1) l := h
    rw [List.mem_append] at h2
    rw [List.length_cons]
    rcases h2 with h2 | h2
    · split at h2
      · rw [List.mem_singleton] at h2
        omega
      · simp at h2
    · have := idx_ge (n + 1) l x h2
      omega
theorem idx_sorted {α : Type} {p : α → Bool} : ∀ (n : Nat) (l : List α), (idx p n l).Pairwise (· < ·)
  | _, [] => List.Pairwise.nil
  | n, a :: l => by
    show ((if p a = true then [n] else []) ++ idx p (n + 1) l).Pairwise (· < ·)
    have ih := idx_sorted (p := p) (n + 1) l
    split
    · refine List.Pairwise.cons (fun x hx => ?_) ih
      have := idx_ge _ _ x hx
      omega
    · exact ih
theorem sorted_nd {l : List Nat} (h : l.Pairwise (· < ·)) : l.Nodup := h.imp fun q => Nat.ne_of_lt q
mutual
theorem ann_len : ∀ (e : Ex) (w : Int) (k : Nat), (annE w k e).length = size e
  | .atom _, _, _ => by simp [annE, size]
  | .op o ks, _, _ => by
    have := annAll_len ks o 0
    simp only [annE, size, List.length_cons, this]
    omega
  | .paren e, w, k => by
    have := ann_len e w k
    simp only [annE, size, this]
theorem annAll_len : ∀ (l : List Ex) (o k : Nat), (annAll o k l).length = sizeAll l
  | [], _, _ => by simp [annAll, sizeAll]
  | e :: l, o, k => by
    have a := ann_len e (o : Int) k
    have b := annAll_len l o (k + 1)
    simp only [annAll, sizeAll, List.length_append, a, b]
end
/-- of a thing: what's asked of its top -/
theorem bar_head {h : House} (K : Ok h) {e : Ex} (m : h.made e = true) (b : brackets e = 0) (o k : Nat) : ∃ t rest, annE (o : Int) k e = t :: rest ∧ (∀ w, w ≠ -1 → True) ∧ barB h t = !h.may o k e.top ∧ bareB h t = h.may o k e.top := by
  have wn : decide (((o : Int)) ≠ -1) = true := decide_eq_true (by omega)
  cases e with
  | atom a =>
    have lo := K.atom_low (made_atom m)
    refine ⟨_, _, rfl, fun _ _ => trivial, ?_, ?_⟩
    · unfold barB
      simp only [decide_eq_false (show ¬ 64 ≤ a by omega), Bool.false_and, Bool.and_false]
      rfl
    · unfold bareB barB
      simp only [wn, decide_eq_false (show ¬ 64 ≤ a by omega), Bool.false_and, Bool.and_false]
      rfl
  | op o' ks =>
    have e1 : barB h (64 + o', (o : Int), k) = !h.may o k (some o') := by
      unfold barB
      simp only [wn, decide_eq_true (show 64 ≤ 64 + o' by omega), Bool.true_and, Int.toNat_natCast, show 64 + o' - 64 = o' by omega]
    refine ⟨_, _, rfl, fun _ _ => trivial, e1, ?_⟩
    unfold bareB
    rw [e1]
    simp only [wn, Bool.true_and, Bool.not_not]
    rfl
  | paren e =>
    unfold brackets at b
    omega
mutual
theorem idx_free {h : House} (K : Ok h) : ∀ (e : Ex) (n : Nat) (w : Int) (k : Nat), h.made e = true → brackets e = 0 → ∀ t rest, annE w k e = t :: rest → idx (bareB h) (n + 1) rest = h.free n e
  | .atom a, n, w, k, _, _, t, rest, e => by
    have e2 : [(a, w, k)] = t :: rest := e
    cases e2
    rfl
  | .op o ks, n, w, k, m, b, t, rest, e => by
    have e2 : (64 + o, w, k) :: annAll o 0 ks = t :: rest := e
    cases e2
    obtain ⟨x, hx, hl, hm⟩ := made_op m
    have bk : bracketsAll ks = 0 := by unfold brackets at b; exact b
    unfold House.free
    exact idx_freeAll K ks (n + 1) o 0 hm bk
  | .paren e, _, _, _, _, b, _, _, _ => by
    unfold brackets at b
    omega
theorem idx_freeAll {h : House} (K : Ok h) : ∀ (l : List Ex) (n o k : Nat), h.madeAll l = true → bracketsAll l = 0 → idx (bareB h) n (annAll o k l) = h.freeAll o k n l
  | [], n, o, k, _, _ => by simp [annAll, House.freeAll, idx]
  | e :: l, n, o, k, m, b => by
    obtain ⟨m1, m2⟩ := made_cons m
    have bs : brackets e = 0 ∧ bracketsAll l = 0 := by unfold bracketsAll at b; omega
    obtain ⟨t, rest, e1, _, _, e2⟩ := bar_head K m1 bs.1 o k
    have r := idx_free K e n (o : Int) k m1 bs.1 t rest e1
    have rl := idx_freeAll K l (n + size e) o (k + 1) m2 bs.2
    show idx (bareB h) n (annE (o : Int) k e ++ annAll o (k + 1) l) = (if h.may o k e.top = true then [n] else []) ++ (h.free n e ++ House.freeAll h o (k + 1) (n + size e) l)
    rw [idx_append, ann_len, rl, e1, ← r, ← e2, ← List.append_assoc]
    rfl
end
theorem free_eq {h : House} (K : Ok h) {e : Ex} (m : h.made e = true) (b : brackets e = 0) : idx (bareB h) 0 (annE (-1) 0 e) = h.free 0 e := by
  cases e with
  | atom a => rfl
  | op o ks =>
    have := idx_free K (.op o ks) 0 (-1) 0 m b _ _ rfl
    rw [← this]
    rfl
  | paren e =>
    unfold brackets at b
    omega
/-! ### how many brackets, in what is dressed -/
mutual
theorem dress_len {h : House} (K : Ok h) (c : List Nat) : ∀ (e : Ex) (n : Nat) (w : Int) (k : Nat), h.made e = true → brackets e = 0 → ∀ t rest, annE w k e = t :: rest → brackets (h.dress c n e) = (idx (barB h) (n + 1) rest).length + ((idx (bareB h) (n + 1) rest).filter fun x => c.contains x).length
  | .atom a, n, w, k, _, _, t, rest, e => by
    have e2 : [(a, w, k)] = t :: rest := e
    cases e2
    rfl
  | .op o ks, n, w, k, m, b, t, rest, e => by
    have e2 : (64 + o, w, k) :: annAll o 0 ks = t :: rest := e
    cases e2
    obtain ⟨x, hx, hl, hm⟩ := made_op m
    have bk : bracketsAll ks = 0 := by unfold brackets at b; exact b
    unfold House.dress brackets
    exact dressAll_len K c ks (n + 1) o 0 hm bk
  | .paren e, _, _, _, _, b, _, _, _ => by
    unfold brackets at b
    omega
theorem dressAll_len {h : House} (K : Ok h) (c : List Nat) : ∀ (l : List Ex) (n o k : Nat), h.madeAll l = true → bracketsAll l = 0 → bracketsAll (h.dressAll c o k n l) = (idx (barB h) n (annAll o k l)).length + ((idx (bareB h) n (annAll o k l)).filter fun x => c.contains x).length
  | [], n, o, k, _, _ => by simp [annAll, House.dressAll, idx, bracketsAll]
  | e :: l, n, o, k, m, b => by
    obtain ⟨m1, m2⟩ := made_cons m
    have bs : brackets e = 0 ∧ bracketsAll l = 0 := by unfold bracketsAll at b; omega
    obtain ⟨t, rest, e1, _, e3, e2⟩ := bar_head K m1 bs.1 o k
    have r := dress_len K c e n (o : Int) k m1 bs.1 t rest e1
    have rl := dressAll_len K c l (n + size e) o (k + 1) m2 bs.2
    have i1 : ∀ p : An → Bool, idx p n (annAll o k (e :: l)) = (if p t = true then [n] else []) ++ (idx p (n + 1) rest ++ idx p (n + size e) (annAll o (k + 1) l)) := fun p => by
      show idx p n (annE (o : Int) k e ++ annAll o (k + 1) l) = _
      rw [idx_append, ann_len, e1]
      show ((if p t = true then [n] else []) ++ idx p (n + 1) rest) ++ _ = _
      rw [List.append_assoc]
    rw [i1, i1, e3, e2]
    have hd : bracketsAll (h.dressAll c o k n (e :: l)) = brackets (if (h.may o k e.top && !c.contains n) = true then h.dress c n e else .paren (h.dress c n e)) + bracketsAll (House.dressAll h c o (k + 1) (n + size e) l) := rfl
    rw [hd, rl]
    have hp : brackets (.paren (h.dress c n e)) = 1 + brackets (h.dress c n e) := rfl
    simp only [List.filter_append, List.length_append]
    cases h.may o k e.top with
    | true =>
      cases z : c.contains n with
      | true =>
        have f1 : (([n] : List Nat).filter fun x => c.contains x).length = 1 := by
          rw [List.filter_cons, if_pos z]
          rfl
        simp only [Bool.not_true, Bool.and_false, Bool.false_eq_true, if_false, if_true, List.length_nil, f1, hp, r]
        omega
      | false =>
        have f1 : (([n] : List Nat).filter fun x => c.contains x).length = 0 := by
          rw [List.filter_cons, if_neg (by rw [z]; exact Bool.false_ne_true)]
          rfl
        simp only [Bool.not_true, Bool.not_false, Bool.and_true, Bool.false_eq_true, if_false, if_true, List.length_nil, f1, r]
        omega
    | false =>
      simp only [Bool.not_false, Bool.false_and, Bool.false_eq_true, if_false, if_true, List.length_nil, List.filter_nil, List.length_singleton, hp, r]
      omega
end
theorem dress_brackets {h : House} (K : Ok h) (c : List Nat) {e : Ex} (m : h.made e = true) (b : brackets e = 0) : brackets (h.dress c 0 e) = (idx (barB h) 0 (annE (-1) 0 e)).length + ((idx (bareB h) 0 (annE (-1) 0 e)).filter fun x => c.contains x).length := by
  cases e with
  | atom a => rfl
  | op o ks =>
    rw [dress_len K c (.op o ks) 0 (-1) 0 m b _ _ rfl]
    rfl
  | paren e =>
    unfold brackets at b
    omega
/-! ### choices -/
theorem choices_ok : ∀ (k : Nat) (l : List Nat) (c : List Nat), c ∈ choices k l → c.length = k ∧ c.Sublist l
  | 0, l, c, h => by
    have h2 : c ∈ ([[]] : List (List Nat)) := by cases l <;> exact h
    rw [List.mem_singleton] at h2
    rw [h2]
    exact ⟨rfl, List.nil_sublist _⟩
  | k + 1, [], c, h => by
    have h2 : c ∈ ([] : List (List Nat)) := h
    simp at h2
  | k + 1, x :: l, c, h => by
    have h2 : c ∈ (choices k l).map (fun c => x :: c) ++ choices (k + 1) l := h
    rcases List.mem_append.mp h2 with h3 | h3
    · obtain ⟨c', hc, rfl⟩ := List.mem_map.mp h3
      obtain ⟨a, b⟩ := choices_ok k l c' hc
      exact ⟨by simp [a], b.cons₂ x⟩
    · obtain ⟨a, b⟩ := choices_ok (k + 1) l c h3
      exact ⟨a, b.cons x⟩
theorem chosen_len {l c : List Nat} (hl : l.Pairwise (· < ·)) (h : c.Sublist l) : (l.filter fun x => c.contains x).length = c.length := by
  have nl := sorted_nd hl
  refine nd_same (nl.filter _) (h.nodup nl) fun x => ?_
  rw [List.mem_filter, List.contains_iff_mem]
  exact ⟨fun z => z.2, fun z => ⟨h.subset z, z⟩⟩
def lastD : Nat → List Nat → Nat
  | d, [] => d
  | _, a :: r => lastD a r
theorem lastD_mem : ∀ (a : Nat) (r : List Nat), lastD a r ∈ a :: r
  | a, [] => List.mem_cons_self ..
  | a, b :: r => List.mem_cons_of_mem _ (lastD_mem b r)
/-- the program's way: one more behind each -/
def more1 (l : List Nat) (s : List Nat) : List (List Nat) := (l.filter fun p => s.isEmpty || decide (lastD 0 s < p)).map fun p => s ++ [p]
theorem flat_congr {α β : Type} {f g : α → List β} : ∀ (l : List α), (∀ x ∈ l, f x = g x) → l.flatMap f = l.flatMap g
  | [], _ => rfl
  | x :: l, h => by
    rw [List.flatMap_cons, List.flatMap_cons, h x (List.mem_cons_self ..), flat_congr l fun y hy => h y (List.mem_cons_of_mem _ hy)]
theorem filter_all {l : List Nat} : l.filter (fun _ => true) = l := List.filter_eq_self.mpr fun _ _ => rfl
theorem choices_last : ∀ (k : Nat) (l : List Nat), l.Pairwise (· < ·) → choices (k + 1) l = (choices k l).flatMap (more1 l)
  | 0, l, _ => by
    have e : ∀ l : List Nat, choices 1 l = l.map fun p => [p] := fun l => by
      induction l with
      | nil => rfl
      | cons x l ih =>
        show (choices 0 l).map (fun c => x :: c) ++ choices 1 l = _
        rw [ih]
        cases l <;> rfl
    rw [e]
    have e0 : choices 0 l = [[]] := by cases l <;> rfl
    rw [e0]
    simp [more1, filter_all]
  | k + 1, [], _ => rfl
  | k + 1, x :: l, h => by
    rw [List.pairwise_cons] at h
    obtain ⟨h1, h2⟩ := h
    have ih1 := choices_last k l h2
    have ih2 := choices_last (k + 1) l h2
    show (choices (k + 1) l).map (fun c => x :: c) ++ choices (k + 2) l = ((choices k l).map (fun c => x :: c) ++ choices (k + 1) l).flatMap (more1 (x :: l))
    rw [List.flatMap_append, List.flatMap_map, ih2]
    congr 1
    · rw [ih1, List.map_flatMap]
      refine flat_congr _ fun s hs => ?_
      have sub := (choices_ok k l s hs).2.subset
      unfold more1
      rw [List.map_map]
      have lx : x ≤ lastD x s := by
        cases s with
        | nil => exact Nat.le_refl _
        | cons a r => exact Nat.le_of_lt (h1 _ (sub (lastD_mem a r)))
      have e1 : ((x :: l).filter fun p => (x :: s).isEmpty || decide (lastD 0 (x :: s) < p)) = l.filter fun p => s.isEmpty || decide (lastD 0 s < p) := by
        rw [List.filter_cons, if_neg]
        · refine List.filter_congr fun p hp => ?_
          show (false || decide (lastD x s < p)) = _
          cases s with
          | nil =>
            show (false || decide (x < p)) = (true || _)
            rw [decide_eq_true (h1 p hp)]
            rfl
          | cons a r => rfl
        · show ¬ (false || decide (lastD x s < x)) = true
          rw [Bool.false_or, decide_eq_true_eq]
          omega
      rw [e1]
      rfl
    · refine flat_congr _ fun s hs => ?_
      obtain ⟨sl, sub⟩ := choices_ok (k + 1) l s hs
      unfold more1
      rw [List.filter_cons]
      have : ¬ (s.isEmpty || decide (lastD 0 s < x)) = true := by
        cases s with
        | nil => simp at sl
        | cons a r =>
          have := h1 _ (sub.subset (lastD_mem a r))
          show ¬ (false || decide (lastD a r < x)) = true
          rw [Bool.false_or, decide_eq_true_eq]
          omega
      rw [if_neg this]
end Wo
end
section
set_option linter.all false
set_option Elab.async false
namespace Wo
open Sq15
/-! ### without brackets -/
mutual
theorem bare_brackets : ∀ e : Ex, brackets (bare e) = 0
  | .atom _ => by simp [bare, brackets]
  | .op _ ks => by simp [bare, brackets, bareAll_brackets ks]
  | .paren e => by simp only [bare]; exact bare_brackets e
theorem bareAll_brackets : ∀ l : List Ex, bracketsAll (bareAll l) = 0
  | [] => by simp [bareAll, bracketsAll]
  | e :: l => by simp [bareAll, bracketsAll, bare_brackets e, bareAll_brackets l]
end
theorem bareAll_len : ∀ l : List Ex, (bareAll l).length = l.length
  | [] => by simp [bareAll]
  | e :: l => by simp [bareAll, bareAll_len l]
mutual
theorem bare_made {h : House} : ∀ e : Ex, h.made (bare e) = h.made e
  | .atom _ => by simp [bare, House.made]
  | .op o ks => by simp only [bare, House.made, bareAll_len, bareAll_made ks]
  | .paren e => by simp only [bare, House.made]; exact bare_made e
theorem bareAll_made {h : House} : ∀ l : List Ex, h.madeAll (bareAll l) = h.madeAll l
  | [] => by simp [bareAll, House.madeAll]
  | e :: l => by simp [bareAll, House.madeAll, bare_made e, bareAll_made l]
end
mutual
theorem bare_row {h : House} (K : Ok h) : ∀ e : Ex, h.made e = true → (row e).filter (fun n => decide (n ≠ 128)) = row (bare e)
  | .atom a, m => by
    have := K.atom_low (made_atom m)
    show ([a] : List Nat).filter _ = [a]
    rw [List.filter_cons, if_pos (by simp; omega)]
    rfl
  | .op o ks, m => by
    obtain ⟨x, hx, hl, hm⟩ := made_op m
    obtain ⟨lt, _⟩ := List.getElem?_eq_some_iff.mp hx
    have := K.few
    show ((64 + o) :: rowAll ks).filter _ = (64 + o) :: rowAll (bareAll ks)
    rw [List.filter_cons, if_pos (by simp; omega), bareAll_row K ks hm]
  | .paren e, m => by
    have m2 : h.made e = true := by unfold House.made at m; exact m
    show (128 :: row e).filter _ = row (bare e)
    rw [List.filter_cons, if_neg (by simp), bare_row K e m2]
theorem bareAll_row {h : House} (K : Ok h) : ∀ l : List Ex, h.madeAll l = true → (rowAll l).filter (fun n => decide (n ≠ 128)) = rowAll (bareAll l)
  | [], _ => rfl
  | e :: l, m => by
    obtain ⟨m1, m2⟩ := made_cons m
    show (row e ++ rowAll l).filter _ = row (bare e) ++ rowAll (bareAll l)
    rw [List.filter_append, bare_row K e m1, bareAll_row K l m2]
end
mutual
theorem size_wt : ∀ e : Ex, size (bare e) ≤ wt e
  | .atom _ => by simp [bare, size, wt]
  | .op _ ks => by
    have := sizeAll_wt ks
    simp only [bare, size, wt]
    omega
  | .paren e => by
    have := size_wt e
    simp only [bare, wt]
    omega
theorem sizeAll_wt : ∀ l : List Ex, sizeAll (bareAll l) ≤ wtAll l
  | [] => by simp [bareAll, sizeAll, wtAll]
  | e :: l => by
    have a := size_wt e
    have b := sizeAll_wt l
    simp only [bareAll, sizeAll, wtAll]
    omega
end
mutual
theorem row_size : ∀ e : Ex, brackets e = 0 → (row e).length = size e
  | .atom _, _ => by simp [row, size]
  | .op _ ks, b => by
    have := rowAll_size ks (by unfold brackets at b; exact b)
    simp only [row, size, List.length_cons, this]
    omega
  | .paren e, b => by
    unfold brackets at b
    omega
theorem rowAll_size : ∀ l : List Ex, bracketsAll l = 0 → (rowAll l).length = sizeAll l
  | [], _ => by simp [rowAll, sizeAll]
  | e :: l, b => by
    unfold bracketsAll at b
    have a := row_size e (by omega)
    have c := rowAll_size l (by omega)
    simp only [rowAll, sizeAll, List.length_append, a, c]
end
/-! ### saying by a pile -/
inductive It where
  | w (x : Nat)
  | t (n : Nat) (e : Ex)
def itc : It → Int
  | .w x => x
  | .t _ _ => -1
mutual
def wE : Ex → Nat
  | .atom _ => 3
  | .op _ ks => 9 + wEAll ks
  | .paren e => 2 + wE e
def wEAll : List Ex → Nat
  | [] => 0
  | e :: l => wE e + wEAll l
end
def itW : It → Nat
  | .w _ => 1
  | .t _ e => wE e
def its (l : List It) : Nat := (l.map itW).sum
section
variable (h : House) (c : List Nat) (inA : Nat → Bool)
def outT (n : Nat) (e : Ex) : List Nat := if inA n = true then 0 :: (h.says (h.dress c n e) ++ [1]) else h.says (h.dress c n e)
def outI : It → List Nat
  | .w x => [x]
  | .t n e => outT h c inA n e
mutual
def agr : Nat → Ex → Prop
  | _, .atom _ => True
  | n, .op o ks => agrAll o 0 (n + 1) ks
  | _, .paren _ => True
def agrAll (o : Nat) : Nat → Nat → List Ex → Prop
  | _, _, [] => True
  | k, n, e :: l => (inA n = !(h.may o k e.top && !c.contains n)) ∧ agr n e ∧ agrAll o (k + 1) (n + size e) l
end
def weaveI : List Piece → Nat → List Ex → List It
  | [], _, _ => []
  | .word w :: l, n, es => .w w :: weaveI l n es
  | .hole _ :: l, n, e :: es => .t n e :: weaveI l (n + size e) es
  | .hole _ :: l, n, [] => .t n (.atom 0) :: weaveI l n []
def okI (R : List Nat) : Nat → List It → Prop
  | _, [] => True
  | a, .w _ :: l => okI R a l
  | a, .t n e :: l => n = a ∧ h.made e = true ∧ brackets e = 0 ∧ agr h c inA n e ∧ (∀ i, i < size e → R[n + i]? = (row e)[i]?) ∧ okI R (a + size e) l
end
theorem weaveI_code : ∀ (l : List Piece) (n : Nat) (es : List Ex), (weaveI l n es).map itc = l.map pz
  | [], _, _ => rfl
  | .word w :: l, n, es => by
    show itc (.w w) :: (weaveI l n es).map itc = pz (.word w) :: l.map pz
    rw [weaveI_code l n es]
    rfl
  | .hole _ :: l, n, e :: es => by
    show (-1 : Int) :: (weaveI l (n + size e) es).map itc = -1 :: l.map pz
    rw [weaveI_code l _ es]
  | .hole _ :: l, n, [] => by
    show (-1 : Int) :: (weaveI l n []).map itc = -1 :: l.map pz
    rw [weaveI_code l _ []]
theorem weaveI_out {h : House} {c : List Nat} {inA : Nat → Bool} : ∀ (l : List Piece) (o k n : Nat) (es : List Ex), es.length = hc l → agrAll h c inA o k n es → (weaveI l n es).flatMap (outI h c inA) = weave l (h.saysAll (h.dressAll c o k n es))
  | [], _, _, _, _, _, _ => rfl
  | .word w :: l, o, k, n, es, hl, ha => by
    show [w] ++ (weaveI l n es).flatMap _ = w :: weave l _
    rw [weaveI_out l o k n es hl ha]
    rfl
  | .hole j :: l, o, k, n, [], hl, _ => by simp [hc] at hl
  | .hole j :: l, o, k, n, e :: es, hl, ha => by
    have ha' : (inA n = !(h.may o k e.top && !c.contains n)) ∧ agr h c inA n e ∧ agrAll h c inA o (k + 1) (n + size e) es := by unfold agrAll at ha; exact ha
    have ih := weaveI_out (h := h) (c := c) (inA := inA) l o (k + 1) (n + size e) es (by simpa [hc] using hl) ha'.2.2
    show outT h c inA n e ++ (weaveI l (n + size e) es).flatMap _ = _
    rw [ih]
    have e1 : h.dressAll c o k n (e :: es) = (if (h.may o k e.top && !c.contains n) = true then h.dress c n e else .paren (h.dress c n e)) :: h.dressAll c o (k + 1) (n + size e) es := rfl
    rw [e1]
    have e2 : ∀ (u : Ex) (us : List Ex), weave (.hole j :: l) (h.saysAll (u :: us)) = h.says u ++ weave l (h.saysAll us) := fun u us => rfl
    rw [e2]
    congr 1
    unfold outT
    rw [ha'.1]
    cases (h.may o k e.top && !c.contains n) with
    | true => simp
    | false =>
      simp only [Bool.not_false, if_true, Bool.false_eq_true, if_false]
      rfl
theorem weaveI_ok {h : House} {c : List Nat} {inA : Nat → Bool} {R : List Nat} : ∀ (l : List Piece) (o k n : Nat) (es : List Ex) (rest : List It), es.length = hc l → agrAll h c inA o k n es → h.madeAll es = true → bracketsAll es = 0 → (∀ i, i < sizeAll es → R[n + i]? = (rowAll es)[i]?) → okI h c inA R (n + sizeAll es) rest → okI h c inA R n (weaveI l n es ++ rest)
  | [], o, k, n, [], rest, _, _, _, _, _, hr => by
    unfold sizeAll at hr
    exact hr
  | [], o, k, n, _ :: _, rest, hl, _, _, _, _, _ => by simp [hc] at hl
  | .word w :: l, o, k, n, es, rest, hl, ha, hm, hb, hR, hr => weaveI_ok l o k n es rest hl ha hm hb hR hr
  | .hole j :: l, o, k, n, [], rest, hl, _, _, _, _, _ => by simp [hc] at hl
  | .hole j :: l, o, k, n, e :: es, rest, hl, ha, hm, hb, hR, hr => by
    have ha' : (inA n = !(h.may o k e.top && !c.contains n)) ∧ agr h c inA n e ∧ agrAll h c inA o (k + 1) (n + size e) es := by unfold agrAll at ha; exact ha
    obtain ⟨m1, m2⟩ := made_cons hm
    have bs : brackets e = 0 ∧ bracketsAll es = 0 := by unfold bracketsAll at hb; omega
    have rl := row_size e bs.1
    have sz : sizeAll (e :: es) = size e + sizeAll es := rfl
    have rr : rowAll (e :: es) = row e ++ rowAll es := rfl
    rw [sz, rr] at hR
    rw [sz] at hr
    refine ⟨rfl, m1, bs.1, ha'.2.1, fun i hi => ?_, weaveI_ok l o (k + 1) (n + size e) es rest (by simpa [hc] using hl) ha'.2.2 m2 bs.2 (fun i hi => ?_) (by rw [Nat.add_assoc]; exact hr)⟩
    · rw [hR i (by omega), List.getElem?_append_left (by omega)]
    · rw [show n + size e + i = n + (size e + i) by omega, hR (size e + i) (by omega), List.getElem?_append_right (by omega), rl, Nat.add_sub_cancel_left]
theorem weaveI_its : ∀ (l : List Piece) (n : Nat) (es : List Ex), es.length = hc l → its (weaveI l n es) = wc l + wEAll es
  | [], n, [], _ => rfl
  | [], n, _ :: _, h => by simp [hc] at h
  | .word w :: l, n, es, h => by
    have := weaveI_its l n es h
    show 1 + its (weaveI l n es) = (wc l + 1) + wEAll es
    omega
  | .hole _ :: l, n, [], h => by simp [hc] at h
  | .hole _ :: l, n, e :: es, h => by
    have := weaveI_its l (n + size e) es (by simpa [hc] using h)
    show wE e + its (weaveI l (n + size e) es) = wc l + (wE e + wEAll es)
    omega
theorem its_append (a b : List It) : its (a ++ b) = its a + its b := by unfold its; rw [List.map_append, List.sum_append]
theorem between_wc : ∀ (k : Nat) (l : List Nat), wc (between k l) = l.length
  | _, [] => rfl
  | _, [_] => rfl
  | k, _ :: y :: l => by
    have := between_wc (k + 1) (y :: l)
    show wc (between (k + 1) (y :: l)) + 1 = _
    rw [this]
    rfl
theorem wc_append : ∀ a b : List Piece, wc (a ++ b) = wc a + wc b
  | [], b => by simp [wc]
  | .word _ :: a, b => by
    show wc (a ++ b) + 1 = wc a + 1 + wc b
    rw [wc_append a b]
    omega
  | .hole _ :: a, b => wc_append a b
theorem pieces_wc (x : Op) : wc x.pieces = x.names.length := by
  unfold Op.pieces
  simp only [wc_append, between_wc]
  split <;> split <;> simp [wc]
/-- what becomes of a thing on the pile -/
def coreI (h : House) (n : Nat) : Ex → List It
  | .atom a => [.w a]
  | .op o ks => weaveI (h.pieces o) (n + 1) ks
  | .paren _ => []
structure Turn (h : House) (c : List Nat) (inA : Nat → Bool) (R : List Nat) (n : Nat) (e : Ex) (rest : List It) : Prop where
  ok : okI h c inA R (n + 1) (coreI h n e ++ ((if inA n = true then [It.w 1] else []) ++ rest))
  out : (if inA n = true then [0] else []) ++ (coreI h n e ++ ((if inA n = true then [It.w 1] else []) ++ rest)).flatMap (outI h c inA) = outT h c inA n e ++ rest.flatMap (outI h c inA)
  less : its (coreI h n e ++ ((if inA n = true then [It.w 1] else []) ++ rest)) < wE e + its rest
theorem turn_ok {h : House} (K : Ok h) {c : List Nat} {inA : Nat → Bool} {R : List Nat} {n : Nat} {e : Ex} {rest : List It} (m : h.made e = true) (b : brackets e = 0) (ag : agr h c inA n e) (hR : ∀ i, i < size e → R[n + i]? = (row e)[i]?) (hr : okI h c inA R (n + size e) rest) : Turn h c inA R n e rest := by
  have shut : ∀ a, okI h c inA R a rest → okI h c inA R a ((if inA n = true then [It.w 1] else []) ++ rest) := fun a q => by
    split
    · exact q
    · exact q
  have i1 : its ((if inA n = true then [It.w 1] else []) ++ rest) ≤ 1 + its rest := by
    rw [its_append]
    split
    · exact Nat.le_refl _
    · have : its [] = 0 := rfl
      omega
  have key : ∀ X : List It, X.flatMap (outI h c inA) = h.says (h.dress c n e) → (if inA n = true then [0] else []) ++ (X ++ ((if inA n = true then [It.w 1] else []) ++ rest)).flatMap (outI h c inA) = outT h c inA n e ++ rest.flatMap (outI h c inA) := fun X hX => by
    rw [List.flatMap_append, List.flatMap_append, hX]
    unfold outT
    split
    · show [0] ++ (_ ++ ([1] ++ _)) = (0 :: (_ ++ [1])) ++ _
      simp
    · rfl
  cases e with
  | atom a => exact ⟨shut _ hr, key [.w a] rfl, by
      rw [its_append]
      have : its (coreI h n (.atom a)) = 1 := rfl
      have : wE (.atom a) = 3 := by simp [wE]
      omega⟩
  | op o ks =>
    obtain ⟨x, hx, hl, hm⟩ := made_op m
    have bk : bracketsAll ks = 0 := by unfold brackets at b; exact b
    have hn := (K.op_at hx).some_
    have hcl : ks.length = hc (h.pieces o) := by rw [pieces_of hx, pieces_hc hn, hl]
    have ag2 : agrAll h c inA o 0 (n + 1) ks := by unfold agr at ag; exact ag
    have sz : size (.op o ks) = 1 + sizeAll ks := rfl
    have rr : row (.op o ks) = (64 + o) :: rowAll ks := rfl
    rw [sz, rr] at hR
    rw [sz] at hr
    refine ⟨?_, key _ ?_, ?_⟩
    · refine weaveI_ok _ o 0 (n + 1) ks _ hcl ag2 hm bk (fun i hi => ?_) (shut _ (by rw [Nat.add_assoc]; exact hr))
      rw [show n + 1 + i = n + (i + 1) by omega, hR (i + 1) (by omega)]
      rfl
    · show (weaveI (h.pieces o) (n + 1) ks).flatMap _ = _
      rw [weaveI_out _ o 0 (n + 1) ks hcl ag2]
      rfl
    · rw [its_append]
      have : its (coreI h n (.op o ks)) = wc (h.pieces o) + wEAll ks := weaveI_its _ _ ks hcl
      have w6 : wc (h.pieces o) ≤ 6 := by
        rw [pieces_of hx, pieces_wc]
        exact (K.op_at hx).few
      have : wE (.op o ks) = 9 + wEAll ks := by simp [wE]
      omega
  | paren e =>
    unfold brackets at b
    omega
end Wo
end
section
set_option linter.all false
set_option Elab.async false
namespace Wo
open Sq15
theorem idx_mem {α : Type} {p : α → Bool} : ∀ (m : Nat) (l : List α) (n : Nat), n ∈ idx p m l ↔ ∃ i a, n = m + i ∧ l[i]? = some a ∧ p a = true
  | m, [], n => by simp [idx]
  | m, x :: l, n => by
    have ih := idx_mem (p := p) (m + 1) l n
    show n ∈ (if p x = true then [m] else []) ++ idx p (m + 1) l ↔ _
    rw [List.mem_append, ih]
    constructor
    · rintro (z | ⟨i, a, e1, e2, e3⟩)
      · split at z
        · rename_i c
          rw [List.mem_singleton] at z
          exact ⟨0, x, by omega, rfl, c⟩
        · simp at z
      · exact ⟨i + 1, a, by omega, by simpa using e2, e3⟩
    · rintro ⟨i, a, e1, e2, e3⟩
      cases i with
      | zero =>
        have : x = a := by simpa using e2
        subst this
        rw [if_pos e3]
        exact .inl (by simp [e1])
      | succ i => exact .inr ⟨i, a, by omega, by simpa using e2, e3⟩
mutual
theorem agr_of {h : House} (K : Ok h) {c : List Nat} {inA : Nat → Bool} {A : List An} (hin : ∀ m t, A[m]? = some t → inA m = (barB h t || c.contains m)) : ∀ (e : Ex) (n : Nat) (w : Int) (k : Nat), h.made e = true → brackets e = 0 → (∀ i, i < size e → A[n + i]? = (annE w k e)[i]?) → agr h c inA n e
  | .atom _, _, _, _, _, _, _ => by unfold agr; trivial
  | .op o ks, n, w, k, m, b, hA => by
    obtain ⟨x, hx, hl, hm⟩ := made_op m
    have bk : bracketsAll ks = 0 := by unfold brackets at b; exact b
    unfold agr
    refine agrAll_of K hin ks (n + 1) o 0 hm bk fun i hi => ?_
    have sz : size (.op o ks) = 1 + sizeAll ks := rfl
    have := hA (i + 1) (by omega)
    rw [show n + 1 + i = n + (i + 1) by omega, this]
    rfl
  | .paren _, _, _, _, _, b, _ => by
    unfold brackets at b
    omega
theorem agrAll_of {h : House} (K : Ok h) {c : List Nat} {inA : Nat → Bool} {A : List An} (hin : ∀ m t, A[m]? = some t → inA m = (barB h t || c.contains m)) : ∀ (l : List Ex) (n o k : Nat), h.madeAll l = true → bracketsAll l = 0 → (∀ i, i < sizeAll l → A[n + i]? = (annAll o k l)[i]?) → agrAll h c inA o k n l
  | [], _, _, _, _, _, _ => by unfold agrAll; trivial
  | e :: l, n, o, k, m, b, hA => by
    obtain ⟨m1, m2⟩ := made_cons m
    have bs : brackets e = 0 ∧ bracketsAll l = 0 := by unfold bracketsAll at b; omega
    obtain ⟨t, rest, e1, _, e3, _⟩ := bar_head K m1 bs.1 o k
    have sz : sizeAll (e :: l) = size e + sizeAll l := rfl
    have an : annAll o k (e :: l) = annE (o : Int) k e ++ annAll o (k + 1) l := rfl
    have al := ann_len e (o : Int) k
    rw [sz, an] at hA
    have pos : 0 < size e := by
      rw [← al, e1]
      simp
    have h0 := hA 0 (by omega)
    rw [Nat.add_zero, List.getElem?_append_left (by omega), e1] at h0
    unfold agrAll
    refine ⟨?_, agr_of K hin e n (o : Int) k m1 bs.1 fun i hi => ?_, agrAll_of K hin l (n + size e) o (k + 1) m2 bs.2 fun i hi => ?_⟩
    · rw [hin n t h0, e3]
      cases h.may o k e.top <;> cases c.contains n <;> rfl
    · rw [hA i (by omega), List.getElem?_append_left (by omega)]
    · rw [show n + size e + i = n + (size e + i) by omega, hA (size e + i) (by omega), List.getElem?_append_right (by omega), al, Nat.add_sub_cancel_left]
end
mutual
theorem ann_row : ∀ (e : Ex) (w : Int) (k : Nat), brackets e = 0 → (annE w k e).map (·.1) = row e
  | .atom _, _, _, _ => rfl
  | .op o ks, w, k, b => by
    have bk : bracketsAll ks = 0 := by unfold brackets at b; exact b
    show (64 + o) :: (annAll o 0 ks).map (·.1) = (64 + o) :: rowAll ks
    rw [annAll_row ks o 0 bk]
  | .paren e, w, k, b => by
    unfold brackets at b
    omega
theorem annAll_row : ∀ (l : List Ex) (o k : Nat), bracketsAll l = 0 → (annAll o k l).map (·.1) = rowAll l
  | [], _, _, _ => rfl
  | e :: l, o, k, b => by
    unfold bracketsAll at b
    show (annE (o : Int) k e ++ annAll o (k + 1) l).map (·.1) = row e ++ rowAll l
    rw [List.map_append, ann_row e _ k (by omega), annAll_row l o (k + 1) (by omega)]
end
/-- around: what mustn't be bare, and some more -/
def inAround (ar : List Nat) (n : Nat) : Bool := ar.contains n
def barred (h : House) (e : Ex) : List Nat := idx (barB h) 0 (annE (-1) 0 e)
theorem root_out {h : House} {e : Ex} : 0 ∉ barred h e ∧ 0 ∉ idx (bareB h) 0 (annE (-1) 0 e) := by
  have key : ∀ e : Ex, ∃ t rest, annE (-1) 0 e = t :: rest ∧ t.2.1 = -1 := by
    intro e
    induction e using Ex.rec (motive_2 := fun _ => True) with
    | atom a => exact ⟨_, _, rfl, rfl⟩
    | op o ks _ => exact ⟨_, _, rfl, rfl⟩
    | paren e ih => exact ih
    | nil => trivial
    | cons _ _ _ _ => trivial
  obtain ⟨t, rest, e1, e2⟩ := key e
  have z1 : barB h t = false := by unfold barB; rw [e2]; rfl
  have z2 : bareB h t = false := by unfold bareB; rw [e2]; rfl
  constructor
  · intro m
    obtain ⟨i, a, q1, q2, q3⟩ := (idx_mem _ _ _).mp m
    obtain rfl : i = 0 := by omega
    rw [e1] at q2
    have : t = a := by simpa using q2
    rw [← this, z1] at q3
    cases q3
  · intro m
    obtain ⟨i, a, q1, q2, q3⟩ := (idx_mem _ _ _).mp m
    obtain rfl : i = 0 := by omega
    rw [e1] at q2
    have : t = a := by simpa using q2
    rw [← this, z2] at q3
    cases q3
/-- at the beginning of saying -/
theorem say_start {h : House} (K : Ok h) {e : Ex} {c : List Nat} (m : h.made e = true) (b : brackets e = 0) (hc : ∀ x ∈ c, x ∈ idx (bareB h) 0 (annE (-1) 0 e)) :
    okI h c (inAround (barred h e ++ c)) (row e) 0 [.t 0 e] ∧ ([It.t 0 e]).flatMap (outI h c (inAround (barred h e ++ c))) = h.says (h.dress c 0 e) := by
  have hin : ∀ m t, (annE (-1) 0 e)[m]? = some t → inAround (barred h e ++ c) m = (barB h t || c.contains m) := fun m t ht => by
    unfold inAround
    rw [Bool.eq_iff_iff, List.contains_iff_mem, List.mem_append, Bool.or_eq_true, List.contains_iff_mem]
    unfold barred
    rw [idx_mem]
    constructor
    · rintro (⟨i, a, q1, q2, q3⟩ | z)
      · obtain rfl : m = i := by omega
        rw [ht] at q2
        cases q2
        exact .inl q3
      · exact .inr z
    · rintro (z | z)
      · exact .inl ⟨m, t, by omega, ht, z⟩
      · exact .inr z
  have ag := agr_of K hin e 0 (-1) 0 m b fun i _ => by rw [Nat.zero_add]
  refine ⟨⟨rfl, m, b, ag, fun i _ => by rw [Nat.zero_add], trivial⟩, ?_⟩
  have z : inAround (barred h e ++ c) 0 = false := by
    unfold inAround
    refine Bool.eq_false_iff.mpr fun z => ?_
    rw [List.contains_iff_mem, List.mem_append] at z
    rcases z with z | z
    · exact root_out.1 z
    · exact root_out.2 (hc 0 z)
  show outT h c _ 0 e ++ [] = _
  rw [List.append_nil]
  unfold outT
  rw [if_neg (by rw [z]; exact Bool.false_ne_true)]
/-! ### sizes -/
mutual
theorem says_len {h : House} (K : Ok h) (c : List Nat) : ∀ (e : Ex) (n : Nat), h.made e = true → brackets e = 0 → (h.says (h.dress c n e)).length + 2 ≤ wE e
  | .atom a, n, _, _ => by
    show ([a] : List Nat).length + 2 ≤ wE (.atom a)
    simp [wE]
  | .op o ks, n, m, b => by
    obtain ⟨x, hx, hl, hm⟩ := made_op m
    have bk : bracketsAll ks = 0 := by unfold brackets at b; exact b
    have := saysAll_len K c ks o 0 (n + 1) hm bk (h.pieces o)
    have w6 : wc (h.pieces o) ≤ 6 := by
      rw [pieces_of hx, pieces_wc]
      exact (K.op_at hx).few
    have e1 : wE (.op o ks) = 9 + wEAll ks := by simp [wE]
    show (weave (h.pieces o) (h.saysAll (h.dressAll c o 0 (n + 1) ks))).length + 2 ≤ _
    omega
  | .paren e, _, _, b => by
    unfold brackets at b
    omega
theorem saysAll_len {h : House} (K : Ok h) (c : List Nat) : ∀ (l : List Ex) (o k n : Nat), h.madeAll l = true → bracketsAll l = 0 → ∀ ps : List Piece, (weave ps (h.saysAll (h.dressAll c o k n l))).length ≤ wc ps + wEAll l
  | [], o, k, n, _, _, ps => by
    have : h.saysAll (h.dressAll c o k n []) = [] := rfl
    rw [this]
    induction ps with
    | nil => simp [weave]
    | cons p ps ih =>
      cases p with
      | word w =>
        show (w :: weave ps []).length ≤ (wc ps + 1) + _
        rw [List.length_cons]
        omega
      | hole j =>
        show ([] ++ weave ps []).length ≤ wc ps + _
        exact ih
  | e :: l, o, k, n, m, b, ps => by
    obtain ⟨m1, m2⟩ := made_cons m
    have bs : brackets e = 0 ∧ bracketsAll l = 0 := by unfold bracketsAll at b; omega
    have a := says_len K c e n m1 bs.1
    have e1 : wEAll (e :: l) = wE e + wEAll l := by simp [wEAll]
    have hd : ∀ ps : List Piece, (weave ps (h.saysAll (h.dressAll c o k n (e :: l)))).length ≤ wc ps + wEAll (e :: l) := by
      intro ps
      induction ps with
      | nil => simp [weave]
      | cons p ps ih =>
        cases p with
        | word w =>
          show (w :: weave ps _).length ≤ (wc ps + 1) + _
          rw [List.length_cons]
          omega
        | hole j =>
          have r := saysAll_len K c l o (k + 1) (n + size e) m2 bs.2 ps
          show (h.says (if (h.may o k e.top && !c.contains n) = true then h.dress c n e else .paren (h.dress c n e)) ++ weave ps (h.saysAll (h.dressAll c o (k + 1) (n + size e) l))).length ≤ wc ps + _
          rw [List.length_append]
          have : (h.says (if (h.may o k e.top && !c.contains n) = true then h.dress c n e else .paren (h.dress c n e))).length ≤ (h.says (h.dress c n e)).length + 2 := by
            split
            · omega
            · show (0 :: (h.says (h.dress c n e) ++ [1])).length ≤ _
              simp
          omega
    exact hd ps
end
mutual
theorem wE_size : ∀ e : Ex, brackets e = 0 → wE e ≤ 9 * size e
  | .atom _, _ => by simp [wE, size]
  | .op _ ks, b => by
    have := wEAll_size ks (by unfold brackets at b; exact b)
    simp only [wE, size]
    omega
  | .paren e, b => by
    unfold brackets at b
    omega
theorem wEAll_size : ∀ l : List Ex, bracketsAll l = 0 → wEAll l ≤ 9 * sizeAll l
  | [], _ => by simp [wEAll]
  | e :: l, b => by
    unfold bracketsAll at b
    have a := wE_size e (by omega)
    have c := wEAll_size l (by omega)
    simp only [wEAll, sizeAll]
    omega
end
theorem weave_ne : ∀ (l : List Piece) (m : List (List Nat)), hasWord l = true → weave l m ≠ []
  | .word _ :: _, _, _ => by simp [weave]
  | .hole _ :: l, m, h => by
    show m.headD [] ++ weave l m.tail ≠ []
    intro z
    exact weave_ne l m.tail h (List.append_eq_nil_iff.mp z).2
theorem says_ne {h : House} (K : Ok h) (c : List Nat) {e : Ex} (n : Nat) (m : h.made e = true) (b : brackets e = 0) : h.says (h.dress c n e) ≠ [] := by
  cases e with
  | atom a =>
    show ([a] : List Nat) ≠ []
    simp
  | op o ks =>
    obtain ⟨x, hx, hl, hm⟩ := made_op m
    refine weave_ne _ _ ?_
    rw [pieces_of hx]
    exact pieces_word (K.op_at hx).some_
  | paren e =>
    unfold brackets at b
    omega
/-! ### made sure -/
def sureB (h : House) (e : Ex) (c : List Nat) : Bool := decide ((h.says (h.dress c 0 e)).length ≤ 32) && decide (cnt h (h.says (h.dress c 0 e)) (List.range h.ops.length) 0 (h.says (h.dress c 0 e)).length = 1)
def tries (l : List Nat) : List (List Nat) := (List.range (l.length + 1)).flatMap fun k => choices k l
theorem find_map {α β : Type} (f : α → β) (q : β → Bool) : ∀ l : List α, (l.map f).find? q = (l.find? fun a => q (f a)).map f
  | [] => rfl
  | a :: l => by
    rw [List.map_cons, List.find?_cons, List.find?_cons]
    cases q (f a) with
    | true => rfl
    | false => exact find_map f q l
theorem sure_eq {h : House} (K : Ok h) {e : Ex} (m : h.made e = true) (b : brackets e = 0) : h.sure e = ((tries (h.free 0 e)).find? (sureB h e)).map fun c => h.dress c 0 e := by
  have e1 : h.sure e = ((tries (h.free 0 e)).map fun c => h.dress c 0 e).find? fun u => decide ((h.says u).length ≤ TEXT) && (h.with_ (h.says u)).count == 1 := rfl
  rw [e1, find_map]
  congr 1
  refine congrArg (fun f => (tries (h.free 0 e)).find? f) ?_
  funext c
  unfold sureB
  rw [count_eq K (says_ne K c 0 m b), Bool.eq_iff_iff]
  simp only [Bool.and_eq_true, beq_iff_eq, decide_eq_true_eq]
  exact Iff.rfl
theorem find_at {α : Type} {q : α → Bool} {pre post : List α} {a : α} (h1 : ∀ x ∈ pre, q x = false) (h2 : q a = true) : (pre ++ a :: post).find? q = some a := by
  induction pre with
  | nil => rw [List.nil_append, List.find?_cons, h2]
  | cons x pre ih =>
    rw [List.cons_append, List.find?_cons, h1 x (List.mem_cons_self ..)]
    exact ih fun y hy => h1 y (List.mem_cons_of_mem _ hy)
theorem find_none {α : Type} {q : α → Bool} {l : List α} (h : ∀ x ∈ l, q x = false) : l.find? q = none := by
  rw [List.find?_eq_none]
  intro x hx z
  rw [h x hx] at z
  cases z
theorem tries_mem {l c : List Nat} (h : c ∈ tries l) : c.Sublist l := by
  unfold tries at h
  obtain ⟨k, _, hk⟩ := List.mem_flatMap.mp h
  exact (choices_ok k l c hk).2
/-- how many brackets there are then -/
theorem sure_brackets {h : House} (K : Ok h) {e : Ex} {c : List Nat} (m : h.made e = true) (b : brackets e = 0) (hc : c.Sublist (h.free 0 e)) : brackets (h.dress c 0 e) = (barred h e).length + c.length := by
  rw [dress_brackets K c m b]
  rw [free_eq K m b, chosen_len (by rw [← free_eq K m b]; exact idx_sorted 0 _) hc]
  rfl
end Wo
end
section
set_option linter.all false
set_option Elab.async false
namespace Wo
open Sq15
/-! ### one list of calls -/
def numsT : List Nat := [2, 2, 2, 2, 3, 0, 1, 0, 0, 0]
def rowsT : List Nat := [1, 1, 0, 0, 0, 1, 0, 1, 1, 1]
structure Cut (r : List Int) (pd n k : Nat) (nums row t : List Int) : Prop where
  lo : 1 ≤ pd
  hi : pd ≤ 10
  nt : numsT[pd - 1]? = some n
  rt : rowsT[pd - 1]? = some k
  few : n ≤ r.length
  nums : nums = r.take n
  row : (k = 0 ∧ row = [] ∧ t = r.drop n) ∨ (k = 1 ∧ ∃ (m : Nat) (r2 : List Int), r.drop n = (m : Int) :: r2 ∧ m ≤ r2.length ∧ row = r2.take m ∧ t = r2.drop m)
theorem shape_some {p : Int} {n k : Nat} (h : PySq15.shape p = some (n, k)) : ∃ pd : Nat, p = (pd : Int) ∧ 1 ≤ pd ∧ pd ≤ 10 ∧ numsT[pd - 1]? = some n ∧ rowsT[pd - 1]? = some k := by
  unfold PySq15.shape at h
  repeat (split at h; · rename_i e; cases h; exact ⟨p.toNat, by omega, by omega, by omega, by subst e; rfl, by subst e; rfl⟩)
  cases h
theorem call_some {l : List Int} {c : List (List Int)} {t : List Int} (h : PyFlat.call PySq15.shape l = some (c, t)) : ∃ (pd n k : Nat) (r nums row : List Int), l = (pd : Int) :: r ∧ Cut r pd n k nums row t ∧ c = if k = 0 then [(pd : Int) :: nums] else [(pd : Int) :: nums, row] := by
  cases l with
  | nil => cases h
  | cons p r =>
    unfold PyFlat.call at h
    simp only [] at h
    cases hs : PySq15.shape p with
    | none => rw [hs] at h; cases h
    | some nk =>
      obtain ⟨n, k⟩ := nk
      rw [hs] at h
      simp only [] at h
      obtain ⟨pd, rfl, lo, hi, nt, rt⟩ := shape_some hs
      split at h
      · cases h
      · rename_i few
        have k01 : k = 0 ∨ k = 1 := by
          have : k ∈ rowsT := List.mem_of_getElem? rt
          simp [rowsT] at this
          omega
        rcases k01 with rfl | rfl
        · simp only [PyFlat.rows] at h
          cases h
          exact ⟨pd, n, 0, r, _, [], rfl, ⟨lo, hi, nt, rt, by omega, rfl, .inl ⟨rfl, rfl, rfl⟩⟩, rfl⟩
        · simp only [PyFlat.rows] at h
          cases hr : r.drop n with
          | nil => rw [hr] at h; simp [PyFlat.row] at h
          | cons m r2 =>
            rw [hr] at h
            unfold PyFlat.row at h
            by_cases c0 : 0 ≤ m ∧ m.toNat ≤ r2.length
            · simp only [if_pos c0] at h
              cases h
              exact ⟨pd, n, 1, r, _, _, rfl, ⟨lo, hi, nt, rt, by omega, rfl, .inr ⟨rfl, m.toNat, r2, by rw [hr, Int.toNat_of_nonneg c0.1], c0.2, rfl, rfl⟩⟩, rfl⟩
            · simp only [if_neg c0] at h
              cases h
theorem whole_id (c : List (List Int)) : PySq15.whole c = c := by
  unfold PySq15.whole
  split <;> rfl
theorem answers_some {L : List Int} {cs : List (List (List Int))} (h : PyFlat.calls PySq15.shape L.length L = some cs) : PySq15.answers L = PyFlat.told (PyFlat.played Sq15Neutral.step Sq15Neutral.start cs) := by
  unfold PySq15.answers PySq15.calls
  rw [h]
  simp only []
  rw [show cs.map PySq15.whole = cs from by
    rw [show PySq15.whole = id from funext whole_id, List.map_id]]
theorem asked_some {L : List Int} (h : PySq15.answers_asked L = true) : ∃ cs, PyFlat.calls PySq15.shape L.length L = some cs ∧ (∀ c ∈ cs, Sq15Neutral.asked1 c = true) ∧ (PySq15.answers L).length ≤ 10000000 := by
  unfold PySq15.answers_asked at h
  cases e : PyFlat.calls PySq15.shape L.length L with
  | none => rw [e] at h; cases h
  | some cs =>
    rw [e] at h
    simp only [Bool.and_eq_true] at h
    obtain ⟨⟨⟨⟨h1, h2⟩, h3⟩, h4⟩, h5⟩ := h
    refine ⟨cs, rfl, fun c hc => ?_, of_decide_eq_true h5⟩
    rw [show cs.map PySq15.whole = cs from by
      rw [show PySq15.whole = id from funext whole_id, List.map_id]] at h4
    unfold Sq15Neutral.asked at h4
    rw [Bool.and_eq_true, Bool.and_eq_true, Bool.and_eq_true] at h4
    exact List.all_eq_true.mp h4.2.2.1 c hc
theorem nat_of {z : Int} (h : Sq15Neutral.natural z 64 = true) : z = (z.toNat : Int) := by
  unfold Sq15Neutral.natural at h
  rw [Bool.and_eq_true] at h
  have := of_decide_eq_true h.1
  omega
theorem nats_of {l : List Int} (h : Sq15Neutral.long (fun z => Sq15Neutral.natural z 64) l = true) : l = (l.map Int.toNat).map Int.ofNat ∧ l.length ≤ 1024 := by
  unfold Sq15Neutral.long at h
  rw [Bool.and_eq_true] at h
  refine ⟨?_, of_decide_eq_true h.1⟩
  have a := List.all_eq_true.mp h.2
  rw [List.map_map]
  refine (List.map_id l).symm.trans (List.map_congr_left fun z hz => ?_)
  exact nat_of (a z hz)
end Wo
end
section
set_option Elab.async false
set_option linter.all false
set_option maxRecDepth 100000
set_option maxHeartbeats 4000000
namespace Wo
open PySem PySem.Spec PyProof.Rows L2
def topS (i : Nat) : Stmt := PySem.Challenge.pw_wordoperators_s01_answers.main.body.getD i (.Pass ⟨0, 0, 0, 0⟩)

/-! ### rules of one's own -/
def GInt (mg : Str → Option Value) (x : Str) (i : Int) : Prop := ∃ t, mg x = some (.int i t)
def GTup (K : PySem.W.Frag) (mg : Str → Option Value) (x : Str) (vs : List V) : Prop := ∃ a, mg x = some (.ref a) ∧ ∀ H : Hp, SqT K H a vs
section
variable {X : Cx} {x : Str} {i : Int} {vs : List V} {pos : Pos} {e : Expr} {f : Str} {ta tb : TE} {a b : Expr}
theorem pe_gi (h : GInt X.mg x i) (hg : Gl X x := by rfl) (hd : (x == ("__debug__" : Str)) = false := by decide) : PE X (.Name x pos) (tC (.int i)) := by
  obtain ⟨t, h⟩ := h
  exact pe_glob hg h ⟨t, rfl⟩ hd
def tGT (K : PySem.W.Frag) (vs : List V) : TE := fun _ H Q => ∀ a : Addr, (∀ H : Hp, SqT K H a vs) → Q (.ref a) H
theorem pe_gt (h : GTup X.K X.mg x vs) (hg : Gl X x := by rfl) (hd : (x == ("__debug__" : Str)) = false := by decide) : PE X (.Name x pos) (tGT X.K vs) := by
  obtain ⟨a, h, hs⟩ := h
  exact ⟨fun pins s σ H Q I q => (pe_glob (v := V.ref a) hg h rfl hd).run pins s σ H Q I (q a hs)⟩
/-- a class's fields -/
structure Fl (K : PySem.W.Frag) (C : Addr) (fs : List Str) : Prop where
  cl : Cls K C
  na : ∀ f ∈ fs, NoAttr K C f
def tF (C : Addr) (ta : TE) (f : Str) : TE := fun σ H Q => ta σ H fun x H1 => ∃ a dx fs v, x = .ref a ∧ H1 a = some (.ins C dx fs) ∧ fs.lookup f = some v ∧ Q v H1
theorem pe_f {C : Addr} {fl : List Str} (T : Fl X.K C fl) (he : PE X e ta) (hf : f ∈ fl := by simp) (hb : attributeBase e f X.env (eval e X.env) = eval e X.env := by rfl) : PE X (.Attribute e f pos) (tF C ta f) := by
  refine ⟨fun pins s σ H Q I h => ?_⟩
  refine attr_of hb (thn (he.run pins s σ H _ I h) fun u s1 ⟨x, H1, I1, rx, a, dx, fs, v, ex, ea, l, q⟩ => ?_)
  subst ex
  obtain rfl : u = Value.ref a := rx
  exact getattr_ok I1 ea T.cl (T.na f hf) l fun u' s2 I2 ru => ⟨v, H1, I2, ru, q⟩
def sF (C : Addr) (ta tv : TE) (f : Str) : TS := fun D σ H => tv σ H fun y H1 => ta σ H1 fun x H2 => ∃ a dx fs, x = .ref a ∧ H2 a = some (.ins C dx fs) ∧ fs.length < 1000 ∧ D.nx σ (upd H2 a (.ins C dx (putF f y fs)))
theorem ps_f {C : Addr} {fl : List Str} {o value : Expr} {pos' : Pos} {tv : TE} (T : Fl X.K C fl) (ha : PE X o ta) (hv : PE X value tv) (hf : f ∈ fl := by simp) (hs : swapsWith value (some (.Attribute o f pos')) pos.line X.env = pure false := by rfl) : PS X (.Assign [.Attribute o f pos'] value pos) (sF C ta tv f) := by
  refine ⟨fun pins s σ H D I h => ?_⟩
  refine plainObj_wpAny_Assign_Attribute (thn (hv.run pins s σ H _ I h) fun u s1 ⟨y, H1, I1, ry, q⟩ => thn (ha.run pins s1 σ H1 _ I1 q) fun ov s2 ⟨x, H2, I2, rx, a, dx, fs, ex, ea, l, q2⟩ => ?_) hs
  subst ex
  obtain rfl : ov = Value.ref a := rx
  exact setattr_ok I2 ea T.cl (T.na f hf) l ry fun s3 I3 => ⟨σ, _, I3, q2⟩
end

/-! ### defs, methods, classes by their promises -/
section
variable (P : Program) (w : World) (K : PySem.W.Frag) (mg : Str → Option Value) (base : Heap)
structure DefW (k : Nat) (x : Str) (ps : List Str) (sp : Sp) : Prop where
  ex : ∃ f fd, mg x = some (.ref f) ∧ PySem.W.keepIn K (.ref f) = true ∧ Binds K fd ps [] ∧ FnOk P w K mg base CX0 k f fd ps sp
structure MetW (C : Addr) (k : Nat) (m : Str) (ps : List Str) (sp : Sp) : Prop where
  ex : ∃ f fd, Meth K C m f ∧ Binds K fd ps [] ∧ FnOk P w K mg base CX0 k f fd ps sp
structure MakW (C : Addr) (k : Nat) (x : Str) (ps : List Str) (sp : Sp) : Prop where
  ex : ∃ f fd, mg x = some (.ref C) ∧ Mk K C f ∧ Binds K fd ps [] ∧ FnOk P w K mg base CX0 k f fd ps sp
end
section
variable {X : Cx} {k : Nat} {x m : Str} {ps : List Str} {sp : Sp} {p pos apos : Pos} {e o : Expr} {es : List Expr} {ta : TE} {t : TA} {C : Addr}
theorem pe_d (D : DefW X.prog X.w X.K X.mg X.base k x ps sp) (hr : Room k X.A) (ha : PA X (e :: es) t) (hg : Gl X x := by rfl) (hdb : (x == ("__debug__" : Str)) = false := by decide) (he : starEach (e :: es) X.env = (false, eval e X.env) :: starEach es X.env := by rfl) (hpl : (backTo pos (starEach es X.env)).any (·.1) = false := by rfl) :
    PE X (.Call (.Name x p) (e :: es) [] pos) (tCall sp [] E0 t) := by
  obtain ⟨f, fd, h1, h2, h3, h4⟩ := D.ex
  exact pe_call h4 hr hg h1 h2 h3 .nil pass0 ha hdb he hpl
theorem pe_m {pl : Sem Bool} {fl : List Str} (D : MetW X.prog X.w X.K X.mg X.base C k m ps sp) (T : Fl X.K C fl) (hr : Room k X.A) (he : PE X o ta) (ha : PA X (e :: es) t)
    (hst : starEach (e :: es) X.env = (false, eval e X.env) :: starEach es X.env := by rfl) (hpl : (backTo pos (starEach es X.env)).any (·.1) = false := by rfl)
    (ht : eval (.Call (.Attribute o m apos) (e :: es) [] pos) X.env = (do
      let ov ← eval o X.env
      standAt apos.atName
      let (f, first) ← holding [ov] (getMethod ov m pl)
      callWith pos f first (backTo pos (starEach (e :: es) X.env)) (backToKw pos (keywordEach [] X.env))) := by rfl) :
    PE X (.Call (.Attribute o m apos) (e :: es) [] pos) (tMeth C m sp [] E0 ta t) := by
  obtain ⟨f, fd, h1, h2, h3⟩ := D.ex
  exact pe_meth he T.cl h1 h3 hr h2 .nil pass0 ha hst hpl ht
theorem pe_m0 {pl : Sem Bool} {fl : List Str} (D : MetW X.prog X.w X.K X.mg X.base C k m ps sp) (T : Fl X.K C fl) (hr : Room k X.A) (he : PE X o ta)
    (ht : eval (.Call (.Attribute o m apos) [] [] pos) X.env = (do
      let ov ← eval o X.env
      standAt apos.atName
      let (f, first) ← holding [ov] (getMethod ov m pl)
      callWith pos f first (backTo pos (starEach [] X.env)) (backToKw pos (keywordEach [] X.env))) := by rfl) :
    PE X (.Call (.Attribute o m apos) [] [] pos) (tMeth C m sp [] E0 ta tNil) := by
  obtain ⟨f, fd, h1, h2, h3⟩ := D.ex
  exact pe_meth0 he T.cl h1 h3 hr h2 .nil pass0 ht
theorem pe_k (D : MakW X.prog X.w X.K X.mg X.base C k x ps sp) (hr : Room (k + 1) X.A) (ha : PA X (e :: es) t) (hg : Gl X x := by rfl) (hdb : (x == ("__debug__" : Str)) = false := by decide) (he : starEach (e :: es) X.env = (false, eval e X.env) :: starEach es X.env := by rfl) (hpl : (backTo pos (starEach es X.env)).any (·.1) = false := by rfl) :
    PE X (.Call (.Name x p) (e :: es) [] pos) (tMake C sp [] E0 t) := by
  obtain ⟨f, fd, h1, h2, h3, h4⟩ := D.ex
  exact pe_make h2 h4 hr hg h1 h3 .nil pass0 ha hdb he hpl
end
section
variable {P : Program} {w : World} {K : PySem.W.Frag} {mg : Str → Option Value} {base : Heap} {k j : Nat} {x m : Str} {ps : List Str} {sp : Sp} {C : Addr}
theorem DefW.mono (D : DefW P w K mg base j x ps sp) (h : j ≤ k) : DefW P w K mg base k x ps sp := by
  obtain ⟨f, fd, h1, h2, h3, h4⟩ := D.ex
  exact ⟨f, fd, h1, h2, h3, h4.mono h⟩
theorem MetW.mono (D : MetW P w K mg base C j m ps sp) (h : j ≤ k) : MetW P w K mg base C k m ps sp := by
  obtain ⟨f, fd, h1, h2, h4⟩ := D.ex
  exact ⟨f, fd, h1, h2, h4.mono h⟩
end
/-- where a def stands -/
structure DefAt (K : PySem.W.Frag) (mg : Str → Option Value) (x : Str) (st : Stmt) (ps : List Str) : Prop where
  ex : ∃ f fd, mg x = some (.ref f) ∧ Fun K x x st f fd ∧ Binds K fd ps []
structure MetAt (K : PySem.W.Frag) (C : Addr) (m qual : Str) (st : Stmt) (ps : List Str) : Prop where
  ex : ∃ f fd, Meth K C m f ∧ Fun K m qual st f fd ∧ Binds K fd ps []
structure MakAt (K : PySem.W.Frag) (mg : Str → Option Value) (C : Addr) (x qual : Str) (st : Stmt) (ps : List Str) : Prop where
  ex : ∃ f fd, mg x = some (.ref C) ∧ Mk K C f ∧ Fun K "__init__" qual st f fd ∧ Binds K fd ps []
section
variable {P : Program} {w : World} {K : PySem.W.Frag} {mg : Str → Option Value} {base : Heap} {k : Nat} {x m qual : Str} {st : Stmt} {N ps : List Str} {sp : Sp} {C : Addr}
/-- a body's derivation and its reading -/
abbrev BodyOk (P : Program) (w : World) (K : PySem.W.Frag) (mg : Str → Option Value) (base : Heap) (qual : Str) (st : Stmt) (N : List Str) (k : Nat) (sp : Sp) : Prop :=
  ∀ (f : Addr) (cdv : Value) (A : Around) (outer : List Env) (s : Shared) (H : Hp) (vs : List V) (Q : VK) (E : XK), Room k (A.deeper (envOfC qual (defScope st) s.heap.objs.size f cdv)) → sp vs H Q E →
      ∃ t, PSs (cxOf CX0 P w K mg base N qual (defScope st) f cdv A outer s H E).nox (defBody st) t ∧ t { nx := fun _ H' => Q .non H', rt := Q } (start N vs) H
theorem DefAt.ok (D : DefAt K mg x st ps) (S : FnScope N ps (defScope st)) (len : ∀ vs H Q E, sp vs H Q E → vs.length = ps.length) (hb : BodyOk P w K mg base x st N k sp) : DefW P w K mg base (k + 1) x ps sp := by
  obtain ⟨f, fd, h1, h2, h3⟩ := D.ex
  exact ⟨f, fd, h1, h2.kp, h3, h2.ok S len (hb f)⟩
theorem MetAt.ok (D : MetAt K C m qual st ps) (S : FnScope N ps (defScope st)) (len : ∀ vs H Q E, sp vs H Q E → vs.length = ps.length) (hb : BodyOk P w K mg base qual st N k sp) : MetW P w K mg base C (k + 1) m ps sp := by
  obtain ⟨f, fd, h1, h2, h3⟩ := D.ex
  exact ⟨f, fd, h1, h3, h2.ok S len (hb f)⟩
theorem MakAt.ok (D : MakAt K mg C x qual st ps) (S : FnScope N ps (defScope st)) (len : ∀ vs H Q E, sp vs H Q E → vs.length = ps.length) (hb : BodyOk P w K mg base qual st N k sp) : MakW P w K mg base C (k + 1) x ps sp := by
  obtain ⟨f, fd, h1, h2, h3, h4⟩ := D.ex
  exact ⟨f, fd, h1, h2, h4, h3.ok S len (hb f)⟩
end

/-! ### the module's names -/
structure Txt (K : PySem.W.Frag) (mg : Str → Option Value) (CH CO CC : Addr) : Prop where
  flH : Fl K CH ["many_words", "many_groups", "alone", "operators", "closer", "chart"]
  flO : Fl K CO ["way", "group", "pieces", "spots"]
  flC : Fl K CC ["house", "text", "depths", "sorts", "sort_of", "ways_known", "stretch_known"]
  g_CLOSED : GInt mg "CLOSED" 0
  g_THING : GInt mg "THING" (-1)
  g_OPEN : GInt mg "OPEN" 0
  g_SHUT : GInt mg "SHUT" 1
  g_OPERATOR : GInt mg "OPERATOR" 64
  g_IN_BRACKETS : GInt mg "IN_BRACKETS" 128
  g_MOST_NUMBERS : GInt mg "MOST_NUMBERS" 40
  g_MOST_BARE : GInt mg "MOST_BARE" 8
  g_MOST_WORDS : GInt mg "MOST_WORDS" 32
  g_NO_OWNER : GInt mg "NO_OWNER" (-1)
  g_LEAST_WORDS : GInt mg "LEAST_WORDS" 3
  g_MOST_HOUSE_WORDS : GInt mg "MOST_HOUSE_WORDS" 64
  g_MOST_GROUPS : GInt mg "MOST_GROUPS" 16
  g_MOST_WAY : GInt mg "MOST_WAY" 5
  g_MOST_OWN : GInt mg "MOST_OWN" 6
  g_MOST_OPERATORS : GInt mg "MOST_OPERATORS" 24
  g_MOST_TOLD : GInt mg "MOST_TOLD" 1000000000000000000
  g_LAST_BRACKET : GInt mg "LAST_BRACKET" 1
  g_BEGIN : GInt mg "BEGIN" 1
  g_OP : GInt mg "OP" 2
  g_TIGHTER : GInt mg "TIGHTER" 3
  g_ORDER : GInt mg "ORDER" 4
  g_MAY : GInt mg "MAY" 5
  g_READ : GInt mg "READ" 6
  g_READING : GInt mg "READING" 7
  g_PRINT : GInt mg "PRINT" 8
  g_SURE : GInt mg "SURE" 9
  g_WITH_FIRST : GTup K mg "WITH_FIRST" [.int 2, .int 3, .int 4, .int 5]
  g_WITH_LAST : GTup K mg "WITH_LAST" [.int 1, .int 3, .int 4, .int 5]
  g_TO_LEFT : GTup K mg "TO_LEFT" [.int 2, .int 4]
  g_TO_RIGHT : GTup K mg "TO_RIGHT" [.int 1, .int 5]
  g_NUMBERS : GTup K mg "NUMBERS" [.int 2, .int 2, .int 2, .int 2, .int 3, .int 0, .int 1, .int 0, .int 0, .int 0]
  g_ROWS : GTup K mg "ROWS" [.int 1, .int 1, .int 0, .int 0, .int 0, .int 1, .int 0, .int 1, .int 1, .int 1]
  n_len : mg "len" = none
  n_range : mg "range" = none
  n_enumerate : mg "enumerate" = none
  n_int : mg "int" = none
  n_min : mg "min" = none
  n_tuple : mg "tuple" = none
  n_list : mg "list" = none
  n_all : mg "all" = none

theorem hu65 {A : Around} {k : Nat} (hr : Room k A) : A.units + 65 < cLine := by
  have := hr.un
  omega

/-! ### a list against [] -/
section
variable {X : Cx}
def rEqNil (K : PySem.W.Frag) : R2 := fun x y H Q => ∃ a b xs, x = .ref a ∧ y = .ref b ∧ SqL K H a xs ∧ SqL K H b [] ∧ Q (.bl xs.isEmpty) H
theorem op_eqNil (hu : X.A.units < cLine) : OpR X (compareOp .Eq) (rEqNil X.K) := by
  intro pins s σ H x y v u Q I rx ry h
  obtain ⟨a, b, xs, rfl, rfl, ha, hb, q⟩ := h
  cases (show v = Value.ref a from rx)
  cases (show u = Value.ref b from ry)
  obtain ⟨us, r1, p1, _⟩ := I.list ha
  obtain ⟨ws, r2, p2, _⟩ := I.list hb
  cases r2
  cases r1 with
  | nil => exact SeqAt.eq_listAt (e := fun _ => true) p1.isList p2.isList rfl hu (fun j h1 _ => absurd h1 (by simp)) ⟨.bl true, H, I, rfl, q⟩
  | cons r t => exact SeqAt.eq_list_lengthsAt p1.isList p2.isList (by simp) hu ⟨.bl false, H, I, rfl, q⟩
theorem dp_ints {K : PySem.W.Frag} {H : Hp} : ∀ ns : List Int, DpAll K H (ns.map V.int) (ns.map PyData.int)
  | [] => .nil
  | n :: r => .cons (.int n) (dp_ints r)
theorem lay_ints : ∀ ns : List Int, PyData.canLayAll0 (ns.map PyData.int) = true
  | [] => by simp [PyData.canLayAll0]
  | n :: r => by simp [PyData.canLayAll0, PyData.canLay0, lay_ints r]
theorem depth_ints : ∀ ns : List Int, PyData.depthAll (ns.map PyData.int) = 0
  | [] => by simp [PyData.depthAll]
  | n :: r => by simp [PyData.depthAll, PyData.depth, depth_ints r]
theorem shaped_ints (ns : List Int) : SeqAt.shaped (.list (ns.map PyData.int)) = true := by
  show (PyData.canLay0 (.list (ns.map PyData.int)) && decide (PyData.depth (.list (ns.map PyData.int)) ≤ 64)) = true
  rw [Bool.and_eq_true]
  exact ⟨by simp only [PyData.canLay0]; exact lay_ints ns, decide_eq_true (by simp only [PyData.depth, depth_ints]; omega)⟩
def rNeNil (K : PySem.W.Frag) : R2 := fun x y H Q => ∃ a b ns, x = .ref a ∧ y = .ref b ∧ SqL K H a (ns.map V.int) ∧ SqL K H b [] ∧ Q (.bl (!(ns : List Int).isEmpty)) H
theorem op_neNil (hu : X.A.units + 64 < cLine) : OpR X (compareOp .NotEq) (rNeNil X.K) := by
  intro pins s σ H x y v u Q I rx ry h
  obtain ⟨a, b, ns, rfl, rfl, ha, hb, q⟩ := h
  refine op_neD hu pins s σ H _ _ v u Q I rx ry ⟨.list (ns.map PyData.int), .list [], .lst ha (dp_ints ns), .lst hb .nil, shaped_ints ns, shaped_ints [], ?_⟩
  have e : PyData.eqv (.list (ns.map PyData.int)) (.list []) = ns.isEmpty := by
    cases ns with
    | nil => simp [PyData.eqv, PyData.eqvAll]
    | cons n r => simp [PyData.eqv, PyData.eqvAll]
  rw [e]
  exact q
end
/-! ### the same with the written part told by its own name (within a comprehension) -/
section
variable {X : Cx} {K : PySem.W.Frag}
theorem ix_listK (h : X.K = K) : IxR X (rIxL K) := h ▸ ix_list
theorem ix_tupK (h : X.K = K) : IxR X (rIxT K) := h ▸ ix_tup
theorem op_eqNilK (h : X.K = K) (hu : X.A.units < cLine) : OpR X (compareOp .Eq) (rEqNil K) := h ▸ op_eqNil hu
theorem op_in_seqK (h : X.K = K) : OpR X (compareOp .In) (rIn K false) := h ▸ op_in_seq
theorem pg_tupK {es : List Expr} {k : Nat} {t : TGs} {n : Nat} {pos : Pos} (h : X.K = K) (hc : X.calm = true) (g : PGs X es t) (hn : (assignEach es X.env).length = n := by rfl) (hst : (assignEach es X.env).findIdx? (·.1) = none := by rfl) : PG X (.Tuple es k pos) (gTup K n t) := by
  subst h
  exact pg_tup hc g hn hst
end
end Wo
end
section
set_option Elab.async false
set_option linter.all false
set_option maxRecDepth 100000
set_option maxHeartbeats 4000000
namespace Wo
open PySem PySem.Spec PyProof.Rows L2
/-! ### what stands in the heap -/
def At (ex : List Addr) (H : Hp) (a : Addr) (o : HO) : Prop := H a = some o ∧ a ∉ ex
def Kp (ex : List Addr) (H H' : Hp) : Prop := ∀ b o, H b = some o → b ∉ ex → H' b = some o
theorem Kp.refl {ex : List Addr} {H : Hp} : Kp ex H H := fun _ _ h _ => h
theorem Kp.trans {ex : List Addr} {H H1 H2 : Hp} (a : Kp ex H H1) (b : Kp ex H1 H2) : Kp ex H H2 := fun c o h n => b c o (a c o h n) n
theorem Kp.mono {ex ey : List Addr} {H H1 : Hp} (a : Kp ex H H1) (h : ∀ x ∈ ex, x ∈ ey) : Kp ey H H1 := fun c o e n => a c o e fun z => n (h c z)
theorem Kp.new {ex : List Addr} {H : Hp} {p : Addr} {o : HO} (h : H p = none) : Kp ex H (upd H p o) := fun b u q _ => by rw [upd_ne (ne_of_none q h)]; exact q
theorem Kp.put {ex : List Addr} {H : Hp} {p : Addr} {o : HO} (h : p ∈ ex) : Kp ex H (upd H p o) := fun b u q n => by rw [upd_ne (fun z => n (by rw [z]; exact h))]; exact q
theorem Kp.same {H H' : Hp} (a : Kp [] H H') : Same H H' := fun b o h => a b o h (by simp)
theorem Same.kp {ex : List Addr} {H H' : Hp} (a : Same H H') : Kp ex H H' := fun b o h _ => a b o h
theorem At.keep {ex : List Addr} {H H' : Hp} {a : Addr} {o : HO} (h : At ex H a o) (k : Kp ex H H') : At ex H' a o := ⟨k _ _ h.1 h.2, h.2⟩
theorem At.same {ex : List Addr} {H H' : Hp} {a : Addr} {o : HO} (h : At ex H a o) (k : Same H H') : At ex H' a o := ⟨k _ _ h.1, h.2⟩
theorem Kp.free {ex : List Addr} {H H' : Hp} (k : Kp ex H H') {p : Addr} (h : H' p = none) (n : p ∉ ex) : H p = none := by
  cases q : H p with
  | none => rfl
  | some o =>
    rw [k p o q n] at h
    cases h
theorem At.seq {K : PySem.W.Frag} {ex : List Addr} {H : Hp} {a : Addr} {xs : List V} (h : At ex H a (.lst xs)) : SqL K H a xs := SqL.of h.1
theorem At.sqt {K : PySem.W.Frag} {ex : List Addr} {H : Hp} {a : Addr} {xs : List V} (h : At ex H a (.tup xs)) : SqT K H a xs := SqT.of h.1
def vn (l : List Nat) : List V := l.map fun n : Nat => V.int (n : Int)
def pzs (l : List Sq15.Piece) : List V := l.map fun p => V.int (pz p)
theorem vn_at {l : List Nat} {i : Nat} {x : Nat} (h : l[i]? = some x) : (vn l)[i]? = some (V.int (x : Int)) := by
  unfold vn
  rw [List.getElem?_map, h]
  rfl
theorem vn_len (l : List Nat) : (vn l).length = l.length := List.length_map _
theorem pzs_len (l : List Sq15.Piece) : (pzs l).length = l.length := List.length_map _
theorem pzs_at {l : List Sq15.Piece} {i : Nat} {p : Sq15.Piece} (h : l[i]? = some p) : (pzs l)[i]? = some (V.int (pz p)) := by
  unfold pzs
  rw [List.getElem?_map, h]
  rfl
def OpAt (CO : Addr) (ex : List Addr) (H : Hp) (a : Addr) (x : Sq15.Op) : Prop := ∃ dx pc sp, At ex H a (.ins CO dx [("way", .int x.fix), ("group", .int x.group), ("pieces", .ref pc), ("spots", .ref sp)]) ∧ At ex H pc (.lst (pzs x.pieces)) ∧ At ex H sp (.lst (vn (spotsF 0 x.pieces)))
theorem OpAt.keep {CO : Addr} {ex : List Addr} {H H' : Hp} {a : Addr} {x : Sq15.Op} (h : OpAt CO ex H a x) (k : Kp ex H H') : OpAt CO ex H' a x := by
  obtain ⟨dx, pc, sp, h1, h2, h3⟩ := h
  exact ⟨dx, pc, sp, h1.keep k, h2.keep k, h3.keep k⟩
theorem At.re {ex ey : List Addr} {H : Hp} {a : Addr} {o : HO} (h : At ex H a o) (sub : ∀ b ∈ ey, b ∈ ex) : At ey H a o := ⟨h.1, fun z => h.2 (sub _ z)⟩
theorem OpAt.re {CO : Addr} {ex ey : List Addr} {H : Hp} {a : Addr} {x : Sq15.Op} (h : OpAt CO ex H a x) (sub : ∀ b ∈ ey, b ∈ ex) : OpAt CO ey H a x := by
  obtain ⟨dx, pc, sp, h1, h2, h3⟩ := h
  exact ⟨dx, pc, sp, h1.re sub, h2.re sub, h3.re sub⟩
structure HA where
  dx : Addr
  al : Addr
  ol : Addr
  cl : Addr
  as : List Addr
  kvs : List (List Key × V)
def kk2 (p : Nat × Nat) : List Key := [.inl (p.1 : Int), .inl (p.2 : Int)]
def Closer (kvs : List (List Key × V)) (t : List (Nat × Nat)) : Prop := ∃ ps : List (Nat × Nat), kvs.map (·.1) = ps.map kk2 ∧ ps.Nodup ∧ ∀ p, p ∈ ps ↔ p ∈ t
structure HouseAt (CH CO : Addr) (ex : List Addr) (H : Hp) (hp : Addr) (h : Sq15.House) (cv : V) (A : HA) : Prop where
  me : At ex H hp (.ins CH A.dx [("many_words", .int h.words), ("many_groups", .int h.groups), ("alone", .ref A.al), ("operators", .ref A.ol), ("closer", .ref A.cl), ("chart", cv)])
  alone : At ex H A.al (.lst (vn h.atoms))
  ops : At ex H A.ol (.lst (A.as.map V.ref))
  len : A.as.length = h.ops.length
  op : ∀ (i : Nat) (a : Addr) (x : Sq15.Op), A.as[i]? = some a → h.ops[i]? = some x → OpAt CO (A.ol :: ex) H a x
  closer : At ex H A.cl (.dT A.kvs)
  rel : Closer A.kvs h.tighter
  neal : A.al ≠ A.ol
theorem HouseAt.keep {CH CO : Addr} {ex : List Addr} {H H' : Hp} {hp : Addr} {h : Sq15.House} {cv : V} {A : HA} (x : HouseAt CH CO ex H hp h cv A) (k : Kp ex H H') : HouseAt CH CO ex H' hp h cv A :=
  ⟨x.me.keep k, x.alone.keep k, x.ops.keep k, x.len, fun i a y h1 h2 => (x.op i a y h1 h2).keep (k.mono fun _ hb => List.mem_cons_of_mem _ hb), x.closer.keep k, x.rel, x.neal⟩
theorem HouseAt.opAt {CH CO : Addr} {ex : List Addr} {H : Hp} {hp : Addr} {h : Sq15.House} {cv : V} {A : HA} (x : HouseAt CH CO ex H hp h cv A) {o : Nat} {y : Sq15.Op} (e : h.ops[o]? = some y) : ∃ a, (A.as.map V.ref)[o]? = some (V.ref a) ∧ OpAt CO ex H a y := by
  obtain ⟨lt, _⟩ := List.getElem?_eq_some_iff.mp e
  have lt2 : o < A.as.length := by rw [x.len]; exact lt
  have e2 : A.as[o]? = some A.as[o] := List.getElem?_eq_getElem lt2
  exact ⟨_, by rw [List.getElem?_map, e2]; rfl, (x.op o _ y e2 e).re fun _ hb => List.mem_cons_of_mem _ hb⟩

/-! ### a chart -/
structure CA where
  dx : Addr
  hp : Addr
  tx : Addr
  dp : Addr
  so : Addr
  sf : Addr
  wk : Addr
  sk : Addr
  sr : List Addr
  SS : List (List Nat)
  fkv : List (List Key × V)
abbrev CA.ex (A : CA) : List Addr := [A.wk, A.sk]
structure ChartAt (CH CO CC : Addr) (H : Hp) (c : Addr) (g : Sq15.House) (T : List Nat) (A : CA) (cv : V) (B : HA) : Prop where
  me : At A.ex H c (.ins CC A.dx [("house", .ref A.hp), ("text", .ref A.tx), ("depths", .ref A.dp), ("sorts", .ref A.so), ("sort_of", .ref A.sf), ("ways_known", .ref A.wk), ("stretch_known", .ref A.sk)])
  house : HouseAt CH CO A.ex H A.hp g cv B
  text : At A.ex H A.tx (.lst (vn T))
  depths : At A.ex H A.dp (.lst ((List.range (T.length + 1)).map fun i => V.int (dep T i)))
  sorts : At A.ex H A.so (.lst (A.sr.map V.ref))
  slen : A.sr.length = A.SS.length
  sort : ∀ (i : Nat) (a : Addr) (S : List Nat), A.sr[i]? = some a → A.SS[i]? = some S → At A.ex H a (.tup (vn S))
  sort0 : A.SS[0]? = some (List.range g.ops.length)
  sin : ∀ S ∈ A.SS, S.length ≤ 24 ∧ ∀ o ∈ S, o < g.ops.length
  few : A.SS.length ≤ 200
  sof : At A.ex H A.sf (.dT A.fkv)
  sofv : ∀ (o k s : Nat), (g.pieces o)[s]? = some (.hole k) → ∃ i : Nat, valV A.fkv [.inl (o : Int), .inl (s : Int)] = some (.int (i : Int)) ∧ A.SS[i]? = some (fits g o k)
  ne : A.wk ≠ A.sk
  short : T.length ≤ 32
  ok : Ok g
theorem ChartAt.keep {CH CO CC : Addr} {H H' : Hp} {c : Addr} {g : Sq15.House} {T : List Nat} {A : CA} {cv : V} {B : HA} (x : ChartAt CH CO CC H c g T A cv B) (k : Kp A.ex H H') : ChartAt CH CO CC H' c g T A cv B :=
  ⟨x.me.keep k, x.house.keep k, x.text.keep k, x.depths.keep k, x.sorts.keep k, x.slen, fun i a S h1 h2 => (x.sort i a S h1 h2).keep k, x.sort0, x.sin, x.few, x.sof.keep k, x.sofv, x.ne, x.short, x.ok⟩
theorem ChartAt.sortAt {CH CO CC : Addr} {H : Hp} {c : Addr} {g : Sq15.House} {T : List Nat} {A : CA} {cv : V} {B : HA} (x : ChartAt CH CO CC H c g T A cv B) {i : Nat} {S : List Nat} (e : A.SS[i]? = some S) : ∃ a, (A.sr.map V.ref)[i]? = some (V.ref a) ∧ At A.ex H a (.tup (vn S)) := by
  obtain ⟨lt, _⟩ := List.getElem?_eq_some_iff.mp e
  have lt2 : i < A.sr.length := by rw [x.slen]; exact lt
  have e2 : A.sr[i]? = some A.sr[i] := List.getElem?_eq_getElem lt2
  exact ⟨_, by rw [List.getElem?_map, e2]; rfl, x.sort i _ S e2 e⟩
def kk3 (i b e : Nat) : List Key := [.inl (i : Int), .inl (b : Int), .inl (e : Int)]
def kk4 (o s b e : Nat) : List Key := [.inl (o : Int), .inl (s : Int), .inl (b : Int), .inl (e : Int)]
structure GoodW (g : Sq15.House) (T : List Nat) (kw : List (List Key × V)) : Prop where
  nd : (kw.map (·.1)).Nodup
  all : ∀ k v, (k, v) ∈ kw → ∃ o s b e : Nat, k = kk4 o s b e ∧ o < 24 ∧ s < 32 ∧ b ≤ 32 ∧ e ≤ 32 ∧ v = .int (cR g T o ((g.pieces o).drop s) b e : Nat)
structure GoodS (g : Sq15.House) (T : List Nat) (SS : List (List Nat)) (ks : List (List Key × V)) : Prop where
  nd : (ks.map (·.1)).Nodup
  all : ∀ k v, (k, v) ∈ ks → ∃ i b e : Nat, k = kk3 i b e ∧ i < 200 ∧ b ≤ 32 ∧ e ≤ 32 ∧ ∃ S, SS[i]? = some S ∧ v = .int (cnt g T S b e : Nat)
def Memo (H : Hp) (g : Sq15.House) (T : List Nat) (A : CA) : Prop := ∃ kw ks, H A.wk = some (.dT kw) ∧ H A.sk = some (.dT ks) ∧ GoodW g T kw ∧ GoodS g T A.SS ks
theorem Memo.keep {H H' : Hp} {g : Sq15.House} {T : List Nat} {A : CA} (m : Memo H g T A) (k : Same H H') : Memo H' g T A := by
  obtain ⟨kw, ks, h1, h2, h3, h4⟩ := m
  exact ⟨kw, ks, k _ _ h1, k _ _ h2, h3, h4⟩

/-! ### sizes of the dicts -/
theorem nd_bound : ∀ (B : Nat) (l : List Nat), l.Nodup → (∀ x ∈ l, x < B) → l.length ≤ B
  | 0, [], _, _ => Nat.le_refl 0
  | 0, x :: l, _, h => absurd (h x (List.mem_cons_self ..)) (Nat.not_lt_zero x)
  | B + 1, l, nd, h => by
    have q := nd_bound B (l.erase B) (nd.erase B) fun x hx => by
      have m := (List.Nodup.mem_erase_iff nd).mp hx
      have := h x m.2
      have := m.1
      omega
    by_cases c : B ∈ l
    · rw [List.length_erase_of_mem c] at q
      omega
    · rw [List.erase_of_not_mem c] at q
      omega
theorem nd_map {α β : Type} {f : α → β} : ∀ {l : List α}, (l.map f).Nodup → l.Nodup
  | [], _ => List.nodup_nil
  | x :: l, h => by
    rw [List.map_cons, List.nodup_cons] at h
    exact List.nodup_cons.mpr ⟨fun m => h.1 (List.mem_map.mpr ⟨x, m, rfl⟩), nd_map h.2⟩
theorem nd_code {α : Type} (f : α → Nat) (B : Nat) (l : List α) (nd : l.Nodup) (inj : ∀ x ∈ l, ∀ y ∈ l, f x = f y → x = y) (lt : ∀ x ∈ l, f x < B) : l.length ≤ B := by
  rw [← List.length_map (f := f)]
  refine nd_bound B _ ?_ fun x hx => ?_
  · clear lt
    induction l with
    | nil => exact List.nodup_nil
    | cons a l ih =>
      rw [List.nodup_cons] at nd
      rw [List.map_cons, List.nodup_cons]
      refine ⟨fun m => ?_, ih nd.2 fun x hx y hy => inj x (List.mem_cons_of_mem _ hx) y (List.mem_cons_of_mem _ hy)⟩
      obtain ⟨b, hb, e⟩ := List.mem_map.mp m
      have := inj b (List.mem_cons_of_mem _ hb) a (List.mem_cons_self ..) e
      rw [this] at hb
      exact nd.1 hb
  · obtain ⟨a, ha, rfl⟩ := List.mem_map.mp hx
    exact lt a ha
def keyN : Key → Nat
  | .inl i => i.toNat
  | .inr _ => 0
def codeK (l : List Key) : Nat := l.foldl (fun n k => n * 200 + keyN k) 0
theorem code4 (o s b e : Nat) : codeK (kk4 o s b e) = ((o * 200 + s) * 200 + b) * 200 + e := by simp [codeK, kk4, keyN]
theorem code3 (i b e : Nat) : codeK (kk3 i b e) = (i * 200 + b) * 200 + e := by simp [codeK, kk3, keyN]
theorem line_eq : sizeLine = 16777216 := sizeLine_eq
theorem GoodS.len {g : Sq15.House} {T : List Nat} {SS : List (List Nat)} {ks : List (List Key × V)} (G : GoodS g T SS ks) : ks.length < sizeLine := by
  have q := nd_code codeK 8000000 (ks.map (·.1)) G.nd (fun x hx y hy e => ?_) fun x hx => ?_
  · rw [List.length_map] at q
    rw [line_eq]
    omega
  · obtain ⟨⟨k1, v1⟩, m1, rfl⟩ := List.mem_map.mp hx
    obtain ⟨⟨k2, v2⟩, m2, rfl⟩ := List.mem_map.mp hy
    obtain ⟨i1, b1, e1, rfl, h1, h2, h3, _⟩ := G.all _ _ m1
    obtain ⟨i2, b2, e2, rfl, h4, h5, h6, _⟩ := G.all _ _ m2
    simp only [code3] at e
    have : i1 = i2 ∧ b1 = b2 ∧ e1 = e2 := by omega
    obtain ⟨rfl, rfl, rfl⟩ := this
    rfl
  · obtain ⟨⟨k1, v1⟩, m1, rfl⟩ := List.mem_map.mp hx
    obtain ⟨i1, b1, e1, rfl, h1, h2, h3, _⟩ := G.all _ _ m1
    simp only [code3]
    omega
theorem GoodW.len {g : Sq15.House} {T : List Nat} {kw : List (List Key × V)} (G : GoodW g T kw) : kw.length < sizeLine := by
  let f : List Key → Nat := fun l => match l with
    | [a, b, c, d] => ((keyN a * 32 + keyN b) * 33 + keyN c) * 33 + keyN d
    | _ => 0
  have fe : ∀ o s b e, f (kk4 o s b e) = ((o * 32 + s) * 33 + b) * 33 + e := fun o s b e => by simp [f, kk4, keyN]
  have q := nd_code f 900000 (kw.map (·.1)) G.nd (fun x hx y hy e => ?_) fun x hx => ?_
  · rw [List.length_map] at q
    rw [line_eq]
    omega
  · obtain ⟨⟨k1, v1⟩, m1, rfl⟩ := List.mem_map.mp hx
    obtain ⟨⟨k2, v2⟩, m2, rfl⟩ := List.mem_map.mp hy
    obtain ⟨o1, s1, b1, e1, rfl, h1, h2, h3, h4, _⟩ := G.all _ _ m1
    obtain ⟨o2, s2, b2, e2, rfl, h5, h6, h7, h8, _⟩ := G.all _ _ m2
    simp only [fe] at e
    have : o1 = o2 ∧ s1 = s2 ∧ b1 = b2 ∧ e1 = e2 := by omega
    obtain ⟨rfl, rfl, rfl, rfl⟩ := this
    rfl
  · obtain ⟨⟨k1, v1⟩, m1, rfl⟩ := List.mem_map.mp hx
    obtain ⟨o1, s1, b1, e1, rfl, h1, h2, h3, h4, _⟩ := G.all _ _ m1
    simp only [fe]
    omega
/-- what a look-up finds stands there -/
theorem valV_mem {κ : Type} [DecidableEq κ] {k : κ} {v : V} : ∀ {kvs : List (κ × V)}, valV kvs k = some v → (k, v) ∈ kvs
  | [], h => by cases h
  | (a, b) :: r, h => by
    by_cases e : a = k
    · rw [valV_pos (p := (a, b)) e] at h
      cases h
      rw [e]
      exact List.mem_cons_self ..
    · rw [valV_neg (p := (a, b)) e] at h
      exact List.mem_cons_of_mem _ (valV_mem h)
theorem valV_none {κ : Type} [DecidableEq κ] {k : κ} : ∀ {kvs : List (κ × V)}, valV kvs k = none → k ∉ kvs.map (·.1)
  | [], _ => by simp
  | (a, b) :: r, h => by
    by_cases e : a = k
    · rw [valV_pos (p := (a, b)) e] at h
      cases h
    · rw [valV_neg (p := (a, b)) e] at h
      rw [List.map_cons, List.mem_cons]
      exact fun z => z.elim (fun z => e z.symm) (valV_none h)
theorem kk4_inj {o s b e o' s' b' e' : Nat} (h : kk4 o s b e = kk4 o' s' b' e') : o = o' ∧ s = s' ∧ b = b' ∧ e = e' := by
  unfold kk4 at h
  simp only [List.cons.injEq, Sum.inl.injEq] at h
  omega
theorem kk3_inj {o b e o' b' e' : Nat} (h : kk3 o b e = kk3 o' b' e') : o = o' ∧ b = b' ∧ e = e' := by
  unfold kk3 at h
  simp only [List.cons.injEq, Sum.inl.injEq] at h
  omega
theorem GoodW.get {g : Sq15.House} {T : List Nat} {kw : List (List Key × V)} (G : GoodW g T kw) {o s b e : Nat} {v : V} (h : valV kw (kk4 o s b e) = some v) : v = .int (cR g T o ((g.pieces o).drop s) b e : Nat) := by
  obtain ⟨o', s', b', e', q, _, _, _, _, r⟩ := G.all _ _ (valV_mem h)
  obtain ⟨rfl, rfl, rfl, rfl⟩ := kk4_inj q
  exact r
theorem GoodS.get {g : Sq15.House} {T : List Nat} {SS : List (List Nat)} {ks : List (List Key × V)} (G : GoodS g T SS ks) {i b e : Nat} {v : V} {S : List Nat} (hS : SS[i]? = some S) (h : valV ks (kk3 i b e) = some v) : v = .int (cnt g T S b e : Nat) := by
  obtain ⟨i', b', e', q, _, _, _, S', q2, r⟩ := G.all _ _ (valV_mem h)
  obtain ⟨rfl, rfl, rfl⟩ := kk3_inj q
  rw [hS] at q2
  cases q2
  exact r
theorem nd_snoc {α : Type} {l : List α} {x : α} (h : l.Nodup) (n : x ∉ l) : (l ++ [x]).Nodup := by
  rw [List.nodup_append]
  refine ⟨h, by simp, fun a ha b hb => ?_⟩
  rw [List.mem_singleton] at hb
  intro e
  rw [e, hb] at ha
  exact n ha
theorem keys_put {κ : Type} [DecidableEq κ] (kvs : List (κ × V)) (k : κ) (v : V) : (putK kvs k v).map (·.1) = if (valV kvs k).isSome = true then kvs.map (·.1) else kvs.map (·.1) ++ [k] := by
  unfold putK
  rw [valV_any]
  split
  · rw [List.map_map]
    refine List.map_congr_left fun kv _ => ?_
    show (if kv.1 = k then (kv.1, v) else kv).1 = kv.1
    split <;> rfl
  · rw [List.map_append]
    rfl
theorem mem_put {κ : Type} [DecidableEq κ] {kvs : List (κ × V)} {k j : κ} {v u : V} (m : (j, u) ∈ putK kvs k v) : (j = k ∧ u = v) ∨ (j, u) ∈ kvs := by
  unfold putK at m
  split at m
  · obtain ⟨kv, h, e⟩ := List.mem_map.mp m
    split at e
    · rename_i c
      cases e
      exact .inl ⟨c, rfl⟩
    · rw [e] at h
      exact .inr h
  · rcases List.mem_append.mp m with m | m
    · exact .inr m
    · rw [List.mem_singleton] at m
      cases m
      exact .inl ⟨rfl, rfl⟩
theorem nd_put {κ : Type} [DecidableEq κ] {kvs : List (κ × V)} {k : κ} {v : V} (nd : (kvs.map (·.1)).Nodup) : ((putK kvs k v).map (·.1)).Nodup := by
  rw [keys_put]
  split
  · exact nd
  · rename_i c
    refine nd_snoc nd (valV_none ?_)
    cases z : valV kvs k with
    | none => rfl
    | some u => rw [z] at c; exact absurd rfl c
theorem GoodW.put {g : Sq15.House} {T : List Nat} {kw : List (List Key × V)} (G : GoodW g T kw) {o s b e : Nat} (ho : o < 24) (hs : s < 32) (hb : b ≤ 32) (he : e ≤ 32) :
    GoodW g T (putK kw (kk4 o s b e) (.int (cR g T o ((g.pieces o).drop s) b e : Nat))) := by
  refine ⟨nd_put G.nd, fun k v m => ?_⟩
  rcases mem_put m with ⟨rfl, rfl⟩ | m
  · exact ⟨o, s, b, e, rfl, ho, hs, hb, he, rfl⟩
  · exact G.all k v m
theorem GoodS.put {g : Sq15.House} {T : List Nat} {SS : List (List Nat)} {ks : List (List Key × V)} (G : GoodS g T SS ks) {i b e : Nat} {S : List Nat} (hS : SS[i]? = some S) (hi : i < 200) (hb : b ≤ 32) (he : e ≤ 32) :
    GoodS g T SS (putK ks (kk3 i b e) (.int (cnt g T S b e : Nat))) := by
  refine ⟨nd_put G.nd, fun k v m => ?_⟩
  rcases mem_put m with ⟨rfl, rfl⟩ | m
  · exact ⟨i, b, e, rfl, hi, hb, he, S, hS, rfl⟩
  · exact G.all k v m
theorem dget {H : Hp} {a b : Addr} {kvs : List (List Key × V)} {k : List Key} {v : V} (hv : valV kvs k = some v) (e : H a = some (.dT kvs)) (eb : H b = some (.tup (k.map kV))) : DGet H a (.ref b) (some v) := hv ▸ DGet.t e eb
theorem Memo.out {H : Hp} {g : Sq15.House} {T : List Nat} {A : CA} (m : Memo H g T A) {p : Addr} (hp : H p = none) : p ∉ A.ex := fun z => by
  obtain ⟨_, _, m1, m2, _⟩ := m
  simp only [List.mem_cons, List.not_mem_nil, or_false] at z
  rcases z with z | z
  · rw [z, m1] at hp
    cases hp
  · rw [z, m2] at hp
    cases hp
/-! ### a field's store, the heap behind it by a letter -/
def sFA (C : Addr) (ta tv : TE) (f : Str) : TS := fun D σ H => tv σ H fun y H1 => ta σ H1 fun x H2 => ∃ a dx fs fs', x = .ref a ∧ H2 a = some (.ins C dx fs) ∧ putF f y fs = fs' ∧ fs.length < 1000 ∧ ∀ H3, H3 a = some (.ins C dx fs') → Kp [a] H2 H3 → D.nx σ H3
section
variable {X : Cx} {pos pos' : Pos} {f : Str} {ta tv : TE} {o value : Expr} {C : Addr} {fl : List Str}
/-- what a reading wants may be weakened: an expression's -/
theorem ps_fA (T : Fl X.K C fl) (ha : PE X o ta) (hv : PE X value tv) (hf : f ∈ fl := by simp) (hs : swapsWith value (some (.Attribute o f pos')) pos.line X.env = pure false := by rfl) : PS X (.Assign [.Attribute o f pos'] value pos) (sFA C ta tv f) := by
  refine ⟨fun pins s σ H D I h => ?_⟩
  refine plainObj_wpAny_Assign_Attribute (thn (hv.run pins s σ H _ I h) fun u s1 ⟨y, H1, I1, ry, q⟩ => thn (ha.run pins s1 σ H1 _ I1 q) fun ov s2 ⟨x, H2, I2, rx, a, dx, fs, fs', ex, ea, ef, l, q2⟩ => ?_) hs
  subst ex ef
  obtain rfl : ov = Value.ref a := rx
  exact setattr_ok I2 ea T.cl (T.na f hf) l ry fun s3 I3 => ⟨σ, _, I3, q2 _ upd_same (Kp.put (by simp))⟩
end
end Wo
end
section
set_option Elab.async false
set_option linter.all false
set_option maxRecDepth 100000
set_option maxHeartbeats 4000000
namespace Wo
open PySem PySem.Spec PyProof.Rows L2
section
variable {P : Program} {w : World} {K : PySem.W.Frag} {mg : Str → Option Value} {base : Heap} {CH CO CC : Addr}
theorem cut_nat {xs : List V} {b e : Nat} (h1 : b ≤ e) (h2 : e ≤ xs.length) : cutV xs (some (b : Int)) (some (e : Int)) = (xs.drop b).take (e - b) := by
  unfold cutV
  rw [HT.sIx_nat, HT.sIx_nat, Nat.min_eq_left h2, Nat.min_eq_left (show b ≤ xs.length by omega)]
theorem cut_deps {T : List Nat} {b e : Nat} (h1 : b < e) (h2 : e ≤ T.length) : cutV ((List.range (T.length + 1)).map fun i => V.int (dep T i)) (some (b : Int)) (some (e : Int)) = ((List.range (e - b)).map fun i => dep T (b + i)).map V.int := by
  rw [cut_nat (by omega) (by simp; omega)]
  refine List.ext_getElem? fun i => ?_
  rw [List.map_map, List.getElem?_take, List.getElem?_drop, List.getElem?_map, List.getElem?_map]
  by_cases c : i < e - b
  · rw [if_pos c, List.getElem?_range (by omega), List.getElem?_range c]
    rfl
  · rw [if_neg c, List.getElem?_eq_none_iff.mpr (show (List.range (e - b)).length ≤ i by simp; omega)]
    rfl
abbrev s_Chart_is_even : Stmt := inClass (topS 20) 2
abbrev N_Chart_is_even : List Str := ["self", "begin", "end", "level"]
theorem sc_Chart_is_even : FnScope N_Chart_is_even ["self", "begin", "end"] (defScope s_Chart_is_even) := ⟨rfl, rfl, rfl, by decide +kernel, rfl, by decide +kernel, by decide +kernel⟩
-- slots: self=0 begin=1 end=2 level=3
def spEven (CH CO CC : Addr) : Sp := fun vs H Q _ => ∃ (c : Addr) (b e : Nat) (g : Sq15.House) (T : List Nat) (A : CA) (cv : V) (B : HA), vs = [.ref c, .int b, .int e] ∧ ChartAt CH CO CC H c g T A cv B ∧ b < e ∧ e ≤ T.length ∧
  ∀ H' ev, Same H H' → (ev = true ↔ Even T b e) → Q (.bl ev) H'
theorem ok_is_even (T : Txt K mg CH CO CC) (D : MetAt K CC "is_even" "Chart.is_even" s_Chart_is_even ["self", "begin", "end"]) : MetW P w K mg base CC 1 "is_even" ["self", "begin", "end"] (spEven CH CO CC) := by
  refine D.ok sc_Chart_is_even (fun vs H Q E h => ?_) (fun f cdv A outer s H vs Q E hr h => ?_)
  · obtain ⟨c, b, e, g, T', A', cv, B, rfl, _⟩ := h
    rfl
  obtain ⟨c, b, e, g, T', A', cv, B, rfl, h, hbe, he, q⟩ := h
  refine ⟨_, (pss_cons (ps_set (i := 3) sc_Chart_is_even.nd rfl (Or.inl rfl) (pe_ix ix_list (pe_f T.flC (pv 0)) (pv 1) (fun _ _ => rfl)))
      (pss_one (ps_ret (pe_and (pe_cmpR op_eq (pe_ix ix_list (pe_f T.flC (pv 0)) (pv 2) (fun _ _ => rfl)) (pv 3) (nomark _)) (pe_one (pe_cmpR op_ge (pe_callB (cr_min rfl) (by rfl) T.n_min (by decide +kernel) (pa_cons (pe_slice sl_list (pe_f T.flC (pv 0)) (po_some (pv 1)) (po_some (pv 2))) pa_nil)) (pv 3) (nomark _))))))), ?_⟩
  have at_ : ∀ i : Nat, i ≤ T'.length → atI ((List.range (T'.length + 1)).map fun i => V.int (dep T' i)) (i : Int) = some (V.int (dep T' i)) := fun i hi =>
    atI_nat (by rw [List.getElem?_map, List.getElem?_range (by omega)]; rfl)
  refine ⟨_, rfl, c, _, _, _, rfl, h.me.1, rfl, _, rfl, _, _, _, _, rfl, rfl, h.depths.seq, at_ b (by omega), ?_⟩
  refine ⟨_, rfl, c, _, _, _, rfl, h.me.1, rfl, _, rfl, _, _, _, _, rfl, rfl, h.depths.seq, at_ e he, ?_⟩
  refine ⟨_, rfl, rfl, _, rfl, ?_⟩
  refine ite2 (fun c1 => ?_) (fun c1 => ?_)
  · have c2 : dep T' e = dep T' b := V.int.inj (of_decide_eq_true c1)
    refine ⟨_, rfl, c, _, _, _, rfl, h.me.1, rfl, ?_⟩
    refine ⟨_, rfl, _, rfl, _, rfl, _, rfl, _, _, rfl, h.depths.seq, fun p hp => ?_⟩
    refine ⟨p, ((List.range (e - b)).map fun i => dep T' (b + i)), rfl, SqL.of (by rw [upd_same, cut_deps hbe he]), by simp; omega, fun m hm hmin => ?_⟩
    refine ⟨_, rfl, _, _, rfl, rfl, ?_⟩
    refine q _ _ (Kp.new hp).same ⟨fun z => ?_, fun z => ?_⟩
    · have z2 : dep T' b ≤ m := of_decide_eq_true z
      refine ⟨c2, fun j h1 h2 => ?_⟩
      have := hmin (dep T' j) (List.mem_map.mpr ⟨j - b, List.mem_range.mpr (by omega), by rw [show b + (j - b) = j by omega]⟩)
      omega
    · refine decide_eq_true ?_
      obtain ⟨i, hi, rfl⟩ := List.mem_map.mp hm
      have := List.mem_range.mp hi
      exact z.2 _ (by omega) (by omega)
  · refine q H false (Same.refl H) ⟨fun z => Bool.noConfusion z, fun z => ?_⟩
    exact (c1 (decide_eq_true (congrArg V.int z.1))).elim
abbrev s_Chart_alone_in : Stmt := inClass (topS 20) 3
abbrev N_Chart_alone_in : List Str := ["self", "begin", "end"]
theorem sc_Chart_alone_in : FnScope N_Chart_alone_in ["self", "begin", "end"] (defScope s_Chart_alone_in) := ⟨rfl, rfl, rfl, by decide +kernel, rfl, by decide +kernel, by decide +kernel⟩
-- slots: self=0 begin=1 end=2
def spAlone (CH CO CC : Addr) : Sp := fun vs H Q _ => ∃ (c : Addr) (b e : Nat) (g : Sq15.House) (T : List Nat) (A : CA) (cv : V) (B : HA), vs = [.ref c, .int b, .int e] ∧ ChartAt CH CO CC H c g T A cv B ∧ b < e ∧ e ≤ T.length ∧ Q (.int (atomAt g T b e : Nat)) H
theorem in_nats {a : Nat} {l : List Nat} : inV (V.int (a : Int)) (vn l) = l.contains a := by
  unfold inV vn
  rw [List.any_map]
  induction l with
  | nil => rfl
  | cons x l ih =>
    rw [List.any_cons, List.contains_cons, ih]
    congr 1
    show eqV (V.int (x : Int)) (V.int (a : Int)) = (a == x)
    show ((x : Int) == (a : Int)) = (a == x)
    by_cases e : a = x
    · subst e; simp
    · rw [beq_eq_false_iff_ne.mpr e]
      exact beq_eq_false_iff_ne.mpr fun z => e (by omega)
theorem flat_nats (l : List Nat) : (vn l).all flatV = true := by
  unfold vn
  rw [List.all_map]
  exact List.all_eq_true.mpr fun _ _ => rfl
theorem ok_alone_in (T : Txt K mg CH CO CC) (D : MetAt K CC "alone_in" "Chart.alone_in" s_Chart_alone_in ["self", "begin", "end"]) : MetW P w K mg base CC 1 "alone_in" ["self", "begin", "end"] (spAlone CH CO CC) := by
  refine D.ok sc_Chart_alone_in (fun vs H Q E h => ?_) (fun f cdv A outer s H vs Q E hr h => ?_)
  · obtain ⟨c, b, e, g, T', A', cv, B, rfl, _⟩ := h
    rfl
  obtain ⟨c, b, e, g, T', A', cv, B, rfl, h, hbe, he, q⟩ := h
  refine ⟨_, (pss_one (ps_ret (pe_callTy call_int1 (by rfl) T.n_int (by decide +kernel) (pa_cons (pe_and (pe_cmpR op_eq (pe_op op_sub (pv 2) (pv 1)) pe_int (nomark _)) (pe_one (pe_cmpR op_in_seq (pe_ix ix_list (pe_f T.flC (pv 0)) (pv 1) (fun _ _ => rfl)) (pe_f T.flH (pe_f T.flC (pv 0))) (by rfl)))) pa_nil)))), ?_⟩
  refine ⟨_, rfl, _, rfl, _, _, rfl, rfl, rfl, _, rfl, ?_⟩
  have hb : T'[b]? = some T'[b] := List.getElem?_eq_getElem (by omega)
  refine ite2 (fun c1 => ?_) (fun c1 => ?_)
  · have c2 : (e : Int) - b = 1 := V.int.inj (of_decide_eq_true c1)
    refine ⟨_, rfl, c, _, _, _, rfl, h.me.1, rfl, _, rfl, _, _, _, _, rfl, rfl, h.text.seq, atI_nat (vn_at hb), ?_⟩
    refine ⟨_, rfl, c, _, _, _, rfl, h.me.1, rfl, _, _, _, _, rfl, h.house.me.1, rfl, _, _, rfl, .inl h.house.alone.seq, rfl, flat_nats _, .inr ⟨_, rfl, ?_⟩⟩
    have e1 : (if inV (V.int (T'[b] : Int)) (vn g.atoms) then 1 else 0 : Int) = ((atomAt g T' b e : Nat) : Int) := by
      rw [in_nats]
      unfold atomAt
      rw [hb]
      simp only [Option.getD_some]
      by_cases c3 : g.atoms.contains T'[b] = true
      · rw [if_pos c3, if_pos ⟨by omega, c3⟩]
        rfl
      · rw [if_neg c3, if_neg fun z => c3 z.2]
        rfl
    have q2 : Q (.int ((atomAt g T' b e : Nat) : Int)) H := q
    rw [← e1] at q2
    exact q2
  · refine .inr ⟨_, rfl, ?_⟩
    have e1 : atomAt g T' b e = 0 := by
      unfold atomAt
      rw [if_neg]
      intro z
      exact c1 (decide_eq_true (congrArg V.int (by have := z.1; omega)))
    rw [e1] at q
    exact q
end
end Wo
end
section
set_option Elab.async false
set_option linter.all false
set_option maxRecDepth 100000
set_option maxHeartbeats 4000000
namespace Wo
open PySem PySem.Spec PyProof.Rows L2
/-! ### the chart's recursion: promises by a level n -/
section
variable (CH CO CC : Addr) (n : Nat)
def spAll : Sp := fun vs H Q _ => ∃ (c : Addr) (i b e : Nat) (g : Sq15.House) (T : List Nat) (A : CA) (cv : V) (B : HA) (S : List Nat), vs = [.ref c, .int i, .int b, .int e] ∧ ChartAt CH CO CC H c g T A cv B ∧ Memo H g T A ∧ A.SS[i]? = some S ∧ b < e ∧ e ≤ T.length ∧ 5 * (e - b) + 3 ≤ n ∧
  ∀ H', Kp A.ex H H' → Memo H' g T A → Q (.int (cnt g T S b e : Nat)) H'
def spCounted : Sp := fun vs H Q _ => ∃ (c : Addr) (i b e : Nat) (g : Sq15.House) (T : List Nat) (A : CA) (cv : V) (B : HA) (S : List Nat), vs = [.ref c, .int i, .int b, .int e] ∧ ChartAt CH CO CC H c g T A cv B ∧ Memo H g T A ∧ A.SS[i]? = some S ∧ b < e ∧ e ≤ T.length ∧ 5 * (e - b) + 2 ≤ n ∧
  ∀ H', Kp A.ex H H' → Memo H' g T A → Q (.int (cnt g T S b e : Nat)) H'
def spBrk : Sp := fun vs H Q _ => ∃ (c : Addr) (b e : Nat) (g : Sq15.House) (T : List Nat) (A : CA) (cv : V) (B : HA), vs = [.ref c, .int b, .int e] ∧ ChartAt CH CO CC H c g T A cv B ∧ Memo H g T A ∧ b < e ∧ e ≤ T.length ∧ 5 * (e - b) + 1 ≤ n ∧
  ∀ H', Kp A.ex H H' → Memo H' g T A → Q (.int (brkAt g T b e : Nat)) H'
def lvW (l : List Sq15.Piece) (d : Nat) : Nat := if hasWord l = true then 5 * d + 1 else 5 * d + 5
def spWays : Sp := fun vs H Q _ => ∃ (c : Addr) (o s b e : Nat) (g : Sq15.House) (T : List Nat) (A : CA) (cv : V) (B : HA) (x : Sq15.Op), vs = [.ref c, .int o, .int s, .int b, .int e] ∧ ChartAt CH CO CC H c g T A cv B ∧ Memo H g T A ∧ g.ops[o]? = some x ∧ s ≤ x.pieces.length ∧ b ≤ e ∧ e ≤ T.length ∧ lvW (x.pieces.drop s) (e - b) ≤ n ∧
  ∀ H', Kp A.ex H H' → Memo H' g T A → Q (.int (cR g T o (x.pieces.drop s) b e : Nat)) H'
def spWbt : Sp := fun vs H Q _ => ∃ (c : Addr) (o s b e k : Nat) (g : Sq15.House) (T : List Nat) (A : CA) (cv : V) (B : HA) (x : Sq15.Op), vs = [.ref c, .int o, .int s, .int b, .int e] ∧ ChartAt CH CO CC H c g T A cv B ∧ Memo H g T A ∧ g.ops[o]? = some x ∧ x.pieces[s]? = some (.hole k) ∧ b < e ∧ e ≤ T.length ∧ lvW (x.pieces.drop s) (e - b) ≤ n + 1 ∧
  ∀ H', Kp A.ex H H' → Memo H' g T A → Q (.int (cR g T o (x.pieces.drop s) b e : Nat)) H'
end
section
variable {P : Program} {w : World} {K : PySem.W.Frag} {mg : Str → Option Value} {base : Heap} {CH CO CC : Addr} {n : Nat}
abbrev s_Chart_all_in : Stmt := inClass (topS 20) 6
abbrev N_Chart_all_in : List Str := ["self", "sort", "begin", "end", "key"]
theorem sc_Chart_all_in : FnScope N_Chart_all_in ["self", "sort", "begin", "end"] (defScope s_Chart_all_in) := ⟨rfl, rfl, rfl, by decide +kernel, rfl, by decide +kernel, by decide +kernel⟩
-- slots: self=0 sort=1 begin=2 end=3 key=4
theorem ok_all_in (T : Txt K mg CH CO CC) (D : MetAt K CC "all_in" "Chart.all_in" s_Chart_all_in ["self", "sort", "begin", "end"]) (M_counted : MetW P w K mg base CC n "counted" ["self", "sort", "begin", "end"] (spCounted CH CO CC n)) :
    MetW P w K mg base CC (n + 1) "all_in" ["self", "sort", "begin", "end"] (spAll CH CO CC (n + 1)) := by
  refine D.ok sc_Chart_all_in (fun vs H Q E h => ?_) (fun f cdv A outer s H vs Q E hr h => ?_)
  · obtain ⟨c, i, b, e, g, T', A', cv, B, S, rfl, _⟩ := h
    rfl
  obtain ⟨c, i, b, e, g, T', A', cv, B, S, rfl, h, hm, hS, hbe, he, hn, q⟩ := h
  refine ⟨_, (pss_cons (ps_set (i := 4) sc_Chart_all_in.nd rfl (Or.inl rfl) (pe_tup (pa_cons (pv 1) (pa_cons (pv 2) (pa_cons (pv 3) pa_nil)))))
      (pss_cons (ps_if (pt_cmp (pc_dnotin (hu_of hr) (pv 4) (pe_f T.flC (pv 0))) rfl)
      (pss_one (ps_dput (hu_of hr) (pe_f T.flC (pv 0)) (pv 4) (pe_m M_counted T.flC hr (pv 0) (pa_cons (pv 1) (pa_cons (pv 2) (pa_cons (pv 3) pa_nil)))) rfl))
      pss_nil)
      (pss_one (ps_ret (pe_dget (hu_of hr) (pe_f T.flC (pv 0)) (pv 4) (fun _ _ => rfl)))))), ?_⟩
  refine ⟨_, rfl, _, rfl, _, rfl, (by show 3 ≤ sizeLine; decide), fun p hp => ?_⟩
  have k1 : Kp A'.ex H (upd H p (.tup [.int i, .int b, .int e])) := Kp.new hp
  have h1 := h.keep k1
  have hm1 : Memo (upd H p (.tup [.int i, .int b, .int e])) g T' A' := hm.keep (Kp.new hp).same
  obtain ⟨kw, ks, m1, m2, m3, m4⟩ := hm1
  have tp : (upd H p (.tup [.int i, .int b, .int e])) p = some (.tup ((kk3 i b e).map kV)) := upd_same
  have pn : p ∉ A'.ex := hm.out hp
  refine ⟨_, rfl, _, rfl, c, _, _, _, rfl, h1.me.1, rfl, _, _, rfl, DGet.t (k := kk3 i b e) m2 tp, _, rfl, ?_⟩
  refine ite2 (fun c1 => ?_) (fun c1 => ?_)
  · have vn : valV ks (kk3 i b e) = none := by
      cases z : valV ks (kk3 i b e) with
      | none => rfl
      | some v => rw [z] at c1; cases c1
    refine ⟨_, rfl, c, _, _, rfl, h1.me.1, rfl, _, rfl, _, rfl, _, rfl, c, i, b, e, g, T', A', cv, B, S, rfl, h1, ⟨kw, ks, m1, m2, m3, m4⟩, hS, hbe, he, by omega, fun H2 k2 mm => ?_⟩
    obtain ⟨kw2, ks2, n1, n2, n3, n4⟩ := mm
    have h2 := h1.keep k2
    have tp2 := k2 _ _ tp pn
    obtain ⟨lt, _⟩ := List.getElem?_eq_some_iff.mp hS
    have fw := h.few
    have sh := h.short
    have l3 := n4.len
    refine ⟨_, rfl, c, _, _, _, rfl, h2.me.1, rfl, _, rfl, _, _, rfl, DPut.t (k := kk3 i b e) n2 tp2 l3, ?_⟩
    have k3 : Kp A'.ex H2 (upd H2 A'.sk (.dT (putK ks2 (kk3 i b e) (.int (cnt g T' S b e : Nat))))) := Kp.put (by simp)
    have h3 := h2.keep k3
    refine ⟨_, rfl, c, _, _, _, rfl, h3.me.1, rfl, _, rfl, _, _, rfl, dget (k := kk3 i b e) (v := .int (cnt g T' S b e : Nat)) (by rw [valV_put, if_pos rfl]) upd_same (k3 _ _ tp2 pn), ?_⟩
    exact q _ (k1.trans (k2.trans k3)) ⟨kw2, _, by rw [upd_ne h.ne]; exact n1, upd_same, n3, n4.put hS (by omega) (by omega) (by omega)⟩
  · obtain ⟨v, vs⟩ : ∃ v, valV ks (kk3 i b e) = some v := by
      cases z : valV ks (kk3 i b e) with
      | none => rw [z] at c1; exact absurd rfl c1
      | some v => exact ⟨v, rfl⟩
    have e1 := m4.get hS vs
    subst e1
    refine ⟨_, rfl, c, _, _, _, rfl, h1.me.1, rfl, _, rfl, _, _, rfl, dget vs m2 tp, ?_⟩
    exact q _ k1 ⟨kw, ks, m1, m2, m3, m4⟩
end
end Wo
end
section
set_option Elab.async false
set_option linter.all false
set_option maxRecDepth 100000
set_option maxHeartbeats 4000000
namespace Wo
open PySem PySem.Spec PyProof.Rows L2
section
variable {P : Program} {w : World} {K : PySem.W.Frag} {mg : Str → Option Value} {base : Heap} {CH CO CC : Addr} {n : Nat}
/-- an int that is not unlike another -/
theorem of_not_false {a b : Int} (h : ¬ (!decide (V.int a = V.int b)) = true) : a = b := by
  by_cases c : a = b
  · exact c
  · have : decide (V.int a = V.int b) = false := decide_eq_false fun z => c (V.int.inj z)
    rw [this] at h
    exact absurd rfl h
abbrev s_Chart_bracketed_in : Stmt := inClass (topS 20) 4
abbrev N_Chart_bracketed_in : List Str := ["self", "begin", "end"]
theorem sc_Chart_bracketed_in : FnScope N_Chart_bracketed_in ["self", "begin", "end"] (defScope s_Chart_bracketed_in) := ⟨rfl, rfl, rfl, by decide +kernel, rfl, by decide +kernel, by decide +kernel⟩
-- slots: self=0 begin=1 end=2
theorem ok_bracketed_in (T : Txt K mg CH CO CC) (D : MetAt K CC "bracketed_in" "Chart.bracketed_in" s_Chart_bracketed_in ["self", "begin", "end"]) (M_all_in : MetW P w K mg base CC n "all_in" ["self", "sort", "begin", "end"] (spAll CH CO CC n)) :
    MetW P w K mg base CC (n + 1) "bracketed_in" ["self", "begin", "end"] (spBrk CH CO CC (n + 1)) := by
  refine D.ok sc_Chart_bracketed_in (fun vs H Q E h => ?_) (fun f cdv A outer s H vs Q E hr h => ?_)
  · obtain ⟨c, b, e, g, T', A', cv, B, rfl, _⟩ := h
    rfl
  obtain ⟨c, b, e, g, T', A', cv, B, rfl, h, hm, hbe, he, hn, q⟩ := h
  refine ⟨_, (pss_cons (ps_if (PW.pt (pw_or (pt_cmpR op_lt (pe_op op_sub (pv 2) (pv 1)) pe_int (nomark _)) (pw_or (pt_cmpR op_ne (pe_ix ix_list (pe_f T.flC (pv 0)) (pv 1) (fun _ _ => rfl)) (pe_gi T.g_OPEN) (nomark _)) (pw_or1 (pt_cmpR op_ne (pe_ix ix_list (pe_f T.flC (pv 0)) (pe_op op_sub (pv 2) pe_int) (fun _ _ => rfl)) (pe_gi T.g_SHUT) (nomark _))))))
      (pss_one (ps_ret pe_int))
      pss_nil)
      (pss_one (ps_ret (pe_m M_all_in T.flC hr (pv 0) (pa_cons pe_int (pa_cons (pe_op op_add (pv 1) pe_int) (pa_cons (pe_op op_sub (pv 2) pe_int) pa_nil))))))), ?_⟩
  have no : ¬ isBr T' b e → Q (.int 0) H := fun z => by
    have := q H Kp.refl hm
    unfold brkAt at this
    rw [if_neg z] at this
    exact this
  have hb : T'[b]? = some T'[b] := List.getElem?_eq_getElem (by omega)
  have he1 : T'[e - 1]? = some T'[e - 1] := List.getElem?_eq_getElem (by omega)
  refine ⟨_, rfl, _, rfl, _, _, rfl, rfl, _, _, rfl, rfl, _, rfl, ?_⟩
  refine ite2 (fun c1 => ?_) (fun c1 => ?_)
  · exact no fun z => by have := z.1; have := of_decide_eq_true c1; omega
  have c1' : ¬ ((e : Int) - b < 3) := of_decide_eq_false (Bool.eq_false_iff.mpr c1)
  refine ⟨_, rfl, c, _, _, _, rfl, h.me.1, rfl, _, rfl, _, _, _, _, rfl, rfl, h.text.seq, atI_nat (vn_at hb), rfl, _, rfl, ?_⟩
  refine ite2 (fun c2 => ?_) (fun c2 => ?_)
  · refine no fun z => ?_
    have z3 : T'[b] = 0 := Option.some.inj (hb.symm.trans z.2.1)
    rw [z3] at c2
    exact absurd c2 (by decide)
  have c2' : T'[b] = 0 := by
    have := of_not_false c2
    omega
  refine ⟨_, rfl, c, _, _, _, rfl, h.me.1, rfl, _, rfl, _, _, rfl, rfl, _, _, _, _, rfl, rfl, h.text.seq, at_of (j := e - 1) (by omega) (vn_at he1), rfl, _, rfl, ?_⟩
  refine ite2 (fun c3 => ?_) (fun c3 => ?_)
  · refine no fun z => ?_
    have z3 : T'[e - 1] = 1 := Option.some.inj (he1.symm.trans z.2.2)
    rw [z3] at c3
    exact absurd c3 (by decide)
  have c3' : T'[e - 1] = 1 := by
    have := of_not_false c3
    omega
  have br : isBr T' b e := ⟨by omega, by rw [hb, c2']; rfl, by rw [he1, c3']; rfl⟩
  refine ⟨_, rfl, c, _, _, rfl, h.me.1, rfl, _, rfl, _, _, rfl, rfl, _, rfl, _, _, rfl, rfl, c, 0, b + 1, e - 1, g, T', A', cv, B, _, ?_, h, hm, h.sort0, by omega, by omega, by omega, fun H2 k2 m2 => ?_⟩
  · show [V.ref c, V.int 0, V.int ((b : Int) + 1), V.int ((e : Int) - 1)] = _
    rw [show ((e : Int) - 1) = ((e - 1 : Nat) : Int) by omega]
    rfl
  · have := q H2 k2 m2
    unfold brkAt at this
    rw [if_pos br] at this
    exact this
abbrev s_Chart_counted : Stmt := inClass (topS 20) 5
abbrev N_Chart_counted : List Str := ["self", "sort", "begin", "end", "found", "number"]
theorem sc_Chart_counted : FnScope N_Chart_counted ["self", "sort", "begin", "end"] (defScope s_Chart_counted) := ⟨rfl, rfl, rfl, by decide +kernel, rfl, by decide +kernel, by decide +kernel⟩
-- slots: self=0 sort=1 begin=2 end=3 found=4 number=5
theorem ok_counted (T : Txt K mg CH CO CC) (D : MetAt K CC "counted" "Chart.counted" s_Chart_counted ["self", "sort", "begin", "end"]) (M_is_even : MetW P w K mg base CC n "is_even" ["self", "begin", "end"] (spEven CH CO CC)) (M_alone_in : MetW P w K mg base CC n "alone_in" ["self", "begin", "end"] (spAlone CH CO CC))
    (M_bracketed_in : MetW P w K mg base CC n "bracketed_in" ["self", "begin", "end"] (spBrk CH CO CC n)) (M_ways : MetW P w K mg base CC n "ways" ["self", "number", "spot", "begin", "end"] (spWays CH CO CC n)) :
    MetW P w K mg base CC (n + 1) "counted" ["self", "sort", "begin", "end"] (spCounted CH CO CC (n + 1)) := by
  refine D.ok sc_Chart_counted (fun vs H Q E h => ?_) (fun f cdv A outer s H vs Q E hr h => ?_)
  · obtain ⟨c, i, b, e, g, T', A', cv, B, S, rfl, _⟩ := h
    rfl
  obtain ⟨c, i, b, e, g, T', A', cv, B, S, rfl, h, hm, hS, hbe, he, hn, q⟩ := h
  refine ⟨_, (pss_cons (ps_if (pt_not (pt_val (pe_m M_is_even T.flC hr (pv 0) (pa_cons (pv 2) (pa_cons (pv 3) pa_nil)))))
      (pss_one (ps_ret pe_int))
      pss_nil)
      (pss_cons (ps_set (i := 4) sc_Chart_counted.nd rfl (Or.inl rfl) (pe_op op_add (pe_m M_alone_in T.flC hr (pv 0) (pa_cons (pv 2) (pa_cons (pv 3) pa_nil))) (pe_m M_bracketed_in T.flC hr (pv 0) (pa_cons (pv 2) (pa_cons (pv 3) pa_nil)))))
      (pss_cons (ps_for PassesOwn.never rfl (pi_tup (pe_ix ix_list (pe_f T.flC (pv 0)) (pv 1) (fun _ _ => rfl))) (pg_name (i := 5) sc_Chart_counted.nd rfl (Or.inl rfl))
      (pss_one (ps_set (i := 4) sc_Chart_counted.nd rfl (Or.inl rfl) (pe_op op_add (pv 4) (pe_m M_ways T.flC hr (pv 0) (pa_cons (pv 5) (pa_cons pe_int (pa_cons (pv 2) (pa_cons (pv 3) pa_nil)))))))))
      (pss_one (ps_ret (pv 4)))))), ?_⟩
  refine ⟨_, rfl, c, _, _, rfl, h.me.1, rfl, _, rfl, _, rfl, c, b, e, g, T', A', cv, B, rfl, h, hbe, he, fun H1 ev k1 hev => ?_⟩
  refine ⟨_, rfl, ?_⟩
  cases ev with
  | false =>
    refine iteT ?_
    have z : cnt g T' S b e = 0 := by
      by_cases c0 : cnt g T' S b e = 0
      · exact c0
      · exact Bool.noConfusion (hev.mpr (cnt_even h.ok c0))
    have := q H1 (Same.kp k1) (hm.keep k1)
    rw [z] at this
    exact this
  | true =>
    refine iteF ?_
    have h1 := h.keep (Same.kp k1)
    have hm1 := hm.keep k1
    refine ⟨_, rfl, c, _, _, rfl, h1.me.1, rfl, _, rfl, _, rfl, c, b, e, g, T', A', cv, B, rfl, h1, hbe, he, ?_⟩
    refine ⟨_, rfl, c, _, _, rfl, h1.me.1, rfl, _, rfl, _, rfl, c, b, e, g, T', A', cv, B, rfl, h1, hm1, hbe, he, by omega, fun H2 k2 hm2 => ?_⟩
    refine ⟨_, _, rfl, rfl, ?_⟩
    have h2 := h1.keep k2
    obtain ⟨sa, sa1, sa2⟩ := h2.sortAt hS
    refine ⟨_, rfl, c, _, _, _, rfl, h2.me.1, rfl, _, rfl, _, _, _, _, rfl, rfl, h2.sorts.seq, atI_nat sa1, sa, rfl, ⟨_, sa2.sqt⟩, ?_⟩
    refine for_tup (K := K) (a := sa) (xs := vn S) (fun t σ H' => ∃ v, σ = [some (.ref c), some (.int i), some (.int b), some (.int e), some (.int (((atomAt g T' b e + brkAt g T' b e) + ((S.take t).map fun o => cR g T' o (g.pieces o) b e).sum : Nat))), v] ∧ Kp A'.ex H2 H' ∧ Memo H' g T' A')
      ⟨none, ?_, Kp.refl, hm2⟩ (fun t σ H' _ ⟨_, _, k3, _⟩ => (sa2.keep k3).sqt) ?_ ?_
    · simp only [List.take_zero, List.map_nil, List.sum_nil, Nat.add_zero]
      rw [Int.natCast_add]
      rfl
    · rintro t y σ H3 hy ⟨v, rfl, k3, hm3⟩
      obtain ⟨o, ho, rfl⟩ : ∃ o, S[t]? = some o ∧ y = V.int (o : Int) := by
        unfold vn at hy
        rw [List.getElem?_map] at hy
        cases z : S[t]? with
        | none => rw [z] at hy; cases hy
        | some o => rw [z] at hy; exact ⟨o, rfl, (Option.some.inj hy).symm⟩
      have h3 := h2.keep k3
      have oS : o ∈ S := List.mem_of_getElem? ho
      have ol := (h.sin S (List.mem_of_getElem? hS)).2 o oS
      have ox : g.ops[o]? = some g.ops[o] := List.getElem?_eq_getElem ol
      have lw : lvW ((g.ops[o]).pieces.drop 0) (e - b) ≤ n := by
        unfold lvW
        rw [List.drop_zero, if_pos (pieces_word (h.ok.op_at ox).some_)]
        omega
      refine ⟨_, rfl, _, rfl, c, _, _, rfl, h3.me.1, rfl, _, rfl, _, rfl, _, rfl, c, o, 0, b, e, g, T', A', cv, B, g.ops[o], rfl, h3, hm3, ox, Nat.zero_le _, Nat.le_of_lt hbe, he, lw, fun H4 k4 hm4 => ?_⟩
      refine ⟨_, _, rfl, rfl, some (.int o), ?_, k3.trans k4, hm4⟩
      have e1 : (S.take (t + 1)).map (fun o => cR g T' o (g.pieces o) b e) = (S.take t).map (fun o => cR g T' o (g.pieces o) b e) ++ [cR g T' o (g.pieces o) b e] := by
        rw [List.take_add_one, ho, List.map_append]
        rfl
      have e2 : (g.ops[o]).pieces = g.pieces o := (pieces_of ox).symm
      rw [e1, List.sum_append, List.drop_zero, e2]
      simp only [List.sum_cons, List.sum_nil, Nat.add_zero]
      rw [show (((atomAt g T' b e + brkAt g T' b e + ((S.take t).map fun o => cR g T' o (g.pieces o) b e).sum : Nat) : Int) + ((cR g T' o (g.pieces o) b e : Nat) : Int)) = ((atomAt g T' b e + brkAt g T' b e + (((S.take t).map fun o => cR g T' o (g.pieces o) b e).sum + cR g T' o (g.pieces o) b e) : Nat) : Int) by omega]
      rfl
    · rintro σ H3 ⟨v, rfl, k3, hm3⟩
      refine ⟨_, rfl, ?_⟩
      have := q H3 ((Same.kp k1).trans (k2.trans k3)) hm3
      rw [vn_len, List.take_length]
      rw [cnt_eq h.ok, show (S.map fun o => cR g T' o (g.pieces o) b e).sum + atomAt g T' b e + brkAt g T' b e = atomAt g T' b e + brkAt g T' b e + (S.map fun o => cR g T' o (g.pieces o) b e).sum by omega] at this
      exact this
abbrev s_Chart_ways : Stmt := inClass (topS 20) 8
abbrev N_Chart_ways : List Str := ["self", "number", "spot", "begin", "end", "pieces", "key"]
theorem sc_Chart_ways : FnScope N_Chart_ways ["self", "number", "spot", "begin", "end"] (defScope s_Chart_ways) := ⟨rfl, rfl, rfl, by decide +kernel, rfl, by decide +kernel, by decide +kernel⟩
-- slots: self=0 number=1 spot=2 begin=3 end=4 pieces=5 key=6
theorem ok_ways (T : Txt K mg CH CO CC) (D : MetAt K CC "ways" "Chart.ways" s_Chart_ways ["self", "number", "spot", "begin", "end"]) (M_ways : MetW P w K mg base CC n "ways" ["self", "number", "spot", "begin", "end"] (spWays CH CO CC n))
    (M_ways_by_thing : MetW P w K mg base CC n "ways_by_thing" ["self", "number", "spot", "begin", "end"] (spWbt CH CO CC n)) :
    MetW P w K mg base CC (n + 1) "ways" ["self", "number", "spot", "begin", "end"] (spWays CH CO CC (n + 1)) := by
  refine D.ok sc_Chart_ways (fun vs H Q E h => ?_) (fun f cdv A outer s H vs Q E hr h => ?_)
  · obtain ⟨c, o, s, b, e, g, T', A', cv, B, x, rfl, _⟩ := h
    rfl
  obtain ⟨c, o, s, b, e, g, T', A', cv, B, x, rfl, h, hm, hx, hs, hbe, he, hn, q⟩ := h
  refine ⟨_, (pss_cons (ps_set (i := 5) sc_Chart_ways.nd rfl (Or.inl rfl) (pe_f T.flO (pe_ix ix_list (pe_f T.flH (pe_f T.flC (pv 0))) (pv 1) (fun _ _ => rfl))))
      (pss_cons (ps_if (pt_cmpR op_lt (pe_op op_sub (pv 4) (pv 3)) (pe_op op_sub (pe_callB call_len_seq (by rfl) T.n_len boot_len (pa_cons (pv 5) pa_nil)) (pv 2)) (nomark _))
      (pss_one (ps_ret pe_int))
      pss_nil)
      (pss_cons (ps_if (pt_cmpR op_eq (pv 2) (pe_callB call_len_seq (by rfl) T.n_len boot_len (pa_cons (pv 5) pa_nil)) (nomark _))
      (pss_one (ps_ret (pe_callTy call_int1 (by rfl) T.n_int (by decide +kernel) (pa_cons (pe_cmpR op_eq (pv 3) (pv 4) (nomark _)) pa_nil))))
      pss_nil)
      (pss_cons (ps_if (pt_cmpR op_ne (pe_ix ix_list (pv 5) (pv 2) (fun _ _ => rfl)) (pe_gi T.g_THING) (nomark _))
      (pss_one (ps_ret (pe_ifExp (pt_cmpR op_eq (pe_ix ix_list (pe_f T.flC (pv 0)) (pv 3) (fun _ _ => rfl)) (pe_ix ix_list (pv 5) (pv 2) (fun _ _ => rfl)) (nomark _)) (pe_m M_ways T.flC hr (pv 0) (pa_cons (pv 1) (pa_cons (pe_op op_add (pv 2) pe_int) (pa_cons (pe_op op_add (pv 3) pe_int) (pa_cons (pv 4) pa_nil))))) pe_int)))
      pss_nil)
      (pss_cons (ps_set (i := 6) sc_Chart_ways.nd rfl (Or.inl rfl) (pe_tup (pa_cons (pv 1) (pa_cons (pv 2) (pa_cons (pv 3) (pa_cons (pv 4) pa_nil))))))
      (pss_cons (ps_if (pt_cmp (pc_dnotin (hu_of hr) (pv 6) (pe_f T.flC (pv 0))) rfl)
      (pss_one (ps_dput (hu_of hr) (pe_f T.flC (pv 0)) (pv 6) (pe_m M_ways_by_thing T.flC hr (pv 0) (pa_cons (pv 1) (pa_cons (pv 2) (pa_cons (pv 3) (pa_cons (pv 4) pa_nil))))) rfl))
      pss_nil)
      (pss_one (ps_ret (pe_dget (hu_of hr) (pe_f T.flC (pv 0)) (pv 6) (fun _ _ => rfl)))))))))), ?_⟩
  obtain ⟨oa, oa1, dxo, pc, spa, oa2, pc2, _⟩ := h.house.opAt hx
  have pl : (pzs x.pieces).length = x.pieces.length := pzs_len _
  refine ⟨_, rfl, c, _, _, _, rfl, h.me.1, rfl, _, _, _, _, rfl, h.house.me.1, rfl, _, rfl, _, _, _, _, rfl, rfl, h.house.ops.seq, atI_nat oa1, _, _, _, _, rfl, oa2.1, rfl, ?_⟩
  refine ⟨_, rfl, _, rfl, _, _, rfl, rfl, _, rfl, _, _, rfl, .inl pc2.seq, _, rfl, _, _, rfl, rfl, _, _, rfl, rfl, _, rfl, ?_⟩
  refine ite2 (fun c1 => ?_) (fun c1 => ?_)
  · have c1' := of_decide_eq_true c1
    rw [pl] at c1'
    have z : cR g T' o (x.pieces.drop s) b e = 0 := cR_short (by rw [List.length_drop]; omega)
    have := q H Kp.refl hm
    rw [z] at this
    exact this
  have c1' : ¬ ((e : Int) - b < (pzs x.pieces).length - s) := of_decide_eq_false (Bool.eq_false_iff.mpr c1)
  rw [pl] at c1'
  refine ⟨_, rfl, _, rfl, _, _, rfl, .inl pc2.seq, rfl, _, rfl, ?_⟩
  refine ite2 (fun c2 => ?_) (fun c2 => ?_)
  · have c2' : (s : Int) = (pzs x.pieces).length := V.int.inj (of_decide_eq_true c2)
    rw [pl] at c2'
    refine ⟨_, rfl, _, rfl, rfl, .inr ⟨_, rfl, ?_⟩⟩
    have := q H Kp.refl hm
    rw [List.drop_eq_nil_of_le (by omega), cR_nil] at this
    by_cases z : b = e
    · rw [if_pos z] at this
      rw [decide_eq_true (by rw [z])]
      exact this
    · rw [if_neg z] at this
      rw [decide_eq_false (fun y => z (by have := V.int.inj y; omega))]
      exact this
  have c2' : ¬ (s : Int) = (pzs x.pieces).length := fun z => c2 (decide_eq_true (congrArg V.int z))
  rw [pl] at c2'
  have hs2 : s < x.pieces.length := by omega
  have ps : x.pieces[s]? = some x.pieces[s] := List.getElem?_eq_getElem hs2
  have dr := drop_at ps
  have hb : T'[b]? = some T'[b] := List.getElem?_eq_getElem (by omega)
  generalize x.pieces[s] = p at ps dr
  have sh := h.short
  have kl := pieces_len (h.ok.op_at hx).few
  have fw := h.ok.few
  obtain ⟨ol, _⟩ := List.getElem?_eq_some_iff.mp hx
  refine ⟨_, rfl, _, rfl, _, _, _, _, rfl, rfl, pc2.seq, atI_nat (pzs_at ps), rfl, _, rfl, ?_⟩
  cases p with
  | word wd =>
    have wz : (!decide (V.int (pz (.word wd)) = V.int (-1))) = true := by
      rw [decide_eq_false]
      · rfl
      · intro z
        have z2 : (wd : Int) = -1 := V.int.inj z
        omega
    rw [wz]
    refine iteT ?_
    refine ⟨_, rfl, c, _, _, _, rfl, h.me.1, rfl, _, rfl, _, _, _, _, rfl, rfl, h.text.seq, atI_nat (vn_at hb), _, rfl, _, rfl, _, _, _, _, rfl, rfl, pc2.seq, atI_nat (pzs_at ps), rfl, _, rfl, ?_⟩
    have cw : cR g T' o (x.pieces.drop s) b e = if b < e ∧ T'[b]? = some wd then cR g T' o (x.pieces.drop (s + 1)) (b + 1) e else 0 := by rw [dr, cR_word]
    refine ite2 (fun c3 => ?_) (fun c3 => ?_)
    · have c3' : (T'[b] : Int) = (wd : Int) := V.int.inj (of_decide_eq_true c3)
      have lw : lvW (x.pieces.drop (s + 1)) (e - (b + 1)) ≤ n := by
        have hn2 := hn
        rw [dr] at hn2
        unfold lvW at hn2 ⊢
        rw [if_pos (show hasWord (.word wd :: x.pieces.drop (s + 1)) = true from rfl)] at hn2
        split <;> omega
      refine ⟨_, rfl, c, _, _, rfl, h.me.1, rfl, _, rfl, _, rfl, _, _, rfl, rfl, _, rfl, _, _, rfl, rfl, _, rfl, c, o, s + 1, b + 1, e, g, T', A', cv, B, x, rfl, h, hm, hx, hs2, by omega, he, lw, fun H2 k2 hm2 => ?_⟩
      have := q H2 k2 hm2
      rw [cw, if_pos ⟨by omega, by rw [hb]; exact congrArg some (by omega)⟩] at this
      exact this
    · have := q H Kp.refl hm
      rw [cw, if_neg] at this
      · exact this
      · intro z
        rw [hb] at z
        have z2 : T'[b] = wd := Option.some.inj z.2
        exact c3 (decide_eq_true (by rw [z2]; rfl))
  | hole k =>
    have wz : (!decide (V.int (pz (.hole k)) = V.int (-1))) = false := rfl
    rw [wz]
    refine iteF ?_
    refine ⟨_, rfl, _, rfl, _, rfl, _, rfl, (by show 4 ≤ sizeLine; decide), fun p hp => ?_⟩
    have k1 : Kp A'.ex H (upd H p (.tup [.int o, .int s, .int b, .int e])) := Kp.new hp
    have h1 := h.keep k1
    have hm1 : Memo (upd H p (.tup [.int o, .int s, .int b, .int e])) g T' A' := hm.keep (Kp.new hp).same
    obtain ⟨kw, ks, m1, m2, m3, m4⟩ := hm1
    have tp : (upd H p (.tup [.int o, .int s, .int b, .int e])) p = some (.tup ((kk4 o s b e).map kV)) := upd_same
    have pn : p ∉ A'.ex := hm.out hp
    have pe : x.pieces = g.pieces o := (pieces_of hx).symm
    refine ⟨_, rfl, _, rfl, c, _, _, _, rfl, h1.me.1, rfl, _, _, rfl, DGet.t (k := kk4 o s b e) m1 tp, _, rfl, ?_⟩
    refine ite2 (fun c3 => ?_) (fun c3 => ?_)
    · refine ⟨_, rfl, c, _, _, rfl, h1.me.1, rfl, _, rfl, _, rfl, _, rfl, _, rfl, c, o, s, b, e, k, g, T', A', cv, B, x, rfl, h1, ⟨kw, ks, m1, m2, m3, m4⟩, hx, ps, by omega, he, hn, fun H2 k2 mm => ?_⟩
      obtain ⟨kw2, ks2, n1, n2, n3, n4⟩ := mm
      have h2 := h1.keep k2
      have tp2 := k2 _ _ tp pn
      have l3 := n3.len
      refine ⟨_, rfl, c, _, _, _, rfl, h2.me.1, rfl, _, rfl, _, _, rfl, DPut.t (k := kk4 o s b e) n1 tp2 l3, ?_⟩
      have k3 : Kp A'.ex H2 (upd H2 A'.wk (.dT (putK kw2 (kk4 o s b e) (.int (cR g T' o (x.pieces.drop s) b e : Nat))))) := Kp.put (by simp)
      have h3 := h2.keep k3
      refine ⟨_, rfl, c, _, _, _, rfl, h3.me.1, rfl, _, rfl, _, _, rfl, dget (k := kk4 o s b e) (v := .int (cR g T' o (x.pieces.drop s) b e : Nat)) (by rw [valV_put, if_pos rfl]) upd_same (k3 _ _ tp2 pn), ?_⟩
      refine q _ (k1.trans (k2.trans k3)) ⟨_, ks2, upd_same, by rw [upd_ne (fun z => h.ne z.symm)]; exact n2, ?_, n4⟩
      rw [pe]
      exact n3.put (by omega) (by omega) (by omega) (by omega)
    · obtain ⟨v, vs⟩ : ∃ v, valV kw (kk4 o s b e) = some v := by
        cases z : valV kw (kk4 o s b e) with
        | none => rw [z] at c3; exact absurd rfl c3
        | some v => exact ⟨v, rfl⟩
      have e1 := m3.get vs
      subst e1
      refine ⟨_, rfl, c, _, _, _, rfl, h1.me.1, rfl, _, rfl, _, _, rfl, dget vs m1 tp, ?_⟩
      rw [← pe]
      exact q _ k1 ⟨kw, ks, m1, m2, m3, m4⟩
abbrev s_Chart_ways_by_thing : Stmt := inClass (topS 20) 7
abbrev N_Chart_ways_by_thing : List Str := ["self", "number", "spot", "begin", "end", "sort", "pieces", "found", "place", "further"]
theorem sc_Chart_ways_by_thing : FnScope N_Chart_ways_by_thing ["self", "number", "spot", "begin", "end"] (defScope s_Chart_ways_by_thing) := ⟨rfl, rfl, rfl, by decide +kernel, rfl, by decide +kernel, by decide +kernel⟩
-- slots: self=0 number=1 spot=2 begin=3 end=4 sort=5 pieces=6 found=7 place=8 further=9
theorem ok_ways_by_thing (T : Txt K mg CH CO CC) (D : MetAt K CC "ways_by_thing" "Chart.ways_by_thing" s_Chart_ways_by_thing ["self", "number", "spot", "begin", "end"]) (M_ways : MetW P w K mg base CC n "ways" ["self", "number", "spot", "begin", "end"] (spWays CH CO CC n))
    (M_all_in : MetW P w K mg base CC n "all_in" ["self", "sort", "begin", "end"] (spAll CH CO CC n)) :
    MetW P w K mg base CC (n + 1) "ways_by_thing" ["self", "number", "spot", "begin", "end"] (spWbt CH CO CC (n + 1)) := by
  refine D.ok sc_Chart_ways_by_thing (fun vs H Q E h => ?_) (fun f cdv A outer s H vs Q E hr h => ?_)
  · obtain ⟨c, o, s, b, e, k, g, T', A', cv, B, x, rfl, _⟩ := h
    rfl
  obtain ⟨c, o, s, b, e, k, g, T', A', cv, B, x, rfl, h0, hm0, hx, ps, hbe, he, hn, q⟩ := h
  refine ⟨_, (pss_cons (ps_par (i := 5) (j := 6) rfl sc_Chart_ways_by_thing.nd rfl rfl (by decide) rfl rfl (pa_cons (pe_dget (hu_of hr) (pe_f T.flC (pv 0)) (pe_tup (pa_cons (pv 1) (pa_cons (pv 2) pa_nil))) (fun _ _ => rfl)) (pa_cons (pe_f T.flO (pe_ix ix_list (pe_f T.flH (pe_f T.flC (pv 0))) (pv 1) (fun _ _ => rfl))) pa_nil)) (by rfl))
      (pss_cons (ps_if (pt_cmpR op_eq (pv 2) (pe_op op_sub (pe_callB call_len_seq (by rfl) T.n_len boot_len (pa_cons (pv 6) pa_nil)) pe_int) (nomark _))
      (pss_one (ps_ret (pe_m M_all_in T.flC hr (pv 0) (pa_cons (pv 5) (pa_cons (pv 3) (pa_cons (pv 4) pa_nil))))))
      pss_nil)
      (pss_cons (ps_set (i := 7) sc_Chart_ways_by_thing.nd rfl (Or.inl rfl) pe_int)
      (pss_cons (ps_for PassesOwn.never rfl (pi_range2 (by rfl) T.n_range (pa_cons (pe_op op_add (pv 3) pe_int) (pa_cons (pv 4) pa_nil))) (pg_name (i := 8) sc_Chart_ways_by_thing.nd rfl (Or.inl rfl))
      (pss_cons (ps_set (i := 9) sc_Chart_ways_by_thing.nd rfl (Or.inl rfl) (pe_m M_ways T.flC hr (pv 0) (pa_cons (pv 1) (pa_cons (pe_op op_add (pv 2) pe_int) (pa_cons (pv 8) (pa_cons (pv 4) pa_nil))))))
      (pss_one (ps_if (pt_cmpR op_gt (pv 9) pe_int (nomark _))
      (pss_one (ps_set (i := 7) sc_Chart_ways_by_thing.nd rfl (Or.inl rfl) (pe_op op_add (pv 7) (pe_op op_mulW (pv 9) (pe_m M_all_in T.flC hr (pv 0) (pa_cons (pv 5) (pa_cons (pv 3) (pa_cons (pv 8) pa_nil))))))))
      pss_nil))))
      (pss_one (ps_ret (pv 7))))))), ?_⟩
  have pl : (pzs x.pieces).length = x.pieces.length := pzs_len _
  have dr := drop_at ps
  obtain ⟨ls, _⟩ := List.getElem?_eq_some_iff.mp ps
  obtain ⟨si, si1, si2⟩ := h0.sofv o k s (by rw [pieces_of hx]; exact ps)
  have sh := h0.short
  have kl := pieces_len (h0.ok.op_at hx).few
  -- the key's tuple
  refine ⟨_, rfl, c, _, _, _, rfl, h0.me.1, rfl, _, rfl, _, rfl, (by show 2 ≤ sizeLine; decide), fun p hp => ?_⟩
  have k1 : Kp A'.ex H (upd H p (.tup [.int o, .int s])) := Kp.new hp
  have h := h0.keep k1
  have hm : Memo (upd H p (.tup [.int o, .int s])) g T' A' := hm0.keep (Kp.new hp).same
  have tp : (upd H p (.tup [.int o, .int s])) p = some (.tup (([.inl (o : Int), .inl (s : Int)] : List Key).map kV)) := upd_same
  refine ⟨_, _, rfl, dget si1 h.sof.1 tp, ?_⟩
  obtain ⟨oa, oa1, dxo, pc, spa, oa2, pc2, _⟩ := h.house.opAt hx
  refine ⟨_, rfl, c, _, _, _, rfl, h.me.1, rfl, _, _, _, _, rfl, h.house.me.1, rfl, _, rfl, _, _, _, _, rfl, rfl, h.house.ops.seq, atI_nat oa1, _, _, _, _, rfl, oa2.1, rfl, ?_⟩
  refine ⟨_, _, rfl, ?_⟩
  refine ⟨_, rfl, _, rfl, _, _, rfl, .inl pc2.seq, _, _, rfl, rfl, rfl, _, rfl, ?_⟩
  refine ite2 (fun c1 => ?_) (fun c1 => ?_)
  · have c1' : (s : Int) = (pzs x.pieces).length - 1 := V.int.inj (of_decide_eq_true c1)
    rw [pl] at c1'
    have nil : x.pieces.drop (s + 1) = [] := List.drop_eq_nil_of_le (by omega)
    have lw : 5 * (e - b) + 3 ≤ n := by
      rw [dr, nil] at hn
      unfold lvW at hn
      rw [if_neg (show ¬ hasWord [.hole k] = true from Bool.false_ne_true)] at hn
      omega
    refine ⟨_, rfl, c, _, _, rfl, h.me.1, rfl, _, rfl, _, rfl, _, rfl, c, si, b, e, g, T', A', cv, B, _, rfl, h, hm, si2, hbe, he, lw, fun H2 k2 hm2 => ?_⟩
    have := q H2 (k1.trans k2) hm2
    rw [dr, nil, cR_hole_last hbe] at this
    exact this
  have c1' : ¬ (s : Int) = (pzs x.pieces).length - 1 := fun z => c1 (decide_eq_true (congrArg V.int z))
  rw [pl] at c1'
  have nn : x.pieces.drop (s + 1) ≠ [] := fun z => by
    have := congrArg List.length z
    rw [List.length_drop] at this
    simp only [List.length_nil] at this
    omega
  have hw : hasWord (x.pieces.drop (s + 1)) = true := by
    refine altB_word (k := k) ?_ nn
    rw [← dr]
    exact altB_drop s (pieces_alt (h0.ok.op_at hx).some_)
  have hn2 : 5 * (e - b) ≤ n + 1 := by
    have hn3 := hn
    rw [dr] at hn3
    unfold lvW at hn3
    rw [if_pos (show hasWord (.hole k :: x.pieces.drop (s + 1)) = true from hw)] at hn3
    omega
  let F : Nat → Nat := fun d => cnt g T' (fits g o k) b (b + d + 1) * cR g T' o (x.pieces.drop (s + 1)) (b + d + 1) e
  have cw : cR g T' o (x.pieces.drop s) b e = ((List.range (e - b - 1)).map F).sum := by rw [dr, cR_hole_more nn hbe]
  have nt : ((e : Int) - ((b : Int) + 1)).toNat = e - b - 1 := by omega
  refine ⟨_, rfl, _, _, rfl, rfl, _, rfl, _, _, rfl, ⟨by omega, by omega, by omega, by omega⟩, ?_⟩
  refine for_range (lo := (b : Int) + 1) (n := ((e : Int) - ((b : Int) + 1)).toNat) (fun t σ H' => ∃ v u, σ = [some (.ref c), some (.int o), some (.int s), some (.int b), some (.int e), some (.int si), some (.ref pc), some (.int ((((List.range t).map F).sum : Nat) : Int)), v, u] ∧ Kp A'.ex (upd H p (.tup [.int o, .int s])) H' ∧ Memo H' g T' A')
    ⟨none, none, rfl, Kp.refl, hm⟩ ?_ ?_
  · rintro t σ H3 ht ⟨v, u, rfl, k3, hm3⟩
    rw [nt] at ht
    have h3 := h.keep k3
    have lw : lvW (x.pieces.drop (s + 1)) (e - (b + t + 1)) ≤ n := by
      unfold lvW
      rw [if_pos hw]
      omega
    refine ⟨_, rfl, c, _, _, rfl, h3.me.1, rfl, _, rfl, _, rfl, _, _, rfl, rfl, _, rfl, _, rfl, c, o, s + 1, b + t + 1, e, g, T', A', cv, B, x, ?_, h3, hm3, hx, ls, by omega, he, lw, fun H4 k4 hm4 => ?_⟩
    · show [V.ref c, V.int o, V.int ((s : Int) + 1), V.int ((b : Int) + 1 + t), V.int e] = _
      rw [show (b : Int) + 1 + t = ((b + t + 1 : Nat) : Int) by omega]
      rfl
    have h4 := h3.keep k4
    refine ⟨_, rfl, _, _, rfl, rfl, _, rfl, ?_⟩
    refine ite2 (fun c2 => ?_) (fun c2 => ?_)
    · have c2' : 0 < ((cR g T' o (x.pieces.drop (s + 1)) (b + t + 1) e : Nat) : Int) := of_decide_eq_true c2
      refine ⟨_, rfl, _, rfl, _, rfl, c, _, _, rfl, h4.me.1, rfl, _, rfl, _, rfl, _, rfl, c, si, b, b + t + 1, g, T', A', cv, B, _, ?_, h4, hm4, si2, by omega, by omega, by omega, fun H5 k5 hm5 => ?_⟩
      · show [V.ref c, V.int si, V.int b, V.int ((b : Int) + 1 + t)] = _
        rw [show (b : Int) + 1 + t = ((b + t + 1 : Nat) : Int) by omega]
      refine ⟨_, _, rfl, rfl, ?_, _, _, rfl, rfl, some (.int ((b : Int) + 1 + t)), some (.int (cR g T' o (x.pieces.drop (s + 1)) (b + t + 1) e : Nat)), ?_, k3.trans (k4.trans k5), hm5⟩
      · refine wide_mul (a := BIG) (b := BIG) ?_ ?_ (by decide) (by decide) (by decide)
        · rw [Int.natAbs_natCast]
          exact cR_le h.ok _ (by omega)
        · rw [Int.natAbs_natCast]
          exact cnt_le h.ok (Nat.le_trans (fits_len g o k) h.ok.few) (by omega) (by omega)
      · rw [sum_snoc]
        show [some (V.ref c), some (V.int o), some (V.int s), some (V.int b), some (V.int e), some (V.int si), some (V.ref pc), some (V.int (((((List.range t).map F).sum : Nat) : Int) + ((cR g T' o (x.pieces.drop (s + 1)) (b + t + 1) e : Nat) : Int) * ((cnt g T' (fits g o k) b (b + t + 1) : Nat) : Int))), _, _] = _
        rw [show ((((List.range t).map F).sum : Nat) : Int) + ((cR g T' o (x.pieces.drop (s + 1)) (b + t + 1) e : Nat) : Int) * ((cnt g T' (fits g o k) b (b + t + 1) : Nat) : Int) = ((((List.range t).map F).sum + F t : Nat) : Int) by
          rw [Int.natCast_add, Int.mul_comm, ← Int.natCast_mul]]
    · have c2' : ¬ 0 < ((cR g T' o (x.pieces.drop (s + 1)) (b + t + 1) e : Nat) : Int) := of_decide_eq_false (Bool.eq_false_iff.mpr c2)
      refine ⟨some (.int ((b : Int) + 1 + t)), some (.int (cR g T' o (x.pieces.drop (s + 1)) (b + t + 1) e : Nat)), ?_, k3.trans k4, hm4⟩
      have z : cR g T' o (x.pieces.drop (s + 1)) (b + t + 1) e = 0 := by omega
      have z2 : F t = 0 := by
        show cnt g T' (fits g o k) b (b + t + 1) * cR g T' o (x.pieces.drop (s + 1)) (b + t + 1) e = 0
        rw [z, Nat.mul_zero]
      rw [sum_snoc, z2]
      rfl
  · rintro σ H3 ⟨v, u, rfl, k3, hm3⟩
    rw [nt]
    refine ⟨_, rfl, ?_⟩
    have := q H3 (k1.trans k3) hm3
    rw [cw] at this
    exact this
end
end Wo
end
section
set_option Elab.async false
set_option linter.all false
set_option maxRecDepth 100000
set_option maxHeartbeats 4000000
namespace Wo
open PySem PySem.Spec PyProof.Rows L2
abbrev s_Chart_put_sort : Stmt := inClass (topS 20) 1
abbrev N_Chart_put_sort : List Str := ["self", "owner", "spot", "some"]
theorem sc_Chart_put_sort : FnScope N_Chart_put_sort ["self", "owner", "spot", "some"] (defScope s_Chart_put_sort) := ⟨rfl, rfl, rfl, by decide +kernel, rfl, by decide +kernel, by decide +kernel⟩
-- slots: self=0 owner=1 spot=2 some=3
abbrev s_Chart___init__ : Stmt := inClass (topS 20) 0
abbrev N_Chart___init__ : List Str := ["self", "house", "text", "owner", "operator", "thing", "spot"]
theorem sc_Chart___init__ : FnScope N_Chart___init__ ["self", "house", "text"] (defScope s_Chart___init__) := ⟨rfl, rfl, rfl, by decide +kernel, rfl, by decide +kernel, by decide +kernel⟩
-- slots: self=0 house=1 text=2 owner=3 operator=4 thing=5 spot=6
abbrev s_Chart_many : Stmt := inClass (topS 20) 9
abbrev N_Chart_many : List Str := ["self"]
theorem sc_Chart_many : FnScope N_Chart_many ["self"] (defScope s_Chart_many) := ⟨rfl, rfl, rfl, by decide +kernel, rfl, by decide +kernel, by decide +kernel⟩
-- slots: self=0
structure ChartTxt (K : PySem.W.Frag) (CC : Addr) : Prop where
  put_sort : MetAt K CC "put_sort" "Chart.put_sort" s_Chart_put_sort ["self", "owner", "spot", "some"]
  is_even : MetAt K CC "is_even" "Chart.is_even" s_Chart_is_even ["self", "begin", "end"]
  alone_in : MetAt K CC "alone_in" "Chart.alone_in" s_Chart_alone_in ["self", "begin", "end"]
  bracketed_in : MetAt K CC "bracketed_in" "Chart.bracketed_in" s_Chart_bracketed_in ["self", "begin", "end"]
  counted : MetAt K CC "counted" "Chart.counted" s_Chart_counted ["self", "sort", "begin", "end"]
  all_in : MetAt K CC "all_in" "Chart.all_in" s_Chart_all_in ["self", "sort", "begin", "end"]
  ways_by_thing : MetAt K CC "ways_by_thing" "Chart.ways_by_thing" s_Chart_ways_by_thing ["self", "number", "spot", "begin", "end"]
  ways : MetAt K CC "ways" "Chart.ways" s_Chart_ways ["self", "number", "spot", "begin", "end"]
  many : MetAt K CC "many" "Chart.many" s_Chart_many ["self"]
section
variable {P : Program} {w : World} {K : PySem.W.Frag} {mg : Str → Option Value} {base : Heap} {CH CO CC : Addr}
/-- nothing is asked where nothing is promised -/
theorem MetAt.void {C : Addr} {m qual : Str} {st : Stmt} {ps : List Str} {sp : Sp} (D : MetAt K C m qual st ps) (no : ∀ vs H Q E, ¬ sp vs H Q E) : MetW P w K mg base C 0 m ps sp := by
  obtain ⟨f, fd, h1, h2, h3⟩ := D.ex
  exact ⟨f, fd, h1, h3, fun vs H Q E h => absurd h (no vs H Q E), fun A outer s H args us vs Q E _ _ _ _ h => absurd h (no vs H Q E)⟩
structure ChartW (P : Program) (w : World) (K : PySem.W.Frag) (mg : Str → Option Value) (base : Heap) (CH CO CC : Addr) (n : Nat) : Prop where
  all_in : MetW P w K mg base CC n "all_in" ["self", "sort", "begin", "end"] (spAll CH CO CC n)
  counted : MetW P w K mg base CC n "counted" ["self", "sort", "begin", "end"] (spCounted CH CO CC n)
  bracketed_in : MetW P w K mg base CC n "bracketed_in" ["self", "begin", "end"] (spBrk CH CO CC n)
  ways : MetW P w K mg base CC n "ways" ["self", "number", "spot", "begin", "end"] (spWays CH CO CC n)
  ways_by_thing : MetW P w K mg base CC n "ways_by_thing" ["self", "number", "spot", "begin", "end"] (spWbt CH CO CC n)
theorem lvW_pos (l : List Sq15.Piece) (d : Nat) : 1 ≤ lvW l d := by
  unfold lvW
  split <;> omega
theorem lvW_hole {l : List Sq15.Piece} {d : Nat} (h : 1 ≤ d) : 2 ≤ lvW l d := by
  unfold lvW
  split <;> omega
theorem chart_ok (T : Txt K mg CH CO CC) (D : ChartTxt K CC) : ∀ n, ChartW P w K mg base CH CO CC n
  | 0 => ⟨D.all_in.void fun vs H Q E h => by obtain ⟨c, i, b, e, g, T', A', cv, B, S, _, _, _, _, _, _, h, _⟩ := h; omega,
    D.counted.void fun vs H Q E h => by obtain ⟨c, i, b, e, g, T', A', cv, B, S, _, _, _, _, _, _, h, _⟩ := h; omega,
    D.bracketed_in.void fun vs H Q E h => by obtain ⟨c, b, e, g, T', A', cv, B, _, _, _, _, _, h, _⟩ := h; omega,
    D.ways.void fun vs H Q E h => by
      obtain ⟨c, o, s, b, e, g, T', A', cv, B, x, _, _, _, _, _, _, _, h, _⟩ := h
      have := lvW_pos (x.pieces.drop s) (e - b)
      omega,
    D.ways_by_thing.void fun vs H Q E h => by
      obtain ⟨c, o, s, b, e, k, g, T', A', cv, B, x, _, _, _, _, _, h1, _, h, _⟩ := h
      have := lvW_hole (l := x.pieces.drop s) (d := e - b) (by omega)
      omega⟩
  | n + 1 => by
    have ih := chart_ok T D n
    have ev : MetW P w K mg base CC (n + 1) "is_even" ["self", "begin", "end"] (spEven CH CO CC) := (ok_is_even T D.is_even).mono (by omega)
    have al : MetW P w K mg base CC (n + 1) "alone_in" ["self", "begin", "end"] (spAlone CH CO CC) := (ok_alone_in T D.alone_in).mono (by omega)
    refine ⟨ok_all_in T D.all_in ih.counted, ?_, ok_bracketed_in T D.bracketed_in ih.all_in, ok_ways T D.ways ih.ways ih.ways_by_thing, ok_ways_by_thing T D.ways_by_thing ih.ways ih.all_in⟩
    cases n with
    | zero =>
      obtain ⟨f, fd, h1, h3, h4⟩ := ih.counted.ex
      refine ⟨f, fd, h1, h3, (h4.mono (Nat.zero_le _)).imp fun vs H Q E h => ?_⟩
      obtain ⟨c, i, b, e, g, T', A', cv, B, S, _, _, _, _, _, _, h, _⟩ := h
      omega
    | succ m => exact ok_counted T D.counted ((ok_is_even T D.is_even).mono (by omega)) ((ok_alone_in T D.alone_in).mono (by omega)) ih.bracketed_in ih.ways
def spMany (CH CO CC : Addr) : Sp := fun vs H Q _ => ∃ (c : Addr) (g : Sq15.House) (T : List Nat) (A : CA) (cv : V) (B : HA), vs = [.ref c] ∧ ChartAt CH CO CC H c g T A cv B ∧ Memo H g T A ∧ T ≠ [] ∧
  ∀ H', Kp A.ex H H' → Memo H' g T A → Q (.int (cnt g T (List.range g.ops.length) 0 T.length : Nat)) H'
theorem ok_many (T : Txt K mg CH CO CC) (D : ChartTxt K CC) : MetW P w K mg base CC 164 "many" ["self"] (spMany CH CO CC) := by
  have M_all_in := (chart_ok (P := P) (w := w) (base := base) T D 163).all_in
  refine D.many.ok sc_Chart_many (fun vs H Q E h => ?_) (fun f cdv A outer s H vs Q E hr h => ?_)
  · obtain ⟨c, g, T', A', cv, B, rfl, _⟩ := h
    rfl
  obtain ⟨c, g, T', A', cv, B, rfl, h, hm, hT, q⟩ := h
  refine ⟨_, (pss_one (ps_ret (pe_m M_all_in T.flC hr (pv 0) (pa_cons pe_int (pa_cons pe_int (pa_cons (pe_callB call_len_seq (by rfl) T.n_len boot_len (pa_cons (pe_f T.flC (pv 0)) pa_nil)) pa_nil)))))), ?_⟩
  have sh := h.short
  have hp : 0 < T'.length := List.length_pos_iff.mpr hT
  refine ⟨_, rfl, c, _, _, rfl, h.me.1, rfl, _, rfl, c, _, _, _, rfl, h.me.1, rfl, _, _, rfl, .inl h.text.seq, ?_⟩
  refine ⟨c, 0, 0, T'.length, g, T', A', cv, B, _, ?_, h, hm, h.sort0, hp, Nat.le_refl _, by omega, q⟩
  rw [vn_len]
  rfl
end
end Wo
end
section
set_option Elab.async false
set_option linter.all false
set_option maxRecDepth 100000
set_option maxHeartbeats 4000000
namespace Wo
open PySem PySem.Spec PyProof.Rows L2
theorem kk2_inj {p q : Nat × Nat} (h : kk2 p = kk2 q) : p = q := by
  obtain ⟨a, b⟩ := p
  obtain ⟨c, d⟩ := q
  unfold kk2 at h
  simp only [List.cons.injEq, Sum.inl.injEq] at h
  have : a = c ∧ b = d := by omega
  rw [this.1, this.2]
theorem valV_some {κ : Type} [DecidableEq κ] {k : κ} : ∀ {kvs : List (κ × V)}, k ∈ kvs.map (·.1) → (valV kvs k).isSome = true
  | [], h => by simp at h
  | (a, b) :: r, h => by
    by_cases e : a = k
    · rw [valV_pos (p := (a, b)) e]
      rfl
    · rw [valV_neg (p := (a, b)) e]
      rw [List.map_cons, List.mem_cons] at h
      exact valV_some (h.resolve_left fun z => e z.symm)
theorem Closer.has {kvs : List (List Key × V)} {t : List (Nat × Nat)} (c : Closer kvs t) (p : Nat × Nat) : (valV kvs (kk2 p)).isSome = t.contains p := by
  obtain ⟨ps, h1, h2, h3⟩ := c
  rw [Bool.eq_iff_iff, List.contains_iff_mem]
  constructor
  · intro h
    cases e : valV kvs (kk2 p) with
    | none => rw [e] at h; cases h
    | some v =>
      have m := valV_mem e
      have m2 : kk2 p ∈ kvs.map (·.1) := List.mem_map.mpr ⟨_, m, rfl⟩
      rw [h1] at m2
      obtain ⟨q, hq, eq⟩ := List.mem_map.mp m2
      rw [← kk2_inj eq]
      exact (h3 q).mp hq
  · intro h
    refine valV_some ?_
    rw [h1]
    exact List.mem_map.mpr ⟨p, (h3 p).mpr h, rfl⟩
def sideB (x y : Sq15.Op) (s : Nat) : Bool := if s = 0 then (x.fix == 2 || x.fix == 4) && (y.fix == 2 || y.fix == 4) else (x.fix == 1 || x.fix == 5) && (y.fix == 1 || y.fix == 5)
theorem in_two (f a b : Nat) : inV (V.int (f : Int)) [V.int (a : Int), V.int (b : Int)] = (f == a || f == b) := by
  have q := in_nats (a := f) (l := [a, b])
  have e : vn [a, b] = [V.int (a : Int), V.int (b : Int)] := rfl
  rw [e] at q
  rw [q, List.contains_cons, List.contains_cons, List.contains_nil, Bool.or_false]
section
variable {P : Program} {w : World} {K : PySem.W.Frag} {mg : Str → Option Value} {base : Heap} {CH CO CC : Addr}
abbrev s_may_by_side : Stmt := topS 11
abbrev N_may_by_side : List Str := ["own", "other", "spot"]
theorem sc_may_by_side : FnScope N_may_by_side ["own", "other", "spot"] (defScope s_may_by_side) := ⟨rfl, rfl, rfl, by decide +kernel, rfl, by decide +kernel, by decide +kernel⟩
-- slots: own=0 other=1 spot=2
def spSide (CO : Addr) : Sp := fun vs H Q _ => ∃ (a b : Addr) (s : Nat) (x y : Sq15.Op) (ex : List Addr), vs = [.ref a, .ref b, .int s] ∧ OpAt CO ex H a x ∧ OpAt CO ex H b y ∧ Q (.bl (sideB x y s)) H
theorem ok_may_by_side (T : Txt K mg CH CO CC) (D : DefAt K mg "may_by_side" s_may_by_side ["own", "other", "spot"]) : DefW P w K mg base 1 "may_by_side" ["own", "other", "spot"] (spSide CO) := by
  refine D.ok sc_may_by_side (fun vs H Q E h => ?_) (fun f cdv A outer s H vs Q E hr h => ?_)
  · obtain ⟨a, b, s, x, y, ex, rfl, _⟩ := h
    rfl
  obtain ⟨a, b, s, x, y, ex, rfl, ⟨dx, p1, p2, h1, _⟩, ⟨dy, p3, p4, h2, _⟩, q⟩ := h
  refine ⟨_, (pss_cons (ps_if (pt_cmpR op_eq (pv 2) pe_int (nomark _))
      (pss_one (ps_ret (pe_and (pe_cmpR op_in_seq (pe_f T.flO (pv 0)) (pe_gt T.g_TO_LEFT) (by rfl)) (pe_one (pe_cmpR op_in_seq (pe_f T.flO (pv 1)) (pe_gt T.g_TO_LEFT) (by rfl))))))
      pss_nil)
      (pss_one (ps_ret (pe_and (pe_cmpR op_in_seq (pe_f T.flO (pv 0)) (pe_gt T.g_TO_RIGHT) (by rfl)) (pe_one (pe_cmpR op_in_seq (pe_f T.flO (pv 1)) (pe_gt T.g_TO_RIGHT) (by rfl))))))), ?_⟩
  refine ⟨_, rfl, rfl, _, rfl, ?_⟩
  unfold sideB at q
  refine ite2 (fun c1 => ?_) (fun c1 => ?_)
  · have c1' : (s : Int) = 0 := V.int.inj (of_decide_eq_true c1)
    rw [if_pos (by omega)] at q
    refine ⟨_, rfl, a, _, _, _, rfl, h1.1, rfl, fun tl htl => ⟨tl, _, rfl, .inr (htl _), rfl, rfl, _, rfl, ?_⟩⟩
    have e1 : (if false = true then !inV (V.int (x.fix : Int)) [V.int 2, V.int 4] else inV (V.int (x.fix : Int)) [V.int 2, V.int 4]) = (x.fix == 2 || x.fix == 4) := in_two x.fix 2 4
    refine ite2 (fun c2 => ?_) (fun c2 => ?_)
    · rw [e1] at c2
      rw [c2] at q
      refine ⟨_, rfl, b, _, _, _, rfl, h2.1, rfl, fun tm htm => ⟨tm, _, rfl, .inr (htm _), rfl, rfl, ?_⟩⟩
      have e2 : (if false = true then !inV (V.int (y.fix : Int)) [V.int 2, V.int 4] else inV (V.int (y.fix : Int)) [V.int 2, V.int 4]) = (y.fix == 2 || y.fix == 4) := in_two y.fix 2 4
      rw [e2]
      exact q
    · rw [e1] at c2
      rw [Bool.eq_false_iff.mpr c2] at q
      exact q
  · have c1' : ¬ s = 0 := fun z => c1 (decide_eq_true (by rw [z]; rfl))
    rw [if_neg c1'] at q
    refine ⟨_, rfl, a, _, _, _, rfl, h1.1, rfl, fun tl htl => ⟨tl, _, rfl, .inr (htl _), rfl, rfl, _, rfl, ?_⟩⟩
    have e1 : (if false = true then !inV (V.int (x.fix : Int)) [V.int 1, V.int 5] else inV (V.int (x.fix : Int)) [V.int 1, V.int 5]) = (x.fix == 1 || x.fix == 5) := in_two x.fix 1 5
    refine ite2 (fun c2 => ?_) (fun c2 => ?_)
    · rw [e1] at c2
      rw [c2] at q
      refine ⟨_, rfl, b, _, _, _, rfl, h2.1, rfl, fun tm htm => ⟨tm, _, rfl, .inr (htm _), rfl, rfl, ?_⟩⟩
      have e2 : (if false = true then !inV (V.int (y.fix : Int)) [V.int 1, V.int 5] else inV (V.int (y.fix : Int)) [V.int 1, V.int 5]) = (y.fix == 1 || y.fix == 5) := in_two y.fix 1 5
      rw [e2]
      exact q
    · rw [e1] at c2
      rw [Bool.eq_false_iff.mpr c2] at q
      exact q
abbrev s_may : Stmt := topS 12
abbrev N_may : List Str := ["house", "owner", "thing", "number", "own", "other", "spot"]
theorem sc_may : FnScope N_may ["house", "owner", "thing", "number"] (defScope s_may) := ⟨rfl, rfl, rfl, by decide +kernel, rfl, by decide +kernel, by decide +kernel⟩
-- slots: house=0 owner=1 thing=2 number=3 own=4 other=5 spot=6
def spMay (CH CO : Addr) : Sp := fun vs H Q _ => ∃ (hp : Addr) (o k r : Nat) (h : Sq15.House) (cv : V) (B : HA) (ex : List Addr) (x y : Sq15.Op), vs = [.ref hp, .int o, .int k, .int r] ∧ HouseAt CH CO ex H hp h cv B ∧ Ok h ∧ h.ops[o]? = some x ∧ h.ops[r]? = some y ∧ k < x.holes ∧
  ∀ H', Same H H' → Q (.bl (h.may o k (some r))) H'
theorem ok_may (T : Txt K mg CH CO CC) (D : DefAt K mg "may" s_may ["house", "owner", "thing", "number"]) (D_may_by_side : DefW P w K mg base 1 "may_by_side" ["own", "other", "spot"] (spSide CO)) : DefW P w K mg base 2 "may" ["house", "owner", "thing", "number"] (spMay CH CO) := by
  refine D.ok sc_may (fun vs H Q E h => ?_) (fun f cdv A outer s H vs Q E hr h => ?_)
  · obtain ⟨hp, o, k, r, h, cv, B, ex, x, y, rfl, _⟩ := h
    rfl
  obtain ⟨hp, o, k, r, h, cv, B, ex, x, y, rfl, ha, K1, hx, hy, hk, q⟩ := h
  refine ⟨_, (pss_cons (ps_par (i := 4) (j := 5) rfl sc_may.nd rfl rfl (by decide) rfl rfl (pa_cons (pe_ix ix_list (pe_f T.flH (pv 0)) (pv 1) (fun _ _ => rfl)) (pa_cons (pe_ix ix_list (pe_f T.flH (pv 0)) (pv 3) (fun _ _ => rfl)) pa_nil)) (by rfl))
      (pss_cons (ps_set (i := 6) sc_may.nd rfl (Or.inl rfl) (pe_ix ix_list (pe_f T.flO (pv 4)) (pv 2) (fun _ _ => rfl)))
      (pss_cons (ps_if (PW.pt (pw_or (pt_chain op_lt op_lt pe_int (pv 6) (pe_op op_sub (pe_callB call_len_seq (by rfl) T.n_len boot_len (pa_cons (pe_f T.flO (pv 4)) pa_nil)) pe_int)) (pw_or1 (pt_cmpR op_eq (pe_f T.flO (pv 5)) (pe_gi T.g_CLOSED) (nomark _)))))
      (pss_one (ps_ret pe_bl))
      pss_nil)
      (pss_cons (ps_if (pt_cmp (pc_din (hu_of hr) (pe_tup (pa_cons (pe_f T.flO (pv 4)) (pa_cons (pe_f T.flO (pv 5)) pa_nil))) (pe_f T.flH (pv 0))) rfl)
      (pss_one (ps_ret pe_bl))
      pss_nil)
      (pss_one (ps_ret (pe_and (pe_cmpR op_eq (pe_f T.flO (pv 4)) (pe_f T.flO (pv 5)) (nomark _)) (pe_one (pe_d D_may_by_side hr (pa_cons (pv 4) (pa_cons (pv 5) (pa_cons (pv 6) pa_nil)))))))))))), ?_⟩
  obtain ⟨xa, xa1, xa2⟩ := ha.opAt hx
  obtain ⟨ya, ya1, ya2⟩ := ha.opAt hy
  obtain ⟨s, s1, s2, s3, s4, s5, s6⟩ := spot_ok (K1.op_at hx).some_ hk
  have hm := may_spot hx hy s4 s5 s6 s3
  obtain ⟨dx, p1, p2, x1, x2, x3⟩ := id xa2
  obtain ⟨dy, p3, p4, y1, y2, y3⟩ := id ya2
  refine ⟨_, rfl, hp, _, _, _, rfl, ha.me.1, rfl, _, rfl, _, _, _, _, rfl, rfl, ha.ops.seq, atI_nat xa1, _, rfl, hp, _, _, _, rfl, ha.me.1, rfl, _, rfl, _, _, _, _, rfl, rfl, ha.ops.seq, atI_nat ya1, _, _, rfl, ?_⟩
  refine ⟨_, rfl, xa, _, _, _, rfl, x1.1, rfl, _, rfl, _, _, _, _, rfl, rfl, x3.seq, atI_nat (vn_at s1), ?_⟩
  have pl : (pzs x.pieces).length = x.pieces.length := pzs_len _
  refine ⟨_, rfl, _, _, rfl, rfl, _, rfl, ?_⟩
  have fin : h.may o k (some r) = true → Q (.bl true) H := fun z => by
    have := q H (Same.refl H)
    rw [z] at this
    exact this
  by_cases b : 0 < s ∧ s < x.pieces.length - 1
  · rw [if_pos (Or.inl b)] at hm
    rw [decide_eq_true (show (0 : Int) < s by omega)]
    refine iteT ?_
    refine ⟨_, rfl, xa, _, _, _, rfl, x1.1, rfl, _, _, rfl, .inl x2.seq, _, _, rfl, rfl, _, _, rfl, rfl, _, rfl, ?_⟩
    rw [decide_eq_true (show (s : Int) < (pzs x.pieces).length - 1 by rw [pl]; omega)]
    exact iteT (fin hm)
  by_cases a : (0 : Int) < s
  case' pos =>
    rw [decide_eq_true a]
    refine iteT ?_
    refine ⟨_, rfl, xa, _, _, _, rfl, x1.1, rfl, _, _, rfl, .inl x2.seq, _, _, rfl, rfl, _, _, rfl, rfl, _, rfl, ?_⟩
    rw [decide_eq_false (show ¬ (s : Int) < (pzs x.pieces).length - 1 by rw [pl]; omega)]
    refine iteF ?_
  case' neg =>
    rw [decide_eq_false a]
    refine iteF ⟨_, rfl, iteF ?_⟩
  all_goals
    refine ⟨_, rfl, ya, _, _, _, rfl, y1.1, rfl, rfl, _, rfl, ?_⟩
    refine ite2 (fun c2 => ?_) (fun c2 => ?_)
    · have c2' : (y.fix : Int) = 0 := V.int.inj (of_decide_eq_true c2)
      rw [if_pos (Or.inr (show y.fix = 0 by omega))] at hm
      exact fin hm
    have c2' : ¬ y.fix = 0 := fun z => c2 (decide_eq_true (by rw [z]; rfl))
    rw [if_neg (show ¬ ((0 < s ∧ s < x.pieces.length - 1) ∨ y.fix = 0) from fun z => z.elim b c2')] at hm
    refine ⟨_, rfl, xa, _, _, _, rfl, x1.1, rfl, _, rfl, ya, _, _, _, rfl, y1.1, rfl, (by show 2 ≤ sizeLine; decide), fun p hp2 => ?_⟩
    have k1 : Kp ex H (upd H p (.tup [.int x.group, .int y.group])) := Kp.new hp2
    have k0 : Same H (upd H p (.tup [.int x.group, .int y.group])) := (Kp.new hp2).same
    have ha2 := ha.keep k1
    have tp : (upd H p (.tup [.int x.group, .int y.group])) p = some (.tup ((kk2 (x.group, y.group)).map kV)) := upd_same
    refine ⟨_, rfl, hp, _, _, _, rfl, ha2.me.1, rfl, _, _, rfl, DGet.t (k := kk2 (x.group, y.group)) ha2.closer.1 tp, _, rfl, ?_⟩
    rw [ha.rel.has]
    refine ite2 (fun c3 => ?_) (fun c3 => ?_)
    · rw [if_pos c3] at hm
      have := q _ k0
      rw [hm] at this
      exact this
    rw [if_neg c3] at hm
    have x4 := x1.keep k1
    have y4 := y1.keep k1
    refine ⟨_, rfl, xa, _, _, _, rfl, x4.1, rfl, _, rfl, ya, _, _, _, rfl, y4.1, rfl, rfl, _, rfl, ?_⟩
    have := q _ k0
    rw [hm] at this
    refine ite2 (fun c4 => ?_) (fun c4 => ?_)
    · have c4' : (x.group : Int) = y.group := V.int.inj (of_decide_eq_true c4)
      rw [show (x.group == y.group) = true from beq_iff_eq.mpr (by omega)] at this
      exact ⟨_, rfl, _, rfl, _, rfl, xa, ya, s, x, y, ex, rfl, xa2.keep k1, ya2.keep k1, this⟩
    · rw [show (x.group == y.group) = false from beq_eq_false_iff_ne.mpr fun z => c4 (decide_eq_true (by rw [z]))] at this
      exact this
end
end Wo
end
section
set_option Elab.async false
set_option linter.all false
set_option maxRecDepth 100000
set_option maxHeartbeats 4000000
namespace Wo
open PySem PySem.Spec PyProof.Rows L2
theorem small_lt {n : Nat} (h : n ≤ 100000) : n < sizeLine := by
  rw [line_eq]
  omega
theorem filter_snoc (p : Nat → Bool) (i : Nat) : (List.range (i + 1)).filter p = (List.range i).filter p ++ (if p i = true then [i] else []) := by
  rw [List.range_succ, List.filter_append]
  congr 1
  simp [List.filter_cons]
theorem vn_append (a b : List Nat) : vn (a ++ b) = vn a ++ vn b := List.map_append
section
variable {P : Program} {w : World} {K : PySem.W.Frag} {mg : Str → Option Value} {base : Heap} {CH CO CC : Addr}
abbrev s_all_may : Stmt := topS 13
abbrev N_all_may : List Str := ["house", "owner", "thing", "number"]
theorem sc_all_may : FnScope N_all_may ["house", "owner", "thing"] (defScope s_all_may) := ⟨rfl, rfl, rfl, by decide +kernel, rfl, by decide +kernel, by decide +kernel⟩
-- slots: house=0 owner=1 thing=2 number=3
def spAllMay (CH CO : Addr) : Sp := fun vs H Q _ => ∃ (hp : Addr) (o k : Nat) (h : Sq15.House) (cv : V) (B : HA) (ex : List Addr) (x : Sq15.Op), vs = [.ref hp, .int o, .int k] ∧ HouseAt CH CO ex H hp h cv B ∧ Ok h ∧ h.ops[o]? = some x ∧ k < x.holes ∧
  ∀ H' p, Same H H' → H p = none → H' p = some (.tup (vn (fits h o k))) → Q (.ref p) H'
theorem ok_all_may (T : Txt K mg CH CO CC) (D : DefAt K mg "all_may" s_all_may ["house", "owner", "thing"]) (D_may : DefW P w K mg base 2 "may" ["house", "owner", "thing", "number"] (spMay CH CO)) : DefW P w K mg base 3 "all_may" ["house", "owner", "thing"] (spAllMay CH CO) := by
  refine D.ok sc_all_may (fun vs H Q E h => ?_) (fun f cdv A outer s H vs Q E hr h => ?_)
  · obtain ⟨hp, o, k, h, cv, B, ex, x, rfl, _⟩ := h
    rfl
  obtain ⟨hp, o, k, h, cv, B, ex, x, rfl, ha, K1, hx, hk, q⟩ := h
  refine ⟨_, (pss_one (ps_ret (pe_callTy call_tuple_of (by rfl) T.n_tuple (by decide +kernel) (pa_cons (pe_lc (own := [("number", 3)]) rfl sc_all_may.nd (pi_range1 (by rfl) T.n_range (pa_cons (pe_callB call_len_seq (by rfl) T.n_len boot_len (pa_cons (pe_f T.flH (pv 0)) pa_nil)) pa_nil)) (blkOk_by (own := [("number", 3)]) (N := N_all_may) (sc := defScope s_all_may) (by decide +kernel)) (fun _ _ _ _ _ => by exact (pg_name (i := 3) sc_all_may.nd rfl (Or.inl rfl))) (fun _ _ _ _ _ => by exact (pts_one (pt_val (pe_d D_may hr (pa_cons (pv 0) (pa_cons (pv 1) (pa_cons (pv 2) (pa_cons (pv 3) pa_nil)))))))) (fun _ _ _ _ _ => by exact (pv 3))) pa_nil)))), ?_⟩
  have ll : (B.as.map V.ref).length = h.ops.length := by rw [List.length_map, ha.len]
  have fw := K1.few
  refine ⟨_, rfl, hp, _, _, _, rfl, ha.me.1, rfl, _, _, rfl, .inl ha.ops.seq, _, rfl, by omega, by omega, fun D hD => ?_⟩
  have nt : (((B.as.map V.ref).length : Nat) : Int).toNat = h.ops.length := by rw [ll]; omega
  refine lc_range (lo := 0) (n := (((B.as.map V.ref).length : Nat) : Int).toNat) (fun i H' => H' D = some (.lst (vn ((List.range i).filter fun q => h.may o k (some q)))) ∧ Same H H') ⟨upd_same, (Kp.new hD).same⟩ ?_ ?_
  · rintro i H2 hi ⟨d2, s2⟩
    rw [nt] at hi
    have hy : h.ops[i]? = some h.ops[i] := List.getElem?_eq_getElem hi
    refine ⟨rfl, ?_⟩
    refine ⟨_, rfl, _, rfl, _, rfl, _, rfl, hp, o, k, i, h, cv, B, ex, x, h.ops[i], ?_, ha.keep (Same.kp s2), K1, hx, hy, hk, fun H3 s3 => ?_⟩
    · show [V.ref hp, V.int o, V.int k, V.int (0 + (i : Int))] = _
      rw [Int.zero_add]
    refine ⟨_, rfl, ?_⟩
    have d3 := s3 _ _ d2
    have lf : ((List.range i).filter fun q => h.may o k (some q)).length ≤ i := Nat.le_trans (List.length_filter_le ..) (by rw [List.length_range]; exact Nat.le_refl _)
    cases c : h.may o k (some i) with
    | true =>
      refine iteT ⟨_, rfl, _, d3, by rw [vn_len]; exact small_lt (by omega), ?_, fun b u e => ?_⟩
      · rw [upd_same, filter_snoc, if_pos c, vn_append]
        show some (HO.lst (vn _ ++ [V.int (0 + (i : Int))])) = some (HO.lst (vn _ ++ vn [i]))
        rw [Int.zero_add]
        rfl
      · rw [upd_ne (ne_of_none e hD)]
        exact s3 _ _ (s2 _ _ e)
    | false =>
      refine iteF ⟨?_, s2.trans s3⟩
      rw [filter_snoc, if_neg (by rw [c]; exact Bool.false_ne_true), List.append_nil]
      exact d3
  · rintro H2 ⟨d2, s2⟩
    rw [nt] at d2
    refine ⟨_, _, rfl, .inl ⟨SqL.of d2, fun l hl => ?_⟩⟩
    exact q _ l (s2.trans (Kp.new hl).same) (s2.free hl) upd_same
abbrev s_depths_of : Stmt := topS 19
abbrev N_depths_of : List Str := ["text", "found", "word"]
theorem sc_depths_of : FnScope N_depths_of ["text"] (defScope s_depths_of) := ⟨rfl, rfl, rfl, by decide +kernel, rfl, by decide +kernel, by decide +kernel⟩
-- slots: text=0 found=1 word=2
def spDepths : Sp := fun vs H Q _ => ∃ (tx : Addr) (T : List Nat), vs = [.ref tx] ∧ H tx = some (.lst (vn T)) ∧ T.length ≤ 100 ∧ ∀ H' p, Same H H' → H p = none → H' p = some (.lst ((List.range (T.length + 1)).map fun i => V.int (dep T i))) → Q (.ref p) H'
theorem ok_depths_of (T : Txt K mg CH CO CC) (D : DefAt K mg "depths_of" s_depths_of ["text"]) : DefW P w K mg base 1 "depths_of" ["text"] spDepths := by
  refine D.ok sc_depths_of (fun vs H Q E h => ?_) (fun f cdv A outer s H vs Q E hr h => ?_)
  · obtain ⟨tx, T', rfl, _⟩ := h
    rfl
  obtain ⟨tx, T', rfl, ht, hl, q⟩ := h
  refine ⟨_, (pss_cons (ps_set (i := 1) sc_depths_of.nd rfl (Or.inl rfl) (pe_lst (pa_cons pe_int pa_nil)))
      (pss_cons (ps_for PassesOwn.never rfl (pi_list (pv 0)) (pg_name (i := 2) sc_depths_of.nd rfl (Or.inl rfl))
      (pss_one (ps_expr (pe_bm PySem.F.plainAttrs_list PySem.F.slot_list_append PySem.F.type_list_append mt_append (pv 1) (pa_cons (pe_op op_sub (pe_op op_add (pe_ix ix_list (pv 1) (pe_un un_neg pe_int) (fun _ _ => rfl)) (pe_callTy call_int1 (by rfl) T.n_int (by decide +kernel) (pa_cons (pe_cmpR op_eq (pv 2) (pe_gi T.g_OPEN) (nomark _)) pa_nil))) (pe_callTy call_int1 (by rfl) T.n_int (by decide +kernel) (pa_cons (pe_cmpR op_eq (pv 2) (pe_gi T.g_SHUT) (nomark _)) pa_nil))) pa_nil)))))
      (pss_one (ps_ret (pv 1))))), ?_⟩
  refine ⟨(by show 1 ≤ sizeLine; decide), fun p hp => ?_⟩
  have ne : tx ≠ p := ne_of_none ht hp
  refine ⟨_, rfl, tx, rfl, ⟨_, SqL.of (by rw [upd_ne ne]; exact ht)⟩, ?_⟩
  refine for_list (K := K) (a := tx) (xs := vn T') (fun i σ H' => ∃ v, σ = [some (.ref tx), some (.ref p), v] ∧ H' p = some (.lst ((List.range (i + 1)).map fun i => V.int (dep T' i))) ∧ Same H H') ⟨none, rfl, ?_, (Kp.new hp).same⟩ (fun i σ H' _ ⟨_, _, _, s2⟩ => SqL.of (s2 _ _ ht)) ?_ ?_
  · rw [upd_same]
    rfl
  · rintro i y σ H2 hy ⟨v, rfl, d2, s2⟩
    obtain ⟨wd, hw, rfl⟩ : ∃ o, T'[i]? = some o ∧ y = V.int (o : Int) := by
      unfold vn at hy
      rw [List.getElem?_map] at hy
      cases z : T'[i]? with
      | none => rw [z] at hy; cases hy
      | some o => rw [z] at hy; exact ⟨o, rfl, (Option.some.inj hy).symm⟩
    obtain ⟨li, _⟩ := List.getElem?_eq_some_iff.mp hw
    have last : atI ((List.range (i + 1)).map fun i => V.int (dep T' i)) (-1) = some (V.int (dep T' i)) := by
      unfold atI ixN
      rw [List.length_map, List.length_range]
      rw [if_neg (by omega), if_pos (by omega)]
      simp only [Option.bind_some]
      rw [List.getElem?_map, List.getElem?_range (by omega)]
      simp
      rw [show (-1 + ((i : Int) + 1)).toNat = i by omega]
    refine ⟨_, rfl, .inl ⟨rfl, _, SqL.of d2⟩, _, rfl, _, rfl, _, _, _, _, rfl, rfl, SqL.of d2, last, _, rfl, rfl, .inr ⟨_, rfl, ?_⟩⟩
    refine ⟨_, _, rfl, rfl, _, rfl, rfl, .inr ⟨_, rfl, ?_⟩⟩
    refine ⟨_, _, rfl, rfl, p, _, _, rfl, rfl, d2, by simp; exact small_lt (by omega), ?_⟩
    refine ⟨_, rfl, ?_, fun b u e => ?_⟩
    · rw [upd_same]
      have e1 := dep_step hw
      have e2 : dep T' i + (if decide (V.int (wd : Int) = V.int 0) = true then 1 else 0) - (if decide (V.int (wd : Int) = V.int 1) = true then 1 else 0) = dep T' (i + 1) := by
        rw [e1]
        unfold delta
        have f : ∀ j : Nat, (if decide (V.int (wd : Int) = V.int (j : Int)) = true then (1 : Int) else 0) = if wd = j then 1 else 0 := fun j => by
          by_cases c : wd = j
          · rw [if_pos c, if_pos (decide_eq_true (by rw [c]))]
          · rw [if_neg c, if_neg]
            intro z
            have := V.int.inj (of_decide_eq_true z)
            omega
        have f0 := f 0
        have f1 := f 1
        have g0 : (if decide (V.int (wd : Int) = V.int 0) = true then (1 : Int) else 0) = if wd = 0 then 1 else 0 := f0
        have g1 : (if decide (V.int (wd : Int) = V.int 1) = true then (1 : Int) else 0) = if wd = 1 then 1 else 0 := f1
        rw [g0, g1]
        omega
      rw [List.range_succ (n := i + 1), List.map_append]
      exact congrArg (fun z => some (HO.lst (_ ++ [V.int z]))) e2
    · rw [upd_ne (ne_of_none e hp)]
      exact s2 _ _ e
  · rintro σ H2 ⟨v, rfl, d2, s2⟩
    rw [vn_len] at d2
    exact ⟨_, rfl, q H2 p s2 hp d2⟩
end
end Wo
end
section
set_option Elab.async false
set_option linter.all false
set_option maxRecDepth 100000
set_option maxHeartbeats 4000000
namespace Wo
open PySem PySem.Spec PyProof.Rows L2
/-! ### tuples of numbers as data -/
def dN (S : List Nat) : List PyData := S.map fun n : Nat => PyData.int (n : Int)
def dT1 (S : List Nat) : PyData := .tuple (dN S)
theorem dp_nats {K : PySem.W.Frag} {H : Hp} : ∀ S : List Nat, DpAll K H (vn S) (dN S)
  | [] => .nil
  | n :: r => .cons (.int (n : Int)) (dp_nats r)
theorem lay_nats : ∀ S : List Nat, PyData.canLayAll0 (dN S) = true
  | [] => by simp [dN, PyData.canLayAll0]
  | n :: r => by
    have := lay_nats r
    unfold dN at this ⊢
    simp [PyData.canLayAll0, PyData.canLay0, this]
theorem depth_nats : ∀ S : List Nat, PyData.depthAll (dN S) = 0
  | [] => by simp [dN, PyData.depthAll]
  | n :: r => by
    have := depth_nats r
    unfold dN at this ⊢
    simp [PyData.depthAll, PyData.depth, this]
theorem shaped_t (S : List Nat) : SeqAt.shaped (dT1 S) = true := by
  show (PyData.canLay0 (.tuple (dN S)) && decide (PyData.depth (.tuple (dN S)) ≤ 64)) = true
  rw [Bool.and_eq_true]
  exact ⟨by simp only [PyData.canLay0]; exact lay_nats S, decide_eq_true (by simp only [PyData.depth, depth_nats]; omega)⟩
theorem lay_ts : ∀ SS : List (List Nat), PyData.canLayAll0 (SS.map dT1) = true
  | [] => by simp [PyData.canLayAll0]
  | S :: r => by simp [PyData.canLayAll0, dT1, PyData.canLay0, lay_nats, lay_ts r]
theorem depth_ts : ∀ SS : List (List Nat), PyData.depthAll (SS.map dT1) ≤ 1
  | [] => by simp [PyData.depthAll]
  | S :: r => by
    have := depth_ts r
    simp only [List.map_cons, PyData.depthAll, dT1, PyData.depth, depth_nats]
    omega
theorem shaped_ts (SS : List (List Nat)) : SeqAt.shaped (.list (SS.map dT1)) = true := by
  show (PyData.canLay0 (.list (SS.map dT1)) && decide (PyData.depth (.list (SS.map dT1)) ≤ 64)) = true
  rw [Bool.and_eq_true]
  have := depth_ts SS
  exact ⟨by simp only [PyData.canLay0]; exact lay_ts SS, decide_eq_true (by simp only [PyData.depth]; omega)⟩
theorem eqvAll_nats : ∀ A B : List Nat, PyData.eqvAll (dN A) (dN B) = decide (A = B)
  | [], [] => by simp [dN, PyData.eqvAll]
  | [], b :: B => by simp [dN, PyData.eqvAll]
  | a :: A, [] => by simp [dN, PyData.eqvAll]
  | a :: A, b :: B => by
    have ih := eqvAll_nats A B
    unfold dN at ih ⊢
    simp only [List.map_cons, PyData.eqvAll, PyData.eqv, ih]
    by_cases e : a = b
    · subst e
      simp
    · rw [beq_eq_false_iff_ne.mpr (show (a : Int) ≠ (b : Int) by omega), Bool.false_and, decide_eq_false]
      intro z
      exact e (List.cons.inj z).1
theorem eqv_t (A B : List Nat) : PyData.eqv (dT1 A) (dT1 B) = decide (A = B) := by
  unfold dT1
  simp only [PyData.eqv]
  exact eqvAll_nats A B
theorem dpAll_ts {K : PySem.W.Frag} {H : Hp} : ∀ (sr : List Addr) (SS : List (List Nat)), sr.length = SS.length → (∀ (i : Nat) (a : Addr) (S : List Nat), sr[i]? = some a → SS[i]? = some S → H a = some (.tup (vn S))) → DpAll K H (sr.map V.ref) (SS.map dT1)
  | [], [], _, _ => .nil
  | [], _ :: _, h, _ => by simp at h
  | _ :: _, [], h, _ => by simp at h
  | a :: sr, S :: SS, h, f => .cons (.tup (SqT.of (f 0 a S rfl rfl)) (dp_nats S)) (dpAll_ts sr SS (by simpa using h) fun i b S' h1 h2 => f (i + 1) b S' (by simpa using h1) (by simpa using h2))
/-! ### sorts -/
def addS (SS : List (List Nat)) (S : List Nat) : List (List Nat) := if S ∈ SS then SS else SS ++ [S]
theorem addS_mem (SS : List (List Nat)) (S : List Nat) : S ∈ addS SS S := by
  unfold addS
  split
  · assumption
  · simp
theorem addS_at {SS : List (List Nat)} {S : List Nat} {i : Nat} {R : List Nat} (h : SS[i]? = some R) : (addS SS S)[i]? = some R := by
  unfold addS
  split
  · exact h
  · obtain ⟨lt, _⟩ := List.getElem?_eq_some_iff.mp h
    rw [List.getElem?_append_left lt]
    exact h
theorem addS_len (SS : List (List Nat)) (S : List Nat) : (addS SS S).length ≤ SS.length + 1 := by
  unfold addS
  split
  · omega
  · simp
theorem addS_in {SS : List (List Nat)} {S R : List Nat} (h : R ∈ addS SS S) : R ∈ SS ∨ R = S := by
  unfold addS at h
  split at h
  · exact .inl h
  · rcases List.mem_append.mp h with h | h
    · exact .inl h
    · exact .inr (List.mem_singleton.mp h)
structure SortInv (g : Sq15.House) (i j : Nat) (SS : List (List Nat)) (fkv : List (List Key × V)) : Prop where
  s0 : SS[0]? = some (List.range g.ops.length)
  sin : ∀ S ∈ SS, S.length ≤ 24 ∧ ∀ o ∈ S, o < g.ops.length
  len : SS.length ≤ 1 + 7 * i + j
  flen : fkv.length ≤ 7 * i + j
  val : ∀ o k s : Nat, (g.pieces o)[s]? = some (.hole k) → (o < i ∨ (o = i ∧ k < j)) → ∃ t : Nat, valV fkv [.inl (o : Int), .inl (s : Int)] = some (.int (t : Int)) ∧ SS[t]? = some (fits g o k)
theorem SortInv.start {g : Sq15.House} (K : Ok g) : SortInv g 0 0 [List.range g.ops.length] [] :=
  ⟨rfl, fun S h => by
    rw [List.mem_singleton] at h
    rw [h]
    exact ⟨by rw [List.length_range]; exact K.few, fun o ho => List.mem_range.mp ho⟩, Nat.le_refl _, Nat.le_refl _, fun o k s _ h => by omega⟩
theorem SortInv.put {g : Sq15.House} (K : Ok g) {i j s : Nat} {SS : List (List Nat)} {fkv : List (List Key × V)} (I : SortInv g i j SS fkv) {x : Sq15.Op} (hx : g.ops[i]? = some x) (hs : x.pieces[s]? = some (.hole j)) {t : Nat} (ht : (addS SS (fits g i j))[t]? = some (fits g i j)) :
    SortInv g i (j + 1) (addS SS (fits g i j)) (putK fkv [.inl (i : Int), .inl (s : Int)] (.int (t : Int))) := by
  refine ⟨addS_at I.s0, fun S h => ?_, Nat.le_trans (addS_len _ _) (by have := I.len; omega), Nat.le_trans (length_putK _ _ _) (by have := I.flen; omega), fun o k s' h1 h2 => ?_⟩
  · rcases addS_in h with h | rfl
    · exact I.sin S h
    · exact ⟨Nat.le_trans (fits_len g i j) K.few, fun o ho => List.mem_range.mp (List.mem_filter.mp ho).1⟩
  · rw [valV_put]
    by_cases c : ([.inl (o : Int), .inl (s' : Int)] : List Key) = [.inl (i : Int), .inl (s : Int)]
    · rw [if_pos c]
      simp only [List.cons.injEq, Sum.inl.injEq] at c
      obtain rfl : o = i := by omega
      obtain rfl : s' = s := by omega
      rw [pieces_of hx, hs] at h1
      cases h1
      exact ⟨t, rfl, ht⟩
    · rw [if_neg c]
      have h3 : o < i ∨ (o = i ∧ k < j) := by
        rcases h2 with h2 | ⟨rfl, h2⟩
        · exact .inl h2
        · refine .inr ⟨rfl, ?_⟩
          rcases Nat.lt_or_ge k j with z | z
          · exact z
          · exfalso
            obtain rfl : k = j := by omega
            rw [pieces_of hx] at h1
            have nd := pieces_numd (K.op_at hx).some_
            have a := (of_spot 0 0 x.pieces s' k nd h1).2.2
            have b := (of_spot 0 0 x.pieces s k nd hs).2.2
            rw [a] at b
            have : s' = s := by
              have := Option.some.inj b
              omega
            rw [this] at c
            exact c rfl
      obtain ⟨t', e1, e2⟩ := I.val o k s' h1 h3
      exact ⟨t', e1, addS_at e2⟩
theorem holes_le {x : Sq15.Op} (h : x.names.length ≤ 6) : x.holes ≤ 7 := by
  unfold Sq15.Op.holes
  split <;> split <;> omega
theorem SortInv.next {g : Sq15.House} (K : Ok g) {i : Nat} {SS : List (List Nat)} {fkv : List (List Key × V)} {x : Sq15.Op} (hx : g.ops[i]? = some x) (I : SortInv g i x.holes SS fkv) : SortInv g (i + 1) 0 SS fkv := by
  have h7 := holes_le (K.op_at hx).few
  refine ⟨I.s0, I.sin, by have := I.len; omega, by have := I.flen; omega, fun o k s h1 h2 => I.val o k s h1 ?_⟩
  rcases Nat.lt_or_ge o i with z | z
  · exact .inl z
  · obtain rfl : o = i := by omega
    refine .inr ⟨rfl, ?_⟩
    rw [pieces_of hx] at h1
    have nd := pieces_numd (K.op_at hx).some_
    have a := (of_spot 0 0 x.pieces s k nd h1).2.1
    rw [pieces_hc (K.op_at hx).some_] at a
    exact a
end Wo
end
section
set_option Elab.async false
set_option linter.all false
set_option maxRecDepth 100000
set_option maxHeartbeats 4000000
namespace Wo
open PySem PySem.Spec PyProof.Rows L2
theorem any_t (SS : List (List Nat)) (S : List Nat) : ((SS.map dT1).any fun z => PyData.eqv z (dT1 S)) = decide (S ∈ SS) := by
  rw [List.any_map, Bool.eq_iff_iff, List.any_eq_true, decide_eq_true_iff]
  constructor
  · rintro ⟨R, h, e⟩
    have : decide (R = S) = true := by rw [← eqv_t]; exact e
    rw [← of_decide_eq_true this]
    exact h
  · intro h
    exact ⟨S, h, by show PyData.eqv (dT1 S) (dT1 S) = true; rw [eqv_t]; simp⟩
def cF (hp tx dp so sf wk sk : Addr) : List (Str × V) := [("house", .ref hp), ("text", .ref tx), ("depths", .ref dp), ("sorts", .ref so), ("sort_of", .ref sf), ("ways_known", .ref wk), ("stretch_known", .ref sk)]
def spPutSort (CC : Addr) : Sp := fun vs H Q _ => ∃ (c dx hp tx dp so sf wk sk sa : Addr) (o s : Nat) (sr : List Addr) (SS : List (List Nat)) (fkv : List (List Key × V)) (S : List Nat), vs = [.ref c, .int o, .int s, .ref sa] ∧ H c = some (.ins CC dx (cF hp tx dp so sf wk sk)) ∧ H so = some (.lst (sr.map V.ref)) ∧ sr.length = SS.length ∧
  (∀ (i : Nat) (a : Addr) (R : List Nat), sr[i]? = some a → SS[i]? = some R → H a = some (.tup (vn R))) ∧ H sf = some (.dT fkv) ∧ H sa = some (.tup (vn S)) ∧ SS.length < 10000 ∧ fkv.length < 10000 ∧
  ∀ (H' : Hp) (sr' : List Addr) (t : Nat), Kp [so, sf] H H' → H' so = some (.lst (sr'.map V.ref)) → sr'.length = (addS SS S).length → (∀ (i : Nat) (a : Addr) (R : List Nat), sr'[i]? = some a → (addS SS S)[i]? = some R → H' a = some (.tup (vn R))) →
    H' sf = some (.dT (putK fkv [.inl (o : Int), .inl (s : Int)] (.int (t : Int)))) → (addS SS S)[t]? = some S → Q .non H'
section
variable {P : Program} {w : World} {K : PySem.W.Frag} {mg : Str → Option Value} {base : Heap} {CH CO CC : Addr}
theorem idx_ok {l : List (List Nat)} {S : List Nat} (h : S ∈ l) : ∃ t, l[t]? = some S ∧ (l.map dT1)[t]? = some (dT1 S) ∧ ∀ (m : Nat) (z : PyData), m < t → (l.map dT1)[m]? = some z → PyData.eqv z (dT1 S) = false := by
  refine ⟨l.idxOf S, ?_, ?_, fun m z hm hz => ?_⟩
  · rw [List.getElem?_eq_getElem (List.idxOf_lt_length_of_mem h), List.getElem_idxOf]
  · rw [List.getElem?_map, List.getElem?_eq_getElem (List.idxOf_lt_length_of_mem h), List.getElem_idxOf]
    rfl
  · rw [List.getElem?_map] at hz
    cases e : l[m]? with
    | none => rw [e] at hz; cases hz
    | some R =>
      rw [e] at hz
      have hz2 : dT1 R = z := Option.some.inj hz
      rw [← hz2, eqv_t]
      refine decide_eq_false fun q => ?_
      obtain ⟨lt, e2⟩ := List.getElem?_eq_some_iff.mp e
      have h4 : m < l.findIdx (· == S) := hm
      have := List.not_of_lt_findIdx h4
      simp [e2, q] at this
theorem ok_put_sort (T : Txt K mg CH CO CC) (D : MetAt K CC "put_sort" "Chart.put_sort" s_Chart_put_sort ["self", "owner", "spot", "some"]) : MetW P w K mg base CC 1 "put_sort" ["self", "owner", "spot", "some"] (spPutSort CC) := by
  refine D.ok sc_Chart_put_sort (fun vs H Q E h => ?_) (fun f cdv A outer s H vs Q E hr h => ?_)
  · obtain ⟨c, dx, hp, tx, dp, so, sf, wk, sk, sa, o, s, sr, SS, fkv, S, rfl, _⟩ := h
    rfl
  obtain ⟨c, dx, hp, tx, dp, so, sf, wk, sk, sa, o, s, sr, SS, fkv, S, rfl, hc, hso, hl, ht, hsf, hsa, l1, l2, q⟩ := h
  refine ⟨_, (pss_cons (ps_if (pt_cmpR (op_notInD (hu65 hr)) (pv 3) (pe_f T.flC (pv 0)) (by rfl))
      (pss_one (ps_expr (pe_bm PySem.F.plainAttrs_list PySem.F.slot_list_append PySem.F.type_list_append mt_append (pe_f T.flC (pv 0)) (pa_cons (pv 3) pa_nil))))
      pss_nil)
      (pss_one (ps_dput (hu_of hr) (pe_f T.flC (pv 0)) (pe_tup (pa_cons (pv 1) (pa_cons (pv 2) pa_nil))) (pe_bm PySem.F.plainAttrs_list PySem.F.slot_list_index PySem.F.type_list_index (mt_indexD (hu65 hr)) (pe_f T.flC (pv 0)) (pa_cons (pv 3) pa_nil)) rfl))), ?_⟩
  refine ⟨_, rfl, _, rfl, c, _, _, _, rfl, hc, rfl, dT1 S, SS.map dT1, .tup (SqT.of hsa) (dp_nats S), .lst (SqL.of hso) (dpAll_ts sr SS hl ht), shaped_t S, shaped_ts SS, _, rfl, ?_⟩
  rw [any_t]
  have sl : sr.length < sizeLine := small_lt (by omega)
  refine ite2 (fun c1 => ?_) (fun c1 => ?_)
  case' refine_1 =>
    have nin : S ∉ SS := by
      intro z
      rw [decide_eq_true z] at c1
      cases c1
    refine ⟨_, rfl, c, _, _, _, rfl, hc, rfl, .inl ⟨rfl, _, SqL.of hso⟩, _, rfl, so, _, _, rfl, rfl, hso, by rw [List.length_map]; exact sl, ?_⟩
    have ea : addS SS S = SS ++ [S] := by unfold addS; rw [if_neg nin]
    have k1 : Kp [so, sf] H (upd H so (.lst (sr.map V.ref ++ [V.ref sa]))) := Kp.put (by simp)
    have hc1 : (upd H so (.lst (sr.map V.ref ++ [V.ref sa]))) c = _ := (upd_ne (ne_of hc hso (by intro z; cases z))).trans hc
    have so1 : (upd H so (.lst (sr.map V.ref ++ [V.ref sa]))) so = some (.lst ((sr ++ [sa]).map V.ref)) := by rw [upd_same, List.map_append]; rfl
    have sf1 : (upd H so (.lst (sr.map V.ref ++ [V.ref sa]))) sf = _ := (upd_ne (ne_of hsf hso (by intro z; cases z))).trans hsf
    have sa1 : (upd H so (.lst (sr.map V.ref ++ [V.ref sa]))) sa = _ := (upd_ne (ne_of hsa hso (by intro z; cases z))).trans hsa
    have len1 : (sr ++ [sa]).length = (addS SS S).length := by rw [ea, List.length_append, List.length_append, hl]; rfl
    have tup1 : ∀ (i : Nat) (a : Addr) (R : List Nat), (sr ++ [sa])[i]? = some a → (addS SS S)[i]? = some R → (upd H so (.lst (sr.map V.ref ++ [V.ref sa]))) a = some (.tup (vn R)) := fun i a R h1 h2 => by
      rw [ea] at h2
      by_cases c : i < sr.length
      · rw [List.getElem?_append_left c] at h1
        rw [List.getElem?_append_left (by rw [← hl]; exact c)] at h2
        have := ht i a R h1 h2
        rw [upd_ne (ne_of this hso (by intro z; cases z))]
        exact this
      · rw [List.getElem?_append_right (by omega)] at h1
        rw [List.getElem?_append_right (by omega)] at h2
        rw [hl] at h1
        cases e : i - SS.length with
        | zero =>
          rw [e] at h1 h2
          cases h1
          cases h2
          exact sa1
        | succ m =>
          rw [e] at h1
          simp at h1
    generalize upd H so (.lst (sr.map V.ref ++ [V.ref sa])) = H1 at *
    generalize sr ++ [sa] = sr1 at *
  case' refine_2 =>
    have nin : S ∈ SS := by
      by_cases z : S ∈ SS
      · exact z
      · rw [decide_eq_false z] at c1
        exact absurd rfl c1
    have ea : addS SS S = SS := by unfold addS; rw [if_pos nin]
    have k1 : Kp [so, sf] H H := Kp.refl
    have hc1 := hc
    have so1 := hso
    have sf1 := hsf
    have sa1 := hsa
    have len1 : sr.length = (addS SS S).length := by rw [ea]; exact hl
    have tup1 : ∀ (i : Nat) (a : Addr) (R : List Nat), sr[i]? = some a → (addS SS S)[i]? = some R → H a = some (.tup (vn R)) := by rw [ea]; exact ht
  all_goals
    obtain ⟨t, t1, t2, t3⟩ := idx_ok (addS_mem SS S)
    have nso : sf ≠ so := ne_of hsf hso (by intro z; cases z)
    refine ⟨_, rfl, c, _, _, _, rfl, hc1, rfl, .inl ⟨rfl, _, SqL.of so1⟩, _, rfl, so, _, dT1 S, (addS SS S).map dT1, t, dT1 S, rfl, rfl, .lst (SqL.of so1) (dpAll_ts _ _ len1 tup1), .tup (SqT.of sa1) (dp_nats S), shaped_ts _, shaped_t S, t2, by rw [eqv_t]; simp, t3, ?_⟩
    refine ⟨_, rfl, c, _, _, _, rfl, hc1, rfl, _, rfl, _, rfl, (by show 2 ≤ sizeLine; decide), fun p hp2 => ?_⟩
    refine ⟨_, _, rfl, DPut.t (k := [.inl (o : Int), .inl (s : Int)]) (by rw [upd_ne (ne_of_none sf1 hp2)]; exact sf1) upd_same (small_lt (by omega)), ?_⟩
    refine q _ _ t (k1.trans ((Kp.new hp2).trans (Kp.put (by simp)))) ?_ len1 (fun i a R h1 h2 => ?_) upd_same t1
    · rw [upd_ne (fun z => nso z.symm), upd_ne (ne_of_none so1 hp2)]
      exact so1
    · have := tup1 i a R h1 h2
      rw [upd_ne (ne_of this sf1 (by intro z; cases z)), upd_ne (ne_of_none this hp2)]
      exact this
end
end Wo
end
section
set_option Elab.async false
set_option linter.all false
set_option maxRecDepth 100000
set_option maxHeartbeats 4000000
namespace Wo
open PySem PySem.Spec PyProof.Rows L2
theorem At.more {ex : List Addr} {H : Hp} {a c : Addr} {o u : HO} (h : At ex H a o) (hc : H c = some u) (n : o ≠ u) : At (c :: ex) H a o := ⟨h.1, fun z => by
  rcases List.mem_cons.mp z with e | e
  · exact ne_of h.1 hc n e
  · exact h.2 e⟩
theorem OpAt.more {CO : Addr} {ex : List Addr} {H : Hp} {a c : Addr} {u : HO} {x : Sq15.Op} (h : OpAt CO ex H a x) (hc : H c = some u) (n1 : ∀ dx fs, fs.length = 4 → HO.ins CO dx fs ≠ u) (n2 : ∀ xs, HO.lst xs ≠ u) : OpAt CO (c :: ex) H a x := by
  obtain ⟨dx, pc, sp, h1, h2, h3⟩ := h
  exact ⟨dx, pc, sp, h1.more hc (n1 _ _ rfl), h2.more hc (n2 _), h3.more hc (n2 _)⟩
theorem mem_swap {a b x : Addr} {l : List Addr} (h : x ∈ a :: b :: l) : x ∈ b :: a :: l := by
  simp only [List.mem_cons] at h ⊢
  rcases h with h | h | h
  · exact .inr (.inl h)
  · exact .inl h
  · exact .inr (.inr h)
theorem HouseAt.more {CH CO : Addr} {ex : List Addr} {H : Hp} {hp c : Addr} {u : HO} {h : Sq15.House} {cv : V} {A : HA} (x : HouseAt CH CO ex H hp h cv A) (hc : H c = some u) (n1 : ∀ C dx fs, 4 ≤ fs.length → HO.ins C dx fs ≠ u) (n2 : ∀ xs, HO.lst xs ≠ u) (n3 : HO.dT A.kvs ≠ u) : HouseAt CH CO (c :: ex) H hp h cv A :=
  ⟨x.me.more hc (n1 _ _ _ (by simp)), x.alone.more hc (n2 _), x.ops.more hc (n2 _), x.len, fun i a y h1 h2 => ((x.op i a y h1 h2).more hc (fun dx fs e => n1 _ _ _ (by omega)) n2).re fun _ hb => mem_swap hb, x.closer.more hc n3, x.rel, x.neal⟩
/-- other addresses may be let go of: those that were free before -/
theorem At.fresh {ex : List Addr} {H H' : Hp} {a p q : Addr} {o : HO} (h : At ex H a o) (h' : At ex H' a o) (hp : H p = none) (hq : H q = none) : At [p, q] H' a o := ⟨h'.1, fun z => by
  simp only [List.mem_cons, List.not_mem_nil, or_false] at z
  rcases z with z | z
  · exact ne_of_none h.1 hp z
  · exact ne_of_none h.1 hq z⟩
theorem At.fresh1 {ex : List Addr} {H H' : Hp} {a l p q : Addr} {o : HO} (h : At (l :: ex) H a o) (h' : At ex H' a o) (hp : H p = none) (hq : H q = none) : At (l :: [p, q]) H' a o := ⟨h'.1, fun z => by
  simp only [List.mem_cons, List.not_mem_nil, or_false] at z
  rcases z with z | z | z
  · exact h.2 (by rw [z]; simp)
  · exact ne_of_none h.1 hp z
  · exact ne_of_none h.1 hq z⟩
theorem OpAt.fresh1 {CO : Addr} {ex : List Addr} {H H' : Hp} {a l p q : Addr} {x : Sq15.Op} (h : OpAt CO (l :: ex) H a x) (k : Kp ex H H') (hp : H p = none) (hq : H q = none) : OpAt CO (l :: [p, q]) H' a x := by
  obtain ⟨dx, pc, sp, h1, h2, h3⟩ := h
  have sub : ∀ b ∈ ex, b ∈ l :: ex := fun _ hb => List.mem_cons_of_mem _ hb
  exact ⟨dx, pc, sp, h1.fresh1 ((h1.re sub).keep k) hp hq, h2.fresh1 ((h2.re sub).keep k) hp hq, h3.fresh1 ((h3.re sub).keep k) hp hq⟩
theorem HouseAt.fresh {CH CO : Addr} {ex : List Addr} {H H' : Hp} {hp p q : Addr} {h : Sq15.House} {cv : V} {A : HA} (x : HouseAt CH CO ex H hp h cv A) (k : Kp ex H H') (h1 : H p = none) (h2 : H q = none) : HouseAt CH CO [p, q] H' hp h cv A :=
  ⟨x.me.fresh (x.me.keep k) h1 h2, x.alone.fresh (x.alone.keep k) h1 h2, x.ops.fresh (x.ops.keep k) h1 h2, x.len, fun i a y e1 e2 => (x.op i a y e1 e2).fresh1 k h1 h2, x.closer.fresh (x.closer.keep k) h1 h2, x.rel, x.neal⟩
def spChartInit (CH CO CC : Addr) : Sp := fun vs H Q _ => ∃ (c dx hp tx : Addr) (g : Sq15.House) (T : List Nat) (cv : V) (B : HA), vs = [.ref c, .ref hp, .ref tx] ∧ H c = some (.ins CC dx []) ∧ HouseAt CH CO [] H hp g cv B ∧ Ok g ∧ H tx = some (.lst (vn T)) ∧ T.length ≤ 32 ∧
  ∀ (H' : Hp) (A : CA), Kp [c] H H' → A.hp = hp → H A.wk = none → H A.sk = none → (H A.dp = none ∧ H A.so = none ∧ A.tx = tx) → ChartAt CH CO CC H' c g T A cv B → Memo H' g T A → Q .non H'
section
variable {P : Program} {w : World} {K : PySem.W.Frag} {mg : Str → Option Value} {base : Heap} {CH CO CC : Addr}
theorem ok_Chart (T : Txt K mg CH CO CC) (D : MakAt K mg CC "Chart" "Chart.__init__" s_Chart___init__ ["self", "house", "text"]) (D_all_may : DefW P w K mg base 3 "all_may" ["house", "owner", "thing"] (spAllMay CH CO)) (D_depths_of : DefW P w K mg base 3 "depths_of" ["text"] spDepths)
    (M_put_sort : MetW P w K mg base CC 3 "put_sort" ["self", "owner", "spot", "some"] (spPutSort CC)) : MakW P w K mg base CC 4 "Chart" ["self", "house", "text"] (spChartInit CH CO CC) := by
  refine D.ok sc_Chart___init__ (fun vs H Q E h => ?_) (fun f cdv A outer s H vs Q E hr h => ?_)
  · obtain ⟨c, dx, hp, tx, g, T', cv, B, rfl, _⟩ := h
    rfl
  obtain ⟨c, dx, hp, tx, g, T', cv, B, rfl, hc, ha0, K1, ht0, hl, q⟩ := h
  refine ⟨_, (pss_cons (ps_fA T.flC (pv 0) (pv 1))
      (pss_cons (ps_fA T.flC (pv 0) (pv 2))
      (pss_cons (ps_fA T.flC (pv 0) (pe_d D_depths_of hr (pa_cons (pv 2) pa_nil)))
      (pss_cons (ps_fA T.flC (pv 0) (pe_lst (pa_cons (pe_tupRg rfl (by rfl) T.n_tuple (prg_1 (by rfl) T.n_range (pe_callB call_len_seq (by rfl) T.n_len boot_len (pa_cons (pe_f T.flH (pv 1)) pa_nil)))) pa_nil)))
      (pss_cons (ps_fA T.flC (pv 0) pe_dnewT)
      (pss_cons (ps_fA T.flC (pv 0) pe_dnewT)
      (pss_cons (ps_fA T.flC (pv 0) pe_dnewT)
      (pss_one (ps_for PassesOwn.never rfl (pi_enum (by rfl) T.n_enumerate (pa_cons (pe_f T.flH (pv 1)) pa_nil)) (pg_tup rfl (pgs_cons (pg_name (i := 3) sc_Chart___init__.nd rfl (Or.inl rfl)) (pgs_cons (pg_name (i := 4) sc_Chart___init__.nd rfl (Or.inl rfl)) pgs_nil)))
      (pss_one (ps_for PassesOwn.never rfl (pi_enum (by rfl) T.n_enumerate (pa_cons (pe_f T.flO (pv 4)) pa_nil)) (pg_tup rfl (pgs_cons (pg_name (i := 5) sc_Chart___init__.nd rfl (Or.inl rfl)) (pgs_cons (pg_name (i := 6) sc_Chart___init__.nd rfl (Or.inl rfl)) pgs_nil)))
      (pss_one (ps_expr (pe_m M_put_sort T.flC hr (pv 0) (pa_cons (pv 3) (pa_cons (pv 6) (pa_cons (pe_d D_all_may hr (pa_cons (pv 1) (pa_cons (pv 3) (pa_cons (pv 5) pa_nil)))) pa_nil))))))))))))))))), ?_⟩
  have ha := ha0.more hc (fun C dx fs l z => by cases z; simp at l) (fun xs z => by cases z) (fun z => by cases z)
  have ht : At [c] H tx (.lst (vn T')) := ⟨ht0, fun z => ne_of ht0 hc (by intro z; cases z) (List.mem_singleton.mp z)⟩
  -- house, text
  refine ⟨_, rfl, _, rfl, c, dx, _, [("house", .ref hp)], rfl, hc, rfl, (by simp), fun H1 c1 k1 => ?_⟩
  refine ⟨_, rfl, _, rfl, c, dx, _, [("house", .ref hp), ("text", .ref tx)], rfl, c1, rfl, (by simp), fun H2 c2 k2' => ?_⟩
  have k2 := k1.trans k2'
  -- depths
  refine ⟨_, rfl, tx, T', rfl, (ht.keep k2).1, by omega, fun H3 dp s3 dpn dpv => ?_⟩
  have c3 := s3 _ _ c2
  have k3 := k2.trans (Same.kp s3)
  have dpA : At [c] H3 dp _ := ⟨dpv, fun z => ne_of dpv c3 (by intro z; cases z) (List.mem_singleton.mp z)⟩
  refine ⟨_, rfl, c, dx, _, [("house", .ref hp), ("text", .ref tx), ("depths", .ref dp)], rfl, c3, rfl, (by simp), fun H4 c4 k4' => ?_⟩
  have k4 := k3.trans k4'
  have dp4 := dpA.keep k4'
  -- sorts
  have ll : (B.as.map V.ref).length = g.ops.length := by rw [List.length_map, ha.len]
  have fw := K1.few
  refine ⟨_, rfl, hp, _, _, _, rfl, (ha.keep k4).me.1, rfl, _, _, rfl, .inl (ha.keep k4).ops.seq, _, rfl, RgOk.of_le (by omega) (by omega) (by omega) (by omega), fun qa hqa => ?_⟩
  have c5 : (upd H4 qa (.tup (rgV 0 ((B.as.map V.ref).length : Nat)))) c = _ := (upd_ne (ne_of_none c4 hqa)).trans c4
  have k5 : Kp [c] H (upd H4 qa (.tup (rgV 0 ((B.as.map V.ref).length : Nat)))) := k4.trans (Kp.new hqa)
  have dp5 := dp4.keep (Kp.new (ex := [c]) (o := .tup (rgV 0 ((B.as.map V.ref).length : Nat))) hqa)
  have q5 : At [c] (upd H4 qa (.tup (rgV 0 ((B.as.map V.ref).length : Nat)))) qa (.tup (vn (List.range g.ops.length))) := by
    refine ⟨?_, fun z => ?_⟩
    · rw [upd_same, ll]
      unfold rgV vn
      rw [show ((g.ops.length : Int) - 0).toNat = g.ops.length by omega]
      exact congrArg (fun z => some (HO.tup z)) (List.map_congr_left fun i _ => by rw [Int.zero_add])
    · rw [List.mem_singleton.mp z, c4] at hqa
      cases hqa
  generalize upd H4 qa (.tup (rgV 0 ((B.as.map V.ref).length : Nat))) = H5 at *
  refine ⟨(by show 1 ≤ sizeLine; decide), fun so hso => ?_⟩
  have c6 : (upd H5 so (.lst [.ref qa])) c = _ := (upd_ne (ne_of_none c5 hso)).trans c5
  have k6' : Kp [c] H5 (upd H5 so (.lst [.ref qa])) := Kp.new hso
  have so6 : At [c] (upd H5 so (.lst [.ref qa])) so (.lst [.ref qa]) := ⟨upd_same, fun z => by
    rw [List.mem_singleton.mp z, c5] at hso
    cases hso⟩
  generalize upd H5 so (.lst [.ref qa]) = H6 at *
  have k6 := k5.trans k6'
  have dp6 := dp5.keep k6'
  have q6 := q5.keep k6'
  refine ⟨_, rfl, c, dx, _, [("house", .ref hp), ("text", .ref tx), ("depths", .ref dp), ("sorts", .ref so)], rfl, c6, rfl, (by simp), fun H7 c7 k7' => ?_⟩
  have k7 := k6.trans k7'
  have dp7 := dp6.keep k7'
  have q7 := q6.keep k7'
  have so7 := so6.keep k7'
  -- sort_of
  intro sf hsf
  have c8 : (upd H7 sf (.dT [])) c = _ := (upd_ne (ne_of_none c7 hsf)).trans c7
  have k8' : Kp [c] H7 (upd H7 sf (.dT [])) := Kp.new hsf
  have sf8 : At [c] (upd H7 sf (.dT [])) sf (.dT []) := ⟨upd_same, fun z => by
    rw [List.mem_singleton.mp z, c7] at hsf
    cases hsf⟩
  generalize upd H7 sf (.dT []) = H8 at *
  refine ⟨_, rfl, c, dx, _, [("house", .ref hp), ("text", .ref tx), ("depths", .ref dp), ("sorts", .ref so), ("sort_of", .ref sf)], rfl, c8, rfl, (by simp), fun H9 c9 k9' => ?_⟩
  have k89 := k8'.trans k9'
  have k9 := k7.trans k89
  have dp9 := dp7.keep k89
  have q9 := q7.keep k89
  have so9 := so7.keep k89
  have sf9 := sf8.keep k9'
  -- ways_known
  intro wk hwk
  have c10 : (upd H9 wk (.dT [])) c = _ := (upd_ne (ne_of_none c9 hwk)).trans c9
  have k10' : Kp [c] H9 (upd H9 wk (.dT [])) := Kp.new hwk
  have wkc : wk ∉ [c] := fun z => by
    rw [List.mem_singleton.mp z, c9] at hwk
    cases hwk
  have wk10 : At [c] (upd H9 wk (.dT [])) wk (.dT []) := ⟨upd_same, wkc⟩
  generalize upd H9 wk (.dT []) = H10 at *
  refine ⟨_, rfl, c, dx, _, [("house", .ref hp), ("text", .ref tx), ("depths", .ref dp), ("sorts", .ref so), ("sort_of", .ref sf), ("ways_known", .ref wk)], rfl, c10, rfl, (by simp), fun H11 c11 k11' => ?_⟩
  have k1011 := k10'.trans k11'
  have k11 := k9.trans k1011
  have wk11 := wk10.keep k11'
  -- stretch_known
  intro sk hsk
  have c12 : (upd H11 sk (.dT [])) c = _ := (upd_ne (ne_of_none c11 hsk)).trans c11
  have k12' : Kp [c] H11 (upd H11 sk (.dT [])) := Kp.new hsk
  have skc : sk ∉ [c] := fun z => by
    rw [List.mem_singleton.mp z, c11] at hsk
    cases hsk
  have sk12 : At [c] (upd H11 sk (.dT [])) sk (.dT []) := ⟨upd_same, skc⟩
  have nws : wk ≠ sk := ne_of_none wk11.1 hsk
  have hsk9 : H9 sk = none := k1011.free hsk skc
  generalize upd H11 sk (.dT []) = H12 at *
  refine ⟨_, rfl, c, dx, _, [("house", .ref hp), ("text", .ref tx), ("depths", .ref dp), ("sorts", .ref so), ("sort_of", .ref sf), ("ways_known", .ref wk), ("stretch_known", .ref sk)], rfl, c12, rfl, (by simp), fun H13 c13 k13' => ?_⟩
  have k1213 := k12'.trans k13'
  have k913 := k1011.trans k1213
  have k13 := k9.trans k913
  have wk13 := wk11.keep k1213
  have sk13 := sk12.keep k13'
  have dp13 := dp9.keep k913
  have q13 := q9.keep k913
  have so13 := so9.keep k913
  have sf13 := sf9.keep k913
  have dp14 := dp9.fresh dp13 hwk hsk9
  have so14 := so9.fresh so13 hwk hsk9
  have sf14 := sf9.fresh sf13 hwk hsk9
  have wkH : H wk = none := k9.free hwk wkc
  have dpH : H dp = none := k2.free dpn dpA.2
  have soH : H so = none := k5.free hso so6.2
  have skH : H sk = none := k9.free hsk9 skc
  have ha13 := ha.keep k13
  have ha14 := ha.fresh k13 wkH skH
  have ht14 := ht.fresh (ht.keep k13) wkH skH
  -- the loops
  have soH : H so = none := k5.free hso so6.2
  have sfH : H sf = none := k7.free hsf sf8.2
  have haS : HouseAt CH CO [so, sf] H13 hp g cv B := ha.fresh k13 soH sfH
  have cS : c ∉ [so, sf] := fun z => by
    simp only [List.mem_cons, List.not_mem_nil, or_false] at z
    rcases z with z | z
    · exact so13.2 (by rw [z]; simp)
    · exact sf13.2 (by rw [z]; simp)
  have nso : so ≠ sf := ne_of so13.1 sf13.1 (by intro z; cases z)
  have wkS : wk ∉ [so, sf] := fun z => by
    simp only [List.mem_cons, List.not_mem_nil, or_false] at z
    rcases z with z | z
    · exact so14.2 (by rw [z]; simp)
    · exact sf14.2 (by rw [z]; simp)
  have skS : sk ∉ [so, sf] := fun z => by
    simp only [List.mem_cons, List.not_mem_nil, or_false] at z
    rcases z with z | z
    · exact so14.2 (by rw [z]; simp)
    · exact sf14.2 (by rw [z]; simp)
  have dpS : dp ∉ [so, sf] := fun z => by
    simp only [List.mem_cons, List.not_mem_nil, or_false] at z
    rcases z with z | z
    · exact ne_of_none dp5.1 hso z
    · exact ne_of_none dp7.1 hsf z
  let LI : Nat → Nat → Hp → Prop := fun i j H' => ∃ (sr : List Addr) (SS : List (List Nat)) (fkv : List (List Key × V)), Kp [so, sf] H13 H' ∧ H' so = some (.lst (sr.map V.ref)) ∧ sr.length = SS.length ∧ (∀ (i : Nat) (a : Addr) (R : List Nat), sr[i]? = some a → SS[i]? = some R → H' a = some (.tup (vn R))) ∧ H' sf = some (.dT fkv) ∧ SortInv g i j SS fkv
  refine ⟨_, rfl, hp, _, _, _, rfl, ha13.me.1, rfl, B.ol, _, rfl, ha13.ops.seq, ?_⟩
  refine for_it (walk_enum (K := K) (a := B.ol) (xs := B.as.map V.ref)) (fun i σ H' => ∃ v1 v2 v3 v4, σ = [some (.ref c), some (.ref hp), some (.ref tx), v1, v2, v3, v4] ∧ LI i 0 H') ?_ ?_ ?_ ?_
  · refine ⟨none, none, none, none, rfl, [qa], [List.range g.ops.length], [], Kp.refl, so13.1, rfl, fun i a R h1 h2 => ?_, sf13.1, SortInv.start K1⟩
    cases i with
    | zero =>
      cases h1
      cases h2
      exact q13.1
    | succ i => simp at h1
  · rintro i σ H' _ ⟨_, _, _, _, _, sr, SS, fkv, kk, _⟩
    exact (haS.keep kk).ops.seq
  · rintro i y σ HA HB hi ⟨v1, v2, v3, v4, rfl, sr, SS, fkv, kk, so', sl, st, sf', sI⟩ ⟨T1, x1, y1, rfl, hT1, rfl, ex, ey⟩
    cases ex
    rw [ll] at hi
    have hx : g.ops[i]? = some g.ops[i] := List.getElem?_eq_getElem hi
    generalize g.ops[i] = x at hx
    obtain ⟨oa, oa1, oa2⟩ := haS.opAt hx
    have ey2 : (B.as.map V.ref)[i]? = some y1 := ey
    rw [oa1] at ey2
    cases ey2
    have kn : Kp [so, sf] HA (upd HA T1 (.tup [.int i, .ref oa])) := Kp.new hT1
    have st2 : ∀ (m : Nat) (a : Addr) (R : List Nat), sr[m]? = some a → SS[m]? = some R → (upd HA T1 (.tup [.int i, .ref oa])) a = some (.tup (vn R)) := fun m a R h1 h2 => by
      have := st m a R h1 h2
      rw [upd_ne (ne_of_none this hT1)]
      exact this
    have so2 : (upd HA T1 (.tup [.int i, .ref oa])) so = _ := (upd_ne (ne_of_none so' hT1)).trans so'
    have sf2 : (upd HA T1 (.tup [.int i, .ref oa])) sf = _ := (upd_ne (ne_of_none sf' hT1)).trans sf'
    refine ⟨T1, _, rfl, SqT.of upd_same, rfl, _, _, rfl, _, _, rfl, rfl, ?_⟩
    generalize upd HA T1 (.tup [.int i, .ref oa]) = HC at *
    have kc := kk.trans kn
    obtain ⟨dxo, pc, spa, oc1, oc2, oc3⟩ := oa2.keep kc
    refine ⟨_, rfl, oa, _, _, _, rfl, oc1.1, rfl, spa, _, rfl, oc3.seq, ?_⟩
    have lsp : (vn (spotsF 0 x.pieces)).length = x.holes := by rw [vn_len, spotsF_len, pieces_hc (K1.op_at hx).some_]
    refine for_it (walk_enum (K := K) (a := spa) (xs := vn (spotsF 0 x.pieces))) (fun j σ H' => ∃ v3 v4, σ = [some (.ref c), some (.ref hp), some (.ref tx), some (.int i), some (.ref oa), v3, v4] ∧ LI i j H' ∧ Kp [so, sf] HC H') ⟨v3, v4, rfl, ⟨sr, SS, fkv, kc, so2, sl, st2, sf2, sI⟩, Kp.refl⟩ ?_ ?_ ?_
    · rintro j σ H' _ ⟨_, _, _, _, k2⟩
      exact (oc3.keep k2).seq
    · rintro j y σ HD HE hj ⟨w3, w4, rfl, ⟨sr3, SS3, fkv3, kd, so3, sl3, st3, sf3, sI3⟩, kcd⟩ ⟨T2, x2, y2, rfl, hT2, rfl, ex, ey⟩
      cases ex
      rw [lsp] at hj
      obtain ⟨sp, sp1, sp2, _⟩ := spot_ok (K1.op_at hx).some_ hj
      have ey2 : (vn (spotsF 0 x.pieces))[j]? = some y2 := ey
      rw [vn_at sp1] at ey2
      cases ey2
      have kn2 : Kp [so, sf] HD (upd HD T2 (.tup [.int j, .int sp])) := Kp.new hT2
      have st4 : ∀ (i : Nat) (a : Addr) (R : List Nat), sr3[i]? = some a → SS3[i]? = some R → (upd HD T2 (.tup [.int j, .int sp])) a = some (.tup (vn R)) := fun i a R h1 h2 => by
        have := st3 i a R h1 h2
        rw [upd_ne (ne_of_none this hT2)]
        exact this
      have so4 : (upd HD T2 (.tup [.int j, .int sp])) so = _ := (upd_ne (ne_of_none so3 hT2)).trans so3
      have sf4 : (upd HD T2 (.tup [.int j, .int sp])) sf = _ := (upd_ne (ne_of_none sf3 hT2)).trans sf3
      refine ⟨T2, _, rfl, SqT.of upd_same, rfl, _, _, rfl, _, _, rfl, rfl, ?_⟩
      generalize upd HD T2 (.tup [.int j, .int sp]) = HF at *
      have kf := kd.trans kn2
      have cf := kf _ _ c13 cS
      refine ⟨_, rfl, c, _, _, rfl, cf, rfl, _, rfl, _, rfl, _, rfl, _, rfl, _, rfl, hp, i, j, g, cv, B, [so, sf], x, rfl, haS.keep kf, K1, hx, hj, fun HG sa s5 san sav => ?_⟩
      have h3 := s5 _ _ cf
      refine ⟨c, dx, hp, tx, dp, so, sf, wk, sk, sa, i, sp, sr3, SS3, fkv3, fits g i j, rfl, h3, s5 _ _ so4, sl3, fun i a R h1 h2 => s5 _ _ (st4 i a R h1 h2), s5 _ _ sf4, sav, by have := sI3.len; have := holes_le (K1.op_at hx).few; omega, by have := sI3.flen; have := holes_le (K1.op_at hx).few; omega, fun HI sr5 t ki so5 sl5 st5 sf5 ht5 => ?_⟩
      exact ⟨some (.int j), some (.int sp), rfl, ⟨sr5, _, _, kf.trans ((Same.kp s5).trans ki), so5, sl5, st5, sf5, sI3.put K1 hx sp2 ht5⟩, kcd.trans (kn2.trans ((Same.kp s5).trans ki))⟩
    · rintro σ H' ⟨w3, w4, rfl, ⟨sr3, SS3, fkv3, kd, so3, sl3, st3, sf3, sI3⟩, kcd⟩
      rw [lsp] at sI3
      exact ⟨_, _, _, _, rfl, sr3, SS3, fkv3, kd, so3, sl3, st3, sf3, sI3.next K1 hx⟩
  · rintro σ H' ⟨v1, v2, v3, v4, rfl, sr, SS, fkv, kk, so', sl, st, sf', sI⟩
    rw [ll] at sI
    have kfin : Kp [c] H H' := fun b o hb nb => kk b o (k13 b o hb nb) fun z => by
      simp only [List.mem_cons, List.not_mem_nil, or_false] at z
      rcases z with z | z
      · exact ne_of_none hb soH z
      · exact ne_of_none hb sfH z
    have wk' : H' wk = some (.dT []) := kk _ _ wk13.1 wkS
    have sk' : H' sk = some (.dT []) := kk _ _ sk13.1 skS
    have outc : c ∉ [wk, sk] := fun z => by
      simp only [List.mem_cons, List.not_mem_nil, or_false] at z
      rcases z with z | z
      · exact wkc (by rw [z]; simp)
      · exact skc (by rw [z]; simp)
    refine q H' ⟨dx, hp, tx, dp, so, sf, wk, sk, sr, SS, fkv⟩ kfin rfl wkH skH ⟨dpH, soH, rfl⟩ ?_ ⟨[], [], wk', sk', ⟨List.nodup_nil, fun k v m => by simp at m⟩, ⟨List.nodup_nil, fun k v m => by simp at m⟩⟩
    refine ⟨⟨kk _ _ c13 cS, outc⟩, ha.fresh kfin wkH skH, ht.fresh (ht.keep kfin) wkH skH, ⟨kk _ _ dp13.1 dpS, dp14.2⟩, ⟨so', so14.2⟩, sl, fun i a S h1 h2 => ⟨st i a S h1 h2, fun z => ?_⟩, sI.s0, sI.sin, (show SS.length ≤ 200 by have := sI.len; omega), ⟨sf', sf14.2⟩, fun o k s h1 => ?_, nws, hl, K1⟩
    · have := st i a S h1 h2
      simp only [List.mem_cons, List.not_mem_nil, or_false] at z
      rcases z with z | z
      · exact ne_of this wk' (by intro y; cases y) z
      · exact ne_of this sk' (by intro y; cases y) z
    · refine sI.val o k s h1 (.inl ?_)
      cases e : g.ops[o]? with
      | none =>
        rw [pieces_none e] at h1
        simp at h1
      | some x => exact (List.getElem?_eq_some_iff.mp e).1
end
end Wo
end
section
set_option Elab.async false
set_option linter.all false
set_option maxRecDepth 100000
set_option maxHeartbeats 4000000
namespace Wo
open PySem PySem.Spec PyProof.Rows L2
theorem stops_drop {i j t : Nat} (h : t < j - i) : (stops i j).drop t = (i + t + 1) :: (stops i j).drop (t + 1) := by
  have l : (stops i j).length = j - i := by unfold stops; rw [List.length_map, List.length_range]
  rw [List.drop_eq_getElem_cons (by omega)]
  congr 1
  unfold stops
  rw [List.getElem_map, List.getElem_range]
theorem stops_end {i j : Nat} : (stops i j).drop (j - i) = [] := List.drop_eq_nil_of_le (by unfold stops; rw [List.length_map, List.length_range]; exact Nat.le_refl _)
section
variable {P : Program} {w : World} {K : PySem.W.Frag} {mg : Str → Option Value} {base : Heap} {CH CO CC : Addr}
abbrev s_piece_of : Stmt := topS 21
abbrev N_piece_of : List Str := ["chart", "number", "spot", "stretch", "place", "begin", "end", "sort", "stop", "further", "many"]
theorem sc_piece_of : FnScope N_piece_of ["chart", "number", "spot", "stretch", "place"] (defScope s_piece_of) := ⟨rfl, rfl, rfl, by decide +kernel, rfl, by decide +kernel, by decide +kernel⟩
-- slots: chart=0 number=1 spot=2 stretch=3 place=4 begin=5 end=6 sort=7 stop=8 further=9 many=10
def spPiece (CH CO CC : Addr) : Sp := fun vs H Q _ => ∃ (c sa : Addr) (o s b e k n : Nat) (g : Sq15.House) (T : List Nat) (A : CA) (cv : V) (B : HA) (x : Sq15.Op), vs = [.ref c, .int o, .int s, .ref sa, .int n] ∧ ChartAt CH CO CC H c g T A cv B ∧ Memo H g T A ∧ g.ops[o]? = some x ∧ x.pieces[s]? = some (.hole k) ∧ b ≤ e ∧ e ≤ T.length ∧ H sa = some (.tup [.int b, .int e]) ∧
  ∀ (H' : Hp) (t : Addr), Kp A.ex H H' → Memo H' g T A → t ∉ A.ex → (∀ u, H t ≠ some u) → H' t = some (.tup [.int ((pieceOf g T o k (x.pieces.drop (s + 1)) b e n).1 : Nat), .int ((pieceOf g T o k (x.pieces.drop (s + 1)) b e n).2.1 : Nat), .int ((pieceOf g T o k (x.pieces.drop (s + 1)) b e n).2.2 : Nat)]) → Q (.ref t) H'
theorem ok_piece_of (T : Txt K mg CH CO CC) (D : DefAt K mg "piece_of" s_piece_of ["chart", "number", "spot", "stretch", "place"]) (M_ways : MetW P w K mg base CC 163 "ways" ["self", "number", "spot", "begin", "end"] (spWays CH CO CC 163)) (M_all_in : MetW P w K mg base CC 163 "all_in" ["self", "sort", "begin", "end"] (spAll CH CO CC 163)) :
    DefW P w K mg base 164 "piece_of" ["chart", "number", "spot", "stretch", "place"] (spPiece CH CO CC) := by
  refine D.ok sc_piece_of (fun vs H Q E h => ?_) (fun f cdv A outer s H vs Q E hr h => ?_)
  · obtain ⟨c, sa, o, s, b, e, k, n, g, T', A', cv, B, x, rfl, _⟩ := h
    rfl
  obtain ⟨c, sa, o, s, b, e, k, n, g, T', A', cv, B, x, rfl, h0, hm0, hx, ps, hbe, he, hsa, q⟩ := h
  refine ⟨_, (pss_cons (ps_asg (pv 3) (pg_tup rfl (pgs_cons (pg_name (i := 5) sc_piece_of.nd rfl (Or.inl rfl)) (pgs_cons (pg_name (i := 6) sc_piece_of.nd rfl (Or.inl rfl)) pgs_nil))))
      (pss_cons (ps_set (i := 7) sc_piece_of.nd rfl (Or.inl rfl) (pe_dget (hu_of hr) (pe_f T.flC (pv 0)) (pe_tup (pa_cons (pv 1) (pa_cons (pv 2) pa_nil))) (fun _ _ => rfl)))
      (pss_cons (ps_for PassesOwn.never rfl (pi_range2 (by rfl) T.n_range (pa_cons (pe_op op_add (pv 5) pe_int) (pa_cons (pe_op op_add (pv 6) pe_int) pa_nil))) (pg_name (i := 8) sc_piece_of.nd rfl (Or.inl rfl))
      (pss_cons (ps_set (i := 9) sc_piece_of.nd rfl (Or.inl rfl) (pe_m M_ways T.flC hr (pv 0) (pa_cons (pv 1) (pa_cons (pe_op op_add (pv 2) pe_int) (pa_cons (pv 8) (pa_cons (pv 6) pa_nil))))))
      (pss_cons (ps_set (i := 10) sc_piece_of.nd rfl (Or.inl rfl) (pe_op op_mulW (pv 9) (pe_m M_all_in T.flC hr (pv 0) (pa_cons (pv 7) (pa_cons (pv 5) (pa_cons (pv 8) pa_nil))))))
      (pss_cons (ps_if (pt_cmpR op_lt (pv 4) (pv 10) (nomark _))
      (pss_one (ps_ret (pe_tup (pa_cons (pv 8) (pa_cons (pv 9) (pa_cons (pv 4) pa_nil))))))
      pss_nil)
      (pss_one (ps_set (i := 4) sc_piece_of.nd rfl (Or.inl rfl) (pe_op op_sub (pv 4) (pv 10))))))))
      (pss_one (ps_ret (pe_tup (pa_cons (pv 6) (pa_cons pe_int (pa_cons (pv 4) pa_nil))))))))), ?_⟩
  obtain ⟨ls, _⟩ := List.getElem?_eq_some_iff.mp ps
  obtain ⟨si, si1, si2⟩ := h0.sofv o k s (by rw [pieces_of hx]; exact ps)
  have sh := h0.short
  refine ⟨_, rfl, sa, _, rfl, SqT.of hsa, rfl, _, _, rfl, _, _, rfl, rfl, ?_⟩
  refine ⟨_, rfl, c, _, _, _, rfl, h0.me.1, rfl, _, rfl, _, rfl, (by show 2 ≤ sizeLine; decide), fun p hp => ?_⟩
  have tp : (upd H p (.tup [.int o, .int s])) p = some (.tup (([.inl (o : Int), .inl (s : Int)] : List Key).map kV)) := upd_same
  have k1 : Kp A'.ex H (upd H p (.tup [.int o, .int s])) := Kp.new hp
  have hm : Memo (upd H p (.tup [.int o, .int s])) g T' A' := hm0.keep (Kp.new hp).same
  generalize upd H p (.tup [.int o, .int s]) = H1 at *
  have h := h0.keep k1
  refine ⟨_, _, rfl, dget si1 h.sof.1 tp, ?_⟩
  let F : Nat → Nat := fun s' => cR g T' o (x.pieces.drop (s + 1)) s' e
  let G : Nat → Nat := fun s' => cnt g T' (fits g o k) b s'
  have pd : ∀ m, pieceOf g T' o k (x.pieces.drop (s + 1)) b e m = pick2 F G (stops b e) e m := fun _ => rfl
  rw [pd] at q
  have nt : (((e : Int) + 1) - ((b : Int) + 1)).toNat = e - b := by omega
  refine ⟨_, rfl, _, _, rfl, rfl, _, rfl, _, _, rfl, rfl, _, _, rfl, ⟨by omega, by omega, by omega, by omega⟩, ?_⟩
  refine for_range (lo := (b : Int) + 1) (n := (((e : Int) + 1) - ((b : Int) + 1)).toNat) (fun t σ H' => ∃ (m : Nat) (v1 v2 v3 : Option V), σ = [some (.ref c), some (.int o), some (.int s), some (.ref sa), some (.int m), some (.int b), some (.int e), some (.int si), v1, v2, v3] ∧ Kp A'.ex H1 H' ∧ Memo H' g T' A' ∧ pick2 F G (stops b e) e n = pick2 F G ((stops b e).drop t) e m)
    ⟨n, none, none, none, rfl, Kp.refl, hm, rfl⟩ ?_ ?_
  · rintro t σ H3 ht ⟨m, v1, v2, v3, rfl, k3, hm3, em⟩
    rw [nt] at ht
    have h3 := h.keep k3
    have lw : lvW (x.pieces.drop (s + 1)) (e - (b + t + 1)) ≤ 163 := by
      unfold lvW
      split <;> omega
    refine ⟨_, rfl, c, _, _, rfl, h3.me.1, rfl, _, rfl, _, rfl, _, _, rfl, rfl, _, rfl, _, rfl, c, o, s + 1, b + t + 1, e, g, T', A', cv, B, x, ?_, h3, hm3, hx, ls, by omega, he, lw, fun H4 k4 hm4 => ?_⟩
    · show [V.ref c, V.int o, V.int ((s : Int) + 1), V.int ((b : Int) + 1 + t), V.int e] = _
      rw [show (b : Int) + 1 + t = ((b + t + 1 : Nat) : Int) by omega]
      rfl
    have h4 := h3.keep k4
    refine ⟨_, rfl, _, rfl, c, _, _, rfl, h4.me.1, rfl, _, rfl, _, rfl, _, rfl, c, si, b, b + t + 1, g, T', A', cv, B, _, ?_, h4, hm4, si2, by omega, by omega, by omega, fun H5 k5 hm5 => ?_⟩
    · show [V.ref c, V.int si, V.int b, V.int ((b : Int) + 1 + t)] = _
      rw [show (b : Int) + 1 + t = ((b + t + 1 : Nat) : Int) by omega]
    refine ⟨_, _, rfl, rfl, ?_, ?_⟩
    · refine wide_mul (a := BIG) (b := BIG) ?_ ?_ (by decide) (by decide) (by decide)
      · rw [Int.natAbs_natCast]
        exact cR_le h.ok _ (by omega)
      · rw [Int.natAbs_natCast]
        exact cnt_le h.ok (Nat.le_trans (fits_len g o k) h.ok.few) (by omega) (by omega)
    have k135 := k1.trans (k3.trans (k4.trans k5))
    rw [stops_drop ht, show pick2 F G ((b + t + 1) :: (stops b e).drop (t + 1)) e m = if m < F (b + t + 1) * G (b + t + 1) then (b + t + 1, F (b + t + 1), m) else pick2 F G ((stops b e).drop (t + 1)) e (m - F (b + t + 1) * G (b + t + 1)) from rfl] at em
    refine ⟨_, rfl, _, rfl, _, _, rfl, rfl, _, rfl, ?_⟩
    have ei : ((cR g T' o (x.pieces.drop (s + 1)) (b + t + 1) e : Nat) : Int) * ((cnt g T' (fits g o k) b (b + t + 1) : Nat) : Int) = ((F (b + t + 1) * G (b + t + 1) : Nat) : Int) := (Int.natCast_mul _ _).symm
    refine ite2 (fun c2 => ?_) (fun c2 => ?_)
    · have c2' := of_decide_eq_true c2
      rw [ei] at c2'
      rw [if_pos (by omega)] at em
      refine ⟨_, rfl, _, rfl, _, rfl, (by show 3 ≤ sizeLine; decide), fun r hr' => ?_⟩
      refine q _ r (k135.trans (Kp.new hr')) (hm5.keep (Kp.new hr').same) (hm5.out hr') (fun u z => ?_) ?_
      · have := k135.free hr' (hm5.out hr')
        rw [this] at z
        cases z
      · rw [upd_same, em]
        show some (HO.tup [V.int ((b : Int) + 1 + t), _, _]) = _
        rw [show (b : Int) + 1 + t = ((b + t + 1 : Nat) : Int) by omega]
    · have c2' := of_decide_eq_false (Bool.eq_false_iff.mpr c2)
      rw [ei] at c2'
      rw [if_neg (by omega)] at em
      refine ⟨_, rfl, _, rfl, _, _, rfl, rfl, ?_⟩
      refine ⟨m - F (b + t + 1) * G (b + t + 1), some (.int ((b : Int) + 1 + t)), some (.int ((cR g T' o (x.pieces.drop (s + 1)) (b + t + 1) e : Nat) : Int)), some (.int ((F (b + t + 1) * G (b + t + 1) : Nat) : Int)), ?_, k3.trans (k4.trans k5), hm5, em⟩
      have e2 : (m : Int) - ((F (b + t + 1) * G (b + t + 1) : Nat) : Int) = ((m - F (b + t + 1) * G (b + t + 1) : Nat) : Int) := by omega
      simp only [List.set_cons_succ, List.set_cons_zero, ei, e2]
  · rintro σ H3 ⟨m, v1, v2, v3, rfl, k3, hm3, em⟩
    rw [nt, stops_end] at em
    refine ⟨_, rfl, _, rfl, (by show 3 ≤ sizeLine; decide), fun r hr' => ?_⟩
    have k13 := k1.trans k3
    refine q _ r (k13.trans (Kp.new hr')) (hm3.keep (Kp.new hr').same) (hm3.out hr') (fun u z => ?_) ?_
    · have := k13.free hr' (hm3.out hr')
      rw [this] at z
      cases z
    · rw [upd_same, em]
      rfl
end
end Wo
end
section
set_option Elab.async false
set_option linter.all false
set_option maxRecDepth 100000
set_option maxHeartbeats 4000000
namespace Wo
open PySem PySem.Spec PyProof.Rows L2
section
variable (CH CO CC : Addr) (n : Nat)
def spRd : Sp := fun vs H Q _ => ∃ (c : Addr) (i b e m f : Nat) (g : Sq15.House) (T : List Nat) (A : CA) (cv : V) (B : HA) (S : List Nat), vs = [.ref c, .int i, .int b, .int e, .int m] ∧ ChartAt CH CO CC H c g T A cv B ∧ Memo H g T A ∧ A.SS[i]? = some S ∧ b < e ∧ e ≤ T.length ∧ m < cnt g T S b e ∧ e - b < f ∧ 2 * (e - b) ≤ n ∧
  ∀ (H' : Hp) (p : Addr), Kp A.ex H H' → Memo H' g T A → p ∉ A.ex → H' p = some (.lst (vn (rdF g T f S b e m))) → Q (.ref p) H'
def spOp : Sp := fun vs H Q _ => ∃ (c : Addr) (o b e m f : Nat) (g : Sq15.House) (T : List Nat) (A : CA) (cv : V) (B : HA) (x : Sq15.Op), vs = [.ref c, .int o, .int b, .int e, .int m] ∧ ChartAt CH CO CC H c g T A cv B ∧ Memo H g T A ∧ g.ops[o]? = some x ∧ b < e ∧ e ≤ T.length ∧ m < cR g T o x.pieces b e ∧ e - b ≤ f ∧ 2 * (e - b) ≤ n + 1 ∧
  ∀ (H' : Hp) (p : Addr), Kp A.ex H H' → Memo H' g T A → p ∉ A.ex → H' p = some (.lst (vn ((64 + o) :: opL g T (fun k a b c => rdF g T f (fits g o k) a b c) o x.pieces b e m))) → Q (.ref p) H'
end
section
variable {P : Program} {w : World} {K : PySem.W.Frag} {mg : Str → Option Value} {base : Heap} {CH CO CC : Addr} {n : Nat}
abbrev s_operator_at : Stmt := topS 22
abbrev N_operator_at : List Str := ["chart", "number", "begin", "end", "place", "found", "spot", "piece", "stop", "further", "sort"]
theorem sc_operator_at : FnScope N_operator_at ["chart", "number", "begin", "end", "place"] (defScope s_operator_at) := ⟨rfl, rfl, rfl, by decide +kernel, rfl, by decide +kernel, by decide +kernel⟩
-- slots: chart=0 number=1 begin=2 end=3 place=4 found=5 spot=6 piece=7 stop=8 further=9 sort=10
theorem ok_operator_at (T : Txt K mg CH CO CC) (D : DefAt K mg "operator_at" s_operator_at ["chart", "number", "begin", "end", "place"]) (D_piece_of : DefW P w K mg base (164 + n) "piece_of" ["chart", "number", "spot", "stretch", "place"] (spPiece CH CO CC))
    (D_reading_at : DefW P w K mg base (164 + n) "reading_at" ["chart", "sort", "begin", "end", "place"] (spRd CH CO CC n)) :
    DefW P w K mg base (164 + n + 1) "operator_at" ["chart", "number", "begin", "end", "place"] (spOp CH CO CC (n + 1)) := by
  refine D.ok sc_operator_at (fun vs H Q E h => ?_) (fun f cdv A outer s H vs Q E hr h => ?_)
  · obtain ⟨c, o, b, e, m, f, g, T', A', cv, B, x, rfl, _⟩ := h
    rfl
  obtain ⟨c, o, b, e, m, f, g, T', A', cv, B, x, rfl, h, hm, hx, hbe, he, hm0, hf, hn, q⟩ := h
  refine ⟨_, (pss_cons (ps_set (i := 5) sc_operator_at.nd rfl (Or.inl rfl) (pe_lst (pa_cons (pe_op op_add (pe_gi T.g_OPERATOR) (pv 1)) pa_nil)))
      (pss_cons (ps_for PassesOwn.never rfl (pi_enum (by rfl) T.n_enumerate (pa_cons (pe_f T.flO (pe_ix ix_list (pe_f T.flH (pe_f T.flC (pv 0))) (pv 1) (fun _ _ => rfl))) pa_nil)) (pg_tup rfl (pgs_cons (pg_name (i := 6) sc_operator_at.nd rfl (Or.inl rfl)) (pgs_cons (pg_name (i := 7) sc_operator_at.nd rfl (Or.inl rfl)) pgs_nil)))
      (pss_one (ps_if (pt_cmpR op_ne (pv 7) (pe_gi T.g_THING) (nomark _))
      (pss_one (ps_set (i := 2) sc_operator_at.nd rfl (Or.inl rfl) (pe_op op_add (pv 2) pe_int)))
      (pss_cons (ps_asg (pe_d D_piece_of hr (pa_cons (pv 0) (pa_cons (pv 1) (pa_cons (pv 6) (pa_cons (pe_tup (pa_cons (pv 2) (pa_cons (pv 3) pa_nil))) (pa_cons (pv 4) pa_nil)))))) (pg_tup rfl (pgs_cons (pg_name (i := 8) sc_operator_at.nd rfl (Or.inl rfl)) (pgs_cons (pg_name (i := 9) sc_operator_at.nd rfl (Or.inl rfl)) (pgs_cons (pg_name (i := 4) sc_operator_at.nd rfl (Or.inl rfl)) pgs_nil)))))
      (pss_cons (ps_set (i := 10) sc_operator_at.nd rfl (Or.inl rfl) (pe_dget (hu_of hr) (pe_f T.flC (pv 0)) (pe_tup (pa_cons (pv 1) (pa_cons (pv 6) pa_nil))) (fun _ _ => rfl)))
      (pss_cons (ps_set (i := 5) sc_operator_at.nd rfl (Or.inl rfl) (pe_op op_cat (pv 5) (pe_d D_reading_at hr (pa_cons (pv 0) (pa_cons (pv 10) (pa_cons (pv 2) (pa_cons (pv 8) (pa_cons (pe_op op_fdivW (pv 4) (pv 9)) pa_nil))))))))
      (pss_one (ps_par (i := 2) (j := 4) rfl sc_operator_at.nd rfl rfl (by decide) rfl rfl (pa_cons (pv 8) (pa_cons (pe_op op_modN (pv 4) (pv 9)) pa_nil)) (by rfl)))))))))
      (pss_one (ps_ret (pv 5))))), ?_⟩
  have sh := h.short
  have K1 := h.ok
  obtain ⟨oa, oa1, dxo, pc, spa, oa2, pc2, _⟩ := h.house.opAt hx
  let rd : Nat → Nat → Nat → Nat → List Nat := fun k a b c => rdF g T' f (fits g o k) a b c
  have hw0 : hasWord x.pieces = true := pieces_word (K1.op_at hx).some_
  have tl : (opL g T' rd o x.pieces b e m).length ≤ 32 := by
    have := opL_len (D := f) (rd := rd) (h := g) (T := T') (o := o) (fun k a b c h1 h2 h3 => rdF_len K1 f _ a b c h1 h2 h3) x.pieces b e m (by omega) hf (.inl hw0) hm0
    omega
  refine ⟨_, rfl, _, _, rfl, rfl, (by show 1 ≤ sizeLine; decide), fun fd hfd => ?_⟩
  have k1 : Kp A'.ex H (upd H fd (.lst [.int (64 + (o : Int))])) := Kp.new hfd
  have hm1 : Memo (upd H fd (.lst [.int (64 + (o : Int))])) g T' A' := hm.keep (Kp.new hfd).same
  have fd1 : (upd H fd (.lst [.int (64 + (o : Int))])) fd = some (.lst (vn [64 + o])) := upd_same
  have fdn := hm.out hfd
  generalize upd H fd (.lst [.int (64 + (o : Int))]) = H1 at *
  have h1 := h.keep k1
  have pc3 := pc2.keep k1
  refine ⟨_, rfl, c, _, _, _, rfl, h1.me.1, rfl, _, _, _, _, rfl, h1.house.me.1, rfl, _, rfl, _, _, _, _, rfl, rfl, h1.house.ops.seq, atI_nat oa1, _, _, _, _, rfl, (oa2.keep k1).1, rfl, pc, _, rfl, pc3.seq, ?_⟩
  have pl : (pzs x.pieces).length = x.pieces.length := pzs_len _
  refine for_it (walk_enum (K := K) (a := pc) (xs := pzs x.pieces)) (fun t σ H' => ∃ (b' n' : Nat) (fd : Addr) (pre : List Nat) (v1 v2 v3 v4 v5 : Option V), σ = [some (.ref c), some (.int o), some (.int b'), some (.int e), some (.int n'), some (.ref fd), v1, v2, v3, v4, v5] ∧ Kp A'.ex H1 H' ∧ Memo H' g T' A' ∧ H' fd = some (.lst (vn pre)) ∧ fd ∉ A'.ex ∧
    (64 + o) :: opL g T' rd o x.pieces b e m = pre ++ opL g T' rd o (x.pieces.drop t) b' e n' ∧ n' < cR g T' o (x.pieces.drop t) b' e ∧ b ≤ b' ∧ b' ≤ e ∧ (hasWord (x.pieces.drop t) = true ∨ b < b'))
    ⟨b, m, fd, [64 + o], none, none, none, none, none, rfl, Kp.refl, hm1, fd1, fdn, rfl, hm0, Nat.le_refl _, Nat.le_of_lt hbe, .inl hw0⟩ ?_ ?_ ?_
  · rintro t σ H' _ ⟨_, _, _, _, _, _, _, _, _, _, kk, _⟩
    exact (pc3.keep kk).seq
  · rintro t y σ HA HB ht ⟨b', n', fd, pre, v1, v2, v3, v4, v5, rfl, ka, ma, fda, fdn, eq, hn', hb1, hb2, hwd⟩ ⟨T1, x1, y1, rfl, hT1, rfl, ex, ey⟩
    cases ex
    rw [pl] at ht
    have ps : x.pieces[t]? = some x.pieces[t] := List.getElem?_eq_getElem ht
    generalize x.pieces[t] = p at ps
    have ey2 : (pzs x.pieces)[t]? = some y1 := ey
    rw [pzs_at ps] at ey2
    cases ey2
    have dr := drop_at ps
    rw [dr] at eq hn' hwd
    have plen : pre.length ≤ 33 := by
      have := congrArg List.length eq
      rw [List.length_cons, List.length_append] at this
      omega
    have kb : Kp A'.ex HA (upd HA T1 (.tup [.int t, .int (pz p)])) := Kp.new hT1
    have mb : Memo (upd HA T1 (.tup [.int t, .int (pz p)])) g T' A' := ma.keep (Kp.new hT1).same
    have fdb := kb _ _ fda fdn
    refine ⟨T1, _, rfl, SqT.of upd_same, rfl, _, _, rfl, _, _, rfl, rfl, ?_⟩
    generalize upd HA T1 (.tup [.int t, .int (pz p)]) = HB at *
    have kab := ka.trans kb
    have hb' := h1.keep kab
    refine ⟨_, rfl, rfl, _, rfl, ?_⟩
    cases p with
    | word wd =>
      have wz : (!decide (V.int (pz (.word wd)) = V.int (-1))) = true := by
        rw [decide_eq_false]
        · rfl
        · intro z
          have z2 : (wd : Int) = -1 := V.int.inj z
          omega
      rw [wz]
      refine iteT ⟨_, rfl, _, _, rfl, rfl, ?_⟩
      rw [cR_word] at hn'
      split at hn'
      case isFalse => omega
      rename_i c1
      exact ⟨b' + 1, n', fd, pre, some (.int t), some (.int (pz (.word wd))), v3, v4, v5, rfl, kab, mb, fdb, fdn, eq, hn', by omega, by omega, .inr (by omega)⟩
    | hole k =>
      have wz : (!decide (V.int (pz (.hole k)) = V.int (-1))) = false := rfl
      rw [wz]
      refine iteF ?_
      obtain ⟨s, m', p1, p2, p3, p4, p5⟩ := pieceOf_ok hn'
      have lt := mul_nz (a := cnt g T' (fits g o k) b' s) (b := cR g T' o (x.pieces.drop (t + 1)) s e) (by omega)
      have lt2 := rows_len _ _ _ lt.2
      have dm := div_mod_lt p4
      have sD : s - b' < f ∧ s - b' + 1 ≤ e - b := by
        rcases hwd with hw | hw
        · have : x.pieces.drop (t + 1) ≠ [] := fun z => by
            rw [z] at hw
            exact Bool.noConfusion hw
          have := List.length_pos_iff.mpr this
          omega
        · omega
      refine ⟨_, rfl, _, rfl, _, rfl, _, rfl, _, rfl, (by show 2 ≤ sizeLine; decide), fun sa hsa => ?_⟩
      have kc : Kp A'.ex HB (upd HB sa (.tup [.int b', .int e])) := Kp.new hsa
      have mc : Memo (upd HB sa (.tup [.int b', .int e])) g T' A' := mb.keep (Kp.new hsa).same
      have sac : (upd HB sa (.tup [.int b', .int e])) sa = _ := upd_same
      have fdc := kc _ _ fdb fdn
      generalize upd HB sa (.tup [.int b', .int e]) = HC at *
      have hc := hb'.keep kc
      refine ⟨_, rfl, c, sa, o, t, b', e, k, n', g, T', A', cv, B, x, rfl, hc, mc, hx, ps, by omega, he, sac, fun HD ta kd md tan _ tav => ?_⟩
      rw [p5] at tav
      have tav2 : HD ta = some (.tup [.int (s : Nat), .int ((cR g T' o (x.pieces.drop (t + 1)) s e : Nat) : Int), .int (m' : Nat)]) := tav
      have hd := hc.keep kd
      have fdd := kd _ _ fdc fdn
      refine ⟨ta, _, rfl, SqT.of tav2, rfl, _, _, rfl, _, _, rfl, _, _, rfl, rfl, ?_⟩
      obtain ⟨si, si1, si2⟩ := hd.sofv o k t (by rw [pieces_of hx]; exact ps)
      refine ⟨_, rfl, c, _, _, _, rfl, hd.me.1, rfl, _, rfl, _, rfl, (by show 2 ≤ sizeLine; decide), fun r hr2 => ?_⟩
      have tp : (upd HD r (.tup [.int o, .int t])) r = some (.tup (([.inl (o : Int), .inl (t : Int)] : List Key).map kV)) := upd_same
      have ke : Kp A'.ex HD (upd HD r (.tup [.int o, .int t])) := Kp.new hr2
      have me : Memo (upd HD r (.tup [.int o, .int t])) g T' A' := md.keep (Kp.new hr2).same
      have fde := ke _ _ fdd fdn
      generalize upd HD r (.tup [.int o, .int t]) = HE at *
      have hE := hd.keep ke
      refine ⟨_, _, rfl, dget si1 hE.sof.1 tp, ?_⟩
      have cpos : 0 < cR g T' o (x.pieces.drop (t + 1)) s e := by omega
      have cbig : ((cR g T' o (x.pieces.drop (t + 1)) s e : Nat) : Int).natAbs < 2 ^ BIG := by
        rw [Int.natAbs_natCast]
        exact cR_le K1 _ (by omega)
      have ediv : (m' : Int) / ((cR g T' o (x.pieces.drop (t + 1)) s e : Nat) : Int) = ((m' / cR g T' o (x.pieces.drop (t + 1)) s e : Nat) : Int) := (Int.natCast_ediv _ _).symm
      have emod : (m' : Int).fmod ((cR g T' o (x.pieces.drop (t + 1)) s e : Nat) : Int) = ((m' % cR g T' o (x.pieces.drop (t + 1)) s e : Nat) : Int) := by
        rw [Int.fmod_eq_emod_of_nonneg _ (by omega)]
        exact (Int.natCast_emod _ _).symm
      refine ⟨_, rfl, _, rfl, _, rfl, _, rfl, _, rfl, _, rfl, _, rfl, _, _, rfl, rfl, wide_div (b := BIG) (by omega) cbig (by decide) (by decide), ?_⟩
      refine ⟨c, si, b', s, m' / cR g T' o (x.pieces.drop (t + 1)) s e, f, g, T', A', cv, B, fits g o k, ?_, hE, me, si2, p2, by omega, dm.1, sD.1, by omega, fun HF pa kf mf pan pav => ?_⟩
      · show [V.ref c, V.int si, V.int b', V.int s, V.int ((m' : Int) / ((cR g T' o (x.pieces.drop (t + 1)) s e : Nat) : Int))] = _
        rw [ediv]
      have fdf := kf _ _ fde fdn
      have rl := rdF_len K1 (T := T') f (fits g o k) b' s _ p2 sD.1 dm.1
      refine ⟨fd, pa, _, _, rfl, rfl, fdf, pav, ?_, fun l hl => ?_⟩
      · rw [vn_len, vn_len]
        exact Nat.le_of_lt (small_lt (by omega))
      refine ⟨_, rfl, _, rfl, _, rfl, _, _, rfl, rfl, by omega, _, _, rfl, ?_⟩
      refine ⟨s, m' % cR g T' o (x.pieces.drop (t + 1)) s e, l, pre ++ rdF g T' f (fits g o k) b' s (m' / cR g T' o (x.pieces.drop (t + 1)) s e), some (.int t), some (.int (-1)), some (.int s), some (.int ((cR g T' o (x.pieces.drop (t + 1)) s e : Nat) : Int)), some (.int si), ?_, kab.trans (kc.trans (kd.trans (ke.trans (kf.trans (Kp.new hl))))), mf.keep (Kp.new hl).same, ?_, mf.out hl, ?_, dm.2, by omega, p3, .inr (by omega)⟩
      · simp only [List.set_cons_succ, List.set_cons_zero, emod]
        rfl
      · rw [upd_same, vn_append]
      · rw [eq, List.append_assoc]
        congr 1
        simp only [opL, p5]
        rfl
  · rintro σ HA ⟨b', n', fd, pre, v1, v2, v3, v4, v5, rfl, ka, ma, fda, fdn, eq, hn', hb1, hb2, hwd⟩
    rw [pl, List.drop_eq_nil_of_le (Nat.le_refl _)] at eq
    refine ⟨_, rfl, ?_⟩
    refine q HA fd (k1.trans ka) ma fdn ?_
    rw [fda, eq]
    simp only [opL, List.append_nil]
end
end Wo
end
section
set_option Elab.async false
set_option linter.all false
set_option maxRecDepth 100000
set_option maxHeartbeats 4000000
namespace Wo
open PySem PySem.Spec PyProof.Rows L2
section
variable {P : Program} {w : World} {K : PySem.W.Frag} {mg : Str → Option Value} {base : Heap} {CH CO CC : Addr} {n : Nat}
abbrev s_reading_at : Stmt := topS 23
abbrev N_reading_at : List Str := ["chart", "sort", "begin", "end", "place", "number", "many", "alone"]
theorem sc_reading_at : FnScope N_reading_at ["chart", "sort", "begin", "end", "place"] (defScope s_reading_at) := ⟨rfl, rfl, rfl, by decide +kernel, rfl, by decide +kernel, by decide +kernel⟩
-- slots: chart=0 sort=1 begin=2 end=3 place=4 number=5 many=6 alone=7
theorem ok_reading_at (T : Txt K mg CH CO CC) (D : DefAt K mg "reading_at" s_reading_at ["chart", "sort", "begin", "end", "place"]) (M_ways : MetW P w K mg base CC (164 + n) "ways" ["self", "number", "spot", "begin", "end"] (spWays CH CO CC 163)) (M_alone_in : MetW P w K mg base CC (164 + n) "alone_in" ["self", "begin", "end"] (spAlone CH CO CC))
    (D_operator_at : DefW P w K mg base (164 + n) "operator_at" ["chart", "number", "begin", "end", "place"] (spOp CH CO CC n)) (D_reading_at : DefW P w K mg base (164 + n) "reading_at" ["chart", "sort", "begin", "end", "place"] (spRd CH CO CC n)) :
    DefW P w K mg base (164 + n + 1) "reading_at" ["chart", "sort", "begin", "end", "place"] (spRd CH CO CC (n + 1)) := by
  refine D.ok sc_reading_at (fun vs H Q E h => ?_) (fun f cdv A outer s H vs Q E hr h => ?_)
  · obtain ⟨c, i, b, e, m, f, g, T', A', cv, B, S, rfl, _⟩ := h
    rfl
  obtain ⟨c, i, b, e, m, f, g, T', A', cv, B, S, rfl, h, hm, hS, hbe, he, hm0, hf, hn, q⟩ := h
  refine ⟨_, (pss_cons (ps_for PassesOwn.never rfl (pi_tup (pe_ix ix_list (pe_f T.flC (pv 0)) (pv 1) (fun _ _ => rfl))) (pg_name (i := 5) sc_reading_at.nd rfl (Or.inl rfl))
      (pss_cons (ps_set (i := 6) sc_reading_at.nd rfl (Or.inl rfl) (pe_m M_ways T.flC hr (pv 0) (pa_cons (pv 5) (pa_cons pe_int (pa_cons (pv 2) (pa_cons (pv 3) pa_nil))))))
      (pss_cons (ps_if (pt_cmpR op_lt (pv 4) (pv 6) (nomark _))
      (pss_one (ps_ret (pe_d D_operator_at hr (pa_cons (pv 0) (pa_cons (pv 5) (pa_cons (pv 2) (pa_cons (pv 3) (pa_cons (pv 4) pa_nil))))))))
      pss_nil)
      (pss_one (ps_set (i := 4) sc_reading_at.nd rfl (Or.inl rfl) (pe_op op_sub (pv 4) (pv 6)))))))
      (pss_cons (ps_set (i := 7) sc_reading_at.nd rfl (Or.inl rfl) (pe_m M_alone_in T.flC hr (pv 0) (pa_cons (pv 2) (pa_cons (pv 3) pa_nil))))
      (pss_cons (ps_if (pt_cmpR op_lt (pv 4) (pv 7) (nomark _))
      (pss_one (ps_ret (pe_lst (pa_cons (pe_ix ix_list (pe_f T.flC (pv 0)) (pv 2) (fun _ _ => rfl)) pa_nil))))
      pss_nil)
      (pss_one (ps_ret (pe_op op_cat (pe_lst (pa_cons (pe_gi T.g_IN_BRACKETS) pa_nil)) (pe_d D_reading_at hr (pa_cons (pv 0) (pa_cons pe_int (pa_cons (pe_op op_add (pv 2) pe_int) (pa_cons (pe_op op_sub (pv 3) pe_int) (pa_cons (pe_op op_sub (pv 4) (pv 7)) pa_nil)))))))))))), ?_⟩
  have sh := h.short
  have K1 := h.ok
  obtain ⟨sa, sa1, sa2⟩ := h.sortAt hS
  cases f with
  | zero => omega
  | succ f =>
  let brd : Nat → List Nat := fun m => rdF g T' f (List.range g.ops.length) (b + 1) (e - 1) m
  let opr : Nat → Nat → List Nat := fun o m => opL g T' (fun k a b c => rdF g T' f (fits g o k) a b c) o (g.pieces o) b e m
  have rdd : rdF g T' (f + 1) S b e m = rdS g T' brd opr b e S m := rfl
  rw [rdd] at q
  have hb : T'[b]? = some T'[b] := List.getElem?_eq_getElem (by omega)
  refine ⟨_, rfl, c, _, _, _, rfl, h.me.1, rfl, _, rfl, _, _, _, _, rfl, rfl, h.sorts.seq, atI_nat sa1, sa, rfl, ⟨_, sa2.sqt⟩, ?_⟩
  refine for_tup (K := K) (a := sa) (xs := vn S) (fun t σ H' => ∃ (m' : Nat) (v1 v2 v3 : Option V), σ = [some (.ref c), some (.int i), some (.int b), some (.int e), some (.int m'), v1, v2, v3] ∧ Kp A'.ex H H' ∧ Memo H' g T' A' ∧ rdS g T' brd opr b e S m = rdS g T' brd opr b e (S.drop t) m' ∧
      m' < ((S.drop t).map fun o => cR g T' o (g.pieces o) b e).sum + atomAt g T' b e + brkAt g T' b e)
    ⟨m, none, none, none, rfl, Kp.refl, hm, rfl, by rw [cnt_eq K1] at hm0; exact hm0⟩ (fun t σ H' _ ⟨_, _, _, _, _, k3, _⟩ => (sa2.keep k3).sqt) ?_ ?_
  · rintro t y σ HA hy ⟨m', v1, v2, v3, rfl, ka, ma, eq, hm'⟩
    obtain ⟨o, ho, rfl⟩ : ∃ o, S[t]? = some o ∧ y = V.int (o : Int) := by
      unfold vn at hy
      rw [List.getElem?_map] at hy
      cases z : S[t]? with
      | none => rw [z] at hy; cases hy
      | some o => rw [z] at hy; exact ⟨o, rfl, (Option.some.inj hy).symm⟩
    have ha := h.keep ka
    have oS : o ∈ S := List.mem_of_getElem? ho
    have ol := (h.sin S (List.mem_of_getElem? hS)).2 o oS
    have ox : g.ops[o]? = some g.ops[o] := List.getElem?_eq_getElem ol
    generalize g.ops[o] = x at ox
    have px : x.pieces = g.pieces o := (pieces_of ox).symm
    have lw : lvW (x.pieces.drop 0) (e - b) ≤ 163 := by
      unfold lvW
      rw [List.drop_zero, if_pos (pieces_word (K1.op_at ox).some_)]
      omega
    have dr : S.drop t = o :: S.drop (t + 1) := by
      obtain ⟨lt, e1⟩ := List.getElem?_eq_some_iff.mp ho
      rw [List.drop_eq_getElem_cons lt, e1]
    rw [dr] at eq hm'
    rw [List.map_cons, List.sum_cons] at hm'
    refine ⟨_, rfl, c, _, _, rfl, ha.me.1, rfl, _, rfl, _, rfl, _, rfl, c, o, 0, b, e, g, T', A', cv, B, x, rfl, ha, ma, ox, Nat.zero_le _, Nat.le_of_lt hbe, he, lw, fun HB kb mb => ?_⟩
    have hb2 := ha.keep kb
    rw [List.drop_zero, px]
    have un : rdS g T' brd opr b e (o :: S.drop (t + 1)) m' = if m' < cR g T' o (g.pieces o) b e then (64 + o) :: opr o m' else rdS g T' brd opr b e (S.drop (t + 1)) (m' - cR g T' o (g.pieces o) b e) := rfl
    rw [un] at eq
    refine ⟨_, rfl, _, rfl, _, _, rfl, rfl, _, rfl, ?_⟩
    refine ite2 (fun c2 => ?_) (fun c2 => ?_)
    · have c2' := of_decide_eq_true c2
      rw [if_pos (by omega)] at eq
      refine ⟨_, rfl, _, rfl, _, rfl, _, rfl, _, rfl, c, o, b, e, m', f, g, T', A', cv, B, x, rfl, hb2, mb, ox, hbe, he, by rw [px]; omega, by omega, by omega, fun HC p kc mc pn pv => ?_⟩
      refine q HC p (ka.trans (kb.trans kc)) mc pn ?_
      rw [pv, eq, px]
    · have c2' := of_decide_eq_false (Bool.eq_false_iff.mpr c2)
      rw [if_neg (by omega)] at eq
      refine ⟨_, rfl, _, rfl, _, _, rfl, rfl, ?_⟩
      refine ⟨m' - cR g T' o (g.pieces o) b e, some (.int o), some (.int (cR g T' o (g.pieces o) b e : Nat)), v3, ?_, ka.trans kb, mb, eq, by omega⟩
      have e2 : (m' : Int) - ((cR g T' o (g.pieces o) b e : Nat) : Int) = ((m' - cR g T' o (g.pieces o) b e : Nat) : Int) := by omega
      simp only [List.set_cons_succ, List.set_cons_zero, e2]
  · rintro σ HA ⟨m', v1, v2, v3, rfl, ka, ma, eq, hm'⟩
    rw [vn_len, List.drop_eq_nil_of_le (Nat.le_refl _)] at eq hm'
    rw [List.map_nil, List.sum_nil, Nat.zero_add] at hm'
    have ha := h.keep ka
    have un : rdS g T' brd opr b e [] m' = if m' < atomAt g T' b e then [T'.getD b 0] else 128 :: brd (m' - atomAt g T' b e) := rfl
    rw [un] at eq
    refine ⟨_, rfl, c, _, _, rfl, ha.me.1, rfl, _, rfl, _, rfl, c, b, e, g, T', A', cv, B, rfl, ha, hbe, he, ?_⟩
    refine ⟨_, rfl, _, rfl, _, _, rfl, rfl, _, rfl, ?_⟩
    refine ite2 (fun c2 => ?_) (fun c2 => ?_)
    · have c2' := of_decide_eq_true c2
      rw [if_pos (by omega)] at eq
      refine ⟨_, rfl, c, _, _, _, rfl, ha.me.1, rfl, _, rfl, _, _, _, _, rfl, rfl, ha.text.seq, atI_nat (vn_at hb), (by show 1 ≤ sizeLine; decide), fun p hp => ?_⟩
      refine q _ p (ka.trans (Kp.new hp)) (ma.keep (Kp.new hp).same) (ma.out hp) ?_
      rw [upd_same, eq, List.getD_eq_getElem?_getD, hb]
      rfl
    · have c2' := of_decide_eq_false (Bool.eq_false_iff.mpr c2)
      rw [if_neg (by omega)] at eq
      have hbr : m' - atomAt g T' b e < brkAt g T' b e := by omega
      have br : isBr T' b e := by
        by_cases z : isBr T' b e
        · exact z
        · unfold brkAt at hbr
          rw [if_neg z] at hbr
          omega
      unfold brkAt at hbr
      rw [if_pos br] at hbr
      have br1 := br.1
      refine ⟨(by show 1 ≤ sizeLine; decide), fun p hp => ?_⟩
      have kb : Kp A'.ex HA (upd HA p (.lst [.int 128])) := Kp.new hp
      have mb : Memo (upd HA p (.lst [.int 128])) g T' A' := ma.keep (Kp.new hp).same
      have pb : (upd HA p (.lst [.int 128])) p = some (.lst (vn [128])) := upd_same
      have pn := ma.out hp
      generalize upd HA p (.lst [.int 128]) = HB at *
      have hb2 := ha.keep kb
      refine ⟨_, rfl, _, rfl, _, _, rfl, rfl, _, rfl, _, _, rfl, rfl, _, rfl, _, rfl, _, _, rfl, rfl, ?_⟩
      refine ⟨c, 0, b + 1, e - 1, m' - atomAt g T' b e, f, g, T', A', cv, B, _, ?_, hb2, mb, h.sort0, by omega, by omega, hbr, by omega, by omega, fun HC r kc mc rn rv => ?_⟩
      · show [V.ref c, V.int 0, V.int ((b : Int) + 1), V.int ((e : Int) - 1), V.int ((m' : Int) - ((atomAt g T' b e : Nat) : Int))] = _
        rw [show ((e : Int) - 1) = ((e - 1 : Nat) : Int) by omega, show (m' : Int) - ((atomAt g T' b e : Nat) : Int) = ((m' - atomAt g T' b e : Nat) : Int) by omega]
        rfl
      have rl := rdF_len K1 (T := T') f (List.range g.ops.length) (b + 1) (e - 1) _ (by omega) (by omega) hbr
      refine ⟨p, r, _, _, rfl, rfl, kc _ _ pb pn, rv, ?_, fun l hl => ?_⟩
      · rw [vn_len, vn_len]
        exact Nat.le_of_lt (small_lt (by simp only [List.length_singleton]; omega))
      refine q _ l (ka.trans (kb.trans (kc.trans (Kp.new hl)))) (mc.keep (Kp.new hl).same) (mc.out hl) ?_
      rw [upd_same, eq, ← vn_append]
      rfl
/-- nothing is asked where nothing is promised -/
theorem DefAt.void {x : Str} {st : Stmt} {ps : List Str} {sp : Sp} {k : Nat} (D : DefAt K mg x st ps) (no : ∀ vs H Q E, ¬ sp vs H Q E) : DefW P w K mg base k x ps sp := by
  obtain ⟨f, fd, h1, h2, h3⟩ := D.ex
  exact ⟨f, fd, h1, h2.kp, h3, fun vs H Q E h => absurd h (no vs H Q E), fun A outer s H args us vs Q E _ _ _ _ h => absurd h (no vs H Q E)⟩
structure RdTxt (K : PySem.W.Frag) (mg : Str → Option Value) : Prop where
  piece_of : DefAt K mg "piece_of" s_piece_of ["chart", "number", "spot", "stretch", "place"]
  operator_at : DefAt K mg "operator_at" s_operator_at ["chart", "number", "begin", "end", "place"]
  reading_at : DefAt K mg "reading_at" s_reading_at ["chart", "sort", "begin", "end", "place"]
theorem rd_ok (T : Txt K mg CH CO CC) (D : ChartTxt K CC) (R : RdTxt K mg) : ∀ n, DefW P w K mg base (164 + n) "operator_at" ["chart", "number", "begin", "end", "place"] (spOp CH CO CC n) ∧ DefW P w K mg base (164 + n) "reading_at" ["chart", "sort", "begin", "end", "place"] (spRd CH CO CC n)
  | 0 => ⟨R.operator_at.void fun vs H Q E h => by obtain ⟨c, o, b, e, m, f, g, T', A', cv, B, x, _, _, _, _, h1, _, _, _, h2, _⟩ := h; omega,
    R.reading_at.void fun vs H Q E h => by obtain ⟨c, i, b, e, m, f, g, T', A', cv, B, S, _, _, _, _, h1, _, _, _, h2, _⟩ := h; omega⟩
  | n + 1 => by
    have ih := rd_ok T D R n
    have ch := chart_ok (P := P) (w := w) (base := base) T D 163
    exact ⟨ok_operator_at T R.operator_at ((ok_piece_of T R.piece_of ch.ways ch.all_in).mono (by omega)) ih.2,
      ok_reading_at T R.reading_at (ch.ways.mono (by omega)) ((ok_alone_in T D.alone_in).mono (by omega)) ih.1 ih.2⟩
end
end Wo
end
section
set_option Elab.async false
set_option linter.all false
set_option maxRecDepth 100000
set_option maxHeartbeats 4000000
namespace Wo
open PySem PySem.Spec PyProof.Rows L2
def vi (l : List Int) : List V := l.map V.int
theorem pzs_vi (l : List Sq15.Piece) : pzs l = vi (l.map pz) := by
  unfold pzs vi
  rw [List.map_map]
  rfl
theorem vi_append (a b : List Int) : vi (a ++ b) = vi a ++ vi b := List.map_append
theorem vi_len (l : List Int) : (vi l).length = l.length := List.length_map _
theorem sz_nil : ([] : List V).length ≤ sizeLine := by rw [line_eq]; decide
theorem sz_one (v : V) : ([v] : List V).length ≤ sizeLine := by rw [line_eq]; exact (by decide : (1 : Nat) ≤ 16777216)
section
variable {P : Program} {w : World} {K : PySem.W.Frag} {mg : Str → Option Value} {base : Heap} {CH CO CC : Addr}
abbrev s_pieces_of : Stmt := topS 7
abbrev N_pieces_of : List Str := ["way", "words", "found", "at", "word"]
theorem sc_pieces_of : FnScope N_pieces_of ["way", "words"] (defScope s_pieces_of) := ⟨rfl, rfl, rfl, by decide +kernel, rfl, by decide +kernel, by decide +kernel⟩
-- slots: way=0 words=1 found=2 at=3 word=4
def spPieces : Sp := fun vs H Q _ => ∃ (a : Addr) (x : Sq15.Op), vs = [.int x.fix, .ref a] ∧ H a = some (.lst (vn x.names)) ∧ x.fix ≤ 5 ∧ x.names.length ≤ 6 ∧ ∀ H' p, Same H H' → H p = none → H' p = some (.lst (pzs x.pieces)) → Q (.ref p) H'
theorem in_tup (f : Nat) (l : List Nat) : (if false = true then !inV (V.int (f : Int)) (vn l) else inV (V.int (f : Int)) (vn l)) = l.contains f := in_nats
theorem ok_pieces_of (T : Txt K mg CH CO CC) (D : DefAt K mg "pieces_of" s_pieces_of ["way", "words"]) : DefW P w K mg base 1 "pieces_of" ["way", "words"] spPieces := by
  refine D.ok sc_pieces_of (fun vs H Q E h => ?_) (fun f cdv A outer s H vs Q E hr h => ?_)
  · obtain ⟨a, x, rfl, _⟩ := h
    rfl
  obtain ⟨a, x, rfl, ha, h5, h6, q⟩ := h
  refine ⟨_, (pss_cons (ps_set (i := 2) sc_pieces_of.nd rfl (Or.inl rfl) (pe_ifExp (pt_cmpR op_in_seq (pv 0) (pe_gt T.g_WITH_FIRST) (by rfl)) (pe_lst (pa_cons (pe_gi T.g_THING) pa_nil)) (pe_lst pa_nil)))
      (pss_cons (ps_for PassesOwn.never rfl (pi_enum (by rfl) T.n_enumerate (pa_cons (pv 1) pa_nil)) (pg_tup rfl (pgs_cons (pg_name (i := 3) sc_pieces_of.nd rfl (Or.inl rfl)) (pgs_cons (pg_name (i := 4) sc_pieces_of.nd rfl (Or.inl rfl)) pgs_nil)))
      (pss_one (ps_set (i := 2) sc_pieces_of.nd rfl (Or.inl rfl) (pe_op op_cat (pe_op op_cat (pv 2) (pe_ifExp (pt_cmpR op_gt (pv 3) pe_int (nomark _)) (pe_lst (pa_cons (pe_gi T.g_THING) pa_nil)) (pe_lst pa_nil))) (pe_lst (pa_cons (pv 4) pa_nil))))))
      (pss_one (ps_ret (pe_op op_cat (pv 2) (pe_ifExp (pt_cmpR op_in_seq (pv 0) (pe_gt T.g_WITH_LAST) (by rfl)) (pe_lst (pa_cons (pe_gi T.g_THING) pa_nil)) (pe_lst pa_nil))))))), ?_⟩
  refine ⟨_, rfl, fun tl htl => ⟨tl, _, rfl, .inr (htl _), rfl, rfl, _, rfl, ?_⟩⟩
  have e1 : (if false = true then !inV (V.int (x.fix : Int)) [V.int 2, V.int 3, V.int 4, V.int 5] else inV (V.int (x.fix : Int)) [V.int 2, V.int 3, V.int 4, V.int 5]) = x.before := (in_tup x.fix [2, 3, 4, 5]).trans (before_in h5)
  rw [e1]
  have pb := pieces_bw x
  by_cases c : x.before = true
  case' pos =>
    rw [c]
    refine iteT ⟨sz_one _, fun f0 hf0 => ?_⟩
    have f1 : (upd H f0 (.lst [.int (-1)])) f0 = some (.lst (vi (if x.before = true then [-1] else []))) := by rw [if_pos c]; exact upd_same
    have s1 : Same H (upd H f0 (.lst [.int (-1)])) := (Kp.new hf0).same
    generalize upd H f0 (.lst [.int (-1)]) = H1 at *
    have prel : (if x.before = true then [-1] else [] : List Int).length ≤ 1 := by rw [if_pos c]; decide
  case' neg =>
    rw [Bool.eq_false_iff.mpr c]
    refine iteF ⟨sz_nil, fun f0 hf0 => ?_⟩
    have f1 : (upd H f0 (.lst [])) f0 = some (.lst (vi (if x.before = true then [-1] else []))) := by rw [if_neg c]; exact upd_same
    have s1 : Same H (upd H f0 (.lst [])) := (Kp.new hf0).same
    generalize upd H f0 (.lst []) = H1 at *
    have prel : (if x.before = true then [-1] else [] : List Int).length ≤ 1 := by rw [if_neg c]; decide
  all_goals
    generalize (if x.before = true then [-1] else [] : List Int) = pre at *
    have a1 := s1 _ _ ha
    refine ⟨_, rfl, a, _, rfl, SqL.of a1, ?_⟩
    refine for_it (walk_enum (K := K) (a := a) (xs := vn x.names)) (fun i σ H' => ∃ (fd : Addr) (v1 v2 : Option V), σ = [some (.int x.fix), some (.ref a), some (.ref fd), v1, v2] ∧ Same H H' ∧ H fd = none ∧ H' fd = some (.lst (vi (pre ++ bw (x.names.take i)))))
      ⟨f0, none, none, rfl, s1, hf0, by rw [f1]; simp [bw]⟩ ?_ ?_ ?_
    · rintro i σ H' _ ⟨_, _, _, _, s2, _⟩
      exact SqL.of (s2 _ _ ha)
    · rintro i y σ HA HB hi ⟨fd, v1, v2, rfl, s2, fn, fA⟩ ⟨T1, x1, y1, rfl, hT1, rfl, ex, ey⟩
      cases ex
      rw [vn_len] at hi
      have hw : x.names[i]? = some x.names[i] := List.getElem?_eq_getElem hi
      generalize x.names[i] = wd at hw
      have ey2 : (vn x.names)[i]? = some y1 := ey
      rw [vn_at hw] at ey2
      cases ey2
      have s3 : Same HA (upd HA T1 (.tup [.int i, .int wd])) := (Kp.new hT1).same
      refine ⟨T1, _, rfl, SqT.of upd_same, rfl, _, _, rfl, _, _, rfl, rfl, ?_⟩
      generalize upd HA T1 (.tup [.int i, .int wd]) = HC at *
      have fC := s3 _ _ fA
      have tk : x.names.take (i + 1) = x.names.take i ++ [wd] := by rw [List.take_add_one, hw]; rfl
      have bs := bw_snoc (x.names.take i) wd
      rw [← tk, List.length_take, Nat.min_eq_left (Nat.le_of_lt hi)] at bs
      have bl := bw_len (x.names.take i)
      rw [List.length_take, Nat.min_eq_left (Nat.le_of_lt hi)] at bl
      refine ⟨_, rfl, _, rfl, _, _, rfl, rfl, _, rfl, ?_⟩
      by_cases d : 0 < i
      case' pos =>
        rw [decide_eq_true (show (0 : Int) < (i : Int) by omega)]
        refine iteT ⟨sz_one _, fun p1 hp1 => ?_⟩
        have g1 : (upd HC p1 (.lst [.int (-1)])) p1 = some (.lst (vi (if 0 < i then [-1] else []))) := by rw [if_pos d]; exact upd_same
        have s4 : Same HC (upd HC p1 (.lst [.int (-1)])) := (Kp.new hp1).same
        have ml : (if 0 < i then [-1] else [] : List Int).length ≤ 1 := by rw [if_pos d]; decide
        generalize upd HC p1 (.lst [.int (-1)]) = HD at *
      case' neg =>
        rw [decide_eq_false (show ¬ (0 : Int) < (i : Int) by omega)]
        refine iteF ⟨sz_nil, fun p1 hp1 => ?_⟩
        have g1 : (upd HC p1 (.lst [])) p1 = some (.lst (vi (if 0 < i then [-1] else []))) := by rw [if_neg d]; exact upd_same
        have s4 : Same HC (upd HC p1 (.lst [])) := (Kp.new hp1).same
        have ml : (if 0 < i then [-1] else [] : List Int).length ≤ 1 := by rw [if_neg d]; decide
        generalize upd HC p1 (.lst []) = HD at *
      all_goals
        generalize (if 0 < i then [-1] else [] : List Int) = mid at g1 bs ml
        have fD := s4 _ _ fC
        refine ⟨fd, p1, _, _, rfl, rfl, fD, g1, by rw [vi_len, vi_len, List.length_append]; exact Nat.le_of_lt (small_lt (by omega)), fun p2 hp2 => ?_⟩
        refine ⟨_, rfl, sz_one _, fun p3 hp3 => ?_⟩
        have n23 : p2 ≠ p3 := ne_of_none upd_same hp3
        refine ⟨p2, p3, _, _, rfl, rfl, (upd_ne n23).trans upd_same, upd_same, ?_, fun p4 hp4 => ?_⟩
        · rw [List.length_append, vi_len, vi_len, List.length_append]
          exact Nat.le_of_lt (small_lt (by simp only [List.length_singleton]; omega))
        have s5 : Same HD (upd (upd (upd HD p2 (.lst (vi (pre ++ bw (x.names.take i)) ++ vi mid))) p3 (.lst [.int wd])) p4 (.lst (vi (pre ++ bw (x.names.take i)) ++ vi mid ++ [.int wd]))) := ((Kp.new hp2).same.trans (Kp.new hp3).same).trans (Kp.new hp4).same
        have sT : Same H _ := ((s2.trans s3).trans s4).trans s5
        refine ⟨p4, some (.int i), some (.int wd), rfl, sT, ?_, ?_⟩
        · exact (((s2.trans s3).trans s4).trans ((Kp.new hp2).same.trans (Kp.new hp3).same)).free hp4
        · rw [upd_same, bs]
          simp only [vi_append, List.append_assoc]
          rfl
    · rintro σ HA ⟨fd, v1, v2, rfl, s2, fn, fA⟩
      rw [vn_len, List.take_length] at fA
      have bl := bw_len x.names
      refine ⟨_, rfl, _, rfl, fun tl2 htl2 => ⟨tl2, _, rfl, .inr (htl2 _), rfl, rfl, _, rfl, ?_⟩⟩
      have e2 : (if false = true then !inV (V.int (x.fix : Int)) [V.int 1, V.int 3, V.int 4, V.int 5] else inV (V.int (x.fix : Int)) [V.int 1, V.int 3, V.int 4, V.int 5]) = x.behind := (in_tup x.fix [1, 3, 4, 5]).trans (behind_in h5)
      rw [e2]
      by_cases d : x.behind = true
      case' pos =>
        rw [d]
        refine iteT ⟨sz_one _, fun p1 hp1 => ?_⟩
        have g1 : (upd HA p1 (.lst [.int (-1)])) p1 = some (.lst (vi (if x.behind = true then [-1] else []))) := by rw [if_pos d]; exact upd_same
        have s4 : Same HA (upd HA p1 (.lst [.int (-1)])) := (Kp.new hp1).same
        have ml : (if x.behind = true then [-1] else [] : List Int).length ≤ 1 := by rw [if_pos d]; decide
        generalize upd HA p1 (.lst [.int (-1)]) = HD at *
      case' neg =>
        rw [Bool.eq_false_iff.mpr d]
        refine iteF ⟨sz_nil, fun p1 hp1 => ?_⟩
        have g1 : (upd HA p1 (.lst [])) p1 = some (.lst (vi (if x.behind = true then [-1] else []))) := by rw [if_neg d]; exact upd_same
        have s4 : Same HA (upd HA p1 (.lst [])) := (Kp.new hp1).same
        have ml : (if x.behind = true then [-1] else [] : List Int).length ≤ 1 := by rw [if_neg d]; decide
        generalize upd HA p1 (.lst []) = HD at *
      all_goals
        generalize (if x.behind = true then [-1] else [] : List Int) = mid at g1 pb ml
        have fD := s4 _ _ fA
        refine ⟨fd, p1, _, _, rfl, rfl, fD, g1, by rw [vi_len, vi_len, List.length_append]; exact Nat.le_of_lt (small_lt (by omega)), fun p2 hp2 => ?_⟩
        refine q _ p2 ((s2.trans s4).trans (Kp.new hp2).same) ((s2.trans s4).free hp2) ?_
        rw [upd_same, pzs_vi, pb, ← vi_append, List.append_assoc]
end
end Wo
end
section
set_option Elab.async false
set_option linter.all false
set_option maxRecDepth 100000
set_option maxHeartbeats 4000000
namespace Wo
open PySem PySem.Spec PyProof.Rows L2
theorem spotsF_snoc : ∀ (n : Nat) (l : List Sq15.Piece) (p : Sq15.Piece), spotsF n (l ++ [p]) = spotsF n l ++ (match p with | .hole _ => [n + l.length] | .word _ => [])
  | n, [], .hole _ => rfl
  | n, [], .word _ => rfl
  | n, .word _ :: l, p => by
    have := spotsF_snoc (n + 1) l p
    simp only [List.cons_append, spotsF, this, List.length_cons]
    cases p with
    | word w => rfl
    | hole k => rw [show n + 1 + l.length = n + (l.length + 1) by omega]
  | n, .hole _ :: l, p => by
    have := spotsF_snoc (n + 1) l p
    simp only [List.cons_append, spotsF, this, List.length_cons]
    cases p with
    | word w => rfl
    | hole k => rw [show n + 1 + l.length = n + (l.length + 1) by omega]
section
variable {P : Program} {w : World} {K : PySem.W.Frag} {mg : Str → Option Value} {base : Heap} {CH CO CC : Addr}
abbrev s_Operator___init__ : Stmt := inClass (topS 8) 0
abbrev N_Operator___init__ : List Str := ["self", "way", "group", "words", "spot", "piece"]
theorem sc_Operator___init__ : FnScope N_Operator___init__ ["self", "way", "group", "words"] (defScope s_Operator___init__) := ⟨rfl, rfl, rfl, by decide +kernel, rfl, by decide +kernel, by decide +kernel⟩
-- slots: self=0 way=1 group=2 words=3 spot=4 piece=5
def spOpInit (CO : Addr) : Sp := fun vs H Q _ => ∃ (c dx a : Addr) (x : Sq15.Op), vs = [.ref c, .int x.fix, .int x.group, .ref a] ∧ H c = some (.ins CO dx []) ∧ H a = some (.lst (vn x.names)) ∧ x.fix ≤ 5 ∧ x.names.length ≤ 6 ∧
  ∀ H', Kp [c] H H' → (∀ ex : List Addr, (∀ b ∈ ex, (∃ o, H b = some o) ∧ b ≠ c) → OpAt CO ex H' c x) → Q .non H'
theorem ok_Operator (T : Txt K mg CH CO CC) (D : MakAt K mg CO "Operator" "Operator.__init__" s_Operator___init__ ["self", "way", "group", "words"]) (D_pieces_of : DefW P w K mg base 1 "pieces_of" ["way", "words"] spPieces) :
    MakW P w K mg base CO 2 "Operator" ["self", "way", "group", "words"] (spOpInit CO) := by
  refine D.ok sc_Operator___init__ (fun vs H Q E h => ?_) (fun f cdv A outer s H vs Q E hr h => ?_)
  · obtain ⟨c, dx, a, x, rfl, _⟩ := h
    rfl
  obtain ⟨c, dx, a, x, rfl, hc, ha, h5, h6, q⟩ := h
  refine ⟨_, (pss_cons (ps_fA T.flO (pv 0) (pv 1))
      (pss_cons (ps_fA T.flO (pv 0) (pv 2))
      (pss_cons (ps_fA T.flO (pv 0) (pe_d D_pieces_of hr (pa_cons (pv 1) (pa_cons (pv 3) pa_nil))))
      (pss_one (ps_fA T.flO (pv 0) (pe_lc (own := [("spot", 4), ("piece", 5)]) rfl sc_Operator___init__.nd (pi_enum (by rfl) T.n_enumerate (pa_cons (pe_f T.flO (pv 0)) pa_nil)) (blkOk_by (own := [("spot", 4), ("piece", 5)]) (N := N_Operator___init__) (sc := defScope s_Operator___init__) (by decide +kernel)) (fun _ _ _ _ _ => by exact (pg_tupK (K := K) (n := 2) rfl rfl (pgs_cons (pg_name (i := 4) sc_Operator___init__.nd rfl (Or.inl rfl)) (pgs_cons (pg_name (i := 5) sc_Operator___init__.nd rfl (Or.inl rfl)) pgs_nil)))) (fun _ _ _ _ _ => by exact (pts_one (pt_cmpR op_eq (pv 5) (pe_gi T.g_THING) (nomark _)))) (fun _ _ _ _ _ => by exact (pv 4)))))))), ?_⟩
  have hac : At [c] H a (.lst (vn x.names)) := ⟨ha, fun z => ne_of ha hc (by intro z; cases z) (List.mem_singleton.mp z)⟩
  refine ⟨_, rfl, _, rfl, c, dx, _, [("way", .int x.fix)], rfl, hc, rfl, (by simp), fun H1 c1 k1 => ?_⟩
  refine ⟨_, rfl, _, rfl, c, dx, _, [("way", .int x.fix), ("group", .int x.group)], rfl, c1, rfl, (by simp), fun H2 c2 k2' => ?_⟩
  have k2 := k1.trans k2'
  refine ⟨_, rfl, _, rfl, a, x, rfl, (hac.keep k2).1, h5, h6, fun H3 pc s3 pcn pcv => ?_⟩
  have c3 := s3 _ _ c2
  have pcc : pc ∉ [c] := fun z => ne_of pcv c3 (by intro z; cases z) (List.mem_singleton.mp z)
  have pcH : H pc = none := k2.free pcn pcc
  refine ⟨_, rfl, c, dx, _, [("way", .int x.fix), ("group", .int x.group), ("pieces", .ref pc)], rfl, c3, rfl, (by simp), fun H4 c4 k4' => ?_⟩
  have k4 := k2.trans ((Same.kp s3).trans k4')
  have pc4 := k4' _ _ pcv pcc
  have pl : (pzs x.pieces).length = x.pieces.length := pzs_len _
  have kl := pieces_len h6
  refine ⟨_, rfl, c, dx, _, _, rfl, c4, rfl, pc, _, rfl, SqL.of pc4, fun D hD => ?_⟩
  refine lc_it (walk_enum (K := K) (a := pc) (xs := pzs x.pieces)) (fun i H' => H' D = some (.lst (vn (spotsF 0 (x.pieces.take i)))) ∧ Same H4 H') ⟨upd_same, (Kp.new hD).same⟩ (fun i H' _ ⟨_, s5⟩ => SqL.of (s5 _ _ pc4)) ?_ ?_
  · rintro i y HA HB hi ⟨dA, sA⟩ ⟨T1, x1, y1, rfl, hT1, rfl, ex, ey⟩
    cases ex
    rw [pl] at hi
    have ps : x.pieces[i]? = some x.pieces[i] := List.getElem?_eq_getElem hi
    generalize x.pieces[i] = p at ps
    have ey2 : (pzs x.pieces)[i]? = some y1 := ey
    rw [pzs_at ps] at ey2
    cases ey2
    have sB : Same HA (upd HA T1 (.tup [.int i, .int (pz p)])) := (Kp.new hT1).same
    have dB := sB _ _ dA
    refine ⟨T1, _, rfl, SqT.of upd_same, rfl, _, _, rfl, _, _, rfl, rfl, rfl, ?_⟩
    generalize upd HA T1 (.tup [.int i, .int (pz p)]) = HB at *
    have tk : x.pieces.take (i + 1) = x.pieces.take i ++ [p] := by rw [List.take_add_one, ps]; rfl
    have sn := spotsF_snoc 0 (x.pieces.take i) p
    rw [← tk] at sn
    have tl : (x.pieces.take i).length = i := by rw [List.length_take]; omega
    refine ⟨_, rfl, rfl, _, rfl, ?_⟩
    cases p with
    | word wd =>
      rw [show decide (V.int (pz (.word wd)) = V.int (-1)) = false from decide_eq_false fun z => by
        have z2 : (wd : Int) = -1 := V.int.inj z
        omega]
      refine iteF ⟨?_, sA.trans sB⟩
      rw [sn]
      simp only [List.append_nil]
      exact dB
    | hole k =>
      rw [show decide (V.int (pz (.hole k)) = V.int (-1)) = true from rfl]
      refine iteT ⟨_, rfl, _, dB, ?_, ?_, fun b u e => ?_⟩
      · have := spotsF_len 0 (x.pieces.take i)
        rw [vn_len]
        refine small_lt ?_
        rw [this]
        have : ∀ l : List Sq15.Piece, Wo.hc l ≤ l.length := fun l => by
          induction l with
          | nil => exact Nat.le_refl _
          | cons p l ih =>
            cases p with
            | word w =>
              simp only [Wo.hc, List.length_cons]
              omega
            | hole k =>
              simp only [Wo.hc, List.length_cons]
              omega
        have := this (x.pieces.take i)
        omega
      · rw [upd_same, sn, vn_append]
        simp only [tl, Nat.zero_add]
        rfl
      · rw [upd_ne (ne_of_none e hD)]
        exact sB _ _ (sA _ _ e)
  · rintro HA ⟨dA, sA⟩
    rw [pl, List.take_length] at dA
    have cA := sA _ _ c4
    have pcA := sA _ _ pc4
    have Dc : D ∉ [c] := fun z => by
      rw [List.mem_singleton.mp z, c4] at hD
      cases hD
    have DH : H D = none := k4.free hD Dc
    refine ⟨_, rfl, c, dx, _, [("way", .int x.fix), ("group", .int x.group), ("pieces", .ref pc), ("spots", .ref D)], rfl, cA, rfl, (by simp), fun H5 c5 k5' => ?_⟩
    refine q H5 (k4.trans ((Same.kp sA).trans k5')) fun ex hex => ⟨dx, pc, D, ⟨c5, fun z => (hex _ z).2 rfl⟩, ⟨k5' _ _ pcA pcc, fun z => ?_⟩, ⟨k5' _ _ dA Dc, fun z => ?_⟩⟩
    · obtain ⟨o, ho⟩ := (hex _ z).1
      rw [pcH] at ho
      cases ho
    · obtain ⟨o, ho⟩ := (hex _ z).1
      rw [DH] at ho
      cases ho
abbrev s_House___init__ : Stmt := inClass (topS 9) 0
abbrev N_House___init__ : List Str := ["self", "words", "groups", "things"]
theorem sc_House___init__ : FnScope N_House___init__ ["self", "words", "groups", "things"] (defScope s_House___init__) := ⟨rfl, rfl, rfl, by decide +kernel, rfl, by decide +kernel, by decide +kernel⟩
-- slots: self=0 words=1 groups=2 things=3
def spHouseInit (CH CO : Addr) : Sp := fun vs H Q _ => ∃ (c dx al : Addr) (wn gn : Nat) (atoms : List Nat), vs = [.ref c, .int wn, .int gn, .ref al] ∧ H c = some (.ins CH dx []) ∧ H al = some (.lst (vn atoms)) ∧
  ∀ (H' : Hp) (B : HA), Kp [c] H H' → H B.ol = none → H B.cl = none → B.al = al → HouseAt CH CO [] H' c ⟨wn, gn, atoms, [], [], [], #[]⟩ .non B → Q .non H'
theorem ok_House (T : Txt K mg CH CO CC) (D : MakAt K mg CH "House" "House.__init__" s_House___init__ ["self", "words", "groups", "things"]) : MakW P w K mg base CH 1 "House" ["self", "words", "groups", "things"] (spHouseInit CH CO) := by
  refine D.ok sc_House___init__ (fun vs H Q E h => ?_) (fun f cdv A outer s H vs Q E hr h => ?_)
  · obtain ⟨c, dx, al, wn, gn, atoms, rfl, _⟩ := h
    rfl
  obtain ⟨c, dx, al, wn, gn, atoms, rfl, hc, ha, q⟩ := h
  refine ⟨_, (pss_cons (ps_fA T.flH (pv 0) (pv 1))
      (pss_cons (ps_fA T.flH (pv 0) (pv 2))
      (pss_cons (ps_fA T.flH (pv 0) (pv 3))
      (pss_cons (ps_fA T.flH (pv 0) (pe_lst pa_nil))
      (pss_cons (ps_fA T.flH (pv 0) pe_dnewT)
      (pss_one (ps_fA T.flH (pv 0) pe_non))))))), ?_⟩
  have hac : At [c] H al (.lst (vn atoms)) := ⟨ha, fun z => ne_of ha hc (by intro z; cases z) (List.mem_singleton.mp z)⟩
  refine ⟨_, rfl, _, rfl, c, dx, _, [("many_words", .int wn)], rfl, hc, rfl, (by simp), fun H1 c1 k1 => ?_⟩
  refine ⟨_, rfl, _, rfl, c, dx, _, [("many_words", .int wn), ("many_groups", .int gn)], rfl, c1, rfl, (by simp), fun H2 c2 k2' => ?_⟩
  refine ⟨_, rfl, _, rfl, c, dx, _, [("many_words", .int wn), ("many_groups", .int gn), ("alone", .ref al)], rfl, c2, rfl, (by simp), fun H3 c3 k3' => ?_⟩
  have k3 := k1.trans (k2'.trans k3')
  refine ⟨sz_nil, fun ol hol => ?_⟩
  have c4 : (upd H3 ol (.lst [])) c = _ := (upd_ne (ne_of_none c3 hol)).trans c3
  have k4' : Kp [c] H3 (upd H3 ol (.lst [])) := Kp.new hol
  have ol4 : At [c] (upd H3 ol (.lst [])) ol (.lst []) := ⟨upd_same, fun z => by
    rw [List.mem_singleton.mp z, c3] at hol
    cases hol⟩
  have neal : al ≠ ol := ne_of_none (hac.keep k3).1 hol
  generalize upd H3 ol (.lst []) = H4 at *
  refine ⟨_, rfl, c, dx, _, [("many_words", .int wn), ("many_groups", .int gn), ("alone", .ref al), ("operators", .ref ol)], rfl, c4, rfl, (by simp), fun H5 c5 k5' => ?_⟩
  have k5 := k3.trans (k4'.trans k5')
  have ol5 := ol4.keep k5'
  intro cl hcl
  have c6 : (upd H5 cl (.dT [])) c = _ := (upd_ne (ne_of_none c5 hcl)).trans c5
  have k6' : Kp [c] H5 (upd H5 cl (.dT [])) := Kp.new hcl
  have cl6 : At [c] (upd H5 cl (.dT [])) cl (.dT []) := ⟨upd_same, fun z => by
    rw [List.mem_singleton.mp z, c5] at hcl
    cases hcl⟩
  generalize upd H5 cl (.dT []) = H6 at *
  refine ⟨_, rfl, c, dx, _, [("many_words", .int wn), ("many_groups", .int gn), ("alone", .ref al), ("operators", .ref ol), ("closer", .ref cl)], rfl, c6, rfl, (by simp), fun H7 c7 k7' => ?_⟩
  refine ⟨_, rfl, c, dx, _, [("many_words", .int wn), ("many_groups", .int gn), ("alone", .ref al), ("operators", .ref ol), ("closer", .ref cl), ("chart", .non)], rfl, c7, rfl, (by simp), fun H8 c8 k8' => ?_⟩
  have k8 := k5.trans (k6'.trans (k7'.trans k8'))
  have sub : ∀ b ∈ ([] : List Addr), b ∈ [c] := fun b hb => by simp at hb
  refine q H8 ⟨dx, al, ol, cl, [], []⟩ k8 (k3.free hol ol4.2) (k5.free hcl cl6.2) rfl ⟨⟨c8, by simp⟩, (hac.keep k8).re sub, (ol5.keep (k6'.trans (k7'.trans k8'))).re sub, rfl, fun i a y h1 h2 => by simp at h1, (cl6.keep (k7'.trans k8')).re sub, ⟨[], rfl, List.nodup_nil, fun p => by simp⟩, neal⟩
end
end Wo
end
section
set_option Elab.async false
set_option linter.all false
set_option maxRecDepth 100000
set_option maxHeartbeats 4000000
namespace Wo
open PySem PySem.Spec PyProof.Rows L2
def L1T (h : Sq15.House) (a : Nat) : List Nat := (List.range h.groups).filter fun g => g == a || h.tighter.contains (g, a)
def L2T (h : Sq15.House) (b : Nat) : List Nat := (List.range h.groups).filter fun g => g == b || h.tighter.contains (b, g)
theorem mem_L1T {h : Sq15.House} (K : Ok h) {a x : Nat} (ha : a < h.groups) : x ∈ L1T h a ↔ x = a ∨ (x, a) ∈ h.tighter := by
  unfold L1T
  rw [List.mem_filter, List.mem_range, Bool.or_eq_true, beq_iff_eq, List.contains_iff_mem]
  constructor
  · exact fun z => z.2
  · rintro (z | z)
    · exact ⟨by omega, .inl z⟩
    · exact ⟨(K.tin _ z).1, .inr z⟩
theorem mem_L2T {h : Sq15.House} (K : Ok h) {b x : Nat} (hb : b < h.groups) : x ∈ L2T h b ↔ x = b ∨ (b, x) ∈ h.tighter := by
  unfold L2T
  rw [List.mem_filter, List.mem_range, Bool.or_eq_true, beq_iff_eq, List.contains_iff_mem]
  constructor
  · exact fun z => z.2
  · rintro (z | z)
    · exact ⟨by omega, .inl z⟩
    · exact ⟨(K.tin _ z).2, .inr z⟩
/-- the pairs told so far -/
structure ClI (h : Sq15.House) (S : Nat × Nat → Prop) (kvs : List (List Key × V)) : Prop where
  ex : ∃ ps : List (Nat × Nat), kvs.map (·.1) = ps.map kk2 ∧ ps.Nodup ∧ ∀ p, p ∈ ps ↔ (p ∈ h.tighter ∨ S p)
theorem ClI.len {h : Sq15.House} (K : Ok h) {S : Nat × Nat → Prop} {kvs : List (List Key × V)} (I : ClI h S kvs) (hS : ∀ p, S p → p.1 < h.groups ∧ p.2 < h.groups) : kvs.length < sizeLine := by
  obtain ⟨ps, e, nd, m⟩ := I.ex
  have g16 := K.g16
  have lt : ∀ p ∈ ps, p.1 < 16 ∧ p.2 < 16 := fun p hp => by
    rcases (m p).mp hp with z | z
    · have := K.tin p z
      omega
    · have := hS p z
      omega
  have q := nd_code (fun p : Nat × Nat => p.1 * 16 + p.2) 256 ps nd (fun x hx y hy e => by
    have a := lt x hx
    have b := lt y hy
    have e2 : x.1 * 16 + x.2 = y.1 * 16 + y.2 := e
    have : x.1 = y.1 ∧ x.2 = y.2 := by omega
    exact Prod.ext this.1 this.2) fun x hx => by
    have a := lt x hx
    show x.1 * 16 + x.2 < 256
    omega
  have l : kvs.length = ps.length := by rw [← List.length_map (f := (·.1)), e, List.length_map]
  exact small_lt (by omega)
theorem ClI.put {h : Sq15.House} {S S' : Nat × Nat → Prop} {kvs : List (List Key × V)} (I : ClI h S kvs) (p : Nat × Nat) (v : V) (hS : ∀ q, S' q ↔ (S q ∨ q = p)) : ClI h S' (putK kvs (kk2 p) v) := by
  obtain ⟨ps, e, nd, m⟩ := I.ex
  have c : Closer kvs ps := ⟨ps, e, nd, fun _ => Iff.rfl⟩
  have ks := keys_put kvs (kk2 p) v
  rw [c.has] at ks
  by_cases z : p ∈ ps
  · rw [if_pos (List.contains_iff_mem.mpr z)] at ks
    refine ⟨ps, ks.trans e, nd, fun q => ?_⟩
    rw [m, hS]
    constructor
    · rintro (y | y)
      · exact .inl y
      · exact .inr (.inl y)
    · rintro (y | y | y)
      · exact .inl y
      · exact .inr y
      · rw [y]
        exact (m p).mp z
  · rw [if_neg fun y => z (List.contains_iff_mem.mp y)] at ks
    refine ⟨ps ++ [p], by rw [ks, e, List.map_append]; rfl, nd_snoc nd z, fun q => ?_⟩
    rw [List.mem_append, List.mem_singleton, m, hS, or_assoc]
section
variable {P : Program} {w : World} {K : PySem.W.Frag} {mg : Str → Option Value} {base : Heap} {CH CO CC : Addr}
abbrev s_put_closer : Stmt := topS 10
abbrev N_put_closer : List Str := ["house", "first", "second", "looser", "tighter", "one", "other", "group"]
theorem sc_put_closer : FnScope N_put_closer ["house", "first", "second"] (defScope s_put_closer) := ⟨rfl, rfl, rfl, by decide +kernel, rfl, by decide +kernel, by decide +kernel⟩
-- slots: house=0 first=1 second=2 looser=3 tighter=4 one=5 other=6 group=7
def spPutCloser (CH CO : Addr) : Sp := fun vs H Q _ => ∃ (hp : Addr) (a b : Nat) (h : Sq15.House) (cv : V) (B : HA), vs = [.ref hp, .int a, .int b] ∧ HouseAt CH CO [] H hp h cv B ∧ Ok h ∧ a < h.groups ∧ b < h.groups ∧
  ∀ H' kvs, Kp [B.cl] H H' → H' B.cl = some (.dT kvs) → Closer kvs (newT h a b) → Q .non H'
theorem ok_put_closer (T : Txt K mg CH CO CC) (D : DefAt K mg "put_closer" s_put_closer ["house", "first", "second"]) : DefW P w K mg base 1 "put_closer" ["house", "first", "second"] (spPutCloser CH CO) := by
  refine D.ok sc_put_closer (fun vs H Q E h => ?_) (fun f cdv A outer s H vs Q E hr h => ?_)
  · obtain ⟨hp, a, b, h, cv, B, rfl, _⟩ := h
    rfl
  obtain ⟨hp, a, b, h, cv, B, rfl, ha, K1, hga, hgb, q⟩ := h
  refine ⟨_, (pss_cons (ps_setLc (i := 3) (own := [("group", 7)]) rfl sc_put_closer.nd rfl rfl (sw_true rfl rfl rfl (by decide +kernel)) (pi_range1 (by rfl) T.n_range (pa_cons (pe_f T.flH (pv 0)) pa_nil)) (blkOk_by (own := [("group", 7)]) (N := N_put_closer) (sc := defScope s_put_closer) (by decide +kernel)) (fun _ _ _ _ _ => by exact (pg_name (i := 7) sc_put_closer.nd rfl (Or.inl rfl))) (fun _ _ _ _ _ => by exact (pts_one (PW.pt (pw_or (pt_cmpR op_eq (pv 7) (pv 1) (nomark _)) (pw_or1 (pt_cmp (pc_din (hu_of hr) (pe_tup (pa_cons (pv 7) (pa_cons (pv 1) pa_nil))) (pe_f T.flH (pv 0))) rfl)))))) (fun _ _ _ _ _ => by exact (pv 7)))
      (pss_cons (ps_setLc (i := 4) (own := [("group", 7)]) rfl sc_put_closer.nd rfl rfl (sw_true rfl rfl rfl (by decide +kernel)) (pi_range1 (by rfl) T.n_range (pa_cons (pe_f T.flH (pv 0)) pa_nil)) (blkOk_by (own := [("group", 7)]) (N := N_put_closer) (sc := defScope s_put_closer) (by decide +kernel)) (fun _ _ _ _ _ => by exact (pg_name (i := 7) sc_put_closer.nd rfl (Or.inl rfl))) (fun _ _ _ _ _ => by exact (pts_one (PW.pt (pw_or (pt_cmpR op_eq (pv 7) (pv 2) (nomark _)) (pw_or1 (pt_cmp (pc_din (hu_of hr) (pe_tup (pa_cons (pv 2) (pa_cons (pv 7) pa_nil))) (pe_f T.flH (pv 0))) rfl)))))) (fun _ _ _ _ _ => by exact (pv 7)))
      (pss_one (ps_for PassesOwn.never rfl (pi_list (pv 3)) (pg_name (i := 5) sc_put_closer.nd rfl (Or.inl rfl))
      (pss_one (ps_for PassesOwn.never rfl (pi_list (pv 4)) (pg_name (i := 6) sc_put_closer.nd rfl (Or.inl rfl))
      (pss_one (ps_dput (hu_of hr) (pe_f T.flH (pv 0)) (pe_tup (pa_cons (pv 5) (pa_cons (pv 6) pa_nil))) pe_bl rfl)))))))), ?_⟩
  have g16 := K1.g16
  have me : At [B.cl] H hp _ := ha.me.more ha.closer.1 (by intro z; cases z)
  have nt : ((h.groups : Nat) : Int).toNat = h.groups := by omega
  -- looser
  refine ⟨_, rfl, hp, _, _, _, rfl, me.1, rfl, _, rfl, by omega, by omega, fun D1 hD1 => ?_⟩
  refine lc_range (lo := 0) (n := ((h.groups : Nat) : Int).toNat) (fun i H' => H' D1 = some (.lst (vn ((List.range i).filter fun g => g == a || h.tighter.contains (g, a)))) ∧ Same H H') ⟨upd_same, (Kp.new hD1).same⟩ ?_ ?_
  · rintro i H2 hi ⟨d2, s2⟩
    rw [nt] at hi
    refine ⟨rfl, ?_⟩
    have lf : ((List.range i).filter fun g => g == a || h.tighter.contains (g, a)).length ≤ i := Nat.le_trans (List.length_filter_le ..) (by rw [List.length_range]; exact Nat.le_refl _)
    have me2 := s2 _ _ me.1
    have fin : ∀ H3, Same H2 H3 → (i == a || h.tighter.contains (i, a)) = true → ∃ acc, H3 D1 = some (.lst acc) ∧ acc.length < sizeLine ∧ ((upd H3 D1 (.lst (acc ++ [V.int (0 + (i : Int))]))) D1 = some (.lst (vn ((List.range (i + 1)).filter fun g => g == a || h.tighter.contains (g, a)))) ∧ Same H (upd H3 D1 (.lst (acc ++ [V.int (0 + (i : Int))])))) := fun H3 s3 c => by
      refine ⟨_, s3 _ _ d2, by rw [vn_len]; exact small_lt (by omega), ?_, fun b u e => ?_⟩
      · rw [upd_same, filter_snoc (fun g => g == a || h.tighter.contains (g, a)), if_pos c, vn_append, Int.zero_add]
        rfl
      · rw [upd_ne (ne_of_none e hD1)]
        exact s3 _ _ (s2 _ _ e)
    refine ⟨_, rfl, _, rfl, rfl, _, rfl, ?_⟩
    refine ite2 (fun c1 => ?_) (fun c1 => ?_)
    · have c1' : 0 + (i : Int) = a := V.int.inj (of_decide_eq_true c1)
      exact iteT ⟨_, rfl, fin H2 (Same.refl _) (by rw [beq_iff_eq.mpr (show i = a by omega)]; rfl)⟩
    have c1' : ¬ i = a := fun z => c1 (decide_eq_true (by rw [z, Int.zero_add]))
    refine ⟨_, rfl, _, rfl, (by show 2 ≤ sizeLine; decide), fun p hp2 => ?_⟩
    have s3 : Same H2 (upd H2 p (.tup [.int (0 + (i : Int)), .int a])) := (Kp.new hp2).same
    have tp : (upd H2 p (.tup [.int (0 + (i : Int)), .int a])) p = some (.tup ((kk2 (i, a)).map kV)) := by
      rw [upd_same, Int.zero_add]
      rfl
    generalize upd H2 p (.tup [.int (0 + (i : Int)), .int a]) = H3 at *
    refine ⟨_, rfl, hp, _, _, _, rfl, s3 _ _ me2, rfl, _, _, rfl, DGet.t (k := kk2 (i, a)) (s3 _ _ (s2 _ _ ha.closer.1)) tp, _, rfl, ?_⟩
    rw [ha.rel.has]
    cases c : h.tighter.contains (i, a) with
    | true => exact iteT ⟨_, rfl, fin H3 s3 (by rw [c, Bool.or_true])⟩
    | false =>
      refine iteF ⟨?_, s2.trans s3⟩
      rw [filter_snoc (fun g => g == a || h.tighter.contains (g, a)), if_neg (by rw [c, beq_eq_false_iff_ne.mpr c1']; exact Bool.false_ne_true), List.append_nil]
      exact s3 _ _ d2
  rintro H1 ⟨d1, s1⟩
  rw [nt] at d1
  have d1' : H1 D1 = some (.lst (vn (L1T h a))) := d1
  clear d1
  -- tighter
  refine ⟨_, rfl, hp, _, _, _, rfl, s1 _ _ me.1, rfl, _, rfl, by omega, by omega, fun D2 hD2 => ?_⟩
  refine lc_range (lo := 0) (n := ((h.groups : Nat) : Int).toNat) (fun i H' => H' D2 = some (.lst (vn ((List.range i).filter fun g => g == b || h.tighter.contains (b, g)))) ∧ Same H1 H') ⟨upd_same, (Kp.new hD2).same⟩ ?_ ?_
  · rintro i H2 hi ⟨d2, s2⟩
    rw [nt] at hi
    refine ⟨rfl, ?_⟩
    have lf : ((List.range i).filter fun g => g == b || h.tighter.contains (b, g)).length ≤ i := Nat.le_trans (List.length_filter_le ..) (by rw [List.length_range]; exact Nat.le_refl _)
    have me2 := s2 _ _ (s1 _ _ me.1)
    have fin : ∀ H3, Same H2 H3 → (i == b || h.tighter.contains (b, i)) = true → ∃ acc, H3 D2 = some (.lst acc) ∧ acc.length < sizeLine ∧ ((upd H3 D2 (.lst (acc ++ [V.int (0 + (i : Int))]))) D2 = some (.lst (vn ((List.range (i + 1)).filter fun g => g == b || h.tighter.contains (b, g)))) ∧ Same H1 (upd H3 D2 (.lst (acc ++ [V.int (0 + (i : Int))])))) := fun H3 s3 c => by
      refine ⟨_, s3 _ _ d2, by rw [vn_len]; exact small_lt (by omega), ?_, fun b u e => ?_⟩
      · rw [upd_same, filter_snoc (fun g => g == b || h.tighter.contains (b, g)), if_pos c, vn_append, Int.zero_add]
        rfl
      · rw [upd_ne (ne_of_none e hD2)]
        exact s3 _ _ (s2 _ _ e)
    refine ⟨_, rfl, _, rfl, rfl, _, rfl, ?_⟩
    refine ite2 (fun c1 => ?_) (fun c1 => ?_)
    · have c1' : 0 + (i : Int) = b := V.int.inj (of_decide_eq_true c1)
      exact iteT ⟨_, rfl, fin H2 (Same.refl _) (by rw [beq_iff_eq.mpr (show i = b by omega)]; rfl)⟩
    have c1' : ¬ i = b := fun z => c1 (decide_eq_true (by rw [z, Int.zero_add]))
    refine ⟨_, rfl, _, rfl, (by show 2 ≤ sizeLine; decide), fun p hp2 => ?_⟩
    have s3 : Same H2 (upd H2 p (.tup [.int b, .int (0 + (i : Int))])) := (Kp.new hp2).same
    have tp : (upd H2 p (.tup [.int b, .int (0 + (i : Int))])) p = some (.tup ((kk2 (b, i)).map kV)) := by
      rw [upd_same, Int.zero_add]
      rfl
    generalize upd H2 p (.tup [.int b, .int (0 + (i : Int))]) = H3 at *
    refine ⟨_, rfl, hp, _, _, _, rfl, s3 _ _ me2, rfl, _, _, rfl, DGet.t (k := kk2 (b, i)) (s3 _ _ (s2 _ _ (s1 _ _ ha.closer.1))) tp, _, rfl, ?_⟩
    rw [ha.rel.has]
    cases c : h.tighter.contains (b, i) with
    | true => exact iteT ⟨_, rfl, fin H3 s3 (by rw [c, Bool.or_true])⟩
    | false =>
      refine iteF ⟨?_, s2.trans s3⟩
      rw [filter_snoc (fun g => g == b || h.tighter.contains (b, g)), if_neg (by rw [c, beq_eq_false_iff_ne.mpr c1']; exact Bool.false_ne_true), List.append_nil]
      exact s3 _ _ d2
  rintro H2 ⟨d2, s2⟩
  rw [nt] at d2
  have d2' : H2 D2 = some (.lst (vn (L2T h b))) := d2
  clear d2
  have D12 := s2 _ _ d1'
  have s12 := s1.trans s2
  have cl2 := s12 _ _ ha.closer.1
  have me2 : At [B.cl] H2 hp _ := me.same s12
  have D1n : D1 ∉ [B.cl] := fun z => ne_of D12 cl2 (by intro z; cases z) (List.mem_singleton.mp z)
  have D2n : D2 ∉ [B.cl] := fun z => ne_of d2' cl2 (by intro z; cases z) (List.mem_singleton.mp z)
  let S : Nat → Nat → Nat × Nat → Prop := fun i j p => (p.1 ∈ (L1T h a).take i ∧ p.2 ∈ L2T h b) ∨ ((L1T h a)[i]? = some p.1 ∧ p.2 ∈ (L2T h b).take j)
  have Sin : ∀ i j p, S i j p → p.1 < h.groups ∧ p.2 < h.groups := fun i j p z => by
    have in1 : ∀ x, x ∈ L1T h a → x < h.groups := fun x m => List.mem_range.mp (List.mem_filter.mp m).1
    have in2 : ∀ x, x ∈ L2T h b → x < h.groups := fun x m => List.mem_range.mp (List.mem_filter.mp m).1
    rcases z with ⟨z1, z2⟩ | ⟨z1, z2⟩
    · exact ⟨in1 _ (List.mem_of_mem_take z1), in2 _ z2⟩
    · exact ⟨in1 _ (List.mem_of_getElem? z1), in2 _ (List.mem_of_mem_take z2)⟩
  have item : ∀ (l : List Nat) (i : Nat) (y : V), (vn l)[i]? = some y → ∃ x, l[i]? = some x ∧ y = V.int (x : Int) := fun l i y hy => by
    unfold vn at hy
    rw [List.getElem?_map] at hy
    cases z : l[i]? with
    | none => rw [z] at hy; cases hy
    | some o => rw [z] at hy; exact ⟨o, rfl, (Option.some.inj hy).symm⟩
  refine ⟨_, rfl, D1, rfl, ⟨_, SqL.of D12⟩, ?_⟩
  refine for_list (K := K) (a := D1) (xs := vn (L1T h a)) (fun i σ H' => ∃ v1 v2 v3, σ = [some (.ref hp), some (.int a), some (.int b), some (.ref D1), some (.ref D2), v1, v2, v3] ∧ Kp [B.cl] H2 H' ∧ ∃ kvs, H' B.cl = some (.dT kvs) ∧ ClI h (S i 0) kvs)
    ⟨none, none, _, rfl, Kp.refl, B.kvs, cl2, ?_⟩ (fun i σ H' _ ⟨_, _, _, _, k3, _⟩ => SqL.of (k3 _ _ D12 D1n)) ?_ ?_
  · obtain ⟨ps, p1, p2, p3⟩ := ha.rel
    refine ⟨ps, p1, p2, fun p => ?_⟩
    rw [p3]
    constructor
    · exact .inl
    · rintro (z | z | z)
      · exact z
      · simp at z
      · simp at z
  · rintro i y σ HA hy ⟨v1, v2, v3, rfl, kA, kvs, clA, cI⟩
    obtain ⟨x, hx, rfl⟩ := item _ _ _ hy
    refine ⟨_, rfl, D2, rfl, ⟨_, SqL.of (kA _ _ d2' D2n)⟩, ?_⟩
    refine for_list (K := K) (a := D2) (xs := vn (L2T h b)) (fun j σ H' => ∃ v2 v3, σ = [some (.ref hp), some (.int a), some (.int b), some (.ref D1), some (.ref D2), some (.int x), v2, v3] ∧ Kp [B.cl] H2 H' ∧ ∃ kvs, H' B.cl = some (.dT kvs) ∧ ClI h (S i j) kvs)
      ⟨v2, v3, rfl, kA, kvs, clA, cI⟩ (fun i σ H' _ ⟨_, _, _, k3, _⟩ => SqL.of (k3 _ _ d2' D2n)) ?_ ?_
    · rintro j y σ HB hy ⟨w2, w3, rfl, kB, kvs2, clB, cI2⟩
      obtain ⟨z, hz, rfl⟩ := item _ _ _ hy
      refine ⟨_, rfl, hp, _, _, _, rfl, kB _ _ me2.1 me2.2, rfl, _, rfl, _, rfl, (by show 2 ≤ sizeLine; decide), fun p hp2 => ?_⟩
      have ncl : B.cl ≠ p := ne_of_none clB hp2
      refine ⟨_, _, rfl, DPut.t (k := kk2 (x, z)) ((upd_ne ncl).trans clB) upd_same (cI2.len K1 (Sin i j)), ?_⟩
      refine ⟨some (.int z), w3, rfl, kB.trans ((Kp.new hp2).trans (Kp.put (by simp))), _, upd_same, cI2.put (x, z) _ fun q => ?_⟩
      show S i (j + 1) q ↔ S i j q ∨ q = (x, z)
      have tk : (L2T h b).take (j + 1) = (L2T h b).take j ++ [z] := by rw [List.take_add_one, hz]; rfl
      show (_ ∨ _ ∧ q.2 ∈ (L2T h b).take (j + 1)) ↔ (_ ∨ _ ∧ _) ∨ _
      rw [tk, List.mem_append, List.mem_singleton, hx]
      constructor
      · rintro (y | ⟨y1, y2 | y2⟩)
        · exact .inl (.inl y)
        · exact .inl (.inr ⟨y1, y2⟩)
        · exact .inr (Prod.ext (Option.some.inj y1).symm y2)
      · rintro ((y | ⟨y1, y2⟩) | y)
        · exact .inl y
        · exact .inr ⟨y1, .inl y2⟩
        · rw [y]
          exact .inr ⟨rfl, .inr rfl⟩
    · rintro σ HB ⟨w2, w3, rfl, kB, kvs2, clB, cI2⟩
      refine ⟨_, _, _, rfl, kB, kvs2, clB, ?_⟩
      obtain ⟨ps, p1, p2, p3⟩ := cI2.ex
      refine ⟨ps, p1, p2, fun p => ?_⟩
      rw [p3]
      have tk : (L1T h a).take (i + 1) = (L1T h a).take i ++ [x] := by rw [List.take_add_one, hx]; rfl
      rw [vn_len]
      show (_ ∨ (_ ∨ (L1T h a)[i]? = some p.1 ∧ p.2 ∈ (L2T h b).take (L2T h b).length)) ↔ (_ ∨ ((p.1 ∈ (L1T h a).take (i + 1) ∧ _) ∨ _ ∧ p.2 ∈ (L2T h b).take 0))
      rw [tk, List.take_length, hx, List.mem_append, List.mem_singleton]
      constructor
      · rintro (y | ⟨y1, y2⟩ | ⟨y1, y2⟩)
        · exact .inl y
        · exact .inr (.inl ⟨.inl y1, y2⟩)
        · exact .inr (.inl ⟨.inr (Option.some.inj y1).symm, y2⟩)
      · rintro (y | ⟨y1 | y1, y2⟩ | ⟨y1, y2⟩)
        · exact .inl y
        · exact .inr (.inl ⟨y1, y2⟩)
        · exact .inr (.inr ⟨congrArg some y1.symm, y2⟩)
        · simp at y2
  · rintro σ HA ⟨v1, v2, v3, rfl, kA, kvs, clA, cI⟩
    refine q HA kvs ((Same.kp s12).trans kA) clA ?_
    obtain ⟨ps, p1, p2, p3⟩ := cI.ex
    refine ⟨ps, p1, p2, fun p => ?_⟩
    rw [p3, mem_newT K1, vn_len]
    show (_ ∨ ((p.1 ∈ (L1T h a).take (L1T h a).length ∧ p.2 ∈ L2T h b) ∨ _ ∧ p.2 ∈ (L2T h b).take 0)) ↔ _
    rw [List.take_length, mem_L1T K1 hga, mem_L2T K1 hgb]
    constructor
    · rintro (y | y | ⟨_, y⟩)
      · exact .inl y
      · exact .inr y
      · simp at y
    · rintro (y | y)
      · exact .inl y
      · exact .inr (.inl y)
end
end Wo
end
section
set_option Elab.async false
set_option linter.all false
set_option maxRecDepth 100000
set_option maxHeartbeats 4000000
namespace Wo
open PySem PySem.Spec PyProof.Rows L2
/-- tuples at some places -/
structure TupsAt (H : Hp) (as : List Addr) (ts : List (List V)) : Prop where
  len : as.length = ts.length
  tup : ∀ (i : Nat) (a : Addr) (t : List V), as[i]? = some a → ts[i]? = some t → H a = some (.tup t)
theorem TupsAt.same {H H' : Hp} {as : List Addr} {ts : List (List V)} (x : TupsAt H as ts) (s : Same H H') : TupsAt H' as ts := ⟨x.len, fun i a t h1 h2 => s _ _ (x.tup i a t h1 h2)⟩
theorem TupsAt.keep {ex : List Addr} {H H' : Hp} {as : List Addr} {ts : List (List V)} (x : TupsAt H as ts) (k : Kp ex H H') (n : ∀ e ∈ ex, ∀ t, H e ≠ some (.tup t)) : TupsAt H' as ts := ⟨x.len, fun i a t h1 h2 => by
  have q := x.tup i a t h1 h2
  exact k _ _ q fun z => n a z t q⟩
theorem TupsAt.at {H : Hp} {as : List Addr} {ts : List (List V)} (x : TupsAt H as ts) {i : Nat} {t : List V} (h : ts[i]? = some t) : ∃ a, (as.map V.ref)[i]? = some (V.ref a) ∧ as[i]? = some a ∧ H a = some (.tup t) := by
  obtain ⟨lt, _⟩ := List.getElem?_eq_some_iff.mp h
  have lt2 : i < as.length := by rw [x.len]; exact lt
  have e2 : as[i]? = some as[i] := List.getElem?_eq_getElem lt2
  exact ⟨as[i], by rw [List.getElem?_map, e2]; rfl, e2, x.tup i _ t e2 h⟩
theorem TupsAt.snoc {H : Hp} {as : List Addr} {ts : List (List V)} (x : TupsAt H as ts) {a : Addr} {t : List V} (h : H a = some (.tup t)) : TupsAt H (as ++ [a]) (ts ++ [t]) := by
  refine ⟨by rw [List.length_append, List.length_append, x.len]; rfl, fun i b u h1 h2 => ?_⟩
  have l := x.len
  by_cases c : i < as.length
  · rw [List.getElem?_append_left c] at h1
    rw [List.getElem?_append_left (by omega)] at h2
    exact x.tup i b u h1 h2
  · rw [List.getElem?_append_right (by omega)] at h1
    rw [List.getElem?_append_right (by omega), ← l] at h2
    cases e : i - as.length with
    | zero =>
      rw [e] at h1 h2
      cases h1
      cases h2
      exact h
    | succ m =>
      rw [e] at h1
      simp at h1
theorem TupsAt.append {H : Hp} {as bs : List Addr} {ts us : List (List V)} (x : TupsAt H as ts) (y : TupsAt H bs us) : TupsAt H (as ++ bs) (ts ++ us) := by
  have l := x.len
  have l2 := y.len
  refine ⟨by rw [List.length_append, List.length_append]; omega, fun i b u h1 h2 => ?_⟩
  by_cases c : i < as.length
  · rw [List.getElem?_append_left c] at h1
    rw [List.getElem?_append_left (by omega)] at h2
    exact x.tup i b u h1 h2
  · rw [List.getElem?_append_right (by omega)] at h1
    rw [List.getElem?_append_right (by omega), ← l] at h2
    exact y.tup _ b u h1 h2
def an3 (t : An) : List V := [.int (t.1 : Int), .int t.2.1, .int (t.2.2 : Int)]
def ExprAt (H : Hp) (p : Addr) (A : List An) : Prop := ∃ as, H p = some (.lst (as.map V.ref)) ∧ TupsAt H as (A.map an3)
theorem ExprAt.same {H H' : Hp} {p : Addr} {A : List An} (x : ExprAt H p A) (s : Same H H') : ExprAt H' p A := by
  obtain ⟨as, h1, h2⟩ := x
  exact ⟨as, s _ _ h1, h2.same s⟩
/-- what a part must be -/
def AnOk (h : Sq15.House) (t : An) : Prop := t.2.1 ≠ -1 → 0 ≤ t.2.1 ∧ ∃ x, h.ops[t.2.1.toNat]? = some x ∧ t.2.2 < x.holes ∧ (64 ≤ t.1 → ∃ y, h.ops[t.1 - 64]? = some y)
def TopOk (h : Sq15.House) (w : Int) (k : Nat) : Prop := w ≠ -1 → 0 ≤ w ∧ ∃ x, h.ops[w.toNat]? = some x ∧ k < x.holes
mutual
theorem ann_ok {h : Sq15.House} (K : Ok h) : ∀ (e : Sq15.Ex) (w : Int) (k : Nat), h.made e = true → Sq15.brackets e = 0 → TopOk h w k → ∀ t ∈ annE w k e, AnOk h t
  | .atom a, w, k, m, _, ho, t, ht => by
    have e : t = (a, w, k) := List.mem_singleton.mp ht
    rw [e]
    intro hw
    obtain ⟨h1, x, h2, h3⟩ := ho hw
    have lo := K.atom_low (made_atom m)
    exact ⟨h1, x, h2, h3, fun z => absurd z (by show ¬ 64 ≤ a; omega)⟩
  | .op o ks, w, k, m, b, ho, t, ht => by
    obtain ⟨x, hx, hl, hm⟩ := made_op m
    have bk : Sq15.bracketsAll ks = 0 := by unfold Sq15.brackets at b; exact b
    have ht2 : t ∈ (64 + o, w, k) :: annAll o 0 ks := ht
    rcases List.mem_cons.mp ht2 with e | ht3
    · rw [e]
      intro hw
      obtain ⟨h1, y, h2, h3⟩ := ho hw
      exact ⟨h1, y, h2, h3, fun _ => ⟨x, by show h.ops[64 + o - 64]? = _; rw [show 64 + o - 64 = o by omega]; exact hx⟩⟩
    · exact annAll_ok K ks o 0 hx hm bk (by omega) t ht3
  | .paren e, _, _, _, b, _, _, _ => by
    unfold Sq15.brackets at b
    omega
theorem annAll_ok {h : Sq15.House} (K : Ok h) : ∀ (l : List Sq15.Ex) (o k : Nat) {x : Sq15.Op}, h.ops[o]? = some x → h.madeAll l = true → Sq15.bracketsAll l = 0 → k + l.length ≤ x.holes → ∀ t ∈ annAll o k l, AnOk h t
  | [], _, _, _, _, _, _, _, t, ht => by simp [annAll] at ht
  | e :: l, o, k, x, hx, m, b, hk, t, ht => by
    obtain ⟨m1, m2⟩ := made_cons m
    have bs : Sq15.brackets e = 0 ∧ Sq15.bracketsAll l = 0 := by unfold Sq15.bracketsAll at b; omega
    have ht2 : t ∈ annE (o : Int) k e ++ annAll o (k + 1) l := ht
    rw [List.length_cons] at hk
    rcases List.mem_append.mp ht2 with z | z
    · refine ann_ok K e (o : Int) k m1 bs.1 (fun _ => ⟨by omega, x, by rw [Int.toNat_natCast]; exact hx, by omega⟩) t z
    · exact annAll_ok K l o (k + 1) hx m2 bs.2 (by omega) t z
end
section
variable {P : Program} {w : World} {K : PySem.W.Frag} {mg : Str → Option Value} {base : Heap} {CH CO CC : Addr}
abbrev s_is_operator : Stmt := topS 29
abbrev N_is_operator : List Str := ["house", "number"]
theorem sc_is_operator : FnScope N_is_operator ["house", "number"] (defScope s_is_operator) := ⟨rfl, rfl, rfl, by decide +kernel, rfl, by decide +kernel, by decide +kernel⟩
-- slots: house=0 number=1
def spIsOp (CH CO : Addr) : Sp := fun vs H Q _ => ∃ (hp : Addr) (n : Nat) (h : Sq15.House) (cv : V) (B : HA) (ex : List Addr), vs = [.ref hp, .int n] ∧ HouseAt CH CO ex H hp h cv B ∧ Q (.bl (isOp h n)) H
theorem ok_is_operator (T : Txt K mg CH CO CC) (D : DefAt K mg "is_operator" s_is_operator ["house", "number"]) : DefW P w K mg base 1 "is_operator" ["house", "number"] (spIsOp CH CO) := by
  refine D.ok sc_is_operator (fun vs H Q E h => ?_) (fun f cdv A outer s H vs Q E hr h => ?_)
  · obtain ⟨hp, n, h, cv, B, ex, rfl, _⟩ := h
    rfl
  obtain ⟨hp, n, h, cv, B, ex, rfl, ha, q⟩ := h
  refine ⟨_, (pss_one (ps_ret (pe_chain op_le op_lt (pe_gi T.g_OPERATOR) (pv 1) (pe_op op_add (pe_gi T.g_OPERATOR) (pe_callB call_len_seq (by rfl) T.n_len boot_len (pa_cons (pe_f T.flH (pv 0)) pa_nil)))))), ?_⟩
  have ll : (B.as.map V.ref).length = h.ops.length := by rw [List.length_map, ha.len]
  refine ⟨_, rfl, _, _, rfl, rfl, _, rfl, ?_⟩
  unfold isOp at q
  by_cases c : 64 ≤ n
  · rw [decide_eq_true (show (64 : Int) ≤ n by omega)]
    refine iteT ⟨_, rfl, hp, _, _, _, rfl, ha.me.1, rfl, _, _, rfl, .inl ha.ops.seq, _, _, rfl, rfl, _, _, rfl, rfl, ?_⟩
    rw [decide_eq_true c] at q
    have e : decide ((n : Int) < 64 + (((B.as.map V.ref).length : Nat) : Int)) = decide (n < 64 + h.ops.length) := by
      rw [ll]
      by_cases d : n < 64 + h.ops.length
      · rw [decide_eq_true d, decide_eq_true (by omega)]
      · rw [decide_eq_false d, decide_eq_false (by omega)]
    show Q (.bl (decide ((n : Int) < 64 + (((B.as.map V.ref).length : Nat) : Int)))) H
    rw [e]
    exact q
  · rw [decide_eq_false (show ¬ (64 : Int) ≤ n by omega)]
    refine iteF ?_
    rw [decide_eq_false c] at q
    exact q
abbrev s_is_barred : Stmt := topS 31
abbrev N_is_barred : List Str := ["house", "one", "number", "whose", "which"]
theorem sc_is_barred : FnScope N_is_barred ["house", "one"] (defScope s_is_barred) := ⟨rfl, rfl, rfl, by decide +kernel, rfl, by decide +kernel, by decide +kernel⟩
-- slots: house=0 one=1 number=2 whose=3 which=4
def spIsBarred (CH CO : Addr) : Sp := fun vs H Q _ => ∃ (hp ta : Addr) (t : An) (h : Sq15.House) (cv : V) (B : HA) (ex : List Addr), vs = [.ref hp, .ref ta] ∧ HouseAt CH CO ex H hp h cv B ∧ Ok h ∧ H ta = some (.tup (an3 t)) ∧ AnOk h t ∧ ∀ H', Same H H' → Q (.bl (barB h t)) H'
theorem ok_is_barred (T : Txt K mg CH CO CC) (D : DefAt K mg "is_barred" s_is_barred ["house", "one"]) (D_may : DefW P w K mg base 2 "may" ["house", "owner", "thing", "number"] (spMay CH CO)) : DefW P w K mg base 3 "is_barred" ["house", "one"] (spIsBarred CH CO) := by
  refine D.ok sc_is_barred (fun vs H Q E h => ?_) (fun f cdv A outer s H vs Q E hr h => ?_)
  · obtain ⟨hp, ta, t, h, cv, B, ex, rfl, _⟩ := h
    rfl
  obtain ⟨hp, ta, t, h, cv, B, ex, rfl, ha, K1, hta, hok, q⟩ := h
  refine ⟨_, (pss_cons (ps_asg (pv 1) (pg_tup rfl (pgs_cons (pg_name (i := 2) sc_is_barred.nd rfl (Or.inl rfl)) (pgs_cons (pg_name (i := 3) sc_is_barred.nd rfl (Or.inl rfl)) (pgs_cons (pg_name (i := 4) sc_is_barred.nd rfl (Or.inl rfl)) pgs_nil)))))
      (pss_cons (ps_if (PW.pt (pw_or (pt_cmpR op_eq (pv 3) (pe_gi T.g_NO_OWNER) (nomark _)) (pw_or1 (pt_cmpR op_lt (pv 2) (pe_gi T.g_OPERATOR) (nomark _)))))
      (pss_one (ps_ret pe_bl))
      pss_nil)
      (pss_one (ps_ret (pe_not (pe_d D_may hr (pa_cons (pv 0) (pa_cons (pv 3) (pa_cons (pv 4) (pa_cons (pe_op op_sub (pv 2) (pe_gi T.g_OPERATOR)) pa_nil)))))))))), ?_⟩
  refine ⟨_, rfl, ta, _, rfl, SqT.of hta, rfl, _, _, rfl, _, _, rfl, _, _, rfl, rfl, ?_⟩
  unfold barB at q
  refine ⟨_, rfl, rfl, _, rfl, ?_⟩
  by_cases c : t.2.1 = -1
  · rw [decide_eq_true (show V.int t.2.1 = V.int (-1) from congrArg V.int c)]
    refine iteT (iteT ?_)
    rw [decide_eq_false (fun z => z c)] at q
    exact q H (Same.refl H)
  rw [decide_eq_false (show ¬ V.int t.2.1 = V.int (-1) from fun z => c (V.int.inj z))]
  rw [decide_eq_true c] at q
  refine iteF ⟨_, rfl, _, _, rfl, rfl, _, rfl, ?_⟩
  by_cases d : 64 ≤ t.1
  · rw [decide_eq_false (show ¬ (t.1 : Int) < 64 by omega)]
    rw [decide_eq_true d] at q
    refine iteF ?_
    obtain ⟨w0, x, hx, hk, hy⟩ := hok c
    obtain ⟨y, hy⟩ := hy d
    refine ⟨_, rfl, _, rfl, _, rfl, _, rfl, _, _, rfl, rfl, hp, t.2.1.toNat, t.2.2, t.1 - 64, h, cv, B, ex, x, y, ?_, ha, K1, hx, hy, hk, fun H1 s1 => ⟨_, rfl, q H1 s1⟩⟩
    show [V.ref hp, V.int t.2.1, V.int (t.2.2 : Int), V.int ((t.1 : Int) - 64)] = _
    rw [show ((t.2.1.toNat : Nat) : Int) = t.2.1 from Int.toNat_of_nonneg w0, show ((t.1 : Int) - 64) = ((t.1 - 64 : Nat) : Int) by omega]
  · rw [decide_eq_true (show (t.1 : Int) < 64 by omega)]
    rw [decide_eq_false d] at q
    exact iteT (q H (Same.refl H))
abbrev s_barred_in : Stmt := topS 32
abbrev N_barred_in : List Str := ["house", "expression", "at", "one"]
theorem sc_barred_in : FnScope N_barred_in ["house", "expression"] (defScope s_barred_in) := ⟨rfl, rfl, rfl, by decide +kernel, rfl, by decide +kernel, by decide +kernel⟩
-- slots: house=0 expression=1 at=2 one=3
def spBarredIn (CH CO : Addr) : Sp := fun vs H Q _ => ∃ (hp p : Addr) (A : List An) (h : Sq15.House) (cv : V) (B : HA), vs = [.ref hp, .ref p] ∧ HouseAt CH CO [] H hp h cv B ∧ Ok h ∧ ExprAt H p A ∧ (∀ t ∈ A, AnOk h t) ∧ A.length ≤ 1000 ∧ ∀ H' r, Same H H' → H r = none → H' r = some (.lst (vn (idx (barB h) 0 A))) → Q (.ref r) H'
theorem idx_len {α : Type} {p : α → Bool} : ∀ (n : Nat) (l : List α), (idx p n l).length ≤ l.length
  | _, [] => Nat.le_refl _
  | n, a :: l => by
    have := idx_len (p := p) (n + 1) l
    show ((if p a = true then [n] else []) ++ idx p (n + 1) l).length ≤ _
    rw [List.length_append, List.length_cons]
    split <;> simp <;> omega
theorem ok_barred_in (T : Txt K mg CH CO CC) (D : DefAt K mg "barred_in" s_barred_in ["house", "expression"]) (D_is_barred : DefW P w K mg base 3 "is_barred" ["house", "one"] (spIsBarred CH CO)) : DefW P w K mg base 4 "barred_in" ["house", "expression"] (spBarredIn CH CO) := by
  refine D.ok sc_barred_in (fun vs H Q E h => ?_) (fun f cdv A outer s H vs Q E hr h => ?_)
  · obtain ⟨hp, p, A, h, cv, B, rfl, _⟩ := h
    rfl
  obtain ⟨hp, p, A', h, cv, B, rfl, ha, K1, ⟨as, hp1, hp2⟩, hok, hl, q⟩ := h
  refine ⟨_, (pss_one (ps_ret (pe_lc (own := [("at", 2), ("one", 3)]) rfl sc_barred_in.nd (pi_enum (by rfl) T.n_enumerate (pa_cons (pv 1) pa_nil)) (blkOk_by (own := [("at", 2), ("one", 3)]) (N := N_barred_in) (sc := defScope s_barred_in) (by decide +kernel)) (fun _ _ _ _ _ => by exact (pg_tupK (K := K) (n := 2) rfl rfl (pgs_cons (pg_name (i := 2) sc_barred_in.nd rfl (Or.inl rfl)) (pgs_cons (pg_name (i := 3) sc_barred_in.nd rfl (Or.inl rfl)) pgs_nil)))) (fun _ _ _ _ _ => by exact (pts_one (pt_val (pe_d D_is_barred hr (pa_cons (pv 0) (pa_cons (pv 3) pa_nil)))))) (fun _ _ _ _ _ => by exact (pv 2))))), ?_⟩
  have al : (as.map V.ref).length = A'.length := by rw [List.length_map, hp2.len, List.length_map]
  refine ⟨_, rfl, p, _, rfl, SqL.of hp1, fun D hD => ?_⟩
  refine lc_it (walk_enum (K := K) (a := p) (xs := as.map V.ref)) (fun i H' => H' D = some (.lst (vn (idx (barB h) 0 (A'.take i)))) ∧ Same H H') ⟨upd_same, (Kp.new hD).same⟩ (fun i H' _ ⟨_, s1⟩ => SqL.of (s1 _ _ hp1)) ?_ ?_
  · rintro i y HA HB hi ⟨dA, sA⟩ ⟨T1, x1, y1, rfl, hT1, rfl, ex, ey⟩
    cases ex
    rw [al] at hi
    have ht : A'[i]? = some A'[i] := List.getElem?_eq_getElem hi
    have htm : A'[i] ∈ A' := List.getElem_mem hi
    generalize A'[i] = t at ht htm
    obtain ⟨ta, t1, t2, t3⟩ := hp2.at (i := i) (t := an3 t) (by rw [List.getElem?_map, ht]; rfl)
    have ey2 : (as.map V.ref)[i]? = some y1 := ey
    rw [t1] at ey2
    cases ey2
    have sB : Same HA (upd HA T1 (.tup [.int i, .ref ta])) := (Kp.new hT1).same
    have dB := sB _ _ dA
    refine ⟨T1, _, rfl, SqT.of upd_same, rfl, _, _, rfl, _, _, rfl, rfl, rfl, ?_⟩
    generalize upd HA T1 (.tup [.int i, .ref ta]) = HB at *
    have sAB := sA.trans sB
    refine ⟨_, rfl, _, rfl, hp, ta, t, h, cv, B, [], rfl, ha.keep (Same.kp sAB), K1, sAB _ _ t3, hok t htm, fun HC s3 => ⟨_, rfl, ?_⟩⟩
    have dC := s3 _ _ dB
    have tk : A'.take (i + 1) = A'.take i ++ [t] := by rw [List.take_add_one, ht]; rfl
    have sn := idx_snoc (p := barB h) 0 (A'.take i) t
    rw [← tk, List.length_take, Nat.min_eq_left (Nat.le_of_lt hi), Nat.zero_add] at sn
    cases c : barB h t with
    | true =>
      rw [if_pos c] at sn
      refine iteT ⟨_, rfl, _, dC, ?_, ?_, fun b u e => ?_⟩
      · have := idx_len (p := barB h) 0 (A'.take i)
        rw [List.length_take] at this
        rw [vn_len]
        exact small_lt (by omega)
      · rw [upd_same, sn, vn_append]
        rfl
      · rw [upd_ne (ne_of_none e hD)]
        exact s3 _ _ (sAB _ _ e)
    | false =>
      rw [if_neg (by rw [c]; exact Bool.false_ne_true), List.append_nil] at sn
      refine iteF ⟨?_, sAB.trans s3⟩
      rw [sn]
      exact dC
  · rintro HA ⟨dA, sA⟩
    rw [al, List.take_length] at dA
    exact q HA D sA hD dA
abbrev s_bare_in : Stmt := topS 33
abbrev N_bare_in : List Str := ["house", "expression", "at", "one"]
theorem sc_bare_in : FnScope N_bare_in ["house", "expression"] (defScope s_bare_in) := ⟨rfl, rfl, rfl, by decide +kernel, rfl, by decide +kernel, by decide +kernel⟩
-- slots: house=0 expression=1 at=2 one=3
def spBareIn (CH CO : Addr) : Sp := fun vs H Q _ => ∃ (hp p : Addr) (A : List An) (h : Sq15.House) (cv : V) (B : HA), vs = [.ref hp, .ref p] ∧ HouseAt CH CO [] H hp h cv B ∧ Ok h ∧ ExprAt H p A ∧ (∀ t ∈ A, AnOk h t) ∧ A.length ≤ 1000 ∧ ∀ H' r, Same H H' → H r = none → H' r = some (.lst (vn (idx (bareB h) 0 A))) → Q (.ref r) H'
theorem ok_bare_in (T : Txt K mg CH CO CC) (D : DefAt K mg "bare_in" s_bare_in ["house", "expression"]) (D_is_barred : DefW P w K mg base 3 "is_barred" ["house", "one"] (spIsBarred CH CO)) : DefW P w K mg base 4 "bare_in" ["house", "expression"] (spBareIn CH CO) := by
  refine D.ok sc_bare_in (fun vs H Q E h => ?_) (fun f cdv A outer s H vs Q E hr h => ?_)
  · obtain ⟨hp, p, A, h, cv, B, rfl, _⟩ := h
    rfl
  obtain ⟨hp, p, A', h, cv, B, rfl, ha, K1, ⟨as, hp1, hp2⟩, hok, hl, q⟩ := h
  refine ⟨_, (pss_one (ps_ret (pe_lc (own := [("at", 2), ("one", 3)]) rfl sc_bare_in.nd (pi_enum (by rfl) T.n_enumerate (pa_cons (pv 1) pa_nil)) (blkOk_by (own := [("at", 2), ("one", 3)]) (N := N_bare_in) (sc := defScope s_bare_in) (by decide +kernel)) (fun _ _ _ _ _ => by exact (pg_tupK (K := K) (n := 2) rfl rfl (pgs_cons (pg_name (i := 2) sc_bare_in.nd rfl (Or.inl rfl)) (pgs_cons (pg_name (i := 3) sc_bare_in.nd rfl (Or.inl rfl)) pgs_nil)))) (fun _ _ _ _ _ => by exact (pts_one (PW.pt (pw_and (pt_cmpR op_ne (pe_ix (ix_tupK (K := K) rfl) (pv 3) pe_int (fun _ _ => rfl)) (pe_gi T.g_NO_OWNER) (nomark _)) (pw_and1 (pt_not (pt_val (pe_d D_is_barred hr (pa_cons (pv 0) (pa_cons (pv 3) pa_nil)))))))))) (fun _ _ _ _ _ => by exact (pv 2))))), ?_⟩
  have al : (as.map V.ref).length = A'.length := by rw [List.length_map, hp2.len, List.length_map]
  refine ⟨_, rfl, p, _, rfl, SqL.of hp1, fun D hD => ?_⟩
  refine lc_it (walk_enum (K := K) (a := p) (xs := as.map V.ref)) (fun i H' => H' D = some (.lst (vn (idx (bareB h) 0 (A'.take i)))) ∧ Same H H') ⟨upd_same, (Kp.new hD).same⟩ (fun i H' _ ⟨_, s1⟩ => SqL.of (s1 _ _ hp1)) ?_ ?_
  · rintro i y HA HB hi ⟨dA, sA⟩ ⟨T1, x1, y1, rfl, hT1, rfl, ex, ey⟩
    cases ex
    rw [al] at hi
    have ht : A'[i]? = some A'[i] := List.getElem?_eq_getElem hi
    have htm : A'[i] ∈ A' := List.getElem_mem hi
    generalize A'[i] = t at ht htm
    obtain ⟨ta, t1, t2, t3⟩ := hp2.at (i := i) (t := an3 t) (by rw [List.getElem?_map, ht]; rfl)
    have ey2 : (as.map V.ref)[i]? = some y1 := ey
    rw [t1] at ey2
    cases ey2
    have sB : Same HA (upd HA T1 (.tup [.int i, .ref ta])) := (Kp.new hT1).same
    have dB := sB _ _ dA
    refine ⟨T1, _, rfl, SqT.of upd_same, rfl, _, _, rfl, _, _, rfl, rfl, rfl, ?_⟩
    generalize upd HA T1 (.tup [.int i, .ref ta]) = HB at *
    have sAB := sA.trans sB
    have tk : A'.take (i + 1) = A'.take i ++ [t] := by rw [List.take_add_one, ht]; rfl
    have sn := idx_snoc (p := bareB h) 0 (A'.take i) t
    rw [← tk, List.length_take, Nat.min_eq_left (Nat.le_of_lt hi), Nat.zero_add] at sn
    have tB := sAB _ _ t3
    refine ⟨_, rfl, ta, _, _, _, rfl, rfl, SqT.of tB, atI_nat (j := 1) rfl, rfl, _, rfl, ?_⟩
    by_cases c0 : t.2.1 = -1
    · rw [decide_eq_true (show V.int t.2.1 = V.int (-1) from congrArg V.int c0)]
      have cf : bareB h t = false := by
        unfold bareB
        rw [decide_eq_false (fun z => z c0)]
        rfl
      rw [if_neg (by rw [cf]; exact Bool.false_ne_true), List.append_nil] at sn
      refine iteF (iteF ⟨?_, sAB⟩)
      rw [sn]
      exact dB
    rw [decide_eq_false (show ¬ V.int t.2.1 = V.int (-1) from fun z => c0 (V.int.inj z))]
    refine iteT ?_
    refine ⟨_, rfl, _, rfl, hp, ta, t, h, cv, B, [], rfl, ha.keep (Same.kp sAB), K1, tB, hok t htm, fun HC s3 => ⟨_, rfl, ?_⟩⟩
    have dC := s3 _ _ dB
    have cb : bareB h t = !barB h t := by
      unfold bareB
      rw [decide_eq_true c0]
      rfl
    cases d : barB h t with
    | false =>
      have c : bareB h t = true := by rw [cb, d]; rfl
      rw [if_pos c] at sn
      refine iteT ⟨_, rfl, _, dC, ?_, ?_, fun b u e => ?_⟩
      · have := idx_len (p := bareB h) 0 (A'.take i)
        rw [List.length_take] at this
        rw [vn_len]
        exact small_lt (by omega)
      · rw [upd_same, sn, vn_append]
        rfl
      · rw [upd_ne (ne_of_none e hD)]
        exact s3 _ _ (sAB _ _ e)
    | true =>
      have c : bareB h t = false := by rw [cb, d]; rfl
      rw [if_neg (by rw [c]; exact Bool.false_ne_true), List.append_nil] at sn
      refine iteF ⟨?_, sAB.trans s3⟩
      rw [sn]
      exact dC
  · rintro HA ⟨dA, sA⟩
    rw [al, List.take_length] at dA
    exact q HA D sA hD dA
end
end Wo
end
section
set_option Elab.async false
set_option linter.all false
set_option maxRecDepth 100000
set_option maxHeartbeats 4000000
namespace Wo
open PySem PySem.Spec PyProof.Rows L2
def wk2 (t : Int × Nat) : List V := [.int t.1, .int (t.2 : Int)]
theorem TupsAt.unsnoc {H : Hp} {as : List Addr} {ts : List (List V)} {t : List V} (x : TupsAt H as (ts ++ [t])) : ∃ bs a, as = bs ++ [a] ∧ TupsAt H bs ts ∧ H a = some (.tup t) := by
  have l := x.len
  rw [List.length_append, List.length_singleton] at l
  have ne : as ≠ [] := by
    intro z
    rw [z] at l
    simp at l
  have e : as = as.dropLast ++ [as.getLast ne] := (List.dropLast_concat_getLast ne).symm
  generalize as.dropLast = bs at e
  generalize as.getLast ne = a at e
  subst e
  rw [List.length_append, List.length_singleton] at l
  refine ⟨bs, a, rfl, ⟨by omega, fun i b u h1 h2 => ?_⟩, ?_⟩
  · obtain ⟨l1, _⟩ := List.getElem?_eq_some_iff.mp h1
    obtain ⟨l2, _⟩ := List.getElem?_eq_some_iff.mp h2
    exact x.tup i b u (by rw [List.getElem?_append_left l1]; exact h1) (by rw [List.getElem?_append_left l2]; exact h2)
  · refine x.tup bs.length a t (by simp) ?_
    rw [List.getElem?_append_right (by omega), show bs.length - ts.length = 0 by omega]
    rfl
theorem TupsAt.nil {H : Hp} : TupsAt H [] [] := ⟨rfl, fun i a t h _ => by simp at h⟩
theorem vn_item {l : List Nat} {i : Nat} {y : V} (hy : (vn l)[i]? = some y) : ∃ x, l[i]? = some x ∧ y = V.int (x : Int) := by
  unfold vn at hy
  rw [List.getElem?_map] at hy
  cases z : l[i]? with
  | none => rw [z] at hy; cases hy
  | some o => rw [z] at hy; exact ⟨o, rfl, (Option.some.inj hy).symm⟩
theorem in_vn (a : Nat) (l : List Nat) : (if false = true then !inV (V.int (a : Int)) (vn l) else inV (V.int (a : Int)) (vn l)) = l.contains a := in_nats
theorem last_of (xs : List V) (v : V) : (xs ++ [v])[(xs ++ [v]).length - 1]? = some v := by
  rw [List.length_append, List.length_singleton, Nat.add_sub_cancel, List.getElem?_append_right (Nat.le_refl _), Nat.sub_self]
  rfl
/-- while an expression is made out -/
structure PI (H HA : Hp) (fp wp : Addr) (Ad : List An) (W : List (Int × Nat)) : Prop where
  kp : Kp [fp, wp] H HA
  ne : fp ≠ wp
  f : ∃ fa, HA fp = some (.lst (fa.map V.ref)) ∧ TupsAt HA fa (Ad.map an3)
  w : ∃ wa, HA wp = some (.lst (wa.map V.ref)) ∧ TupsAt HA wa (W.reverse.map wk2)
theorem same_of {H HA : Hp} {fp wp : Addr} (k : Kp [fp, wp] H HA) (h1 : H fp = none) (h2 : H wp = none) : Same H HA := fun b o e => k b o e fun z => by
  rcases List.mem_cons.mp z with z | z
  · rw [z, h1] at e
    cases e
  · rw [List.mem_singleton.mp z, h2] at e
    cases e
theorem TupsAt.keep2 {H H' : Hp} {fp wp : Addr} {as : List Addr} {ts : List (List V)} {xs ys : List V} (x : TupsAt H as ts) (k : Kp [fp, wp] H H') (h1 : H fp = some (.lst xs)) (h2 : H wp = some (.lst ys)) : TupsAt H' as ts := x.keep k fun e z t q => by
  rcases List.mem_cons.mp z with z | z
  · rw [z, h1] at q
    cases q
  · rw [List.mem_singleton.mp z, h2] at q
    cases q
section
variable {P : Program} {w : World} {K : PySem.W.Frag} {mg : Str → Option Value} {base : Heap} {CH CO CC : Addr}
abbrev s_expression_of : Stmt := topS 30
abbrev N_expression_of : List Str := ["house", "numbers", "found", "wanted", "number", "whose", "which", "many", "turn"]
theorem sc_expression_of : FnScope N_expression_of ["house", "numbers"] (defScope s_expression_of) := ⟨rfl, rfl, rfl, by decide +kernel, rfl, by decide +kernel, by decide +kernel⟩
-- slots: house=0 numbers=1 found=2 wanted=3 number=4 whose=5 which=6 many=7 turn=8
def spExprOf (CH CO : Addr) : Sp := fun vs H Q _ => ∃ (hp np : Addr) (l : List Nat) (h : Sq15.House) (cv : V) (B : HA), vs = [.ref hp, .ref np] ∧ HouseAt CH CO [] H hp h cv B ∧ Ok h ∧ H np = some (.lst (vn l)) ∧ l.length ≤ 1000 ∧
  ∀ H' p, Same H H' → (match parse h l [(-1, 0)] with
    | some A => ExprAt H' p A
    | none => H' p = some (.lst [])) → Q (.ref p) H'
theorem ok_expression_of (T : Txt K mg CH CO CC) (D : DefAt K mg "expression_of" s_expression_of ["house", "numbers"]) (D_is_operator : DefW P w K mg base 1 "is_operator" ["house", "number"] (spIsOp CH CO)) : DefW P w K mg base 2 "expression_of" ["house", "numbers"] (spExprOf CH CO) := by
  refine D.ok sc_expression_of (fun vs H Q E h => ?_) (fun f cdv A outer s H vs Q E hr h => ?_)
  · obtain ⟨hp, np, l, h, cv, B, rfl, _⟩ := h
    rfl
  obtain ⟨hp, np, l, h, cv, B, rfl, ha, K1, hn, hl, q⟩ := h
  refine ⟨_, (pss_cons (ps_set (i := 2) sc_expression_of.nd rfl (Or.inl rfl) (pe_lst pa_nil))
      (pss_cons (ps_set (i := 3) sc_expression_of.nd rfl (Or.inl rfl) (pe_lst (pa_cons (pe_tup (pa_cons (pe_gi T.g_NO_OWNER) (pa_cons pe_int pa_nil))) pa_nil)))
      (pss_cons (ps_for PassesOwn.never rfl (pi_list (pv 1)) (pg_name (i := 4) sc_expression_of.nd rfl (Or.inr rfl))
      (pss_cons (ps_if (PW.pt (pw_or (pt_cmpR (op_eqNil hr.units0) (pv 3) (pe_lst pa_nil) (nomark _)) (pw_or1 (pt_not (PW.pt (pw_or (pt_val (pe_d D_is_operator hr (pa_cons (pv 0) (pa_cons (pv 4) pa_nil)))) (pw_or1 (pt_cmpR op_in_seq (pv 4) (pe_f T.flH (pv 0)) (by rfl)))))))))
      (pss_one (ps_ret (pe_lst pa_nil)))
      pss_nil)
      (pss_cons (ps_asg (pe_bm0 PySem.F.plainAttrs_list PySem.F.slot_list_pop PySem.F.type_list_pop mt_pop (pv 3)) (pg_tup rfl (pgs_cons (pg_name (i := 5) sc_expression_of.nd rfl (Or.inl rfl)) (pgs_cons (pg_name (i := 6) sc_expression_of.nd rfl (Or.inl rfl)) pgs_nil))))
      (pss_cons (ps_expr (pe_bm PySem.F.plainAttrs_list PySem.F.slot_list_append PySem.F.type_list_append mt_append (pv 2) (pa_cons (pe_tup (pa_cons (pv 4) (pa_cons (pv 5) (pa_cons (pv 6) pa_nil)))) pa_nil)))
      (pss_one (ps_if (pt_val (pe_d D_is_operator hr (pa_cons (pv 0) (pa_cons (pv 4) pa_nil))))
      (pss_cons (ps_set (i := 7) sc_expression_of.nd rfl (Or.inr rfl) (pe_callB call_len_seq (by rfl) T.n_len boot_len (pa_cons (pe_f T.flO (pe_ix ix_list (pe_f T.flH (pv 0)) (pe_op op_sub (pv 4) (pe_gi T.g_OPERATOR)) (fun _ _ => rfl))) pa_nil)))
      (pss_one (ps_expr (pe_bm PySem.F.plainAttrs_list PySem.F.slot_list_extend PySem.F.type_list_extend mt_extend (pv 3) (pa_cons (pe_lc (own := [("turn", 8)]) rfl sc_expression_of.nd (pi_range1 (by rfl) T.n_range (pa_cons (pv 7) pa_nil)) (blkOk_by (own := [("turn", 8)]) (N := N_expression_of) (sc := defScope s_expression_of) (by decide +kernel)) (fun _ _ _ _ _ => by exact (pg_name (i := 8) sc_expression_of.nd rfl (Or.inl rfl))) (fun _ _ _ _ _ => by exact pts_nil) (fun _ _ _ _ _ => by exact (pe_tup (pa_cons (pe_op op_sub (pv 4) (pe_gi T.g_OPERATOR)) (pa_cons (pe_op op_sub (pe_op op_sub (pv 7) pe_int) (pv 8)) pa_nil))))) pa_nil)))))
      pss_nil))))))
      (pss_one (ps_ret (pe_ifExp (pt_cmpR (op_eqNil hr.units0) (pv 3) (pe_lst pa_nil) (nomark _)) (pv 2) (pe_lst pa_nil))))))), ?_⟩
  refine ⟨sz_nil, fun fp hfp => ?_⟩
  have s1 : Same H (upd H fp (.lst [])) := (Kp.new hfp).same
  have f1 : (upd H fp (.lst [])) fp = some (.lst []) := upd_same
  generalize upd H fp (.lst []) = H1 at *
  refine ⟨(by show 2 ≤ sizeLine; decide), fun t0 ht0 => ?_⟩
  have s2 : Same H1 (upd H1 t0 (.tup [.int (-1), .int 0])) := (Kp.new ht0).same
  have t2 : (upd H1 t0 (.tup [.int (-1), .int 0])) t0 = some (.tup [.int (-1), .int 0]) := upd_same
  generalize upd H1 t0 (.tup [.int (-1), .int 0]) = H2 at *
  refine ⟨sz_one _, fun wp hwp => ?_⟩
  have s3 : Same H2 (upd H2 wp (.lst [.ref t0])) := (Kp.new hwp).same
  have w3 : (upd H2 wp (.lst [.ref t0])) wp = some (.lst [.ref t0]) := upd_same
  generalize upd H2 wp (.lst [.ref t0]) = H3 at *
  have sH := (s1.trans s2).trans s3
  have f3 := s3 _ _ (s2 _ _ f1)
  have nfw : fp ≠ wp := ne_of_none (s2 _ _ f1) hwp
  have hwp0 : H wp = none := (s1.trans s2).free hwp
  refine ⟨_, rfl, np, rfl, ⟨_, SqL.of (sH _ _ hn)⟩, ?_⟩
  refine for_list (K := K) (a := np) (xs := vn l) (fun i σ H' => ∃ v4 v5 v6 v7 v8 Ad W, σ = [some (.ref hp), some (.ref np), some (.ref fp), some (.ref wp), v4, v5, v6, v7, v8] ∧ PI H H' fp wp Ad W ∧ parse h l [(-1, 0)] = (parse h (l.drop i) W).map (Ad ++ ·) ∧ Ad.length = i ∧ W.length ≤ 1 + 14 * i)
    ⟨none, none, none, none, none, [], [(-1, 0)], rfl, ⟨Same.kp sH, nfw, ⟨[], f3, TupsAt.nil⟩, ⟨[t0], w3, TupsAt.nil.snoc (s3 _ _ t2)⟩⟩, ?_, rfl, by simp⟩ (fun i σ H' _ ⟨_, _, _, _, _, _, _, _, I, _⟩ => SqL.of ((same_of I.kp hfp hwp0) _ _ hn)) ?_ ?_
  · rw [List.drop_zero]
    cases parse h l [(-1, 0)] <;> rfl
  · rintro i y σ HA hy ⟨v4, v5, v6, v7, v8, Ad, W, rfl, I, pe, hAd, hW⟩
    obtain ⟨n, hn2, rfl⟩ := vn_item hy
    obtain ⟨li, hge⟩ := List.getElem?_eq_some_iff.mp hn2
    have dr : l.drop i = n :: l.drop (i + 1) := by rw [← hge]; exact List.drop_eq_getElem_cons li
    rw [dr] at pe
    obtain ⟨kp, _, ⟨fa, fH, ft⟩, ⟨wa, wH, wt⟩⟩ := I
    have sA := same_of kp hfp hwp0
    have fl := ft.len
    have wl := wt.len
    rw [List.length_map] at fl wl
    rw [List.length_reverse] at wl
    have out : parse h (n :: l.drop (i + 1)) W = none → ∀ H' r, Same HA H' → H' r = some (.lst []) → Q (.ref r) H' := fun z H' r s e => by
      refine q H' r (sA.trans s) ?_
      rw [pe, z]
      exact e
    refine ⟨_, rfl, sz_nil, fun e1 he1 => ?_⟩
    have s4 : Same HA (upd HA e1 (.lst [])) := (Kp.new he1).same
    have e4 : (upd HA e1 (.lst [])) e1 = some (.lst []) := upd_same
    generalize upd HA e1 (.lst []) = HB at *
    refine ⟨wp, e1, _, rfl, rfl, SqL.of (s4 _ _ wH), SqL.of e4, _, rfl, ?_⟩
    cases W with
    | nil =>
      have z : wa = [] := List.eq_nil_of_length_eq_zero wl
      subst z
      refine iteT (iteT ⟨sz_nil, fun r hr => ?_⟩)
      exact out rfl _ r (s4.trans (Kp.new hr).same) upd_same
    | cons wk W' =>
      rw [List.reverse_cons, List.map_append] at wt
      obtain ⟨wb, ta, rfl, wtb, hta⟩ := wt.unsnoc
      rw [List.map_append] at wH
      rw [show (List.map V.ref (wb ++ [ta])).isEmpty = false by simp]
      refine iteF ?_
      -- what it is
      have haB := ha.keep (Same.kp (sA.trans s4))
      refine ⟨_, rfl, _, rfl, hp, n, h, cv, B, [], rfl, haB, _, rfl, ?_⟩
      have dec : isOp h n = true ∨ (isOp h n = false ∧ h.atoms.contains n = true) ∨ (isOp h n = false ∧ h.atoms.contains n = false) := by
        cases isOp h n <;> cases h.atoms.contains n <;> simp
      have one : wb.length < sizeLine := by
        rw [List.length_append, List.length_singleton] at wl
        rw [List.length_cons] at hW wl
        exact small_lt (by omega)
      rw [parse_cons] at pe
      rw [parse_cons] at out
      rcases dec with io | ⟨io, ia⟩ | ⟨io, ia⟩
      case' inr.inr =>
        rw [io]
        refine iteF ⟨_, rfl, _, rfl, hp, _, _, _, rfl, haB.me.1, rfl, _, _, rfl, .inl haB.alone.seq, rfl, flat_nats _, _, rfl, ?_⟩
        rw [in_vn, ia]
        refine iteT ⟨sz_nil, fun r hr => ?_⟩
        exact out (by rw [if_neg (by rw [io]; exact Bool.false_ne_true), if_neg (by rw [ia]; exact Bool.false_ne_true)]) _ r (s4.trans (Kp.new hr).same) upd_same
      case' inl =>
        rw [io]
        refine iteT (iteF ?_)
      case' inr.inl =>
        rw [io]
        refine iteF ⟨_, rfl, _, rfl, hp, _, _, _, rfl, haB.me.1, rfl, _, _, rfl, .inl haB.alone.seq, rfl, flat_nats _, _, rfl, ?_⟩
        rw [in_vn, ia]
        refine iteF ?_
      all_goals
        have wH4 : HB wp = some (.lst (wb.map V.ref ++ [V.ref ta])) := s4 _ _ wH
        refine ⟨_, rfl, .inl ⟨rfl, _, SqL.of wH4⟩, wp, _, _, rfl, rfl, wH4, last_of _ _, ?_⟩
        rw [List.dropLast_concat]
        have k5 : Kp [fp, wp] HB (upd HB wp (.lst (wb.map V.ref))) := Kp.put (by simp)
        have w5 : (upd HB wp (.lst (wb.map V.ref))) wp = some (.lst (wb.map V.ref)) := upd_same
        have f5 : (upd HB wp (.lst (wb.map V.ref))) fp = some (.lst (fa.map V.ref)) := by rw [upd_ne nfw]; exact s4 _ _ fH
        have tup5 := fun a t (e : HB a = some (.tup t)) => k5 a _ e (by
          intro z
          rcases List.mem_cons.mp z with z | z
          · rw [z, s4 _ _ fH] at e
            cases e
          · rw [List.mem_singleton.mp z, wH4] at e
            cases e)
        have ft5 := (ft.same s4).keep2 k5 (s4 _ _ fH) wH4
        have wt5 := (wtb.same s4).keep2 k5 (s4 _ _ fH) wH4
        generalize upd HB wp (.lst (wb.map V.ref)) = HC at *
        refine ⟨ta, _, rfl, SqT.of (tup5 _ _ (s4 _ _ hta)), rfl, _, _, rfl, _, _, rfl, rfl, ?_⟩
        refine ⟨_, rfl, .inl ⟨rfl, _, SqL.of f5⟩, ?_⟩
        refine ⟨_, rfl, _, rfl, _, rfl, (by show 3 ≤ sizeLine; decide), fun t1 ht1 => ?_⟩
        have s6 : Same HC (upd HC t1 (.tup [.int (n : Int), .int wk.1, .int (wk.2 : Int)])) := (Kp.new ht1).same
        have t6 : (upd HC t1 (.tup [.int (n : Int), .int wk.1, .int (wk.2 : Int)])) t1 = some (.tup (an3 (n, wk.1, wk.2))) := upd_same
        have f6 := s6 _ _ f5
        have w6 := s6 _ _ w5
        refine ⟨fp, _, _, rfl, rfl, f6, by rw [List.length_map]; exact small_lt (by omega), ?_⟩
        rw [show fa.map V.ref ++ [V.ref t1] = (fa ++ [t1]).map V.ref by rw [List.map_append]; rfl]
        have ft6 := (ft5.same s6).snoc t6
        have wt6 := wt5.same s6
        generalize upd HC t1 (.tup [.int (n : Int), .int wk.1, .int (wk.2 : Int)]) = HD at *
        have k7 : Kp [fp, wp] HD (upd HD fp (.lst ((fa ++ [t1]).map V.ref))) := Kp.put (by simp)
        have f7 : (upd HD fp (.lst ((fa ++ [t1]).map V.ref))) fp = some (.lst ((fa ++ [t1]).map V.ref)) := upd_same
        have w7 : (upd HD fp (.lst ((fa ++ [t1]).map V.ref))) wp = some (.lst (wb.map V.ref)) := by rw [upd_ne (fun z => nfw z.symm)]; exact w6
        have ft7 := ft6.keep2 k7 f6 w6
        have wt7 := wt6.keep2 k7 f6 w6
        generalize upd HD fp (.lst ((fa ++ [t1]).map V.ref)) = HE at *
        have kE : Kp [fp, wp] H HE := kp.trans ((Same.kp s4).trans (k5.trans ((Same.kp s6).trans k7)))
        have sE := same_of kE hfp hwp0
        have haE := ha.keep (Same.kp sE)
        have hAd2 : (Ad ++ [(n, wk.1, wk.2)]).length = i + 1 := by rw [List.length_append, List.length_singleton, hAd]
        have ft8 : TupsAt HE (fa ++ [t1]) ((Ad ++ [(n, wk.1, wk.2)]).map an3) := by rw [List.map_append]; exact ft7
        rw [List.length_cons] at hW
        refine ⟨_, rfl, _, rfl, hp, n, h, cv, B, [], rfl, haE, _, rfl, ?_⟩
        rw [io]
      · rw [if_neg (by rw [io]; exact Bool.false_ne_true), if_pos ia] at pe
        refine iteF ⟨some (.int (n : Int)), some (.int wk.1), some (.int (wk.2 : Int)), v7, v8, _, W', rfl, ⟨kE, nfw, ⟨_, f7, ft8⟩, ⟨_, w7, wt7⟩⟩, ?_, hAd2, by omega⟩
        rw [pe, Option.map_map]
        congr 1
        funext A
        show Ad ++ ((n, wk.1, wk.2) :: A) = _
        rw [List.append_assoc]
        rfl
      · -- an operator
        rw [if_pos io] at pe
        refine iteT ?_
        have n64 : 64 ≤ n ∧ n < 64 + h.ops.length := by
          unfold isOp at io
          rw [Bool.and_eq_true] at io
          exact ⟨of_decide_eq_true io.1, of_decide_eq_true io.2⟩
        have hx : h.ops[n - 64]? = some h.ops[n - 64] := List.getElem?_eq_getElem (by omega)
        generalize h.ops[n - 64] = x at hx
        have h7 := holes_le (K1.op_at hx).few
        obtain ⟨oa, o0, dxo, pc, sp, o1, o2, o3⟩ := haE.opAt hx
        have lsp : (vn (spotsF 0 x.pieces)).length = x.holes := by rw [vn_len, spotsF_len, pieces_hc (K1.op_at hx).some_]
        have ixe : (n : Int) - 64 = ((n - 64 : Nat) : Int) := by omega
        refine ⟨_, rfl, hp, _, _, _, rfl, haE.me.1, rfl, _, rfl, _, _, rfl, rfl, _, _, _, _, rfl, rfl, haE.ops.seq, by rw [ixe]; exact atI_nat o0, oa, _, _, _, rfl, o1.1, rfl, _, _, rfl, .inl o3.seq, ?_⟩
        rw [holesAt_eq hx] at pe
        refine ⟨_, rfl, .inl ⟨rfl, _, SqL.of w7⟩, _, rfl, _, rfl, by omega, by omega, fun D hD => ?_⟩
        have nt : (((vn (spotsF 0 x.pieces)).length : Nat) : Int).toNat = x.holes := by rw [lsp]; omega
        refine lc_range (lo := 0) (n := (((vn (spotsF 0 x.pieces)).length : Nat) : Int).toNat) (fun j H' => ∃ ds, H' D = some (.lst (ds.map V.ref)) ∧ TupsAt H' ds ((List.range j).map fun t : Nat => [V.int ((n : Int) - 64), V.int ((x.holes : Int) - 1 - (t : Int))]) ∧ Same HE H') ⟨[], upd_same, TupsAt.nil, (Kp.new hD).same⟩ ?_ ?_
        · rintro j H2 hj ⟨ds, d2, dt, s2⟩
          rw [nt] at hj
          refine ⟨rfl, ?_⟩
          refine ⟨_, rfl, _, _, rfl, rfl, _, rfl, _, _, rfl, rfl, _, rfl, _, _, rfl, rfl, (by show 2 ≤ sizeLine; decide), fun t2 ht2 => ?_⟩
          rw [lsp, Int.zero_add]
          have dl := dt.len
          rw [List.length_map, List.length_range] at dl
          have d3 : (upd H2 t2 (.tup [.int ((n : Int) - 64), .int ((x.holes : Int) - 1 - (j : Int))])) D = some (.lst (ds.map V.ref)) := (Kp.new (ex := []) ht2) _ _ d2 (by simp)
          have dt3 := (dt.same (Kp.new ht2).same).snoc (a := t2) (upd_same (H := H2) (o := .tup [.int ((n : Int) - 64), .int ((x.holes : Int) - 1 - (j : Int))]))
          have s3 : Same HE (upd H2 t2 (.tup [.int ((n : Int) - 64), .int ((x.holes : Int) - 1 - (j : Int))])) := s2.trans (Kp.new ht2).same
          generalize upd H2 t2 (.tup [.int ((n : Int) - 64), .int ((x.holes : Int) - 1 - (j : Int))]) = H3 at *
          refine ⟨_, d3, by rw [List.length_map]; exact small_lt (by omega), ds ++ [t2], ?_, ?_, fun b u e => ?_⟩
          · rw [upd_same, List.map_append]
            rfl
          · rw [List.range_succ, List.map_append]
            exact dt3.keep (ex := [D]) (Kp.put (by simp)) fun e z t y => by
              rw [List.mem_singleton.mp z, d3] at y
              cases y
          · rw [upd_ne (ne_of_none e hD)]
            exact s3 _ _ e
        · rintro HF ⟨ds, d2, dt, s8⟩
          rw [nt] at dt
          have dl := dt.len
          rw [List.length_map, List.length_range] at dl
          have w8 := s8 _ _ w7
          have wbl : wb.length ≤ 1 + 14 * i := by
            rw [List.length_append, List.length_singleton] at wl
            rw [List.length_cons] at wl
            omega
          refine ⟨wp, D, _, _, rfl, rfl, w8, d2, by rw [List.length_map, List.length_map]; exact Nat.le_of_lt (small_lt (by omega)), ?_⟩
          rw [← List.map_append]
          have f8 := s8 _ _ f7
          have both := (wt7.same s8).append dt
          have k9 : Kp [fp, wp] HF (upd HF wp (.lst ((wb ++ ds).map V.ref))) := Kp.put (by simp)
          refine ⟨some (.int (n : Int)), some (.int wk.1), some (.int (wk.2 : Int)), _, v8, _, wants (n - 64) x.holes ++ W', rfl, ⟨kE.trans ((Same.kp s8).trans k9), nfw, ⟨_, by rw [upd_ne nfw]; exact f8, (ft8.same s8).keep2 k9 f8 w8⟩, ⟨_, upd_same, ?_⟩⟩, ?_, hAd2, ?_⟩
          · refine TupsAt.keep2 ?_ k9 f8 w8
            rw [List.reverse_append, List.map_append]
            have e1 : (wants (n - 64) x.holes).reverse.map wk2 = (List.range x.holes).map fun t : Nat => [V.int ((n : Int) - 64), V.int ((x.holes : Int) - 1 - (t : Int))] := by
              refine List.ext_getElem (by simp [wants]) fun k h1 h2 => ?_
              simp [wants] at h1
              simp [wants, wk2]
              omega
            rw [e1]
            exact both
          · rw [pe, Option.map_map]
            congr 1
            funext A
            show Ad ++ ((n, wk.1, wk.2) :: A) = _
            rw [List.append_assoc]
            rfl
          · unfold wants
            rw [List.length_append, List.length_map, List.length_range]
            omega
  · rintro σ HA ⟨v4, v5, v6, v7, v8, Ad, W, rfl, I, pe, hAd, hW⟩
    obtain ⟨kp, _, ⟨fa, fH, ft⟩, ⟨wa, wH, wt⟩⟩ := I
    have sA := same_of kp hfp hwp0
    have wl := wt.len
    rw [List.length_map, List.length_reverse] at wl
    rw [vn_len, List.drop_eq_nil_of_le (Nat.le_refl _)] at pe
    refine ⟨_, rfl, sz_nil, fun e1 he1 => ?_⟩
    have s4 : Same HA (upd HA e1 (.lst [])) := (Kp.new he1).same
    have e4 : (upd HA e1 (.lst [])) e1 = some (.lst []) := upd_same
    generalize upd HA e1 (.lst []) = HB at *
    refine ⟨wp, e1, _, rfl, rfl, SqL.of (s4 _ _ wH), SqL.of e4, _, rfl, ?_⟩
    cases W with
    | nil =>
      have z : wa = [] := List.eq_nil_of_length_eq_zero wl
      subst z
      refine iteT ⟨_, rfl, ?_⟩
      refine q _ _ (sA.trans s4) ?_
      rw [pe]
      show ExprAt HB fp (Ad ++ [])
      rw [List.append_nil]
      exact ⟨fa, s4 _ _ fH, ft.same s4⟩
    | cons wk W' =>
      rw [show (List.map V.ref wa).isEmpty = false by cases wa with
        | nil => simp at wl
        | cons _ _ => rfl]
      refine iteF ⟨sz_nil, fun r hr => ?_⟩
      refine q _ r (sA.trans (s4.trans (Kp.new hr).same)) ?_
      rw [pe]
      exact upd_same
end
end Wo
end
section
set_option Elab.async false
set_option linter.all false
set_option maxRecDepth 100000
set_option maxHeartbeats 4000000
namespace Wo
open PySem PySem.Spec PyProof.Rows L2
def il (I : List It) : List V := (I.reverse.map itc).map V.int
theorem il_cons (x : It) (I : List It) : il (x :: I) = il I ++ [V.int (itc x)] := by
  unfold il
  rw [List.reverse_cons, List.map_append, List.map_append]
  rfl
theorem il_append (a b : List It) : il (a ++ b) = il b ++ il a := by
  unfold il
  rw [List.reverse_append, List.map_append, List.map_append]
theorem il_len (I : List It) : (il I).length = I.length := by
  unfold il
  rw [List.length_map, List.length_map, List.length_reverse]
theorem its_len : ∀ I : List It, I.length ≤ its I
  | [] => Nat.zero_le _
  | x :: I => by
    have := its_len I
    have : 1 ≤ itW x := by
      cases x with
      | w _ => exact Nat.le_refl _
      | t n e => cases e <;> simp [itW, wE] <;> omega
    show I.length + 1 ≤ itW x + its I
    omega
theorem il_rev {I : List It} {xs : List V} (h : (I.map itc).map V.int = xs) : il I = xs.reverse := by
  unfold il
  rw [← h, List.map_reverse, List.map_reverse]
section
variable {P : Program} {w : World} {K : PySem.W.Frag} {mg : Str → Option Value} {base : Heap} {CH CO CC : Addr}
abbrev s_said : Stmt := topS 34
abbrev N_said : List Str := ["house", "expression", "around", "found", "at", "left", "piece", "number", "pieces"]
theorem sc_said : FnScope N_said ["house", "expression", "around"] (defScope s_said) := ⟨rfl, rfl, rfl, by decide +kernel, rfl, by decide +kernel, by decide +kernel⟩
-- slots: house=0 expression=1 around=2 found=3 at=4 left=5 piece=6 number=7 pieces=8
def spSaid (CH CO : Addr) : Sp := fun vs H Q _ => ∃ (hp p ap : Addr) (e : Sq15.Ex) (c : List Nat) (h : Sq15.House) (cv : V) (B : HA), vs = [.ref hp, .ref p, .ref ap] ∧ HouseAt CH CO [] H hp h cv B ∧ Ok h ∧ h.made e = true ∧ Sq15.brackets e = 0 ∧ Sq15.size e ≤ 100 ∧
  ExprAt H p (annE (-1) 0 e) ∧ H ap = some (.lst (vn (barred h e ++ c))) ∧ (∀ x ∈ c, x ∈ idx (bareB h) 0 (annE (-1) 0 e)) ∧ ∀ H' r, Same H H' → H r = none → H' r = some (.lst (vn (h.says (h.dress c 0 e)))) → Q (.ref r) H'
theorem ok_said (T : Txt K mg CH CO CC) (D : DefAt K mg "said" s_said ["house", "expression", "around"]) : DefW P w K mg base 1 "said" ["house", "expression", "around"] (spSaid CH CO) := by
  refine D.ok sc_said (fun vs H Q E h => ?_) (fun f cdv A outer s H vs Q E hr h => ?_)
  · obtain ⟨hp, p, ap, e, c, h, cv, B, rfl, _⟩ := h
    rfl
  obtain ⟨hp, p, ap, e0, c, h, cv, B, rfl, ha, K1, hm, hb, hsz, ⟨as, hp1, hp2⟩, hap, hc, q⟩ := h
  refine ⟨_, (pss_cons (ps_set (i := 3) sc_said.nd rfl (Or.inl rfl) (pe_lst pa_nil))
      (pss_cons (ps_set (i := 4) sc_said.nd rfl (Or.inl rfl) pe_int)
      (pss_cons (ps_set (i := 5) sc_said.nd rfl (Or.inl rfl) (pe_lst (pa_cons (pe_gi T.g_THING) pa_nil)))
      (pss_cons (ps_while PassesOwn.never (pt_cmpR (op_neNil hr.units) (pv 5) (pe_lst pa_nil) (nomark _))
      (pss_cons (ps_set (i := 6) sc_said.nd rfl (Or.inl rfl) (pe_bm0 PySem.F.plainAttrs_list PySem.F.slot_list_pop PySem.F.type_list_pop mt_pop (pv 5)))
      (pss_one (ps_if (pt_cmpR op_ne (pv 6) (pe_gi T.g_THING) (nomark _))
      (pss_one (ps_expr (pe_bm PySem.F.plainAttrs_list PySem.F.slot_list_append PySem.F.type_list_append mt_append (pv 3) (pa_cons (pv 6) pa_nil))))
      (pss_cons (ps_set (i := 7) sc_said.nd rfl (Or.inl rfl) (pe_ix ix_tup (pe_ix ix_list (pv 1) (pv 4) (fun _ _ => rfl)) pe_int (fun _ _ => rfl)))
      (pss_cons (ps_if (pt_cmpR op_in_seq (pv 4) (pv 2) (by rfl))
      (pss_cons (ps_expr (pe_bm PySem.F.plainAttrs_list PySem.F.slot_list_append PySem.F.type_list_append mt_append (pv 3) (pa_cons (pe_gi T.g_OPEN) pa_nil)))
      (pss_one (ps_expr (pe_bm PySem.F.plainAttrs_list PySem.F.slot_list_append PySem.F.type_list_append mt_append (pv 5) (pa_cons (pe_gi T.g_SHUT) pa_nil)))))
      pss_nil)
      (pss_cons (ps_set (i := 8) sc_said.nd rfl (Or.inl rfl) (pe_ifExp (pt_cmpR op_ge (pv 7) (pe_gi T.g_OPERATOR) (nomark _)) (pe_f T.flO (pe_ix ix_list (pe_f T.flH (pv 0)) (pe_op op_sub (pv 7) (pe_gi T.g_OPERATOR)) (fun _ _ => rfl))) (pe_lst (pa_cons (pv 7) pa_nil))))
      (pss_cons (ps_expr (pe_bm PySem.F.plainAttrs_list PySem.F.slot_list_extend PySem.F.type_list_extend mt_extend (pv 5) (pa_cons (pe_revL (pv 8)) pa_nil)))
      (pss_one (ps_set (i := 4) sc_said.nd rfl (Or.inl rfl) (pe_op op_add (pv 4) pe_int)))))))))))
      (pss_one (ps_ret (pv 3))))))), ?_⟩
  obtain ⟨i1, i2⟩ := say_start K1 hm hb hc
  have ar := ann_row e0 (-1) 0 hb
  have al := ann_len e0 (-1) 0
  have sl := says_len K1 c e0 0 hm hb
  have w9 := wE_size e0 hb
  generalize hW : h.says (h.dress c 0 e0) = words at *
  generalize annE (-1) 0 e0 = An0 at *
  generalize hin : inAround (barred h e0 ++ c) = inA at *
  have hin2 : ∀ n, inA n = (barred h e0 ++ c).contains n := fun n => by rw [← hin]; rfl
  generalize barred h e0 ++ c = ard at *
  refine ⟨sz_nil, fun fp hfp => ?_⟩
  have s1 : Same H (upd H fp (.lst [])) := (Kp.new hfp).same
  have f1 : (upd H fp (.lst [])) fp = some (.lst []) := upd_same
  generalize upd H fp (.lst []) = H1 at *
  refine ⟨sz_one _, fun lp hlp => ?_⟩
  have s2 : Same H1 (upd H1 lp (.lst [.int (-1)])) := (Kp.new hlp).same
  have l2 : (upd H1 lp (.lst [.int (-1)])) lp = some (.lst (il [.t 0 e0])) := upd_same
  generalize upd H1 lp (.lst [.int (-1)]) = H2 at *
  have nfl : fp ≠ lp := ne_of_none f1 hlp
  have hlp0 := s1.free hlp
  refine ⟨fun m σ H' => ∃ (at_ : Nat) (v6 v7 v8 : Option V) (I : List It) (Od : List Nat), m = its I ∧ σ = [some (.ref hp), some (.ref p), some (.ref ap), some (.ref fp), some (.int at_), some (.ref lp), v6, v7, v8] ∧ Kp [fp, lp] H H' ∧ H' fp = some (.lst (vn Od)) ∧ H' lp = some (.lst (il I)) ∧ okI h c inA (Sq15.row e0) at_ I ∧ Od ++ I.flatMap (outI h c inA) = words ∧ its I ≤ 900 ∧ at_ ≤ 100,
    ⟨_, 0, none, none, none, _, [], rfl, rfl, Same.kp (s1.trans s2), s2 _ _ f1, l2, i1, i2, ?_, by omega⟩, ?_⟩
  · show wE e0 + 0 ≤ 900
    omega
  rintro m σ HA ⟨at_, v6, v7, v8, I, Od, rfl, rfl, kA, fA, lA, oA, eA, mA, aA⟩
  refine ⟨_, rfl, sz_nil, fun e1 he1 => ?_⟩
  have s4 : Same HA (upd HA e1 (.lst [])) := (Kp.new he1).same
  have e4 : (upd HA e1 (.lst [])) e1 = some (.lst []) := upd_same
  generalize upd HA e1 (.lst []) = HB at *
  refine ⟨lp, e1, I.reverse.map itc, rfl, rfl, SqL.of (s4 _ _ lA), SqL.of e4, _, rfl, ?_⟩
  have kB := kA.trans (Same.kp s4)
  have sB := same_of kB hfp hlp0
  have lB := s4 _ _ lA
  have fB := s4 _ _ fA
  have odl : Od.length ≤ 900 := by
    have := congrArg List.length eA
    rw [List.length_append] at this
    omega
  cases I with
  | nil =>
    refine iteF ⟨_, rfl, ?_⟩
    rw [List.flatMap_nil, List.append_nil] at eA
    subst eA
    exact q HB fp sB hfp fB
  | cons x I =>
    rw [show (List.map itc (x :: I).reverse).isEmpty = false by simp]
    refine iteT ⟨fun σ' H' => ∃ m', m' < its (x :: I) ∧ ∃ (at_ : Nat) (v6 v7 v8 : Option V) (I : List It) (Od : List Nat), m' = its I ∧ σ' = [some (.ref hp), some (.ref p), some (.ref ap), some (.ref fp), some (.int at_), some (.ref lp), v6, v7, v8] ∧ Kp [fp, lp] H H' ∧ H' fp = some (.lst (vn Od)) ∧ H' lp = some (.lst (il I)) ∧ okI h c inA (Sq15.row e0) at_ I ∧ Od ++ I.flatMap (outI h c inA) = words ∧ its I ≤ 900 ∧ at_ ≤ 100, fun _ _ n => n, ?_⟩
    rw [il_cons] at lB
    have li := its_len (x :: I)
    rw [List.length_cons] at li
    refine ⟨_, rfl, .inl ⟨rfl, _, SqL.of lB⟩, lp, _, _, rfl, rfl, lB, last_of _ _, ?_⟩
    rw [List.dropLast_concat]
    have k5 : Kp [fp, lp] H (upd HB lp (.lst (il I))) := kB.trans (Kp.put (by simp))
    have l5 : (upd HB lp (.lst (il I))) lp = some (.lst (il I)) := upd_same
    have f5 : (upd HB lp (.lst (il I))) fp = some (.lst (vn Od)) := by rw [upd_ne nfl]; exact fB
    generalize upd HB lp (.lst (il I)) = HC at *
    have s5 := same_of k5 hfp hlp0
    refine ⟨_, rfl, rfl, _, rfl, ?_⟩
    cases x with
    | w u =>
      have e5 : (!decide (V.int (itc (.w u)) = V.int (-1))) = true := by
        rw [decide_eq_false]
        · rfl
        · intro z
          have : (u : Int) = -1 := V.int.inj z
          omega
      rw [e5]
      refine iteT ⟨_, rfl, .inl ⟨rfl, _, SqL.of f5⟩, _, rfl, fp, _, _, rfl, rfl, f5, by rw [vn_len]; exact small_lt (by omega), ?_⟩
      have le : its I < its (.w u :: I) := by
        show its I < 1 + its I
        omega
      refine ⟨_, le, at_, _, v7, v8, I, Od ++ [u], rfl, rfl, k5.trans (Kp.put (by simp)), ?_, ?_, oA, ?_, by omega, aA⟩
      · rw [upd_same, vn_append]
        rfl
      · rw [upd_ne (fun z => nfl z.symm)]
        exact l5
      · rw [← eA, List.append_assoc]
        rfl
    | t n e =>
      have e5 : (!decide (V.int (itc (.t n e)) = V.int (-1))) = false := by
        rw [decide_eq_true (show V.int (itc (.t n e)) = V.int (-1) from rfl)]
        rfl
      rw [e5]
      refine iteF ?_
      obtain ⟨rfl, m1, b1, ag1, hR, ok1⟩ := oA
      have U := turn_ok K1 m1 b1 ag1 hR ok1
      have hd : ∃ num, (Sq15.row e)[0]? = some num := by
        cases e with
        | atom a => exact ⟨_, rfl⟩
        | op o ks => exact ⟨_, rfl⟩
        | paren e =>
          unfold Sq15.brackets at b1
          omega
      obtain ⟨num, hnum⟩ := hd
      have szp : 0 < Sq15.size e := by
        rw [← row_size e b1]
        exact (List.getElem?_eq_some_iff.mp hnum).1
      have h0 := hR 0 szp
      rw [hnum, ← ar, Nat.add_zero, List.getElem?_map] at h0
      obtain ⟨t, ht, hte⟩ : ∃ t, An0[n]? = some t ∧ t.1 = num := by
        cases z : An0[n]? with
        | none => rw [z] at h0; cases h0
        | some t => rw [z] at h0; exact ⟨t, rfl, Option.some.inj h0⟩
      have nlt : n < 100 := by
        have := (List.getElem?_eq_some_iff.mp ht).1
        omega
      obtain ⟨ta, t1, t2, t3⟩ := hp2.at (i := n) (t := an3 t) (by rw [List.getElem?_map, ht]; rfl)
      refine ⟨_, rfl, _, rfl, p, _, _, _, rfl, rfl, SqL.of (s5 _ _ hp1), atI_nat t1, ta, _, _, _, rfl, rfl, SqT.of (s5 _ _ t3), atI_nat (j := 0) rfl, ?_⟩
      rw [hte]
      refine ⟨_, rfl, _, rfl, ap, _, rfl, .inl (SqL.of (s5 _ _ hap)), rfl, flat_nats _, _, rfl, ?_⟩
      rw [in_vn, ← hin2]
      have Il := il_append (if inA n = true then [It.w 1] else []) I
      have le1 : ((if inA n = true then [It.w 1] else []) ++ I).length ≤ 901 := by
        rw [List.length_append]
        split
        · rw [List.length_singleton]
          omega
        · rw [List.length_nil]
          omega
      have ol1 : (Od ++ if inA n = true then [0] else []).length ≤ 901 := by
        rw [List.length_append]
        split
        · rw [List.length_singleton]
          omega
        · rw [List.length_nil]
          omega
      have eA2 : (Od ++ if inA n = true then [0] else []) ++ (coreI h n e ++ ((if inA n = true then [It.w 1] else []) ++ I)).flatMap (outI h c inA) = words := by
        rw [List.append_assoc, U.out, ← eA]
        rfl
      have ok2 := U.ok
      have less := U.less
      clear U
      cases ia : inA n
      case' true =>
        rw [ia] at Il le1 ol1 eA2 ok2 less
        simp only [if_true] at Il le1 ol1 eA2 ok2 less
        refine iteT ⟨_, rfl, .inl ⟨rfl, _, SqL.of f5⟩, fp, _, _, rfl, rfl, f5, by rw [vn_len]; exact small_lt (by omega), ?_⟩
        rw [show vn Od ++ [V.int 0] = vn (Od ++ [0]) by rw [vn_append]; rfl]
        have k6 : Kp [fp, lp] H (upd HC fp (.lst (vn (Od ++ [0])))) := k5.trans (Kp.put (by simp))
        have f6 : (upd HC fp (.lst (vn (Od ++ [0])))) fp = some (.lst (vn (Od ++ [0]))) := upd_same
        have l6 : (upd HC fp (.lst (vn (Od ++ [0])))) lp = some (.lst (il I)) := by rw [upd_ne (fun z => nfl z.symm)]; exact l5
        generalize upd HC fp (.lst (vn (Od ++ [0]))) = HD at *
        refine ⟨_, rfl, .inl ⟨rfl, _, SqL.of l6⟩, lp, _, _, rfl, rfl, l6, by rw [il_len]; exact small_lt (by omega), ?_⟩
        rw [show il I ++ [V.int 1] = il ([It.w 1] ++ I) by rw [Il]; rfl]
        have k7 : Kp [fp, lp] H (upd HD lp (.lst (il ([It.w 1] ++ I)))) := k6.trans (Kp.put (by simp))
        have l7 : (upd HD lp (.lst (il ([It.w 1] ++ I)))) lp = some (.lst (il ([It.w 1] ++ I))) := upd_same
        have f7 : (upd HD lp (.lst (il ([It.w 1] ++ I)))) fp = some (.lst (vn (Od ++ [0]))) := by rw [upd_ne nfl]; exact f6
        generalize upd HD lp (.lst (il ([It.w 1] ++ I))) = HE at *
        generalize [It.w 1] ++ I = I2 at *
        generalize Od ++ [0] = Od2 at *
      case' false =>
        rw [ia] at Il le1 ol1 eA2 ok2 less
        simp only [Bool.false_eq_true, if_false, List.nil_append, List.append_nil] at Il le1 ol1 eA2 ok2 less
        refine iteF ?_
        have k7 := k5
        have l7 := l5
        have f7 := f5
        generalize HC = HE at *
        generalize I = I2 at *
        generalize Od = Od2 at *
      all_goals
        have s7 := same_of k7 hfp hlp0
        have ha7 := ha.keep (Same.kp s7)
        cases e
        case paren e =>
          unfold Sq15.brackets at b1
          omega
        case' atom a =>
          have en : num = a := (Option.some.inj hnum).symm
          have lo := K1.atom_low (made_atom m1)
          refine ⟨_, rfl, _, _, rfl, rfl, _, rfl, ?_⟩
          rw [decide_eq_false (show ¬ (num : Int) ≥ 64 by omega)]
          refine iteF ⟨_, rfl, sz_one _, fun pc hpc => ?_⟩
          have sF : Same HE (upd HE pc (.lst [.int (num : Int)])) := (Kp.new hpc).same
          have pF : (upd HE pc (.lst [.int (num : Int)])) pc = some (.lst [.int (num : Int)]) := upd_same
          have ev : il (coreI h n (.atom a)) = [V.int (num : Int)].reverse := by rw [en]; rfl
          have pl : [V.int (num : Int)].length ≤ 20 := by simp
          generalize upd HE pc (.lst [.int (num : Int)]) = HF at *
          generalize [V.int (num : Int)] = ps at *
          generalize coreI h n (.atom a) = cr at *
          generalize Sq15.Ex.atom a = ee at *
        case' op o ks =>
          have en : num = 64 + o := (Option.some.inj hnum).symm
          obtain ⟨x, hx, hxl, hxm⟩ := made_op m1
          obtain ⟨oa, o0, dxo, pc, sp, o1, o2, o3⟩ := ha7.opAt hx
          refine ⟨_, rfl, _, _, rfl, rfl, _, rfl, ?_⟩
          rw [decide_eq_true (show (num : Int) ≥ 64 by omega)]
          have ixe : (num : Int) - 64 = (o : Int) := by omega
          refine iteT ⟨_, rfl, hp, _, _, _, rfl, ha7.me.1, rfl, _, rfl, _, _, rfl, rfl, _, _, _, _, rfl, rfl, ha7.ops.seq, by rw [ixe]; exact atI_nat o0, oa, _, _, _, rfl, o1.1, rfl, ?_⟩
          have sF := Same.refl HE
          have pF := o2.1
          have ev : il (coreI h n (.op o ks)) = (pzs x.pieces).reverse := by
            refine il_rev ?_
            show ((weaveI (h.pieces o) (n + 1) ks).map itc).map V.int = _
            rw [weaveI_code, pieces_of hx, List.map_map]
            rfl
          have pl : (pzs x.pieces).length ≤ 20 := by
            rw [pzs_len]
            have := pieces_len (K1.op_at hx).few
            omega
          generalize pzs x.pieces = ps at *
          generalize coreI h n (.op o ks) = cr at *
          generalize Sq15.Ex.op o ks = ee at *
          clear o1 o2 o3
          obtain ⟨HF, hHF⟩ : ∃ HF, HF = HE := ⟨_, rfl⟩
          have l7' := l7
          have f7' := f7
          rw [← hHF] at pF ⊢
          have sF : Same HE HF := by rw [hHF]; exact Same.refl HE
        all_goals
          have lF := sF _ _ l7
          have fF := sF _ _ f7
          refine ⟨_, rfl, .inl ⟨rfl, _, SqL.of lF⟩, _, rfl, pc, _, rfl, SqL.of pF, fun rv hrv => ?_⟩
          have sG : Same HF (upd HF rv (.lst ps.reverse)) := (Kp.new hrv).same
          have rG : (upd HF rv (.lst ps.reverse)) rv = some (.lst ps.reverse) := upd_same
          generalize upd HF rv (.lst ps.reverse) = HG at *
          have lG := sG _ _ lF
          have fG := sG _ _ fF
          refine ⟨lp, rv, _, _, rfl, rfl, lG, rG, by rw [il_len, List.length_reverse]; exact Nat.le_of_lt (small_lt (by omega)), ?_⟩
          refine ⟨_, rfl, _, _, rfl, rfl, ?_⟩
          refine ⟨_, less, n + 1, _, _, _, _, Od2, rfl, rfl, k7.trans ((Same.kp sF).trans ((Same.kp sG).trans (Kp.put (by simp)))), ?_, ?_, ok2, eA2, ?_, by omega⟩
          · rw [upd_ne nfl]
            exact fG
          · rw [upd_same, il_append, ev]
          · exact Nat.le_of_lt (Nat.lt_of_lt_of_le less mA)
end
end Wo
end
section
set_option Elab.async false
set_option linter.all false
set_option maxRecDepth 100000
set_option maxHeartbeats 4000000
namespace Wo
open PySem PySem.Spec PyProof.Rows L2
/-- lists at some places -/
structure ListsAt (ex : List Addr) (H : Hp) (as : List Addr) (ls : List (List Nat)) : Prop where
  len : as.length = ls.length
  row : ∀ (i : Nat) (a : Addr) (s : List Nat), as[i]? = some a → ls[i]? = some s → At ex H a (.lst (vn s))
theorem ListsAt.keep {ex : List Addr} {H H' : Hp} {as : List Addr} {ls : List (List Nat)} (x : ListsAt ex H as ls) (k : Kp ex H H') : ListsAt ex H' as ls := ⟨x.len, fun i a s h1 h2 => (x.row i a s h1 h2).keep k⟩
theorem ListsAt.re {ex ey : List Addr} {H : Hp} {as : List Addr} {ls : List (List Nat)} (x : ListsAt ex H as ls) (sub : ∀ b ∈ ey, b ∈ ex) : ListsAt ey H as ls := ⟨x.len, fun i a s h1 h2 => (x.row i a s h1 h2).re sub⟩
theorem ListsAt.nil {ex : List Addr} {H : Hp} : ListsAt ex H [] [] := ⟨rfl, fun i a s h _ => by simp at h⟩
theorem ListsAt.append {ex : List Addr} {H : Hp} {as bs : List Addr} {ls ms : List (List Nat)} (x : ListsAt ex H as ls) (y : ListsAt ex H bs ms) : ListsAt ex H (as ++ bs) (ls ++ ms) := by
  have l := x.len
  have l2 := y.len
  refine ⟨by rw [List.length_append, List.length_append]; omega, fun i b u h1 h2 => ?_⟩
  by_cases c : i < as.length
  · rw [List.getElem?_append_left c] at h1
    rw [List.getElem?_append_left (by omega)] at h2
    exact x.row i b u h1 h2
  · rw [List.getElem?_append_right (by omega)] at h1
    rw [List.getElem?_append_right (by omega), ← l] at h2
    exact y.row _ b u h1 h2
theorem ListsAt.one {ex : List Addr} {H : Hp} {a : Addr} {s : List Nat} (h : At ex H a (.lst (vn s))) : ListsAt ex H [a] [s] := ⟨rfl, fun i b u h1 h2 => by
  cases i with
  | zero =>
    cases h1
    cases h2
    exact h
  | succ i => simp at h1⟩
theorem ListsAt.at {ex : List Addr} {H : Hp} {as : List Addr} {ls : List (List Nat)} (x : ListsAt ex H as ls) {i : Nat} {y : V} (h : (as.map V.ref)[i]? = some y) : ∃ a s, y = V.ref a ∧ ls[i]? = some s ∧ At ex H a (.lst (vn s)) := by
  rw [List.getElem?_map] at h
  cases e : as[i]? with
  | none => rw [e] at h; cases h
  | some a =>
    rw [e] at h
    obtain ⟨lt, _⟩ := List.getElem?_eq_some_iff.mp e
    have lt2 : i < ls.length := by rw [← x.len]; exact lt
    have e2 : ls[i]? = some ls[i] := List.getElem?_eq_getElem lt2
    exact ⟨a, ls[i], (Option.some.inj h).symm, e2, x.row i a _ e e2⟩
theorem choices_few : ∀ (k : Nat) (l : List Nat), (Sq15.choices k l).length ≤ 2 ^ l.length
  | 0, [] => by simp [Sq15.choices]
  | 0, x :: l => by
    have : (Sq15.choices 0 (x :: l)).length = 1 := rfl
    rw [this]
    exact Nat.one_le_two_pow
  | k + 1, [] => by simp [Sq15.choices]
  | k + 1, x :: l => by
    have a := choices_few k l
    have b := choices_few (k + 1) l
    have e : Sq15.choices (k + 1) (x :: l) = (Sq15.choices k l).map (fun c => x :: c) ++ Sq15.choices (k + 1) l := rfl
    rw [e, List.length_append, List.length_map, List.length_cons, Nat.pow_succ]
    omega
theorem lastD_get : ∀ (a : Nat) (s : List Nat), (a :: s)[s.length]? = some (lastD a s)
  | _, [] => rfl
  | a, b :: s => by
    show (b :: s)[s.length]? = _
    exact lastD_get b s
theorem more1_len (l s : List Nat) : (more1 l s).length ≤ l.length := by
  unfold more1
  rw [List.length_map]
  exact List.length_filter_le ..
theorem more_few (l : List Nat) : ∀ ls : List (List Nat), (ls.flatMap (more1 l)).length ≤ ls.length * l.length
  | [] => by simp
  | s :: ls => by
    have := more_few l ls
    have := more1_len l s
    rw [List.flatMap_cons, List.length_append, List.length_cons, Nat.succ_mul]
    omega
theorem take_succ' {α : Type} {l : List α} {i : Nat} {x : α} (h : l[i]? = some x) : l.take (i + 1) = l.take i ++ [x] := by
  rw [List.take_add_one, h]
  rfl
section
variable {P : Program} {w : World} {K : PySem.W.Frag} {mg : Str → Option Value} {base : Heap} {CH CO CC : Addr}
abbrev s_choices : Stmt := topS 35
abbrev N_choices : List Str := ["places", "many", "found", "turn", "more", "some", "place"]
theorem sc_choices : FnScope N_choices ["places", "many"] (defScope s_choices) := ⟨rfl, rfl, rfl, by decide +kernel, rfl, by decide +kernel, by decide +kernel⟩
-- slots: places=0 many=1 found=2 turn=3 more=4 some=5 place=6
def spChoices : Sp := fun vs H Q _ => ∃ (pp : Addr) (m : Nat) (l : List Nat), vs = [.ref pp, .int m] ∧ H pp = some (.lst (vn l)) ∧ l.Pairwise (· < ·) ∧ l.length ≤ 8 ∧ m ≤ 100 ∧
  ∀ H' r as, Same H H' → H' r = some (.lst (as.map V.ref)) → ListsAt [] H' as (Sq15.choices m l) → Q (.ref r) H'
theorem ok_choices (T : Txt K mg CH CO CC) (D : DefAt K mg "choices" s_choices ["places", "many"]) : DefW P w K mg base 1 "choices" ["places", "many"] spChoices := by
  refine D.ok sc_choices (fun vs H Q E h => ?_) (fun f cdv A outer s H vs Q E hr h => ?_)
  · obtain ⟨pp, m, l, rfl, _⟩ := h
    rfl
  obtain ⟨pp, m, l, rfl, hp, hs, hl, hm, q⟩ := h
  refine ⟨_, (pss_cons (ps_set (i := 2) sc_choices.nd rfl (Or.inl rfl) (pe_lst (pa_cons (pe_lst pa_nil) pa_nil)))
      (pss_cons (ps_for PassesOwn.never rfl (pi_range1 (by rfl) T.n_range (pa_cons (pv 1) pa_nil)) (pg_name (i := 3) sc_choices.nd rfl (Or.inl rfl))
      (pss_cons (ps_set (i := 4) sc_choices.nd rfl (Or.inl rfl) (pe_lst pa_nil))
      (pss_cons (ps_for PassesOwn.never rfl (pi_list (pv 2)) (pg_name (i := 5) sc_choices.nd rfl (Or.inr rfl))
      (pss_one (ps_expr (pe_bm PySem.F.plainAttrs_list PySem.F.slot_list_extend PySem.F.type_list_extend mt_extend (pv 4) (pa_cons (pe_lc (own := [("place", 6)]) rfl sc_choices.nd (pi_list (pv 0)) (blkOk_by (own := [("place", 6)]) (N := N_choices) (sc := defScope s_choices) (by decide +kernel)) (fun _ _ _ _ _ => by exact (pg_name (i := 6) sc_choices.nd rfl (Or.inl rfl))) (fun _ _ _ _ _ => by exact (pts_one (PW.pt (pw_or (pt_cmpR (op_eqNilK (K := K) rfl hr.units0) (pv 5) (pe_lst pa_nil) (nomark _)) (pw_or1 (pt_cmpR op_gt (pv 6) (pe_ix (ix_listK (K := K) rfl) (pv 5) (pe_un un_neg pe_int) (fun _ _ => rfl)) (nomark _))))))) (fun _ _ _ _ _ => by exact (pe_op op_cat (pv 5) (pe_lst (pa_cons (pv 6) pa_nil))))) pa_nil)))))
      (pss_one (ps_set (i := 2) sc_choices.nd rfl (Or.inl rfl) (pv 4))))))
      (pss_one (ps_ret (pv 2))))), ?_⟩
  refine ⟨sz_nil, fun e0 he0 => ?_⟩
  have s1 : Same H (upd H e0 (.lst [])) := (Kp.new he0).same
  have f1 : (upd H e0 (.lst [])) e0 = some (.lst (vn [])) := upd_same
  generalize upd H e0 (.lst []) = H1 at *
  refine ⟨sz_one _, fun fr hfr => ?_⟩
  have s2 : Same H1 (upd H1 fr (.lst [.ref e0])) := (Kp.new hfr).same
  have f2 : (upd H1 fr (.lst [.ref e0])) fr = some (.lst ([e0].map V.ref)) := upd_same
  generalize upd H1 fr (.lst [.ref e0]) = H2 at *
  have p8 : (2 : Nat) ^ l.length ≤ 256 := Nat.pow_le_pow_right (by decide) hl
  refine ⟨_, rfl, _, rfl, by omega, by omega, ?_⟩
  refine for_range (lo := 0) (n := ((m : Nat) : Int).toNat) (fun i σ H' => ∃ fr fs v3 v4 v5 v6, σ = [some (.ref pp), some (.int m), some (.ref fr), v3, v4, v5, v6] ∧ Same H H' ∧ H' fr = some (.lst (fs.map V.ref)) ∧ ListsAt [] H' fs (Sq15.choices i l))
    ⟨fr, [e0], none, none, none, none, rfl, s1.trans s2, f2, (show ListsAt [] H2 [e0] (Sq15.choices 0 l) by rw [show Sq15.choices 0 l = [[]] by cases l <;> rfl]; exact ListsAt.one ⟨s2 _ _ f1, by simp⟩)⟩ ?_ ?_
  · rintro i σ HA hi ⟨fr, fs, v3, v4, v5, v6, rfl, sA, fA, lA⟩
    have cf := choices_few i l
    refine ⟨sz_nil, fun mr hmr => ?_⟩
    have s4 : Same HA (upd HA mr (.lst [])) := (Kp.new hmr).same
    have m4 : (upd HA mr (.lst [])) mr = some (.lst []) := upd_same
    generalize upd HA mr (.lst []) = HB at *
    have mst : ∀ {H' : Hp}, Kp [mr] HA H' → Same HA H' := fun k b o e => k b o e fun z => by
      rw [List.mem_singleton.mp z, hmr] at e
      cases e
    refine ⟨_, rfl, fr, rfl, ⟨_, SqL.of (s4 _ _ fA)⟩, ?_⟩
    refine for_list (K := K) (a := fr) (xs := fs.map V.ref) (fun j σ H' => ∃ v5 v6 ms, σ = [some (.ref pp), some (.int m), some (.ref fr), some (.int (0 + (i : Int))), some (.ref mr), v5, v6] ∧ Kp [mr] HA H' ∧ H' mr = some (.lst (ms.map V.ref)) ∧ ListsAt [mr] H' ms (((Sq15.choices i l).take j).flatMap (more1 l)))
      ⟨v5, v6, [], rfl, Same.kp s4, m4, ListsAt.nil⟩ (fun j σ H' _ ⟨_, _, _, _, k, _⟩ => SqL.of (mst k _ _ fA)) ?_ ?_
    · rintro j y σ HC hy ⟨w5, w6, ms, rfl, kC, mC, lC⟩
      obtain ⟨sa, s, rfl, hs2, hsa⟩ := lA.at hy
      have sC := mst kC
      have ml := lC.len
      have mf := more_few l ((Sq15.choices i l).take j)
      have tl : ((Sq15.choices i l).take j).length ≤ 256 := by
        rw [List.length_take]
        omega
      have mf2 : ms.length ≤ 256 * 8 := by
        rw [ml]
        exact Nat.le_trans mf (Nat.mul_le_mul tl hl)
      obtain ⟨sl, _⟩ := choices_ok i l s (List.mem_of_getElem? hs2)
      refine ⟨_, rfl, .inl ⟨rfl, _, SqL.of mC⟩, _, rfl, pp, rfl, ⟨_, SqL.of (sC _ _ (sA _ _ hp))⟩, fun D hD => ?_⟩
      have nDm : D ≠ mr := fun z => by
        rw [z, mC] at hD
        cases hD
      refine lc_list (K := K) (a := pp) (xs := vn l) (fun k H' => ∃ ds, H' D = some (.lst (ds.map V.ref)) ∧ ListsAt [D, mr] H' ds (((l.take k).filter fun p => s.isEmpty || decide (lastD 0 s < p)).map fun p => s ++ [p]) ∧ Same HC H') ⟨[], upd_same, ListsAt.nil, (Kp.new hD).same⟩ (fun k H' _ ⟨_, _, _, s5⟩ => SqL.of (s5 _ _ (sC _ _ (sA _ _ hp)))) ?_ ?_
      · rintro k y H2 hy2 ⟨ds, d2, lD, s5⟩
        obtain ⟨p, hp2, rfl⟩ := vn_item hy2
        have dl := lD.len
        rw [List.length_map] at dl
        have dl2 : ds.length ≤ 8 := by
          rw [dl]
          refine Nat.le_trans (List.length_filter_le ..) ?_
          rw [List.length_take]
          omega
        have sa2 := s5 _ _ (sC _ _ hsa.1)
        have m2 := s5 _ _ mC
        have tk : ((l.take (k + 1)).filter fun p => s.isEmpty || decide (lastD 0 s < p)).map (fun p => s ++ [p]) = (((l.take k).filter fun p => s.isEmpty || decide (lastD 0 s < p)).map fun p => s ++ [p]) ++ (if (s.isEmpty || decide (lastD 0 s < p)) = true then [s ++ [p]] else []) := by
          rw [take_succ' hp2, List.filter_append, List.map_append]
          congr 1
          rw [List.filter_cons]
          split <;> rfl
        have fin : ∀ H4 l1, Same H2 H4 → H2 l1 = none → H4 l1 = some (.lst (vn (s ++ [p]))) → (s.isEmpty || decide (lastD 0 s < p)) = true → ∃ acc, H4 D = some (.lst acc) ∧ acc.length < sizeLine ∧ (∃ ds, (upd H4 D (.lst (acc ++ [V.ref l1]))) D = some (.lst (ds.map V.ref)) ∧ ListsAt [D, mr] (upd H4 D (.lst (acc ++ [V.ref l1]))) ds (((l.take (k + 1)).filter fun p => s.isEmpty || decide (lastD 0 s < p)).map fun p => s ++ [p]) ∧ Same HC (upd H4 D (.lst (acc ++ [V.ref l1])))) := fun H4 l1 s6 hl1 v1 c => by
          refine ⟨_, s6 _ _ d2, by rw [List.length_map]; exact small_lt (by omega), ds ++ [l1], ?_, ?_, fun b u e => ?_⟩
          · rw [upd_same, List.map_append]
            rfl
          · rw [tk, if_pos c]
            have n1 : l1 ∉ [D, mr] := fun z => by
              rcases List.mem_cons.mp z with z | z
              · rw [z, d2] at hl1
                cases hl1
              · rw [List.mem_singleton.mp z, m2] at hl1
                cases hl1
            exact ((lD.keep (Same.kp s6)).append (ListsAt.one ⟨v1, n1⟩)).keep (Kp.put (by simp))
          · rw [upd_ne (ne_of_none e hD)]
            exact s6 _ _ (s5 _ _ e)
        have elt : ∀ H3 n1, Same H2 H3 → H3 n1 = none → (s.isEmpty || decide (lastD 0 s < p)) = true → ∀ l1, (upd H3 n1 (.lst [V.int (p : Int)])) l1 = none → ∃ acc, (upd (upd H3 n1 (.lst [V.int (p : Int)])) l1 (.lst (vn s ++ [V.int (p : Int)]))) D = some (.lst acc) ∧ acc.length < sizeLine ∧ (∃ ds, (upd (upd (upd H3 n1 (.lst [V.int (p : Int)])) l1 (.lst (vn s ++ [V.int (p : Int)]))) D (.lst (acc ++ [V.ref l1]))) D = some (.lst (ds.map V.ref)) ∧ ListsAt [D, mr] (upd (upd (upd H3 n1 (.lst [V.int (p : Int)])) l1 (.lst (vn s ++ [V.int (p : Int)]))) D (.lst (acc ++ [V.ref l1]))) ds (((l.take (k + 1)).filter fun p => s.isEmpty || decide (lastD 0 s < p)).map fun p => s ++ [p]) ∧ Same HC (upd (upd (upd H3 n1 (.lst [V.int (p : Int)])) l1 (.lst (vn s ++ [V.int (p : Int)]))) D (.lst (acc ++ [V.ref l1])))) := fun H3 n1 s6 hn1 c l1 hl1 => by
          have s7 : Same H2 (upd H3 n1 (.lst [V.int (p : Int)])) := s6.trans (Kp.new hn1).same
          exact fin _ l1 (s7.trans (Kp.new hl1).same) (s7.free hl1) (by rw [upd_same, vn_append]; rfl) c
        refine ⟨rfl, ?_⟩
        refine ⟨_, rfl, sz_nil, fun e1 he1 => ?_⟩
        have s6 : Same H2 (upd H2 e1 (.lst [])) := (Kp.new he1).same
        have e6 : (upd H2 e1 (.lst [])) e1 = some (.lst []) := upd_same
        generalize upd H2 e1 (.lst []) = H3 at *
        have sa3 := s6 _ _ sa2
        refine ⟨sa, e1, _, rfl, rfl, SqL.of sa3, SqL.of e6, _, rfl, ?_⟩
        cases s with
        | nil =>
          refine iteT (iteT ⟨_, rfl, _, rfl, sz_one _, fun n1 hn1 => ?_⟩)
          have nn := ne_of_none sa3 hn1
          refine ⟨sa, n1, _, _, rfl, rfl, (by rw [upd_ne nn]; exact sa3), upd_same, by rw [line_eq, vn_len]; simp, fun l1 hl1 => ?_⟩
          exact elt H3 n1 s6 hn1 rfl l1 hl1
        | cons a s' =>
          have la : atI (vn (a :: s')) (-1) = some (V.int (lastD 0 (a :: s') : Nat)) := by
            unfold atI ixN
            rw [vn_len, if_neg (by omega), if_pos (by rw [List.length_cons]; omega)]
            simp only [Option.bind_some]
            rw [show (-1 + (((a :: s').length : Nat) : Int)).toNat = s'.length by rw [List.length_cons]; omega]
            exact vn_at (lastD_get a s')
          refine iteF ⟨_, rfl, _, rfl, _, rfl, sa, _, _, _, rfl, rfl, SqL.of sa3, la, _, _, rfl, rfl, _, rfl, ?_⟩
          refine ite2 (fun c1 => ?_) (fun c1 => ?_)
          · have c2 : lastD 0 (a :: s') < p := by
              have := of_decide_eq_true c1
              omega
            refine ⟨_, rfl, _, rfl, sz_one _, fun n1 hn1 => ?_⟩
            have nn := ne_of_none sa3 hn1
            refine ⟨sa, n1, _, _, rfl, rfl, (by rw [upd_ne nn]; exact sa3), upd_same, by rw [vn_len]; exact Nat.le_of_lt (small_lt (by simp only [List.length_singleton]; omega)), fun l1 hl1 => ?_⟩
            exact elt H3 n1 s6 hn1 (by rw [decide_eq_true c2, Bool.or_true]) l1 hl1
          · have c2 : ¬ lastD 0 (a :: s') < p := fun z => c1 (decide_eq_true (by omega))
            refine ⟨ds, s6 _ _ d2, ?_, s5.trans s6⟩
            rw [tk, if_neg (by rw [decide_eq_false c2]; exact Bool.false_ne_true), List.append_nil]
            exact lD.keep (Same.kp s6)
      · rintro H2 ⟨ds, d2, lD, s5⟩
        rw [vn_len, List.take_length] at lD
        have m2 := s5 _ _ mC
        have dl := lD.len
        have dl2 : ds.length ≤ 8 := by
          rw [dl, List.length_map]
          exact Nat.le_trans (List.length_filter_le ..) hl
        refine ⟨mr, D, _, _, rfl, rfl, m2, d2, by rw [List.length_map, List.length_map]; exact Nat.le_of_lt (small_lt (by omega)), ?_⟩
        rw [← List.map_append]
        refine ⟨some (V.ref sa), w6, ms ++ ds, rfl, kC.trans ((Same.kp s5).trans (Kp.put (by simp))), upd_same, ?_⟩
        rw [take_succ' hs2, List.flatMap_append]
        have e1 : [s].flatMap (more1 l) = more1 l s := by
          rw [List.flatMap_cons, List.flatMap_nil, List.append_nil]
        rw [e1]
        exact ((lC.keep (Same.kp s5)).append (lD.re (ey := [mr]) (fun _ z => by rw [List.mem_singleton.mp z]; simp))).keep (Kp.put (by simp))
    · rintro σ HC ⟨w5, w6, ms, rfl, kC, mC, lC⟩
      have ll := lA.len
      rw [List.length_map, ll, List.take_length, ← choices_last i l hs] at lC
      exact ⟨_, rfl, mr, ms, _, _, _, _, rfl, sA.trans (mst kC), mC, lC.re (ey := []) (fun _ z => by simp at z)⟩
  · rintro σ HA ⟨fr, fs, v3, v4, v5, v6, rfl, sA, fA, lA⟩
    refine ⟨_, rfl, ?_⟩
    exact q HA fr fs sA fA (by rw [show m = ((m : Nat) : Int).toNat by omega]; exact lA)
end
end Wo
end
section
set_option Elab.async false
set_option linter.all false
set_option maxRecDepth 100000
set_option maxHeartbeats 4000000
namespace Wo
open PySem PySem.Spec PyProof.Rows L2
theorem chart_new {CH CO CC : Addr} {H : Hp} {hp tx : Addr} {g : Sq15.House} {T : List Nat} {cv : V} {B : HA} {x dx : Addr} {Q : VK} {E : XK} (ha : HouseAt CH CO [] H hp g cv B) (K1 : Ok g) (ht : H tx = some (.lst (vn T))) (hl : T.length ≤ 32) (hx : H x = none) (hdx : H dx = none) (ne : dx ≠ x)
    (q : ∀ (H' : Hp) (A : CA), Same H H' → A.hp = hp → H A.wk = none → H A.sk = none → (H A.dp = none ∧ H A.so = none ∧ A.tx = tx) → ChartAt CH CO CC H' x g T A cv B → Memo H' g T A → Q .non H') :
    spChartInit CH CO CC [.ref x, .ref hp, .ref tx] (upd (upd H dx (.own x)) x (.ins CC dx [])) Q E := by
  have s1 : Same H (upd H dx (.own x)) := (Kp.new hdx).same
  have hx1 : (upd H dx (.own x)) x = none := by rw [upd_ne (fun z => ne z.symm)]; exact hx
  have s2 : Same (upd H dx (.own x)) (upd (upd H dx (.own x)) x (.ins CC dx [])) := (Kp.new hx1).same
  have s3 := s1.trans s2
  have x3 : (upd (upd H dx (.own x)) x (.ins CC dx [])) x = some (.ins CC dx []) := upd_same
  generalize upd (upd H dx (.own x)) x (.ins CC dx []) = H1 at *
  refine ⟨x, dx, hp, tx, g, T, cv, B, rfl, x3, ha.keep (Same.kp s3), K1, s3 _ _ ht, hl, fun H' A kp e1 e2 e3 e4 cA mm => ?_⟩
  exact q H' A (fun b o e => kp b o (s3 _ _ e) fun z => by
    rw [List.mem_singleton.mp z, hx] at e
    cases e) e1 (s3.free e2) (s3.free e3) ⟨s3.free e4.1, s3.free e4.2.1, e4.2.2⟩ cA mm
section
variable {P : Program} {w : World} {K : PySem.W.Frag} {mg : Str → Option Value} {base : Heap} {CH CO CC : Addr}
abbrev s_is_sure : Stmt := topS 36
abbrev N_is_sure : List Str := ["house", "words"]
theorem sc_is_sure : FnScope N_is_sure ["house", "words"] (defScope s_is_sure) := ⟨rfl, rfl, rfl, by decide +kernel, rfl, by decide +kernel, by decide +kernel⟩
-- slots: house=0 words=1
def spIsSure (CH CO : Addr) : Sp := fun vs H Q _ => ∃ (hp wp : Addr) (T : List Nat) (h : Sq15.House) (cv : V) (B : HA), vs = [.ref hp, .ref wp] ∧ HouseAt CH CO [] H hp h cv B ∧ Ok h ∧ H wp = some (.lst (vn T)) ∧ T ≠ [] ∧
  ∀ H', Same H H' → Q (.bl (decide (T.length ≤ 32) && decide (cnt h T (List.range h.ops.length) 0 T.length = 1))) H'
theorem ok_is_sure (T : Txt K mg CH CO CC) (D : DefAt K mg "is_sure" s_is_sure ["house", "words"]) (K_Chart : MakW P w K mg base CC 164 "Chart" ["self", "house", "text"] (spChartInit CH CO CC)) (M_many : MetW P w K mg base CC 164 "many" ["self"] (spMany CH CO CC)) : DefW P w K mg base 166 "is_sure" ["house", "words"] (spIsSure CH CO) := by
  refine D.ok sc_is_sure (fun vs H Q E h => ?_) (fun f cdv A outer s H vs Q E hr h => ?_)
  · obtain ⟨hp, wp, T', h, cv, B, rfl, _⟩ := h
    rfl
  obtain ⟨hp, wp, T', h, cv, B, rfl, ha, K1, hw, hT, q⟩ := h
  have hr1 := hr.mono (show 164 ≤ 165 by omega)
  refine ⟨_, (pss_one (ps_ret (pe_and (pe_cmpR op_le (pe_callB call_len_seq (by rfl) T.n_len boot_len (pa_cons (pv 1) pa_nil)) (pe_gi T.g_MOST_WORDS) (nomark _)) (pe_one (pe_cmpR op_eq (pe_m0 M_many T.flC hr1 (pe_k K_Chart hr (pa_cons (pv 0) (pa_cons (pv 1) pa_nil)))) pe_int (nomark _)))))), ?_⟩
  refine ⟨_, rfl, _, _, rfl, .inl (SqL.of hw), _, _, rfl, rfl, _, rfl, ?_⟩
  rw [vn_len]
  by_cases c : T'.length ≤ 32
  · rw [decide_eq_true c, Bool.true_and] at q
    rw [decide_eq_true (show ((T'.length : Nat) : Int) ≤ 32 by omega)]
    refine iteT ⟨_, rfl, _, rfl, fun x dx hx hdx ne => ?_⟩
    refine chart_new ha K1 hw c hx hdx ne fun H1 A' s1 e1 e2 e3 _ cA mm => ⟨rfl, ?_⟩
    refine ⟨x, _, _, rfl, cA.me.1, rfl, x, h, T', A', cv, B, rfl, cA, mm, hT, fun H2 k2 m2 => ?_⟩
    refine ⟨rfl, ?_⟩
    have e4 : decide (V.int ((cnt h T' (List.range h.ops.length) 0 T'.length : Nat) : Int) = V.int 1) = decide (cnt h T' (List.range h.ops.length) 0 T'.length = 1) := by
      by_cases z : cnt h T' (List.range h.ops.length) 0 T'.length = 1
      · rw [decide_eq_true z, decide_eq_true (by rw [z]; rfl)]
      · rw [decide_eq_false z, decide_eq_false (fun y => z (by have := V.int.inj y; omega))]
    have s2 : Same H H2 := same_of ((Same.kp s1).trans k2) e2 e3
    have q2 := q H2 s2
    rw [← e4] at q2
    exact q2
  · rw [decide_eq_false c, Bool.false_and] at q
    rw [decide_eq_false (show ¬ ((T'.length : Nat) : Int) ≤ 32 by omega)]
    exact iteF (q H (Same.refl H))
abbrev s_printed : Stmt := topS 38
abbrev N_printed : List Str := ["house", "expression", "barred"]
theorem sc_printed : FnScope N_printed ["house", "expression"] (defScope s_printed) := ⟨rfl, rfl, rfl, by decide +kernel, rfl, by decide +kernel, by decide +kernel⟩
-- slots: house=0 expression=1 barred=2
def spPrinted (CH CO : Addr) : Sp := fun vs H Q _ => ∃ (hp p : Addr) (e : Sq15.Ex) (h : Sq15.House) (cv : V) (B : HA), vs = [.ref hp, .ref p] ∧ HouseAt CH CO [] H hp h cv B ∧ Ok h ∧ h.made e = true ∧ Sq15.brackets e = 0 ∧ Sq15.size e ≤ 100 ∧ ExprAt H p (annE (-1) 0 e) ∧
  ∀ H' r, Same H H' → H r = none → H' r = some (.lst (vn ((barred h e).length :: h.says (h.dress [] 0 e)))) → Q (.ref r) H'
theorem ok_printed (T : Txt K mg CH CO CC) (D : DefAt K mg "printed" s_printed ["house", "expression"]) (D_barred_in : DefW P w K mg base 4 "barred_in" ["house", "expression"] (spBarredIn CH CO)) (D_said : DefW P w K mg base 4 "said" ["house", "expression", "around"] (spSaid CH CO)) : DefW P w K mg base 5 "printed" ["house", "expression"] (spPrinted CH CO) := by
  refine D.ok sc_printed (fun vs H Q E h => ?_) (fun f cdv A outer s H vs Q E hr h => ?_)
  · obtain ⟨hp, p, e, h, cv, B, rfl, _⟩ := h
    rfl
  obtain ⟨hp, p, e, h, cv, B, rfl, ha, K1, hm, hb, hsz, hx, q⟩ := h
  refine ⟨_, (pss_cons (ps_set (i := 2) sc_printed.nd rfl (Or.inl rfl) (pe_d D_barred_in hr (pa_cons (pv 0) (pa_cons (pv 1) pa_nil))))
      (pss_one (ps_ret (pe_op op_cat (pe_lst (pa_cons (pe_callB call_len_seq (by rfl) T.n_len boot_len (pa_cons (pv 2) pa_nil)) pa_nil)) (pe_d D_said hr (pa_cons (pv 0) (pa_cons (pv 1) (pa_cons (pv 2) pa_nil)))))))), ?_⟩
  have aok := ann_ok K1 e (-1) 0 hm hb (fun z => absurd rfl z)
  have al := ann_len e (-1) 0
  refine ⟨_, rfl, _, rfl, hp, p, _, h, cv, B, rfl, ha, K1, hx, aok, by omega, fun H1 r s1 hr1 r1 => ?_⟩
  have r1' : H1 r = some (.lst (vn (barred h e))) := r1
  have bl : (barred h e).length ≤ 100 := by
    have := idx_len (p := barB h) 0 (annE (-1) 0 e)
    unfold barred
    omega
  refine ⟨_, rfl, _, _, rfl, .inl (SqL.of r1'), sz_one _, fun l hl => ?_⟩
  rw [vn_len]
  have s2 : Same H1 (upd H1 l (.lst [.int ((barred h e).length : Nat)])) := (Kp.new hl).same
  have l2 : (upd H1 l (.lst [.int ((barred h e).length : Nat)])) l = some (.lst [.int ((barred h e).length : Nat)]) := upd_same
  generalize upd H1 l (.lst [.int ((barred h e).length : Nat)]) = H2 at *
  have s12 := s1.trans s2
  refine ⟨_, rfl, _, rfl, _, rfl, hp, p, r, e, [], h, cv, B, rfl, ha.keep (Same.kp s12), K1, hm, hb, hsz, hx.same s12, by rw [List.append_nil]; exact s2 _ _ r1', by simp, fun H3 u s3 hu u3 => ?_⟩
  have sl := says_len K1 [] e 0 hm hb
  have w9 := wE_size e hb
  refine ⟨l, u, _, _, rfl, rfl, s3 _ _ l2, u3, by rw [vn_len]; exact Nat.le_of_lt (small_lt (by simp only [List.length_singleton]; omega)), fun v hv => ?_⟩
  refine q _ v (s12.trans (s3.trans (Kp.new hv).same)) ((s12.trans s3).free hv) ?_
  rw [upd_same]
  rfl
abbrev s_without_brackets : Stmt := topS 39
abbrev N_without_brackets : List Str := ["numbers", "number"]
theorem sc_without_brackets : FnScope N_without_brackets ["numbers"] (defScope s_without_brackets) := ⟨rfl, rfl, rfl, by decide +kernel, rfl, by decide +kernel, by decide +kernel⟩
-- slots: numbers=0 number=1
def spWithoutBrackets : Sp := fun vs H Q _ => ∃ (np : Addr) (l : List Nat), vs = [.ref np] ∧ H np = some (.lst (vn l)) ∧ l.length ≤ 1000 ∧
  ∀ H' r, Same H H' → H' r = some (.lst (vn (l.filter fun n => decide (n ≠ 128)))) → Q (.ref r) H'
theorem ok_without_brackets (T : Txt K mg CH CO CC) (D : DefAt K mg "without_brackets" s_without_brackets ["numbers"]) : DefW P w K mg base 1 "without_brackets" ["numbers"] spWithoutBrackets := by
  refine D.ok sc_without_brackets (fun vs H Q E h => ?_) (fun f cdv A outer s H vs Q E hr h => ?_)
  · obtain ⟨np, l, rfl, _⟩ := h
    rfl
  obtain ⟨np, l, rfl, hn, hl, q⟩ := h
  refine ⟨_, (pss_one (ps_ret (pe_lc (own := [("number", 1)]) rfl sc_without_brackets.nd (pi_list (pv 0)) (blkOk_by (own := [("number", 1)]) (N := N_without_brackets) (sc := defScope s_without_brackets) (by decide +kernel)) (fun _ _ _ _ _ => by exact (pg_name (i := 1) sc_without_brackets.nd rfl (Or.inl rfl))) (fun _ _ _ _ _ => by exact (pts_one (pt_cmpR op_ne (pv 1) (pe_gi T.g_IN_BRACKETS) (nomark _)))) (fun _ _ _ _ _ => by exact (pv 1))))), ?_⟩
  refine ⟨_, rfl, np, rfl, ⟨_, SqL.of hn⟩, fun D hD => ?_⟩
  refine lc_list (K := K) (a := np) (xs := vn l) (fun k H' => H' D = some (.lst (vn ((l.take k).filter fun n => decide (n ≠ 128)))) ∧ Same H H') ⟨upd_same, (Kp.new hD).same⟩ (fun k H' _ ⟨_, s5⟩ => SqL.of (s5 _ _ hn)) ?_ ?_
  · rintro k y H2 hy ⟨d2, s2⟩
    obtain ⟨n, hn2, rfl⟩ := vn_item hy
    have fl : ((l.take k).filter fun n => decide (n ≠ 128)).length ≤ 1000 := by
      refine Nat.le_trans (List.length_filter_le ..) ?_
      rw [List.length_take]
      omega
    refine ⟨rfl, ?_⟩
    refine ⟨_, rfl, rfl, _, rfl, ?_⟩
    have e1 : (!decide (V.int (n : Int) = V.int 128)) = decide (n ≠ 128) := by
      by_cases c : n = 128
      · rw [decide_eq_true (by rw [c]; rfl), decide_eq_false (fun z => z c)]
        rfl
      · rw [decide_eq_false (fun z => c (by have := V.int.inj z; omega)), decide_eq_true c]
        rfl
    rw [e1, take_succ' hn2, List.filter_append]
    by_cases c : n = 128
    · rw [decide_eq_false (fun z => z c), List.filter_cons, if_neg (by rw [decide_eq_false (fun z => z c)]; exact Bool.false_ne_true)]
      refine iteF ⟨?_, s2⟩
      rw [List.filter_nil, List.append_nil]
      exact d2
    · rw [decide_eq_true c, List.filter_cons, if_pos (decide_eq_true c), List.filter_nil]
      refine iteT ⟨_, rfl, _, d2, by rw [vn_len]; exact small_lt (by omega), ?_, fun b u e => ?_⟩
      · rw [upd_same, vn_append]
        rfl
      · rw [upd_ne (ne_of_none e hD)]
        exact s2 _ _ e
  · rintro H2 ⟨d2, s2⟩
    rw [vn_len, List.take_length] at d2
    exact q H2 D s2 d2
end
end Wo
end
section
set_option Elab.async false
set_option linter.all false
set_option maxRecDepth 100000
set_option maxHeartbeats 4000000
namespace Wo
open PySem PySem.Spec PyProof.Rows L2
theorem tries_split {l c : List Nat} {i j : Nat} (hi : i ≤ l.length) (hj : (Sq15.choices i l)[j]? = some c) : ∃ post, tries l = ((List.range i).flatMap (fun k => Sq15.choices k l) ++ (Sq15.choices i l).take j) ++ c :: post := by
  obtain ⟨rest, e1⟩ : ∃ rest, List.range (l.length + 1) = List.range i ++ i :: rest := by
    refine ⟨(List.range (l.length + 1)).drop (i + 1), ?_⟩
    have h1 := List.take_append_drop i (List.range (l.length + 1))
    have h2 : (List.range (l.length + 1)).take i = List.range i := by rw [List.take_range, Nat.min_eq_left (by omega)]
    have h3 : (List.range (l.length + 1)).drop i = i :: (List.range (l.length + 1)).drop (i + 1) := by
      rw [List.drop_eq_getElem_cons (by rw [List.length_range]; omega), List.getElem_range]
    rw [h2, h3] at h1
    exact h1.symm
  have e2 : Sq15.choices i l = (Sq15.choices i l).take j ++ c :: (Sq15.choices i l).drop (j + 1) := by
    obtain ⟨lt, e⟩ := List.getElem?_eq_some_iff.mp hj
    have h1 := List.take_append_drop j (Sq15.choices i l)
    rw [List.drop_eq_getElem_cons lt, e] at h1
    exact h1.symm
  refine ⟨(Sq15.choices i l).drop (j + 1) ++ rest.flatMap fun k => Sq15.choices k l, ?_⟩
  unfold tries
  rw [e1, List.flatMap_append, List.flatMap_cons]
  rw [List.append_assoc]
  congr 1
  have e3 : Sq15.choices i l ++ rest.flatMap (fun k => Sq15.choices k l) = ((Sq15.choices i l).take j ++ c :: (Sq15.choices i l).drop (j + 1)) ++ rest.flatMap (fun k => Sq15.choices k l) := by rw [← e2]
  rw [e3, List.append_assoc, List.cons_append]
def sureL (h : Sq15.House) (e : Sq15.Ex) : List Nat := match (tries (h.free 0 e)).find? (sureB h e) with
  | some c => ((barred h e).length + c.length) :: h.says (h.dress c 0 e)
  | none => []
section
variable {P : Program} {w : World} {K : PySem.W.Frag} {mg : Str → Option Value} {base : Heap} {CH CO CC : Addr}
abbrev s_made_sure : Stmt := topS 37
abbrev N_made_sure : List Str := ["house", "expression", "barred", "bare", "many", "some", "words"]
theorem sc_made_sure : FnScope N_made_sure ["house", "expression"] (defScope s_made_sure) := ⟨rfl, rfl, rfl, by decide +kernel, rfl, by decide +kernel, by decide +kernel⟩
-- slots: house=0 expression=1 barred=2 bare=3 many=4 some=5 words=6
def spMadeSure (CH CO : Addr) : Sp := fun vs H Q _ => ∃ (hp p : Addr) (e : Sq15.Ex) (h : Sq15.House) (cv : V) (B : HA), vs = [.ref hp, .ref p] ∧ HouseAt CH CO [] H hp h cv B ∧ Ok h ∧ h.made e = true ∧ Sq15.brackets e = 0 ∧ Sq15.size e ≤ 100 ∧ ExprAt H p (annE (-1) 0 e) ∧ (h.free 0 e).length ≤ 8 ∧
  ∀ H' r, Same H H' → H r = none → H' r = some (.lst (vn (sureL h e))) → Q (.ref r) H'
theorem ok_made_sure (T : Txt K mg CH CO CC) (D : DefAt K mg "made_sure" s_made_sure ["house", "expression"]) (D_barred_in : DefW P w K mg base 166 "barred_in" ["house", "expression"] (spBarredIn CH CO)) (D_bare_in : DefW P w K mg base 166 "bare_in" ["house", "expression"] (spBareIn CH CO))
    (D_choices : DefW P w K mg base 166 "choices" ["places", "many"] spChoices) (D_said : DefW P w K mg base 166 "said" ["house", "expression", "around"] (spSaid CH CO)) (D_is_sure : DefW P w K mg base 166 "is_sure" ["house", "words"] (spIsSure CH CO)) : DefW P w K mg base 167 "made_sure" ["house", "expression"] (spMadeSure CH CO) := by
  refine D.ok sc_made_sure (fun vs H Q E h => ?_) (fun f cdv A outer s H vs Q E hr h => ?_)
  · obtain ⟨hp, p, e, h, cv, B, rfl, _⟩ := h
    rfl
  obtain ⟨hp, p, e, h, cv, B, rfl, ha, K1, hm, hb, hsz, hx, h8, q⟩ := h
  refine ⟨_, (pss_cons (ps_par (i := 2) (j := 3) rfl sc_made_sure.nd rfl rfl (by decide) rfl rfl (pa_cons (pe_d D_barred_in hr (pa_cons (pv 0) (pa_cons (pv 1) pa_nil))) (pa_cons (pe_d D_bare_in hr (pa_cons (pv 0) (pa_cons (pv 1) pa_nil))) pa_nil)) (by rfl))
      (pss_cons (ps_for PassesOwn.never rfl (pi_range1 (by rfl) T.n_range (pa_cons (pe_op op_add (pe_callB call_len_seq (by rfl) T.n_len boot_len (pa_cons (pv 3) pa_nil)) pe_int) pa_nil)) (pg_name (i := 4) sc_made_sure.nd rfl (Or.inl rfl))
      (pss_one (ps_for PassesOwn.never rfl (pi_list (pe_d D_choices hr (pa_cons (pv 3) (pa_cons (pv 4) pa_nil)))) (pg_name (i := 5) sc_made_sure.nd rfl (Or.inl rfl))
      (pss_cons (ps_set (i := 6) sc_made_sure.nd rfl (Or.inl rfl) (pe_d D_said hr (pa_cons (pv 0) (pa_cons (pv 1) (pa_cons (pe_op op_cat (pv 2) (pv 5)) pa_nil)))))
      (pss_one (ps_if (pt_val (pe_d D_is_sure hr (pa_cons (pv 0) (pa_cons (pv 6) pa_nil))))
      (pss_one (ps_ret (pe_op op_cat (pe_lst (pa_cons (pe_op op_add (pe_callB call_len_seq (by rfl) T.n_len boot_len (pa_cons (pv 2) pa_nil)) (pv 4)) pa_nil)) (pv 6))))
      pss_nil))))))
      (pss_one (ps_ret (pe_lst pa_nil))))), ?_⟩
  have aok := ann_ok K1 e (-1) 0 hm hb (fun z => absurd rfl z)
  have al := ann_len e (-1) 0
  have fe := free_eq K1 hm hb
  have srt := idx_sorted (p := bareB h) 0 (annE (-1) 0 e)
  rw [fe] at srt
  have bl : (barred h e).length ≤ 100 := by
    have := idx_len (p := barB h) 0 (annE (-1) 0 e)
    unfold barred
    omega
  refine ⟨_, rfl, _, rfl, hp, p, _, h, cv, B, rfl, ha, K1, hx, aok, by omega, fun H1 r1 s1 n1 v1 => ?_⟩
  refine ⟨_, rfl, _, rfl, hp, p, _, h, cv, B, rfl, ha.keep (Same.kp s1), K1, hx.same s1, aok, by omega, fun H2 r2 s2 n2 v2 => ?_⟩
  have v1' : H2 r1 = some (.lst (vn (barred h e))) := s2 _ _ v1
  rw [fe] at v2
  have sH := s1.trans s2
  generalize hl : h.free 0 e = l at *
  refine ⟨_, _, rfl, ?_⟩
  refine ⟨_, rfl, _, _, rfl, .inl (SqL.of v2), _, _, rfl, rfl, _, rfl, by rw [vn_len]; omega, by rw [vn_len]; omega, ?_⟩
  have nt : (((vn l).length : Nat) + 1 : Int).toNat = l.length + 1 := by rw [vn_len]; omega
  refine for_range (lo := 0) (n := (((vn l).length : Nat) + 1 : Int).toNat) (fun i σ H' => ∃ v4 v5 v6, σ = [some (.ref hp), some (.ref p), some (.ref r1), some (.ref r2), v4, v5, v6] ∧ Same H2 H' ∧ ∀ c ∈ (List.range i).flatMap (fun k => Sq15.choices k l), sureB h e c = false)
    ⟨none, none, none, rfl, Same.refl _, fun c z => by simp at z⟩ ?_ ?_
  · rintro i σ HA hi ⟨v4, v5, v6, rfl, sA, no⟩
    rw [nt] at hi
    refine ⟨_, rfl, _, rfl, r2, i, l, ?_, sA _ _ v2, srt, h8, by omega, fun H3 fr as s3 f3 l3 => ⟨fr, rfl, ⟨_, SqL.of f3⟩, ?_⟩⟩
    · show [V.ref r2, V.int (0 + (i : Int))] = _
      rw [Int.zero_add]
    refine for_list (K := K) (a := fr) (xs := as.map V.ref) (fun j σ H' => ∃ v5 v6, σ = [some (.ref hp), some (.ref p), some (.ref r1), some (.ref r2), some (.int (0 + (i : Int))), v5, v6] ∧ Same H3 H' ∧ ∀ c ∈ (Sq15.choices i l).take j, sureB h e c = false)
      ⟨v5, v6, rfl, Same.refl _, fun c z => by simp at z⟩ (fun j σ H' _ ⟨_, _, _, s, _⟩ => SqL.of (s _ _ f3)) ?_ ?_
    · rintro j y σ HB hy ⟨w5, w6, rfl, sB, no2⟩
      obtain ⟨sa, c, rfl, hc, hsa⟩ := l3.at hy
      obtain ⟨cl, csub⟩ := choices_ok i l c (List.mem_of_getElem? hc)
      have s23 := sA.trans (s3.trans sB)
      have v1B := s23 _ _ v1'
      have saB := sB _ _ hsa.1
      refine ⟨_, rfl, _, rfl, _, rfl, _, rfl, r1, sa, _, _, rfl, rfl, v1B, saB, by rw [vn_len, vn_len]; exact Nat.le_of_lt (small_lt (by omega)), fun ar har => ?_⟩
      rw [← vn_append]
      have s4 : Same HB (upd HB ar (.lst (vn (barred h e ++ c)))) := (Kp.new har).same
      have a4 : (upd HB ar (.lst (vn (barred h e ++ c)))) ar = some (.lst (vn (barred h e ++ c))) := upd_same
      generalize upd HB ar (.lst (vn (barred h e ++ c))) = HC at *
      have sHC := (sH.trans s23).trans s4
      refine ⟨hp, p, ar, e, c, h, cv, B, rfl, ha.keep (Same.kp sHC), K1, hm, hb, hsz, hx.same sHC, a4, fun x z => by rw [fe]; exact csub.subset z, fun H5 wr s5 n5 w5 => ?_⟩
      have sH5 := sHC.trans s5
      refine ⟨_, rfl, _, rfl, hp, wr, _, h, cv, B, rfl, ha.keep (Same.kp sH5), K1, w5, says_ne K1 c 0 hm hb, fun H6 s6 => ⟨_, rfl, ?_⟩⟩
      have sl := says_len K1 c e 0 hm hb
      have w9 := wE_size e hb
      have sb : (decide ((h.says (h.dress c 0 e)).length ≤ 32) && decide (cnt h (h.says (h.dress c 0 e)) (List.range h.ops.length) 0 (h.says (h.dress c 0 e)).length = 1)) = sureB h e c := rfl
      rw [sb]
      cases z : sureB h e c with
      | true =>
        refine iteT ?_
        have v1D := s6 _ _ (s5 _ _ (s4 _ _ v1B))
        refine ⟨_, rfl, _, _, rfl, .inl (SqL.of v1D), _, rfl, _, _, rfl, rfl, sz_one _, fun l1 hl1 => ?_⟩
        have nw := ne_of_none (s6 _ _ w5) hl1
        refine ⟨_, rfl, l1, wr, _, _, rfl, rfl, upd_same, (by rw [upd_ne nw]; exact s6 _ _ w5), by rw [vn_len (h.says _)]; exact Nat.le_of_lt (small_lt (by simp only [List.length_singleton]; omega)), fun v hv => ?_⟩
        refine q _ v ((sH5.trans s6).trans ((Kp.new hl1).same.trans (Kp.new hv).same)) (((sH5.trans s6).trans (Kp.new hl1).same).free hv) ?_
        obtain ⟨post, tp⟩ := tries_split (by omega) hc
        rw [upd_same]
        unfold sureL
        rw [hl, tp, find_at (fun x m => by
          rcases List.mem_append.mp m with m | m
          · exact no x m
          · exact no2 x m) z, vn_len, Int.zero_add]
        show some (HO.lst ([V.int (((barred h e).length : Nat) + (i : Int))] ++ vn _)) = some (HO.lst (vn (((barred h e).length + c.length) :: h.says (h.dress c 0 e))))
        rw [cl]
        rfl
      | false =>
        refine iteF ⟨_, _, rfl, ((sB.trans s4).trans s5).trans s6, fun x m => ?_⟩
        rw [take_succ' hc] at m
        rcases List.mem_append.mp m with m | m
        · exact no2 x m
        · rw [List.mem_singleton.mp m]
          exact z
    · rintro σ HB ⟨w5, w6, rfl, sB, no2⟩
      refine ⟨_, _, _, rfl, sA.trans (s3.trans sB), fun c m => ?_⟩
      rw [List.range_succ, List.flatMap_append] at m
      rcases List.mem_append.mp m with m | m
      · exact no c m
      · rw [List.flatMap_cons, List.flatMap_nil, List.append_nil] at m
        have ll := l3.len
        rw [List.length_map, ll, List.take_length] at no2
        exact no2 c m
  · rintro σ HA ⟨v4, v5, v6, rfl, sA, no⟩
    rw [nt] at no
    refine ⟨sz_nil, fun v hv => ?_⟩
    refine q _ v (sH.trans (sA.trans (Kp.new hv).same)) ((sH.trans sA).free hv) ?_
    rw [upd_same]
    unfold sureL
    rw [hl, find_none (l := tries l) no]
    rfl
end
end Wo
end
section
set_option Elab.async false
set_option linter.all false
set_option maxRecDepth 100000
set_option maxHeartbeats 4000000
namespace Wo
open PySem PySem.Spec PyProof.Rows L2
theorem vn_vi (l : List Nat) : vn l = vi (Sq15.ints l) := by
  unfold vn vi Sq15.ints
  rw [List.map_map]
  rfl
def outL (o : Sq15.Out) : List Int := o.value :: o.out
theorem exOf_row {h : Sq15.House} {l : List Nat} {e : Sq15.Ex} (q : h.exOf l = some e) : l = Sq15.row e := by
  rw [exOf_stk] at q
  cases s1 : stk h l with
  | none => rw [s1] at q; cases q
  | some es =>
    rw [s1] at q
    match es, s1 with
    | [], s1 => cases q
    | [a], s1 =>
      have := stk_row l _ s1
      have e1 : a = e := by simpa using q
      rw [this, e1]
      show Sq15.row e ++ [] = _
      rw [List.append_nil]
    | _ :: _ :: _, s1 => cases q
/-- what's asked of an expression that's made sure -/
def sureOut (h : Sq15.House) (e : Sq15.Ex) : Sq15.Out := if Sq15.FREE < (h.free 0 e).length then Sq15.tells (-5) else match h.sure e with
  | none => Sq15.tells (-2)
  | some u => h.shows u
theorem sureL_out {h : Sq15.House} (K : Ok h) {e : Sq15.Ex} (m : h.made e = true) (b : Sq15.brackets e = 0) (c : ¬ Sq15.FREE < (h.free 0 e).length) : (sureL h e = [] ∧ outL (sureOut h e) = [-2]) ∨ (sureL h e ≠ [] ∧ outL (sureOut h e) = Sq15.ints (sureL h e)) := by
  unfold sureOut sureL
  rw [if_neg c, sure_eq K m b]
  cases z : (tries (h.free 0 e)).find? (sureB h e) with
  | none => exact .inl ⟨rfl, rfl⟩
  | some c =>
    refine .inr ⟨by simp, ?_⟩
    have sub := tries_mem (List.mem_of_find?_eq_some z)
    show (Sq15.brackets (h.dress c 0 e) : Int) :: Sq15.ints (h.says (h.dress c 0 e)) = Sq15.ints (((barred h e).length + c.length) :: h.says (h.dress c 0 e))
    rw [sure_brackets K m b sub]
    rfl
section
variable {P : Program} {w : World} {K : PySem.W.Frag} {mg : Str → Option Value} {base : Heap} {CH CO CC : Addr}
abbrev s_is_text : Stmt := topS 66
abbrev N_is_text : List Str := ["house", "row", "word"]
theorem sc_is_text : FnScope N_is_text ["house", "row"] (defScope s_is_text) := ⟨rfl, rfl, rfl, by decide +kernel, rfl, by decide +kernel, by decide +kernel⟩
-- slots: house=0 row=1 word=2
def spIsText (CH CO : Addr) : Sp := fun vs H Q _ => ∃ (hp rp : Addr) (l : List Nat) (h : Sq15.House) (cv : V) (B : HA), vs = [.ref hp, .ref rp] ∧ HouseAt CH CO [] H hp h cv B ∧ H rp = some (.lst (vn l)) ∧ l.length ≤ 1024 ∧
  ∀ H', Same H H' → Q (.bl (h.right l)) H'
theorem ok_is_text (T : Txt K mg CH CO CC) (D : DefAt K mg "is_text" s_is_text ["house", "row"]) : DefW P w K mg base 1 "is_text" ["house", "row"] (spIsText CH CO) := by
  refine D.ok sc_is_text (fun vs H Q E h => ?_) (fun f cdv A outer s H vs Q E hr h => ?_)
  · obtain ⟨hp, rp, l, h, cv, B, rfl, _⟩ := h
    rfl
  obtain ⟨hp, rp, l, h, cv, B, rfl, ha, hrp, hl, q⟩ := h
  refine ⟨_, (pss_one (ps_ret (pe_and (pe_chain op_le op_le pe_int (pe_callB call_len_seq (by rfl) T.n_len boot_len (pa_cons (pv 1) pa_nil)) (pe_gi T.g_MOST_WORDS)) (pe_one (pe_callB (cr_all rfl) (by rfl) T.n_all (by decide +kernel) (pa_cons (pe_lc (own := [("word", 2)]) rfl sc_is_text.nd (pi_list (pv 1)) (blkOk_by (own := [("word", 2)]) (N := N_is_text) (sc := defScope s_is_text) (by decide +kernel)) (fun _ _ _ _ _ => by exact (pg_name (i := 2) sc_is_text.nd rfl (Or.inl rfl))) (fun _ _ _ _ _ => by exact pts_nil) (fun _ _ _ _ _ => by exact (pe_cmpR op_lt (pv 2) (pe_f T.flH (pv 0)) (nomark _)))) pa_nil)))))), ?_⟩
  unfold Sq15.House.right at q
  refine ⟨_, rfl, _, _, rfl, .inl (SqL.of hrp), _, _, rfl, rfl, _, rfl, ?_⟩
  rw [vn_len]
  by_cases c1 : l = []
  · subst c1
    rw [decide_eq_false (show ¬ (1 : Int) ≤ (([] : List Nat).length : Nat) by simp)]
    refine iteF ⟨_, rfl, ?_⟩
    refine iteF ?_
    exact q H (Same.refl H)
  have lp : 0 < l.length := List.length_pos_iff.mpr c1
  rw [decide_eq_true (show (1 : Int) ≤ ((l.length : Nat) : Int) by omega)]
  have e0 : (l != []) = true := by
    cases l with
    | nil => exact absurd rfl c1
    | cons _ _ => rfl
  rw [e0, Bool.true_and] at q
  refine iteT ⟨_, _, rfl, rfl, _, rfl, ?_⟩
  have T32 : Sq15.TEXT = 32 := rfl
  by_cases c2 : l.length ≤ 32
  · rw [decide_eq_true (show l.length ≤ Sq15.TEXT by omega), Bool.true_and] at q
    rw [decide_eq_true (show ((l.length : Nat) : Int) ≤ 32 by omega)]
    refine iteT ⟨_, rfl, rp, rfl, ⟨_, SqL.of hrp⟩, fun D hD => ?_⟩
    refine lc_list (K := K) (a := rp) (xs := vn l) (fun k H' => H' D = some (.lst (((l.take k).map fun w => decide (w < h.words)).map V.bl)) ∧ Same H H') ⟨upd_same, (Kp.new hD).same⟩ (fun k H' _ ⟨_, s5⟩ => SqL.of (s5 _ _ hrp)) ?_ ?_
    · rintro k y H2 hy ⟨d2, s2⟩
      obtain ⟨n, hn2, rfl⟩ := vn_item hy
      refine ⟨rfl, ?_⟩
      refine ⟨_, rfl, _, rfl, hp, _, _, _, rfl, (s2 _ _ ha.me.1), rfl, _, _, rfl, rfl, _, d2, ?_, ?_, fun b u e => ?_⟩
      · rw [List.length_map, List.length_map, List.length_take]
        exact small_lt (by omega)
      · rw [upd_same, take_succ' hn2, List.map_append, List.map_append]
        have e3 : decide ((n : Int) < (h.words : Int)) = decide (n < h.words) := by
          by_cases z : n < h.words
          · rw [decide_eq_true z, decide_eq_true (by omega)]
          · rw [decide_eq_false z, decide_eq_false (by omega)]
        show some (HO.lst (_ ++ [V.bl (decide ((n : Int) < (h.words : Int)))])) = _
        rw [e3]
        rfl
      · rw [upd_ne (ne_of_none e hD)]
        exact s2 _ _ e
    · rintro H2 ⟨d2, s2⟩
      rw [vn_len, List.take_length] at d2
      refine ⟨D, _, rfl, SqL.of d2, ?_⟩
      have e4 : (l.map fun w => decide (w < h.words)).all id = l.all fun w => decide (w < h.words) := by
        rw [List.all_map]
        rfl
      rw [e4]
      exact q H2 s2
  · rw [decide_eq_false (show ¬ l.length ≤ Sq15.TEXT by omega), Bool.false_and] at q
    rw [decide_eq_false (show ¬ ((l.length : Nat) : Int) ≤ 32 by omega)]
    exact iteF (q H (Same.refl H))
abbrev s_sure_told : Stmt := topS 69
abbrev N_sure_told : List Str := ["house", "expression", "found"]
theorem sc_sure_told : FnScope N_sure_told ["house", "expression"] (defScope s_sure_told) := ⟨rfl, rfl, rfl, by decide +kernel, rfl, by decide +kernel, by decide +kernel⟩
-- slots: house=0 expression=1 found=2
def spSureTold (CH CO : Addr) : Sp := fun vs H Q _ => ∃ (hp p : Addr) (e : Sq15.Ex) (h : Sq15.House) (cv : V) (B : HA), vs = [.ref hp, .ref p] ∧ HouseAt CH CO [] H hp h cv B ∧ Ok h ∧ h.made e = true ∧ Sq15.brackets e = 0 ∧ Sq15.size e ≤ 100 ∧ ExprAt H p (annE (-1) 0 e) ∧
  ∀ H' r, Same H H' → H r = none → H' r = some (.lst (vi (outL (sureOut h e)))) → Q (.ref r) H'
theorem ok_sure_told (T : Txt K mg CH CO CC) (D : DefAt K mg "sure_told" s_sure_told ["house", "expression"]) (D_bare_in : DefW P w K mg base 167 "bare_in" ["house", "expression"] (spBareIn CH CO)) (D_made_sure : DefW P w K mg base 167 "made_sure" ["house", "expression"] (spMadeSure CH CO)) : DefW P w K mg base 168 "sure_told" ["house", "expression"] (spSureTold CH CO) := by
  refine D.ok sc_sure_told (fun vs H Q E h => ?_) (fun f cdv A outer s H vs Q E hr h => ?_)
  · obtain ⟨hp, p, e, h, cv, B, rfl, _⟩ := h
    rfl
  obtain ⟨hp, p, e, h, cv, B, rfl, ha, K1, hm, hb, hsz, hx, q⟩ := h
  refine ⟨_, (pss_cons (ps_if (pt_cmpR op_gt (pe_callB call_len_seq (by rfl) T.n_len boot_len (pa_cons (pe_d D_bare_in hr (pa_cons (pv 0) (pa_cons (pv 1) pa_nil))) pa_nil)) (pe_gi T.g_MOST_BARE) (nomark _))
      (pss_one (ps_ret (pe_lst (pa_cons (pe_un un_neg pe_int) pa_nil))))
      pss_nil)
      (pss_cons (ps_set (i := 2) sc_sure_told.nd rfl (Or.inl rfl) (pe_d D_made_sure hr (pa_cons (pv 0) (pa_cons (pv 1) pa_nil))))
      (pss_one (ps_ret (pe_ifExp (pt_cmpR (op_neNil hr.units) (pv 2) (pe_lst pa_nil) (nomark _)) (pv 2) (pe_lst (pa_cons (pe_un un_neg pe_int) pa_nil))))))), ?_⟩
  have aok := ann_ok K1 e (-1) 0 hm hb (fun z => absurd rfl z)
  have al := ann_len e (-1) 0
  have fe := free_eq K1 hm hb
  refine ⟨_, rfl, _, rfl, hp, p, _, h, cv, B, rfl, ha, K1, hx, aok, by omega, fun H1 r s1 n1 v1 => ?_⟩
  rw [fe] at v1
  refine ⟨_, _, rfl, .inl (SqL.of v1), _, _, rfl, rfl, _, rfl, ?_⟩
  rw [vn_len]
  have F8 : Sq15.FREE = 8 := rfl
  by_cases c : Sq15.FREE < (h.free 0 e).length
  · rw [decide_eq_true (show ((h.free 0 e).length : Int) > 8 by omega)]
    refine iteT ⟨_, rfl, sz_one _, fun v hv => ?_⟩
    refine q _ v (s1.trans (Kp.new hv).same) (s1.free hv) ?_
    rw [upd_same]
    unfold sureOut
    rw [if_pos c]
    rfl
  · rw [decide_eq_false (show ¬ ((h.free 0 e).length : Int) > 8 by omega)]
    refine iteF ?_
    refine ⟨_, rfl, _, rfl, hp, p, e, h, cv, B, rfl, ha.keep (Same.kp s1), K1, hm, hb, hsz, hx.same s1, by omega, fun H2 r2 s2 n2 v2 => ?_⟩
    have s12 := s1.trans s2
    refine ⟨_, rfl, sz_nil, fun e1 he1 => ?_⟩
    have s3 : Same H2 (upd H2 e1 (.lst [])) := (Kp.new he1).same
    have e3 : (upd H2 e1 (.lst [])) e1 = some (.lst []) := upd_same
    generalize upd H2 e1 (.lst []) = H3 at *
    have v3 := s3 _ _ v2
    refine ⟨r2, e1, Sq15.ints (sureL h e), rfl, rfl, SqL.of (by rw [v3, vn_vi]; rfl), SqL.of e3, _, rfl, ?_⟩
    rcases sureL_out K1 hm hb c with ⟨z1, z2⟩ | ⟨z1, z2⟩
    · rw [z1]
      refine iteF ⟨_, rfl, sz_one _, fun v hv => ?_⟩
      refine q _ v ((s12.trans s3).trans (Kp.new hv).same) ((s12.trans s3).free hv) ?_
      rw [upd_same, z2]
      rfl
    · rw [show (Sq15.ints (sureL h e)).isEmpty = false by
        cases y : sureL h e with
        | nil => exact absurd y z1
        | cons _ _ => rfl]
      refine iteT ⟨_, rfl, ?_⟩
      refine q _ r2 (s12.trans s3) (s1.free n2) ?_
      rw [z2, ← vn_vi]
      exact v3
abbrev s_of_expression : Stmt := topS 70
abbrev N_of_expression : List Str := ["house", "kind", "row", "expression"]
theorem sc_of_expression : FnScope N_of_expression ["house", "kind", "row"] (defScope s_of_expression) := ⟨rfl, rfl, rfl, by decide +kernel, rfl, by decide +kernel, by decide +kernel⟩
-- slots: house=0 kind=1 row=2 expression=3
def spOfExpr (CH CO : Addr) : Sp := fun vs H Q _ => ∃ (hp rp : Addr) (kd : Nat) (l : List Nat) (h : Sq15.House) (cv : V) (B : HA), vs = [.ref hp, .int kd, .ref rp] ∧ HouseAt CH CO [] H hp h cv B ∧ Ok h ∧ H rp = some (.lst (vn l)) ∧ l.length ≤ 1024 ∧
  ∀ H' r, Same H H' → H r = none → H' r = some (.lst (vi (outL (h.step (if kd = 8 then .print l else .sure l)).2))) → Q (.ref r) H'
theorem ok_of_expression (T : Txt K mg CH CO CC) (D : DefAt K mg "of_expression" s_of_expression ["house", "kind", "row"]) (D_expression_of : DefW P w K mg base 168 "expression_of" ["house", "numbers"] (spExprOf CH CO)) (D_printed : DefW P w K mg base 168 "printed" ["house", "expression"] (spPrinted CH CO)) (D_sure_told : DefW P w K mg base 168 "sure_told" ["house", "expression"] (spSureTold CH CO)) : DefW P w K mg base 169 "of_expression" ["house", "kind", "row"] (spOfExpr CH CO) := by
  refine D.ok sc_of_expression (fun vs H Q E h => ?_) (fun f cdv A outer s H vs Q E hr h => ?_)
  · obtain ⟨hp, rp, kd, l, h, cv, B, rfl, _⟩ := h
    rfl
  obtain ⟨hp, rp, kd, l, h, cv, B, rfl, ha, K1, hrp, hl, q⟩ := h
  refine ⟨_, (pss_cons (ps_set (i := 3) sc_of_expression.nd rfl (Or.inl rfl) (pe_ifExp (pt_cmpR op_le (pe_callB call_len_seq (by rfl) T.n_len boot_len (pa_cons (pv 2) pa_nil)) (pe_gi T.g_MOST_NUMBERS) (nomark _)) (pe_d D_expression_of hr (pa_cons (pv 0) (pa_cons (pv 2) pa_nil))) (pe_lst pa_nil)))
      (pss_cons (ps_if (pt_cmpR (op_eqNil hr.units0) (pv 3) (pe_lst pa_nil) (nomark _))
      (pss_one (ps_ret (pe_lst (pa_cons (pe_un un_neg pe_int) pa_nil))))
      pss_nil)
      (pss_one (ps_ret (pe_ifExp (pt_cmpR op_eq (pv 1) (pe_gi T.g_PRINT) (nomark _)) (pe_d D_printed hr (pa_cons (pv 0) (pa_cons (pv 3) pa_nil))) (pe_d D_sure_told hr (pa_cons (pv 0) (pa_cons (pv 3) pa_nil)))))))), ?_⟩
  have out : h.asked l = none → outL (h.step (if kd = 8 then .print l else .sure l)).2 = [-3] := fun z => by
    by_cases c : kd = 8
    · rw [if_pos c]
      show outL (match h.asked l with | none => (h, Sq15.tells (-3)) | some e => (h, h.shows (h.dress [] 0 e))).2 = _
      rw [z]
      rfl
    · rw [if_neg c]
      show outL (match h.asked l with
        | none => (h, Sq15.tells (-3))
        | some e => if Sq15.FREE < (h.free 0 e).length then (h, Sq15.tells (-5)) else match h.sure e with
          | none => (h, Sq15.tells (-2))
          | some u => (h, h.shows u)).2 = _
      rw [z]
      rfl
  have nul : ∀ (H1 : Hp) (p e1 : Addr), Same H H1 → H1 p = some (.lst []) → h.asked l = none → ∀ v, H1 v = none → Q (.ref v) (upd H1 v (.lst [.int (-3)])) := fun H1 p e1 s1 _ z v hv => by
    refine q _ v (s1.trans (Kp.new hv).same) (s1.free hv) ?_
    rw [upd_same, out z]
    rfl
  have L40 : Sq15.LIST = 40 := rfl
  refine ⟨_, rfl, _, _, rfl, .inl (SqL.of hrp), _, _, rfl, rfl, _, rfl, ?_⟩
  rw [vn_len]
  by_cases c : l.length ≤ 40
  case neg =>
    rw [decide_eq_false (show ¬ ((l.length : Nat) : Int) ≤ 40 by omega)]
    refine iteF ⟨sz_nil, fun p hp => ?_⟩
    have s1 : Same H (upd H p (.lst [])) := (Kp.new hp).same
    have p1 : (upd H p (.lst [])) p = some (.lst []) := upd_same
    generalize upd H p (.lst []) = H1 at *
    refine ⟨_, rfl, sz_nil, fun e1 he1 => ?_⟩
    have s2 : Same H1 (upd H1 e1 (.lst [])) := (Kp.new he1).same
    have e2 : (upd H1 e1 (.lst [])) e1 = some (.lst []) := upd_same
    generalize upd H1 e1 (.lst []) = H2 at *
    refine ⟨p, e1, [], rfl, rfl, SqL.of (s2 _ _ p1), SqL.of e2, _, rfl, ?_⟩
    refine iteT ⟨_, rfl, sz_one _, fun v hv => ?_⟩
    refine nul H2 p e1 (s1.trans s2) (s2 _ _ p1) ?_ v hv
    unfold Sq15.House.asked
    rw [if_pos (by omega)]
  case pos =>
    rw [decide_eq_true (show ((l.length : Nat) : Int) ≤ 40 by omega)]
    refine iteT ⟨_, rfl, _, rfl, hp, rp, l, h, cv, B, rfl, ha, K1, hrp, by omega, fun H1 p s1 pm => ?_⟩
    refine ⟨_, rfl, sz_nil, fun e1 he1 => ?_⟩
    have s2 : Same H1 (upd H1 e1 (.lst [])) := (Kp.new he1).same
    have e2 : (upd H1 e1 (.lst [])) e1 = some (.lst []) := upd_same
    generalize upd H1 e1 (.lst []) = H2 at *
    have s12 := s1.trans s2
    rw [parse_exOf K1] at pm
    have ask : h.asked l = match h.exOf l with
      | none => none
      | some e => if h.made e = true ∧ Sq15.brackets e = 0 then some e else none := by
      unfold Sq15.House.asked
      rw [if_neg (by omega)]
      rfl
    have none_case : h.asked l = none → H1 p = some (.lst []) → ∃ a b xs, V.ref p = .ref a ∧ V.ref e1 = .ref b ∧ SqL K H2 a xs ∧ SqL K H2 b [] ∧ xs = [] := fun z y => ⟨p, e1, [], rfl, rfl, SqL.of (s2 _ _ y), SqL.of e2, rfl⟩
    cases z : h.exOf l with
    | none =>
      rw [z] at pm ask
      refine ⟨p, e1, [], rfl, rfl, SqL.of (s2 _ _ pm), SqL.of e2, _, rfl, ?_⟩
      exact iteT ⟨_, rfl, sz_one _, fun v hv => nul H2 p e1 s12 (s2 _ _ pm) ask v hv⟩
    | some e =>
      rw [z] at pm ask
      by_cases d : h.made e = true ∧ Sq15.brackets e = 0
      case neg =>
        simp only [if_neg d] at pm ask
        refine ⟨p, e1, [], rfl, rfl, SqL.of (s2 _ _ pm), SqL.of e2, _, rfl, ?_⟩
        exact iteT ⟨_, rfl, sz_one _, fun v hv => nul H2 p e1 s12 (s2 _ _ pm) ask v hv⟩
      case pos =>
        simp only [if_pos d] at pm ask
        have hsz : Sq15.size e ≤ 100 := by
          rw [← row_size e d.2, ← exOf_row z]
          omega
        obtain ⟨as, p1, p2⟩ := pm
        have asl := p2.len
        have al := ann_len e (-1) 0
        have hx2 : ExprAt H2 p (annE (-1) 0 e) := ⟨as, s2 _ _ p1, p2.same s2⟩
        refine ⟨p, e1, _, rfl, rfl, SqL.of (s2 _ _ p1), SqL.of e2, _, rfl, ?_⟩
        have sp : 0 < Sq15.size e := by
          cases e with
          | atom a => exact Nat.one_pos
          | op o ks =>
            show 0 < 1 + Sq15.sizeAll ks
            omega
          | paren e =>
            have := d.2
            unfold Sq15.brackets at this
            omega
        rw [show (as.map V.ref).isEmpty = false by
          cases as with
          | nil =>
            rw [List.length_map, al] at asl
            simp at asl
            omega
          | cons _ _ => rfl]
        refine iteF ⟨_, rfl, rfl, _, rfl, ?_⟩
        by_cases k8 : kd = 8
        · rw [decide_eq_true (show V.int (kd : Int) = V.int 8 by rw [k8]; rfl)]
          refine iteT ⟨_, rfl, _, rfl, hp, p, e, h, cv, B, rfl, ha.keep (Same.kp s12), K1, d.1, d.2, hsz, hx2, fun H3 r s3 n3 v3 => ?_⟩
          refine q H3 r (s12.trans s3) (s12.free n3) ?_
          rw [v3, vn_vi, if_pos k8]
          show _ = some (HO.lst (vi (outL (match h.asked l with | none => (h, Sq15.tells (-3)) | some e => (h, h.shows (h.dress [] 0 e))).2)))
          rw [ask]
          show some (HO.lst (vi (Sq15.ints ((barred h e).length :: h.says (h.dress [] 0 e))))) = some (HO.lst (vi ((Sq15.brackets (h.dress [] 0 e) : Int) :: Sq15.ints (h.says (h.dress [] 0 e)))))
          rw [sure_brackets K1 d.1 d.2 (List.nil_sublist _)]
          rfl
        · rw [decide_eq_false (fun y => k8 (by have := V.int.inj y; omega))]
          refine iteF ⟨_, rfl, _, rfl, hp, p, e, h, cv, B, rfl, ha.keep (Same.kp s12), K1, d.1, d.2, hsz, hx2, fun H3 r s3 n3 v3 => ?_⟩
          refine q H3 r (s12.trans s3) (s12.free n3) ?_
          rw [v3, if_neg k8]
          show _ = some (HO.lst (vi (outL (match h.asked l with
            | none => (h, Sq15.tells (-3))
            | some e => if Sq15.FREE < (h.free 0 e).length then (h, Sq15.tells (-5)) else match h.sure e with
              | none => (h, Sq15.tells (-2))
              | some u => (h, h.shows u)).2)))
          rw [ask]
          unfold sureOut
          simp only []
          split
          · rfl
          · cases h.sure e <;> rfl
end
end Wo
end
section
set_option Elab.async false
set_option linter.all false
set_option maxRecDepth 100000
set_option maxHeartbeats 4000000
namespace Wo
open PySem PySem.Spec PyProof.Rows L2
theorem At.kept {ex : List Addr} {H H' : Hp} {a c : Addr} {o u : HO} (h : At ex H a o) (hc : H c = some u) (n : o ≠ u) (k : Kp [c] H H') : At ex H' a o := ⟨k _ _ h.1 fun z => by
  have h1 := h.1
  rw [List.mem_singleton.mp z, hc] at h1
  exact n (Option.some.inj h1).symm, h.2⟩
theorem OpAt.kept {CO : Addr} {ex : List Addr} {H H' : Hp} {a c : Addr} {x : Sq15.Op} {u : HO} (h : OpAt CO ex H a x) (hc : H c = some u) (n1 : ∀ l, HO.lst l ≠ u) (n2 : ∀ dx v1 v2 v3 v4, HO.ins CO dx [("way", v1), ("group", v2), ("pieces", v3), ("spots", v4)] ≠ u) (k : Kp [c] H H') : OpAt CO ex H' a x := by
  obtain ⟨dx, pc, sp, h1, h2, h3⟩ := h
  exact ⟨dx, pc, sp, h1.kept hc (n2 _ _ _ _ _) k, h2.kept hc (n1 _) k, h3.kept hc (n1 _) k⟩
/-- the house with another chart -/
theorem HouseAt.setc {CH CO : Addr} {ex : List Addr} {H H' : Hp} {hp : Addr} {h : Sq15.House} {cv v : V} {A : HA} (x : HouseAt CH CO ex H hp h cv A) (k : Kp [hp] H H')
    (e : H' hp = some (.ins CH A.dx [("many_words", .int h.words), ("many_groups", .int h.groups), ("alone", .ref A.al), ("operators", .ref A.ol), ("closer", .ref A.cl), ("chart", v)])) : HouseAt CH CO ex H' hp h v A :=
  ⟨⟨e, x.me.2⟩, x.alone.kept x.me.1 (by intro z; cases z) k, x.ops.kept x.me.1 (by intro z; cases z) k, x.len, fun i a y h1 h2 => (x.op i a y h1 h2).kept x.me.1 (by intro l z; cases z) (by
    intro _ _ _ _ _ z
    have := congrArg (fun o => match o with | HO.ins _ _ fs => fs.length | _ => 0) z
    simp at this) k, x.closer.kept x.me.1 (by intro z; cases z) k, x.rel, x.neal⟩
theorem ChartAt.setc {CH CO CC : Addr} {H H' : Hp} {c : Addr} {g : Sq15.House} {T : List Nat} {A : CA} {cv v : V} {B : HA} (x : ChartAt CH CO CC H c g T A cv B) (k : Kp [A.hp] H H')
    (e : H' A.hp = some (.ins CH B.dx [("many_words", .int g.words), ("many_groups", .int g.groups), ("alone", .ref B.al), ("operators", .ref B.ol), ("closer", .ref B.cl), ("chart", v)])) : ChartAt CH CO CC H' c g T A v B :=
  ⟨x.me.kept x.house.me.1 (by
    intro z
    have := congrArg (fun o => match o with | HO.ins _ _ fs => fs.length | _ => 0) z
    simp at this) k, x.house.setc k e, x.text.kept x.house.me.1 (by intro z; cases z) k, x.depths.kept x.house.me.1 (by intro z; cases z) k, x.sorts.kept x.house.me.1 (by intro z; cases z) k, x.slen,
    fun i a S h1 h2 => (x.sort i a S h1 h2).kept x.house.me.1 (by intro z; cases z) k, x.sort0, x.sin, x.few, x.sof.kept x.house.me.1 (by intro z; cases z) k, x.sofv, x.ne, x.short, x.ok⟩
theorem Memo.kept {H H' : Hp} {g : Sq15.House} {T : List Nat} {A : CA} {c : Addr} {u : HO} (m : Memo H g T A) (hc : H c = some u) (n : ∀ l, HO.dT l ≠ u) (k : Kp [c] H H') : Memo H' g T A := by
  obtain ⟨kw, ks, h1, h2, h3, h4⟩ := m
  have f : ∀ a l, H a = some (.dT l) → H' a = some (.dT l) := fun a l q => k _ _ q fun z => by
    rw [List.mem_singleton.mp z, hc] at q
    exact n _ (Option.some.inj q).symm
  exact ⟨kw, ks, f _ _ h1, f _ _ h2, h3, h4⟩
theorem At.join {ex ey : List Addr} {H : Hp} {a : Addr} {o : HO} (x : At ex H a o) (y : At ey H a o) : At (ex ++ ey) H a o := ⟨x.1, fun z => by
  rcases List.mem_append.mp z with z | z
  · exact x.2 z
  · exact y.2 z⟩
theorem OpAt.join {CO : Addr} {ex ey : List Addr} {H : Hp} {a : Addr} {y : Sq15.Op} (g : OpAt CO ex H a y) (g' : OpAt CO ey H a y) : OpAt CO (ex ++ ey) H a y := by
  obtain ⟨dx, pc, sp, h1, h2, h3⟩ := g
  obtain ⟨dx', pc', sp', h1', h2', h3'⟩ := g'
  have e := h1.1.symm.trans h1'.1
  injection e with e
  injection e with e1 e2 e3
  injection e3 with e4 e5
  injection e5 with e6 e7
  injection e7 with e8 e9
  injection e9 with e10 e11
  injection e8 with e12 e13
  injection e10 with e14 e15
  injection e13 with e16
  injection e15 with e17
  subst e16 e17
  exact ⟨dx, pc, sp, h1.join ⟨h1.1, h1'.2⟩, h2.join h2', h3.join h3'⟩
theorem HouseAt.join {CH CO : Addr} {ex ey : List Addr} {H : Hp} {hp : Addr} {h : Sq15.House} {cv : V} {A : HA} (x : HouseAt CH CO ex H hp h cv A) (y : HouseAt CH CO ey H hp h cv A) : HouseAt CH CO (ex ++ ey) H hp h cv A :=
  ⟨x.me.join y.me, x.alone.join y.alone, x.ops.join y.ops, x.len, fun i a o h1 h2 => ((x.op i a o h1 h2).join (y.op i a o h1 h2)).re fun b hb => by
    rcases List.mem_cons.mp hb with z | z
    · exact List.mem_append.mpr (.inl (by rw [z]; simp))
    · rcases List.mem_append.mp z with z | z
      · exact List.mem_append.mpr (.inl (List.mem_cons_of_mem _ z))
      · exact List.mem_append.mpr (.inr (List.mem_cons_of_mem _ z)), x.closer.join y.closer, x.rel, x.neal⟩
theorem HouseAt.re {CH CO : Addr} {ex ey : List Addr} {H : Hp} {hp : Addr} {h : Sq15.House} {cv : V} {A : HA} (x : HouseAt CH CO ex H hp h cv A) (sub : ∀ b ∈ ey, b ∈ ex) : HouseAt CH CO ey H hp h cv A :=
  ⟨x.me.re sub, x.alone.re sub, x.ops.re sub, x.len, fun i a o h1 h2 => (x.op i a o h1 h2).re fun b hb => by
    rcases List.mem_cons.mp hb with z | z
    · rw [z]
      simp
    · exact List.mem_cons_of_mem _ (sub b z), x.closer.re sub, x.rel, x.neal⟩
theorem HouseAt.nil {CH CO : Addr} {ex : List Addr} {H : Hp} {hp : Addr} {h : Sq15.House} {cv : V} {A : HA} (x : HouseAt CH CO ex H hp h cv A) : HouseAt CH CO [] H hp h cv A := x.re fun b hb => by simp at hb
/-- what stands between two calls; fx: lists that are none of it -/
structure StAt (CH CO CC : Addr) (fx : List Addr) (H : Hp) (hp : Addr) (h : Sq15.House) (B : HA) (F : List Addr) : Prop where
  ok : Ok h
  pre : ∀ b ∈ fx, ∃ l, H b = some (.lst l)
  st : (h.text = [] ∧ F = [hp, B.ol, B.cl] ∧ HouseAt CH CO fx H hp h .non B) ∨
    (∃ c A, h.text ≠ [] ∧ Tab h ∧ F = [hp, B.ol, B.cl, A.wk, A.sk] ∧ A.hp = hp ∧ HouseAt CH CO fx H hp h (.ref c) B ∧ ChartAt CH CO CC H c h h.text A (.ref c) B ∧ Memo H h h.text A ∧ (A.tx ∉ fx ∧ A.dp ∉ fx ∧ A.so ∉ fx))
theorem StAt.houseF {CH CO CC : Addr} {fx : List Addr} {H : Hp} {hp : Addr} {h : Sq15.House} {B : HA} {F : List Addr} (x : StAt CH CO CC fx H hp h B F) : ∃ cv, HouseAt CH CO fx H hp h cv B := by
  rcases x.st with ⟨_, _, a⟩ | ⟨c, A, _, _, _, _, a, _⟩
  · exact ⟨_, a⟩
  · exact ⟨_, a⟩
theorem StAt.house {CH CO CC : Addr} {fx : List Addr} {H : Hp} {hp : Addr} {h : Sq15.House} {B : HA} {F : List Addr} (x : StAt CH CO CC fx H hp h B F) : ∃ cv, HouseAt CH CO [] H hp h cv B := by
  obtain ⟨cv, a⟩ := x.houseF
  exact ⟨cv, a.nil⟩
theorem StAt.out {CH CO CC : Addr} {fx : List Addr} {H : Hp} {hp : Addr} {h : Sq15.House} {B : HA} {F : List Addr} (x : StAt CH CO CC fx H hp h B F) : ∀ b ∈ fx, b ∉ F := fun b hb z => by
  obtain ⟨l, e⟩ := x.pre b hb
  rcases x.st with ⟨_, f, a⟩ | ⟨c, A, _, _, f, _, a, _, m, _⟩
  · rw [f] at z
    simp only [List.mem_cons, List.not_mem_nil, or_false] at z
    rcases z with z | z | z
    · exact a.me.2 (by rw [← z]; exact hb)
    · exact a.ops.2 (by rw [← z]; exact hb)
    · exact a.closer.2 (by rw [← z]; exact hb)
  · rw [f] at z
    obtain ⟨kw, ks, m1, m2, _⟩ := m
    simp only [List.mem_cons, List.not_mem_nil, or_false] at z
    rcases z with z | z | z | z | z
    · exact a.me.2 (by rw [← z]; exact hb)
    · exact a.ops.2 (by rw [← z]; exact hb)
    · exact a.closer.2 (by rw [← z]; exact hb)
    · rw [z, m1] at e
      cases e
    · rw [z, m2] at e
      cases e
theorem StAt.preK {CH CO CC : Addr} {fx : List Addr} {H H' : Hp} {hp : Addr} {h : Sq15.House} {B : HA} {F : List Addr} (x : StAt CH CO CC fx H hp h B F) (k : Kp F H H') : ∀ b ∈ fx, ∃ l, H' b = some (.lst l) := fun b hb => by
  obtain ⟨l, e⟩ := x.pre b hb
  exact ⟨l, k _ _ e (x.out b hb)⟩
theorem StAt.same {CH CO CC : Addr} {fx : List Addr} {H H' : Hp} {hp : Addr} {h : Sq15.House} {B : HA} {F : List Addr} (x : StAt CH CO CC fx H hp h B F) (s : Same H H') : StAt CH CO CC fx H' hp h B F := by
  refine ⟨x.ok, fun b hb => ?_, ?_⟩
  · obtain ⟨l, e⟩ := x.pre b hb
    exact ⟨l, s _ _ e⟩
  rcases x.st with ⟨a, b, c⟩ | ⟨c, A, a1, a2, a3, a4, a5, a6, a7, a8⟩
  · exact .inl ⟨a, b, c.keep (Same.kp s)⟩
  · exact .inr ⟨c, A, a1, a2, a3, a4, a5.keep (Same.kp s), a6.keep (Same.kp s), a7.keep s, a8⟩
def Told (CH CO CC : Addr) (fx : List Addr) (H : Hp) (hp : Addr) (h : Sq15.House) (F : List Addr) (c : Sq15.Call) (Q : VK) : Prop := ∀ (H' : Hp) (B' : HA) (F' : List Addr) (r : Addr), Kp F H H' → (∀ x ∈ F', x ∈ F ∨ H x = none) → StAt CH CO CC fx H' hp (h.step c).1 B' F' → H r = none → H' r = some (.lst (vi (outL (h.step c).2))) → Q (.ref r) H'
theorem Told.still {CH CO CC : Addr} {fx : List Addr} {H : Hp} {hp : Addr} {h : Sq15.House} {B : HA} {F : List Addr} {c : Sq15.Call} {Q : VK} (q : Told CH CO CC fx H hp h F c Q) (x : StAt CH CO CC fx H hp h B F) (e : (h.step c).1 = h) {H' : Hp} {r : Addr} (s : Same H H') (n : H r = none) (v : H' r = some (.lst (vi (outL (h.step c).2)))) : Q (.ref r) H' :=
  q H' B F r (Same.kp s) (fun x hx => .inl hx) (by rw [e]; exact x.same s) n v
theorem same_order {h : Sq15.House} {a b : Nat} : (h.step (.order a b)).1 = h := by
  unfold Sq15.House.step
  simp only []
  split <;> rfl
theorem same_may {h : Sq15.House} {a b c : Nat} : (h.step (.may a b c)).1 = h := by
  unfold Sq15.House.step
  simp only []
  split
  · rfl
  · split <;> rfl
theorem same_print {h : Sq15.House} {l : List Nat} : (h.step (.print l)).1 = h := by
  unfold Sq15.House.step
  simp only []
  split <;> rfl
theorem same_sure {h : Sq15.House} {l : List Nat} : (h.step (.sure l)).1 = h := by
  unfold Sq15.House.step
  simp only []
  split
  · rfl
  · split
    · rfl
    · split <;> rfl
theorem same_reading {h : Sq15.House} {k : Nat} : (h.step (.reading k)).1 = h := by
  unfold Sq15.House.step
  simp only []
  split
  · rfl
  · split <;> rfl
theorem same_tidy {h : Sq15.House} {l : List Nat} : (h.step (.tidy l)).1 = h := by
  unfold Sq15.House.step
  simp only []
  split
  · rfl
  · split
    · rfl
    · split
      · rfl
      · split
        · rfl
        · split
          · rfl
          · split <;> rfl
mutual
theorem made_with {h : Sq15.House} {l : List Nat} : ∀ e : Sq15.Ex, (h.with_ l).made e = h.made e
  | .atom _ => rfl
  | .op o ks => by
    unfold Sq15.House.made
    rw [madeAll_with ks]
    rfl
  | .paren e => by
    unfold Sq15.House.made
    exact made_with e
theorem madeAll_with {h : Sq15.House} {l : List Nat} : ∀ es : List Sq15.Ex, (h.with_ l).madeAll es = h.madeAll es
  | [] => rfl
  | e :: es => by
    unfold Sq15.House.madeAll
    rw [made_with e, madeAll_with es]
end
section
variable {P : Program} {w : World} {K : PySem.W.Frag} {mg : Str → Option Value} {base : Heap} {CH CO CC : Addr}
abbrev s_are_groups : Stmt := topS 62
abbrev N_are_groups : List Str := ["house", "one"]
theorem sc_are_groups : FnScope N_are_groups ["house", "one"] (defScope s_are_groups) := ⟨rfl, rfl, rfl, by decide +kernel, rfl, by decide +kernel, by decide +kernel⟩
-- slots: house=0 one=1
def spAreGroups (CH CO : Addr) : Sp := fun vs H Q _ => ∃ (hp op : Addr) (a b : Nat) (h : Sq15.House) (cv : V) (B : HA), vs = [.ref hp, .ref op] ∧ HouseAt CH CO [] H hp h cv B ∧ H op = some (.lst (vn [a, b])) ∧ Q (.bl (decide (a < h.groups) && decide (b < h.groups))) H
theorem lt_nat (a b : Nat) : decide ((a : Int) < (b : Int)) = decide (a < b) := by
  by_cases z : a < b
  · rw [decide_eq_true z, decide_eq_true (by omega)]
  · rw [decide_eq_false z, decide_eq_false (by omega)]
theorem ok_are_groups (T : Txt K mg CH CO CC) (D : DefAt K mg "are_groups" s_are_groups ["house", "one"]) : DefW P w K mg base 1 "are_groups" ["house", "one"] (spAreGroups CH CO) := by
  refine D.ok sc_are_groups (fun vs H Q E h => ?_) (fun f cdv A outer s H vs Q E hr h => ?_)
  · obtain ⟨hp, op, a, b, h, cv, B, rfl, _⟩ := h
    rfl
  obtain ⟨hp, op, a, b, h, cv, B, rfl, ha, ho, q⟩ := h
  refine ⟨_, (pss_one (ps_ret (pe_and (pe_cmpR op_lt (pe_ix ix_list (pv 1) pe_int (fun _ _ => rfl)) (pe_f T.flH (pv 0)) (nomark _)) (pe_one (pe_cmpR op_lt (pe_ix ix_list (pv 1) pe_int (fun _ _ => rfl)) (pe_f T.flH (pv 0)) (nomark _)))))), ?_⟩
  refine ⟨_, rfl, op, _, _, _, rfl, rfl, SqL.of ho, atI_nat (j := 0) rfl, _, rfl, hp, _, _, _, rfl, ha.me.1, rfl, _, _, rfl, rfl, _, rfl, ?_⟩
  rw [lt_nat]
  by_cases c : a < h.groups
  · rw [decide_eq_true c]
    rw [decide_eq_true c, Bool.true_and] at q
    refine iteT ⟨_, rfl, op, _, _, _, rfl, rfl, SqL.of ho, atI_nat (j := 1) rfl, _, rfl, hp, _, _, _, rfl, ha.me.1, rfl, _, _, rfl, rfl, ?_⟩
    show Q (V.bl (decide ((b : Int) < (h.groups : Int)))) H
    rw [lt_nat]
    exact q
  · rw [decide_eq_false c]
    rw [decide_eq_false c, Bool.false_and] at q
    exact iteF q
abbrev s_order : Stmt := topS 64
abbrev N_order : List Str := ["house", "one", "first", "second"]
theorem sc_order : FnScope N_order ["house", "one"] (defScope s_order) := ⟨rfl, rfl, rfl, by decide +kernel, rfl, by decide +kernel, by decide +kernel⟩
-- slots: house=0 one=1 first=2 second=3
def spOrder (CH CO : Addr) : Sp := fun vs H Q _ => ∃ (hp op : Addr) (a b : Nat) (h : Sq15.House) (cv : V) (B : HA), vs = [.ref hp, .ref op] ∧ HouseAt CH CO [] H hp h cv B ∧ H op = some (.lst (vn [a, b])) ∧
  ∀ H' r, Same H H' → H r = none → H' r = some (.lst (vi (outL (h.step (.order a b)).2))) → Q (.ref r) H'
theorem ok_order (T : Txt K mg CH CO CC) (D : DefAt K mg "order" s_order ["house", "one"]) (D_are_groups : DefW P w K mg base 1 "are_groups" ["house", "one"] (spAreGroups CH CO)) : DefW P w K mg base 2 "order" ["house", "one"] (spOrder CH CO) := by
  refine D.ok sc_order (fun vs H Q E h => ?_) (fun f cdv A outer s H vs Q E hr h => ?_)
  · obtain ⟨hp, op, a, b, h, cv, B, rfl, _⟩ := h
    rfl
  obtain ⟨hp, op, a, b, h, cv, B, rfl, ha, ho, q⟩ := h
  refine ⟨_, (pss_cons (ps_if (pt_not (pt_val (pe_d D_are_groups hr (pa_cons (pv 0) (pa_cons (pv 1) pa_nil)))))
      (pss_one (ps_ret (pe_lst (pa_cons (pe_un un_neg pe_int) pa_nil))))
      pss_nil)
      (pss_cons (ps_asg (pv 1) (pg_unl rfl (pgs_cons (pg_name (i := 2) sc_order.nd rfl (Or.inl rfl)) (pgs_cons (pg_name (i := 3) sc_order.nd rfl (Or.inl rfl)) pgs_nil))))
      (pss_cons (ps_if (pt_cmp (pc_din (hu_of hr) (pe_tup (pa_cons (pv 2) (pa_cons (pv 3) pa_nil))) (pe_f T.flH (pv 0))) rfl)
      (pss_one (ps_ret (pe_lst (pa_cons pe_int pa_nil))))
      pss_nil)
      (pss_one (ps_ret (pe_ifExp (pt_cmp (pc_din (hu_of hr) (pe_tup (pa_cons (pv 3) (pa_cons (pv 2) pa_nil))) (pe_f T.flH (pv 0))) rfl) (pe_lst (pa_cons pe_int pa_nil)) (pe_lst (pa_cons pe_int pa_nil)))))))), ?_⟩
  have st : (h.step (.order a b)).2 = if h.groups ≤ a ∨ h.groups ≤ b then Sq15.tells (-2) else Sq15.tells (if h.tighter.contains (a, b) = true then 1 else if h.tighter.contains (b, a) = true then 2 else 0) := by
    unfold Sq15.House.step
    simp only []
    split <;> rfl
  rw [st] at q
  refine ⟨_, rfl, _, rfl, hp, op, a, b, h, cv, B, rfl, ha, ho, _, rfl, ?_⟩
  by_cases c : h.groups ≤ a ∨ h.groups ≤ b
  · rw [if_pos c] at q
    rw [show (decide (a < h.groups) && decide (b < h.groups)) = false by
      rcases c with c | c
      · rw [decide_eq_false (by omega)]
        rfl
      · rw [decide_eq_false (show ¬ b < h.groups by omega), Bool.and_false]]
    refine iteT ⟨_, rfl, sz_one _, fun v hv => ?_⟩
    exact q _ v (Kp.new hv).same hv (by rw [upd_same]; rfl)
  · rw [if_neg c] at q
    rw [show (decide (a < h.groups) && decide (b < h.groups)) = true by
      rw [decide_eq_true (by omega), decide_eq_true (by omega)]
      rfl]
    refine iteF ⟨_, rfl, op, _, rfl, SqL.of ho, rfl, _, _, rfl, _, _, rfl, rfl, ?_⟩
    refine ⟨_, rfl, _, rfl, (by show 2 ≤ sizeLine; decide), fun p hp2 => ?_⟩
    have s1 : Same H (upd H p (.tup [.int a, .int b])) := (Kp.new hp2).same
    have tp : (upd H p (.tup [.int a, .int b])) p = some (.tup ((kk2 (a, b)).map kV)) := upd_same
    generalize upd H p (.tup [.int a, .int b]) = H1 at *
    refine ⟨_, rfl, hp, _, _, _, rfl, s1 _ _ ha.me.1, rfl, _, _, rfl, DGet.t (k := kk2 (a, b)) (s1 _ _ ha.closer.1) tp, _, rfl, ?_⟩
    rw [ha.rel.has]
    cases c1 : h.tighter.contains (a, b) with
    | true =>
      refine iteT ⟨sz_one _, fun v hv => ?_⟩
      refine q _ v (s1.trans (Kp.new hv).same) (s1.free hv) ?_
      rw [upd_same, c1]
      rfl
    | false =>
      refine iteF ⟨_, rfl, _, rfl, (by show 2 ≤ sizeLine; decide), fun p2 hp3 => ?_⟩
      have s2 : Same H1 (upd H1 p2 (.tup [.int b, .int a])) := (Kp.new hp3).same
      have tp2 : (upd H1 p2 (.tup [.int b, .int a])) p2 = some (.tup ((kk2 (b, a)).map kV)) := upd_same
      generalize upd H1 p2 (.tup [.int b, .int a]) = H2 at *
      have s12 := s1.trans s2
      refine ⟨_, rfl, hp, _, _, _, rfl, s12 _ _ ha.me.1, rfl, _, _, rfl, DGet.t (k := kk2 (b, a)) (s12 _ _ ha.closer.1) tp2, _, rfl, ?_⟩
      rw [ha.rel.has]
      rw [c1] at q
      cases c2 : h.tighter.contains (b, a) with
      | true =>
        refine iteT ⟨sz_one _, fun v hv => ?_⟩
        refine q _ v (s12.trans (Kp.new hv).same) (s12.free hv) ?_
        rw [upd_same, c2]
        rfl
      | false =>
        refine iteF ⟨sz_one _, fun v hv => ?_⟩
        refine q _ v (s12.trans (Kp.new hv).same) (s12.free hv) ?_
        rw [upd_same, c2]
        rfl
abbrev s_may_told : Stmt := topS 65
abbrev N_may_told : List Str := ["house", "one", "owner", "thing", "number", "many"]
theorem sc_may_told : FnScope N_may_told ["house", "one"] (defScope s_may_told) := ⟨rfl, rfl, rfl, by decide +kernel, rfl, by decide +kernel, by decide +kernel⟩
-- slots: house=0 one=1 owner=2 thing=3 number=4 many=5
def spMayTold (CH CO : Addr) : Sp := fun vs H Q _ => ∃ (hp op : Addr) (o k r : Nat) (h : Sq15.House) (cv : V) (B : HA), vs = [.ref hp, .ref op] ∧ HouseAt CH CO [] H hp h cv B ∧ Ok h ∧ H op = some (.lst (vn [o, k, r])) ∧
  ∀ H' v, Same H H' → H v = none → H' v = some (.lst (vi (outL (h.step (.may o k r)).2))) → Q (.ref v) H'
theorem ge_nat (a b : Nat) : decide ((a : Int) ≥ (b : Int)) = decide (b ≤ a) := by
  by_cases z : b ≤ a
  · rw [decide_eq_true z, decide_eq_true (by omega)]
  · rw [decide_eq_false z, decide_eq_false (by omega)]
theorem ok_may_told (T : Txt K mg CH CO CC) (D : DefAt K mg "may_told" s_may_told ["house", "one"]) (D_may : DefW P w K mg base 2 "may" ["house", "owner", "thing", "number"] (spMay CH CO)) : DefW P w K mg base 3 "may_told" ["house", "one"] (spMayTold CH CO) := by
  refine D.ok sc_may_told (fun vs H Q E h => ?_) (fun f cdv A outer s H vs Q E hr h => ?_)
  · obtain ⟨hp, op, a, b, r, h, cv, B, rfl, _⟩ := h
    rfl
  obtain ⟨hp, op, o, k, r, h, cv, B, rfl, ha, K1, ho, q⟩ := h
  refine ⟨_, (pss_cons (ps_asg (pv 1) (pg_unl rfl (pgs_cons (pg_name (i := 2) sc_may_told.nd rfl (Or.inl rfl)) (pgs_cons (pg_name (i := 3) sc_may_told.nd rfl (Or.inl rfl)) (pgs_cons (pg_name (i := 4) sc_may_told.nd rfl (Or.inl rfl)) pgs_nil)))))
      (pss_cons (ps_set (i := 5) sc_may_told.nd rfl (Or.inl rfl) (pe_callB call_len_seq (by rfl) T.n_len boot_len (pa_cons (pe_f T.flH (pv 0)) pa_nil)))
      (pss_cons (ps_if (PW.pt (pw_or (pt_cmpR op_ge (pv 2) (pv 5) (nomark _)) (pw_or (pt_cmpR op_ge (pv 4) (pv 5) (nomark _)) (pw_or1 (pt_cmpR op_ge (pv 3) (pe_callB call_len_seq (by rfl) T.n_len boot_len (pa_cons (pe_f T.flO (pe_ix ix_list (pe_f T.flH (pv 0)) (pv 2) (fun _ _ => rfl))) pa_nil)) (nomark _))))))
      (pss_one (ps_ret (pe_lst (pa_cons (pe_un un_neg pe_int) pa_nil))))
      pss_nil)
      (pss_one (ps_ret (pe_lst (pa_cons (pe_callTy call_int1 (by rfl) T.n_int (by decide +kernel) (pa_cons (pe_d D_may hr (pa_cons (pv 0) (pa_cons (pv 2) (pa_cons (pv 3) (pa_cons (pv 4) pa_nil))))) pa_nil)) pa_nil))))))), ?_⟩
  have ll : (B.as.map V.ref).length = h.ops.length := by rw [List.length_map, ha.len]
  have st : (h.step (.may o k r)).2 = match h.ops[o]? with
    | none => Sq15.tells (-2)
    | some x => if x.holes ≤ k ∨ h.ops.length ≤ r then Sq15.tells (-2) else Sq15.tells (if h.may o k (some r) = true then 1 else 0) := by
    unfold Sq15.House.step
    simp only []
    cases h.ops[o]? with
    | none => rfl
    | some x =>
      simp only []
      split <;> rfl
  rw [st] at q
  refine ⟨_, rfl, op, _, rfl, SqL.of ho, rfl, _, _, rfl, _, _, rfl, _, _, rfl, rfl, ?_⟩
  refine ⟨_, rfl, hp, _, _, _, rfl, ha.me.1, rfl, _, _, rfl, .inl ha.ops.seq, ?_⟩
  rw [ll]
  refine ⟨_, rfl, _, rfl, _, _, rfl, rfl, _, rfl, ?_⟩
  rw [ge_nat]
  have bad : (match h.ops[o]? with
    | none => Sq15.tells (-2)
    | some x => if x.holes ≤ k ∨ h.ops.length ≤ r then Sq15.tells (-2) else Sq15.tells (if h.may o k (some r) = true then 1 else 0)) = Sq15.tells (-2) → ∀ v, H v = none → Q (.ref v) (upd H v (.lst [.int (-2)])) := fun z v hv => by
    refine q _ v (Kp.new hv).same hv ?_
    rw [z, upd_same]
    rfl
  by_cases c1 : h.ops.length ≤ o
  · rw [decide_eq_true c1]
    refine iteT (iteT ⟨_, rfl, sz_one _, fun v hv => ?_⟩)
    exact bad (by rw [List.getElem?_eq_none c1]) v hv
  rw [decide_eq_false c1]
  have hx : h.ops[o]? = some h.ops[o] := List.getElem?_eq_getElem (by omega)
  generalize h.ops[o] = x at hx
  rw [hx] at q bad
  simp only [] at q bad
  refine iteF ⟨_, rfl, _, rfl, _, _, rfl, rfl, _, rfl, ?_⟩
  rw [ge_nat]
  by_cases c2 : h.ops.length ≤ r
  · rw [decide_eq_true c2]
    refine iteT (iteT ⟨_, rfl, sz_one _, fun v hv => ?_⟩)
    exact bad (by rw [if_pos (.inr c2)]) v hv
  rw [decide_eq_false c2]
  obtain ⟨oa, o0, dxo, pc, sp, o1, o2, o3⟩ := ha.opAt hx
  have lsp : (vn (spotsF 0 x.pieces)).length = x.holes := by rw [vn_len, spotsF_len, pieces_hc (K1.op_at hx).some_]
  refine iteF ⟨_, rfl, _, rfl, hp, _, _, _, rfl, ha.me.1, rfl, _, rfl, _, _, _, _, rfl, rfl, ha.ops.seq, atI_nat o0, oa, _, _, _, rfl, o1.1, rfl, _, _, rfl, .inl o3.seq, _, _, rfl, rfl, _, rfl, ?_⟩
  rw [lsp, ge_nat]
  by_cases c3 : x.holes ≤ k
  · rw [decide_eq_true c3]
    refine iteT ⟨_, rfl, sz_one _, fun v hv => ?_⟩
    exact bad (by rw [if_pos (.inl c3)]) v hv
  rw [decide_eq_false c3]
  have hy : h.ops[r]? = some h.ops[r] := List.getElem?_eq_getElem (by omega)
  refine iteF ⟨_, rfl, _, rfl, _, rfl, _, rfl, hp, o, k, r, h, cv, B, [], x, h.ops[r], rfl, ha, K1, hx, hy, by omega, fun H1 s1 => .inr ⟨_, rfl, sz_one _, fun v hv => ?_⟩⟩
  refine q _ v (s1.trans (Kp.new hv).same) (s1.free hv) ?_
  rw [upd_same, if_neg (show ¬ (x.holes ≤ k ∨ h.ops.length ≤ r) from fun z => z.elim c3 c2)]
  cases h.may o k (some r) <;> rfl
end
end Wo
end
section
set_option Elab.async false
set_option linter.all false
set_option maxRecDepth 100000
set_option maxHeartbeats 4000000
namespace Wo
open PySem PySem.Spec PyProof.Rows L2
theorem StAt.fr {CH CO CC : Addr} {fx : List Addr} {H : Hp} {hp : Addr} {h : Sq15.House} {B : HA} {F : List Addr} (x : StAt CH CO CC fx H hp h B F) : hp ∈ F ∧ B.ol ∈ F ∧ B.cl ∈ F := by
  rcases x.st with ⟨_, b, _⟩ | ⟨c, A, _, _, b, _⟩
  · rw [b]
    simp
  · rw [b]
    simp
theorem right_ne {h : Sq15.House} {l : List Nat} (r : h.right l = true) : l ≠ [] ∧ l.length ≤ 32 := by
  unfold Sq15.House.right at r
  rw [Bool.and_eq_true, Bool.and_eq_true] at r
  refine ⟨fun z => ?_, of_decide_eq_true r.2.1⟩
  rw [z] at r
  exact absurd r.1 (by simp)
/-- the house, said of another text -/
theorem HouseAt.with_ {CH CO : Addr} {ex : List Addr} {H : Hp} {hp : Addr} {h : Sq15.House} {cv : V} {B : HA} (x : HouseAt CH CO ex H hp h cv B) (l : List Nat) : HouseAt CH CO ex H hp (h.with_ l) cv B :=
  ⟨x.me, x.alone, x.ops, x.len, x.op, x.closer, x.rel, x.neal⟩
section
variable {P : Program} {w : World} {K : PySem.W.Frag} {mg : Str → Option Value} {base : Heap} {CH CO CC : Addr}
abbrev s_read : Stmt := topS 67
abbrev N_read : List Str := ["house", "row"]
theorem sc_read : FnScope N_read ["house", "row"] (defScope s_read) := ⟨rfl, rfl, rfl, by decide +kernel, rfl, by decide +kernel, by decide +kernel⟩
-- slots: house=0 row=1
def spReadC (CH CO CC : Addr) : Sp := fun vs H Q _ => ∃ (fx : List Addr) (hp rp : Addr) (l : List Nat) (h : Sq15.House) (B : HA) (F : List Addr), vs = [.ref hp, .ref rp] ∧ StAt CH CO CC fx H hp h B F ∧ H rp = some (.lst (vn l)) ∧ rp ∉ fx ∧ l.length ≤ 1024 ∧ Told CH CO CC fx H hp h F (.read l) Q
theorem ok_read (T : Txt K mg CH CO CC) (D : DefAt K mg "read" s_read ["house", "row"]) (D_is_text : DefW P w K mg base 164 "is_text" ["house", "row"] (spIsText CH CO)) (K_Chart : MakW P w K mg base CC 164 "Chart" ["self", "house", "text"] (spChartInit CH CO CC)) (M_many : MetW P w K mg base CC 164 "many" ["self"] (spMany CH CO CC)) : DefW P w K mg base 166 "read" ["house", "row"] (spReadC CH CO CC) := by
  refine D.ok sc_read (fun vs H Q E h => ?_) (fun f cdv A outer s H vs Q E hr h => ?_)
  · obtain ⟨fx, hp, rp, l, h, B, F, rfl, _⟩ := h
    rfl
  obtain ⟨fx, hp, rp, l, h, B, F, rfl, st, hrp, nrp, hl, q⟩ := h
  have hr1 := hr.mono (show 164 ≤ 165 by omega)
  refine ⟨_, (pss_cons (ps_if (pt_not (pt_val (pe_d D_is_text hr1 (pa_cons (pv 0) (pa_cons (pv 1) pa_nil)))))
      (pss_one (ps_ret (pe_lst (pa_cons (pe_un un_neg pe_int) pa_nil))))
      pss_nil)
      (pss_cons (ps_fA T.flH (pv 0) (pe_k K_Chart hr (pa_cons (pv 0) (pa_cons (pv 1) pa_nil))))
      (pss_one (ps_ret (pe_lst (pa_cons (pe_callB (call_min2 rfl) (by rfl) T.n_min (by decide +kernel) (pa_cons (pe_m0 M_many T.flC hr1 (pe_f T.flH (pv 0))) (pa_cons (pe_gi T.g_MOST_TOLD) pa_nil))) pa_nil)))))), ?_⟩
  obtain ⟨cv, haF⟩ := st.houseF
  have ha := haF.nil
  have K1 := st.ok
  obtain ⟨f1, f2, f3⟩ := st.fr
  refine ⟨_, rfl, _, rfl, hp, rp, l, h, cv, B, rfl, ha, hrp, hl, fun H1 s1 => ⟨_, rfl, ?_⟩⟩
  cases r : h.right l with
  | false =>
    have e1 : h.step (.read l) = (h, Sq15.tells (-1)) := by
      show (if h.right l = false then (h, Sq15.tells (-1)) else _) = _
      rw [if_pos r]
    refine iteT ⟨_, rfl, sz_one _, fun v hv => ?_⟩
    refine q.still st (by rw [e1]) (s1.trans (Kp.new hv).same) (s1.free hv) ?_
    rw [upd_same, e1]
    rfl
  | true =>
    obtain ⟨lne, l32⟩ := right_ne r
    have e1 : h.step (.read l) = (h.with_ l, Sq15.tells (min Sq15.MANY (h.with_ l).count : Nat)) := by
      show (if h.right l = false then (h, Sq15.tells (-1)) else (h.with_ l, Sq15.tells (min Sq15.MANY (h.with_ l).count : Nat))) = _
      rw [if_neg (by rw [r]; exact Bool.noConfusion)]
    have TB := Tab.with_ K1 l
    refine iteF ⟨_, rfl, _, rfl, fun x dx hx hdx ne => ?_⟩
    refine chart_new ((ha.keep (Same.kp s1)).with_ l) TB.ok (s1 _ _ hrp) l32 hx hdx ne fun H2 A' s2 e2 e3 e4 e9 cA mm => ⟨rfl, ?_⟩
    subst e2
    refine ⟨_, rfl, A'.hp, B.dx, _, _, rfl, cA.house.me.1, rfl, (by simp), fun H3 c3 k3 => ?_⟩
    have c3' : H3 A'.hp = some (.ins CH B.dx [("many_words", .int (h.with_ l).words), ("many_groups", .int (h.with_ l).groups), ("alone", .ref B.al), ("operators", .ref B.ol), ("closer", .ref B.cl), ("chart", .ref x)]) := c3
    have cA3 := cA.setc k3 c3'
    have hF3 := (((haF.keep (Same.kp s1)).keep (Same.kp s2)).with_ l).setc k3 c3'
    have mm3 := mm.kept cA.house.me.1 (by intro l z; cases z) k3
    refine ⟨_, rfl, A'.hp, _, _, _, rfl, c3', rfl, x, _, _, rfl, cA3.me.1, rfl, x, h.with_ l, l, A', _, B, rfl, cA3, mm3, lne, fun H4 k4 m4 => ⟨_, _, rfl, sz_one _, fun v hv => ?_⟩⟩
    have kv : Same H4 (upd H4 v (.lst [.int (if (1000000000000000000 : Int) < ((cnt (h.with_ l) l (List.range (h.with_ l).ops.length) 0 l.length : Nat) : Int) then 1000000000000000000 else ((cnt (h.with_ l) l (List.range (h.with_ l).ops.length) 0 l.length : Nat) : Int))])) := (Kp.new hv).same
    have cA4 := (cA3.keep k4).keep (Same.kp kv)
    have s12 := s1.trans s2
    have k14 : Kp F H H4 := fun b o e n => k4 _ _ (k3 _ _ (s12 _ _ e) fun z => n (by rw [List.mem_singleton.mp z]; exact f1)) fun z => by
      rcases List.mem_cons.mp z with z | z
      · rw [z, s1.free e3] at e
        cases e
      · rw [List.mem_singleton.mp z, s1.free e4] at e
        cases e
    refine q _ B [A'.hp, B.ol, B.cl, A'.wk, A'.sk] v (k14.trans (Same.kp kv)) (fun y hy => ?_) ?_ ?_ ?_
    · simp only [List.mem_cons, List.not_mem_nil, or_false] at hy
      rcases hy with rfl | rfl | rfl | rfl | rfl
      · exact .inl f1
      · exact .inl f2
      · exact .inl f3
      · exact .inr (s1.free e3)
      · exact .inr (s1.free e4)
    · rw [e1]
      have hF4 := ((cA3.house.join hF3).keep (k4.mono fun y hy => List.mem_append.mpr (.inl hy))).re (ey := fx) fun y hy => List.mem_append.mpr (.inr hy)
      refine ⟨TB.ok, st.preK (k14.trans (Same.kp kv)), .inr ⟨x, A', lne, TB, rfl, rfl, hF4.keep (Same.kp kv), cA4, m4.keep kv, fun y => nrp (by rw [← e9.2.2]; exact y), fun y => ?_, fun y => ?_⟩⟩
      · obtain ⟨o, e⟩ := st.pre _ y
        rw [s1.free e9.1] at e
        cases e
      · obtain ⟨o, e⟩ := st.pre _ y
        rw [s1.free e9.2.1] at e
        cases e
    · cases z : H v with
      | none => rfl
      | some o =>
        exfalso
        have hF : v ∈ F := by
          by_cases y : v ∈ F
          · exact y
          · have := k14 _ _ z y
            rw [hv] at this
            cases this
        have hvs := s12 _ _ z
        have v3 : v ≠ A'.hp := fun y => by
          have := (cA3.keep k4).house.me.1
          rw [← y, hv] at this
          cases this
        have h3 := k3 _ _ hvs (fun y => v3 (List.mem_singleton.mp y))
        have h4 := k4 _ _ h3 (fun y => by
          rcases List.mem_cons.mp y with y | y
          · rw [y, s1.free e3] at z
            cases z
          · rw [List.mem_singleton.mp y, s1.free e4] at z
            cases z)
        rw [hv] at h4
        cases h4
    · rw [upd_same, e1]
      have ct : (h.with_ l).count = cnt (h.with_ l) l (List.range (h.with_ l).ops.length) 0 l.length := TB.count lne
      rw [ct]
      generalize cnt (h.with_ l) l (List.range (h.with_ l).ops.length) 0 l.length = n
      have e5 : (if (1000000000000000000 : Int) < ((n : Nat) : Int) then 1000000000000000000 else ((n : Nat) : Int)) = ((min Sq15.MANY n : Nat) : Int) := by
        have M : Sq15.MANY = 1000000000000000000 := rfl
        rw [M]
        split <;> omega
      rw [e5]
      rfl
abbrev s_reading : Stmt := topS 68
abbrev N_reading : List Str := ["house", "place", "chart"]
theorem sc_reading : FnScope N_reading ["house", "place"] (defScope s_reading) := ⟨rfl, rfl, rfl, by decide +kernel, rfl, by decide +kernel, by decide +kernel⟩
-- slots: house=0 place=1 chart=2
def spReadingC (CH CO CC : Addr) : Sp := fun vs H Q _ => ∃ (fx : List Addr) (hp : Addr) (k : Nat) (h : Sq15.House) (B : HA) (F : List Addr), vs = [.ref hp, .int k] ∧ StAt CH CO CC fx H hp h B F ∧ Told CH CO CC fx H hp h F (.reading k) Q
theorem ok_reading (T : Txt K mg CH CO CC) (D : DefAt K mg "reading" s_reading ["house", "place"]) (M_many : MetW P w K mg base CC 228 "many" ["self"] (spMany CH CO CC)) (D_reading_at : DefW P w K mg base 228 "reading_at" ["chart", "sort", "begin", "end", "place"] (spRd CH CO CC 64)) : DefW P w K mg base 229 "reading" ["house", "place"] (spReadingC CH CO CC) := by
  refine D.ok sc_reading (fun vs H Q E h => ?_) (fun f cdv A outer s H vs Q E hr h => ?_)
  · obtain ⟨fx, hp, k, h, B, F, rfl, _⟩ := h
    rfl
  obtain ⟨fx, hp, k, h, B, F, rfl, st, q⟩ := h
  refine ⟨_, (pss_cons (ps_set (i := 2) sc_reading.nd rfl (Or.inl rfl) (pe_f T.flH (pv 0)))
      (pss_cons (ps_if (pt_cmp (pc_isN (pv 2)))
      (pss_one (ps_ret (pe_lst (pa_cons (pe_un un_neg pe_int) pa_nil))))
      pss_nil)
      (pss_one (ps_ret (pe_ifExp (pt_cmpR op_lt (pv 1) (pe_m0 M_many T.flC hr (pv 2)) (nomark _)) (pe_op op_cat (pe_lst (pa_cons pe_int pa_nil)) (pe_d D_reading_at hr (pa_cons (pv 2) (pa_cons pe_int (pa_cons pe_int (pa_cons (pe_callB call_len_seq (by rfl) T.n_len boot_len (pa_cons (pe_f T.flC (pv 2)) pa_nil)) (pa_cons (pv 1) pa_nil))))))) (pe_lst (pa_cons (pe_un un_neg pe_int) pa_nil))))))), ?_⟩
  have K1 := st.ok
  obtain ⟨f1, f2, f3⟩ := st.fr
  rcases st.st with ⟨tx, fe, ha⟩ | ⟨c, A', tx, TB, fe, eh, ha, cA, mm, nx⟩
  · have e1 : h.step (.reading k) = (h, Sq15.tells (-6)) := by
      show (if h.text = [] then (h, Sq15.tells (-6)) else _) = _
      rw [if_pos tx]
    refine ⟨_, rfl, hp, _, _, _, rfl, ha.me.1, rfl, _, rfl, _, rfl, ?_⟩
    refine iteT ⟨_, rfl, sz_one _, fun v hv => ?_⟩
    refine q.still st (by rw [e1]) (Kp.new hv).same hv ?_
    rw [upd_same, e1]
    rfl
  · have e1 : h.step (.reading k) = match h.reading k with
      | none => (h, Sq15.tells (-2))
      | some e => (h, ⟨0, Sq15.ints (Sq15.row e)⟩) := by
      show (if h.text = [] then (h, Sq15.tells (-6)) else match h.reading k with
        | none => (h, Sq15.tells (-2))
        | some e => (h, ⟨0, Sq15.ints (Sq15.row e)⟩)) = _
      rw [if_neg tx]
    have sh := cA.short
    have tp : 0 < h.text.length := List.length_pos_iff.mpr tx
    have st' : ∀ H', Kp A'.ex H H' → Memo H' h h.text A' → StAt CH CO CC fx H' hp h B F := fun H' k' m' => by
      have cA4 := cA.keep k'
      have kF : Kp F H H' := k'.mono fun y hy => by
        rw [fe]
        rcases List.mem_cons.mp hy with z | z
        · rw [z]
          simp
        · rw [List.mem_singleton.mp z]
          simp
      have hc := cA.house
      rw [eh] at hc
      exact ⟨K1, st.preK kF, .inr ⟨c, A', tx, TB, fe, eh, ((hc.join ha).keep (k'.mono fun y hy => List.mem_append.mpr (.inl hy))).re fun y hy => List.mem_append.mpr (.inr hy), cA4, m', nx⟩⟩
    have fin : ∀ (H' : Hp) (v : Addr) (vv : HO), Kp A'.ex H H' → Memo H' h h.text A' → H' v = none → vv = .lst (vi (outL (h.step (.reading k)).2)) → Q (.ref v) (upd H' v vv) := fun H' v vv k' m' hv e => by
      have kF : Kp F H H' := k'.mono fun y hy => by
        rw [fe]
        rcases List.mem_cons.mp hy with z | z
        · rw [z]
          simp
        · rw [List.mem_singleton.mp z]
          simp
      refine q _ B F v (kF.trans (Kp.new hv)) (fun y hy => .inl hy) ?_ ?_ ?_
      · rw [same_reading]
        exact (st' H' k' m').same (Kp.new hv).same
      · refine k'.free hv fun z => ?_
        obtain ⟨kw, ks, m1, m2, _⟩ := m'
        rcases List.mem_cons.mp z with z | z
        · rw [z, m1] at hv
          cases hv
        · rw [List.mem_singleton.mp z, m2] at hv
          cases hv
      · rw [upd_same, e]
    refine ⟨_, rfl, hp, _, _, _, rfl, ha.me.1, rfl, _, rfl, _, rfl, ?_⟩
    refine iteF ⟨_, rfl, _, rfl, c, _, _, rfl, cA.me.1, rfl, c, h, h.text, A', _, B, rfl, cA, mm, tx, fun H1 k1 m1 => ⟨_, _, rfl, rfl, _, rfl, ?_⟩⟩
    have ct := TB.count tx
    have cA1 := cA.keep k1
    rw [lt_nat, ← ct]
    by_cases z : k < h.count
    · rw [decide_eq_true z]
      obtain ⟨e, er, du, _, _⟩ := TB.reading tx z
      refine iteT ⟨sz_one _, fun l1 hl1 => ?_⟩
      have s2 : Same H1 (upd H1 l1 (.lst [.int 0])) := (Kp.new hl1).same
      have l2 : (upd H1 l1 (.lst [.int 0])) l1 = some (.lst [.int 0]) := upd_same
      generalize upd H1 l1 (.lst [.int 0]) = H2 at *
      have cA2 := cA1.keep (Same.kp s2)
      have m2 := m1.keep s2
      have l1n : l1 ∉ A'.ex := fun y => by
        obtain ⟨kw, ks, w1, w2, _⟩ := m1
        rcases List.mem_cons.mp y with y | y
        · rw [y, w1] at hl1
          cases hl1
        · rw [List.mem_singleton.mp y, w2] at hl1
          cases hl1
      refine ⟨_, rfl, _, rfl, c, _, _, _, rfl, cA2.me.1, rfl, _, _, rfl, .inl cA2.text.seq, _, rfl, ?_⟩
      rw [vn_len]
      refine ⟨c, 0, 0, h.text.length, k, h.text.length + 1, h, h.text, A', _, B, _, rfl, cA2, m2, cA2.sort0, tp, Nat.le_refl _, by rw [← ct]; exact z, by omega, by omega, fun H3 r k3 m3 rn rv => ?_⟩
      have l3 := k3 _ _ l2 l1n
      have rl := rdF_len K1 (T := h.text) (h.text.length + 1) (List.range h.ops.length) 0 h.text.length k (by omega) (by omega) (by rw [← ct]; exact z)
      refine ⟨l1, r, _, _, rfl, rfl, l3, rv, ?_, fun v hv => ?_⟩
      · rw [vn_len]
        exact Nat.le_of_lt (small_lt (by simp only [List.length_singleton]; omega))
      refine fin H3 v _ (k1.trans ((Same.kp s2).trans k3)) m3 hv ?_
      rw [e1, er]
      show HO.lst ([V.int 0] ++ vn _) = HO.lst (vi (0 :: Sq15.ints (Sq15.row e)))
      rw [du, vn_vi]
      rfl
    · rw [decide_eq_false z]
      refine iteF ⟨_, rfl, sz_one _, fun v hv => ?_⟩
      refine fin H1 v _ k1 m1 hv ?_
      rw [e1, Tab.reading_none z]
      rfl
end
end Wo
end
section
set_option Elab.async false
set_option linter.all false
set_option maxRecDepth 100000
set_option maxHeartbeats 4000000
namespace Wo
open PySem PySem.Spec PyProof.Rows L2
section
variable {P : Program} {w : World} {K : PySem.W.Frag} {mg : Str → Option Value} {base : Heap} {CH CO CC : Addr}
abbrev s_tidy : Stmt := topS 71
abbrev N_tidy : List Str := ["house", "row", "chart", "many", "numbers"]
theorem sc_tidy : FnScope N_tidy ["house", "row"] (defScope s_tidy) := ⟨rfl, rfl, rfl, by decide +kernel, rfl, by decide +kernel, by decide +kernel⟩
-- slots: house=0 row=1 chart=2 many=3 numbers=4
def spTidy (CH CO CC : Addr) : Sp := fun vs H Q _ => ∃ (hp rp : Addr) (l : List Nat) (h : Sq15.House) (B : HA) (cv : V), vs = [.ref hp, .ref rp] ∧ HouseAt CH CO [] H hp h cv B ∧ Ok h ∧ H rp = some (.lst (vn l)) ∧ l.length ≤ 1024 ∧
  ∀ H' v, Same H H' → H v = none → H' v = some (.lst (vi (outL (h.step (.tidy l)).2))) → Q (.ref v) H'
theorem ok_tidy (T : Txt K mg CH CO CC) (D : DefAt K mg "tidy" s_tidy ["house", "row"]) (D_is_text : DefW P w K mg base 228 "is_text" ["house", "row"] (spIsText CH CO)) (K_Chart : MakW P w K mg base CC 227 "Chart" ["self", "house", "text"] (spChartInit CH CO CC)) (M_many : MetW P w K mg base CC 228 "many" ["self"] (spMany CH CO CC)) (D_reading_at : DefW P w K mg base 228 "reading_at" ["chart", "sort", "begin", "end", "place"] (spRd CH CO CC 64))
    (D_without_brackets : DefW P w K mg base 228 "without_brackets" ["numbers"] spWithoutBrackets) (D_expression_of : DefW P w K mg base 228 "expression_of" ["house", "numbers"] (spExprOf CH CO)) (D_sure_told : DefW P w K mg base 228 "sure_told" ["house", "expression"] (spSureTold CH CO)) : DefW P w K mg base 229 "tidy" ["house", "row"] (spTidy CH CO CC) := by
  refine D.ok sc_tidy (fun vs H Q E h => ?_) (fun f cdv A outer s H vs Q E hr h => ?_)
  · obtain ⟨hp, rp, l, h, B, cv, rfl, _⟩ := h
    rfl
  obtain ⟨hp, rp, l, h, B, cv, rfl, ha, K1, hrp, hl, q⟩ := h
  have hr1 := hr.mono (show 228 ≤ 228 by omega)
  refine ⟨_, (pss_cons (ps_if (pt_not (pt_val (pe_d D_is_text hr1 (pa_cons (pv 0) (pa_cons (pv 1) pa_nil)))))
      (pss_one (ps_ret (pe_lst (pa_cons (pe_un un_neg pe_int) pa_nil))))
      pss_nil)
      (pss_cons (ps_set (i := 2) sc_tidy.nd rfl (Or.inl rfl) (pe_k K_Chart hr (pa_cons (pv 0) (pa_cons (pv 1) pa_nil))))
      (pss_cons (ps_set (i := 3) sc_tidy.nd rfl (Or.inl rfl) (pe_m0 M_many T.flC hr1 (pv 2)))
      (pss_cons (ps_if (pt_cmpR op_ne (pv 3) pe_int (nomark _))
      (pss_one (ps_ret (pe_ifExp (pt_cmpR op_eq (pv 3) pe_int (nomark _)) (pe_lst (pa_cons (pe_un un_neg pe_int) pa_nil)) (pe_lst (pa_cons (pe_un un_neg pe_int) pa_nil)))))
      pss_nil)
      (pss_cons (ps_set (i := 4) sc_tidy.nd rfl (Or.inl rfl) (pe_d D_without_brackets hr1 (pa_cons (pe_d D_reading_at hr1 (pa_cons (pv 2) (pa_cons pe_int (pa_cons pe_int (pa_cons (pe_callB call_len_seq (by rfl) T.n_len boot_len (pa_cons (pv 1) pa_nil)) (pa_cons pe_int pa_nil)))))) pa_nil)))
      (pss_one (ps_ret (pe_d D_sure_told hr1 (pa_cons (pv 0) (pa_cons (pe_d D_expression_of hr1 (pa_cons (pv 0) (pa_cons (pv 4) pa_nil))) pa_nil)))))))))), ?_⟩
  refine ⟨_, rfl, _, rfl, hp, rp, l, h, cv, B, rfl, ha, hrp, hl, fun H1 s1 => ⟨_, rfl, ?_⟩⟩
  have e0 : (h.step (.tidy l)).2 = if h.right l = false then Sq15.tells (-1) else if (h.with_ l).count = 0 then Sq15.tells (-2) else if 1 < (h.with_ l).count then Sq15.tells (-3) else match (h.with_ l).reading 0 with
      | none => Sq15.tells (-2)
      | some e => sureOut h (Sq15.bare e) := by
    unfold Sq15.House.step sureOut
    simp only []
    split
    · rfl
    · split
      · rfl
      · split
        · rfl
        · cases (h.with_ l).reading 0 with
          | none => rfl
          | some e =>
            simp only []
            split
            · rfl
            · cases h.sure (Sq15.bare e) <;> rfl
  rw [e0] at q
  cases r : h.right l with
  | false =>
    rw [if_pos r] at q
    refine iteT ⟨_, rfl, sz_one _, fun v hv => ?_⟩
    exact q _ v (s1.trans (Kp.new hv).same) (s1.free hv) (by rw [upd_same]; rfl)
  | true =>
    obtain ⟨lne, l32⟩ := right_ne r
    rw [if_neg (by rw [r]; exact Bool.noConfusion)] at q
    have TB := Tab.with_ K1 l
    have ct : (h.with_ l).count = cnt (h.with_ l) l (List.range (h.with_ l).ops.length) 0 l.length := TB.count lne
    have lp : 0 < l.length := List.length_pos_iff.mpr lne
    refine iteF ⟨_, rfl, _, rfl, fun x dx hx hdx ne => ?_⟩
    refine chart_new ((ha.keep (Same.kp s1)).with_ l) TB.ok (s1 _ _ hrp) l32 hx hdx ne fun H2 A' s2 e2 e3 e4 _ cA mm => ⟨rfl, ?_⟩
    refine ⟨_, rfl, x, _, _, rfl, cA.me.1, rfl, x, h.with_ l, l, A', _, B, rfl, cA, mm, lne, fun H3 k3 m3 => ?_⟩
    have s13 : Same H1 H3 := same_of ((Same.kp s2).trans k3) e3 e4
    have sH3 := s1.trans s13
    rw [← ct]
    have cA3 := cA.keep k3
    refine ⟨_, rfl, rfl, _, rfl, ?_⟩
    by_cases c1 : (h.with_ l).count = 1
    · rw [if_neg (by omega), if_neg (by omega)] at q
      obtain ⟨e, er, du, dm, dw⟩ := TB.reading lne (k := 0) (by omega)
      rw [er] at q
      simp only [] at q
      have dm2 : h.made e = true := by rw [← made_with (l := l)]; exact dm
      have bm : h.made (Sq15.bare e) = true := by rw [bare_made]; exact dm2
      have bb := bare_brackets e
      have bs : Sq15.size (Sq15.bare e) ≤ 100 := by
        have := size_wt e
        have : wt e ≤ l.length := dw
        omega
      rw [show (!decide (V.int ((h.with_ l).count : Nat) = V.int 1)) = false by rw [c1]; rfl]
      refine iteF ⟨_, rfl, _, rfl, _, _, rfl, .inl (SqL.of (sH3 _ _ hrp)), ?_⟩
      rw [vn_len]
      refine ⟨x, 0, 0, l.length, 0, l.length + 1, h.with_ l, l, A', _, B, _, rfl, cA3, m3, cA3.sort0, lp, Nat.le_refl _, by rw [← ct]; omega, by omega, by omega, fun H4 r4 k4 m4 rn rv => ?_⟩
      have s14 : Same H1 H4 := same_of ((Same.kp s2).trans (k3.trans k4)) e3 e4
      have sH4 := s1.trans s14
      have rl := rdF_len TB.ok (T := l) (l.length + 1) (List.range (h.with_ l).ops.length) 0 l.length 0 (by omega) (by omega) (by rw [← ct]; omega)
      refine ⟨r4, _, rfl, rv, by omega, fun H5 np s5 v5 => ?_⟩
      have du2 : rdF (h.with_ l) l (l.length + 1) (List.range (h.with_ l).ops.length) 0 l.length 0 = Sq15.row e := du
      rw [du2, bare_row K1 e dm2] at v5
      have sH5 := sH4.trans s5
      have rs := row_size (Sq15.bare e) bb
      refine ⟨_, rfl, _, rfl, _, rfl, hp, np, _, h, cv, B, rfl, ha.keep (Same.kp sH5), K1, v5, by omega, fun H6 p s6 pm => ?_⟩
      rw [parse_one K1 bm bb] at pm
      have sH6 := sH5.trans s6
      refine ⟨hp, p, Sq15.bare e, h, cv, B, rfl, ha.keep (Same.kp sH6), K1, bm, bb, bs, pm, fun H7 v s7 n7 v7 => ?_⟩
      exact q H7 v (sH6.trans s7) (sH6.free n7) v7
    · have d1 : decide (V.int ((h.with_ l).count : Nat) = V.int 1) = false := decide_eq_false fun y => c1 (by have := V.int.inj y; omega)
      rw [d1]
      refine iteT ⟨_, rfl, rfl, _, rfl, ?_⟩
      by_cases c0 : (h.with_ l).count = 0
      · rw [if_pos c0] at q
        rw [decide_eq_true (show V.int ((h.with_ l).count : Nat) = V.int 0 by rw [c0]; rfl)]
        refine iteT ⟨_, rfl, sz_one _, fun v hv => ?_⟩
        exact q _ v (sH3.trans (Kp.new hv).same) (sH3.free hv) (by rw [upd_same]; rfl)
      · rw [if_neg c0, if_pos (by omega)] at q
        rw [decide_eq_false (show ¬ V.int ((h.with_ l).count : Nat) = V.int 0 from fun y => c0 (by have := V.int.inj y; omega))]
        refine iteF ⟨_, rfl, sz_one _, fun v hv => ?_⟩
        exact q _ v (sH3.trans (Kp.new hv).same) (sH3.free hv) (by rw [upd_same]; rfl)
end
end Wo
end
section
set_option Elab.async false
set_option linter.all false
set_option maxRecDepth 100000
set_option maxHeartbeats 4000000
namespace Wo
open PySem PySem.Spec PyProof.Rows L2
theorem all_low (w : Nat) : ∀ l : List Nat, (l.all fun n => decide (1 < n) && decide (n < w)) = !(l.any fun a => decide (a < 2) || decide (w ≤ a))
  | [] => rfl
  | n :: l => by
    rw [List.all_cons, List.any_cons, all_low w l, Bool.not_or]
    congr 1
    by_cases a : 1 < n
    · by_cases b : n < w
      · rw [decide_eq_true a, decide_eq_true b, decide_eq_false (show ¬ n < 2 by omega), decide_eq_false (show ¬ w ≤ n by omega)]
        rfl
      · rw [decide_eq_true a, decide_eq_false b, decide_eq_false (show ¬ n < 2 by omega), decide_eq_true (show w ≤ n by omega)]
        rfl
    · rw [decide_eq_false a, decide_eq_true (show n < 2 by omega)]
      rfl
theorem low_of {w : Nat} {l : List Nat} (h : (l.any fun a => decide (a < 2) || decide (w ≤ a)) = false) : ∀ a ∈ l, 2 ≤ a ∧ a < w := fun a m => by
  have := List.any_eq_false.mp h a m
  rw [Bool.or_eq_true, not_or] at this
  have h1 : ¬ a < 2 := fun z => this.1 (decide_eq_true z)
  have h2 : ¬ w ≤ a := fun z => this.2 (decide_eq_true z)
  omega
section
variable {P : Program} {w : World} {K : PySem.W.Frag} {mg : Str → Option Value} {base : Heap} {CH CO CC : Addr}
abbrev s_begun : Stmt := topS 60
abbrev N_begun : List Str := ["house", "one", "row", "words", "groups", "word"]
theorem sc_begun : FnScope N_begun ["house", "one", "row"] (defScope s_begun) := ⟨rfl, rfl, rfl, by decide +kernel, rfl, by decide +kernel, by decide +kernel⟩
-- slots: house=0 one=1 row=2 words=3 groups=4 word=5
def spBegun (CH CO CC : Addr) : Sp := fun vs H Q _ => ∃ (fx : List Addr) (hp op rp : Addr) (wd gr : Nat) (l : List Nat) (h : Sq15.House) (B : HA) (F : List Addr), vs = [.ref hp, .ref op, .ref rp] ∧ StAt CH CO CC fx H hp h B F ∧ H op = some (.lst (vn [wd, gr])) ∧ H rp = some (.lst (vn l)) ∧ l.length ≤ 1024 ∧
  ∀ (H' : Hp) (hp' : Addr) (B' : HA) (F' : List Addr) (t r : Addr), Kp F H H' → (∀ x ∈ F', x ∈ F ∨ H x = none) → StAt CH CO CC fx H' hp' (h.step (.begin_ wd gr l)).1 B' F' → H r = none → H' t = some (.tup [.ref hp', .ref r]) → H' r = some (.lst (vi (outL (h.step (.begin_ wd gr l)).2))) → Q (.ref t) H'
theorem ok_begun (T : Txt K mg CH CO CC) (D : DefAt K mg "begun" s_begun ["house", "one", "row"]) (K_House : MakW P w K mg base CH 1 "House" ["self", "words", "groups", "things"] (spHouseInit CH CO)) : DefW P w K mg base 3 "begun" ["house", "one", "row"] (spBegun CH CO CC) := by
  refine D.ok sc_begun (fun vs H Q E h => ?_) (fun f cdv A outer s H vs Q E hr h => ?_)
  · obtain ⟨fx, hp, op, rp, wd, gr, l, h, B, F, rfl, _⟩ := h
    rfl
  obtain ⟨fx, hp, op, rp, wd, gr, l, h, B, F, rfl, st, ho, hrp, hl, q⟩ := h
  refine ⟨_, (pss_cons (ps_asg (pv 1) (pg_unl rfl (pgs_cons (pg_name (i := 3) sc_begun.nd rfl (Or.inr rfl)) (pgs_cons (pg_name (i := 4) sc_begun.nd rfl (Or.inl rfl)) pgs_nil))))
      (pss_cons (ps_if (PW.pt (pw_or (pt_not (pt_chain op_le op_le (pe_gi T.g_LEAST_WORDS) (pv 3) (pe_gi T.g_MOST_HOUSE_WORDS))) (pw_or1 (pt_not (pt_chain op_le op_le pe_int (pv 4) (pe_gi T.g_MOST_GROUPS))))))
      (pss_one (ps_ret (pe_tup (pa_cons (pv 0) (pa_cons (pe_lst (pa_cons (pe_un un_neg pe_int) pa_nil)) pa_nil)))))
      pss_nil)
      (pss_cons (ps_if (pt_not (pt_val (pe_callB (cr_all rfl) (by rfl) T.n_all (by decide +kernel) (pa_cons (pe_lc (own := [("word", 5)]) rfl sc_begun.nd (pi_list (pv 2)) (blkOk_by (own := [("word", 5)]) (N := N_begun) (sc := defScope s_begun) (by decide +kernel)) (fun _ _ _ _ _ => by exact (pg_name (i := 5) sc_begun.nd rfl (Or.inl rfl))) (fun _ _ _ _ _ => by exact pts_nil) (fun _ _ _ _ _ => by exact (pe_chain op_lt op_lt (pe_gi T.g_LAST_BRACKET) (pv 5) (pv 3)))) pa_nil))))
      (pss_one (ps_ret (pe_tup (pa_cons (pv 0) (pa_cons (pe_lst (pa_cons (pe_un un_neg pe_int) pa_nil)) pa_nil)))))
      pss_nil)
      (pss_one (ps_ret (pe_tup (pa_cons (pe_k K_House hr (pa_cons (pv 3) (pa_cons (pv 4) (pa_cons (pe_callTy call_list_of (by rfl) T.n_list (by decide +kernel) (pa_cons (pv 2) pa_nil)) pa_nil)))) (pa_cons (pe_lst (pa_cons pe_int pa_nil)) pa_nil)))))))), ?_⟩
  have e0 : h.step (.begin_ wd gr l) = if wd < 3 ∨ 64 < wd ∨ gr = 0 ∨ 16 < gr then (h, Sq15.tells (-1)) else if (l.any fun a => decide (a < 2) || decide (wd ≤ a)) = true then (h, Sq15.tells (-3)) else (⟨wd, gr, l, [], [], [], #[]⟩, Sq15.tells 0) := rfl
  have still : ∀ z, h.step (.begin_ wd gr l) = (h, Sq15.tells z) → ∀ H1, Same H H1 → ∀ v, H1 v = none → ∀ t, (upd H1 v (.lst [.int z])) t = none → Q (.ref t) (upd (upd H1 v (.lst [.int z])) t (.tup [.ref hp, .ref v])) := fun z e H1 s1 v hv t ht => by
    have s2 : Same H1 (upd H1 v (.lst [.int z])) := (Kp.new hv).same
    have v2 : (upd H1 v (.lst [.int z])) v = some (.lst [.int z]) := upd_same
    generalize upd H1 v (.lst [.int z]) = H2 at *
    have s3 := (s1.trans s2).trans (Kp.new (o := .tup [.ref hp, .ref v]) ht).same
    refine q _ hp B F t v (Same.kp s3) (fun x hx => .inl hx) (by rw [e]; exact st.same s3) (s1.free hv) upd_same ?_
    rw [upd_ne (ne_of_none v2 ht), v2, e]
    rfl
  refine ⟨_, rfl, op, _, rfl, SqL.of ho, rfl, _, _, rfl, _, _, rfl, rfl, ?_⟩
  refine ⟨_, rfl, _, _, rfl, rfl, _, rfl, ?_⟩
  by_cases c1 : wd < 3
  · rw [decide_eq_false (show ¬ (3 : Int) ≤ (wd : Int) by omega)]
    rw [if_pos (.inl c1)] at e0
    refine iteF ⟨_, rfl, iteT (iteT ⟨_, rfl, _, rfl, sz_one _, fun v hv => ⟨(by show 2 ≤ sizeLine; decide), fun t ht => ?_⟩⟩)⟩
    exact still _ e0 H (Same.refl H) v hv t ht
  rw [decide_eq_true (show (3 : Int) ≤ (wd : Int) by omega)]
  refine iteT ⟨_, _, rfl, rfl, _, rfl, ?_⟩
  by_cases c2 : 64 < wd
  · rw [decide_eq_false (show ¬ (wd : Int) ≤ 64 by omega)]
    rw [if_pos (.inr (.inl c2))] at e0
    refine iteT (iteT ⟨_, rfl, _, rfl, sz_one _, fun v hv => ⟨(by show 2 ≤ sizeLine; decide), fun t ht => ?_⟩⟩)
    exact still _ e0 H (Same.refl H) v hv t ht
  rw [decide_eq_true (show (wd : Int) ≤ 64 by omega)]
  refine iteF ⟨_, rfl, _, _, rfl, rfl, _, rfl, ?_⟩
  by_cases c3 : gr = 0
  · rw [decide_eq_false (show ¬ (1 : Int) ≤ (gr : Int) by omega)]
    rw [if_pos (.inr (.inr (.inl c3)))] at e0
    refine iteF ⟨_, rfl, iteT ⟨_, rfl, _, rfl, sz_one _, fun v hv => ⟨(by show 2 ≤ sizeLine; decide), fun t ht => ?_⟩⟩⟩
    exact still _ e0 H (Same.refl H) v hv t ht
  rw [decide_eq_true (show (1 : Int) ≤ (gr : Int) by omega)]
  refine iteT ⟨_, _, rfl, rfl, _, rfl, ?_⟩
  by_cases c4 : 16 < gr
  · rw [decide_eq_false (show ¬ (gr : Int) ≤ 16 by omega)]
    rw [if_pos (.inr (.inr (.inr c4)))] at e0
    refine iteT ⟨_, rfl, _, rfl, sz_one _, fun v hv => ⟨(by show 2 ≤ sizeLine; decide), fun t ht => ?_⟩⟩
    exact still _ e0 H (Same.refl H) v hv t ht
  rw [decide_eq_true (show (gr : Int) ≤ 16 by omega)]
  rw [if_neg (by omega)] at e0
  refine iteF ⟨_, rfl, rp, rfl, ⟨_, SqL.of hrp⟩, fun D hD => ?_⟩
  refine lc_list (K := K) (a := rp) (xs := vn l) (fun k H' => H' D = some (.lst (((l.take k).map fun n => decide (1 < n) && decide (n < wd)).map V.bl)) ∧ Same H H') ⟨upd_same, (Kp.new hD).same⟩ (fun k H' _ ⟨_, s5⟩ => SqL.of (s5 _ _ hrp)) ?_ ?_
  · rintro k y H2 hy ⟨d2, s2⟩
    obtain ⟨n, hn2, rfl⟩ := vn_item hy
    refine ⟨rfl, ?_⟩
    have fin : ∀ b : Bool, b = (decide (1 < n) && decide (n < wd)) → ∃ acc, H2 D = some (.lst acc) ∧ acc.length < sizeLine ∧ ((upd H2 D (.lst (acc ++ [V.bl b]))) D = some (.lst (((l.take (k + 1)).map fun n => decide (1 < n) && decide (n < wd)).map V.bl)) ∧ Same H (upd H2 D (.lst (acc ++ [V.bl b])))) := fun b eb => by
      refine ⟨_, d2, ?_, ?_, fun a u e => ?_⟩
      · rw [List.length_map, List.length_map, List.length_take]
        exact small_lt (by omega)
      · rw [upd_same, take_succ' hn2, List.map_append, List.map_append, eb]
        rfl
      · rw [upd_ne (ne_of_none e hD)]
        exact s2 _ _ e
    refine ⟨_, rfl, _, _, rfl, rfl, _, rfl, ?_⟩
    by_cases d : 1 < n
    · rw [decide_eq_true (show (1 : Int) < (n : Int) by omega)]
      refine iteT ⟨_, rfl, _, _, rfl, rfl, ?_⟩
      refine fin (decide ((n : Int) < (wd : Int))) ?_
      rw [lt_nat, decide_eq_true d, Bool.true_and]
    · rw [decide_eq_false (show ¬ (1 : Int) < (n : Int) by omega)]
      refine iteF (fin false ?_)
      rw [decide_eq_false d, Bool.false_and]
  rintro H1 ⟨d1, s1⟩
  rw [vn_len, List.take_length] at d1
  refine ⟨D, _, rfl, SqL.of d1, _, rfl, ?_⟩
  have e4 : (l.map fun n => decide (1 < n) && decide (n < wd)).all id = !(l.any fun a => decide (a < 2) || decide (wd ≤ a)) := by
    rw [← all_low, List.all_map]
    rfl
  rw [e4]
  cases z : (l.any fun a => decide (a < 2) || decide (wd ≤ a)) with
  | true =>
    rw [if_pos z] at e0
    refine iteT ⟨_, rfl, _, rfl, sz_one _, fun v hv => ⟨(by show 2 ≤ sizeLine; decide), fun t ht => ?_⟩⟩
    exact still _ e0 H1 s1 v hv t ht
  | false =>
    rw [if_neg (by rw [z]; exact Bool.false_ne_true)] at e0
    refine iteF ⟨_, rfl, _, rfl, _, rfl, rp, _, rfl, .inl (SqL.of (s1 _ _ hrp)), fun al hal => fun x dx hx hdx ne => ?_⟩
    have s2 : Same H1 (upd H1 al (.lst (vn l))) := (Kp.new hal).same
    have a2 : (upd H1 al (.lst (vn l))) al = some (.lst (vn l)) := upd_same
    generalize upd H1 al (.lst (vn l)) = H2 at *
    have s3 : Same H2 (upd H2 dx (.own x)) := (Kp.new hdx).same
    have hx1 : (upd H2 dx (.own x)) x = none := by rw [upd_ne (fun z => ne z.symm)]; exact hx
    have s4 : Same (upd H2 dx (.own x)) (upd (upd H2 dx (.own x)) x (.ins CH dx [])) := (Kp.new hx1).same
    have x4 : (upd (upd H2 dx (.own x)) x (.ins CH dx [])) x = some (.ins CH dx []) := upd_same
    generalize upd (upd H2 dx (.own x)) x (.ins CH dx []) = H3 at *
    have s13 := s2.trans (s3.trans s4)
    have sH3 := s1.trans s13
    have xH : H x = none := (s1.trans s2).free hx
    refine ⟨x, dx, al, wd, gr, l, rfl, x4, (s3.trans s4) _ _ a2, fun H4 B' k4 n1 n2 n3 hB => ⟨rfl, ?_⟩⟩
    have sH4 : Same H H4 := fun b o e => k4 _ _ (sH3 _ _ e) fun z => by
      rw [List.mem_singleton.mp z, xH] at e
      cases e
    refine ⟨sz_one _, fun v hv => ⟨(by show 2 ≤ sizeLine; decide), fun t ht => ?_⟩⟩
    have s5 : Same H4 (upd H4 v (.lst [.int 0])) := (Kp.new hv).same
    have v5 : (upd H4 v (.lst [.int 0])) v = some (.lst [.int 0]) := upd_same
    generalize upd H4 v (.lst [.int 0]) = H5 at *
    have s6 : Same H5 (upd H5 t (.tup [.ref x, .ref v])) := (Kp.new ht).same
    have sH6 := sH4.trans (s5.trans s6)
    refine q _ x B' [x, B'.ol, B'.cl] t v (Same.kp sH6) (fun y hy => ?_) ?_ (sH4.free hv) upd_same ?_
    · simp only [List.mem_cons, List.not_mem_nil, or_false] at hy
      rcases hy with rfl | rfl | rfl
      · exact .inr xH
      · exact .inr (sH3.free n1)
      · exact .inr (sH3.free n2)
    · rw [e0]
      refine ⟨⟨by show 3 ≤ wd; omega, by show wd ≤ 64; omega, by show 1 ≤ gr; omega, by show gr ≤ 16; omega, low_of z, fun x hx => by simp at hx, by show 0 ≤ 24; omega, fun p hp => by simp at hp, List.nodup_nil⟩, fun b hb => ?_, .inl ⟨rfl, rfl, HouseAt.keep ?_ (Same.kp (s5.trans s6))⟩⟩
      · obtain ⟨o, e⟩ := st.pre b hb
        exact ⟨o, sH6 _ _ e⟩
      · have out : ∀ a, H a = none → a ∉ fx := fun a e y => by
          obtain ⟨o, e1⟩ := st.pre a y
          rw [e] at e1
          cases e1
        exact ⟨⟨hB.me.1, out _ xH⟩, ⟨hB.alone.1, out _ (by rw [n3]; exact s1.free hal)⟩, ⟨hB.ops.1, out _ (sH3.free n1)⟩, hB.len, fun i a y _ h2 => by simp at h2, ⟨hB.closer.1, out _ (sH3.free n2)⟩, hB.rel, hB.neal⟩
    · rw [upd_ne (ne_of_none v5 ht), v5, e0]
      rfl
end
end Wo
end
section
set_option Elab.async false
set_option linter.all false
set_option maxRecDepth 100000
set_option maxHeartbeats 4000000
namespace Wo
open PySem PySem.Spec PyProof.Rows L2
section
variable {P : Program} {w : World} {K : PySem.W.Frag} {mg : Str → Option Value} {base : Heap} {CH CO CC : Addr}
abbrev s_op : Stmt := topS 61
abbrev N_op : List Str := ["house", "one", "row", "way", "group", "word"]
theorem sc_op : FnScope N_op ["house", "one", "row"] (defScope s_op) := ⟨rfl, rfl, rfl, by decide +kernel, rfl, by decide +kernel, by decide +kernel⟩
-- slots: house=0 one=1 row=2 way=3 group=4 word=5
def spOpC (CH CO CC : Addr) : Sp := fun vs H Q _ => ∃ (fx : List Addr) (hp op rp : Addr) (wy gr : Nat) (l : List Nat) (h : Sq15.House) (B : HA) (F : List Addr), vs = [.ref hp, .ref op, .ref rp] ∧ StAt CH CO CC fx H hp h B F ∧ H op = some (.lst (vn [wy, gr])) ∧ H rp = some (.lst (vn l)) ∧ l.length ≤ 1024 ∧ Told CH CO CC fx H hp h F (.op wy gr l) Q
theorem gt_nat (a b : Nat) : decide ((a : Int) > (b : Int)) = decide (b < a) := by
  by_cases z : b < a
  · rw [decide_eq_true z, decide_eq_true (by omega)]
  · rw [decide_eq_false z, decide_eq_false (by omega)]
theorem ok_op (T : Txt K mg CH CO CC) (D : DefAt K mg "op" s_op ["house", "one", "row"]) (K_Operator : MakW P w K mg base CO 2 "Operator" ["self", "way", "group", "words"] (spOpInit CO)) : DefW P w K mg base 4 "op" ["house", "one", "row"] (spOpC CH CO CC) := by
  refine D.ok sc_op (fun vs H Q E h => ?_) (fun f cdv A outer s H vs Q E hr h => ?_)
  · obtain ⟨fx, hp, op, rp, wd, gr, l, h, B, F, rfl, _⟩ := h
    rfl
  obtain ⟨fx, hp, op, rp, wy, gr, l, h, B, F, rfl, st, ho, hrp, hl, q⟩ := h
  refine ⟨_, (pss_cons (ps_asg (pv 1) (pg_unl rfl (pgs_cons (pg_name (i := 3) sc_op.nd rfl (Or.inl rfl)) (pgs_cons (pg_name (i := 4) sc_op.nd rfl (Or.inl rfl)) pgs_nil))))
      (pss_cons (ps_if (PW.pt (pw_or (pt_cmpR op_gt (pv 3) (pe_gi T.g_MOST_WAY) (nomark _)) (pw_or1 (pt_cmpR op_ge (pv 4) (pe_f T.flH (pv 0)) (nomark _)))))
      (pss_one (ps_ret (pe_lst (pa_cons (pe_un un_neg pe_int) pa_nil))))
      pss_nil)
      (pss_cons (ps_if (PW.pt (pw_or (pt_not (pt_chain op_le op_le pe_int (pe_callB call_len_seq (by rfl) T.n_len boot_len (pa_cons (pv 2) pa_nil)) (pe_gi T.g_MOST_OWN))) (pw_or1 (pt_not (pt_val (pe_callB (cr_all rfl) (by rfl) T.n_all (by decide +kernel) (pa_cons (pe_lc (own := [("word", 5)]) rfl sc_op.nd (pi_list (pv 2)) (blkOk_by (own := [("word", 5)]) (N := N_op) (sc := defScope s_op) (by decide +kernel)) (fun _ _ _ _ _ => by exact (pg_name (i := 5) sc_op.nd rfl (Or.inl rfl))) (fun _ _ _ _ _ => by exact pts_nil) (fun _ _ _ _ _ => by exact (pe_chain op_lt op_lt (pe_gi T.g_LAST_BRACKET) (pv 5) (pe_f T.flH (pv 0))))) pa_nil)))))))
      (pss_one (ps_ret (pe_lst (pa_cons (pe_un un_neg pe_int) pa_nil))))
      pss_nil)
      (pss_cons (ps_if (pt_cmpR op_eq (pe_callB call_len_seq (by rfl) T.n_len boot_len (pa_cons (pe_f T.flH (pv 0)) pa_nil)) (pe_gi T.g_MOST_OPERATORS) (nomark _))
      (pss_one (ps_ret (pe_lst (pa_cons (pe_un un_neg pe_int) pa_nil))))
      pss_nil)
      (pss_cons (ps_expr (pe_bm PySem.F.plainAttrs_list PySem.F.slot_list_append PySem.F.type_list_append mt_append (pe_f T.flH (pv 0)) (pa_cons (pe_k K_Operator hr (pa_cons (pv 3) (pa_cons (pv 4) (pa_cons (pv 2) pa_nil)))) pa_nil)))
      (pss_cons (ps_fA T.flH (pv 0) pe_non)
      (pss_one (ps_ret (pe_lst (pa_cons (pe_op op_sub (pe_callB call_len_seq (by rfl) T.n_len boot_len (pa_cons (pe_f T.flH (pv 0)) pa_nil)) pe_int) pa_nil)))))))))), ?_⟩
  obtain ⟨cv, haF⟩ := st.houseF
  have ha := haF
  have K1 := st.ok
  obtain ⟨f1, f2, f3⟩ := st.fr
  have e0 : h.step (.op wy gr l) = if 5 < wy ∨ h.groups ≤ gr then (h, Sq15.tells (-1)) else if l = [] ∨ 6 < l.length ∨ (l.any fun a => decide (a < 2) || decide (h.words ≤ a)) = true then (h, Sq15.tells (-3)) else if 24 ≤ h.ops.length then (h, Sq15.tells (-5)) else
    ({ h.gone with ops := h.ops ++ [⟨wy, gr, l⟩] }, Sq15.tells (h.ops.length : Nat)) := rfl
  have still : ∀ z, h.step (.op wy gr l) = (h, Sq15.tells z) → ∀ H1, Same H H1 → ∀ v, H1 v = none → Q (.ref v) (upd H1 v (.lst [.int z])) := fun z e H1 s1 v hv => by
    refine q.still st (by rw [e]) (s1.trans (Kp.new hv).same) (s1.free hv) ?_
    rw [upd_same, e]
    rfl
  have ll : (B.as.map V.ref).length = h.ops.length := by rw [List.length_map, ha.len]
  refine ⟨_, rfl, op, _, rfl, SqL.of ho, rfl, _, _, rfl, _, _, rfl, rfl, ?_⟩
  refine ⟨_, rfl, _, _, rfl, rfl, _, rfl, ?_⟩
  by_cases c1 : 5 < wy
  · rw [decide_eq_true (show (wy : Int) > 5 by omega)]
    rw [if_pos (.inl c1)] at e0
    refine iteT (iteT ⟨_, rfl, sz_one _, fun v hv => still _ e0 H (Same.refl H) v hv⟩)
  rw [decide_eq_false (show ¬ (wy : Int) > 5 by omega)]
  refine iteF ⟨_, rfl, _, rfl, hp, _, _, _, rfl, ha.me.1, rfl, _, _, rfl, rfl, _, rfl, ?_⟩
  rw [ge_nat]
  by_cases c2 : h.groups ≤ gr
  · rw [decide_eq_true c2]
    rw [if_pos (.inr c2)] at e0
    refine iteT ⟨_, rfl, sz_one _, fun v hv => still _ e0 H (Same.refl H) v hv⟩
  rw [decide_eq_false c2]
  rw [if_neg (by omega)] at e0
  refine iteF ⟨_, rfl, _, _, rfl, .inl (SqL.of hrp), _, _, rfl, rfl, _, rfl, ?_⟩
  rw [vn_len]
  by_cases c3 : l = []
  · rw [decide_eq_false (show ¬ (1 : Int) ≤ ((l.length : Nat) : Int) by rw [c3]; simp)]
    rw [if_pos (.inl c3)] at e0
    refine iteF ⟨_, rfl, iteT (iteT ⟨_, rfl, sz_one _, fun v hv => still _ e0 H (Same.refl H) v hv⟩)⟩
  have lp : 0 < l.length := List.length_pos_iff.mpr c3
  rw [decide_eq_true (show (1 : Int) ≤ ((l.length : Nat) : Int) by omega)]
  refine iteT ⟨_, _, rfl, rfl, _, rfl, ?_⟩
  by_cases c4 : 6 < l.length
  · rw [decide_eq_false (show ¬ ((l.length : Nat) : Int) ≤ 6 by omega)]
    rw [if_pos (.inr (.inl c4))] at e0
    refine iteT (iteT ⟨_, rfl, sz_one _, fun v hv => still _ e0 H (Same.refl H) v hv⟩)
  rw [decide_eq_true (show ((l.length : Nat) : Int) ≤ 6 by omega)]
  refine iteF ⟨_, rfl, rp, rfl, ⟨_, SqL.of hrp⟩, fun D hD => ?_⟩
  refine lc_list (K := K) (a := rp) (xs := vn l) (fun k H' => H' D = some (.lst (((l.take k).map fun n => decide (1 < n) && decide (n < h.words)).map V.bl)) ∧ Same H H') ⟨upd_same, (Kp.new hD).same⟩ (fun k H' _ ⟨_, s5⟩ => SqL.of (s5 _ _ hrp)) ?_ ?_
  · rintro k y H2 hy ⟨d2, s2⟩
    obtain ⟨n, hn2, rfl⟩ := vn_item hy
    refine ⟨rfl, ?_⟩
    have fin : ∀ b : Bool, b = (decide (1 < n) && decide (n < h.words)) → ∃ acc, H2 D = some (.lst acc) ∧ acc.length < sizeLine ∧ ((upd H2 D (.lst (acc ++ [V.bl b]))) D = some (.lst (((l.take (k + 1)).map fun n => decide (1 < n) && decide (n < h.words)).map V.bl)) ∧ Same H (upd H2 D (.lst (acc ++ [V.bl b])))) := fun b eb => by
      refine ⟨_, d2, ?_, ?_, fun a u e => ?_⟩
      · rw [List.length_map, List.length_map, List.length_take]
        exact small_lt (by omega)
      · rw [upd_same, take_succ' hn2, List.map_append, List.map_append, eb]
        rfl
      · rw [upd_ne (ne_of_none e hD)]
        exact s2 _ _ e
    refine ⟨_, rfl, _, _, rfl, rfl, _, rfl, ?_⟩
    by_cases d : 1 < n
    · rw [decide_eq_true (show (1 : Int) < (n : Int) by omega)]
      refine iteT ⟨_, rfl, hp, _, _, _, rfl, s2 _ _ ha.me.1, rfl, _, _, rfl, rfl, ?_⟩
      refine fin (decide ((n : Int) < (h.words : Int))) ?_
      rw [lt_nat, decide_eq_true d, Bool.true_and]
    · rw [decide_eq_false (show ¬ (1 : Int) < (n : Int) by omega)]
      refine iteF (fin false ?_)
      rw [decide_eq_false d, Bool.false_and]
  rintro H1 ⟨d1, s1⟩
  rw [vn_len, List.take_length] at d1
  refine ⟨D, _, rfl, SqL.of d1, _, rfl, ?_⟩
  have e4 : (l.map fun n => decide (1 < n) && decide (n < h.words)).all id = !(l.any fun a => decide (a < 2) || decide (h.words ≤ a)) := by
    rw [← all_low, List.all_map]
    rfl
  rw [e4]
  cases z : (l.any fun a => decide (a < 2) || decide (h.words ≤ a)) with
  | true =>
    rw [if_pos (.inr (.inr z))] at e0
    refine iteT ⟨_, rfl, sz_one _, fun v hv => still _ e0 H1 s1 v hv⟩
  | false =>
    rw [if_neg (show ¬ (l = [] ∨ 6 < l.length ∨ (l.any fun a => decide (a < 2) || decide (h.words ≤ a)) = true) from fun y => by
      rcases y with y | y | y
      · exact c3 y
      · exact c4 y
      · rw [z] at y
        cases y)] at e0
    have h1 := ha.keep (Same.kp s1)
    refine iteF ⟨_, rfl, hp, _, _, _, rfl, h1.me.1, rfl, _, _, rfl, .inl h1.ops.seq, rfl, _, rfl, ?_⟩
    rw [ll]
    by_cases c5 : 24 ≤ h.ops.length
    · rw [if_pos c5] at e0
      have c6 : h.ops.length = 24 := Nat.le_antisymm K1.few c5
      rw [decide_eq_true (show V.int ((h.ops.length : Nat) : Int) = V.int 24 by rw [c6]; rfl)]
      refine iteT ⟨_, rfl, sz_one _, fun v hv => still _ e0 H1 s1 v hv⟩
    rw [if_neg c5] at e0
    rw [decide_eq_false (show ¬ V.int ((h.ops.length : Nat) : Int) = V.int 24 from fun y => by have := V.int.inj y; omega)]
    refine iteF ⟨_, rfl, hp, _, _, _, rfl, h1.me.1, rfl, .inl ⟨rfl, _, h1.ops.seq⟩, _, rfl, _, rfl, _, rfl, fun x dx hx hdx ne => ?_⟩
    have s3 : Same H1 (upd H1 dx (.own x)) := (Kp.new hdx).same
    have hx1 : (upd H1 dx (.own x)) x = none := by rw [upd_ne (fun z => ne z.symm)]; exact hx
    have s4 : Same (upd H1 dx (.own x)) (upd (upd H1 dx (.own x)) x (.ins CO dx [])) := (Kp.new hx1).same
    have x4 : (upd (upd H1 dx (.own x)) x (.ins CO dx [])) x = some (.ins CO dx []) := upd_same
    generalize upd (upd H1 dx (.own x)) x (.ins CO dx []) = H2 at *
    have s12 := s3.trans s4
    have sH2 := s1.trans s12
    have h2 := h1.keep (Same.kp s12)
    have xH : H x = none := s1.free hx
    have x1 : ∀ {a : Addr} {o : HO}, H1 a = some o → a ≠ x := fun e y => by
      rw [y, hx] at e
      cases e
    refine ⟨x, dx, rp, ⟨wy, gr, l⟩, rfl, x4, sH2 _ _ hrp, by show wy ≤ 5; omega, by show l.length ≤ 6; omega, fun H3 k3 oat => ⟨rfl, ?_⟩⟩
    have s13 : Same H1 H3 := fun b o e => k3 _ _ (s12 _ _ e) fun z => x1 e (List.mem_singleton.mp z)
    have h3 := h1.keep (Same.kp s13)
    have oat3 := oat (B.ol :: fx) (fun b hb => by
      rcases List.mem_cons.mp hb with hb | hb
      · rw [hb]
        exact ⟨⟨_, h2.ops.1⟩, x1 h1.ops.1⟩
      · obtain ⟨o, e⟩ := st.pre b hb
        exact ⟨⟨_, sH2 _ _ e⟩, x1 (s1 _ _ e)⟩)
    refine ⟨B.ol, _, _, rfl, rfl, h3.ops.1, by rw [ll]; exact small_lt (by omega), ?_⟩
    have k4 : Kp [B.ol] H3 (upd H3 B.ol (.lst (B.as.map V.ref ++ [.ref x]))) := Kp.put (by simp)
    have ol4 : (upd H3 B.ol (.lst (B.as.map V.ref ++ [.ref x]))) B.ol = some (.lst ((B.as ++ [x]).map V.ref)) := by
      rw [upd_same, List.map_append]
      rfl
    generalize upd H3 B.ol (.lst (B.as.map V.ref ++ [.ref x])) = H4 at *
    have me4 := h3.me.kept h3.ops.1 (by intro z; cases z) k4
    refine ⟨_, rfl, hp, _, _, _, rfl, me4.1, rfl, (by simp), fun H5 c5' k5 => ?_⟩
    have c5 : H5 hp = some (.ins CH B.dx [("many_words", .int h.words), ("many_groups", .int h.groups), ("alone", .ref B.al), ("operators", .ref B.ol), ("closer", .ref B.cl), ("chart", .non)]) := c5'
    have ol5 : H5 B.ol = some (.lst ((B.as ++ [x]).map V.ref)) := k5 _ _ ol4 fun z => by
      have := me4.1
      rw [← List.mem_singleton.mp z, ol4] at this
      cases this
    refine ⟨_, rfl, hp, _, _, _, rfl, c5, rfl, _, _, rfl, .inl (SqL.of ol5), _, _, rfl, rfl, sz_one _, fun v hv => ?_⟩
    have s6 : Same H5 (upd H5 v (.lst [.int (((((B.as ++ [x]).map V.ref).length : Nat) : Int) - 1)])) := (Kp.new hv).same
    have kH5 : Kp F H H5 := fun b o e n => k5 _ _ (k4 _ _ (s13 _ _ (s1 _ _ e)) fun z => n (by rw [List.mem_singleton.mp z]; exact f2)) fun z => n (by rw [List.mem_singleton.mp z]; exact f1)
    refine q _ ⟨B.dx, B.al, B.ol, B.cl, B.as ++ [x], B.kvs⟩ [hp, B.ol, B.cl] v (kH5.trans (Same.kp s6)) (fun y hy => ?_) ?_ ?_ ?_
    · simp only [List.mem_cons, List.not_mem_nil, or_false] at hy
      rcases hy with rfl | rfl | rfl
      · exact .inl f1
      · exact .inl f2
      · exact .inl f3
    · rw [e0]
      have nins : ∀ (dx : Addr) (v1 v2 v3 v4 : V) (u : HO), u = .ins CH B.dx [("many_words", .int h.words), ("many_groups", .int h.groups), ("alone", .ref B.al), ("operators", .ref B.ol), ("closer", .ref B.cl), ("chart", cv)] → HO.ins CO dx [("way", v1), ("group", v2), ("pieces", v3), ("spots", v4)] ≠ u := fun _ _ _ _ _ u hu z => by
        rw [hu] at z
        have := congrArg (fun o => match o with | HO.ins _ _ fs => fs.length | _ => 0) z
        simp at this
      have al4 : At fx H4 B.al (.lst (vn h.atoms)) := ⟨k4 _ _ h3.alone.1 (fun z => ha.neal (List.mem_singleton.mp z)), h3.alone.2⟩
      have k4x : Kp (B.ol :: fx) H3 H4 := k4.mono fun y hy => by
        rw [List.mem_singleton.mp hy]
        simp
      have hh : HouseAt CH CO fx H5 hp { h.gone with ops := h.ops ++ [⟨wy, gr, l⟩] } .non ⟨B.dx, B.al, B.ol, B.cl, B.as ++ [x], B.kvs⟩ := by
        refine ⟨⟨c5, me4.2⟩, al4.kept me4.1 (by intro z; cases z) k5, ⟨ol5, h3.ops.2⟩, ?_, fun i a y g1 g2 => ?_, (h3.closer.kept h3.ops.1 (by intro z; cases z) k4).kept me4.1 (by intro z; cases z) k5, ha.rel, ha.neal⟩
        · show (B.as ++ [x]).length = (h.ops ++ [_]).length
          rw [List.length_append, List.length_append, ha.len]
          rfl
        · have g1' : (B.as ++ [x])[i]? = some a := g1
          have g2' : (h.ops ++ [⟨wy, gr, l⟩])[i]? = some y := g2
          have al := ha.len
          have key : OpAt CO (B.ol :: fx) H4 a y := by
            by_cases ci : i < B.as.length
            · rw [List.getElem?_append_left ci] at g1'
              rw [List.getElem?_append_left (by omega)] at g2'
              exact (h3.op i a y g1' g2').keep k4x
            · rw [List.getElem?_append_right (by omega)] at g1'
              rw [List.getElem?_append_right (by omega), ← al] at g2'
              cases ei : i - B.as.length with
              | zero =>
                rw [ei] at g1' g2'
                cases g1'
                cases g2'
                exact oat3.keep k4x
              | succ m =>
                rw [ei] at g1'
                simp at g1'
          exact key.kept me4.1 (by intro l z; cases z) (fun _ _ _ _ _ => nins _ _ _ _ _ _ rfl) k5
      refine ⟨⟨K1.w3, K1.w64, K1.g1, K1.g16, K1.atoms, fun y hy => ?_, ?_, K1.tin, K1.tnd⟩, st.preK (kH5.trans (Same.kp s6)), .inl ⟨rfl, rfl, hh.keep (Same.kp s6)⟩⟩
      · rcases List.mem_append.mp hy with hy | hy
        · exact K1.ops y hy
        · rw [List.mem_singleton.mp hy]
          exact ⟨by show wy ≤ 5; omega, by show gr < h.groups; omega, c3, by show l.length ≤ 6; omega, low_of z⟩
      · show (h.ops ++ [_]).length ≤ 24
        rw [List.length_append, List.length_singleton]
        omega
    · cases y : H v with
      | none => rfl
      | some o =>
        exfalso
        have y3 := s13 _ _ (s1 _ _ y)
        have y4 := k4 _ _ y3 fun u => by
          rw [List.mem_singleton.mp u, ol5] at hv
          cases hv
        have y5 := k5 _ _ y4 fun u => by
          rw [List.mem_singleton.mp u, c5] at hv
          cases hv
        rw [hv] at y5
        cases y5
    · rw [upd_same, e0]
      have e7 : ((((B.as ++ [x]).map V.ref).length : Nat) : Int) - 1 = ((h.ops.length : Nat) : Int) := by
        rw [List.length_map, List.length_append, List.length_singleton, ha.len]
        omega
      show some (HO.lst [V.int (((((B.as ++ [x]).map V.ref).length : Nat) : Int) - 1)]) = _
      rw [e7]
      rfl
end
end Wo
end
section
set_option Elab.async false
set_option linter.all false
set_option maxRecDepth 100000
set_option maxHeartbeats 4000000
namespace Wo
open PySem PySem.Spec PyProof.Rows L2
theorem Closer.len {kvs : List (List Key × V)} {t : List (Nat × Nat)} (c : Closer kvs t) (nd : t.Nodup) : kvs.length = t.length := by
  obtain ⟨ps, e, n, m⟩ := c
  rw [← List.length_map (f := (·.1)), e, List.length_map]
  exact nd_same n nd m
inductive IsCall : Nat → List Nat → List Nat → Sq15.Call → Prop
  | op (a b : Nat) (l : List Nat) : IsCall 2 [a, b] l (.op a b l)
  | tighter (a b : Nat) (l : List Nat) : IsCall 3 [a, b] l (.tighter a b)
  | order (a b : Nat) (l : List Nat) : IsCall 4 [a, b] l (.order a b)
  | may (a b c : Nat) (l : List Nat) : IsCall 5 [a, b, c] l (.may a b c)
  | read (l : List Nat) : IsCall 6 [] l (.read l)
  | reading (k : Nat) (l : List Nat) : IsCall 7 [k] l (.reading k)
  | print (l : List Nat) : IsCall 8 [] l (.print l)
  | sure (l : List Nat) : IsCall 9 [] l (.sure l)
  | tidy (l : List Nat) : IsCall 10 [] l (.tidy l)
section
variable {P : Program} {w : World} {K : PySem.W.Frag} {mg : Str → Option Value} {base : Heap} {CH CO CC : Addr}
abbrev s_tighter : Stmt := topS 63
abbrev N_tighter : List Str := ["house", "one", "first", "second"]
theorem sc_tighter : FnScope N_tighter ["house", "one"] (defScope s_tighter) := ⟨rfl, rfl, rfl, by decide +kernel, rfl, by decide +kernel, by decide +kernel⟩
-- slots: house=0 one=1 first=2 second=3
def spTighterC (CH CO CC : Addr) : Sp := fun vs H Q _ => ∃ (fx : List Addr) (hp op : Addr) (a b : Nat) (h : Sq15.House) (B : HA) (F : List Addr), vs = [.ref hp, .ref op] ∧ StAt CH CO CC fx H hp h B F ∧ H op = some (.lst (vn [a, b])) ∧ Told CH CO CC fx H hp h F (.tighter a b) Q
theorem ok_tighter (T : Txt K mg CH CO CC) (D : DefAt K mg "tighter" s_tighter ["house", "one"]) (D_are_groups : DefW P w K mg base 1 "are_groups" ["house", "one"] (spAreGroups CH CO)) (D_put_closer : DefW P w K mg base 1 "put_closer" ["house", "first", "second"] (spPutCloser CH CO)) : DefW P w K mg base 2 "tighter" ["house", "one"] (spTighterC CH CO CC) := by
  refine D.ok sc_tighter (fun vs H Q E h => ?_) (fun f cdv A outer s H vs Q E hr h => ?_)
  · obtain ⟨fx, hp, op, a, b, h, B, F, rfl, _⟩ := h
    rfl
  obtain ⟨fx, hp, op, a, b, h, B, F, rfl, st, ho, q⟩ := h
  refine ⟨_, (pss_cons (ps_if (pt_not (pt_val (pe_d D_are_groups hr (pa_cons (pv 0) (pa_cons (pv 1) pa_nil)))))
      (pss_one (ps_ret (pe_lst (pa_cons (pe_un un_neg pe_int) pa_nil))))
      pss_nil)
      (pss_cons (ps_asg (pv 1) (pg_unl rfl (pgs_cons (pg_name (i := 2) sc_tighter.nd rfl (Or.inl rfl)) (pgs_cons (pg_name (i := 3) sc_tighter.nd rfl (Or.inl rfl)) pgs_nil))))
      (pss_cons (ps_if (PW.pt (pw_or (pt_cmpR op_eq (pv 2) (pv 3) (nomark _)) (pw_or1 (pt_cmp (pc_din (hu_of hr) (pe_tup (pa_cons (pv 3) (pa_cons (pv 2) pa_nil))) (pe_f T.flH (pv 0))) rfl))))
      (pss_one (ps_ret (pe_lst (pa_cons (pe_un un_neg pe_int) pa_nil))))
      pss_nil)
      (pss_cons (ps_expr (pe_d D_put_closer hr (pa_cons (pv 0) (pa_cons (pv 2) (pa_cons (pv 3) pa_nil)))))
      (pss_cons (ps_fA T.flH (pv 0) pe_non)
      (pss_one (ps_ret (pe_lst (pa_cons (pe_callB call_len_dT (by rfl) T.n_len boot_len (pa_cons (pe_f T.flH (pv 0)) pa_nil)) pa_nil))))))))), ?_⟩
  obtain ⟨cv, haF⟩ := st.houseF
  have ha := haF
  have K1 := st.ok
  obtain ⟨f1, f2, f3⟩ := st.fr
  have e0 : h.step (.tighter a b) = if h.groups ≤ a ∨ h.groups ≤ b then (h, Sq15.tells (-2)) else if a = b ∨ h.tighter.contains (b, a) = true then (h, Sq15.tells (-3)) else ({ h.gone with tighter := newT h a b }, Sq15.tells (newT h a b).length) := rfl
  have still : ∀ z, h.step (.tighter a b) = (h, Sq15.tells z) → ∀ H1, Same H H1 → ∀ v, H1 v = none → Q (.ref v) (upd H1 v (.lst [.int z])) := fun z e H1 s1 v hv => by
    refine q.still st (by rw [e]) (s1.trans (Kp.new hv).same) (s1.free hv) ?_
    rw [upd_same, e]
    rfl
  refine ⟨_, rfl, _, rfl, hp, op, a, b, h, cv, B, rfl, ha.nil, ho, _, rfl, ?_⟩
  by_cases c : h.groups ≤ a ∨ h.groups ≤ b
  · rw [if_pos c] at e0
    rw [show (decide (a < h.groups) && decide (b < h.groups)) = false by
      rcases c with c | c
      · rw [decide_eq_false (by omega)]
        rfl
      · rw [decide_eq_false (show ¬ b < h.groups by omega), Bool.and_false]]
    exact iteT ⟨_, rfl, sz_one _, fun v hv => still _ e0 H (Same.refl H) v hv⟩
  rw [if_neg c] at e0
  have ga : a < h.groups := by omega
  have gb : b < h.groups := by omega
  rw [show (decide (a < h.groups) && decide (b < h.groups)) = true by
    rw [decide_eq_true ga, decide_eq_true gb]
    rfl]
  refine iteF ⟨_, rfl, op, _, rfl, SqL.of ho, rfl, _, _, rfl, _, _, rfl, rfl, ?_⟩
  refine ⟨_, rfl, _, rfl, rfl, _, rfl, ?_⟩
  by_cases c1 : a = b
  · rw [decide_eq_true (show V.int (a : Int) = V.int (b : Int) by rw [c1])]
    rw [if_pos (.inl c1)] at e0
    exact iteT (iteT ⟨_, rfl, sz_one _, fun v hv => still _ e0 H (Same.refl H) v hv⟩)
  rw [decide_eq_false (show ¬ V.int (a : Int) = V.int (b : Int) from fun y => c1 (by have := V.int.inj y; omega))]
  refine iteF ⟨_, rfl, _, rfl, (by show 2 ≤ sizeLine; decide), fun p2 hp3 => ?_⟩
  have s1 : Same H (upd H p2 (.tup [.int b, .int a])) := (Kp.new hp3).same
  have tp2 : (upd H p2 (.tup [.int b, .int a])) p2 = some (.tup ((kk2 (b, a)).map kV)) := upd_same
  generalize upd H p2 (.tup [.int b, .int a]) = H1 at *
  have h1 := ha.keep (Same.kp s1)
  refine ⟨_, rfl, hp, _, _, _, rfl, h1.me.1, rfl, _, _, rfl, DGet.t (k := kk2 (b, a)) h1.closer.1 tp2, _, rfl, ?_⟩
  rw [ha.rel.has]
  cases c2 : h.tighter.contains (b, a) with
  | true =>
    rw [if_pos (.inr c2)] at e0
    exact iteT ⟨_, rfl, sz_one _, fun v hv => still _ e0 H1 s1 v hv⟩
  | false =>
    rw [if_neg (show ¬ (a = b ∨ h.tighter.contains (b, a) = true) from fun y => by
      rcases y with y | y
      · exact c1 y
      · rw [c2] at y
        cases y)] at e0
    refine iteF ⟨_, rfl, _, rfl, _, rfl, hp, a, b, h, cv, B, rfl, h1.nil, K1, ga, gb, fun H2 kvs k2 cl2 rel2 => ?_⟩
    have u1 := h1.closer.1
    have me2 := h1.me.kept u1 (by intro z; cases z) k2
    refine ⟨_, rfl, hp, _, _, _, rfl, me2.1, rfl, (by simp), fun H3 c3' k3 => ?_⟩
    have c3 : H3 hp = some (.ins CH B.dx [("many_words", .int h.words), ("many_groups", .int h.groups), ("alone", .ref B.al), ("operators", .ref B.ol), ("closer", .ref B.cl), ("chart", .non)]) := c3'
    have cl3 : H3 B.cl = some (.dT kvs) := k3 _ _ cl2 fun z => by
      have := me2.1
      rw [← List.mem_singleton.mp z, cl2] at this
      cases this
    refine ⟨_, rfl, hp, _, _, _, rfl, c3, rfl, B.cl, kvs, rfl, cl3, sz_one _, fun v hv => ?_⟩
    have s6 : Same H3 (upd H3 v (.lst [.int ((kvs.length : Nat) : Int)])) := (Kp.new hv).same
    have kH3 : Kp F H H3 := fun b o e n => k3 _ _ (k2 _ _ (s1 _ _ e) fun z => n (by rw [List.mem_singleton.mp z]; exact f3)) fun z => n (by rw [List.mem_singleton.mp z]; exact f1)
    refine q _ ⟨B.dx, B.al, B.ol, B.cl, B.as, kvs⟩ [hp, B.ol, B.cl] v (kH3.trans (Same.kp s6)) (fun y hy => ?_) ?_ ?_ ?_
    · simp only [List.mem_cons, List.not_mem_nil, or_false] at hy
      rcases hy with rfl | rfl | rfl
      · exact .inl f1
      · exact .inl f2
      · exact .inl f3
    · rw [e0]
      have nins : ∀ (dx : Addr) (v1 v2 v3 v4 : V) (u : HO), u = .ins CH B.dx [("many_words", .int h.words), ("many_groups", .int h.groups), ("alone", .ref B.al), ("operators", .ref B.ol), ("closer", .ref B.cl), ("chart", cv)] → HO.ins CO dx [("way", v1), ("group", v2), ("pieces", v3), ("spots", v4)] ≠ u := fun _ _ _ _ _ u hu z => by
        rw [hu] at z
        have := congrArg (fun o => match o with | HO.ins _ _ fs => fs.length | _ => 0) z
        simp at this
      have hh : HouseAt CH CO fx H3 hp { h.gone with tighter := newT h a b } .non ⟨B.dx, B.al, B.ol, B.cl, B.as, kvs⟩ :=
        ⟨⟨c3, me2.2⟩, (h1.alone.kept u1 (by intro z; cases z) k2).kept me2.1 (by intro z; cases z) k3, (h1.ops.kept u1 (by intro z; cases z) k2).kept me2.1 (by intro z; cases z) k3, ha.len,
          fun i a y g1 g2 => ((h1.op i a y g1 g2).kept u1 (by intro l z; cases z) (by intro _ _ _ _ _ z; cases z) k2).kept me2.1 (by intro l z; cases z) (fun _ _ _ _ _ => nins _ _ _ _ _ _ rfl) k3, ⟨cl3, h1.closer.2⟩, rel2, ha.neal⟩
      exact ⟨⟨K1.w3, K1.w64, K1.g1, K1.g16, K1.atoms, K1.ops, K1.few, fun p hp => newT_in K1 ga gb hp, newT_nd K1⟩, st.preK (kH3.trans (Same.kp s6)), .inl ⟨rfl, rfl, hh.keep (Same.kp s6)⟩⟩
    · cases y : H v with
      | none => rfl
      | some o =>
        exfalso
        have y4 := k2 _ _ (s1 _ _ y) fun u => by
          rw [List.mem_singleton.mp u, cl3] at hv
          cases hv
        have y5 := k3 _ _ y4 fun u => by
          rw [List.mem_singleton.mp u, c3] at hv
          cases hv
        rw [hv] at y5
        cases y5
    · rw [upd_same, e0, rel2.len (newT_nd K1)]
      rfl
abbrev s_told_by : Stmt := topS 72
abbrev N_told_by : List Str := ["house", "kind", "one", "row"]
theorem sc_told_by : FnScope N_told_by ["house", "kind", "one", "row"] (defScope s_told_by) := ⟨rfl, rfl, rfl, by decide +kernel, rfl, by decide +kernel, by decide +kernel⟩
-- slots: house=0 kind=1 one=2 row=3
def spToldBy (CH CO CC : Addr) : Sp := fun vs H Q _ => ∃ (fx : List Addr) (hp op rp : Addr) (kd : Nat) (ns l : List Nat) (c : Sq15.Call) (h : Sq15.House) (B : HA) (F : List Addr), vs = [.ref hp, .int kd, .ref op, .ref rp] ∧ StAt CH CO CC fx H hp h B F ∧ H op = some (.lst (vn ns)) ∧ H rp = some (.lst (vn l)) ∧ rp ∉ fx ∧ l.length ≤ 1024 ∧ IsCall kd ns l c ∧ Told CH CO CC fx H hp h F c Q
theorem kd_ne {a b : Nat} (h : a ≠ b) : decide (V.int (a : Int) = V.int (b : Int)) = false := decide_eq_false fun y => h (by have := V.int.inj y; omega)
theorem ok_told_by (T : Txt K mg CH CO CC) (D : DefAt K mg "told_by" s_told_by ["house", "kind", "one", "row"]) (D_op : DefW P w K mg base 229 "op" ["house", "one", "row"] (spOpC CH CO CC)) (D_tighter : DefW P w K mg base 229 "tighter" ["house", "one"] (spTighterC CH CO CC)) (D_order : DefW P w K mg base 229 "order" ["house", "one"] (spOrder CH CO)) (D_may_told : DefW P w K mg base 229 "may_told" ["house", "one"] (spMayTold CH CO))
    (D_read : DefW P w K mg base 229 "read" ["house", "row"] (spReadC CH CO CC)) (D_reading : DefW P w K mg base 229 "reading" ["house", "place"] (spReadingC CH CO CC)) (D_of_expression : DefW P w K mg base 229 "of_expression" ["house", "kind", "row"] (spOfExpr CH CO)) (D_tidy : DefW P w K mg base 229 "tidy" ["house", "row"] (spTidy CH CO CC)) : DefW P w K mg base 230 "told_by" ["house", "kind", "one", "row"] (spToldBy CH CO CC) := by
  refine D.ok sc_told_by (fun vs H Q E h => ?_) (fun f cdv A outer s H vs Q E hr h => ?_)
  · obtain ⟨fx, hp, op, rp, kd, ns, l, c, h, B, F, rfl, _⟩ := h
    rfl
  obtain ⟨fx, hp, op, rp, kd, ns, l, c, h, B, F, rfl, st, ho, hrp, nrp, hl, hc, q⟩ := h
  refine ⟨_, (pss_cons (ps_if (pt_cmpR op_eq (pv 1) (pe_gi T.g_OP) (nomark _))
      (pss_one (ps_ret (pe_d D_op hr (pa_cons (pv 0) (pa_cons (pv 2) (pa_cons (pv 3) pa_nil))))))
      pss_nil)
      (pss_cons (ps_if (pt_cmpR op_eq (pv 1) (pe_gi T.g_TIGHTER) (nomark _))
      (pss_one (ps_ret (pe_d D_tighter hr (pa_cons (pv 0) (pa_cons (pv 2) pa_nil)))))
      pss_nil)
      (pss_cons (ps_if (pt_cmpR op_eq (pv 1) (pe_gi T.g_ORDER) (nomark _))
      (pss_one (ps_ret (pe_d D_order hr (pa_cons (pv 0) (pa_cons (pv 2) pa_nil)))))
      pss_nil)
      (pss_cons (ps_if (pt_cmpR op_eq (pv 1) (pe_gi T.g_MAY) (nomark _))
      (pss_one (ps_ret (pe_d D_may_told hr (pa_cons (pv 0) (pa_cons (pv 2) pa_nil)))))
      pss_nil)
      (pss_cons (ps_if (pt_cmpR op_eq (pv 1) (pe_gi T.g_READ) (nomark _))
      (pss_one (ps_ret (pe_d D_read hr (pa_cons (pv 0) (pa_cons (pv 3) pa_nil)))))
      pss_nil)
      (pss_cons (ps_if (pt_cmpR op_eq (pv 1) (pe_gi T.g_READING) (nomark _))
      (pss_one (ps_ret (pe_d D_reading hr (pa_cons (pv 0) (pa_cons (pe_ix ix_list (pv 2) pe_int (fun _ _ => rfl)) pa_nil)))))
      pss_nil)
      (pss_one (ps_ret (pe_ifExp (pt_cmpR op_in_seq (pv 1) (pe_tup (pa_cons (pe_gi T.g_PRINT) (pa_cons (pe_gi T.g_SURE) pa_nil))) (by rfl)) (pe_d D_of_expression hr (pa_cons (pv 0) (pa_cons (pv 1) (pa_cons (pv 3) pa_nil)))) (pe_d D_tidy hr (pa_cons (pv 0) (pa_cons (pv 3) pa_nil)))))))))))), ?_⟩
  obtain ⟨cv, ha⟩ := st.house
  have K1 := st.ok
  refine ⟨_, rfl, rfl, _, rfl, ?_⟩
  by_cases c2 : kd = 2
  · subst c2
    cases hc
    exact iteT ⟨_, rfl, _, rfl, _, rfl, fx, hp, op, rp, _, _, l, h, B, F, rfl, st, ho, hrp, hl, q⟩
  rw [show decide (V.int (kd : Int) = V.int 2) = false from kd_ne c2]
  refine iteF ⟨_, rfl, rfl, _, rfl, ?_⟩
  by_cases c3 : kd = 3
  · subst c3
    cases hc
    exact iteT ⟨_, rfl, _, rfl, fx, hp, op, _, _, h, B, F, rfl, st, ho, q⟩
  rw [show decide (V.int (kd : Int) = V.int 3) = false from kd_ne c3]
  refine iteF ⟨_, rfl, rfl, _, rfl, ?_⟩
  by_cases c4 : kd = 4
  · subst c4
    cases hc
    exact iteT ⟨_, rfl, _, rfl, hp, op, _, _, h, cv, B, rfl, ha, ho, fun H1 r s n v => q.still st same_order s n v⟩
  rw [show decide (V.int (kd : Int) = V.int 4) = false from kd_ne c4]
  refine iteF ⟨_, rfl, rfl, _, rfl, ?_⟩
  by_cases c5 : kd = 5
  · subst c5
    cases hc
    exact iteT ⟨_, rfl, _, rfl, hp, op, _, _, _, h, cv, B, rfl, ha, K1, ho, fun H1 r s n v => q.still st same_may s n v⟩
  rw [show decide (V.int (kd : Int) = V.int 5) = false from kd_ne c5]
  refine iteF ⟨_, rfl, rfl, _, rfl, ?_⟩
  by_cases c6 : kd = 6
  · subst c6
    cases hc
    exact iteT ⟨_, rfl, _, rfl, fx, hp, rp, l, h, B, F, rfl, st, hrp, nrp, hl, q⟩
  rw [show decide (V.int (kd : Int) = V.int 6) = false from kd_ne c6]
  refine iteF ⟨_, rfl, rfl, _, rfl, ?_⟩
  by_cases c7 : kd = 7
  · subst c7
    cases hc
    exact iteT ⟨_, rfl, _, rfl, op, _, _, _, rfl, rfl, SqL.of ho, atI_nat (j := 0) rfl, fx, hp, _, h, B, F, rfl, st, q⟩
  rw [show decide (V.int (kd : Int) = V.int 7) = false from kd_ne c7]
  refine iteF ⟨_, rfl, (by show 2 ≤ sizeLine; decide), fun p hp2 => ?_⟩
  have s1 : Same H (upd H p (.tup [.int 8, .int 9])) := (Kp.new hp2).same
  have p1 : (upd H p (.tup [.int 8, .int 9])) p = some (.tup [.int 8, .int 9]) := upd_same
  generalize upd H p (.tup [.int 8, .int 9]) = H1 at *
  refine ⟨p, _, rfl, .inr (SqT.of p1), rfl, rfl, _, rfl, ?_⟩
  rw [show (if false = true then !inV (V.int (kd : Int)) [V.int 8, V.int 9] else inV (V.int (kd : Int)) [V.int 8, V.int 9]) = (kd == 8 || kd == 9) from in_two kd 8 9]
  have ha1 := ha.keep (Same.kp s1)
  cases hc with
  | op => exact absurd rfl c2
  | tighter => exact absurd rfl c3
  | order => exact absurd rfl c4
  | may => exact absurd rfl c5
  | read => exact absurd rfl c6
  | reading => exact absurd rfl c7
  | print =>
    refine iteT ⟨_, rfl, _, rfl, _, rfl, hp, rp, 8, l, h, cv, B, rfl, ha1, K1, s1 _ _ hrp, hl, fun H2 r s n v => ?_⟩
    exact q.still st same_print (s1.trans s) (s1.free n) v
  | sure =>
    refine iteT ⟨_, rfl, _, rfl, _, rfl, hp, rp, 9, l, h, cv, B, rfl, ha1, K1, s1 _ _ hrp, hl, fun H2 r s n v => ?_⟩
    exact q.still st same_sure (s1.trans s) (s1.free n) v
  | tidy =>
    refine iteF ⟨_, rfl, _, rfl, hp, rp, l, h, B, cv, rfl, ha1, K1, s1 _ _ hrp, hl, fun H2 r s n v => ?_⟩
    exact q.still st same_tidy (s1.trans s) (s1.free n) v
end
end Wo
end
section
set_option Elab.async false
set_option linter.all false
set_option maxRecDepth 100000
set_option maxHeartbeats 4000000
namespace Wo
open PySem PySem.Spec PyProof.Rows L2
theorem viL_len (l : List Int) : (vi l).length = l.length := List.length_map _
theorem vi_at {l : List Int} {i : Nat} {x : Int} (h : l[i]? = some x) : (vi l)[i]? = some (V.int x) := by
  unfold vi
  rw [List.getElem?_map, h]
  rfl
theorem cutI_nat {L : List Int} {lo hi : Nat} (h1 : lo ≤ L.length) (h2 : hi ≤ L.length) : cutV (vi L) (some (lo : Int)) (some (hi : Int)) = vi ((L.drop lo).take (hi - lo)) := by
  unfold cutV
  rw [HT.sIx_nat, HT.sIx_nat, viL_len, Nat.min_eq_left h1, Nat.min_eq_left h2]
  unfold vi
  rw [List.map_take, List.map_drop]
theorem drop_get {L : List Int} {i : Nat} {x : Int} {r : List Int} (h : L.drop i = x :: r) : L[i]? = some x ∧ L.drop (i + 1) = r ∧ i < L.length := by
  have e1 : (L.drop i)[0]? = some x := by rw [h]; rfl
  rw [List.getElem?_drop, Nat.add_zero] at e1
  refine ⟨e1, ?_, (List.getElem?_eq_some_iff.mp e1).1⟩
  have e2 : (L.drop i).drop 1 = r := by rw [h]; rfl
  rw [List.drop_drop] at e2
  exact e2
/-- a list that stands whatever's done elsewhere -/
def KeepL (K : PySem.W.Frag) (H : Hp) (F : List Addr) (a : Addr) (xs : List V) : Prop := (Rd H a (.lst xs) ∧ a ∉ F) ∨ ∀ H', SqL K H' a xs
theorem KeepL.seq {K : PySem.W.Frag} {H : Hp} {F : List Addr} {a : Addr} {xs : List V} (x : KeepL K H F a xs) : SqL K H a xs := by
  rcases x with ⟨r, _⟩ | r
  · exact .inl r
  · exact r H
theorem KeepL.keep {K : PySem.W.Frag} {H H' : Hp} {F F' : List Addr} {a : Addr} {xs : List V} (x : KeepL K H F a xs) (k : Kp F H H') (f : ∀ y ∈ F', y ∈ F ∨ H y = none) : KeepL K H' F' a xs := by
  rcases x with ⟨r, n⟩ | r
  · refine .inl ⟨?_, fun z => ?_⟩
    · rcases r with r | ⟨o, r⟩
      · exact .inl (k _ _ r n)
      · exact .inr ⟨o, k _ _ r n⟩
    · rcases f a z with y | y
      · exact n y
      · rcases r with r | ⟨o, r⟩
        · rw [r] at y
          cases y
        · rw [r] at y
          cases y
  · exact .inr r
theorem KeepL.of {K : PySem.W.Frag} {H : Hp} {a : Addr} {xs : List V} (x : SqL K H a xs) : KeepL K H [] a xs := by
  rcases x with x | x
  · exact .inl ⟨x, by simp⟩
  · exact .inr fun H' => .inr x
section
variable {P : Program} {w : World} {K : PySem.W.Frag} {mg : Str → Option Value} {base : Heap} {CH CO CC : Addr}
abbrev s_taken : Stmt := topS 73
abbrev N_taken : List Str := ["calls", "at", "kind", "end", "one", "row", "begin"]
theorem sc_taken : FnScope N_taken ["calls", "at"] (defScope s_taken) := ⟨rfl, rfl, rfl, by decide +kernel, rfl, by decide +kernel, by decide +kernel⟩
-- slots: calls=0 at=1 kind=2 end=3 one=4 row=5 begin=6
def spTaken (K : PySem.W.Frag) : Sp := fun vs H Q _ => ∃ (cp : Addr) (at_ : Nat) (L : List Int) (F : List Addr) (pd n k : Nat) (r nums row t : List Int), vs = [.ref cp, .int at_] ∧ KeepL K H F cp (vi L) ∧ L.drop at_ = (pd : Int) :: r ∧ Cut r pd n k nums row t ∧ L.length ≤ 16000 ∧
  ∀ (H' : Hp) (tp op rp : Addr) (e : Nat), Same H H' → H rp = none → H' op = some (.lst (vi nums)) → H' rp = some (.lst (vi row)) → H' tp = some (.tup [.ref op, .ref rp, .int e]) → L.drop e = t → e ≤ L.length → at_ < e → Q (.ref tp) H'
theorem tab_at {l : List Nat} {i : Nat} {x : Nat} (h : l[i]? = some x) : atI (l.map fun n : Nat => V.int (n : Int)) (i : Int) = some (V.int (x : Int)) := atI_nat (by rw [List.getElem?_map, h]; rfl)
theorem ok_taken (T : Txt K mg CH CO CC) (D : DefAt K mg "taken" s_taken ["calls", "at"]) : DefW P w K mg base 1 "taken" ["calls", "at"] (spTaken K) := by
  refine D.ok sc_taken (fun vs H Q E h => ?_) (fun f cdv A outer s H vs Q E hr h => ?_)
  · obtain ⟨cp, at_, L, F, pd, n, k, r, nums, row, t, rfl, _⟩ := h
    rfl
  obtain ⟨cp, at_, L, F, pd, n, k, r, nums, row, t, rfl, kl, dr, cut, hL, q⟩ := h
  refine ⟨_, (pss_cons (ps_set (i := 2) sc_taken.nd rfl (Or.inl rfl) (pe_ix ix_list (pv 0) (pv 1) (fun _ _ => rfl)))
      (pss_cons (ps_set (i := 3) sc_taken.nd rfl (Or.inl rfl) (pe_op op_add (pe_op op_add (pv 1) pe_int) (pe_ix ix_tup (pe_gt T.g_NUMBERS) (pe_op op_sub (pv 2) pe_int) (fun _ _ => rfl))))
      (pss_cons (ps_par (i := 4) (j := 5) rfl sc_taken.nd rfl rfl (by decide) rfl rfl (pa_cons (pe_slice sl_list (pv 0) (po_some (pe_op op_add (pv 1) pe_int)) (po_some (pv 3))) (pa_cons (pe_lst pa_nil) pa_nil)) (by rfl))
      (pss_cons (ps_if (pt_cmpR op_eq (pe_ix ix_tup (pe_gt T.g_ROWS) (pe_op op_sub (pv 2) pe_int) (fun _ _ => rfl)) pe_int (nomark _))
      (pss_cons (ps_set (i := 6) sc_taken.nd rfl (Or.inl rfl) (pe_op op_add (pv 3) pe_int))
      (pss_cons (ps_set (i := 3) sc_taken.nd rfl (Or.inl rfl) (pe_op op_add (pv 6) (pe_ix ix_list (pv 0) (pv 3) (fun _ _ => rfl))))
      (pss_one (ps_set (i := 5) sc_taken.nd rfl (Or.inl rfl) (pe_slice sl_list (pv 0) (po_some (pv 6)) (po_some (pv 3)))))))
      pss_nil)
      (pss_one (ps_ret (pe_tup (pa_cons (pv 4) (pa_cons (pv 5) (pa_cons (pv 3) pa_nil)))))))))), ?_⟩
  obtain ⟨g0, d0, lt0⟩ := drop_get dr
  have lo := cut.lo
  have hi := cut.hi
  have few := cut.few
  have rl : r.length = L.length - (at_ + 1) := by rw [← d0, List.length_drop]
  refine ⟨_, rfl, _, rfl, cp, _, _, _, rfl, rfl, kl.seq, atI_nat (vi_at g0), ?_⟩
  have ipd : (pd : Int) - 1 = ((pd - 1 : Nat) : Int) := by omega
  have nAt : atI [V.int 2, V.int 2, V.int 2, V.int 2, V.int 3, V.int 0, V.int 1, V.int 0, V.int 0, V.int 0] ((pd : Int) - 1) = some (V.int (n : Int)) := by
    rw [ipd]
    exact tab_at (l := numsT) cut.nt
  have rAt : atI [V.int 1, V.int 1, V.int 0, V.int 0, V.int 0, V.int 1, V.int 0, V.int 1, V.int 1, V.int 1] ((pd : Int) - 1) = some (V.int (k : Int)) := by
    rw [ipd]
    exact tab_at (l := rowsT) cut.rt
  refine ⟨_, rfl, _, _, rfl, rfl, fun nt hnt => ?_⟩
  refine ⟨_, rfl, _, _, rfl, rfl, nt, _, _, _, rfl, rfl, hnt _, nAt, _, _, rfl, rfl, ?_⟩
  refine ⟨_, rfl, _, rfl, _, _, rfl, rfl, _, rfl, _, rfl, _, rfl, cp, _, rfl, kl.seq, fun op hop => ?_⟩
  have i1 : (at_ : Int) + 1 = ((at_ + 1 : Nat) : Int) := by omega
  have i2 : (at_ : Int) + 1 + (n : Int) = ((at_ + 1 + n : Nat) : Int) := by omega
  have ecut : cutV (vi L) (some ((at_ : Int) + 1)) (some ((at_ : Int) + 1 + (n : Int))) = vi nums := by
    rw [i2, i1, cutI_nat (by omega) (by omega), d0, cut.nums, show at_ + 1 + n - (at_ + 1) = n by omega]
  have s1 : Same H (upd H op (.lst (vi nums))) := (Kp.new hop).same
  have o1 : (upd H op (.lst (vi nums))) op = some (.lst (vi nums)) := upd_same
  show tLst tNil _ (upd H op (.lst (cutV (vi L) (some ((at_ : Int) + 1)) (some ((at_ : Int) + 1 + (n : Int)))))) _
  rw [ecut]
  generalize upd H op (.lst (vi nums)) = H1 at *
  refine ⟨sz_nil, fun ep hep => ⟨_, _, rfl, ?_⟩⟩
  have s2 : Same H1 (upd H1 ep (.lst [])) := (Kp.new hep).same
  have p2 : (upd H1 ep (.lst [])) ep = some (.lst []) := upd_same
  generalize upd H1 ep (.lst []) = H2 at *
  have s12 := s1.trans s2
  refine fun rt hrt => ?_
  refine ⟨_, rfl, _, _, rfl, rfl, rt, _, _, _, rfl, rfl, hrt _, rAt, rfl, _, rfl, ?_⟩
  have kl2 := kl.keep (F' := F) (Same.kp s12) (fun y hy => .inl hy)
  rcases cut.row with ⟨k0, rw0, rt0⟩ | ⟨k1, m, r2, e2, hm, rw1, rt1⟩
  · rw [show decide (V.int (k : Int) = V.int 1) = false by rw [k0]; rfl]
    refine iteF ⟨_, rfl, _, rfl, _, rfl, (by show 3 ≤ sizeLine; decide), fun tp htp => ?_⟩
    have s3 : Same H2 (upd H2 tp (.tup [.ref op, .ref ep, .int ((at_ : Int) + 1 + (n : Int))])) := (Kp.new htp).same
    refine q _ tp op ep (at_ + 1 + n) (s12.trans s3) (s1.free hep) (s3 _ _ (s2 _ _ o1)) (by rw [rw0]; exact s3 _ _ p2) ?_ ?_ (by omega) (by omega)
    · rw [upd_same, ← i2]
    · rw [rt0, ← d0, List.drop_drop]
  · rw [show decide (V.int (k : Int) = V.int 1) = true by rw [k1]; rfl]
    have dr2 : L.drop (at_ + 1 + n) = (m : Int) :: r2 := by rw [← e2, ← d0, List.drop_drop]
    obtain ⟨g3, d3, lt3⟩ := drop_get dr2
    have r2l : r2.length = L.length - (at_ + 1 + n + 1) := by rw [← d3, List.length_drop]
    have i3 : (at_ : Int) + 1 + (n : Int) + 1 = ((at_ + 1 + n + 1 : Nat) : Int) := by omega
    have i4 : (at_ : Int) + 1 + (n : Int) + 1 + (m : Int) = ((at_ + 1 + n + 1 + m : Nat) : Int) := by omega
    refine iteT ⟨_, rfl, _, _, rfl, rfl, ?_⟩
    refine ⟨_, rfl, _, rfl, _, rfl, cp, _, _, _, rfl, rfl, kl2.seq, by rw [i2]; exact atI_nat (vi_at g3), _, _, rfl, rfl, ?_⟩
    refine ⟨_, rfl, _, rfl, _, rfl, _, rfl, _, rfl, cp, _, rfl, kl2.seq, fun rp hrp => ?_⟩
    have ecut2 : cutV (vi L) (some ((at_ : Int) + 1 + (n : Int) + 1)) (some ((at_ : Int) + 1 + (n : Int) + 1 + (m : Int))) = vi row := by
      rw [i4, i3, cutI_nat (by omega) (by omega), d3, rw1, show at_ + 1 + n + 1 + m - (at_ + 1 + n + 1) = m by omega]
    have s3 : Same H2 (upd H2 rp (.lst (vi row))) := (Kp.new hrp).same
    have p3 : (upd H2 rp (.lst (vi row))) rp = some (.lst (vi row)) := upd_same
    rw [ecut2]
    generalize upd H2 rp (.lst (vi row)) = H3 at *
    refine ⟨_, rfl, _, rfl, _, rfl, (by show 3 ≤ sizeLine; decide), fun tp htp => ?_⟩
    have s4 : Same H3 (upd H3 tp (.tup [.ref op, .ref rp, .int ((at_ : Int) + 1 + (n : Int) + 1 + (m : Int))])) := (Kp.new htp).same
    refine q _ tp op rp (at_ + 1 + n + 1 + m) (s12.trans (s3.trans s4)) (s12.free hrp) (s4 _ _ (s3 _ _ (s2 _ _ o1))) (s4 _ _ p3) ?_ ?_ (by omega) (by omega)
    · rw [upd_same, ← i4]
    · rw [rt1, ← d3, List.drop_drop]
end
end Wo
end
section
set_option Elab.async false
set_option linter.all false
set_option maxRecDepth 100000
set_option maxHeartbeats 4000000
namespace Wo
open PySem PySem.Spec PyProof.Rows L2
theorem vi_nats {l : List Int} (h : l = (l.map Int.toNat).map Int.ofNat) : vi l = vn (l.map Int.toNat) := by
  rw [vn_vi]
  exact congrArg vi h
theorem len1 {α : Type} {l : List α} (h : l.length = 1) : ∃ a, l = [a] := by
  match l, h with
  | [a], _ => exact ⟨a, rfl⟩
theorem len2 {α : Type} {l : List α} (h : l.length = 2) : ∃ a b, l = [a, b] := by
  match l, h with
  | [a, b], _ => exact ⟨a, b, rfl⟩
theorem len3 {α : Type} {l : List α} (h : l.length = 3) : ∃ a b c, l = [a, b, c] := by
  match l, h with
  | [a, b, c], _ => exact ⟨a, b, c, rfl⟩
structure Dec (pd : Nat) (nums row : List Int) (c : List (List Int)) : Prop where
  numsV : vi nums = vn (nums.map Int.toNat)
  rowV : vi row = vn (row.map Int.toNat)
  few : row.length ≤ 1024
  call : (pd = 1 ∧ ∃ a b, nums.map Int.toNat = [a, b] ∧ Sq15Neutral.callOf c = some (.begin_ a b (row.map Int.toNat))) ∨ (pd ≠ 1 ∧ ∃ x, IsCall pd (nums.map Int.toNat) (row.map Int.toNat) x ∧ Sq15Neutral.callOf c = some x)
theorem vn1 {a : Int} (h : Sq15Neutral.natural a 64 = true) : V.int a = V.int ((a.toNat : Nat) : Int) := congrArg V.int (nat_of h)
theorem dec {r nums row t : List Int} {pd n k : Nat} {c : List (List Int)} (cut : Cut r pd n k nums row t) (hc : c = if k = 0 then [(pd : Int) :: nums] else [(pd : Int) :: nums, row]) (ask : Sq15Neutral.asked1 c = true) : Dec pd nums row c := by
  have lo := cut.lo
  have hi := cut.hi
  have nl : nums.length = n := by
    rw [cut.nums, List.length_take]
    have := cut.few
    omega
  have nt := cut.nt
  have rt := cut.rt
  have r0 : k = 0 → row = [] := fun z => by
    rcases cut.row with ⟨_, y, _⟩ | ⟨y, _⟩
    · exact y
    · omega
  clear cut
  have e0 : vi ([] : List Int) = vn (([] : List Int).map Int.toNat) := rfl
  have cases_ : pd = 1 ∨ pd = 2 ∨ pd = 3 ∨ pd = 4 ∨ pd = 5 ∨ pd = 6 ∨ pd = 7 ∨ pd = 8 ∨ pd = 9 ∨ pd = 10 := by omega
  rcases cases_ with rfl | rfl | rfl | rfl | rfl | rfl | rfl | rfl | rfl | rfl
  · cases nt
    cases rt
    obtain ⟨a, b, rfl⟩ := len2 nl
    subst hc
    have q : (Sq15Neutral.natural a 64 && (Sq15Neutral.natural b 64 && Sq15Neutral.long (fun z => Sq15Neutral.natural z 64) row)) = true := ask
    rw [Bool.and_eq_true, Bool.and_eq_true] at q
    obtain ⟨h1, h2⟩ := nats_of q.2.2
    exact ⟨congr (congrArg List.cons (vn1 q.1)) (congr (congrArg List.cons (vn1 q.2.1)) rfl), vi_nats h1, h2, .inl ⟨rfl, _, _, rfl, rfl⟩⟩
  · cases nt
    cases rt
    obtain ⟨a, b, rfl⟩ := len2 nl
    subst hc
    have q : (Sq15Neutral.natural a 64 && (Sq15Neutral.natural b 64 && Sq15Neutral.long (fun z => Sq15Neutral.natural z 64) row)) = true := ask
    rw [Bool.and_eq_true, Bool.and_eq_true] at q
    obtain ⟨h1, h2⟩ := nats_of q.2.2
    exact ⟨congr (congrArg List.cons (vn1 q.1)) (congr (congrArg List.cons (vn1 q.2.1)) rfl), vi_nats h1, h2, .inr ⟨by decide, _, .op _ _ _, rfl⟩⟩
  · cases nt
    cases rt
    obtain ⟨a, b, rfl⟩ := len2 nl
    obtain rfl := r0 rfl
    subst hc
    have q : (Sq15Neutral.natural a 64 && Sq15Neutral.natural b 64) = true := ask
    rw [Bool.and_eq_true] at q
    exact ⟨congr (congrArg List.cons (vn1 q.1)) (congr (congrArg List.cons (vn1 q.2)) rfl), e0, by simp, .inr ⟨by decide, _, .tighter _ _ _, rfl⟩⟩
  · cases nt
    cases rt
    obtain ⟨a, b, rfl⟩ := len2 nl
    obtain rfl := r0 rfl
    subst hc
    have q : (Sq15Neutral.natural a 64 && Sq15Neutral.natural b 64) = true := ask
    rw [Bool.and_eq_true] at q
    exact ⟨congr (congrArg List.cons (vn1 q.1)) (congr (congrArg List.cons (vn1 q.2)) rfl), e0, by simp, .inr ⟨by decide, _, .order _ _ _, rfl⟩⟩
  · cases nt
    cases rt
    obtain ⟨a, b, d, rfl⟩ := len3 nl
    obtain rfl := r0 rfl
    subst hc
    have q : (Sq15Neutral.natural a 64 && (Sq15Neutral.natural b 64 && Sq15Neutral.natural d 64)) = true := ask
    rw [Bool.and_eq_true, Bool.and_eq_true] at q
    exact ⟨congr (congrArg List.cons (vn1 q.1)) (congr (congrArg List.cons (vn1 q.2.1)) (congr (congrArg List.cons (vn1 q.2.2)) rfl)), e0, by simp, .inr ⟨by decide, _, .may _ _ _ _, rfl⟩⟩
  · cases nt
    cases rt
    obtain rfl := List.eq_nil_of_length_eq_zero nl
    subst hc
    have q : Sq15Neutral.long (fun z => Sq15Neutral.natural z 64) row = true := ask
    obtain ⟨h1, h2⟩ := nats_of q
    exact ⟨e0, vi_nats h1, h2, .inr ⟨by decide, _, .read _, rfl⟩⟩
  · cases nt
    cases rt
    obtain ⟨a, rfl⟩ := len1 nl
    obtain rfl := r0 rfl
    subst hc
    have q : Sq15Neutral.natural a 64 = true := ask
    exact ⟨congr (congrArg List.cons (vn1 q)) rfl, e0, by simp, .inr ⟨by decide, _, .reading _ _, rfl⟩⟩
  · cases nt
    cases rt
    obtain rfl := List.eq_nil_of_length_eq_zero nl
    subst hc
    have q : Sq15Neutral.long (fun z => Sq15Neutral.natural z 64) row = true := ask
    obtain ⟨h1, h2⟩ := nats_of q
    exact ⟨e0, vi_nats h1, h2, .inr ⟨by decide, _, .print _, rfl⟩⟩
  · cases nt
    cases rt
    obtain rfl := List.eq_nil_of_length_eq_zero nl
    subst hc
    have q : Sq15Neutral.long (fun z => Sq15Neutral.natural z 64) row = true := ask
    obtain ⟨h1, h2⟩ := nats_of q
    exact ⟨e0, vi_nats h1, h2, .inr ⟨by decide, _, .sure _, rfl⟩⟩
  · cases nt
    cases rt
    obtain rfl := List.eq_nil_of_length_eq_zero nl
    subst hc
    have q : Sq15Neutral.long (fun z => Sq15Neutral.natural z 64) row = true := ask
    obtain ⟨h1, h2⟩ := nats_of q
    exact ⟨e0, vi_nats h1, h2, .inr ⟨by decide, _, .tidy _, rfl⟩⟩
theorem StAt.mut {CH CO CC : Addr} {fp : Addr} {H H' : Hp} {hp : Addr} {h : Sq15.House} {B : HA} {F : List Addr} {xs ys : List V} (x : StAt CH CO CC [fp] H hp h B F) (e : H fp = some (.lst xs)) (k : Kp [fp] H H') (e' : H' fp = some (.lst ys)) : StAt CH CO CC [fp] H' hp h B F := by
  refine ⟨x.ok, fun b hb => ⟨ys, by rw [List.mem_singleton.mp hb]; exact e'⟩, ?_⟩
  rcases x.st with ⟨a, b, c⟩ | ⟨c, A, a1, a2, a3, a4, a5, a6, a7, a8⟩
  · exact .inl ⟨a, b, c.keep k⟩
  · refine .inr ⟨c, A, a1, a2, a3, a4, a5.keep k, ?_, a7.kept e (by intro l z; cases z) k, a8⟩
    have hc := a6.house
    rw [a4] at hc
    have hj := ((hc.join a5).keep (k.mono fun y hy => List.mem_append.mpr (.inr hy))).re (ey := A.ex) fun y hy => List.mem_append.mpr (.inl hy)
    rw [← a4] at hj
    exact ⟨a6.me.kept e (by intro z; cases z) k, hj, ⟨k _ _ a6.text.1 a8.1, a6.text.2⟩, ⟨k _ _ a6.depths.1 a8.2.1, a6.depths.2⟩, ⟨k _ _ a6.sorts.1 a8.2.2, a6.sorts.2⟩, a6.slen, fun i a S h1 h2 => (a6.sort i a S h1 h2).kept e (by intro z; cases z) k, a6.sort0, a6.sin, a6.few, a6.sof.kept e (by intro z; cases z) k, a6.sofv, a6.ne, a6.short, a6.ok⟩
end Wo
end
section
set_option Elab.async false
set_option linter.all false
set_option maxRecDepth 100000
set_option maxHeartbeats 4000000
namespace Wo
open PySem PySem.Spec PyProof.Rows L2
theorem told_cons (a : List Int) (l : List (List Int)) : PyFlat.told (a :: l) = ((a.length : Int) :: a) ++ PyFlat.told l := by
  unfold PyFlat.told
  rw [List.flatMap_cons]
theorem fresh_ok : Ok Sq15.fresh := ⟨by decide, by decide, by decide, by decide, fun x h => by simp [Sq15.fresh] at h, fun x h => by simp [Sq15.fresh] at h, by decide, fun x h => by simp [Sq15.fresh] at h, List.nodup_nil⟩
theorem ten_lt {n : Nat} (h : n ≤ 10000000) : n < sizeLine := by
  rw [line_eq]
  omega
section
variable {P : Program} {w : World} {K : PySem.W.Frag} {mg : Str → Option Value} {base : Heap} {CH CO CC : Addr}
abbrev s_answers : Stmt := topS 74
abbrev N_answers : List Str := ["calls", "house", "found", "at", "kind", "one", "row", "answer"]
theorem sc_answers : FnScope N_answers ["calls"] (defScope s_answers) := ⟨rfl, rfl, rfl, by decide +kernel, rfl, by decide +kernel, by decide +kernel⟩
-- slots: calls=0 house=1 found=2 at=3 kind=4 one=5 row=6 answer=7
def spAnswers (K : PySem.W.Frag) : Sp := fun vs H Q _ => ∃ (cp : Addr) (L : List Int), vs = [.ref cp] ∧ SqL K H cp (vi L) ∧ PySq15.answers_asked L = true ∧ L.length ≤ 16000 ∧ ∀ H' r, H' r = some (.lst (vi (PySq15.answers L))) → Q (.ref r) H'
/-- between two calls -/
structure Lp (K : PySem.W.Frag) (CH CO CC cp fp : Addr) (L : List Int) (H : Hp) (hp : Addr) (at_ f : Nat) (done : List Int) (h : Sq15.House) (B : HA) (F : List Addr) (cs : List (List (List Int))) : Prop where
  st : StAt CH CO CC [fp] H hp h B F
  fd : H fp = some (.lst (vi done))
  cl : KeepL K H F cp (vi L)
  cf : cp ≠ fp ∨ ∀ H', SqL K H' cp (vi L)
  atL : at_ ≤ L.length
  dec : PyFlat.calls PySq15.shape f (L.drop at_) = some cs
  ask : ∀ c ∈ cs, Sq15Neutral.asked1 c = true
  tot : done ++ PyFlat.told (PyFlat.played Sq15Neutral.step h cs) = PySq15.answers L
theorem fn_answers {f : Addr} {fd : FuncData} (T : Txt K mg CH CO CC) (F : Fun K "answers" "answers" s_answers f fd) (K_House : MakW P w K mg base CH 229 "House" ["self", "words", "groups", "things"] (spHouseInit CH CO)) (D_taken : DefW P w K mg base 230 "taken" ["calls", "at"] (spTaken K)) (D_begun : DefW P w K mg base 230 "begun" ["house", "one", "row"] (spBegun CH CO CC)) (D_told_by : DefW P w K mg base 230 "told_by" ["house", "kind", "one", "row"] (spToldBy CH CO CC)) : FnOk P w K mg base CX0 231 f fd ["calls"] (spAnswers K) := by
  refine F.ok sc_answers (fun vs H Q E h => ?_) (fun cdv A outer s H vs Q E hr h => ?_)
  · obtain ⟨cp, L, rfl, _⟩ := h
    rfl
  obtain ⟨cp, L, rfl, hcp, hask, hL, q⟩ := h
  have hr1 := hr.mono (show 230 ≤ 230 by omega)
  refine ⟨_, (pss_cons (ps_set (i := 1) sc_answers.nd rfl (Or.inl rfl) (pe_k K_House hr (pa_cons (pe_gi T.g_LEAST_WORDS) (pa_cons pe_int (pa_cons (pe_lst pa_nil) pa_nil)))))
      (pss_cons (ps_set (i := 2) sc_answers.nd rfl (Or.inl rfl) (pe_lst pa_nil))
      (pss_cons (ps_set (i := 3) sc_answers.nd rfl (Or.inl rfl) pe_int)
      (pss_cons (ps_while PassesOwn.never (pt_cmpR op_lt (pv 3) (pe_callB call_len_seq (by rfl) T.n_len boot_len (pa_cons (pv 0) pa_nil)) (nomark _))
      (pss_cons (ps_set (i := 4) sc_answers.nd rfl (Or.inl rfl) (pe_ix ix_list (pv 0) (pv 3) (fun _ _ => rfl)))
      (pss_cons (ps_asg (pe_d D_taken hr1 (pa_cons (pv 0) (pa_cons (pv 3) pa_nil))) (pg_tup rfl (pgs_cons (pg_name (i := 5) sc_answers.nd rfl (Or.inl rfl)) (pgs_cons (pg_name (i := 6) sc_answers.nd rfl (Or.inl rfl)) (pgs_cons (pg_name (i := 3) sc_answers.nd rfl (Or.inl rfl)) pgs_nil)))))
      (pss_cons (ps_if (pt_cmpR op_eq (pv 4) (pe_gi T.g_BEGIN) (nomark _))
      (pss_one (ps_asg (pe_d D_begun hr1 (pa_cons (pv 1) (pa_cons (pv 5) (pa_cons (pv 6) pa_nil)))) (pg_tup rfl (pgs_cons (pg_name (i := 1) sc_answers.nd rfl (Or.inl rfl)) (pgs_cons (pg_name (i := 7) sc_answers.nd rfl (Or.inl rfl)) pgs_nil)))))
      (pss_one (ps_set (i := 7) sc_answers.nd rfl (Or.inl rfl) (pe_d D_told_by hr1 (pa_cons (pv 1) (pa_cons (pv 4) (pa_cons (pv 5) (pa_cons (pv 6) pa_nil))))))))
      (pss_cons (ps_expr (pe_bm PySem.F.plainAttrs_list PySem.F.slot_list_append PySem.F.type_list_append mt_append (pv 2) (pa_cons (pe_callB call_len_seq (by rfl) T.n_len boot_len (pa_cons (pv 7) pa_nil)) pa_nil)))
      (pss_one (ps_expr (pe_bm PySem.F.plainAttrs_list PySem.F.slot_list_extend PySem.F.type_list_extend mt_extend (pv 2) (pa_cons (pv 7) pa_nil)))))))))
      (pss_one (ps_ret (pv 2))))))), ?_⟩
  obtain ⟨cs0, hcs, hall, hten⟩ := asked_some hask
  have hans := answers_some hcs
  refine ⟨sz_nil, fun al hal => fun x dx hx hdx ne => ?_⟩
  have s1 : Same H (upd H al (.lst [])) := (Kp.new hal).same
  have a1 : (upd H al (.lst [])) al = some (.lst (vn [])) := upd_same
  generalize upd H al (.lst []) = H1 at *
  have s3 : Same H1 (upd H1 dx (.own x)) := (Kp.new hdx).same
  have hx1 : (upd H1 dx (.own x)) x = none := by rw [upd_ne (fun z => ne z.symm)]; exact hx
  have s4 : Same (upd H1 dx (.own x)) (upd (upd H1 dx (.own x)) x (.ins CH dx [])) := (Kp.new hx1).same
  have x4 : (upd (upd H1 dx (.own x)) x (.ins CH dx [])) x = some (.ins CH dx []) := upd_same
  generalize upd (upd H1 dx (.own x)) x (.ins CH dx []) = H2 at *
  have s12 := s3.trans s4
  have xH : H x = none := s1.free hx
  refine ⟨x, dx, al, 3, 1, [], rfl, x4, s12 _ _ a1, fun H3 B k3 n1 n2 n3 hB => ⟨rfl, ?_⟩⟩
  have s03 : Same H H3 := fun b o e => k3 _ _ ((s1.trans s12) _ _ e) fun z => by
    rw [List.mem_singleton.mp z, xH] at e
    cases e
  refine ⟨sz_nil, fun fp hfp => ?_⟩
  have s5 : Same H3 (upd H3 fp (.lst [])) := (Kp.new hfp).same
  have f5 : (upd H3 fp (.lst [])) fp = some (.lst (vi [])) := upd_same
  have hB5 := hB.keep (Same.kp s5)
  have out : ∀ a o, H3 a = some o → a ≠ fp := fun a o e => ne_of_none e hfp
  have hBF : HouseAt CH CO [fp] (upd H3 fp (.lst [])) x Sq15.fresh .non B := by
    have nm : ∀ {a : Addr} {o : HO}, H3 a = some o → a ∉ [fp] := fun e z => out _ _ e (List.mem_singleton.mp z)
    exact ⟨⟨hB5.me.1, nm hB.me.1⟩, ⟨hB5.alone.1, nm hB.alone.1⟩, ⟨hB5.ops.1, nm hB.ops.1⟩, hB5.len, fun i a y _ h2 => by simp [Sq15.fresh] at h2, ⟨hB5.closer.1, nm hB.closer.1⟩, hB5.rel, hB5.neal⟩
  have k05 : Same H (upd H3 fp (.lst [])) := s03.trans s5
  have fH : H fp = none := s03.free hfp
  generalize upd H3 fp (.lst []) = H4 at *
  have kl : KeepL K H4 [x, B.ol, B.cl] cp (vi L) := (KeepL.of hcp).keep (Same.kp k05) fun y hy => by
    simp only [List.mem_cons, List.not_mem_nil, or_false] at hy
    rcases hy with rfl | rfl | rfl
    · exact .inr xH
    · exact .inr ((s1.trans s12).free n1)
    · exact .inr ((s1.trans s12).free n2)
  have cf : cp ≠ fp ∨ ∀ H', SqL K H' cp (vi L) := by
    rcases hcp with z | z
    · refine .inl fun y => ?_
      rcases z with z | ⟨o, z⟩
      · rw [y, fH] at z
        cases z
      · rw [y, fH] at z
        cases z
    · exact .inr fun H' => .inr z
  refine ⟨fun m σ H' => ∃ (at_ f : Nat) (hp : Addr) (done : List Int) (h : Sq15.House) (B : HA) (F : List Addr) (cs : List (List (List Int))) (v4 v5 v6 v7 : Option V), m = L.length - at_ ∧ σ = [some (.ref cp), some (.ref hp), some (.ref fp), some (.int at_), v4, v5, v6, v7] ∧ Lp K CH CO CC cp fp L H' hp at_ f done h B F cs,
    ⟨_, 0, _, x, [], Sq15.fresh, B, _, cs0, none, none, none, none, rfl, rfl, ⟨⟨fresh_ok, fun b hb => ⟨_, (congrArg H4 (List.mem_singleton.mp hb)).trans f5⟩, .inl ⟨rfl, rfl, hBF⟩⟩, f5, kl, cf, Nat.zero_le _, hcs, hall, hans.symm⟩⟩, ?_⟩
  rintro m σ HZ ⟨at_, fu, hp, done, h, B', F, cs, v4, v5, v6, v7, rfl, rfl, I⟩
  have dl : done.length ≤ 10000000 := by
    have := congrArg List.length I.tot
    rw [List.length_append] at this
    omega
  refine ⟨_, rfl, _, rfl, _, _, rfl, .inl I.cl.seq, _, _, rfl, rfl, _, rfl, ?_⟩
  rw [show (vi L).length = L.length from List.length_map _, lt_nat]
  by_cases c : at_ < L.length
  case neg =>
    rw [decide_eq_false c]
    refine iteF ⟨_, rfl, ?_⟩
    have e1 : L.drop at_ = [] := List.drop_eq_nil_of_le (by omega)
    have d := I.dec
    rw [e1] at d
    have e2 : cs = [] := by
      cases fu <;> exact (Option.some.inj d).symm
    have t := I.tot
    rw [e2] at t
    have t2 : done ++ [] = PySq15.answers L := t
    rw [List.append_nil] at t2
    exact q HZ fp (by rw [← t2]; exact I.fd)
  case pos =>
    rw [decide_eq_true c]
    refine iteT ⟨fun σ' H' => ∃ m', m' < L.length - at_ ∧ ∃ (at_ f : Nat) (hp : Addr) (done : List Int) (h : Sq15.House) (B : HA) (F : List Addr) (cs : List (List (List Int))) (v4 v5 v6 v7 : Option V), m' = L.length - at_ ∧ σ' = [some (.ref cp), some (.ref hp), some (.ref fp), some (.int at_), v4, v5, v6, v7] ∧ Lp K CH CO CC cp fp L H' hp at_ f done h B F cs, fun _ _ n => n, ?_⟩
    cases dr : L.drop at_ with
    | nil =>
      have := congrArg List.length dr
      rw [List.length_drop] at this
      simp at this
      omega
    | cons p r0 =>
      have d := I.dec
      rw [dr] at d
      cases fu with
      | zero => cases d
      | succ fu =>
        unfold PyFlat.calls at d
        cases ec : PyFlat.call PySq15.shape (p :: r0) with
        | none => rw [ec] at d; cases d
        | some ct =>
          obtain ⟨c0, t⟩ := ct
          rw [ec] at d
          simp only [] at d
          cases ed : PyFlat.calls PySq15.shape fu t with
          | none => rw [ed] at d; cases d
          | some cs' =>
            rw [ed] at d
            have ecs : cs = c0 :: cs' := (Option.some.inj d).symm
            obtain ⟨pd, n, k, r, nums, row, e1, cut, e2⟩ := call_some ec
            rw [e1] at dr
            have dd := dec cut e2 (I.ask c0 (by rw [ecs]; simp))
            obtain ⟨g0, d0, lt0⟩ := drop_get dr
            refine ⟨_, rfl, _, rfl, cp, _, _, _, rfl, rfl, I.cl.seq, atI_nat (vi_at g0), ?_⟩
            refine ⟨_, rfl, _, rfl, cp, at_, L, F, pd, n, k, r, nums, row, t, rfl, I.cl, dr, cut, hL, fun H5 tp op rp e s6 rpn o5 r5 t5 de le lt => ?_⟩
            refine ⟨tp, _, rfl, SqT.of t5, rfl, _, _, rfl, _, _, rfl, _, _, rfl, rfl, ?_⟩
            have nrp : rp ∉ [fp] := fun z => by
              have := I.fd
              rw [← List.mem_singleton.mp z, rpn] at this
              cases this
            have st5 := I.st.same s6
            have f5 := s6 _ _ I.fd
            have kl5 := I.cl.keep (F' := F) (Same.kp s6) (fun y hy => .inl hy)
            have tot := I.tot
            rw [ecs] at tot
            have tot2 : done ++ PyFlat.told ((Sq15Neutral.step h c0).2 :: PyFlat.played Sq15Neutral.step (Sq15Neutral.step h c0).1 cs') = PySq15.answers L := tot
            rw [told_cons] at tot2
            rw [dd.numsV] at o5
            rw [dd.rowV] at r5
            refine ⟨_, rfl, rfl, _, rfl, ?_⟩
            have stp : ∀ y, Sq15Neutral.callOf c0 = some y → Sq15Neutral.step h c0 = ((h.step y).1, outL (h.step y).2) := fun y z => by
              unfold Sq15Neutral.step
              rw [z]
              rfl
            rcases dd.call with ⟨p1, a, b, en, ecl⟩ | ⟨p1, y, isc, ecl⟩
            case' inl =>
              rw [show decide (V.int (pd : Int) = V.int 1) = true by rw [p1]; rfl]
              rw [stp _ ecl] at tot2
              refine iteT ⟨_, rfl, _, rfl, _, rfl, [fp], hp, op, rp, a, b, _, h, B', F, rfl, st5, by rw [o5, en], r5, by rw [List.length_map]; exact dd.few, fun H6 hp2 B2 F2 t6 r2 k6 f6 st6 n6 t6' v6 => ?_⟩
              refine ⟨t6, _, rfl, SqT.of t6', rfl, _, _, rfl, _, _, rfl, rfl, ?_⟩
              generalize Sq15.House.step h _ = so at st6 v6 tot2
            case' inr =>
              rw [show decide (V.int (pd : Int) = V.int 1) = false from kd_ne (b := 1) p1]
              rw [stp _ ecl] at tot2
              refine iteF ⟨_, rfl, _, rfl, _, rfl, _, rfl, [fp], hp, op, rp, pd, _, _, y, h, B', F, rfl, st5, o5, r5, nrp, by rw [List.length_map]; exact dd.few, isc, fun H6 B2 F2 r2 k6 f6 st6 n6 v6 => ?_⟩
              generalize Sq15.House.step h _ = so at st6 v6 tot2
              generalize hp = hp2 at *
            all_goals
              obtain ⟨h2, oo⟩ := so
              simp only [] at st6 v6 tot2
              generalize outL oo = ol at *
              have nfF : fp ∉ F := I.st.out fp (by simp)
              have f6d := k6 _ _ f5 nfF
              have kl6 := kl5.keep k6 f6
              have al : done.length + (ol.length + 1) ≤ 10000000 := by
                have := congrArg List.length tot2
                rw [List.length_append, List.length_append, List.length_cons] at this
                omega
              have nr : r2 ≠ fp := fun z => by
                rw [z, f5] at n6
                cases n6
              refine ⟨_, rfl, .inl ⟨rfl, _, SqL.of f6d⟩, _, rfl, _, _, rfl, .inl (SqL.of v6), fp, _, _, rfl, rfl, f6d, by rw [viL_len]; exact ten_lt (by omega), ?_⟩
              rw [viL_len]
              have e7 : vi done ++ [V.int ((ol.length : Nat) : Int)] = vi (done ++ [((ol.length : Nat) : Int)]) := by
                unfold vi
                rw [List.map_append]
                rfl
              rw [e7]
              have k7 : Kp [fp] H6 (upd H6 fp (.lst (vi (done ++ [((ol.length : Nat) : Int)])))) := Kp.put (by simp)
              have f7 : (upd H6 fp (.lst (vi (done ++ [((ol.length : Nat) : Int)])))) fp = some (.lst (vi (done ++ [((ol.length : Nat) : Int)]))) := upd_same
              have v7 : (upd H6 fp (.lst (vi (done ++ [((ol.length : Nat) : Int)])))) r2 = some (.lst (vi ol)) := by rw [upd_ne nr]; exact v6
              generalize upd H6 fp (.lst (vi (done ++ [((ol.length : Nat) : Int)]))) = H7 at *
              refine ⟨_, rfl, .inl ⟨rfl, _, SqL.of f7⟩, _, rfl, fp, r2, _, _, rfl, rfl, f7, v7, by rw [viL_len, viL_len, List.length_append, List.length_singleton]; exact Nat.le_of_lt (ten_lt (by omega)), ?_⟩
              have e8 : vi (done ++ [((ol.length : Nat) : Int)]) ++ vi ol = vi (done ++ (((ol.length : Nat) : Int) :: ol)) := by
                unfold vi
                rw [← List.map_append, List.append_assoc]
                rfl
              rw [e8]
              have k8 : Kp [fp] H7 (upd H7 fp (.lst (vi (done ++ (((ol.length : Nat) : Int) :: ol))))) := Kp.put (by simp)
              have f8 : (upd H7 fp (.lst (vi (done ++ (((ol.length : Nat) : Int) :: ol))))) fp = some (.lst (vi (done ++ (((ol.length : Nat) : Int) :: ol)))) := upd_same
              generalize upd H7 fp (.lst (vi (done ++ (((ol.length : Nat) : Int) :: ol)))) = H8 at *
              have k68 := k7.trans k8
              refine ⟨L.length - e, by omega, e, fu, hp2, _, h2, B2, F2, cs', _, _, _, _, rfl, rfl, ⟨st6.mut f6d k68 f8, f8, ?_, I.cf, le, by rw [de]; exact ed, fun z hz => I.ask z (by rw [ecs]; exact List.mem_cons_of_mem _ hz), ?_⟩⟩
              · rcases I.cf with y | y
                · rcases kl6 with ⟨z1, z2⟩ | z
                  · refine .inl ⟨?_, z2⟩
                    rcases z1 with z1 | ⟨o, z1⟩
                    · exact .inl (k68 _ _ z1 fun u => y (List.mem_singleton.mp u))
                    · exact .inr ⟨o, k68 _ _ z1 fun u => y (List.mem_singleton.mp u)⟩
                  · exact .inr z
                · exact .inr y
              · rw [← tot2, List.append_assoc]
end
end Wo
end
section
set_option Elab.async false
set_option linter.all false
set_option maxRecDepth 100000
set_option maxHeartbeats 40000000
namespace Wo
open PySem PySem.Spec PyProof.Rows L2
section
variable {P : Program} {w : World} {K : PySem.W.Frag} {mg : Str → Option Value} {base : Heap} {k j : Nat} {x : Str} {ps : List Str} {sp : Sp} {C : Addr}
theorem MakW.mono (D : MakW P w K mg base C j x ps sp) (h : j ≤ k) : MakW P w K mg base C k x ps sp := by
  obtain ⟨f, fd, h1, h2, h3, h4⟩ := D.ex
  exact ⟨f, fd, h1, h2, h3, h4.mono h⟩
end
/-- all that the top has written, and what answers does -/
theorem all_mk {P : Program} {w : World} {K : PySem.W.Frag} {h : Heap} {mg : Str → Option Value} {fa CH CO CC : Addr} (X : K.In h) (G : h.Ns mainGlobals mg) (hfa : mg "answers" = some (.ref fa)) (mt : GInt mg "MOST_TOLD" 1000000000000000000)
    {f1 : Addr} {od1 an1 : Option Addr} {sl1 : Array (Option Value)} {oc1 kV1 dc1 pm1 cd1 ct1 : Value}
    {f2 : Addr} {od2 an2 : Option Addr} {sl2 : Array (Option Value)} {oc2 kV2 dc2 pm2 cd2 ct2 : Value}
    {f3 : Addr} {od3 an3 : Option Addr} {sl3 : Array (Option Value)} {oc3 kV3 dc3 pm3 cd3 ct3 : Value}
    {f4 : Addr} {od4 an4 : Option Addr} {sl4 : Array (Option Value)} {oc4 kV4 dc4 pm4 cd4 ct4 : Value}
    {f5 : Addr} {od5 an5 : Option Addr} {sl5 : Array (Option Value)} {oc5 kV5 dc5 pm5 cd5 ct5 : Value}
    {f6 : Addr} {od6 an6 : Option Addr} {sl6 : Array (Option Value)} {oc6 kV6 dc6 pm6 cd6 ct6 : Value}
    {f7 : Addr} {od7 an7 : Option Addr} {sl7 : Array (Option Value)} {oc7 kV7 dc7 pm7 cd7 ct7 : Value}
    {f8 : Addr} {od8 an8 : Option Addr} {sl8 : Array (Option Value)} {oc8 kV8 dc8 pm8 cd8 ct8 : Value}
    {f9 : Addr} {od9 an9 : Option Addr} {sl9 : Array (Option Value)} {oc9 kV9 dc9 pm9 cd9 ct9 : Value}
    {f10 : Addr} {od10 an10 : Option Addr} {sl10 : Array (Option Value)} {oc10 kV10 dc10 pm10 cd10 ct10 : Value}
    {f11 : Addr} {od11 an11 : Option Addr} {sl11 : Array (Option Value)} {oc11 kV11 dc11 pm11 cd11 ct11 : Value}
    {f12 : Addr} {od12 an12 : Option Addr} {sl12 : Array (Option Value)} {oc12 kV12 dc12 pm12 cd12 ct12 : Value}
    {f13 : Addr} {od13 an13 : Option Addr} {sl13 : Array (Option Value)} {oc13 kV13 dc13 pm13 cd13 ct13 : Value}
    {f14 : Addr} {od14 an14 : Option Addr} {sl14 : Array (Option Value)} {oc14 kV14 dc14 pm14 cd14 ct14 : Value}
    {f15 : Addr} {od15 an15 : Option Addr} {sl15 : Array (Option Value)} {oc15 kV15 dc15 pm15 cd15 ct15 : Value}
    {f16 : Addr} {od16 an16 : Option Addr} {sl16 : Array (Option Value)} {oc16 kV16 dc16 pm16 cd16 ct16 : Value}
    {f17 : Addr} {od17 an17 : Option Addr} {sl17 : Array (Option Value)} {oc17 kV17 dc17 pm17 cd17 ct17 : Value}
    {f18 : Addr} {od18 an18 : Option Addr} {sl18 : Array (Option Value)} {oc18 kV18 dc18 pm18 cd18 ct18 : Value}
    {f19 : Addr} {od19 an19 : Option Addr} {sl19 : Array (Option Value)} {oc19 kV19 dc19 pm19 cd19 ct19 : Value}
    {f20 : Addr} {od20 an20 : Option Addr} {sl20 : Array (Option Value)} {oc20 kV20 dc20 pm20 cd20 ct20 : Value}
    {f21 : Addr} {od21 an21 : Option Addr} {sl21 : Array (Option Value)} {oc21 kV21 dc21 pm21 cd21 ct21 : Value}
    {f22 : Addr} {od22 an22 : Option Addr} {sl22 : Array (Option Value)} {oc22 kV22 dc22 pm22 cd22 ct22 : Value}
    {f23 : Addr} {od23 an23 : Option Addr} {sl23 : Array (Option Value)} {oc23 kV23 dc23 pm23 cd23 ct23 : Value}
    {f24 : Addr} {od24 an24 : Option Addr} {sl24 : Array (Option Value)} {oc24 kV24 dc24 pm24 cd24 ct24 : Value}
    {f25 : Addr} {od25 an25 : Option Addr} {sl25 : Array (Option Value)} {oc25 kV25 dc25 pm25 cd25 ct25 : Value}
    {f26 : Addr} {od26 an26 : Option Addr} {sl26 : Array (Option Value)} {oc26 kV26 dc26 pm26 cd26 ct26 : Value}
    {f27 : Addr} {od27 an27 : Option Addr} {sl27 : Array (Option Value)} {oc27 kV27 dc27 pm27 cd27 ct27 : Value}
    {f28 : Addr} {od28 an28 : Option Addr} {sl28 : Array (Option Value)} {oc28 kV28 dc28 pm28 cd28 ct28 : Value}
    {f29 : Addr} {od29 an29 : Option Addr} {sl29 : Array (Option Value)} {oc29 kV29 dc29 pm29 cd29 ct29 : Value}
    {f30 : Addr} {od30 an30 : Option Addr} {sl30 : Array (Option Value)} {oc30 kV30 dc30 pm30 cd30 ct30 : Value}
    {f31 : Addr} {od31 an31 : Option Addr} {sl31 : Array (Option Value)} {oc31 kV31 dc31 pm31 cd31 ct31 : Value}
    {f32 : Addr} {od32 an32 : Option Addr} {sl32 : Array (Option Value)} {oc32 kV32 dc32 pm32 cd32 ct32 : Value}
    {f33 : Addr} {od33 an33 : Option Addr} {sl33 : Array (Option Value)} {oc33 kV33 dc33 pm33 cd33 ct33 : Value}
    {f34 : Addr} {od34 an34 : Option Addr} {sl34 : Array (Option Value)} {oc34 kV34 dc34 pm34 cd34 ct34 : Value}
    {f35 : Addr} {od35 an35 : Option Addr} {sl35 : Array (Option Value)} {oc35 kV35 dc35 pm35 cd35 ct35 : Value}
    {f36 : Addr} {od36 an36 : Option Addr} {sl36 : Array (Option Value)} {oc36 kV36 dc36 pm36 cd36 ct36 : Value}
    {f37 : Addr} {od37 an37 : Option Addr} {sl37 : Array (Option Value)} {oc37 kV37 dc37 pm37 cd37 ct37 : Value}
    {f38 : Addr} {od38 an38 : Option Addr} {sl38 : Array (Option Value)} {oc38 kV38 dc38 pm38 cd38 ct38 : Value}
    {f39 : Addr} {od39 an39 : Option Addr} {sl39 : Array (Option Value)} {oc39 kV39 dc39 pm39 cd39 ct39 : Value}
    {f40 : Addr} {od40 an40 : Option Addr} {sl40 : Array (Option Value)} {oc40 kV40 dc40 pm40 cd40 ct40 : Value}
    {f41 : Addr} {od41 an41 : Option Addr} {sl41 : Array (Option Value)} {oc41 kV41 dc41 pm41 cd41 ct41 : Value}
    {f42 : Addr} {od42 an42 : Option Addr} {sl42 : Array (Option Value)} {oc42 kV42 dc42 pm42 cd42 ct42 : Value}
    {f43 : Addr} {od43 an43 : Option Addr} {sl43 : Array (Option Value)} {oc43 kV43 dc43 pm43 cd43 ct43 : Value}
    {f44 : Addr} {od44 an44 : Option Addr} {sl44 : Array (Option Value)} {oc44 kV44 dc44 pm44 cd44 ct44 : Value}
    {f45 : Addr} {od45 an45 : Option Addr} {sl45 : Array (Option Value)} {oc45 kV45 dc45 pm45 cd45 ct45 : Value}
    {f46 : Addr} {od46 an46 : Option Addr} {sl46 : Array (Option Value)} {oc46 kV46 dc46 pm46 cd46 ct46 : Value}
    {f47 : Addr} {od47 an47 : Option Addr} {sl47 : Array (Option Value)} {oc47 kV47 dc47 pm47 cd47 ct47 : Value}
    {t1 : Tok}
    {t2 : Tok}
    {t3 : Tok}
    {t4 : Tok}
    {t5 : Tok}
    {t6 : Tok}
    {t7 : Tok}
    {t8 : Tok}
    {t9 : Tok}
    {t10 : Tok}
    {t11 : Tok}
    {t12 : Tok}
    {t13 : Tok}
    {t14 : Tok}
    {t15 : Tok}
    {t16 : Tok}
    {t17 : Tok}
    {t18 : Tok}
    {t19 : Tok}
    {t20 : Tok}
    {t21 : Tok}
    {t22 : Tok}
    {t23 : Tok}
    {t24 : Tok}
    {t25 : Tok}
    {t26 : Tok}
    {ta27 : Addr} {td27 : Option Addr} {tn27 : Nat} {ts27 : Array (Option Value)} {u27_0 u27_1 u27_2 u27_3 : Tok}
    {ta28 : Addr} {td28 : Option Addr} {tn28 : Nat} {ts28 : Array (Option Value)} {u28_0 u28_1 u28_2 u28_3 : Tok}
    {ta29 : Addr} {td29 : Option Addr} {tn29 : Nat} {ts29 : Array (Option Value)} {u29_0 u29_1 : Tok}
    {ta30 : Addr} {td30 : Option Addr} {tn30 : Nat} {ts30 : Array (Option Value)} {u30_0 u30_1 : Tok}
    {ta31 : Addr} {td31 : Option Addr} {tn31 : Nat} {ts31 : Array (Option Value)} {u31_0 u31_1 u31_2 u31_3 u31_4 u31_5 u31_6 u31_7 u31_8 u31_9 : Tok}
    {ta32 : Addr} {td32 : Option Addr} {tn32 : Nat} {ts32 : Array (Option Value)} {u32_0 u32_1 u32_2 u32_3 u32_4 u32_5 u32_6 u32_7 u32_8 u32_9 : Tok}
    (aH : PySem.W.nsIn K mainGlobals "House" = some (some (.ref CH)))
    (aO : PySem.W.nsIn K mainGlobals "Operator" = some (some (.ref CO)))
    (aC : PySem.W.nsIn K mainGlobals "Chart" = some (some (.ref CC)))
    (a1 : PySem.W.nsIn K mainGlobals "may_by_side" = some (some (.ref f1)))
    (l1 : K.lookup f1 = some ⟨oc1, od1, .func (PySem.W.fnOf "may_by_side" "may_by_side" (defArgs s_may_by_side) (defBody s_may_by_side) (defScope s_may_by_side) .none kV1 dc1 pm1 an1 cd1 ct1), sl1⟩)
    (c1 : PySem.W.codeIn K cd1 "may_by_side" = true)
    (k1 : PySem.W.keepIn K (.ref f1) = true)
    (a2 : PySem.W.nsIn K mainGlobals "may" = some (some (.ref f2)))
    (l2 : K.lookup f2 = some ⟨oc2, od2, .func (PySem.W.fnOf "may" "may" (defArgs s_may) (defBody s_may) (defScope s_may) .none kV2 dc2 pm2 an2 cd2 ct2), sl2⟩)
    (c2 : PySem.W.codeIn K cd2 "may" = true)
    (k2 : PySem.W.keepIn K (.ref f2) = true)
    (a3 : PySem.W.nsIn K mainGlobals "all_may" = some (some (.ref f3)))
    (l3 : K.lookup f3 = some ⟨oc3, od3, .func (PySem.W.fnOf "all_may" "all_may" (defArgs s_all_may) (defBody s_all_may) (defScope s_all_may) .none kV3 dc3 pm3 an3 cd3 ct3), sl3⟩)
    (c3 : PySem.W.codeIn K cd3 "all_may" = true)
    (k3 : PySem.W.keepIn K (.ref f3) = true)
    (a4 : PySem.W.nsIn K mainGlobals "depths_of" = some (some (.ref f4)))
    (l4 : K.lookup f4 = some ⟨oc4, od4, .func (PySem.W.fnOf "depths_of" "depths_of" (defArgs s_depths_of) (defBody s_depths_of) (defScope s_depths_of) .none kV4 dc4 pm4 an4 cd4 ct4), sl4⟩)
    (c4 : PySem.W.codeIn K cd4 "depths_of" = true)
    (k4 : PySem.W.keepIn K (.ref f4) = true)
    (a5 : PySem.W.nsIn K mainGlobals "piece_of" = some (some (.ref f5)))
    (l5 : K.lookup f5 = some ⟨oc5, od5, .func (PySem.W.fnOf "piece_of" "piece_of" (defArgs s_piece_of) (defBody s_piece_of) (defScope s_piece_of) .none kV5 dc5 pm5 an5 cd5 ct5), sl5⟩)
    (c5 : PySem.W.codeIn K cd5 "piece_of" = true)
    (k5 : PySem.W.keepIn K (.ref f5) = true)
    (a6 : PySem.W.nsIn K mainGlobals "operator_at" = some (some (.ref f6)))
    (l6 : K.lookup f6 = some ⟨oc6, od6, .func (PySem.W.fnOf "operator_at" "operator_at" (defArgs s_operator_at) (defBody s_operator_at) (defScope s_operator_at) .none kV6 dc6 pm6 an6 cd6 ct6), sl6⟩)
    (c6 : PySem.W.codeIn K cd6 "operator_at" = true)
    (k6 : PySem.W.keepIn K (.ref f6) = true)
    (a7 : PySem.W.nsIn K mainGlobals "reading_at" = some (some (.ref f7)))
    (l7 : K.lookup f7 = some ⟨oc7, od7, .func (PySem.W.fnOf "reading_at" "reading_at" (defArgs s_reading_at) (defBody s_reading_at) (defScope s_reading_at) .none kV7 dc7 pm7 an7 cd7 ct7), sl7⟩)
    (c7 : PySem.W.codeIn K cd7 "reading_at" = true)
    (k7 : PySem.W.keepIn K (.ref f7) = true)
    (a8 : PySem.W.nsIn K mainGlobals "pieces_of" = some (some (.ref f8)))
    (l8 : K.lookup f8 = some ⟨oc8, od8, .func (PySem.W.fnOf "pieces_of" "pieces_of" (defArgs s_pieces_of) (defBody s_pieces_of) (defScope s_pieces_of) .none kV8 dc8 pm8 an8 cd8 ct8), sl8⟩)
    (c8 : PySem.W.codeIn K cd8 "pieces_of" = true)
    (k8 : PySem.W.keepIn K (.ref f8) = true)
    (a9 : PySem.W.nsIn K mainGlobals "put_closer" = some (some (.ref f9)))
    (l9 : K.lookup f9 = some ⟨oc9, od9, .func (PySem.W.fnOf "put_closer" "put_closer" (defArgs s_put_closer) (defBody s_put_closer) (defScope s_put_closer) .none kV9 dc9 pm9 an9 cd9 ct9), sl9⟩)
    (c9 : PySem.W.codeIn K cd9 "put_closer" = true)
    (k9 : PySem.W.keepIn K (.ref f9) = true)
    (a10 : PySem.W.nsIn K mainGlobals "is_operator" = some (some (.ref f10)))
    (l10 : K.lookup f10 = some ⟨oc10, od10, .func (PySem.W.fnOf "is_operator" "is_operator" (defArgs s_is_operator) (defBody s_is_operator) (defScope s_is_operator) .none kV10 dc10 pm10 an10 cd10 ct10), sl10⟩)
    (c10 : PySem.W.codeIn K cd10 "is_operator" = true)
    (k10 : PySem.W.keepIn K (.ref f10) = true)
    (a11 : PySem.W.nsIn K mainGlobals "is_barred" = some (some (.ref f11)))
    (l11 : K.lookup f11 = some ⟨oc11, od11, .func (PySem.W.fnOf "is_barred" "is_barred" (defArgs s_is_barred) (defBody s_is_barred) (defScope s_is_barred) .none kV11 dc11 pm11 an11 cd11 ct11), sl11⟩)
    (c11 : PySem.W.codeIn K cd11 "is_barred" = true)
    (k11 : PySem.W.keepIn K (.ref f11) = true)
    (a12 : PySem.W.nsIn K mainGlobals "barred_in" = some (some (.ref f12)))
    (l12 : K.lookup f12 = some ⟨oc12, od12, .func (PySem.W.fnOf "barred_in" "barred_in" (defArgs s_barred_in) (defBody s_barred_in) (defScope s_barred_in) .none kV12 dc12 pm12 an12 cd12 ct12), sl12⟩)
    (c12 : PySem.W.codeIn K cd12 "barred_in" = true)
    (k12 : PySem.W.keepIn K (.ref f12) = true)
    (a13 : PySem.W.nsIn K mainGlobals "bare_in" = some (some (.ref f13)))
    (l13 : K.lookup f13 = some ⟨oc13, od13, .func (PySem.W.fnOf "bare_in" "bare_in" (defArgs s_bare_in) (defBody s_bare_in) (defScope s_bare_in) .none kV13 dc13 pm13 an13 cd13 ct13), sl13⟩)
    (c13 : PySem.W.codeIn K cd13 "bare_in" = true)
    (k13 : PySem.W.keepIn K (.ref f13) = true)
    (a14 : PySem.W.nsIn K mainGlobals "expression_of" = some (some (.ref f14)))
    (l14 : K.lookup f14 = some ⟨oc14, od14, .func (PySem.W.fnOf "expression_of" "expression_of" (defArgs s_expression_of) (defBody s_expression_of) (defScope s_expression_of) .none kV14 dc14 pm14 an14 cd14 ct14), sl14⟩)
    (c14 : PySem.W.codeIn K cd14 "expression_of" = true)
    (k14 : PySem.W.keepIn K (.ref f14) = true)
    (a15 : PySem.W.nsIn K mainGlobals "said" = some (some (.ref f15)))
    (l15 : K.lookup f15 = some ⟨oc15, od15, .func (PySem.W.fnOf "said" "said" (defArgs s_said) (defBody s_said) (defScope s_said) .none kV15 dc15 pm15 an15 cd15 ct15), sl15⟩)
    (c15 : PySem.W.codeIn K cd15 "said" = true)
    (k15 : PySem.W.keepIn K (.ref f15) = true)
    (a16 : PySem.W.nsIn K mainGlobals "choices" = some (some (.ref f16)))
    (l16 : K.lookup f16 = some ⟨oc16, od16, .func (PySem.W.fnOf "choices" "choices" (defArgs s_choices) (defBody s_choices) (defScope s_choices) .none kV16 dc16 pm16 an16 cd16 ct16), sl16⟩)
    (c16 : PySem.W.codeIn K cd16 "choices" = true)
    (k16 : PySem.W.keepIn K (.ref f16) = true)
    (a17 : PySem.W.nsIn K mainGlobals "is_sure" = some (some (.ref f17)))
    (l17 : K.lookup f17 = some ⟨oc17, od17, .func (PySem.W.fnOf "is_sure" "is_sure" (defArgs s_is_sure) (defBody s_is_sure) (defScope s_is_sure) .none kV17 dc17 pm17 an17 cd17 ct17), sl17⟩)
    (c17 : PySem.W.codeIn K cd17 "is_sure" = true)
    (k17 : PySem.W.keepIn K (.ref f17) = true)
    (a18 : PySem.W.nsIn K mainGlobals "printed" = some (some (.ref f18)))
    (l18 : K.lookup f18 = some ⟨oc18, od18, .func (PySem.W.fnOf "printed" "printed" (defArgs s_printed) (defBody s_printed) (defScope s_printed) .none kV18 dc18 pm18 an18 cd18 ct18), sl18⟩)
    (c18 : PySem.W.codeIn K cd18 "printed" = true)
    (k18 : PySem.W.keepIn K (.ref f18) = true)
    (a19 : PySem.W.nsIn K mainGlobals "without_brackets" = some (some (.ref f19)))
    (l19 : K.lookup f19 = some ⟨oc19, od19, .func (PySem.W.fnOf "without_brackets" "without_brackets" (defArgs s_without_brackets) (defBody s_without_brackets) (defScope s_without_brackets) .none kV19 dc19 pm19 an19 cd19 ct19), sl19⟩)
    (c19 : PySem.W.codeIn K cd19 "without_brackets" = true)
    (k19 : PySem.W.keepIn K (.ref f19) = true)
    (a20 : PySem.W.nsIn K mainGlobals "made_sure" = some (some (.ref f20)))
    (l20 : K.lookup f20 = some ⟨oc20, od20, .func (PySem.W.fnOf "made_sure" "made_sure" (defArgs s_made_sure) (defBody s_made_sure) (defScope s_made_sure) .none kV20 dc20 pm20 an20 cd20 ct20), sl20⟩)
    (c20 : PySem.W.codeIn K cd20 "made_sure" = true)
    (k20 : PySem.W.keepIn K (.ref f20) = true)
    (a21 : PySem.W.nsIn K mainGlobals "is_text" = some (some (.ref f21)))
    (l21 : K.lookup f21 = some ⟨oc21, od21, .func (PySem.W.fnOf "is_text" "is_text" (defArgs s_is_text) (defBody s_is_text) (defScope s_is_text) .none kV21 dc21 pm21 an21 cd21 ct21), sl21⟩)
    (c21 : PySem.W.codeIn K cd21 "is_text" = true)
    (k21 : PySem.W.keepIn K (.ref f21) = true)
    (a22 : PySem.W.nsIn K mainGlobals "sure_told" = some (some (.ref f22)))
    (l22 : K.lookup f22 = some ⟨oc22, od22, .func (PySem.W.fnOf "sure_told" "sure_told" (defArgs s_sure_told) (defBody s_sure_told) (defScope s_sure_told) .none kV22 dc22 pm22 an22 cd22 ct22), sl22⟩)
    (c22 : PySem.W.codeIn K cd22 "sure_told" = true)
    (k22 : PySem.W.keepIn K (.ref f22) = true)
    (a23 : PySem.W.nsIn K mainGlobals "of_expression" = some (some (.ref f23)))
    (l23 : K.lookup f23 = some ⟨oc23, od23, .func (PySem.W.fnOf "of_expression" "of_expression" (defArgs s_of_expression) (defBody s_of_expression) (defScope s_of_expression) .none kV23 dc23 pm23 an23 cd23 ct23), sl23⟩)
    (c23 : PySem.W.codeIn K cd23 "of_expression" = true)
    (k23 : PySem.W.keepIn K (.ref f23) = true)
    (a24 : PySem.W.nsIn K mainGlobals "are_groups" = some (some (.ref f24)))
    (l24 : K.lookup f24 = some ⟨oc24, od24, .func (PySem.W.fnOf "are_groups" "are_groups" (defArgs s_are_groups) (defBody s_are_groups) (defScope s_are_groups) .none kV24 dc24 pm24 an24 cd24 ct24), sl24⟩)
    (c24 : PySem.W.codeIn K cd24 "are_groups" = true)
    (k24 : PySem.W.keepIn K (.ref f24) = true)
    (a25 : PySem.W.nsIn K mainGlobals "order" = some (some (.ref f25)))
    (l25 : K.lookup f25 = some ⟨oc25, od25, .func (PySem.W.fnOf "order" "order" (defArgs s_order) (defBody s_order) (defScope s_order) .none kV25 dc25 pm25 an25 cd25 ct25), sl25⟩)
    (c25 : PySem.W.codeIn K cd25 "order" = true)
    (k25 : PySem.W.keepIn K (.ref f25) = true)
    (a26 : PySem.W.nsIn K mainGlobals "may_told" = some (some (.ref f26)))
    (l26 : K.lookup f26 = some ⟨oc26, od26, .func (PySem.W.fnOf "may_told" "may_told" (defArgs s_may_told) (defBody s_may_told) (defScope s_may_told) .none kV26 dc26 pm26 an26 cd26 ct26), sl26⟩)
    (c26 : PySem.W.codeIn K cd26 "may_told" = true)
    (k26 : PySem.W.keepIn K (.ref f26) = true)
    (a27 : PySem.W.nsIn K mainGlobals "read" = some (some (.ref f27)))
    (l27 : K.lookup f27 = some ⟨oc27, od27, .func (PySem.W.fnOf "read" "read" (defArgs s_read) (defBody s_read) (defScope s_read) .none kV27 dc27 pm27 an27 cd27 ct27), sl27⟩)
    (c27 : PySem.W.codeIn K cd27 "read" = true)
    (k27 : PySem.W.keepIn K (.ref f27) = true)
    (a28 : PySem.W.nsIn K mainGlobals "reading" = some (some (.ref f28)))
    (l28 : K.lookup f28 = some ⟨oc28, od28, .func (PySem.W.fnOf "reading" "reading" (defArgs s_reading) (defBody s_reading) (defScope s_reading) .none kV28 dc28 pm28 an28 cd28 ct28), sl28⟩)
    (c28 : PySem.W.codeIn K cd28 "reading" = true)
    (k28 : PySem.W.keepIn K (.ref f28) = true)
    (a29 : PySem.W.nsIn K mainGlobals "tidy" = some (some (.ref f29)))
    (l29 : K.lookup f29 = some ⟨oc29, od29, .func (PySem.W.fnOf "tidy" "tidy" (defArgs s_tidy) (defBody s_tidy) (defScope s_tidy) .none kV29 dc29 pm29 an29 cd29 ct29), sl29⟩)
    (c29 : PySem.W.codeIn K cd29 "tidy" = true)
    (k29 : PySem.W.keepIn K (.ref f29) = true)
    (a30 : PySem.W.nsIn K mainGlobals "begun" = some (some (.ref f30)))
    (l30 : K.lookup f30 = some ⟨oc30, od30, .func (PySem.W.fnOf "begun" "begun" (defArgs s_begun) (defBody s_begun) (defScope s_begun) .none kV30 dc30 pm30 an30 cd30 ct30), sl30⟩)
    (c30 : PySem.W.codeIn K cd30 "begun" = true)
    (k30 : PySem.W.keepIn K (.ref f30) = true)
    (a31 : PySem.W.nsIn K mainGlobals "op" = some (some (.ref f31)))
    (l31 : K.lookup f31 = some ⟨oc31, od31, .func (PySem.W.fnOf "op" "op" (defArgs s_op) (defBody s_op) (defScope s_op) .none kV31 dc31 pm31 an31 cd31 ct31), sl31⟩)
    (c31 : PySem.W.codeIn K cd31 "op" = true)
    (k31 : PySem.W.keepIn K (.ref f31) = true)
    (a32 : PySem.W.nsIn K mainGlobals "tighter" = some (some (.ref f32)))
    (l32 : K.lookup f32 = some ⟨oc32, od32, .func (PySem.W.fnOf "tighter" "tighter" (defArgs s_tighter) (defBody s_tighter) (defScope s_tighter) .none kV32 dc32 pm32 an32 cd32 ct32), sl32⟩)
    (c32 : PySem.W.codeIn K cd32 "tighter" = true)
    (k32 : PySem.W.keepIn K (.ref f32) = true)
    (a33 : PySem.W.nsIn K mainGlobals "told_by" = some (some (.ref f33)))
    (l33 : K.lookup f33 = some ⟨oc33, od33, .func (PySem.W.fnOf "told_by" "told_by" (defArgs s_told_by) (defBody s_told_by) (defScope s_told_by) .none kV33 dc33 pm33 an33 cd33 ct33), sl33⟩)
    (c33 : PySem.W.codeIn K cd33 "told_by" = true)
    (k33 : PySem.W.keepIn K (.ref f33) = true)
    (a34 : PySem.W.nsIn K mainGlobals "taken" = some (some (.ref f34)))
    (l34 : K.lookup f34 = some ⟨oc34, od34, .func (PySem.W.fnOf "taken" "taken" (defArgs s_taken) (defBody s_taken) (defScope s_taken) .none kV34 dc34 pm34 an34 cd34 ct34), sl34⟩)
    (c34 : PySem.W.codeIn K cd34 "taken" = true)
    (k34 : PySem.W.keepIn K (.ref f34) = true)
    (a35 : PySem.W.nsIn K mainGlobals "answers" = some (some (.ref f35)))
    (l35 : K.lookup f35 = some ⟨oc35, od35, .func (PySem.W.fnOf "answers" "answers" (defArgs s_answers) (defBody s_answers) (defScope s_answers) .none kV35 dc35 pm35 an35 cd35 ct35), sl35⟩)
    (c35 : PySem.W.codeIn K cd35 "answers" = true)
    (k35 : PySem.W.keepIn K (.ref f35) = true)
    (a36 : PySem.W.findIn K (.ref CC) "is_even" = some (some (.ref f36)))
    (i36 : PySem.W.isFn K (.ref f36) = true)
    (l36 : K.lookup f36 = some ⟨oc36, od36, .func (PySem.W.fnOf "is_even" "Chart.is_even" (defArgs s_Chart_is_even) (defBody s_Chart_is_even) (defScope s_Chart_is_even) .none kV36 dc36 pm36 an36 cd36 ct36), sl36⟩)
    (c36 : PySem.W.codeIn K cd36 "Chart.is_even" = true)
    (k36 : PySem.W.keepIn K (.ref f36) = true)
    (a37 : PySem.W.findIn K (.ref CC) "alone_in" = some (some (.ref f37)))
    (i37 : PySem.W.isFn K (.ref f37) = true)
    (l37 : K.lookup f37 = some ⟨oc37, od37, .func (PySem.W.fnOf "alone_in" "Chart.alone_in" (defArgs s_Chart_alone_in) (defBody s_Chart_alone_in) (defScope s_Chart_alone_in) .none kV37 dc37 pm37 an37 cd37 ct37), sl37⟩)
    (c37 : PySem.W.codeIn K cd37 "Chart.alone_in" = true)
    (k37 : PySem.W.keepIn K (.ref f37) = true)
    (a38 : PySem.W.findIn K (.ref CC) "all_in" = some (some (.ref f38)))
    (i38 : PySem.W.isFn K (.ref f38) = true)
    (l38 : K.lookup f38 = some ⟨oc38, od38, .func (PySem.W.fnOf "all_in" "Chart.all_in" (defArgs s_Chart_all_in) (defBody s_Chart_all_in) (defScope s_Chart_all_in) .none kV38 dc38 pm38 an38 cd38 ct38), sl38⟩)
    (c38 : PySem.W.codeIn K cd38 "Chart.all_in" = true)
    (k38 : PySem.W.keepIn K (.ref f38) = true)
    (a39 : PySem.W.findIn K (.ref CC) "bracketed_in" = some (some (.ref f39)))
    (i39 : PySem.W.isFn K (.ref f39) = true)
    (l39 : K.lookup f39 = some ⟨oc39, od39, .func (PySem.W.fnOf "bracketed_in" "Chart.bracketed_in" (defArgs s_Chart_bracketed_in) (defBody s_Chart_bracketed_in) (defScope s_Chart_bracketed_in) .none kV39 dc39 pm39 an39 cd39 ct39), sl39⟩)
    (c39 : PySem.W.codeIn K cd39 "Chart.bracketed_in" = true)
    (k39 : PySem.W.keepIn K (.ref f39) = true)
    (a40 : PySem.W.findIn K (.ref CC) "counted" = some (some (.ref f40)))
    (i40 : PySem.W.isFn K (.ref f40) = true)
    (l40 : K.lookup f40 = some ⟨oc40, od40, .func (PySem.W.fnOf "counted" "Chart.counted" (defArgs s_Chart_counted) (defBody s_Chart_counted) (defScope s_Chart_counted) .none kV40 dc40 pm40 an40 cd40 ct40), sl40⟩)
    (c40 : PySem.W.codeIn K cd40 "Chart.counted" = true)
    (k40 : PySem.W.keepIn K (.ref f40) = true)
    (a41 : PySem.W.findIn K (.ref CC) "ways" = some (some (.ref f41)))
    (i41 : PySem.W.isFn K (.ref f41) = true)
    (l41 : K.lookup f41 = some ⟨oc41, od41, .func (PySem.W.fnOf "ways" "Chart.ways" (defArgs s_Chart_ways) (defBody s_Chart_ways) (defScope s_Chart_ways) .none kV41 dc41 pm41 an41 cd41 ct41), sl41⟩)
    (c41 : PySem.W.codeIn K cd41 "Chart.ways" = true)
    (k41 : PySem.W.keepIn K (.ref f41) = true)
    (a42 : PySem.W.findIn K (.ref CC) "ways_by_thing" = some (some (.ref f42)))
    (i42 : PySem.W.isFn K (.ref f42) = true)
    (l42 : K.lookup f42 = some ⟨oc42, od42, .func (PySem.W.fnOf "ways_by_thing" "Chart.ways_by_thing" (defArgs s_Chart_ways_by_thing) (defBody s_Chart_ways_by_thing) (defScope s_Chart_ways_by_thing) .none kV42 dc42 pm42 an42 cd42 ct42), sl42⟩)
    (c42 : PySem.W.codeIn K cd42 "Chart.ways_by_thing" = true)
    (k42 : PySem.W.keepIn K (.ref f42) = true)
    (a43 : PySem.W.findIn K (.ref CC) "put_sort" = some (some (.ref f43)))
    (i43 : PySem.W.isFn K (.ref f43) = true)
    (l43 : K.lookup f43 = some ⟨oc43, od43, .func (PySem.W.fnOf "put_sort" "Chart.put_sort" (defArgs s_Chart_put_sort) (defBody s_Chart_put_sort) (defScope s_Chart_put_sort) .none kV43 dc43 pm43 an43 cd43 ct43), sl43⟩)
    (c43 : PySem.W.codeIn K cd43 "Chart.put_sort" = true)
    (k43 : PySem.W.keepIn K (.ref f43) = true)
    (a44 : PySem.W.findIn K (.ref CC) "many" = some (some (.ref f44)))
    (i44 : PySem.W.isFn K (.ref f44) = true)
    (l44 : K.lookup f44 = some ⟨oc44, od44, .func (PySem.W.fnOf "many" "Chart.many" (defArgs s_Chart_many) (defBody s_Chart_many) (defScope s_Chart_many) .none kV44 dc44 pm44 an44 cd44 ct44), sl44⟩)
    (c44 : PySem.W.codeIn K cd44 "Chart.many" = true)
    (k44 : PySem.W.keepIn K (.ref f44) = true)
    (a45 : PySem.W.findIn K (.ref CH) "__init__" = some (some (.ref f45)))
    (i45 : PySem.W.isFn K (.ref f45) = true)
    (l45 : K.lookup f45 = some ⟨oc45, od45, .func (PySem.W.fnOf "__init__" "House.__init__" (defArgs s_House___init__) (defBody s_House___init__) (defScope s_House___init__) .none kV45 dc45 pm45 an45 cd45 ct45), sl45⟩)
    (c45 : PySem.W.codeIn K cd45 "House.__init__" = true)
    (k45 : PySem.W.keepIn K (.ref f45) = true)
    (mkH : PySem.W.makesIn K CH = true)
    (kcH : PySem.W.keepIn K (.ref CH) = true)
    (a46 : PySem.W.findIn K (.ref CO) "__init__" = some (some (.ref f46)))
    (i46 : PySem.W.isFn K (.ref f46) = true)
    (l46 : K.lookup f46 = some ⟨oc46, od46, .func (PySem.W.fnOf "__init__" "Operator.__init__" (defArgs s_Operator___init__) (defBody s_Operator___init__) (defScope s_Operator___init__) .none kV46 dc46 pm46 an46 cd46 ct46), sl46⟩)
    (c46 : PySem.W.codeIn K cd46 "Operator.__init__" = true)
    (k46 : PySem.W.keepIn K (.ref f46) = true)
    (mkO : PySem.W.makesIn K CO = true)
    (kcO : PySem.W.keepIn K (.ref CO) = true)
    (a47 : PySem.W.findIn K (.ref CC) "__init__" = some (some (.ref f47)))
    (i47 : PySem.W.isFn K (.ref f47) = true)
    (l47 : K.lookup f47 = some ⟨oc47, od47, .func (PySem.W.fnOf "__init__" "Chart.__init__" (defArgs s_Chart___init__) (defBody s_Chart___init__) (defScope s_Chart___init__) .none kV47 dc47 pm47 an47 cd47 ct47), sl47⟩)
    (c47 : PySem.W.codeIn K cd47 "Chart.__init__" = true)
    (k47 : PySem.W.keepIn K (.ref f47) = true)
    (mkC : PySem.W.makesIn K CC = true)
    (kcC : PySem.W.keepIn K (.ref CC) = true)
    (pgH : PySem.W.plainGet K CH Str.empty = true)
    (hdH : PySem.W.hasDictIn K CH = true)
    (poH : PySem.W.plainOver K CH = true)
    (saH : PySem.W.findIn K (.ref CH) "__setattr__" = some (some (.builtin "object.__setattr__")))
    (nH0 : PySem.W.findIn K (.ref CH) "many_words" = some none)
    (nH1 : PySem.W.findIn K (.ref CH) "many_groups" = some none)
    (nH2 : PySem.W.findIn K (.ref CH) "alone" = some none)
    (nH3 : PySem.W.findIn K (.ref CH) "operators" = some none)
    (nH4 : PySem.W.findIn K (.ref CH) "closer" = some none)
    (nH5 : PySem.W.findIn K (.ref CH) "chart" = some none)
    (pgO : PySem.W.plainGet K CO Str.empty = true)
    (hdO : PySem.W.hasDictIn K CO = true)
    (poO : PySem.W.plainOver K CO = true)
    (saO : PySem.W.findIn K (.ref CO) "__setattr__" = some (some (.builtin "object.__setattr__")))
    (nO0 : PySem.W.findIn K (.ref CO) "way" = some none)
    (nO1 : PySem.W.findIn K (.ref CO) "group" = some none)
    (nO2 : PySem.W.findIn K (.ref CO) "pieces" = some none)
    (nO3 : PySem.W.findIn K (.ref CO) "spots" = some none)
    (pgC : PySem.W.plainGet K CC Str.empty = true)
    (hdC : PySem.W.hasDictIn K CC = true)
    (poC : PySem.W.plainOver K CC = true)
    (saC : PySem.W.findIn K (.ref CC) "__setattr__" = some (some (.builtin "object.__setattr__")))
    (nC0 : PySem.W.findIn K (.ref CC) "house" = some none)
    (nC1 : PySem.W.findIn K (.ref CC) "text" = some none)
    (nC2 : PySem.W.findIn K (.ref CC) "depths" = some none)
    (nC3 : PySem.W.findIn K (.ref CC) "sorts" = some none)
    (nC4 : PySem.W.findIn K (.ref CC) "sort_of" = some none)
    (nC5 : PySem.W.findIn K (.ref CC) "ways_known" = some none)
    (nC6 : PySem.W.findIn K (.ref CC) "stretch_known" = some none)
    (g1 : PySem.W.nsIn K mainGlobals "CLOSED" = some (some (.int 0 t1)))
    (g2 : PySem.W.nsIn K mainGlobals "THING" = some (some (.int (-1) t2)))
    (g3 : PySem.W.nsIn K mainGlobals "OPEN" = some (some (.int 0 t3)))
    (g4 : PySem.W.nsIn K mainGlobals "SHUT" = some (some (.int 1 t4)))
    (g5 : PySem.W.nsIn K mainGlobals "OPERATOR" = some (some (.int 64 t5)))
    (g6 : PySem.W.nsIn K mainGlobals "IN_BRACKETS" = some (some (.int 128 t6)))
    (g7 : PySem.W.nsIn K mainGlobals "MOST_NUMBERS" = some (some (.int 40 t7)))
    (g8 : PySem.W.nsIn K mainGlobals "MOST_BARE" = some (some (.int 8 t8)))
    (g9 : PySem.W.nsIn K mainGlobals "MOST_WORDS" = some (some (.int 32 t9)))
    (g10 : PySem.W.nsIn K mainGlobals "NO_OWNER" = some (some (.int (-1) t10)))
    (g11 : PySem.W.nsIn K mainGlobals "LEAST_WORDS" = some (some (.int 3 t11)))
    (g12 : PySem.W.nsIn K mainGlobals "MOST_HOUSE_WORDS" = some (some (.int 64 t12)))
    (g13 : PySem.W.nsIn K mainGlobals "MOST_GROUPS" = some (some (.int 16 t13)))
    (g14 : PySem.W.nsIn K mainGlobals "MOST_WAY" = some (some (.int 5 t14)))
    (g15 : PySem.W.nsIn K mainGlobals "MOST_OWN" = some (some (.int 6 t15)))
    (g16 : PySem.W.nsIn K mainGlobals "MOST_OPERATORS" = some (some (.int 24 t16)))
    (g17 : PySem.W.nsIn K mainGlobals "LAST_BRACKET" = some (some (.int 1 t17)))
    (g18 : PySem.W.nsIn K mainGlobals "BEGIN" = some (some (.int 1 t18)))
    (g19 : PySem.W.nsIn K mainGlobals "OP" = some (some (.int 2 t19)))
    (g20 : PySem.W.nsIn K mainGlobals "TIGHTER" = some (some (.int 3 t20)))
    (g21 : PySem.W.nsIn K mainGlobals "ORDER" = some (some (.int 4 t21)))
    (g22 : PySem.W.nsIn K mainGlobals "MAY" = some (some (.int 5 t22)))
    (g23 : PySem.W.nsIn K mainGlobals "READ" = some (some (.int 6 t23)))
    (g24 : PySem.W.nsIn K mainGlobals "READING" = some (some (.int 7 t24)))
    (g25 : PySem.W.nsIn K mainGlobals "PRINT" = some (some (.int 8 t25)))
    (g26 : PySem.W.nsIn K mainGlobals "SURE" = some (some (.int 9 t26)))
    (g27 : PySem.W.nsIn K mainGlobals "WITH_FIRST" = some (some (.ref ta27)))
    (h27 : K.lookup ta27 = some ⟨.type "tuple", td27, .seq #[.int 2 u27_0, .int 3 u27_1, .int 4 u27_2, .int 5 u27_3] tn27, ts27⟩)
    (g28 : PySem.W.nsIn K mainGlobals "WITH_LAST" = some (some (.ref ta28)))
    (h28 : K.lookup ta28 = some ⟨.type "tuple", td28, .seq #[.int 1 u28_0, .int 3 u28_1, .int 4 u28_2, .int 5 u28_3] tn28, ts28⟩)
    (g29 : PySem.W.nsIn K mainGlobals "TO_LEFT" = some (some (.ref ta29)))
    (h29 : K.lookup ta29 = some ⟨.type "tuple", td29, .seq #[.int 2 u29_0, .int 4 u29_1] tn29, ts29⟩)
    (g30 : PySem.W.nsIn K mainGlobals "TO_RIGHT" = some (some (.ref ta30)))
    (h30 : K.lookup ta30 = some ⟨.type "tuple", td30, .seq #[.int 1 u30_0, .int 5 u30_1] tn30, ts30⟩)
    (g31 : PySem.W.nsIn K mainGlobals "NUMBERS" = some (some (.ref ta31)))
    (h31 : K.lookup ta31 = some ⟨.type "tuple", td31, .seq #[.int 2 u31_0, .int 2 u31_1, .int 2 u31_2, .int 2 u31_3, .int 3 u31_4, .int 0 u31_5, .int 1 u31_6, .int 0 u31_7, .int 0 u31_8, .int 0 u31_9] tn31, ts31⟩)
    (g32 : PySem.W.nsIn K mainGlobals "ROWS" = some (some (.ref ta32)))
    (h32 : K.lookup ta32 = some ⟨.type "tuple", td32, .seq #[.int 1 u32_0, .int 1 u32_1, .int 0 u32_2, .int 0 u32_3, .int 0 u32_4, .int 1 u32_5, .int 0 u32_6, .int 1 u32_7, .int 1 u32_8, .int 1 u32_9] tn32, ts32⟩)
    (z_len : PySem.W.nsIn K mainGlobals "len" = some none)
    (z_range : PySem.W.nsIn K mainGlobals "range" = some none)
    (z_enumerate : PySem.W.nsIn K mainGlobals "enumerate" = some none)
    (z_int : PySem.W.nsIn K mainGlobals "int" = some none)
    (z_min : PySem.W.nsIn K mainGlobals "min" = some none)
    (z_tuple : PySem.W.nsIn K mainGlobals "tuple" = some none)
    (z_list : PySem.W.nsIn K mainGlobals "list" = some none)
    (z_all : PySem.W.nsIn K mainGlobals "all" = some none)
    : ∃ fd : FuncData, (∀ (s : Shared) (us : List Value), us.length = (["calls"] : List Str).length → BindsTo s fd ⟨us, []⟩ ((["calls"] : List Str).zip us)) ∧ ∀ base : Heap, K.In base → base.Ns mainGlobals mg → FnOk P w K mg base CX0 231 fa fd ["calls"] (spAnswers K) := by
  have e := hfa.symm.trans (PySem.W.mg_of X G a35)
  cases e
  have F1 := fun_mk (st := s_may_by_side) l1 c1 k1
  have D_may_by_side : DefAt K mg "may_by_side" s_may_by_side ["own", "other", "spot"] := ⟨f1, _, PySem.W.mg_of X G a1, F1, F1.binds (ps := ["own", "other", "spot"]) (fun _ _ _ _ _ _ us hl => match us, hl with | [_, _, _], _ => rfl)⟩
  have F2 := fun_mk (st := s_may) l2 c2 k2
  have D_may : DefAt K mg "may" s_may ["house", "owner", "thing", "number"] := ⟨f2, _, PySem.W.mg_of X G a2, F2, F2.binds (ps := ["house", "owner", "thing", "number"]) (fun _ _ _ _ _ _ us hl => match us, hl with | [_, _, _, _], _ => rfl)⟩
  have F3 := fun_mk (st := s_all_may) l3 c3 k3
  have D_all_may : DefAt K mg "all_may" s_all_may ["house", "owner", "thing"] := ⟨f3, _, PySem.W.mg_of X G a3, F3, F3.binds (ps := ["house", "owner", "thing"]) (fun _ _ _ _ _ _ us hl => match us, hl with | [_, _, _], _ => rfl)⟩
  have F4 := fun_mk (st := s_depths_of) l4 c4 k4
  have D_depths_of : DefAt K mg "depths_of" s_depths_of ["text"] := ⟨f4, _, PySem.W.mg_of X G a4, F4, F4.binds (ps := ["text"]) (fun _ _ _ _ _ _ us hl => match us, hl with | [_], _ => rfl)⟩
  have F5 := fun_mk (st := s_piece_of) l5 c5 k5
  have D_piece_of : DefAt K mg "piece_of" s_piece_of ["chart", "number", "spot", "stretch", "place"] := ⟨f5, _, PySem.W.mg_of X G a5, F5, F5.binds (ps := ["chart", "number", "spot", "stretch", "place"]) (fun _ _ _ _ _ _ us hl => match us, hl with | [_, _, _, _, _], _ => rfl)⟩
  have F6 := fun_mk (st := s_operator_at) l6 c6 k6
  have D_operator_at : DefAt K mg "operator_at" s_operator_at ["chart", "number", "begin", "end", "place"] := ⟨f6, _, PySem.W.mg_of X G a6, F6, F6.binds (ps := ["chart", "number", "begin", "end", "place"]) (fun _ _ _ _ _ _ us hl => match us, hl with | [_, _, _, _, _], _ => rfl)⟩
  have F7 := fun_mk (st := s_reading_at) l7 c7 k7
  have D_reading_at : DefAt K mg "reading_at" s_reading_at ["chart", "sort", "begin", "end", "place"] := ⟨f7, _, PySem.W.mg_of X G a7, F7, F7.binds (ps := ["chart", "sort", "begin", "end", "place"]) (fun _ _ _ _ _ _ us hl => match us, hl with | [_, _, _, _, _], _ => rfl)⟩
  have F8 := fun_mk (st := s_pieces_of) l8 c8 k8
  have D_pieces_of : DefAt K mg "pieces_of" s_pieces_of ["way", "words"] := ⟨f8, _, PySem.W.mg_of X G a8, F8, F8.binds (ps := ["way", "words"]) (fun _ _ _ _ _ _ us hl => match us, hl with | [_, _], _ => rfl)⟩
  have F9 := fun_mk (st := s_put_closer) l9 c9 k9
  have D_put_closer : DefAt K mg "put_closer" s_put_closer ["house", "first", "second"] := ⟨f9, _, PySem.W.mg_of X G a9, F9, F9.binds (ps := ["house", "first", "second"]) (fun _ _ _ _ _ _ us hl => match us, hl with | [_, _, _], _ => rfl)⟩
  have F10 := fun_mk (st := s_is_operator) l10 c10 k10
  have D_is_operator : DefAt K mg "is_operator" s_is_operator ["house", "number"] := ⟨f10, _, PySem.W.mg_of X G a10, F10, F10.binds (ps := ["house", "number"]) (fun _ _ _ _ _ _ us hl => match us, hl with | [_, _], _ => rfl)⟩
  have F11 := fun_mk (st := s_is_barred) l11 c11 k11
  have D_is_barred : DefAt K mg "is_barred" s_is_barred ["house", "one"] := ⟨f11, _, PySem.W.mg_of X G a11, F11, F11.binds (ps := ["house", "one"]) (fun _ _ _ _ _ _ us hl => match us, hl with | [_, _], _ => rfl)⟩
  have F12 := fun_mk (st := s_barred_in) l12 c12 k12
  have D_barred_in : DefAt K mg "barred_in" s_barred_in ["house", "expression"] := ⟨f12, _, PySem.W.mg_of X G a12, F12, F12.binds (ps := ["house", "expression"]) (fun _ _ _ _ _ _ us hl => match us, hl with | [_, _], _ => rfl)⟩
  have F13 := fun_mk (st := s_bare_in) l13 c13 k13
  have D_bare_in : DefAt K mg "bare_in" s_bare_in ["house", "expression"] := ⟨f13, _, PySem.W.mg_of X G a13, F13, F13.binds (ps := ["house", "expression"]) (fun _ _ _ _ _ _ us hl => match us, hl with | [_, _], _ => rfl)⟩
  have F14 := fun_mk (st := s_expression_of) l14 c14 k14
  have D_expression_of : DefAt K mg "expression_of" s_expression_of ["house", "numbers"] := ⟨f14, _, PySem.W.mg_of X G a14, F14, F14.binds (ps := ["house", "numbers"]) (fun _ _ _ _ _ _ us hl => match us, hl with | [_, _], _ => rfl)⟩
  have F15 := fun_mk (st := s_said) l15 c15 k15
  have D_said : DefAt K mg "said" s_said ["house", "expression", "around"] := ⟨f15, _, PySem.W.mg_of X G a15, F15, F15.binds (ps := ["house", "expression", "around"]) (fun _ _ _ _ _ _ us hl => match us, hl with | [_, _, _], _ => rfl)⟩
  have F16 := fun_mk (st := s_choices) l16 c16 k16
  have D_choices : DefAt K mg "choices" s_choices ["places", "many"] := ⟨f16, _, PySem.W.mg_of X G a16, F16, F16.binds (ps := ["places", "many"]) (fun _ _ _ _ _ _ us hl => match us, hl with | [_, _], _ => rfl)⟩
  have F17 := fun_mk (st := s_is_sure) l17 c17 k17
  have D_is_sure : DefAt K mg "is_sure" s_is_sure ["house", "words"] := ⟨f17, _, PySem.W.mg_of X G a17, F17, F17.binds (ps := ["house", "words"]) (fun _ _ _ _ _ _ us hl => match us, hl with | [_, _], _ => rfl)⟩
  have F18 := fun_mk (st := s_printed) l18 c18 k18
  have D_printed : DefAt K mg "printed" s_printed ["house", "expression"] := ⟨f18, _, PySem.W.mg_of X G a18, F18, F18.binds (ps := ["house", "expression"]) (fun _ _ _ _ _ _ us hl => match us, hl with | [_, _], _ => rfl)⟩
  have F19 := fun_mk (st := s_without_brackets) l19 c19 k19
  have D_without_brackets : DefAt K mg "without_brackets" s_without_brackets ["numbers"] := ⟨f19, _, PySem.W.mg_of X G a19, F19, F19.binds (ps := ["numbers"]) (fun _ _ _ _ _ _ us hl => match us, hl with | [_], _ => rfl)⟩
  have F20 := fun_mk (st := s_made_sure) l20 c20 k20
  have D_made_sure : DefAt K mg "made_sure" s_made_sure ["house", "expression"] := ⟨f20, _, PySem.W.mg_of X G a20, F20, F20.binds (ps := ["house", "expression"]) (fun _ _ _ _ _ _ us hl => match us, hl with | [_, _], _ => rfl)⟩
  have F21 := fun_mk (st := s_is_text) l21 c21 k21
  have D_is_text : DefAt K mg "is_text" s_is_text ["house", "row"] := ⟨f21, _, PySem.W.mg_of X G a21, F21, F21.binds (ps := ["house", "row"]) (fun _ _ _ _ _ _ us hl => match us, hl with | [_, _], _ => rfl)⟩
  have F22 := fun_mk (st := s_sure_told) l22 c22 k22
  have D_sure_told : DefAt K mg "sure_told" s_sure_told ["house", "expression"] := ⟨f22, _, PySem.W.mg_of X G a22, F22, F22.binds (ps := ["house", "expression"]) (fun _ _ _ _ _ _ us hl => match us, hl with | [_, _], _ => rfl)⟩
  have F23 := fun_mk (st := s_of_expression) l23 c23 k23
  have D_of_expression : DefAt K mg "of_expression" s_of_expression ["house", "kind", "row"] := ⟨f23, _, PySem.W.mg_of X G a23, F23, F23.binds (ps := ["house", "kind", "row"]) (fun _ _ _ _ _ _ us hl => match us, hl with | [_, _, _], _ => rfl)⟩
  have F24 := fun_mk (st := s_are_groups) l24 c24 k24
  have D_are_groups : DefAt K mg "are_groups" s_are_groups ["house", "one"] := ⟨f24, _, PySem.W.mg_of X G a24, F24, F24.binds (ps := ["house", "one"]) (fun _ _ _ _ _ _ us hl => match us, hl with | [_, _], _ => rfl)⟩
  have F25 := fun_mk (st := s_order) l25 c25 k25
  have D_order : DefAt K mg "order" s_order ["house", "one"] := ⟨f25, _, PySem.W.mg_of X G a25, F25, F25.binds (ps := ["house", "one"]) (fun _ _ _ _ _ _ us hl => match us, hl with | [_, _], _ => rfl)⟩
  have F26 := fun_mk (st := s_may_told) l26 c26 k26
  have D_may_told : DefAt K mg "may_told" s_may_told ["house", "one"] := ⟨f26, _, PySem.W.mg_of X G a26, F26, F26.binds (ps := ["house", "one"]) (fun _ _ _ _ _ _ us hl => match us, hl with | [_, _], _ => rfl)⟩
  have F27 := fun_mk (st := s_read) l27 c27 k27
  have D_read : DefAt K mg "read" s_read ["house", "row"] := ⟨f27, _, PySem.W.mg_of X G a27, F27, F27.binds (ps := ["house", "row"]) (fun _ _ _ _ _ _ us hl => match us, hl with | [_, _], _ => rfl)⟩
  have F28 := fun_mk (st := s_reading) l28 c28 k28
  have D_reading : DefAt K mg "reading" s_reading ["house", "place"] := ⟨f28, _, PySem.W.mg_of X G a28, F28, F28.binds (ps := ["house", "place"]) (fun _ _ _ _ _ _ us hl => match us, hl with | [_, _], _ => rfl)⟩
  have F29 := fun_mk (st := s_tidy) l29 c29 k29
  have D_tidy : DefAt K mg "tidy" s_tidy ["house", "row"] := ⟨f29, _, PySem.W.mg_of X G a29, F29, F29.binds (ps := ["house", "row"]) (fun _ _ _ _ _ _ us hl => match us, hl with | [_, _], _ => rfl)⟩
  have F30 := fun_mk (st := s_begun) l30 c30 k30
  have D_begun : DefAt K mg "begun" s_begun ["house", "one", "row"] := ⟨f30, _, PySem.W.mg_of X G a30, F30, F30.binds (ps := ["house", "one", "row"]) (fun _ _ _ _ _ _ us hl => match us, hl with | [_, _, _], _ => rfl)⟩
  have F31 := fun_mk (st := s_op) l31 c31 k31
  have D_op : DefAt K mg "op" s_op ["house", "one", "row"] := ⟨f31, _, PySem.W.mg_of X G a31, F31, F31.binds (ps := ["house", "one", "row"]) (fun _ _ _ _ _ _ us hl => match us, hl with | [_, _, _], _ => rfl)⟩
  have F32 := fun_mk (st := s_tighter) l32 c32 k32
  have D_tighter : DefAt K mg "tighter" s_tighter ["house", "one"] := ⟨f32, _, PySem.W.mg_of X G a32, F32, F32.binds (ps := ["house", "one"]) (fun _ _ _ _ _ _ us hl => match us, hl with | [_, _], _ => rfl)⟩
  have F33 := fun_mk (st := s_told_by) l33 c33 k33
  have D_told_by : DefAt K mg "told_by" s_told_by ["house", "kind", "one", "row"] := ⟨f33, _, PySem.W.mg_of X G a33, F33, F33.binds (ps := ["house", "kind", "one", "row"]) (fun _ _ _ _ _ _ us hl => match us, hl with | [_, _, _, _], _ => rfl)⟩
  have F34 := fun_mk (st := s_taken) l34 c34 k34
  have D_taken : DefAt K mg "taken" s_taken ["calls", "at"] := ⟨f34, _, PySem.W.mg_of X G a34, F34, F34.binds (ps := ["calls", "at"]) (fun _ _ _ _ _ _ us hl => match us, hl with | [_, _], _ => rfl)⟩
  have F35 := fun_mk (st := s_answers) l35 c35 k35
  have F36 := fun_mk (st := s_Chart_is_even) l36 c36 k36
  have M_is_even : MetAt K CC "is_even" "Chart.is_even" s_Chart_is_even ["self", "begin", "end"] := ⟨f36, _, ⟨a36, i36, k36⟩, F36, F36.binds (ps := ["self", "begin", "end"]) (fun _ _ _ _ _ _ us hl => match us, hl with | [_, _, _], _ => rfl)⟩
  have F37 := fun_mk (st := s_Chart_alone_in) l37 c37 k37
  have M_alone_in : MetAt K CC "alone_in" "Chart.alone_in" s_Chart_alone_in ["self", "begin", "end"] := ⟨f37, _, ⟨a37, i37, k37⟩, F37, F37.binds (ps := ["self", "begin", "end"]) (fun _ _ _ _ _ _ us hl => match us, hl with | [_, _, _], _ => rfl)⟩
  have F38 := fun_mk (st := s_Chart_all_in) l38 c38 k38
  have M_all_in : MetAt K CC "all_in" "Chart.all_in" s_Chart_all_in ["self", "sort", "begin", "end"] := ⟨f38, _, ⟨a38, i38, k38⟩, F38, F38.binds (ps := ["self", "sort", "begin", "end"]) (fun _ _ _ _ _ _ us hl => match us, hl with | [_, _, _, _], _ => rfl)⟩
  have F39 := fun_mk (st := s_Chart_bracketed_in) l39 c39 k39
  have M_bracketed_in : MetAt K CC "bracketed_in" "Chart.bracketed_in" s_Chart_bracketed_in ["self", "begin", "end"] := ⟨f39, _, ⟨a39, i39, k39⟩, F39, F39.binds (ps := ["self", "begin", "end"]) (fun _ _ _ _ _ _ us hl => match us, hl with | [_, _, _], _ => rfl)⟩
  have F40 := fun_mk (st := s_Chart_counted) l40 c40 k40
  have M_counted : MetAt K CC "counted" "Chart.counted" s_Chart_counted ["self", "sort", "begin", "end"] := ⟨f40, _, ⟨a40, i40, k40⟩, F40, F40.binds (ps := ["self", "sort", "begin", "end"]) (fun _ _ _ _ _ _ us hl => match us, hl with | [_, _, _, _], _ => rfl)⟩
  have F41 := fun_mk (st := s_Chart_ways) l41 c41 k41
  have M_ways : MetAt K CC "ways" "Chart.ways" s_Chart_ways ["self", "number", "spot", "begin", "end"] := ⟨f41, _, ⟨a41, i41, k41⟩, F41, F41.binds (ps := ["self", "number", "spot", "begin", "end"]) (fun _ _ _ _ _ _ us hl => match us, hl with | [_, _, _, _, _], _ => rfl)⟩
  have F42 := fun_mk (st := s_Chart_ways_by_thing) l42 c42 k42
  have M_ways_by_thing : MetAt K CC "ways_by_thing" "Chart.ways_by_thing" s_Chart_ways_by_thing ["self", "number", "spot", "begin", "end"] := ⟨f42, _, ⟨a42, i42, k42⟩, F42, F42.binds (ps := ["self", "number", "spot", "begin", "end"]) (fun _ _ _ _ _ _ us hl => match us, hl with | [_, _, _, _, _], _ => rfl)⟩
  have F43 := fun_mk (st := s_Chart_put_sort) l43 c43 k43
  have M_put_sort : MetAt K CC "put_sort" "Chart.put_sort" s_Chart_put_sort ["self", "owner", "spot", "some"] := ⟨f43, _, ⟨a43, i43, k43⟩, F43, F43.binds (ps := ["self", "owner", "spot", "some"]) (fun _ _ _ _ _ _ us hl => match us, hl with | [_, _, _, _], _ => rfl)⟩
  have F44 := fun_mk (st := s_Chart_many) l44 c44 k44
  have M_many : MetAt K CC "many" "Chart.many" s_Chart_many ["self"] := ⟨f44, _, ⟨a44, i44, k44⟩, F44, F44.binds (ps := ["self"]) (fun _ _ _ _ _ _ us hl => match us, hl with | [_], _ => rfl)⟩
  have F45 := fun_mk (st := s_House___init__) l45 c45 k45
  have K_House : MakAt K mg CH "House" "House.__init__" s_House___init__ ["self", "words", "groups", "things"] := ⟨f45, _, PySem.W.mg_of X G aH, ⟨mkH, a45, i45, kcH⟩, F45, F45.binds (ps := ["self", "words", "groups", "things"]) (fun _ _ _ _ _ _ us hl => match us, hl with | [_, _, _, _], _ => rfl)⟩
  have F46 := fun_mk (st := s_Operator___init__) l46 c46 k46
  have K_Operator : MakAt K mg CO "Operator" "Operator.__init__" s_Operator___init__ ["self", "way", "group", "words"] := ⟨f46, _, PySem.W.mg_of X G aO, ⟨mkO, a46, i46, kcO⟩, F46, F46.binds (ps := ["self", "way", "group", "words"]) (fun _ _ _ _ _ _ us hl => match us, hl with | [_, _, _, _], _ => rfl)⟩
  have F47 := fun_mk (st := s_Chart___init__) l47 c47 k47
  have K_Chart : MakAt K mg CC "Chart" "Chart.__init__" s_Chart___init__ ["self", "house", "text"] := ⟨f47, _, PySem.W.mg_of X G aC, ⟨mkC, a47, i47, kcC⟩, F47, F47.binds (ps := ["self", "house", "text"]) (fun _ _ _ _ _ _ us hl => match us, hl with | [_, _, _], _ => rfl)⟩
  have flH : Fl K CH ["many_words", "many_groups", "alone", "operators", "closer", "chart"] := ⟨⟨pgH, hdH, poH, saH⟩, fun f hf => by
    simp only [List.mem_cons, List.not_mem_nil, or_false] at hf
    rcases hf with rfl | rfl | rfl | rfl | rfl | rfl
    · exact nH0
    · exact nH1
    · exact nH2
    · exact nH3
    · exact nH4
    · exact nH5⟩
  have flO : Fl K CO ["way", "group", "pieces", "spots"] := ⟨⟨pgO, hdO, poO, saO⟩, fun f hf => by
    simp only [List.mem_cons, List.not_mem_nil, or_false] at hf
    rcases hf with rfl | rfl | rfl | rfl
    · exact nO0
    · exact nO1
    · exact nO2
    · exact nO3⟩
  have flC : Fl K CC ["house", "text", "depths", "sorts", "sort_of", "ways_known", "stretch_known"] := ⟨⟨pgC, hdC, poC, saC⟩, fun f hf => by
    simp only [List.mem_cons, List.not_mem_nil, or_false] at hf
    rcases hf with rfl | rfl | rfl | rfl | rfl | rfl | rfl
    · exact nC0
    · exact nC1
    · exact nC2
    · exact nC3
    · exact nC4
    · exact nC5
    · exact nC6⟩
  have T : Txt K mg CH CO CC := ⟨flH, flO, flC, ⟨_, PySem.W.mg_of X G g1⟩, ⟨_, PySem.W.mg_of X G g2⟩, ⟨_, PySem.W.mg_of X G g3⟩, ⟨_, PySem.W.mg_of X G g4⟩, ⟨_, PySem.W.mg_of X G g5⟩, ⟨_, PySem.W.mg_of X G g6⟩, ⟨_, PySem.W.mg_of X G g7⟩, ⟨_, PySem.W.mg_of X G g8⟩, ⟨_, PySem.W.mg_of X G g9⟩, ⟨_, PySem.W.mg_of X G g10⟩, ⟨_, PySem.W.mg_of X G g11⟩, ⟨_, PySem.W.mg_of X G g12⟩, ⟨_, PySem.W.mg_of X G g13⟩, ⟨_, PySem.W.mg_of X G g14⟩, ⟨_, PySem.W.mg_of X G g15⟩, ⟨_, PySem.W.mg_of X G g16⟩, mt, ⟨_, PySem.W.mg_of X G g17⟩, ⟨_, PySem.W.mg_of X G g18⟩, ⟨_, PySem.W.mg_of X G g19⟩, ⟨_, PySem.W.mg_of X G g20⟩, ⟨_, PySem.W.mg_of X G g21⟩, ⟨_, PySem.W.mg_of X G g22⟩, ⟨_, PySem.W.mg_of X G g23⟩, ⟨_, PySem.W.mg_of X G g24⟩, ⟨_, PySem.W.mg_of X G g25⟩, ⟨_, PySem.W.mg_of X G g26⟩, ⟨ta27, PySem.W.mg_of X G g27, fun H => .inr ⟨_, _, _, h27, rfl, rfl, by rw [line_eq]; exact (by decide : 4 ≤ 16777216), .cons ⟨_, rfl⟩ (.cons ⟨_, rfl⟩ (.cons ⟨_, rfl⟩ (.cons ⟨_, rfl⟩ (.nil))))⟩⟩, ⟨ta28, PySem.W.mg_of X G g28, fun H => .inr ⟨_, _, _, h28, rfl, rfl, by rw [line_eq]; exact (by decide : 4 ≤ 16777216), .cons ⟨_, rfl⟩ (.cons ⟨_, rfl⟩ (.cons ⟨_, rfl⟩ (.cons ⟨_, rfl⟩ (.nil))))⟩⟩, ⟨ta29, PySem.W.mg_of X G g29, fun H => .inr ⟨_, _, _, h29, rfl, rfl, by rw [line_eq]; exact (by decide : 2 ≤ 16777216), .cons ⟨_, rfl⟩ (.cons ⟨_, rfl⟩ (.nil))⟩⟩, ⟨ta30, PySem.W.mg_of X G g30, fun H => .inr ⟨_, _, _, h30, rfl, rfl, by rw [line_eq]; exact (by decide : 2 ≤ 16777216), .cons ⟨_, rfl⟩ (.cons ⟨_, rfl⟩ (.nil))⟩⟩, ⟨ta31, PySem.W.mg_of X G g31, fun H => .inr ⟨_, _, _, h31, rfl, rfl, by rw [line_eq]; exact (by decide : 10 ≤ 16777216), .cons ⟨_, rfl⟩ (.cons ⟨_, rfl⟩ (.cons ⟨_, rfl⟩ (.cons ⟨_, rfl⟩ (.cons ⟨_, rfl⟩ (.cons ⟨_, rfl⟩ (.cons ⟨_, rfl⟩ (.cons ⟨_, rfl⟩ (.cons ⟨_, rfl⟩ (.cons ⟨_, rfl⟩ (.nil))))))))))⟩⟩, ⟨ta32, PySem.W.mg_of X G g32, fun H => .inr ⟨_, _, _, h32, rfl, rfl, by rw [line_eq]; exact (by decide : 10 ≤ 16777216), .cons ⟨_, rfl⟩ (.cons ⟨_, rfl⟩ (.cons ⟨_, rfl⟩ (.cons ⟨_, rfl⟩ (.cons ⟨_, rfl⟩ (.cons ⟨_, rfl⟩ (.cons ⟨_, rfl⟩ (.cons ⟨_, rfl⟩ (.cons ⟨_, rfl⟩ (.cons ⟨_, rfl⟩ (.nil))))))))))⟩⟩, PySem.W.mg_none_of X G z_len, PySem.W.mg_none_of X G z_range, PySem.W.mg_none_of X G z_enumerate, PySem.W.mg_none_of X G z_int, PySem.W.mg_none_of X G z_min, PySem.W.mg_none_of X G z_tuple, PySem.W.mg_none_of X G z_list, PySem.W.mg_none_of X G z_all⟩
  have CT : ChartTxt K CC := ⟨M_put_sort, M_is_even, M_alone_in, M_bracketed_in, M_counted, M_all_in, M_ways_by_thing, M_ways, M_many⟩
  have RT : RdTxt K mg := ⟨D_piece_of, D_operator_at, D_reading_at⟩
  refine ⟨PySem.W.fnOf "answers" "answers" (defArgs s_answers) (defBody s_answers) (defScope s_answers) .none kV35 dc35 pm35 an35 cd35 ct35, fun s us hu => match us, hu with | [_], _ => .of_eq rfl, fun base _ _ => ?_⟩
  have w1 := ok_may_by_side (P := P) (w := w) (base := base) T D_may_by_side
  have w2 := ok_may (P := P) (w := w) (base := base) T D_may w1
  have w3 := ok_all_may (P := P) (w := w) (base := base) T D_all_may w2
  have w4 := ok_depths_of (P := P) (w := w) (base := base) T D_depths_of
  have w5 := ok_put_sort (P := P) (w := w) (base := base) T M_put_sort
  have wC := ok_Chart (P := P) (w := w) (base := base) T K_Chart w3 (w4.mono (by omega)) (w5.mono (by omega))
  have wM := ok_many (P := P) (w := w) (base := base) T CT
  have wR := (rd_ok (P := P) (w := w) (base := base) T CT RT 64).2
  have wP := ok_pieces_of (P := P) (w := w) (base := base) T D_pieces_of
  have wO := ok_Operator (P := P) (w := w) (base := base) T K_Operator wP
  have wH := ok_House (P := P) (w := w) (base := base) T K_House
  have w6 := ok_put_closer (P := P) (w := w) (base := base) T D_put_closer
  have w7 := ok_is_operator (P := P) (w := w) (base := base) T D_is_operator
  have w8 := ok_is_barred (P := P) (w := w) (base := base) T D_is_barred w2
  have w9 := ok_barred_in (P := P) (w := w) (base := base) T D_barred_in w8
  have w10 := ok_bare_in (P := P) (w := w) (base := base) T D_bare_in w8
  have w11 := ok_expression_of (P := P) (w := w) (base := base) T D_expression_of w7
  have w12 := ok_said (P := P) (w := w) (base := base) T D_said
  have w13 := ok_choices (P := P) (w := w) (base := base) T D_choices
  have w14 := ok_is_sure (P := P) (w := w) (base := base) T D_is_sure (wC.mono (by omega)) wM
  have w15 := ok_printed (P := P) (w := w) (base := base) T D_printed w9 (w12.mono (by omega))
  have w16 := ok_without_brackets (P := P) (w := w) (base := base) T D_without_brackets
  have w17 := ok_made_sure (P := P) (w := w) (base := base) T D_made_sure (w9.mono (by omega)) (w10.mono (by omega)) (w13.mono (by omega)) (w12.mono (by omega)) w14
  have w18 := ok_is_text (P := P) (w := w) (base := base) T D_is_text
  have w19 := ok_sure_told (P := P) (w := w) (base := base) T D_sure_told (w10.mono (by omega)) w17
  have w20 := ok_of_expression (P := P) (w := w) (base := base) T D_of_expression (w11.mono (by omega)) (w15.mono (by omega)) w19
  have w21 := ok_are_groups (P := P) (w := w) (base := base) T D_are_groups
  have w22 := ok_order (P := P) (w := w) (base := base) T D_order w21
  have w23 := ok_may_told (P := P) (w := w) (base := base) T D_may_told w2
  have w24 := ok_read (P := P) (w := w) (base := base) T D_read (w18.mono (by omega)) (wC.mono (by omega)) wM
  have w25 := ok_reading (P := P) (w := w) (base := base) T D_reading (wM.mono (by omega)) wR
  have w26 := ok_tidy (P := P) (w := w) (base := base) T D_tidy (w18.mono (by omega)) (wC.mono (by omega)) (wM.mono (by omega)) wR (w16.mono (by omega)) (w11.mono (by omega)) (w19.mono (by omega))
  have w27 := ok_begun (P := P) (w := w) (base := base) (CO := CO) (CC := CC) T D_begun wH
  have w28 := ok_op (P := P) (w := w) (base := base) T D_op wO
  have w29 := ok_tighter (P := P) (w := w) (base := base) T D_tighter w21 w6
  have w30 := ok_told_by (P := P) (w := w) (base := base) T D_told_by (w28.mono (by omega)) (w29.mono (by omega)) (w22.mono (by omega)) (w23.mono (by omega)) (w24.mono (by omega)) (w25.mono (by omega)) (w20.mono (by omega)) w26
  have w31 := ok_taken (P := P) (w := w) (base := base) T D_taken
  exact fn_answers T F35 (wH.mono (by omega)) (w31.mono (by omega)) (w27.mono (by omega)) w30
end Wo
end
set_option maxRecDepth 100000
namespace Wo
open PySem PySem.W PyProof.Rows
theorem ns_eq {h : Heap} {a : Addr} {m m' : Str → Option Value} (x : h.Ns a m) (y : h.Ns a m') : m = m' := by
  obtain ⟨o, es, ep, e1, e2, _, e3⟩ := x
  obtain ⟨o', es', ep', f1, f2, _, f3⟩ := y
  have eo : o = o' := Option.some.inj (e1.symm.trans f1)
  subst eo
  have ed := e2.symm.trans f2
  injection ed with ee
  subst ee
  funext n
  rw [← e3, ← f3]
/-- a walk that also knows the names whose values are loose -/
theorem walk_x {r : OpenSpec} {k : Nat} {q : Program} {loose : List Str} {lv : List (Str × WData)} {YP : World → Heap → Prop} {d : DefRec} {Kf : Params → Frag} {ps : List Str} {sp : Frag → L2.Sp}
    (h1 : r.wellSaid = true) (h2 : d.params.defaults = []) (h3 : r.args.length = ps.length) (h4 : L2.Room k callerA) (h5 : ∀ (w : World) (h : Heap), YP w h → (Kf w.params).In h)
    (F : ∀ (w : World) (mg : Str → Option Value) (fa : Addr) (h : Heap), YP w h → (Kf w.params).In h → h.Ns mainGlobals mg → XL q lv mg h → mg d.name = some (.ref fa) →
      ∃ fd : FuncData, (∀ (s : Shared) (us : List Value), us.length = ps.length → BindsTo s fd ⟨us, []⟩ (ps.zip us)) ∧ ∀ base : Heap, (Kf w.params).In base → base.Ns mainGlobals mg → L2.FnOk r.prog w (Kf w.params) mg base L2.CX0 k fa fd ps (sp (Kf w.params)))
    (S : ∀ (Kk : Frag) (H : L2.Hp) (xs : List L2.V) (a : Codec.denoteAll r.args), L2.OnlyF H → Codec.withinAll r.args a = true → Codec.app r.args r.asked a = true → L2.DwAll Kk H xs (Codec.encAll r.args a) → sp Kk xs H (fun v H' => L2.Dw Kk H' v (r.ret.enc (Codec.app r.args r.f a))) fun _ _ _ => False) :
    WalkOS q loose (XL q lv) YP r d [] (fun f vs => PySem.call f vs) := by
  intro w s₀ s₁ mg mb G Y
  refine L2.walk_specK (r := r) (k := k) (XP := XL q lv) (K := Kf) (CX := L2.CX0) (sp := sp) (YP := fun w h => YP w h ∧ ∃ m, h.Ns mainGlobals m ∧ XL q lv m h) h1 h2 h3 h4 (fun w h y => h5 w h y.1) (fun w m fa h y X N e => ?_) S (fun _ _ _ _ z => z) w s₀ s₁ mg mb G ⟨Y, mg, G.T.g, G.X⟩
  obtain ⟨y1, m', n1, x1⟩ := y
  have em := ns_eq n1 N
  subst em
  exact F w m' fa h y1 X N x1 e
end Wo
open PySem PySem.W PyProof.Rows
set_option maxRecDepth 100000 in
set_option maxHeartbeats 0 in
theorem PySem.Challenge.cw_wordoperators_s01_answers_holds : PySem.Challenge.rw_wordoperators_s01_answers.Holds := by
  w_on; k_headS; (case hw => exact ⟨[.list [.int 3, .int 0, .int 0]], by decide +kernel, by decide +kernel⟩)
  k_fillS
  refine Wo.walk_x (r := PySem.Challenge.rw_wordoperators_s01_answers) (k := 231) (ps := ["calls"]) (sp := Wo.spAnswers) (by decide +kernel) rfl rfl ⟨rfl, by decide, by decide⟩ (fun w h Y => PySem.W.kIn_of Y) ?F ?S
  case F =>
    intro w mg fa h Y KX G XX hmg
    refine' Wo.all_mk KX G hmg ?mt ?aH ?aO ?aC ?a1 ?l1 ?c1 ?k1 ?a2 ?l2 ?c2 ?k2 ?a3 ?l3 ?c3 ?k3 ?a4 ?l4 ?c4 ?k4 ?a5 ?l5 ?c5 ?k5 ?a6 ?l6 ?c6 ?k6 ?a7 ?l7 ?c7 ?k7 ?a8 ?l8 ?c8 ?k8 ?a9 ?l9 ?c9 ?k9 ?a10 ?l10 ?c10 ?k10 ?a11 ?l11 ?c11 ?k11 ?a12 ?l12 ?c12 ?k12 ?a13 ?l13 ?c13 ?k13 ?a14 ?l14 ?c14 ?k14 ?a15 ?l15 ?c15 ?k15 ?a16 ?l16 ?c16 ?k16 ?a17 ?l17 ?c17 ?k17 ?a18 ?l18 ?c18 ?k18 ?a19 ?l19 ?c19 ?k19 ?a20 ?l20 ?c20 ?k20 ?a21 ?l21 ?c21 ?k21 ?a22 ?l22 ?c22 ?k22 ?a23 ?l23 ?c23 ?k23 ?a24 ?l24 ?c24 ?k24 ?a25 ?l25 ?c25 ?k25 ?a26 ?l26 ?c26 ?k26 ?a27 ?l27 ?c27 ?k27 ?a28 ?l28 ?c28 ?k28 ?a29 ?l29 ?c29 ?k29 ?a30 ?l30 ?c30 ?k30 ?a31 ?l31 ?c31 ?k31 ?a32 ?l32 ?c32 ?k32 ?a33 ?l33 ?c33 ?k33 ?a34 ?l34 ?c34 ?k34 ?a35 ?l35 ?c35 ?k35 ?a36 ?i36 ?l36 ?c36 ?k36 ?a37 ?i37 ?l37 ?c37 ?k37 ?a38 ?i38 ?l38 ?c38 ?k38 ?a39 ?i39 ?l39 ?c39 ?k39 ?a40 ?i40 ?l40 ?c40 ?k40 ?a41 ?i41 ?l41 ?c41 ?k41 ?a42 ?i42 ?l42 ?c42 ?k42 ?a43 ?i43 ?l43 ?c43 ?k43 ?a44 ?i44 ?l44 ?c44 ?k44 ?a45 ?i45 ?l45 ?c45 ?k45 ?mkH ?kcH ?a46 ?i46 ?l46 ?c46 ?k46 ?mkO ?kcO ?a47 ?i47 ?l47 ?c47 ?k47 ?mkC ?kcC ?pgH ?hdH ?poH ?saH ?nH0 ?nH1 ?nH2 ?nH3 ?nH4 ?nH5 ?pgO ?hdO ?poO ?saO ?nO0 ?nO1 ?nO2 ?nO3 ?pgC ?hdC ?poC ?saC ?nC0 ?nC1 ?nC2 ?nC3 ?nC4 ?nC5 ?nC6 ?g1 ?g2 ?g3 ?g4 ?g5 ?g6 ?g7 ?g8 ?g9 ?g10 ?g11 ?g12 ?g13 ?g14 ?g15 ?g16 ?g17 ?g18 ?g19 ?g20 ?g21 ?g22 ?g23 ?g24 ?g25 ?g26 ?g27 ?h27 ?g28 ?h28 ?g29 ?h29 ?g30 ?h30 ?g31 ?h31 ?g32 ?h32 ?z_len ?z_range ?z_enumerate ?z_int ?z_min ?z_tuple ?z_list ?z_all
    (case aH => k_is)
    (case aO => k_is)
    (case aC => k_is)
    (case a1 => k_is)
    (case l1 => k_is)
    (case c1 => k_is)
    (case k1 => k_is)
    (case a2 => k_is)
    (case l2 => k_is)
    (case c2 => k_is)
    (case k2 => k_is)
    (case a3 => k_is)
    (case l3 => k_is)
    (case c3 => k_is)
    (case k3 => k_is)
    (case a4 => k_is)
    (case l4 => k_is)
    (case c4 => k_is)
    (case k4 => k_is)
    (case a5 => k_is)
    (case l5 => k_is)
    (case c5 => k_is)
    (case k5 => k_is)
    (case a6 => k_is)
    (case l6 => k_is)
    (case c6 => k_is)
    (case k6 => k_is)
    (case a7 => k_is)
    (case l7 => k_is)
    (case c7 => k_is)
    (case k7 => k_is)
    (case a8 => k_is)
    (case l8 => k_is)
    (case c8 => k_is)
    (case k8 => k_is)
    (case a9 => k_is)
    (case l9 => k_is)
    (case c9 => k_is)
    (case k9 => k_is)
    (case a10 => k_is)
    (case l10 => k_is)
    (case c10 => k_is)
    (case k10 => k_is)
    (case a11 => k_is)
    (case l11 => k_is)
    (case c11 => k_is)
    (case k11 => k_is)
    (case a12 => k_is)
    (case l12 => k_is)
    (case c12 => k_is)
    (case k12 => k_is)
    (case a13 => k_is)
    (case l13 => k_is)
    (case c13 => k_is)
    (case k13 => k_is)
    (case a14 => k_is)
    (case l14 => k_is)
    (case c14 => k_is)
    (case k14 => k_is)
    (case a15 => k_is)
    (case l15 => k_is)
    (case c15 => k_is)
    (case k15 => k_is)
    (case a16 => k_is)
    (case l16 => k_is)
    (case c16 => k_is)
    (case k16 => k_is)
    (case a17 => k_is)
    (case l17 => k_is)
    (case c17 => k_is)
    (case k17 => k_is)
    (case a18 => k_is)
    (case l18 => k_is)
    (case c18 => k_is)
    (case k18 => k_is)
    (case a19 => k_is)
    (case l19 => k_is)
    (case c19 => k_is)
    (case k19 => k_is)
    (case a20 => k_is)
    (case l20 => k_is)
    (case c20 => k_is)
    (case k20 => k_is)
    (case a21 => k_is)
    (case l21 => k_is)
    (case c21 => k_is)
    (case k21 => k_is)
    (case a22 => k_is)
    (case l22 => k_is)
    (case c22 => k_is)
    (case k22 => k_is)
    (case a23 => k_is)
    (case l23 => k_is)
    (case c23 => k_is)
    (case k23 => k_is)
    (case a24 => k_is)
    (case l24 => k_is)
    (case c24 => k_is)
    (case k24 => k_is)
    (case a25 => k_is)
    (case l25 => k_is)
    (case c25 => k_is)
    (case k25 => k_is)
    (case a26 => k_is)
    (case l26 => k_is)
    (case c26 => k_is)
    (case k26 => k_is)
    (case a27 => k_is)
    (case l27 => k_is)
    (case c27 => k_is)
    (case k27 => k_is)
    (case a28 => k_is)
    (case l28 => k_is)
    (case c28 => k_is)
    (case k28 => k_is)
    (case a29 => k_is)
    (case l29 => k_is)
    (case c29 => k_is)
    (case k29 => k_is)
    (case a30 => k_is)
    (case l30 => k_is)
    (case c30 => k_is)
    (case k30 => k_is)
    (case a31 => k_is)
    (case l31 => k_is)
    (case c31 => k_is)
    (case k31 => k_is)
    (case a32 => k_is)
    (case l32 => k_is)
    (case c32 => k_is)
    (case k32 => k_is)
    (case a33 => k_is)
    (case l33 => k_is)
    (case c33 => k_is)
    (case k33 => k_is)
    (case a34 => k_is)
    (case l34 => k_is)
    (case c34 => k_is)
    (case k34 => k_is)
    (case a35 => k_is)
    (case l35 => k_is)
    (case c35 => k_is)
    (case k35 => k_is)
    (case a36 => k_is)
    (case i36 => k_is)
    (case l36 => k_is)
    (case c36 => k_is)
    (case k36 => k_is)
    (case a37 => k_is)
    (case i37 => k_is)
    (case l37 => k_is)
    (case c37 => k_is)
    (case k37 => k_is)
    (case a38 => k_is)
    (case i38 => k_is)
    (case l38 => k_is)
    (case c38 => k_is)
    (case k38 => k_is)
    (case a39 => k_is)
    (case i39 => k_is)
    (case l39 => k_is)
    (case c39 => k_is)
    (case k39 => k_is)
    (case a40 => k_is)
    (case i40 => k_is)
    (case l40 => k_is)
    (case c40 => k_is)
    (case k40 => k_is)
    (case a41 => k_is)
    (case i41 => k_is)
    (case l41 => k_is)
    (case c41 => k_is)
    (case k41 => k_is)
    (case a42 => k_is)
    (case i42 => k_is)
    (case l42 => k_is)
    (case c42 => k_is)
    (case k42 => k_is)
    (case a43 => k_is)
    (case i43 => k_is)
    (case l43 => k_is)
    (case c43 => k_is)
    (case k43 => k_is)
    (case a44 => k_is)
    (case i44 => k_is)
    (case l44 => k_is)
    (case c44 => k_is)
    (case k44 => k_is)
    (case a45 => k_is)
    (case i45 => k_is)
    (case l45 => k_is)
    (case c45 => k_is)
    (case k45 => k_is)
    (case mkH => k_is)
    (case kcH => k_is)
    (case a46 => k_is)
    (case i46 => k_is)
    (case l46 => k_is)
    (case c46 => k_is)
    (case k46 => k_is)
    (case mkO => k_is)
    (case kcO => k_is)
    (case a47 => k_is)
    (case i47 => k_is)
    (case l47 => k_is)
    (case c47 => k_is)
    (case k47 => k_is)
    (case mkC => k_is)
    (case kcC => k_is)
    (case pgH => k_is)
    (case hdH => k_is)
    (case poH => k_is)
    (case saH => k_is)
    (case nH0 => k_is)
    (case nH1 => k_is)
    (case nH2 => k_is)
    (case nH3 => k_is)
    (case nH4 => k_is)
    (case nH5 => k_is)
    (case pgO => k_is)
    (case hdO => k_is)
    (case poO => k_is)
    (case saO => k_is)
    (case nO0 => k_is)
    (case nO1 => k_is)
    (case nO2 => k_is)
    (case nO3 => k_is)
    (case pgC => k_is)
    (case hdC => k_is)
    (case poC => k_is)
    (case saC => k_is)
    (case nC0 => k_is)
    (case nC1 => k_is)
    (case nC2 => k_is)
    (case nC3 => k_is)
    (case nC4 => k_is)
    (case nC5 => k_is)
    (case nC6 => k_is)
    (case g1 => k_is)
    (case g2 => k_is)
    (case g3 => k_is)
    (case g4 => k_is)
    (case g5 => k_is)
    (case g6 => k_is)
    (case g7 => k_is)
    (case g8 => k_is)
    (case g9 => k_is)
    (case g10 => k_is)
    (case g11 => k_is)
    (case g12 => k_is)
    (case g13 => k_is)
    (case g14 => k_is)
    (case g15 => k_is)
    (case g16 => k_is)
    (case g17 => k_is)
    (case g18 => k_is)
    (case g19 => k_is)
    (case g20 => k_is)
    (case g21 => k_is)
    (case g22 => k_is)
    (case g23 => k_is)
    (case g24 => k_is)
    (case g25 => k_is)
    (case g26 => k_is)
    (case g27 => k_is)
    (case h27 => k_is)
    (case g28 => k_is)
    (case h28 => k_is)
    (case g29 => k_is)
    (case h29 => k_is)
    (case g30 => k_is)
    (case h30 => k_is)
    (case g31 => k_is)
    (case h31 => k_is)
    (case g32 => k_is)
    (case h32 => k_is)
    (case z_len => k_is)
    (case z_range => k_is)
    (case z_enumerate => k_is)
    (case z_int => k_is)
    (case z_min => k_is)
    (case z_tuple => k_is)
    (case z_list => k_is)
    (case z_all => k_is)
    case mt =>
      obtain ⟨v, e1, e2⟩ := XX.2.val _ (List.mem_cons_self ..)
      obtain ⟨t, e3, _⟩ := readsW_int_inv e2
      subst e3
      exact ⟨t, e1⟩
  case S =>
    intro Kk H xs a hO hwi hask hx
    cases hx with
    | cons x1 x2 =>
      cases x2
      cases x1 with
      | lst hs ha =>
        have e := L2.ints_dw a.1 _ ha
        subst e
        have z : ((Codec.inLen 0 16000 a.1 && a.1.all (Codec.inInt (Int.ofNat 0) (Int.ofNat 18446744073709551615))) && true) = true := hwi
        rw [Bool.and_eq_true, Bool.and_eq_true] at z
        exact ⟨_, a.1, rfl, hs, hask, (Codec.inNat_iff.mp z.1.1).2, fun H' p hp => .lst (L2.SqL.of hp) (L2.dw_ints _)⟩

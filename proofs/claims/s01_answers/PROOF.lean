import PyProof.Rows.All
import Wide.All
import OpenK.AllK
import Wide.FinOn
import PyProof.EqAt
import PyProof.EqKinds
import PyProof.TupleCall
import Open.SpecLaws
import KE.OsGo
import HandS.ForSpec
import HandS.ForMost
import HandS.Flow
import HandS.Conv
import PySem.Challenge.RW_lairdrods_s01_answers
set_option Elab.async false
set_option linter.all false
set_option maxRecDepth 100000
set_option maxHeartbeats 4000000
/-! Digits: the Spec's `digits`, `trim`, `diagonals` against plain values. -/
namespace LR
open Mu13

theorem valueOf_nil : valueOf [] = 0 := rfl
theorem valueOf_snoc (a : List Nat) (d : Nat) : valueOf (a ++ [d]) = 10 * valueOf a + d := by
  simp [valueOf, List.foldl_append]
theorem foldl_val (l : List Nat) : ∀ a : Nat, l.foldl (fun (n d : Nat) => 10 * n + d) a = a * 10 ^ l.length + valueOf l := by
  induction l with
  | nil => intro a; simp [valueOf]
  | cons x l ih =>
    intro a
    show List.foldl _ (10 * a + x) l = _
    rw [ih]
    have h2 : valueOf (x :: l) = x * 10 ^ l.length + valueOf l := by
      show List.foldl _ (10 * 0 + x) l = _
      rw [ih]; simp
    rw [h2, List.length_cons, Nat.pow_succ, Nat.add_mul, Nat.add_assoc]
    congr 1
    rw [Nat.mul_comm 10 a, Nat.mul_assoc, Nat.mul_comm 10]
theorem valueOf_cons (x : Nat) (l : List Nat) : valueOf (x :: l) = x * 10 ^ l.length + valueOf l := by
  show List.foldl _ (10 * 0 + x) l = _
  rw [foldl_val]; simp
theorem valueOf_append (a b : List Nat) : valueOf (a ++ b) = valueOf a * 10 ^ b.length + valueOf b := by
  unfold valueOf
  rw [List.foldl_append, foldl_val]; rfl
theorem valueOf_lt : ∀ (l : List Nat), (∀ d ∈ l, d < 10) → valueOf l < 10 ^ l.length
  | [], _ => by simp [valueOf]
  | x :: l, h => by
    rw [valueOf_cons, List.length_cons, Nat.pow_succ]
    have h1 := valueOf_lt l fun d hd => h d (List.mem_cons_of_mem _ hd)
    have h2 : x < 10 := h x (List.mem_cons_self ..)
    have h3 : x * 10 ^ l.length ≤ 9 * 10 ^ l.length := Nat.mul_le_mul_right _ (by omega)
    omega
theorem digitsFrom_succ (k n : Nat) : digitsFrom (k + 1) n = if n < 10 then [n] else digitsFrom k (n / 10) ++ [n % 10] := rfl
theorem digitsFrom_more : ∀ (k n : Nat), n < 10 ^ (k + 1) → digitsFrom (k + 1) n = digitsFrom (k + 2) n
  | 0, n, h => by
    have h' : n < 10 := by simpa using h
    simp [digitsFrom, h']
  | k + 1, n, h => by
    rw [digitsFrom_succ (k + 1) n, digitsFrom_succ (k + 2) n]
    split
    · rfl
    · rw [digitsFrom_more k (n / 10) (by rw [Nat.div_lt_iff_lt_mul (by decide)]; rw [Nat.pow_succ] at h; exact h)]
theorem digits_step {n : Nat} (h : n < 10 ^ 40) : digits n = if n < 10 then [n] else digits (n / 10) ++ [n % 10] := by
  unfold digits
  rw [digitsFrom_succ 39 n]
  split
  · rfl
  · rw [digitsFrom_more 38 (n / 10) (by rw [Nat.div_lt_iff_lt_mul (by decide)]; exact h)]
theorem digits_small {n : Nat} (h : n < 10) : digits n = [n] := by
  rw [digits_step (Nat.lt_of_lt_of_le h (by decide)), if_pos h]
theorem digits_snoc {m d : Nat} (hd : d < 10) (h : 10 * m + d < 10 ^ 40) : digits (10 * m + d) = if m = 0 then [d] else digits m ++ [d] := by
  rw [digits_step h]
  by_cases hm : m = 0
  · subst hm; rw [if_pos (by omega), if_pos rfl]; simp
  · rw [if_neg (by omega), if_neg hm]
    rw [show (10 * m + d) / 10 = m by omega, show (10 * m + d) % 10 = d by omega]
theorem digitsFrom_lt : ∀ (k n : Nat), ∀ d ∈ digitsFrom k n, d < 10
  | 0, n, d, h => by simp [digitsFrom] at h
  | k + 1, n, d, h => by
    rw [digitsFrom_succ] at h
    split at h
    · simp at h; omega
    · rw [List.mem_append] at h
      rcases h with h | h
      · exact digitsFrom_lt k _ d h
      · simp at h; omega
theorem digits_lt (n : Nat) : ∀ d ∈ digits n, d < 10 := digitsFrom_lt 40 n
theorem digits_value : ∀ {n : Nat}, n < 10 ^ 40 → valueOf (digits n) = n := by
  intro n
  induction n using Nat.strongRecOn with
  | ind n ih =>
    intro h
    rw [digits_step h]
    split
    · simp [valueOf]
    · rw [valueOf_snoc, ih (n / 10) (by omega) (by omega)]; omega
theorem digits_ne_nil {n : Nat} (h : n < 10 ^ 40) : digits n ≠ [] := by
  rw [digits_step h]; split <;> simp
/-- how many digits -/
theorem digits_len : ∀ {n : Nat}, n < 10 ^ 40 → n < 10 ^ (digits n).length ∧ (0 < n → 10 ^ (digits n).length ≤ 10 * n) := by
  intro n
  induction n using Nat.strongRecOn with
  | ind n ih =>
    intro h
    rw [digits_step h]
    split
    · rename_i c
      constructor
      · simpa using c
      · intro h0; simp; omega
    · rename_i c
      have q := ih (n / 10) (by omega) (by omega)
      rw [List.length_append, List.length_singleton, Nat.pow_succ]
      have q2 := q.2 (by omega)
      have q1 := q.1
      constructor
      · omega
      · intro _; omega
theorem digits_len_le {n k : Nat} (h : n < 10 ^ k) (hk : k ≤ 40) (h0 : 0 < k) : (digits n).length ≤ k := by
  have h40 : n < 10 ^ 40 := Nat.lt_of_lt_of_le h (Nat.pow_le_pow_right (by decide) hk)
  by_cases hn : n = 0
  · subst hn; rw [digits_small (by decide)]; exact h0
  · have q := (digits_len h40).2 (by omega)
    have q2 : 10 ^ (digits n).length < 10 ^ (k + 1) := by rw [Nat.pow_succ]; omega
    have := (Nat.pow_lt_pow_iff_right (a := 10) (by decide)).mp q2
    omega
theorem trim_zero {l : List Nat} (h : l ≠ []) : trim (0 :: l) = trim l := by
  cases l with
  | nil => exact absurd rfl h
  | cons a l => rfl
theorem trim_pos {x : Nat} {l : List Nat} (h : x ≠ 0) : trim (x :: l) = x :: l := by
  cases l with
  | nil => rfl
  | cons a l => cases x with
    | zero => exact absurd rfl h
    | succ x => rfl
theorem trim_snoc (d : Nat) : ∀ l : List Nat, trim (l ++ [d]) = if valueOf l = 0 then [d] else trim l ++ [d]
  | [] => rfl
  | x :: l => by
    by_cases hx : x = 0
    · subst hx
      rw [List.cons_append, trim_zero (by simp), trim_snoc d l]
      have e : valueOf (0 :: l) = valueOf l := by rw [valueOf_cons]; simp
      rw [e]
      by_cases hl : l = []
      · subst hl; rfl
      · rw [trim_zero hl]
    · rw [List.cons_append, trim_pos hx, trim_pos hx, if_neg]
      · rfl
      · rw [valueOf_cons]
        have : 0 < x * 10 ^ l.length := Nat.mul_pos (by omega) (Nat.pow_pos (by decide))
        omega
theorem snocInd {α : Type} {P : List α → Prop} (h0 : P []) (hs : ∀ l a, P l → P (l ++ [a])) (l : List α) : P l := by
  have : ∀ r : List α, P r.reverse := by
    intro r
    induction r with
    | nil => exact h0
    | cons a r ih => rw [List.reverse_cons]; exact hs _ _ ih
  have q := this l.reverse
  rwa [List.reverse_reverse] at q
theorem trim_digits (l : List Nat) : (∀ d ∈ l, d < 10) → valueOf l < 10 ^ 40 → trim l = digits (valueOf l) := by
  induction l using snocInd with
  | h0 => intro _ _; rw [valueOf_nil, digits_small (by decide)]; rfl
  | hs l a ih =>
    intro h hv
    rw [valueOf_snoc] at hv ⊢
    rw [trim_snoc, digits_snoc (h a (by simp)) hv, ih (fun d hd => h d (by simp [hd])) (by omega)]
theorem trim_value (l : List Nat) : valueOf (trim l) = valueOf l := by
  induction l using snocInd with
  | h0 => rfl
  | hs l a ih =>
    rw [trim_snoc, valueOf_snoc]
    split
    · rename_i e; rw [e]; simp [valueOf]
    · rw [valueOf_snoc, ih]
/-! ## a row read along the diagonals -/
def valRev : List Nat → Nat
  | [] => 0
  | x :: l => x + 10 * valRev l
theorem valRev_snoc (d : Nat) : ∀ l : List Nat, valRev (l ++ [d]) = valRev l + d * 10 ^ l.length
  | [] => by simp [valRev]
  | x :: l => by
    show x + 10 * valRev (l ++ [d]) = x + 10 * valRev l + _
    rw [valRev_snoc d l, List.length_cons, Nat.pow_succ, Nat.mul_add, Nat.add_assoc]
    congr 2
    rw [Nat.mul_comm 10, Nat.mul_assoc]
theorem valRev_reverse (l : List Nat) : valRev l.reverse = valueOf l := by
  induction l with
  | nil => rfl
  | cons x l ih => rw [List.reverse_cons, valRev_snoc, ih, valueOf_cons, List.length_reverse, Nat.add_comm]
theorem diagonals_value : ∀ (l : List Nat) (c t : Nat), t + c < 10 ^ 40 → (∀ x ∈ l, x < 100) → c < 1000 → t < 1000 → valueOf (diagonals c t l) = c + t + valRev l
  | [], c, t, h, _, _, _ => by
    show valueOf (digits (t + c)) = _
    rw [digits_value h]; simp [valRev]; omega
  | x :: l, c, t, h, hx, hc, ht => by
    have hx0 : x < 100 := hx x (by simp)
    show valueOf (diagonals ((x % 10 + t + c) / 10) (x / 10) l ++ [(x % 10 + t + c) % 10]) = _
    rw [valueOf_snoc, diagonals_value l _ _ (Nat.lt_of_lt_of_le (show _ < 10000 by omega) (by decide)) (fun y hy => hx y (by simp [hy])) (by omega) (by omega)]
    show _ = c + t + (x + 10 * valRev l)
    omega
theorem diagonals_lt : ∀ (l : List Nat) (c t : Nat), ∀ d ∈ diagonals c t l, d < 10
  | [], c, t, d, h => digits_lt _ d h
  | x :: l, c, t, d, h => by
    have h : d ∈ diagonals ((x % 10 + t + c) / 10) (x / 10) l ++ [(x % 10 + t + c) % 10] := h
    rw [List.mem_append] at h
    rcases h with h | h
    · exact diagonals_lt l _ _ d h
    · simp at h; omega
theorem valueOf_lt100 : ∀ (l : List Nat), (∀ x ∈ l, x < 100) → valueOf l < 10 ^ (l.length + 2)
  | [], _ => by simp [valueOf]
  | x :: l, h => by
    rw [valueOf_cons, List.length_cons]
    have q := valueOf_lt100 l fun y hy => h y (by simp [hy])
    have hx := h x (by simp)
    have h3 : x * 10 ^ l.length ≤ 99 * 10 ^ l.length := Nat.mul_le_mul_right _ (by omega)
    rw [Nat.pow_succ, Nat.pow_succ] at q
    rw [Nat.pow_succ, Nat.pow_succ, Nat.pow_succ]
    omega
theorem readCells {l : List Nat} (h : ∀ x ∈ l, x < 100) (hl : l.length ≤ 30) : trim (diagonals 0 0 l.reverse) = digits (valueOf l) := by
  have hv : valueOf (diagonals 0 0 l.reverse) = valueOf l := by
    rw [diagonals_value _ _ _ (by decide) (fun x hx => h x (List.mem_reverse.mp hx)) (by decide) (by decide), valRev_reverse]; omega
  rw [trim_digits _ (diagonals_lt _ _ _), hv]
  rw [hv]
  exact Nat.lt_of_lt_of_le (valueOf_lt100 l h) (Nat.pow_le_pow_right (by decide) (by omega))
theorem readCells_value {l : List Nat} (h : ∀ x ∈ l, x < 100) : valueOf (trim (diagonals 0 0 l.reverse)) = valueOf l := by
  rw [trim_value, diagonals_value _ _ _ (by decide) (fun x hx => h x (List.mem_reverse.mp hx)) (by decide) (by decide), valRev_reverse]; omega
end LR

/-! Laying: the program's search for a rod (augmenting paths) against the Spec's `assign` and `canLay`. -/
namespace LR
open Mu13

abbrev Ow := Nat → Option Nat
abbrev Sn := Nat → Bool
def setF {α : Type} (f : Nat → α) (r : Nat) (v : α) : Nat → α := fun x => if x = r then v else f x
theorem setF_same {α : Type} (f : Nat → α) (r : Nat) (v : α) : setF f r v r = v := if_pos rfl
theorem setF_ne {α : Type} (f : Nat → α) {r x : Nat} (v : α) (h : x ≠ r) : setF f r v x = f x := if_neg h

/-- find_rod's loop over the rods that are left to look at -/
def findGo (ok : Nat → Nat → Bool) (rec : Ow → Nat → Sn → Bool × Ow × Sn) (k : Nat) : List Nat → Ow → Sn → Bool × Ow × Sn
  | [], ow, sn => (false, ow, sn)
  | r :: l, ow, sn => if (ok k r && !sn r) = true then
      (match ow r with
      | none => (true, setF ow r (some k), setF sn r true)
      | some j => if (rec ow j (setF sn r true)).1 = true then (true, setF (rec ow j (setF sn r true)).2.1 r (some k), (rec ow j (setF sn r true)).2.2)
        else findGo ok rec k l (rec ow j (setF sn r true)).2.1 (rec ow j (setF sn r true)).2.2)
    else findGo ok rec k l ow sn
def findRod (ok : Nat → Nat → Bool) (free : List Nat) : Nat → Ow → Nat → Sn → Bool × Ow × Sn
  | 0, ow, _, sn => (false, ow, sn)
  | n + 1, ow, k, sn => findGo ok (findRod ok free n) k free ow sn
/-- can_be_laid's loop: n digits left, the next one is the i-th -/
def layGo (ok : Nat → Nat → Bool) (free : List Nat) (fuel : Nat) : Nat → Nat → Ow → Bool
  | 0, _, _ => true
  | n + 1, i, ow => if (findRod ok free fuel ow i (fun _ => false)).1 = true then layGo ok free fuel n (i + 1) (findRod ok free fuel ow i (fun _ => false)).2.1 else false

/-- rods of free that were not looked at yet -/
def unseen (free : List Nat) (sn : Sn) : Nat := (free.filter fun r => !sn r).length
theorem unseen_le {free : List Nat} {sn sn' : Sn} (h : ∀ r, sn r = true → sn' r = true) : unseen free sn' ≤ unseen free sn := by
  unfold unseen
  induction free with
  | nil => simp
  | cons a l ih =>
    rw [List.filter_cons, List.filter_cons]
    by_cases c : sn a = true
    · rw [if_neg (by simp [h a c]), if_neg (by simp [c])]; exact ih
    · rw [if_pos (c := (!sn a) = true) (by simp [c])]
      split
      · simp; exact ih
      · simp; omega
theorem unseen_lt {free : List Nat} {sn : Sn} {r : Nat} (hr : r ∈ free) (hs : sn r = false) : unseen free (setF sn r true) < unseen free sn := by
  unfold unseen
  induction free with
  | nil => simp at hr
  | cons a l ih =>
    rw [List.filter_cons, List.filter_cons]
    have mono := unseen_le (free := l) (sn := sn) (sn' := setF sn r true) (fun x hx => by
      unfold setF; split
      · rfl
      · exact hx)
    unfold unseen at mono
    by_cases e : a = r
    · subst e
      rw [if_neg (by simp [setF_same]), if_pos (by simp [hs])]
      simp; omega
    · have hr' : r ∈ l := by
        rcases List.mem_cons.mp hr with q | q
        · exact absurd q.symm e
        · exact q
      have q := ih hr'
      rw [setF_ne sn true e]
      split
      · simp; exact q
      · exact q
theorem unseen_pos {free : List Nat} {sn : Sn} {r : Nat} (hr : r ∈ free) (hs : sn r = false) : 0 < unseen free sn := by
  have := unseen_lt hr hs
  omega

section
variable {ok : Nat → Nat → Bool} {free : List Nat}
/-- what is asked ahead of a search -/
structure Pre (ok : Nat → Nat → Bool) (free : List Nat) (ow : Ow) (k : Nat) (sn : Sn) : Prop where
  inj : ∀ r r' j, sn r = false → sn r' = false → ow r = some j → ow r' = some j → r = r'
  new : ∀ r, sn r = false → ow r ≠ some k
  edge : ∀ r j, ow r = some j → r ∈ free ∧ ok j r = true
structure Won (ok : Nat → Nat → Bool) (free : List Nat) (ow : Ow) (k : Nat) (sn : Sn) (ow' : Ow) : Prop where
  same : ∀ r, sn r = true → ow' r = ow r
  inj : ∀ r r' j, sn r = false → sn r' = false → ow' r = some j → ow' r' = some j → r = r'
  vals : ∀ j, (∃ r, sn r = false ∧ ow' r = some j) ↔ (j = k ∨ ∃ r, sn r = false ∧ ow r = some j)
  edge : ∀ r j, ow' r = some j → r ∈ free ∧ ok j r = true
/-- every rod seen since s0 has an owner, all of whose rods were seen -/
def Shut (ok : Nat → Nat → Bool) (free : List Nat) (ow : Ow) (s0 sn : Sn) : Prop :=
  ∀ r, sn r = true → s0 r = false → ∃ j, ow r = some j ∧ ∀ r2 ∈ free, ok j r2 = true → sn r2 = true
structure Lost (ok : Nat → Nat → Bool) (free : List Nat) (ow : Ow) (k : Nat) (sn : Sn) (ow' : Ow) (sn' : Sn) : Prop where
  same : ow' = ow
  all : ∀ r ∈ free, ok k r = true → sn' r = true
  shut : Shut ok free ow sn sn'
def Does (ok : Nat → Nat → Bool) (free : List Nat) (ow : Ow) (k : Nat) (sn : Sn) (x : Bool × Ow × Sn) : Prop :=
  (∀ r, sn r = true → x.2.2 r = true) ∧ (x.1 = true → Won ok free ow k sn x.2.1) ∧ (x.1 = false → Lost ok free ow k sn x.2.1 x.2.2)

theorem findGo_does {rec : Ow → Nat → Sn → Bool × Ow × Sn} {n : Nat} (hrec : ∀ ow k sn, unseen free sn < n → Pre ok free ow k sn → Does ok free ow k sn (rec ow k sn))
    {ow : Ow} {k : Nat} {s0 : Sn} (P : Pre ok free ow k s0) : ∀ (l : List Nat) (sn : Sn), (∀ r ∈ l, r ∈ free) → unseen free sn < n + 1 → (∀ r, s0 r = true → sn r = true) → Shut ok free ow s0 sn →
      (∀ r, sn r = true → (findGo ok rec k l ow sn).2.2 r = true) ∧
      ((findGo ok rec k l ow sn).1 = true → Won ok free ow k s0 (findGo ok rec k l ow sn).2.1) ∧
      ((findGo ok rec k l ow sn).1 = false → (findGo ok rec k l ow sn).2.1 = ow ∧ (∀ r ∈ l, ok k r = true → (findGo ok rec k l ow sn).2.2 r = true) ∧ Shut ok free ow s0 (findGo ok rec k l ow sn).2.2)
  | [], sn, _, _, _, hC => ⟨fun _ h => h, fun h => Bool.noConfusion h, fun _ => ⟨rfl, fun r hr => by simp at hr, hC⟩⟩
  | r :: l, sn, hl, hu, h0, hC => by
    have hrf : r ∈ free := hl r (List.mem_cons_self ..)
    have hl' : ∀ x ∈ l, x ∈ free := fun x hx => hl x (List.mem_cons_of_mem _ hx)
    unfold findGo
    by_cases c : (ok k r && !sn r) = true
    · rw [if_pos c]
      have ck : ok k r = true := by
        have := c; simp at this; exact this.1
      have cs : sn r = false := by
        have := c; simp at this; exact this.2
      have s0r : s0 r = false := by
        cases e : s0 r with
        | false => rfl
        | true => rw [h0 r e] at cs; cases cs
      have up : ∀ x, sn x = true → setF sn r true x = true := fun x hx => by
        unfold setF; split
        · rfl
        · exact hx
      cases eo : ow r with
      | none =>
        refine ⟨up, fun _ => ?_, fun h => Bool.noConfusion h⟩
        refine ⟨fun x hx => ?_, fun x x' j hx hx' e e' => ?_, fun j => ?_, fun x j e => ?_⟩
        · show setF ow r (some k) x = ow x
          exact setF_ne _ _ (fun q => by rw [q, s0r] at hx; cases hx)
        · have e : setF ow r (some k) x = some j := e
          have e' : setF ow r (some k) x' = some j := e'
          by_cases q : x = r
          · by_cases q' : x' = r
            · rw [q, q']
            · subst q
              rw [setF_same] at e
              rw [setF_ne _ _ q'] at e'
              cases e
              exact absurd e' (P.new x' hx')
          · by_cases q' : x' = r
            · subst q'
              rw [setF_same] at e'
              rw [setF_ne _ _ q] at e
              cases e'
              exact absurd e (P.new x hx)
            · rw [setF_ne _ _ q] at e
              rw [setF_ne _ _ q'] at e'
              exact P.inj x x' j hx hx' e e'
        · show (∃ x, s0 x = false ∧ setF ow r (some k) x = some j) ↔ _
          constructor
          · rintro ⟨x, hx, e⟩
            by_cases q : x = r
            · subst q; rw [setF_same] at e; cases e; exact .inl rfl
            · rw [setF_ne _ _ q] at e; exact .inr ⟨x, hx, e⟩
          · rintro (rfl | ⟨x, hx, e⟩)
            · exact ⟨r, s0r, setF_same _ _ _⟩
            · have q : x ≠ r := fun q => by rw [q, eo] at e; cases e
              exact ⟨x, hx, by rw [setF_ne _ _ q]; exact e⟩
        · have e : setF ow r (some k) x = some j := e
          by_cases q : x = r
          · subst q; rw [setF_same] at e; cases e; exact ⟨hrf, ck⟩
          · rw [setF_ne _ _ q] at e; exact P.edge x j e
      | some j =>
        have hu1 : unseen free (setF sn r true) < n := by have := unseen_lt hrf cs; omega
        have P1 : Pre ok free ow j (setF sn r true) := by
          refine ⟨fun x x' i hx hx' => P.inj x x' i ?_ ?_, fun x hx e => ?_, P.edge⟩
          · cases q : s0 x with
            | false => rfl
            | true => rw [up x (h0 x q)] at hx; cases hx
          · cases q : s0 x' with
            | false => rfl
            | true => rw [up x' (h0 x' q)] at hx'; cases hx'
          · have hx0 : s0 x = false := by
              cases q : s0 x with
              | false => rfl
              | true => rw [up x (h0 x q)] at hx; cases hx
            have z := P.inj x r j hx0 s0r e eo
            rw [z, setF_same] at hx; cases hx
        obtain ⟨R1, R2, R3⟩ := hrec ow j (setF sn r true) hu1 P1
        show (∀ x, sn x = true → (if (rec ow j (setF sn r true)).1 = true then _ else _ : Bool × Ow × Sn).2.2 x = true) ∧ ((if (rec ow j (setF sn r true)).1 = true then _ else _ : Bool × Ow × Sn).1 = true → Won ok free ow k s0 (if (rec ow j (setF sn r true)).1 = true then _ else _ : Bool × Ow × Sn).2.1) ∧ ((if (rec ow j (setF sn r true)).1 = true then _ else _ : Bool × Ow × Sn).1 = false → (if (rec ow j (setF sn r true)).1 = true then _ else _ : Bool × Ow × Sn).2.1 = ow ∧ (∀ x ∈ r :: l, ok k x = true → (if (rec ow j (setF sn r true)).1 = true then _ else _ : Bool × Ow × Sn).2.2 x = true) ∧ Shut ok free ow s0 (if (rec ow j (setF sn r true)).1 = true then _ else _ : Bool × Ow × Sn).2.2)
        by_cases cr : (rec ow j (setF sn r true)).1 = true
        · rw [if_pos cr]
          have W := R2 cr
          generalize (rec ow j (setF sn r true)) = y at *
          refine ⟨fun x hx => R1 x (up x hx), fun _ => ?_, fun h => Bool.noConfusion h⟩
          show Won ok free ow k s0 (setF y.2.1 r (some k))
          have kj : k ≠ j := fun q => P.new r s0r (by rw [q]; exact eo)
          -- what y's owners are at a rod other than r, not in s0
          have at_ : ∀ x, x ≠ r → s0 x = false → ∀ i, y.2.1 x = some i → (ow x = some i ∧ sn x = true) ∨ (setF sn r true x = false) := fun x q hx i e => by
            cases z : setF sn r true x with
            | false => exact .inr rfl
            | true =>
              left
              rw [W.same x z] at e
              rw [setF_ne _ _ q] at z
              exact ⟨e, z⟩
          -- no such rod has k, and two never have the same
          have nk : ∀ x, x ≠ r → s0 x = false → y.2.1 x ≠ some k := fun x q hx e => by
            rcases at_ x q hx k e with ⟨e1, _⟩ | z
            · exact P.new x hx e1
            · rcases (W.vals k).mp ⟨x, z, e⟩ with q1 | ⟨x2, z2, e2⟩
              · exact kj q1
              · have hx2 : s0 x2 = false := by
                  cases q : s0 x2 with
                  | false => rfl
                  | true => rw [up x2 (h0 x2 q)] at z2; cases z2
                exact P.new x2 hx2 e2
          have mix : ∀ x x' i, x ≠ r → x' ≠ r → s0 x = false → s0 x' = false → ow x = some i → sn x = true → setF sn r true x' = false → y.2.1 x' = some i → False := fun x x' i q q' hx hx' e z z' e' => by
            rcases (W.vals i).mp ⟨x', z', e'⟩ with q1 | ⟨x2, z2, e2⟩
            · subst q1
              exact q (P.inj x r i hx s0r e eo)
            · have hx2 : s0 x2 = false := by
                cases q : s0 x2 with
                | false => rfl
                | true => rw [up x2 (h0 x2 q)] at z2; cases z2
              have q3 := P.inj x x2 i hx hx2 e e2
              rw [← q3, up x z] at z2; cases z2
          refine ⟨fun x hx => ?_, fun x x' i hx hx' e e' => ?_, fun i => ?_, fun x i e => ?_⟩
          · have q : x ≠ r := fun q => by rw [q, s0r] at hx; cases hx
            rw [setF_ne _ _ q]
            exact W.same x (up x (h0 x hx))
          · by_cases q : x = r
            · by_cases q' : x' = r
              · rw [q, q']
              · subst q
                rw [setF_same] at e; rw [setF_ne _ _ q'] at e'
                cases e
                exact absurd e' (nk x' q' hx')
            · by_cases q' : x' = r
              · subst q'
                rw [setF_same] at e'; rw [setF_ne _ _ q] at e
                cases e'
                exact absurd e (nk x q hx)
              · rw [setF_ne _ _ q] at e; rw [setF_ne _ _ q'] at e'
                rcases at_ x q hx i e with ⟨e1, z1⟩ | z1
                · rcases at_ x' q' hx' i e' with ⟨e2, z2⟩ | z2
                  · exact P.inj x x' i hx hx' e1 e2
                  · exact (mix x x' i q q' hx hx' e1 z1 z2 e').elim
                · rcases at_ x' q' hx' i e' with ⟨e2, z2⟩ | z2
                  · exact (mix x' x i q' q hx' hx e2 z2 z1 e).elim
                  · exact W.inj x x' i z1 z2 e e'
          · constructor
            · rintro ⟨x, hx, e⟩
              by_cases q : x = r
              · subst q; rw [setF_same] at e; cases e; exact .inl rfl
              · rw [setF_ne _ _ q] at e
                rcases at_ x q hx i e with ⟨e1, z1⟩ | z1
                · exact .inr ⟨x, hx, e1⟩
                · rcases (W.vals i).mp ⟨x, z1, e⟩ with q1 | ⟨x2, z2, e2⟩
                  · subst q1; exact .inr ⟨r, s0r, eo⟩
                  · have hx2 : s0 x2 = false := by
                      cases q : s0 x2 with
                      | false => rfl
                      | true => rw [up x2 (h0 x2 q)] at z2; cases z2
                    exact .inr ⟨x2, hx2, e2⟩
            · rintro (rfl | ⟨x, hx, e⟩)
              · exact ⟨r, s0r, setF_same _ _ _⟩
              · by_cases q : x = r
                · subst q
                  rw [eo] at e; cases e
                  obtain ⟨x2, z2, e2⟩ := (W.vals j).mpr (.inl rfl)
                  have q2 : x2 ≠ x := fun q => by rw [q, setF_same] at z2; cases z2
                  have hx2 : s0 x2 = false := by
                    cases q : s0 x2 with
                    | false => rfl
                    | true => rw [up x2 (h0 x2 q)] at z2; cases z2
                  exact ⟨x2, hx2, by rw [setF_ne _ _ q2]; exact e2⟩
                · cases z : setF sn r true x with
                  | true => exact ⟨x, hx, by rw [setF_ne _ _ q, W.same x z]; exact e⟩
                  | false =>
                    obtain ⟨x2, z2, e2⟩ := (W.vals i).mpr (.inr ⟨x, z, e⟩)
                    have q2 : x2 ≠ r := fun q => by rw [q, setF_same] at z2; cases z2
                    have hx2 : s0 x2 = false := by
                      cases q : s0 x2 with
                      | false => rfl
                      | true => rw [up x2 (h0 x2 q)] at z2; cases z2
                    exact ⟨x2, hx2, by rw [setF_ne _ _ q2]; exact e2⟩
          · by_cases q : x = r
            · subst q; rw [setF_same] at e; cases e; exact ⟨hrf, ck⟩
            · rw [setF_ne _ _ q] at e; exact W.edge x i e
        · rw [if_neg cr]
          have L := R3 (by simpa using cr)
          generalize (rec ow j (setF sn r true)) = y at *
          have e1 : y.2.1 = ow := L.same
          rw [e1]
          have hC' : Shut ok free ow s0 y.2.2 := fun x hx hx0 => by
            cases z : setF sn r true x with
            | false => exact L.shut x hx z
            | true =>
              by_cases q : x = r
              · subst q; exact ⟨j, eo, L.all⟩
              · rw [setF_ne _ _ q] at z
                obtain ⟨i, e, a⟩ := hC x z hx0
                exact ⟨i, e, fun r2 h2 o2 => R1 r2 (up r2 (a r2 h2 o2))⟩
          have ih := findGo_does hrec P l y.2.2 hl' (Nat.lt_of_le_of_lt (unseen_le R1) (by omega)) (fun x hx => R1 x (up x (h0 x hx))) hC'
          refine ⟨fun x hx => ih.1 x (R1 x (up x hx)), ih.2.1, fun h => ?_⟩
          obtain ⟨a, b, c'⟩ := ih.2.2 h
          refine ⟨a, fun x hx o => ?_, c'⟩
          rcases List.mem_cons.mp hx with q | q
          · subst q; exact ih.1 x (R1 x (setF_same _ _ _))
          · exact b x q o
    · rw [if_neg c]
      have ih := findGo_does hrec P l sn hl' hu h0 hC
      refine ⟨ih.1, ih.2.1, fun h => ?_⟩
      obtain ⟨a, b, c'⟩ := ih.2.2 h
      refine ⟨a, fun x hx o => ?_, c'⟩
      rcases List.mem_cons.mp hx with q | q
      · subst q
        refine ih.1 x ?_
        cases z : sn x with
        | true => rfl
        | false => exact absurd (by simp [o, z]) c
      · exact b x q o
theorem findRod_does : ∀ (n : Nat) (ow : Ow) (k : Nat) (sn : Sn), unseen free sn < n → Pre ok free ow k sn → Does ok free ow k sn (findRod ok free n ow k sn)
  | 0, _, _, _, h, _ => by omega
  | n + 1, ow, k, sn, h, P => by
    obtain ⟨a, b, c⟩ := findGo_does (n := n) (fun ow k sn h P => findRod_does n ow k sn h P) P free sn (fun _ h => h) h (fun _ h => h) (fun r h1 h2 => by rw [h1] at h2; cases h2)
    exact ⟨a, b, fun h => let ⟨x, y, z⟩ := c h; ⟨x, y, z⟩⟩
/-! ## all digits -/
structure Full (ok : Nat → Nat → Bool) (free : List Nat) (ow : Ow) (m : Nat) : Prop where
  inj : ∀ r r' j, ow r = some j → ow r' = some j → r = r'
  vals : ∀ j, (∃ r, ow r = some j) ↔ j < m
  edge : ∀ r j, ow r = some j → r ∈ free ∧ ok j r = true
theorem full0 : Full ok free (fun _ => none) 0 := ⟨fun _ _ _ h => (by cases h), fun j => ⟨fun ⟨_, h⟩ => (by cases h), fun h => (by omega)⟩, fun _ _ h => (by cases h)⟩
theorem Full.pre {ow : Ow} {m : Nat} (F : Full ok free ow m) : Pre ok free ow m (fun _ => false) :=
  ⟨fun r r' j _ _ => F.inj r r' j, fun r _ e => by have := (F.vals m).mp ⟨r, e⟩; omega, F.edge⟩
theorem Full.step {ow ow' : Ow} {m : Nat} (F : Full ok free ow m) (W : Won ok free ow m (fun _ => false) ow') : Full ok free ow' (m + 1) := by
  refine ⟨fun r r' j => W.inj r r' j rfl rfl, fun j => ?_, W.edge⟩
  have q := W.vals j
  have q2 := F.vals j
  constructor
  · rintro ⟨r, e⟩
    rcases q.mp ⟨r, rfl, e⟩ with rfl | ⟨r2, _, e2⟩
    · omega
    · have := q2.mp ⟨r2, e2⟩; omega
  · intro h
    by_cases c : j = m
    · obtain ⟨r, _, e⟩ := q.mpr (.inl c); exact ⟨r, e⟩
    · obtain ⟨r, e⟩ := q2.mpr (by omega)
      obtain ⟨r2, _, e2⟩ := q.mpr (.inr ⟨r, rfl, e⟩); exact ⟨r2, e2⟩
/-- some digits together have fewer rods than they are -/
structure Tight (ok : Nat → Nat → Bool) (free : List Nat) (m : Nat) (J S : List Nat) : Prop where
  sub : J.Sublist (List.range m)
  few : S.length < J.length
  all : ∀ j ∈ J, ∀ r ∈ free, ok j r = true → r ∈ S
theorem Lost.tight {ow ow' : Ow} {m k : Nat} {sn' : Sn} (hf : free.Nodup) (hk : k < m) (F : Full ok free ow k) (L : Lost ok free ow k (fun _ => false) ow' sn') : ∃ J S, Tight ok free m J S := by
  let S := free.filter sn'
  let J := (List.range m).filter fun j => j == k || S.any fun r => ow r == some j
  have own : ∀ r ∈ S, ∃ j, ow r = some j ∧ ∀ r2 ∈ free, ok j r2 = true → sn' r2 = true := fun r hr => L.shut r (List.mem_filter.mp hr).2 rfl
  have lt : ∀ r ∈ S, (ow r).getD 0 < k := fun r hr => by
    obtain ⟨j, e, _⟩ := own r hr
    rw [e]; exact (F.vals j).mp ⟨r, e⟩
  have nd : (k :: S.map fun r => (ow r).getD 0).Nodup := by
    rw [List.nodup_cons]
    constructor
    · intro h
      obtain ⟨r, hr, e⟩ := List.mem_map.mp h
      have := lt r hr
      omega
    · have hS : S.Nodup := List.Nodup.sublist List.filter_sublist hf
      refine List.pairwise_map.mpr (List.Pairwise.imp_of_mem (R := fun a b => a ≠ b) ?_ hS)
      intro a b ha hb hab e
      obtain ⟨i, ea, _⟩ := own a ha
      obtain ⟨j, eb, _⟩ := own b hb
      rw [ea, eb] at e
      have e : i = j := e
      subst e
      exact hab (F.inj a b i ea eb)
  have sub : (k :: S.map fun r => (ow r).getD 0) ⊆ J := by
    intro j hj
    refine List.mem_filter.mpr ?_
    rcases List.mem_cons.mp hj with q | q
    · subst q
      exact ⟨List.mem_range.mpr hk, by simp⟩
    · obtain ⟨r, hr, e⟩ := List.mem_map.mp q
      have h1 := lt r hr
      obtain ⟨i, ei, _⟩ := own r hr
      rw [ei] at e h1
      have e : i = j := e
      subst e
      refine ⟨List.mem_range.mpr (by have h1 : i < k := h1; omega), ?_⟩
      simp only [Bool.or_eq_true, List.any_eq_true]
      exact .inr ⟨r, hr, by rw [ei]; exact beq_self_eq_true _⟩
  refine ⟨J, S, List.filter_sublist, ?_, fun j hj r hr o => ?_⟩
  · have q := List.Nodup.length_le_of_subset nd sub
    rw [List.length_cons, List.length_map] at q
    omega
  · refine List.mem_filter.mpr ⟨hr, ?_⟩
    have q := (List.mem_filter.mp hj).2
    rw [Bool.or_eq_true] at q
    rcases q with q | q
    · have q : j = k := by simpa using q
      subst q
      exact L.all r hr o
    · obtain ⟨r1, h1, e1⟩ := List.any_eq_true.mp q
      obtain ⟨i, ei, a⟩ := own r1 h1
      have e1 : ow r1 = some j := by simpa using e1
      rw [e1] at ei; cases ei
      exact a r hr o
theorem layGo_does {fuel m : Nat} (hf : free.Nodup) (hfuel : free.length < fuel) : ∀ (n i : Nat) (ow : Ow), i + n = m → Full ok free ow i →
    (layGo ok free fuel n i ow = true → ∃ ow', Full ok free ow' m) ∧ (layGo ok free fuel n i ow = false → ∃ J S, Tight ok free m J S)
  | 0, i, ow, h, F => ⟨fun _ => ⟨ow, by rw [← h]; exact F⟩, fun h => Bool.noConfusion h⟩
  | n + 1, i, ow, h, F => by
    have D := findRod_does (ok := ok) (free := free) fuel ow i (fun _ => false) (Nat.lt_of_le_of_lt (List.length_filter_le _ _) hfuel) F.pre
    unfold layGo
    by_cases c : (findRod ok free fuel ow i (fun _ => false)).1 = true
    · rw [if_pos c]
      exact layGo_does hf hfuel n (i + 1) _ (by omega) (F.step (D.2.1 c))
    · rw [if_neg c]
      exact ⟨fun h => Bool.noConfusion h, fun _ => (D.2.2 (by simpa using c)).tight hf (by omega) F⟩
end
end LR

/-! Laying, over lists: can_be_laid, laid_so, many_laid against `assign` and `canLay`. -/
namespace LR
open Mu13

def faceHas (faces : List (List Nat)) (r d : Nat) : Bool := (faces.getD r []).contains d
def okOf (faces : List (List Nat)) (digits : List Nat) : Nat → Nat → Bool := fun k r => faceHas faces r (digits.getD k 0)
/-- can_be_laid -/
def canLaid (faces : List (List Nat)) (free digits : List Nat) : Bool := layGo (okOf faces digits) free 13 digits.length 0 (fun _ => none)
def Layable (faces : List (List Nat)) (free digits : List Nat) : Prop :=
  ∃ ps : List (Nat × Nat), ps.map (·.2) = digits ∧ (ps.map (·.1)).Nodup ∧ ∀ p ∈ ps, p.1 ∈ free ∧ faceHas faces p.1 p.2 = true
def Hall (faces : List (List Nat)) (free digits : List Nat) : Prop :=
  ∀ x : List Nat, x.Sublist digits → x.length ≤ (free.filter fun r => x.any fun d => faceHas faces r d).length
theorem map_range_getD (l : List Nat) : (List.range l.length).map (fun j => l.getD j 0) = l := by
  apply List.ext_getElem
  · simp
  · intro i h1 h2
    simp [List.getD_eq_getElem?_getD, List.getElem?_eq_getElem h2]
section
variable {faces : List (List Nat)} {free digits : List Nat}
theorem Layable.hall (h : Layable faces free digits) : Hall faces free digits := by
  obtain ⟨ps, rfl, nd, hp⟩ := h
  intro x hx
  obtain ⟨qs, hq, rfl⟩ := List.sublist_map_iff.mp hx
  have nd' : (qs.map (·.1)).Nodup := nd.sublist (hq.map _)
  have sub : (qs.map (·.1)) ⊆ free.filter fun r => (qs.map (·.2)).any fun d => faceHas faces r d := by
    intro r hr
    obtain ⟨p, hpq, rfl⟩ := List.mem_map.mp hr
    have q := hp p (hq.subset hpq)
    refine List.mem_filter.mpr ⟨q.1, ?_⟩
    rw [List.any_eq_true]
    exact ⟨p.2, List.mem_map.mpr ⟨p, hpq, rfl⟩, q.2⟩
  have z := nd'.length_le_of_subset sub
  rw [List.length_map] at z ⊢
  exact z
open Classical in
theorem Full.layable {ow : Ow} (F : Full (okOf faces digits) free ow digits.length) : Layable faces free digits := by
  have ex : ∃ f : Nat → Nat, ∀ j, j < digits.length → ow (f j) = some j :=
    ⟨fun j => if h : ∃ r, ow r = some j then Classical.choose h else 0, fun j hj => by
      have h : ∃ r, ow r = some j := (F.vals j).mpr hj
      show ow (if h : ∃ r, ow r = some j then Classical.choose h else 0) = some j
      rw [dif_pos h]; exact Classical.choose_spec h⟩
  obtain ⟨f, hf⟩ := ex
  refine ⟨(List.range digits.length).map fun j => (f j, digits.getD j 0), ?_, ?_, ?_⟩
  · rw [List.map_map]
    exact map_range_getD digits
  · rw [List.map_map]
    refine List.pairwise_map.mpr (List.Pairwise.imp_of_mem (R := fun a b => a ≠ b) ?_ List.nodup_range)
    intro a b ha hb hab e
    have e : f a = f b := e
    have h1 := hf a (List.mem_range.mp ha)
    have h2 := hf b (List.mem_range.mp hb)
    rw [e, h2] at h1
    exact hab (Option.some.inj h1).symm
  · intro p hp
    obtain ⟨j, hj, rfl⟩ := List.mem_map.mp hp
    exact F.edge _ _ (hf j (List.mem_range.mp hj))
theorem Tight.not_hall {J S : List Nat} (hf : free.Nodup) (T : Tight (okOf faces digits) free digits.length J S) : ¬ Hall faces free digits := fun h => by
  have sub : (J.map fun j => digits.getD j 0).Sublist digits := by
    have q := T.sub.map fun j => digits.getD j 0
    rwa [map_range_getD] at q
  have z := h _ sub
  have nd : (free.filter fun r => (J.map fun j => digits.getD j 0).any fun d => faceHas faces r d).Nodup := hf.sublist List.filter_sublist
  have sub2 : (free.filter fun r => (J.map fun j => digits.getD j 0).any fun d => faceHas faces r d) ⊆ S := by
    intro r hr
    obtain ⟨h1, h2⟩ := List.mem_filter.mp hr
    obtain ⟨d, hd, e⟩ := List.any_eq_true.mp h2
    obtain ⟨j, hj, rfl⟩ := List.mem_map.mp hd
    exact T.all j hj r h1 e
  have z2 := nd.length_le_of_subset sub2
  have z3 := T.few
  rw [List.length_map] at z
  omega
theorem canLaid_true (hf : free.Nodup) (hl : free.length ≤ 12) (h : canLaid faces free digits = true) : Layable faces free digits := by
  obtain ⟨ow, F⟩ := (layGo_does (ok := okOf faces digits) (m := digits.length) (fuel := 13) hf (by omega) digits.length 0 _ (by omega) full0).1 h
  exact F.layable
theorem canLaid_false (hf : free.Nodup) (hl : free.length ≤ 12) (h : canLaid faces free digits = false) : ¬ Hall faces free digits := by
  obtain ⟨J, S, T⟩ := (layGo_does (ok := okOf faces digits) (m := digits.length) (fuel := 13) hf (by omega) digits.length 0 _ (by omega) full0).2 h
  exact T.not_hall hf
theorem canLaid_iff (hf : free.Nodup) (hl : free.length ≤ 12) : canLaid faces free digits = true ↔ Layable faces free digits := by
  refine ⟨canLaid_true hf hl, fun h => ?_⟩
  cases e : canLaid faces free digits with
  | true => rfl
  | false => exact absurd h.hall (canLaid_false hf hl e)
theorem canLaid_hall (hf : free.Nodup) (hl : free.length ≤ 12) : canLaid faces free digits = true ↔ Hall faces free digits := by
  refine ⟨fun h => (canLaid_true hf hl h).hall, fun h => ?_⟩
  cases e : canLaid faces free digits with
  | true => rfl
  | false => exact absurd h (canLaid_false hf hl e)
end
/-! ## canLay -/
theorem mem_subsets : ∀ (l x : List Nat), x ∈ subsets l ↔ x.Sublist l
  | [], x => by simp [subsets]
  | a :: l, x => by
    unfold subsets
    rw [List.mem_flatMap]
    constructor
    · rintro ⟨y, hy, h⟩
      have hy := (mem_subsets l y).mp hy
      simp at h
      rcases h with rfl | rfl
      · exact hy.cons a
      · exact hy.cons_cons a
    · intro h
      cases h with
      | cons _ h => exact ⟨x, (mem_subsets l x).mpr h, by simp⟩
      | cons_cons _ h => exact ⟨_, (mem_subsets l _).mpr h, by simp⟩
theorem filter_range {α : Type} (p : α → Bool) (d : α) : ∀ l : List α, ((List.range l.length).filter fun i => p (l.getD i d)).length = (l.filter p).length
  | [] => rfl
  | a :: l => by
    rw [List.length_cons, List.range_succ_eq_map, List.filter_cons, List.filter_cons, List.filter_map]
    have e : ((fun i => p ((a :: l).getD i d)) ∘ Nat.succ) = fun i => p (l.getD i d) := rfl
    rw [e]
    have ih := filter_range p d l
    show (if p a = true then _ else _ : List Nat).length = _
    split
    · rw [List.length_cons, List.length_cons, List.length_map, ih]
    · rw [List.length_map, ih]
theorem canLay_eq (s : State) (l : List Nat) (h : s.rods.length ≤ 12) : canLay s l = canLaid s.rods (List.range s.rods.length) l := by
  have e : canLay s l = true ↔ Hall s.rods (List.range s.rods.length) l := by
    unfold canLay
    rw [List.all_eq_true]
    constructor
    · intro q x hx
      have z := of_decide_eq_true (q x ((mem_subsets l x).mpr hx))
      unfold showing at z
      rw [← filter_range (fun r => x.any fun d => r.contains d) [] s.rods] at z
      exact z
    · intro q x hx
      have z := q x ((mem_subsets l x).mp hx)
      refine decide_eq_true ?_
      unfold showing
      rw [← filter_range (fun r => x.any fun d => r.contains d) [] s.rods]
      exact z
  have e2 := canLaid_hall (faces := s.rods) (free := List.range s.rods.length) (digits := l) List.nodup_range (by simpa using h)
  cases a : canLay s l with
  | true => exact (e2.mpr (e.mp a)).symm
  | false =>
    cases b : canLaid s.rods (List.range s.rods.length) l with
    | false => rfl
    | true => exact absurd (e.mpr (e2.mp b)) (by simp [a])
/-! ## laid_so -/
def without (free : List Nat) (r : Nat) : List Nat := free.filter fun x => x != r
def firstRod (faces : List (List Nat)) (free : List Nat) (d : Nat) (rest : List Nat) : Option Nat := free.find? fun r => faceHas faces r d && canLaid faces (without free r) rest
def idx (faces : List (List Nat)) (r d : Nat) : Nat := (faces.getD r []).findIdx fun x => x == d
def laidGo (faces : List (List Nat)) : List Nat → List Nat → List (Nat × Nat)
  | _, [] => []
  | free, d :: l => match firstRod faces free d l with
    | none => []
    | some r => (r, idx faces r d) :: laidGo faces (without free r) l
theorem without_nodup {free : List Nat} (r : Nat) (h : free.Nodup) : (without free r).Nodup := h.sublist List.filter_sublist
theorem without_len {free : List Nat} (r : Nat) {n : Nat} (h : free.length ≤ n) : (without free r).length ≤ n := Nat.le_trans (List.length_filter_le _ _) h
theorem layable_cons {faces : List (List Nat)} {free l : List Nat} {d : Nat} : Layable faces free (d :: l) ↔ ∃ r ∈ free, faceHas faces r d = true ∧ Layable faces (without free r) l := by
  constructor
  · rintro ⟨ps, e, nd, hp⟩
    cases ps with
    | nil => simp at e
    | cons p ps =>
      rw [List.map_cons, List.cons.injEq] at e
      obtain ⟨rfl, rfl⟩ := e
      rw [List.map_cons, List.nodup_cons] at nd
      have q := hp p (List.mem_cons_self ..)
      refine ⟨p.1, q.1, q.2, ps, rfl, nd.2, fun x hx => ?_⟩
      have z := hp x (List.mem_cons_of_mem _ hx)
      refine ⟨List.mem_filter.mpr ⟨z.1, ?_⟩, z.2⟩
      have : x.1 ≠ p.1 := fun e => nd.1 (List.mem_map.mpr ⟨x, hx, e⟩)
      simpa using this
  · rintro ⟨r, hr, hd, ps, rfl, nd, hp⟩
    refine ⟨(r, d) :: ps, rfl, ?_, fun x hx => ?_⟩
    · rw [List.map_cons, List.nodup_cons]
      refine ⟨fun h => ?_, nd⟩
      obtain ⟨p, hpm, e⟩ := List.mem_map.mp h
      have z := (List.mem_filter.mp (hp p hpm).1).2
      have e : p.1 = r := e
      rw [e] at z
      simp at z
    · rcases List.mem_cons.mp hx with rfl | hx
      · exact ⟨hr, hd⟩
      · exact ⟨(List.mem_filter.mp (hp x hx).1).1, (hp x hx).2⟩
theorem canLaid_cons {faces : List (List Nat)} {free l : List Nat} {d : Nat} (hf : free.Nodup) (hl : free.length ≤ 12) : canLaid faces free (d :: l) = (firstRod faces free d l).isSome := by
  have a := canLaid_iff (faces := faces) (digits := d :: l) hf hl
  rw [layable_cons] at a
  have b : (firstRod faces free d l).isSome = true ↔ ∃ r ∈ free, faceHas faces r d = true ∧ Layable faces (without free r) l := by
    unfold firstRod
    rw [List.find?_isSome]
    constructor
    · rintro ⟨r, hr, h⟩
      rw [Bool.and_eq_true] at h
      exact ⟨r, hr, h.1, (canLaid_iff (without_nodup r hf) (without_len r hl)).mp h.2⟩
    · rintro ⟨r, hr, h1, h2⟩
      exact ⟨r, hr, by rw [Bool.and_eq_true]; exact ⟨h1, (canLaid_iff (without_nodup r hf) (without_len r hl)).mpr h2⟩⟩
  cases e : canLaid faces free (d :: l) with
  | true => exact (b.mpr (a.mp e)).symm
  | false =>
    cases e2 : (firstRod faces free d l).isSome with
    | false => rfl
    | true => exact absurd (a.mpr (b.mp e2)) (by simp [e])
theorem findSome_filter {α β : Type} (q p : α → Bool) (g : α → β) : ∀ l : List α,
    (l.findSome? fun r => if q r = true then none else if p r = true then some (g r) else none) = ((l.filter fun r => !q r).find? p).map g
  | [] => rfl
  | a :: l => by
    rw [List.findSome?_cons, List.filter_cons]
    by_cases c : q a = true
    · rw [if_pos c, if_neg (by simp [c])]
      exact findSome_filter q p g l
    · rw [if_neg c, if_pos (c := (!q a) = true) (by simp [c]), List.find?_cons]
      by_cases c2 : p a = true
      · simp [c2]
      · simp only [c2, Bool.false_eq_true, if_false]
        exact findSome_filter q p g l
theorem contains_findIdx (l : List Nat) (d : Nat) : l.findIdx? (fun x => x == d) = if l.contains d = true then some (l.findIdx fun x => x == d) else none := by
  rw [List.findIdx?_eq_guard_findIdx_lt]
  have : l.contains d = true ↔ l.findIdx (fun x => x == d) < l.length := by
    rw [List.findIdx_lt_length, List.contains_iff_exists_mem_beq]
    constructor
    · rintro ⟨x, h, e⟩; exact ⟨x, h, by simpa [BEq.comm] using e⟩
    · rintro ⟨x, h, e⟩; exact ⟨x, h, by simpa [BEq.comm] using e⟩
  by_cases c : l.contains d = true
  · rw [if_pos c]
    simp [Option.guard, this.mp c]
  · rw [if_neg c]
    have : ¬ l.findIdx (fun x => x == d) < l.length := fun h => c (this.mpr h)
    simp only [Option.guard]
    rw [if_neg (by simpa using this)]
theorem assign_eq (s : State) (h : s.rods.length ≤ 12) : ∀ (l used : List Nat),
    assign s used l = if canLaid s.rods ((List.range s.rods.length).filter fun r => !used.contains r) l = true then some (laidGo s.rods ((List.range s.rods.length).filter fun r => !used.contains r) l) else none
  | [], used => by
    rw [if_pos (show canLaid s.rods _ [] = true from rfl)]
    rfl
  | d :: l, used => by
    have hf : ((List.range s.rods.length).filter fun r => !used.contains r).Nodup := List.nodup_range.sublist List.filter_sublist
    have hl : ((List.range s.rods.length).filter fun r => !used.contains r).length ≤ 12 := Nat.le_trans (List.length_filter_le _ _) (by simpa using h)
    have e : ∀ r, (List.range s.rods.length).filter (fun x => !(r :: used).contains x) = without ((List.range s.rods.length).filter fun r => !used.contains r) r := fun r => by
      unfold without
      rw [List.filter_filter]
      congr 1
      funext x
      rw [List.contains_cons]
      cases used.contains x <;> simp [bne]
    have body : (fun (r : Nat) => if used.contains r = true then none else match faceOf s r d with
        | none => none
        | some f => (assign s (r :: used) l).map fun (x : List (Nat × Nat)) => (r, f) :: x) =
        (fun r => if used.contains r = true then none else if (faceHas s.rods r d && canLaid s.rods (without ((List.range s.rods.length).filter fun r => !used.contains r) r) l) = true then
          some ((r, idx s.rods r d) :: laidGo s.rods (without ((List.range s.rods.length).filter fun r => !used.contains r) r) l) else none) := by
      funext r
      by_cases c : used.contains r = true
      · rw [if_pos c, if_pos c]
      · rw [if_neg c, if_neg c]
        rw [assign_eq s h l (r :: used), e r]
        unfold faceOf
        rw [contains_findIdx]
        by_cases c1 : (s.rods.getD r []).contains d = true
        · rw [if_pos c1]
          have c1' : faceHas s.rods r d = true := c1
          rw [c1', Bool.true_and]
          by_cases c2 : canLaid s.rods (without ((List.range s.rods.length).filter fun r => !used.contains r) r) l = true
          · rw [if_pos c2, if_pos c2]; rfl
          · rw [if_neg c2, if_neg c2]; rfl
        · rw [if_neg c1]
          have c1' : faceHas s.rods r d = false := by
            cases q : faceHas s.rods r d with
            | false => rfl
            | true => exact absurd q c1
          rw [c1', Bool.false_and, if_neg Bool.false_ne_true]
    refine Eq.trans (congrArg (fun g => List.findSome? g (List.range s.rods.length)) body) ?_
    show List.findSome? _ (List.range s.rods.length) = _
    rw [findSome_filter (fun r => used.contains r) (fun r => faceHas s.rods r d && canLaid s.rods (without ((List.range s.rods.length).filter fun r => !used.contains r) r) l)
      (fun r => (r, idx s.rods r d) :: laidGo s.rods (without ((List.range s.rods.length).filter fun r => !used.contains r) r) l)]
    rw [canLaid_cons hf hl]
    show (firstRod s.rods ((List.range s.rods.length).filter fun r => !used.contains r) d l).map _ = _
    show _ = if (firstRod s.rods ((List.range s.rods.length).filter fun r => !used.contains r) d l).isSome = true then some (match firstRod s.rods ((List.range s.rods.length).filter fun r => !used.contains r) d l with
      | none => []
      | some r => (r, idx s.rods r d) :: laidGo s.rods (without ((List.range s.rods.length).filter fun r => !used.contains r) r) l) else none
    cases firstRod s.rods ((List.range s.rods.length).filter fun r => !used.contains r) d l with
    | none => rfl
    | some r => rfl
theorem laidSo_eq (s : State) (h : s.rods.length ≤ 12) (l : List Nat) : assign s [] l = if canLaid s.rods (List.range s.rods.length) l = true then some (laidGo s.rods (List.range s.rods.length) l) else none := by
  have q := assign_eq s h l []
  have e : (List.range s.rods.length).filter (fun r => !([] : List Nat).contains r) = List.range s.rods.length := by
    rw [List.filter_eq_self]
    intro a _
    rfl
  rw [e] at q
  exact q
/-- what is laid: rods of free, each once; faces that show the digits -/
theorem laidGo_spec {faces : List (List Nat)} : ∀ (l free : List Nat), free.Nodup → free.length ≤ 12 → canLaid faces free l = true →
    (laidGo faces free l).length = l.length ∧ ((laidGo faces free l).map (·.1)).Nodup ∧ (∀ p ∈ laidGo faces free l, p.1 ∈ free ∧ p.2 < (faces.getD p.1 []).length) ∧ (laidGo faces free l).map (fun p => (faces.getD p.1 []).getD p.2 0) = l
  | [], free, _, _, _ => ⟨rfl, List.Pairwise.nil, fun p hp => by simp [laidGo] at hp, rfl⟩
  | d :: l, free, hf, hl, hc => by
    rw [canLaid_cons hf hl] at hc
    obtain ⟨r, hr⟩ := Option.isSome_iff_exists.mp hc
    have e : laidGo faces free (d :: l) = (r, idx faces r d) :: laidGo faces (without free r) l := by
      show (match firstRod faces free d l with
        | none => []
        | some r => (r, idx faces r d) :: laidGo faces (without free r) l) = _
      rw [hr]
    have hm := List.mem_of_find?_eq_some hr
    have hp := List.find?_some hr
    rw [Bool.and_eq_true] at hp
    obtain ⟨i1, i2, i3, i4⟩ := laidGo_spec l (without free r) (without_nodup r hf) (without_len r hl) hp.2
    have hi : idx faces r d < (faces.getD r []).length := by
      unfold idx
      rw [List.findIdx_lt_length]
      have := hp.1
      unfold faceHas at this
      rw [List.contains_iff_exists_mem_beq] at this
      obtain ⟨x, hx, ex⟩ := this
      exact ⟨x, hx, by simpa [BEq.comm] using ex⟩
    have hg : (faces.getD r []).getD (idx faces r d) 0 = d := by
      rw [List.getD_eq_getElem?_getD, List.getElem?_eq_getElem hi]
      have : ((faces.getD r [])[idx faces r d]'hi == d) = true := List.findIdx_getElem (w := hi)
      exact beq_iff_eq.mp this
    rw [e]
    refine ⟨by simp [i1], ?_, ?_, ?_⟩
    · rw [List.map_cons, List.nodup_cons]
      refine ⟨fun h => ?_, i2⟩
      obtain ⟨p, hpm, ep⟩ := List.mem_map.mp h
      have z := (List.mem_filter.mp (i3 p hpm).1).2
      have ep : p.1 = r := ep
      rw [ep] at z
      simp at z
    · intro p hpm
      rcases List.mem_cons.mp hpm with rfl | hpm
      · exact ⟨hm, hi⟩
      · exact ⟨(List.mem_filter.mp (i3 p hpm).1).1, (i3 p hpm).2⟩
    · rw [List.map_cons, i4]
      exact congrArg (· :: l) hg
/-! ## count -/
def moreRows (found : List (List Nat)) : List (List Nat) := found.flatMap fun row => (List.range 10).map fun d => row ++ [d]
def allRows : Nat → List (List Nat)
  | 0 => [[]]
  | n + 1 => moreRows (allRows n)
theorem allRows_eq {n : Nat} (h : n ≤ 3) : allRows n = Mu13.all n := by
  match n, h with
  | 0, _ => rfl
  | 1, _ => decide +kernel
  | 2, _ => decide +kernel
  | 3, _ => decide +kernel
theorem allRows_len {n : Nat} (h : n ≤ 3) : (allRows n).length ≤ 1000 := by
  match n, h with
  | 0, _ => decide
  | 1, _ => decide +kernel
  | 2, _ => decide +kernel
  | 3, _ => decide +kernel
theorem count_eq (s : State) (h : s.rods.length ≤ 12) {n : Nat} (hn : n ≤ 3) : (((Mu13.all n).filter (canLay s)).length) = ((allRows n).filter fun row => canLaid s.rods (List.range s.rods.length) row).length := by
  rw [allRows_eq hn]
  congr 2
  funext l
  exact canLay_eq s l h
end LR

/-! Roots: root_of, doubles against `root`, `twice`. -/
namespace LR
open Mu13

def IsRoot (r n : Nat) : Prop := r * r ≤ n ∧ n < (r + 1) * (r + 1)
theorem sq_lt {a b : Nat} (h : a * a < b * b) : a < b := by
  rcases Nat.lt_or_ge a b with q | q
  · exact q
  · have := Nat.mul_le_mul q q; omega
theorem IsRoot.uniq {r r' n : Nat} (a : IsRoot r n) (b : IsRoot r' n) : r = r' := by
  have h1 : r < r' + 1 := sq_lt (Nat.lt_of_le_of_lt a.1 b.2)
  have h2 : r' < r + 1 := sq_lt (Nat.lt_of_le_of_lt b.1 a.2)
  omega
/-- root_of's loop: so many bits left -/
def rootBits (n : Nat) : Nat → Nat → Nat
  | 0, f => f
  | b + 1, f => rootBits n b (if (f + 2 ^ b) * (f + 2 ^ b) ≤ n then f + 2 ^ b else f)
def rootOf (n : Nat) : Nat := rootBits n 28 0
theorem rootBits_is {n : Nat} : ∀ (b f : Nat), f * f ≤ n → n < (f + 2 ^ b) * (f + 2 ^ b) → IsRoot (rootBits n b f) n
  | 0, f, h1, h2 => ⟨h1, h2⟩
  | b + 1, f, h1, h2 => by
    unfold rootBits
    by_cases c : (f + 2 ^ b) * (f + 2 ^ b) ≤ n
    · rw [if_pos c]
      refine rootBits_is b _ c ?_
      have e : f + 2 ^ b + 2 ^ b = f + 2 ^ (b + 1) := by rw [Nat.pow_succ]; omega
      rw [e]; exact h2
    · rw [if_neg c]
      exact rootBits_is b f h1 (by omega)
theorem rootOf_is {n : Nat} (h : n < 10 ^ 16) : IsRoot (rootOf n) n := rootBits_is 28 0 (by omega) (Nat.lt_of_lt_of_le h (by decide))
theorem rootBits_lt {n : Nat} : ∀ (b f B : Nat), f + 2 ^ b ≤ B → rootBits n b f < B
  | 0, f, B, h => by
    show f < B
    simp at h; omega
  | b + 1, f, B, h => by
    unfold rootBits
    have e : 2 ^ (b + 1) = 2 ^ b + 2 ^ b := by rw [Nat.pow_succ]; omega
    have p : 0 < 2 ^ b := Nat.pow_pos (by decide)
    split
    · exact rootBits_lt b _ B (by omega)
    · exact rootBits_lt b _ B (by omega)
theorem rootOf_lt (n : Nat) : rootOf n < 2 ^ 28 := rootBits_lt 28 0 _ (by decide)
theorem foldl_max : ∀ (l : List Nat) (a : Nat), a ≤ l.foldl max a ∧ (∀ x ∈ l, x ≤ l.foldl max a) ∧ (l.foldl max a = a ∨ l.foldl max a ∈ l)
  | [], a => ⟨Nat.le_refl _, fun x hx => by simp at hx, .inl rfl⟩
  | x :: l, a => by
    obtain ⟨h1, h2, h3⟩ := foldl_max l (max a x)
    refine ⟨?_, fun y hy => ?_, ?_⟩
    · exact Nat.le_trans (Nat.le_max_left ..) h1
    · rcases List.mem_cons.mp hy with rfl | hy
      · exact Nat.le_trans (Nat.le_max_right ..) h1
      · exact h2 y hy
    · show List.foldl max (max a x) l = a ∨ List.foldl max (max a x) l ∈ x :: l
      rcases h3 with h3 | h3
      · rw [h3]
        rcases Nat.le_total a x with q | q
        · rw [Nat.max_eq_right q]; exact .inr (List.mem_cons_self ..)
        · rw [Nat.max_eq_left q]; exact .inl rfl
      · exact .inr (List.mem_cons_of_mem _ h3)
/-- the greatest of the numbers 0 to 9 of which p holds -/
theorem greatest_of (p : Nat → Bool) (h0 : p 0 = true) : ((List.range 10).filter p).foldl max 0 ≤ 9 ∧ p (((List.range 10).filter p).foldl max 0) = true ∧ ∀ j, j ≤ 9 → p j = true → j ≤ ((List.range 10).filter p).foldl max 0 := by
  obtain ⟨_, h2, h3⟩ := foldl_max ((List.range 10).filter p) 0
  refine ⟨?_, ?_, fun j hj hp => h2 j (List.mem_filter.mpr ⟨List.mem_range.mpr (by omega), hp⟩)⟩
  · rcases h3 with h3 | h3
    · rw [h3]; decide
    · have := List.mem_range.mp (List.mem_filter.mp h3).1; omega
  · rcases h3 with h3 | h3
    · rw [h3]; exact h0
    · exact (List.mem_filter.mp h3).2
theorem sq10 (a k : Nat) : (10 * a + k) * (10 * a + k) = 100 * (a * a) + (20 * a + k) * k := by
  have e1 : (10 * a + k) * (10 * a + k) = 10 * a * (10 * a) + 10 * a * k + (k * (10 * a) + k * k) := by rw [Nat.add_mul, Nat.mul_add, Nat.mul_add]
  have e2 : 10 * a * (10 * a) = 100 * (a * a) := by
    rw [Nat.mul_mul_mul_comm]
  have e3 : k * (10 * a) = 10 * a * k := Nat.mul_comm ..
  have e4 : (20 * a + k) * k = 20 * a * k + k * k := Nat.add_mul ..
  have e5 : 20 * a * k = 10 * a * k + 10 * a * k := by rw [← Nat.add_mul]; congr 1; omega
  omega
theorem rootStep_is {a : Nat × Nat} {v p : Nat} (h : IsRoot a.1 v) (e : a.2 = v - a.1 * a.1) (hp : p < 100) :
    IsRoot (rootStep a p).1 (100 * v + p) ∧ (rootStep a p).2 = (100 * v + p) - (rootStep a p).1 * (rootStep a p).1 := by
  have hr : 100 * a.2 + p = 100 * v + p - 100 * (a.1 * a.1) := by have := h.1; omega
  have hle : 100 * (a.1 * a.1) ≤ 100 * v := Nat.mul_le_mul_left _ h.1
  obtain ⟨h1, h2, h3⟩ := greatest_of (fun k => decide ((20 * a.1 + k) * k ≤ 100 * a.2 + p)) (by simp)
  show IsRoot (10 * a.1 + ((List.range 10).filter fun k => decide ((20 * a.1 + k) * k ≤ 100 * a.2 + p)).foldl max 0) (100 * v + p) ∧
    100 * a.2 + p - (20 * a.1 + ((List.range 10).filter fun k => decide ((20 * a.1 + k) * k ≤ 100 * a.2 + p)).foldl max 0) * ((List.range 10).filter fun k => decide ((20 * a.1 + k) * k ≤ 100 * a.2 + p)).foldl max 0 =
    100 * v + p - (10 * a.1 + ((List.range 10).filter fun k => decide ((20 * a.1 + k) * k ≤ 100 * a.2 + p)).foldl max 0) * (10 * a.1 + ((List.range 10).filter fun k => decide ((20 * a.1 + k) * k ≤ 100 * a.2 + p)).foldl max 0)
  generalize ((List.range 10).filter fun k => decide ((20 * a.1 + k) * k ≤ 100 * a.2 + p)).foldl max 0 = k at h1 h2 h3
  have h2 : (20 * a.1 + k) * k ≤ 100 * a.2 + p := of_decide_eq_true h2
  have s1 := sq10 a.1 k
  refine ⟨⟨by omega, ?_⟩, by omega⟩
  by_cases c : k = 9
  · have e10 : 10 * a.1 + k + 1 = 10 * (a.1 + 1) + 0 := by omega
    rw [e10, sq10]
    have := h.2
    simp
    omega
  · have e10 : 10 * a.1 + k + 1 = 10 * a.1 + (k + 1) := by omega
    rw [e10, sq10]
    have n3 : ¬ (20 * a.1 + (k + 1)) * (k + 1) ≤ 100 * a.2 + p := fun q => by
      have := h3 (k + 1) (by omega) (decide_eq_true q)
      omega
    omega
def val100 (l : List Nat) : Nat := l.foldl (fun n p => 100 * n + p) 0
theorem foldl_rootStep : ∀ (l : List Nat) (a : Nat × Nat) (v : Nat), (∀ p ∈ l, p < 100) → IsRoot a.1 v → a.2 = v - a.1 * a.1 →
    IsRoot (l.foldl rootStep a).1 (l.foldl (fun n p => 100 * n + p) v) ∧ (l.foldl rootStep a).2 = (l.foldl (fun n p => 100 * n + p) v) - (l.foldl rootStep a).1 * (l.foldl rootStep a).1
  | [], _, _, _, h, e => ⟨h, e⟩
  | p :: l, a, v, hl, h, e => by
    obtain ⟨h', e'⟩ := rootStep_is h e (hl p (List.mem_cons_self ..))
    exact foldl_rootStep l (rootStep a p) (100 * v + p) (fun x hx => hl x (List.mem_cons_of_mem _ hx)) h' e'
theorem root_take {l : List Nat} (hl : ∀ p ∈ l, p < 100) : IsRoot (l.foldl rootStep (0, 0)).1 (val100 l) ∧ (l.foldl rootStep (0, 0)).2 = val100 l - (l.foldl rootStep (0, 0)).1 * (l.foldl rootStep (0, 0)).1 :=
  foldl_rootStep l (0, 0) 0 hl ⟨by decide, by decide⟩ rfl
theorem foldl100 (l : List Nat) : ∀ a : Nat, l.foldl (fun (n d : Nat) => 100 * n + d) a = a * 100 ^ l.length + val100 l := by
  induction l with
  | nil => intro a; simp [val100]
  | cons x l ih =>
    intro a
    show List.foldl _ (100 * a + x) l = _
    rw [ih]
    have h2 : val100 (x :: l) = x * 100 ^ l.length + val100 l := by
      show List.foldl _ (100 * 0 + x) l = _
      rw [ih]; simp
    rw [h2, List.length_cons, Nat.pow_succ, Nat.add_mul, Nat.add_assoc]
    congr 1
    rw [Nat.mul_comm 100 a, Nat.mul_assoc, Nat.mul_comm 100]
theorem val100_cons (x : Nat) (l : List Nat) : val100 (x :: l) = x * 100 ^ l.length + val100 l := by
  show List.foldl _ (100 * 0 + x) l = _
  rw [foldl100]; simp
theorem val100_append (a b : List Nat) : val100 (a ++ b) = val100 a * 100 ^ b.length + val100 b := by
  unfold val100
  rw [List.foldl_append, foldl100]; rfl
theorem val100_lt : ∀ (l : List Nat), (∀ d ∈ l, d < 100) → val100 l < 100 ^ l.length
  | [], _ => by simp [val100]
  | x :: l, h => by
    rw [val100_cons, List.length_cons, Nat.pow_succ]
    have h1 := val100_lt l fun d hd => h d (List.mem_cons_of_mem _ hd)
    have h2 : x < 100 := h x (List.mem_cons_self ..)
    have h3 : x * 100 ^ l.length ≤ 99 * 100 ^ l.length := Nat.mul_le_mul_right _ (by omega)
    omega
theorem val100_take {l : List Nat} (hl : ∀ d ∈ l, d < 100) (i : Nat) : val100 (l.take i) = val100 l / 100 ^ (l.length - i) := by
  have e : val100 l = val100 (l.take i) * 100 ^ (l.drop i).length + val100 (l.drop i) := by rw [← val100_append, List.take_append_drop]
  have h := val100_lt (l.drop i) fun d hd => hl d (List.mem_of_mem_drop hd)
  rw [List.length_drop] at e h
  rw [e, Nat.mul_comm, Nat.mul_add_div (Nat.pow_pos (by decide)), Nat.div_eq_of_lt h, Nat.add_zero]
theorem valueOf_take {l : List Nat} (hl : ∀ d ∈ l, d < 10) (i : Nat) : valueOf (l.take i) = valueOf l / 10 ^ (l.length - i) := by
  have e : valueOf l = valueOf (l.take i) * 10 ^ (l.drop i).length + valueOf (l.drop i) := by rw [← valueOf_append, List.take_append_drop]
  have h := valueOf_lt (l.drop i) fun d hd => hl d (List.mem_of_mem_drop hd)
  rw [List.length_drop] at e h
  rw [e, Nat.mul_comm, Nat.mul_add_div (Nat.pow_pos (by decide)), Nat.div_eq_of_lt h, Nat.add_zero]
theorem pairs_val : ∀ (n : Nat) (l : List Nat), l.length = 2 * n → (∀ d ∈ l, d < 10) → val100 (pairs l) = valueOf l ∧ (pairs l).length = n ∧ ∀ p ∈ pairs l, p < 100
  | 0, [], _, _ => ⟨rfl, rfl, fun p hp => by simp [pairs] at hp⟩
  | 0, _ :: _, h, _ => by simp at h
  | n + 1, [], h, _ => by simp at h
  | n + 1, [a], h, _ => by simp at h; omega
  | n + 1, a :: b :: l, h, hd => by
    have hl : l.length = 2 * n := by simp at h; omega
    obtain ⟨h1, h2, h3⟩ := pairs_val n l hl fun d hx => hd d (by simp [hx])
    have ha : a < 10 := hd a (by simp)
    have hb : b < 10 := hd b (by simp)
    show val100 ((10 * a + b) :: pairs l) = valueOf (a :: b :: l) ∧ ((10 * a + b) :: pairs l).length = n + 1 ∧ ∀ p ∈ (10 * a + b) :: pairs l, p < 100
    refine ⟨?_, by simp [h2], fun p hp => ?_⟩
    · rw [val100_cons, valueOf_cons, valueOf_cons, h1, h2, List.length_cons, hl]
      have e : 100 ^ n = 10 ^ (2 * n) := by rw [Nat.pow_mul]
      rw [e, Nat.pow_succ, Nat.add_mul, Nat.add_assoc]
      congr 1
      rw [Nat.mul_comm 10 a, Nat.mul_assoc, Nat.mul_comm 10]
    · rcases List.mem_cons.mp hp with rfl | hp
      · omega
      · exact h3 p hp
theorem even_val {l : List Nat} (hd : ∀ d ∈ l, d < 10) : (even l).length = 2 * ((l.length + 1) / 2) ∧ valueOf (even l) = valueOf l ∧ ∀ d ∈ even l, d < 10 := by
  unfold even
  split
  · exact ⟨by omega, rfl, hd⟩
  · refine ⟨by rw [List.length_cons]; omega, by rw [valueOf_cons]; simp, fun d h => ?_⟩
    rcases List.mem_cons.mp h with rfl | h
    · decide
    · exact hd d h
def pairsOf (n : Nat) : List Nat := pairs (even (digits n))
theorem pairsOf_val {n : Nat} (h : n < 10 ^ 40) : val100 (pairsOf n) = n ∧ (pairsOf n).length = ((digits n).length + 1) / 2 ∧ ∀ p ∈ pairsOf n, p < 100 := by
  obtain ⟨e1, e2, e3⟩ := even_val (digits_lt n)
  obtain ⟨h1, h2, h3⟩ := pairs_val _ _ e1 e3
  exact ⟨by unfold pairsOf; rw [h1, e2, digits_value h], h2, h3⟩
theorem root_eq {n : Nat} (h : n < 10 ^ 16) : root n = (rootOf n, n - rootOf n * rootOf n) := by
  have h40 : n < 10 ^ 40 := Nat.lt_of_lt_of_le h (by decide)
  obtain ⟨p1, p2, p3⟩ := pairsOf_val h40
  obtain ⟨r1, r2⟩ := root_take p3
  rw [p1] at r1 r2
  have e : (root n).1 = rootOf n := IsRoot.uniq r1 (rootOf_is h)
  have e2 : (root n).2 = n - (root n).1 * (root n).1 := r2
  rw [e] at e2
  exact Prod.ext e e2
theorem IsRoot.div {r n : Nat} (h : IsRoot r n) (j : Nat) : IsRoot (r / 10 ^ j) (n / 100 ^ j) := by
  have hp : 0 < 10 ^ j := Nat.pow_pos (by decide)
  have h100 : 100 ^ j = 10 ^ j * 10 ^ j := by
    rw [show (100 : Nat) = 10 * 10 from rfl, Nat.mul_pow]
  have hp2 : 0 < 100 ^ j := Nat.pow_pos (by decide)
  have e1 : r / 10 ^ j * 10 ^ j ≤ r := Nat.div_mul_le_self ..
  have e2 : r < (r / 10 ^ j + 1) * 10 ^ j := by
    rw [Nat.add_mul, Nat.one_mul]
    have q1 := Nat.div_add_mod r (10 ^ j)
    have q2 := Nat.mod_lt r hp
    rw [Nat.mul_comm] at q1
    omega
  constructor
  · rw [Nat.le_div_iff_mul_le hp2, h100]
    have q := Nat.mul_le_mul e1 e1
    have : r / 10 ^ j * (r / 10 ^ j) * (10 ^ j * 10 ^ j) = r / 10 ^ j * 10 ^ j * (r / 10 ^ j * 10 ^ j) := by
      rw [Nat.mul_mul_mul_comm]
    rw [this]
    exact Nat.le_trans q h.1
  · rw [Nat.div_lt_iff_lt_mul hp2, h100]
    have q := Nat.mul_le_mul (show r + 1 ≤ _ from e2) (show r + 1 ≤ _ from e2)
    have : (r / 10 ^ j + 1) * (r / 10 ^ j + 1) * (10 ^ j * 10 ^ j) = (r / 10 ^ j + 1) * 10 ^ j * ((r / 10 ^ j + 1) * 10 ^ j) := by
      rw [Nat.mul_mul_mul_comm]
    rw [this]
    exact Nat.lt_of_lt_of_le h.2 q
/-- doubles -/
def doublesOf (n : Nat) : List Nat := (List.range (((digits n).length + 1) / 2 - 1)).map fun i => 2 * valueOf ((digits (rootOf n)).take (i + 1))
theorem drop1_range {α : Type} (f : Nat → α) (P : Nat) : ((List.range P).map f).drop 1 = (List.range (P - 1)).map fun i => f (i + 1) := by
  cases P with
  | zero => rfl
  | succ P =>
    rw [List.range_succ_eq_map, List.map_cons, List.drop_one, List.tail_cons, List.map_map]
    rfl
theorem root_len {n : Nat} (h : n < 10 ^ 16) (h2 : 2 ≤ ((digits n).length + 1) / 2) : (digits (rootOf n)).length = ((digits n).length + 1) / 2 := by
  have h40 : n < 10 ^ 40 := Nat.lt_of_lt_of_le h (by decide)
  obtain ⟨l1, l2⟩ := digits_len h40
  have hn : 0 < n := by
    rcases Nat.eq_zero_or_pos n with q | q
    · rw [q, digits_small (by decide)] at h2; simp at h2
    · exact q
  have l2 := l2 hn
  obtain ⟨r1, r2⟩ := rootOf_is h
  have hr40 : rootOf n < 10 ^ 40 := Nat.lt_of_lt_of_le (rootOf_lt n) (by decide)
  obtain ⟨m1, m2⟩ := digits_len hr40
  have hr : 0 < rootOf n := by
    rcases Nat.eq_zero_or_pos (rootOf n) with q | q
    · rw [q] at r2
      have : n < 1 := by simpa using r2
      omega
    · exact q
  have m2 := m2 hr
  generalize (digits n).length = a at *
  generalize (digits (rootOf n)).length = b at *
  generalize rootOf n = r at *
  -- 10^(a-1) ≤ n < 10^a, 10^(b-1) ≤ r < 10^b
  have u1 : 10 ^ a ≤ 10 ^ (2 * b + 1) := by
    -- n < (r+1)^2 ≤ 10^(2b)
    have q : (r + 1) * (r + 1) ≤ 10 ^ b * 10 ^ b := Nat.mul_le_mul m1 m1
    rw [← Nat.pow_add, show b + b = 2 * b by omega] at q
    rw [Nat.pow_succ]
    omega
  have u1' : 10 ^ a < 10 ^ (2 * b + 1) := by
    have q : (r + 1) * (r + 1) ≤ 10 ^ b * 10 ^ b := Nat.mul_le_mul m1 m1
    rw [← Nat.pow_add, show b + b = 2 * b by omega] at q
    rw [Nat.pow_succ]
    omega
  have u2 : 10 ^ (2 * b) < 10 ^ (a + 2) := by
    have q : 10 ^ b * 10 ^ b ≤ (10 * r) * (10 * r) := Nat.mul_le_mul m2 m2
    rw [← Nat.pow_add, show b + b = 2 * b by omega, Nat.mul_mul_mul_comm] at q
    rw [Nat.pow_add]
    omega
  have v1 := (Nat.pow_lt_pow_iff_right (a := 10) (by decide)).mp u1'
  have v2 := (Nat.pow_lt_pow_iff_right (a := 10) (by decide)).mp u2
  omega
theorem twice_eq {n : Nat} (h : n < 10 ^ 16) : twice n = doublesOf n := by
  have h40 : n < 10 ^ 40 := Nat.lt_of_lt_of_le h (by decide)
  obtain ⟨p1, p2, p3⟩ := pairsOf_val h40
  show ((List.range (pairsOf n).length).map fun (i : Nat) => 2 * (((pairsOf n).take i).foldl rootStep (0, 0)).1).drop 1 = _
  rw [drop1_range, p2]
  unfold doublesOf
  refine List.map_congr_left fun i hi => ?_
  have hi := List.mem_range.mp hi
  have hP : 2 ≤ ((digits n).length + 1) / 2 := by omega
  congr 1
  have a := (root_take (l := (pairsOf n).take (i + 1)) fun p hp => p3 p (List.mem_of_mem_take hp)).1
  rw [val100_take p3, p1, p2] at a
  have b := (rootOf_is h).div (((digits n).length + 1) / 2 - (i + 1))
  rw [valueOf_take (digits_lt _), digits_value (Nat.lt_of_lt_of_le (rootOf_lt n) (by decide)), root_len h hP]
  exact a.uniq b
theorem doublesOf_lt {n x : Nat} (hx : x ∈ doublesOf n) : x < 10 ^ 9 := by
  obtain ⟨i, hi, rfl⟩ := List.mem_map.mp hx
  rw [valueOf_take (digits_lt _), digits_value (Nat.lt_of_lt_of_le (rootOf_lt n) (by decide))]
  have := Nat.div_le_self (rootOf n) (10 ^ ((digits (rootOf n)).length - (i + 1)))
  have := rootOf_lt n
  omega
end LR

/-! The state: what holds of it; rows, quotients, explanations. -/
namespace LR
open Mu13

/-- what holds of a state between two calls (flaws: at most so many) -/
structure Good (s : State) : Prop where
  rods : s.rods.length ≤ 12
  four : ∀ r ∈ s.rods, r.length = 4 ∧ ∀ d ∈ r, d ≤ 9
  flaw : ∀ f ∈ s.flaws, f.value ≤ 99
  laidNd : (s.laid.map (·.1)).Nodup
  laidIn : ∀ p ∈ s.laid, p.1 < s.rods.length ∧ p.2 < 4
  laidLen : s.laid.length ≤ 8
theorem good0 : Good {} := ⟨by decide, fun r h => by simp at h, fun r h => by simp at h, List.Pairwise.nil, fun r h => by simp at h, by decide⟩
theorem rod_at {s : State} (G : Good s) {r : Nat} (h : r < s.rods.length) : ∃ rod, s.rods[r]? = some rod ∧ s.rods.getD r [] = rod ∧ rod.length = 4 ∧ ∀ d ∈ rod, d ≤ 9 := by
  refine ⟨s.rods[r], List.getElem?_eq_getElem h, by simp [List.getD_eq_getElem?_getD, h], G.four _ (List.getElem_mem h)⟩
theorem digitOf_le {s : State} (G : Good s) (p : Nat × Nat) : digitOf s p ≤ 9 := by
  unfold digitOf
  by_cases h : p.1 < s.rods.length
  · obtain ⟨rod, _, e, h4, h9⟩ := rod_at G h
    rw [e]
    by_cases h2 : p.2 < rod.length
    · rw [List.getD_eq_getElem?_getD, List.getElem?_eq_getElem h2]
      exact h9 _ (List.getElem_mem h2)
    · rw [List.getD_eq_getElem?_getD, List.getElem?_eq_none (by omega)]; exact Nat.zero_le _
  · have e : s.rods.getD p.1 [] = [] := by rw [List.getD_eq_getElem?_getD, List.getElem?_eq_none (by omega)]; rfl
    rw [e]; simp
theorem cell_lt {s : State} (G : Good s) (p : Nat × Nat) {k : Nat} (hk : k ≤ 9) : cell s p k < 100 := by
  unfold cell
  cases e : s.flaws.find? fun (f : Flaw) => f.rod == p.1 && (f.face == p.2 && f.row == k) with
  | some f => have := G.flaw f (List.mem_of_find?_eq_some e); show f.value < 100; omega
  | none =>
    have := digitOf_le G p
    have : digitOf s p * k ≤ 9 * 9 := Nat.mul_le_mul this hk
    show digitOf s p * k < 100
    omega
/-- row_cells -/
def rowCells (s : State) (k : Nat) : List Nat := if k = 0 then [] else cells s k
def rowRead (s : State) (k : Nat) : Nat := valueOf (rowCells s k)
theorem rowCells_lt {s : State} (G : Good s) {k : Nat} (hk : k ≤ 9) : ∀ x ∈ rowCells s k, x < 100 := by
  intro x hx
  unfold rowCells at hx
  split at hx
  · simp at hx
  · unfold cells at hx
    obtain ⟨p, _, rfl⟩ := List.mem_map.mp hx
    exact cell_lt G p hk
theorem rowCells_len {s : State} (G : Good s) (k : Nat) : (rowCells s k).length ≤ 8 := by
  unfold rowCells
  split
  · simp
  · unfold cells; rw [List.length_map]; exact G.laidLen
theorem readRow_eq {s : State} (G : Good s) {k : Nat} (hk : k ≤ 9) : readRow s k = digits (rowRead s k) := by
  have h := rowCells_lt G hk
  have hl := rowCells_len G k
  unfold readRow rowRead
  unfold rowCells at h hl ⊢
  split
  · rw [valueOf_nil, digits_small (by decide)]
  · rename_i c
    rw [if_neg c] at h hl
    exact readCells h (by omega)
theorem rowRead_lt {s : State} (G : Good s) {k : Nat} (hk : k ≤ 9) : rowRead s k < 10 ^ 10 := by
  have h := valueOf_lt100 _ (rowCells_lt G hk)
  have hl := rowCells_len G k
  exact Nat.lt_of_lt_of_le h (Nat.pow_le_pow_right (by decide) (by omega))
theorem rowValue_eq {s : State} (G : Good s) {k : Nat} (hk : k ≤ 9) : rowValue s k = rowRead s k := by
  unfold rowValue
  rw [readRow_eq G hk, digits_value (Nat.lt_of_lt_of_le (rowRead_lt G hk) (by decide))]
/-! ## by -/
theorem product_fold {s : State} (G : Good s) : ∀ (l : List Nat) (a : Nat), (∀ d ∈ l, d ≤ 9) → l.foldl (fun (n d : Nat) => 10 * n + rowValue s d) a = l.foldl (fun (n d : Nat) => 10 * n + rowRead s d) a
  | [], _, _ => rfl
  | d :: l, a, h => by
    show List.foldl _ (10 * a + rowValue s d) l = List.foldl _ (10 * a + rowRead s d) l
    rw [rowValue_eq G (h d (by simp))]
    exact product_fold G l _ fun x hx => h x (by simp [hx])
theorem product_bound {s : State} (G : Good s) : ∀ (l : List Nat) (a B : Nat), (∀ d ∈ l, d ≤ 9) → a < 10 ^ (B + 11) → l.foldl (fun (n d : Nat) => 10 * n + rowRead s d) a < 10 ^ (B + 11 + 2 * l.length)
  | [], _, _, _, h => by simpa using h
  | d :: l, a, B, h, ha => by
    have hd := rowRead_lt G (h d (by simp))
    have h2 : 10 * a + rowRead s d < 10 ^ (B + 2 + 11) := by
      have e : 10 ^ (B + 2 + 11) = 100 * 10 ^ (B + 11) := by
        rw [show B + 2 + 11 = 2 + (B + 11) by omega, Nat.pow_add]
      have hp : 10 ^ 10 ≤ 10 ^ (B + 11) := Nat.pow_le_pow_right (by decide) (by omega)
      omega
    have ih := product_bound G l (10 * a + rowRead s d) (B + 2) (fun x hx => h x (by simp [hx])) h2
    show List.foldl _ (10 * a + rowRead s d) l < _
    rw [List.length_cons, show B + 11 + 2 * (l.length + 1) = B + 2 + 11 + 2 * l.length by omega]
    exact ih
def productOf (s : State) (l : List Nat) : Nat := l.foldl (fun (n d : Nat) => 10 * n + rowRead s d) 0
theorem product_eq {s : State} (G : Good s) {l : List Nat} (h : ∀ d ∈ l, d ≤ 9) : product s l = productOf s l := product_fold G l 0 h
theorem productOf_lt {s : State} (G : Good s) {l : List Nat} (h : ∀ d ∈ l, d ≤ 9) (hl : l.length ≤ 8) : productOf s l < 10 ^ 40 :=
  Nat.lt_of_lt_of_le (product_bound G l 0 0 h (by decide)) (Nat.pow_le_pow_right (by decide) (by omega))
/-! ## into -/
def greatestRow (rd : List Nat) (left : Nat) : Nat := (((List.range rd.length).filter fun k => decide (rd.getD k 0 ≤ left)).getLast?).getD 0
def readings (s : State) : List Nat := (List.range 10).map fun k => rowRead s k
theorem getLast_max : ∀ (l : List Nat) (a : Nat), (a :: l).Pairwise (· < ·) → (a :: l).foldl max 0 = ((a :: l).getLast?).getD 0 := by
  intro l a h
  obtain ⟨_, h2, h3⟩ := foldl_max (a :: l) 0
  have hne : a :: l ≠ [] := by simp
  rw [List.getLast?_eq_some_getLast hne, Option.getD_some]
  apply Nat.le_antisymm
  · rcases h3 with h3 | h3
    · rw [h3]; exact Nat.zero_le _
    · -- every member is at most the last
      have : ∀ (m : List Nat) (hm : m ≠ []), m.Pairwise (· < ·) → ∀ x ∈ m, x ≤ m.getLast hm := by
        intro m
        induction m with
        | nil => intro hm; exact absurd rfl hm
        | cons b m ih =>
          intro hm hp x hx
          cases m with
          | nil => simp at hx; simp [hx]
          | cons c m =>
            rw [List.getLast_cons (by simp)]
            rw [List.pairwise_cons] at hp
            rcases List.mem_cons.mp hx with rfl | hx
            · exact Nat.le_of_lt (hp.1 _ (List.getLast_mem _))
            · exact ih (by simp) hp.2 x hx
      exact this _ hne h _ h3
  · exact h2 _ (List.getLast_mem _)
theorem greatest_eq {s : State} (G : Good s) (r : Nat) : greatest s r = greatestRow (readings s) r := by
  unfold greatest greatestRow
  have e : (List.range (readings s).length).filter (fun k => decide ((readings s).getD k 0 ≤ r)) = (List.range 10).filter fun (k : Nat) => decide (rowValue s k ≤ r) := by
    have hl : (readings s).length = 10 := by unfold readings; simp
    rw [hl]
    refine List.filter_congr fun k hk => ?_
    have hk := List.mem_range.mp hk
    have : (readings s).getD k 0 = rowRead s k := by
      unfold readings
      rw [List.getD_eq_getElem?_getD, List.getElem?_map, List.getElem?_range hk]
      rfl
    rw [this, rowValue_eq G (by omega)]
  rw [e]
  have h0 : 0 ∈ (List.range 10).filter fun (k : Nat) => decide (rowValue s k ≤ r) := by
    refine List.mem_filter.mpr ⟨by decide, ?_⟩
    exact decide_eq_true (by rw [rowValue_eq G (by decide)]; exact Nat.zero_le _)
  have hp : ((List.range 10).filter fun (k : Nat) => decide (rowValue s k ≤ r)).Pairwise (· < ·) := List.Pairwise.filter _ List.pairwise_lt_range
  cases q : (List.range 10).filter fun (k : Nat) => decide (rowValue s k ≤ r) with
  | nil => rw [q] at h0; simp at h0
  | cons a l =>
    rw [q] at hp
    exact getLast_max l a hp
theorem greatest_le {s : State} (r : Nat) : greatest s r ≤ 9 ∧ rowValue s (greatest s r) ≤ r := by
  obtain ⟨h1, h2, _⟩ := greatest_of (fun (k : Nat) => decide (rowValue s k ≤ r)) (by simp [rowValue, readRow, valueOf])
  exact ⟨h1, of_decide_eq_true h2⟩
theorem quotient_bound {s : State} : ∀ (l : List Nat) (r B : Nat), (∀ d ∈ l, d ≤ 9) → r < 10 ^ B → (quotient s r l).2 < 10 ^ (B + l.length) ∧ (quotient s r l).1.length = l.length ∧ ∀ k ∈ (quotient s r l).1, k ≤ 9
  | [], r, B, _, h => ⟨by show r < _; simpa using h, rfl, fun k hk => by simp [quotient] at hk⟩
  | d :: l, r, B, hd, h => by
    have h9 := hd d (by simp)
    have hn : 10 * r + d - rowValue s (greatest s (10 * r + d)) < 10 ^ (B + 1) := by
      rw [Nat.pow_succ]; omega
    obtain ⟨i1, i2, i3⟩ := quotient_bound (s := s) l (10 * r + d - rowValue s (greatest s (10 * r + d))) (B + 1) (fun x hx => hd x (by simp [hx])) hn
    have e : quotient s r (d :: l) = (greatest s (10 * r + d) :: (quotient s (10 * r + d - rowValue s (greatest s (10 * r + d))) l).1, (quotient s (10 * r + d - rowValue s (greatest s (10 * r + d))) l).2) := rfl
    rw [e]
    refine ⟨?_, by simp [i2], fun k hk => ?_⟩
    · rw [List.length_cons, show B + (l.length + 1) = B + 1 + l.length by omega]; exact i1
    · rcases List.mem_cons.mp hk with rfl | hk
      · exact (greatest_le _).1
      · exact i3 k hk
theorem quotient_zero (s : State) : (List.range 10).any (fun (k : Nat) => decide (0 < k) && rowValue s k == 0) = ((List.range 9).map fun k => rowValue s (k + 1)).contains 0 := by
  rw [show List.range 10 = 0 :: (List.range 9).map (· + 1) by decide, List.any_cons, List.any_map]
  rw [List.contains_eq_any_beq, List.any_map]
  simp only [Nat.lt_irrefl, decide_false, Bool.false_and, Bool.false_or]
  congr 1
  funext k
  simp [Function.comp, BEq.comm]
/-! ## explain -/
def digK (s : State) (k : Nat) (p : Nat × Nat) : Nat := k * digitOf s p
def some1 (s : State) (k : Nat) (off : Int) (worth : Int) (p : Nat × Nat) : List (Nat × Nat × Nat) :=
  ((List.range 100).filter fun v => decide (v ≠ digK s k p) && decide (((v : Int) - (digK s k p : Int)) * worth = off)).map fun v => (p.1, p.2, v)
def expl (s : State) (k : Nat) (off : Int) : List (Nat × Nat) → List (Nat × Nat × Nat)
  | [] => []
  | p :: l => some1 s k off (10 ^ l.length : Nat) p ++ expl s k off l
theorem valueOf_map_mul (k : Nat) (l : List Nat) : valueOf (l.map fun d => k * d) = k * valueOf l := by
  induction l with
  | nil => rfl
  | cons x l ih => rw [List.map_cons, valueOf_cons, valueOf_cons, ih, List.length_map, Nat.mul_add, Nat.mul_assoc]
theorem filterMap_if {α β : Type} (p : α → Prop) [DecidablePred p] (g : α → β) : ∀ l : List α, l.filterMap (fun v => if p v then some (g v) else none) = (l.filter fun v => decide (p v)).map g
  | [] => rfl
  | a :: l => by
    rw [List.filterMap_cons, List.filter_cons]
    by_cases c : p a
    · simp only [c, if_true, decide_true]
      rw [List.map_cons, filterMap_if p g l]
    · simp only [c, if_false, decide_false, Bool.false_eq_true]
      exact filterMap_if p g l
theorem flaw_cell {s : State} {k v : Nat} {p q : Nat × Nat} : cell { s with flaws := [⟨p.1, p.2, k, v⟩] } q k = if p = q then v else digitOf s q * k := by
  unfold cell
  show (match List.find? _ [(⟨p.1, p.2, k, v⟩ : Flaw)] with
    | some f => f.value
    | none => digitOf s q * k) = _
  rw [List.find?_cons]
  by_cases c : p = q
  · subst c
    rw [if_pos rfl]
    simp
  · rw [if_neg c]
    have : (p.1 == q.1 && (p.2 == q.2 && k == k)) = false := by
      rw [Bool.eq_false_iff]
      intro h
      rw [Bool.and_eq_true, Bool.and_eq_true] at h
      exact c (Prod.ext (by simpa using h.1) (by simpa using h.2.1))
    show (match (match (p.1 == q.1 && (p.2 == q.2 && k == k)) with
      | true => some (⟨p.1, p.2, k, v⟩ : Flaw)
      | false => List.find? _ []) with
      | some f => f.value
      | none => digitOf s q * k) = _
    rw [this]
    rfl
theorem explain_cond {s : State} (G : Good s) {k n v : Nat} (hk1 : 1 ≤ k) (hk : k ≤ 9) (hv : v < 100) {pre l : List (Nat × Nat)} {p : Nat × Nat} (e : s.laid = pre ++ p :: l) :
    (rowValue { s with flaws := [⟨p.1, p.2, k, v⟩] } k = n) ↔ ((v : Int) - (digK s k p : Int)) * ((10 ^ l.length : Nat) : Int) = (n : Int) - (k : Int) * (valueOf (s.laid.map (digitOf s)) : Int) := by
  have G' : Good { s with flaws := [⟨p.1, p.2, k, v⟩] } := ⟨G.rods, G.four, fun f hf => by simp at hf; subst hf; show v ≤ 99; omega, G.laidNd, G.laidIn, G.laidLen⟩
  rw [rowValue_eq G' hk]
  have nd := G.laidNd
  rw [e, List.map_append, List.map_cons, List.nodup_append] at nd
  obtain ⟨n1, n2, n3⟩ := nd
  rw [List.nodup_cons] at n2
  have ne1 : ∀ q ∈ pre, p ≠ q := fun q hq c => n3 q.1 (List.mem_map.mpr ⟨q, hq, rfl⟩) p.1 (by simp) (by rw [c])
  have ne2 : ∀ q ∈ l, p ≠ q := fun q hq c => n2.1 (List.mem_map.mpr ⟨q, hq, by rw [c]⟩)
  have hc : rowCells { s with flaws := [⟨p.1, p.2, k, v⟩] } k = pre.map (digK s k) ++ v :: l.map (digK s k) := by
    unfold rowCells
    rw [if_neg (by omega)]
    unfold cells
    show s.laid.map (fun q => cell { s with flaws := [⟨p.1, p.2, k, v⟩] } q k) = _
    have hfun : (fun q => cell { s with flaws := [⟨p.1, p.2, k, v⟩] } q k) = fun q => if p = q then v else digitOf s q * k := funext fun q => flaw_cell
    rw [hfun, e, List.map_append, List.map_cons]
    congr 1
    · refine List.map_congr_left fun q hq => ?_
      rw [if_neg (ne1 q hq), Nat.mul_comm]; rfl
    · congr 1
      · rw [if_pos rfl]
      · refine List.map_congr_left fun q hq => ?_
        rw [if_neg (ne2 q hq), Nat.mul_comm]; rfl
  have hm : k * valueOf (s.laid.map (digitOf s)) = valueOf (pre.map (digK s k) ++ digK s k p :: l.map (digK s k)) := by
    rw [← valueOf_map_mul, List.map_map, e, List.map_append, List.map_cons]
    rfl
  unfold rowRead
  rw [hc, valueOf_append, valueOf_cons, List.length_cons, List.length_map]
  have hm' : (k : Int) * (valueOf (s.laid.map (digitOf s)) : Int) = ((k * valueOf (s.laid.map (digitOf s)) : Nat) : Int) := by push_cast; rfl
  rw [hm', hm, valueOf_append, valueOf_cons, List.length_cons, List.length_map, Int.sub_mul]
  have c1 : ((v * 10 ^ l.length : Nat) : Int) = (v : Int) * ((10 ^ l.length : Nat) : Int) := by push_cast; rfl
  have c2 : ((digK s k p * 10 ^ l.length : Nat) : Int) = (digK s k p : Int) * ((10 ^ l.length : Nat) : Int) := by push_cast; rfl
  rw [← c1, ← c2]
  omega
theorem explains_eq {s : State} (G : Good s) {k n : Nat} (hk1 : 1 ≤ k) (hk : k ≤ 9) : explains s k n = expl s k ((n : Int) - (k : Int) * (valueOf (s.laid.map (digitOf s)) : Int)) s.laid := by
  have e0 : explains s k n = s.laid.flatMap fun (p : Nat × Nat) => (List.range 100).filterMap fun (v : Nat) =>
      if v ≠ digitOf s p * k ∧ rowValue { s with flaws := [⟨p.1, p.2, k, v⟩] } k = n then some (p.1, p.2, v) else none := by
    unfold explains
    have : ∀ (l : List (Nat × Nat)) (i : Nat) (F : Nat × Nat → List (Nat × Nat × Nat)), (l.zipIdx i).flatMap (fun x => F x.1) = l.flatMap F := by
      intro l
      induction l with
      | nil => intro i F; rfl
      | cons a l ih => intro i F; rw [List.zipIdx_cons, List.flatMap_cons, List.flatMap_cons, ih]
    exact this s.laid 0 fun p => (List.range 100).filterMap fun (v : Nat) =>
      if v ≠ digitOf s p * k ∧ rowValue { s with flaws := [⟨p.1, p.2, k, v⟩] } k = n then some (p.1, p.2, v) else none
  rw [e0]
  have go : ∀ (l pre : List (Nat × Nat)), s.laid = pre ++ l → (l.flatMap fun (p : Nat × Nat) => (List.range 100).filterMap fun (v : Nat) =>
      if v ≠ digitOf s p * k ∧ rowValue { s with flaws := [⟨p.1, p.2, k, v⟩] } k = n then some (p.1, p.2, v) else none) = expl s k ((n : Int) - (k : Int) * (valueOf (s.laid.map (digitOf s)) : Int)) l := by
    intro l
    induction l with
    | nil => intro pre _; rfl
    | cons p l ih =>
      intro pre e
      rw [List.flatMap_cons, ih (pre ++ [p]) (by rw [e]; simp)]
      show _ = some1 s k _ (10 ^ l.length : Nat) p ++ expl s k _ l
      congr 1
      rw [filterMap_if]
      unfold some1
      congr 1
      refine List.filter_congr fun v hv => ?_
      have hv := List.mem_range.mp hv
      have q := explain_cond G (n := n) hk1 hk hv e
      rw [Bool.eq_iff_iff, Bool.and_eq_true, decide_eq_true_iff, decide_eq_true_iff, decide_eq_true_iff, q]
      have : digitOf s p * k = digK s k p := Nat.mul_comm ..
      rw [this]
  exact go s.laid [] rfl
/-! ## begin -/
open Mu13Neutral (fours)
theorem fours_spec : ∀ (n : Nat) (l : List Nat), l.length = 4 * n → (fours l).length = n ∧ (fours l).flatten = l ∧ (∀ r ∈ fours l, r.length = 4) ∧ fours l = (List.range n).map fun i => (l.drop (4 * i)).take 4
  | 0, [], _ => ⟨rfl, rfl, fun r h => by simp [fours] at h, rfl⟩
  | 0, _ :: _, h => by simp at h
  | n + 1, [], h => by simp at h
  | n + 1, [_], h => by simp at h; omega
  | n + 1, [_, _], h => by simp at h; omega
  | n + 1, [_, _, _], h => by simp at h; omega
  | n + 1, a :: b :: c :: d :: l, h => by
    have hl : l.length = 4 * n := by simp at h; omega
    obtain ⟨h1, h2, h3, h4⟩ := fours_spec n l hl
    have e : fours (a :: b :: c :: d :: l) = [a, b, c, d] :: fours l := rfl
    rw [e]
    refine ⟨by simp [h1], by simp [h2], fun r hr => ?_, ?_⟩
    · rcases List.mem_cons.mp hr with rfl | hr
      · rfl
      · exact h3 r hr
    · rw [List.range_succ_eq_map, List.map_cons, List.map_map, h4]
      congr 1
end LR

/-! One call: the Spec's step, in the mirror's words. -/
namespace LR
open Mu13
open Mu13Neutral (fours)
def countedN (l : List Nat) : List Nat := l.length :: l
def isBox (ds : List Nat) : Bool := decide (1 ≤ ds.length / 4) && (decide (ds.length / 4 ≤ 12) && ds.all fun d => decide (d ≤ 9))
def flat2 (l : List (Nat × Nat)) : List Nat := l.flatMap fun x => [x.1, x.2]
def flat3 (l : List (Nat × Nat × Nat)) : List Nat := l.flatMap fun x => [x.1, x.2.1, x.2.2]
def flat4 (l : List Flaw) : List Nat := l.flatMap fun f => [f.rod, f.face, f.row, f.value]
abbrev isAt (rod face k : Nat) (f : Flaw) : Bool := f.rod == rod && (f.face == face && f.row == k)
def cutFlaws (s : State) (rod face k v : Nat) : List Flaw :=
  if v = digitOf s (rod, face) * k then s.flaws.filter (fun x => !isAt rod face k x) else s.flaws.filter (fun x => !isAt rod face k x) ++ [⟨rod, face, k, v⟩]
def offOf (s : State) (k n : Nat) : Int := (n : Int) - (k : Int) * (valueOf (s.laid.map (digitOf s)) : Int)
theorem nums_append (a b : List Nat) : nums (a ++ b) = nums a ++ nums b := List.map_append
theorem nums_counted (l : List Nat) : counted l = nums (countedN l) := rfl
theorem nums_flatMap {α : Type} (f : α → List Nat) (l : List α) : (l.flatMap fun x => nums (f x)) = nums (l.flatMap f) := by
  induction l with
  | nil => rfl
  | cons a l ih => rw [List.flatMap_cons, List.flatMap_cons, nums_append, ih]
theorem fine_le {l : List Nat} {m : Nat} (h : fine l m = true) : l.length ≤ m ∧ (∀ d ∈ l, d ≤ 9) ∧ l ≠ [] := by
  unfold fine at h
  rw [Bool.and_eq_true, Bool.and_eq_true] at h
  refine ⟨of_decide_eq_true h.2.1, fun d hd => of_decide_eq_true (List.all_eq_true.mp h.2.2 d hd), fun e => ?_⟩
  subst e
  simp at h
/-! begin -/
theorem step_begin (s : State) {l : List Nat} {m : Nat} (h : l.length = 4 * m) : step s (.begin_ (fours l)) = if isBox l = true then (⟨fours l, [], []⟩, [0]) else (s, [-1]) := by
  obtain ⟨f1, f2, f3, _⟩ := fours_spec m l h
  have hm : l.length / 4 = m := by omega
  have key : ((fours l).isEmpty = true ∨ (12 < (fours l).length ∨ (fours l).any (fun (r : Rod) => r.length != 4 || r.any fun (d : Nat) => decide (9 < d)) = true)) ↔ ¬ isBox l = true := by
    have e1 : (fours l).isEmpty = true ↔ ¬ 1 ≤ l.length / 4 := by
      rw [List.isEmpty_iff, ← List.length_eq_zero_iff, f1, hm]; omega
    have e2 : (fours l).any (fun (r : Rod) => r.length != 4 || r.any fun (d : Nat) => decide (9 < d)) = true ↔ ¬ (l.all fun d => decide (d ≤ 9)) = true := by
      rw [List.any_eq_true]
      constructor
      · rintro ⟨r, hr, c⟩ ha
        rw [Bool.or_eq_true] at c
        rcases c with c | c
        · rw [f3 r hr] at c; simp at c
        · obtain ⟨d, hd, c⟩ := List.any_eq_true.mp c
          have : d ∈ l := by rw [← f2]; exact List.mem_flatten.mpr ⟨r, hr, hd⟩
          have z := of_decide_eq_true (List.all_eq_true.mp ha d this)
          have := of_decide_eq_true c
          omega
      · intro c
        have c : ∃ d ∈ l, ¬ d ≤ 9 := by
          simpa using c
        obtain ⟨d, hd, h9⟩ := c
        rw [← f2] at hd
        obtain ⟨r, hr, hdr⟩ := List.mem_flatten.mp hd
        exact ⟨r, hr, by rw [Bool.or_eq_true]; exact .inr (List.any_eq_true.mpr ⟨d, hdr, decide_eq_true (by omega)⟩)⟩
    unfold isBox
    rw [e1, e2, f1, hm]
    simp only [Bool.and_eq_true, decide_eq_true_eq]
    constructor
    · rintro (h | h | h) ⟨a, b, c⟩
      · exact h a
      · omega
      · exact h c
    · intro h
      by_cases a : 1 ≤ m
      · by_cases b : m ≤ 12
        · exact .inr (.inr fun c => h ⟨a, b, c⟩)
        · exact .inr (.inl (by omega))
      · exact .inl a
  show (if _ then _ else _) = _
  by_cases c : isBox l = true
  · rw [if_pos c, if_neg (fun z => key.mp z c)]
  · rw [if_neg c, if_pos (key.mpr c)]
theorem good_begin {l : List Nat} {m : Nat} (h : l.length = 4 * m) (hb : isBox l = true) : Good ⟨fours l, [], []⟩ := by
  obtain ⟨f1, f2, f3, _⟩ := fours_spec m l h
  unfold isBox at hb
  rw [Bool.and_eq_true, Bool.and_eq_true] at hb
  have b2 := of_decide_eq_true hb.2.1
  refine ⟨by show (fours l).length ≤ 12; rw [f1]; omega, fun r hr => ⟨f3 r hr, fun d hd => ?_⟩, fun f hf => by simp at hf, List.Pairwise.nil, fun p hp => by simp at hp, Nat.zero_le _⟩
  have : d ∈ l := by rw [← f2]; exact List.mem_flatten.mpr ⟨r, hr, hd⟩
  exact of_decide_eq_true (List.all_eq_true.mp hb.2.2 d this)
/-! lay -/
theorem step_lay_bad (s : State) {l : List Nat} (h : fine l 8 = false) : step s (.lay l) = (s, [-1]) := if_pos h
theorem step_lay_no {s : State} (G : Good s) {l : List Nat} (h : fine l 8 = true) (c : canLaid s.rods (List.range s.rods.length) l = false) : step s (.lay l) = (s, [-3]) := by
  show (if fine l 8 = false then _ else _) = _
  rw [if_neg (by rw [h]; decide), laidSo_eq s G.rods, if_neg (by rw [c]; decide)]
theorem nums_flat2 (x : List (Nat × Nat)) : (x.flatMap fun (p : Nat × Nat) => [(p.1 : Int), (p.2 : Int)]) = nums (flat2 x) := nums_flatMap (fun p : Nat × Nat => [p.1, p.2]) x
theorem nums_flat3 (x : List (Nat × Nat × Nat)) : (x.flatMap fun (y : Nat × Nat × Nat) => [(y.1 : Int), (y.2.1 : Int), (y.2.2 : Int)]) = nums (flat3 x) := nums_flatMap (fun y : Nat × Nat × Nat => [y.1, y.2.1, y.2.2]) x
theorem step_lay_yes {s : State} (G : Good s) {l : List Nat} (h : fine l 8 = true) (c : canLaid s.rods (List.range s.rods.length) l = true) :
    step s (.lay l) = ({ s with laid := laidGo s.rods (List.range s.rods.length) l }, nums (0 :: flat2 (laidGo s.rods (List.range s.rods.length) l))) := by
  show (if fine l 8 = false then _ else _) = _
  rw [if_neg (by rw [h]; decide), laidSo_eq s G.rods, if_pos c]
  show (_, 0 :: List.flatMap _ _) = _
  rw [nums_flat2]; rfl
theorem good_lay {s : State} (G : Good s) {l : List Nat} (h : fine l 8 = true) (c : canLaid s.rods (List.range s.rods.length) l = true) : Good { s with laid := laidGo s.rods (List.range s.rods.length) l } := by
  obtain ⟨h1, h2, h3, _⟩ := laidGo_spec (faces := s.rods) l (List.range s.rods.length) List.nodup_range (by simpa using G.rods) c
  refine ⟨G.rods, G.four, G.flaw, h2, fun p hp => ?_, by show (laidGo _ _ _).length ≤ 8; rw [h1]; exact (fine_le h).1⟩
  obtain ⟨a, b⟩ := h3 p hp
  have hr := List.mem_range.mp a
  obtain ⟨rod, _, e, h4, _⟩ := rod_at G hr
  rw [e, h4] at b
  exact ⟨hr, b⟩
/-! cut -/
def hasCell (s : State) (r f k : Nat) : Bool := decide (r < s.rods.length) && (decide (f < 4) && (decide (1 ≤ k) && decide (k ≤ 9)))
theorem hasCell_iff (s : State) (r f k v : Nat) : (s.rods.length ≤ r ∨ (3 < f ∨ (k = 0 ∨ (9 < k ∨ 99 < v)))) ↔ ¬ (hasCell s r f k = true ∧ v ≤ 99) := by
  unfold hasCell
  simp only [Bool.and_eq_true, decide_eq_true_eq]
  omega
theorem step_cut_bad {s : State} {r f k v : Nat} (h : ¬ (hasCell s r f k = true ∧ v ≤ 99)) : step s (.cut r f k v) = (s, [-1]) := if_pos ((hasCell_iff s r f k v).mpr h)
theorem step_cut {s : State} {r f k v : Nat} (h : hasCell s r f k = true ∧ v ≤ 99) : step s (.cut r f k v) = ({ s with flaws := cutFlaws s r f k v }, nums [(cutFlaws s r f k v).length]) := by
  have hn : ¬ (s.rods.length ≤ r ∨ (3 < f ∨ (k = 0 ∨ (9 < k ∨ 99 < v)))) := fun z => (hasCell_iff s r f k v).mp z h
  show (if _ then _ else _) = _
  rw [if_neg hn]
  unfold cutFlaws
  by_cases c : v = digitOf s (r, f) * k
  · simp only [c, if_true]; rfl
  · simp only [c, if_false]; rfl
theorem good_cut {s : State} (G : Good s) {r f k v : Nat} (hv : v ≤ 99) : Good { s with flaws := cutFlaws s r f k v } := by
  refine ⟨G.rods, G.four, fun x hx => ?_, G.laidNd, G.laidIn, G.laidLen⟩
  have hx : x ∈ cutFlaws s r f k v := hx
  unfold cutFlaws at hx
  split at hx
  · exact G.flaw x (List.mem_filter.mp hx).1
  · rcases List.mem_append.mp hx with hx | hx
    · exact G.flaw x (List.mem_filter.mp hx).1
    · rw [List.mem_singleton.mp hx]; exact hv
theorem cutFlaws_len (s : State) (r f k v : Nat) : (cutFlaws s r f k v).length ≤ s.flaws.length + 1 := by
  unfold cutFlaws
  have := List.length_filter_le (fun x => !isAt r f k x) s.flaws
  split
  · omega
  · rw [List.length_append]; show _ + 1 ≤ _; omega
/-! the calls about what is laid -/
theorem step_row_bad (s : State) {k : Nat} (h : 9 < k) : step s (.row k) = (s, [-1]) := if_pos h
theorem step_row_none (s : State) {k : Nat} (h : k ≤ 9) (c : s.laid = []) : step s (.row k) = (s, [-6]) := by
  show (if 9 < k then _ else _) = _
  rw [if_neg (by omega), if_pos (by rw [c]; rfl)]
theorem ne_empty {s : State} (c : s.laid ≠ []) : ¬ s.laid.isEmpty = true := fun z => c (List.isEmpty_iff.mp z)
theorem step_row {s : State} (G : Good s) {k : Nat} (h : k ≤ 9) (c : s.laid ≠ []) : step s (.row k) = (s, nums (countedN (rowCells s k) ++ countedN (digits (rowRead s k)))) := by
  show (if 9 < k then _ else _) = _
  rw [if_neg (by omega), if_neg (ne_empty c), readRow_eq G h, nums_append]
  rfl
theorem step_by_bad (s : State) {l : List Nat} (h : fine l 8 = false) : step s (.by_ l) = (s, [-1]) := if_pos h
theorem step_by_none (s : State) {l : List Nat} (h : fine l 8 = true) (c : s.laid = []) : step s (.by_ l) = (s, [-6]) := by
  show (if fine l 8 = false then _ else _) = _
  rw [if_neg (by rw [h]; decide), if_pos (by rw [c]; rfl)]
theorem flatMap_congr {α : Type} {f g : α → List Int} : ∀ {l : List α}, (∀ x ∈ l, f x = g x) → l.flatMap f = l.flatMap g
  | [], _ => rfl
  | a :: l, h => by rw [List.flatMap_cons, List.flatMap_cons, h a (by simp), flatMap_congr fun x hx => h x (by simp [hx])]
theorem step_by {s : State} (G : Good s) {l : List Nat} (h : fine l 8 = true) (c : s.laid ≠ []) : step s (.by_ l) = (s, nums (countedN (digits (productOf s l)) ++ l.flatMap fun d => countedN (digits (rowRead s d)))) := by
  obtain ⟨h1, h2, _⟩ := fine_le h
  show (if fine l 8 = false then _ else _) = _
  rw [if_neg (by rw [h]; decide), if_neg (ne_empty c), product_eq G h2, nums_append, ← nums_flatMap]
  have e : (l.flatMap fun (d : Nat) => counted (readRow s d)) = l.flatMap fun d => nums (countedN (digits (rowRead s d))) := flatMap_congr fun d hd => by
    rw [readRow_eq G (h2 d hd)]; rfl
  rw [e]
  rfl
theorem step_into_bad (s : State) {l : List Nat} (h : fine l 16 = false) : step s (.into l) = (s, [-1]) := if_pos h
theorem step_into_none (s : State) {l : List Nat} (h : fine l 16 = true) (c : s.laid = []) : step s (.into l) = (s, [-6]) := by
  show (if fine l 16 = false then _ else _) = _
  rw [if_neg (by rw [h]; decide), if_pos (by rw [c]; rfl)]
theorem zero_eq {s : State} (G : Good s) : (List.range 10).any (fun (k : Nat) => decide (0 < k) && rowValue s k == 0) = ((readings s).drop 1).contains 0 := by
  rw [quotient_zero]
  congr 1
  have e : (readings s).drop 1 = (List.range 9).map fun k => rowRead s (k + 1) := by
    unfold readings
    rw [show List.range 10 = 0 :: (List.range 9).map (· + 1) by decide, List.map_cons, List.drop_one, List.tail_cons, List.map_map]
    rfl
  rw [e]
  refine List.map_congr_left fun k hk => ?_
  have := List.mem_range.mp hk
  exact rowValue_eq G (by omega)
theorem step_into_zero {s : State} (G : Good s) {l : List Nat} (h : fine l 16 = true) (c : s.laid ≠ []) (z : ((readings s).drop 1).contains 0 = true) : step s (.into l) = (s, [-7]) := by
  show (if fine l 16 = false then _ else _) = _
  rw [if_neg (by rw [h]; decide), if_neg (ne_empty c), if_pos (by rw [zero_eq G]; exact z)]
theorem quot_small {s : State} {l : List Nat} (h : fine l 16 = true) : valueOf (quotient s 0 l).1 < 10 ^ 40 ∧ (quotient s 0 l).2 < 10 ^ 40 ∧ (∀ k ∈ (quotient s 0 l).1, k < 10) ∧ (quotient s 0 l).1.length ≤ 16 := by
  obtain ⟨h1, h2, _⟩ := fine_le h
  obtain ⟨q1, q2, q3⟩ := quotient_bound (s := s) l 0 0 h2 (by decide)
  have q3' : ∀ k ∈ (quotient s 0 l).1, k < 10 := fun k hk => by have := q3 k hk; omega
  refine ⟨?_, ?_, q3', by omega⟩
  · exact Nat.lt_of_lt_of_le (valueOf_lt _ q3') (Nat.pow_le_pow_right (by decide) (by omega))
  · exact Nat.lt_of_lt_of_le q1 (Nat.pow_le_pow_right (by decide) (by omega))
theorem step_into {s : State} (G : Good s) {l : List Nat} (h : fine l 16 = true) (c : s.laid ≠ []) (z : ((readings s).drop 1).contains 0 = false) :
    step s (.into l) = (s, nums (countedN (digits (valueOf (quotient s 0 l).1)) ++ countedN (digits (quotient s 0 l).2))) := by
  obtain ⟨q1, q2, q3, _⟩ := quot_small (s := s) h
  show (if fine l 16 = false then _ else _) = _
  rw [if_neg (by rw [h]; decide), if_neg (ne_empty c), if_neg (by rw [zero_eq G, z]; decide), nums_append]
  show (s, counted (trim (quotient s 0 l).1) ++ counted (digits (quotient s 0 l).2)) = _
  rw [trim_digits _ q3 q1]
  rfl
theorem step_arrows_bad (s : State) {k : Nat} (h : 9 < k) : step s (.arrows k) = (s, [-1]) := if_pos h
theorem step_arrows_none (s : State) {k : Nat} (h : k ≤ 9) (c : s.laid = []) : step s (.arrows k) = (s, [-6]) := by
  show (if 9 < k then _ else _) = _
  rw [if_neg (by omega), if_pos (by rw [c]; rfl)]
theorem step_arrows {s : State} {k : Nat} (h : k ≤ 9) (c : s.laid ≠ []) : step s (.arrows k) = (s, nums (flat2 (arrows k 0 (s.laid.map (digitOf s)).reverse))) := by
  show (if 9 < k then _ else _) = _
  rw [if_neg (by omega), if_neg (ne_empty c), nums_flat2]
theorem step_explain_bad (s : State) {k : Nat} {l : List Nat} (h : ¬ ((1 ≤ k ∧ k ≤ 9) ∧ fine l 12 = true)) : step s (.explain k l) = (s, [-1]) := by
  refine if_pos ?_
  by_cases a : k = 0
  · exact .inl a
  · by_cases b : 9 < k
    · exact .inr (.inl b)
    · refine .inr (.inr ?_)
      cases e : fine l 12 with
      | false => rfl
      | true => exact absurd ⟨⟨by omega, by omega⟩, e⟩ h
theorem explain_cond_no {k : Nat} {l : List Nat} (h : (1 ≤ k ∧ k ≤ 9) ∧ fine l 12 = true) : ¬ (k = 0 ∨ (9 < k ∨ fine l 12 = false)) := by
  rintro (a | a | a)
  · omega
  · omega
  · rw [h.2] at a; cases a
theorem step_explain_none (s : State) {k : Nat} {l : List Nat} (h : (1 ≤ k ∧ k ≤ 9) ∧ fine l 12 = true) (c : s.laid = []) : step s (.explain k l) = (s, [-6]) := by
  show (if _ then _ else _) = _
  rw [if_neg (explain_cond_no h), if_pos (by rw [c]; rfl)]
theorem step_explain {s : State} (G : Good s) {k : Nat} {l : List Nat} (h : (1 ≤ k ∧ k ≤ 9) ∧ fine l 12 = true) (c : s.laid ≠ []) :
    step s (.explain k l) = (s, nums ((expl s k (offOf s k (valueOf l)) s.laid).length :: flat3 (expl s k (offOf s k (valueOf l)) s.laid))) := by
  show (if _ then _ else _) = _
  rw [if_neg (explain_cond_no h), if_neg (ne_empty c)]
  show (s, ((explains s k (valueOf l)).length : Int) :: (explains s k (valueOf l)).flatMap fun (y : Nat × Nat × Nat) => [(y.1 : Int), (y.2.1 : Int), (y.2.2 : Int)]) = _
  rw [nums_flat3, explains_eq G h.1.1 h.1.2]
  rfl
/-! root, count, show -/
theorem value_lt16 {l : List Nat} (h : fine l 16 = true) : valueOf l < 10 ^ 16 := by
  obtain ⟨h1, h2, _⟩ := fine_le h
  exact Nat.lt_of_lt_of_le (valueOf_lt l fun d hd => by have := h2 d hd; omega) (Nat.pow_le_pow_right (by decide) h1)
theorem step_root_bad (s : State) {l : List Nat} (h : fine l 16 = false) : step s (.root l) = (s, [-1]) := if_pos h
def notLaid (s : State) (n : Nat) : Option Nat := (doublesOf n).find? fun x => !canLaid s.rods (List.range s.rods.length) (digits x)
theorem find_twice {s : State} (G : Good s) {n : Nat} (h : n < 10 ^ 16) : ((twice n).find? fun (x : Nat) => !(canLay s (digits x))) = notLaid s n := by
  rw [twice_eq h]
  unfold notLaid
  congr 1
  funext x
  rw [canLay_eq s _ G.rods]
theorem step_root_no {s : State} (G : Good s) {l : List Nat} {x : Nat} (h : fine l 16 = true) (e : notLaid s (valueOf l) = some x) : step s (.root l) = (s, -3 :: nums (countedN (digits x))) := by
  show (if fine l 16 = false then _ else _) = _
  rw [if_neg (by rw [h]; decide)]
  show (match (twice (valueOf l)).find? fun (x : Nat) => !(canLay s (digits x)) with
    | some x => (s, -3 :: counted (digits x))
    | none => _) = _
  rw [find_twice G (value_lt16 h), e]
  rfl
theorem root_tail (s : State) {a b : Nat} {p : Nat × Nat} (e : p = (a, b)) : (s, counted (digits p.1) ++ counted (digits p.2)) = (s, nums (countedN (digits a) ++ countedN (digits b))) := by
  subst e
  rw [nums_append]
  rfl
theorem step_root {s : State} (G : Good s) {l : List Nat} (h : fine l 16 = true) (e : notLaid s (valueOf l) = none) :
    step s (.root l) = (s, nums (countedN (digits (rootOf (valueOf l))) ++ countedN (digits (valueOf l - rootOf (valueOf l) * rootOf (valueOf l))))) := by
  show (if fine l 16 = false then _ else _) = _
  rw [if_neg (by rw [h]; decide)]
  show (match (twice (valueOf l)).find? fun (x : Nat) => !(canLay s (digits x)) with
    | some x => (s, -3 :: counted (digits x))
    | none => (s, counted (digits (root (valueOf l)).1) ++ counted (digits (root (valueOf l)).2))) = _
  rw [find_twice G (value_lt16 h), e]
  exact root_tail s (root_eq (value_lt16 h))
theorem notLaid_lt {s : State} {n x : Nat} (e : notLaid s n = some x) : x < 10 ^ 40 := by
  unfold notLaid at e
  exact Nat.lt_of_lt_of_le (doublesOf_lt (List.mem_of_find?_eq_some e)) (by decide)
theorem step_count_bad (s : State) {n : Nat} (h : ¬ (1 ≤ n ∧ n ≤ 3)) : step s (.count n) = (s, [-1]) := by
  show (s, if _ then _ else _) = _
  rw [if_pos (by omega)]
theorem step_count {s : State} (G : Good s) {n : Nat} (h : 1 ≤ n ∧ n ≤ 3) : step s (.count n) = (s, nums [((allRows n).filter fun row => canLaid s.rods (List.range s.rods.length) row).length]) := by
  show (s, if _ then _ else _) = _
  rw [if_neg (by omega), count_eq s G.rods h.2]
  rfl
def showN (s : State) : List Nat := countedN' s.rods.length s.rods.flatten ++ countedN' s.flaws.length (flat4 s.flaws) ++ countedN' s.laid.length (flat2 s.laid)
where countedN' (n : Nat) (l : List Nat) : List Nat := n :: l
theorem step_show (s : State) : step s .show_ = (s, nums (showN s)) := by
  show (s, (s.rods.length : Int) :: (s.rods.flatMap fun (r : Rod) => nums r) ++ ((s.flaws.length : Int) :: s.flaws.flatMap fun (f : Flaw) => nums [f.rod, f.face, f.row, f.value]) ++ ((s.laid.length : Int) :: s.laid.flatMap fun (p : Nat × Nat) => nums [p.1, p.2])) = _
  have e1 : (s.rods.flatMap fun (r : Rod) => nums r) = nums s.rods.flatten := by
    rw [nums_flatMap (fun r : Rod => r), List.flatMap_id']
  rw [e1, nums_flatMap (fun f : Flaw => [f.rod, f.face, f.row, f.value]), nums_flatMap (fun p : Nat × Nat => [p.1, p.2])]
  unfold showN
  rw [nums_append, nums_append]
  rfl
/-! what stands behind a call -/
theorem flaws_step (s : State) (c : Call) : (step s c).1.flaws.length ≤ s.flaws.length + 1 := by
  cases c with
  | begin_ l =>
    show (if _ then _ else _ : State × Ans).1.flaws.length ≤ _
    split
    · exact Nat.le_succ _
    · exact Nat.zero_le _
  | lay l =>
    show (if fine l 8 = false then _ else _ : State × Ans).1.flaws.length ≤ _
    split
    · exact Nat.le_succ _
    · cases assign s [] l with
      | none => exact Nat.le_succ _
      | some x => exact Nat.le_succ _
  | cut r f k v =>
    by_cases h : hasCell s r f k = true ∧ v ≤ 99
    · rw [step_cut h]; exact cutFlaws_len s r f k v
    · rw [step_cut_bad h]; exact Nat.le_succ _
  | row k =>
    show (if _ then _ else _ : State × Ans).1.flaws.length ≤ _
    split
    · exact Nat.le_succ _
    · split <;> exact Nat.le_succ _
  | by_ l =>
    show (if fine l 8 = false then _ else _ : State × Ans).1.flaws.length ≤ _
    split
    · exact Nat.le_succ _
    · split <;> exact Nat.le_succ _
  | into l =>
    show (if fine l 16 = false then _ else _ : State × Ans).1.flaws.length ≤ _
    split
    · exact Nat.le_succ _
    · split
      · exact Nat.le_succ _
      · split <;> exact Nat.le_succ _
  | root l =>
    show (if fine l 16 = false then _ else _ : State × Ans).1.flaws.length ≤ _
    split
    · exact Nat.le_succ _
    · show (match (twice (valueOf l)).find? fun (x : Nat) => !(canLay s (digits x)) with
        | some x => (s, -3 :: counted (digits x))
        | none => (s, counted (digits (root (valueOf l)).1) ++ counted (digits (root (valueOf l)).2)) : State × Ans).1.flaws.length ≤ _
      split <;> exact Nat.le_succ _
  | arrows k =>
    show (if _ then _ else _ : State × Ans).1.flaws.length ≤ _
    split
    · exact Nat.le_succ _
    · split <;> exact Nat.le_succ _
  | explain k l =>
    show (if _ then _ else _ : State × Ans).1.flaws.length ≤ _
    split
    · exact Nat.le_succ _
    · split <;> exact Nat.le_succ _
  | count n => exact Nat.le_succ _
  | show_ => exact Nat.le_succ _
end LR

/-! Rules that the layer lacks: extend by a tuple; loops over reversed, enumerate; comprehensions over texts, enumerate, stepped ranges. -/
namespace LR
open PySem PySem.Spec PyProof.Rows L2
section
theorem extend_tuple (l : Addr) (items : Array Value) (n : Nat) (b : Addr) (items2 : Array Value) (n2 : Nat) (dd : Option Addr) (sl : Array (Option Value)) (hs0 : ¬(!items.isEmpty && Builtin.List.listTooLong (items.size + items2.size)) = true) (hs1 : items.size ≤ sizeLine) (hs2 : items.size + items2.size ≤ sizeLine + 1) :
    Meets (Builtin.«list.extend» ⟨[.ref l, .ref b], []⟩) (fun _ R s => s.heap.get? l = some { cls := .type "list", dict := none, data := .seq items n, slots := #[] } ∧ s.heap.get? b = some { cls := .type "tuple", dict := dd, data := .seq items2 n2, slots := sl } ∧ R (.ok (.ret Value.none)) { s with heap := s.heap.update l (Obj.mapSeq fun x => x ++ items2), toks := s.toks }) :=
  .of_wp fun prog w A R s h => by
    obtain ⟨hp, g, d, tk, os⟩ := s; obtain ⟨hl, hb, h⟩ := h; have f1 := AutoSeq1.idx_int; have f2 := AutoSeq1.sub_tuple_tuple; have f3 := AutoSeq1.sub_list_list; have f4 := AutoSeq1.sub_tuple_list; have f5 := AutoSeq1.sub_list_tuple;
    have hz' : (items ++ items2).size ≤ sizeLine + 1 := by rw [Array.size_append]; exact hs2
    wp_walk using (wpAny_updateSeq hl rfl (hz := hs1) (_hz' := hz')), AutoSeq1.wpAny_loadPart' hl, AutoSeq1.wpAny_loadPart' hb; exact ⟨_, rfl, h⟩
variable {X : Cx}
/-- xs.extend(t), t a tuple -/
def rExtendT (K : PySem.W.Frag) : V → List V → Hp → VK → Prop := fun x vs H Q => ∃ l b xs zs, x = .ref l ∧ vs = [.ref b] ∧ H l = some (.lst xs) ∧ SqT K H b zs ∧ xs.length + zs.length ≤ sizeLine ∧ Q .non (upd H l (.lst (xs ++ zs)))
theorem mt_extendT : MtM X "list.extend" (rExtendT X.K) := by
  intro pins s σ H x vs v us Q I rx rv h
  obtain ⟨l, b, xs, zs, rfl, rfl, hH, hB, hz, q⟩ := h
  cases rx
  obtain ⟨u, rfl, ru⟩ := rv.one
  cases ru
  obtain ⟨z, its, n, r, hl, e⟩ := I.lstM hH
  obtain ⟨its2, r2, ⟨o2, e2, c2, n2, d2⟩, hz2⟩ := I.tuple hB
  have hl2 := r2.length
  have hl1 := r.length
  have e2' : s.heap.get? b = some { cls := .type "tuple", dict := o2.dict, data := .seq its2.toArray n2, slots := o2.slots } := by
    rw [e2, ← c2, ← d2]
  have hsz : its.toArray.size + its2.toArray.size ≤ sizeLine := by rw [List.size_toArray, List.size_toArray]; omega
  have hlong : ¬ (!its.toArray.isEmpty && Builtin.List.listTooLong (its.toArray.size + its2.toArray.size)) = true := by
    rw [notLongL hsz, Bool.and_false]
    exact Bool.false_ne_true
  refine call_meets F.slot_list_extend ⟨_, e, rfl⟩ F.entry_list_extend (F.args_list_extend_2 _ _)
    (extend_tuple l its.toArray n b its2.toArray n2 o2.dict o2.slots hlong (by rw [List.size_toArray]; omega) (by omega)) ⟨e, e2', ?_⟩
  refine ⟨.non, _, I.lset (its' := its ++ its2) hH e (by simp) (r.append r2) ?_, rfl, q⟩
  rw [List.length_append]
  omega
/-- xs.extend(ys), ys a list or a tuple -/
theorem mt_extendLT : MtM X "list.extend" (fun x vs H Q => rExtend x vs H Q ∨ rExtendT X.K x vs H Q) := by
  intro pins s σ H x vs v us Q I rx rv h
  rcases h with h | h
  · exact mt_extend pins s σ H x vs v us Q I rx rv h
  · exact mt_extendT pins s σ H x vs v us Q I rx rv h
end
/-! ### loops -/
/-- for x in reversed(xs) -/
theorem for_rev {K : PySem.W.Frag} {a : Addr} {xs : List V} {g : TG} {tb : TS} {D : Ends} {σ : L2.St} {H : Hp} (Pv : Nat → L2.St → Hp → Prop) (h0 : Pv 0 σ H) (hl : ∀ i σ H, i ≤ xs.length → Pv i σ H → SqL K H a xs)
    (hs : ∀ i x σ H, i < xs.length → xs[xs.length - 1 - i]? = some x → Pv i σ H → g x σ H fun σ2 H2 => tb { D with nx := Pv (i + 1), ct := Pv (i + 1), bk := D.nx } σ2 H2) (hd : ∀ σ H, Pv xs.length σ H → D.nx σ H) :
    ∃ W : Nat → Nat → L2.St → Hp → Prop, (∃ m, W 0 m σ H) ∧ ∀ i m σ H, W i m σ H →
      ((Itv K a xs.length).stop i H ∧ D.nx σ H) ∨ ((Itv K a xs.length).go i H ∧ ∃ N : L2.St → Hp → Prop, (∀ σ' H', N σ' H' → ∃ m', m' < m ∧ W (i + 1) m' σ' H') ∧ ∀ x H', (Itv K a xs.length).yld i H x H' → g x σ H' fun σ2 H2 => tb { D with nx := N, ct := N, bk := D.nx } σ2 H2) := by
  refine ⟨fun i m σ H => m = xs.length - i ∧ i ≤ xs.length ∧ Pv i σ H, ⟨xs.length, by simp, Nat.zero_le _, h0⟩, ?_⟩
  rintro i m σ H ⟨rfl, hi, p⟩
  have q := hl i σ H hi p
  by_cases hlt : i < xs.length
  · have hx : xs.length - 1 - i < xs.length := by omega
    refine .inr ⟨⟨hlt, xs, xs[xs.length - 1 - i], q, List.getElem?_eq_getElem hx⟩, Pv (i + 1), fun σ' H' p' => ⟨xs.length - (i + 1), by omega, rfl, hlt, p'⟩, fun x H' y => ?_⟩
    obtain ⟨e, y⟩ := y
    subst e
    exact hs i x σ _ hlt (y xs q) p
  · have e : i = xs.length := by omega
    subst e
    exact .inl ⟨Nat.le_refl _, hd σ H p⟩
/-- for i, x in enumerate(xs): the pair is a new tuple at T -/
theorem for_enum {K : PySem.W.Frag} {a : Addr} {xs : List V} {g : TG} {tb : TS} {D : Ends} {σ : L2.St} {H : Hp} (Pv : Nat → L2.St → Hp → Prop) (h0 : Pv 0 σ H) (hl : ∀ i σ H, i ≤ xs.length → Pv i σ H → SqL K H a xs)
    (hs : ∀ i x σ H T, xs[i]? = some x → Pv i σ H → H T = none → g (.ref T) σ (upd H T (.tup [.int (i : Nat), x])) fun σ2 H2 => tb { D with nx := Pv (i + 1), ct := Pv (i + 1), bk := D.nx } σ2 H2) (hd : ∀ σ H, Pv xs.length σ H → D.nx σ H) :
    ∃ W : Nat → Nat → L2.St → Hp → Prop, (∃ m, W 0 m σ H) ∧ ∀ i m σ H, W i m σ H →
      ((Ite K a).stop i H ∧ D.nx σ H) ∨ ((Ite K a).go i H ∧ ∃ N : L2.St → Hp → Prop, (∀ σ' H', N σ' H' → ∃ m', m' < m ∧ W (i + 1) m' σ' H') ∧ ∀ x H', (Ite K a).yld i H x H' → g x σ H' fun σ2 H2 => tb { D with nx := N, ct := N, bk := D.nx } σ2 H2) := by
  refine ⟨fun i m σ H => m = xs.length - i ∧ i ≤ xs.length ∧ Pv i σ H, ⟨xs.length, by simp, Nat.zero_le _, h0⟩, ?_⟩
  rintro i m σ H ⟨rfl, hi, p⟩
  have q := hl i σ H hi p
  by_cases hlt : i < xs.length
  · refine .inr ⟨⟨xs, xs[i], q, by simp [hlt]⟩, Pv (i + 1), fun σ' H' p' => ⟨xs.length - (i + 1), by omega, rfl, hlt, p'⟩, fun x H' y => ?_⟩
    obtain ⟨T, v, rfl, hT, rfl, y⟩ := y
    exact hs i v σ H T (y xs q) p hT
  · have e : i = xs.length := by omega
    subst e
    exact .inl ⟨⟨xs, q, Nat.le_refl _⟩, hd σ H p⟩
/-- a comprehension over a text -/
theorem lc_str {z : Str} {g : TG} {tt : TT} {te : TE} {vs : List Nat} {σ : L2.St} {H1 : Hp} {D : Addr} {Qd : Hp → Prop} (Pv : Nat → Hp → Prop) (h0 : Pv 0 (upd H1 D (.lst [])))
    (hs : ∀ i c H, z.cps[i]? = some c → Pv i H → g (.str ⟨#[c]⟩) (wipe σ vs) H fun σ2 H2 => wipe σ2 vs = wipe σ vs ∧ tt σ2 H2 fun b H3 =>
      if b = true then te σ2 H3 fun y H4 => ∃ acc, H4 D = some (.lst acc) ∧ acc.length < sizeLine ∧ Pv (i + 1) (upd H4 D (.lst (acc ++ [y]))) else Pv (i + 1) H3) (hd : ∀ H, Pv z.cps.size H → Qd H) :
    ∃ W : Nat → Nat → Hp → Prop, (∃ m, W 0 m (upd H1 D (.lst []))) ∧ ∀ i m H, W i m H →
      ((Its z).stop i H ∧ Qd H) ∨ ((Its z).go i H ∧ ∃ Nx : Hp → Prop, (∀ H', Nx H' → ∃ m', m' < m ∧ W (i + 1) m' H') ∧ ∀ x H', (Its z).yld i H x H' → g x (wipe σ vs) H' fun σ2 H2 => wipe σ2 vs = wipe σ vs ∧ tt σ2 H2 fun b H3 =>
        if b = true then te σ2 H3 fun y H4 => ∃ acc, H4 D = some (.lst acc) ∧ acc.length < sizeLine ∧ Nx (upd H4 D (.lst (acc ++ [y]))) else Nx H3) := by
  refine ⟨fun i m H => m = z.cps.size - i ∧ i ≤ z.cps.size ∧ Pv i H, ⟨z.cps.size, by simp, Nat.zero_le _, h0⟩, ?_⟩
  rintro i m H ⟨rfl, hi, p⟩
  by_cases hlt : i < z.cps.size
  · refine .inr ⟨hlt, Pv (i + 1), fun H' p' => ⟨z.cps.size - (i + 1), by omega, rfl, hlt, p'⟩, fun x H' y => ?_⟩
    obtain ⟨e, c, hc, rfl⟩ := y
    subst e
    exact hs i c _ hc p
  · have e : i = z.cps.size := by omega
    subst e
    exact .inl ⟨Nat.le_refl _, hd H p⟩
/-- a comprehension over enumerate(xs) -/
theorem lc_enum {K : PySem.W.Frag} {a : Addr} {xs : List V} {g : TG} {tt : TT} {te : TE} {vs : List Nat} {σ : L2.St} {H1 : Hp} {D : Addr} {Qd : Hp → Prop} (Pv : Nat → Hp → Prop) (h0 : Pv 0 (upd H1 D (.lst []))) (hl : ∀ i H, i ≤ xs.length → Pv i H → SqL K H a xs)
    (hs : ∀ i x H T, xs[i]? = some x → Pv i H → H T = none → g (.ref T) (wipe σ vs) (upd H T (.tup [.int (i : Nat), x])) fun σ2 H2 => wipe σ2 vs = wipe σ vs ∧ tt σ2 H2 fun b H3 =>
      if b = true then te σ2 H3 fun y H4 => ∃ acc, H4 D = some (.lst acc) ∧ acc.length < sizeLine ∧ Pv (i + 1) (upd H4 D (.lst (acc ++ [y]))) else Pv (i + 1) H3) (hd : ∀ H, Pv xs.length H → Qd H) :
    ∃ W : Nat → Nat → Hp → Prop, (∃ m, W 0 m (upd H1 D (.lst []))) ∧ ∀ i m H, W i m H →
      ((Ite K a).stop i H ∧ Qd H) ∨ ((Ite K a).go i H ∧ ∃ Nx : Hp → Prop, (∀ H', Nx H' → ∃ m', m' < m ∧ W (i + 1) m' H') ∧ ∀ x H', (Ite K a).yld i H x H' → g x (wipe σ vs) H' fun σ2 H2 => wipe σ2 vs = wipe σ vs ∧ tt σ2 H2 fun b H3 =>
        if b = true then te σ2 H3 fun y H4 => ∃ acc, H4 D = some (.lst acc) ∧ acc.length < sizeLine ∧ Nx (upd H4 D (.lst (acc ++ [y]))) else Nx H3) := by
  refine ⟨fun i m H => m = xs.length - i ∧ i ≤ xs.length ∧ Pv i H, ⟨xs.length, by simp, Nat.zero_le _, h0⟩, ?_⟩
  rintro i m H ⟨rfl, hi, p⟩
  have q := hl i H hi p
  by_cases hlt : i < xs.length
  · refine .inr ⟨⟨xs, xs[i], q, by simp [hlt]⟩, Pv (i + 1), fun H' p' => ⟨xs.length - (i + 1), by omega, rfl, hlt, p'⟩, fun x H' y => ?_⟩
    obtain ⟨T, v, rfl, hT, rfl, y⟩ := y
    exact hs i v H T (y xs q) p hT
  · have e : i = xs.length := by omega
    subst e
    exact .inl ⟨⟨xs, q, Nat.le_refl _⟩, hd H p⟩
/-- a comprehension over range(a, b, c) -/
theorem lc_rangeC {lo c : Int} {n : Nat} {g : TG} {tt : TT} {te : TE} {vs : List Nat} {σ : L2.St} {H1 : Hp} {D : Addr} {Qd : Hp → Prop} (Pv : Nat → Hp → Prop) (h0 : Pv 0 (upd H1 D (.lst [])))
    (hs : ∀ i H, i < n → Pv i H → g (.int (lo + (i : Nat) * c)) (wipe σ vs) H fun σ2 H2 => wipe σ2 vs = wipe σ vs ∧ tt σ2 H2 fun b H3 =>
      if b = true then te σ2 H3 fun y H4 => ∃ acc, H4 D = some (.lst acc) ∧ acc.length < sizeLine ∧ Pv (i + 1) (upd H4 D (.lst (acc ++ [y]))) else Pv (i + 1) H3) (hd : ∀ H, Pv n H → Qd H) :
    ∃ W : Nat → Nat → Hp → Prop, (∃ m, W 0 m (upd H1 D (.lst []))) ∧ ∀ i m H, W i m H →
      ((Itc lo c n).stop i H ∧ Qd H) ∨ ((Itc lo c n).go i H ∧ ∃ Nx : Hp → Prop, (∀ H', Nx H' → ∃ m', m' < m ∧ W (i + 1) m' H') ∧ ∀ x H', (Itc lo c n).yld i H x H' → g x (wipe σ vs) H' fun σ2 H2 => wipe σ2 vs = wipe σ vs ∧ tt σ2 H2 fun b H3 =>
        if b = true then te σ2 H3 fun y H4 => ∃ acc, H4 D = some (.lst acc) ∧ acc.length < sizeLine ∧ Nx (upd H4 D (.lst (acc ++ [y]))) else Nx H3) := by
  refine ⟨fun i m H => m = n - i ∧ i ≤ n ∧ Pv i H, ⟨n, by simp, Nat.zero_le _, h0⟩, ?_⟩
  rintro i m H ⟨rfl, hi, p⟩
  by_cases hlt : i < n
  · refine .inr ⟨hlt, Pv (i + 1), fun H' p' => ⟨n - (i + 1), by omega, rfl, hlt, p'⟩, fun x H' y => ?_⟩
    obtain ⟨e, y⟩ := y
    subst e y
    exact hs i _ hlt p
  · have e : i = n := by omega
    subst e
    exact .inl ⟨Nat.le_refl _, hd H p⟩
end LR

/-! The program's text by places; how a state lies in the heap. -/
namespace LR
open PySem PySem.Spec PyProof.Rows L2

def top (i : Nat) : Stmt := PySem.Challenge.pw_lairdrods_s01_answers.main.body.getD i (.Pass ⟨0, 0, 0, 0⟩)
abbrev sFind : Stmt := top 1
abbrev sCan : Stmt := top 2
abbrev sWithout : Stmt := top 3
abbrev sFirst : Stmt := top 4
abbrev sFree : Stmt := top 5
abbrev sLaidSo : Stmt := top 6
abbrev sAllRows : Stmt := top 7
abbrev sMany : Stmt := top 8
abbrev sNumber : Stmt := top 11
abbrev sDigits : Stmt := top 12
abbrev sTold : Stmt := top 13
abbrev sAre : Stmt := top 14
abbrev sRInit : Stmt := inClass (top 20) 0
abbrev sRight : Stmt := inClass (top 20) 1
abbrev sCell : Stmt := inClass (top 20) 2
abbrev sHas : Stmt := inClass (top 20) 3
abbrev sCutCell : Stmt := inClass (top 20) 4
abbrev sLaidD : Stmt := inClass (top 20) 5
abbrev sRowCells : Stmt := inClass (top 20) 6
abbrev sRowRead : Stmt := inClass (top 20) 7
abbrev sIsBox : Stmt := top 21
abbrev sProduct : Stmt := top 24
abbrev sGreatest : Stmt := top 25
abbrev sParted : Stmt := top 26
abbrev sRootOf : Stmt := top 27
abbrev sDoubles : Stmt := top 28
abbrev sNotLaid : Stmt := top 29
abbrev sArrows : Stmt := top 30
abbrev sShown : Stmt := top 31
abbrev sExplained : Stmt := top 32
abbrev sReadings : Stmt := top 33
abbrev sBInit : Stmt := inClass (top 45) 0
abbrev sBegin : Stmt := inClass (top 45) 1
abbrev sLay : Stmt := inClass (top 45) 2
abbrev sCut : Stmt := inClass (top 45) 3
abbrev sRefusal : Stmt := inClass (top 45) 4
abbrev sRow : Stmt := inClass (top 45) 5
abbrev sBy : Stmt := inClass (top 45) 6
abbrev sInto : Stmt := inClass (top 45) 7
abbrev sExplain : Stmt := inClass (top 45) 8
abbrev sAbout : Stmt := inClass (top 45) 9
abbrev sRoot : Stmt := inClass (top 45) 10
abbrev sCount : Stmt := inClass (top 45) 11
abbrev sShow : Stmt := inClass (top 45) 12
abbrev sAnswer : Stmt := inClass (top 45) 13
abbrev sFlat : Stmt := top 46
abbrev sAnswers : Stmt := top 47

/-! ### numbers and lists of them -/
abbrev nV (n : Nat) : V := .int (n : Int)
def NL (l : List Nat) : List V := l.map nV
theorem NL_len (l : List Nat) : (NL l).length = l.length := List.length_map _
theorem NL_get {l : List Nat} {i : Nat} {d : Nat} (h : l[i]? = some d) : (NL l)[i]? = some (nV d) := by
  unfold NL; rw [List.getElem?_map, h]; rfl
theorem NL_of {l : List Nat} {i : Nat} {x : V} (h : (NL l)[i]? = some x) : ∃ d, l[i]? = some d ∧ x = nV d := by
  unfold NL at h
  rw [List.getElem?_map] at h
  cases e : l[i]? with
  | none => rw [e] at h; cases h
  | some z => rw [e] at h; exact ⟨z, rfl, (Option.some.inj h).symm⟩
theorem NL_append (a b : List Nat) : NL (a ++ b) = NL a ++ NL b := List.map_append
theorem NL_flat (l : List Nat) : (NL l).all flatV = true := by
  rw [List.all_eq_true]
  intro x hx
  obtain ⟨d, _, rfl⟩ := List.mem_map.mp hx
  rfl
theorem NL_in (l : List Nat) (d : Nat) : inV (nV d) (NL l) = l.contains d := by
  unfold inV NL
  rw [List.any_map, List.contains_eq_any_beq]
  congr 1
  funext x
  show ((x : Int) == (d : Int)) = (d == x)
  by_cases h : x = d
  · subst h; simp
  · have h1 : ((x : Int) == (d : Int)) = false := by simp; omega
    have h2 : (d == x) = false := by simp; exact fun e => h e.symm
    rw [h1, h2]
theorem NL_drop (l : List Nat) (n : Nat) : (NL l).drop n = NL (l.drop n) := (List.map_drop).symm
theorem NL_take (l : List Nat) (n : Nat) : (NL l).take n = NL (l.take n) := (List.map_take).symm
theorem take_more {α : Type} : ∀ {l : List α} {i : Nat} {x : α}, l[i]? = some x → l.take (i + 1) = l.take i ++ [x]
  | [], i, x, h => by simp at h
  | a :: l, 0, x, h => by
    have e : a = x := Option.some.inj h
    subst e
    rfl
  | a :: l, i + 1, x, h => by
    have ih := take_more (l := l) (i := i) (x := x) h
    show a :: l.take (i + 1) = a :: l.take i ++ [x]
    rw [ih]
    rfl
theorem drop_more {α : Type} {l : List α} {i : Nat} {x : α} (h : l[i]? = some x) : l.drop i = x :: l.drop (i + 1) := by
  obtain ⟨hi, e⟩ := List.getElem?_eq_some_iff.mp h
  rw [← e]
  exact List.drop_eq_getElem_cons hi
theorem lt_of_get {α : Type} {l : List α} {i : Nat} {x : α} (h : l[i]? = some x) : i < l.length := (List.getElem?_eq_some_iff.mp h).1
theorem getD_of_get {α : Type} {l : List α} {i : Nat} {x d : α} (h : l[i]? = some x) : l.getD i d = x := by
  rw [List.getD_eq_getElem?_getD, h]; rfl
theorem small {n : Nat} (h : n ≤ 1000000) : n ≤ sizeLine := Nat.le_trans h (by decide)
theorem smallLt {n : Nat} (h : n ≤ 1000000) : n < sizeLine := Nat.lt_of_le_of_lt h (by decide)
theorem if_true_of {c : Bool} {A B : Prop} (hc : c = true) (h : A) : if c = true then A else B := by
  rw [if_pos hc]
  exact h
theorem if_false_of {c : Bool} {A B : Prop} (hc : c = false) (h : B) : if c = true then A else B := by
  rw [hc, if_neg Bool.false_ne_true]
  exact h

/-! ### objects in rows -/
def encL (l : List Nat) : HO := .lst (NL l)
def encP (p : Nat × Nat) : HO := .tup [nV p.1, nV p.2]
def encF (f : Mu13.Flaw) : HO := .tup [nV f.rod, nV f.face, nV f.row, nV f.value]
def encT (t : Nat × Nat × Nat) : HO := .tup [nV t.1, nV t.2.1, nV t.2.2]
section
variable {α : Type} {enc : α → HO} {H H' : Hp} {as bs : List Addr} {xs ys : List α} {a D : Addr} {x : α} {o : HO}
def AllAt (enc : α → HO) (H : Hp) (as : List Addr) (xs : List α) : Prop := Paired (fun a x => H a = some (enc x)) as xs
theorem AllAt.nil : AllAt enc H [] [] := Paired.nil
theorem AllAt.len (h : AllAt enc H as xs) : as.length = xs.length := Paired.length h
theorem AllAt.mono (h : AllAt enc H as xs) (k : ∀ a ∈ as, ∀ o, H a = some o → H' a = some o) : AllAt enc H' as xs := by
  unfold AllAt at h ⊢
  induction h with
  | nil => exact .nil
  | cons r _ ih => exact .cons (k _ (List.mem_cons_self ..) _ r) (ih fun a ha => k a (List.mem_cons_of_mem _ ha))
theorem AllAt.same (h : AllAt enc H as xs) (s : Same H H') : AllAt enc H' as xs := h.mono fun a _ o => s a o
theorem AllAt.get (h : AllAt enc H as xs) : ∀ {i : Nat} {x : α}, xs[i]? = some x → ∃ a, as[i]? = some a ∧ H a = some (enc x) := by
  unfold AllAt at h
  induction h with
  | nil => intro i x e; simp at e
  | cons r _ ih =>
    intro i x e
    cases i with
    | zero => simp at e; subst e; exact ⟨_, rfl, r⟩
    | succ i => exact ih (by simpa using e)
theorem AllAt.of (h : AllAt enc H as xs) : ∀ {i : Nat} {a : Addr}, as[i]? = some a → ∃ x, xs[i]? = some x ∧ H a = some (enc x) := by
  unfold AllAt at h
  induction h with
  | nil => intro i x e; simp at e
  | cons r _ ih =>
    intro i x e
    cases i with
    | zero => simp at e; subst e; exact ⟨_, rfl, r⟩
    | succ i => exact ih (by simpa using e)
theorem AllAt.append (h : AllAt enc H as xs) (k : AllAt enc H bs ys) : AllAt enc H (as ++ bs) (xs ++ ys) := by
  unfold AllAt at h
  induction h with
  | nil => exact k
  | cons r _ ih => exact Paired.cons r ih
theorem AllAt.snoc (h : AllAt enc H as xs) (k : H a = some (enc x)) : AllAt enc H (as ++ [a]) (xs ++ [x]) := h.append (Paired.cons k .nil)
theorem AllAt.not (h : AllAt enc H as xs) (hD : ∀ x, H D ≠ some (enc x)) : D ∉ as := by
  unfold AllAt at h
  induction h with
  | nil => simp
  | cons r _ ih =>
    intro m
    rcases List.mem_cons.mp m with e | m
    · subst e; exact hD _ r
    · exact ih m
theorem AllAt.upd (h : AllAt enc H as xs) (hD : D ∉ as) : AllAt enc (upd H D o) as xs := h.mono fun a ha u e => by
  rw [upd_ne (fun q => hD (by rw [← q]; exact ha))]; exact e
/-- a list of such objects -/
def RowAt (enc : α → HO) (H : Hp) (a : Addr) (xs : List α) : Prop := ∃ as : List Addr, H a = some (.lst (as.map V.ref)) ∧ AllAt enc H as xs
theorem RowAt.same (h : RowAt enc H a xs) (s : Same H H') : RowAt enc H' a xs := let ⟨as, h1, h2⟩ := h; ⟨as, s _ _ h1, h2.same s⟩
end
/-- all but instances is kept -/
def Keep (H H' : Hp) : Prop := ∀ b o, H b = some o → (∀ C dx fs, o ≠ .ins C dx fs) → H' b = some o
theorem Keep.refl (H : Hp) : Keep H H := fun _ _ h _ => h
theorem Keep.trans {H H1 H2 : Hp} (a : Keep H H1) (b : Keep H1 H2) : Keep H H2 := fun c o h n => b c o (a c o h n) n
theorem Keep.of {H H' : Hp} (s : Same H H') : Keep H H' := fun b o h _ => s b o h
theorem Keep.ins {H : Hp} {a C dx : Addr} {fs : List (Str × V)} {o : HO} (h : H a = some (.ins C dx fs)) : Keep H (upd H a o) := fun b u e n => by
  have q : b ≠ a := fun q => by
    subst q
    rw [h] at e
    exact n C dx fs (Option.some.inj e).symm
  rw [upd_ne q]; exact e
section
variable {α : Type} {enc : α → HO} {H H' : Hp} {as : List Addr} {xs : List α} {a : Addr}
theorem AllAt.keep (h : AllAt enc H as xs) (k : Keep H H') (ne : ∀ x C dx fs, enc x ≠ .ins C dx fs) : AllAt enc H' as xs := by
  unfold AllAt at h ⊢
  induction h with
  | nil => exact .nil
  | cons r _ ih => exact .cons (k _ _ r (ne _)) ih
theorem RowAt.keep (h : RowAt enc H a xs) (k : Keep H H') (ne : ∀ x C dx fs, enc x ≠ .ins C dx fs) : RowAt enc H' a xs :=
  let ⟨as, h1, h2⟩ := h; ⟨as, k _ _ h1 (fun _ _ _ q => nomatch q), h2.keep k ne⟩
end
theorem same_new {H : Hp} {p : Addr} (h : H p = none) (o : HO) : Same H (upd H p o) := fun b u q => by rw [upd_ne (ne_of_none q h)]; exact q
theorem same_upd {H H' : Hp} {p : Addr} {o : HO} (s : Same H H') (h : H p = none) : Same H (upd H' p o) := fun b u q => by rw [upd_ne (ne_of_none q h)]; exact s b u q
theorem new_ne {H : Hp} {p q : Addr} {o : HO} (h : H p = none) (h' : H q = some o) : p ≠ q := fun e => by rw [e, h'] at h; cases h

/-! ### the rods, the bench -/
def rF (fa fl la : Addr) : List (Str × V) := [("faces", .ref fa), ("flaws", .ref fl), ("laid", .ref la)]
def bF (r : Addr) : List (Str × V) := [("rods", .ref r)]
theorem lk_here {k : Str} {v : V} {r : List (Str × V)} : List.lookup k ((k, v) :: r) = some v := by
  have e : (k == k) = true := beq_self_eq_true k
  simp only [List.lookup, e]
theorem lk_past {k g : Str} {v : V} {r : List (Str × V)} (h : (k == g) = false) : List.lookup k ((g, v) :: r) = List.lookup k r := by
  simp only [List.lookup, h]
theorem put_here {f : Str} {v x : V} {r : List (Str × V)} : putF f v ((f, x) :: r) = (f, v) :: r := if_pos rfl
theorem put_past {f g : Str} {v x : V} {r : List (Str × V)} (h : ¬ g = f) : putF f v ((g, x) :: r) = (g, x) :: putF f v r := if_neg h
theorem rF_faces (fa fl la : Addr) : (rF fa fl la).lookup ("faces" : Str) = some (.ref fa) := lk_here
theorem rF_flaws (fa fl la : Addr) : (rF fa fl la).lookup ("flaws" : Str) = some (.ref fl) := (lk_past (by decide +kernel)).trans lk_here
theorem rF_laid (fa fl la : Addr) : (rF fa fl la).lookup ("laid" : Str) = some (.ref la) := (lk_past (by decide +kernel)).trans ((lk_past (by decide +kernel)).trans lk_here)
theorem rF_no (fa fl la : Addr) {m : Str} (h1 : (m == ("faces" : Str)) = false) (h2 : (m == ("flaws" : Str)) = false) (h3 : (m == ("laid" : Str)) = false) : (rF fa fl la).lookup m = none :=
  (lk_past h1).trans ((lk_past h2).trans ((lk_past h3).trans rfl))
theorem rF_new (fa fl la : Addr) : putF "laid" (.ref la) (putF "flaws" (.ref fl) (putF "faces" (.ref fa) [])) = rF fa fl la := by
  have e1 : putF "flaws" (.ref fl) (putF "faces" (.ref fa) []) = ([("faces", V.ref fa), ("flaws", V.ref fl)] : List (Str × V)) := (put_past (by decide +kernel)).trans rfl
  rw [e1]
  exact (put_past (by decide +kernel)).trans (congrArg _ ((put_past (by decide +kernel)).trans rfl))
theorem rF_setFlaws (fa fl la x : Addr) : putF "flaws" (.ref x) (rF fa fl la) = rF fa x la := (put_past (by decide +kernel)).trans (congrArg _ put_here)
theorem rF_setLaid (fa fl la x : Addr) : putF "laid" (.ref x) (rF fa fl la) = rF fa fl x := (put_past (by decide +kernel)).trans (congrArg _ ((put_past (by decide +kernel)).trans (congrArg _ put_here)))
theorem bF_rods (r : Addr) : (bF r).lookup ("rods" : Str) = some (.ref r) := lk_here
theorem bF_no (r : Addr) {m : Str} (h1 : (m == ("rods" : Str)) = false) : (bF r).lookup m = none := (lk_past h1).trans rfl
theorem bF_set (r x : Addr) : putF "rods" (.ref x) (bF r) = bF x := put_here
def RodsAt (C : Addr) (H : Hp) (r : Addr) (s : Mu13.State) : Prop := ∃ dx fa fl la, H r = some (.ins C dx (rF fa fl la)) ∧ RowAt encL H fa s.rods ∧ RowAt encF H fl s.flaws ∧ RowAt encP H la s.laid
def BenchAt (CB CR : Addr) (H : Hp) (b : Addr) (s : Mu13.State) : Prop := ∃ dx r, H b = some (.ins CB dx (bF r)) ∧ b ≠ r ∧ RodsAt CR H r s
theorem RodsAt.same {C : Addr} {H H' : Hp} {r : Addr} {s : Mu13.State} (h : RodsAt C H r s) (k : Same H H') : RodsAt C H' r s :=
  let ⟨dx, fa, fl, la, h1, h2, h3, h4⟩ := h; ⟨dx, fa, fl, la, k _ _ h1, h2.same k, h3.same k, h4.same k⟩
theorem BenchAt.same {CB CR : Addr} {H H' : Hp} {b : Addr} {s : Mu13.State} (h : BenchAt CB CR H b s) (k : Same H H') : BenchAt CB CR H' b s :=
  let ⟨dx, r, h1, n, h2⟩ := h; ⟨dx, r, k _ _ h1, n, h2.same k⟩
theorem encL_ne (x : List Nat) (C dx : Addr) (fs : List (Str × V)) : encL x ≠ .ins C dx fs := fun h => nomatch h
theorem encP_ne (x : Nat × Nat) (C dx : Addr) (fs : List (Str × V)) : encP x ≠ .ins C dx fs := fun h => nomatch h
theorem encF_ne (x : Mu13.Flaw) (C dx : Addr) (fs : List (Str × V)) : encF x ≠ .ins C dx fs := fun h => nomatch h

/-! ### comprehensions: what stands between two turns -/
/-- what was tracked ahead (H1) stands; at D the list made so far; R speaks of the turn, the list, the heap -/
def LcP (H1 : Hp) (D : Addr) (R : Nat → List V → Hp → Prop) (i : Nat) (H : Hp) : Prop := Same H1 H ∧ ∃ acc, H D = some (.lst acc) ∧ acc.length ≤ i ∧ R i acc H
theorem LcP.start {H1 : Hp} {D : Addr} {R : Nat → List V → Hp → Prop} (h : H1 D = none) (r : R 0 [] (upd H1 D (.lst []))) : LcP H1 D R 0 (upd H1 D (.lst [])) := ⟨same_new h _, [], upd_same, Nat.le_refl _, r⟩
theorem LcP.push {H1 H4 : Hp} {D : Addr} {R : Nat → List V → Hp → Prop} {i : Nat} {acc : List V} {y : V} (h : H1 D = none) (s : Same H1 H4) (e : H4 D = some (.lst acc)) (l : acc.length ≤ i) (hi : i ≤ 1000000) (r : R (i + 1) (acc ++ [y]) (upd H4 D (.lst (acc ++ [y])))) :
    ∃ acc, H4 D = some (.lst acc) ∧ acc.length < sizeLine ∧ LcP H1 D R (i + 1) (upd H4 D (.lst (acc ++ [y]))) :=
  ⟨acc, e, smallLt (Nat.le_trans l hi), same_upd s h, acc ++ [y], upd_same, by rw [List.length_append]; exact Nat.succ_le_succ l, r⟩
theorem LcP.skip {H1 H4 : Hp} {D : Addr} {R : Nat → List V → Hp → Prop} {i : Nat} {acc : List V} (s : Same H1 H4) (e : H4 D = some (.lst acc)) (l : acc.length ≤ i) (r : R (i + 1) acc H4) : LcP H1 D R (i + 1) H4 :=
  ⟨s, acc, e, Nat.le_succ_of_le l, r⟩
/-! ### the text's facts -/
structure Def (K : PySem.W.Frag) (mg : Str → Option Value) (x : Str) (st : Stmt) (ps : List Str) where
  f : Addr
  fd : FuncData
  fn : Fun K x x st f fd
  b : Binds K fd ps []
  g : mg x = some (.ref f)
structure MDef (K : PySem.W.Frag) (C : Addr) (x qual : Str) (st : Stmt) (ps : List Str) where
  f : Addr
  fd : FuncData
  fn : Fun K x qual st f fd
  b : Binds K fd ps []
  m : Meth K C x f
/-- a constant number of the module -/
def Num (mg : Str → Option Value) (x : Str) (i : Int) : Prop := ∃ t, mg x = some (.int i t)
structure Txt (K : PySem.W.Frag) (mg : Str → Option Value) where
  CR : Addr
  CB : Addr
  clR : Cls K CR
  clB : Cls K CB
  mgR : mg "Rods" = some (.ref CR)
  mgB : mg "Bench" = some (.ref CB)
  nFaces : NoAttr K CR "faces"
  nFlaws : NoAttr K CR "flaws"
  nLaid : NoAttr K CR "laid"
  nRods : NoAttr K CB "rods"
  rInit : MDef K CR "__init__" "Rods.__init__" sRInit ["self", "digits"]
  bInit : MDef K CB "__init__" "Bench.__init__" sBInit ["self"]
  mkR : Mk K CR rInit.f
  mkB : Mk K CB bInit.f
  find : Def K mg "find_rod" sFind ["faces", "free", "digits", "owners", "k", "seen"]
  can : Def K mg "can_be_laid" sCan ["faces", "free", "digits"]
  wout : Def K mg "without" sWithout ["free", "rod"]
  first : Def K mg "first_rod" sFirst ["faces", "free", "digit", "rest"]
  free : Def K mg "all_free" sFree ["faces"]
  laidSo : Def K mg "laid_so" sLaidSo ["faces", "digits"]
  allRows : Def K mg "all_rows" sAllRows ["many"]
  many : Def K mg "many_laid" sMany ["faces", "many"]
  number : Def K mg "number_of" sNumber ["digits"]
  digits : Def K mg "digits_of" sDigits ["number"]
  told : Def K mg "told" sTold ["number"]
  are : Def K mg "are_digits" sAre ["numbers", "most"]
  right : MDef K CR "right_cell" "Rods.right_cell" sRight ["self", "rod", "face", "k"]
  cell : MDef K CR "cell" "Rods.cell" sCell ["self", "rod", "face", "k"]
  has : MDef K CR "has_cell" "Rods.has_cell" sHas ["self", "rod", "face", "k"]
  cutCell : MDef K CR "cut_cell" "Rods.cut_cell" sCutCell ["self", "rod", "face", "k", "number"]
  laidD : MDef K CR "laid_digits" "Rods.laid_digits" sLaidD ["self"]
  rowCells : MDef K CR "row_cells" "Rods.row_cells" sRowCells ["self", "k"]
  rowRead : MDef K CR "row_read" "Rods.row_read" sRowRead ["self", "k"]
  isBox : Def K mg "is_box" sIsBox ["digits"]
  product : Def K mg "product" sProduct ["rods", "digits"]
  greatest : Def K mg "greatest_row" sGreatest ["readings", "left"]
  parted : Def K mg "parted" sParted ["readings", "digits"]
  rootOf : Def K mg "root_of" sRootOf ["number"]
  doubles : Def K mg "doubles" sDoubles ["number"]
  notLaid : Def K mg "first_not_laid" sNotLaid ["rods", "number"]
  arrows : Def K mg "arrows" sArrows ["digits", "k"]
  shown : Def K mg "is_shown" sShown ["right", "other", "off", "worth"]
  explained : Def K mg "explained" sExplained ["rods", "k", "number"]
  readings : Def K mg "all_readings" sReadings ["rods"]
  beginM : MDef K CB "begin" "Bench.begin" sBegin ["self", "faces"]
  layM : MDef K CB "lay" "Bench.lay" sLay ["self", "digits"]
  cutM : MDef K CB "cut" "Bench.cut" sCut ["self", "r", "f", "k", "v"]
  refusal : MDef K CB "refusal_of" "Bench.refusal_of" sRefusal ["self", "is_right"]
  rowM : MDef K CB "row" "Bench.row" sRow ["self", "k"]
  byM : MDef K CB "by" "Bench.by" sBy ["self", "digits"]
  intoM : MDef K CB "into" "Bench.into" sInto ["self", "digits"]
  explainM : MDef K CB "explain" "Bench.explain" sExplain ["self", "k", "digits"]
  about : MDef K CB "about_laid" "Bench.about_laid" sAbout ["self", "call", "n", "row"]
  rootM : MDef K CB "root" "Bench.root" sRoot ["self", "digits"]
  countM : MDef K CB "count" "Bench.count" sCount ["self", "n"]
  showM : MDef K CB "show" "Bench.show" sShow ["self"]
  answerM : MDef K CB "answer" "Bench.answer" sAnswer ["self", "call", "n", "row"]
  flat : Def K mg "flat" sFlat ["rows"]
  len : mg "len" = none
  range : mg "range" = none
  listB : mg "list" = none
  enumB : mg "enumerate" = none
  revB : mg "reversed" = none
  strB : mg "str" = none
  intB : mg "int" = none
  allB : mg "all" = none
  c_MOST_DIGIT : Num mg "MOST_DIGIT" 9
  c_FACES : Num mg "FACES" 4
  c_MOST_RODS : Num mg "MOST_RODS" 12
  c_MOST_ROW : Num mg "MOST_ROW" 9
  c_MOST_CELL : Num mg "MOST_CELL" 99
  c_BITS : Num mg "MOST_ROOT_BITS" 27
  c_BAD : Num mg "BAD" (-1)
  c_CAN_NOT : Num mg "CAN_NOT" (-3)
  c_NOT_LAID : Num mg "NOT_LAID" (-6)
  c_NOUGHT : Num mg "READS_NOUGHT" (-7)
  c_SHORT : Num mg "SHORT" 8
  c_LONG : Num mg "LONG" 16
  c_READ : Num mg "READ" 12
  c_COUNTED : Num mg "MOST_COUNTED" 3
  wholes : ∃ a, mg "WHOLES" = some (.ref a) ∧ ∀ H, SqT K H a (NL [0, 0, 4, 1, 0, 0, 0, 1, 1, 1, 0])
  withRow : ∃ a, mg "WITH_ROW" = some (.ref a) ∧ ∀ H, SqT K H a (NL [0, 1, 4, 5, 6, 8])
end LR

/-! numerals -/
namespace LR
open PySem PySem.Spec PyProof.Rows L2
section
variable {P : Program} {w : World} {K : PySem.W.Frag} {mg : Str → Option Value} {base : Heap}
/-! number_of -/
def spNumber : Sp := fun vs H Q _ => ∃ (a : Addr) (l : List Nat), vs = [.ref a] ∧ H a = some (.lst (NL l)) ∧ Q (nV (Mu13.valueOf l)) H
theorem scNumber : FnScope ["digits", "found", "digit"] ["digits"] (defScope sNumber) := ⟨rfl, rfl, rfl, by decide +kernel, rfl, by decide +kernel, by decide +kernel⟩
theorem val_more {l : List Nat} {i d : Nat} (h : l[i]? = some d) : (10 : Int) * (Mu13.valueOf (l.take i) : Int) + (d : Int) = (Mu13.valueOf (l.take (i + 1)) : Int) := by
  rw [take_more h, valueOf_snoc]; push_cast; rfl
theorem ok_number (T : Txt K mg) : FnOk P w K mg base CX0 1 T.number.f T.number.fd ["digits"] spNumber := by
  refine T.number.fn.ok scNumber (fun vs H Q E h => ?_) (fun cdv A outer s H vs Q E hr h => ?_)
  · obtain ⟨a, l, rfl, _⟩ := h
    rfl
  obtain ⟨a, l, rfl, ha, k⟩ := h
  refine ⟨_, pss_cons (ps_set (i := 1) scNumber.nd rfl (Or.inl rfl) pe_int)
    (pss_cons (ps_for PassesOwn.never rfl (pi_list (pv 0)) (pg_name (i := 2) scNumber.nd rfl (Or.inl rfl))
      (pss_one (ps_set (i := 1) scNumber.nd rfl (Or.inl rfl) (pe_op op_add (pe_op op_mul pe_int (pv 1)) (pv 2)))))
    (pss_one (ps_ret (pv 1)))), ?_⟩
  refine ⟨_, rfl, a, rfl, ⟨_, SqL.of ha⟩, for_list (K := K) (a := a) (xs := NL l) (fun i σ H' => ∃ v, σ = [some (.ref a), some (nV (Mu13.valueOf (l.take i))), v] ∧ H' = H) ⟨none, rfl, rfl⟩ (fun i σ H' _ ⟨_, _, e⟩ => by rw [e]; exact SqL.of ha) ?_ ?_⟩
  · rintro i y σ H' hi ⟨v, rfl, rfl⟩
    obtain ⟨d, hd, rfl⟩ := NL_of hi
    refine ⟨_, rfl, _, _, rfl, rfl, .inl ⟨by decide, by decide⟩, _, rfl, _, _, rfl, rfl, ?_⟩
    exact ⟨some (nV d), congrArg (fun z => [some (V.ref a), some (V.int z), some (nV d)]) (val_more hd), rfl⟩
  · rintro σ H' ⟨v, rfl, rfl⟩
    rw [NL_len, List.take_length]
    exact ⟨_, rfl, k⟩
/-! digits_of -/
def spDigits : Sp := fun vs H Q _ => ∃ (n : Nat), vs = [nV n] ∧ n < 10 ^ 40 ∧ ∀ (p : Addr) (H' : Hp), Same H H' → H p = none → H' p = some (.lst (NL (Mu13.digits n))) → Q (.ref p) H'
theorem scDigits : FnScope ["number", "sign"] ["number"] (defScope sDigits) := ⟨rfl, rfl, rfl, by decide +kernel, rfl, by decide +kernel, by decide +kernel⟩
theorem digits_numL : ∀ {n : Nat}, n < 10 ^ 40 → TL.numL n = (Mu13.digits n).map fun d => 48 + d := by
  intro n
  induction n using Nat.strongRecOn with
  | ind n ih =>
    intro h
    by_cases c : n < 10
    · rw [TL.numL_lt c, digits_small c]; rfl
    · rw [TL.numL_step (by omega), ih (n / 10) (by omega) (by omega), digits_step h, if_neg c, List.map_append]; rfl
theorem int_sign : ∀ d : Nat, d < 10 → PySem.intText? ⟨#[48 + d]⟩ = some (d : Int) := by decide +kernel
theorem log_small {n : Nat} (h : n < 10 ^ 40) : ((n : Int)).natAbs.log2 < 1920 := by
  rw [Int.natAbs_natCast]
  by_cases c : n = 0
  · subst c; decide
  · rw [Nat.log2_lt c]
    exact Nat.lt_of_lt_of_le h (by decide +kernel)
theorem ok_digits (T : Txt K mg) : FnOk P w K mg base CX0 1 T.digits.f T.digits.fd ["number"] spDigits := by
  refine T.digits.fn.ok scDigits (fun vs H Q E h => ?_) (fun cdv A outer s H vs Q E hr h => ?_)
  · obtain ⟨n, rfl, _⟩ := h
    rfl
  obtain ⟨n, rfl, hn, k⟩ := h
  refine ⟨_, pss_one (ps_ret (pe_lc (own := [("sign", 1)]) (g := gName 1) (tt := tYes) rfl scDigits.nd (pi_str (pe_callTy call_str_int (by rfl) T.strB (by decide +kernel) (pa_cons (pv 0) pa_nil)))
    (blkOk_by (own := [("sign", 1)]) (N := ["number", "sign"]) (sc := defScope sDigits) (by decide +kernel)) (fun _ _ _ _ _ => pg_name (i := 1) scDigits.nd rfl (Or.inl rfl)) (fun _ _ _ _ _ => pts_nil)
    (fun _ _ _ _ _ => pe_callTy call_int_str (by rfl) T.intB (by decide +kernel) (pa_cons (pv 1) pa_nil)))), ?_⟩
  refine ⟨_, rfl, _, rfl, log_small hn, _, rfl, fun D hD => ?_⟩
  have hs : (PySem.Str.ofString (toString (n : Int))).cps.toList = (Mu13.digits n).map fun d => 48 + d := (TL.tl_num n).trans (digits_numL hn)
  have hsz : (PySem.Str.ofString (toString (n : Int))).cps.size = (Mu13.digits n).length := by rw [← Array.length_toList, hs, List.length_map]
  have hlen : (Mu13.digits n).length ≤ 40 := digits_len_le hn (Nat.le_refl _) (by decide)
  refine lc_str (LcP H D fun i acc _ => acc = NL ((Mu13.digits n).take i)) (LcP.start hD rfl) ?_ ?_
  · rintro i c H' hc ⟨s1, acc, e, hl, rfl⟩
    have hc' : ((Mu13.digits n).map fun d => 48 + d)[i]? = some c := by rw [← hs, Array.getElem?_toList]; exact hc
    rw [List.getElem?_map] at hc'
    obtain ⟨d, hd, rfl⟩ := Option.map_eq_some_iff.mp hc'
    have d10 := digits_lt n d (List.mem_of_getElem? hd)
    refine ⟨rfl, _, rfl, _, _, rfl, int_sign d d10, (by show 1 ≤ 640; decide), ?_⟩
    refine LcP.push hD s1 e hl (by have := lt_of_get hd; omega) ?_
    rw [take_more hd, NL_append]; rfl
  · rintro H' ⟨s1, acc, e, hl, rfl⟩
    refine k D H' s1 hD ?_
    rw [hsz, List.take_length] at e
    exact e
/-! told -/
def spTold : Sp := fun vs H Q _ => ∃ (n : Nat), vs = [nV n] ∧ n < 10 ^ 40 ∧ ∀ (p : Addr) (H' : Hp), Same H H' → H p = none → H' p = some (.lst (NL (countedN (Mu13.digits n)))) → Q (.ref p) H'
theorem scTold : FnScope ["number", "digits"] ["number"] (defScope sTold) := ⟨rfl, rfl, rfl, by decide +kernel, rfl, by decide +kernel, by decide +kernel⟩
theorem ok_told (T : Txt K mg) : FnOk P w K mg base CX0 2 T.told.f T.told.fd ["number"] spTold := by
  have GD : FnOk P w K mg base CX0 1 T.digits.f T.digits.fd ["number"] spDigits := ok_digits T
  refine T.told.fn.ok scTold (fun vs H Q E h => ?_) (fun cdv A outer s H vs Q E hr h => ?_)
  · obtain ⟨n, rfl, _⟩ := h
    rfl
  obtain ⟨n, rfl, hn, k⟩ := h
  refine ⟨_, pss_cons (ps_set (i := 1) scTold.nd rfl (Or.inl rfl) (pe_call GD hr rfl T.digits.g T.digits.fn.kp T.digits.b .nil pass0 (pa_cons (pv 0) pa_nil)))
    (pss_one (ps_ret (pe_op op_cat (pe_lst (pa_cons (pe_callB call_len_seq (by rfl) T.len PySem.boot_len (pa_cons (pv 1) pa_nil)) pa_nil)) (pv 1)))), ?_⟩
  have hlen : (Mu13.digits n).length ≤ 40 := digits_len_le hn (Nat.le_refl _) (by decide)
  refine ⟨_, rfl, n, rfl, hn, fun p H1 s1 hp e1 => ?_⟩
  refine ⟨_, rfl, p, _, rfl, .inl (SqL.of e1), (by show 1 ≤ sizeLine; decide), fun q hq => ?_⟩
  have npq : p ≠ q := ne_of_none e1 hq
  refine ⟨_, rfl, q, p, _, _, rfl, rfl, upd_same, by rw [upd_ne npq]; exact e1, by rw [NL_len]; show 1 + _ ≤ _; exact small (by omega), fun r hr' => ?_⟩
  have s2 : Same H1 (upd H1 q (.lst [nV (Mu13.digits n).length])) := same_new hq _
  rw [NL_len] at hr'
  refine k r _ ?_ ?_ ?_
  · rw [NL_len]
    exact s1.trans (s2.trans (same_new hr' _))
  · exact s1.free (s2.free hr')
  · rw [upd_same, NL_len]; rfl
/-! are_digits -/
def spAre : Sp := fun vs H Q _ => ∃ (a : Addr) (l : List Nat) (m : Nat), vs = [.ref a, nV m] ∧ H a = some (.lst (NL l)) ∧ l.length ≤ 1000000 ∧ ∀ (H' : Hp), Same H H' → Q (.bl (Mu13.fine l m)) H'
theorem scAre : FnScope ["numbers", "most", "number"] ["numbers", "most"] (defScope sAre) := ⟨rfl, rfl, rfl, by decide +kernel, rfl, by decide +kernel, by decide +kernel⟩
theorem all_map_id (f : Nat → Bool) (l : List Nat) : (l.map f).all id = l.all f := by
  rw [List.all_map]; rfl
theorem fine_eq (l : List Nat) (m : Nat) : Mu13.fine l m = (decide ((1 : Int) ≤ (l.length : Int)) && (decide ((l.length : Int) ≤ (m : Int)) && l.all fun d => decide ((d : Int) ≤ 9))) := by
  unfold Mu13.fine
  have e1 : (!l.isEmpty) = decide ((1 : Int) ≤ (l.length : Int)) := by
    cases l with
    | nil => rfl
    | cons a l =>
      have : (1 : Int) ≤ ((a :: l).length : Int) := by rw [List.length_cons]; omega
      rw [decide_eq_true this]; rfl
  have e2 : decide (l.length ≤ m) = decide ((l.length : Int) ≤ (m : Int)) := by
    congr 1; exact propext ⟨fun h => by omega, fun h => by omega⟩
  have e3 : (l.all fun (d : Nat) => decide (d ≤ 9)) = l.all fun d => decide ((d : Int) ≤ 9) := by
    congr 1; funext d; congr 1; exact propext ⟨fun h => by omega, fun h => by omega⟩
  rw [e1, e2, e3]
theorem ok_are (T : Txt K mg) : FnOk P w K mg base CX0 1 T.are.f T.are.fd ["numbers", "most"] spAre := by
  obtain ⟨t9, h9⟩ := T.c_MOST_DIGIT
  refine T.are.fn.ok scAre (fun vs H Q E h => ?_) (fun cdv A outer s H vs Q E hr h => ?_)
  · obtain ⟨a, l, m, rfl, _⟩ := h
    rfl
  obtain ⟨a, l, m, rfl, ha, hsz, k⟩ := h
  refine ⟨_, pss_one (ps_ret (pe_and (pe_chain op_le op_le pe_int (pe_callB call_len_seq (by rfl) T.len PySem.boot_len (pa_cons (pv 0) pa_nil)) (pv 1))
    (pe_one (pe_callB (cr_all rfl) (by rfl) T.allB (by decide +kernel) (pa_cons (pe_lc (own := [("number", 2)]) (g := gName 2) (tt := tYes) rfl scAre.nd (pi_list (pv 0))
      (blkOk_by (own := [("number", 2)]) (N := ["numbers", "most", "number"]) (sc := defScope sAre) (by decide +kernel)) (fun _ _ _ _ _ => pg_name (i := 2) scAre.nd rfl (Or.inl rfl)) (fun _ _ _ _ _ => pts_nil)
      (fun _ _ _ _ _ => pe_cmpR op_le (pv 2) (pe_glob (v := .int 9) rfl h9 ⟨_, rfl⟩) (nomark _))) pa_nil))))), ?_⟩
  refine ⟨_, rfl, a, _, rfl, .inl (SqL.of ha), _, _, rfl, rfl, _, rfl, ?_⟩
  rw [NL_len]
  by_cases c1 : (1 : Int) ≤ (l.length : Int)
  · refine if_true_of (decide_eq_true c1) ⟨_, rfl, _, _, rfl, rfl, _, rfl, ?_⟩
    by_cases c2 : (l.length : Int) ≤ (m : Int)
    · refine if_true_of (decide_eq_true c2) ⟨_, rfl, a, rfl, ⟨_, SqL.of ha⟩, fun D hD => ?_⟩
      refine lc_list (K := K) (a := a) (xs := NL l) (LcP H D fun i acc _ => acc = ((l.take i).map fun d : Nat => decide ((d : Int) ≤ 9)).map V.bl) (LcP.start hD rfl) (fun i H' _ h => SqL.of (h.1 _ _ ha)) ?_ ?_
      · rintro i y H' hi ⟨s1, acc, e, hl, rfl⟩
        obtain ⟨d, hd, rfl⟩ := NL_of hi
        refine ⟨rfl, _, rfl, _, _, rfl, rfl, ?_⟩
        refine LcP.push hD s1 e hl (by have := lt_of_get hd; omega) ?_
        rw [take_more hd, List.map_append, List.map_append]; rfl
      · rintro H' ⟨s1, acc, e, hl, rfl⟩
        rw [NL_len, List.take_length] at e
        refine ⟨D, _, rfl, SqL.of e, ?_⟩
        rw [all_map_id]
        have q := k H' s1
        rw [fine_eq, decide_eq_true c1, decide_eq_true c2, Bool.true_and, Bool.true_and] at q
        exact q
    · refine if_false_of (decide_eq_false c2) ?_
      have q := k H (Same.refl H)
      rw [fine_eq, decide_eq_false c2, Bool.false_and, Bool.and_false] at q
      exact q
  · refine if_false_of (decide_eq_false c1) ⟨_, rfl, ?_⟩
    refine iteF ?_
    have q := k H (Same.refl H)
    rw [fine_eq, decide_eq_false c1, Bool.false_and] at q
    exact q
end
end LR

/-! find_rod, can_be_laid -/
namespace LR
open PySem PySem.Spec PyProof.Rows L2
/-! ### what the search leaves as it was -/
section
variable {ok : Nat → Nat → Bool} {free : List Nat}
theorem setF_up {sn : Sn} {r x : Nat} (h : sn x = true) : setF sn r true x = true := by
  unfold setF; split
  · rfl
  · exact h
theorem findGo_seen {rec : Ow → Nat → Sn → Bool × Ow × Sn} (hrec : ∀ ow k sn x, sn x = true → (rec ow k sn).2.2 x = true) {k : Nat} : ∀ (l : List Nat) (ow : Ow) (sn : Sn) (x : Nat), sn x = true → (findGo ok rec k l ow sn).2.2 x = true
  | [], _, _, _, h => h
  | r :: l, ow, sn, x, h => by
    unfold findGo
    split
    · cases ow r with
      | none => exact setF_up h
      | some j =>
        show (if (rec ow j (setF sn r true)).1 = true then _ else _ : Bool × Ow × Sn).2.2 x = true
        split
        · exact hrec _ _ _ _ (setF_up h)
        · exact findGo_seen hrec l _ _ _ (hrec _ _ _ _ (setF_up h))
    · exact findGo_seen hrec l _ _ _ h
theorem findRod_seen : ∀ (n : Nat) (ow : Ow) (k : Nat) (sn : Sn) (x : Nat), sn x = true → (findRod ok free n ow k sn).2.2 x = true
  | 0, _, _, _, _, h => h
  | n + 1, ow, k, sn, x, h => findGo_seen (fun ow k sn x h => findRod_seen n ow k sn x h) free ow sn x h
theorem findGo_lt {m : Nat} {rec : Ow → Nat → Sn → Bool × Ow × Sn} (hrec : ∀ ow k sn, k < m → (∀ r j, ow r = some j → j < m) → ∀ r j, (rec ow k sn).2.1 r = some j → j < m) {k : Nat} (hk : k < m) :
    ∀ (l : List Nat) (ow : Ow) (sn : Sn), (∀ r j, ow r = some j → j < m) → ∀ r j, (findGo ok rec k l ow sn).2.1 r = some j → j < m
  | [], _, _, h => h
  | r :: l, ow, sn, h => by
    unfold findGo
    split
    · cases e : ow r with
      | none =>
        intro x j hx
        have hx : setF ow r (some k) x = some j := hx
        unfold setF at hx
        split at hx
        · cases hx; exact hk
        · exact h x j hx
      | some i =>
        have hi := h r i e
        show ∀ x j, (if (rec ow i (setF sn r true)).1 = true then _ else _ : Bool × Ow × Sn).2.1 x = some j → j < m
        split
        · intro x j hx
          have hx : setF _ r (some k) x = some j := hx
          unfold setF at hx
          split at hx
          · cases hx; exact hk
          · exact hrec _ _ _ hi h x j hx
        · exact findGo_lt hrec hk l _ _ (hrec _ _ _ hi h)
    · exact findGo_lt hrec hk l _ _ h
theorem findRod_lt {m : Nat} : ∀ (n : Nat) (ow : Ow) (k : Nat) (sn : Sn), k < m → (∀ r j, ow r = some j → j < m) → ∀ r j, (findRod ok free n ow k sn).2.1 r = some j → j < m
  | 0, _, _, _, _, h => h
  | n + 1, ow, k, sn, hk, h => findGo_lt (fun ow k sn hk h => findRod_lt n ow k sn hk h) hk free ow sn h
end
/-! ### the two dicts -/
def KeyOk (kvs : List (Key × V)) : Prop := (kvs.map (·.1)).Nodup ∧ ∀ p ∈ kvs, ∃ r : Nat, r < 12 ∧ p.1 = Sum.inl (r : Int)
theorem KeyOk.len {kvs : List (Key × V)} (h : KeyOk kvs) : kvs.length ≤ 12 := by
  have sub : kvs.map (·.1) ⊆ (List.range 12).map fun (r : Nat) => (Sum.inl (r : Int) : Key) := by
    intro k hk
    obtain ⟨p, hp, rfl⟩ := List.mem_map.mp hk
    obtain ⟨r, hr, e⟩ := h.2 p hp
    exact List.mem_map.mpr ⟨r, List.mem_range.mpr hr, e.symm⟩
  have q := h.1.length_le_of_subset sub
  simpa using q
theorem KeyOk.put {kvs : List (Key × V)} {r : Nat} (h : KeyOk kvs) (hr : r < 12) (v : V) : KeyOk (putK kvs (Sum.inl (r : Int)) v) := by
  cases e : valV kvs (Sum.inl (r : Int)) with
  | none =>
    refine ⟨nd_putK v h.1 e, fun p hp => ?_⟩
    rw [putK_new v e] at hp
    rcases List.mem_append.mp hp with q | q
    · exact h.2 p q
    · have q := List.mem_singleton.mp q
      subst q
      exact ⟨r, hr, rfl⟩
  | some u =>
    have a : (kvs.any fun kv => decide (kv.1 = Sum.inl (r : Int))) = true := by rw [valV_any, e]; rfl
    have e1 : putK kvs (Sum.inl (r : Int)) v = kvs.map (fun kv => if kv.1 = Sum.inl (r : Int) then (kv.1, v) else kv) := by
      unfold putK; rw [if_pos a]
    have e2 : (putK kvs (Sum.inl (r : Int)) v).map (·.1) = kvs.map (·.1) := by
      rw [e1, List.map_map]
      refine List.map_congr_left fun p _ => ?_
      show (if p.1 = Sum.inl (r : Int) then (p.1, v) else p).1 = p.1
      split <;> rfl
    refine ⟨by rw [e2]; exact h.1, fun p hp => ?_⟩
    have : p.1 ∈ (putK kvs (Sum.inl (r : Int)) v).map (·.1) := List.mem_map.mpr ⟨p, hp, rfl⟩
    rw [e2] at this
    obtain ⟨q, hq, e3⟩ := List.mem_map.mp this
    rw [← e3]
    exact h.2 q hq
def OwnAt (H : Hp) (d : Addr) (ow : Ow) : Prop := ∃ kvs, H d = some (.dK kvs) ∧ KeyOk kvs ∧ ∀ r : Nat, valV kvs (Sum.inl (r : Int)) = (ow r).map nV
def SnAt (H : Hp) (d : Addr) (sn : Sn) : Prop := ∃ kvs, H d = some (.dK kvs) ∧ KeyOk kvs ∧ ∀ r : Nat, valV kvs (Sum.inl (r : Int)) = if sn r = true then some (.bl true) else none
theorem own0 {H : Hp} {d : Addr} (h : H d = some (.dK [])) : OwnAt H d (fun _ => none) := ⟨[], h, ⟨List.Pairwise.nil, fun p hp => by simp at hp⟩, fun _ => rfl⟩
theorem sn0 {H : Hp} {d : Addr} (h : H d = some (.dK [])) : SnAt H d (fun _ => false) := ⟨[], h, ⟨List.Pairwise.nil, fun p hp => by simp at hp⟩, fun _ => rfl⟩
theorem key_nat {a b : Nat} : (Sum.inl (a : Int) : Key) = Sum.inl (b : Int) ↔ a = b := ⟨fun h => Int.ofNat.inj (Sum.inl.inj h), fun h => by rw [h]⟩
theorem own_put {kvs : List (Key × V)} {ow : Ow} {r k : Nat} (h : ∀ r : Nat, valV kvs (Sum.inl (r : Int)) = (ow r).map nV) (x : Nat) : valV (putK kvs (Sum.inl (r : Int)) (nV k)) (Sum.inl (x : Int)) = (setF ow r (some k) x).map nV := by
  rw [valV_put]
  by_cases c : x = r
  · subst c; rw [if_pos rfl, setF_same]; rfl
  · rw [if_neg (fun q => c (key_nat.mp q)), setF_ne _ _ c]; exact h x
theorem sn_put {kvs : List (Key × V)} {sn : Sn} {r : Nat} (h : ∀ r : Nat, valV kvs (Sum.inl (r : Int)) = if sn r = true then some (.bl true) else none) (x : Nat) : valV (putK kvs (Sum.inl (r : Int)) (.bl true)) (Sum.inl (x : Int)) = if setF sn r true x = true then some (.bl true) else none := by
  rw [valV_put]
  by_cases c : x = r
  · subst c; rw [if_pos rfl, setF_same]; rfl
  · rw [if_neg (fun q => c (key_nat.mp q)), setF_ne _ _ c]; exact h x
/-- all but the two dicts is kept -/
def But (a b : Addr) (H H' : Hp) : Prop := ∀ c o, H c = some o → c ≠ a → c ≠ b → H' c = some o
theorem But.refl (a b : Addr) (H : Hp) : But a b H H := fun _ _ h _ _ => h
theorem But.trans {a b : Addr} {H H1 H2 : Hp} (x : But a b H H1) (y : But a b H1 H2) : But a b H H2 := fun c o h na nb => y c o (x c o h na nb) na nb
theorem But.left {a b : Addr} {H : Hp} (o : HO) : But a b H (upd H a o) := fun c u h na _ => by rw [upd_ne na]; exact h
theorem But.right {a b : Addr} {H : Hp} (o : HO) : But a b H (upd H b o) := fun c u h _ nb => by rw [upd_ne nb]; exact h
section
variable {H H' : Hp} {a b c : Addr} {ka kb : List (Key × V)} {xs : List V}
theorem But.lst (h : But a b H H') (ha : H a = some (.dK ka)) (hb : H b = some (.dK kb)) (hc : H c = some (.lst xs)) : H' c = some (.lst xs) :=
  h c _ hc (ne_of hc ha fun q => nomatch q) (ne_of hc hb fun q => nomatch q)
theorem But.rows (h : But a b H H') (ha : H a = some (.dK ka)) (hb : H b = some (.dK kb)) {rows : List (List Nat)} (hc : RowAt encL H c rows) : RowAt encL H' c rows := by
  obtain ⟨as, h1, h2⟩ := hc
  refine ⟨as, h.lst ha hb h1, ?_⟩
  clear h1
  unfold AllAt at h2 ⊢
  induction h2 with
  | nil => exact .nil
  | cons r _ ih => exact .cons (h.lst ha hb r) ih
end
section
variable {P : Program} {w : World} {K : PySem.W.Frag} {mg : Str → Option Value} {base : Heap}
/-- n calls are allowed -/
def spFind (n : Nat) : Sp := fun vs H Q _ => ∃ (fa fr dg od sd : Addr) (rods : List (List Nat)) (free ds : List Nat) (k : Nat) (ow : Ow) (sn : Sn), vs = [.ref fa, .ref fr, .ref dg, .ref od, nV k, .ref sd] ∧
  RowAt encL H fa rods ∧ H fr = some (.lst (NL free)) ∧ H dg = some (.lst (NL ds)) ∧ (∀ r ∈ free, r < rods.length) ∧ rods.length ≤ 12 ∧ k < ds.length ∧ od ≠ sd ∧ OwnAt H od ow ∧ SnAt H sd sn ∧ (∀ r j, ow r = some j → j < ds.length) ∧ unseen free sn < n ∧
  ∀ H' : Hp, But od sd H H' → OwnAt H' od (findRod (okOf rods ds) free n ow k sn).2.1 → SnAt H' sd (findRod (okOf rods ds) free n ow k sn).2.2 → Q (.bl (findRod (okOf rods ds) free n ow k sn).1) H'
theorem scFind : FnScope ["faces", "free", "digits", "owners", "k", "seen", "rod"] ["faces", "free", "digits", "owners", "k", "seen"] (defScope sFind) := ⟨rfl, rfl, rfl, by decide +kernel, rfl, by decide +kernel, by decide +kernel⟩
theorem findGo_hit {ok : Nat → Nat → Bool} {rec : Ow → Nat → Sn → Bool × Ow × Sn} {k r : Nat} {l : List Nat} {ow : Ow} {sn : Sn} (h1 : ok k r = true) (h2 : sn r = false) : findGo ok rec k (r :: l) ow sn =
    (match ow r with
      | none => (true, setF ow r (some k), setF sn r true)
      | some j => if (rec ow j (setF sn r true)).1 = true then (true, setF (rec ow j (setF sn r true)).2.1 r (some k), (rec ow j (setF sn r true)).2.2)
        else findGo ok rec k l (rec ow j (setF sn r true)).2.1 (rec ow j (setF sn r true)).2.2) := by
  have c : (ok k r && !sn r) = true := by rw [h1, h2]; rfl
  exact if_pos c
theorem findGo_miss {ok : Nat → Nat → Bool} {rec : Ow → Nat → Sn → Bool × Ow × Sn} {k r : Nat} {l : List Nat} {ow : Ow} {sn : Sn} (h : (ok k r && !sn r) = false) : findGo ok rec k (r :: l) ow sn = findGo ok rec k l ow sn := by
  show (if (ok k r && !sn r) = true then _ else _) = _
  rw [if_neg (by rw [h]; exact Bool.false_ne_true)]
theorem ok_find1 (T : Txt K mg) {n : Nat} (G : FnOk P w K mg base CX0 n T.find.f T.find.fd ["faces", "free", "digits", "owners", "k", "seen"] (spFind n)) :
    FnOk P w K mg base CX0 (n + 1) T.find.f T.find.fd ["faces", "free", "digits", "owners", "k", "seen"] (spFind (n + 1)) := by
  refine T.find.fn.ok scFind (fun vs H Q E h => ?_) (fun cdv A outer s H vs Q E hr h => ?_)
  · obtain ⟨fa, fr, dg, od, sd, rods, free, ds, k, ow, sn, rfl, _⟩ := h
    rfl
  obtain ⟨fa, fr, dg, od, sd, rods, free, ds, k, ow, sn, rfl, hfa, hfr, hdg, hin, h12, hk, hne, hown, hsn, hlt, hun, q⟩ := h
  have hu := hu_of hr
  refine ⟨_, pss_cons (ps_for PassesOwn.never rfl (pi_list (pv 1)) (pg_name (i := 6) scFind.nd rfl (Or.inl rfl))
      (pss_one (ps_if (PW.pt (pw_and (pt_cmpR op_in_seq (pe_ix ix_list (pv 2) (pv 4) (fun _ _ => rfl)) (pe_ix ix_list (pv 0) (pv 6) (fun _ _ => rfl)) (by rfl)) (pw_and1 (pt_cmp (pc_dnotin hu (pv 6) (pv 5))))))
        (pss_cons (ps_dput hu (pv 5) (pv 6) pe_bl rfl)
        (pss_one (ps_if (PW.pt (pw_or (pt_cmp (pc_dnotin hu (pv 6) (pv 3))) (pw_or1 (pt_val (pe_call G hr rfl T.find.g T.find.fn.kp T.find.b .nil pass0
            (pa_cons (pv 0) (pa_cons (pv 1) (pa_cons (pv 2) (pa_cons (pv 3) (pa_cons (pe_dget hu (pv 3) (pv 6) (fun _ _ => rfl)) (pa_cons (pv 5) pa_nil)))))))))))
          (pss_cons (ps_dput hu (pv 3) (pv 6) (pv 4) rfl) (pss_one (ps_ret pe_bl)))
          pss_nil)))
        pss_nil)))
    (pss_one (ps_ret pe_bl)), ?_⟩
  refine ⟨_, rfl, fr, rfl, ⟨_, SqL.of hfr⟩, for_list (K := K) (a := fr) (xs := NL free) (fun i σ H' => ∃ (v : Option V) (ow' : Ow) (sn' : Sn), σ = [some (.ref fa), some (.ref fr), some (.ref dg), some (.ref od), some (nV k), some (.ref sd), v] ∧
      But od sd H H' ∧ OwnAt H' od ow' ∧ SnAt H' sd sn' ∧ (∀ r j, ow' r = some j → j < ds.length) ∧ unseen free sn' < n + 1 ∧
      findGo (okOf rods ds) (findRod (okOf rods ds) free n) k (free.drop i) ow' sn' = findRod (okOf rods ds) free (n + 1) ow k sn)
    ⟨none, ow, sn, rfl, But.refl _ _ _, hown, hsn, hlt, hun, rfl⟩ ?_ ?_ ?_⟩
  · rintro i σ H' _ ⟨_, _, _, _, b, _⟩
    obtain ⟨k1, e1, _⟩ := hown
    obtain ⟨k2, e2, _⟩ := hsn
    exact SqL.of (b.lst e1 e2 hfr)
  · rintro i y σ H' hi ⟨v, ow', sn', rfl, b, o', s', lt', un', tot⟩
    obtain ⟨r, hr1, rfl⟩ := NL_of hi
    obtain ⟨k1, e1, _⟩ := hown
    obtain ⟨k2, e2, _⟩ := hsn
    obtain ⟨ko, eo, kko, vo⟩ := id o'
    obtain ⟨ks, es, kks, vs'⟩ := id s'
    have hrf : r ∈ free := List.mem_of_getElem? hr1
    have hrl := hin r hrf
    have hr12 : r < 12 := by omega
    obtain ⟨as, ha, hall⟩ := b.rows e1 e2 hfa
    obtain ⟨a, ha1, hrow⟩ := hall.get (List.getElem?_eq_getElem hrl)
    have hdg' := b.lst e1 e2 hdg
    have hfr' := b.lst e1 e2 hfr
    obtain ⟨d, hd⟩ : ∃ d, ds[k]? = some d := ⟨_, List.getElem?_eq_getElem hk⟩
    have hokE : okOf rods ds k r = (rods[r]).contains d := by
      unfold okOf faceHas
      rw [getD_of_get hd, getD_of_get (List.getElem?_eq_getElem hrl)]
    rw [drop_more hr1] at tot
    -- digits[k] in faces[rod]
    refine ⟨_, rfl, _, rfl, dg, _, _, _, rfl, rfl, SqL.of hdg', atI_nat (NL_get hd), ?_⟩
    refine ⟨_, rfl, _, rfl, fa, _, _, _, rfl, rfl, SqL.of ha, atI_nat (by rw [List.getElem?_map, ha1]; rfl), ?_⟩
    refine ⟨a, _, rfl, .inl (SqL.of hrow), rfl, NL_flat _, _, rfl, ?_⟩
    rw [NL_in]
    by_cases c1 : (rods[r]).contains d = true
    · refine if_true_of c1 ?_
      -- rod not in seen
      refine ⟨_, rfl, _, rfl, sd, _, rfl, DGet.k (k := Sum.inl (r : Int)) es, _, rfl, ?_⟩
      rw [vs' r]
      by_cases c2 : sn' r = true
      · rw [if_pos c2]
        refine iteF ?_
        refine ⟨some (nV r), ow', sn', rfl, b, o', s', lt', un', ?_⟩
        rw [findGo_miss (by rw [c2]; simp)] at tot
        exact tot
      · rw [if_neg c2]
        refine iteT ?_
        have c2' : sn' r = false := by simpa using c2
        rw [findGo_hit (by rw [hokE]; exact c1) c2'] at tot
        -- seen[rod] = True
        refine ⟨_, rfl, _, rfl, sd, _, rfl, DPut.k (k := Sum.inl (r : Int)) es (by have := kks.len; exact smallLt (by omega)), ?_⟩
        have nos : od ≠ sd := hne
        have b2 : But od sd H (upd H' sd (.dK (putK ks (Sum.inl (r : Int)) (.bl true)))) := b.trans (But.right _)
        have eo2 : (upd H' sd (.dK (putK ks (Sum.inl (r : Int)) (.bl true)))) od = some (.dK ko) := by rw [upd_ne nos]; exact eo
        have o2 : OwnAt (upd H' sd (.dK (putK ks (Sum.inl (r : Int)) (.bl true)))) od ow' := ⟨ko, eo2, kko, vo⟩
        have s2 : SnAt (upd H' sd (.dK (putK ks (Sum.inl (r : Int)) (.bl true)))) sd (setF sn' r true) := ⟨_, upd_same, kks.put hr12 _, fun x => sn_put vs' x⟩
        have un2 : unseen free (setF sn' r true) < n := by have := unseen_lt hrf c2'; omega
        generalize hH2 : upd H' sd (.dK (putK ks (Sum.inl (r : Int)) (.bl true))) = H2 at b2 eo2 o2 s2
        -- rod not in owners
        refine ⟨_, rfl, _, rfl, od, _, rfl, DGet.k (k := Sum.inl (r : Int)) eo2, _, rfl, ?_⟩
        have vor := vo r
        rw [vor]
        cases er : ow' r with
        | none =>
          refine iteT (iteT ?_)
          rw [er] at tot
          refine ⟨_, rfl, _, rfl, _, rfl, od, _, rfl, DPut.k (k := Sum.inl (r : Int)) eo2 (by have := kko.len; exact smallLt (by omega)), ?_⟩
          have z := q (upd H2 od (.dK (putK ko (Sum.inl (r : Int)) (nV k)))) (b2.trans (But.left _))
          rw [← tot] at z
          obtain ⟨k3, e3, z3⟩ := s2
          exact z ⟨_, upd_same, kko.put hr12 _, fun x => own_put vo x⟩ ⟨k3, by rw [upd_ne nos.symm]; exact e3, z3⟩
        | some j =>
          refine iteF ?_
          rw [er] at tot vor
          have hj := lt' r j er
          refine ⟨_, rfl, _, rfl, _, rfl, _, rfl, _, rfl, _, rfl, od, _, rfl, .inl ⟨ko, Sum.inl (r : Int), .inl eo2, rfl, vor.symm⟩, _, rfl, ?_⟩
          refine ⟨fa, fr, dg, od, sd, rods, free, ds, j, ow', setF sn' r true, rfl, b2.rows e1 e2 hfa, b2.lst e1 e2 hfr, b2.lst e1 e2 hdg, hin, h12, hj, hne, o2, s2, lt', un2, fun H3 b3 o3 s3 => ?_⟩
          have sn3 := findRod_seen (ok := okOf rods ds) (free := free) n ow' j (setF sn' r true)
          have lt3 := findRod_lt (ok := okOf rods ds) (free := free) n ow' j (setF sn' r true) hj lt'
          refine ⟨_, rfl, ?_⟩
          by_cases c3 : (findRod (okOf rods ds) free n ow' j (setF sn' r true)).1 = true
          · refine if_true_of c3 ?_
            have tot : (if (findRod (okOf rods ds) free n ow' j (setF sn' r true)).1 = true then _ else _ : Bool × Ow × Sn) = _ := tot
            rw [if_pos c3] at tot
            obtain ⟨k4, e4, kk4, v4⟩ := o3
            obtain ⟨k5, e5, z5⟩ := s3
            refine ⟨_, rfl, _, rfl, _, rfl, od, _, rfl, DPut.k (k := Sum.inl (r : Int)) e4 (by have := kk4.len; exact smallLt (by omega)), ?_⟩
            have z := q (upd H3 od (.dK (putK k4 (Sum.inl (r : Int)) (nV k)))) ((b2.trans b3).trans (But.left _))
            rw [← tot] at z
            exact z ⟨_, upd_same, kk4.put hr12 _, fun x => own_put v4 x⟩ ⟨k5, by rw [upd_ne nos.symm]; exact e5, z5⟩
          · refine if_false_of (by simpa using c3) ?_
            have tot : (if (findRod (okOf rods ds) free n ow' j (setF sn' r true)).1 = true then _ else _ : Bool × Ow × Sn) = _ := tot
            rw [if_neg c3] at tot
            exact ⟨some (nV r), _, _, rfl, b2.trans b3, o3, s3, lt3, Nat.lt_of_le_of_lt (unseen_le sn3) (by omega), tot⟩
    · refine if_false_of (by simpa using c1) ?_
      refine iteF ?_
      refine ⟨some (nV r), ow', sn', rfl, b, o', s', lt', un', ?_⟩
      have : okOf rods ds k r = false := by rw [hokE]; simpa using c1
      rw [findGo_miss (by rw [this]; rfl)] at tot
      exact tot
  · rintro σ H' ⟨v, ow', sn', rfl, b, o', s', lt', un', tot⟩
    rw [NL_len, List.drop_length] at tot
    have z := q H' b
    rw [← tot] at z
    exact z o' s'
theorem ok_find (T : Txt K mg) : ∀ n : Nat, FnOk P w K mg base CX0 n T.find.f T.find.fd ["faces", "free", "digits", "owners", "k", "seen"] (spFind n)
  | 0 => by
    have no : ∀ vs H Q E, ¬ spFind 0 vs H Q E := fun vs H Q E h => by
      obtain ⟨fa, fr, dg, od, sd, rods, free, ds, k, ow, sn, _, _, _, _, _, _, _, _, _, _, _, hun, _⟩ := h
      omega
    exact ⟨fun vs H Q E h => absurd h (no vs H Q E), fun A outer s H args us vs Q E _ _ _ _ h => absurd h (no vs H Q E)⟩
  | n + 1 => ok_find1 T (ok_find T n)
end
end LR

/-! can_be_laid, without, first_rod, all_free -/
namespace LR
open PySem PySem.Spec PyProof.Rows L2
section
variable {P : Program} {w : World} {K : PySem.W.Frag} {mg : Str → Option Value} {base : Heap}
/-! can_be_laid -/
def spCan : Sp := fun vs H Q _ => ∃ (fa fr dg : Addr) (rods : List (List Nat)) (free ds : List Nat), vs = [.ref fa, .ref fr, .ref dg] ∧
  RowAt encL H fa rods ∧ H fr = some (.lst (NL free)) ∧ H dg = some (.lst (NL ds)) ∧ (∀ r ∈ free, r < rods.length) ∧ rods.length ≤ 12 ∧ free.length ≤ 12 ∧ ds.length ≤ 1000000 ∧
  ∀ H' : Hp, Same H H' → Q (.bl (canLaid rods free ds)) H'
theorem scCan : FnScope ["faces", "free", "digits", "owners", "k"] ["faces", "free", "digits"] (defScope sCan) := ⟨rfl, rfl, rfl, by decide +kernel, rfl, by decide +kernel, by decide +kernel⟩
theorem ok_can (T : Txt K mg) : FnOk P w K mg base CX0 14 T.can.f T.can.fd ["faces", "free", "digits"] spCan := by
  have G : FnOk P w K mg base CX0 13 T.find.f T.find.fd ["faces", "free", "digits", "owners", "k", "seen"] (spFind 13) := ok_find T 13
  refine T.can.fn.ok scCan (fun vs H Q E h => ?_) (fun cdv A outer s H vs Q E hr h => ?_)
  · obtain ⟨fa, fr, dg, rods, free, ds, rfl, _⟩ := h
    rfl
  obtain ⟨fa, fr, dg, rods, free, ds, rfl, hfa, hfr, hdg, hin, h12, hf12, hsz, q⟩ := h
  refine ⟨_, pss_cons (ps_set (i := 3) scCan.nd rfl (Or.inl rfl) pe_dnewK)
    (pss_cons (ps_for PassesOwn.never rfl (pi_range1 rfl T.range (pa_cons (pe_callB call_len_seq (by rfl) T.len PySem.boot_len (pa_cons (pv 2) pa_nil)) pa_nil)) (pg_name (i := 4) scCan.nd rfl (Or.inl rfl))
      (pss_one (ps_if (pt_not (pt_val (pe_call G hr rfl T.find.g T.find.fn.kp T.find.b .nil pass0
          (pa_cons (pv 0) (pa_cons (pv 1) (pa_cons (pv 2) (pa_cons (pv 3) (pa_cons (pv 4) (pa_cons pe_dnewK pa_nil)))))))))
        (pss_one (ps_ret pe_bl)) pss_nil)))
    (pss_one (ps_ret pe_bl))), ?_⟩
  intro od hod
  have s0 : Same H (upd H od (.dK [])) := same_new hod _
  have eN : (((NL ds).length : Nat) : Int).toNat = ds.length := by rw [NL_len]; omega
  refine ⟨_, rfl, dg, _, rfl, .inl (SqL.of (s0 _ _ hdg)), (((NL ds).length : Nat) : Int), rfl, by rw [NL_len]; omega, by rw [NL_len]; omega, ?_⟩
  refine for_range (lo := 0) (n := (((NL ds).length : Nat) : Int).toNat) (fun i σ H' => ∃ (v : Option V) (ow : Ow), σ = [some (.ref fa), some (.ref fr), some (.ref dg), some (.ref od), v] ∧
    Same H H' ∧ OwnAt H' od ow ∧ (∀ r j, ow r = some j → j < ds.length) ∧ i ≤ ds.length ∧ layGo (okOf rods ds) free 13 (ds.length - i) i ow = canLaid rods free ds)
    ⟨none, fun _ => none, rfl, s0, own0 upd_same, fun r j e => (by cases e), Nat.zero_le _, rfl⟩ ?_ ?_
  · rintro i σ H' hi ⟨v, ow, rfl, s1, o1, lt1, hi', tot⟩
    rw [eN] at hi
    obtain ⟨k, hk⟩ : ∃ k, ds.length - i = k + 1 := ⟨ds.length - i - 1, by omega⟩
    have hk' : ds.length - (i + 1) = k := by omega
    rw [hk] at tot
    have tot : (if (findRod (okOf rods ds) free 13 ow i (fun _ => false)).1 = true then layGo (okOf rods ds) free 13 k (i + 1) (findRod (okOf rods ds) free 13 ow i (fun _ => false)).2.1 else false) = _ := tot
    refine ⟨_, rfl, _, rfl, _, rfl, _, rfl, _, rfl, fun sd hsd => ?_⟩
    have s2 : Same H (upd H' sd (.dK [])) := s1.trans (same_new hsd _)
    obtain ⟨ko, eo, zo⟩ := id o1
    have nos : od ≠ sd := ne_of_none eo hsd
    have ei : (0 : Int) + (i : Int) = (i : Int) := by omega
    rw [ei]
    refine ⟨fa, fr, dg, od, sd, rods, free, ds, i, ow, (fun _ => false), rfl, hfa.same s2, s2 _ _ hfr, s2 _ _ hdg, hin, h12, hi, nos, ⟨ko, by rw [upd_ne nos]; exact eo, zo⟩, sn0 upd_same, lt1,
      Nat.lt_of_le_of_lt (List.length_filter_le _ _) (by omega), fun H3 b3 o3 _ => ?_⟩
    have s3 : Same H H3 := fun c o e => b3 c o (s2 c o e) (ne_of_none e hod) (ne_of_none (s1 c o e) hsd)
    refine ⟨_, rfl, ?_⟩
    by_cases c : (findRod (okOf rods ds) free 13 ow i (fun _ => false)).1 = true
    · rw [if_pos c] at tot
      refine if_false_of (by rw [c]; rfl) ?_
      exact ⟨_, _, rfl, s3, o3, findRod_lt 13 ow i _ hi lt1, hi, by rw [hk']; exact tot⟩
    · rw [if_neg c] at tot
      refine if_true_of (by simpa using c) ?_
      have z := q H3 s3
      rw [← tot] at z
      exact z
  · rintro σ H' ⟨v, ow, rfl, s1, o1, lt1, hi', tot⟩
    rw [eN, Nat.sub_self] at tot
    have z := q H' s1
    rw [← tot] at z
    exact z
/-! without -/
def spWithout : Sp := fun vs H Q _ => ∃ (fr : Addr) (free : List Nat) (r : Nat), vs = [.ref fr, nV r] ∧ H fr = some (.lst (NL free)) ∧ free.length ≤ 1000000 ∧
  ∀ (p : Addr) (H' : Hp), Same H H' → H p = none → H' p = some (.lst (NL (without free r))) → Q (.ref p) H'
theorem scWithout : FnScope ["free", "rod", "one"] ["free", "rod"] (defScope sWithout) := ⟨rfl, rfl, rfl, by decide +kernel, rfl, by decide +kernel, by decide +kernel⟩
theorem without_more {l : List Nat} {i d r : Nat} (h : l[i]? = some d) : without (l.take (i + 1)) r = without (l.take i) r ++ (if d = r then [] else [d]) := by
  unfold without
  rw [take_more h, List.filter_append]
  congr 1
  by_cases c : d = r
  · subst c; simp
  · rw [if_neg c]; simp [c]
theorem ok_without (T : Txt K mg) : FnOk P w K mg base CX0 1 T.wout.f T.wout.fd ["free", "rod"] spWithout := by
  refine T.wout.fn.ok scWithout (fun vs H Q E h => ?_) (fun cdv A outer s H vs Q E hr h => ?_)
  · obtain ⟨fr, free, r, rfl, _⟩ := h
    rfl
  obtain ⟨fr, free, r, rfl, hfr, hsz, k⟩ := h
  refine ⟨_, pss_one (ps_ret (pe_lc (own := [("one", 2)]) (g := gName 2) rfl scWithout.nd (pi_list (pv 0))
    (blkOk_by (own := [("one", 2)]) (N := ["free", "rod", "one"]) (sc := defScope sWithout) (by decide +kernel)) (fun _ _ _ _ _ => pg_name (i := 2) scWithout.nd rfl (Or.inl rfl)) (fun _ _ _ _ _ => pts_one (pt_cmpR op_ne (pv 2) (pv 1) (nomark _)))
    (fun _ _ _ _ _ => pv 2))), ?_⟩
  refine ⟨_, rfl, fr, rfl, ⟨_, SqL.of hfr⟩, fun D hD => ?_⟩
  refine lc_list (K := K) (a := fr) (xs := NL free) (LcP H D fun i acc _ => acc = NL (without (free.take i) r)) (LcP.start hD rfl) (fun i H' _ h => SqL.of (h.1 _ _ hfr)) ?_ ?_
  · rintro i y H' hi ⟨s1, acc, e, hl, rfl⟩
    obtain ⟨d, hd, rfl⟩ := NL_of hi
    refine ⟨rfl, _, rfl, _, rfl, rfl, _, rfl, ?_⟩
    by_cases c : d = r
    · refine if_false_of (by rw [decide_eq_true (show nV d = nV r by rw [c])]; rfl) ?_
      refine LcP.skip s1 e hl ?_
      rw [without_more hd, if_pos c, List.append_nil]
    · refine if_true_of (by rw [decide_eq_false (show ¬ nV d = nV r from fun q => c (by injection q with q; omega))]; rfl) ⟨_, rfl, ?_⟩
      refine LcP.push hD s1 e hl (by have := lt_of_get hd; omega) ?_
      rw [without_more hd, if_neg c, NL_append]; rfl
  · rintro H' ⟨s1, acc, e, hl, rfl⟩
    rw [NL_len, List.take_length] at e
    exact k D H' s1 hD e
/-! all_free -/
def spFree : Sp := fun vs H Q _ => ∃ (fa : Addr) (rods : List (List Nat)), vs = [.ref fa] ∧ RowAt encL H fa rods ∧ rods.length ≤ 12 ∧
  ∀ (p : Addr) (H' : Hp), Same H H' → H p = none → H' p = some (.lst (NL (List.range rods.length))) → Q (.ref p) H'
theorem scFree : FnScope ["faces"] ["faces"] (defScope sFree) := ⟨rfl, rfl, rfl, by decide +kernel, rfl, by decide +kernel, by decide +kernel⟩
theorem rgV_range (n : Nat) : rgV 0 (n : Int) = NL (List.range n) := by
  unfold rgV NL
  rw [show ((n : Int) - 0).toNat = n by omega]
  refine List.map_congr_left fun i _ => ?_
  show V.int (0 + (i : Int)) = V.int (i : Int)
  rw [Int.zero_add]
theorem ok_free (T : Txt K mg) : FnOk P w K mg base CX0 1 T.free.f T.free.fd ["faces"] spFree := by
  refine T.free.fn.ok scFree (fun vs H Q E h => ?_) (fun cdv A outer s H vs Q E hr h => ?_)
  · obtain ⟨fa, rods, rfl, _⟩ := h
    rfl
  obtain ⟨fa, rods, rfl, ⟨as, ha, hall⟩, h12, k⟩ := h
  refine ⟨_, pss_one (ps_ret (pe_listRg rfl (by rfl) T.listB (prg_1 (by rfl) T.range (pe_callB call_len_seq (by rfl) T.len PySem.boot_len (pa_cons (pv 0) pa_nil))))), ?_⟩
  have e : (as.map V.ref).length = rods.length := by rw [List.length_map, hall.len]
  refine ⟨_, rfl, fa, _, rfl, .inl (SqL.of ha), _, rfl, ?_⟩
  rw [e]
  refine ⟨RgOk.of_le (by omega) (by omega) (by omega) (by omega), fun p hp => ?_⟩
  rw [rgV_range]
  exact k p _ (same_new hp _) hp upd_same
/-! first_rod -/
def optV : Option Nat → V
  | none => .non
  | some r => nV r
def spFirst : Sp := fun vs H Q _ => ∃ (fa fr dg : Addr) (rods : List (List Nat)) (free rest : List Nat) (d : Nat), vs = [.ref fa, .ref fr, nV d, .ref dg] ∧
  RowAt encL H fa rods ∧ H fr = some (.lst (NL free)) ∧ H dg = some (.lst (NL rest)) ∧ (∀ r ∈ free, r < rods.length) ∧ rods.length ≤ 12 ∧ free.length ≤ 12 ∧ rest.length ≤ 1000000 ∧
  ∀ H' : Hp, Same H H' → Q (optV (firstRod rods free d rest)) H'
theorem scFirst : FnScope ["faces", "free", "digit", "rest", "rod"] ["faces", "free", "digit", "rest"] (defScope sFirst) := ⟨rfl, rfl, rfl, by decide +kernel, rfl, by decide +kernel, by decide +kernel⟩
theorem ok_first (T : Txt K mg) : FnOk P w K mg base CX0 15 T.first.f T.first.fd ["faces", "free", "digit", "rest"] spFirst := by
  have GC : FnOk P w K mg base CX0 14 T.can.f T.can.fd ["faces", "free", "digits"] spCan := ok_can T
  have GW : FnOk P w K mg base CX0 1 T.wout.f T.wout.fd ["free", "rod"] spWithout := ok_without T
  refine T.first.fn.ok scFirst (fun vs H Q E h => ?_) (fun cdv A outer s H vs Q E hr h => ?_)
  · obtain ⟨fa, fr, dg, rods, free, rest, d, rfl, _⟩ := h
    rfl
  obtain ⟨fa, fr, dg, rods, free, rest, d, rfl, hfa, hfr, hdg, hin, h12, hf12, hsz, q⟩ := h
  have hr1 : Room 1 _ := hr.mono (by decide)
  refine ⟨_, pss_cons (ps_for PassesOwn.never rfl (pi_list (pv 1)) (pg_name (i := 4) scFirst.nd rfl (Or.inl rfl))
      (pss_one (ps_if (PW.pt (pw_and (pt_cmpR op_in_seq (pv 2) (pe_ix ix_list (pv 0) (pv 4) (fun _ _ => rfl)) (by rfl)) (pw_and1 (pt_val (pe_call GC hr rfl T.can.g T.can.fn.kp T.can.b .nil pass0
          (pa_cons (pv 0) (pa_cons (pe_call GW hr1 rfl T.wout.g T.wout.fn.kp T.wout.b .nil pass0 (pa_cons (pv 1) (pa_cons (pv 4) pa_nil))) (pa_cons (pv 3) pa_nil))))))))
        (pss_one (ps_ret (pv 4))) pss_nil)))
    (pss_one (ps_ret pe_non)), ?_⟩
  refine ⟨_, rfl, fr, rfl, ⟨_, SqL.of hfr⟩, for_list (K := K) (a := fr) (xs := NL free) (fun i σ H' => ∃ (v : Option V), σ = [some (.ref fa), some (.ref fr), some (nV d), some (.ref dg), v] ∧ Same H H' ∧
      (free.drop i).find? (fun r => faceHas rods r d && canLaid rods (without free r) rest) = firstRod rods free d rest)
    ⟨none, rfl, Same.refl _, rfl⟩ (fun i σ H' _ ⟨_, _, s1, _⟩ => SqL.of (s1 _ _ hfr)) ?_ ?_⟩
  · rintro i y σ H' hi ⟨v, rfl, s1, tot⟩
    obtain ⟨r, hr1', rfl⟩ := NL_of hi
    have hrf : r ∈ free := List.mem_of_getElem? hr1'
    have hrl := hin r hrf
    obtain ⟨as, ha, hall⟩ := hfa.same s1
    obtain ⟨a, ha1, hrow⟩ := hall.get (List.getElem?_eq_getElem hrl)
    have hfh : faceHas rods r d = (rods[r]).contains d := by
      unfold faceHas
      rw [getD_of_get (List.getElem?_eq_getElem hrl)]
    rw [drop_more hr1', List.find?_cons] at tot
    refine ⟨_, rfl, _, rfl, _, rfl, fa, _, _, _, rfl, rfl, SqL.of ha, atI_nat (by rw [List.getElem?_map, ha1]; rfl), ?_⟩
    refine ⟨a, _, rfl, .inl (SqL.of hrow), rfl, NL_flat _, _, rfl, ?_⟩
    rw [NL_in]
    by_cases c1 : (rods[r]).contains d = true
    · refine if_true_of c1 ?_
      rw [hfh, c1, Bool.true_and] at tot
      refine ⟨_, rfl, _, rfl, _, rfl, fr, free, r, rfl, s1 _ _ hfr, by omega, fun p H2 s2 hp e2 => ?_⟩
      have s12 := s1.trans s2
      refine ⟨_, rfl, fa, p, dg, rods, without free r, rest, rfl, hfa.same s12, e2, s12 _ _ hdg, fun x hx => hin x (List.mem_filter.mp hx).1, h12, without_len r hf12, hsz, fun H3 s3 => ?_⟩
      refine ⟨_, rfl, ?_⟩
      by_cases c2 : canLaid rods (without free r) rest = true
      · refine if_true_of c2 ?_
        rw [c2] at tot
        refine ⟨_, rfl, ?_⟩
        have z := q H3 (s12.trans s3)
        rw [← tot] at z
        exact z
      · refine if_false_of (by simpa using c2) ?_
        have c2' : canLaid rods (without free r) rest = false := by simpa using c2
        rw [c2'] at tot
        exact ⟨some (nV r), rfl, s12.trans s3, tot⟩
    · refine if_false_of (by simpa using c1) ?_
      refine iteF ?_
      have c1' : (rods[r]).contains d = false := by simpa using c1
      rw [hfh, c1', Bool.false_and] at tot
      exact ⟨some (nV r), rfl, s1, tot⟩
  · rintro σ H' ⟨v, rfl, s1, tot⟩
    rw [NL_len, List.drop_length] at tot
    have z := q H' s1
    rw [← tot] at z
    exact z
end
end LR

/-! laid_so, all_rows, many_laid -/
namespace LR
open PySem PySem.Spec PyProof.Rows L2
theorem cut_from {l : List Nat} {j : Nat} {z : Int} (e : z = (j : Int)) : cutV (NL l) (some z) none = NL (l.drop j) := by
  subst e
  unfold cutV
  rw [HT.sIx_nat, HT.sIx_none, NL_len, NL_drop, NL_take]
  congr 1
  by_cases h : j ≤ l.length
  · rw [Nat.min_eq_left h, List.take_of_length_le (by rw [List.length_drop]; omega)]
  · rw [Nat.min_eq_right (by omega), List.drop_length, List.drop_eq_nil_of_le (by omega)]; simp
theorem eqV_nat (a b : Nat) : eqV (nV a) (nV b) = (a == b) := by
  show ((a : Int) == (b : Int)) = (a == b)
  by_cases h : a = b
  · subst h; simp
  · have h1 : ((a : Int) == (b : Int)) = false := by simp; omega
    have h2 : (a == b) = false := by simp; exact h
    rw [h1, h2]
section
variable {P : Program} {w : World} {K : PySem.W.Frag} {mg : Str → Option Value} {base : Heap}
def spLaidSo : Sp := fun vs H Q _ => ∃ (fa dg : Addr) (rods : List (List Nat)) (ds : List Nat), vs = [.ref fa, .ref dg] ∧
  RowAt encL H fa rods ∧ H dg = some (.lst (NL ds)) ∧ rods.length ≤ 12 ∧ ds.length ≤ 1000 ∧
  (canLaid rods (List.range rods.length) ds = false → ∀ H' : Hp, Same H H' → Q .non H') ∧
  (canLaid rods (List.range rods.length) ds = true → ∀ (p : Addr) (H' : Hp), Same H H' → H p = none → RowAt encP H' p (laidGo rods (List.range rods.length) ds) → Q (.ref p) H')
theorem scLaidSo : FnScope ["faces", "digits", "free", "found", "k", "digit", "rod"] ["faces", "digits"] (defScope sLaidSo) := ⟨rfl, rfl, rfl, by decide +kernel, rfl, by decide +kernel, by decide +kernel⟩
theorem encP_lst {H : Hp} {D : Addr} {xs : List V} (h : H D = some (.lst xs)) (x : Nat × Nat) : H D ≠ some (encP x) := fun q => by rw [h] at q; cases q
theorem laidGo_cons {rods : List (List Nat)} {free l : List Nat} {d r : Nat} (h : firstRod rods free d l = some r) : laidGo rods free (d :: l) = (r, idx rods r d) :: laidGo rods (without free r) l := by
  show (match firstRod rods free d l with
        | none => []
        | some r => (r, idx rods r d) :: laidGo rods (without free r) l) = _
  rw [h]
theorem ok_laidSo (T : Txt K mg) : FnOk P w K mg base CX0 16 T.laidSo.f T.laidSo.fd ["faces", "digits"] spLaidSo := by
  have GC : FnOk P w K mg base CX0 14 T.can.f T.can.fd ["faces", "free", "digits"] spCan := ok_can T
  have GF : FnOk P w K mg base CX0 15 T.first.f T.first.fd ["faces", "free", "digit", "rest"] spFirst := ok_first T
  have GW : FnOk P w K mg base CX0 1 T.wout.f T.wout.fd ["free", "rod"] spWithout := ok_without T
  have GA : FnOk P w K mg base CX0 1 T.free.f T.free.fd ["faces"] spFree := ok_free T
  refine T.laidSo.fn.ok scLaidSo (fun vs H Q E h => ?_) (fun cdv A outer s H vs Q E hr h => ?_)
  · obtain ⟨fa, dg, rods, ds, rfl, _⟩ := h
    rfl
  obtain ⟨fa, dg, rods, ds, rfl, hfa, hdg, h12, hsz, qN, qS⟩ := h
  have hr1 : Room 1 _ := hr.mono (by decide)
  have hr14 : Room 14 _ := hr.mono (by decide)
  refine ⟨_, pss_cons (ps_set (i := 2) scLaidSo.nd rfl (Or.inl rfl) (pe_call GA hr1 rfl T.free.g T.free.fn.kp T.free.b .nil pass0 (pa_cons (pv 0) pa_nil)))
    (pss_cons (ps_if (pt_not (pt_val (pe_call GC hr14 rfl T.can.g T.can.fn.kp T.can.b .nil pass0 (pa_cons (pv 0) (pa_cons (pv 2) (pa_cons (pv 1) pa_nil)))))) (pss_one (ps_ret pe_non)) pss_nil)
    (pss_cons (ps_set (i := 3) scLaidSo.nd rfl (Or.inl rfl) (pe_lst pa_nil))
    (pss_cons (ps_for PassesOwn.never rfl (pi_enum (by rfl) T.enumB (pa_cons (pv 1) pa_nil)) (pg_tup rfl (pgs_cons (pg_name (i := 4) scLaidSo.nd rfl (Or.inl rfl)) (pgs_cons (pg_name (i := 5) scLaidSo.nd rfl (Or.inl rfl)) pgs_nil)))
      (pss_cons (ps_set (i := 6) scLaidSo.nd rfl (Or.inl rfl) (pe_call GF hr rfl T.first.g T.first.fn.kp T.first.b .nil pass0
          (pa_cons (pv 0) (pa_cons (pv 2) (pa_cons (pv 5) (pa_cons (pe_slice sl_list (pv 1) (po_some (pe_op op_add (pv 4) pe_int)) po_none) pa_nil))))))
      (pss_cons (ps_expr (pe_bm PySem.F.plainAttrs_list PySem.F.slot_list_append PySem.F.type_list_append mt_append (pv 3)
          (pa_cons (pe_tup (pa_cons (pv 6) (pa_cons (pe_bm PySem.F.plainAttrs_list PySem.F.slot_list_index PySem.F.type_list_index mt_index (pe_ix ix_list (pv 0) (pv 6) (fun _ _ => rfl)) (pa_cons (pv 5) pa_nil)) pa_nil))) pa_nil)))
      (pss_one (ps_set (i := 2) scLaidSo.nd rfl (Or.inl rfl) (pe_call GW hr1 rfl T.wout.g T.wout.fn.kp T.wout.b .nil pass0 (pa_cons (pv 2) (pa_cons (pv 6) pa_nil))))))))
    (pss_one (ps_ret (pv 3)))))), ?_⟩
  have hrange : ∀ r ∈ List.range rods.length, r < rods.length := fun r h => List.mem_range.mp h
  have hrl : (List.range rods.length).length ≤ 12 := by simpa using h12
  -- free = all_free(faces)
  refine ⟨_, rfl, fa, rods, rfl, hfa, h12, fun fr0 H1 s1 nfr e1 => ?_⟩
  -- if not can_be_laid
  refine ⟨_, rfl, _, rfl, _, rfl, fa, fr0, dg, rods, List.range rods.length, ds, rfl, hfa.same s1, e1, s1 _ _ hdg, hrange, h12, hrl, by omega, fun H2 s2 => ⟨_, rfl, ?_⟩⟩
  have s12 := s1.trans s2
  cases cc : canLaid rods (List.range rods.length) ds with
  | false =>
    refine iteT ?_
    exact qN cc H2 s12
  | true =>
  refine iteF ?_
  have qS := qS cc
  -- found = []
  refine ⟨Nat.zero_le _, fun fo hfo => ?_⟩
  have nfo : H fo = none := s12.free hfo
  have s3 : Same H (upd H2 fo (.lst [])) := s12.trans (same_new hfo _)
  have nff : fr0 ≠ fo := ne_of_none (s2 _ _ e1) hfo
  refine ⟨_, rfl, dg, _, rfl, SqL.of (s3 _ _ hdg), ?_⟩
  refine for_enum (K := K) (a := dg) (xs := NL ds) (fun i σ H' => ∃ (v1 v2 v3 : Option V) (fr : Addr) (free : List Nat) (done : List (Nat × Nat)) (as : List Addr), σ = [some (.ref fa), some (.ref dg), some (.ref fr), some (.ref fo), v1, v2, v3] ∧
      Same H H' ∧ H' fr = some (.lst (NL free)) ∧ fr ≠ fo ∧ free.Nodup ∧ free.length ≤ 12 ∧ (∀ r ∈ free, r < rods.length) ∧ H' fo = some (.lst (as.map V.ref)) ∧ AllAt encP H' as done ∧ done.length ≤ i ∧
      canLaid rods free (ds.drop i) = true ∧ done ++ laidGo rods free (ds.drop i) = laidGo rods (List.range rods.length) ds)
    ⟨none, none, none, fr0, List.range rods.length, [], [], rfl, s3, by rw [upd_ne nff]; exact s2 _ _ e1, nff, List.nodup_range, hrl, hrange, upd_same, AllAt.nil, Nat.le_refl _, cc, rfl⟩
    (fun i σ H' _ ⟨_, _, _, _, _, _, _, _, s4, _⟩ => SqL.of (s4 _ _ hdg)) ?_ ?_
  · rintro i y σ H' TT hi ⟨v1, v2, v3, fr, free, done, as, rfl, s4, efr, nf, fnd, fl12, fin, efo, hall, hdl, hcan, tot⟩ hTT
    obtain ⟨d, hd, rfl⟩ := NL_of hi
    have hil := lt_of_get hd
    rw [drop_more hd] at hcan tot
    rw [canLaid_cons fnd fl12] at hcan
    obtain ⟨r, hr'⟩ := Option.isSome_iff_exists.mp hcan
    have hrm := List.mem_of_find?_eq_some hr'
    have hrp := List.find?_some hr'
    rw [Bool.and_eq_true] at hrp
    rw [laidGo_cons hr'] at tot
    have hrl' := fin r hrm
    -- the pair
    refine ⟨TT, _, rfl, SqT.of upd_same, rfl, _, _, rfl, _, _, rfl, rfl, ?_⟩
    have s5 : Same H' (upd H' TT (.tup [.int (i : Nat), nV d])) := same_new hTT _
    -- rod = first_rod(faces, free, digit, digits[k + 1:])
    refine ⟨_, rfl, _, rfl, _, rfl, _, rfl, _, rfl, _, _, rfl, rfl, _, rfl, dg, _, rfl, SqL.of (s5 _ _ (s4 _ _ hdg)), fun dr hdr => ?_⟩
    rw [cut_from (j := i + 1) (by push_cast; rfl)] at *
    have s6 := s5.trans (same_new hdr (.lst (NL (ds.drop (i + 1)))))
    refine ⟨fa, fr, dr, rods, free, ds.drop (i + 1), d, rfl, (hfa.same s4).same s6, s6 _ _ efr, upd_same, fin, h12, fl12, by rw [List.length_drop]; omega, fun H7 s7 => ?_⟩
    rw [hr']
    have s67 := s6.trans s7
    have s47 : Same H H7 := s4.trans s67
    -- found.append((rod, faces[rod].index(digit)))
    obtain ⟨fas, hfas, hfall⟩ := hfa.same s47
    obtain ⟨ra, hra, hrow⟩ := hfall.get (List.getElem?_eq_getElem hrl')
    have hcont : (rods[r]).contains d = true := by
      have := hrp.1
      unfold faceHas at this
      rw [getD_of_get (List.getElem?_eq_getElem hrl')] at this
      exact this
    have hidx : idx rods r d = (rods[r]).findIdx fun x => x == d := by
      unfold idx
      rw [getD_of_get (List.getElem?_eq_getElem hrl')]
    have hil2 : (rods[r]).findIdx (fun x => x == d) < (rods[r]).length := by
      rw [List.findIdx_lt_length]
      rw [List.contains_iff_exists_mem_beq] at hcont
      obtain ⟨x, hx, ex⟩ := hcont
      exact ⟨x, hx, by simpa [BEq.comm] using ex⟩
    have hbq : ((rods[r])[(rods[r]).findIdx fun x => x == d]'hil2 == d) = true := List.findIdx_getElem (w := hil2)
    refine ⟨_, rfl, .inl ⟨rfl, _, SqL.of (s67 _ _ efo)⟩, ?_⟩
    refine ⟨_, rfl, _, rfl, _, rfl, fa, _, _, .ref ra, rfl, rfl, SqL.of hfas, atI_nat (by rw [List.getElem?_map, hra]; rfl), .inl ⟨rfl, _, SqL.of hrow⟩, _, rfl, ?_⟩
    refine ⟨ra, _, _, (rods[r]).findIdx (fun x => x == d), _, rfl, rfl, SqL.of hrow, rfl, NL_flat _, NL_get (List.getElem?_eq_getElem hil2), by rw [eqV_nat]; exact hbq, fun m z' hm hz => ?_, ?_⟩
    · obtain ⟨x, hx, rfl⟩ := NL_of hz
      rw [eqV_nat]
      have hml := lt_of_get hx
      have := List.not_of_lt_findIdx hm
      rw [List.getElem?_eq_getElem hml] at hx
      cases hx
      simpa using this
    refine ⟨(by show 2 ≤ sizeLine; decide), fun tp htp => ?_⟩
    have s8 : Same H7 (upd H7 tp (.tup [nV r, nV ((rods[r]).findIdx fun x => x == d)])) := same_new htp _
    have efo8 := s8 _ _ (s67 _ _ efo)
    have ntf : tp ≠ fo := new_ne htp (s67 _ _ efo)
    refine ⟨fo, _, _, rfl, rfl, efo8, by rw [List.length_map, hall.len]; exact smallLt (by omega), ?_⟩
    -- free = without(free, rod)
    have n8 : ∀ x, (upd H7 tp (.tup [nV r, nV ((rods[r]).findIdx fun x => x == d)])) fo ≠ some (encP x) := encP_lst efo8
    have all8 : AllAt encP (upd H7 tp (.tup [nV r, nV ((rods[r]).findIdx fun x => x == d)])) (as ++ [tp]) (done ++ [(r, idx rods r d)]) := ((hall.same s67).same s8).snoc (by rw [upd_same, hidx]; rfl)
    have efr8 := s8 _ _ (s67 _ _ efr)
    have s48 := s47.trans s8
    have s49 : Same H (upd (upd H7 tp (.tup [nV r, nV ((rods[r]).findIdx fun x => x == d)])) fo (.lst (as.map V.ref ++ [V.ref tp]))) := same_upd s48 nfo
    have all9 : AllAt encP (upd (upd H7 tp (.tup [nV r, nV ((rods[r]).findIdx fun x => x == d)])) fo (.lst (as.map V.ref ++ [V.ref tp]))) (as ++ [tp]) (done ++ [(r, idx rods r d)]) := all8.upd (all8.not n8)
    refine ⟨_, rfl, _, rfl, fr, free, r, rfl, by rw [upd_ne nf]; exact efr8, by omega, fun p H10 s10 hp e10 => ?_⟩
    have efo10 := s10 fo _ upd_same
    refine ⟨_, _, _, p, without free r, done ++ [(r, idx rods r d)], as ++ [tp], rfl, s49.trans s10, e10, ?_, without_nodup r fnd, without_len r fl12, fun x hx => fin x (List.mem_filter.mp hx).1, ?_, all9.same s10, ?_, hrp.2, ?_⟩
    · intro e
      rw [e, upd_same] at hp
      cases hp
    · rw [List.map_append]; exact efo10
    · rw [List.length_append]; exact Nat.succ_le_succ hdl
    · rw [List.append_assoc]; exact tot
  · rintro σ H' ⟨v1, v2, v3, fr, free, done, as, rfl, s4, efr, nf, fnd, fl12, fin, efo, hall, hdl, hcan, tot⟩
    rw [NL_len, List.drop_length] at tot
    have tot : done ++ [] = _ := tot
    rw [List.append_nil] at tot
    refine ⟨_, rfl, ?_⟩
    refine qS fo H' s4 nfo ⟨as, efo, ?_⟩
    rw [← tot]; exact hall
end
end LR

/-! all_rows, many_laid -/
namespace LR
open PySem PySem.Spec PyProof.Rows L2
theorem moreRows_len (l : List (List Nat)) : (moreRows l).length = 10 * l.length := by
  unfold moreRows
  induction l with
  | nil => rfl
  | cons a l ih => rw [List.flatMap_cons, List.length_append, ih, List.length_map, List.length_range, List.length_cons]; omega
theorem moreRows_snoc (l : List (List Nat)) (r : List Nat) : moreRows (l ++ [r]) = moreRows l ++ (List.range 10).map fun d => r ++ [d] := by
  unfold moreRows
  rw [List.flatMap_append]; simp
section
variable {P : Program} {w : World} {K : PySem.W.Frag} {mg : Str → Option Value} {base : Heap}
def spAllRows : Sp := fun vs H Q _ => ∃ (n : Nat), vs = [nV n] ∧ n ≤ 3 ∧ ∀ (p : Addr) (H' : Hp), Same H H' → H p = none → RowAt encL H' p (allRows n) → Q (.ref p) H'
theorem scAllRows : FnScope ["many", "found", "k", "longer", "row", "digit"] ["many"] (defScope sAllRows) := ⟨rfl, rfl, rfl, by decide +kernel, rfl, by decide +kernel, by decide +kernel⟩
theorem ok_allRows (T : Txt K mg) : FnOk P w K mg base CX0 1 T.allRows.f T.allRows.fd ["many"] spAllRows := by
  refine T.allRows.fn.ok scAllRows (fun vs H Q E h => ?_) (fun cdv A outer s H vs Q E hr h => ?_)
  · obtain ⟨n, rfl, _⟩ := h
    rfl
  obtain ⟨n, rfl, hn, k⟩ := h
  refine ⟨_, pss_cons (ps_set (i := 1) scAllRows.nd rfl (Or.inl rfl) (pe_lst (pa_cons (pe_lst pa_nil) pa_nil)))
    (pss_cons (ps_for PassesOwn.never rfl (pi_range1 rfl T.range (pa_cons (pv 0) pa_nil)) (pg_name (i := 2) scAllRows.nd rfl (Or.inl rfl))
      (pss_cons (ps_set (i := 3) scAllRows.nd rfl (Or.inl rfl) (pe_lst pa_nil))
      (pss_cons (ps_for PassesOwn.never rfl (pi_list (pv 1)) (pg_name (i := 4) scAllRows.nd rfl (Or.inr rfl))
        (pss_one (ps_expr (pe_bm PySem.F.plainAttrs_list PySem.F.slot_list_extend PySem.F.type_list_extend mt_extend (pv 3)
          (pa_cons (pe_lc (own := [("digit", 5)]) (g := gName 5) (tt := tYes) rfl scAllRows.nd (pi_range1 rfl T.range (pa_cons pe_int pa_nil))
            (blkOk_by (own := [("digit", 5)]) (N := ["many", "found", "k", "longer", "row", "digit"]) (sc := defScope sAllRows) (by decide +kernel)) (fun _ _ _ _ _ => pg_name (i := 5) scAllRows.nd rfl (Or.inl rfl)) (fun _ _ _ _ _ => pts_nil)
            (fun _ _ _ _ _ => pe_op op_cat (pv 4) (pe_lst (pa_cons (pv 5) pa_nil)))) pa_nil)))))
      (pss_one (ps_set (i := 1) scAllRows.nd rfl (Or.inl rfl) (pv 3))))))
    (pss_one (ps_ret (pv 1)))), ?_⟩
  -- found = [[]]
  refine ⟨Nat.zero_le _, fun e0 he0 => ⟨(by show 1 ≤ sizeLine; decide), fun fo0 hfo0 => ?_⟩⟩
  have s1 : Same H (upd H e0 (.lst [])) := same_new he0 _
  have ne0 : e0 ≠ fo0 := fun q => by rw [← q, upd_same] at hfo0; cases hfo0
  have s2 : Same H (upd (upd H e0 (.lst [])) fo0 (.lst [.ref e0])) := s1.trans (same_new hfo0 _)
  have eN : (((n : Nat) : Int)).toNat = n := by omega
  refine ⟨_, rfl, (n : Int), rfl, by omega, by omega, ?_⟩
  refine for_range (lo := 0) (n := ((n : Nat) : Int).toNat) (fun i σ H' => ∃ (v2 v3 v4 : Option V) (fo : Addr) (as : List Addr), σ = [some (nV n), some (.ref fo), v2, v3, v4, none] ∧
    Same H H' ∧ H fo = none ∧ H' fo = some (.lst (as.map V.ref)) ∧ AllAt encL H' as (allRows i) ∧ i ≤ n)
    ⟨none, none, none, fo0, [e0], rfl, s2, s1.free hfo0, upd_same, Paired.cons (by rw [upd_ne ne0, upd_same]; rfl) .nil, Nat.zero_le _⟩ ?_ ?_
  · rintro i σ H' hi ⟨v2, v3, v4, fo, as, rfl, s3, nfo, efo, hall, hin⟩
    rw [eN] at hi
    have hlen : (allRows i).length ≤ 1000 := allRows_len (by omega)
    -- longer = []
    refine ⟨Nat.zero_le _, fun lo hlo => ?_⟩
    have nlo : H lo = none := s3.free hlo
    have s4 : Same H' (upd H' lo (.lst [])) := same_new hlo _
    have nfl : fo ≠ lo := ne_of_none efo hlo
    have nla : lo ∉ as := hall.not fun x q => by rw [hlo] at q; cases q
    refine ⟨_, rfl, fo, rfl, ⟨_, SqL.of (s4 _ _ efo)⟩, ?_⟩
    refine for_list (K := K) (a := fo) (xs := as.map V.ref) (fun j σ H2 => ∃ (v4 : Option V) (bs : List Addr), σ = [some (nV n), some (.ref fo), some (.int (0 + (i : Int))), some (.ref lo), v4, none] ∧
      Same H H2 ∧ H2 fo = some (.lst (as.map V.ref)) ∧ AllAt encL H2 as (allRows i) ∧ H2 lo = some (.lst (bs.map V.ref)) ∧ lo ∉ bs ∧ AllAt encL H2 bs (moreRows ((allRows i).take j)))
      ⟨v4, [], rfl, s3.trans s4, s4 _ _ efo, hall.same s4, upd_same, by simp, AllAt.nil⟩ (fun j σ H2 _ ⟨_, _, _, _, q, _⟩ => SqL.of q) ?_ ?_
    · rintro j y σ H2 hj ⟨v4, bs, rfl, s5, efo2, hall2, elo2, nlb, hbs⟩
      rw [List.getElem?_map] at hj
      obtain ⟨ra, hra, rfl⟩ := Option.map_eq_some_iff.mp hj
      obtain ⟨row, hrow, erow⟩ := hall2.of hra
      have hjl := lt_of_get hrow
      have nrl : ra ≠ lo := fun q => nla (by rw [← q]; exact List.mem_of_getElem? hra)
      refine ⟨_, rfl, .inl ⟨rfl, _, SqL.of elo2⟩, 10, rfl, by decide, by decide, fun D hD => ?_⟩
      have nDl : D ≠ lo := new_ne hD elo2
      refine lc_range (lo := 0) (n := 10) (LcP H2 D fun i acc H3 => ∃ cs : List Addr, acc = cs.map V.ref ∧ D ∉ cs ∧ (∀ c ∈ cs, H2 c = none) ∧ AllAt encL H3 cs ((List.range i).map fun d => row ++ [d]))
        (LcP.start hD ⟨[], rfl, by simp, by simp, AllAt.nil⟩) ?_ ?_
      · rintro m H3 hm ⟨s6, acc, eD, hacc, cs, rfl, nDc, hnew, hcs⟩
        refine ⟨rfl, _, rfl, _, rfl, (by show 1 ≤ sizeLine; decide), fun q hq => ?_⟩
        have e1 : H3 ra = some (.lst (NL row)) := s6 _ _ erow
        have nrq : ra ≠ q := ne_of_none e1 hq
        have hrl : row.length ≤ 1000000 ∨ True := .inr trivial
        have hz : (NL row).length + 1 ≤ sizeLine := by
          rw [NL_len]
          exact small (by
            have : row ∈ allRows i := List.mem_of_getElem? hrow
            have : row.length ≤ 3 := by
              have q : ∀ r ∈ allRows i, r.length ≤ 3 := by
                have hi3 : i ≤ 2 := by omega
                match i, hi3 with
                | 0, _ => decide
                | 1, _ => decide +kernel
                | 2, _ => decide +kernel
              exact q row this
            omega)
        refine ⟨ra, q, _, _, rfl, rfl, by rw [upd_ne nrq]; exact e1, upd_same, hz, fun p hp => ?_⟩
        have s7 : Same H3 (upd H3 q (.lst [.int (0 + (m : Int))])) := same_new hq _
        have s8 := s7.trans (same_new hp (.lst (NL row ++ [.int (0 + (m : Int))])))
        have eD8 := s8 _ _ eD
        have npD : p ≠ D := new_ne hp (s7 _ _ eD)
        refine LcP.push hD (s6.trans s8) eD8 hacc (by omega) ⟨cs ++ [p], by rw [List.map_append]; rfl, ?_, ?_, ?_⟩
        · intro hmem
          rcases List.mem_append.mp hmem with h | h
          · exact nDc h
          · exact npD (List.mem_singleton.mp h).symm
        · intro c hc
          rcases List.mem_append.mp hc with h | h
          · exact hnew c h
          · rw [List.mem_singleton.mp h]; exact s6.free (s7.free hp)
        · rw [List.range_succ, List.map_append]
          refine AllAt.upd ((hcs.same s8).snoc ?_) ?_
          · rw [upd_same]
            show some (HO.lst (NL row ++ [V.int (0 + (m : Int))])) = some (HO.lst (NL (row ++ [m])))
            rw [NL_append, Int.zero_add]; rfl
          · intro hmem
            rcases List.mem_append.mp hmem with h | h
            · exact nDc h
            · exact npD (List.mem_singleton.mp h).symm
      · rintro H3 ⟨s6, acc, eD, hacc, cs, rfl, nDc, hnew, hcs⟩
        have elo3 := s6 _ _ elo2
        have hbl := hbs.len
        rw [moreRows_len, List.length_take] at hbl
        refine ⟨lo, D, _, _, rfl, rfl, elo3, eD, ?_, ?_⟩
        · rw [List.length_map, hbl]; exact small (by omega)
        have nlc : lo ∉ cs := fun h => by have := hnew lo h; rw [elo2] at this; cases this
        refine ⟨_, bs ++ cs, rfl, same_upd (s5.trans s6) nlo, by rw [upd_ne nfl]; exact s6 _ _ efo2, (hall2.same s6).upd nla, by rw [upd_same, List.map_append], ?_, ?_⟩
        · intro h
          rcases List.mem_append.mp h with h | h
          · exact nlb h
          · exact nlc h
        · rw [take_more hrow, moreRows_snoc]
          exact ((hbs.same s6).upd nlb).append (hcs.upd nlc)
    · rintro σ H2 ⟨v4, bs, rfl, s5, efo2, hall2, elo2, nlb, hbs⟩
      refine ⟨_, rfl, ?_⟩
      rw [List.length_map, hall.len, List.take_length] at hbs
      exact ⟨_, _, _, lo, bs, rfl, s5, nlo, elo2, hbs, by omega⟩
  · rintro σ H' ⟨v2, v3, v4, fo, as, rfl, s3, nfo, efo, hall, hin⟩
    rw [eN] at hall
    exact ⟨_, rfl, k fo H' s3 nfo ⟨as, efo, hall⟩⟩
/-! many_laid -/
def spMany : Sp := fun vs H Q _ => ∃ (fa : Addr) (rods : List (List Nat)) (n : Nat), vs = [.ref fa, nV n] ∧ RowAt encL H fa rods ∧ rods.length ≤ 12 ∧ n ≤ 3 ∧
  ∀ (H' : Hp), Same H H' → Q (nV ((allRows n).filter fun row => canLaid rods (List.range rods.length) row).length) H'
theorem scMany : FnScope ["faces", "many", "row"] ["faces", "many"] (defScope sMany) := ⟨rfl, rfl, rfl, by decide +kernel, rfl, by decide +kernel, by decide +kernel⟩
theorem filter_more {α : Type} (p : α → Bool) {l : List α} {i : Nat} {x : α} (h : l[i]? = some x) : (l.take (i + 1)).filter p = (l.take i).filter p ++ (if p x = true then [x] else []) := by
  rw [take_more h, List.filter_append, List.filter_cons, List.filter_nil]
theorem allRows_row {n : Nat} (h : n ≤ 3) : ∀ r ∈ allRows n, r.length ≤ 3 := by
  match n, h with
  | 0, _ => decide
  | 1, _ => decide +kernel
  | 2, _ => decide +kernel
  | 3, _ => decide +kernel
theorem ok_many (T : Txt K mg) : FnOk P w K mg base CX0 15 T.many.f T.many.fd ["faces", "many"] spMany := by
  have GC : FnOk P w K mg base CX0 14 T.can.f T.can.fd ["faces", "free", "digits"] spCan := ok_can T
  have GA : FnOk P w K mg base CX0 1 T.free.f T.free.fd ["faces"] spFree := ok_free T
  have GR : FnOk P w K mg base CX0 1 T.allRows.f T.allRows.fd ["many"] spAllRows := ok_allRows T
  refine T.many.fn.ok scMany (fun vs H Q E h => ?_) (fun cdv A outer s H vs Q E hr h => ?_)
  · obtain ⟨fa, rods, n, rfl, _⟩ := h
    rfl
  obtain ⟨fa, rods, n, rfl, hfa, h12, hn, k⟩ := h
  have hr1 : Room 1 _ := hr.mono (by decide)
  refine ⟨_, pss_one (ps_ret (pe_callB call_len_seq (by rfl) T.len PySem.boot_len (pa_cons (pe_lc (own := [("row", 2)]) (g := gName 2) rfl scMany.nd (pi_list (pe_call GR hr1 rfl T.allRows.g T.allRows.fn.kp T.allRows.b .nil pass0 (pa_cons (pv 1) pa_nil)))
    (blkOk_by (own := [("row", 2)]) (N := ["faces", "many", "row"]) (sc := defScope sMany) (by decide +kernel)) (fun _ _ _ _ _ => pg_name (i := 2) scMany.nd rfl (Or.inl rfl))
    (fun _ _ _ _ _ => pts_one (pt_val (pe_call GC hr rfl T.can.g T.can.fn.kp T.can.b .nil pass0 (pa_cons (pv 0) (pa_cons (pe_call GA hr1 rfl T.free.g T.free.fn.kp T.free.b .nil pass0 (pa_cons (pv 0) pa_nil)) (pa_cons (pv 2) pa_nil))))))
    (fun _ _ _ _ _ => pv 2)) pa_nil))), ?_⟩
  refine ⟨_, rfl, n, rfl, hn, fun ra H1 s1 nra ⟨as, era, hall⟩ => ?_⟩
  refine ⟨ra, rfl, ⟨_, SqL.of era⟩, fun D hD => ?_⟩
  have hlen : (allRows n).length ≤ 1000 := allRows_len hn
  refine lc_list (K := K) (a := ra) (xs := as.map V.ref) (LcP H1 D fun i acc _ => acc.length = (((allRows n).take i).filter fun row => canLaid rods (List.range rods.length) row).length) (LcP.start hD rfl) (fun i H' _ h => SqL.of (h.1 _ _ era)) ?_ ?_
  · rintro i y H' hi ⟨s2, acc, e, hl, hacc⟩
    rw [List.getElem?_map] at hi
    obtain ⟨a, ha, rfl⟩ := Option.map_eq_some_iff.mp hi
    obtain ⟨row, hrow, erow⟩ := hall.of ha
    have hil := lt_of_get hrow
    have hr3 := allRows_row hn row (List.mem_of_getElem? hrow)
    have s12 := s1.trans s2
    refine ⟨rfl, _, rfl, _, rfl, fa, rods, rfl, hfa.same s12, h12, fun fr H3 s3 nfr e3 => ?_⟩
    have s13 := s12.trans s3
    refine ⟨_, rfl, fa, fr, a, rods, List.range rods.length, row, rfl, hfa.same s13, e3, s3 _ _ (s2 _ _ erow), fun r h => List.mem_range.mp h, h12, by simpa using h12, by omega, fun H4 s4 => ⟨_, rfl, ?_⟩⟩
    have eD := s4 _ _ (s3 _ _ e)
    have s24 := s2.trans (s3.trans s4)
    have fm := filter_more (fun row => canLaid rods (List.range rods.length) row) hrow
    by_cases c : canLaid rods (List.range rods.length) row = true
    · refine if_true_of c ⟨_, rfl, ?_⟩
      refine LcP.push hD s24 eD hl (by omega) ?_
      rw [fm, if_pos c, List.length_append, List.length_append, hacc]; rfl
    · refine if_false_of (by simpa using c) ?_
      refine LcP.skip s24 eD hl ?_
      rw [fm, if_neg c, List.append_nil]
      exact hacc
  · rintro H' ⟨s2, acc, e, hl, hacc⟩
    refine ⟨D, _, rfl, .inl (SqL.of e), ?_⟩
    rw [hacc, List.length_map, hall.len, List.take_length]
    exact k H' (s1.trans s2)
end
end LR

/-! the class Rods -/
namespace LR
open PySem PySem.Spec PyProof.Rows L2
open Mu13Neutral (fours)
theorem rg4 (m : Nat) (h : m ≤ 1000) : RgC 0 ((4 * m : Nat) : Int) 4 m := by
  have e : Builtin.Range.rangeSize 0 ((4 * m : Nat) : Int) 4 = (m : Int) := by
    unfold Builtin.Range.rangeSize
    rw [if_pos (by decide)]
    by_cases c : (0 : Int) < ((4 * m : Nat) : Int)
    · rw [if_pos c]; omega
    · rw [if_neg c]; omega
  refine ⟨by decide, by decide, ?_, e⟩
  have fits : ∀ i : Int, -(2 ^ 63) ≤ i → i < 2 ^ 63 → Builtin.Range.rangeFitsLong i = true := fun i h1 h2 => by
    unfold Builtin.Range.rangeFitsLong
    rw [decide_eq_true h1, decide_eq_true h2]; rfl
  unfold Builtin.Range.small
  rw [e, if_pos (show (4 : Int) > 0 by decide), fits 0 (by decide) (by decide), fits _ (by omega) (by omega), fits 4 (by decide) (by decide), fits (m : Int) (by omega) (by omega), fits _ (by omega) (by omega), Bool.or_true]
  rfl
theorem cut_four {l : List Nat} {i : Nat} {a b : Int} (ea : a = ((4 * i : Nat) : Int)) (eb : b = ((4 * i + 4 : Nat) : Int)) (h : 4 * i + 4 ≤ l.length) : cutV (NL l) (some a) (some b) = NL ((l.drop (4 * i)).take 4) := by
  subst ea eb
  unfold cutV
  rw [HT.sIx_nat, HT.sIx_nat, NL_len, NL_drop, NL_take, Nat.min_eq_left h, Nat.min_eq_left (show 4 * i ≤ l.length by omega)]
  congr 2
  omega
/-- a tuple's first three against three numbers -/
theorem eqv3 (a b c x y z : Nat) : PyData.eqv (.tuple [.int a, .int b, .int c]) (.tuple [.int x, .int y, .int z]) = (a == x && (b == y && c == z)) := by
  have h : ∀ p q : Nat, PyData.eqv (.int p) (.int q) = (p == q) := fun p q => by
    simp only [PyData.eqv]
    exact eqV_nat p q
  simp only [PyData.eqv, PyData.eqvAll, h, Bool.and_true]
  show ((a : Int) == (x : Int) && ((b : Int) == (y : Int) && (c : Int) == (z : Int))) = _
  have e : ∀ p q : Nat, ((p : Int) == (q : Int)) = (p == q) := eqV_nat
  rw [e, e, e]
theorem shaped3 (a b c : Int) : SeqAt.shaped (.tuple [.int a, .int b, .int c]) = true := by
  simp [SeqAt.shaped, PyData.canLay0, PyData.canLayAll0, PyData.depth, PyData.depthAll]
section
variable {P : Program} {w : World} {K : PySem.W.Frag} {mg : Str → Option Value} {base : Heap}
/-! Rods.__init__ -/
def spRInit (CR : Addr) : Sp := fun vs H Q _ => ∃ (p dx dg : Addr) (ds : List Nat) (m : Nat), vs = [.ref p, .ref dg] ∧ H p = some (.ins CR dx []) ∧ H dg = some (.lst (NL ds)) ∧ ds.length = 4 * m ∧ m ≤ 1000 ∧
  ∀ H' : Hp, RodsAt CR H' p ⟨fours ds, [], []⟩ → (∀ b o, H b = some o → b ≠ p → H' b = some o) → Q .non H'
theorem scRInit : FnScope ["self", "digits", "at"] ["self", "digits"] (defScope sRInit) := ⟨rfl, rfl, rfl, by decide +kernel, rfl, by decide +kernel, by decide +kernel⟩
theorem ok_rInit (T : Txt K mg) : FnOk P w K mg base CX0 1 T.rInit.f T.rInit.fd ["self", "digits"] (spRInit T.CR) := by
  obtain ⟨t4, h4⟩ := T.c_FACES
  refine T.rInit.fn.ok scRInit (fun vs H Q E h => ?_) (fun cdv A outer s H vs Q E hr h => ?_)
  · obtain ⟨p, dx, dg, ds, m, rfl, _⟩ := h
    rfl
  obtain ⟨p, dx, dg, ds, m, rfl, hp, hdg, hm, hm1, k⟩ := h
  refine ⟨_, pss_cons (ps_fld (pv 0) (pe_lc (own := [("at", 2)]) (g := gName 2) (tt := tYes) rfl scRInit.nd
      (pi_range3 rfl T.range (pa_cons pe_int (pa_cons (pe_callB call_len_seq (by rfl) T.len PySem.boot_len (pa_cons (pv 1) pa_nil)) (pa_cons (pe_glob (v := .int 4) rfl h4 ⟨_, rfl⟩) pa_nil))))
      (blkOk_by (own := [("at", 2)]) (N := ["self", "digits", "at"]) (sc := defScope sRInit) (by decide +kernel)) (fun _ _ _ _ _ => pg_name (i := 2) scRInit.nd rfl (Or.inl rfl)) (fun _ _ _ _ _ => pts_nil)
      (fun _ _ _ _ _ => pe_slice (r := rSlL K) sl_list (pv 1) (po_some (pv 2)) (po_some (pe_op op_add (pv 2) (pe_glob (v := .int 4) rfl h4 ⟨_, rfl⟩))))) rfl)
    (pss_cons (ps_fld (pv 0) (pe_lst pa_nil) rfl)
    (pss_one (ps_fld (pv 0) (pe_lst pa_nil) rfl))), ?_⟩
  have eN : (((NL ds).length : Nat) : Int) = ((4 * m : Nat) : Int) := by rw [NL_len, hm]
  refine ⟨_, rfl, dg, _, rfl, .inl (SqL.of hdg), 0, _, 4, m, rfl, by rw [eN]; exact rg4 m hm1, fun D hD => ?_⟩
  have npD : p ≠ D := ne_of_none hp hD
  refine lc_rangeC (lo := 0) (c := 4) (n := m) (LcP H D fun i acc H3 => ∃ cs : List Addr, acc = cs.map V.ref ∧ D ∉ cs ∧ (∀ c ∈ cs, H c = none) ∧ AllAt encL H3 cs ((List.range i).map fun i => (ds.drop (4 * i)).take 4))
    (LcP.start hD ⟨[], rfl, by simp, by simp, AllAt.nil⟩) ?_ ?_
  · rintro i H3 hi ⟨s6, acc, eD, hacc, cs, rfl, nDc, hnew, hcs⟩
    refine ⟨rfl, _, rfl, _, rfl, _, rfl, _, rfl, _, _, rfl, rfl, _, rfl, dg, _, rfl, SqL.of (s6 _ _ hdg), fun q hq => ?_⟩
    rw [cut_four (i := i) (by push_cast; omega) (by push_cast; omega) (by omega)]
    have s8 := same_new hq (.lst (NL ((ds.drop (4 * i)).take 4)))
    have npq : q ≠ D := new_ne hq eD
    refine LcP.push hD (s6.trans s8) (s8 _ _ eD) hacc (by omega) ⟨cs ++ [q], by rw [List.map_append]; rfl, ?_, ?_, ?_⟩
    · intro hmem
      rcases List.mem_append.mp hmem with h | h
      · exact nDc h
      · exact npq (List.mem_singleton.mp h).symm
    · intro c hc
      rcases List.mem_append.mp hc with h | h
      · exact hnew c h
      · rw [List.mem_singleton.mp h]; exact s6.free hq
    · rw [List.range_succ, List.map_append]
      refine AllAt.upd ((hcs.same s8).snoc (by rw [upd_same]; rfl)) ?_
      intro hmem
      rcases List.mem_append.mp hmem with h | h
      · exact nDc h
      · exact npq (List.mem_singleton.mp h).symm
  · rintro H3 ⟨s6, acc, eD, hacc, cs, rfl, nDc, hnew, hcs⟩
    have hp3 := s6 _ _ hp
    rw [← (fours_spec m ds hm).2.2.2] at hcs
    have npc : p ∉ cs := fun h => by have := hnew p h; rw [hp] at this; cases this
    -- self.faces
    refine ⟨_, rfl, p, _, dx, [], rfl, hp3, T.clR, T.nFaces, (by show 0 < 1000; decide), ?_⟩
    -- self.flaws
    refine ⟨Nat.zero_le _, fun fl hfl => ?_⟩
    have nfp : fl ≠ p := fun q => by rw [q, upd_same] at hfl; cases hfl
    have hfl3 : H3 fl = none := by rw [upd_ne nfp] at hfl; exact hfl
    refine ⟨_, rfl, p, _, dx, _, rfl, by rw [upd_ne nfp.symm, upd_same], T.clR, T.nFlaws, (by show 1 < 1000; decide), ?_⟩
    -- self.laid
    refine ⟨Nat.zero_le _, fun la hla => ?_⟩
    have nlp : la ≠ p := fun q => by rw [q, upd_same] at hla; cases hla
    have nlf : la ≠ fl := fun q => by rw [q, upd_ne nfp, upd_same] at hla; cases hla
    have hla3 : H3 la = none := by rw [upd_ne nlp, upd_ne nlf, upd_ne nlp] at hla; exact hla
    refine ⟨_, rfl, p, _, dx, _, rfl, by rw [upd_ne nlp.symm, upd_same], T.clR, T.nLaid, (by show (putF "flaws" (V.ref fl) [("faces", V.ref D)]).length < 1000; rw [put_past (by decide +kernel)]; show 2 < 1000; decide), ?_⟩
    have nDf : D ≠ fl := ne_of_none eD hfl3
    have nDl : D ≠ la := ne_of_none eD hla3
    have nfc : fl ∉ cs := hcs.not fun x q => by rw [hfl3] at q; cases q
    have nlc : la ∉ cs := hcs.not fun x q => by rw [hla3] at q; cases q
    refine k _ ⟨dx, D, fl, la, by rw [upd_same, rF_new], ⟨cs, ?_, ?_⟩, ⟨[], ?_, AllAt.nil⟩, ⟨[], ?_, AllAt.nil⟩⟩ ?_
    · rw [upd_ne npD.symm, upd_ne nDl, upd_ne npD.symm, upd_ne nDf, upd_ne npD.symm]; exact eD
    · exact ((((hcs.upd npc).upd nfc).upd npc).upd nlc).upd npc
    · rw [upd_ne nfp, upd_ne nlf.symm, upd_ne nfp, upd_same]; rfl
    · rw [upd_ne nlp, upd_same]; rfl
    · intro b o e nb
      have b1 := s6 _ _ e
      rw [upd_ne nb, upd_ne (ne_of_none b1 hla3), upd_ne nb, upd_ne (ne_of_none b1 hfl3), upd_ne nb]
      exact b1
/-! right_cell -/
def spRight (CR : Addr) : Sp := fun vs H Q _ => ∃ (r : Addr) (s : Mu13.State) (rod face k : Nat), vs = [.ref r, nV rod, nV face, nV k] ∧ RodsAt CR H r s ∧ Good s ∧ rod < s.rods.length ∧ face < 4 ∧ k ≤ 1000 ∧ Q (nV (k * Mu13.digitOf s (rod, face))) H
theorem scRight : FnScope ["self", "rod", "face", "k"] ["self", "rod", "face", "k"] (defScope sRight) := ⟨rfl, rfl, rfl, by decide +kernel, rfl, by decide +kernel, by decide +kernel⟩
theorem digit_at {s : Mu13.State} (G : Good s) {rod face : Nat} (h1 : rod < s.rods.length) (h2 : face < 4) : ∃ l, s.rods[rod]? = some l ∧ l[face]? = some (Mu13.digitOf s (rod, face)) := by
  obtain ⟨l, e1, e2, e3, _⟩ := rod_at G h1
  have hf : face < l.length := by omega
  refine ⟨l, e1, ?_⟩
  unfold Mu13.digitOf
  rw [e2]
  show l[face]? = some (l.getD face 0)
  rw [List.getElem?_eq_getElem hf, List.getD_eq_getElem?_getD, List.getElem?_eq_getElem hf]; rfl
theorem ok_right (T : Txt K mg) : FnOk P w K mg base CX0 1 T.right.f T.right.fd ["self", "rod", "face", "k"] (spRight T.CR) := by
  refine T.right.fn.ok scRight (fun vs H Q E h => ?_) (fun cdv A outer s H vs Q E hr h => ?_)
  · obtain ⟨r, st, rod, face, k, rfl, _⟩ := h
    rfl
  obtain ⟨r, st, rod, face, k, rfl, ⟨dx, fa, fl, la, hR, ⟨as, hfa, hall⟩, hfl, hla⟩, G, h1, h2, h3, q⟩ := h
  obtain ⟨l, e1, e2⟩ := digit_at G h1 h2
  obtain ⟨a, ha, erow⟩ := hall.get e1
  refine ⟨_, pss_one (ps_ret (pe_op op_mul (pv 3) (pe_ix ix_list (pe_ix ix_list (pe_fld (pv 0) rfl) (pv 1) (fun _ _ => rfl)) (pv 2) (fun _ _ => rfl)))), ?_⟩
  refine ⟨_, rfl, _, rfl, r, T.CR, dx, _, _, rfl, hR, T.clR, T.nFaces, rF_faces _ _ _, _, rfl, fa, _, _, .ref a, rfl, rfl, SqL.of hfa, atI_nat (by rw [List.getElem?_map, ha]; rfl), _, rfl, a, _, _, _, rfl, rfl, SqL.of erow, atI_nat (NL_get e2), ?_⟩
  refine ⟨_, _, rfl, rfl, .inl ⟨by omega, by omega⟩, ?_⟩
  have e : ((k : Int) * (Mu13.digitOf st (rod, face) : Int)) = ((k * Mu13.digitOf st (rod, face) : Nat) : Int) := by push_cast; rfl
  show Q (.int ((k : Int) * (Mu13.digitOf st (rod, face) : Int))) H
  rw [e]
  exact q
/-! cell -/
def spCell (CR : Addr) : Sp := fun vs H Q _ => ∃ (r : Addr) (s : Mu13.State) (rod face k : Nat), vs = [.ref r, nV rod, nV face, nV k] ∧ RodsAt CR H r s ∧ Good s ∧ rod < s.rods.length ∧ face < 4 ∧ k ≤ 1000 ∧ ∀ H', Same H H' → Q (nV (Mu13.cell s (rod, face) k)) H'
theorem scCell : FnScope ["self", "rod", "face", "k", "one"] ["self", "rod", "face", "k"] (defScope sCell) := ⟨rfl, rfl, rfl, by decide +kernel, rfl, by decide +kernel, by decide +kernel⟩
theorem cut3 (a b c d : V) : cutV [a, b, c, d] none (some 3) = [a, b, c] := by
  unfold cutV
  rw [HT.sIx_none, show (3 : Int) = ((3 : Nat) : Int) from rfl, HT.sIx_nat]
  rfl
theorem not_whole (a b c d : V) : ¬ (HT.sIx [a, b, c, d].length 0 none = 0 ∧ HT.sIx [a, b, c, d].length [a, b, c, d].length (some 3) = [a, b, c, d].length) := by
  rw [show (3 : Int) = ((3 : Nat) : Int) from rfl, HT.sIx_nat]
  intro h
  have := h.2
  simp at this
theorem ok_cell (T : Txt K mg) : FnOk P w K mg base CX0 2 T.cell.f T.cell.fd ["self", "rod", "face", "k"] (spCell T.CR) := by
  have GR : FnOk P w K mg base CX0 1 T.right.f T.right.fd ["self", "rod", "face", "k"] (spRight T.CR) := ok_right T
  refine T.cell.fn.ok scCell (fun vs H Q E h => ?_) (fun cdv A outer s H vs Q E hr h => ?_)
  · obtain ⟨r, st, rod, face, k, rfl, _⟩ := h
    rfl
  obtain ⟨r, st, rod, face, k, rfl, hRods, G, h1, h2, h3, q⟩ := h
  obtain ⟨dx, fa, fl, la, hR, hfa, ⟨as, hfl, hall⟩, hla⟩ := id hRods
  refine ⟨_, pss_cons (ps_for PassesOwn.never rfl (pi_list (pe_fld (pv 0) rfl)) (pg_name (i := 4) scCell.nd rfl (Or.inl rfl))
      (pss_one (ps_if (pt_cmpR (op_eqD hr.units) (pe_slice sl_tup (pv 4) po_none (po_some pe_int)) (pe_tup (pa_cons (pv 1) (pa_cons (pv 2) (pa_cons (pv 3) pa_nil)))) (nomark _))
        (pss_one (ps_ret (pe_ix ix_tup (pv 4) pe_int (fun _ _ => rfl)))) pss_nil)))
    (pss_one (ps_ret (pe_meth (pv 0) T.clR T.right.m GR hr T.right.b .nil pass0 (pa_cons (pv 1) (pa_cons (pv 2) (pa_cons (pv 3) pa_nil)))))), ?_⟩
  refine ⟨_, rfl, r, T.CR, dx, _, _, rfl, hR, T.clR, T.nFlaws, rF_flaws _ _ _, fl, rfl, ⟨_, SqL.of hfl⟩, ?_⟩
  refine for_list (K := K) (a := fl) (xs := as.map V.ref) (fun i σ H' => ∃ v : Option V, σ = [some (.ref r), some (nV rod), some (nV face), some (nV k), v] ∧ Same H H' ∧ (st.flaws.drop i).find? (isAt rod face k) = st.flaws.find? (isAt rod face k))
    ⟨none, rfl, Same.refl _, rfl⟩ (fun i σ H' _ ⟨_, _, s1, _⟩ => SqL.of (s1 _ _ hfl)) ?_ ?_
  · rintro i y σ H' hi ⟨v, rfl, s1, tot⟩
    rw [List.getElem?_map] at hi
    obtain ⟨a, ha, rfl⟩ := Option.map_eq_some_iff.mp hi
    obtain ⟨f, hf, ef⟩ := hall.of ha
    have ef1 : H' a = some (.tup [nV f.rod, nV f.face, nV f.row, nV f.value]) := s1 _ _ ef
    rw [drop_more hf, List.find?_cons] at tot
    refine ⟨_, rfl, 3, rfl, a, _, rfl, SqT.of ef1, not_whole _ _ _ _, fun p hp => ?_⟩
    rw [cut3]
    have s2 : Same H' (upd H' p (.tup [nV f.rod, nV f.face, nV f.row])) := same_new hp _
    refine ⟨_, rfl, _, rfl, _, rfl, (by show 3 ≤ sizeLine; decide), fun p2 hp2 => ?_⟩
    have npp : p ≠ p2 := ne_of_none upd_same hp2
    have s3 := s2.trans (same_new hp2 (.tup [nV rod, nV face, nV k]))
    refine ⟨.tuple [.int f.rod, .int f.face, .int f.row], .tuple [.int rod, .int face, .int k], .tup (SqT.of (by rw [upd_ne npp, upd_same])) (.cons (.int _) (.cons (.int _) (.cons (.int _) .nil))),
      .tup (SqT.of upd_same) (.cons (.int _) (.cons (.int _) (.cons (.int _) .nil))), shaped3 _ _ _, shaped3 _ _ _, _, rfl, ?_⟩
    rw [eqv3]
    by_cases c : isAt rod face k f = true
    · refine if_true_of c ?_
      refine ⟨_, rfl, a, _, _, _, rfl, rfl, SqT.of (s3 _ _ ef1), (show atI _ (3 : Int) = some (nV f.value) from rfl), ?_⟩
      rw [c] at tot
      have z := q _ (s1.trans s3)
      have e : Mu13.cell st (rod, face) k = f.value := by
        unfold Mu13.cell
        show (match st.flaws.find? (isAt rod face k) with
          | some f => f.value
          | none => _) = _
        rw [← tot]
      rw [e] at z
      exact z
    · refine if_false_of (by simpa using c) ?_
      have c' : isAt rod face k f = false := by simpa using c
      rw [c'] at tot
      exact ⟨_, rfl, s1.trans s3, tot⟩
  · rintro σ H' ⟨v, rfl, s1, tot⟩
    rw [List.length_map, hall.len, List.drop_length] at tot
    refine ⟨_, rfl, r, dx, _, rfl, s1 _ _ hR, rF_no _ _ _ (by decide +kernel) (by decide +kernel) (by decide +kernel), _, rfl, _, rfl, _, rfl, r, st, rod, face, k, rfl, hRods.same s1, G, h1, h2, h3, ?_⟩
    have z := q H' s1
    have e : Mu13.cell st (rod, face) k = k * Mu13.digitOf st (rod, face) := by
      unfold Mu13.cell
      show (match st.flaws.find? (isAt rod face k) with
        | some f => f.value
        | none => Mu13.digitOf st (rod, face) * k) = _
      rw [← tot, Nat.mul_comm]; rfl
    rw [e] at z
    exact z
end
end LR

/-! the class Rods, the rest; is_box -/
namespace LR
open PySem PySem.Spec PyProof.Rows L2
theorem dec_lt (a b : Nat) : decide ((a : Int) < (b : Int)) = decide (a < b) := by congr 1; exact propext ⟨fun h => by omega, fun h => by omega⟩
theorem dec_le (a b : Nat) : decide ((a : Int) ≤ (b : Int)) = decide (a ≤ b) := by congr 1; exact propext ⟨fun h => by omega, fun h => by omega⟩
section
variable {P : Program} {w : World} {K : PySem.W.Frag} {mg : Str → Option Value} {base : Heap}
/-! has_cell -/
def spHas (CR : Addr) : Sp := fun vs H Q _ => ∃ (r : Addr) (s : Mu13.State) (rod face k : Nat), vs = [.ref r, nV rod, nV face, nV k] ∧ RodsAt CR H r s ∧
  Q (.bl (decide (rod < s.rods.length) && (decide (face < 4) && (decide (1 ≤ k) && decide (k ≤ 9))))) H
theorem scHas : FnScope ["self", "rod", "face", "k"] ["self", "rod", "face", "k"] (defScope sHas) := ⟨rfl, rfl, rfl, by decide +kernel, rfl, by decide +kernel, by decide +kernel⟩
theorem ok_has (T : Txt K mg) : FnOk P w K mg base CX0 1 T.has.f T.has.fd ["self", "rod", "face", "k"] (spHas T.CR) := by
  obtain ⟨t4, h4⟩ := T.c_FACES
  obtain ⟨t9, h9⟩ := T.c_MOST_ROW
  refine T.has.fn.ok scHas (fun vs H Q E h => ?_) (fun cdv A outer s H vs Q E hr h => ?_)
  · obtain ⟨r, st, rod, face, k, rfl, _⟩ := h
    rfl
  obtain ⟨r, st, rod, face, k, rfl, ⟨dx, fa, fl, la, hR, ⟨as, hfa, hall⟩, hfl, hla⟩, q⟩ := h
  refine ⟨_, pss_one (ps_ret (pe_and (pe_cmpR op_lt (pv 1) (pe_callB call_len_seq (by rfl) T.len PySem.boot_len (pa_cons (pe_fld (pv 0) rfl) pa_nil)) (nomark _))
    (pe_and (pe_cmpR op_lt (pv 2) (pe_glob (v := .int 4) rfl h4 ⟨_, rfl⟩) (nomark _)) (pe_one (pe_chain op_le op_le pe_int (pv 3) (pe_glob (v := .int 9) rfl h9 ⟨_, rfl⟩)))))), ?_⟩
  refine ⟨_, rfl, _, rfl, r, T.CR, dx, _, _, rfl, hR, T.clR, T.nFaces, rF_faces _ _ _, fa, _, rfl, .inl (SqL.of hfa), _, _, rfl, rfl, _, rfl, ?_⟩
  rw [List.length_map, hall.len, dec_lt]
  by_cases c1 : rod < st.rods.length
  · refine if_true_of (decide_eq_true c1) ⟨_, rfl, _, _, rfl, rfl, _, rfl, ?_⟩
    rw [decide_eq_true c1, Bool.true_and] at q
    by_cases c2 : face < 4
    · refine if_true_of (decide_eq_true (by omega)) ⟨_, rfl, _, _, rfl, rfl, _, rfl, ?_⟩
      rw [decide_eq_true c2, Bool.true_and] at q
      by_cases c3 : 1 ≤ k
      · refine if_true_of (decide_eq_true (by omega)) ⟨_, _, rfl, rfl, ?_⟩
        rw [decide_eq_true c3, Bool.true_and] at q
        rw [← dec_le] at q
        exact q
      · refine if_false_of (decide_eq_false (by omega)) ?_
        rw [decide_eq_false c3, Bool.false_and] at q
        exact q
    · refine if_false_of (decide_eq_false (by omega)) ?_
      rw [decide_eq_false c2, Bool.false_and] at q
      exact q
  · refine if_false_of (decide_eq_false c1) ?_
    rw [decide_eq_false c1, Bool.false_and] at q
    exact q
/-! cut_cell -/
def spCutCell (CR : Addr) : Sp := fun vs H Q _ => ∃ (r : Addr) (s : Mu13.State) (rod face k v : Nat), vs = [.ref r, nV rod, nV face, nV k, nV v] ∧ RodsAt CR H r s ∧ Good s ∧ rod < s.rods.length ∧ face < 4 ∧ k ≤ 1000 ∧ s.flaws.length ≤ 10000 ∧
  ∀ H', RodsAt CR H' r { s with flaws := cutFlaws s rod face k v } → (∀ b o, H b = some o → b ≠ r → H' b = some o) → Q .non H'
theorem scCutCell : FnScope ["self", "rod", "face", "k", "number", "one"] ["self", "rod", "face", "k", "number"] (defScope sCutCell) := ⟨rfl, rfl, rfl, by decide +kernel, rfl, by decide +kernel, by decide +kernel⟩
theorem RowAt.but {α : Type} {enc : α → HO} {H H' : Hp} {a r C dx : Addr} {fs : List (Str × V)} {xs : List α} (h : RowAt enc H a xs) (hr : H r = some (.ins C dx fs)) (k : ∀ b o, H b = some o → b ≠ r → H' b = some o) (ne : ∀ x C dx fs, enc x ≠ .ins C dx fs) : RowAt enc H' a xs :=
  h.keep (fun b o e n => k b o e (fun q => by subst q; rw [hr] at e; exact n _ _ _ (Option.some.inj e).symm)) ne
theorem ok_cutCell (T : Txt K mg) : FnOk P w K mg base CX0 2 T.cutCell.f T.cutCell.fd ["self", "rod", "face", "k", "number"] (spCutCell T.CR) := by
  have GR : FnOk P w K mg base CX0 1 T.right.f T.right.fd ["self", "rod", "face", "k"] (spRight T.CR) := ok_right T
  refine T.cutCell.fn.ok scCutCell (fun vs H Q E h => ?_) (fun cdv A outer s H vs Q E hr h => ?_)
  · obtain ⟨r, st, rod, face, k, v, rfl, _⟩ := h
    rfl
  obtain ⟨r, st, rod, face, k, v, rfl, hRods, G, h1, h2, h3, hfl10, q⟩ := h
  obtain ⟨dx, fa, fl, la, hR, hfa, ⟨as, hfl, hall⟩, hla⟩ := id hRods
  refine ⟨_, pss_cons (ps_fld (pv 0) (pe_lc (own := [("one", 5)]) (g := gName 5) (tt := tTest (tOp (rNeD K) (tSl (rSlT K) (tVar 5) tNoPart (tPart (tC (.int 3)))) (tTup (tCons (tVar 1) (tCons (tVar 2) (tCons (tVar 3) tNil)))))) rfl scCutCell.nd (pi_list (pe_fld (pv 0) rfl))
      (blkOk_by (own := [("one", 5)]) (N := ["self", "rod", "face", "k", "number", "one"]) (sc := defScope sCutCell) (by decide +kernel)) (fun _ _ _ _ _ => pg_name (i := 5) scCutCell.nd rfl (Or.inl rfl))
      (fun _ _ _ _ _ => pts_one (pt_cmpR (op_neD hr.units) (pe_slice sl_tup (pv 5) po_none (po_some pe_int)) (pe_tup (pa_cons (pv 1) (pa_cons (pv 2) (pa_cons (pv 3) pa_nil)))) (nomark _)))
      (fun _ _ _ _ _ => pv 5)) rfl)
    (pss_one (ps_if (pt_cmpR op_ne (pv 4) (pe_meth (pv 0) T.clR T.right.m GR hr T.right.b .nil pass0 (pa_cons (pv 1) (pa_cons (pv 2) (pa_cons (pv 3) pa_nil)))) (nomark _))
      (pss_one (ps_expr (pe_bm PySem.F.plainAttrs_list PySem.F.slot_list_append PySem.F.type_list_append mt_append (pe_fld (pv 0) rfl)
        (pa_cons (pe_tup (pa_cons (pv 1) (pa_cons (pv 2) (pa_cons (pv 3) (pa_cons (pv 4) pa_nil))))) pa_nil)))) pss_nil)), ?_⟩
  refine ⟨_, rfl, r, T.CR, dx, _, _, rfl, hR, T.clR, T.nFlaws, rF_flaws _ _ _, fl, rfl, ⟨_, SqL.of hfl⟩, fun D hD => ?_⟩
  have nrD : r ≠ D := ne_of_none hR hD
  refine lc_list (K := K) (a := fl) (xs := as.map V.ref) (LcP H D fun i acc H3 => ∃ cs : List Addr, acc = cs.map V.ref ∧ AllAt encF H3 cs ((st.flaws.take i).filter fun x => !isAt rod face k x))
    (LcP.start hD ⟨[], rfl, AllAt.nil⟩) (fun i H' _ h => SqL.of (h.1 _ _ hfl)) ?_ ?_
  · rintro i y H3 hi ⟨s1, acc, e, hl, cs, rfl, hcs⟩
    rw [List.getElem?_map] at hi
    obtain ⟨a, ha, rfl⟩ := Option.map_eq_some_iff.mp hi
    obtain ⟨f, hf, ef⟩ := hall.of ha
    have hil := lt_of_get hf
    have ef1 : H3 a = some (.tup [nV f.rod, nV f.face, nV f.row, nV f.value]) := s1 _ _ ef
    have fm := filter_more (fun x => !isAt rod face k x) hf
    refine ⟨rfl, _, rfl, 3, rfl, a, _, rfl, SqT.of ef1, not_whole _ _ _ _, fun p hp => ?_⟩
    rw [cut3]
    have s2 : Same H3 (upd H3 p (.tup [nV f.rod, nV f.face, nV f.row])) := same_new hp _
    refine ⟨_, rfl, _, rfl, _, rfl, (by show 3 ≤ sizeLine; decide), fun p2 hp2 => ?_⟩
    have npp : p ≠ p2 := ne_of_none upd_same hp2
    have s3 := s2.trans (same_new hp2 (.tup [nV rod, nV face, nV k]))
    refine ⟨.tuple [.int f.rod, .int f.face, .int f.row], .tuple [.int rod, .int face, .int k], .tup (SqT.of (by rw [upd_ne npp, upd_same])) (.cons (.int _) (.cons (.int _) (.cons (.int _) .nil))),
      .tup (SqT.of upd_same) (.cons (.int _) (.cons (.int _) (.cons (.int _) .nil))), shaped3 _ _ _, shaped3 _ _ _, _, rfl, ?_⟩
    rw [eqv3]
    have eD := s3 _ _ e
    by_cases c : isAt rod face k f = true
    · refine if_false_of (by show (!isAt rod face k f) = false; rw [c]; rfl) ?_
      refine LcP.skip (s1.trans s3) eD hl ⟨cs, rfl, ?_⟩
      rw [fm, if_neg (by rw [c]; decide), List.append_nil]
      exact hcs.same s3
    · have c' : isAt rod face k f = false := by simpa using c
      refine if_true_of (by show (!isAt rod face k f) = true; rw [c']; rfl) ⟨_, rfl, ?_⟩
      refine LcP.push hD (s1.trans s3) eD hl (by omega) ⟨cs ++ [a], by rw [List.map_append]; rfl, ?_⟩
      rw [fm, if_pos (by rw [c']; rfl)]
      have a3 := (hcs.same s3).snoc (s3 _ _ ef1)
      exact a3.upd (a3.not fun x z => by rw [eD] at z; cases z)
  · rintro H3 ⟨s1, acc, e, hl, cs, rfl, hcs⟩
    rw [List.length_map, hall.len, List.take_length] at hcs
    have hR3 := s1 _ _ hR
    -- self.flaws = ..
    refine ⟨_, rfl, r, _, dx, _, rfl, hR3, T.clR, T.nFlaws, (by show 3 < 1000; decide), ?_⟩
    rw [rF_setFlaws]
    have kp : ∀ b o, H b = some o → b ≠ r → (upd H3 r (.ins T.CR dx (rF fa D la))) b = some o := fun b o z nb => by rw [upd_ne nb]; exact s1 _ _ z
    have cs4 : AllAt encF (upd H3 r (.ins T.CR dx (rF fa D la))) cs (st.flaws.filter fun x => !isAt rod face k x) := hcs.upd (hcs.not fun x z => by rw [hR3] at z; cases z)
    have e4 : (upd H3 r (.ins T.CR dx (rF fa D la))) D = some (.lst (cs.map V.ref)) := by rw [upd_ne nrD.symm]; exact e
    have hR4 : RodsAt T.CR (upd H3 r (.ins T.CR dx (rF fa D la))) r { st with flaws := st.flaws.filter fun x => !isAt rod face k x } :=
      ⟨dx, fa, D, la, upd_same, hfa.but hR kp encL_ne, ⟨cs, e4, cs4⟩, hla.but hR kp encP_ne⟩
    have hr4 : (upd H3 r (.ins T.CR dx (rF fa D la))) r = some (.ins T.CR dx (rF fa D la)) := upd_same
    have hfl4 : (st.flaws.filter fun x => !isAt rod face k x).length ≤ 10000 := Nat.le_trans (List.length_filter_le _ _) hfl10
    generalize upd H3 r (.ins T.CR dx (rF fa D la)) = H4 at *
    -- if number != self.right_cell(rod, face, k)
    have G4 : Good { st with flaws := st.flaws.filter fun x => !isAt rod face k x } := ⟨G.rods, G.four, fun f hf => G.flaw f (List.mem_filter.mp hf).1, G.laidNd, G.laidIn, G.laidLen⟩
    refine ⟨_, rfl, _, rfl, r, dx, _, rfl, hr4, rF_no _ _ _ (by decide +kernel) (by decide +kernel) (by decide +kernel), _, rfl, _, rfl, _, rfl, r, _, rod, face, k, rfl, hR4, G4, h1, h2, h3, rfl, _, rfl, ?_⟩
    have ed : Mu13.digitOf { st with flaws := st.flaws.filter fun x => !isAt rod face k x } (rod, face) = Mu13.digitOf st (rod, face) := rfl
    rw [ed]
    by_cases c : v = Mu13.digitOf st (rod, face) * k
    · have cv : nV v = nV (k * Mu13.digitOf st (rod, face)) := by rw [c, Nat.mul_comm]
      refine if_false_of (by rw [decide_eq_true cv]; rfl) ?_
      refine q H4 ?_ kp
      unfold cutFlaws
      rw [if_pos c]
      exact hR4
    · have cv : ¬ nV v = nV (k * Mu13.digitOf st (rod, face)) := fun z => c (by injection z with z; rw [Nat.mul_comm]; omega)
      refine if_true_of (by rw [decide_eq_false cv]; rfl) ?_
      refine ⟨_, rfl, r, T.CR, dx, _, _, rfl, hr4, T.clR, T.nFlaws, rF_flaws _ _ _, .inl ⟨rfl, _, SqL.of e4⟩, _, rfl, _, rfl, _, rfl, _, rfl, (by show 4 ≤ sizeLine; decide), fun tp htp => ?_⟩
      have s5 := same_new htp (.tup [nV rod, nV face, nV k, nV v])
      have e5 := s5 _ _ e4
      refine ⟨D, _, _, rfl, rfl, e5, by rw [List.length_map, cs4.len]; exact smallLt (by omega), ?_⟩
      have kp6 : ∀ b o, H b = some o → b ≠ r → (upd (upd H4 tp (.tup [nV rod, nV face, nV k, nV v])) D (.lst (cs.map V.ref ++ [.ref tp]))) b = some o := fun b o z nb => by
        rw [upd_ne (ne_of_none z hD)]; exact s5 _ _ (kp b o z nb)
      have a5 := (cs4.same s5).snoc (x := (⟨rod, face, k, v⟩ : Mu13.Flaw)) (a := tp) upd_same
      refine q _ ⟨dx, fa, D, la, ?_, hfa.but hR kp6 encL_ne, ⟨cs ++ [tp], ?_, ?_⟩, hla.but hR kp6 encP_ne⟩ kp6
      · rw [upd_ne nrD]; exact s5 _ _ hr4
      · rw [upd_same, List.map_append]; rfl
      · show AllAt encF _ (cs ++ [tp]) (cutFlaws st rod face k v)
        unfold cutFlaws
        rw [if_neg c]
        exact a5.upd (a5.not fun x z => by rw [e5] at z; cases z)
/-! laid_digits -/
def spLaidD (CR : Addr) : Sp := fun vs H Q _ => ∃ (r : Addr) (s : Mu13.State), vs = [.ref r] ∧ RodsAt CR H r s ∧ Good s ∧ ∀ (p : Addr) H', Same H H' → H p = none → H' p = some (.lst (NL (s.laid.map (Mu13.digitOf s)))) → Q (.ref p) H'
theorem scLaidD : FnScope ["self", "rod", "face"] ["self"] (defScope sLaidD) := ⟨rfl, rfl, rfl, by decide +kernel, rfl, by decide +kernel, by decide +kernel⟩
theorem ok_laidD (T : Txt K mg) : FnOk P w K mg base CX0 1 T.laidD.f T.laidD.fd ["self"] (spLaidD T.CR) := by
  refine T.laidD.fn.ok scLaidD (fun vs H Q E h => ?_) (fun cdv A outer s H vs Q E hr h => ?_)
  · obtain ⟨r, st, rfl, _⟩ := h
    rfl
  obtain ⟨r, st, rfl, ⟨dx, fa, fl, la, hR, ⟨fas, hfa, hfall⟩, hfl, ⟨as, hla, hall⟩⟩, G, q⟩ := h
  refine ⟨_, pss_one (ps_ret (pe_lc (own := [("rod", 1), ("face", 2)]) (g := gTup K 2 (gCons (gName 1) (gCons (gName 2) gNil))) (tt := tYes) (te := tOp (rIxL K) (tOp (rIxL K) (tFld K (tVar 0) "faces") (tVar 1)) (tVar 2)) rfl scLaidD.nd (pi_list (pe_fld (pv 0) rfl))
    (blkOk_by (own := [("rod", 1), ("face", 2)]) (N := ["self", "rod", "face"]) (sc := defScope sLaidD) (by decide +kernel))
    (fun _ _ _ _ _ => pg_tup rfl (pgs_cons (pg_name (i := 1) scLaidD.nd rfl (Or.inl rfl)) (pgs_cons (pg_name (i := 2) scLaidD.nd rfl (Or.inl rfl)) pgs_nil))) (fun _ _ _ _ _ => pts_nil)
    (fun _ _ _ _ _ => pe_ix ix_list (pe_ix ix_list (pe_fld (pv 0) rfl) (pv 1) (fun _ _ => rfl)) (pv 2) (fun _ _ => rfl)))), ?_⟩
  refine ⟨_, rfl, r, T.CR, dx, _, _, rfl, hR, T.clR, T.nLaid, rF_laid _ _ _, la, rfl, ⟨_, SqL.of hla⟩, fun D hD => ?_⟩
  refine lc_list (K := K) (a := la) (xs := as.map V.ref) (LcP H D fun i acc _ => acc = NL ((st.laid.take i).map (Mu13.digitOf st))) (LcP.start hD rfl) (fun i H' _ h => SqL.of (h.1 _ _ hla)) ?_ ?_
  · rintro i y H3 hi ⟨s1, acc, e, hl, rfl⟩
    rw [List.getElem?_map] at hi
    obtain ⟨a, ha, rfl⟩ := Option.map_eq_some_iff.mp hi
    obtain ⟨p, hp, ep⟩ := hall.of ha
    have hil := lt_of_get hp
    have hl8 := G.laidLen
    obtain ⟨in1, in2⟩ := G.laidIn p (List.mem_of_getElem? hp)
    obtain ⟨row, e1, e2⟩ := digit_at G in1 in2
    obtain ⟨ra, hra, erow⟩ := hfall.get e1
    refine ⟨a, _, rfl, SqT.of (s1 _ _ ep), rfl, _, _, rfl, _, _, rfl, rfl, rfl, ?_⟩
    refine ⟨_, rfl, r, T.CR, dx, _, _, rfl, s1 _ _ hR, T.clR, T.nFaces, rF_faces _ _ _, _, rfl, fa, _, _, .ref ra, rfl, rfl, SqL.of (s1 _ _ hfa), atI_nat (by rw [List.getElem?_map, hra]; rfl), _, rfl, ra, _, _, _, rfl, rfl, SqL.of (s1 _ _ erow), atI_nat (NL_get e2), ?_⟩
    refine LcP.push hD s1 e hl (by omega) ?_
    rw [take_more hp, List.map_append, NL_append]; rfl
  · rintro H3 ⟨s1, acc, e, hl, rfl⟩
    rw [List.length_map, hall.len, List.take_length] at e
    exact q D H3 s1 hD e
/-! row_cells -/
def spRowCells (CR : Addr) : Sp := fun vs H Q _ => ∃ (r : Addr) (s : Mu13.State) (k : Nat), vs = [.ref r, nV k] ∧ RodsAt CR H r s ∧ Good s ∧ k ≤ 1000 ∧ ∀ (p : Addr) H', Same H H' → H p = none → H' p = some (.lst (NL (rowCells s k))) → Q (.ref p) H'
theorem scRowCells : FnScope ["self", "k", "rod", "face"] ["self", "k"] (defScope sRowCells) := ⟨rfl, rfl, rfl, by decide +kernel, rfl, by decide +kernel, by decide +kernel⟩
theorem ok_rowCells (T : Txt K mg) : FnOk P w K mg base CX0 3 T.rowCells.f T.rowCells.fd ["self", "k"] (spRowCells T.CR) := by
  have GC : FnOk P w K mg base CX0 2 T.cell.f T.cell.fd ["self", "rod", "face", "k"] (spCell T.CR) := ok_cell T
  refine T.rowCells.fn.ok scRowCells (fun vs H Q E h => ?_) (fun cdv A outer s H vs Q E hr h => ?_)
  · obtain ⟨r, st, k, rfl, _⟩ := h
    rfl
  obtain ⟨r, st, k, rfl, hRods, G, hk, q⟩ := h
  obtain ⟨dx, fa, fl, la, hR, hfa, hfl, ⟨as, hla, hall⟩⟩ := id hRods
  refine ⟨_, pss_cons (ps_if (pt_cmpR op_eq (pv 1) pe_int (nomark _)) (pss_one (ps_ret (pe_lst pa_nil))) pss_nil)
    (pss_one (ps_ret (pe_lc (own := [("rod", 2), ("face", 3)]) (g := gTup K 2 (gCons (gName 2) (gCons (gName 3) gNil))) (tt := tYes) rfl scRowCells.nd (pi_list (pe_fld (pv 0) rfl))
    (blkOk_by (own := [("rod", 2), ("face", 3)]) (N := ["self", "k", "rod", "face"]) (sc := defScope sRowCells) (by decide +kernel))
    (fun _ _ _ _ _ => pg_tup rfl (pgs_cons (pg_name (i := 2) scRowCells.nd rfl (Or.inl rfl)) (pgs_cons (pg_name (i := 3) scRowCells.nd rfl (Or.inl rfl)) pgs_nil))) (fun _ _ _ _ _ => pts_nil)
    (fun _ _ _ _ _ => pe_meth (pv 0) T.clR T.cell.m GC hr T.cell.b .nil pass0 (pa_cons (pv 2) (pa_cons (pv 3) (pa_cons (pv 1) pa_nil))))))), ?_⟩
  refine ⟨_, rfl, rfl, _, rfl, ?_⟩
  by_cases c : k = 0
  · refine if_true_of (decide_eq_true (show nV k = .int 0 by rw [c]; rfl)) ⟨Nat.zero_le _, fun p hp => ?_⟩
    refine q p _ (same_new hp _) hp ?_
    unfold rowCells
    rw [upd_same, if_pos c]; rfl
  · refine if_false_of (decide_eq_false (show ¬ nV k = .int 0 from fun z => c (by injection z with z; omega))) ?_
    refine ⟨_, rfl, r, T.CR, dx, _, _, rfl, hR, T.clR, T.nLaid, rF_laid _ _ _, la, rfl, ⟨_, SqL.of hla⟩, fun D hD => ?_⟩
    refine lc_list (K := K) (a := la) (xs := as.map V.ref) (LcP H D fun i acc _ => acc = NL ((st.laid.take i).map fun p => Mu13.cell st p k)) (LcP.start hD rfl) (fun i H' _ h => SqL.of (h.1 _ _ hla)) ?_ ?_
    · rintro i y H3 hi ⟨s1, acc, e, hl, rfl⟩
      rw [List.getElem?_map] at hi
      obtain ⟨a, ha, rfl⟩ := Option.map_eq_some_iff.mp hi
      obtain ⟨p, hp, ep⟩ := hall.of ha
      have hil := lt_of_get hp
      have hl8 := G.laidLen
      obtain ⟨in1, in2⟩ := G.laidIn p (List.mem_of_getElem? hp)
      refine ⟨a, _, rfl, SqT.of (s1 _ _ ep), rfl, _, _, rfl, _, _, rfl, rfl, rfl, ?_⟩
      refine ⟨_, rfl, r, dx, _, rfl, s1 _ _ hR, rF_no _ _ _ (by decide +kernel) (by decide +kernel) (by decide +kernel), _, rfl, _, rfl, _, rfl, r, st, p.1, p.2, k, rfl, hRods.same s1, G, in1, in2, hk, fun H4 s4 => ?_⟩
      refine LcP.push hD (s1.trans s4) (s4 _ _ e) hl (by omega) ?_
      rw [take_more hp, List.map_append, NL_append]; rfl
    · rintro H3 ⟨s1, acc, e, hl, rfl⟩
      rw [List.length_map, hall.len, List.take_length] at e
      refine q D H3 s1 hD ?_
      unfold rowCells Mu13.cells
      rw [if_neg c]; exact e
/-! row_read -/
def spRowRead (CR : Addr) : Sp := fun vs H Q _ => ∃ (r : Addr) (s : Mu13.State) (k : Nat), vs = [.ref r, nV k] ∧ RodsAt CR H r s ∧ Good s ∧ k ≤ 1000 ∧ ∀ H', Same H H' → Q (nV (rowRead s k)) H'
theorem scRowRead : FnScope ["self", "k", "found", "number"] ["self", "k"] (defScope sRowRead) := ⟨rfl, rfl, rfl, by decide +kernel, rfl, by decide +kernel, by decide +kernel⟩
theorem ok_rowRead (T : Txt K mg) : FnOk P w K mg base CX0 4 T.rowRead.f T.rowRead.fd ["self", "k"] (spRowRead T.CR) := by
  have GC : FnOk P w K mg base CX0 3 T.rowCells.f T.rowCells.fd ["self", "k"] (spRowCells T.CR) := ok_rowCells T
  refine T.rowRead.fn.ok scRowRead (fun vs H Q E h => ?_) (fun cdv A outer s H vs Q E hr h => ?_)
  · obtain ⟨r, st, k, rfl, _⟩ := h
    rfl
  obtain ⟨r, st, k, rfl, hRods, G, hk, q⟩ := h
  obtain ⟨dx, fa, fl, la, hR, hfa, hfl, hla⟩ := id hRods
  refine ⟨_, pss_cons (ps_set (i := 2) scRowRead.nd rfl (Or.inl rfl) pe_int)
    (pss_cons (ps_for PassesOwn.never rfl (pi_list (pe_meth (pv 0) T.clR T.rowCells.m GC hr T.rowCells.b .nil pass0 (pa_cons (pv 1) pa_nil))) (pg_name (i := 3) scRowRead.nd rfl (Or.inl rfl))
      (pss_one (ps_set (i := 2) scRowRead.nd rfl (Or.inl rfl) (pe_op op_add (pe_op op_mul pe_int (pv 2)) (pv 3)))))
    (pss_one (ps_ret (pv 2)))), ?_⟩
  refine ⟨_, rfl, r, dx, _, rfl, hR, rF_no _ _ _ (by decide +kernel) (by decide +kernel) (by decide +kernel), _, rfl, r, st, k, rfl, hRods, G, hk, fun p H1 s1 np e1 => ?_⟩
  refine ⟨p, rfl, ⟨_, SqL.of e1⟩, ?_⟩
  refine for_list (K := K) (a := p) (xs := NL (rowCells st k)) (fun i σ H' => ∃ v, σ = [some (.ref r), some (nV k), some (nV (Mu13.valueOf ((rowCells st k).take i))), v] ∧ H' = H1) ⟨none, rfl, rfl⟩ (fun i σ H' _ ⟨_, _, e⟩ => by rw [e]; exact SqL.of e1) ?_ ?_
  · rintro i y σ H' hi ⟨v, rfl, rfl⟩
    obtain ⟨d, hd, rfl⟩ := NL_of hi
    refine ⟨_, rfl, _, _, rfl, rfl, .inl ⟨by decide, by decide⟩, _, rfl, _, _, rfl, rfl, ?_⟩
    exact ⟨some (nV d), congrArg (fun z => [some (V.ref r), some (nV k), some (V.int z), some (nV d)]) (val_more hd), rfl⟩
  · rintro σ H' ⟨v, rfl, rfl⟩
    rw [NL_len, List.take_length]
    exact ⟨_, rfl, q _ s1⟩
/-! is_box -/
def spIsBox : Sp := fun vs H Q _ => ∃ (dg : Addr) (ds : List Nat), vs = [.ref dg] ∧ H dg = some (.lst (NL ds)) ∧ ds.length ≤ 10000 ∧ ∀ H', Same H H' → Q (.bl (isBox ds)) H'
theorem scIsBox : FnScope ["digits", "digit"] ["digits"] (defScope sIsBox) := ⟨rfl, rfl, rfl, by decide +kernel, rfl, by decide +kernel, by decide +kernel⟩
theorem ok_isBox (T : Txt K mg) : FnOk P w K mg base CX0 1 T.isBox.f T.isBox.fd ["digits"] spIsBox := by
  obtain ⟨t4, h4⟩ := T.c_FACES
  obtain ⟨t12, h12⟩ := T.c_MOST_RODS
  refine T.isBox.fn.ok scIsBox (fun vs H Q E h => ?_) (fun cdv A outer s H vs Q E hr h => ?_)
  · obtain ⟨dg, ds, rfl, _⟩ := h
    rfl
  obtain ⟨a, l, rfl, ha, hsz, k⟩ := h
  refine ⟨_, pss_one (ps_ret (pe_and (pe_chain op_le op_le pe_int (pe_op op_fdiv (pe_callB call_len_seq (by rfl) T.len PySem.boot_len (pa_cons (pv 0) pa_nil)) (pe_glob (v := .int 4) rfl h4 ⟨_, rfl⟩)) (pe_glob (v := .int 12) rfl h12 ⟨_, rfl⟩))
    (pe_one (pe_callB (cr_all rfl) (by rfl) T.allB (by decide +kernel) (pa_cons (pe_lc (own := [("digit", 1)]) (g := gName 1) (tt := tYes) rfl scIsBox.nd (pi_list (pv 0))
      (blkOk_by (own := [("digit", 1)]) (N := ["digits", "digit"]) (sc := defScope sIsBox) (by decide +kernel)) (fun _ _ _ _ _ => pg_name (i := 1) scIsBox.nd rfl (Or.inl rfl)) (fun _ _ _ _ _ => pts_nil)
      (fun _ _ _ _ _ => pe_cmpR op_le (pv 1) pe_int (nomark _))) pa_nil))))), ?_⟩
  refine ⟨_, rfl, a, _, rfl, .inl (SqL.of ha), _, _, rfl, rfl, ⟨by decide, by decide⟩, _, _, rfl, rfl, _, rfl, ?_⟩
  have ediv : ((((NL l).length : Nat) : Int) / 4) = ((l.length / 4 : Nat) : Int) := by rw [NL_len]; omega
  rw [ediv]
  by_cases c1 : 1 ≤ l.length / 4
  · refine if_true_of (decide_eq_true (by omega)) ⟨_, _, rfl, rfl, _, rfl, ?_⟩
    by_cases c2 : l.length / 4 ≤ 12
    · refine if_true_of (decide_eq_true (by omega)) ⟨_, rfl, a, rfl, ⟨_, SqL.of ha⟩, fun D hD => ?_⟩
      refine lc_list (K := K) (a := a) (xs := NL l) (LcP H D fun i acc _ => acc = ((l.take i).map fun d : Nat => decide ((d : Int) ≤ 9)).map V.bl) (LcP.start hD rfl) (fun i H' _ h => SqL.of (h.1 _ _ ha)) ?_ ?_
      · rintro i y H' hi ⟨s1, acc, e, hl, rfl⟩
        obtain ⟨d, hd, rfl⟩ := NL_of hi
        refine ⟨rfl, _, rfl, _, _, rfl, rfl, ?_⟩
        refine LcP.push hD s1 e hl (by have := lt_of_get hd; omega) ?_
        rw [take_more hd, List.map_append, List.map_append]; rfl
      · rintro H' ⟨s1, acc, e, hl, rfl⟩
        rw [NL_len, List.take_length] at e
        refine ⟨D, _, rfl, SqL.of e, ?_⟩
        rw [all_map_id]
        have q := k H' s1
        unfold isBox at q
        rw [decide_eq_true c1, decide_eq_true c2, Bool.true_and, Bool.true_and] at q
        have e3 : (l.all fun (d : Nat) => decide (d ≤ 9)) = l.all fun d => decide ((d : Int) ≤ 9) := by
          congr 1; funext d; congr 1; exact propext ⟨fun h => by omega, fun h => by omega⟩
        rw [e3] at q
        exact q
    · refine if_false_of (decide_eq_false (by omega)) ?_
      have q := k H (Same.refl H)
      unfold isBox at q
      rw [decide_eq_false c2, Bool.false_and, Bool.and_false] at q
      exact q
  · refine if_false_of (decide_eq_false (by omega)) ⟨_, rfl, ?_⟩
    refine iteF ?_
    have q := k H (Same.refl H)
    unfold isBox at q
    rw [decide_eq_false c1, Bool.false_and] at q
    exact q
end
end LR

/-! reckoning: product, greatest_row, parted, root_of, all_readings, arrows, is_shown; flat -/
namespace LR
open PySem PySem.Spec PyProof.Rows L2
theorem int_eq {z z' : Int} {Q : V → Hp → Prop} {H : Hp} (e : z = z') (h : Q (.int z') H) : Q (.int z) H := by rw [e]; exact h
theorem productOf_snoc (s : Mu13.State) (l : List Nat) (d : Nat) : productOf s (l ++ [d]) = 10 * productOf s l + rowRead s d := by
  unfold productOf; rw [List.foldl_append]; rfl
section
variable {P : Program} {w : World} {K : PySem.W.Frag} {mg : Str → Option Value} {base : Heap}
/-! product -/
def spProduct (CR : Addr) : Sp := fun vs H Q _ => ∃ (r dg : Addr) (s : Mu13.State) (ds : List Nat), vs = [.ref r, .ref dg] ∧ RodsAt CR H r s ∧ Good s ∧ H dg = some (.lst (NL ds)) ∧ (∀ d ∈ ds, d ≤ 9) ∧ ∀ H', Same H H' → Q (nV (productOf s ds)) H'
theorem scProduct : FnScope ["rods", "digits", "found", "digit"] ["rods", "digits"] (defScope sProduct) := ⟨rfl, rfl, rfl, by decide +kernel, rfl, by decide +kernel, by decide +kernel⟩
theorem ok_product (T : Txt K mg) : FnOk P w K mg base CX0 5 T.product.f T.product.fd ["rods", "digits"] (spProduct T.CR) := by
  have GR : FnOk P w K mg base CX0 4 T.rowRead.f T.rowRead.fd ["self", "k"] (spRowRead T.CR) := ok_rowRead T
  refine T.product.fn.ok scProduct (fun vs H Q E h => ?_) (fun cdv A outer s H vs Q E hr h => ?_)
  · obtain ⟨r, dg, st, ds, rfl, _⟩ := h
    rfl
  obtain ⟨r, dg, st, ds, rfl, hRods, G, hdg, h9, q⟩ := h
  obtain ⟨dx, fa, fl, la, hR, _, _, _⟩ := id hRods
  refine ⟨_, pss_cons (ps_set (i := 2) scProduct.nd rfl (Or.inl rfl) pe_int)
    (pss_cons (ps_for PassesOwn.never rfl (pi_list (pv 1)) (pg_name (i := 3) scProduct.nd rfl (Or.inl rfl))
      (pss_one (ps_set (i := 2) scProduct.nd rfl (Or.inl rfl) (pe_op op_add (pe_op op_mul pe_int (pv 2)) (pe_meth (pv 0) T.clR T.rowRead.m GR hr T.rowRead.b .nil pass0 (pa_cons (pv 3) pa_nil))))))
    (pss_one (ps_ret (pv 2)))), ?_⟩
  refine ⟨_, rfl, dg, rfl, ⟨_, SqL.of hdg⟩, ?_⟩
  refine for_list (K := K) (a := dg) (xs := NL ds) (fun i σ H' => ∃ v, σ = [some (.ref r), some (.ref dg), some (nV (productOf st (ds.take i))), v] ∧ Same H H') ⟨none, rfl, Same.refl _⟩ (fun i σ H' _ ⟨_, _, s1⟩ => SqL.of (s1 _ _ hdg)) ?_ ?_
  · rintro i y σ H' hi ⟨v, rfl, s1⟩
    obtain ⟨d, hd, rfl⟩ := NL_of hi
    refine ⟨_, rfl, _, _, rfl, rfl, .inl ⟨by decide, by decide⟩, _, rfl, r, dx, _, rfl, s1 _ _ hR, rF_no _ _ _ (by decide +kernel) (by decide +kernel) (by decide +kernel), _, rfl, r, st, d, rfl, hRods.same s1, G, ?_, fun H2 s2 => ?_⟩
    · have := h9 d (List.mem_of_getElem? hd); omega
    refine ⟨_, _, rfl, rfl, ?_⟩
    refine ⟨some (nV d), ?_, s1.trans s2⟩
    have e : (10 : Int) * (productOf st (ds.take i) : Int) + (rowRead st d : Int) = (productOf st (ds.take (i + 1)) : Int) := by
      rw [take_more hd, productOf_snoc]; push_cast; rfl
    exact congrArg (fun z => [some (V.ref r), some (V.ref dg), some (V.int z), some (nV d)]) e
  · rintro σ H' ⟨v, rfl, s1⟩
    rw [NL_len, List.take_length]
    exact ⟨_, rfl, q _ s1⟩
/-! all_readings -/
def spReadings (CR : Addr) : Sp := fun vs H Q _ => ∃ (r : Addr) (s : Mu13.State), vs = [.ref r] ∧ RodsAt CR H r s ∧ Good s ∧ ∀ (p : Addr) H', Same H H' → H p = none → H' p = some (.lst (NL (readings s))) → Q (.ref p) H'
theorem scReadings : FnScope ["rods", "k"] ["rods"] (defScope sReadings) := ⟨rfl, rfl, rfl, by decide +kernel, rfl, by decide +kernel, by decide +kernel⟩
theorem ok_readings (T : Txt K mg) : FnOk P w K mg base CX0 5 T.readings.f T.readings.fd ["rods"] (spReadings T.CR) := by
  have GR : FnOk P w K mg base CX0 4 T.rowRead.f T.rowRead.fd ["self", "k"] (spRowRead T.CR) := ok_rowRead T
  obtain ⟨t9, h9⟩ := T.c_MOST_ROW
  refine T.readings.fn.ok scReadings (fun vs H Q E h => ?_) (fun cdv A outer s H vs Q E hr h => ?_)
  · obtain ⟨r, st, rfl, _⟩ := h
    rfl
  obtain ⟨r, st, rfl, hRods, G, q⟩ := h
  obtain ⟨dx, fa, fl, la, hR, _, _, _⟩ := id hRods
  refine ⟨_, pss_one (ps_ret (pe_lc (own := [("k", 1)]) (g := gName 1) (tt := tYes) rfl scReadings.nd (pi_range1 rfl T.range (pa_cons (pe_op op_add (pe_glob (v := .int 9) rfl h9 ⟨_, rfl⟩) pe_int) pa_nil))
    (blkOk_by (own := [("k", 1)]) (N := ["rods", "k"]) (sc := defScope sReadings) (by decide +kernel)) (fun _ _ _ _ _ => pg_name (i := 1) scReadings.nd rfl (Or.inl rfl)) (fun _ _ _ _ _ => pts_nil)
    (fun _ _ _ _ _ => pe_meth (pv 0) T.clR T.rowRead.m GR hr T.rowRead.b .nil pass0 (pa_cons (pv 1) pa_nil)))), ?_⟩
  refine ⟨_, _, rfl, rfl, 10, rfl, by decide, by decide, fun D hD => ?_⟩
  refine lc_range (lo := 0) (n := 10) (LcP H D fun i acc _ => acc = NL ((List.range i).map fun k => rowRead st k)) (LcP.start hD rfl) ?_ ?_
  · rintro i H3 hi ⟨s1, acc, e, hl, rfl⟩
    refine ⟨rfl, _, rfl, r, dx, _, rfl, s1 _ _ hR, rF_no _ _ _ (by decide +kernel) (by decide +kernel) (by decide +kernel), _, rfl, r, st, i, by rw [Int.zero_add]; rfl, hRods.same s1, G, by omega, fun H4 s4 => ?_⟩
    refine LcP.push hD (s1.trans s4) (s4 _ _ e) hl (by omega) ?_
    rw [List.range_succ, List.map_append, NL_append]; rfl
  · rintro H3 ⟨s1, acc, e, hl, rfl⟩
    exact q D H3 s1 hD e
/-! greatest_row -/
def spGreatest : Sp := fun vs H Q _ => ∃ (ra : Addr) (rd : List Nat) (left : Nat), vs = [.ref ra, nV left] ∧ H ra = some (.lst (NL rd)) ∧ rd.length ≤ 1000 ∧ rd[0]? = some 0 ∧ ∀ H', Same H H' → Q (nV (greatestRow rd left)) H'
theorem scGreatest : FnScope ["readings", "left", "k", "number"] ["readings", "left"] (defScope sGreatest) := ⟨rfl, rfl, rfl, by decide +kernel, rfl, by decide +kernel, by decide +kernel⟩
theorem ok_greatest (T : Txt K mg) : FnOk P w K mg base CX0 1 T.greatest.f T.greatest.fd ["readings", "left"] spGreatest := by
  refine T.greatest.fn.ok scGreatest (fun vs H Q E h => ?_) (fun cdv A outer s H vs Q E hr h => ?_)
  · obtain ⟨ra, rd, left, rfl, _⟩ := h
    rfl
  obtain ⟨ra, rd, left, rfl, hra, hsz, h0, q⟩ := h
  refine ⟨_, pss_one (ps_ret (pe_ix ix_list (pe_lc (own := [("k", 2), ("number", 3)]) (g := gTup K 2 (gCons (gName 2) (gCons (gName 3) gNil))) rfl scGreatest.nd (pi_enum (by rfl) T.enumB (pa_cons (pv 0) pa_nil))
    (blkOk_by (own := [("k", 2), ("number", 3)]) (N := ["readings", "left", "k", "number"]) (sc := defScope sGreatest) (by decide +kernel))
    (fun _ _ _ _ _ => pg_tup rfl (pgs_cons (pg_name (i := 2) scGreatest.nd rfl (Or.inl rfl)) (pgs_cons (pg_name (i := 3) scGreatest.nd rfl (Or.inl rfl)) pgs_nil)))
    (fun _ _ _ _ _ => pts_one (pt_cmpR op_le (pv 3) (pv 1) (nomark _)))
    (fun _ _ _ _ _ => pv 2)) (pe_un un_neg pe_int) (fun _ _ => rfl))), ?_⟩
  refine ⟨_, rfl, ra, _, rfl, SqL.of hra, fun D hD => ?_⟩
  refine lc_enum (K := K) (a := ra) (xs := NL rd) (LcP H D fun i acc _ => acc = NL ((List.range i).filter fun k => decide (rd.getD k 0 ≤ left))) (LcP.start hD rfl) (fun i H' _ h => SqL.of (h.1 _ _ hra)) ?_ ?_
  · rintro i y H3 TT hi ⟨s1, acc, e, hl, rfl⟩ hTT
    obtain ⟨d, hd, rfl⟩ := NL_of hi
    have hil := lt_of_get hd
    have s2 := same_new hTT (.tup [.int (i : Nat), nV d])
    refine ⟨TT, _, rfl, SqT.of upd_same, rfl, _, _, rfl, _, _, rfl, rfl, rfl, ?_⟩
    refine ⟨_, rfl, _, rfl, _, _, rfl, rfl, _, rfl, ?_⟩
    rw [dec_le]
    have eD := s2 _ _ e
    have fm : (List.range (i + 1)).filter (fun k => decide (rd.getD k 0 ≤ left)) = (List.range i).filter (fun k => decide (rd.getD k 0 ≤ left)) ++ (if d ≤ left then [i] else []) := by
      rw [List.range_succ, List.filter_append, List.filter_cons, List.filter_nil, getD_of_get hd]
      by_cases c : d ≤ left
      · rw [if_pos (decide_eq_true c), if_pos c]
      · rw [if_neg (by rw [decide_eq_false c]; decide), if_neg c]
    by_cases c : d ≤ left
    · refine if_true_of (decide_eq_true c) ⟨_, rfl, ?_⟩
      refine LcP.push hD (s1.trans s2) eD hl (by omega) ?_
      rw [fm, if_pos c, NL_append]; rfl
    · refine if_false_of (decide_eq_false c) ?_
      refine LcP.skip (s1.trans s2) eD hl ?_
      rw [fm, if_neg c, List.append_nil]
  · rintro H3 ⟨s1, acc, e, hl, rfl⟩
    rw [NL_len] at e
    have hne : (List.range rd.length).filter (fun k => decide (rd.getD k 0 ≤ left)) ≠ [] := by
      intro z
      have m : 0 ∈ (List.range rd.length).filter (fun k => decide (rd.getD k 0 ≤ left)) := List.mem_filter.mpr ⟨List.mem_range.mpr (lt_of_get h0), decide_eq_true (by rw [getD_of_get h0]; omega)⟩
      rw [z] at m; simp at m
    have z := q H3 s1
    unfold greatestRow at z
    generalize (List.range rd.length).filter (fun k => decide (rd.getD k 0 ≤ left)) = L at *
    have eL := List.dropLast_concat_getLast hne
    refine ⟨1, rfl, D, _, _, _, rfl, rfl, SqL.of e, (by rw [← eL, NL_append]; exact atI_last _ _), ?_⟩
    rw [List.getLast?_eq_some_getLast hne] at z
    exact z
/-! parted -/
def spParted : Sp := fun vs H Q _ => ∃ (ra dg : Addr) (s : Mu13.State) (ds : List Nat), vs = [.ref ra, .ref dg] ∧ H ra = some (.lst (NL (readings s))) ∧ Good s ∧ H dg = some (.lst (NL ds)) ∧ ds.length ≤ 1000 ∧
  ∀ (p q : Addr) H', Same H H' → H' p = some (.tup [.ref q, nV (Mu13.quotient s 0 ds).2]) → H' q = some (.lst (NL (Mu13.quotient s 0 ds).1)) → Q (.ref p) H'
theorem scParted : FnScope ["readings", "digits", "left", "found", "digit", "k"] ["readings", "digits"] (defScope sParted) := ⟨rfl, rfl, rfl, by decide +kernel, rfl, by decide +kernel, by decide +kernel⟩
theorem readings_get {s : Mu13.State} {k : Nat} (h : k ≤ 9) : (readings s)[k]? = some (rowRead s k) := by
  unfold readings
  rw [List.getElem?_map, List.getElem?_range (by omega)]; rfl
theorem readings_zero (s : Mu13.State) : (readings s)[0]? = some 0 := by
  rw [readings_get (by decide)]; rfl
theorem quotient_cons (s : Mu13.State) (r d : Nat) (l : List Nat) : Mu13.quotient s r (d :: l) = (Mu13.greatest s (10 * r + d) :: (Mu13.quotient s (10 * r + d - Mu13.rowValue s (Mu13.greatest s (10 * r + d))) l).1, (Mu13.quotient s (10 * r + d - Mu13.rowValue s (Mu13.greatest s (10 * r + d))) l).2) := rfl
theorem ok_parted (T : Txt K mg) : FnOk P w K mg base CX0 2 T.parted.f T.parted.fd ["readings", "digits"] spParted := by
  have GG : FnOk P w K mg base CX0 1 T.greatest.f T.greatest.fd ["readings", "left"] spGreatest := ok_greatest T
  refine T.parted.fn.ok scParted (fun vs H Q E h => ?_) (fun cdv A outer s H vs Q E hr h => ?_)
  · obtain ⟨ra, dg, st, ds, rfl, _⟩ := h
    rfl
  obtain ⟨ra, dg, st, ds, rfl, hra, G, hdg, hsz, q⟩ := h
  refine ⟨_, pss_cons (ps_set (i := 2) scParted.nd rfl (Or.inl rfl) pe_int)
    (pss_cons (ps_set (i := 3) scParted.nd rfl (Or.inl rfl) (pe_lst pa_nil))
    (pss_cons (ps_for PassesOwn.never rfl (pi_list (pv 1)) (pg_name (i := 4) scParted.nd rfl (Or.inl rfl))
      (pss_cons (ps_set (i := 2) scParted.nd rfl (Or.inl rfl) (pe_op op_add (pe_op op_mul pe_int (pv 2)) (pv 4)))
      (pss_cons (ps_set (i := 5) scParted.nd rfl (Or.inl rfl) (pe_call GG hr rfl T.greatest.g T.greatest.fn.kp T.greatest.b .nil pass0 (pa_cons (pv 0) (pa_cons (pv 2) pa_nil))))
      (pss_cons (ps_expr (pe_bm PySem.F.plainAttrs_list PySem.F.slot_list_append PySem.F.type_list_append mt_append (pv 3) (pa_cons (pv 5) pa_nil)))
      (pss_one (ps_set (i := 2) scParted.nd rfl (Or.inl rfl) (pe_op op_sub (pv 2) (pe_ix ix_list (pv 0) (pv 5) (fun _ _ => rfl)))))))))
    (pss_one (ps_ret (pe_tup (pa_cons (pv 3) (pa_cons (pv 2) pa_nil))))))), ?_⟩
  refine ⟨Nat.zero_le _, fun fo hfo => ?_⟩
  have s1 : Same H (upd H fo (.lst [])) := same_new hfo _
  refine ⟨_, rfl, dg, rfl, ⟨_, SqL.of (s1 _ _ hdg)⟩, ?_⟩
  refine for_list (K := K) (a := dg) (xs := NL ds) (fun i σ H' => ∃ (v1 v2 : Option V) (lf : Nat) (done : List Nat), σ = [some (.ref ra), some (.ref dg), some (nV lf), some (.ref fo), v1, v2] ∧ Same H H' ∧ H' fo = some (.lst (NL done)) ∧ done.length ≤ i ∧
      done ++ (Mu13.quotient st lf (ds.drop i)).1 = (Mu13.quotient st 0 ds).1 ∧ (Mu13.quotient st lf (ds.drop i)).2 = (Mu13.quotient st 0 ds).2)
    ⟨none, none, 0, [], rfl, s1, upd_same, Nat.le_refl _, rfl, rfl⟩ (fun i σ H' _ ⟨_, _, _, _, _, s2, _⟩ => SqL.of (s2 _ _ hdg)) ?_ ?_
  · rintro i y σ H' hi ⟨v1, v2, lf, done, rfl, s2, efo, hdl, tot1, tot2⟩
    obtain ⟨d, hd, rfl⟩ := NL_of hi
    have hil := lt_of_get hd
    rw [drop_more hd, quotient_cons] at tot1 tot2
    have en : (10 : Int) * (lf : Int) + (d : Int) = ((10 * lf + d : Nat) : Int) := by push_cast; rfl
    refine ⟨_, rfl, _, _, rfl, rfl, .inl ⟨by decide, by decide⟩, _, rfl, _, _, rfl, rfl, ?_⟩
    dsimp only
    rw [en]
    refine ⟨_, rfl, _, rfl, ra, readings st, 10 * lf + d, rfl, s2 _ _ hra, by unfold readings; simp, readings_zero st, fun H3 s3 => ?_⟩
    rw [← greatest_eq G]
    obtain ⟨g9, gle⟩ := greatest_le (s := st) (10 * lf + d)
    have erv := rowValue_eq G g9
    generalize Mu13.greatest st (10 * lf + d) = g at *
    have efo3 := s3 _ _ efo
    refine ⟨_, rfl, .inl ⟨rfl, _, SqL.of efo3⟩, _, rfl, fo, _, _, rfl, rfl, efo3, by rw [NL_len]; exact smallLt (by omega), ?_⟩
    have nrf : ra ≠ fo := ne_of_none hra hfo
    refine ⟨_, rfl, _, rfl, _, rfl, ra, _, _, _, rfl, rfl, SqL.of (by rw [upd_ne nrf]; exact s3 _ _ (s2 _ _ hra)), atI_nat (NL_get (readings_get g9)), _, _, rfl, rfl, ?_⟩
    have es : ((10 * lf + d : Nat) : Int) - (rowRead st g : Int) = ((10 * lf + d - Mu13.rowValue st g : Nat) : Int) := by rw [erv] at gle ⊢; omega
    dsimp only
    rw [es]
    refine ⟨_, _, 10 * lf + d - Mu13.rowValue st g, done ++ [g], rfl, same_upd (s2.trans s3) hfo, ?_, ?_, ?_, tot2⟩
    · rw [upd_same, NL_append]; rfl
    · rw [List.length_append]; exact Nat.succ_le_succ hdl
    · rw [List.append_assoc]; exact tot1
  · rintro σ H' ⟨v1, v2, lf, done, rfl, s2, efo, hdl, tot1, tot2⟩
    rw [NL_len, List.drop_length] at tot1 tot2
    have tot1 : done ++ [] = _ := tot1
    have tot2 : lf = _ := tot2
    rw [List.append_nil] at tot1
    refine ⟨_, rfl, _, rfl, (by show 2 ≤ sizeLine; decide), fun p hp => ?_⟩
    refine q p fo _ (s2.trans (same_new hp _)) ?_ ?_
    · rw [upd_same, ← tot2]
    · rw [upd_ne (ne_of_none efo hp), ← tot1]; exact efo
/-! root_of -/
def spRootOf : Sp := fun vs H Q _ => ∃ (n : Nat), vs = [nV n] ∧ Q (nV (rootOf n)) H
theorem scRootOf : FnScope ["number", "found", "bit", "more"] ["number"] (defScope sRootOf) := ⟨rfl, rfl, rfl, by decide +kernel, rfl, by decide +kernel, by decide +kernel⟩
theorem ok_rootOf (T : Txt K mg) : FnOk P w K mg base CX0 1 T.rootOf.f T.rootOf.fd ["number"] spRootOf := by
  obtain ⟨t27, h27⟩ := T.c_BITS
  refine T.rootOf.fn.ok scRootOf (fun vs H Q E h => ?_) (fun cdv A outer s H vs Q E hr h => ?_)
  · obtain ⟨n, rfl, _⟩ := h
    rfl
  obtain ⟨n, rfl, q⟩ := h
  refine ⟨_, pss_cons (ps_set (i := 1) scRootOf.nd rfl (Or.inl rfl) pe_int)
    (pss_cons (ps_for PassesOwn.never rfl (pi_range3 rfl T.range (pa_cons (pe_glob (v := .int 27) rfl h27 ⟨_, rfl⟩) (pa_cons (pe_un un_neg pe_int) (pa_cons (pe_un un_neg pe_int) pa_nil)))) (pg_name (i := 2) scRootOf.nd rfl (Or.inl rfl))
      (pss_cons (ps_set (i := 3) scRootOf.nd rfl (Or.inl rfl) (pe_op op_add (pv 1) (pe_op op_shl pe_int (pv 2))))
      (pss_one (ps_if (pt_cmpR op_le (pe_op op_mul (pv 3) (pv 3)) (pv 0) (nomark _)) (pss_one (ps_set (i := 1) scRootOf.nd rfl (Or.inl rfl) (pv 3))) pss_nil))))
    (pss_one (ps_ret (pv 1)))), ?_⟩
  refine ⟨1, rfl, 1, rfl, 27, -1, -1, 28, rfl, RgC.neg (i := 27) (j := -1) (by decide) (by decide) (by decide) (by decide), ?_⟩
  refine for_rangeC (lo := 27) (c := -1) (n := 28) (fun i σ H' => ∃ (v1 v2 : Option V) (f : Nat), σ = [some (nV n), some (nV f), v1, v2] ∧ H' = H ∧ f + 2 ^ (28 - i) ≤ 2 ^ 28 ∧ rootBits n (28 - i) f = rootOf n)
    ⟨none, none, 0, rfl, rfl, by decide, rfl⟩ ?_ ?_
  · rintro i σ H' hi ⟨v1, v2, f, rfl, rfl, hf, tot⟩
    obtain ⟨b, hb⟩ : ∃ b, 28 - i = b + 1 := ⟨27 - i, by omega⟩
    have hb' : 28 - (i + 1) = b := by omega
    rw [hb] at tot hf
    have tot : rootBits n b (if (f + 2 ^ b) * (f + 2 ^ b) ≤ n then f + 2 ^ b else f) = _ := tot
    have ebit : (27 : Int) + (i : Nat) * (-1) = (b : Int) := by omega
    rw [ebit]
    have e2 : 2 ^ (b + 1) = 2 ^ b + 2 ^ b := by rw [Nat.pow_succ]; omega
    have pb : 0 < 2 ^ b := Nat.pow_pos (by decide)
    refine ⟨_, rfl, _, rfl, _, _, rfl, rfl, ⟨by omega, by omega, by decide⟩, _, _, rfl, rfl, ?_⟩
    have em : (f : Int) + 1 * 2 ^ (b : Int).toNat = ((f + 2 ^ b : Nat) : Int) := by
      rw [Int.toNat_natCast, Int.one_mul]; push_cast; rfl
    dsimp only
    rw [em]
    refine ⟨_, rfl, _, rfl, _, _, rfl, rfl, .inl ⟨by omega, by omega⟩, _, rfl, _, _, rfl, rfl, _, rfl, ?_⟩
    have ec : decide (((f + 2 ^ b : Nat) : Int) * ((f + 2 ^ b : Nat) : Int) ≤ (n : Int)) = decide ((f + 2 ^ b) * (f + 2 ^ b) ≤ n) := by
      rw [← dec_le]; push_cast; rfl
    rw [ec]
    by_cases c : (f + 2 ^ b) * (f + 2 ^ b) ≤ n
    · refine if_true_of (decide_eq_true c) ⟨_, rfl, ?_⟩
      rw [if_pos c] at tot
      exact ⟨_, _, f + 2 ^ b, rfl, rfl, by rw [hb']; omega, by rw [hb']; exact tot⟩
    · refine if_false_of (decide_eq_false c) ?_
      rw [if_neg c] at tot
      exact ⟨_, _, f, rfl, rfl, by rw [hb']; omega, by rw [hb']; exact tot⟩
  · rintro σ H' ⟨v1, v2, f, rfl, rfl, hf, tot⟩
    have tot : f = rootOf n := tot
    subst tot
    exact ⟨_, rfl, q⟩
/-! arrows -/
def spArrows : Sp := fun vs H Q _ => ∃ (dg : Addr) (ds : List Nat) (k : Nat), vs = [.ref dg, nV k] ∧ H dg = some (.lst (NL ds)) ∧ ds.length ≤ 1000 ∧ k ≤ 1000 ∧ ∀ (p : Addr) H', Same H H' → H p = none → H' p = some (.lst (NL (flat2 (Mu13.arrows k 0 ds.reverse)))) → Q (.ref p) H'
theorem scArrows : FnScope ["digits", "k", "found", "handed", "digit", "both"] ["digits", "k"] (defScope sArrows) := ⟨rfl, rfl, rfl, by decide +kernel, rfl, by decide +kernel, by decide +kernel⟩
theorem rev_get {α : Type} {l : List α} {i : Nat} (h : i < l.length) : l.reverse[i]? = l[l.length - 1 - i]? := by
  rw [List.getElem?_reverse h]
theorem ok_arrows (T : Txt K mg) : FnOk P w K mg base CX0 1 T.arrows.f T.arrows.fd ["digits", "k"] spArrows := by
  refine T.arrows.fn.ok scArrows (fun vs H Q E h => ?_) (fun cdv A outer s H vs Q E hr h => ?_)
  · obtain ⟨dg, ds, k, rfl, _⟩ := h
    rfl
  obtain ⟨dg, ds, k, rfl, hdg, hsz, hk, q⟩ := h
  refine ⟨_, pss_cons (ps_set (i := 2) scArrows.nd rfl (Or.inl rfl) (pe_lst pa_nil))
    (pss_cons (ps_set (i := 3) scArrows.nd rfl (Or.inl rfl) pe_int)
    (pss_cons (ps_for PassesOwn.never rfl (pi_reversed (by rfl) T.revB (pa_cons (pv 0) pa_nil)) (pg_name (i := 4) scArrows.nd rfl (Or.inl rfl))
      (pss_cons (ps_set (i := 5) scArrows.nd rfl (Or.inl rfl) (pe_op op_add (pe_op op_mul (pv 1) (pv 4)) (pv 3)))
      (pss_cons (ps_set (i := 3) scArrows.nd rfl (Or.inl rfl) (pe_op op_fdiv (pv 5) pe_int))
      (pss_one (ps_expr (pe_bm PySem.F.plainAttrs_list PySem.F.slot_list_extend PySem.F.type_list_extend mt_extend (pv 2) (pa_cons (pe_lst (pa_cons (pv 3) (pa_cons (pe_op op_mod (pv 5) pe_int) pa_nil))) pa_nil)))))))
    (pss_one (ps_ret (pv 2))))), ?_⟩
  refine ⟨Nat.zero_le _, fun fo hfo => ?_⟩
  have s1 : Same H (upd H fo (.lst [])) := same_new hfo _
  refine ⟨_, rfl, dg, _, rfl, SqL.of (s1 _ _ hdg), ?_⟩
  refine for_rev (K := K) (a := dg) (xs := NL ds) (fun i σ H' => ∃ (v1 v2 : Option V) (c : Nat) (done : List Nat), σ = [some (.ref dg), some (nV k), some (.ref fo), some (nV c), v1, v2] ∧ Same H H' ∧ H' fo = some (.lst (NL done)) ∧ done.length ≤ 2 * i ∧
      done ++ flat2 (Mu13.arrows k c (ds.reverse.drop i)) = flat2 (Mu13.arrows k 0 ds.reverse))
    ⟨none, none, 0, [], rfl, s1, upd_same, Nat.le_refl _, rfl⟩ (fun i σ H' _ ⟨_, _, _, _, _, s2, _⟩ => SqL.of (s2 _ _ hdg)) ?_ ?_
  · rintro i y σ H' hil hi ⟨v1, v2, c, done, rfl, s2, efo, hdl, tot⟩
    obtain ⟨d, hd, rfl⟩ := NL_of hi
    rw [NL_len] at hd hil
    have hrev : ds.reverse[i]? = some d := by rw [rev_get hil]; exact hd
    rw [drop_more hrev] at tot
    have tot : done ++ ([(d * k + c) / 10, (d * k + c) % 10] ++ flat2 (Mu13.arrows k ((d * k + c) / 10) (ds.reverse.drop (i + 1)))) = _ := tot
    have eb : (k : Int) * (d : Int) + (c : Int) = ((d * k + c : Nat) : Int) := by push_cast; rw [Int.mul_comm]
    refine ⟨_, rfl, _, rfl, _, _, rfl, rfl, .inl ⟨by omega, by omega⟩, _, rfl, _, _, rfl, rfl, ?_⟩
    dsimp only
    rw [eb]
    refine ⟨_, rfl, _, _, rfl, rfl, ⟨by decide, by decide⟩, ?_⟩
    have ed : ((d * k + c : Nat) : Int) / 10 = (((d * k + c) / 10 : Nat) : Int) := by omega
    dsimp only
    rw [ed]
    refine ⟨_, rfl, .inl ⟨rfl, _, SqL.of efo⟩, _, rfl, _, rfl, _, _, rfl, rfl, (by show (0 : Int) < 10; decide), (by show 2 ≤ sizeLine; decide), fun p hp => ?_⟩
    have em : ((d * k + c : Nat) : Int) % 10 = (((d * k + c) % 10 : Nat) : Int) := by omega
    dsimp only
    rw [em]
    have s3 := same_new hp (.lst [nV ((d * k + c) / 10), nV ((d * k + c) % 10)])
    have efo3 := s3 _ _ efo
    refine ⟨fo, p, _, _, rfl, rfl, efo3, upd_same, by rw [NL_len]; show _ + 2 ≤ _; exact small (by omega), ?_⟩
    refine ⟨_, _, (d * k + c) / 10, done ++ [(d * k + c) / 10, (d * k + c) % 10], rfl, same_upd (s2.trans s3) hfo, ?_, ?_, ?_⟩
    · rw [upd_same, NL_append]; rfl
    · rw [List.length_append]; show _ + 2 ≤ _; omega
    · rw [List.append_assoc]; exact tot
  · rintro σ H' ⟨v1, v2, c, done, rfl, s2, efo, hdl, tot⟩
    rw [NL_len, show ds.length = ds.reverse.length by simp, List.drop_length] at tot
    have tot : done ++ [] = _ := tot
    rw [List.append_nil] at tot
    exact ⟨_, rfl, q fo H' s2 hfo (by rw [← tot]; exact efo)⟩
/-! is_shown -/
def spShown : Sp := fun vs H Q _ => ∃ (right other : Nat) (off worth : Int), vs = [nV right, nV other, .int off, .int worth] ∧ right ≤ 1000000 ∧ other ≤ 1000000 ∧ Q (.bl (decide (other ≠ right) && decide (((other : Int) - (right : Int)) * worth = off))) H
theorem scShown : FnScope ["right", "other", "off", "worth"] ["right", "other", "off", "worth"] (defScope sShown) := ⟨rfl, rfl, rfl, by decide +kernel, rfl, by decide +kernel, by decide +kernel⟩
theorem ok_shown (T : Txt K mg) : FnOk P w K mg base CX0 1 T.shown.f T.shown.fd ["right", "other", "off", "worth"] spShown := by
  refine T.shown.fn.ok scShown (fun vs H Q E h => ?_) (fun cdv A outer s H vs Q E hr h => ?_)
  · obtain ⟨right, other, off, worth, rfl, _⟩ := h
    rfl
  obtain ⟨right, other, off, worth, rfl, h1, h2, q⟩ := h
  refine ⟨_, pss_one (ps_ret (pe_and (pe_cmpR op_ne (pv 1) (pv 0) (nomark _)) (pe_one (pe_cmpR op_eq (pe_op op_mul (pe_op op_sub (pv 1) (pv 0)) (pv 3)) (pv 2) (nomark _))))), ?_⟩
  refine ⟨_, rfl, _, rfl, rfl, _, rfl, ?_⟩
  by_cases c : other = right
  · refine if_false_of (by rw [decide_eq_true (show nV other = nV right by rw [c])]; rfl) ?_
    rw [decide_eq_false (fun z => z c), Bool.false_and] at q
    exact q
  · refine if_true_of (by rw [decide_eq_false (show ¬ nV other = nV right from fun z => c (by injection z with z; omega))]; rfl) ?_
    rw [decide_eq_true (p := other ≠ right) c, Bool.true_and] at q
    refine ⟨_, rfl, _, rfl, _, _, rfl, rfl, _, rfl, _, _, rfl, rfl, .inl ⟨by omega, by omega⟩, _, rfl, rfl, ?_⟩
    have e : decide (V.int (((other : Int) - (right : Int)) * worth) = V.int off) = decide (((other : Int) - (right : Int)) * worth = off) := by
      congr 1; exact propext ⟨fun z => by injection z, fun z => by rw [z]⟩
    show Q (.bl (decide (V.int (((other : Int) - (right : Int)) * worth) = V.int off))) H
    rw [e]
    exact q
/-! flat -/
def LT (H : Hp) (b : Addr) (l : List Nat) : Prop := H b = some (.lst (NL l)) ∨ H b = some (.tup (NL l))
def spFlat : Sp := fun vs H Q _ => ∃ (a : Addr) (as : List Addr) (items : List (List Nat)), vs = [.ref a] ∧ H a = some (.lst (as.map V.ref)) ∧ Paired (LT H) as items ∧ items.flatten.length ≤ 1000000 ∧
  ∀ (p : Addr) H', Same H H' → H p = none → H' p = some (.lst (NL items.flatten)) → Q (.ref p) H'
theorem scFlat : FnScope ["rows", "found", "row"] ["rows"] (defScope sFlat) := ⟨rfl, rfl, rfl, by decide +kernel, rfl, by decide +kernel, by decide +kernel⟩
theorem paired_of {α β : Type} {F : α → β → Prop} {as : List α} {xs : List β} (h : Paired F as xs) : ∀ {i : Nat} {a : α}, as[i]? = some a → ∃ x, xs[i]? = some x ∧ F a x := by
  induction h with
  | nil => intro i x e; simp at e
  | cons r _ ih =>
    intro i x e
    cases i with
    | zero => simp at e; subst e; exact ⟨_, rfl, r⟩
    | succ i => exact ih (by simpa using e)
theorem flatten_take_le {items : List (List Nat)} (i : Nat) : (items.take i).flatten.length ≤ items.flatten.length := by
  have e : items.flatten = (items.take i).flatten ++ (items.drop i).flatten := by rw [← List.flatten_append, List.take_append_drop]
  rw [e, List.length_append]; omega
theorem ok_flat (T : Txt K mg) : FnOk P w K mg base CX0 1 T.flat.f T.flat.fd ["rows"] spFlat := by
  refine T.flat.fn.ok scFlat (fun vs H Q E h => ?_) (fun cdv A outer s H vs Q E hr h => ?_)
  · obtain ⟨a, as, items, rfl, _⟩ := h
    rfl
  obtain ⟨a, as, items, rfl, ha, hall, hsz, q⟩ := h
  refine ⟨_, pss_cons (ps_set (i := 1) scFlat.nd rfl (Or.inl rfl) (pe_lst pa_nil))
    (pss_cons (ps_for PassesOwn.never rfl (pi_list (pv 0)) (pg_name (i := 2) scFlat.nd rfl (Or.inl rfl))
      (pss_one (ps_expr (pe_bm PySem.F.plainAttrs_list PySem.F.slot_list_extend PySem.F.type_list_extend mt_extendLT (pv 1) (pa_cons (pv 2) pa_nil)))))
    (pss_one (ps_ret (pv 1)))), ?_⟩
  refine ⟨Nat.zero_le _, fun fo hfo => ?_⟩
  have s1 : Same H (upd H fo (.lst [])) := same_new hfo _
  refine ⟨_, rfl, a, rfl, ⟨_, SqL.of (s1 _ _ ha)⟩, ?_⟩
  refine for_list (K := K) (a := a) (xs := as.map V.ref) (fun i σ H' => ∃ (v : Option V), σ = [some (.ref a), some (.ref fo), v] ∧ Same H H' ∧ H' fo = some (.lst (NL (items.take i).flatten)))
    ⟨none, rfl, s1, upd_same⟩ (fun i σ H' _ ⟨_, _, s2, _⟩ => SqL.of (s2 _ _ ha)) ?_ ?_
  · rintro i y σ H' hi ⟨v, rfl, s2, efo⟩
    rw [List.getElem?_map] at hi
    obtain ⟨b, hb, rfl⟩ := Option.map_eq_some_iff.mp hi
    obtain ⟨l, hl, el⟩ := paired_of hall hb
    have ht := flatten_take_le (items := items) (i + 1)
    have et : (items.take (i + 1)).flatten = (items.take i).flatten ++ l := by rw [take_more hl, List.flatten_append]; simp
    rw [et, List.length_append] at ht
    have hz : (NL (items.take i).flatten).length + (NL l).length ≤ sizeLine := by rw [NL_len, NL_len]; exact small (by omega)
    refine ⟨_, rfl, .inl ⟨rfl, _, SqL.of efo⟩, _, rfl, ?_⟩
    have fin : ∃ v : Option V, ([some (V.ref a), some (V.ref fo), some (V.ref b)] : L2.St) = [some (V.ref a), some (V.ref fo), v] ∧ Same H (upd H' fo (.lst (NL (items.take i).flatten ++ NL l))) ∧ (upd H' fo (.lst (NL (items.take i).flatten ++ NL l))) fo = some (.lst (NL (items.take (i + 1)).flatten)) :=
      ⟨_, rfl, same_upd s2 hfo, by rw [upd_same, et, NL_append]⟩
    rcases el with el | el
    · exact .inl ⟨fo, b, _, _, rfl, rfl, efo, s2 _ _ el, hz, fin⟩
    · exact .inr ⟨fo, b, _, _, rfl, rfl, efo, SqT.of (s2 _ _ el), hz, fin⟩
  · rintro σ H' ⟨v, rfl, s2, efo⟩
    rw [List.length_map, Paired.length hall, List.take_length] at efo
    exact ⟨_, rfl, q fo H' s2 hfo efo⟩
end
end LR

/-! reckoning: doubles, first_not_laid, explained -/
namespace LR
open PySem PySem.Spec PyProof.Rows L2
theorem cut_to {l : List Nat} {j : Nat} {z : Int} (e : z = (j : Int)) : cutV (NL l) none (some z) = NL (l.take j) := by
  subst e
  unfold cutV
  rw [HT.sIx_nat, HT.sIx_none, NL_len, List.drop_zero, NL_take, Nat.sub_zero]
  congr 1
  by_cases h : j ≤ l.length
  · rw [Nat.min_eq_left h]
  · rw [Nat.min_eq_right (by omega), List.take_of_length_le (Nat.le_refl _), List.take_of_length_le (by omega)]
section
variable {P : Program} {w : World} {K : PySem.W.Frag} {mg : Str → Option Value} {base : Heap}
/-! doubles -/
def spDoubles : Sp := fun vs H Q _ => ∃ (n : Nat), vs = [nV n] ∧ n < 10 ^ 16 ∧ ∀ (p : Addr) H', Same H H' → H p = none → H' p = some (.lst (NL (doublesOf n))) → Q (.ref p) H'
theorem scDoubles : FnScope ["number", "pairs", "root", "k"] ["number"] (defScope sDoubles) := ⟨rfl, rfl, rfl, by decide +kernel, rfl, by decide +kernel, by decide +kernel⟩
theorem ok_doubles (T : Txt K mg) : FnOk P w K mg base CX0 2 T.doubles.f T.doubles.fd ["number"] spDoubles := by
  have GD : FnOk P w K mg base CX0 1 T.digits.f T.digits.fd ["number"] spDigits := ok_digits T
  have GR : FnOk P w K mg base CX0 1 T.rootOf.f T.rootOf.fd ["number"] spRootOf := ok_rootOf T
  have GN : FnOk P w K mg base CX0 1 T.number.f T.number.fd ["digits"] spNumber := ok_number T
  refine T.doubles.fn.ok scDoubles (fun vs H Q E h => ?_) (fun cdv A outer s H vs Q E hr h => ?_)
  · obtain ⟨n, rfl, _⟩ := h
    rfl
  obtain ⟨n, rfl, hn, q⟩ := h
  refine ⟨_, pss_cons (ps_set (i := 1) scDoubles.nd rfl (Or.inl rfl) (pe_op op_fdiv (pe_op op_add (pe_callB call_len_seq (by rfl) T.len PySem.boot_len (pa_cons (pe_call GD hr rfl T.digits.g T.digits.fn.kp T.digits.b .nil pass0 (pa_cons (pv 0) pa_nil)) pa_nil)) pe_int) pe_int))
    (pss_cons (ps_set (i := 2) scDoubles.nd rfl (Or.inr rfl) (pe_call GD hr rfl T.digits.g T.digits.fn.kp T.digits.b .nil pass0 (pa_cons (pe_call GR hr rfl T.rootOf.g T.rootOf.fn.kp T.rootOf.b .nil pass0 (pa_cons (pv 0) pa_nil)) pa_nil)))
    (pss_one (ps_ret (pe_lc (own := [("k", 3)]) (g := gName 3) (tt := tYes) rfl scDoubles.nd (pi_range2 rfl T.range (pa_cons pe_int (pa_cons (pv 1) pa_nil)))
      (blkOk_by (own := [("k", 3)]) (N := ["number", "pairs", "root", "k"]) (sc := defScope sDoubles) (by decide +kernel)) (fun _ _ _ _ _ => pg_name (i := 3) scDoubles.nd rfl (Or.inl rfl)) (fun _ _ _ _ _ => pts_nil)
      (fun _ _ _ _ _ => pe_op op_mul pe_int (pe_call GN hr rfl T.number.g T.number.fn.kp T.number.b .nil pass0 (pa_cons (pe_slice (r := rSlL K) sl_list (pv 2) po_none (po_some (pv 3))) pa_nil))))))), ?_⟩
  have h40 : n < 10 ^ 40 := Nat.lt_of_lt_of_le hn (by decide)
  have hr40 : rootOf n < 10 ^ 40 := Nat.lt_of_lt_of_le (rootOf_lt n) (by decide)
  have hlen : (Mu13.digits n).length ≤ 40 := digits_len_le h40 (Nat.le_refl _) (by decide)
  refine ⟨_, rfl, n, rfl, h40, fun p1 H1 s1 np1 e1 => ?_⟩
  refine ⟨p1, _, rfl, .inl (SqL.of e1), _, _, rfl, rfl, _, _, rfl, rfl, ⟨by decide, by decide⟩, ?_⟩
  have ep : ((((NL (Mu13.digits n)).length : Nat) : Int) + 1) / 2 = ((((Mu13.digits n).length + 1) / 2 : Nat) : Int) := by rw [NL_len]; omega
  dsimp only
  rw [ep]
  refine ⟨_, rfl, n, rfl, rootOf n, rfl, hr40, fun p2 H2 s2 np2 e2 => ?_⟩
  have s12 := s1.trans s2
  refine ⟨_, rfl, 1, _, rfl, ⟨by decide, by decide, by omega, by omega⟩, fun D hD => ?_⟩
  have hDn : H D = none := s12.free hD
  have eN : (((((Mu13.digits n).length + 1) / 2 : Nat) : Int) - 1).toNat = ((Mu13.digits n).length + 1) / 2 - 1 := by omega
  refine lc_range (lo := 1) (n := (((((Mu13.digits n).length + 1) / 2 : Nat) : Int) - 1).toNat) (LcP H2 D fun i acc _ => acc = NL ((List.range i).map fun i => 2 * Mu13.valueOf ((Mu13.digits (rootOf n)).take (i + 1)))) (LcP.start hD rfl) ?_ ?_
  · rintro i H3 hi ⟨s3, acc, e, hl, rfl⟩
    rw [eN] at hi
    refine ⟨rfl, _, rfl, _, rfl, _, rfl, p2, _, rfl, SqL.of (s3 _ _ e2), fun p4 hp4 => ?_⟩
    rw [cut_to (j := i + 1) (by omega)] at *
    have s4 := same_new hp4 (.lst (NL ((Mu13.digits (rootOf n)).take (i + 1))))
    refine ⟨p4, _, rfl, upd_same, _, _, rfl, rfl, .inl ⟨by decide, by decide⟩, ?_⟩
    refine LcP.push hD (s3.trans s4) (s4 _ _ e) hl (by omega) ?_
    rw [List.range_succ, List.map_append, NL_append]
    show _ ++ [V.int (2 * (Mu13.valueOf ((Mu13.digits (rootOf n)).take (i + 1)) : Int))] = _ ++ [V.int ((2 * Mu13.valueOf ((Mu13.digits (rootOf n)).take (i + 1)) : Nat) : Int)]
    push_cast; rfl
  · rintro H3 ⟨s3, acc, e, hl, rfl⟩
    rw [eN] at e
    exact q D H3 (s12.trans s3) hDn e
/-! first_not_laid -/
def spNotLaid (CR : Addr) : Sp := fun vs H Q _ => ∃ (r : Addr) (s : Mu13.State) (n : Nat), vs = [.ref r, nV n] ∧ RodsAt CR H r s ∧ Good s ∧ n < 10 ^ 16 ∧
  ∀ H', Same H H' → Q (optV ((doublesOf n).find? fun x => !canLaid s.rods (List.range s.rods.length) (Mu13.digits x))) H'
theorem scNotLaid : FnScope ["rods", "number", "double"] ["rods", "number"] (defScope sNotLaid) := ⟨rfl, rfl, rfl, by decide +kernel, rfl, by decide +kernel, by decide +kernel⟩
theorem doubles_len {n : Nat} (h : n < 10 ^ 16) : (doublesOf n).length ≤ 40 := by
  have h40 : n < 10 ^ 40 := Nat.lt_of_lt_of_le h (by decide)
  have hlen : (Mu13.digits n).length ≤ 40 := digits_len_le h40 (Nat.le_refl _) (by decide)
  unfold doublesOf
  rw [List.length_map, List.length_range]; omega
theorem ok_notLaid (T : Txt K mg) : FnOk P w K mg base CX0 15 T.notLaid.f T.notLaid.fd ["rods", "number"] (spNotLaid T.CR) := by
  have GC : FnOk P w K mg base CX0 14 T.can.f T.can.fd ["faces", "free", "digits"] spCan := ok_can T
  have GA : FnOk P w K mg base CX0 1 T.free.f T.free.fd ["faces"] spFree := ok_free T
  have GD : FnOk P w K mg base CX0 1 T.digits.f T.digits.fd ["number"] spDigits := ok_digits T
  have GB : FnOk P w K mg base CX0 2 T.doubles.f T.doubles.fd ["number"] spDoubles := ok_doubles T
  refine T.notLaid.fn.ok scNotLaid (fun vs H Q E h => ?_) (fun cdv A outer s H vs Q E hr h => ?_)
  · obtain ⟨r, st, n, rfl, _⟩ := h
    rfl
  obtain ⟨r, st, n, rfl, hRods, G, hn, q⟩ := h
  obtain ⟨dx, fa, fl, la, hR, hfa, _, _⟩ := id hRods
  have hr1 : Room 1 _ := hr.mono (by decide)
  have hr2 : Room 2 _ := hr.mono (by decide)
  refine ⟨_, pss_cons (ps_for PassesOwn.never rfl (pi_list (pe_call GB hr2 rfl T.doubles.g T.doubles.fn.kp T.doubles.b .nil pass0 (pa_cons (pv 1) pa_nil))) (pg_name (i := 2) scNotLaid.nd rfl (Or.inl rfl))
      (pss_one (ps_if (pt_not (pt_val (pe_call GC hr rfl T.can.g T.can.fn.kp T.can.b .nil pass0
          (pa_cons (pe_fld (pv 0) rfl) (pa_cons (pe_call GA hr1 rfl T.free.g T.free.fn.kp T.free.b .nil pass0 (pa_cons (pe_fld (pv 0) rfl) pa_nil)) (pa_cons (pe_call GD hr1 rfl T.digits.g T.digits.fn.kp T.digits.b .nil pass0 (pa_cons (pv 2) pa_nil)) pa_nil))))))
        (pss_one (ps_ret (pv 2))) pss_nil)))
    (pss_one (ps_ret pe_non)), ?_⟩
  refine ⟨_, rfl, n, rfl, hn, fun p H1 s1 np e1 => ?_⟩
  refine ⟨p, rfl, ⟨_, SqL.of e1⟩, ?_⟩
  refine for_list (K := K) (a := p) (xs := NL (doublesOf n)) (fun i σ H' => ∃ v : Option V, σ = [some (.ref r), some (nV n), v] ∧ Same H1 H' ∧
      ((doublesOf n).drop i).find? (fun x => !canLaid st.rods (List.range st.rods.length) (Mu13.digits x)) = (doublesOf n).find? fun x => !canLaid st.rods (List.range st.rods.length) (Mu13.digits x))
    ⟨none, rfl, Same.refl _, rfl⟩ (fun i σ H' _ ⟨_, _, s2, _⟩ => SqL.of (s2 _ _ e1)) ?_ ?_
  · rintro i y σ H' hi ⟨v, rfl, s2, tot⟩
    obtain ⟨x, hx, rfl⟩ := NL_of hi
    have hx9 := doublesOf_lt (List.mem_of_getElem? hx)
    have hx40 : x < 10 ^ 40 := Nat.lt_of_lt_of_le hx9 (by decide)
    have hxl : (Mu13.digits x).length ≤ 40 := digits_len_le hx40 (Nat.le_refl _) (by decide)
    rw [drop_more hx, List.find?_cons] at tot
    have s12 := s1.trans s2
    have hR2 := s12 _ _ hR
    refine ⟨_, rfl, r, T.CR, dx, _, _, rfl, hR2, T.clR, T.nFaces, rF_faces _ _ _, _, rfl, r, T.CR, dx, _, _, rfl, hR2, T.clR, T.nFaces, rF_faces _ _ _, fa, st.rods, rfl, hfa.same s12, G.rods, fun fr H3 s3 nfr e3 => ?_⟩
    refine ⟨_, rfl, x, rfl, hx40, fun dg H4 s4 ndg e4 => ?_⟩
    have s14 := s12.trans (s3.trans s4)
    refine ⟨fa, fr, dg, st.rods, List.range st.rods.length, Mu13.digits x, rfl, hfa.same s14, s4 _ _ e3, e4, fun r h => List.mem_range.mp h, G.rods, by simpa using G.rods, by omega, fun H5 s5 => ⟨_, rfl, ?_⟩⟩
    cases c : canLaid st.rods (List.range st.rods.length) (Mu13.digits x) with
    | true =>
      refine iteF ?_
      rw [c] at tot
      exact ⟨_, rfl, s2.trans (s3.trans (s4.trans s5)), tot⟩
    | false =>
      refine iteT ?_
      rw [c] at tot
      refine ⟨_, rfl, ?_⟩
      have z := q H5 (s14.trans s5)
      rw [← tot] at z
      exact z
  · rintro σ H' ⟨v, rfl, s2, tot⟩
    rw [NL_len, List.drop_length] at tot
    have z := q H' (s1.trans s2)
    rw [← tot] at z
    exact z
/-! explained -/
def spExplained (CR : Addr) : Sp := fun vs H Q _ => ∃ (r : Addr) (s : Mu13.State) (k n : Nat), vs = [.ref r, nV k, nV n] ∧ RodsAt CR H r s ∧ Good s ∧ k ≤ 1000 ∧
  ∀ (p : Addr) H', Same H H' → H p = none → RowAt encT H' p (expl s k (offOf s k n) s.laid) → Q (.ref p) H'
abbrev exN : List Str := ["rods", "k", "number", "off", "worth", "found", "rod", "face", "right", "some", "other"]
theorem scExplained : FnScope ["rods", "k", "number", "off", "worth", "found", "rod", "face", "right", "some", "other"] ["rods", "k", "number"] (defScope sExplained) := ⟨rfl, rfl, rfl, by decide +kernel, rfl, by decide +kernel, by decide +kernel⟩
theorem some1_len (s : Mu13.State) (k : Nat) (off worth : Int) (p : Nat × Nat) : (some1 s k off worth p).length ≤ 100 := by
  unfold some1
  rw [List.length_map]
  exact Nat.le_trans (List.length_filter_le _ _) (by simp)
theorem expl_len (s : Mu13.State) (k : Nat) (off : Int) : ∀ l : List (Nat × Nat), (expl s k off l).length ≤ 100 * l.length
  | [] => Nat.le_refl _
  | p :: l => by
    have h1 := some1_len s k off (10 ^ l.length : Nat) p
    have h2 := expl_len s k off l
    show (some1 s k off (10 ^ l.length : Nat) p ++ expl s k off l).length ≤ _
    rw [List.length_append, List.length_cons]; omega
theorem encT_lst {H : Hp} {D : Addr} {xs : List V} (h : H D = some (.lst xs)) (x : Nat × Nat × Nat) : H D ≠ some (encT x) := fun q => by rw [h] at q; cases q
theorem ok_explained (T : Txt K mg) : FnOk P w K mg base CX0 2 T.explained.f T.explained.fd ["rods", "k", "number"] (spExplained T.CR) := by
  have GN : FnOk P w K mg base CX0 1 T.number.f T.number.fd ["digits"] spNumber := ok_number T
  have GL : FnOk P w K mg base CX0 1 T.laidD.f T.laidD.fd ["self"] (spLaidD T.CR) := ok_laidD T
  have GR : FnOk P w K mg base CX0 1 T.right.f T.right.fd ["self", "rod", "face", "k"] (spRight T.CR) := ok_right T
  have GS : FnOk P w K mg base CX0 1 T.shown.f T.shown.fd ["right", "other", "off", "worth"] spShown := ok_shown T
  obtain ⟨t99, h99⟩ := T.c_MOST_CELL
  refine T.explained.fn.ok scExplained (fun vs H Q E h => ?_) (fun cdv A outer s H vs Q E hr h => ?_)
  · obtain ⟨r, st, k, n, rfl, _⟩ := h
    rfl
  obtain ⟨r, st, k, n, rfl, hRods, G, hk, q⟩ := h
  obtain ⟨dx, fa, fl, la, hR, hfa, _, ⟨las, hla, hlall⟩⟩ := id hRods
  refine ⟨_, pss_cons (ps_set (i := 3) scExplained.nd rfl (Or.inr rfl) (pe_op op_sub (pv 2) (pe_op op_mul (pv 1) (pe_call GN hr rfl T.number.g T.number.fn.kp T.number.b .nil pass0 (pa_cons (pe_meth0 (pv 0) T.clR T.laidD.m GL hr T.laidD.b .nil pass0) pa_nil)))))
    (pss_cons (ps_set (i := 4) scExplained.nd rfl (Or.inr rfl) pe_int)
    (pss_cons (ps_set (i := 5) scExplained.nd rfl (Or.inl rfl) (pe_lst pa_nil))
    (pss_cons (ps_for PassesOwn.never rfl (pi_reversed (by rfl) T.revB (pa_cons (pe_fld (pv 0) rfl) pa_nil)) (pg_tup rfl (pgs_cons (pg_name (i := 6) scExplained.nd rfl (Or.inr rfl)) (pgs_cons (pg_name (i := 7) scExplained.nd rfl (Or.inr rfl)) pgs_nil)))
      (pss_cons (ps_set (i := 8) scExplained.nd rfl (Or.inr rfl) (pe_meth (pv 0) T.clR T.right.m GR hr T.right.b .nil pass0 (pa_cons (pv 6) (pa_cons (pv 7) (pa_cons (pv 1) pa_nil)))))
      (pss_cons (ps_setLc (i := 9) (own := [("other", 10)]) (g := gName 10) rfl scExplained.nd rfl rfl (sw_true rfl rfl rfl (by decide +kernel)) (pi_range1 rfl T.range (pa_cons (pe_op op_add (pe_glob (v := .int 99) rfl h99 ⟨_, rfl⟩) pe_int) pa_nil))
        (blkOk_by (own := [("other", 10)]) (N := ["rods", "k", "number", "off", "worth", "found", "rod", "face", "right", "some", "other"]) (sc := defScope sExplained) (by decide +kernel)) (fun _ _ _ _ _ => pg_name (i := 10) scExplained.nd rfl (Or.inl rfl))
        (fun _ _ _ _ _ => pts_one (pt_val (pe_call GS hr rfl T.shown.g T.shown.fn.kp T.shown.b .nil pass0 (pa_cons (pv 8) (pa_cons (pv 10) (pa_cons (pv 3) (pa_cons (pv 4) pa_nil)))))))
        (fun _ _ _ _ _ => pe_tup (pa_cons (pv 6) (pa_cons (pv 7) (pa_cons (pv 10) pa_nil)))))
      (pss_cons (ps_set (i := 5) scExplained.nd rfl (Or.inl rfl) (pe_op op_cat (pv 9) (pv 5)))
      (pss_one (ps_set (i := 4) scExplained.nd rfl (Or.inr rfl) (pe_op op_mul pe_int (pv 4))))))))
    (pss_one (ps_ret (pv 5)))))), ?_⟩
  -- off
  refine ⟨_, rfl, _, rfl, _, rfl, r, dx, _, rfl, hR, rF_no _ _ _ (by decide +kernel) (by decide +kernel) (by decide +kernel), r, st, rfl, hRods, G, fun p1 H1 s1 np1 e1 => ?_⟩
  refine ⟨p1, _, rfl, e1, _, _, rfl, rfl, .inl ⟨by omega, by omega⟩, _, _, rfl, rfl, ?_⟩
  -- found = []
  refine ⟨Nat.zero_le _, fun fo0 hfo0 => ?_⟩
  have s2 : Same H (upd H1 fo0 (.lst [])) := s1.trans (same_new hfo0 _)
  have hl8 := G.laidLen
  have hlen : (las.map V.ref).length = st.laid.length := by rw [List.length_map, hlall.len]
  refine ⟨_, rfl, r, T.CR, dx, _, _, rfl, s2 _ _ hR, T.clR, T.nLaid, rF_laid _ _ _, la, _, rfl, SqL.of (s2 _ _ hla), ?_⟩
  refine for_rev (K := K) (a := la) (xs := las.map V.ref) (fun i σ H' => ∃ (v6 v7 v8 v9 : Option V) (fo : Addr) (as : List Addr), σ = [some (.ref r), some (nV k), some (nV n), some (.int (offOf st k n)), some (.int ((10 ^ i : Nat) : Int)), some (.ref fo), v6, v7, v8, v9, none] ∧
      Same H H' ∧ H fo = none ∧ H' fo = some (.lst (as.map V.ref)) ∧ AllAt encT H' as (expl st k (offOf st k n) (st.laid.drop (st.laid.length - i))))
    ⟨none, none, none, none, fo0, [], rfl, s2, s1.free hfo0, upd_same, by rw [Nat.sub_zero, List.drop_length]; exact AllAt.nil⟩ (fun i σ H' _ ⟨_, _, _, _, _, _, _, s3, _⟩ => SqL.of (s3 _ _ hla)) ?_ ?_
  · rintro i y σ H' hil hi ⟨v6, v7, v8, v9, fo, as, rfl, s3, nfo, efo, hall⟩
    rw [hlen] at hil hi
    rw [List.getElem?_map] at hi
    obtain ⟨a, ha, rfl⟩ := Option.map_eq_some_iff.mp hi
    obtain ⟨p, hp, ep⟩ := hlall.of ha
    obtain ⟨in1, in2⟩ := G.laidIn p (List.mem_of_getElem? hp)
    have hd9 := digitOf_le G p
    refine ⟨a, _, rfl, SqT.of (s3 _ _ ep), rfl, _, _, rfl, _, _, rfl, rfl, ?_⟩
    -- right
    refine ⟨_, rfl, r, dx, _, rfl, s3 _ _ hR, rF_no _ _ _ (by decide +kernel) (by decide +kernel) (by decide +kernel), _, rfl, _, rfl, _, rfl, r, st, p.1, p.2, k, rfl, hRods.same s3, G, in1, in2, hk, ?_⟩
    have hright : k * Mu13.digitOf st p ≤ 1000 * 9 := Nat.mul_le_mul hk hd9
    -- some
    refine ⟨_, _, rfl, rfl, 100, rfl, by decide, by decide, fun D hD => ?_⟩
    refine lc_range (lo := 0) (n := 100) (LcP H' D fun j acc H3 => ∃ cs : List Addr, acc = cs.map V.ref ∧ AllAt encT H3 cs (((List.range j).filter fun v => decide (v ≠ digK st k p) && decide (((v : Int) - (digK st k p : Int)) * ((10 ^ i : Nat) : Int) = offOf st k n)).map fun v => (p.1, p.2, v)))
      (LcP.start hD ⟨[], rfl, AllAt.nil⟩) ?_ ?_
    · rintro j H3 hj ⟨s4, acc, eD, hacc, cs, rfl, hcs⟩
      refine ⟨rfl, _, rfl, _, rfl, _, rfl, _, rfl, k * Mu13.digitOf st p, j, offOf st k n, ((10 ^ i : Nat) : Int), by rw [Int.zero_add]; rfl, by omega, by omega, _, rfl, ?_⟩
      have fm : ∀ c : Bool, c = (decide (j ≠ digK st k p) && decide (((j : Int) - (digK st k p : Int)) * ((10 ^ i : Nat) : Int) = offOf st k n)) → ((List.range (j + 1)).filter fun v => decide (v ≠ digK st k p) && decide (((v : Int) - (digK st k p : Int)) * ((10 ^ i : Nat) : Int) = offOf st k n)).map (fun v => (p.1, p.2, v)) =
          ((List.range j).filter fun v => decide (v ≠ digK st k p) && decide (((v : Int) - (digK st k p : Int)) * ((10 ^ i : Nat) : Int) = offOf st k n)).map (fun v => (p.1, p.2, v)) ++ (if c = true then [(p.1, p.2, j)] else []) := by
        intro c hc
        rw [List.range_succ, List.filter_append, List.filter_cons, List.filter_nil, List.map_append, ← hc]
        cases c <;> rfl
      show if (decide (j ≠ digK st k p) && decide (((j : Int) - (digK st k p : Int)) * ((10 ^ i : Nat) : Int) = offOf st k n)) = true then _ else _
      cases c : (decide (j ≠ digK st k p) && decide (((j : Int) - (digK st k p : Int)) * ((10 ^ i : Nat) : Int) = offOf st k n)) with
      | true =>
        refine iteT ⟨_, rfl, _, rfl, _, rfl, (by show 3 ≤ sizeLine; decide), fun tp htp => ?_⟩
        have s5 := same_new htp (.tup [nV p.1, nV p.2, .int (0 + (j : Int))])
        have eD5 := s5 _ _ eD
        have a5 := (hcs.same s5).snoc (x := (p.1, p.2, j)) (a := tp) (by rw [upd_same, Int.zero_add]; rfl)
        refine LcP.push hD (s4.trans s5) eD5 hacc (by omega) ⟨cs ++ [tp], by rw [List.map_append]; rfl, ?_⟩
        rw [fm _ c.symm]
        exact a5.upd (a5.not (encT_lst eD5))
      | false =>
        refine iteF ?_
        refine LcP.skip s4 eD hacc ⟨cs, rfl, ?_⟩
        rw [fm _ c.symm, if_neg (by decide), List.append_nil]
        exact hcs
    · rintro H3 ⟨s4, acc, eD, hacc, cs, rfl, hcs⟩
      -- found = some + found
      have efo4 := s4 _ _ efo
      have hcl := hcs.len
      have hal := hall.len
      have he1 := expl_len st k (offOf st k n) (st.laid.drop (st.laid.length - i))
      rw [List.length_drop] at he1
      have hs1 := some1_len st k (offOf st k n) ((10 ^ i : Nat) : Int) p
      unfold some1 at hs1
      refine ⟨_, rfl, _, rfl, D, fo, _, _, rfl, rfl, eD, efo4, by rw [List.length_map, List.length_map, hcl, hal]; exact small (by omega), fun fo2 hfo2 => ?_⟩
      have s5 := same_new hfo2 (.lst (cs.map V.ref ++ as.map V.ref))
      refine ⟨_, rfl, _, _, rfl, rfl, .inl ⟨by decide, by decide⟩, ?_⟩
      have ew : (10 : Int) * ((10 ^ i : Nat) : Int) = ((10 ^ (i + 1) : Nat) : Int) := by rw [Nat.pow_succ]; push_cast; rw [Int.mul_comm]
      dsimp only
      rw [ew]
      refine ⟨_, _, _, _, fo2, cs ++ as, rfl, s3.trans (s4.trans s5), ?_, by rw [upd_same, List.map_append], ?_⟩
      · exact s3.free (s4.free hfo2)
      · have hdr : st.laid.drop (st.laid.length - (i + 1)) = p :: st.laid.drop (st.laid.length - i) := by
          have e1 : st.laid.length - (i + 1) = st.laid.length - 1 - i := by omega
          have e2 : st.laid.length - i = st.laid.length - 1 - i + 1 := by omega
          rw [e1, e2]
          exact drop_more hp
        rw [hdr]
        show AllAt encT _ (cs ++ as) (some1 st k (offOf st k n) (10 ^ (st.laid.drop (st.laid.length - i)).length : Nat) p ++ expl st k (offOf st k n) (st.laid.drop (st.laid.length - i)))
        have hli : (st.laid.drop (st.laid.length - i)).length = i := by rw [List.length_drop]; omega
        rw [hli]
        exact ((show AllAt encT H3 cs (some1 st k (offOf st k n) ((10 ^ i : Nat) : Int) p) from hcs).same s5).append ((hall.same s4).same s5)
  · rintro σ H' ⟨v6, v7, v8, v9, fo, as, rfl, s3, nfo, efo, hall⟩
    rw [hlen, Nat.sub_self, List.drop_zero] at hall
    exact ⟨_, rfl, q fo H' s3 nfo ⟨as, efo, hall⟩⟩
end
end LR

/-! Bench: __init__, begin, lay, cut, refusal_of, row -/
namespace LR
open PySem PySem.Spec PyProof.Rows L2
open Mu13Neutral (fours)
def IL (l : List Int) : List V := l.map V.int
theorem NL_IL (l : List Nat) : NL l = IL (Mu13.nums l) := by
  unfold NL IL Mu13.nums
  rw [List.map_map]; rfl
theorem lt_rows {H : Hp} {as : List Addr} {rows : List (List Nat)} (h : AllAt encL H as rows) : Paired (LT H) as rows := by
  unfold AllAt at h
  induction h with
  | nil => exact .nil
  | cons r _ ih => exact .cons (.inl r) ih
theorem lt_pairs {H : Hp} {as : List Addr} {ps : List (Nat × Nat)} (h : AllAt encP H as ps) : Paired (LT H) as (ps.map fun p => [p.1, p.2]) := by
  unfold AllAt at h
  induction h with
  | nil => exact .nil
  | cons r _ ih => exact .cons (.inr r) ih
theorem lt_tris {H : Hp} {as : List Addr} {ps : List (Nat × Nat × Nat)} (h : AllAt encT H as ps) : Paired (LT H) as (ps.map fun p => [p.1, p.2.1, p.2.2]) := by
  unfold AllAt at h
  induction h with
  | nil => exact .nil
  | cons r _ ih => exact .cons (.inr r) ih
theorem lt_flaws {H : Hp} {as : List Addr} {ps : List Mu13.Flaw} (h : AllAt encF H as ps) : Paired (LT H) as (ps.map fun f => [f.rod, f.face, f.row, f.value]) := by
  unfold AllAt at h
  induction h with
  | nil => exact .nil
  | cons r _ ih => exact .cons (.inr r) ih
theorem flat2_eq (l : List (Nat × Nat)) : (l.map fun p => [p.1, p.2]).flatten = flat2 l := by unfold flat2; rw [List.flatMap_def]
theorem flat3_eq (l : List (Nat × Nat × Nat)) : (l.map fun p => [p.1, p.2.1, p.2.2]).flatten = flat3 l := by unfold flat3; rw [List.flatMap_def]
theorem flat4_eq (l : List Mu13.Flaw) : (l.map fun f => [f.rod, f.face, f.row, f.value]).flatten = flat4 l := by unfold flat4; rw [List.flatMap_def]
theorem flat2_len (l : List (Nat × Nat)) : (flat2 l).length = 2 * l.length := by
  unfold flat2
  induction l with
  | nil => rfl
  | cons a l ih => rw [List.flatMap_cons, List.length_append, ih]; show 2 + _ = _; rw [List.length_cons]; omega
theorem flat3_len (l : List (Nat × Nat × Nat)) : (flat3 l).length = 3 * l.length := by
  unfold flat3
  induction l with
  | nil => rfl
  | cons a l ih => rw [List.flatMap_cons, List.length_append, ih]; show 3 + _ = _; rw [List.length_cons]; omega
theorem flat4_len (l : List Mu13.Flaw) : (flat4 l).length = 4 * l.length := by
  unfold flat4
  induction l with
  | nil => rfl
  | cons a l ih => rw [List.flatMap_cons, List.length_append, ih]; show 4 + _ = _; rw [List.length_cons]; omega
section
variable {P : Program} {w : World} {K : PySem.W.Frag} {mg : Str → Option Value} {base : Heap}
/-! Bench.__init__ -/
def spBInit (CB CR : Addr) : Sp := fun vs H Q _ => ∃ (b dx : Addr), vs = [.ref b] ∧ H b = some (.ins CB dx []) ∧
  ∀ H' : Hp, BenchAt CB CR H' b {} → (∀ c o, H c = some o → c ≠ b → H' c = some o) → Q .non H'
theorem scBInit : FnScope ["self"] ["self"] (defScope sBInit) := ⟨rfl, rfl, rfl, by decide +kernel, rfl, by decide +kernel, by decide +kernel⟩
theorem ok_bInit (T : Txt K mg) : FnOk P w K mg base CX0 3 T.bInit.f T.bInit.fd ["self"] (spBInit T.CB T.CR) := by
  have GI : FnOk P w K mg base CX0 1 T.rInit.f T.rInit.fd ["self", "digits"] (spRInit T.CR) := ok_rInit T
  refine T.bInit.fn.ok scBInit (fun vs H Q E h => ?_) (fun cdv A outer s H vs Q E hr h => ?_)
  · obtain ⟨b, dx, rfl, _⟩ := h
    rfl
  obtain ⟨b, dx, rfl, hb, k⟩ := h
  refine ⟨_, pss_one (ps_fld (pv 0) (pe_make T.mkR GI hr rfl T.mgR T.rInit.b .nil pass0 (pa_cons (pe_lst pa_nil) pa_nil)) rfl), ?_⟩
  refine ⟨Nat.zero_le _, fun l hl => ?_⟩
  intro x dx2 nx nd ne
  have s1 : Same H (upd H l (.lst [])) := same_new hl _
  have nlx : l ≠ x := fun z => by rw [← z, upd_same] at nx; cases nx
  have nld : l ≠ dx2 := fun z => by rw [← z, upd_same] at nd; cases nd
  refine ⟨x, dx2, l, [], 0, rfl, upd_same, by rw [upd_ne nlx, upd_ne nld, upd_same]; rfl, rfl, by decide, fun H2 R2 kp => ⟨rfl, ?_⟩⟩
  have s2 : Same H H2 := fun c o e => kp c o (by rw [upd_ne (ne_of_none (s1 _ _ e) nx), upd_ne (ne_of_none (s1 _ _ e) nd)]; exact s1 _ _ e) (ne_of_none (s1 _ _ e) nx)
  have hb2 := s2 _ _ hb
  have nbx : b ≠ x := ne_of_none (s1 _ _ hb) nx
  refine ⟨_, rfl, b, T.CB, dx, [], rfl, hb2, T.clB, T.nRods, (by show 0 < 1000; decide), ?_⟩
  have kp2 : ∀ c o, H2 c = some o → c ≠ b → (upd H2 b (.ins T.CB dx (putF "rods" (.ref x) []))) c = some o := fun c o e n => by rw [upd_ne n]; exact e
  obtain ⟨d2, fa, fl, la, r1, r2, r3, r4⟩ := R2
  refine k _ ⟨dx, x, upd_same, nbx, d2, fa, fl, la, kp2 _ _ r1 nbx.symm, r2.but hb2 kp2 encL_ne, r3.but hb2 kp2 encF_ne, r4.but hb2 kp2 encP_ne⟩ fun c o e n => kp2 _ _ (s2 _ _ e) n
/-! begin -/
/-- a method that answers an int list and leaves the state as told -/
def Ans (CB CR : Addr) (H : Hp) (b : Addr) (s : Mu13.State) (a : List Int) (Q : VK) : Prop := ∀ (p : Addr) (H' : Hp), BenchAt CB CR H' b s → Keep H H' → H p = none → H' p = some (.lst (IL a)) → Q (.ref p) H'
def spBegin (CB CR : Addr) : Sp := fun vs H Q _ => ∃ (b dg : Addr) (s : Mu13.State) (ds : List Nat) (m : Nat), vs = [.ref b, .ref dg] ∧ BenchAt CB CR H b s ∧ H dg = some (.lst (NL ds)) ∧ ds.length = 4 * m ∧ m ≤ 1000 ∧
  Ans CB CR H b (Mu13.step s (.begin_ (fours ds))).1 (Mu13.step s (.begin_ (fours ds))).2 Q
theorem scBegin : FnScope ["self", "faces"] ["self", "faces"] (defScope sBegin) := ⟨rfl, rfl, rfl, by decide +kernel, rfl, by decide +kernel, by decide +kernel⟩
theorem BenchAt.fresh {CB CR : Addr} {H H2 : Hp} {b dx x r : Addr} {s : Mu13.State} (hb : H2 b = some (.ins CB dx (bF r))) (nbx : b ≠ x) (R : RodsAt CR H2 x s) : BenchAt CB CR (upd H2 b (.ins CB dx (bF x))) b s := by
  have kp2 : ∀ c o, H2 c = some o → c ≠ b → (upd H2 b (.ins CB dx (bF x))) c = some o := fun c o e n => by rw [upd_ne n]; exact e
  obtain ⟨d2, fa, fl, la, r1, r2, r3, r4⟩ := R
  exact ⟨dx, x, upd_same, nbx, d2, fa, fl, la, kp2 _ _ r1 nbx.symm, r2.but hb kp2 encL_ne, r3.but hb kp2 encF_ne, r4.but hb kp2 encP_ne⟩
theorem ok_begin (T : Txt K mg) : FnOk P w K mg base CX0 3 T.beginM.f T.beginM.fd ["self", "faces"] (spBegin T.CB T.CR) := by
  have GI : FnOk P w K mg base CX0 1 T.rInit.f T.rInit.fd ["self", "digits"] (spRInit T.CR) := ok_rInit T
  have GB : FnOk P w K mg base CX0 1 T.isBox.f T.isBox.fd ["digits"] spIsBox := ok_isBox T
  obtain ⟨tB, hB⟩ := T.c_BAD
  refine T.beginM.fn.ok scBegin (fun vs H Q E h => ?_) (fun cdv A outer s H vs Q E hr h => ?_)
  · obtain ⟨b, dg, st, ds, m, rfl, _⟩ := h
    rfl
  obtain ⟨b, dg, st, ds, m, rfl, hBen, hdg, hm, hm1, q⟩ := h
  have hr1 : Room 1 _ := hr.mono (by decide)
  refine ⟨_, pss_cons (ps_if (pt_not (pt_val (pe_call GB hr1 rfl T.isBox.g T.isBox.fn.kp T.isBox.b .nil pass0 (pa_cons (pv 1) pa_nil)))) (pss_one (ps_ret (pe_lst (pa_cons (pe_glob (v := .int (-1)) rfl hB ⟨_, rfl⟩) pa_nil)))) pss_nil)
    (pss_cons (ps_fld (pv 0) (pe_make T.mkR GI hr rfl T.mgR T.rInit.b .nil pass0 (pa_cons (pv 1) pa_nil)) rfl)
    (pss_one (ps_ret (pe_lst (pa_cons pe_int pa_nil))))), ?_⟩
  refine ⟨_, rfl, dg, ds, rfl, hdg, by omega, fun H1 s1 => ⟨_, rfl, ?_⟩⟩
  rw [step_begin st hm] at q
  cases c : isBox ds with
  | false =>
    refine iteT ⟨(by show 1 ≤ sizeLine; decide), fun p hp => ?_⟩
    rw [c] at q
    exact q p _ ((hBen.same s1).same (same_new hp _)) (Keep.of (s1.trans (same_new hp _))) (s1.free hp) upd_same
  | true =>
    refine iteF ⟨_, rfl, ?_⟩
    rw [c] at q
    intro x dx2 nx nd ne
    obtain ⟨dx, r, hb, nbr, R⟩ := hBen
    have hdg1 := s1 _ _ hdg
    have hb1 := s1 _ _ hb
    have nbx : b ≠ x := ne_of_none hb1 nx
    refine ⟨x, dx2, dg, ds, m, rfl, upd_same, by rw [upd_ne (ne_of_none hdg1 nx), upd_ne (ne_of_none hdg1 nd)]; exact hdg1, hm, hm1, fun H2 R2 kp => ⟨rfl, ?_⟩⟩
    have s2 : Same H1 H2 := fun c o e => kp c o (by rw [upd_ne (ne_of_none e nx), upd_ne (ne_of_none e nd)]; exact e) (ne_of_none e nx)
    have hb2 := s2 _ _ hb1
    refine ⟨_, rfl, b, T.CB, dx, _, rfl, hb2, T.clB, T.nRods, (by show 1 < 1000; decide), ?_⟩
    rw [bF_set]
    refine ⟨(by show 1 ≤ sizeLine; decide), fun p hp => ?_⟩
    have ben3 := BenchAt.fresh (H := H) hb2 nbx R2
    have k3 : Keep H (upd H2 b (.ins T.CB dx (bF x))) := (Keep.of (s1.trans s2)).trans (Keep.ins hb2)
    refine q p _ (ben3.same (same_new hp _)) (k3.trans (Keep.of (same_new hp _))) ?_ upd_same
    have npb : p ≠ b := fun z => by rw [z, upd_same] at hp; cases hp
    rw [upd_ne npb] at hp
    exact s1.free (s2.free hp)
/-! lay -/
def spLay (CB CR : Addr) : Sp := fun vs H Q _ => ∃ (b dg : Addr) (s : Mu13.State) (ds : List Nat), vs = [.ref b, .ref dg] ∧ BenchAt CB CR H b s ∧ Good s ∧ H dg = some (.lst (NL ds)) ∧ ds.length ≤ 1000 ∧
  Ans CB CR H b (Mu13.step s (.lay ds)).1 (Mu13.step s (.lay ds)).2 Q
theorem scLay : FnScope ["self", "digits", "laid"] ["self", "digits"] (defScope sLay) := ⟨rfl, rfl, rfl, by decide +kernel, rfl, by decide +kernel, by decide +kernel⟩
theorem ok_lay (T : Txt K mg) : FnOk P w K mg base CX0 17 T.layM.f T.layM.fd ["self", "digits"] (spLay T.CB T.CR) := by
  have GA : FnOk P w K mg base CX0 1 T.are.f T.are.fd ["numbers", "most"] spAre := ok_are T
  have GL : FnOk P w K mg base CX0 16 T.laidSo.f T.laidSo.fd ["faces", "digits"] spLaidSo := ok_laidSo T
  have GF : FnOk P w K mg base CX0 1 T.flat.f T.flat.fd ["rows"] spFlat := ok_flat T
  obtain ⟨tB, hB⟩ := T.c_BAD
  obtain ⟨tC, hC⟩ := T.c_CAN_NOT
  obtain ⟨tS, hS⟩ := T.c_SHORT
  refine T.layM.fn.ok scLay (fun vs H Q E h => ?_) (fun cdv A outer s H vs Q E hr h => ?_)
  · obtain ⟨b, dg, st, ds, rfl, _⟩ := h
    rfl
  obtain ⟨b, dg, st, ds, rfl, hBen, G, hdg, hsz, q⟩ := h
  have hr1 : Room 1 _ := hr.mono (by decide)
  refine ⟨_, pss_cons (ps_if (pt_not (pt_val (pe_call GA hr1 rfl T.are.g T.are.fn.kp T.are.b .nil pass0 (pa_cons (pv 1) (pa_cons (pe_glob (v := .int 8) rfl hS ⟨_, rfl⟩) pa_nil))))) (pss_one (ps_ret (pe_lst (pa_cons (pe_glob (v := .int (-1)) rfl hB ⟨_, rfl⟩) pa_nil)))) pss_nil)
    (pss_cons (ps_set (i := 2) scLay.nd rfl (Or.inl rfl) (pe_call GL hr rfl T.laidSo.g T.laidSo.fn.kp T.laidSo.b .nil pass0 (pa_cons (pe_fld (pe_fld (pv 0) rfl) rfl) (pa_cons (pv 1) pa_nil))))
    (pss_cons (ps_if (pt_cmpR op_isN (pv 2) pe_non (nomark _)) (pss_one (ps_ret (pe_lst (pa_cons (pe_glob (v := .int (-3)) rfl hC ⟨_, rfl⟩) pa_nil)))) pss_nil)
    (pss_cons (ps_fld (pe_fld (pv 0) rfl) (pv 2) rfl)
    (pss_one (ps_ret (pe_op op_cat (pe_lst (pa_cons pe_int pa_nil)) (pe_call GF hr1 rfl T.flat.g T.flat.fn.kp T.flat.b .nil pass0 (pa_cons (pv 2) pa_nil)))))))), ?_⟩
  obtain ⟨dx, r, hb, nbr, R⟩ := id hBen
  obtain ⟨dr, fa, fl, la, hR, hfa, hfl, hla⟩ := id R
  refine ⟨_, rfl, dg, ds, 8, rfl, hdg, by omega, fun H1 s1 => ⟨_, rfl, ?_⟩⟩
  cases cf : Mu13.fine ds 8 with
  | false =>
    refine iteT ⟨(by show 1 ≤ sizeLine; decide), fun p hp => ?_⟩
    rw [step_lay_bad st cf] at q
    exact q p _ ((hBen.same s1).same (same_new hp _)) (Keep.of (s1.trans (same_new hp _))) (s1.free hp) upd_same
  | true =>
  refine iteF ?_
  obtain ⟨f1, f2, f3⟩ := fine_le cf
  refine ⟨_, rfl, b, T.CB, dx, _, _, rfl, s1 _ _ hb, T.clB, T.nRods, bF_rods _, r, T.CR, dr, _, _, rfl, s1 _ _ hR, T.clR, T.nFaces, rF_faces _ _ _, _, rfl, fa, dg, st.rods, ds, rfl, hfa.same s1, s1 _ _ hdg, G.rods, by omega, fun cn H2 s2 => ?_, fun cy p2 H2 s2 np2 hrow => ?_⟩
  · refine ⟨_, rfl, rfl, _, rfl, ?_⟩
    refine iteT ⟨(by show 1 ≤ sizeLine; decide), fun p hp => ?_⟩
    rw [step_lay_no G cf cn] at q
    have s12 := s1.trans s2
    exact q p _ ((hBen.same s12).same (same_new hp _)) (Keep.of (s12.trans (same_new hp _))) (s12.free hp) upd_same
  · refine ⟨_, rfl, rfl, _, rfl, ?_⟩
    refine iteF ?_
    rw [step_lay_yes G cf cy] at q
    have s12 := s1.trans s2
    have hR2 := s12 _ _ hR
    refine ⟨_, rfl, _, rfl, b, T.CB, dx, _, _, rfl, s12 _ _ hb, T.clB, T.nRods, bF_rods _, r, T.CR, dr, _, rfl, hR2, T.clR, T.nLaid, (by show 3 < 1000; decide), ?_⟩
    rw [rF_setLaid]
    have kp : ∀ c o, H2 c = some o → c ≠ r → (upd H2 r (.ins T.CR dr (rF fa fl p2))) c = some o := fun c o e n => by rw [upd_ne n]; exact e
    have k3 : Keep H (upd H2 r (.ins T.CR dr (rF fa fl p2))) := (Keep.of s12).trans (Keep.ins hR2)
    have row3 := hrow.but hR2 kp encP_ne
    have ben3 : BenchAt T.CB T.CR (upd H2 r (.ins T.CR dr (rF fa fl p2))) b { st with laid := laidGo st.rods (List.range st.rods.length) ds } :=
      ⟨dx, r, kp _ _ (s12 _ _ hb) nbr, nbr, dr, fa, fl, p2, upd_same, (hfa.same s12).but hR2 kp encL_ne, (hfl.same s12).but hR2 kp encF_ne, row3⟩
    have fresh : ∀ p, (upd H2 r (.ins T.CR dr (rF fa fl p2))) p = none → H p = none := fun p hp => by
      have npr : p ≠ r := fun z => by rw [z, upd_same] at hp; cases hp
      rw [upd_ne npr] at hp
      exact s12.free hp
    have hlen := (good_lay G cf cy).laidLen
    generalize laidGo st.rods (List.range st.rods.length) ds = L at *
    generalize (upd H2 r (.ins T.CR dr (rF fa fl p2))) = H3 at *
    obtain ⟨as, has, hall⟩ := row3
    refine ⟨(by show 1 ≤ sizeLine; decide), fun l1 hl1 => ?_⟩
    have s4 := same_new hl1 (.lst [.int 0])
    refine ⟨_, rfl, p2, as, _, rfl, s4 _ _ has, lt_pairs (hall.same s4), ?_, fun p5 H5 s5 np5 e5 => ?_⟩
    · rw [flat2_eq, flat2_len]
      have : L.length ≤ 8 := hlen
      omega
    rw [flat2_eq] at e5
    refine ⟨l1, p5, _, _, rfl, rfl, s5 _ _ upd_same, e5, ?_, fun p6 hp6 => ?_⟩
    · rw [NL_len, flat2_len]
      show 1 + _ ≤ _
      exact small (by have : L.length ≤ 8 := hlen; omega)
    have s6 := same_new hp6 (.lst ([.int 0] ++ NL (flat2 L)))
    refine q p6 _ ((ben3.same s4).same (s5.trans s6)) (k3.trans (Keep.of (s4.trans (s5.trans s6)))) (fresh _ (s4.free (s5.free hp6))) ?_
    rw [upd_same, ← NL_IL]
    rfl
/-! cut -/
def spCut (CB CR : Addr) : Sp := fun vs H Q _ => ∃ (b : Addr) (s : Mu13.State) (r f k v : Nat), vs = [.ref b, nV r, nV f, nV k, nV v] ∧ BenchAt CB CR H b s ∧ Good s ∧ s.flaws.length ≤ 9000 ∧
  Ans CB CR H b (Mu13.step s (.cut r f k v)).1 (Mu13.step s (.cut r f k v)).2 Q
theorem scCut : FnScope ["self", "r", "f", "k", "v"] ["self", "r", "f", "k", "v"] (defScope sCut) := ⟨rfl, rfl, rfl, by decide +kernel, rfl, by decide +kernel, by decide +kernel⟩
theorem ok_cut (T : Txt K mg) : FnOk P w K mg base CX0 3 T.cutM.f T.cutM.fd ["self", "r", "f", "k", "v"] (spCut T.CB T.CR) := by
  have GH : FnOk P w K mg base CX0 1 T.has.f T.has.fd ["self", "rod", "face", "k"] (spHas T.CR) := ok_has T
  have GC : FnOk P w K mg base CX0 2 T.cutCell.f T.cutCell.fd ["self", "rod", "face", "k", "number"] (spCutCell T.CR) := ok_cutCell T
  obtain ⟨tB, hB⟩ := T.c_BAD
  obtain ⟨t99, h99⟩ := T.c_MOST_CELL
  refine T.cutM.fn.ok scCut (fun vs H Q E h => ?_) (fun cdv A outer s H vs Q E hr h => ?_)
  · obtain ⟨b, st, r, f, k, v, rfl, _⟩ := h
    rfl
  obtain ⟨b, st, rr, f, k, v, rfl, hBen, G, hfl9, q⟩ := h
  have hr1 : Room 1 _ := hr.mono (by decide)
  refine ⟨_, pss_cons (ps_if (PW.pt (pw_or (pt_not (pt_val (pe_meth (pe_fld (pv 0) rfl) T.clR T.has.m GH hr1 T.has.b .nil pass0 (pa_cons (pv 1) (pa_cons (pv 2) (pa_cons (pv 3) pa_nil)))))) (pw_or1 (pt_cmpR op_gt (pv 4) (pe_glob (v := .int 99) rfl h99 ⟨_, rfl⟩) (nomark _)))))
      (pss_one (ps_ret (pe_lst (pa_cons (pe_glob (v := .int (-1)) rfl hB ⟨_, rfl⟩) pa_nil)))) pss_nil)
    (pss_cons (ps_expr (pe_meth (pe_fld (pv 0) rfl) T.clR T.cutCell.m GC hr T.cutCell.b .nil pass0 (pa_cons (pv 1) (pa_cons (pv 2) (pa_cons (pv 3) (pa_cons (pv 4) pa_nil))))))
    (pss_one (ps_ret (pe_lst (pa_cons (pe_callB call_len_seq (by rfl) T.len PySem.boot_len (pa_cons (pe_fld (pe_fld (pv 0) rfl) rfl) pa_nil)) pa_nil))))), ?_⟩
  obtain ⟨dx, r, hb, nbr, R⟩ := id hBen
  obtain ⟨dr, fa, fl, la, hR, hfa, hfl, hla⟩ := id R
  have bad : ∀ (h : ¬ (hasCell st rr f k = true ∧ v ≤ 99)), ∀ p, H p = none → Q (.ref p) (upd H p (.lst [.int (-1)])) := fun h p hp => by
    rw [step_cut_bad h] at q
    exact q p _ (hBen.same (same_new hp _)) (Keep.of (same_new hp _)) hp upd_same
  refine ⟨_, rfl, b, T.CB, dx, _, _, rfl, hb, T.clB, T.nRods, bF_rods _, r, dr, _, rfl, hR, rF_no _ _ _ (by decide +kernel) (by decide +kernel) (by decide +kernel), _, rfl, _, rfl, _, rfl, r, st, rr, f, k, rfl, R, _, rfl, ?_⟩
  show if (!hasCell st rr f k) = true then _ else _
  cases ch : hasCell st rr f k with
  | false => exact iteT (iteT ⟨(by show 1 ≤ sizeLine; decide), fun p hp => bad (fun z => by rw [ch] at z; exact absurd z.1 (by decide)) p hp⟩)
  | true =>
  refine iteF ⟨_, rfl, _, _, rfl, rfl, _, rfl, ?_⟩
  by_cases cv : v ≤ 99
  · refine if_false_of (decide_eq_false (by omega)) ?_
    rw [step_cut ⟨ch, cv⟩] at q
    have hcl := cutFlaws_len st rr f k v
    have hc2 := ch
    unfold hasCell at hc2
    simp only [Bool.and_eq_true, decide_eq_true_eq] at hc2
    refine ⟨_, rfl, b, T.CB, dx, _, _, rfl, hb, T.clB, T.nRods, bF_rods _, r, dr, _, rfl, hR, rF_no _ _ _ (by decide +kernel) (by decide +kernel) (by decide +kernel), _, rfl, _, rfl, _, rfl, _, rfl, r, st, rr, f, k, v, rfl, R, G, hc2.1, hc2.2.1, by omega, by omega, fun H2 R2 kp => ?_⟩
    have hb2 := kp _ _ hb nbr
    obtain ⟨dr2, fa2, fl2, la2, hR2, hfa2, ⟨as, has, hall⟩, hla2⟩ := id R2
    have k2 : Keep H H2 := fun c o e n => kp c o e (fun z => by subst z; rw [hR] at e; exact n _ _ _ (Option.some.inj e).symm)
    refine ⟨_, rfl, b, T.CB, dx, _, _, rfl, hb2, T.clB, T.nRods, bF_rods _, r, T.CR, dr2, _, _, rfl, hR2, T.clR, T.nFlaws, rF_flaws _ _ _, fl2, _, rfl, .inl (SqL.of has), (by show 1 ≤ sizeLine; decide), fun p hp => ?_⟩
    have hl : (as.map V.ref).length = (cutFlaws st rr f k v).length := by rw [List.length_map]; exact hall.len
    have ben2 : BenchAt T.CB T.CR H2 b { st with flaws := cutFlaws st rr f k v } := ⟨dx, r, hb2, nbr, R2⟩
    rw [hl]
    refine q p _ (ben2.same (same_new hp _)) (k2.trans (Keep.of (same_new hp _))) ?_ ?_
    · cases e : H p with
      | none => rfl
      | some o =>
        by_cases npr : p = r
        · subst npr; rw [hR2] at hp; cases hp
        · rw [kp p o e npr] at hp; cases hp
    · rw [upd_same, ← NL_IL]; rfl
  · refine if_true_of (decide_eq_true (by omega)) ⟨(by show 1 ≤ sizeLine; decide), fun p hp => bad (fun z => cv z.2) p hp⟩
end
end LR

/-! Bench: refusal_of, row, by, into, explain -/
namespace LR
open PySem PySem.Spec PyProof.Rows L2
/-- a new int list, all else as it was -/
def AnsP (H : Hp) (a : List Int) (Q : VK) : Prop := ∀ (p : Addr) (H' : Hp), Same H H' → H p = none → H' p = some (.lst (IL a)) → Q (.ref p) H'
def pairD (p : Nat × Nat) : PyData := .tuple [.int p.1, .int p.2]
theorem dp_pairs {K : PySem.W.Frag} {H : Hp} {as : List Addr} {ps : List (Nat × Nat)} (h : AllAt encP H as ps) : DpAll K H (as.map V.ref) (ps.map pairD) := by
  unfold AllAt at h
  induction h with
  | nil => exact .nil
  | cons r _ ih => exact .cons (.tup (SqT.of r) (.cons (.int _) (.cons (.int _) .nil))) ih
theorem shaped_pairs (ps : List (Nat × Nat)) : SeqAt.shaped (.list (ps.map pairD)) = true := by
  have h1 : PyData.canLayAll0 (ps.map pairD) = true := by
    induction ps with
    | nil => simp [PyData.canLayAll0]
    | cons a l ih => simp [PyData.canLayAll0, PyData.canLay0, pairD, ih]
  have h2 : PyData.depthAll (ps.map pairD) ≤ 1 := by
    clear h1
    induction ps with
    | nil => simp [PyData.depthAll]
    | cons a l ih => simp [PyData.depthAll, PyData.depth, pairD, ih]
  unfold SeqAt.shaped
  rw [Bool.and_eq_true]
  refine ⟨by simp only [PyData.canLay0]; exact h1, decide_eq_true ?_⟩
  simp only [PyData.depth]
  omega
theorem shaped_nil : SeqAt.shaped (.list []) = true := shaped_pairs []
theorem eqv_pairs (ps : List (Nat × Nat)) : PyData.eqv (.list (ps.map pairD)) (.list []) = ps.isEmpty := by
  cases ps with
  | nil => simp [PyData.eqv, PyData.eqvAll]
  | cons a l => simp [PyData.eqv, PyData.eqvAll]
section
variable {P : Program} {w : World} {K : PySem.W.Frag} {mg : Str → Option Value} {base : Heap}
/-! refusal_of -/
def spRefusal (CB CR : Addr) : Sp := fun vs H Q _ => ∃ (b : Addr) (s : Mu13.State) (c : Bool), vs = [.ref b, .bl c] ∧ BenchAt CB CR H b s ∧
  (c = false → AnsP H [-1] Q) ∧ (c = true → s.laid = [] → AnsP H [-6] Q) ∧ (c = true → s.laid ≠ [] → ∀ H', Same H H' → Q .non H')
theorem scRefusal : FnScope ["self", "is_right"] ["self", "is_right"] (defScope sRefusal) := ⟨rfl, rfl, rfl, by decide +kernel, rfl, by decide +kernel, by decide +kernel⟩
theorem ok_refusal (T : Txt K mg) : FnOk P w K mg base CX0 1 T.refusal.f T.refusal.fd ["self", "is_right"] (spRefusal T.CB T.CR) := by
  obtain ⟨tB, hB⟩ := T.c_BAD
  obtain ⟨tN, hN⟩ := T.c_NOT_LAID
  refine T.refusal.fn.ok scRefusal (fun vs H Q E h => ?_) (fun cdv A outer s H vs Q E hr h => ?_)
  · obtain ⟨b, st, c, rfl, _⟩ := h
    rfl
  obtain ⟨b, st, c, rfl, ⟨dx, r, hb, nbr, ⟨dr, fa, fl, la, hR, hfa, hfl, ⟨as, hla, hall⟩⟩⟩, q1, q2, q3⟩ := h
  refine ⟨_, pss_cons (ps_if (pt_not (pt_val (pv 1))) (pss_one (ps_ret (pe_lst (pa_cons (pe_glob (v := .int (-1)) rfl hB ⟨_, rfl⟩) pa_nil)))) pss_nil)
    (pss_cons (ps_if (pt_cmpR (op_eqD hr.units) (pe_fld (pe_fld (pv 0) rfl) rfl) (pe_lst pa_nil) (nomark _)) (pss_one (ps_ret (pe_lst (pa_cons (pe_glob (v := .int (-6)) rfl hN ⟨_, rfl⟩) pa_nil)))) pss_nil)
    (pss_one (ps_ret pe_non))), ?_⟩
  refine ⟨_, rfl, _, rfl, ?_⟩
  cases c with
  | false => exact iteT ⟨(by show 1 ≤ sizeLine; decide), fun p hp => q1 rfl p _ (same_new hp _) hp upd_same⟩
  | true =>
  refine iteF ?_
  refine ⟨_, rfl, b, T.CB, dx, _, _, rfl, hb, T.clB, T.nRods, bF_rods _, r, T.CR, dr, _, _, rfl, hR, T.clR, T.nLaid, rF_laid _ _ _, Nat.zero_le _, fun e he => ?_⟩
  have s1 := same_new he (.lst [])
  refine ⟨.list (st.laid.map pairD), .list [], .lst (SqL.of (s1 _ _ hla)) (dp_pairs (hall.same s1)), .lst (SqL.of upd_same) .nil, shaped_pairs _, shaped_nil, _, rfl, ?_⟩
  rw [eqv_pairs]
  cases ce : st.laid.isEmpty with
  | true =>
    refine iteT ⟨(by show 1 ≤ sizeLine; decide), fun p hp => ?_⟩
    exact q2 rfl (List.isEmpty_iff.mp ce) p _ (s1.trans (same_new hp _)) (s1.free hp) upd_same
  | false =>
    refine iteF ?_
    exact q3 rfl (fun z => by rw [z] at ce; cases ce) _ s1
/-! row -/
def spRow (CB CR : Addr) : Sp := fun vs H Q _ => ∃ (b : Addr) (s : Mu13.State) (k : Nat), vs = [.ref b, nV k] ∧ BenchAt CB CR H b s ∧ Good s ∧ k ≤ 9 ∧ AnsP H (Mu13.nums (countedN (rowCells s k) ++ countedN (Mu13.digits (rowRead s k)))) Q
theorem scRow : FnScope ["self", "k", "cells"] ["self", "k"] (defScope sRow) := ⟨rfl, rfl, rfl, by decide +kernel, rfl, by decide +kernel, by decide +kernel⟩
theorem digs40 {n : Nat} (h : n < 10 ^ 40) : (countedN (Mu13.digits n)).length ≤ 41 := by
  show (Mu13.digits n).length + 1 ≤ 41
  have := digits_len_le h (Nat.le_refl _) (by decide)
  omega
theorem ok_row (T : Txt K mg) : FnOk P w K mg base CX0 5 T.rowM.f T.rowM.fd ["self", "k"] (spRow T.CB T.CR) := by
  have GC : FnOk P w K mg base CX0 3 T.rowCells.f T.rowCells.fd ["self", "k"] (spRowCells T.CR) := ok_rowCells T
  have GR : FnOk P w K mg base CX0 4 T.rowRead.f T.rowRead.fd ["self", "k"] (spRowRead T.CR) := ok_rowRead T
  have GT : FnOk P w K mg base CX0 2 T.told.f T.told.fd ["number"] spTold := ok_told T
  refine T.rowM.fn.ok scRow (fun vs H Q E h => ?_) (fun cdv A outer s H vs Q E hr h => ?_)
  · obtain ⟨b, st, k, rfl, _⟩ := h
    rfl
  obtain ⟨b, st, k, rfl, ⟨dx, r, hb, nbr, R⟩, G, hk, q⟩ := h
  obtain ⟨dr, fa, fl, la, hR, _, _, _⟩ := id R
  have hr2 : Room 2 _ := hr.mono (by decide)
  have hr3 : Room 3 _ := hr.mono (by decide)
  refine ⟨_, pss_cons (ps_set (i := 2) scRow.nd rfl (Or.inl rfl) (pe_meth (pe_fld (pv 0) rfl) T.clR T.rowCells.m GC hr3 T.rowCells.b .nil pass0 (pa_cons (pv 1) pa_nil)))
    (pss_one (ps_ret (pe_op op_cat (pe_op op_cat (pe_lst (pa_cons (pe_callB call_len_seq (by rfl) T.len PySem.boot_len (pa_cons (pv 2) pa_nil)) pa_nil)) (pv 2))
      (pe_call GT hr2 rfl T.told.g T.told.fn.kp T.told.b .nil pass0 (pa_cons (pe_meth (pe_fld (pv 0) rfl) T.clR T.rowRead.m GR hr T.rowRead.b .nil pass0 (pa_cons (pv 1) pa_nil)) pa_nil))))), ?_⟩
  have hcl := rowCells_len G k
  have hrr : rowRead st k < 10 ^ 40 := Nat.lt_of_lt_of_le (rowRead_lt G hk) (by decide)
  have hd := digs40 hrr
  refine ⟨_, rfl, b, T.CB, dx, _, _, rfl, hb, T.clB, T.nRods, bF_rods _, r, dr, _, rfl, hR, rF_no _ _ _ (by decide +kernel) (by decide +kernel) (by decide +kernel), _, rfl, r, st, k, rfl, R, G, by omega, fun c H1 s1 nc e1 => ?_⟩
  refine ⟨_, rfl, c, _, rfl, .inl (SqL.of e1), (by show 1 ≤ sizeLine; decide), fun l1 hl1 => ?_⟩
  rw [NL_len] at *
  have s2 := same_new hl1 (.lst [.int ((rowCells st k).length : Nat)])
  have ncl : c ≠ l1 := ne_of_none e1 hl1
  refine ⟨_, rfl, l1, c, _, _, rfl, rfl, upd_same, s2 _ _ e1, by rw [NL_len]; show 1 + _ ≤ _; exact small (by omega), fun l2 hl2 => ?_⟩
  have s3 := s2.trans (same_new hl2 (.lst ([.int ((rowCells st k).length : Nat)] ++ NL (rowCells st k))))
  have s13 := s1.trans s3
  refine ⟨_, rfl, b, T.CB, dx, _, _, rfl, s13 _ _ hb, T.clB, T.nRods, bF_rods _, r, dr, _, rfl, s13 _ _ hR, rF_no _ _ _ (by decide +kernel) (by decide +kernel) (by decide +kernel), _, rfl, r, st, k, rfl, R.same s13, G, by omega, fun H4 s4 => ?_⟩
  refine ⟨rowRead st k, rfl, hrr, fun l5 H5 s5 n5 e5 => ?_⟩
  have s45 := s4.trans s5
  refine ⟨l2, l5, _, _, rfl, rfl, s45 _ _ upd_same, e5, ?_, fun p hp => ?_⟩
  · rw [List.length_append, NL_len, NL_len]
    show (1 + _) + _ ≤ _
    exact small (by omega)
  have s15 := s13.trans s45
  refine q p _ (s15.trans (same_new hp _)) (s15.free hp) ?_
  rw [upd_same, ← NL_IL, NL_append]
  rfl
/-! by -/
def spBy (CB CR : Addr) : Sp := fun vs H Q _ => ∃ (b dg : Addr) (s : Mu13.State) (ds : List Nat), vs = [.ref b, .ref dg] ∧ BenchAt CB CR H b s ∧ Good s ∧ H dg = some (.lst (NL ds)) ∧ Mu13.fine ds 8 = true ∧
  AnsP H (Mu13.nums (countedN (Mu13.digits (productOf s ds)) ++ ds.flatMap fun d => countedN (Mu13.digits (rowRead s d)))) Q
theorem scBy : FnScope ["self", "digits", "found", "digit"] ["self", "digits"] (defScope sBy) := ⟨rfl, rfl, rfl, by decide +kernel, rfl, by decide +kernel, by decide +kernel⟩
theorem ok_by (T : Txt K mg) : FnOk P w K mg base CX0 6 T.byM.f T.byM.fd ["self", "digits"] (spBy T.CB T.CR) := by
  have GP : FnOk P w K mg base CX0 5 T.product.f T.product.fd ["rods", "digits"] (spProduct T.CR) := ok_product T
  have GR : FnOk P w K mg base CX0 4 T.rowRead.f T.rowRead.fd ["self", "k"] (spRowRead T.CR) := ok_rowRead T
  have GT : FnOk P w K mg base CX0 2 T.told.f T.told.fd ["number"] spTold := ok_told T
  refine T.byM.fn.ok scBy (fun vs H Q E h => ?_) (fun cdv A outer s H vs Q E hr h => ?_)
  · obtain ⟨b, dg, st, ds, rfl, _⟩ := h
    rfl
  obtain ⟨b, dg, st, ds, rfl, ⟨dx, r, hb, nbr, R⟩, G, hdg, cf, q⟩ := h
  obtain ⟨dr, fa, fl, la, hR, _, _, _⟩ := id R
  obtain ⟨f1, f2, _⟩ := fine_le cf
  have hr2 : Room 2 _ := hr.mono (by decide)
  have hr4 : Room 4 _ := hr.mono (by decide)
  refine ⟨_, pss_cons (ps_set (i := 2) scBy.nd rfl (Or.inl rfl) (pe_call GT hr2 rfl T.told.g T.told.fn.kp T.told.b .nil pass0 (pa_cons (pe_call GP hr rfl T.product.g T.product.fn.kp T.product.b .nil pass0 (pa_cons (pe_fld (pv 0) rfl) (pa_cons (pv 1) pa_nil))) pa_nil)))
    (pss_cons (ps_for PassesOwn.never rfl (pi_list (pv 1)) (pg_name (i := 3) scBy.nd rfl (Or.inl rfl))
      (pss_one (ps_expr (pe_bm PySem.F.plainAttrs_list PySem.F.slot_list_extend PySem.F.type_list_extend mt_extend (pv 2)
        (pa_cons (pe_call GT hr2 rfl T.told.g T.told.fn.kp T.told.b .nil pass0 (pa_cons (pe_meth (pe_fld (pv 0) rfl) T.clR T.rowRead.m GR hr4 T.rowRead.b .nil pass0 (pa_cons (pv 3) pa_nil)) pa_nil)) pa_nil)))))
    (pss_one (ps_ret (pv 2)))), ?_⟩
  have hp40 := productOf_lt G f2 f1
  refine ⟨_, rfl, b, T.CB, dx, _, _, rfl, hb, T.clB, T.nRods, bF_rods _, _, rfl, r, dg, st, ds, rfl, R, G, hdg, f2, fun H1 s1 => ?_⟩
  refine ⟨productOf st ds, rfl, hp40, fun fo H2 s2 nfo e2 => ?_⟩
  have s12 := s1.trans s2
  have nfoH : H fo = none := s1.free nfo
  refine ⟨_, rfl, dg, rfl, ⟨_, SqL.of (s12 _ _ hdg)⟩, ?_⟩
  refine for_list (K := K) (a := dg) (xs := NL ds) (fun i σ H' => ∃ (v : Option V) (done : List Nat), σ = [some (.ref b), some (.ref dg), some (.ref fo), v] ∧ Same H H' ∧ H' fo = some (.lst (NL done)) ∧ done.length ≤ 41 * (i + 1) ∧
      done = countedN (Mu13.digits (productOf st ds)) ++ (ds.take i).flatMap fun d => countedN (Mu13.digits (rowRead st d)))
    ⟨none, _, rfl, s12, e2, by have := digs40 hp40; omega, by simp⟩ (fun i σ H' _ ⟨_, _, _, s3, _⟩ => SqL.of (s3 _ _ hdg)) ?_ ?_
  · rintro i y σ H' hi ⟨v, done, rfl, s3, efo, hdl, hdone⟩
    obtain ⟨d, hd, rfl⟩ := NL_of hi
    have hil := lt_of_get hd
    have hd9 := f2 d (List.mem_of_getElem? hd)
    have hrr : rowRead st d < 10 ^ 40 := Nat.lt_of_lt_of_le (rowRead_lt G hd9) (by decide)
    have hdd := digs40 hrr
    refine ⟨_, rfl, .inl ⟨rfl, _, SqL.of efo⟩, _, rfl, b, T.CB, dx, _, _, rfl, s3 _ _ hb, T.clB, T.nRods, bF_rods _, r, dr, _, rfl, s3 _ _ hR, rF_no _ _ _ (by decide +kernel) (by decide +kernel) (by decide +kernel), _, rfl, r, st, d, rfl, R.same s3, G, by omega, fun H4 s4 => ?_⟩
    refine ⟨rowRead st d, rfl, hrr, fun l5 H5 s5 n5 e5 => ?_⟩
    have s45 := s4.trans s5
    refine ⟨fo, l5, _, _, rfl, rfl, s45 _ _ efo, e5, by rw [NL_len, NL_len]; exact small (by omega), ?_⟩
    refine ⟨_, done ++ countedN (Mu13.digits (rowRead st d)), rfl, same_upd (s3.trans s45) nfoH, by rw [upd_same, NL_append], by rw [List.length_append]; omega, ?_⟩
    rw [take_more hd, List.flatMap_append, hdone, List.append_assoc]
    simp
  · rintro σ H' ⟨v, done, rfl, s3, efo, hdl, hdone⟩
    rw [NL_len, List.take_length] at hdone
    refine ⟨_, rfl, q fo H' s3 nfoH ?_⟩
    rw [← NL_IL, ← hdone]; exact efo
/-! into -/
def spInto (CB CR : Addr) : Sp := fun vs H Q _ => ∃ (b dg : Addr) (s : Mu13.State) (ds : List Nat), vs = [.ref b, .ref dg] ∧ BenchAt CB CR H b s ∧ Good s ∧ H dg = some (.lst (NL ds)) ∧ Mu13.fine ds 16 = true ∧
  (((readings s).drop 1).contains 0 = true → AnsP H [-7] Q) ∧
  (((readings s).drop 1).contains 0 = false → AnsP H (Mu13.nums (countedN (Mu13.digits (Mu13.valueOf (Mu13.quotient s 0 ds).1)) ++ countedN (Mu13.digits (Mu13.quotient s 0 ds).2))) Q)
theorem scInto : FnScope ["self", "digits", "readings", "quotient", "left"] ["self", "digits"] (defScope sInto) := ⟨rfl, rfl, rfl, by decide +kernel, rfl, by decide +kernel, by decide +kernel⟩
theorem ok_into (T : Txt K mg) : FnOk P w K mg base CX0 6 T.intoM.f T.intoM.fd ["self", "digits"] (spInto T.CB T.CR) := by
  have GA : FnOk P w K mg base CX0 5 T.readings.f T.readings.fd ["rods"] (spReadings T.CR) := ok_readings T
  have GP : FnOk P w K mg base CX0 2 T.parted.f T.parted.fd ["readings", "digits"] spParted := ok_parted T
  have GN : FnOk P w K mg base CX0 1 T.number.f T.number.fd ["digits"] spNumber := ok_number T
  have GT : FnOk P w K mg base CX0 2 T.told.f T.told.fd ["number"] spTold := ok_told T
  obtain ⟨t7, h7⟩ := T.c_NOUGHT
  refine T.intoM.fn.ok scInto (fun vs H Q E h => ?_) (fun cdv A outer s H vs Q E hr h => ?_)
  · obtain ⟨b, dg, st, ds, rfl, _⟩ := h
    rfl
  obtain ⟨b, dg, st, ds, rfl, ⟨dx, r, hb, nbr, R⟩, G, hdg, cf, q1, q2⟩ := h
  obtain ⟨f1, f2, _⟩ := fine_le cf
  have hr1 : Room 1 _ := hr.mono (by decide)
  have hr2 : Room 2 _ := hr.mono (by decide)
  refine ⟨_, pss_cons (ps_set (i := 2) scInto.nd rfl (Or.inl rfl) (pe_call GA hr rfl T.readings.g T.readings.fn.kp T.readings.b .nil pass0 (pa_cons (pe_fld (pv 0) rfl) pa_nil)))
    (pss_cons (ps_if (pt_cmpR op_in_seq pe_int (pe_slice sl_list (pv 2) (po_some pe_int) po_none) (by rfl)) (pss_one (ps_ret (pe_lst (pa_cons (pe_glob (v := .int (-7)) rfl h7 ⟨_, rfl⟩) pa_nil)))) pss_nil)
    (pss_cons (ps_asg (pe_call GP hr2 rfl T.parted.g T.parted.fn.kp T.parted.b .nil pass0 (pa_cons (pv 2) (pa_cons (pv 1) pa_nil))) (pg_tup rfl (pgs_cons (pg_name (i := 3) scInto.nd rfl (Or.inl rfl)) (pgs_cons (pg_name (i := 4) scInto.nd rfl (Or.inl rfl)) pgs_nil))))
    (pss_one (ps_ret (pe_op op_cat (pe_call GT hr2 rfl T.told.g T.told.fn.kp T.told.b .nil pass0 (pa_cons (pe_call GN hr1 rfl T.number.g T.number.fn.kp T.number.b .nil pass0 (pa_cons (pv 3) pa_nil)) pa_nil))
      (pe_call GT hr2 rfl T.told.g T.told.fn.kp T.told.b .nil pass0 (pa_cons (pv 4) pa_nil))))))), ?_⟩
  obtain ⟨b1, b2, _, _⟩ := quot_small (s := st) cf
  refine ⟨_, rfl, b, T.CB, dx, _, _, rfl, hb, T.clB, T.nRods, bF_rods _, r, st, rfl, R, G, fun ra H1 s1 nra e1 => ?_⟩
  refine ⟨_, rfl, 1, rfl, ra, _, rfl, SqL.of e1, fun sl hsl => ?_⟩
  rw [cut_from (z := 1) (j := 1) rfl]
  have s2 := s1.trans (same_new hsl (.lst (NL ((readings st).drop 1))))
  have e2 : (upd H1 sl (.lst (NL ((readings st).drop 1)))) ra = some (.lst (NL (readings st))) := (same_new hsl _) _ _ e1
  refine ⟨sl, _, rfl, .inl (SqL.of upd_same), rfl, NL_flat _, _, rfl, ?_⟩
  have ein : inV (V.int 0) (NL ((readings st).drop 1)) = ((readings st).drop 1).contains 0 := NL_in _ 0
  show if inV (V.int 0) (NL ((readings st).drop 1)) = true then _ else _
  rw [ein]
  cases c : ((readings st).drop 1).contains 0 with
  | true => exact iteT ⟨(by show 1 ≤ sizeLine; decide), fun p hp => q1 c p _ (s2.trans (same_new hp _)) (s2.free hp) upd_same⟩
  | false =>
  refine iteF ?_
  generalize upd H1 sl (.lst (NL ((readings st).drop 1))) = H2 at *
  refine ⟨_, rfl, _, rfl, ra, dg, st, ds, rfl, e2, G, s2 _ _ hdg, by omega, fun pt qt H3 s3 et eq' => ?_⟩
  refine ⟨pt, _, rfl, SqT.of et, rfl, _, _, rfl, _, _, rfl, rfl, ?_⟩
  refine ⟨_, rfl, qt, _, rfl, eq', Mu13.valueOf (Mu13.quotient st 0 ds).1, rfl, b1, fun l4 H4 s4 n4 e4 => ?_⟩
  refine ⟨_, rfl, (Mu13.quotient st 0 ds).2, rfl, b2, fun l5 H5 s5 n5 e5 => ?_⟩
  refine ⟨l4, l5, _, _, rfl, rfl, s5 _ _ e4, e5, by rw [NL_len, NL_len]; have := digs40 b1; have := digs40 b2; exact small (by omega), fun p hp => ?_⟩
  have s25 := s2.trans (s3.trans (s4.trans s5))
  refine q2 c p _ (s25.trans (same_new hp _)) (s25.free hp) ?_
  rw [upd_same, ← NL_IL, NL_append]
/-! explain -/
def spExplain (CB CR : Addr) : Sp := fun vs H Q _ => ∃ (b dg : Addr) (s : Mu13.State) (k : Nat) (ds : List Nat), vs = [.ref b, nV k, .ref dg] ∧ BenchAt CB CR H b s ∧ Good s ∧ k ≤ 9 ∧ H dg = some (.lst (NL ds)) ∧
  AnsP H (Mu13.nums ((expl s k (offOf s k (Mu13.valueOf ds)) s.laid).length :: flat3 (expl s k (offOf s k (Mu13.valueOf ds)) s.laid))) Q
theorem scExplain : FnScope ["self", "k", "digits", "found"] ["self", "k", "digits"] (defScope sExplain) := ⟨rfl, rfl, rfl, by decide +kernel, rfl, by decide +kernel, by decide +kernel⟩
theorem ok_explain (T : Txt K mg) : FnOk P w K mg base CX0 3 T.explainM.f T.explainM.fd ["self", "k", "digits"] (spExplain T.CB T.CR) := by
  have GX : FnOk P w K mg base CX0 2 T.explained.f T.explained.fd ["rods", "k", "number"] (spExplained T.CR) := ok_explained T
  have GN : FnOk P w K mg base CX0 1 T.number.f T.number.fd ["digits"] spNumber := ok_number T
  have GF : FnOk P w K mg base CX0 1 T.flat.f T.flat.fd ["rows"] spFlat := ok_flat T
  refine T.explainM.fn.ok scExplain (fun vs H Q E h => ?_) (fun cdv A outer s H vs Q E hr h => ?_)
  · obtain ⟨b, dg, st, k, ds, rfl, _⟩ := h
    rfl
  obtain ⟨b, dg, st, k, ds, rfl, ⟨dx, r, hb, nbr, R⟩, G, hk, hdg, q⟩ := h
  have hr1 : Room 1 _ := hr.mono (by decide)
  refine ⟨_, pss_cons (ps_set (i := 3) scExplain.nd rfl (Or.inl rfl) (pe_call GX hr rfl T.explained.g T.explained.fn.kp T.explained.b .nil pass0 (pa_cons (pe_fld (pv 0) rfl) (pa_cons (pv 1) (pa_cons (pe_call GN hr1 rfl T.number.g T.number.fn.kp T.number.b .nil pass0 (pa_cons (pv 2) pa_nil)) pa_nil)))))
    (pss_one (ps_ret (pe_op op_cat (pe_lst (pa_cons (pe_callB call_len_seq (by rfl) T.len PySem.boot_len (pa_cons (pv 3) pa_nil)) pa_nil)) (pe_call GF hr1 rfl T.flat.g T.flat.fn.kp T.flat.b .nil pass0 (pa_cons (pv 3) pa_nil))))), ?_⟩
  refine ⟨_, rfl, b, T.CB, dx, _, _, rfl, hb, T.clB, T.nRods, bF_rods _, _, rfl, _, rfl, dg, ds, rfl, hdg, ?_⟩
  refine ⟨r, st, k, Mu13.valueOf ds, rfl, R, G, by omega, fun fo H1 s1 nfo ⟨as, efo, hall⟩ => ?_⟩
  have hel := expl_len st k (offOf st k (Mu13.valueOf ds)) st.laid
  have hl8 := G.laidLen
  have hal := hall.len
  generalize expl st k (offOf st k (Mu13.valueOf ds)) st.laid = L at *
  refine ⟨_, rfl, fo, _, rfl, .inl (SqL.of efo), (by show 1 ≤ sizeLine; decide), fun l1 hl1 => ?_⟩
  have eL : (as.map V.ref).length = L.length := by rw [List.length_map, hal]
  rw [eL] at *
  have s2 := same_new hl1 (.lst [.int (L.length : Nat)])
  refine ⟨_, rfl, fo, as, _, rfl, s2 _ _ efo, lt_tris (hall.same s2), by rw [flat3_eq, flat3_len]; omega, fun l3 H3 s3 n3 e3 => ?_⟩
  rw [flat3_eq] at e3
  refine ⟨l1, l3, _, _, rfl, rfl, s3 _ _ upd_same, e3, by rw [NL_len, flat3_len]; show 1 + _ ≤ _; exact small (by omega), fun p hp => ?_⟩
  have s13 := s1.trans (s2.trans s3)
  refine q p _ (s13.trans (same_new hp _)) (s13.free hp) ?_
  rw [upd_same, ← NL_IL]
  rfl
end
end LR

/-! Bench: root, count, show, about_laid, answer -/
namespace LR
open PySem PySem.Spec PyProof.Rows L2
open Mu13Neutral (fours)
section
variable {P : Program} {w : World} {K : PySem.W.Frag} {mg : Str → Option Value} {base : Heap}
/-! root -/
def spRoot (CB CR : Addr) : Sp := fun vs H Q _ => ∃ (b dg : Addr) (s : Mu13.State) (ds : List Nat), vs = [.ref b, .ref dg] ∧ BenchAt CB CR H b s ∧ Good s ∧ H dg = some (.lst (NL ds)) ∧ ds.length ≤ 1000 ∧
  AnsP H (Mu13.step s (.root ds)).2 Q
theorem scRoot : FnScope ["self", "digits", "number", "double", "found"] ["self", "digits"] (defScope sRoot) := ⟨rfl, rfl, rfl, by decide +kernel, rfl, by decide +kernel, by decide +kernel⟩
theorem ok_root (T : Txt K mg) : FnOk P w K mg base CX0 16 T.rootM.f T.rootM.fd ["self", "digits"] (spRoot T.CB T.CR) := by
  have GA : FnOk P w K mg base CX0 1 T.are.f T.are.fd ["numbers", "most"] spAre := ok_are T
  have GN : FnOk P w K mg base CX0 1 T.number.f T.number.fd ["digits"] spNumber := ok_number T
  have GF : FnOk P w K mg base CX0 15 T.notLaid.f T.notLaid.fd ["rods", "number"] (spNotLaid T.CR) := ok_notLaid T
  have GR : FnOk P w K mg base CX0 1 T.rootOf.f T.rootOf.fd ["number"] spRootOf := ok_rootOf T
  have GT : FnOk P w K mg base CX0 2 T.told.f T.told.fd ["number"] spTold := ok_told T
  obtain ⟨tB, hB⟩ := T.c_BAD
  obtain ⟨tC, hC⟩ := T.c_CAN_NOT
  obtain ⟨tL, hL⟩ := T.c_LONG
  refine T.rootM.fn.ok scRoot (fun vs H Q E h => ?_) (fun cdv A outer s H vs Q E hr h => ?_)
  · obtain ⟨b, dg, st, ds, rfl, _⟩ := h
    rfl
  obtain ⟨b, dg, st, ds, rfl, ⟨dx, r, hb, nbr, R⟩, G, hdg, hsz, q⟩ := h
  have hr1 : Room 1 _ := hr.mono (by decide)
  have hr2 : Room 2 _ := hr.mono (by decide)
  refine ⟨_, pss_cons (ps_if (pt_not (pt_val (pe_call GA hr1 rfl T.are.g T.are.fn.kp T.are.b .nil pass0 (pa_cons (pv 1) (pa_cons (pe_glob (v := .int 16) rfl hL ⟨_, rfl⟩) pa_nil))))) (pss_one (ps_ret (pe_lst (pa_cons (pe_glob (v := .int (-1)) rfl hB ⟨_, rfl⟩) pa_nil)))) pss_nil)
    (pss_cons (ps_set (i := 2) scRoot.nd rfl (Or.inl rfl) (pe_call GN hr1 rfl T.number.g T.number.fn.kp T.number.b .nil pass0 (pa_cons (pv 1) pa_nil)))
    (pss_cons (ps_set (i := 3) scRoot.nd rfl (Or.inl rfl) (pe_call GF hr rfl T.notLaid.g T.notLaid.fn.kp T.notLaid.b .nil pass0 (pa_cons (pe_fld (pv 0) rfl) (pa_cons (pv 2) pa_nil))))
    (pss_cons (ps_if (pt_cmpR op_notN (pv 3) pe_non (nomark _)) (pss_one (ps_ret (pe_op op_cat (pe_lst (pa_cons (pe_glob (v := .int (-3)) rfl hC ⟨_, rfl⟩) pa_nil)) (pe_call GT hr2 rfl T.told.g T.told.fn.kp T.told.b .nil pass0 (pa_cons (pv 3) pa_nil))))) pss_nil)
    (pss_cons (ps_set (i := 4) scRoot.nd rfl (Or.inl rfl) (pe_call GR hr1 rfl T.rootOf.g T.rootOf.fn.kp T.rootOf.b .nil pass0 (pa_cons (pv 2) pa_nil)))
    (pss_one (ps_ret (pe_op op_cat (pe_call GT hr2 rfl T.told.g T.told.fn.kp T.told.b .nil pass0 (pa_cons (pv 4) pa_nil))
      (pe_call GT hr2 rfl T.told.g T.told.fn.kp T.told.b .nil pass0 (pa_cons (pe_op op_sub (pv 2) (pe_op op_mul (pv 4) (pv 4))) pa_nil))))))))), ?_⟩
  refine ⟨_, rfl, dg, ds, 16, rfl, hdg, by omega, fun H1 s1 => ⟨_, rfl, ?_⟩⟩
  cases cf : Mu13.fine ds 16 with
  | false =>
    refine iteT ⟨(by show 1 ≤ sizeLine; decide), fun p hp => ?_⟩
    rw [step_root_bad st cf] at q
    exact q p _ (s1.trans (same_new hp _)) (s1.free hp) upd_same
  | true =>
  refine iteF ?_
  have hv := value_lt16 cf
  have hv40 : Mu13.valueOf ds < 10 ^ 40 := Nat.lt_of_lt_of_le hv (by decide)
  refine ⟨_, rfl, dg, ds, rfl, s1 _ _ hdg, ?_⟩
  refine ⟨_, rfl, b, T.CB, dx, _, _, rfl, s1 _ _ hb, T.clB, T.nRods, bF_rods _, _, rfl, r, st, Mu13.valueOf ds, rfl, R.same s1, G, hv, fun H2 s2 => ?_⟩
  have s12 := s1.trans s2
  have en : ((doublesOf (Mu13.valueOf ds)).find? fun x => !canLaid st.rods (List.range st.rods.length) (Mu13.digits x)) = notLaid st (Mu13.valueOf ds) := rfl
  rw [en]
  refine ⟨_, rfl, rfl, _, rfl, ?_⟩
  cases e : notLaid st (Mu13.valueOf ds) with
  | some x =>
    refine iteT ?_
    rw [step_root_no G cf e] at q
    have hx := notLaid_lt e
    refine ⟨(by show 1 ≤ sizeLine; decide), fun l1 hl1 => ?_⟩
    have s3 := same_new hl1 (.lst [.int (-3)])
    refine ⟨_, rfl, x, rfl, hx, fun l4 H4 s4 n4 e4 => ?_⟩
    refine ⟨l1, l4, _, _, rfl, rfl, s4 _ _ upd_same, e4, by rw [NL_len]; have := digs40 hx; show 1 + _ ≤ _; exact small (by omega), fun p hp => ?_⟩
    have s14 := s12.trans (s3.trans s4)
    refine q p _ (s14.trans (same_new hp _)) (s14.free hp) ?_
    rw [upd_same, NL_IL]
    rfl
  | none =>
    refine iteF ?_
    rw [step_root G cf e] at q
    obtain ⟨ir1, ir2⟩ := rootOf_is hv
    have hr28 := rootOf_lt (Mu13.valueOf ds)
    have hr40 : rootOf (Mu13.valueOf ds) < 10 ^ 40 := Nat.lt_of_lt_of_le hr28 (by decide)
    refine ⟨_, rfl, Mu13.valueOf ds, rfl, ?_⟩
    generalize Mu13.valueOf ds = n at *
    generalize rootOf n = ro at *
    refine ⟨_, rfl, ro, rfl, hr40, fun l3 H3 s3 n3 e3 => ?_⟩
    refine ⟨_, rfl, _, rfl, _, rfl, _, _, rfl, rfl, .inl ⟨by omega, by omega⟩, _, _, rfl, rfl, ?_⟩
    have es : (n : Int) - (ro : Int) * (ro : Int) = ((n - ro * ro : Nat) : Int) := by
      have : ((ro * ro : Nat) : Int) = (ro : Int) * (ro : Int) := by push_cast; rfl
      rw [← this]; omega
    have hle : n - ro * ro < 10 ^ 40 := Nat.lt_of_le_of_lt (Nat.sub_le _ _) hv40
    refine ⟨n - ro * ro, ?_, hle, fun l4 H4 s4 n4 e4 => ?_⟩
    · show [V.int ((n : Int) - (ro : Int) * (ro : Int))] ++ [] = _
      rw [es]; rfl
    refine ⟨l3, l4, _, _, rfl, rfl, s4 _ _ e3, e4, by rw [NL_len, NL_len]; have := digs40 hr40; have := digs40 hle; exact small (by omega), fun p hp => ?_⟩
    have s14 := s12.trans (s3.trans s4)
    refine q p _ (s14.trans (same_new hp _)) (s14.free hp) ?_
    rw [upd_same, ← NL_IL, NL_append]
/-! count -/
def spCount (CB CR : Addr) : Sp := fun vs H Q _ => ∃ (b : Addr) (s : Mu13.State) (n : Nat), vs = [.ref b, nV n] ∧ BenchAt CB CR H b s ∧ Good s ∧ AnsP H (Mu13.step s (.count n)).2 Q
theorem scCount : FnScope ["self", "n"] ["self", "n"] (defScope sCount) := ⟨rfl, rfl, rfl, by decide +kernel, rfl, by decide +kernel, by decide +kernel⟩
theorem ok_count (T : Txt K mg) : FnOk P w K mg base CX0 16 T.countM.f T.countM.fd ["self", "n"] (spCount T.CB T.CR) := by
  have GM : FnOk P w K mg base CX0 15 T.many.f T.many.fd ["faces", "many"] spMany := ok_many T
  obtain ⟨tB, hB⟩ := T.c_BAD
  obtain ⟨t3, h3⟩ := T.c_COUNTED
  refine T.countM.fn.ok scCount (fun vs H Q E h => ?_) (fun cdv A outer s H vs Q E hr h => ?_)
  · obtain ⟨b, st, n, rfl, _⟩ := h
    rfl
  obtain ⟨b, st, n, rfl, ⟨dx, r, hb, nbr, R⟩, G, q⟩ := h
  obtain ⟨dr, fa, fl, la, hR, hfa, _, _⟩ := id R
  refine ⟨_, pss_cons (ps_if (pt_not (pt_chain op_le op_le pe_int (pv 1) (pe_glob (v := .int 3) rfl h3 ⟨_, rfl⟩))) (pss_one (ps_ret (pe_lst (pa_cons (pe_glob (v := .int (-1)) rfl hB ⟨_, rfl⟩) pa_nil)))) pss_nil)
    (pss_one (ps_ret (pe_lst (pa_cons (pe_call GM hr rfl T.many.g T.many.fn.kp T.many.b .nil pass0 (pa_cons (pe_fld (pe_fld (pv 0) rfl) rfl) (pa_cons (pv 1) pa_nil))) pa_nil)))), ?_⟩
  have bad : ¬ (1 ≤ n ∧ n ≤ 3) → ∀ p, H p = none → Q (.ref p) (upd H p (.lst [.int (-1)])) := fun c p hp => by
    rw [step_count_bad st c] at q
    exact q p _ (same_new hp _) hp upd_same
  refine ⟨_, rfl, _, _, rfl, rfl, _, rfl, ?_⟩
  by_cases c1 : 1 ≤ n
  · refine if_true_of (decide_eq_true (by omega)) ⟨_, _, rfl, rfl, _, rfl, ?_⟩
    by_cases c2 : n ≤ 3
    · refine if_false_of (by rw [decide_eq_true (by omega)]; rfl) ?_
      rw [step_count G ⟨c1, c2⟩] at q
      refine ⟨_, rfl, b, T.CB, dx, _, _, rfl, hb, T.clB, T.nRods, bF_rods _, r, T.CR, dr, _, _, rfl, hR, T.clR, T.nFaces, rF_faces _ _ _, _, rfl, fa, st.rods, n, rfl, hfa, G.rods, c2, fun H1 s1 => ?_⟩
      refine ⟨(by show 1 ≤ sizeLine; decide), fun p hp => ?_⟩
      refine q p _ (s1.trans (same_new hp _)) (s1.free hp) ?_
      rw [upd_same, ← NL_IL]
      rfl
    · refine if_true_of (by rw [decide_eq_false (by omega)]; rfl) ⟨(by show 1 ≤ sizeLine; decide), fun p hp => bad (fun z => c2 z.2) p hp⟩
  · refine if_false_of (decide_eq_false (by omega)) ⟨_, rfl, ?_⟩
    exact iteT ⟨(by show 1 ≤ sizeLine; decide), fun p hp => bad (fun z => c1 z.1) p hp⟩
/-! show -/
def spShow (CB CR : Addr) : Sp := fun vs H Q _ => ∃ (b : Addr) (s : Mu13.State), vs = [.ref b] ∧ BenchAt CB CR H b s ∧ Good s ∧ s.flaws.length ≤ 9000 ∧ AnsP H (Mu13.step s .show_).2 Q
theorem scShow : FnScope ["self", "rods", "found"] ["self"] (defScope sShow) := ⟨rfl, rfl, rfl, by decide +kernel, rfl, by decide +kernel, by decide +kernel⟩
theorem flatten4 : ∀ (l : List (List Nat)), (∀ r ∈ l, r.length = 4) → l.flatten.length = 4 * l.length
  | [], _ => rfl
  | a :: l, h => by
    rw [List.flatten_cons, List.length_append, flatten4 l fun r hr => h r (List.mem_cons_of_mem _ hr), h a (List.mem_cons_self ..), List.length_cons]; omega
theorem ok_show (T : Txt K mg) : FnOk P w K mg base CX0 2 T.showM.f T.showM.fd ["self"] (spShow T.CB T.CR) := by
  have GF : FnOk P w K mg base CX0 1 T.flat.f T.flat.fd ["rows"] spFlat := ok_flat T
  refine T.showM.fn.ok scShow (fun vs H Q E h => ?_) (fun cdv A outer s H vs Q E hr h => ?_)
  · obtain ⟨b, st, rfl, _⟩ := h
    rfl
  obtain ⟨b, st, rfl, ⟨dx, r, hb, nbr, ⟨dr, fa, fl, la, hR, ⟨fas, hfa, hfall⟩, ⟨fls, hfl, hflall⟩, ⟨las, hla, hlall⟩⟩⟩, G, hf9, q⟩ := h
  refine ⟨_, pss_cons (ps_set (i := 1) scShow.nd rfl (Or.inl rfl) (pe_fld (pv 0) rfl))
    (pss_cons (ps_set (i := 2) scShow.nd rfl (Or.inl rfl) (pe_op op_cat (pe_lst (pa_cons (pe_callB call_len_seq (by rfl) T.len PySem.boot_len (pa_cons (pe_fld (pv 1) rfl) pa_nil)) pa_nil)) (pe_call GF hr rfl T.flat.g T.flat.fn.kp T.flat.b .nil pass0 (pa_cons (pe_fld (pv 1) rfl) pa_nil))))
    (pss_cons (ps_expr (pe_bm PySem.F.plainAttrs_list PySem.F.slot_list_extend PySem.F.type_list_extend mt_extend (pv 2)
        (pa_cons (pe_op op_cat (pe_lst (pa_cons (pe_callB call_len_seq (by rfl) T.len PySem.boot_len (pa_cons (pe_fld (pv 1) rfl) pa_nil)) pa_nil)) (pe_call GF hr rfl T.flat.g T.flat.fn.kp T.flat.b .nil pass0 (pa_cons (pe_fld (pv 1) rfl) pa_nil))) pa_nil)))
    (pss_one (ps_ret (pe_op op_cat (pe_op op_cat (pv 2) (pe_lst (pa_cons (pe_callB call_len_seq (by rfl) T.len PySem.boot_len (pa_cons (pe_fld (pv 1) rfl) pa_nil)) pa_nil))) (pe_call GF hr rfl T.flat.g T.flat.fn.kp T.flat.b .nil pass0 (pa_cons (pe_fld (pv 1) rfl) pa_nil))))))), ?_⟩
  rw [step_show] at q
  have h12 := G.rods
  have hl8 := G.laidLen
  have z1 := flatten4 st.rods fun x hx => (G.four x hx).1
  have z2 := flat4_len st.flaws
  have z3 := flat2_len st.laid
  have n1 : (fas.map V.ref).length = st.rods.length := by rw [List.length_map, hfall.len]
  have n2 : (fls.map V.ref).length = st.flaws.length := by rw [List.length_map, hflall.len]
  have n3 : (las.map V.ref).length = st.laid.length := by rw [List.length_map, hlall.len]
  -- rods = self.rods
  refine ⟨_, rfl, b, T.CB, dx, _, _, rfl, hb, T.clB, T.nRods, bF_rods _, ?_⟩
  -- found = [len(rods.faces)] + flat(rods.faces)
  refine ⟨_, rfl, r, T.CR, dr, _, _, rfl, hR, T.clR, T.nFaces, rF_faces _ _ _, fa, _, rfl, .inl (SqL.of hfa), (by show 1 ≤ sizeLine; decide), fun l1 hl1 => ?_⟩
  have s1 := same_new hl1 (.lst [.int ((fas.map V.ref).length : Nat)])
  refine ⟨_, rfl, r, T.CR, dr, _, _, rfl, s1 _ _ hR, T.clR, T.nFaces, rF_faces _ _ _, fa, fas, st.rods, rfl, s1 _ _ hfa, lt_rows (hfall.same s1), by omega, fun l2 H2 s2 nl2 e2 => ?_⟩
  refine ⟨l1, l2, _, _, rfl, rfl, s2 _ _ upd_same, e2, by rw [NL_len]; show 1 + _ ≤ _; exact small (by omega), fun fo hfo => ?_⟩
  have s12 := s1.trans s2
  have nfo : H fo = none := s12.free hfo
  have s3 : Same H (upd H2 fo (.lst ([.int ((fas.map V.ref).length : Nat)] ++ NL st.rods.flatten))) := s12.trans (same_new hfo _)
  have e3 : (upd H2 fo (.lst ([.int ((fas.map V.ref).length : Nat)] ++ NL st.rods.flatten))) fo = some (.lst (NL (st.rods.length :: st.rods.flatten))) := by rw [upd_same, n1]; rfl
  generalize (upd H2 fo (.lst ([.int ((fas.map V.ref).length : Nat)] ++ NL st.rods.flatten))) = H3 at *
  -- found.extend([len(rods.flaws)] + flat(rods.flaws))
  refine ⟨_, rfl, .inl ⟨rfl, _, SqL.of e3⟩, ?_⟩
  refine ⟨_, rfl, r, T.CR, dr, _, _, rfl, s3 _ _ hR, T.clR, T.nFlaws, rF_flaws _ _ _, fl, _, rfl, .inl (SqL.of (s3 _ _ hfl)), (by show 1 ≤ sizeLine; decide), fun l4 hl4 => ?_⟩
  have s4 := same_new hl4 (.lst [.int ((fls.map V.ref).length : Nat)])
  have s34 := s3.trans s4
  refine ⟨_, rfl, r, T.CR, dr, _, _, rfl, s34 _ _ hR, T.clR, T.nFlaws, rF_flaws _ _ _, fl, fls, _, rfl, s34 _ _ hfl, lt_flaws (hflall.same s34), by rw [flat4_eq]; omega, fun l5 H5 s5 nl5 e5 => ?_⟩
  rw [flat4_eq] at e5
  refine ⟨l4, l5, _, _, rfl, rfl, s5 _ _ upd_same, e5, by rw [NL_len]; show 1 + _ ≤ _; exact small (by omega), fun l6 hl6 => ?_⟩
  have s6 := same_new hl6 (.lst ([.int ((fls.map V.ref).length : Nat)] ++ NL (flat4 st.flaws)))
  have s46 := s4.trans (s5.trans s6)
  refine ⟨fo, l6, _, _, rfl, rfl, s46 _ _ e3, upd_same, ?_, ?_⟩
  · rw [List.length_append, NL_len, NL_len, List.length_cons]; show _ + (1 + _) ≤ _; exact small (by omega)
  have s36 := s3.trans s46
  have s7 : Same H (upd (upd H5 l6 (.lst ([.int ((fls.map V.ref).length : Nat)] ++ NL (flat4 st.flaws)))) fo (.lst (NL (st.rods.length :: st.rods.flatten) ++ ([.int ((fls.map V.ref).length : Nat)] ++ NL (flat4 st.flaws))))) := same_upd s36 nfo
  have e7 : (upd (upd H5 l6 (.lst ([.int ((fls.map V.ref).length : Nat)] ++ NL (flat4 st.flaws)))) fo (.lst (NL (st.rods.length :: st.rods.flatten) ++ ([.int ((fls.map V.ref).length : Nat)] ++ NL (flat4 st.flaws))))) fo = some (.lst (NL ((st.rods.length :: st.rods.flatten) ++ (st.flaws.length :: flat4 st.flaws)))) := by
    rw [upd_same, n2, NL_append]; rfl
  generalize (upd (upd H5 l6 (.lst ([.int ((fls.map V.ref).length : Nat)] ++ NL (flat4 st.flaws)))) fo (.lst (NL (st.rods.length :: st.rods.flatten) ++ ([.int ((fls.map V.ref).length : Nat)] ++ NL (flat4 st.flaws))))) = H7 at *
  -- found + [len(rods.laid)] + flat(rods.laid)
  refine ⟨_, rfl, _, rfl, r, T.CR, dr, _, _, rfl, s7 _ _ hR, T.clR, T.nLaid, rF_laid _ _ _, la, _, rfl, .inl (SqL.of (s7 _ _ hla)), (by show 1 ≤ sizeLine; decide), fun l8 hl8' => ?_⟩
  have s8 := same_new hl8' (.lst [.int ((las.map V.ref).length : Nat)])
  refine ⟨fo, l8, _, _, rfl, rfl, s8 _ _ e7, upd_same, ?_, fun l9 hl9 => ?_⟩
  · rw [NL_len, List.length_append, List.length_cons, List.length_cons]; show _ + 1 ≤ _; exact small (by omega)
  have s9 := s8.trans (same_new hl9 (.lst (NL ((st.rods.length :: st.rods.flatten) ++ (st.flaws.length :: flat4 st.flaws)) ++ [.int ((las.map V.ref).length : Nat)])))
  have s79 := s7.trans s9
  refine ⟨_, rfl, r, T.CR, dr, _, _, rfl, s79 _ _ hR, T.clR, T.nLaid, rF_laid _ _ _, la, las, _, rfl, s79 _ _ hla, lt_pairs (hlall.same s79), by rw [flat2_eq]; omega, fun l10 H10 s10 nl10 e10 => ?_⟩
  rw [flat2_eq] at e10
  refine ⟨l9, l10, _, _, rfl, rfl, s10 _ _ upd_same, e10, ?_, fun p hp => ?_⟩
  · rw [List.length_append, NL_len, NL_len, List.length_append, List.length_cons, List.length_cons]; show _ + 1 + _ ≤ _; exact small (by omega)
  have s710 := s79.trans s10
  refine q p _ (s710.trans (same_new hp _)) (s710.free hp) ?_
  rw [upd_same, ← NL_IL, n3]
  unfold showN showN.countedN'
  rw [NL_append ((st.rods.length :: st.rods.flatten) ++ (st.flaws.length :: flat4 st.flaws)), List.append_assoc]
  rfl
/-! about_laid -/
inductive CallIs : Nat → List Nat → List Nat → Mu13.Call → Prop
  | begin_ {row : List Nat} {m : Nat} (h : row.length = 4 * m) (h2 : m ≤ 15) : CallIs 0 [] row (.begin_ (fours row))
  | lay {row : List Nat} (h : row.length ≤ 20) : CallIs 1 [] row (.lay row)
  | cut {r f k v : Nat} : CallIs 2 [r, f, k, v] [] (.cut r f k v)
  | row {k : Nat} : CallIs 3 [k] [] (.row k)
  | by_ {row : List Nat} (h : row.length ≤ 20) : CallIs 4 [] row (.by_ row)
  | into {row : List Nat} (h : row.length ≤ 20) : CallIs 5 [] row (.into row)
  | root {row : List Nat} (h : row.length ≤ 20) : CallIs 6 [] row (.root row)
  | arrows {k : Nat} : CallIs 7 [k] [] (.arrows k)
  | explain {k : Nat} {row : List Nat} (h : row.length ≤ 20) : CallIs 8 [k] row (.explain k row)
  | count {n : Nat} : CallIs 9 [n] [] (.count n)
  | show_ : CallIs 10 [] [] .show_
def laidCall (call : Nat) : Bool := call == 3 || (call == 4 || (call == 5 || (call == 7 || call == 8)))
def spAbout (CB CR : Addr) : Sp := fun vs H Q _ => ∃ (b na ra : Addr) (s : Mu13.State) (call : Nat) (ns row : List Nat) (c : Mu13.Call), vs = [.ref b, nV call, .ref na, .ref ra] ∧ BenchAt CB CR H b s ∧ Good s ∧ H na = some (.lst (NL ns)) ∧ H ra = some (.lst (NL row)) ∧
  CallIs call ns row c ∧ laidCall call = true ∧ AnsP H (Mu13.step s c).2 Q
theorem scAbout : FnScope ["self", "call", "n", "row", "is_right"] ["self", "call", "n", "row"] (defScope sAbout) := ⟨rfl, rfl, rfl, by decide +kernel, rfl, by decide +kernel, by decide +kernel⟩
/-- what a refusal's list asks of «or» -/
theorem or_list {K : PySem.W.Frag} {p : Addr} {H : Hp} {a : Int} {l : List Int} (e : H p = some (.lst (IL (a :: l)))) {A B : Prop} (h : A) : ∃ k, TruV K (.ref p) H k ∧ if k = true then A else B :=
  ⟨true, .inl ⟨_, SqL.of e, rfl⟩, iteT h⟩
theorem or_none {K : PySem.W.Frag} {H : Hp} {A B : Prop} (h : B) : ∃ k, TruV K .non H k ∧ if k = true then A else B := ⟨false, rfl, iteF h⟩
theorem ok_about (T : Txt K mg) : FnOk P w K mg base CX0 7 T.about.f T.about.fd ["self", "call", "n", "row"] (spAbout T.CB T.CR) := by
  have GF : FnOk P w K mg base CX0 1 T.refusal.f T.refusal.fd ["self", "is_right"] (spRefusal T.CB T.CR) := ok_refusal T
  have GA : FnOk P w K mg base CX0 1 T.are.f T.are.fd ["numbers", "most"] spAre := ok_are T
  have GR : FnOk P w K mg base CX0 5 T.rowM.f T.rowM.fd ["self", "k"] (spRow T.CB T.CR) := ok_row T
  have GB : FnOk P w K mg base CX0 6 T.byM.f T.byM.fd ["self", "digits"] (spBy T.CB T.CR) := ok_by T
  have GI : FnOk P w K mg base CX0 6 T.intoM.f T.intoM.fd ["self", "digits"] (spInto T.CB T.CR) := ok_into T
  have GX : FnOk P w K mg base CX0 3 T.explainM.f T.explainM.fd ["self", "k", "digits"] (spExplain T.CB T.CR) := ok_explain T
  have GW : FnOk P w K mg base CX0 1 T.arrows.f T.arrows.fd ["digits", "k"] spArrows := ok_arrows T
  have GL : FnOk P w K mg base CX0 1 T.laidD.f T.laidD.fd ["self"] (spLaidD T.CR) := ok_laidD T
  obtain ⟨t9, h9⟩ := T.c_MOST_ROW
  obtain ⟨tS, hS⟩ := T.c_SHORT
  obtain ⟨tL, hL⟩ := T.c_LONG
  obtain ⟨tR, hRd⟩ := T.c_READ
  refine T.about.fn.ok scAbout (fun vs H Q E h => ?_) (fun cdv A outer s H vs Q E hr h => ?_)
  · obtain ⟨b, na, ra, st, call, ns, row, c, rfl, _⟩ := h
    rfl
  obtain ⟨b, na, ra, st, call, ns, row, c, rfl, hBen, G, hna, hra, hc, hlc, q⟩ := h
  obtain ⟨dx, r, hb, nbr, R⟩ := id hBen
  obtain ⟨dr, fa, fl, la, hR, _, _, _⟩ := id R
  have hr1 : Room 1 _ := hr.mono (by decide)
  have hr3 : Room 3 _ := hr.mono (by decide)
  have hr5 : Room 5 _ := hr.mono (by decide)
  refine ⟨_, pss_cons (ps_if (pt_cmpR op_eq (pv 1) pe_int (nomark _)) (pss_one (ps_ret (pe_orT (pe_meth (pv 0) T.clB T.refusal.m GF hr1 T.refusal.b .nil pass0 (pa_cons (pe_cmpR op_le (pe_ix ix_list (pv 2) pe_int (fun _ _ => rfl)) (pe_glob (v := .int 9) rfl h9 ⟨_, rfl⟩) (nomark _)) pa_nil))
        (pe_one (pe_meth (pv 0) T.clB T.rowM.m GR hr5 T.rowM.b .nil pass0 (pa_cons (pe_ix ix_list (pv 2) pe_int (fun _ _ => rfl)) pa_nil)))))) pss_nil)
    (pss_cons (ps_if (pt_cmpR op_eq (pv 1) pe_int (nomark _)) (pss_one (ps_ret (pe_orT (pe_meth (pv 0) T.clB T.refusal.m GF hr1 T.refusal.b .nil pass0 (pa_cons (pe_call GA hr1 rfl T.are.g T.are.fn.kp T.are.b .nil pass0 (pa_cons (pv 3) (pa_cons (pe_glob (v := .int 8) rfl hS ⟨_, rfl⟩) pa_nil))) pa_nil))
        (pe_one (pe_meth (pv 0) T.clB T.byM.m GB hr T.byM.b .nil pass0 (pa_cons (pv 3) pa_nil)))))) pss_nil)
    (pss_cons (ps_if (pt_cmpR op_eq (pv 1) pe_int (nomark _)) (pss_one (ps_ret (pe_orT (pe_meth (pv 0) T.clB T.refusal.m GF hr1 T.refusal.b .nil pass0 (pa_cons (pe_call GA hr1 rfl T.are.g T.are.fn.kp T.are.b .nil pass0 (pa_cons (pv 3) (pa_cons (pe_glob (v := .int 16) rfl hL ⟨_, rfl⟩) pa_nil))) pa_nil))
        (pe_one (pe_meth (pv 0) T.clB T.intoM.m GI hr T.intoM.b .nil pass0 (pa_cons (pv 3) pa_nil)))))) pss_nil)
    (pss_cons (ps_if (pt_cmpR op_eq (pv 1) pe_int (nomark _)) (pss_one (ps_ret (pe_orT (pe_meth (pv 0) T.clB T.refusal.m GF hr1 T.refusal.b .nil pass0 (pa_cons (pe_cmpR op_le (pe_ix ix_list (pv 2) pe_int (fun _ _ => rfl)) (pe_glob (v := .int 9) rfl h9 ⟨_, rfl⟩) (nomark _)) pa_nil))
        (pe_one (pe_call GW hr1 rfl T.arrows.g T.arrows.fn.kp T.arrows.b .nil pass0 (pa_cons (pe_meth0 (pe_fld (pv 0) rfl) T.clR T.laidD.m GL hr1 T.laidD.b .nil pass0) (pa_cons (pe_ix ix_list (pv 2) pe_int (fun _ _ => rfl)) pa_nil))))))) pss_nil)
    (pss_cons (ps_set (i := 4) scAbout.nd rfl (Or.inl rfl) (pe_and (pe_chain op_le op_le pe_int (pe_ix ix_list (pv 2) pe_int (fun _ _ => rfl)) (pe_glob (v := .int 9) rfl h9 ⟨_, rfl⟩)) (pe_one (pe_call GA hr1 rfl T.are.g T.are.fn.kp T.are.b .nil pass0 (pa_cons (pv 3) (pa_cons (pe_glob (v := .int 12) rfl hRd ⟨_, rfl⟩) pa_nil))))))
    (pss_one (ps_ret (pe_orT (pe_meth (pv 0) T.clB T.refusal.m GF hr1 T.refusal.b .nil pass0 (pa_cons (pv 4) pa_nil))
        (pe_one (pe_meth (pv 0) T.clB T.explainM.m GX hr3 T.explainM.b .nil pass0 (pa_cons (pe_ix ix_list (pv 2) pe_int (fun _ _ => rfl)) (pa_cons (pv 3) pa_nil)))))))))))
    , ?_⟩
  have no : ∀ m : Str, (m == ("rods" : Str)) = false → (bF r).lookup m = none := fun m h => bF_no r h
  have nRef := no "refusal_of" (by decide +kernel)
  have i0 : ∀ (x : Nat) (l : List Nat), atI (NL (x :: l)) 0 = some (nV x) := fun x l => atI_nat (j := 0) rfl
  cases hc with
  | begin_ h h2 => exact absurd hlc (by decide)
  | lay h => exact absurd hlc (by decide)
  | cut => exact absurd hlc (by decide)
  | root h => exact absurd hlc (by decide)
  | count => exact absurd hlc (by decide)
  | show_ => exact absurd hlc (by decide)
  | @row k =>
    refine ⟨_, rfl, rfl, _, rfl, if_true_of (by decide) ?_⟩
    refine ⟨_, rfl, b, dx, _, rfl, hb, nRef, _, rfl, na, _, _, _, rfl, rfl, SqL.of hna, i0 k [], _, _, rfl, rfl, ?_⟩
    refine ⟨b, st, decide ((k : Int) ≤ 9), rfl, hBen, fun ce p H' s1 hp e => or_list e ?_, fun ce hl p H' s1 hp e => or_list e ?_, fun ce hl H' s1 => or_none ?_⟩
    · have c9 : ¬ (k : Int) ≤ 9 := of_decide_eq_false ce
      rw [step_row_bad st (by omega)] at q
      exact q p H' s1 hp e
    · have c9 : (k : Int) ≤ 9 := of_decide_eq_true ce
      rw [step_row_none st (by omega) hl] at q
      exact q p H' s1 hp e
    · have c9 : (k : Int) ≤ 9 := of_decide_eq_true ce
      rw [step_row G (by omega) hl] at q
      refine ⟨_, rfl, b, dx, _, rfl, s1 _ _ hb, no _ (by decide +kernel), _, rfl, na, _, _, _, rfl, rfl, SqL.of (s1 _ _ hna), i0 k [], b, st, k, rfl, hBen.same s1, G, by omega, fun p H2 s2 hp e => ?_⟩
      exact q p H2 (s1.trans s2) (s1.free hp) e
  | by_ h =>
    refine ⟨_, rfl, rfl, _, rfl, if_false_of (by decide) ⟨_, rfl, rfl, _, rfl, if_true_of (by decide) ?_⟩⟩
    refine ⟨_, rfl, b, dx, _, rfl, hb, nRef, _, rfl, ra, row, 8, rfl, hra, by omega, fun H1 s1 => ?_⟩
    refine ⟨b, st, Mu13.fine row 8, rfl, hBen.same s1, fun ce p H' s2 hp e => or_list e ?_, fun ce hl p H' s2 hp e => or_list e ?_, fun ce hl H' s2 => or_none ?_⟩
    · rw [step_by_bad st ce] at q
      exact q p H' (s1.trans s2) (s1.free hp) e
    · rw [step_by_none st ce hl] at q
      exact q p H' (s1.trans s2) (s1.free hp) e
    · rw [step_by G ce hl] at q
      have s12 := s1.trans s2
      refine ⟨_, rfl, b, dx, _, rfl, s12 _ _ hb, no _ (by decide +kernel), _, rfl, b, ra, st, row, rfl, hBen.same s12, G, s12 _ _ hra, ce, fun p H3 s3 hp e => ?_⟩
      exact q p H3 (s12.trans s3) (s12.free hp) e
  | into h =>
    refine ⟨_, rfl, rfl, _, rfl, if_false_of (by decide) ⟨_, rfl, rfl, _, rfl, if_false_of (by decide) ⟨_, rfl, rfl, _, rfl, if_true_of (by decide) ?_⟩⟩⟩
    refine ⟨_, rfl, b, dx, _, rfl, hb, nRef, _, rfl, ra, row, 16, rfl, hra, by omega, fun H1 s1 => ?_⟩
    refine ⟨b, st, Mu13.fine row 16, rfl, hBen.same s1, fun ce p H' s2 hp e => or_list e ?_, fun ce hl p H' s2 hp e => or_list e ?_, fun ce hl H' s2 => or_none ?_⟩
    · rw [step_into_bad st ce] at q
      exact q p H' (s1.trans s2) (s1.free hp) e
    · rw [step_into_none st ce hl] at q
      exact q p H' (s1.trans s2) (s1.free hp) e
    · have s12 := s1.trans s2
      refine ⟨_, rfl, b, dx, _, rfl, s12 _ _ hb, no _ (by decide +kernel), _, rfl, b, ra, st, row, rfl, hBen.same s12, G, s12 _ _ hra, ce, fun z p H3 s3 hp e => ?_, fun z p H3 s3 hp e => ?_⟩
      · rw [step_into_zero G ce hl z] at q
        exact q p H3 (s12.trans s3) (s12.free hp) e
      · rw [step_into G ce hl z] at q
        exact q p H3 (s12.trans s3) (s12.free hp) e
  | @arrows k =>
    refine ⟨_, rfl, rfl, _, rfl, if_false_of (by decide) ⟨_, rfl, rfl, _, rfl, if_false_of (by decide) ⟨_, rfl, rfl, _, rfl, if_false_of (by decide) ⟨_, rfl, rfl, _, rfl, if_true_of (by decide) ?_⟩⟩⟩⟩
    refine ⟨_, rfl, b, dx, _, rfl, hb, nRef, _, rfl, na, _, _, _, rfl, rfl, SqL.of hna, i0 k [], _, _, rfl, rfl, ?_⟩
    refine ⟨b, st, decide ((k : Int) ≤ 9), rfl, hBen, fun ce p H' s1 hp e => or_list e ?_, fun ce hl p H' s1 hp e => or_list e ?_, fun ce hl H' s1 => or_none ?_⟩
    · have c9 : ¬ (k : Int) ≤ 9 := of_decide_eq_false ce
      rw [step_arrows_bad st (by omega)] at q
      exact q p H' s1 hp e
    · have c9 : (k : Int) ≤ 9 := of_decide_eq_true ce
      rw [step_arrows_none st (by omega) hl] at q
      exact q p H' s1 hp e
    · have c9 : (k : Int) ≤ 9 := of_decide_eq_true ce
      rw [step_arrows (by omega) hl] at q
      have hl8 := G.laidLen
      refine ⟨_, rfl, b, T.CB, dx, _, _, rfl, s1 _ _ hb, T.clB, T.nRods, bF_rods _, r, dr, _, rfl, s1 _ _ hR, rF_no _ _ _ (by decide +kernel) (by decide +kernel) (by decide +kernel), r, st, rfl, R.same s1, G, fun dg H2 s2 ndg e2 => ?_⟩
      have s12 := s1.trans s2
      refine ⟨_, rfl, na, _, _, _, rfl, rfl, SqL.of (s12 _ _ hna), i0 k [], dg, _, k, rfl, e2, by rw [List.length_map]; omega, by omega, fun p H3 s3 hp e => ?_⟩
      refine q p H3 (s12.trans s3) (s12.free hp) ?_
      rw [← NL_IL]; exact e
  | @explain k row h =>
    refine ⟨_, rfl, rfl, _, rfl, if_false_of (by decide) ⟨_, rfl, rfl, _, rfl, if_false_of (by decide) ⟨_, rfl, rfl, _, rfl, if_false_of (by decide) ⟨_, rfl, rfl, _, rfl, if_false_of (by decide) ?_⟩⟩⟩⟩
    -- from is_right on
    have go : ∀ (cr : Bool) (H1 : Hp), Same H H1 → (cr = true ↔ (1 ≤ k ∧ k ≤ 9) ∧ Mu13.fine row 12 = true) →
        tOrT K (tMeth T.CB "refusal_of" (spRefusal T.CB T.CR) [] E0 (tVar 0) (tCons (tVar 4) tNil)) (tMeth T.CB "explain" (spExplain T.CB T.CR) [] E0 (tVar 0) (tCons (tOp (rIxL K) (tVar 2) (tC (.int 0))) (tCons (tVar 3) tNil)))
          [some (.ref b), some (nV 8), some (.ref na), some (.ref ra), some (.bl cr)] H1 Q := fun cr H1 s1 hcr => by
      refine ⟨_, rfl, b, dx, _, rfl, s1 _ _ hb, nRef, _, rfl, b, st, cr, rfl, hBen.same s1, fun ce p H' s2 hp e => or_list e ?_, fun ce hl p H' s2 hp e => or_list e ?_, fun ce hl H' s2 => or_none ?_⟩
      · rw [step_explain_bad st (fun z => by rw [hcr.mpr z] at ce; cases ce)] at q
        exact q p H' (s1.trans s2) (s1.free hp) e
      · rw [step_explain_none st (hcr.mp ce) hl] at q
        exact q p H' (s1.trans s2) (s1.free hp) e
      · have z := hcr.mp ce
        rw [step_explain G z hl] at q
        have s12 := s1.trans s2
        refine ⟨_, rfl, b, dx, _, rfl, s12 _ _ hb, no _ (by decide +kernel), _, rfl, na, _, _, _, rfl, rfl, SqL.of (s12 _ _ hna), i0 k [], _, rfl, b, ra, st, k, row, rfl, hBen.same s12, G, z.1.2, s12 _ _ hra, fun p H3 s3 hp e => ?_⟩
        exact q p H3 (s12.trans s3) (s12.free hp) e
    refine ⟨_, rfl, na, _, _, _, rfl, rfl, SqL.of hna, i0 k [], _, _, rfl, rfl, _, rfl, ?_⟩
    by_cases c1 : 1 ≤ k
    · refine if_true_of (decide_eq_true (by omega)) ⟨_, _, rfl, rfl, _, rfl, ?_⟩
      by_cases c2 : k ≤ 9
      · refine if_true_of (decide_eq_true (by omega)) ⟨_, rfl, ra, row, 12, rfl, hra, by omega, fun H1 s1 => ?_⟩
        exact go _ H1 s1 ⟨fun z => ⟨⟨c1, c2⟩, z⟩, fun z => z.2⟩
      · refine if_false_of (decide_eq_false (by omega)) ?_
        exact go _ H (Same.refl H) ⟨fun z => (by cases z), fun z => absurd z.1.2 c2⟩
    · refine if_false_of (decide_eq_false (by omega)) ⟨_, rfl, ?_⟩
      refine iteF ?_
      exact go _ H (Same.refl H) ⟨fun z => (by cases z), fun z => absurd z.1.1 c1⟩
end
end LR

/-! Bench.answer -/
namespace LR
open PySem PySem.Spec PyProof.Rows L2
open Mu13Neutral (fours)
/-- calls that leave the state as it is -/
def stays : Mu13.Call → Bool
  | .begin_ _ => false
  | .lay _ => false
  | .cut _ _ _ _ => false
  | _ => true
theorem step_stays (s : Mu13.State) (c : Mu13.Call) (h : stays c = true) : (Mu13.step s c).1 = s := by
  cases c with
  | begin_ l => cases h
  | lay l => cases h
  | cut r f k v => cases h
  | row k =>
    show (if _ then _ else _ : Mu13.State × Mu13.Ans).1 = s
    split
    · rfl
    · split <;> rfl
  | by_ l =>
    show (if Mu13.fine l 8 = false then _ else _ : Mu13.State × Mu13.Ans).1 = s
    split
    · rfl
    · split <;> rfl
  | into l =>
    show (if Mu13.fine l 16 = false then _ else _ : Mu13.State × Mu13.Ans).1 = s
    split
    · rfl
    · split
      · rfl
      · split <;> rfl
  | root l =>
    show (if Mu13.fine l 16 = false then _ else _ : Mu13.State × Mu13.Ans).1 = s
    split
    · rfl
    · show (match (Mu13.twice (Mu13.valueOf l)).find? fun (x : Nat) => !(Mu13.canLay s (Mu13.digits x)) with
        | some x => (s, -3 :: Mu13.counted (Mu13.digits x))
        | none => (s, Mu13.counted (Mu13.digits (Mu13.root (Mu13.valueOf l)).1) ++ Mu13.counted (Mu13.digits (Mu13.root (Mu13.valueOf l)).2)) : Mu13.State × Mu13.Ans).1 = s
      split <;> rfl
  | arrows k =>
    show (if _ then _ else _ : Mu13.State × Mu13.Ans).1 = s
    split
    · rfl
    · split <;> rfl
  | explain k l =>
    show (if _ then _ else _ : Mu13.State × Mu13.Ans).1 = s
    split
    · rfl
    · split <;> rfl
  | count n => rfl
  | show_ => rfl
theorem good_step {s : Mu13.State} (G : Good s) {call : Nat} {ns row : List Nat} {c : Mu13.Call} (h : CallIs call ns row c) : Good (Mu13.step s c).1 := by
  cases h with
  | @begin_ row m h h2 =>
    rw [step_begin s h]
    by_cases b : isBox row = true
    · rw [if_pos b]; exact good_begin h b
    · rw [if_neg b]; exact G
  | lay h =>
    cases cf : Mu13.fine row 8 with
    | false => rw [step_lay_bad s cf]; exact G
    | true =>
      cases cc : canLaid s.rods (List.range s.rods.length) row with
      | false => rw [step_lay_no G cf cc]; exact G
      | true => rw [step_lay_yes G cf cc]; exact good_lay G cf cc
  | @cut r f k v =>
    by_cases b : hasCell s r f k = true ∧ v ≤ 99
    · rw [step_cut b]; exact good_cut G b.2
    · rw [step_cut_bad b]; exact G
  | row => rw [step_stays s _ rfl]; exact G
  | by_ h => rw [step_stays s _ rfl]; exact G
  | into h => rw [step_stays s _ rfl]; exact G
  | root h => rw [step_stays s _ rfl]; exact G
  | arrows => rw [step_stays s _ rfl]; exact G
  | explain h => rw [step_stays s _ rfl]; exact G
  | count => rw [step_stays s _ rfl]; exact G
  | show_ => rw [step_stays s _ rfl]; exact G
section
variable {P : Program} {w : World} {K : PySem.W.Frag} {mg : Str → Option Value} {base : Heap}
theorem Ans.pure {CB CR : Addr} {H : Hp} {b : Addr} {s : Mu13.State} {c : Mu13.Call} {Q : VK} (hBen : BenchAt CB CR H b s) (h : stays c = true) (q : Ans CB CR H b (Mu13.step s c).1 (Mu13.step s c).2 Q) : AnsP H (Mu13.step s c).2 Q := fun p H' s1 hp e => by
  rw [step_stays s c h] at q
  exact q p H' (hBen.same s1) (Keep.of s1) hp e
def spAnswer (CB CR : Addr) : Sp := fun vs H Q _ => ∃ (b na ra : Addr) (s : Mu13.State) (call : Nat) (ns row : List Nat) (c : Mu13.Call), vs = [.ref b, nV call, .ref na, .ref ra] ∧ BenchAt CB CR H b s ∧ Good s ∧ s.flaws.length ≤ 9000 ∧ H na = some (.lst (NL ns)) ∧ H ra = some (.lst (NL row)) ∧
  CallIs call ns row c ∧ Ans CB CR H b (Mu13.step s c).1 (Mu13.step s c).2 Q
theorem scAnswer : FnScope ["self", "call", "n", "row"] ["self", "call", "n", "row"] (defScope sAnswer) := ⟨rfl, rfl, rfl, by decide +kernel, rfl, by decide +kernel, by decide +kernel⟩
theorem ok_answer (T : Txt K mg) : FnOk P w K mg base CX0 18 T.answerM.f T.answerM.fd ["self", "call", "n", "row"] (spAnswer T.CB T.CR) := by
  have GB : FnOk P w K mg base CX0 3 T.beginM.f T.beginM.fd ["self", "faces"] (spBegin T.CB T.CR) := ok_begin T
  have GL : FnOk P w K mg base CX0 17 T.layM.f T.layM.fd ["self", "digits"] (spLay T.CB T.CR) := ok_lay T
  have GC : FnOk P w K mg base CX0 3 T.cutM.f T.cutM.fd ["self", "r", "f", "k", "v"] (spCut T.CB T.CR) := ok_cut T
  have GR : FnOk P w K mg base CX0 16 T.rootM.f T.rootM.fd ["self", "digits"] (spRoot T.CB T.CR) := ok_root T
  have GN : FnOk P w K mg base CX0 16 T.countM.f T.countM.fd ["self", "n"] (spCount T.CB T.CR) := ok_count T
  have GS : FnOk P w K mg base CX0 2 T.showM.f T.showM.fd ["self"] (spShow T.CB T.CR) := ok_show T
  have GA : FnOk P w K mg base CX0 7 T.about.f T.about.fd ["self", "call", "n", "row"] (spAbout T.CB T.CR) := ok_about T
  refine T.answerM.fn.ok scAnswer (fun vs H Q E h => ?_) (fun cdv A outer s H vs Q E hr h => ?_)
  · obtain ⟨b, na, ra, st, call, ns, row, c, rfl, _⟩ := h
    rfl
  obtain ⟨b, na, ra, st, call, ns, row, c, rfl, hBen, G, hfl9, hna, hra, hc, q⟩ := h
  obtain ⟨dx, r, hb, nbr, R⟩ := id hBen
  have hr2 : Room 2 _ := hr.mono (by decide)
  have hr3 : Room 3 _ := hr.mono (by decide)
  have hr7 : Room 7 _ := hr.mono (by decide)
  have hr16 : Room 16 _ := hr.mono (by decide)
  refine ⟨_, pss_cons (ps_if (pt_cmpR op_eq (pv 1) pe_int (nomark _)) (pss_one (ps_ret (pe_meth (pv 0) T.clB T.beginM.m GB hr3 T.beginM.b .nil pass0 (pa_cons (pv 3) pa_nil)))) pss_nil)
    (pss_cons (ps_if (pt_cmpR op_eq (pv 1) pe_int (nomark _)) (pss_one (ps_ret (pe_meth (pv 0) T.clB T.layM.m GL hr T.layM.b .nil pass0 (pa_cons (pv 3) pa_nil)))) pss_nil)
    (pss_cons (ps_if (pt_cmpR op_eq (pv 1) pe_int (nomark _)) (pss_one (ps_ret (pe_meth (pv 0) T.clB T.cutM.m GC hr3 T.cutM.b .nil pass0 (pa_cons (pe_ix ix_list (pv 2) pe_int (fun _ _ => rfl)) (pa_cons (pe_ix ix_list (pv 2) pe_int (fun _ _ => rfl)) (pa_cons (pe_ix ix_list (pv 2) pe_int (fun _ _ => rfl)) (pa_cons (pe_ix ix_list (pv 2) pe_int (fun _ _ => rfl)) pa_nil))))))) pss_nil)
    (pss_cons (ps_if (pt_cmpR op_eq (pv 1) pe_int (nomark _)) (pss_one (ps_ret (pe_meth (pv 0) T.clB T.rootM.m GR hr16 T.rootM.b .nil pass0 (pa_cons (pv 3) pa_nil)))) pss_nil)
    (pss_cons (ps_if (pt_cmpR op_eq (pv 1) pe_int (nomark _)) (pss_one (ps_ret (pe_meth (pv 0) T.clB T.countM.m GN hr16 T.countM.b .nil pass0 (pa_cons (pe_ix ix_list (pv 2) pe_int (fun _ _ => rfl)) pa_nil)))) pss_nil)
    (pss_cons (ps_if (pt_cmpR op_eq (pv 1) pe_int (nomark _)) (pss_one (ps_ret (pe_meth0 (pv 0) T.clB T.showM.m GS hr2 T.showM.b .nil pass0))) pss_nil)
    (pss_one (ps_ret (pe_meth (pv 0) T.clB T.about.m GA hr7 T.about.b .nil pass0 (pa_cons (pv 1) (pa_cons (pv 2) (pa_cons (pv 3) pa_nil))))))))))), ?_⟩
  have no : ∀ m : Str, (m == ("rods" : Str)) = false → (bF r).lookup m = none := fun m h => bF_no r h
  have i0 : ∀ (x : Nat) (l : List Nat), atI (NL (x :: l)) 0 = some (nV x) := fun x l => atI_nat (j := 0) rfl
  have i1 : ∀ (x y : Nat) (l : List Nat), atI (NL (x :: y :: l)) 1 = some (nV y) := fun x y l => atI_nat (j := 1) rfl
  have i2 : ∀ (x y z : Nat) (l : List Nat), atI (NL (x :: y :: z :: l)) 2 = some (nV z) := fun x y z l => atI_nat (j := 2) rfl
  have i3 : ∀ (x y z u : Nat) (l : List Nat), atI (NL (x :: y :: z :: u :: l)) 3 = some (nV u) := fun x y z u l => atI_nat (j := 3) rfl
  -- the last statement, for the calls about what is laid
  have last : laidCall call = true → stays c = true → tRet (tMeth T.CB "about_laid" (spAbout T.CB T.CR) [] E0 (tVar 0) (tCons (tVar 1) (tCons (tVar 2) (tCons (tVar 3) tNil)))) { nx := fun _ H' => Q .non H', rt := Q } [some (.ref b), some (nV call), some (.ref na), some (.ref ra)] H := fun hl hs =>
    ⟨_, rfl, b, dx, _, rfl, hb, no _ (by decide +kernel), _, rfl, _, rfl, _, rfl, b, na, ra, st, call, ns, row, c, rfl, hBen, G, hna, hra, hc, hl, Ans.pure hBen hs q⟩
  cases hc with
  | @begin_ row m h h2 =>
    refine ⟨_, rfl, rfl, _, rfl, if_true_of (by decide) ?_⟩
    exact ⟨_, rfl, b, dx, _, rfl, hb, no _ (by decide +kernel), _, rfl, b, ra, st, row, m, rfl, hBen, hra, h, by omega, q⟩
  | lay h =>
    refine ⟨_, rfl, rfl, _, rfl, if_false_of (by decide) ⟨_, rfl, rfl, _, rfl, if_true_of (by decide) ?_⟩⟩
    exact ⟨_, rfl, b, dx, _, rfl, hb, no _ (by decide +kernel), _, rfl, b, ra, st, row, rfl, hBen, G, hra, by omega, q⟩
  | @cut r' f k v =>
    refine ⟨_, rfl, rfl, _, rfl, if_false_of (by decide) ⟨_, rfl, rfl, _, rfl, if_false_of (by decide) ⟨_, rfl, rfl, _, rfl, if_true_of (by decide) ?_⟩⟩⟩
    exact ⟨_, rfl, b, dx, _, rfl, hb, no _ (by decide +kernel), _, rfl, na, _, _, _, rfl, rfl, SqL.of hna, i0 _ _, _, rfl, na, _, _, _, rfl, rfl, SqL.of hna, i1 _ _ _, _, rfl, na, _, _, _, rfl, rfl, SqL.of hna, i2 _ _ _ _, _, rfl, na, _, _, _, rfl, rfl, SqL.of hna, i3 _ _ _ _ _,
      b, st, r', f, k, v, rfl, hBen, G, hfl9, q⟩
  | root h =>
    refine ⟨_, rfl, rfl, _, rfl, if_false_of (by decide) ⟨_, rfl, rfl, _, rfl, if_false_of (by decide) ⟨_, rfl, rfl, _, rfl, if_false_of (by decide) ⟨_, rfl, rfl, _, rfl, if_true_of (by decide) ?_⟩⟩⟩⟩
    exact ⟨_, rfl, b, dx, _, rfl, hb, no _ (by decide +kernel), _, rfl, b, ra, st, row, rfl, hBen, G, hra, by omega, Ans.pure hBen rfl q⟩
  | @count n =>
    refine ⟨_, rfl, rfl, _, rfl, if_false_of (by decide) ⟨_, rfl, rfl, _, rfl, if_false_of (by decide) ⟨_, rfl, rfl, _, rfl, if_false_of (by decide) ⟨_, rfl, rfl, _, rfl, if_false_of (by decide) ⟨_, rfl, rfl, _, rfl, if_true_of (by decide) ?_⟩⟩⟩⟩⟩
    exact ⟨_, rfl, b, dx, _, rfl, hb, no _ (by decide +kernel), _, rfl, na, _, _, _, rfl, rfl, SqL.of hna, i0 _ _, b, st, n, rfl, hBen, G, Ans.pure hBen rfl q⟩
  | show_ =>
    refine ⟨_, rfl, rfl, _, rfl, if_false_of (by decide) ⟨_, rfl, rfl, _, rfl, if_false_of (by decide) ⟨_, rfl, rfl, _, rfl, if_false_of (by decide) ⟨_, rfl, rfl, _, rfl, if_false_of (by decide) ⟨_, rfl, rfl, _, rfl, if_false_of (by decide) ⟨_, rfl, rfl, _, rfl, if_true_of (by decide) ?_⟩⟩⟩⟩⟩⟩
    exact ⟨_, rfl, b, dx, _, rfl, hb, no _ (by decide +kernel), b, st, rfl, hBen, G, hfl9, Ans.pure hBen rfl q⟩
  | row => exact ⟨_, rfl, rfl, _, rfl, if_false_of (by decide) ⟨_, rfl, rfl, _, rfl, if_false_of (by decide) ⟨_, rfl, rfl, _, rfl, if_false_of (by decide) ⟨_, rfl, rfl, _, rfl, if_false_of (by decide) ⟨_, rfl, rfl, _, rfl, if_false_of (by decide) ⟨_, rfl, rfl, _, rfl, if_false_of (by decide) (last rfl rfl)⟩⟩⟩⟩⟩⟩
  | by_ h => exact ⟨_, rfl, rfl, _, rfl, if_false_of (by decide) ⟨_, rfl, rfl, _, rfl, if_false_of (by decide) ⟨_, rfl, rfl, _, rfl, if_false_of (by decide) ⟨_, rfl, rfl, _, rfl, if_false_of (by decide) ⟨_, rfl, rfl, _, rfl, if_false_of (by decide) ⟨_, rfl, rfl, _, rfl, if_false_of (by decide) (last rfl rfl)⟩⟩⟩⟩⟩⟩
  | into h => exact ⟨_, rfl, rfl, _, rfl, if_false_of (by decide) ⟨_, rfl, rfl, _, rfl, if_false_of (by decide) ⟨_, rfl, rfl, _, rfl, if_false_of (by decide) ⟨_, rfl, rfl, _, rfl, if_false_of (by decide) ⟨_, rfl, rfl, _, rfl, if_false_of (by decide) ⟨_, rfl, rfl, _, rfl, if_false_of (by decide) (last rfl rfl)⟩⟩⟩⟩⟩⟩
  | arrows => exact ⟨_, rfl, rfl, _, rfl, if_false_of (by decide) ⟨_, rfl, rfl, _, rfl, if_false_of (by decide) ⟨_, rfl, rfl, _, rfl, if_false_of (by decide) ⟨_, rfl, rfl, _, rfl, if_false_of (by decide) ⟨_, rfl, rfl, _, rfl, if_false_of (by decide) ⟨_, rfl, rfl, _, rfl, if_false_of (by decide) (last rfl rfl)⟩⟩⟩⟩⟩⟩
  | explain h => exact ⟨_, rfl, rfl, _, rfl, if_false_of (by decide) ⟨_, rfl, rfl, _, rfl, if_false_of (by decide) ⟨_, rfl, rfl, _, rfl, if_false_of (by decide) ⟨_, rfl, rfl, _, rfl, if_false_of (by decide) ⟨_, rfl, rfl, _, rfl, if_false_of (by decide) ⟨_, rfl, rfl, _, rfl, if_false_of (by decide) (last rfl rfl)⟩⟩⟩⟩⟩⟩
end
end LR

/-! The calls read off one list, as the Spec reads them. -/
namespace LR
open Mu13 (nums)
open Mu13Neutral (fours)
def wholesL : List Nat := [0, 0, 4, 1, 0, 0, 0, 1, 1, 1, 0]
def withRowL : List Nat := [0, 1, 4, 5, 6, 8]
theorem nums_len (l : List Nat) : (nums l).length = l.length := List.length_map _
theorem nums_drop (l : List Nat) (n : Nat) : (nums l).drop n = nums (l.drop n) := (List.map_drop).symm
theorem nums_take (l : List Nat) (n : Nat) : (nums l).take n = nums (l.take n) := (List.map_take).symm
theorem nats_nums (l : List Nat) : Mu13Neutral.nats (nums l) = l := by
  unfold Mu13Neutral.nats nums
  rw [List.map_map]
  induction l with
  | nil => rfl
  | cons a l ih => rw [List.map_cons, ih]; rfl
theorem calls_step {f : Nat} {p : Int} {r : List Int} {cs : List (List (List Int))} (h : PyFlat.calls PyMu13.shape f (p :: r) = some cs) : ∃ f' c t cs', f = f' + 1 ∧ PyFlat.call PyMu13.shape (p :: r) = some (c, t) ∧ PyFlat.calls PyMu13.shape f' t = some cs' ∧ cs = c :: cs' := by
  cases f with
  | zero => cases h
  | succ f =>
    unfold PyFlat.calls at h
    cases e : PyFlat.call PyMu13.shape (p :: r) with
    | none => rw [e] at h; cases h
    | some x =>
      obtain ⟨c, t⟩ := x
      rw [e] at h
      have h : (match PyFlat.calls PyMu13.shape f t with
        | none => none
        | some cs => some (c :: cs)) = some cs := h
      cases e2 : PyFlat.calls PyMu13.shape f t with
      | none => rw [e2] at h; cases h
      | some cs' =>
        rw [e2] at h
        exact ⟨f, c, t, cs', rfl, rfl, e2, (Option.some.inj h).symm⟩
theorem call0 {p : Int} {n : Nat} {r : List Nat} {c : List (List Int)} {t : List Int} (hs : PyMu13.shape p = some (n, 0)) (h : PyFlat.call PyMu13.shape (p :: nums r) = some (c, t)) : ∃ ns rest : List Nat, r = ns ++ rest ∧ ns.length = n ∧ c = [p :: nums ns] ∧ t = nums rest := by
  unfold PyFlat.call at h
  dsimp only at h
  rw [hs] at h
  have h : (if (nums r).length < n then none else match PyFlat.rows 0 ((nums r).drop n) with
      | none => none
      | some (xs, t) => some ((p :: (nums r).take n) :: xs, t)) = some (c, t) := h
  by_cases hl : (nums r).length < n
  · rw [if_pos hl] at h; cases h
  · rw [if_neg hl] at h
    have h : some ([p :: (nums r).take n], (nums r).drop n) = some (c, t) := h
    cases h
    rw [nums_len] at hl
    exact ⟨r.take n, r.drop n, (List.take_append_drop n r).symm, by rw [List.length_take]; omega, by rw [nums_take], nums_drop r n⟩
theorem call1 {p : Int} {n : Nat} {r : List Nat} {c : List (List Int)} {t : List Int} (hs : PyMu13.shape p = some (n, 1)) (h : PyFlat.call PyMu13.shape (p :: nums r) = some (c, t)) : ∃ ns row rest : List Nat, r = ns ++ row.length :: (row ++ rest) ∧ ns.length = n ∧ c = [p :: nums ns, nums row] ∧ t = nums rest := by
  unfold PyFlat.call at h
  dsimp only at h
  rw [hs] at h
  have h : (if (nums r).length < n then none else match PyFlat.rows 1 ((nums r).drop n) with
      | none => none
      | some (xs, t) => some ((p :: (nums r).take n) :: xs, t)) = some (c, t) := h
  by_cases hl : (nums r).length < n
  · rw [if_pos hl] at h; cases h
  · rw [if_neg hl, nums_drop] at h
    rw [nums_len] at hl
    cases e : r.drop n with
    | nil => rw [e] at h; cases h
    | cons m r2 =>
      rw [e] at h
      have h : (match (match (if 0 ≤ (m : Int) ∧ (m : Int).toNat ≤ (nums r2).length then some ((nums r2).take (m : Int).toNat, (nums r2).drop (m : Int).toNat) else none) with
          | none => none
          | some (x, s) => match PyFlat.rows 0 s with
            | none => none
            | some (xs, t) => some (x :: xs, t)) with
        | none => none
        | some (xs, t) => some ((p :: (nums r).take n) :: xs, t)) = some (c, t) := h
      rw [Int.toNat_natCast, nums_len] at h
      by_cases hm : m ≤ r2.length
      · rw [if_pos ⟨by omega, hm⟩] at h
        have h : some ([p :: (nums r).take n, (nums r2).take m], (nums r2).drop m) = some (c, t) := h
        cases h
        have ml : (r2.take m).length = m := by rw [List.length_take]; omega
        refine ⟨r.take n, r2.take m, r2.drop m, ?_, by rw [List.length_take]; omega, by rw [nums_take, nums_take], nums_drop r2 m⟩
        rw [ml, List.take_append_drop, ← e, List.take_append_drop]
      · rw [if_neg (fun z => hm z.2)] at h; cases h
/-- one call of the list -/
structure Got (L : List Nat) (raw : List (List Int)) (p : Nat) (ns row rest : List Nat) (c : Mu13.Call) : Prop where
  isC : CallIs p ns row c
  of : Mu13Neutral.callOf (PyMu13.whole raw) = some c
  wh : wholesL[p]? = some ns.length
  yes : withRowL.contains p = true → L = p :: (ns ++ row.length :: (row ++ rest))
  no : withRowL.contains p = false → row = [] ∧ L = p :: (ns ++ rest)
theorem dig_len {row : List Nat} (h : Mu13Neutral.digits (nums row) = true) : row.length ≤ 20 := by
  unfold Mu13Neutral.digits at h
  rw [Bool.and_eq_true] at h
  have := of_decide_eq_true h.1
  rwa [nums_len] at this
theorem len1 {ns : List Nat} (h : ns.length = 1) : ∃ k, ns = [k] := by
  match ns, h with
  | [k], _ => exact ⟨k, rfl⟩
theorem len0 {ns : List Nat} (h : ns.length = 0) : ns = [] := List.length_eq_zero_iff.mp h
theorem len4 {ns : List Nat} (h : ns.length = 4) : ∃ a b c d, ns = [a, b, c, d] := by
  match ns, h with
  | [a, b, c, d], _ => exact ⟨a, b, c, d, rfl⟩
theorem got {p : Nat} {r : List Nat} {raw : List (List Int)} {t : List Int} (h : PyFlat.call PyMu13.shape ((p : Int) :: nums r) = some (raw, t)) (ha : Mu13Neutral.asked1 (PyMu13.whole raw) = true) :
    ∃ ns row rest c, t = nums rest ∧ Got (p :: r) raw p ns row rest c := by
  match p, h with
  | 0, h =>
    obtain ⟨ns, row, rest, e1, e2, e3, e4⟩ := call1 (p := 0) (n := 0) (by decide) h
    have := len0 e2
    subst this e3
    have ha : (decide ((nums row).length ≤ 60) && ((nums row).length % 4 == 0 && (nums row).all Mu13Neutral.twenty)) = true := ha
    rw [Bool.and_eq_true, Bool.and_eq_true, nums_len] at ha
    have h60 := of_decide_eq_true ha.1
    have h4 : row.length % 4 = 0 := by simpa using ha.2.1
    refine ⟨[], row, rest, .begin_ (fours row), e4, .begin_ (m := row.length / 4) (by omega) (by omega), ?_, rfl, fun _ => by rw [e1], fun z => by cases z⟩
    show some (Mu13.Call.begin_ (fours (Mu13Neutral.nats (nums row)))) = _
    rw [nats_nums]
  | 1, h =>
    obtain ⟨ns, row, rest, e1, e2, e3, e4⟩ := call1 (p := 1) (n := 0) (by decide) h
    have := len0 e2
    subst this e3
    refine ⟨[], row, rest, .lay row, e4, .lay (dig_len ha), ?_, rfl, fun _ => by rw [e1], fun z => by cases z⟩
    show some (Mu13.Call.lay (Mu13Neutral.nats (nums row))) = _
    rw [nats_nums]
  | 2, h =>
    obtain ⟨ns, rest, e1, e2, e3, e4⟩ := call0 (p := 2) (n := 4) (by decide) h
    obtain ⟨a, b, c, d, rfl⟩ := len4 e2
    subst e3
    exact ⟨[a, b, c, d], [], rest, .cut a b c d, e4, .cut, rfl, rfl, fun z => (by cases z), fun _ => ⟨rfl, by rw [e1]⟩⟩
  | 3, h =>
    obtain ⟨ns, rest, e1, e2, e3, e4⟩ := call0 (p := 3) (n := 1) (by decide) h
    obtain ⟨k, rfl⟩ := len1 e2
    subst e3
    exact ⟨[k], [], rest, .row k, e4, .row, rfl, rfl, fun z => (by cases z), fun _ => ⟨rfl, by rw [e1]⟩⟩
  | 4, h =>
    obtain ⟨ns, row, rest, e1, e2, e3, e4⟩ := call1 (p := 4) (n := 0) (by decide) h
    have := len0 e2
    subst this e3
    refine ⟨[], row, rest, .by_ row, e4, .by_ (dig_len ha), ?_, rfl, fun _ => by rw [e1], fun z => by cases z⟩
    show some (Mu13.Call.by_ (Mu13Neutral.nats (nums row))) = _
    rw [nats_nums]
  | 5, h =>
    obtain ⟨ns, row, rest, e1, e2, e3, e4⟩ := call1 (p := 5) (n := 0) (by decide) h
    have := len0 e2
    subst this e3
    refine ⟨[], row, rest, .into row, e4, .into (dig_len ha), ?_, rfl, fun _ => by rw [e1], fun z => by cases z⟩
    show some (Mu13.Call.into (Mu13Neutral.nats (nums row))) = _
    rw [nats_nums]
  | 6, h =>
    obtain ⟨ns, row, rest, e1, e2, e3, e4⟩ := call1 (p := 6) (n := 0) (by decide) h
    have := len0 e2
    subst this e3
    refine ⟨[], row, rest, .root row, e4, .root (dig_len ha), ?_, rfl, fun _ => by rw [e1], fun z => by cases z⟩
    show some (Mu13.Call.root (Mu13Neutral.nats (nums row))) = _
    rw [nats_nums]
  | 7, h =>
    obtain ⟨ns, rest, e1, e2, e3, e4⟩ := call0 (p := 7) (n := 1) (by decide) h
    obtain ⟨k, rfl⟩ := len1 e2
    subst e3
    exact ⟨[k], [], rest, .arrows k, e4, .arrows, rfl, rfl, fun z => (by cases z), fun _ => ⟨rfl, by rw [e1]⟩⟩
  | 8, h =>
    obtain ⟨ns, row, rest, e1, e2, e3, e4⟩ := call1 (p := 8) (n := 1) (by decide) h
    obtain ⟨k, rfl⟩ := len1 e2
    subst e3
    have ha : (Mu13Neutral.twenty (k : Int) && Mu13Neutral.digits (nums row)) = true := ha
    rw [Bool.and_eq_true] at ha
    refine ⟨[k], row, rest, .explain k row, e4, .explain (dig_len ha.2), ?_, rfl, fun _ => by rw [e1], fun z => by cases z⟩
    show some (Mu13.Call.explain k (Mu13Neutral.nats (nums row))) = _
    rw [nats_nums]
  | 9, h =>
    obtain ⟨ns, rest, e1, e2, e3, e4⟩ := call0 (p := 9) (n := 1) (by decide) h
    obtain ⟨k, rfl⟩ := len1 e2
    subst e3
    exact ⟨[k], [], rest, .count k, e4, .count, rfl, rfl, fun z => (by cases z), fun _ => ⟨rfl, by rw [e1]⟩⟩
  | 10, h =>
    obtain ⟨ns, rest, e1, e2, e3, e4⟩ := call0 (p := 10) (n := 0) (by decide) h
    have := len0 e2
    subst this e3
    exact ⟨[], [], rest, .show_, e4, .show_, rfl, rfl, fun z => (by cases z), fun _ => ⟨rfl, by rw [e1]⟩⟩
  | p + 11, h =>
    have hs : PyMu13.shape ((p + 11 : Nat) : Int) = none := by
      unfold PyMu13.shape
      rw [if_neg (by omega), if_neg (by omega), if_neg (by omega), if_neg (by omega), if_neg (by omega), if_neg (by omega), if_neg (by omega), if_neg (by omega), if_neg (by omega), if_neg (by omega), if_neg (by omega)]
    unfold PyFlat.call at h
    dsimp only at h
    rw [hs] at h
    cases h
theorem parse1 {p : Nat} {r : List Nat} {f : Nat} {cs : List (List (List Int))} (h : PyFlat.calls PyMu13.shape f (nums (p :: r)) = some cs) (ha : ∀ c ∈ cs, Mu13Neutral.asked1 (PyMu13.whole c) = true) :
    ∃ ns row rest c raw f' cs', cs = raw :: cs' ∧ PyFlat.calls PyMu13.shape f' (nums rest) = some cs' ∧ Got (p :: r) raw p ns row rest c := by
  obtain ⟨f', raw, t, cs', _, e1, e2, rfl⟩ := calls_step (p := (p : Int)) (r := nums r) h
  obtain ⟨ns, row, rest, c, rfl, g⟩ := got e1 (ha raw (List.mem_cons_self ..))
  exact ⟨ns, row, rest, c, raw, f', cs', rfl, e2, g⟩
theorem parse0 {f : Nat} {cs : List (List (List Int))} (h : PyFlat.calls PyMu13.shape f (nums []) = some cs) : cs = [] := by
  have h : PyFlat.calls PyMu13.shape f [] = some cs := h
  cases f with
  | zero => exact (Option.some.inj h).symm
  | succ f => exact (Option.some.inj h).symm
/-- what is due, from a state on -/
def due (s : Mu13.State) (cs : List (List (List Int))) : List Int := PyFlat.told (PyFlat.played Mu13Neutral.step s (cs.map PyMu13.whole))
theorem due_nil (s : Mu13.State) : due s [] = [] := rfl
theorem due_cons {s : Mu13.State} {raw : List (List Int)} {cs : List (List (List Int))} {c : Mu13.Call} (h : Mu13Neutral.callOf (PyMu13.whole raw) = some c) : due s (raw :: cs) = (((Mu13.step s c).2.length : Int) :: (Mu13.step s c).2) ++ due (Mu13.step s c).1 cs := by
  have e : Mu13Neutral.step s (PyMu13.whole raw) = Mu13.step s c := by
    unfold Mu13Neutral.step
    rw [h]
  show PyFlat.told ((Mu13Neutral.step s (PyMu13.whole raw)).2 :: PyFlat.played Mu13Neutral.step (Mu13Neutral.step s (PyMu13.whole raw)).1 (cs.map PyMu13.whole)) = _
  rw [e]
  rfl
theorem asked_gives {l : List Int} (h : PyMu13.answers_asked l = true) : ∃ raw, PyFlat.calls PyMu13.shape l.length l = some raw ∧ raw.length ≤ 60 ∧ (∀ c ∈ raw, Mu13Neutral.asked1 (PyMu13.whole c) = true) ∧ PyMu13.answers l = due {} raw ∧ (PyMu13.answers l).length ≤ 10000000 := by
  unfold PyMu13.answers_asked at h
  cases e : PyFlat.calls PyMu13.shape l.length l with
  | none => rw [e] at h; cases h
  | some raw =>
    rw [e] at h
    have h : (!raw.isEmpty && PyFlat.atMost 60 raw && PyInside.calls PyMu13.bound raw && Mu13Neutral.asked (raw.map PyMu13.whole) && PyFlat.short 10000000 (PyMu13.answers l)) = true := h
    rw [Bool.and_eq_true, Bool.and_eq_true, Bool.and_eq_true, Bool.and_eq_true] at h
    obtain ⟨⟨⟨⟨_, h60⟩, _⟩, hask⟩, hshort⟩ := h
    unfold Mu13Neutral.asked at hask
    rw [Bool.and_eq_true, Bool.and_eq_true] at hask
    refine ⟨raw, rfl, of_decide_eq_true h60, fun c hc => List.all_eq_true.mp hask.2.2 _ (List.mem_map.mpr ⟨c, hc, rfl⟩), ?_, of_decide_eq_true hshort⟩
    unfold PyMu13.answers PyMu13.calls
    rw [e]
    rfl
end LR

/-! answers -/
namespace LR
open PySem PySem.Spec PyProof.Rows L2
open Mu13 (nums)
theorem SqL.keep {K : PySem.W.Frag} {H H' : Hp} {a : Addr} {xs : List V} (h : SqL K H a xs) (k : Keep H H') : SqL K H' a xs := by
  rcases h with (h | ⟨o, h⟩) | h
  · exact .inl (.inl (k _ _ h fun _ _ _ q => nomatch q))
  · exact .inl (.inr ⟨o, k _ _ h fun _ _ _ q => nomatch q⟩)
  · exact .inr h
theorem BenchAt.off {CB CR : Addr} {H : Hp} {b fo : Addr} {s : Mu13.State} {od : Obj} {u : HO} (h : BenchAt CB CR H b s) (hf : H fo = some (.frz od u)) (o : HO) : BenchAt CB CR (upd H fo o) b s := by
  obtain ⟨dx, r, hb, nbr, dr, fa, fl, la, hR, ⟨fas, hfa, hfall⟩, ⟨fls, hfl, hflall⟩, ⟨las, hla, hlall⟩⟩ := h
  have ne : ∀ {c : Addr} {x : HO}, H c = some x → (∀ o u, x ≠ .frz o u) → c ≠ fo := fun hc hx => ne_of hc hf (hx od u)
  refine ⟨dx, r, by rw [upd_ne (ne hb fun _ _ q => nomatch q)]; exact hb, nbr, dr, fa, fl, la, by rw [upd_ne (ne hR fun _ _ q => nomatch q)]; exact hR,
    ⟨fas, by rw [upd_ne (ne hfa fun _ _ q => nomatch q)]; exact hfa, hfall.upd (hfall.not fun x q => by rw [hf] at q; cases q)⟩,
    ⟨fls, by rw [upd_ne (ne hfl fun _ _ q => nomatch q)]; exact hfl, hflall.upd (hflall.not fun x q => by rw [hf] at q; cases q)⟩,
    ⟨las, by rw [upd_ne (ne hla fun _ _ q => nomatch q)]; exact hla, hlall.upd (hlall.not fun x q => by rw [hf] at q; cases q)⟩⟩
theorem upd_comm {H : Hp} {a b : Addr} {x y : HO} (h : a ≠ b) : upd (upd H a x) b y = upd (upd H b y) a x := by
  funext c
  unfold upd
  by_cases h1 : c = b
  · rw [if_pos h1, if_neg (fun q => h (q.symm.trans h1)), if_pos h1]
  · rw [if_neg h1]
    by_cases h2 : c = a
    · rw [if_pos h2, if_pos h2]
    · rw [if_neg h2, if_neg h2, if_neg h1]
/-- a new object beside it -/
theorem off_new {CB CR : Addr} {H : Hp} {b fo p : Addr} {s : Mu13.State} {u x : HO} (h : ∀ o, BenchAt CB CR (upd H fo o) b s) (hf : H fo = some u) (hp : H p = none) (o : HO) : BenchAt CB CR (upd (upd H p x) fo o) b s := by
  have npf : p ≠ fo := new_ne hp hf
  rw [upd_comm npf]
  exact (h o).same (same_new (by rw [upd_ne npf]; exact hp) _)
theorem drop_cons {α : Type} {l t : List α} {a : Nat} {x : α} (h : l.drop a = x :: t) : l[a]? = some x ∧ l.drop (a + 1) = t ∧ a < l.length := by
  have h1 : (l.drop a)[0]? = some x := by rw [h]; rfl
  rw [List.getElem?_drop, Nat.add_zero] at h1
  refine ⟨h1, ?_, lt_of_get h1⟩
  have h2 := drop_more h1
  rw [h] at h2
  exact (List.cons.inj h2).2.symm
theorem drop_app {α : Type} {l u t : List α} {a : Nat} (h : l.drop a = u ++ t) : (l.drop a).take u.length = u ∧ l.drop (a + u.length) = t := by
  refine ⟨by rw [h, List.take_left], ?_⟩
  rw [← List.drop_drop, h, List.drop_left]
theorem cut_mid {l u t : List Nat} {i : Nat} {a b : Int} (ea : a = (i : Int)) (eb : b = ((i + u.length : Nat) : Int)) (hi : i ≤ l.length) (h : l.drop i = u ++ t) : cutV (NL l) (some a) (some b) = NL u := by
  subst ea eb
  have hl : l.length = i + (u.length + t.length) := by
    have q := congrArg List.length h
    rw [List.length_drop, List.length_append] at q
    omega
  unfold cutV
  rw [HT.sIx_nat, HT.sIx_nat, NL_len, NL_drop, NL_take, Nat.min_eq_left (show i + u.length ≤ l.length by omega), Nat.min_eq_left hi, Nat.add_sub_cancel_left]
  exact congrArg NL (drop_app h).1
section
variable {P : Program} {w : World} {K : PySem.W.Frag} {mg : Str → Option Value} {base : Heap}
/-- one = bench.answer(call, n, row); found.append(len(one)); found.extend(one); at = end -/
def tTail (K : PySem.W.Frag) (CB CR : Addr) : TS :=
  tSeq (tAsg (tLockE (tMeth CB "answer" (spAnswer CB CR) [] E0 (tVar 1) (tCons (tVar 4) (tCons (tVar 6) (tCons (tVar 7) tNil))))) (gName 9))
  (tSeq (tDrop (tBM K "list" rAppend (tVar 2) (tCons (tCB (fun xs H Q => ∃ p ys, xs = [.ref p] ∧ (SqL K H p ys ∨ SqT K H p ys) ∧ Q (.int ys.length) H) (tCons (tVar 9) tNil)) tNil)))
  (tSeq (tDrop (tBM K "list" rExtend (tVar 2) (tCons (tVar 9) tNil)))
    (tAsg (tVar 5) (gName 3))))
theorem tail_ok {CB CR : Addr} {D : Ends} {ca be fo na ra : Addr} {a e p : Nat} {v8 v9 : Option V} {H H0 : Hp} {st : Mu13.State} {done : List Int} {ns row : List Nat} {c : Mu13.Call}
    (k0 : Keep H0 H) (hfo0 : H0 fo = none) (hBen : ∀ o, BenchAt CB CR (upd H fo o) be st) (G : Good st) (hfl : st.flaws.length ≤ 9000) (efo : H fo = some (.lst (IL done))) (hna : H na = some (.lst (NL ns))) (nna : na ≠ fo) (hra : H ra = some (.lst (NL row))) (nra : ra ≠ fo)
    (hc : CallIs p ns row c) (hlen : done.length + (1 + (Mu13.step st c).2.length) ≤ 10000000)
    (nx : ∀ (p9 : Addr) (H' : Hp), Keep H0 H' → (∀ o, BenchAt CB CR (upd H' fo o) be (Mu13.step st c).1) → H' fo = some (.lst (IL (done ++ ((Mu13.step st c).2.length : Int) :: (Mu13.step st c).2))) →
      D.nx [some (.ref ca), some (.ref be), some (.ref fo), some (nV e), some (nV p), some (nV e), some (.ref na), some (.ref ra), v8, some (.ref p9)] H') :
    tTail K CB CR D [some (.ref ca), some (.ref be), some (.ref fo), some (nV a), some (nV p), some (nV e), some (.ref na), some (.ref ra), v8, v9] H := by
  refine ⟨fo, .lst (IL done), efo, trivial, fun od => ?_⟩
  have ben1 := hBen (.frz od (.lst (IL done)))
  obtain ⟨dx, r, hb, nbr, R⟩ := id ben1
  refine ⟨_, rfl, be, dx, _, rfl, hb, bF_no r (by decide +kernel), _, rfl, _, rfl, _, rfl, be, na, ra, st, p, ns, row, c, rfl, ben1, G, hfl, by rw [upd_ne nna]; exact hna, by rw [upd_ne nra]; exact hra, hc, fun p9 H5 ben5 k5 np9 e9 => ?_⟩
  have h5fo : H5 fo = some (.frz od (.lst (IL done))) := k5 fo _ upd_same fun _ _ _ q => nomatch q
  have n9 : p9 ≠ fo := fun q => by rw [q, upd_same] at np9; cases np9
  refine ⟨h5fo, ?_⟩
  have hl1 : (IL done).length = done.length := List.length_map _
  have hl2 : (IL (Mu13.step st c).2).length = (Mu13.step st c).2.length := List.length_map _
  have sz : ∀ n, n ≤ 10000000 → n ≤ sizeLine := fun n h => Nat.le_trans h (by decide)
  -- found.append(len(one))
  refine ⟨_, rfl, .inl ⟨rfl, _, SqL.of upd_same⟩, _, rfl, p9, _, rfl, .inl (SqL.of (by rw [upd_ne n9]; exact e9)), fo, _, _, rfl, rfl, upd_same, by rw [hl1]; exact Nat.lt_of_le_of_lt (show done.length ≤ 10000000 by omega) (by decide), ?_⟩
  -- found.extend(one)
  refine ⟨_, rfl, .inl ⟨rfl, _, SqL.of upd_same⟩, _, rfl, fo, p9, _, _, rfl, rfl, upd_same, by rw [upd_ne n9, upd_ne n9]; exact e9, ?_, ?_⟩
  · rw [List.length_append, hl1, hl2]
    show done.length + 1 + _ ≤ _
    exact sz _ (by omega)
  -- at = end
  refine ⟨_, rfl, ?_⟩
  rw [upd_upd, upd_upd]
  refine nx p9 _ (fun b o q n => ?_) (fun o => by rw [upd_upd]; exact ben5.off h5fo o) ?_
  · have nb : b ≠ fo := ne_of_none q hfo0
    rw [upd_ne nb]
    exact k5 b o (by rw [upd_ne nb]; exact k0 b o q n) n
  · rw [upd_same, hl2, List.append_assoc]
    unfold IL
    rw [List.map_append]
    rfl
def spAns (K : PySem.W.Frag) : Sp := fun vs H Q _ => ∃ (a : Addr) (ns : List Int), vs = [.ref a] ∧ SqL K H a (ns.map V.int) ∧ ns.length ≤ 4000 ∧ (∀ x ∈ ns, 0 ≤ x) ∧ PyMu13.answers_asked ns = true ∧
  ∀ (H' : Hp) (p : Addr), H' p = some (.lst ((PyMu13.answers ns).map V.int)) → Q (.ref p) H'
theorem scAnswers : FnScope ["calls", "bench", "found", "at", "call", "end", "n", "row", "begin", "one"] ["calls"] (defScope sAnswers) := ⟨rfl, rfl, rfl, by decide +kernel, rfl, by decide +kernel, by decide +kernel⟩
theorem nums_toNat {l : List Int} (h : ∀ x ∈ l, 0 ≤ x) : nums (l.map Int.toNat) = l := by
  unfold nums
  rw [List.map_map]
  conv => rhs; rw [← List.map_id l]
  refine List.map_congr_left fun x hx => ?_
  show ((x.toNat : Nat) : Int) = x
  have := h x hx
  omega
theorem ok_answers (T : Txt K mg) {f : Addr} {fd : FuncData} (F : Fun K "answers" "answers" sAnswers f fd) : FnOk P w K mg base CX0 19 f fd ["calls"] (spAns K) := by
  have GI : FnOk P w K mg base CX0 3 T.bInit.f T.bInit.fd ["self"] (spBInit T.CB T.CR) := ok_bInit T
  have GA : FnOk P w K mg base CX0 18 T.answerM.f T.answerM.fd ["self", "call", "n", "row"] (spAnswer T.CB T.CR) := ok_answer T
  obtain ⟨wa, hwa, hwT⟩ := T.wholes
  obtain ⟨wr, hwr, hrT⟩ := T.withRow
  refine F.ok scAnswers (fun vs H Q E h => ?_) (fun cdv A outer s H vs Q E hr h => ?_)
  · obtain ⟨a, ns, rfl, _⟩ := h
    rfl
  obtain ⟨ca, ns, rfl, hca, hlen, hpos, hask, q⟩ := h
  obtain ⟨raw, hraw, hr60, hasked, hdue, hshort⟩ := asked_gives hask
  -- the list as naturals
  obtain ⟨ln, rfl⟩ : ∃ ln, nums ln = ns := ⟨ns.map Int.toNat, nums_toNat hpos⟩
  have hca : SqL K H ca (NL ln) := by rw [NL_IL]; exact hca
  rw [nums_len] at hlen hraw
  have hr4 : Room 4 _ := hr.mono (by decide)
  refine ⟨_, pss_cons (ps_set (i := 1) scAnswers.nd rfl (Or.inl rfl) (pe_make0 T.mkB GI hr4 rfl T.mgB T.bInit.b .nil pass0))
    (pss_cons (ps_set (i := 2) scAnswers.nd rfl (Or.inl rfl) (pe_lst pa_nil))
    (pss_cons (ps_set (i := 3) scAnswers.nd rfl (Or.inl rfl) pe_int)
    (pss_cons (ps_while PassesOwn.never (pt_cmpR op_lt (pv 3) (pe_callB call_len_seq (by rfl) T.len PySem.boot_len (pa_cons (pv 0) pa_nil)) (nomark _))
      (pss_cons (ps_set (i := 4) scAnswers.nd rfl (Or.inl rfl) (pe_ix ix_list (pv 0) (pv 3) (fun _ _ => rfl)))
      (pss_cons (ps_set (i := 5) scAnswers.nd rfl (Or.inl rfl) (pe_op op_add (pe_op op_add (pv 3) pe_int) (pe_ix ix_tup (pe_glob (v := .ref wa) rfl hwa rfl) (pv 4) (fun _ _ => rfl))))
      (pss_cons (ps_set (i := 6) scAnswers.nd rfl (Or.inl rfl) (pe_slice sl_list (pv 0) (po_some (pe_op op_add (pv 3) pe_int)) (po_some (pv 5))))
      (pss_cons (ps_set (i := 7) scAnswers.nd rfl (Or.inl rfl) (pe_lst pa_nil))
      (pss_cons (ps_if (pt_cmpR op_in_seq (pv 4) (pe_glob (v := .ref wr) rfl hwr rfl) (by rfl))
        (pss_cons (ps_set (i := 8) scAnswers.nd rfl (Or.inl rfl) (pe_op op_add (pv 5) pe_int))
        (pss_cons (ps_set (i := 5) scAnswers.nd rfl (Or.inl rfl) (pe_op op_add (pv 8) (pe_ix ix_list (pv 0) (pv 5) (fun _ _ => rfl))))
        (pss_one (ps_set (i := 7) scAnswers.nd rfl (Or.inl rfl) (pe_slice sl_list (pv 0) (po_some (pv 8)) (po_some (pv 5))))))) pss_nil)
      (pss_cons (ps_set (i := 9) scAnswers.nd rfl (Or.inl rfl) (pe_lock (pe_meth (pv 1) T.clB T.answerM.m GA hr T.answerM.b .nil pass0 (pa_cons (pv 4) (pa_cons (pv 6) (pa_cons (pv 7) pa_nil))))))
      (pss_cons (ps_expr (pe_bm PySem.F.plainAttrs_list PySem.F.slot_list_append PySem.F.type_list_append mt_append (pv 2) (pa_cons (pe_callB call_len_seq (by rfl) T.len PySem.boot_len (pa_cons (pv 9) pa_nil)) pa_nil)))
      (pss_cons (ps_expr (pe_bm PySem.F.plainAttrs_list PySem.F.slot_list_extend PySem.F.type_list_extend mt_extend (pv 2) (pa_cons (pv 9) pa_nil)))
      (pss_one (ps_set (i := 3) scAnswers.nd rfl (Or.inl rfl) (pv 5))))))))))))
    (pss_one (ps_ret (pv 2)))))), ?_⟩
  -- bench = Bench()
  intro be dx nbe nd ne
  refine ⟨be, dx, rfl, upd_same, fun H1 ben1 kp1 => ⟨rfl, ?_⟩⟩
  have s1 : Same H H1 := fun b o e => kp1 b o (by rw [upd_ne (ne_of_none e nbe), upd_ne (ne_of_none e nd)]; exact e) (ne_of_none e nbe)
  -- found = []
  refine ⟨Nat.zero_le _, fun fo hfo => ?_⟩
  have hfo0 : H fo = none := s1.free hfo
  have k1 : Keep H (upd H1 fo (.lst [])) := Keep.of (s1.trans (same_new hfo _))
  -- while
  refine ⟨fun m σ H' => ∃ (v4 v5 v6 v7 v8 v9 : Option V) (a : Nat) (st : Mu13.State) (done : List Int) (f : Nat) (cs : List (List (List Int))), σ = [some (.ref ca), some (.ref be), some (.ref fo), some (nV a), v4, v5, v6, v7, v8, v9] ∧ m = ln.length - a ∧ a ≤ ln.length ∧
      Keep H H' ∧ (∀ o, BenchAt T.CB T.CR (upd H' fo o) be st) ∧ Good st ∧ H' fo = some (.lst (IL done)) ∧ PyFlat.calls PyMu13.shape f (nums (ln.drop a)) = some cs ∧ (∀ c ∈ cs, Mu13Neutral.asked1 (PyMu13.whole c) = true) ∧
      done ++ due st cs = PyMu13.answers (nums ln) ∧ st.flaws.length + cs.length ≤ 100,
    ⟨ln.length - 0, none, none, none, none, none, none, 0, {}, [], ln.length, raw, rfl, rfl, Nat.zero_le _, k1, fun o => by rw [upd_upd]; exact ben1.same (same_new hfo _), good0, upd_same, hraw, hasked, by rw [hdue]; rfl, by show 0 + raw.length ≤ 100; omega⟩, ?_⟩
  rintro m σ H2 ⟨v4, v5, v6, v7, v8, v9, a, st, done, f, cs, rfl, rfl, ha, k2, off2, G, efo, hcs, hask2, tot, hfl⟩
  have hca2 := SqL.keep hca k2
  refine ⟨_, rfl, _, rfl, ca, _, rfl, .inl hca2, _, _, rfl, rfl, _, rfl, ?_⟩
  rw [NL_len, dec_lt]
  by_cases cl : a < ln.length
  · refine if_true_of (decide_eq_true cl) ?_
    obtain ⟨p, r, hpr⟩ : ∃ p r, ln.drop a = p :: r := ⟨ln[a], ln.drop (a + 1), List.drop_eq_getElem_cons cl⟩
    rw [hpr] at hcs
    obtain ⟨nn, row, rest, c, rw1, f', cs', rfl, hcs', got⟩ := parse1 hcs hask2
    rw [due_cons got.of] at tot
    have hlen2 : done.length + (1 + (Mu13.step st c).2.length) ≤ 10000000 := by
      rw [← tot, List.length_append, List.length_append, List.length_cons] at hshort
      omega
    have hdr := drop_cons hpr
    -- the rest of the turn: from where end and row are known
    refine ⟨fun σ' H' => ∃ m', m' < ln.length - a ∧ ∃ (v4 v5 v6 v7 v8 v9 : Option V) (a : Nat) (st : Mu13.State) (done : List Int) (f : Nat) (cs : List (List (List Int))), σ' = [some (.ref ca), some (.ref be), some (.ref fo), some (nV a), v4, v5, v6, v7, v8, v9] ∧ m' = ln.length - a ∧ a ≤ ln.length ∧
      Keep H H' ∧ (∀ o, BenchAt T.CB T.CR (upd H' fo o) be st) ∧ Good st ∧ H' fo = some (.lst (IL done)) ∧ PyFlat.calls PyMu13.shape f (nums (ln.drop a)) = some cs ∧ (∀ c ∈ cs, Mu13Neutral.asked1 (PyMu13.whole c) = true) ∧
      done ++ due st cs = PyMu13.answers (nums ln) ∧ st.flaws.length + cs.length ≤ 100, fun σ' H' z => z, ?_⟩
    -- call = calls[at]
    refine ⟨_, rfl, _, rfl, ca, _, _, _, rfl, rfl, hca2, atI_nat (NL_get hdr.1), ?_⟩
    -- end = at + 1 + WHOLES[call]
    refine ⟨_, rfl, _, _, rfl, rfl, _, rfl, wa, _, _, _, rfl, rfl, hwT _, atI_nat (NL_get got.wh), _, _, rfl, rfl, ?_⟩
    have ee : (a : Int) + 1 + (nn.length : Int) = ((a + 1 + nn.length : Nat) : Int) := by push_cast; rfl
    dsimp only
    rw [ee]
    -- what the list is behind the call's number
    obtain ⟨tl, htl⟩ : ∃ tl, ln.drop (a + 1) = nn ++ tl := by
      rw [hdr.2.1]
      by_cases hw : withRowL.contains p = true
      · exact ⟨_, (List.cons.inj (got.yes hw)).2⟩
      · exact ⟨_, (List.cons.inj (got.no (by simpa using hw)).2).2⟩
    -- n = calls[at + 1:end]
    refine ⟨_, rfl, _, rfl, _, _, rfl, rfl, _, rfl, _, rfl, _, rfl, ca, _, rfl, hca2, fun na hna => ?_⟩
    rw [cut_mid (i := a + 1) (by push_cast; rfl) rfl (by omega) htl]
    have k3 := k2.trans (Keep.of (same_new hna (.lst (NL nn))))
    have off3 := off_new (x := .lst (NL nn)) off2 efo hna
    have nna : na ≠ fo := new_ne hna efo
    have efo3 : (upd H2 na (.lst (NL nn))) fo = some (.lst (IL done)) := by rw [upd_ne nna.symm]; exact efo
    have ena3 : (upd H2 na (.lst (NL nn))) na = some (.lst (NL nn)) := upd_same
    generalize upd H2 na (.lst (NL nn)) = H3 at *
    -- row = []
    refine ⟨Nat.zero_le _, fun r0 hr0 => ?_⟩
    have k4 := k3.trans (Keep.of (same_new hr0 (.lst [])))
    have off4 := off_new (x := .lst []) off3 efo3 hr0
    have nr0 : r0 ≠ fo := new_ne hr0 efo3
    have s34 := same_new hr0 (.lst [])
    have efo4 := s34 _ _ efo3
    have ena4 := s34 _ _ ena3
    have er4 : (upd H3 r0 (.lst [])) r0 = some (.lst (NL [])) := upd_same
    generalize upd H3 r0 (.lst []) = H4 at *
    have hca4 := SqL.keep hca k4
    have Gs := good_step G got.isC
    have hfs := flaws_step st c
    have hcsl : st.flaws.length + (cs'.length + 1) ≤ 100 := hfl
    -- if call in WITH_ROW
    refine ⟨_, rfl, wr, _, rfl, .inr (hrT _), rfl, NL_flat _, _, rfl, ?_⟩
    show if inV (nV p) (NL withRowL) = true then _ else _
    rw [NL_in]
    by_cases hw : withRowL.contains p = true
    · refine if_true_of hw ?_
      have eL := (List.cons.inj (got.yes hw)).2
      rw [← hdr.2.1] at eL
      have d1 := (drop_app eL).2
      have d2 := drop_cons d1
      have d3 := (drop_app d2.2.1).2
      have hlr : a + 1 + nn.length + 1 + row.length ≤ ln.length := by
        have z := congrArg List.length d2.2.1
        rw [List.length_drop, List.length_append] at z
        omega
      -- begin = end + 1
      refine ⟨_, rfl, _, _, rfl, rfl, ?_⟩
      have eb : ((a + 1 + nn.length : Nat) : Int) + 1 = ((a + 1 + nn.length + 1 : Nat) : Int) := by push_cast; rfl
      dsimp only
      rw [eb]
      -- end = begin + calls[end]
      refine ⟨_, rfl, _, rfl, _, rfl, ca, _, _, _, rfl, rfl, hca4, atI_nat (NL_get d2.1), _, _, rfl, rfl, ?_⟩
      have e2 : ((a + 1 + nn.length + 1 : Nat) : Int) + (row.length : Int) = ((a + 1 + nn.length + 1 + row.length : Nat) : Int) := by push_cast; rfl
      dsimp only
      rw [e2]
      -- row = calls[begin:end]
      refine ⟨_, rfl, _, rfl, _, rfl, _, rfl, _, rfl, ca, _, rfl, hca4, fun ra hra => ?_⟩
      rw [cut_mid (i := a + 1 + nn.length + 1) rfl rfl (by omega) d2.2.1]
      have k5 := k4.trans (Keep.of (same_new hra (.lst (NL row))))
      have off5 := off_new (x := .lst (NL row)) off4 efo4 hra
      have nra : ra ≠ fo := new_ne hra efo4
      have s45 := same_new hra (.lst (NL row))
      refine tail_ok (K := K) (CB := T.CB) (CR := T.CR) (H0 := H) k5 hfo0 off5 G (by omega) (s45 _ _ efo4) (s45 _ _ ena4) nna upd_same nra got.isC hlen2 fun p9 H' k9 off9 efo9 => ?_
      refine ⟨ln.length - (a + 1 + nn.length + 1 + row.length), by omega, _, _, _, _, _, _, a + 1 + nn.length + 1 + row.length, _, _, f', cs', rfl, rfl, hlr, k9, off9, Gs, efo9, ?_, fun x hx => hask2 x (List.mem_cons_of_mem _ hx), ?_, by omega⟩
      · rw [d3]; exact hcs'
      · rw [List.append_assoc]; exact tot
    · refine if_false_of (by simpa using hw) ?_
      obtain ⟨er, eL⟩ := got.no (by simpa using hw)
      have eL := (List.cons.inj eL).2
      rw [← hdr.2.1] at eL
      have d1 := (drop_app eL).2
      have hlr : a + 1 + nn.length ≤ ln.length := by
        have z := congrArg List.length eL
        rw [List.length_drop, List.length_append] at z
        omega
      subst er
      refine tail_ok (K := K) (CB := T.CB) (CR := T.CR) (H0 := H) k4 hfo0 off4 G (by omega) efo4 ena4 nna er4 nr0 got.isC hlen2 fun p9 H' k9 off9 efo9 => ?_
      refine ⟨ln.length - (a + 1 + nn.length), by omega, _, _, _, _, _, _, a + 1 + nn.length, _, _, f', cs', rfl, rfl, hlr, k9, off9, Gs, efo9, ?_, fun x hx => hask2 x (List.mem_cons_of_mem _ hx), ?_, by omega⟩
      · rw [d1]; exact hcs'
      · rw [List.append_assoc]; exact tot
  · refine if_false_of (decide_eq_false cl) ?_
    have : a = ln.length := by omega
    subst this
    rw [List.drop_length] at hcs
    rw [parse0 hcs, due_nil, List.append_nil] at tot
    refine ⟨_, rfl, q H2 fo ?_⟩
    rw [← tot]; exact efo
end
end LR

/-! The end: what the top has written; the head; the row. Printed by mk_end.py. -/
namespace LR
open PySem PySem.Spec PyProof.Rows L2
/-- what is found of a def of the top -/
structure FnFacts (K : PySem.W.Frag) (x qual : Str) (st : Stmt) (f : Addr) : Prop where
  ex : ∃ (oc : Value) (od an : Option Addr) (kV dc pm cd ct : Value) (sl : Array (Option Value)), K.lookup f = some ⟨oc, od, .func (PySem.W.fnOf x qual (defArgs st) (defBody st) (defScope st) .none kV dc pm an cd ct), sl⟩ ∧ PySem.W.codeIn K cd qual = true
  kp : PySem.W.keepIn K (.ref f) = true
theorem FnFacts.mk' {K : PySem.W.Frag} {x qual : Str} {st : Stmt} {f : Addr} {oc : Value} {od an : Option Addr} {kV dc pm cd ct : Value} {sl : Array (Option Value)} (l : K.lookup f = some ⟨oc, od, .func (PySem.W.fnOf x qual (defArgs st) (defBody st) (defScope st) .none kV dc pm an cd ct), sl⟩) (c : PySem.W.codeIn K cd qual = true) (k : PySem.W.keepIn K (.ref f) = true) : FnFacts K x qual st f := ⟨⟨oc, od, an, kV, dc, pm, cd, ct, sl, l, c⟩, k⟩
theorem FnFacts.fn {K : PySem.W.Frag} {x qual : Str} {st : Stmt} {f : Addr} (h : FnFacts K x qual st f) : ∃ fd, Fun K x qual st f fd := by
  obtain ⟨⟨oc, od, an, kV, dc, pm, cd, ct, sl, l, c⟩, k⟩ := h
  exact ⟨_, fun_mk l c k⟩
theorem all_mk {P : Program} {w : World} {K : PySem.W.Frag} {h : Heap} {mg : Str → Option Value} {fa f_ans CR CB f_find f_can f_wout f_first f_free f_laidSo f_allRows f_many f_number f_digits f_told f_are f_isBox f_product f_greatest f_parted f_rootOf f_doubles f_notLaid f_arrows f_shown f_explained f_readings f_flat f_rInit f_right f_cell f_has f_cutCell f_laidD f_rowCells f_rowRead f_bInit f_beginM f_layM f_cutM f_refusal f_rowM f_byM f_intoM f_explainM f_about f_rootM f_countM f_showM f_answerM w_wholes w_withRow : Addr} {t_c_MOST_DIGIT t_c_FACES t_c_MOST_RODS t_c_MOST_ROW t_c_MOST_CELL t_c_BITS t_c_BAD t_c_CAN_NOT t_c_NOT_LAID t_c_NOUGHT t_c_SHORT t_c_LONG t_c_READ t_c_COUNTED u_wholes_0 u_wholes_1 u_wholes_2 u_wholes_3 u_wholes_4 u_wholes_5 u_wholes_6 u_wholes_7 u_wholes_8 u_wholes_9 u_wholes_10 u_withRow_0 u_withRow_1 u_withRow_2 u_withRow_3 u_withRow_4 u_withRow_5 : Tok} {d_wholes d_withRow : Option Addr} {m_wholes m_withRow : Nat} {s_wholes s_withRow : Array (Option Value)} (X : K.In h) (G : h.Ns mainGlobals mg) (hfa : mg "answers" = some (.ref fa))
    (a_find : PySem.W.nsIn K mainGlobals "find_rod" = some (some (.ref f_find))) (h_find : FnFacts K "find_rod" "find_rod" sFind f_find)
    (a_can : PySem.W.nsIn K mainGlobals "can_be_laid" = some (some (.ref f_can))) (h_can : FnFacts K "can_be_laid" "can_be_laid" sCan f_can)
    (a_wout : PySem.W.nsIn K mainGlobals "without" = some (some (.ref f_wout))) (h_wout : FnFacts K "without" "without" sWithout f_wout)
    (a_first : PySem.W.nsIn K mainGlobals "first_rod" = some (some (.ref f_first))) (h_first : FnFacts K "first_rod" "first_rod" sFirst f_first)
    (a_free : PySem.W.nsIn K mainGlobals "all_free" = some (some (.ref f_free))) (h_free : FnFacts K "all_free" "all_free" sFree f_free)
    (a_laidSo : PySem.W.nsIn K mainGlobals "laid_so" = some (some (.ref f_laidSo))) (h_laidSo : FnFacts K "laid_so" "laid_so" sLaidSo f_laidSo)
    (a_allRows : PySem.W.nsIn K mainGlobals "all_rows" = some (some (.ref f_allRows))) (h_allRows : FnFacts K "all_rows" "all_rows" sAllRows f_allRows)
    (a_many : PySem.W.nsIn K mainGlobals "many_laid" = some (some (.ref f_many))) (h_many : FnFacts K "many_laid" "many_laid" sMany f_many)
    (a_number : PySem.W.nsIn K mainGlobals "number_of" = some (some (.ref f_number))) (h_number : FnFacts K "number_of" "number_of" sNumber f_number)
    (a_digits : PySem.W.nsIn K mainGlobals "digits_of" = some (some (.ref f_digits))) (h_digits : FnFacts K "digits_of" "digits_of" sDigits f_digits)
    (a_told : PySem.W.nsIn K mainGlobals "told" = some (some (.ref f_told))) (h_told : FnFacts K "told" "told" sTold f_told)
    (a_are : PySem.W.nsIn K mainGlobals "are_digits" = some (some (.ref f_are))) (h_are : FnFacts K "are_digits" "are_digits" sAre f_are)
    (a_isBox : PySem.W.nsIn K mainGlobals "is_box" = some (some (.ref f_isBox))) (h_isBox : FnFacts K "is_box" "is_box" sIsBox f_isBox)
    (a_product : PySem.W.nsIn K mainGlobals "product" = some (some (.ref f_product))) (h_product : FnFacts K "product" "product" sProduct f_product)
    (a_greatest : PySem.W.nsIn K mainGlobals "greatest_row" = some (some (.ref f_greatest))) (h_greatest : FnFacts K "greatest_row" "greatest_row" sGreatest f_greatest)
    (a_parted : PySem.W.nsIn K mainGlobals "parted" = some (some (.ref f_parted))) (h_parted : FnFacts K "parted" "parted" sParted f_parted)
    (a_rootOf : PySem.W.nsIn K mainGlobals "root_of" = some (some (.ref f_rootOf))) (h_rootOf : FnFacts K "root_of" "root_of" sRootOf f_rootOf)
    (a_doubles : PySem.W.nsIn K mainGlobals "doubles" = some (some (.ref f_doubles))) (h_doubles : FnFacts K "doubles" "doubles" sDoubles f_doubles)
    (a_notLaid : PySem.W.nsIn K mainGlobals "first_not_laid" = some (some (.ref f_notLaid))) (h_notLaid : FnFacts K "first_not_laid" "first_not_laid" sNotLaid f_notLaid)
    (a_arrows : PySem.W.nsIn K mainGlobals "arrows" = some (some (.ref f_arrows))) (h_arrows : FnFacts K "arrows" "arrows" sArrows f_arrows)
    (a_shown : PySem.W.nsIn K mainGlobals "is_shown" = some (some (.ref f_shown))) (h_shown : FnFacts K "is_shown" "is_shown" sShown f_shown)
    (a_explained : PySem.W.nsIn K mainGlobals "explained" = some (some (.ref f_explained))) (h_explained : FnFacts K "explained" "explained" sExplained f_explained)
    (a_readings : PySem.W.nsIn K mainGlobals "all_readings" = some (some (.ref f_readings))) (h_readings : FnFacts K "all_readings" "all_readings" sReadings f_readings)
    (a_flat : PySem.W.nsIn K mainGlobals "flat" = some (some (.ref f_flat))) (h_flat : FnFacts K "flat" "flat" sFlat f_flat)
    (a_rInit : PySem.W.findIn K (.ref CR) "__init__" = some (some (.ref f_rInit))) (i_rInit : PySem.W.isFn K (.ref f_rInit) = true) (h_rInit : FnFacts K "__init__" "Rods.__init__" sRInit f_rInit)
    (a_right : PySem.W.findIn K (.ref CR) "right_cell" = some (some (.ref f_right))) (i_right : PySem.W.isFn K (.ref f_right) = true) (h_right : FnFacts K "right_cell" "Rods.right_cell" sRight f_right)
    (a_cell : PySem.W.findIn K (.ref CR) "cell" = some (some (.ref f_cell))) (i_cell : PySem.W.isFn K (.ref f_cell) = true) (h_cell : FnFacts K "cell" "Rods.cell" sCell f_cell)
    (a_has : PySem.W.findIn K (.ref CR) "has_cell" = some (some (.ref f_has))) (i_has : PySem.W.isFn K (.ref f_has) = true) (h_has : FnFacts K "has_cell" "Rods.has_cell" sHas f_has)
    (a_cutCell : PySem.W.findIn K (.ref CR) "cut_cell" = some (some (.ref f_cutCell))) (i_cutCell : PySem.W.isFn K (.ref f_cutCell) = true) (h_cutCell : FnFacts K "cut_cell" "Rods.cut_cell" sCutCell f_cutCell)
    (a_laidD : PySem.W.findIn K (.ref CR) "laid_digits" = some (some (.ref f_laidD))) (i_laidD : PySem.W.isFn K (.ref f_laidD) = true) (h_laidD : FnFacts K "laid_digits" "Rods.laid_digits" sLaidD f_laidD)
    (a_rowCells : PySem.W.findIn K (.ref CR) "row_cells" = some (some (.ref f_rowCells))) (i_rowCells : PySem.W.isFn K (.ref f_rowCells) = true) (h_rowCells : FnFacts K "row_cells" "Rods.row_cells" sRowCells f_rowCells)
    (a_rowRead : PySem.W.findIn K (.ref CR) "row_read" = some (some (.ref f_rowRead))) (i_rowRead : PySem.W.isFn K (.ref f_rowRead) = true) (h_rowRead : FnFacts K "row_read" "Rods.row_read" sRowRead f_rowRead)
    (a_bInit : PySem.W.findIn K (.ref CB) "__init__" = some (some (.ref f_bInit))) (i_bInit : PySem.W.isFn K (.ref f_bInit) = true) (h_bInit : FnFacts K "__init__" "Bench.__init__" sBInit f_bInit)
    (a_beginM : PySem.W.findIn K (.ref CB) "begin" = some (some (.ref f_beginM))) (i_beginM : PySem.W.isFn K (.ref f_beginM) = true) (h_beginM : FnFacts K "begin" "Bench.begin" sBegin f_beginM)
    (a_layM : PySem.W.findIn K (.ref CB) "lay" = some (some (.ref f_layM))) (i_layM : PySem.W.isFn K (.ref f_layM) = true) (h_layM : FnFacts K "lay" "Bench.lay" sLay f_layM)
    (a_cutM : PySem.W.findIn K (.ref CB) "cut" = some (some (.ref f_cutM))) (i_cutM : PySem.W.isFn K (.ref f_cutM) = true) (h_cutM : FnFacts K "cut" "Bench.cut" sCut f_cutM)
    (a_refusal : PySem.W.findIn K (.ref CB) "refusal_of" = some (some (.ref f_refusal))) (i_refusal : PySem.W.isFn K (.ref f_refusal) = true) (h_refusal : FnFacts K "refusal_of" "Bench.refusal_of" sRefusal f_refusal)
    (a_rowM : PySem.W.findIn K (.ref CB) "row" = some (some (.ref f_rowM))) (i_rowM : PySem.W.isFn K (.ref f_rowM) = true) (h_rowM : FnFacts K "row" "Bench.row" sRow f_rowM)
    (a_byM : PySem.W.findIn K (.ref CB) "by" = some (some (.ref f_byM))) (i_byM : PySem.W.isFn K (.ref f_byM) = true) (h_byM : FnFacts K "by" "Bench.by" sBy f_byM)
    (a_intoM : PySem.W.findIn K (.ref CB) "into" = some (some (.ref f_intoM))) (i_intoM : PySem.W.isFn K (.ref f_intoM) = true) (h_intoM : FnFacts K "into" "Bench.into" sInto f_intoM)
    (a_explainM : PySem.W.findIn K (.ref CB) "explain" = some (some (.ref f_explainM))) (i_explainM : PySem.W.isFn K (.ref f_explainM) = true) (h_explainM : FnFacts K "explain" "Bench.explain" sExplain f_explainM)
    (a_about : PySem.W.findIn K (.ref CB) "about_laid" = some (some (.ref f_about))) (i_about : PySem.W.isFn K (.ref f_about) = true) (h_about : FnFacts K "about_laid" "Bench.about_laid" sAbout f_about)
    (a_rootM : PySem.W.findIn K (.ref CB) "root" = some (some (.ref f_rootM))) (i_rootM : PySem.W.isFn K (.ref f_rootM) = true) (h_rootM : FnFacts K "root" "Bench.root" sRoot f_rootM)
    (a_countM : PySem.W.findIn K (.ref CB) "count" = some (some (.ref f_countM))) (i_countM : PySem.W.isFn K (.ref f_countM) = true) (h_countM : FnFacts K "count" "Bench.count" sCount f_countM)
    (a_showM : PySem.W.findIn K (.ref CB) "show" = some (some (.ref f_showM))) (i_showM : PySem.W.isFn K (.ref f_showM) = true) (h_showM : FnFacts K "show" "Bench.show" sShow f_showM)
    (a_answerM : PySem.W.findIn K (.ref CB) "answer" = some (some (.ref f_answerM))) (i_answerM : PySem.W.isFn K (.ref f_answerM) = true) (h_answerM : FnFacts K "answer" "Bench.answer" sAnswer f_answerM)
    (gR : PySem.W.nsIn K mainGlobals "Rods" = some (some (.ref CR))) (pgR : PySem.W.plainGet K CR Str.empty = true) (hdR : PySem.W.hasDictIn K CR = true) (poR : PySem.W.plainOver K CR = true) (saR : PySem.W.findIn K (.ref CR) "__setattr__" = some (some (.builtin "object.__setattr__"))) (mkR : PySem.W.makesIn K CR = true) (kcR : PySem.W.keepIn K (.ref CR) = true)
    (gB : PySem.W.nsIn K mainGlobals "Bench" = some (some (.ref CB))) (pgB : PySem.W.plainGet K CB Str.empty = true) (hdB : PySem.W.hasDictIn K CB = true) (poB : PySem.W.plainOver K CB = true) (saB : PySem.W.findIn K (.ref CB) "__setattr__" = some (some (.builtin "object.__setattr__"))) (mkB : PySem.W.makesIn K CB = true) (kcB : PySem.W.keepIn K (.ref CB) = true)
    (nFaces : PySem.W.findIn K (.ref CR) "faces" = some none)
    (nFlaws : PySem.W.findIn K (.ref CR) "flaws" = some none)
    (nLaid : PySem.W.findIn K (.ref CR) "laid" = some none)
    (nRods : PySem.W.findIn K (.ref CB) "rods" = some none)
    (z_len : PySem.W.nsIn K mainGlobals "len" = some none)
    (z_range : PySem.W.nsIn K mainGlobals "range" = some none)
    (z_listB : PySem.W.nsIn K mainGlobals "list" = some none)
    (z_enumB : PySem.W.nsIn K mainGlobals "enumerate" = some none)
    (z_revB : PySem.W.nsIn K mainGlobals "reversed" = some none)
    (z_strB : PySem.W.nsIn K mainGlobals "str" = some none)
    (z_intB : PySem.W.nsIn K mainGlobals "int" = some none)
    (z_allB : PySem.W.nsIn K mainGlobals "all" = some none)
    (n_c_MOST_DIGIT : PySem.W.nsIn K mainGlobals "MOST_DIGIT" = some (some (.int 9 t_c_MOST_DIGIT)))
    (n_c_FACES : PySem.W.nsIn K mainGlobals "FACES" = some (some (.int 4 t_c_FACES)))
    (n_c_MOST_RODS : PySem.W.nsIn K mainGlobals "MOST_RODS" = some (some (.int 12 t_c_MOST_RODS)))
    (n_c_MOST_ROW : PySem.W.nsIn K mainGlobals "MOST_ROW" = some (some (.int 9 t_c_MOST_ROW)))
    (n_c_MOST_CELL : PySem.W.nsIn K mainGlobals "MOST_CELL" = some (some (.int 99 t_c_MOST_CELL)))
    (n_c_BITS : PySem.W.nsIn K mainGlobals "MOST_ROOT_BITS" = some (some (.int 27 t_c_BITS)))
    (n_c_BAD : PySem.W.nsIn K mainGlobals "BAD" = some (some (.int (-1) t_c_BAD)))
    (n_c_CAN_NOT : PySem.W.nsIn K mainGlobals "CAN_NOT" = some (some (.int (-3) t_c_CAN_NOT)))
    (n_c_NOT_LAID : PySem.W.nsIn K mainGlobals "NOT_LAID" = some (some (.int (-6) t_c_NOT_LAID)))
    (n_c_NOUGHT : PySem.W.nsIn K mainGlobals "READS_NOUGHT" = some (some (.int (-7) t_c_NOUGHT)))
    (n_c_SHORT : PySem.W.nsIn K mainGlobals "SHORT" = some (some (.int 8 t_c_SHORT)))
    (n_c_LONG : PySem.W.nsIn K mainGlobals "LONG" = some (some (.int 16 t_c_LONG)))
    (n_c_READ : PySem.W.nsIn K mainGlobals "READ" = some (some (.int 12 t_c_READ)))
    (n_c_COUNTED : PySem.W.nsIn K mainGlobals "MOST_COUNTED" = some (some (.int 3 t_c_COUNTED)))
    (g_wholes : PySem.W.nsIn K mainGlobals "WHOLES" = some (some (.ref w_wholes))) (l_wholes : K.lookup w_wholes = some ⟨.type "tuple", d_wholes, .seq #[.int 0 u_wholes_0, .int 0 u_wholes_1, .int 4 u_wholes_2, .int 1 u_wholes_3, .int 0 u_wholes_4, .int 0 u_wholes_5, .int 0 u_wholes_6, .int 1 u_wholes_7, .int 1 u_wholes_8, .int 1 u_wholes_9, .int 0 u_wholes_10] m_wholes, s_wholes⟩)
    (g_withRow : PySem.W.nsIn K mainGlobals "WITH_ROW" = some (some (.ref w_withRow))) (l_withRow : K.lookup w_withRow = some ⟨.type "tuple", d_withRow, .seq #[.int 0 u_withRow_0, .int 1 u_withRow_1, .int 4 u_withRow_2, .int 5 u_withRow_3, .int 6 u_withRow_4, .int 8 u_withRow_5] m_withRow, s_withRow⟩)
    (a_ans : PySem.W.nsIn K mainGlobals "answers" = some (some (.ref f_ans))) {oc : Value} {od an : Option Addr} {kV dc pm cd ct : Value} {sl : Array (Option Value)} (l_ans : K.lookup f_ans = some ⟨oc, od, .func (PySem.W.fnOf "answers" "answers" (defArgs sAnswers) (defBody sAnswers) (defScope sAnswers) .none kV dc pm an cd ct), sl⟩) (c_ans : PySem.W.codeIn K cd "answers" = true) (k_ans : PySem.W.keepIn K (.ref f_ans) = true)
    : ∃ fd : FuncData, (∀ (s : Shared) (us : List Value), us.length = (["calls"] : List Str).length → BindsTo s fd ⟨us, []⟩ ((["calls"] : List Str).zip us)) ∧ ∀ base : Heap, K.In base → base.Ns mainGlobals mg → FnOk P w K mg base CX0 19 fa fd ["calls"] (spAns K) := by
  have e := hfa.symm.trans (PySem.W.mg_of X G a_ans)
  cases e
  obtain ⟨fd_find, F_find⟩ := h_find.fn
  obtain ⟨fd_can, F_can⟩ := h_can.fn
  obtain ⟨fd_wout, F_wout⟩ := h_wout.fn
  obtain ⟨fd_first, F_first⟩ := h_first.fn
  obtain ⟨fd_free, F_free⟩ := h_free.fn
  obtain ⟨fd_laidSo, F_laidSo⟩ := h_laidSo.fn
  obtain ⟨fd_allRows, F_allRows⟩ := h_allRows.fn
  obtain ⟨fd_many, F_many⟩ := h_many.fn
  obtain ⟨fd_number, F_number⟩ := h_number.fn
  obtain ⟨fd_digits, F_digits⟩ := h_digits.fn
  obtain ⟨fd_told, F_told⟩ := h_told.fn
  obtain ⟨fd_are, F_are⟩ := h_are.fn
  obtain ⟨fd_isBox, F_isBox⟩ := h_isBox.fn
  obtain ⟨fd_product, F_product⟩ := h_product.fn
  obtain ⟨fd_greatest, F_greatest⟩ := h_greatest.fn
  obtain ⟨fd_parted, F_parted⟩ := h_parted.fn
  obtain ⟨fd_rootOf, F_rootOf⟩ := h_rootOf.fn
  obtain ⟨fd_doubles, F_doubles⟩ := h_doubles.fn
  obtain ⟨fd_notLaid, F_notLaid⟩ := h_notLaid.fn
  obtain ⟨fd_arrows, F_arrows⟩ := h_arrows.fn
  obtain ⟨fd_shown, F_shown⟩ := h_shown.fn
  obtain ⟨fd_explained, F_explained⟩ := h_explained.fn
  obtain ⟨fd_readings, F_readings⟩ := h_readings.fn
  obtain ⟨fd_flat, F_flat⟩ := h_flat.fn
  obtain ⟨fd_rInit, F_rInit⟩ := h_rInit.fn
  obtain ⟨fd_right, F_right⟩ := h_right.fn
  obtain ⟨fd_cell, F_cell⟩ := h_cell.fn
  obtain ⟨fd_has, F_has⟩ := h_has.fn
  obtain ⟨fd_cutCell, F_cutCell⟩ := h_cutCell.fn
  obtain ⟨fd_laidD, F_laidD⟩ := h_laidD.fn
  obtain ⟨fd_rowCells, F_rowCells⟩ := h_rowCells.fn
  obtain ⟨fd_rowRead, F_rowRead⟩ := h_rowRead.fn
  obtain ⟨fd_bInit, F_bInit⟩ := h_bInit.fn
  obtain ⟨fd_beginM, F_beginM⟩ := h_beginM.fn
  obtain ⟨fd_layM, F_layM⟩ := h_layM.fn
  obtain ⟨fd_cutM, F_cutM⟩ := h_cutM.fn
  obtain ⟨fd_refusal, F_refusal⟩ := h_refusal.fn
  obtain ⟨fd_rowM, F_rowM⟩ := h_rowM.fn
  obtain ⟨fd_byM, F_byM⟩ := h_byM.fn
  obtain ⟨fd_intoM, F_intoM⟩ := h_intoM.fn
  obtain ⟨fd_explainM, F_explainM⟩ := h_explainM.fn
  obtain ⟨fd_about, F_about⟩ := h_about.fn
  obtain ⟨fd_rootM, F_rootM⟩ := h_rootM.fn
  obtain ⟨fd_countM, F_countM⟩ := h_countM.fn
  obtain ⟨fd_showM, F_showM⟩ := h_showM.fn
  obtain ⟨fd_answerM, F_answerM⟩ := h_answerM.fn
  have T : Nonempty (Txt K mg) := ⟨{
    CR := CR
    CB := CB
    clR := ⟨pgR, hdR, poR, saR⟩
    mgR := PySem.W.mg_of X G gR
    mkR := ⟨mkR, a_rInit, i_rInit, kcR⟩
    clB := ⟨pgB, hdB, poB, saB⟩
    mgB := PySem.W.mg_of X G gB
    mkB := ⟨mkB, a_bInit, i_bInit, kcB⟩
    nFaces := nFaces
    nFlaws := nFlaws
    nLaid := nLaid
    nRods := nRods
    find := ⟨f_find, fd_find, F_find, F_find.binds (ps := ["faces", "free", "digits", "owners", "k", "seen"]) (fun _ _ _ _ _ _ us hl => match us, hl with | [_, _, _, _, _, _], _ => rfl), PySem.W.mg_of X G a_find⟩
    can := ⟨f_can, fd_can, F_can, F_can.binds (ps := ["faces", "free", "digits"]) (fun _ _ _ _ _ _ us hl => match us, hl with | [_, _, _], _ => rfl), PySem.W.mg_of X G a_can⟩
    wout := ⟨f_wout, fd_wout, F_wout, F_wout.binds (ps := ["free", "rod"]) (fun _ _ _ _ _ _ us hl => match us, hl with | [_, _], _ => rfl), PySem.W.mg_of X G a_wout⟩
    first := ⟨f_first, fd_first, F_first, F_first.binds (ps := ["faces", "free", "digit", "rest"]) (fun _ _ _ _ _ _ us hl => match us, hl with | [_, _, _, _], _ => rfl), PySem.W.mg_of X G a_first⟩
    free := ⟨f_free, fd_free, F_free, F_free.binds (ps := ["faces"]) (fun _ _ _ _ _ _ us hl => match us, hl with | [_], _ => rfl), PySem.W.mg_of X G a_free⟩
    laidSo := ⟨f_laidSo, fd_laidSo, F_laidSo, F_laidSo.binds (ps := ["faces", "digits"]) (fun _ _ _ _ _ _ us hl => match us, hl with | [_, _], _ => rfl), PySem.W.mg_of X G a_laidSo⟩
    allRows := ⟨f_allRows, fd_allRows, F_allRows, F_allRows.binds (ps := ["many"]) (fun _ _ _ _ _ _ us hl => match us, hl with | [_], _ => rfl), PySem.W.mg_of X G a_allRows⟩
    many := ⟨f_many, fd_many, F_many, F_many.binds (ps := ["faces", "many"]) (fun _ _ _ _ _ _ us hl => match us, hl with | [_, _], _ => rfl), PySem.W.mg_of X G a_many⟩
    number := ⟨f_number, fd_number, F_number, F_number.binds (ps := ["digits"]) (fun _ _ _ _ _ _ us hl => match us, hl with | [_], _ => rfl), PySem.W.mg_of X G a_number⟩
    digits := ⟨f_digits, fd_digits, F_digits, F_digits.binds (ps := ["number"]) (fun _ _ _ _ _ _ us hl => match us, hl with | [_], _ => rfl), PySem.W.mg_of X G a_digits⟩
    told := ⟨f_told, fd_told, F_told, F_told.binds (ps := ["number"]) (fun _ _ _ _ _ _ us hl => match us, hl with | [_], _ => rfl), PySem.W.mg_of X G a_told⟩
    are := ⟨f_are, fd_are, F_are, F_are.binds (ps := ["numbers", "most"]) (fun _ _ _ _ _ _ us hl => match us, hl with | [_, _], _ => rfl), PySem.W.mg_of X G a_are⟩
    isBox := ⟨f_isBox, fd_isBox, F_isBox, F_isBox.binds (ps := ["digits"]) (fun _ _ _ _ _ _ us hl => match us, hl with | [_], _ => rfl), PySem.W.mg_of X G a_isBox⟩
    product := ⟨f_product, fd_product, F_product, F_product.binds (ps := ["rods", "digits"]) (fun _ _ _ _ _ _ us hl => match us, hl with | [_, _], _ => rfl), PySem.W.mg_of X G a_product⟩
    greatest := ⟨f_greatest, fd_greatest, F_greatest, F_greatest.binds (ps := ["readings", "left"]) (fun _ _ _ _ _ _ us hl => match us, hl with | [_, _], _ => rfl), PySem.W.mg_of X G a_greatest⟩
    parted := ⟨f_parted, fd_parted, F_parted, F_parted.binds (ps := ["readings", "digits"]) (fun _ _ _ _ _ _ us hl => match us, hl with | [_, _], _ => rfl), PySem.W.mg_of X G a_parted⟩
    rootOf := ⟨f_rootOf, fd_rootOf, F_rootOf, F_rootOf.binds (ps := ["number"]) (fun _ _ _ _ _ _ us hl => match us, hl with | [_], _ => rfl), PySem.W.mg_of X G a_rootOf⟩
    doubles := ⟨f_doubles, fd_doubles, F_doubles, F_doubles.binds (ps := ["number"]) (fun _ _ _ _ _ _ us hl => match us, hl with | [_], _ => rfl), PySem.W.mg_of X G a_doubles⟩
    notLaid := ⟨f_notLaid, fd_notLaid, F_notLaid, F_notLaid.binds (ps := ["rods", "number"]) (fun _ _ _ _ _ _ us hl => match us, hl with | [_, _], _ => rfl), PySem.W.mg_of X G a_notLaid⟩
    arrows := ⟨f_arrows, fd_arrows, F_arrows, F_arrows.binds (ps := ["digits", "k"]) (fun _ _ _ _ _ _ us hl => match us, hl with | [_, _], _ => rfl), PySem.W.mg_of X G a_arrows⟩
    shown := ⟨f_shown, fd_shown, F_shown, F_shown.binds (ps := ["right", "other", "off", "worth"]) (fun _ _ _ _ _ _ us hl => match us, hl with | [_, _, _, _], _ => rfl), PySem.W.mg_of X G a_shown⟩
    explained := ⟨f_explained, fd_explained, F_explained, F_explained.binds (ps := ["rods", "k", "number"]) (fun _ _ _ _ _ _ us hl => match us, hl with | [_, _, _], _ => rfl), PySem.W.mg_of X G a_explained⟩
    readings := ⟨f_readings, fd_readings, F_readings, F_readings.binds (ps := ["rods"]) (fun _ _ _ _ _ _ us hl => match us, hl with | [_], _ => rfl), PySem.W.mg_of X G a_readings⟩
    flat := ⟨f_flat, fd_flat, F_flat, F_flat.binds (ps := ["rows"]) (fun _ _ _ _ _ _ us hl => match us, hl with | [_], _ => rfl), PySem.W.mg_of X G a_flat⟩
    rInit := ⟨f_rInit, fd_rInit, F_rInit, F_rInit.binds (ps := ["self", "digits"]) (fun _ _ _ _ _ _ us hl => match us, hl with | [_, _], _ => rfl), ⟨a_rInit, i_rInit, F_rInit.kp⟩⟩
    right := ⟨f_right, fd_right, F_right, F_right.binds (ps := ["self", "rod", "face", "k"]) (fun _ _ _ _ _ _ us hl => match us, hl with | [_, _, _, _], _ => rfl), ⟨a_right, i_right, F_right.kp⟩⟩
    cell := ⟨f_cell, fd_cell, F_cell, F_cell.binds (ps := ["self", "rod", "face", "k"]) (fun _ _ _ _ _ _ us hl => match us, hl with | [_, _, _, _], _ => rfl), ⟨a_cell, i_cell, F_cell.kp⟩⟩
    has := ⟨f_has, fd_has, F_has, F_has.binds (ps := ["self", "rod", "face", "k"]) (fun _ _ _ _ _ _ us hl => match us, hl with | [_, _, _, _], _ => rfl), ⟨a_has, i_has, F_has.kp⟩⟩
    cutCell := ⟨f_cutCell, fd_cutCell, F_cutCell, F_cutCell.binds (ps := ["self", "rod", "face", "k", "number"]) (fun _ _ _ _ _ _ us hl => match us, hl with | [_, _, _, _, _], _ => rfl), ⟨a_cutCell, i_cutCell, F_cutCell.kp⟩⟩
    laidD := ⟨f_laidD, fd_laidD, F_laidD, F_laidD.binds (ps := ["self"]) (fun _ _ _ _ _ _ us hl => match us, hl with | [_], _ => rfl), ⟨a_laidD, i_laidD, F_laidD.kp⟩⟩
    rowCells := ⟨f_rowCells, fd_rowCells, F_rowCells, F_rowCells.binds (ps := ["self", "k"]) (fun _ _ _ _ _ _ us hl => match us, hl with | [_, _], _ => rfl), ⟨a_rowCells, i_rowCells, F_rowCells.kp⟩⟩
    rowRead := ⟨f_rowRead, fd_rowRead, F_rowRead, F_rowRead.binds (ps := ["self", "k"]) (fun _ _ _ _ _ _ us hl => match us, hl with | [_, _], _ => rfl), ⟨a_rowRead, i_rowRead, F_rowRead.kp⟩⟩
    bInit := ⟨f_bInit, fd_bInit, F_bInit, F_bInit.binds (ps := ["self"]) (fun _ _ _ _ _ _ us hl => match us, hl with | [_], _ => rfl), ⟨a_bInit, i_bInit, F_bInit.kp⟩⟩
    beginM := ⟨f_beginM, fd_beginM, F_beginM, F_beginM.binds (ps := ["self", "faces"]) (fun _ _ _ _ _ _ us hl => match us, hl with | [_, _], _ => rfl), ⟨a_beginM, i_beginM, F_beginM.kp⟩⟩
    layM := ⟨f_layM, fd_layM, F_layM, F_layM.binds (ps := ["self", "digits"]) (fun _ _ _ _ _ _ us hl => match us, hl with | [_, _], _ => rfl), ⟨a_layM, i_layM, F_layM.kp⟩⟩
    cutM := ⟨f_cutM, fd_cutM, F_cutM, F_cutM.binds (ps := ["self", "r", "f", "k", "v"]) (fun _ _ _ _ _ _ us hl => match us, hl with | [_, _, _, _, _], _ => rfl), ⟨a_cutM, i_cutM, F_cutM.kp⟩⟩
    refusal := ⟨f_refusal, fd_refusal, F_refusal, F_refusal.binds (ps := ["self", "is_right"]) (fun _ _ _ _ _ _ us hl => match us, hl with | [_, _], _ => rfl), ⟨a_refusal, i_refusal, F_refusal.kp⟩⟩
    rowM := ⟨f_rowM, fd_rowM, F_rowM, F_rowM.binds (ps := ["self", "k"]) (fun _ _ _ _ _ _ us hl => match us, hl with | [_, _], _ => rfl), ⟨a_rowM, i_rowM, F_rowM.kp⟩⟩
    byM := ⟨f_byM, fd_byM, F_byM, F_byM.binds (ps := ["self", "digits"]) (fun _ _ _ _ _ _ us hl => match us, hl with | [_, _], _ => rfl), ⟨a_byM, i_byM, F_byM.kp⟩⟩
    intoM := ⟨f_intoM, fd_intoM, F_intoM, F_intoM.binds (ps := ["self", "digits"]) (fun _ _ _ _ _ _ us hl => match us, hl with | [_, _], _ => rfl), ⟨a_intoM, i_intoM, F_intoM.kp⟩⟩
    explainM := ⟨f_explainM, fd_explainM, F_explainM, F_explainM.binds (ps := ["self", "k", "digits"]) (fun _ _ _ _ _ _ us hl => match us, hl with | [_, _, _], _ => rfl), ⟨a_explainM, i_explainM, F_explainM.kp⟩⟩
    about := ⟨f_about, fd_about, F_about, F_about.binds (ps := ["self", "call", "n", "row"]) (fun _ _ _ _ _ _ us hl => match us, hl with | [_, _, _, _], _ => rfl), ⟨a_about, i_about, F_about.kp⟩⟩
    rootM := ⟨f_rootM, fd_rootM, F_rootM, F_rootM.binds (ps := ["self", "digits"]) (fun _ _ _ _ _ _ us hl => match us, hl with | [_, _], _ => rfl), ⟨a_rootM, i_rootM, F_rootM.kp⟩⟩
    countM := ⟨f_countM, fd_countM, F_countM, F_countM.binds (ps := ["self", "n"]) (fun _ _ _ _ _ _ us hl => match us, hl with | [_, _], _ => rfl), ⟨a_countM, i_countM, F_countM.kp⟩⟩
    showM := ⟨f_showM, fd_showM, F_showM, F_showM.binds (ps := ["self"]) (fun _ _ _ _ _ _ us hl => match us, hl with | [_], _ => rfl), ⟨a_showM, i_showM, F_showM.kp⟩⟩
    answerM := ⟨f_answerM, fd_answerM, F_answerM, F_answerM.binds (ps := ["self", "call", "n", "row"]) (fun _ _ _ _ _ _ us hl => match us, hl with | [_, _, _, _], _ => rfl), ⟨a_answerM, i_answerM, F_answerM.kp⟩⟩
    len := PySem.W.mg_none_of X G z_len
    range := PySem.W.mg_none_of X G z_range
    listB := PySem.W.mg_none_of X G z_listB
    enumB := PySem.W.mg_none_of X G z_enumB
    revB := PySem.W.mg_none_of X G z_revB
    strB := PySem.W.mg_none_of X G z_strB
    intB := PySem.W.mg_none_of X G z_intB
    allB := PySem.W.mg_none_of X G z_allB
    c_MOST_DIGIT := ⟨_, PySem.W.mg_of X G n_c_MOST_DIGIT⟩
    c_FACES := ⟨_, PySem.W.mg_of X G n_c_FACES⟩
    c_MOST_RODS := ⟨_, PySem.W.mg_of X G n_c_MOST_RODS⟩
    c_MOST_ROW := ⟨_, PySem.W.mg_of X G n_c_MOST_ROW⟩
    c_MOST_CELL := ⟨_, PySem.W.mg_of X G n_c_MOST_CELL⟩
    c_BITS := ⟨_, PySem.W.mg_of X G n_c_BITS⟩
    c_BAD := ⟨_, PySem.W.mg_of X G n_c_BAD⟩
    c_CAN_NOT := ⟨_, PySem.W.mg_of X G n_c_CAN_NOT⟩
    c_NOT_LAID := ⟨_, PySem.W.mg_of X G n_c_NOT_LAID⟩
    c_NOUGHT := ⟨_, PySem.W.mg_of X G n_c_NOUGHT⟩
    c_SHORT := ⟨_, PySem.W.mg_of X G n_c_SHORT⟩
    c_LONG := ⟨_, PySem.W.mg_of X G n_c_LONG⟩
    c_READ := ⟨_, PySem.W.mg_of X G n_c_READ⟩
    c_COUNTED := ⟨_, PySem.W.mg_of X G n_c_COUNTED⟩
    wholes := ⟨w_wholes, PySem.W.mg_of X G g_wholes, fun H => .inr ⟨_, _, _, l_wholes, rfl, rfl, (by show 11 ≤ sizeLine; decide), .cons ⟨_, rfl⟩ (.cons ⟨_, rfl⟩ (.cons ⟨_, rfl⟩ (.cons ⟨_, rfl⟩ (.cons ⟨_, rfl⟩ (.cons ⟨_, rfl⟩ (.cons ⟨_, rfl⟩ (.cons ⟨_, rfl⟩ (.cons ⟨_, rfl⟩ (.cons ⟨_, rfl⟩ (.cons ⟨_, rfl⟩ (.nil)))))))))))⟩⟩
    withRow := ⟨w_withRow, PySem.W.mg_of X G g_withRow, fun H => .inr ⟨_, _, _, l_withRow, rfl, rfl, (by show 6 ≤ sizeLine; decide), .cons ⟨_, rfl⟩ (.cons ⟨_, rfl⟩ (.cons ⟨_, rfl⟩ (.cons ⟨_, rfl⟩ (.cons ⟨_, rfl⟩ (.cons ⟨_, rfl⟩ (.nil))))))⟩⟩
  }⟩
  obtain ⟨T⟩ := T
  exact ⟨PySem.W.fnOf "answers" "answers" (defArgs sAnswers) (defBody sAnswers) (defScope sAnswers) .none kV dc pm an cd ct, fun s us hu => match us, hu with | [_], _ => .of_eq rfl, fun base _ _ => ok_answers T (fun_mk (st := sAnswers) l_ans c_ans k_ans)⟩
end LR
open PySem PySem.W PyProof.Rows
set_option maxRecDepth 100000 in
set_option maxHeartbeats 0 in
theorem PySem.Challenge.cw_lairdrods_s01_answers_holds : PySem.Challenge.rw_lairdrods_s01_answers.Holds := by
  w_on; k_headS; (case hw => exact ⟨[.list [.int 10]], by decide +kernel, by decide +kernel⟩)
  k_fillS
  refine L2.walk_specK (r := PySem.Challenge.rw_lairdrods_s01_answers) (k := 19) (CX := L2.CX0) (ps := ["calls"]) (sp := LR.spAns) (by decide +kernel) rfl rfl ⟨rfl, by decide, by decide⟩ (fun w h Y => PySem.W.kIn_of Y) ?F ?S (fun _ _ _ _ z => z)
  case F =>
    intro w mg fa h Y KX G hmg
    refine' LR.all_mk KX G hmg ?a_find (LR.FnFacts.mk' ?l_find ?c_find ?k_find) ?a_can (LR.FnFacts.mk' ?l_can ?c_can ?k_can) ?a_wout (LR.FnFacts.mk' ?l_wout ?c_wout ?k_wout) ?a_first (LR.FnFacts.mk' ?l_first ?c_first ?k_first) ?a_free (LR.FnFacts.mk' ?l_free ?c_free ?k_free) ?a_laidSo (LR.FnFacts.mk' ?l_laidSo ?c_laidSo ?k_laidSo) ?a_allRows (LR.FnFacts.mk' ?l_allRows ?c_allRows ?k_allRows) ?a_many (LR.FnFacts.mk' ?l_many ?c_many ?k_many) ?a_number (LR.FnFacts.mk' ?l_number ?c_number ?k_number) ?a_digits (LR.FnFacts.mk' ?l_digits ?c_digits ?k_digits) ?a_told (LR.FnFacts.mk' ?l_told ?c_told ?k_told) ?a_are (LR.FnFacts.mk' ?l_are ?c_are ?k_are) ?a_isBox (LR.FnFacts.mk' ?l_isBox ?c_isBox ?k_isBox) ?a_product (LR.FnFacts.mk' ?l_product ?c_product ?k_product) ?a_greatest (LR.FnFacts.mk' ?l_greatest ?c_greatest ?k_greatest) ?a_parted (LR.FnFacts.mk' ?l_parted ?c_parted ?k_parted) ?a_rootOf (LR.FnFacts.mk' ?l_rootOf ?c_rootOf ?k_rootOf) ?a_doubles (LR.FnFacts.mk' ?l_doubles ?c_doubles ?k_doubles) ?a_notLaid (LR.FnFacts.mk' ?l_notLaid ?c_notLaid ?k_notLaid) ?a_arrows (LR.FnFacts.mk' ?l_arrows ?c_arrows ?k_arrows) ?a_shown (LR.FnFacts.mk' ?l_shown ?c_shown ?k_shown) ?a_explained (LR.FnFacts.mk' ?l_explained ?c_explained ?k_explained) ?a_readings (LR.FnFacts.mk' ?l_readings ?c_readings ?k_readings) ?a_flat (LR.FnFacts.mk' ?l_flat ?c_flat ?k_flat) ?a_rInit ?i_rInit (LR.FnFacts.mk' ?l_rInit ?c_rInit ?k_rInit) ?a_right ?i_right (LR.FnFacts.mk' ?l_right ?c_right ?k_right) ?a_cell ?i_cell (LR.FnFacts.mk' ?l_cell ?c_cell ?k_cell) ?a_has ?i_has (LR.FnFacts.mk' ?l_has ?c_has ?k_has) ?a_cutCell ?i_cutCell (LR.FnFacts.mk' ?l_cutCell ?c_cutCell ?k_cutCell) ?a_laidD ?i_laidD (LR.FnFacts.mk' ?l_laidD ?c_laidD ?k_laidD) ?a_rowCells ?i_rowCells (LR.FnFacts.mk' ?l_rowCells ?c_rowCells ?k_rowCells) ?a_rowRead ?i_rowRead (LR.FnFacts.mk' ?l_rowRead ?c_rowRead ?k_rowRead) ?a_bInit ?i_bInit (LR.FnFacts.mk' ?l_bInit ?c_bInit ?k_bInit) ?a_beginM ?i_beginM (LR.FnFacts.mk' ?l_beginM ?c_beginM ?k_beginM) ?a_layM ?i_layM (LR.FnFacts.mk' ?l_layM ?c_layM ?k_layM) ?a_cutM ?i_cutM (LR.FnFacts.mk' ?l_cutM ?c_cutM ?k_cutM) ?a_refusal ?i_refusal (LR.FnFacts.mk' ?l_refusal ?c_refusal ?k_refusal) ?a_rowM ?i_rowM (LR.FnFacts.mk' ?l_rowM ?c_rowM ?k_rowM) ?a_byM ?i_byM (LR.FnFacts.mk' ?l_byM ?c_byM ?k_byM) ?a_intoM ?i_intoM (LR.FnFacts.mk' ?l_intoM ?c_intoM ?k_intoM) ?a_explainM ?i_explainM (LR.FnFacts.mk' ?l_explainM ?c_explainM ?k_explainM) ?a_about ?i_about (LR.FnFacts.mk' ?l_about ?c_about ?k_about) ?a_rootM ?i_rootM (LR.FnFacts.mk' ?l_rootM ?c_rootM ?k_rootM) ?a_countM ?i_countM (LR.FnFacts.mk' ?l_countM ?c_countM ?k_countM) ?a_showM ?i_showM (LR.FnFacts.mk' ?l_showM ?c_showM ?k_showM) ?a_answerM ?i_answerM (LR.FnFacts.mk' ?l_answerM ?c_answerM ?k_answerM) ?gR ?pgR ?hdR ?poR ?saR ?mkR ?kcR ?gB ?pgB ?hdB ?poB ?saB ?mkB ?kcB ?nFaces ?nFlaws ?nLaid ?nRods ?z_len ?z_range ?z_listB ?z_enumB ?z_revB ?z_strB ?z_intB ?z_allB ?n_c_MOST_DIGIT ?n_c_FACES ?n_c_MOST_RODS ?n_c_MOST_ROW ?n_c_MOST_CELL ?n_c_BITS ?n_c_BAD ?n_c_CAN_NOT ?n_c_NOT_LAID ?n_c_NOUGHT ?n_c_SHORT ?n_c_LONG ?n_c_READ ?n_c_COUNTED ?g_wholes ?l_wholes ?g_withRow ?l_withRow ?a_ans ?l_ans ?c_ans ?k_ans
    (case gR => k_is); (case gB => k_is); (case a_find => k_is); (case l_find => k_is); (case c_find => k_is); (case k_find => k_is)
    (case a_can => k_is); (case l_can => k_is); (case c_can => k_is); (case k_can => k_is); (case a_wout => k_is); (case l_wout => k_is)
    (case c_wout => k_is); (case k_wout => k_is); (case a_first => k_is); (case l_first => k_is); (case c_first => k_is); (case k_first => k_is)
    (case a_free => k_is); (case l_free => k_is); (case c_free => k_is); (case k_free => k_is); (case a_laidSo => k_is); (case l_laidSo => k_is)
    (case c_laidSo => k_is); (case k_laidSo => k_is); (case a_allRows => k_is); (case l_allRows => k_is); (case c_allRows => k_is); (case k_allRows => k_is)
    (case a_many => k_is); (case l_many => k_is); (case c_many => k_is); (case k_many => k_is); (case a_number => k_is); (case l_number => k_is)
    (case c_number => k_is); (case k_number => k_is); (case a_digits => k_is); (case l_digits => k_is); (case c_digits => k_is); (case k_digits => k_is)
    (case a_told => k_is); (case l_told => k_is); (case c_told => k_is); (case k_told => k_is); (case a_are => k_is); (case l_are => k_is)
    (case c_are => k_is); (case k_are => k_is); (case a_isBox => k_is); (case l_isBox => k_is); (case c_isBox => k_is); (case k_isBox => k_is)
    (case a_product => k_is); (case l_product => k_is); (case c_product => k_is); (case k_product => k_is); (case a_greatest => k_is); (case l_greatest => k_is)
    (case c_greatest => k_is); (case k_greatest => k_is); (case a_parted => k_is); (case l_parted => k_is); (case c_parted => k_is); (case k_parted => k_is)
    (case a_rootOf => k_is); (case l_rootOf => k_is); (case c_rootOf => k_is); (case k_rootOf => k_is); (case a_doubles => k_is); (case l_doubles => k_is)
    (case c_doubles => k_is); (case k_doubles => k_is); (case a_notLaid => k_is); (case l_notLaid => k_is); (case c_notLaid => k_is); (case k_notLaid => k_is)
    (case a_arrows => k_is); (case l_arrows => k_is); (case c_arrows => k_is); (case k_arrows => k_is); (case a_shown => k_is); (case l_shown => k_is)
    (case c_shown => k_is); (case k_shown => k_is); (case a_explained => k_is); (case l_explained => k_is); (case c_explained => k_is); (case k_explained => k_is)
    (case a_readings => k_is); (case l_readings => k_is); (case c_readings => k_is); (case k_readings => k_is); (case a_flat => k_is); (case l_flat => k_is)
    (case c_flat => k_is); (case k_flat => k_is); (case a_rInit => k_is); (case i_rInit => k_is); (case l_rInit => k_is); (case c_rInit => k_is)
    (case k_rInit => k_is); (case a_right => k_is); (case i_right => k_is); (case l_right => k_is); (case c_right => k_is); (case k_right => k_is)
    (case a_cell => k_is); (case i_cell => k_is); (case l_cell => k_is); (case c_cell => k_is); (case k_cell => k_is); (case a_has => k_is)
    (case i_has => k_is); (case l_has => k_is); (case c_has => k_is); (case k_has => k_is); (case a_cutCell => k_is); (case i_cutCell => k_is)
    (case l_cutCell => k_is); (case c_cutCell => k_is); (case k_cutCell => k_is); (case a_laidD => k_is); (case i_laidD => k_is); (case l_laidD => k_is)
    (case c_laidD => k_is); (case k_laidD => k_is); (case a_rowCells => k_is); (case i_rowCells => k_is); (case l_rowCells => k_is); (case c_rowCells => k_is)
    (case k_rowCells => k_is); (case a_rowRead => k_is); (case i_rowRead => k_is); (case l_rowRead => k_is); (case c_rowRead => k_is); (case k_rowRead => k_is)
    (case a_bInit => k_is); (case i_bInit => k_is); (case l_bInit => k_is); (case c_bInit => k_is); (case k_bInit => k_is); (case a_beginM => k_is)
    (case i_beginM => k_is); (case l_beginM => k_is); (case c_beginM => k_is); (case k_beginM => k_is); (case a_layM => k_is); (case i_layM => k_is)
    (case l_layM => k_is); (case c_layM => k_is); (case k_layM => k_is); (case a_cutM => k_is); (case i_cutM => k_is); (case l_cutM => k_is)
    (case c_cutM => k_is); (case k_cutM => k_is); (case a_refusal => k_is); (case i_refusal => k_is); (case l_refusal => k_is); (case c_refusal => k_is)
    (case k_refusal => k_is); (case a_rowM => k_is); (case i_rowM => k_is); (case l_rowM => k_is); (case c_rowM => k_is); (case k_rowM => k_is)
    (case a_byM => k_is); (case i_byM => k_is); (case l_byM => k_is); (case c_byM => k_is); (case k_byM => k_is); (case a_intoM => k_is)
    (case i_intoM => k_is); (case l_intoM => k_is); (case c_intoM => k_is); (case k_intoM => k_is); (case a_explainM => k_is); (case i_explainM => k_is)
    (case l_explainM => k_is); (case c_explainM => k_is); (case k_explainM => k_is); (case a_about => k_is); (case i_about => k_is); (case l_about => k_is)
    (case c_about => k_is); (case k_about => k_is); (case a_rootM => k_is); (case i_rootM => k_is); (case l_rootM => k_is); (case c_rootM => k_is)
    (case k_rootM => k_is); (case a_countM => k_is); (case i_countM => k_is); (case l_countM => k_is); (case c_countM => k_is); (case k_countM => k_is)
    (case a_showM => k_is); (case i_showM => k_is); (case l_showM => k_is); (case c_showM => k_is); (case k_showM => k_is); (case a_answerM => k_is)
    (case i_answerM => k_is); (case l_answerM => k_is); (case c_answerM => k_is); (case k_answerM => k_is); (case pgR => k_is); (case hdR => k_is)
    (case poR => k_is); (case saR => k_is); (case mkR => k_is); (case kcR => k_is); (case pgB => k_is); (case hdB => k_is)
    (case poB => k_is); (case saB => k_is); (case mkB => k_is); (case kcB => k_is); (case nFaces => k_is); (case nFlaws => k_is)
    (case nLaid => k_is); (case nRods => k_is); (case z_len => k_is); (case z_range => k_is); (case z_listB => k_is); (case z_enumB => k_is)
    (case z_revB => k_is); (case z_strB => k_is); (case z_intB => k_is); (case z_allB => k_is); (case n_c_MOST_DIGIT => k_is); (case n_c_FACES => k_is)
    (case n_c_MOST_RODS => k_is); (case n_c_MOST_ROW => k_is); (case n_c_MOST_CELL => k_is); (case n_c_BITS => k_is); (case n_c_BAD => k_is); (case n_c_CAN_NOT => k_is)
    (case n_c_NOT_LAID => k_is); (case n_c_NOUGHT => k_is); (case n_c_SHORT => k_is); (case n_c_LONG => k_is); (case n_c_READ => k_is); (case n_c_COUNTED => k_is)
    (case g_wholes => k_is); (case l_wholes => k_is); (case g_withRow => k_is); (case l_withRow => k_is); (case a_ans => k_is); (case l_ans => k_is)
    (case c_ans => k_is); (case k_ans => k_is)
  case S =>
    intro K H xs a hO hwi hask hx
    cases hx with
    | cons h1 h2 =>
      cases h2
      cases h1 with
      | lst hs ha =>
        have e := L2.ints_dw a.1 _ ha
        subst e
        have q : ((Codec.inLen 0 4000 a.1 && a.1.all (Codec.inInt 0 200)) && true) = true := hwi
        rw [Bool.and_eq_true, Bool.and_eq_true] at q
        exact ⟨_, a.1, rfl, hs, (Codec.inNat_iff.mp q.1.1).2, fun x hx => (Codec.inInt_iff.mp (List.all_eq_true.mp q.1.2 x hx)).1, hask, fun H' p hp => .lst (L2.SqL.of hp) (L2.dw_ints _)⟩
#print axioms PySem.Challenge.cw_lairdrods_s01_answers_holds

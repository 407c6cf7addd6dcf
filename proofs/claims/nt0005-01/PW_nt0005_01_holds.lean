import PyProof.Rows.All
import Wide.All
import OpenK.AllK
import Wide.FinOn
import PySem.Challenge.RW_nt0005_01
set_option Elab.async false
set_option linter.all false
local macro_rules | `(tactic| omega) => `(tactic| lia)

namespace Mine
noncomputable def leadOf (b : Nat) : Option (Nat × Nat × Nat) :=
  if b < 128 then some (1, 0, 0)
  else if 194 ≤ b ∧ b ≤ 223 then some (2, 128, 191)
  else if 224 ≤ b ∧ b ≤ 239 then some (3, if b = 224 then 160 else 128, if b = 237 then 159 else 191)
  else if 240 ≤ b ∧ b ≤ 244 then some (4, if b = 240 then 144 else 128, if b = 244 then 143 else 191)
  else none
/-- the trail: how many are still due, how many were taken, the number so far, the next one's bounds -/
noncomputable def scan : Nat → Nat → Nat → Nat → Nat → List Nat → Nat × Option Nat × Nat
  | 0, k, c, _, _, _ => (k, some c, 0)
  | _ + 1, k, _, _, _, [] => (k, none, 4)
  | n + 1, k, c, lo, hi, o :: r => if lo ≤ o ∧ o ≤ hi then scan n (k + 1) (c * 64 + o % 64) 128 191 r else (k, none, 3)
noncomputable def piece : List Nat → Nat × Option Nat × Nat
  | [] => (1, none, 0)
  | b :: r => match leadOf b with
    | none => (1, none, if b < 192 then 1 else 2)
    | some (m, lo, hi) => if m = 1 then (1, some b, 0) else scan (m - 1) 1 (b % 2 ^ (7 - m)) lo hi r
noncomputable def enc (c : Nat) : List Nat :=
  if c < 128 then [c]
  else if c < 2048 then [192 + c / 64, 128 + c % 64]
  else if c < 65536 then [224 + c / 4096, 128 + c / 64 % 64, 128 + c % 64]
  else [240 + c / 262144, 128 + c / 4096 % 64, 128 + c / 64 % 64, 128 + c % 64]
noncomputable def isScalar (c : Nat) : Bool := decide (c < 55296) || (decide (57343 < c) && decide (c ≤ 1114111))
end Mine

namespace Mine
theorem scan_bounds : ∀ (n k c lo hi : Nat) (r : List Nat), k ≤ (scan n k c lo hi r).1 ∧ (scan n k c lo hi r).1 ≤ k + r.length ∧ (scan n k c lo hi r).1 ≤ k + n
  | 0, k, c, lo, hi, r => by simp [scan]
  | n + 1, k, c, lo, hi, [] => by simp [scan]
  | n + 1, k, c, lo, hi, o :: r => by
    rw [scan]
    split
    · have := scan_bounds n (k + 1) (c * 64 + o % 64) 128 191 r
      simp only [List.length_cons]; omega
    · simp
theorem piece_bounds (b : Nat) (r : List Nat) : 1 ≤ (piece (b :: r)).1 ∧ (piece (b :: r)).1 ≤ r.length + 1 ∧ (piece (b :: r)).1 ≤ 4 := by
  rw [piece]
  split
  · simp
  · rename_i m lo hi h
    split
    · simp
    · have := scan_bounds (m - 1) 1 (b % 2 ^ (7 - m)) lo hi r
      have hm : m ≤ 4 := by
        unfold leadOf at h
        repeat' split at h
        all_goals first | (simp at h; omega) | cases h
      omega
theorem piece_pos {l : List Nat} (h : l ≠ []) : 1 ≤ (piece l).1 := by
  cases l with
  | nil => exact absurd rfl h
  | cons b r => exact (piece_bounds b r).1
theorem piece_le {l : List Nat} (h : l ≠ []) : (piece l).1 ≤ l.length := by
  cases l with
  | nil => exact absurd rfl h
  | cons b r => exact (piece_bounds b r).2.1

/-- the pieces of a row of octets, each with its number -/
noncomputable def pcsF : Nat → List Nat → List (List Nat × Option Nat)
  | 0, _ => []
  | _ + 1, [] => []
  | f + 1, b :: r => ((b :: r).take (piece (b :: r)).1, (piece (b :: r)).2.1) :: pcsF f ((b :: r).drop (piece (b :: r)).1)
theorem pcsF_more : ∀ (f g : Nat) (l : List Nat), l.length ≤ f → l.length ≤ g → pcsF f l = pcsF g l
  | 0, 0, _, _, _ => rfl
  | 0, g + 1, l, h, _ => by
    have : l = [] := List.eq_nil_of_length_eq_zero (by omega)
    subst this; rfl
  | f + 1, 0, l, _, h => by
    have : l = [] := List.eq_nil_of_length_eq_zero (by omega)
    subst this; rfl
  | f + 1, g + 1, [], _, _ => rfl
  | f + 1, g + 1, b :: r, hf, hg => by
    have := piece_bounds b r
    simp only [pcsF]
    rw [pcsF_more f g _ (by simp at hf ⊢; omega) (by simp at hg ⊢; omega)]
noncomputable def pcs (l : List Nat) : List (List Nat × Option Nat) := pcsF l.length l
theorem pcs_nil : pcs [] = [] := rfl
theorem pcs_cons {l : List Nat} (h : l ≠ []) : pcs l = (l.take (piece l).1, (piece l).2.1) :: pcs (l.drop (piece l).1) := by
  cases l with
  | nil => exact absurd rfl h
  | cons b r =>
    have := piece_bounds b r
    unfold pcs
    simp only [List.length_cons, pcsF]
    rw [pcsF_more r.length ((b :: r).drop (piece (b :: r)).1).length _ (by simp; omega) (Nat.le_refl _)]
/-- what decode_utf8_replaced tells -/
noncomputable def repl (l : List Nat) : List Nat := (pcs l).map fun p => p.2.getD 65533
theorem repl_nil : repl [] = [] := rfl
theorem repl_cons {l : List Nat} (h : l ≠ []) : repl l = (piece l).2.1.getD 65533 :: repl (l.drop (piece l).1) := by
  unfold repl; rw [pcs_cons h]; rfl
noncomputable def okAll (l : List Nat) : Bool := (pcs l).all fun p => p.2.isSome
theorem okAll_cons {l : List Nat} (h : l ≠ []) : okAll l = ((piece l).2.1.isSome && okAll (l.drop (piece l).1)) := by
  unfold okAll; rw [pcs_cons h]; rfl
/-- where the first ill piece begins -/
noncomputable def illF : Nat → List (List Nat × Option Nat) → Option Nat
  | _, [] => none
  | a, (_, none) :: _ => some a
  | a, (p, some _) :: r => illF (a + p.length) r
noncomputable def illAt (l : List Nat) : Option Nat := illF 0 (pcs l)
/-- where the pieces begin -/
noncomputable def startsF : Nat → List (List Nat × Option Nat) → List Nat
  | _, [] => []
  | a, (p, _) :: r => a :: startsF (a + p.length) r
noncomputable def starts (l : List Nat) : List Nat := startsF 0 (pcs l)
/-- back over trail octets, to the third at most -/
noncomputable def backWalk (bs : List Nat) (i : Nat) : Nat → Nat
  | 0 => 0
  | h + 1 => if i - (h + 1) < 4 ∧ 128 ≤ bs.getD (h + 1) 0 ∧ bs.getD (h + 1) 0 < 192 then backWalk bs i h else h + 1
noncomputable def back (bs : List Nat) (i : Nat) : Nat :=
  if backWalk bs i (i - 1) + (piece ((bs.take i).drop (backWalk bs i (i - 1)))).1 = i then backWalk bs i (i - 1) else i - 1
theorem repl_length_le : ∀ (l : List Nat), (repl l).length ≤ l.length := by
  have : ∀ n (l : List Nat), l.length ≤ n → (repl l).length ≤ l.length := by
    intro n
    induction n with
    | zero => intro l h; have : l = [] := List.eq_nil_of_length_eq_zero (by omega); subst this; simp [repl_nil]
    | succ n ih =>
      intro l h
      by_cases hl : l = []
      · subst hl; simp [repl_nil]
      · have h1 := piece_pos hl
        have h2 := piece_le hl
        rw [repl_cons hl]
        have := ih (l.drop (piece l).1) (by simp; omega)
        simp at this ⊢; omega
  exact fun l => this _ l (Nat.le_refl _)
theorem pcs_length_le (l : List Nat) : (pcs l).length ≤ l.length := by
  have := repl_length_le l
  unfold repl at this
  simpa using this
end Mine

namespace Mine
noncomputable def manyOf (lead : Nat) : Nat := if 240 ≤ lead ∧ lead < 248 then 4 else if 224 ≤ lead ∧ lead < 240 then 3 else if 192 ≤ lead ∧ lead < 224 then 2 else 0
/-- the numbers that a begun part may still become: j octets behind the lead are taken, missing ones as m -/
noncomputable def runI (m : Int) (p : List Nat) (a : Int) : Nat → Int
  | 0 => a
  | j + 1 => 64 * runI m p a j + (if j + 1 < p.length then (p.getD (j + 1) 0 : Int) - 128 else m)
noncomputable def someOf : Nat → List (Int × Int)
  | 2 => [(128, 2047)]
  | 3 => [(2048, 55295), (57344, 65535)]
  | 4 => [(65536, 1114111)]
  | _ => []
noncomputable def trail (o : Nat) : Bool := decide (128 ≤ o) && decide (o < 192)
noncomputable def leadBits (lead many : Nat) : Int := (lead : Int).fmod ((256 : Int).fdiv (2 ^ (many + 1)))
noncomputable def begun (p : List Nat) : Bool :=
  if p.getD 0 0 < 128 then decide (p.length = 1)
  else if manyOf (p.getD 0 0) = 0 ∨ manyOf (p.getD 0 0) < p.length ∨ ¬ (p.drop 1).all trail then false
  else (someOf (manyOf (p.getD 0 0))).any fun q => decide (runI 0 p (leadBits (p.getD 0 0) (manyOf (p.getD 0 0))) (manyOf (p.getD 0 0) - 1) ≤ q.2) && decide (runI 63 p (leadBits (p.getD 0 0) (manyOf (p.getD 0 0))) (manyOf (p.getD 0 0) - 1) ≥ q.1)
noncomputable def lawMany (lead : Nat) : Nat := if lead < 128 then 1 else if lead < 224 then 2 else if lead < 240 then 3 else 4
noncomputable def lawRun (a : Int) : List Nat → Int
  | [] => a
  | o :: r => lawRun (64 * a + o - 128) r
noncomputable def lawCode (p : List Nat) : Option Int :=
  if p.length ≠ lawMany (p.getD 0 0) ∨ begun p = false then none
  else some (lawRun (if lawMany (p.getD 0 0) = 1 then (p.getD 0 0 : Int) else leadBits (p.getD 0 0) (lawMany (p.getD 0 0))) (p.drop 1))
/-- how long the piece is that the law cuts -/
noncomputable def lawSize (l : List Nat) : Nat :=
  if 4 ≤ l.length ∧ begun (l.take 4) = true then 4 else if 3 ≤ l.length ∧ begun (l.take 3) = true then 3 else if 2 ≤ l.length ∧ begun (l.take 2) = true then 2 else 1
end Mine

set_option maxHeartbeats 1000000
namespace Mine
theorem many_none {b : Nat} (h : b < 192 ∨ 248 ≤ b) : manyOf b = 0 := by
  unfold manyOf
  repeat' split
  all_goals omega
theorem many2 {b : Nat} (h : 192 ≤ b) (h' : b < 224) : manyOf b = 2 := by
  unfold manyOf
  repeat' split
  all_goals omega
theorem many3 {b : Nat} (h : 224 ≤ b) (h' : b < 240) : manyOf b = 3 := by
  unfold manyOf
  repeat' split
  all_goals omega
theorem many4 {b : Nat} (h : 240 ≤ b) (h' : b < 248) : manyOf b = 4 := by
  unfold manyOf
  repeat' split
  all_goals omega
theorem bits2 (b : Nat) : leadBits b 2 = ((b % 32 : Nat) : Int) := by
  show (b : Int).fmod ((256 : Int).fdiv (2 ^ 3)) = _
  rw [show (256 : Int).fdiv (2 ^ 3) = 32 from by decide, Int.fmod_eq_emod_of_nonneg _ (by decide)]; omega
theorem bits3 (b : Nat) : leadBits b 3 = ((b % 16 : Nat) : Int) := by
  show (b : Int).fmod ((256 : Int).fdiv (2 ^ 4)) = _
  rw [show (256 : Int).fdiv (2 ^ 4) = 16 from by decide, Int.fmod_eq_emod_of_nonneg _ (by decide)]; omega
theorem bits4 (b : Nat) : leadBits b 4 = ((b % 8 : Nat) : Int) := by
  show (b : Int).fmod ((256 : Int).fdiv (2 ^ 5)) = _
  rw [show (256 : Int).fdiv (2 ^ 5) = 8 from by decide, Int.fmod_eq_emod_of_nonneg _ (by decide)]; omega
theorem begun_ascii {b : Nat} {t : List Nat} (h : b < 128) (ht : t ≠ []) : begun (b :: t) = false := by
  unfold begun
  rw [if_pos (by simpa using h)]
  cases t with
  | nil => exact absurd rfl ht
  | cons x t => simp
theorem begun_none {b : Nat} {t : List Nat} (h : 128 ≤ b) (h' : manyOf b = 0) : begun (b :: t) = false := by
  unfold begun
  simp only [List.getD_cons_zero]
  rw [if_neg (by omega), if_pos (.inl h')]
theorem begun_long {b : Nat} {t : List Nat} (h : 128 ≤ b) (h' : manyOf b < t.length + 1) : begun (b :: t) = false := by
  unfold begun
  simp only [List.getD_cons_zero, List.length_cons]
  rw [if_neg (by omega), if_pos (.inr (.inl h'))]
theorem begun_many {b m : Nat} {t : List Nat} (h : 128 ≤ b) (hm : manyOf b = m) (h0 : m ≠ 0) (hl : t.length + 1 ≤ m) : begun (b :: t) = true ↔ (t.all trail = true ∧ ∃ q ∈ someOf m, runI 0 (b :: t) (leadBits b m) (m - 1) ≤ q.2 ∧ q.1 ≤ runI 63 (b :: t) (leadBits b m) (m - 1)) := by
  unfold begun
  simp only [List.getD_cons_zero, List.length_cons, hm, List.drop_succ_cons, List.drop_zero]
  rw [if_neg (by omega)]
  by_cases ht : t.all trail = true
  · rw [if_neg (by rintro (h | h | h) <;> first | omega | exact h ht)]
    simp [ht]
  · rw [if_pos (.inr (.inr ht))]
    simp [ht]
theorem trail_iff (o : Nat) : trail o = true ↔ 128 ≤ o ∧ o < 192 := by simp [trail]
theorem begun22 {b o : Nat} (h : 192 ≤ b) (h' : b < 224) : begun [b, o] = true ↔ (194 ≤ b ∧ 128 ≤ o ∧ o < 192) := by
  rw [begun_many (by omega) (many2 h h') (by decide) (by simp), bits2]
  simp [trail_iff, someOf, runI]
  omega
theorem begun32 {b o : Nat} (h : 224 ≤ b) (h' : b < 240) : begun [b, o] = true ↔ ((if b = 224 then 160 else 128) ≤ o ∧ o ≤ (if b = 237 then 159 else 191)) := by
  rw [begun_many (by omega) (many3 h h') (by decide) (by simp), bits3]
  simp [trail_iff, someOf, runI]
  repeat' split
  all_goals omega
theorem begun33 {b o p : Nat} (h : 224 ≤ b) (h' : b < 240) : begun [b, o, p] = true ↔ ((if b = 224 then 160 else 128) ≤ o ∧ o ≤ (if b = 237 then 159 else 191) ∧ 128 ≤ p ∧ p < 192) := by
  rw [begun_many (by omega) (many3 h h') (by decide) (by simp), bits3]
  simp [trail_iff, someOf, runI]
  repeat' split
  all_goals omega
theorem begun42 {b o : Nat} (h : 240 ≤ b) (h' : b < 248) : begun [b, o] = true ↔ (b ≤ 244 ∧ (if b = 240 then 144 else 128) ≤ o ∧ o ≤ (if b = 244 then 143 else 191)) := by
  rw [begun_many (by omega) (many4 h h') (by decide) (by simp), bits4]
  simp [trail_iff, someOf, runI]
  repeat' split
  all_goals omega
theorem begun43 {b o p : Nat} (h : 240 ≤ b) (h' : b < 248) : begun [b, o, p] = true ↔ (b ≤ 244 ∧ (if b = 240 then 144 else 128) ≤ o ∧ o ≤ (if b = 244 then 143 else 191) ∧ 128 ≤ p ∧ p < 192) := by
  rw [begun_many (by omega) (many4 h h') (by decide) (by simp), bits4]
  simp [trail_iff, someOf, runI]
  repeat' split
  all_goals omega
theorem begun44 {b o p q : Nat} (h : 240 ≤ b) (h' : b < 248) : begun [b, o, p, q] = true ↔ (b ≤ 244 ∧ (if b = 240 then 144 else 128) ≤ o ∧ o ≤ (if b = 244 then 143 else 191) ∧ 128 ≤ p ∧ p < 192 ∧ 128 ≤ q ∧ q < 192) := by
  rw [begun_many (by omega) (many4 h h') (by decide) (by simp), bits4]
  simp [trail_iff, someOf, runI]
  repeat' split
  all_goals omega
theorem scan1 {c lo hi : Nat} {r : List Nat} : scan 1 1 c lo hi r = (match r with | [] => (1, none, 4) | o :: _ => if lo ≤ o ∧ o ≤ hi then (2, some (c * 64 + o % 64), 0) else (1, none, 3)) := by
  cases r with
  | nil => rfl
  | cons o r => simp only [scan]
theorem size_eq (l : List Nat) (hl : l ≠ []) : lawSize l = (piece l).1 := by
  obtain ⟨b, r, rfl⟩ := List.exists_cons_of_ne_nil hl
  by_cases hA : b < 128
  · have h1 : leadOf b = some (1, 0, 0) := by rw [leadOf, if_pos hA]
    rw [piece, h1]
    simp only [if_true, lawSize]
    have hf : ∀ k, 2 ≤ k → k ≤ (b :: r).length → begun ((b :: r).take k) = false := by
      intro k hk hl
      obtain ⟨j, rfl⟩ : ∃ j, k = j + 1 := ⟨k - 1, by omega⟩
      rw [List.take_succ_cons]
      refine begun_ascii hA fun e => ?_
      have := congrArg List.length e
      simp at this hl
      rcases this with h | h
      · omega
      · subst h; simp at hl; omega
    rw [if_neg, if_neg, if_neg]
    · rintro ⟨h, h'⟩; rw [hf 2 (by decide) h] at h'; cases h'
    · rintro ⟨h, h'⟩; rw [hf 3 (by decide) h] at h'; cases h'
    · rintro ⟨h, h'⟩; rw [hf 4 (by decide) h] at h'; cases h'
  by_cases hN : b < 194 ∨ 245 ≤ b
  · have h1 : leadOf b = none := by
      unfold leadOf
      repeat' split
      all_goals first | rfl | omega
    rw [piece, h1]
    simp only [lawSize]
    have hf : ∀ k, 2 ≤ k → k ≤ 4 → k ≤ (b :: r).length → begun ((b :: r).take k) = false := by
      intro k hk hk' hl
      obtain ⟨j, rfl⟩ : ∃ j, k = j + 1 := ⟨k - 1, by omega⟩
      rw [List.take_succ_cons]
      by_cases hm : b < 192 ∨ 248 ≤ b
      · exact begun_none (by omega) (many_none hm)
      · rw [Bool.eq_false_iff]
        intro hb
        by_cases h2 : b < 194
        · rcases r with _ | ⟨o, r⟩
          · simp at hl; omega
          · by_cases hj : j = 1
            · subst hj
              have := (begun22 (by omega) (by omega)).mp hb
              omega
            · rw [begun_long (by omega) (by rw [many2 (by omega) (by omega)]; simp at hl ⊢; omega)] at hb; cases hb
        · rcases r with _ | ⟨o, r⟩
          · simp at hl; omega
          · rcases r with _ | ⟨p, r⟩
            · obtain rfl : j = 1 := by simp at hl; omega
              have := (begun42 (by omega) (by omega)).mp hb
              omega
            · rcases r with _ | ⟨q, r⟩
              · obtain rfl | rfl : j = 1 ∨ j = 2 := by simp at hl; omega
                · have := (begun42 (by omega) (by omega)).mp hb
                  omega
                · have := (begun43 (by omega) (by omega)).mp hb
                  omega
              · obtain rfl | rfl | rfl : j = 1 ∨ j = 2 ∨ j = 3 := by omega
                · have := (begun42 (by omega) (by omega)).mp hb
                  omega
                · have := (begun43 (by omega) (by omega)).mp hb
                  omega
                · have := (begun44 (by omega) (by omega)).mp hb
                  omega
    rw [if_neg, if_neg, if_neg]
    · rintro ⟨h, h'⟩; rw [hf 2 (by decide) (by decide) h] at h'; cases h'
    · rintro ⟨h, h'⟩; rw [hf 3 (by decide) (by decide) h] at h'; cases h'
    · rintro ⟨h, h'⟩; rw [hf 4 (by decide) (by decide) h] at h'; cases h'
  by_cases hC : b < 224
  · have h1 : leadOf b = some (2, 128, 191) := by rw [leadOf, if_neg hA, if_pos (by omega)]
    rw [piece, h1]
    simp only [lawSize]
    rcases r with _ | ⟨o, r⟩
    · simp [scan]
    · rw [if_neg, if_neg]
      · simp only [List.take_succ_cons, List.take_zero, begun22 (show 192 ≤ b by omega) hC]
        have hb : 194 ≤ b := by omega
        by_cases hc : 128 ≤ o ∧ o ≤ 191
        · have hc' : 128 ≤ o ∧ o < 192 := by omega
          simp [scan, hc, hc', hb]
        · have hc' : ¬ (128 ≤ o ∧ o < 192) := by omega
          simp [scan, hc, hc', hb]
      · rintro ⟨h, h'⟩
        rw [List.take_succ_cons, begun_long (by omega) (by rw [many2 (by omega) hC]; simp at h ⊢; omega)] at h'; cases h'
      · rintro ⟨h, h'⟩
        rw [List.take_succ_cons, begun_long (by omega) (by rw [many2 (by omega) hC]; simp at h ⊢; omega)] at h'; cases h'
  by_cases hD : b < 240
  · have h1 : leadOf b = some (3, if b = 224 then 160 else 128, if b = 237 then 159 else 191) := by rw [leadOf, if_neg hA, if_neg (by omega), if_pos (by omega)]
    rw [piece, h1]
    simp only [lawSize]
    have h4 : ¬ (4 ≤ (b :: r).length ∧ begun ((b :: r).take 4) = true) := by
      rintro ⟨h, h'⟩
      rw [List.take_succ_cons, begun_long (by omega) (by rw [many3 (by omega) hD]; simp at h ⊢; omega)] at h'; cases h'
    rw [if_neg h4]
    rcases r with _ | ⟨o, r⟩
    · simp [scan]
    · have e2 : begun ((b :: o :: r).take 2) = true ↔ _ := begun32 (show 224 ≤ b by omega) hD
      rcases r with _ | ⟨p, r⟩
      · simp only [e2]
        by_cases hc : (if b = 224 then 160 else 128) ≤ o ∧ o ≤ (if b = 237 then 159 else 191)
        · simp [scan, hc]
        · simp [scan, hc]
      · have e3 : begun ((b :: o :: p :: r).take 3) = true ↔ _ := begun33 (show 224 ≤ b by omega) hD
        simp only [e2, e3]
        by_cases hc : (if b = 224 then 160 else 128) ≤ o ∧ o ≤ (if b = 237 then 159 else 191)
        · by_cases hp : 128 ≤ p ∧ p ≤ 191
          · have hp' : 128 ≤ p ∧ p < 192 := by omega
            simp [scan, hc, hp, hp']
          · have hp' : ¬ (128 ≤ p ∧ p < 192) := by omega
            simp [scan, hc, hp, hp']
        · have hc' : ¬ ((if b = 224 then 160 else 128) ≤ o ∧ o ≤ (if b = 237 then 159 else 191) ∧ 128 ≤ p ∧ p < 192) := fun x => hc ⟨x.1, x.2.1⟩
          simp [scan, hc, hc']
  · have h1 : leadOf b = some (4, if b = 240 then 144 else 128, if b = 244 then 143 else 191) := by rw [leadOf, if_neg hA, if_neg (by omega), if_neg (by omega), if_pos (by omega)]
    rw [piece, h1]
    simp only [lawSize]
    have hb : b ≤ 244 := by omega
    rcases r with _ | ⟨o, r⟩
    · simp [scan]
    · have e2 : begun ((b :: o :: r).take 2) = true ↔ _ := begun42 (show 240 ≤ b by omega) (by omega)
      rcases r with _ | ⟨p, r⟩
      · simp only [e2]
        by_cases hc : (if b = 240 then 144 else 128) ≤ o ∧ o ≤ (if b = 244 then 143 else 191)
        · simp [scan, hc, hb]
        · simp [scan, hc, hb]
      · have e3 : begun ((b :: o :: p :: r).take 3) = true ↔ _ := begun43 (show 240 ≤ b by omega) (by omega)
        by_cases hc : (if b = 240 then 144 else 128) ≤ o ∧ o ≤ (if b = 244 then 143 else 191)
        · by_cases hp : 128 ≤ p ∧ p ≤ 191
          · have hp' : 128 ≤ p ∧ p < 192 := by omega
            rcases r with _ | ⟨q, r⟩
            · simp only [e2, e3]
              simp [scan, hc, hp, hp', hb]
            · have e4 : begun ((b :: o :: p :: q :: r).take 4) = true ↔ _ := begun44 (show 240 ≤ b by omega) (by omega)
              simp only [e2, e3, e4]
              by_cases hq : 128 ≤ q ∧ q ≤ 191
              · have hq' : 128 ≤ q ∧ q < 192 := by omega
                simp [scan, hc, hp, hp', hb, hq, hq']
              · have hq' : ¬ (128 ≤ q ∧ q < 192) := by omega
                simp [scan, hc, hp, hp', hb, hq, hq']
          · have hp' : ¬ (128 ≤ p ∧ p < 192) := by omega
            rcases r with _ | ⟨q, r⟩
            · simp only [e2, e3]
              simp [scan, hc, hp, hp', hb]
            · have e4 : begun ((b :: o :: p :: q :: r).take 4) = true ↔ _ := begun44 (show 240 ≤ b by omega) (by omega)
              simp only [e2, e3, e4]
              have hx : ¬ (128 ≤ p ∧ p < 192 ∧ 128 ≤ q ∧ q < 192) := by omega
              simp [scan, hc, hp, hp', hb, hx]
        · have hx : ∀ P : Prop, ¬ ((if b = 240 then 144 else 128) ≤ o ∧ o ≤ (if b = 244 then 143 else 191) ∧ P) := fun P x => hc ⟨x.1, x.2.1⟩
          rcases r with _ | ⟨q, r⟩
          · simp only [e2, e3]
            simp [scan, hc, hb, hx]
          · have e4 : begun ((b :: o :: p :: q :: r).take 4) = true ↔ _ := begun44 (show 240 ≤ b by omega) (by omega)
            simp only [e2, e3, e4]
            simp [scan, hc, hb, hx]
theorem code_eq (l : List Nat) (hl : l ≠ []) : lawCode (l.take (piece l).1) = (piece l).2.1.map fun (n : Nat) => (n : Int) := by
  obtain ⟨b, r, rfl⟩ := List.exists_cons_of_ne_nil hl
  by_cases hA : b < 128
  · have h1 : leadOf b = some (1, 0, 0) := by rw [leadOf, if_pos hA]
    rw [piece, h1]
    simp [lawCode, lawMany, hA, begun, lawRun]
  by_cases hN : b < 194 ∨ 245 ≤ b
  · have h1 : leadOf b = none := by
      unfold leadOf
      repeat' split
      all_goals first | rfl | omega
    rw [piece, h1]
    have hm : 1 ≠ lawMany b := by
      unfold lawMany
      rw [if_neg hA]
      repeat' split
      all_goals decide
    simp [lawCode, hm]
  by_cases hC : b < 224
  · have h1 : leadOf b = some (2, 128, 191) := by rw [leadOf, if_neg hA, if_pos (by omega)]
    have hm : lawMany b = 2 := by rw [lawMany, if_neg hA, if_pos hC]
    rw [piece, h1]
    rcases r with _ | ⟨o, r⟩
    · simp [scan, lawCode, hm]
    · have hb : 194 ≤ b := by omega
      have e2 := begun22 (b := b) (o := o) (show 192 ≤ b by omega) hC
      by_cases hc : 128 ≤ o ∧ o ≤ 191
      · have hg : begun [b, o] = true := e2.mpr (by omega)
        simp [scan, hc, lawCode, hm, hg, lawRun, bits2]
        omega
      · simp [scan, hc, lawCode, hm]
  by_cases hD : b < 240
  · have h1 : leadOf b = some (3, if b = 224 then 160 else 128, if b = 237 then 159 else 191) := by rw [leadOf, if_neg hA, if_neg (by omega), if_pos (by omega)]
    have hm : lawMany b = 3 := by rw [lawMany, if_neg hA, if_neg hC, if_pos hD]
    rw [piece, h1]
    rcases r with _ | ⟨o, r⟩
    · simp [scan, lawCode, hm]
    · by_cases hc : (if b = 224 then 160 else 128) ≤ o ∧ o ≤ (if b = 237 then 159 else 191)
      · rcases r with _ | ⟨p, r⟩
        · simp [scan, hc, lawCode, hm]
        · by_cases hp : 128 ≤ p ∧ p ≤ 191
          · have hg : begun [b, o, p] = true := (begun33 (show 224 ≤ b by omega) hD).mpr ⟨hc.1, hc.2, by omega, by omega⟩
            have ho : 128 ≤ o ∧ o ≤ 191 := by split at hc <;> split at hc <;> omega
            simp [scan, hc, hp, lawCode, hm, hg, lawRun, bits3]
            omega
          · simp [scan, hc, hp, lawCode, hm]
      · simp [scan, hc, lawCode, hm]
  · have h1 : leadOf b = some (4, if b = 240 then 144 else 128, if b = 244 then 143 else 191) := by rw [leadOf, if_neg hA, if_neg (by omega), if_neg (by omega), if_pos (by omega)]
    have hm : lawMany b = 4 := by rw [lawMany, if_neg hA, if_neg hC, if_neg hD]
    rw [piece, h1]
    rcases r with _ | ⟨o, r⟩
    · simp [scan, lawCode, hm]
    · by_cases hc : (if b = 240 then 144 else 128) ≤ o ∧ o ≤ (if b = 244 then 143 else 191)
      · rcases r with _ | ⟨p, r⟩
        · simp [scan, hc, lawCode, hm]
        · by_cases hp : 128 ≤ p ∧ p ≤ 191
          · rcases r with _ | ⟨q, r⟩
            · simp [scan, hc, hp, lawCode, hm]
            · by_cases hq : 128 ≤ q ∧ q ≤ 191
              · have hg : begun [b, o, p, q] = true := (begun44 (show 240 ≤ b by omega) (by omega)).mpr ⟨by omega, hc.1, hc.2, by omega, by omega, by omega, by omega⟩
                have ho : 128 ≤ o ∧ o ≤ 191 := by split at hc <;> split at hc <;> omega
                simp [scan, hc, hp, hq, lawCode, hm, hg, lawRun, bits4]
                omega
              · simp [scan, hc, hp, hq, lawCode, hm]
          · simp [scan, hc, hp, lawCode, hm]
      · simp [scan, hc, lawCode, hm]
end Mine

namespace Mine
theorem scan_step {n k c lo hi o : Nat} {r : List Nat} (h : lo ≤ o ∧ o ≤ hi) : scan (n + 1) k c lo hi (o :: r) = scan n (k + 1) (c * 64 + o % 64) 128 191 r := by rw [scan, if_pos h]
theorem piece_enc {c : Nat} (h : isScalar c = true) (r : List Nat) : piece (enc c ++ r) = ((enc c).length, some c, 0) := by
  unfold isScalar at h
  simp only [Bool.or_eq_true, Bool.and_eq_true, decide_eq_true_eq] at h
  unfold enc
  by_cases h1 : c < 128
  · rw [if_pos h1]
    have e : leadOf c = some (1, 0, 0) := by unfold leadOf; rw [if_pos h1]
    simp only [List.cons_append, List.nil_append, piece, e]
    rfl
  rw [if_neg h1]
  by_cases h2 : c < 2048
  · rw [if_pos h2]
    have e : leadOf (192 + c / 64) = some (2, 128, 191) := by unfold leadOf; rw [if_neg (by omega), if_pos (by omega)]
    simp only [List.cons_append, List.nil_append, piece, e]
    rw [if_neg (by decide), scan_step (by omega)]
    refine Prod.ext rfl (Prod.ext (congrArg some ?_) rfl)
    simp only [show (2 : Nat) ^ (7 - 2) = 32 from rfl]
    omega
  rw [if_neg h2]
  by_cases h3 : c < 65536
  · rw [if_pos h3]
    have e : leadOf (224 + c / 4096) = some (3, if 224 + c / 4096 = 224 then 160 else 128, if 224 + c / 4096 = 237 then 159 else 191) := by unfold leadOf; rw [if_neg (by omega), if_neg (by omega), if_pos (by omega)]
    simp only [List.cons_append, List.nil_append, piece, e]
    rw [if_neg (by decide), scan_step (by constructor <;> split <;> omega), scan_step (by omega)]
    refine Prod.ext rfl (Prod.ext (congrArg some ?_) rfl)
    simp only [show (2 : Nat) ^ (7 - 3) = 16 from rfl]
    omega
  · rw [if_neg h3]
    have e : leadOf (240 + c / 262144) = some (4, if 240 + c / 262144 = 240 then 144 else 128, if 240 + c / 262144 = 244 then 143 else 191) := by unfold leadOf; rw [if_neg (by omega), if_neg (by omega), if_neg (by omega), if_pos (by omega)]
    simp only [List.cons_append, List.nil_append, piece, e]
    rw [if_neg (by decide), scan_step (by constructor <;> split <;> omega), scan_step (by omega), scan_step (by omega)]
    refine Prod.ext rfl (Prod.ext (congrArg some ?_) rfl)
    simp only [show (2 : Nat) ^ (7 - 4) = 8 from rfl]
    omega
theorem enc_ne (c : Nat) (r : List Nat) : enc c ++ r ≠ [] := by
  unfold enc
  repeat' split
  all_goals simp
theorem pcs_enc : ∀ {cs : List Nat}, (∀ c ∈ cs, isScalar c = true) → pcs (cs.flatMap enc) = cs.map fun c => (enc c, some c)
  | [], _ => rfl
  | c :: cs, h => by
    have e := piece_enc (h c (.head _)) (cs.flatMap enc)
    rw [List.flatMap_cons, pcs_cons (enc_ne _ _), e]
    simp only [List.take_left, List.drop_left, List.map_cons]
    rw [pcs_enc fun x hx => h x (.tail _ hx)]
theorem ill_enc {cs : List Nat} (h : ∀ c ∈ cs, isScalar c = true) (a : Nat) : illF a (pcs (cs.flatMap enc)) = none := by
  rw [pcs_enc h]
  clear h
  induction cs generalizing a with
  | nil => rfl
  | cons c cs ih => exact ih _
theorem repl_enc {cs : List Nat} (h : ∀ c ∈ cs, isScalar c = true) : repl (cs.flatMap enc) = cs := by
  unfold repl
  rw [pcs_enc h, List.map_map]
  exact (List.map_congr_left fun c _ => rfl).trans (List.map_id cs)
theorem ok_enc {cs : List Nat} (h : ∀ c ∈ cs, isScalar c = true) : okAll (cs.flatMap enc) = true := by
  unfold okAll
  rw [pcs_enc h]
  simp
theorem starts_enc' : ∀ (cs : List Nat) (a : Nat), startsF a (cs.map fun c => (enc c, some c)) = (List.range cs.length).map fun k => a + ((cs.take k).flatMap enc).length
  | [], _ => rfl
  | c :: cs, a => by
    rw [List.map_cons, startsF, starts_enc' cs]
    simp only [List.length_cons, List.range_succ_eq_map, List.map_cons, List.map_map, List.take_zero, List.flatMap_nil, List.length_nil, Nat.add_zero]
    congr 1
    refine List.map_congr_left fun k _ => ?_
    simp only [Function.comp, List.take_succ_cons, List.flatMap_cons, List.length_append]
    omega
theorem starts_enc {cs : List Nat} (h : ∀ c ∈ cs, isScalar c = true) : starts (cs.flatMap enc) = (List.range cs.length).map fun k => ((cs.take k).flatMap enc).length := by
  unfold starts
  rw [pcs_enc h, starts_enc']
  simp
end Mine

namespace Mine
theorem pcs_ind {P : List Nat → Prop} (h0 : P []) (h1 : ∀ l, l ≠ [] → P (l.drop (piece l).1) → P l) : ∀ l, P l := by
  have : ∀ n (l : List Nat), l.length ≤ n → P l := by
    intro n
    induction n with
    | zero => intro l h; have : l = [] := List.eq_nil_of_length_eq_zero (by omega); subst this; exact h0
    | succ n ih =>
      intro l h
      by_cases hl : l = []
      · subst hl; exact h0
      · have := piece_pos hl
        exact h1 l hl (ih _ (by simp; omega))
  exact fun l => this _ l (Nat.le_refl _)
noncomputable def off (ps : List (List Nat × Option Nat)) (k : Nat) : Nat := ((ps.take k).map (·.1)).flatten.length
theorem off_zero (ps : List (List Nat × Option Nat)) : off ps 0 = 0 := by simp [off]
theorem off_succ (p : List Nat × Option Nat) (ps : List (List Nat × Option Nat)) (k : Nat) : off (p :: ps) (k + 1) = p.1.length + off ps k := by simp [off]
theorem pcs_flatten (l : List Nat) : ((pcs l).map (·.1)).flatten = l := by
  induction l using pcs_ind with
  | h0 => rfl
  | h1 l hl ih => rw [pcs_cons hl, List.map_cons, List.flatten_cons, ih]; exact List.take_append_drop _ _
theorem off_all (l : List Nat) : off (pcs l) (pcs l).length = l.length := by
  unfold off
  rw [List.take_length, pcs_flatten]
theorem pcs_code (l : List Nat) : (pcs l).map (fun p => lawCode p.1) = (pcs l).map fun p => p.2.map fun (n : Nat) => (n : Int) := by
  induction l using pcs_ind with
  | h0 => rfl
  | h1 l hl ih => rw [pcs_cons hl, List.map_cons, List.map_cons, ih, code_eq l hl]
theorem pcs_at (l : List Nat) : ∀ (k : Nat) (p : List Nat) (c : Option Nat), (pcs l)[k]? = some (p, c) →
    off (pcs l) k + p.length = off (pcs l) (k + 1) ∧ off (pcs l) (k + 1) ≤ l.length ∧ (piece (l.drop (off (pcs l) k))).1 = p.length ∧ (piece (l.drop (off (pcs l) k))).2.1 = c ∧ 1 ≤ p.length ∧ p.length ≤ 4 := by
  induction l using pcs_ind with
  | h0 => intro k p c h; cases h
  | h1 l hl ih =>
    intro k p c h
    have hle := piece_le hl
    have hpos := piece_pos hl
    have h4 : (piece l).1 ≤ 4 := by cases l with
      | nil => exact absurd rfl hl
      | cons b r => exact (piece_bounds b r).2.2
    rw [pcs_cons hl] at h ⊢
    cases k with
    | zero =>
      cases h
      simp only [off_zero, off_succ, List.drop_zero, List.length_take, Nat.min_eq_left hle]
      exact ⟨by omega, by omega, trivial, trivial, hpos, h4⟩
    | succ k =>
      obtain ⟨e1, e2, e3, e4, e5, e6⟩ := ih k p c (by simpa using h)
      rw [off_succ, off_succ]
      simp only [List.length_take, Nat.min_eq_left hle]
      rw [List.drop_drop] at e3 e4
      rw [List.length_drop] at e2
      exact ⟨by omega, by omega, e3, e4, e5, e6⟩
/-- where the pieces without a number begin -/
noncomputable def illS : Nat → List (List Nat × Option Nat) → List Nat
  | _, [] => []
  | a, (p, none) :: r => a :: illS (a + p.length) r
  | a, (p, some _) :: r => illS (a + p.length) r
theorem illS_head : ∀ (ps : List (List Nat × Option Nat)) (a : Nat), (illS a ps).head? = illF a ps
  | [], _ => rfl
  | (p, none) :: r, a => rfl
  | (p, some _) :: r, a => illS_head r _
theorem illF_ok : ∀ (ps : List (List Nat × Option Nat)) (a : Nat), illF a ps = none ↔ ps.all (fun p => p.2.isSome) = true
  | [], _ => by simp [illF]
  | (p, none) :: r, a => by simp [illF]
  | (p, some _) :: r, a => by simp [illF, illF_ok r]
theorem illS_filter : ∀ (ps : List (List Nat × Option Nat)) (j a : Nat) (g : Nat → Nat), (∀ i, i < ps.length → g (j + i) = a + off ps i) →
    ((ps.zipIdx j).filter fun q => q.1.2.isNone).map (fun q => g q.2) = illS a ps
  | [], _, _, _, _ => rfl
  | (p, c) :: r, j, a, g, h => by
    have h0 := h 0 (by simp)
    rw [off_zero] at h0
    have ih := illS_filter r (j + 1) (a + p.length) g fun i hi => by
      have := h (i + 1) (by simp; omega)
      rw [off_succ] at this
      rw [show j + 1 + i = j + (i + 1) by omega, this]; simp only; omega
    cases c with
    | none => simpa [illS, List.zipIdx_cons, ih] using h0
    | some c => simp [illS, List.zipIdx_cons, ih]
theorem scan_trail : ∀ (n k c lo hi : Nat) (r : List Nat), 128 ≤ lo → hi ≤ 191 → ∀ j, k + j < (scan n k c lo hi r).1 → 128 ≤ r.getD j 0 ∧ r.getD j 0 < 192
  | 0, k, c, lo, hi, r, _, _, j, h => by simp [scan] at h; omega
  | n + 1, k, c, lo, hi, [], _, _, j, h => by simp [scan] at h; omega
  | n + 1, k, c, lo, hi, o :: r, h1, h2, j, h => by
    rw [scan] at h
    split at h
    · rename_i hq
      cases j with
      | zero => simp only [List.getD_cons_zero]; omega
      | succ j =>
        have := scan_trail n (k + 1) (c * 64 + o % 64) 128 191 r (by omega) (by omega) j (by omega)
        simpa using this
    · simp at h; omega
theorem lead_bounds {b m lo hi : Nat} (h : leadOf b = some (m, lo, hi)) (hm : m ≠ 1) : 128 ≤ lo ∧ hi ≤ 191 ∧ 194 ≤ b := by
  unfold leadOf at h
  split at h
  · cases h; exact absurd rfl hm
  · split at h
    · cases h; omega
    · split at h
      · cases h; refine ⟨?_, ?_, by omega⟩ <;> split <;> omega
      · split at h
        · cases h; refine ⟨?_, ?_, by omega⟩ <;> split <;> omega
        · cases h
theorem piece_trail {l : List Nat} {j : Nat} (h1 : 1 ≤ j) (h : j < (piece l).1) : 128 ≤ l.getD j 0 ∧ l.getD j 0 < 192 := by
  cases l with
  | nil => simp [piece] at h; omega
  | cons b r =>
    rw [piece] at h
    split at h
    · simp at h; omega
    · rename_i m lo hi hl
      split at h
      · simp at h; omega
      · rename_i hm
        obtain ⟨a, b', _⟩ := lead_bounds hl hm
        have := scan_trail (m - 1) 1 (b % 2 ^ (7 - m)) lo hi r a b' (j - 1) (by omega)
        obtain ⟨j, rfl⟩ : ∃ i, j = i + 1 := ⟨j - 1, by omega⟩
        simpa using this
theorem piece_lead {l : List Nat} (h : 2 ≤ (piece l).1) : 194 ≤ l.getD 0 0 := by
  cases l with
  | nil => simp [piece] at h
  | cons b r =>
    rw [piece] at h
    split at h
    · simp at h
    · rename_i m lo hi hl
      split at h
      · simp at h
      · rename_i hm
        have := (lead_bounds hl hm).2.2
        simpa using this
theorem getD_drop (l : List Nat) (n j : Nat) : (l.drop n).getD j 0 = l.getD (n + j) 0 := by simp [List.getD, List.getElem?_drop]
/-- an octet that is no trail begins a piece -/
theorem begins (l : List Nat) : ∀ h, h < l.length → ¬ (128 ≤ l.getD h 0 ∧ l.getD h 0 < 192) → ∃ k, k < (pcs l).length ∧ off (pcs l) k = h := by
  induction l using pcs_ind with
  | h0 => intro h hh; cases hh
  | h1 l hl ih =>
    intro h hh ht
    have hle := piece_le hl
    rw [pcs_cons hl]
    by_cases h0 : h = 0
    · exact ⟨0, by simp, by rw [off_zero, h0]⟩
    by_cases hn : h < (piece l).1
    · exact absurd (piece_trail (by omega) hn) ht
    obtain ⟨k, hk, e⟩ := ih (h - (piece l).1) (by simp; omega) (by rw [getD_drop, show (piece l).1 + (h - (piece l).1) = h by omega]; exact ht)
    refine ⟨k + 1, by simpa using hk, ?_⟩
    rw [off_succ]
    simp only [List.length_take, Nat.min_eq_left hle]
    omega
theorem walk_spec (bs : List Nat) (i : Nat) : ∀ h, backWalk bs i h ≤ h ∧ (∀ j, backWalk bs i h < j → j ≤ h → (128 ≤ bs.getD j 0 ∧ bs.getD j 0 < 192)) ∧ (backWalk bs i h = 0 ∨ ¬ (128 ≤ bs.getD (backWalk bs i h) 0 ∧ bs.getD (backWalk bs i h) 0 < 192) ∨ 4 ≤ i - backWalk bs i h)
  | 0 => by simp [backWalk]; omega
  | h + 1 => by
    rw [backWalk]
    split
    · rename_i hq
      obtain ⟨a, b, c⟩ := walk_spec bs i h
      refine ⟨by omega, fun j h1 h2 => ?_, c⟩
      by_cases e : j = h + 1
      · subst e; exact hq.2
      · exact b j h1 (by omega)
    · rename_i hq
      exact ⟨Nat.le_refl _, fun j h1 h2 => by omega, .inr (by omega)⟩
theorem getD_take (l : List Nat) {i j : Nat} (h : j < i) : (l.take i).getD j 0 = l.getD j 0 := by simp [List.getD, List.getElem?_take, h]
theorem back_last (bs : List Nat) (i : Nat) (h1 : 1 ≤ i) (h2 : i ≤ bs.length) (p : List Nat) (c : Option Nat) (ps : List (List Nat × Option Nat)) (hp : pcs (bs.take i) = ps ++ [(p, c)]) : back bs i = i - p.length ∧ p.length ≤ i := by
  have hlen : (bs.take i).length = i := by simp; omega
  generalize hl : bs.take i = l at *
  have hK : (pcs l)[ps.length]? = some (p, c) := by rw [hp]; simp
  obtain ⟨e1, e2, e3, e4, e5, e6⟩ := pcs_at l ps.length p c hK
  have hall := off_all l
  have hpl : (pcs l).length = ps.length + 1 := by rw [hp]; simp
  rw [hpl] at hall
  generalize hs : off (pcs l) ps.length = s at *
  have hsi : s + p.length = i := by omega
  have g : ∀ j, j < i → l.getD j 0 = bs.getD j 0 := fun j hj => by rw [← hl]; exact getD_take bs hj
  obtain ⟨w1, w2, w3⟩ := walk_spec bs i (i - 1)
  have inner : ∀ j, s < j → j < i → 128 ≤ bs.getD j 0 ∧ bs.getD j 0 < 192 := fun j hj hj' => by
    have := piece_trail (l := l.drop s) (j := j - s) (by omega) (by omega)
    rw [getD_drop, show s + (j - s) = j by omega, g j hj'] at this
    exact this
  have last : ∀ k, k < (pcs l).length → off (pcs l) k + (piece (l.drop (off (pcs l) k))).1 = i → off (pcs l) k = s := fun k hk he => by
    obtain ⟨q, d, hq⟩ : ∃ q d, (pcs l)[k]? = some (q, d) := ⟨_, _, List.getElem?_eq_getElem hk⟩
    obtain ⟨f1, f2, f3, _⟩ := pcs_at l k q d hq
    rcases Nat.lt_or_ge (k + 1) (pcs l).length with hlt | hge
    · obtain ⟨q', d', hq'⟩ : ∃ q d, (pcs l)[k + 1]? = some (q, d) := ⟨_, _, List.getElem?_eq_getElem hlt⟩
      obtain ⟨f1', f2', _, _, f5', _⟩ := pcs_at l (k + 1) q' d' hq'
      omega
    · have : k = ps.length := by omega
      subst this; exact hs
  unfold back
  rw [hl]
  generalize backWalk bs i (i - 1) = w at *
  refine ⟨?_, by omega⟩
  split
  · rename_i hA
    by_cases hw : w = i - 1
    · have hm : p.length = 1 := by
        apply Classical.byContradiction
        intro hne
        have := inner (i - 1) (by omega) (by omega)
        rw [hw] at w3
        rcases w3 with h | h | h
        · omega
        · exact h this
        · omega
      omega
    · have hge : 2 ≤ (piece (l.drop w)).1 := by omega
      have hb := piece_lead hge
      rw [getD_drop, Nat.add_zero] at hb
      obtain ⟨k, hk, hok⟩ := begins l w (by omega) (by omega)
      have := last k hk (by rw [hok]; exact hA)
      omega
  · rename_i hB
    have hm : p.length = 1 := by
      apply Classical.byContradiction
      intro hne
      have hb := piece_lead (l := l.drop s) (by omega)
      rw [getD_drop, Nat.add_zero, g s (by omega)] at hb
      have hws : w = s := by
        rcases Nat.lt_trichotomy w s with h | h | h
        · have := w2 s h (by omega); omega
        · exact h
        · have := inner w h (by omega)
          rcases w3 with h' | h' | h'
          · omega
          · exact absurd this h'
          · omega
      rw [hws, e3] at hB
      omega
    omega
end Mine

namespace Mine
theorem scan_some {n k c lo hi x : Nat} {l : List Nat} (h : (scan (n + 1) k c lo hi l).2.1 = some x) : ∃ o r, l = o :: r ∧ lo ≤ o ∧ o ≤ hi ∧ (scan n (k + 1) (c * 64 + o % 64) 128 191 r).2.1 = some x := by
  cases l with
  | nil => simp [scan] at h
  | cons o r =>
    rw [scan] at h
    by_cases q : lo ≤ o ∧ o ≤ hi
    · rw [if_pos q] at h; exact ⟨o, r, rfl, q.1, q.2, h⟩
    · rw [if_neg q] at h; cases h
theorem scan_end {k c lo hi x : Nat} {l : List Nat} (h : (scan 0 k c lo hi l).2.1 = some x) : x = c := by
  rw [scan] at h; exact (Option.some.inj h).symm
theorem piece_scalar {l : List Nat} {c : Nat} (h : (piece l).2.1 = some c) : isScalar c = true := by
  have key : c < 55296 ∨ (57343 < c ∧ c ≤ 1114111) := by
    cases l with
    | nil => simp [piece] at h
    | cons b r =>
      rw [piece] at h
      unfold leadOf at h
      by_cases h1 : b < 128
      · rw [if_pos h1] at h
        simp at h
        omega
      rw [if_neg h1] at h
      by_cases h2 : 194 ≤ b ∧ b ≤ 223
      · rw [if_pos h2] at h
        simp only [show ¬ (2 : Nat) = 1 by decide, if_false, show (2 : Nat) - 1 = 1 from rfl, show (2 : Nat) ^ (7 - 2) = 32 from rfl] at h
        obtain ⟨o, r, rfl, a1, a2, h⟩ := scan_some h
        have := scan_end h
        omega
      rw [if_neg h2] at h
      by_cases h3 : 224 ≤ b ∧ b ≤ 239
      · rw [if_pos h3] at h
        simp only [show ¬ (3 : Nat) = 1 by decide, if_false, show (3 : Nat) - 1 = 2 from rfl, show (2 : Nat) ^ (7 - 3) = 16 from rfl] at h
        generalize hlo : (if b = 224 then 160 else 128) = lo at h
        generalize hhi : (if b = 237 then 159 else 191) = hi at h
        obtain ⟨o, r, rfl, a1, a2, h⟩ := scan_some h
        obtain ⟨o', r, rfl, b1, b2, h⟩ := scan_some h
        have := scan_end h
        have hl : 128 ≤ lo := by rw [← hlo]; split <;> omega
        have hh : hi ≤ 191 ∧ (b = 237 → hi = 159) := by rw [← hhi]; split <;> omega
        by_cases e : b = 237
        · have := hh.2 e; omega
        · omega
      rw [if_neg h3] at h
      by_cases h4 : 240 ≤ b ∧ b ≤ 244
      · rw [if_pos h4] at h
        simp only [show ¬ (4 : Nat) = 1 by decide, if_false, show (4 : Nat) - 1 = 3 from rfl, show (2 : Nat) ^ (7 - 4) = 8 from rfl] at h
        generalize hlo : (if b = 240 then 144 else 128) = lo at h
        generalize hhi : (if b = 244 then 143 else 191) = hi at h
        obtain ⟨o, r, rfl, a1, a2, h⟩ := scan_some h
        obtain ⟨o', r, rfl, b1, b2, h⟩ := scan_some h
        obtain ⟨o'', r, rfl, c1, c2, h⟩ := scan_some h
        have := scan_end h
        have hl : 128 ≤ lo ∧ (b = 240 → lo = 144) := by rw [← hlo]; split <;> omega
        have hh : hi ≤ 191 ∧ (b = 244 → hi = 143) := by rw [← hhi]; split <;> omega
        by_cases e : b = 244
        · have := hh.2 e; omega
        · by_cases e' : b = 240
          · have := hl.2 e'; omega
          · omega
      rw [if_neg h4] at h
      simp at h
  unfold isScalar
  simp only [Bool.or_eq_true, Bool.and_eq_true, decide_eq_true_eq]
  exact key
theorem repl_scalar (l : List Nat) : ∀ c ∈ repl l, isScalar c = true := by
  induction l using pcs_ind with
  | h0 => intro c hc; cases hc
  | h1 l hl ih =>
    intro c hc
    rw [repl_cons hl] at hc
    rcases List.mem_cons.mp hc with rfl | hc
    · cases h : (piece l).2.1 with
      | none => rfl
      | some c => exact piece_scalar h
    · exact ih c hc
end Mine

section
open PySem PySem.W PyProof.Rows
set_option maxRecDepth 100000
namespace Mine
noncomputable def vw : Program := view PySem.Challenge.pw_nt0005_01 [40]
end Mine
set_option hygiene false in
local macro_rules | `(tactic| o_head $H) => `(tactic| (
  refine holds_open (q := Mine.vw) (loose := [PySem.Str.ofString "MAX_CODE", PySem.Str.ofString "HIGH_FIRST", PySem.Str.ofString "LOW_LAST", PySem.Str.ofString "REPLACEMENT", PySem.Str.ofString "UniError", PySem.Str.ofString "BadEncoding", PySem.Str.ofString "BadCode", PySem.Str.ofString "is_code", PySem.Str.ofString "is_surrogate", PySem.Str.ofString "is_scalar", PySem.Str.ofString "UTF8_ALONE", PySem.Str.ofString "UTF8_NEVER", PySem.Str.ofString "UTF8_BROKEN", PySem.Str.ofString "UTF8_SHORT", PySem.Str.ofString "UTF8_TRAIL", PySem.Str.ofString "UTF8_PLANE", PySem.Str.ofString "utf8_octets", PySem.Str.ofString "utf8_length", PySem.Str.ofString "encode_utf8", PySem.Str.ofString "length_of", PySem.Str.ofString "utf8_lead", PySem.Str.ofString "utf8_piece", PySem.Str.ofString "decode_utf8", PySem.Str.ofString "decode_utf8_replaced", PySem.Str.ofString "is_utf8", PySem.Str.ofString "forward_from", PySem.Str.ofString "back_from", PySem.Str.ofString "utf8_places", PySem.Str.ofString "_law_octets", PySem.Str.ofString "_law_is_begun", PySem.Str.ofString "_law_code", PySem.Str.ofString "_law_cut", PySem.Str.ofString "_law_written", PySem.Str.ofString "_law_strict", PySem.Str.ofString "_law_refused", PySem.Str.ofString "_law_places", PySem.Str.ofString "_law_text_right"]) (Xt := fun s => xlAt Mine.vw [] s && recOk (RowW.records PySem.Challenge.rw_nt0005_01.row.toRowW) s) (XP := XL Mine.vw []) (Yf := Hook.obs $H) (Ya := Hook.val $H) (YP := Hook.says $H) (N := 3166) ?hl (Hook.of $H) (Hook.keeps $H) (fun s e => xl_of s (Bool.and_eq_true_iff.mp e).1) XL.keeps (by rfl) (by rfl) (by rfl) (fun s e => recFacts_of (Bool.and_eq_true_iff.mp e).2) (by first | rfl | fail "open_line: no head takes a call that writes beside a table") (by first | assumption | decide +kernel) (by decide +kernel) ⟨rfl, rfl, rfl, rfl, rfl, by decide +kernel⟩ ?hw ?hc
  (case hl =>
    intro w
    have hp : PySem.Challenge.rw_nt0005_01.row.prog = PySem.Challenge.pw_nt0005_01 := rfl
    rewrite [hp]
    unfold openEnds fencedOpening topFrom Mine.vw
    rewrite [PySem.W.Fast.te14082659384304107361, PySem.W.Fast.te10274390034422433532, PySem.W.Fast.te14289696077712309145, PySem.W.Fast.te1435165496053646825, PySem.W.Fast.te14364793385576792824, PySem.W.Fast.te8920871248978507458, PySem.W.Fast.te4187177175401517315, PySem.W.Fast.te5923862056798008813]
    kernel_rfl)))
set_option maxHeartbeats 8000000 in
open_top hd for PySem.Challenge.rw_nt0005_01
end

section
open PySem PySem.W PySem.Calls PyProof.Rows
set_option maxRecDepth 100000
namespace Mine

noncomputable abbrev Led := List (Addr × Obj)
noncomputable abbrev Prg : Program := PySem.Challenge.rw_nt0005_01.row.prog
noncomputable abbrev KK (w : World) : Frag := hd.heap_39 w.params

/-- the places up to here keep their slots -/
structure Thr where
  n : Nat
  le : 221 ≤ n
variable [Inhabited Thr]
noncomputable def thr : Nat := (default : Thr).n
theorem thr_le : 221 ≤ thr := (default : Thr).le
/-- all stands but the slots of dicts (a frame's own) -/
noncomputable def Kp (h h' : Heap) : Prop := ∀ b o, h.get? b = some o → ∃ sl, h'.get? b = some { o with slots := sl } ∧ ((∀ es ep, o.data ≠ .dict es ep) ∨ b ≤ thr → sl = o.slots)
theorem Kp.of {h h' : Heap} (k : ∀ b o, h.get? b = some o → h'.get? b = some o) : Kp h h' := fun b o e => ⟨o.slots, k b o e, fun _ => rfl⟩
theorem Kp.refl {h : Heap} : Kp h h := .of fun _ _ e => e
theorem Kp.trans {a b c : Heap} (x : Kp a b) (y : Kp b c) : Kp a c := fun p o e => by
  obtain ⟨sl, e1, h1⟩ := x p o e
  obtain ⟨sl2, e2, h2⟩ := y p _ e1
  exact ⟨sl2, e2, fun hn => (h2 hn).trans (h1 hn)⟩
theorem Kp.at {h h' : Heap} (k : Kp h h') {b : Addr} {o : Obj} (e : h.get? b = some o) (hn : ∀ es ep, o.data ≠ .dict es ep) : h'.get? b = some o := by
  obtain ⟨sl, e1, h1⟩ := k b o e
  rw [h1 (.inl hn)] at e1; exact e1
theorem Kp.low {h h' : Heap} (k : Kp h h') {b : Addr} {o : Obj} (e : h.get? b = some o) (hn : b ≤ thr) : h'.get? b = some o := by
  obtain ⟨sl, e1, h1⟩ := k b o e
  rw [h1 (.inr hn)] at e1; exact e1
theorem Kp.ns {h h' : Heap} (k : Kp h h') {a : Addr} {m : Str → Option Value} (n : h.Ns a m) : h'.Ns a m := by
  obtain ⟨o, es, ep, e, hd, r⟩ := n
  obtain ⟨sl, e1, _⟩ := k a o e
  exact ⟨_, es, ep, e1, hd, r⟩
theorem Kp.cell {h h' : Heap} (k : Kp h h') {a : Addr} {v : Option Value} (n : h.IsCell a v) : h'.IsCell a v := by
  obtain ⟨o, e, hd⟩ := n
  exact ⟨o, k.at e (fun _ _ q => by rw [hd] at q; cases q), hd⟩
theorem Kp.none {h h' : Heap} (k : Kp h h') {a : Addr} (e : h'.get? a = Option.none) : h.get? a = Option.none := by
  cases q : h.get? a with
  | none => rfl
  | some o => obtain ⟨sl, e1, _⟩ := k a o q; rw [e1] at e; cases e
theorem Kp.there {h h' : Heap} (k : Kp h h') {a : Addr} {o : Obj} (e : h.get? a = some o) : ∃ o', h'.get? a = some o' ∧ o'.data = o.data := by
  obtain ⟨sl, e1, _⟩ := k a o e
  exact ⟨_, e1, rfl⟩

/-- only new objects and new tokens -/
structure Up (s s' : Shared) : Prop where
  eq : s' = { s with heap := s'.heap, toks := s'.toks }
  keep : Kp s.heap s'.heap

theorem Up.refl (s : Shared) : Up s s := ⟨rfl, .refl⟩
theorem Up.trans {a b c : Shared} (x : Up a b) (y : Up b c) : Up a c :=
  ⟨by rw [y.eq, x.eq], x.keep.trans y.keep⟩

omit [Inhabited Thr] in
noncomputable def IsSeq (o : Obj) : Prop := ∃ xs n, o.data = .seq xs n
theorem IsSeq.nd {o : Obj} (h : IsSeq o) : ∀ es ep, o.data ≠ .dict es ep := fun es ep q => by obtain ⟨xs, n, e⟩ := h; rw [e] at q; cases q
omit [Inhabited Thr] in
noncomputable def Has (h : Heap) (nw : Led) : Prop := ∀ p ∈ nw, h.get? p.1 = some p.2 ∧ IsSeq p.2

structure Grow (s s' : Shared) (nw nw' : Led) : Prop where
  up : Up s s'
  sub : ∀ p ∈ nw, p ∈ nw'
  has : Has s'.heap nw'
  new : ∀ p ∈ nw', p ∈ nw ∨ s.heap.get? p.1 = none

theorem Grow.refl {s : Shared} {nw : Led} (h : Has s.heap nw) : Grow s s nw nw := ⟨Up.refl s, fun _ h => h, h, fun _ h => .inl h⟩
theorem none_back {h h' : Heap} (k : Kp h h') {a : Addr} (e : h'.get? a = none) : h.get? a = none := k.none e
theorem Grow.trans {a b c : Shared} {na nb nc : Led} (x : Grow a b na nb) (y : Grow b c nb nc) : Grow a c na nc :=
  ⟨x.up.trans y.up, fun p h => y.sub p (x.sub p h), y.has, fun p h => (y.new p h).elim (fun h => x.new p h) fun e => .inr (none_back x.up.keep e)⟩
/-- the heap grows, the ledger stays -/
theorem Grow.of_up {s s' : Shared} {nw : Led} (h : Has s.heap nw) (u : Up s s') : Grow s s' nw nw :=
  ⟨u, fun _ h => h, fun p hp => ⟨u.keep.at (h p hp).1 (h p hp).2.nd, (h p hp).2⟩, fun _ h => .inl h⟩
/-- one made object joins the ledger -/
theorem Grow.push {s : Shared} {nw : Led} (h : Has s.heap nw) (o : Obj) (hs : IsSeq o) : Grow s { s with heap := s.heap.push o } nw ((s.heap.objs.size, o) :: nw) := by
  have hf : o.isFreed = false := by
    obtain ⟨xs, n, e⟩ := hs
    cases o with | mk c d dt sl => simp only at e; subst e; rfl
  refine ⟨⟨rfl, .of fun b x e => Heap.get?_push_of_some _ e⟩, fun p hp => .tail _ hp, fun p hp => ?_, fun p hp => ?_⟩
  · rcases List.mem_cons.mp hp with rfl | hp
    · exact ⟨Heap.get?_push_size _ hf, hs⟩
    · exact ⟨Heap.get?_push_of_some _ (h p hp).1, (h p hp).2⟩
  · rcases List.mem_cons.mp hp with rfl | hp
    · exact .inr (Heap.get?_none_of_le (Nat.le_refl _))
    · exact .inl hp

/-- the text's own objects and the names of the top -/
theorem kk_low (w : World) : (KK w).all (fun p => decide (p.1 ≤ 221)) = true := by unfold KK; rfl
theorem kk_law (w : World) : ∃ o, (KK w).lookup 221 = some o := by unfold KK; exact ⟨_, rfl⟩
theorem lookup_mem {K : Frag} {a : Addr} {o : Obj} (e : K.lookup a = some o) : (a, o) ∈ K := by
  induction K with
  | nil => cases e
  | cons q r ih =>
    rw [List.lookup_cons] at e
    split at e
    · rename_i hq
      cases e
      have : a = q.1 := by simpa using hq
      rw [this]; exact .head _
    · exact .tail _ (ih e)
theorem kk_le {w : World} {a : Addr} {o : Obj} (e : (KK w).lookup a = some o) : a ≤ 221 := by
  have := List.all_eq_true.mp (kk_low w) _ (lookup_mem e)
  simpa using this
structure Gl (w : World) (h : Heap) : Prop where
  K : (KK w).In h
  top : ∃ p loose mg mb, TopRead p loose mg mb h
  live : ∃ o, h.get? thr = some o
theorem Gl.keeps {w : World} {h h' : Heap} (g : Gl w h) (k : Kp h h') : Gl w h' :=
  ⟨fun a o e => k.low (g.K a o e) (Nat.le_trans (kk_le e) thr_le), let ⟨p, l, mg, mb, t⟩ := g.top; ⟨p, l, mg, mb, k.ns t.g, k.ns t.b, let ⟨mc, n, e⟩ := t.nolimit; ⟨mc, k.ns n, e⟩, t.builtins, t.free⟩, let ⟨_, e⟩ := g.live; let ⟨o, e', _⟩ := k.there e; ⟨o, e'⟩⟩
theorem Gl.ex {w : World} {h : Heap} (g : Gl w h) : ∃ H₀ p loose mg mb, (KK w).In H₀ ∧ TopRead p loose mg mb H₀ ∧ Kp H₀ h := let ⟨p, l, mg, mb, t⟩ := g.top; ⟨h, p, l, mg, mb, g.K, t, .refl⟩
theorem Gl.big {w : World} {h : Heap} (g : Gl w h) : thr < h.objs.size := let ⟨_, e⟩ := g.live; Heap.lt_size e
theorem Gl.at {w : World} {h : Heap} (g : Gl w h) {a : Addr} {o : Obj} (e : (KK w).lookup a = some o) (hn : ∀ es ep, o.data ≠ .dict es ep) : h.get? a = some o :=
  let ⟨_, _, _, _, _, x, _, c⟩ := g.ex; c.at (x _ _ e) hn
theorem Gl.nolimit {w : World} {h : Heap} (g : Gl w h) : h.NoLimit :=
  let ⟨_, _, _, _, _, _, t, c⟩ := g.ex; let ⟨mc, n, e⟩ := t.nolimit; ⟨mc, c.ns n, e⟩
theorem Gl.code {w : World} {h : Heap} (g : Gl w h) {cd : Value} {q : Str} (e : codeIn (KK w) cd q = true) : h.CodeRec cd q := by
  obtain ⟨_, _, _, _, _, x, _, k⟩ := g.ex
  obtain ⟨c, o, vs, t, e1, e2, hd, r⟩ := codeRec_of x e
  exact ⟨c, o, vs, t, e1, k.at e2 (fun _ _ q => by rw [hd] at q; cases q), hd, r⟩

/-- the frames that stand below -/
noncomputable def Stk (A : Around) (h : Heap) : Prop := ∃ l, A.frames = some l ∧ ∀ env ∈ l, env.scope.kind ≠ .module ∧ ∃ L m, env.frame = some L ∧ h.Ns L m ∧ thr < L
theorem Stk.map {A : Around} {h h' : Heap} (x : Stk A h) (k : ∀ L m, h.Ns L m → ∃ m', h'.Ns L m') : Stk A h' :=
  let ⟨l, e, r⟩ := x; ⟨l, e, fun env he => let ⟨a, L, m, b, c, z⟩ := r env he; let ⟨m', c'⟩ := k L m c; ⟨a, L, m', b, c', z⟩⟩
theorem Stk.keeps {A : Around} {h h' : Heap} (x : Stk A h) (k : Kp h h') : Stk A h' := x.map fun _ m n => ⟨m, k.ns n⟩

omit [Inhabited Thr] in
structure Fits (env : Env) : Prop where
  hk : env.scope.kind = .function
  hg : env.globals = mainGlobals
  hb : env.builtins = builtinsNs

omit [Inhabited Thr] in
noncomputable def NameAt (env : Env) (h : Heap) (x : Str) (v : Value) : Prop :=
  (env.kindOf x = some .local ∧ ∃ m, h.Ns env.locals m ∧ m x = some v) ∨ (env.kindOf x = some .cell ∧ ∃ c, env.cells.lookup x = some c ∧ h.IsCell c (some v))
theorem NameAt.keeps {env : Env} {h h' : Heap} {x : Str} {v : Value} (n : NameAt env h x v) (k : Kp h h') : NameAt env h' x v :=
  n.imp (fun ⟨a, m, b, c⟩ => ⟨a, m, k.ns b, c⟩) fun ⟨a, c, b, d⟩ => ⟨a, c, b, k.cell d⟩

omit [Inhabited Thr] in
noncomputable abbrev Loc := List (Str × Dat)
omit [Inhabited Thr] in
/-- the newest entry of a name -/
noncomputable def look : Loc → Str → Option Dat
  | [], _ => Option.none
  | (y, d) :: r, x => if x = y then some d else look r x

structure St (w : World) (A : Around) (env : Env) (ρ : Loc) (s : Shared) (nw : Led) : Prop where
  fits : Fits env
  gl : Gl w s.heap
  stk : Stk A s.heap
  has : Has s.heap nw
  names : ∀ x d, look ρ x = some d → ∃ v, DatIn nw v d ∧ NameAt env s.heap x v
theorem St.grow {w : World} {A : Around} {env : Env} {ρ : Loc} {s s' : Shared} {nw nw' : Led} (x : St w A env ρ s nw) (g : Grow s s' nw nw') : St w A env ρ s' nw' :=
  ⟨x.fits, x.gl.keeps g.up.keep, x.stk.keeps g.up.keep, g.has, fun y d hp => let ⟨v, a, b⟩ := x.names y d hp; ⟨v, a.mono g.sub, b.keeps g.up.keep⟩⟩

/-- an expression's value -/
structure Ev (w : World) (A : Around) (env : Env) (ρ : Loc) (e : Expr) (d : Dat) : Prop where
  run : ∀ (s : Shared) (nw : Led) (Q : Value → Shared → Prop) (E : Value → Shared → Prop), St w A env ρ s nw →
    (∀ v s' nw', Grow s s' nw nw' → DatIn nw' v d → Q v s') → wpAny (model Prg w) A (eval e env) Q E s
/-- a test's outcome -/
structure Tr (w : World) (A : Around) (env : Env) (ρ : Loc) (e : Expr) (b : Bool) : Prop where
  run : ∀ (s : Shared) (nw : Led) (Q : Bool → Shared → Prop) (E : Value → Shared → Prop), St w A env ρ s nw →
    (∀ s' nw', Grow s s' nw nw' → Q b s') → wpAny (model Prg w) A (isTrue e env (eval e env)) Q E s

omit [Inhabited Thr] in
structure Room (A : Around) (k : Nat) : Prop where
  hh : A.handled = none
  hd : A.depth + k < 1000
  hu : A.units + 10 * k + 100 < 9900
theorem Room.deeper {A : Around} {k : Nat} (r : Room A (k + 1)) (env : Env) : Room (A.deeper env) k :=
  ⟨r.hh, by have := r.hd; show A.depth + 1 + k < 1000; omega, by have := r.hu; show A.units + 3 + 10 * k + 100 < 9900; omega⟩
theorem Room.lt {A : Around} {k : Nat} (r : Room A (k + 1)) : A.depth < recursionLimit := by have := r.hd; show A.depth < 1000; omega
theorem Room.le {A : Around} {k j : Nat} (r : Room A k) (h : j ≤ k) : Room A j := ⟨r.hh, by have := r.hd; omega, by have := r.hu; omega⟩

section
variable {w : World} {A : Around} {env : Env} {ρ : Loc}

theorem Ev.name {x : Str} {pos : Pos} {d : Dat} (hm : look ρ x = some d) (hd : (x == ("__debug__" : Str)) = false := by decide) : Ev w A env ρ (.Name x pos) d := by
  refine ⟨?_⟩
  intro s nw Q E S k
  obtain ⟨v, hv, hn⟩ := S.names _ _ hm
  rcases hn with ⟨hl, m, hns, hm⟩ | ⟨hl, c, hc, hcell⟩
  · exact wpAny_Name (wpAny_loadName_local S.fits.hk hl hns hm (k v s nw (.refl S.has) hv)) hd
  · exact wpAny_Name (wpAny_loadName_cell S.fits.hk hl hc hcell (k v s nw (.refl S.has) hv)) hd

theorem Ev.int {i : Int} {k : Nat} {pos : Pos} : Ev w A env ρ (.Constant (.int i) k pos) (.int i) := ⟨fun s nw Q E S k =>
  wpAny_Constant_int (k _ _ nw (.of_up S.has ⟨rfl, .refl⟩) (.int _ _))⟩
theorem Ev.str {x : Str} {k : Nat} {pos : Pos} : Ev w A env ρ (.Constant (.str x) k pos) (.str x) := ⟨fun s nw Q E S k =>
  wpAny_Constant_str (k _ _ nw (.of_up S.has ⟨rfl, .refl⟩) (.str _ _))⟩
theorem Ev.bytes {x : List UInt8} {k : Nat} {pos : Pos} : Ev w A env ρ (.Constant (.bytes x) k pos) (.bytes x.toArray) := ⟨fun s nw Q E S k =>
  Constant_bytes (k _ _ nw (.of_up S.has ⟨rfl, .refl⟩) (.bytes _ _))⟩
theorem Ev.nothing {k : Nat} {pos : Pos} : Ev w A env ρ (.Constant .none k pos) .none := ⟨fun s nw Q E S k =>
  wpAny_Constant_none (k _ _ nw (.refl S.has) .none)⟩
theorem Ev.bool {b : Bool} {k : Nat} {pos : Pos} : Ev w A env ρ (.Constant (.bool b) k pos) (.bool b) := ⟨fun s nw Q E S k =>
  wpAny_Constant_bool (k _ _ nw (.refl S.has) (.bool b))⟩
/-- a name of the top -/
theorem name_top {x : Str} {pos : Pos} {v : Value} {s : Shared} {nw : Led} {Q : Value → Shared → Prop} {E : Value → Shared → Prop} (S : St w A env ρ s nw)
    (e : nsIn (KK w) mainGlobals x = some (some v)) (hx : env.kindOf x = some .globalImplicit) (h : Q v s) (hd : (x == ("__debug__" : Str)) = false := by decide) :
    wpAny (model Prg w) A (eval (.Name x pos) env) Q E s := by
  obtain ⟨H₀, p, l, mg, mb, K, T, c⟩ := S.gl.ex
  exact Name_function_global S.fits.hk hx (loadGlobal_global (env := env) (by rw [S.fits.hg]; exact c.ns T.g) (mg_of K T.g e) h) hd
theorem name_boot {x : Str} {pos : Pos} {v : Value} {s : Shared} {nw : Led} {Q : Value → Shared → Prop} {E : Value → Shared → Prop} (S : St w A env ρ s nw)
    (e : nsIn (KK w) mainGlobals x = some none) (hv : bootBuiltins x = some v) (hn : x ≠ "__name__") (hx : env.kindOf x = some .globalImplicit) (h : Q v s) (hd : (x == ("__debug__" : Str)) = false := by decide) :
    wpAny (model Prg w) A (eval (.Name x pos) env) Q E s := by
  obtain ⟨H₀, p, l, mg, mb, K, T, c⟩ := S.gl.ex
  exact Name_function_global S.fits.hk hx (loadGlobal_builtin (env := env) (by rw [S.fits.hg]; exact c.ns T.g) (mg_none_of K T.g e) (by rw [S.fits.hb]; exact c.ns T.b) ((T.builtins x hn).trans hv) h) hd
end
end Mine
end

section
open PySem PySem.W PySem.Calls PyProof.Rows
set_option maxRecDepth 100000
namespace Mine
variable [Inhabited Thr]
section
variable {w : World} {A : Around} {env : Env} {ρ : Loc}

/-- a made value joined: heap steps seen from a state -/
theorem Up.toks {s : Shared} {n : Nat} : Up s { s with toks := n } := ⟨rfl, .refl⟩
theorem Up.both {s : Shared} {h : Heap} {n : Nat} (k : ∀ b o, s.heap.get? b = some o → h.get? b = some o) : Up s { s with heap := h, toks := n } := ⟨rfl, .of k⟩
theorem Grow.toks {s : Shared} {nw : Led} (h : Has s.heap nw) {n : Nat} : Grow s { s with toks := n } nw nw := .of_up h .toks

noncomputable def Bin (w : World) (A : Around) (op : Operator) (a b : Dat) (c : Dat) : Prop :=
  ∀ (s : Shared) (nw : Led) (v u : Value) (Q : Value → Shared → Prop) (E : Value → Shared → Prop), Has s.heap nw → DatIn nw v a → DatIn nw u b →
    (∀ r s' nw', Grow s s' nw nw' → DatIn nw' r c → Q r s') → wpAny (model Prg w) A (binaryOp op v u) Q E s
theorem Ev.bin {op : Operator} {l r : Expr} {pos : Pos} {a b c : Dat} (hl : Ev w A env ρ l a) (hr : Ev w A env ρ r b) (ho : Bin w A op a b c) : Ev w A env ρ (.BinOp l op r pos) c := by
  refine ⟨?_⟩
  intro s nw Q E S k
  refine wpAny_BinOp (hl.run s nw _ _ S fun v s₁ nw₁ g₁ d₁ => hr.run s₁ nw₁ _ _ (S.grow g₁) fun u s₂ nw₂ g₂ d₂ => ?_)
  exact ho s₂ nw₂ _ _ _ _ g₂.has (d₁.mono g₂.sub) d₂ fun r s₃ nw₃ g₃ d₃ => k _ _ _ ((g₁.trans g₂).trans g₃) d₃

theorem datInt {nw : Led} {v : Value} {i : Int} (h : DatIn nw v (.int i)) : ∃ t, v = .int i t := by cases h; exact ⟨_, rfl⟩
theorem datBool {nw : Led} {v : Value} {b : Bool} (h : DatIn nw v (.bool b)) : v = .bool b := by cases h; rfl
theorem datNone {nw : Led} {v : Value} (h : DatIn nw v .none) : v = .none := by cases h; rfl
theorem datBytes {nw : Led} {v : Value} {b : Array UInt8} (h : DatIn nw v (.bytes b)) : ∃ t, v = .bytes b t := by cases h; exact ⟨_, rfl⟩

theorem Bin.of_int {op : Operator} {a b c : Int} (h : ∀ (s : Shared) (t u : Tok) (Q : Value → Shared → Prop) (E : Value → Shared → Prop), Q (.int c s.toks) { s with toks := s.toks + 1 } → wpAny (model Prg w) A (binaryOp op (.int a t) (.int b u)) Q E s) :
    Bin w A op (.int a) (.int b) (.int c) := by
  intro s nw v u Q E H hv hu k
  obtain ⟨t, rfl⟩ := datInt hv
  obtain ⟨t', rfl⟩ := datInt hu
  exact h s t t' Q E (k _ _ nw (.toks H) (.int _ _))
theorem Bin.add {a b : Int} : Bin w A .Add (.int a) (.int b) (.int (a + b)) := .of_int fun _ _ _ _ _ h => PyProof.Rows.add_int h
theorem Bin.sub {a b : Int} : Bin w A .Sub (.int a) (.int b) (.int (a - b)) := .of_int fun _ _ _ _ _ h => PyProof.Rows.sub_int h
theorem Bin.mul {a b : Int} (hm : a.natAbs < 2 ^ 64) : Bin w A .Mult (.int a) (.int b) (.int (a * b)) := .of_int fun _ _ _ _ _ h => PyProof.Rows.mul_int h (.of_left (intBits_le hm))
theorem Bin.floordiv {a b : Int} (hb : 0 < b) (hz : b < 1073741824) : Bin w A .FloorDiv (.int a) (.int b) (.int (a.fdiv b)) := .of_int fun _ _ _ _ _ h => PyProof.Rows.floordiv_int (by omega) h (hp := .inl (PyProof.noPylong_small (by omega)))
theorem Bin.mod {a b : Int} (hb : b ≠ 0) : Bin w A .Mod (.int a) (.int b) (.int (a.fmod b)) := .of_int fun _ _ _ _ _ h => PyProof.Rows.mod_int' hb h
theorem Bin.shl {a n : Int} (hn : 0 ≤ n) (hz : (Builtin.Int.intBits a : Int) + n ≤ 2 ^ 27) : Bin w A .LShift (.int a) (.int n) (.int (a * 2 ^ n.toNat)) := .of_int fun _ _ _ _ _ h => PyProof.Rows.lshift_int hn hz h
theorem Bin.shr {a n : Int} (hn : 0 ≤ n) : Bin w A .RShift (.int a) (.int n) (.int (a.fdiv (2 ^ n.toNat))) := .of_int fun _ _ _ _ _ h => PyProof.Rows.rshift_int hn h
theorem Bin.and {a b : Int} : Bin w A .BitAnd (.int a) (.int b) (.int (Builtin.bitAnd a b)) := .of_int fun _ _ _ _ _ h => PyProof.Rows.and_int h
theorem Bin.or {a b : Int} : Bin w A .BitOr (.int a) (.int b) (.int (Builtin.bitOr a b)) := .of_int fun _ _ _ _ _ h => PyProof.Rows.or_int h
theorem Bin.pow {a n : Int} (hn : 0 ≤ n) (hz : (Builtin.Int.intBits a : Int) * n ≤ 2 ^ 27) : Bin w A .Pow (.int a) (.int n) (.int (a ^ n.toNat)) := .of_int fun _ _ _ _ _ h => PyProof.Rows.pow_int hn hz h

/-- comparisons -/
noncomputable def Cmp (w : World) (A : Around) (op : CmpOp) (a b : Dat) (c : Bool) : Prop :=
  ∀ (s : Shared) (nw : Led) (v u : Value) (Q : Value → Shared → Prop) (E : Value → Shared → Prop), Has s.heap nw → DatIn nw v a → DatIn nw u b →
    (∀ s', Up s s' → Q (.bool c) s') → wpAny (model Prg w) A (compareOp op v u) Q E s
theorem Cmp.of_int {op : CmpOp} {a b : Int} {c : Bool} (h : ∀ (s : Shared) (t u : Tok) (Q : Value → Shared → Prop) (E : Value → Shared → Prop), Q (.bool c) s → wpAny (model Prg w) A (compareOp op (.int a t) (.int b u)) Q E s) :
    Cmp w A op (.int a) (.int b) c := by
  intro s nw v u Q E H hv hu k
  obtain ⟨t, rfl⟩ := datInt hv
  obtain ⟨t', rfl⟩ := datInt hu
  exact h s t t' Q E (k _ (.refl _))
theorem Cmp.lt {a b : Int} : Cmp w A .Lt (.int a) (.int b) (decide (a < b)) := .of_int fun _ _ _ _ _ h => PyProof.Rows.lt_int h
theorem Cmp.gt {a b : Int} : Cmp w A .Gt (.int a) (.int b) (decide (b < a)) := .of_int fun _ _ _ _ _ h => PyProof.Rows.gt_int h
theorem Cmp.le {a b : Int} : Cmp w A .LtE (.int a) (.int b) (decide (a ≤ b)) := .of_int fun _ _ _ _ _ h => PyProof.Rows.le_int h
theorem Cmp.ge {a b : Int} : Cmp w A .GtE (.int a) (.int b) (decide (b ≤ a)) := .of_int fun _ _ _ _ _ h => PyProof.Rows.ge_int h
theorem Cmp.eq {a b : Int} : Cmp w A .Eq (.int a) (.int b) (decide (a = b)) := .of_int fun _ _ _ _ _ h => PyProof.Rows.eq_int h
theorem Cmp.ne {a b : Int} : Cmp w A .NotEq (.int a) (.int b) (decide (a ≠ b)) := .of_int fun _ _ _ _ _ h => PyProof.Rows.ne_int (by
  have e : (a != b) = decide (a ≠ b) := by by_cases q : a = b <;> simp [q]
  rw [e]; exact h)
omit [Inhabited Thr] in
noncomputable def Dat.isNone : Dat → Bool
  | .none => true
  | _ => false
theorem datNone_iff {nw : Led} {v : Value} {d : Dat} (h : DatIn nw v d) : (v == .none) = Dat.isNone d := by cases h <;> rfl
theorem Cmp.is {a : Dat} : Cmp w A .Is a .none (Dat.isNone a) := by
  intro s nw v u Q E H hv hu k
  rw [datNone hu]
  exact is_none (by rw [datNone_iff hv]; exact k _ (.refl _))
theorem Cmp.isNot {a : Dat} : Cmp w A .IsNot a .none (!(Dat.isNone a)) := by
  intro s nw v u Q E H hv hu k
  rw [datNone hu]
  exact isNot_none (by rw [datNone_iff hv]; exact k _ (.refl _))
theorem Cmp.bytesEq {a b : Array UInt8} : Cmp w A .Eq (.bytes a) (.bytes b) (decide (a = b)) := by
  intro s nw v u Q E H hv hu k
  obtain ⟨t, rfl⟩ := datBytes hv
  obtain ⟨t', rfl⟩ := datBytes hu
  refine eq_bytes ?_
  have e : (a.toList == b.toList) = decide (a = b) := by
    by_cases q : a = b
    · simp [q]
    · have : a.toList ≠ b.toList := fun z => q (Array.toList_inj.mp z)
      simp [q, this]
  rw [e]; exact k _ (.refl _)
theorem Cmp.bytesNe {a b : Array UInt8} : Cmp w A .NotEq (.bytes a) (.bytes b) (decide (a ≠ b)) := by
  intro s nw v u Q E H hv hu k
  obtain ⟨t, rfl⟩ := datBytes hv
  obtain ⟨t', rfl⟩ := datBytes hu
  refine ne_bytes ?_
  have e : (a.toList != b.toList) = decide (a ≠ b) := by
    by_cases q : a = b
    · simp [q]
    · have : a.toList ≠ b.toList := fun z => q (Array.toList_inj.mp z)
      simp [q, this]
  rw [e]; exact k _ (.refl _)

theorem Ev.cmp {op : CmpOp} {l r : Expr} {pos : Pos} {a b : Dat} {c : Bool} (hl : Ev w A env ρ l a) (hr : Ev w A env ρ r b) (ho : Cmp w A op a b c)
    (hm : behindInMarks op r = false := by with_unfolding_all rfl) : Ev w A env ρ (.Compare l [op] [r] pos) (.bool c) := by
  refine ⟨?_⟩
  intro s nw Q E S k
  refine wpAny_Compare1 (hl.run s nw _ _ S fun v s₁ nw₁ g₁ d₁ => hr.run s₁ nw₁ _ _ (S.grow g₁) fun u s₂ nw₂ g₂ d₂ => ?_) hm
  exact ho s₂ nw₂ _ _ _ _ g₂.has (d₁.mono g₂.sub) d₂ fun s₃ u₃ => k _ _ _ ((g₁.trans g₂).trans (.of_up g₂.has u₃)) (.bool _)
theorem Tr.cmp {op : CmpOp} {l r : Expr} {pos : Pos} {a b : Dat} {c : Bool} (hl : Ev w A env ρ l a) (hr : Ev w A env ρ r b) (ho : Cmp w A op a b c)
    (hm : behindInMarks op r = false := by with_unfolding_all rfl) : Tr w A env ρ (.Compare l [op] [r] pos) c := by
  refine ⟨?_⟩
  intro s nw Q E S k
  refine wpAny_isTrue_Compare1 (hl.run s nw _ _ S fun v s₁ nw₁ g₁ d₁ => hr.run s₁ nw₁ _ _ (S.grow g₁) fun u s₂ nw₂ g₂ d₂ => ?_) hm
  exact ho s₂ nw₂ _ _ _ _ g₂.has (d₁.mono g₂.sub) d₂ fun s₃ u₃ => wpAny_truthy_bool (k _ _ ((g₁.trans g₂).trans (.of_up g₂.has u₃)))
theorem Ev.chain {op op' : CmpOp} {l r r' : Expr} {pos : Pos} {a b c : Dat} {x y : Bool} (hl : Ev w A env ρ l a) (hr : Ev w A env ρ r b) (hr' : Ev w A env ρ r' c) (ho : Cmp w A op a b x) (ho' : Cmp w A op' b c y)
    (hm : lastMarks [op, op'] [r, r'] = false := by with_unfolding_all rfl) : Ev w A env ρ (.Compare l [op, op'] [r, r'] pos) (.bool (x && y)) := by
  refine ⟨?_⟩
  intro s nw Q E S k
  refine Compare_chain (hl.run s nw _ _ S fun v s₁ nw₁ g₁ d₁ => chain_link (hr.run s₁ nw₁ _ _ (S.grow g₁) fun u s₂ nw₂ g₂ d₂ => ?_)) hm
  refine ho s₂ nw₂ _ _ _ _ g₂.has (d₁.mono g₂.sub) d₂ fun s₃ u₃ => wpAny_truthy_bool ?_
  have g₃ := (g₁.trans g₂).trans (.of_up g₂.has u₃)
  cases x with
  | false => simp only [Bool.false_eq_true, if_false]; exact k _ _ _ g₃ (.bool _)
  | true =>
    simp only [if_true]
    refine chain_last (hr'.run s₃ nw₂ _ _ (S.grow g₃) fun z s₄ nw₄ g₄ d₄ => ?_)
    exact ho' s₄ nw₄ _ _ _ _ g₄.has (d₂.mono g₄.sub) d₄ fun s₅ u₅ => k _ _ _ ((g₃.trans g₄).trans (.of_up g₄.has u₅)) (.bool _)
theorem Tr.chain {op op' : CmpOp} {l r r' : Expr} {pos : Pos} {a b c : Dat} {x y : Bool} (hl : Ev w A env ρ l a) (hr : Ev w A env ρ r b) (hr' : Ev w A env ρ r' c) (ho : Cmp w A op a b x) (ho' : Cmp w A op' b c y)
    (hm : lastMarks [op, op'] [r, r'] = false := by with_unfolding_all rfl) : Tr w A env ρ (.Compare l [op, op'] [r, r'] pos) (x && y) := by
  refine ⟨?_⟩
  intro s nw Q E S k
  refine PyProof.Rows.isTrue_chain (hl.run s nw _ _ S fun v s₁ nw₁ g₁ d₁ => test_link (hr.run s₁ nw₁ _ _ (S.grow g₁) fun u s₂ nw₂ g₂ d₂ => ?_)) hm
  refine ho s₂ nw₂ _ _ _ _ g₂.has (d₁.mono g₂.sub) d₂ fun s₃ u₃ => wpAny_truthy_bool ?_
  have g₃ := (g₁.trans g₂).trans (.of_up g₂.has u₃)
  cases x with
  | false => simp only [Bool.false_eq_true, if_false]; exact k _ _ g₃
  | true =>
    simp only [if_true]
    refine test_last (hr'.run s₃ nw₂ _ _ (S.grow g₃) fun z s₄ nw₄ g₄ d₄ => ?_)
    exact ho' s₄ nw₄ _ _ _ _ g₄.has (d₂.mono g₄.sub) d₄ fun s₅ u₅ => wpAny_truthy_bool (k _ _ ((g₃.trans g₄).trans (.of_up g₄.has u₅)))

/-- a test that is a plain expression of a bool -/
theorem Tr.plain {e : Expr} {b : Bool} (h : Ev w A env ρ e (.bool b)) (he : ∀ whole, isTrue e env whole = (do let v ← whole; standAt e.pos; holding [v] (truthy v)) := by intro _; rfl) : Tr w A env ρ e b := by
  refine ⟨?_⟩
  intro s nw Q E S k
  refine isTrue_plain (h.run s nw _ _ S fun v s₁ nw₁ g₁ d₁ => ?_) (he _)
  rw [datBool d₁]
  exact wpAny_truthy_bool (k _ _ g₁)
theorem Tr.not {e : Expr} {pos : Pos} {b : Bool} (h : Tr w A env ρ e b) : Tr w A env ρ (.UnaryOp .Not e pos) (!b) := by
  refine ⟨?_⟩
  intro s nw Q E S k
  exact PyProof.Rows.isTrue_not (h.run s nw _ _ S fun s' nw' g => k _ _ g)
/-- tests in a row -/
noncomputable def TrAll (w : World) (A : Around) (env : Env) (ρ : Loc) (op : BoolOp) (es : List Expr) (b : Bool) : Prop :=
  ∀ (pos : Pos) (whole : Sem Value) (s : Shared) (nw : Led) (Q : Bool → Shared → Prop) (E : Value → Shared → Prop), St w A env ρ s nw →
    (∀ s' nw', Grow s s' nw nw' → Q b s') → wpAny (model Prg w) A (isTrue (.BoolOp op es pos) env whole) Q E s
theorem TrAll.andNil : TrAll w A env ρ .And [] true := fun _ _ s nw Q E S k => isTrue_and_nil (k _ _ (.refl S.has))
theorem TrAll.orNil : TrAll w A env ρ .Or [] false := fun _ _ s nw Q E S k => isTrue_or_nil (k _ _ (.refl S.has))
theorem TrAll.andCons {e : Expr} {es : List Expr} {a b : Bool} (h : Tr w A env ρ e a) (hr : a = true → TrAll w A env ρ .And es b) : TrAll w A env ρ .And (e :: es) (a && b) := by
  intro pos whole s nw Q E S k
  refine isTrue_and (h.run s nw _ _ S fun s' nw' g => ?_)
  cases a with
  | false => simp only [Bool.false_eq_true, if_false]; exact k _ _ g
  | true => simp only [if_true]; exact hr rfl pos whole s' nw' _ _ (S.grow g) fun s₂ nw₂ g₂ => k _ _ (g.trans g₂)
theorem TrAll.orCons {e : Expr} {es : List Expr} {a b : Bool} (h : Tr w A env ρ e a) (hr : a = false → TrAll w A env ρ .Or es b) : TrAll w A env ρ .Or (e :: es) (a || b) := by
  intro pos whole s nw Q E S k
  refine isTrue_or (h.run s nw _ _ S fun s' nw' g => ?_)
  cases a with
  | true => simp only [if_true]; exact k _ _ g
  | false => simp only [Bool.false_eq_true, if_false]; exact hr rfl pos whole s' nw' _ _ (S.grow g) fun s₂ nw₂ g₂ => k _ _ (g.trans g₂)
theorem Tr.bool {op : BoolOp} {es : List Expr} {pos : Pos} {b : Bool} (h : TrAll w A env ρ op es b) : Tr w A env ρ (.BoolOp op es pos) b := ⟨fun s nw Q E S k => h pos _ s nw Q E S k⟩
theorem Ev.and {x y : Expr} {pos : Pos} {a b : Bool} (hx : Ev w A env ρ x (.bool a)) (hy : a = true → Ev w A env ρ y (.bool b)) : Ev w A env ρ (.BoolOp .And [x, y] pos) (.bool (a && b)) := by
  refine ⟨?_⟩
  intro s nw Q E S k
  refine wpAny_And2 (hx.run s nw _ _ S fun v s₁ nw₁ g₁ d₁ => ?_)
  rw [datBool d₁]
  refine wpAny_truthy_bool ?_
  cases a with
  | false => simp only [Bool.false_eq_true, if_false]; exact k _ _ _ g₁ (.bool _)
  | true => simp only [if_true]; exact (hy rfl).run s₁ nw₁ _ _ (S.grow g₁) fun u s₂ nw₂ g₂ d₂ => k _ _ _ (g₁.trans g₂) d₂
theorem Ev.not {e : Expr} {pos : Pos} {b : Bool} (h : Ev w A env ρ e (.bool b)) : Ev w A env ρ (.UnaryOp .Not e pos) (.bool (!b)) := by
  refine ⟨?_⟩
  intro s nw Q E S k
  refine UnaryOp_ (h.run s nw _ _ S fun v s₁ nw₁ g₁ d₁ => ?_)
  rw [datBool d₁]
  exact not_of (wpAny_truthy_bool (k _ _ _ g₁ (.bool _)))
theorem Ev.ite {t x y : Expr} {pos : Pos} {b : Bool} {d : Dat} (ht : Tr w A env ρ t b) (hx : b = true → Ev w A env ρ x d) (hy : b = false → Ev w A env ρ y d) : Ev w A env ρ (.IfExp t x y pos) d := by
  refine ⟨?_⟩
  intro s nw Q E S k
  refine wpAny_IfExp (ht.run s nw _ _ S fun s₁ nw₁ g₁ => ?_)
  cases b with
  | true => simp only [if_true]; exact (hx rfl).run s₁ nw₁ _ _ (S.grow g₁) fun u s₂ nw₂ g₂ d₂ => k _ _ _ (g₁.trans g₂) d₂
  | false => simp only [Bool.false_eq_true, if_false]; exact (hy rfl).run s₁ nw₁ _ _ (S.grow g₁) fun u s₂ nw₂ g₂ d₂ => k _ _ _ (g₁.trans g₂) d₂
theorem Ev.iteInt {t x y : Expr} {pos : Pos} {b : Bool} {i j : Int} (ht : Tr w A env ρ t b) (hx : b = true → Ev w A env ρ x (.int i)) (hy : b = false → Ev w A env ρ y (.int j)) : Ev w A env ρ (.IfExp t x y pos) (.int (if b = true then i else j)) :=
  .ite ht (fun e => by rw [if_pos e]; exact hx e) fun e => by rw [if_neg (by simp [e])]; exact hy e

theorem Ev.to {e : Expr} {d d' : Dat} (h : Ev w A env ρ e d) (q : d = d') : Ev w A env ρ e d' := q ▸ h
theorem Tr.to {e : Expr} {d d' : Bool} (h : Tr w A env ρ e d) (q : d = d') : Tr w A env ρ e d' := q ▸ h

/-- values in a row -/
noncomputable def Evs (w : World) (A : Around) (env : Env) (ρ : Loc) (es : List Expr) (ds : List Dat) : Prop :=
  ∀ (pos : Pos) (s : Shared) (nw : Led) (Q : List Value → Shared → Prop) (E : Value → Shared → Prop), St w A env ρ s nw →
    (∀ vs s' nw', Grow s s' nw nw' → DatAll nw' vs ds → Q vs s') → wpAny (model Prg w) A (spliced (backTo pos (starEach es env))) Q E s
theorem Evs.nil : Evs w A env ρ [] [] := fun pos s nw Q E S k => wpAny_items_nil (k _ _ _ (.refl S.has) .nil)
theorem Evs.cons {e : Expr} {es : List Expr} {d : Dat} {ds : List Dat} (h : Ev w A env ρ e d) (hr : Evs w A env ρ es ds) (he : starEach (e :: es) env = (false, eval e env) :: starEach es env := by rfl) : Evs w A env ρ (e :: es) (d :: ds) := by
  intro pos s nw Q E S k
  refine wpAny_items_cons (h.run s nw _ _ S fun v s₁ nw₁ g₁ d₁ => hr pos s₁ nw₁ _ _ (S.grow g₁) fun vs s₂ nw₂ g₂ d₂ => ?_) he
  exact k _ _ _ (g₁.trans g₂) (.cons (d₁.mono g₂.sub) d₂)

theorem tupSeq {vs : List Value} : IsSeq ({ cls := .type "tuple", data := .seq vs.toArray } : Obj) := ⟨_, _, rfl⟩
theorem Ev.tuple {es : List Expr} {k : Nat} {pos : Pos} {ds : List Dat} (h : Evs w A env ρ es ds) (hz : ds.length ≤ 1000 := by exact Nat.le_of_ble_eq_true rfl) : Ev w A env ρ (.Tuple es k pos) (.tuple ds) := by
  refine ⟨?_⟩
  intro s nw Q E S k
  refine wpAny_Tuple (h _ s nw _ _ S fun vs s₁ nw₁ g₁ d₁ => ⟨by rw [d₁.length, sizeLine_eq]; omega, ?_⟩)
  have g₂ := Grow.push g₁.has { cls := .type "tuple", data := .seq vs.toArray } tupSeq
  exact k _ _ _ (g₁.trans g₂) (.tuple (.head _) (d₁.mono g₂.sub))
theorem Ev.list {es : List Expr} {pos : Pos} {ds : List Dat} (h : Evs w A env ρ es ds) (hz : ds.length ≤ 1000 := by exact Nat.le_of_ble_eq_true rfl) : Ev w A env ρ (.List es pos) (.list ds) := by
  refine ⟨?_⟩
  intro s nw Q E S k
  refine wpAny_List (h _ s nw _ _ S fun vs s₁ nw₁ g₁ d₁ => ⟨by rw [d₁.length, sizeLine_eq]; omega, ?_⟩)
  have g₂ := Grow.push g₁.has { cls := .type "list", data := .seq vs.toArray } ⟨_, _, rfl⟩
  exact k _ _ _ (g₁.trans g₂) (.list (n := 0) (.head _) (d₁.mono g₂.sub))
end
end Mine
end

section
open PySem PySem.W PySem.Calls PyProof.Rows
set_option maxRecDepth 100000
namespace Mine
variable [Inhabited Thr]
section
variable {w : World} {A : Around} {env : Env} {ρ : Loc}

/-- what a call gives back -/
noncomputable def Cl (w : World) (A : Around) (f : Value) (ds : List Dat) (r : Dat) : Prop :=
  ∀ (s : Shared) (nw : Led) (vs : List Value) (Q : Value → Shared → Prop) (E : Value → Shared → Prop), Gl w s.heap → Stk A s.heap → Has s.heap nw → DatAll nw vs ds →
    (∀ v s' nw', Grow s s' nw nw' → DatIn nw' v r → Q v s') → wpAny (model Prg w) A (call f vs) Q E s
/-- a def of the text's: k frames of its own at most -/
noncomputable def Fn (w : World) (k : Nat) (f : Value) (ds : List Dat) (r : Dat) : Prop := ∀ A, Room A k → Cl w A f ds r

theorem keep_one {K : Frag} {f : Addr} (hk : fnIn K f = true) : ∃ o, K.lookup f = some o ∧ (∀ es ep, o.data ≠ .dict es ep) ∧ keepIn [(f, o)] (.ref f) = true := by
  unfold fnIn at hk
  split at hk
  · rename_i c d fd sl q
    exact ⟨_, q, fun _ _ e => (by cases e), by simp [keepIn]⟩
  · cases hk
theorem one_in {f : Addr} {o : Obj} {h : Heap} (e : h.get? f = some o) : Frag.In [(f, o)] h := fun a x q => by
  rw [List.lookup_cons] at q
  split at q
  · rename_i hq
    cases q
    have : a = f := by simpa using hq
    rw [this]; exact e
  · cases q
theorem Ev.callTop {x : Str} {np pos : Pos} {f : Addr} {e : Expr} {es : List Expr} {ds : List Dat} {r : Dat} (hx : nsIn (KK w) mainGlobals x = some (some (.ref f))) (hk : fnIn (KK w) f = true)
    (ha : Evs w A env ρ (e :: es) ds) (hf : Cl w A (.ref f) ds r) (hg : env.kindOf x = some .globalImplicit) (hd : (x == ("__debug__" : Str)) = false := by decide)
    (he : starEach (e :: es) env = (false, eval e env) :: starEach es env := by rfl) (hp : (backTo pos (starEach es env)).any (·.1) = false := by rfl) : Ev w A env ρ (.Call (.Name x np) (e :: es) [] pos) r := by
  refine ⟨?_⟩
  intro s nw Q E S k
  refine wpAny_Call_ofName (name_top S hx hg ?_ hd)
  show wpAny _ _ (callWith pos (.ref f) [] (backTo pos (starEach (e :: es) env)) []) Q E s
  obtain ⟨o, ho, hnd, hk1⟩ := keep_one hk
  refine callWith_K (one_in (S.gl.at ho hnd)) hk1 (ha pos s nw _ _ S fun vs s₁ nw₁ g₁ d₁ => ⟨one_in ((S.grow g₁).gl.at ho hnd), ?_⟩) he hp
  exact hf s₁ nw₁ vs _ _ (S.grow g₁).gl (S.grow g₁).stk g₁.has d₁ fun v s₂ nw₂ g₂ d₂ => k _ _ _ (g₁.trans g₂) d₂
theorem Ev.callB {x : Str} {np pos : Pos} {id : String} {e : Expr} {es : List Expr} {ds : List Dat} {r : Dat} (hx : nsIn (KK w) mainGlobals x = some none) (hv : bootBuiltins x = some (.builtin id)) (hn : x ≠ "__name__")
    (ha : Evs w A env ρ (e :: es) ds) (hf : Cl w A (.builtin id) ds r) (hg : env.kindOf x = some .globalImplicit) (hd : (x == ("__debug__" : Str)) = false := by decide)
    (he : starEach (e :: es) env = (false, eval e env) :: starEach es env := by rfl) (hp : (backTo pos (starEach es env)).any (·.1) = false := by rfl) : Ev w A env ρ (.Call (.Name x np) (e :: es) [] pos) r := by
  refine ⟨?_⟩
  intro s nw Q E S k
  refine wpAny_Call_ofName (name_boot S hx hv hn hg ?_ hd)
  show wpAny _ _ (callWith pos (.builtin id) [] (backTo pos (starEach (e :: es) env)) []) Q E s
  have h := ha pos s nw (fun vs s₁ => wpAny (model Prg w) A (call (.builtin id) vs) Q E s₁) E S fun vs s₁ nw₁ g₁ d₁ =>
    hf s₁ nw₁ vs _ _ (S.grow g₁).gl (S.grow g₁).stk g₁.has d₁ fun v s₂ nw₂ g₂ d₂ => k _ _ _ (g₁.trans g₂) d₂
  rw [he] at h ⊢
  exact callWith_builtin (by show (false || (backTo pos (starEach es env)).any (·.1)) = false; rw [hp]; rfl) (evalArgs_plain h)
theorem Ev.callT {x : Str} {np pos : Pos} {T : String} {e : Expr} {es : List Expr} {ds : List Dat} {r : Dat} (hx : nsIn (KK w) mainGlobals x = some none) (hv : bootBuiltins x = some (.type T)) (hn : x ≠ "__name__")
    (ha : Evs w A env ρ (e :: es) ds) (hf : Cl w A (.type T) ds r) (hg : env.kindOf x = some .globalImplicit) (hd : (x == ("__debug__" : Str)) = false := by decide)
    (he : starEach (e :: es) env = (false, eval e env) :: starEach es env := by rfl) (hp : (backTo pos (starEach es env)).any (·.1) = false := by rfl) : Ev w A env ρ (.Call (.Name x np) (e :: es) [] pos) r := by
  refine ⟨?_⟩
  intro s nw Q E S k
  refine wpAny_Call_ofName (name_boot S hx hv hn hg ?_ hd)
  show wpAny _ _ (callWith pos (.type T) [] (backTo pos (starEach (e :: es) env)) []) Q E s
  refine callWith_type1 (ha pos s nw _ _ S fun vs s₁ nw₁ g₁ d₁ => ?_) he hp
  exact hf s₁ nw₁ vs _ _ (S.grow g₁).gl (S.grow g₁).stk g₁.has d₁ fun v s₂ nw₂ g₂ d₂ => k _ _ _ (g₁.trans g₂) d₂

theorem datList {nw : Led} {v : Value} {ds : List Dat} (h : DatIn nw v (.list ds)) : ∃ a vs n, v = .ref a ∧ (a, listOf vs.toArray n) ∈ nw ∧ DatAll nw vs ds := by
  cases h with | list hm hr => exact ⟨_, _, _, rfl, hm, hr⟩
theorem datTuple {nw : Led} {v : Value} {ds : List Dat} (h : DatIn nw v (.tuple ds)) : ∃ a vs n, v = .ref a ∧ (a, ({ cls := .type "tuple", data := .seq vs.toArray n } : Obj)) ∈ nw ∧ DatAll nw vs ds := by
  cases h with | tuple hm hr => exact ⟨_, _, _, rfl, hm, hr⟩
theorem one {nw : Led} {vs : List Value} {d : Dat} (h : DatAll nw vs [d]) : ∃ v, vs = [v] ∧ DatIn nw v d := by
  cases h with | cons h r => cases r; exact ⟨_, rfl, h⟩
theorem two {nw : Led} {vs : List Value} {d e : Dat} (h : DatAll nw vs [d, e]) : ∃ v u, vs = [v, u] ∧ DatIn nw v d ∧ DatIn nw u e := by
  cases h with | cons h r => cases r with | cons h' r => cases r; exact ⟨_, _, rfl, h, h'⟩
theorem isList_at {h : Heap} {nw : Led} {a : Addr} {vs : List Value} {n : Nat} (H : Has h nw) (hm : (a, listOf vs.toArray n) ∈ nw) : h.IsList a vs.toArray := ⟨_, (H _ hm).1, rfl, n, rfl⟩
theorem isTup_at {h : Heap} {nw : Led} {a : Addr} {vs : List Value} {n : Nat} (H : Has h nw) (hm : (a, ({ cls := .type "tuple", data := .seq vs.toArray n } : Obj)) ∈ nw) : IsTup h a vs.toArray := ⟨_, (H _ hm).1, rfl, n, rfl⟩

theorem Cl.lenBytes {b : Array UInt8} (hz : b.size ≤ 1000) : Cl w A (.builtin "len") [.bytes b] (.int b.size) := by
  intro s nw vs Q E G KS H D k
  obtain ⟨v, rfl, hv⟩ := one D
  obtain ⟨t, rfl⟩ := datBytes hv
  exact len_bytes (by omega) (k _ _ nw (.toks H) (.int _ _))
theorem Cl.lenList {ds : List Dat} (hz : ds.length ≤ 1000) : Cl w A (.builtin "len") [.list ds] (.int ds.length) := by
  intro s nw vs Q E G KS H D k
  obtain ⟨v, rfl, hv⟩ := one D
  obtain ⟨a, ws, n, rfl, hm, hr⟩ := datList hv
  have e : ws.toArray.size = ds.length := by rw [List.size_toArray, hr.length]
  exact call_len_list (isList_at H hm) (by rw [e]; omega) (by rw [e]; exact k _ _ nw (.toks H) (.int _ _))
theorem intsAre_of {nw : Led} : ∀ {vs : List Value} {ns : List Int}, DatAll nw vs (ns.map .int) → IntsAre vs ns
  | [], [], _ => .nil
  | v :: vs, n :: ns, h => by
    cases h with | cons h r => obtain ⟨t, rfl⟩ := datInt h; exact .cons n t (intsAre_of r)
theorem Cl.bytes (hh : A.handled = none) {ns : List Int} (hr : ∀ n ∈ ns, 0 ≤ n ∧ n < 256) (hz : ns.length ≤ 1000) : Cl w A (.type "bytes") [.list (ns.map .int)] (.bytes (byteArr ns)) := by
  intro s nw vs Q E G KS H D k
  obtain ⟨v, rfl, hv⟩ := one D
  obtain ⟨a, ws, n, rfl, hm, hr'⟩ := datList hv
  have hi := intsAre_of hr'
  exact call_bytes_ints (isList_at H hm) hi hr (by rw [hi.length, sizeLine_eq]; omega) hh fun h' t j hk => k _ _ nw (.of_up H (.both hk)) (.bytes _ _)

theorem Bin.addList {ds es : List Dat} (hz : ds.length + es.length ≤ 1000) : Bin w A .Add (.list ds) (.list es) (.list (ds ++ es)) := by
  intro s nw v u Q E H hv hu k
  obtain ⟨a, vs, n, rfl, hm, hr⟩ := datList hv
  obtain ⟨b, ws, n', rfl, hm', hr'⟩ := datList hu
  have l1 := hr.length
  have l2 := hr'.length
  refine PySem.P.add_list (H _ hm).1 (H _ hm').1 ?_ (by rw [List.size_toArray, List.size_toArray, sizeLine_eq]; omega)
  have e : vs.toArray ++ ws.toArray = (vs ++ ws).toArray := by simp
  rw [e]
  have g := Grow.push H { cls := .type "list", data := .seq (vs ++ ws).toArray } ⟨_, _, rfl⟩
  exact k _ _ _ g (.list (n := 0) (.head _) ((hr.append hr').mono fun p hp => .tail _ hp))

/-- items -/
theorem noSlice {slice : Expr} {o i : Value} (h : ∀ o i, subscripted slice false o i = operate [o, i] (getItem o i)) : subscripted slice false o i = operate [o, i] (getItem o i) := h o i
theorem Ev.itemBytes {value slice : Expr} {pos : Pos} {l : List UInt8} {i : Int} (hv : Ev w A env ρ value (.bytes l.toArray)) (hi : Ev w A env ρ slice (.int i)) (h0 : 0 ≤ i) (h1 : i < l.length) (hz : l.length ≤ 1000)
    (hs : ∀ o i, subscripted slice false o i = operate [o, i] (getItem o i) := by intro _ _; rfl) : Ev w A env ρ (.Subscript value slice pos) (.int ((l.getD i.toNat 0).toNat : Nat)) := by
  refine ⟨?_⟩
  intro s nw Q E S k
  refine Subscript_ (hv.run s nw _ _ S fun v s₁ nw₁ g₁ d₁ => hi.run s₁ nw₁ _ _ (S.grow g₁) fun u s₂ nw₂ g₂ d₂ => ?_)
  obtain ⟨t, rfl⟩ := datBytes d₁
  obtain ⟨t', rfl⟩ := datInt d₂
  exact tail_any (typeIs_bytes _ _ _) FB.slot_bytes_getitem.lookup (getItem_bytes (by omega) h0 h1 (k _ _ nw₂ ((g₁.trans g₂).trans (.toks g₂.has)) (.int _ _))) (hs _ _)
theorem Ev.itemTuple {value slice : Expr} {pos : Pos} {ds : List Dat} {i : Int} {d : Dat} (hv : Ev w A env ρ value (.tuple ds)) (hi : Ev w A env ρ slice (.int i)) (h0 : 0 ≤ i) (h1 : i < 1000) (hd : ds[i.toNat]? = some d)
    (hs : ∀ o i, subscripted slice false o i = operate [o, i] (getItem o i) := by intro _ _; rfl) : Ev w A env ρ (.Subscript value slice pos) d := by
  refine ⟨?_⟩
  intro s nw Q E S k
  refine Subscript_ (hv.run s nw _ _ S fun v s₁ nw₁ g₁ d₁ => hi.run s₁ nw₁ _ _ (S.grow g₁) fun u s₂ nw₂ g₂ d₂ => ?_)
  obtain ⟨a, vs, n, rfl, hm, hr⟩ := datTuple d₁
  obtain ⟨t', rfl⟩ := datInt d₂
  have ht := isTup_at g₂.has (g₂.sub _ hm)
  have hl : i.toNat < ds.length := by
    rcases Nat.lt_or_ge i.toNat ds.length with h | h
    · exact h
    · rw [List.getElem?_eq_none h] at hd; cases hd
  obtain ⟨x, hx, hdx⟩ := hr.get hl
  have hj : seqIndex? i vs.toArray.size = some i.toNat := by
    have hn : ¬ i < 0 := by omega
    have : i < (vs.length : Int) := by rw [hr.length]; omega
    simp [seqIndex?, hn, h0, this]
  rw [List.getElem?_eq_getElem hl] at hd
  cases hd
  exact tail_any ht.typeIs PyProof.Rows.slot_tuple_getitem.lookup (getItem_tuple ht (by omega) (by omega) hj (by simpa using hx) (k _ _ nw₂ (g₁.trans g₂) (hdx.mono g₂.sub))) (hs _ _)
theorem Ev.itemList {value slice : Expr} {pos : Pos} {ds : List Dat} {i : Int} {d : Dat} (hv : Ev w A env ρ value (.list ds)) (hi : Ev w A env ρ slice (.int i)) (h0 : 0 ≤ i) (h1 : i < 1000) (hd : ds[i.toNat]? = some d)
    (hs : ∀ o i, subscripted slice false o i = operate [o, i] (getItem o i) := by intro _ _; rfl) : Ev w A env ρ (.Subscript value slice pos) d := by
  refine ⟨?_⟩
  intro s nw Q E S k
  refine Subscript_ (hv.run s nw _ _ S fun v s₁ nw₁ g₁ d₁ => hi.run s₁ nw₁ _ _ (S.grow g₁) fun u s₂ nw₂ g₂ d₂ => ?_)
  obtain ⟨a, vs, n, rfl, hm, hr⟩ := datList d₁
  obtain ⟨t', rfl⟩ := datInt d₂
  have ht := isList_at g₂.has (g₂.sub _ hm)
  have hl : i.toNat < ds.length := by
    rcases Nat.lt_or_ge i.toNat ds.length with h | h
    · exact h
    · rw [List.getElem?_eq_none h] at hd; cases hd
  obtain ⟨x, hx, hdx⟩ := hr.get hl
  rw [List.getElem?_eq_getElem hl] at hd
  cases hd
  exact tail_any ht.typeIs slot_list_getitem.lookup (wpAny_getItem_list ht h0 (by omega) (by simpa using hx) (k _ _ nw₂ (g₁.trans g₂) (hdx.mono g₂.sub))) (hs _ _)
theorem Ev.itemLast {value slice : Expr} {pos : Pos} {ds : List Dat} {d : Dat} (hv : Ev w A env ρ value (.list (ds ++ [d]))) (hi : Ev w A env ρ slice (.int (-1))) (hz : ds.length ≤ 1000)
    (hs : ∀ o i, subscripted slice false o i = operate [o, i] (getItem o i) := by intro _ _; rfl) : Ev w A env ρ (.Subscript value slice pos) d := by
  refine ⟨?_⟩
  intro s nw Q E S k
  refine Subscript_ (hv.run s nw _ _ S fun v s₁ nw₁ g₁ d₁ => hi.run s₁ nw₁ _ _ (S.grow g₁) fun u s₂ nw₂ g₂ d₂ => ?_)
  obtain ⟨a, vs, n, rfl, hm, hr⟩ := datList d₁
  obtain ⟨t', rfl⟩ := datInt d₂
  have ht := isList_at g₂.has (g₂.sub _ hm)
  have hl : ds.length < (ds ++ [d]).length := by simp
  obtain ⟨x, hx, hdx⟩ := hr.get hl
  have hlen := hr.length
  rw [List.length_append, List.length_singleton] at hlen
  have e : (ds ++ [d])[ds.length]'hl = d := by simp
  rw [e] at hdx
  refine tail_any ht.typeIs slot_list_getitem.lookup (wpAny_getItem_list_neg ht (by omega) (by rw [List.size_toArray, hlen]; omega) (by omega) (x := x) ?_ (k _ _ nw₂ (g₁.trans g₂) (hdx.mono g₂.sub))) (hs _ _)
  rw [List.size_toArray, hlen]
  have q : (-1 + ((ds.length + 1 : Nat) : Int)).toNat = ds.length := by omega
  rw [q]; simpa using hx

/-- cuts -/
noncomputable def Part (w : World) (A : Around) (env : Env) (ρ : Loc) : Option Expr → Option Int → Prop
  | none, none => True
  | some e, some i => Ev w A env ρ e (.int i)
  | _, _ => False
theorem part_eval {e : Option Expr} {i : Option Int} (h : Part w A env ρ e i) {s : Shared} {nw : Led} {Q : Value → Shared → Prop} {E : Value → Shared → Prop} (S : St w A env ρ s nw)
    (k : ∀ v s' nw', Grow s s' nw nw' → IsPart v i → Q v s') : wpAny (model Prg w) A (evalPart e env) Q E s := by
  cases e with
  | none => cases i with
    | none => rw [evalPart_none]; exact wpAny_pure (k _ _ _ (.refl S.has) .none)
    | some i => exact h.elim
  | some e => cases i with
    | none => exact h.elim
    | some i =>
      rw [evalPart_some]
      exact h.run s nw _ _ S fun v s' nw' g d => by obtain ⟨t, rfl⟩ := datInt d; exact k _ _ _ g (.int _ _)
theorem Ev.cutBytes {value : Expr} {lo hi : Option Expr} {p pos : Pos} {b : Array UInt8} {i j : Option Int} (hv : Ev w A env ρ value (.bytes b)) (hl : Part w A env ρ lo i) (hu : Part w A env ρ hi j) (hz : b.size ≤ 1000)
    (ht : ∀ o r, letTemporaryGo value o r = pure () := by intro _ _; rfl) : Ev w A env ρ (.Subscript value (.Slice lo hi none p) pos) (.bytes (KBy.picked b i j)) := by
  refine ⟨?_⟩
  intro s nw Q E S k
  refine wpAny_Subscript_Slice (T := "bytes") FB.slot_bytes_getitem.lookup (hv.run s nw _ _ S fun v s₁ nw₁ g₁ d₁ => ?_) ht
  refine wpAny_Slice (part_eval hl (S.grow g₁) fun vl s₂ nw₂ g₂ p₂ => part_eval hu ((S.grow g₁).grow g₂) fun vu s₃ nw₃ g₃ p₃ => ?_)
  rw [evalPart_none]
  obtain ⟨t, rfl⟩ := datBytes d₁
  have up : Up s₃ { s₃ with heap := s₃.heap.push { cls := .type "slice", data := .fields #[vl, vu, .none] } } := ⟨rfl, .of fun b o e => Heap.get?_push_of_some _ e⟩
  refine wpAny_pure ⟨typeIs_bytes _ _ _, getItem_meets (typeIs_bytes _ _ _) (by decide) FB.slot_bytes_getitem FB.entry_bytes_getitem (FB.args_bytes_getitem_2 _ _) (KBc.meets_slice2 b t _ p₂ p₃)
    ⟨Heap.IsSliceOf.new _ _ _ _, Nat.le_trans (KBc.size_picked_le b i j) (by rw [sizeLine_eq]; omega), fun t' j => ?_⟩⟩
  exact k _ _ nw₃ (((g₁.trans g₂).trans g₃).trans ((Grow.of_up g₃.has up).trans (.toks (Grow.of_up g₃.has up).has))) (.bytes _ _)
theorem DatAll.take {nw : Led} : ∀ {vs : List Value} {ds : List Dat} (n : Nat), DatAll nw vs ds → DatAll nw (vs.take n) (ds.take n)
  | _, _, 0, _ => by simp; exact .nil
  | _, _, n + 1, .nil => by simp; exact .nil
  | _, _, n + 1, .cons h r => by simp only [List.take_succ_cons]; exact .cons h (DatAll.take n r)
theorem DatAll.drop {nw : Led} : ∀ {vs : List Value} {ds : List Dat} (n : Nat), DatAll nw vs ds → DatAll nw (vs.drop n) (ds.drop n)
  | _, _, 0, h => by simpa using h
  | _, _, n + 1, .nil => by simp; exact .nil
  | _, _, n + 1, .cons h r => by simp only [List.drop_succ_cons]; exact DatAll.drop n r
omit [Inhabited Thr] in
noncomputable def cutL {α : Type} (ds : List α) (i j : Option Int) : List α := (ds.drop (i.elim 0 (clipAt ds.length))).take (j.elim ds.length (clipAt ds.length) - i.elim 0 (clipAt ds.length))
theorem Ev.cutList {value : Expr} {lo hi : Option Expr} {p pos : Pos} {ds : List Dat} {i j : Option Int} (hv : Ev w A env ρ value (.list ds)) (hl : Part w A env ρ lo i) (hu : Part w A env ρ hi j) (hz : ds.length ≤ 1000)
    (ht : ∀ o r, letTemporaryGo value o r = pure () := by intro _ _; rfl) : Ev w A env ρ (.Subscript value (.Slice lo hi none p) pos) (.list (cutL ds i j)) := by
  refine ⟨?_⟩
  intro s nw Q E S k
  refine wpAny_Subscript_Slice (T := "list") list_getitem_lookup (hv.run s nw _ _ S fun v s₁ nw₁ g₁ d₁ => ?_) ht
  refine wpAny_Slice (part_eval hl (S.grow g₁) fun vl s₂ nw₂ g₂ p₂ => part_eval hu ((S.grow g₁).grow g₂) fun vu s₃ nw₃ g₃ p₃ => ?_)
  rw [evalPart_none]
  obtain ⟨a, vs, n, rfl, hm, hr⟩ := datList d₁
  have up : Up s₃ { s₃ with heap := s₃.heap.push { cls := .type "slice", data := .fields #[vl, vu, .none] } } := ⟨rfl, .of fun b o e => Heap.get?_push_of_some _ e⟩
  have g₄ := Grow.of_up g₃.has up
  have hl := isList_at g₄.has (g₃.sub _ (g₂.sub _ hm))
  refine wpAny_pure ⟨hl.typeIs, wpAny_getItem_list_slice hl (Heap.IsSliceOf.new ..) p₂ p₃ .none (by simp) ?_ (by rw [List.size_toArray, hr.length, sizeLine_eq]; omega)⟩
  have g₅ := Grow.push g₄.has { cls := .type "list", data := .seq (slicePick vs.toArray i j none) } ⟨_, _, rfl⟩
  refine k _ _ _ (((g₁.trans g₂).trans g₃).trans (g₄.trans g₅)) ?_
  rw [slicePick_plain]
  refine .list (n := 0) (vs := (vs.drop (i.elim 0 (clipAt vs.length))).take (j.elim vs.length (clipAt vs.length) - i.elim 0 (clipAt vs.length))) ?_ ?_
  · simp only [List.toList_toArray, List.size_toArray]
    exact .head _
  · unfold cutL
    rw [← hr.length]
    exact DatAll.take _ (DatAll.drop _ (((hr.mono g₂.sub).mono g₃.sub).mono fun p hp => .tail _ hp))
end
end Mine
end

section
open PySem PySem.W PySem.Calls PyProof.Rows
set_option maxRecDepth 100000
namespace Mine
variable [Inhabited Thr]

omit [Inhabited Thr] in
noncomputable abbrev Own := Option (Str × List Dat)

omit [Inhabited Thr] in
noncomputable def OwnAt (env : Env) (s₀ s : Shared) (nw : Led) (x : Str) (ds : List Dat) : Prop :=
  ∃ a vs n, env.kindOf x = some .local ∧ (∃ m, s.heap.Ns env.locals m ∧ m x = some (.ref a)) ∧ s.heap.get? a = some (listOf vs.toArray n) ∧ DatAll nw vs ds ∧ (∀ p ∈ nw, p.1 ≠ a) ∧ s₀.heap.get? a = none

/-- a def's frame, midway -/
structure Fs (w : World) (A : Around) (env : Env) (s₀ : Shared) (nw₀ : Led) (ρ : Loc) (own : Own) (s : Shared) (nw : Led) : Prop where
  fits : Fits env
  gl₀ : Gl w s₀.heap
  stk : Stk A s.heap
  since : Grow s₀ s nw₀ nw
  fr : s₀.heap.get? env.locals = none
  ns : ∃ m, s.heap.Ns env.locals m
  cells : ∀ x c, env.cells.lookup x = some c → s₀.heap.get? c = none ∧ ∃ v, s.heap.IsCell c v
  apart : ∀ x c y c', env.cells.lookup x = some c → env.cells.lookup y = some c' → x ≠ y → c ≠ c'
  names : ∀ x d, look ρ x = some d → ∃ v, DatIn nw v d ∧ NameAt env s.heap x v
  own : ∀ x ds, own = some (x, ds) → OwnAt env s₀ s nw x ds

/-- a heap that differs at one place, where a namespace stays one -/
theorem Stk.but {A : Around} {h h' : Heap} {a : Addr} (x : Stk A h) (hs : Heap.SameBut a h h') (ha : ∀ m, h.Ns a m → ∃ m', h'.Ns a m') : Stk A h' := x.map fun L m n => by
  by_cases q : L = a
  · rw [q] at n ⊢; exact ha m n
  · exact ⟨m, n.sameBut hs q⟩
theorem notNs {h : Heap} {a : Addr} {o : Obj} (e : h.get? a = some o) (hn : ∀ es ep, o.data ≠ .dict es ep) {h' : Heap} : ∀ m, h.Ns a m → ∃ m', h'.Ns a m' := fun m n => by
  obtain ⟨o', es, ep, e', hd, _⟩ := n
  rw [e] at e'; cases e'; exact absurd hd (hn _ _)
/-- a baseline's heap kept, but for a place that it lacks -/
theorem Kp.but {h₀ h h' : Heap} (k : Kp h₀ h) {a : Addr} (h0 : h₀.get? a = Option.none) (hs : ∀ b o, b ≠ a → h.get? b = some o → h'.get? b = some o) : Kp h₀ h' := fun b o e => by
  obtain ⟨sl, e1, h1⟩ := k b o e
  exact ⟨sl, hs b _ (fun q => by rw [q, h0] at e; cases e) e1, h1⟩

section
variable {w : World} {A : Around} {env : Env} {s₀ : Shared} {nw₀ : Led} {ρ ρ' : Loc} {own : Own} {s : Shared} {nw : Led}

theorem Fs.st (S : Fs w A env s₀ nw₀ ρ own s nw) : St w A env ρ s nw := ⟨S.fits, S.gl₀.keeps S.since.up.keep, S.stk, S.since.has, S.names⟩
theorem Fs.grow (S : Fs w A env s₀ nw₀ ρ own s nw) {s' : Shared} {nw' : Led} (g : Grow s s' nw nw') : Fs w A env s₀ nw₀ ρ own s' nw' where
  fits := S.fits
  gl₀ := S.gl₀
  stk := S.stk.keeps g.up.keep
  since := S.since.trans g
  fr := S.fr
  ns := let ⟨m, h⟩ := S.ns; ⟨m, g.up.keep.ns h⟩
  cells := fun x c e => let ⟨a, v, h⟩ := S.cells x c e; ⟨a, v, g.up.keep.cell h⟩
  apart := S.apart
  names := (S.st.grow g).names
  own := fun x ds e => by
    obtain ⟨a, vs, n, hk, ⟨m, hm, hx⟩, ha, hd, hne, h0⟩ := S.own x ds e
    refine ⟨a, vs, n, hk, ⟨m, g.up.keep.ns hm, hx⟩, g.up.keep.at ha (fun _ _ q => by cases q), hd.mono g.sub, fun p hp q => ?_, h0⟩
    rcases g.new p hp with h | h
    · exact hne p h q
    · rw [q, ha] at h; cases h

omit [Inhabited Thr] in
noncomputable def AllIn : Loc → Loc → Prop
  | [], _ => True
  | (x, d) :: r, ρ => look ρ x = some d ∧ AllIn r ρ
theorem AllIn.look : ∀ {ρ' ρ : Loc}, AllIn ρ' ρ → ∀ x d, Mine.look ρ' x = some d → Mine.look ρ x = some d
  | (y, e) :: r, ρ, h, x, d, hl => by
    unfold Mine.look at hl
    split at hl
    · rename_i q; cases hl; subst q; exact h.1
    · exact h.2.look x d hl
theorem Fs.weaken (S : Fs w A env s₀ nw₀ ρ own s nw) (h : AllIn ρ' ρ) : Fs w A env s₀ nw₀ ρ' own s nw :=
  { S with names := fun x d e => S.names x d (h.look x d e) }
theorem Fs.disown (S : Fs w A env s₀ nw₀ ρ own s nw) : Fs w A env s₀ nw₀ ρ none s nw := { S with own := fun _ _ e => by cases e }

/-- a heap that differs at one place outside the ledger -/
theorem Fs.but (S : Fs w A env s₀ nw₀ ρ own s nw) {a : Addr} {o : Obj} (ha : s.heap.get? a = some o) (hq : ¬ IsSeq o) (h0 : s₀.heap.get? a = none) {h' : Heap} {tk : Nat} (hs : Heap.SameBut a s.heap h') :
    Grow s₀ { s with heap := h', toks := tk } nw₀ nw ∧ Has h' nw := by
  have has : Has h' nw := fun p hp => by
    refine ⟨(hs.2 p.1 fun q => ?_).trans (S.since.has p hp).1, (S.since.has p hp).2⟩
    have h1 := (S.since.has p hp).1
    have h2 := (S.since.has p hp).2
    rw [q, ha] at h1
    exact hq (Option.some.inj h1 ▸ h2)
  exact ⟨⟨⟨by rw [S.since.up.eq], S.since.up.keep.but h0 fun b o hb e => hs.extBut b o hb e⟩, S.since.sub, has, S.since.new⟩, has⟩

theorem notSeq_dict {o : Obj} {es ep} (h : o.data = .dict es ep) : ¬ IsSeq o := fun ⟨_, _, e⟩ => by rw [h] at e; cases e
theorem notSeq_cell {o : Obj} {v} (h : o.data = .cell v) : ¬ IsSeq o := fun ⟨_, _, e⟩ => by rw [h] at e; cases e

theorem Fs.store_keep (S : Fs w A env s₀ nw₀ ρ own s nw) {x : Str} {v : Value} {d : Dat} {Q : Unit → Shared → Prop} {E : Value → Shared → Prop} (hl : env.kindOf x = some .local) (hd : DatIn nw v d) (ho : ∀ y ds, own = some (y, ds) → y ≠ x)
    (k : ∀ s', Fs w A env s₀ nw₀ ((x, d) :: ρ) own s' nw → (∀ b o, s.heap.get? b = some o → IsSeq o → s'.heap.get? b = some o) → (∀ b m, b ≠ env.locals → s.heap.Ns b m → s'.heap.Ns b m) → Q () s') : wpAny (model Prg w) A (storeName env x v) Q E s := by
  obtain ⟨m, hns⟩ := S.ns
  obtain ⟨oL, es, ep, hL, hLd, _⟩ := id hns
  refine wpAny_storeName_local hl hns (fun h' hn' hs' => k _ ?_ (fun b o e hq => (hs'.2 b fun q => ?_).trans e) fun b m hb hm => hm.sameBut hs' hb) (by rw [S.fits.hk]; rfl)
  rotate_left
  · rw [q, hL] at e; rw [← Option.some.inj e] at hq; exact notSeq_dict hLd hq
  obtain ⟨g, has⟩ := S.but hL (notSeq_dict hLd) S.fr (tk := s.toks + 1) hs'
  have keepCell : ∀ c v, s.heap.IsCell c v → h'.IsCell c v := fun c v hc => hc.sameBut hs' fun q => by
    obtain ⟨o, ho, hd⟩ := hc
    rw [q, hL] at ho
    cases ho
    rw [hLd] at hd; cases hd
  refine ⟨S.fits, S.gl₀, S.stk.but hs' (fun _ _ => ⟨_, hn'⟩), g, S.fr, ⟨_, hn'⟩, fun y c e => ?_, S.apart, fun y dy e => ?_, fun y ds e => ?_⟩
  · obtain ⟨a, v', hc⟩ := S.cells y c e
    exact ⟨a, v', keepCell c v' hc⟩
  · unfold look at e
    split at e
    · rename_i q
      cases e
      subst q
      exact ⟨v, hd, .inl ⟨hl, _, hn', by simp⟩⟩
    · rename_i q
      obtain ⟨u, hu, hn⟩ := S.names y dy e
      refine ⟨u, hu, ?_⟩
      rcases hn with ⟨ha, m', hm', hy⟩ | ⟨ha, c, hc, hcc⟩
      · refine .inl ⟨ha, _, hn', ?_⟩
        show (if y = x then some v else m y) = some u
        rw [if_neg q, ← hy]
        exact hns.agree hm' y
      · exact .inr ⟨ha, c, hc, keepCell c _ hcc⟩
  · obtain ⟨a, vs, n, hk, ⟨m', hm', hy⟩, ha, hds, hne, h0⟩ := S.own y ds e
    refine ⟨a, vs, n, hk, ⟨_, hn', ?_⟩, (hs'.2 a fun q => ?_).trans ha, hds, hne, h0⟩
    · show (if y = x then some v else m y) = some (.ref a)
      rw [if_neg (ho y ds e), ← hy]
      exact hns.agree hm' y
    · rw [q, hL] at ha; cases ha; cases hLd

theorem Fs.store_local (S : Fs w A env s₀ nw₀ ρ own s nw) {x : Str} {v : Value} {d : Dat} {Q : Unit → Shared → Prop} {E : Value → Shared → Prop} (hl : env.kindOf x = some .local) (hd : DatIn nw v d) (ho : ∀ y ds, own = some (y, ds) → y ≠ x)
    (k : ∀ s', Fs w A env s₀ nw₀ ((x, d) :: ρ) own s' nw → Q () s') : wpAny (model Prg w) A (storeName env x v) Q E s := S.store_keep hl hd ho fun s' S' _ _ => k s' S'
/-- a new list becomes the frame's own -/
theorem Fs.store_own (S : Fs w A env s₀ nw₀ ρ none s nw) {x : Str} {a : Addr} {vs : List Value} {n : Nat} {ds : List Dat} {Q : Unit → Shared → Prop} {E : Value → Shared → Prop} (hl : env.kindOf x = some .local) (hx : look ρ x = none)
    (ha : s.heap.get? a = some (listOf vs.toArray n)) (hds : DatAll nw vs ds) (hne : ∀ p ∈ nw, p.1 ≠ a) (h0 : s₀.heap.get? a = none)
    (k : ∀ s', Fs w A env s₀ nw₀ ρ (some (x, ds)) s' nw → Q () s') : wpAny (model Prg w) A (storeName env x (.ref a)) Q E s := by
  obtain ⟨m, hns⟩ := S.ns
  refine wpAny_storeName_local hl hns (fun h' hn' hs' => k _ ?_) (by rw [S.fits.hk]; rfl)
  obtain ⟨oL, es, ep, hL, hLd, _⟩ := id hns
  obtain ⟨g, has⟩ := S.but hL (notSeq_dict hLd) S.fr (tk := s.toks + 1) hs'
  have keepCell : ∀ c v, s.heap.IsCell c v → h'.IsCell c v := fun c v hc => hc.sameBut hs' fun q => by
    obtain ⟨o, ho, hd⟩ := hc
    rw [q, hL] at ho
    cases ho
    rw [hLd] at hd; cases hd
  refine ⟨S.fits, S.gl₀, S.stk.but hs' (fun _ _ => ⟨_, hn'⟩), g, S.fr, ⟨_, hn'⟩, fun y c e => ?_, S.apart, fun y dy e => ?_, fun y ds' e => ?_⟩
  · obtain ⟨a, v', hc⟩ := S.cells y c e
    exact ⟨a, v', keepCell c v' hc⟩
  · obtain ⟨u, hu, hn⟩ := S.names y dy e
    have q : y ≠ x := fun q => by rw [q, hx] at e; cases e
    refine ⟨u, hu, ?_⟩
    rcases hn with ⟨ha, m', hm', hy⟩ | ⟨ha, c, hc, hcc⟩
    · refine .inl ⟨ha, _, hn', ?_⟩
      show (if y = x then some (Value.ref a) else m y) = some u
      rw [if_neg q, ← hy]
      exact hns.agree hm' y
    · exact .inr ⟨ha, c, hc, keepCell c _ hcc⟩
  · cases e
    refine ⟨a, vs, n, hl, ⟨_, hn', ?_⟩, (hs'.2 a fun q => ?_).trans ha, hds, hne, h0⟩
    · show (if x = x then some (Value.ref a) else m x) = some (.ref a)
      rw [if_pos rfl]
    · rw [q, hL] at ha; cases ha; cases hLd

theorem Fs.store_cell_keep (S : Fs w A env s₀ nw₀ ρ own s nw) {x : Str} {c : Addr} {v : Value} {d : Dat} {Q : Unit → Shared → Prop} {E : Value → Shared → Prop} (hl : env.kindOf x = some .cell) (hc : env.cells.lookup x = some c) (hd : DatIn nw v d)
    (k : ∀ s', Fs w A env s₀ nw₀ ((x, d) :: ρ) own s' nw → (∀ b m, b ≠ env.locals → s.heap.Ns b m → s'.heap.Ns b m) → Q () s') : wpAny (model Prg w) A (storeName env x v) Q E s := by
  obtain ⟨h0, v₀, hc₀⟩ := S.cells x c hc
  refine wpAny_storeName_cell S.fits.hk hl hc hc₀ fun h' hc' hs' => k _ ?_ fun b m hb hm => hm.sameBut hs' fun q => by
    obtain ⟨o, es, ep, e, hd, _⟩ := hm
    obtain ⟨o', e', hd'⟩ := hc₀
    rw [q, e'] at e; cases e; rw [hd'] at hd; cases hd
  obtain ⟨m, hns⟩ := S.ns
  obtain ⟨oc, hoc, hdc⟩ := id hc₀
  obtain ⟨oL, es, ep, hL, hLd, _⟩ := id hns
  obtain ⟨g, has⟩ := S.but hoc (notSeq_cell hdc) h0 (tk := s.toks) hs'
  have hLc : env.locals ≠ c := fun q => by rw [← q, hL] at hoc; cases hoc; rw [hLd] at hdc; cases hdc
  refine ⟨S.fits, S.gl₀, S.stk.but hs' (notNs hoc fun _ _ q => by rw [hdc] at q; cases q), g, S.fr, ⟨_, hns.sameBut hs' hLc⟩, fun y c' e => ?_, S.apart, fun y dy e => ?_, fun y ds e => ?_⟩
  · obtain ⟨a, v', hc''⟩ := S.cells y c' e
    refine ⟨a, ?_⟩
    by_cases q : c' = c
    · rw [q]; exact ⟨_, hc'⟩
    · exact ⟨v', hc''.sameBut hs' q⟩
  · unfold look at e
    split at e
    · rename_i q
      cases e
      subst q
      exact ⟨v, hd, .inr ⟨hl, c, hc, hc'⟩⟩
    · rename_i q
      obtain ⟨u, hu, hn⟩ := S.names y dy e
      refine ⟨u, hu, ?_⟩
      rcases hn with ⟨ha, m', hm', hy⟩ | ⟨ha, c₂, hc₂, hcc⟩
      · exact .inl ⟨ha, m', hm'.sameBut hs' hLc, hy⟩
      · exact .inr ⟨ha, c₂, hc₂, hcc.sameBut hs' (S.apart _ _ _ _ hc₂ hc q)⟩
  · obtain ⟨a, vs, n, hk, ⟨m', hm', hy⟩, ha, hds, hne, h0⟩ := S.own y ds e
    refine ⟨a, vs, n, hk, ⟨m', hm'.sameBut hs' hLc, hy⟩, (hs'.2 a fun q => ?_).trans ha, hds, hne, h0⟩
    rw [q, hoc] at ha; cases ha; cases hdc

theorem Fs.store_cell (S : Fs w A env s₀ nw₀ ρ own s nw) {x : Str} {c : Addr} {v : Value} {d : Dat} {Q : Unit → Shared → Prop} {E : Value → Shared → Prop} (hl : env.kindOf x = some .cell) (hc : env.cells.lookup x = some c) (hd : DatIn nw v d)
    (k : ∀ s', Fs w A env s₀ nw₀ ((x, d) :: ρ) own s' nw → Q () s') : wpAny (model Prg w) A (storeName env x v) Q E s := S.store_cell_keep hl hc hd fun s' S' _ => k s' S'

/-- the owned list joins the ledger -/
theorem Fs.release {x : Str} {ds : List Dat} (S : Fs w A env s₀ nw₀ ρ (some (x, ds)) s nw) : ∃ nw', Fs w A env s₀ nw₀ ((x, .list ds) :: ρ) none s nw' := by
  obtain ⟨a, vs, n, hk, ⟨m, hm, hx⟩, ha, hds, hne, h0⟩ := S.own x ds rfl
  refine ⟨(a, listOf vs.toArray n) :: nw, S.fits, S.gl₀, S.stk, ⟨S.since.up, fun p hp => .tail _ (S.since.sub p hp), fun p hp => ?_, fun p hp => ?_⟩, S.fr, S.ns, S.cells, S.apart, fun y d e => ?_, fun _ _ e => by cases e⟩
  · rcases List.mem_cons.mp hp with rfl | hp
    · exact ⟨ha, _, _, rfl⟩
    · exact S.since.has p hp
  · rcases List.mem_cons.mp hp with rfl | hp
    · exact .inr h0
    · exact S.since.new p hp
  · have up : ∀ p ∈ nw, p ∈ (a, listOf vs.toArray n) :: nw := fun p hp => .tail _ hp
    unfold look at e
    split at e
    · rename_i q
      cases e
      subst q
      exact ⟨.ref a, .list (.head _) (hds.mono up), .inl ⟨hk, m, hm, hx⟩⟩
    · obtain ⟨u, hu, hn⟩ := S.names y d e
      exact ⟨u, hu.mono up, hn⟩
end

/-- a baseline anew: all that stands now but the frame, its cells and the owned list -/
theorem Fs.rebase {w : World} {A : Around} {env : Env} {s₀ : Shared} {nw₀ : Led} {ρ : Loc} {own : Own} {s : Shared} {nw : Led} (S : Fs w A env s₀ nw₀ ρ own s nw) :
    ∃ s₁, Grow s₀ s₁ nw₀ nw ∧ Fs w A env s₁ nw ρ own s nw ∧ ∀ b o vs, s.heap.get? b = some o → o.data = .fields vs → s₁.heap.get? b = some o := by
  obtain ⟨m, oL, es, ep, hL, hLd, _⟩ := S.ns
  have hown : ∃ as : List Addr, (∀ a ∈ as, s₀.heap.get? a = none ∧ (∀ p ∈ nw, p.1 ≠ a) ∧ ∃ o, s.heap.get? a = some o ∧ IsSeq o) ∧ ∀ x ds, own = some (x, ds) → ∃ a vs n, a ∈ as ∧ env.kindOf x = some .local ∧ (∃ m, s.heap.Ns env.locals m ∧ m x = some (.ref a)) ∧ s.heap.get? a = some (listOf vs.toArray n) ∧ DatAll nw vs ds ∧ (∀ p ∈ nw, p.1 ≠ a) := by
    cases own with
    | none => exact ⟨[], fun a h => (nomatch h), fun x ds e => by cases e⟩
    | some q =>
      obtain ⟨a, vs, n, hk, hm, ha, hds, hne, h0⟩ := S.own q.1 q.2 rfl
      refine ⟨[a], fun b hb => ?_, fun x ds e => ?_⟩
      · rw [List.mem_singleton.mp hb]; exact ⟨h0, hne, _, ha, _, _, rfl⟩
      · cases e; exact ⟨a, vs, n, List.mem_singleton.mpr rfl, hk, hm, ha, hds, hne⟩
  obtain ⟨as, has, hown⟩ := hown
  have hcell : ∀ c ∈ env.cells.map (·.2), ∃ x, (x, c) ∈ env.cells := fun c hc => by
    obtain ⟨p, hp, rfl⟩ := List.mem_map.mp hc; exact ⟨p.1, hp⟩
  -- the cells that a name finds
  let cs : List Addr := (env.cells.filter fun p => env.cells.lookup p.1 == some p.2).map (·.2)
  have hcs : ∀ c ∈ cs, s₀.heap.get? c = none ∧ ∃ v, s.heap.IsCell c v := fun c hc => by
    obtain ⟨p, hp, rfl⟩ := List.mem_map.mp hc
    have := (List.mem_filter.mp hp).2
    exact S.cells p.1 p.2 (by simpa using this)
  have hcin : ∀ x c, env.cells.lookup x = some c → c ∈ cs := fun x c e => by
    refine List.mem_map.mpr ⟨(x, c), List.mem_filter.mpr ⟨?_, by simpa using e⟩, rfl⟩
    have : ∀ (l : List (Str × Addr)), l.lookup x = some c → (x, c) ∈ l := by
      intro l
      induction l with
      | nil => intro e; cases e
      | cons q l ih =>
        intro e
        rw [List.lookup_cons] at e
        split at e
        · rename_i h
          cases e
          have : x = q.1 := by simpa using h
          rw [this]; exact .head _
        · exact .tail _ (ih e)
    exact this _ e
  let hid := env.locals :: (cs ++ as)
  have h0 : ∀ a ∈ hid, s₀.heap.get? a = none := fun a ha => by
    rcases List.mem_cons.mp ha with rfl | ha
    · exact S.fr
    · rcases List.mem_append.mp ha with ha | ha
      · exact (hcs a ha).1
      · exact (has a ha).1
  have hnw : ∀ p ∈ nw, p.1 ∉ hid := fun p hp ha => by
    obtain ⟨e, xs, n, hq⟩ := S.since.has p hp
    rcases List.mem_cons.mp ha with q | ha
    · rw [q, hL] at e; cases e; rw [hLd] at hq; cases hq
    · rcases List.mem_append.mp ha with ha | ha
      · obtain ⟨_, v, o, ho, hd⟩ := hcs _ ha
        rw [e] at ho; cases ho; rw [hd] at hq; cases hq
      · exact (has _ ha).2.1 p hp rfl
  have hfld : ∀ b o vs, s.heap.get? b = some o → o.data = .fields vs → b ∉ hid := fun b o vs e hd ha => by
    rcases List.mem_cons.mp ha with q | ha
    · rw [q, hL] at e; cases e; rw [hLd] at hd; cases hd
    · rcases List.mem_append.mp ha with ha | ha
      · obtain ⟨_, v, o', ho, hd'⟩ := hcs _ ha
        rw [e] at ho; cases ho; rw [hd'] at hd; cases hd
      · obtain ⟨_, _, o', ho, xs, n, hd'⟩ := has _ ha
        rw [e] at ho; cases ho; rw [hd'] at hd; cases hd
  let s₁ : Shared := { s with heap := hideAll s.heap hid }
  have g₁ : Grow s₀ s₁ nw₀ nw := by
    refine ⟨⟨by show s₁ = _; rw [show s₁ = { s with heap := hideAll s.heap hid } from rfl, S.since.up.eq], fun b o e => ?_⟩, S.since.sub, fun p hp => ⟨hideAll_get _ (S.since.has p hp).1 (hnw p hp), (S.since.has p hp).2⟩, S.since.new⟩
    obtain ⟨sl, e1, e2⟩ := S.since.up.keep b o e
    exact ⟨sl, hideAll_get _ e1 (fun ha => by rw [h0 b ha] at e; cases e), e2⟩
  refine ⟨s₁, g₁, ⟨S.fits, S.gl₀.keeps g₁.up.keep, S.stk, ⟨⟨rfl, .of fun b o e => of_hideAll _ e⟩, fun _ h => h, S.since.has, fun _ h => .inl h⟩, hideAll_none _ (.head _), S.ns, fun x c e => ⟨hideAll_none _ (.tail _ (List.mem_append_left _ (hcin x c e))), (S.cells x c e).2⟩, S.apart, S.names, fun x ds e => ?_⟩,
    fun b o vs e hd => hideAll_get _ e (hfld b o vs e hd)⟩
  obtain ⟨a, vs, n, hin, hk, hm, ha, hds, hne⟩ := hown x ds e
  exact ⟨a, vs, n, hk, hm, ha, hds, hne, hideAll_none _ (.tail _ (List.mem_append_right _ hin))⟩

/-- a step outside the frame, its cells, the owned list and the ledger -/
theorem Fs.other {w : World} {A : Around} {env : Env} {s₀ : Shared} {nw₀ : Led} {ρ : Loc} {own : Own} {s : Shared} {nw : Led} (S : Fs w A env s₀ nw₀ ρ own s nw) {wr : List Addr} (hw : ∀ b ∈ wr, s₀.heap.get? b = none ∧ ∃ o vs, s.heap.get? b = some o ∧ o.data = .fields vs)
    {s' : Shared} (he : s' = { s with heap := s'.heap, toks := s'.toks }) (hk : ∀ b o, b ∉ wr → s.heap.get? b = some o → s'.heap.get? b = some o) : Fs w A env s₀ nw₀ ρ own s' nw := by
  have nf : ∀ {b o}, s.heap.get? b = some o → (∀ vs, o.data ≠ .fields vs) → s'.heap.get? b = some o := fun {b o} e h => hk b o (fun hb => by
    obtain ⟨_, o', vs, e', hd⟩ := hw b hb
    rw [e] at e'; cases e'; exact h vs hd) e
  have hcell : ∀ c v, s.heap.IsCell c v → s'.heap.IsCell c v := fun c v ⟨o, e, hd⟩ => ⟨o, nf e (fun vs h => by rw [hd] at h; cases h), hd⟩
  have hns : ∀ m, s.heap.Ns env.locals m → s'.heap.Ns env.locals m := fun m ⟨o, es, ep, e, hd, r⟩ => ⟨o, es, ep, nf e (fun vs h => by rw [hd] at h; cases h), hd, r⟩
  refine ⟨S.fits, S.gl₀, S.stk.map (fun L m n => ⟨m, let ⟨o, es, ep, e, hd, r⟩ := n; ⟨o, es, ep, nf e (fun vs h => by rw [hd] at h; cases h), hd, r⟩⟩), ⟨⟨by rw [he, S.since.up.eq], fun b o e => ?_⟩, S.since.sub, fun p hp => ?_, S.since.new⟩, S.fr, let ⟨m, h⟩ := S.ns; ⟨m, hns m h⟩, fun x c e => let ⟨a, v, h⟩ := S.cells x c e; ⟨a, v, hcell c v h⟩, S.apart, fun x d e => ?_, fun x ds e => ?_⟩
  · obtain ⟨sl, e1, e2⟩ := S.since.up.keep b o e
    exact ⟨sl, hk b _ (fun hb => by rw [(hw b hb).1] at e; cases e) e1, e2⟩
  · obtain ⟨e, xs, n, hd⟩ := S.since.has p hp
    exact ⟨nf e (fun vs h => by rw [hd] at h; cases h), xs, n, hd⟩
  · obtain ⟨v, hv, hn⟩ := S.names x d e
    exact ⟨v, hv, hn.imp (fun ⟨a, m, b, c⟩ => ⟨a, m, hns m b, c⟩) fun ⟨a, c, b, d⟩ => ⟨a, c, b, hcell c _ d⟩⟩
  · obtain ⟨a, vs, n, hk', ⟨m, hm, hx⟩, ha, hds, hne, h0⟩ := S.own x ds e
    exact ⟨a, vs, n, hk', ⟨m, hns m hm, hx⟩, nf ha (fun vs h => by cases h), hds, hne, h0⟩

/-- a block of statements: where it falls through (N), gives back (R), raises (X) -/
structure Ex (w : World) (A : Around) (env : Env) (R : Dat → Prop) (X : Shared → Led → Value → Shared → Prop) (ρ : Loc) (own : Own) (body : List Stmt) (N : Loc → Own → Prop) : Prop where
  run : ∀ (s₀ : Shared) (nw₀ : Led) (s : Shared) (nw : Led) (Q : Flow → Shared → Prop) (E : Value → Shared → Prop), Fs w A env s₀ nw₀ ρ own s nw →
    (∀ ρ' own' s' nw', N ρ' own' → Fs w A env s₀ nw₀ ρ' own' s' nw' → Q .next s') →
    (∀ d v s' nw', R d → Grow s₀ s' nw₀ nw' → DatIn nw' v d → Q (.ret v) s') →
    (∀ e s', X s₀ nw₀ e s' → E e s') → wpAny (model Prg w) A (execs body env) Q E s

section
variable {w : World} {A : Around} {env : Env} {R : Dat → Prop} {X : Shared → Led → Value → Shared → Prop} {ρ : Loc} {own : Own} {rest : List Stmt} {N : Loc → Own → Prop}

theorem Ex.nil (h : N ρ own) : Ex w A env R X ρ own [] N := ⟨fun s₀ nw₀ s nw Q E S kn kr kx => wpAny_execs_nil (kn _ _ _ _ h S)⟩
theorem wpAny_cons {st : Stmt} {rest : List Stmt} {s : Shared} {Q : Flow → Shared → Prop} {E : Value → Shared → Prop}
    (h : wpAny (model Prg w) A (exec st env) (fun f s' => match f with | .next => wpAny (model Prg w) A (execs rest env) Q E s' | f => Q f s') E s) : wpAny (model Prg w) A (execs (st :: rest) env) Q E s := by
  rw [execs_cons]
  refine wpAny_bind (wpAny_mono h (fun f s' hf => ?_) fun _ _ e => e)
  cases f with
  | next => exact hf
  | brk => exact wpAny_pure hf
  | cont => exact wpAny_pure hf
  | ret v => exact wpAny_pure hf

theorem Ex.assign {x : Str} {px pos : Pos} {e : Expr} {d : Dat} (he : Ev w A env ρ e d) (hr : Ex w A env R X ((x, d) :: ρ) own rest N) (ho : ∀ y ds, own = some (y, ds) → y ≠ x) (hl : env.kindOf x = some .local := by rfl)
    (hs : swapsWith e (some (.Name x px)) pos.line env = pure false := by rfl) : Ex w A env R X ρ own (.Assign [.Name x px] e pos :: rest) N := by
  refine ⟨?_⟩
  intro s₀ nw₀ s nw Q E S kn kr kx
  refine wpAny_cons (wpAny_Assign_Name (he.run s nw _ _ S.st fun v s₁ nw₁ g₁ d₁ => ?_) hs)
  exact (S.grow g₁).store_local hl d₁ ho fun s₂ S₂ => (hr).run s₀ nw₀ s₂ nw₁ Q E S₂ kn kr kx
theorem Ex.assignCell {x : Str} {c : Addr} {px pos : Pos} {e : Expr} {d : Dat} (he : Ev w A env ρ e d) (hr : Ex w A env R X ((x, d) :: ρ) own rest N) (hl : env.kindOf x = some .cell) (hc : env.cells.lookup x = some c)
    (hs : swapsWith e (some (.Name x px)) pos.line env = pure false) : Ex w A env R X ρ own (.Assign [.Name x px] e pos :: rest) N := by
  refine ⟨?_⟩
  intro s₀ nw₀ s nw Q E S kn kr kx
  refine wpAny_cons (wpAny_Assign_Name (he.run s nw _ _ S.st fun v s₁ nw₁ g₁ d₁ => ?_) hs)
  exact (S.grow g₁).store_cell hl hc d₁ fun s₂ S₂ => (hr).run s₀ nw₀ s₂ nw₁ Q E S₂ kn kr kx

theorem Ex.ret {e : Expr} {pos : Pos} {d : Dat} (he : Ev w A env ρ e d) (hR : R d) : Ex w A env R X ρ own (.Return (some e) pos :: rest) N := by
  refine ⟨?_⟩
  intro s₀ nw₀ s nw Q E S kn kr kx
  exact wpAny_cons (wpAny_Return_some (he.run s nw _ _ S.st fun v s₁ nw₁ g₁ d₁ => kr d v s₁ nw₁ hR (S.since.trans g₁) d₁))
theorem Ex.release {x : Str} {ds : List Dat} {body : List Stmt} (h : Ex w A env R X ((x, .list ds) :: ρ) none body N) : Ex w A env R X ρ (some (x, ds)) body N := by
  refine ⟨?_⟩
  intro s₀ nw₀ s nw Q E S kn kr kx
  obtain ⟨nw', S'⟩ := S.release
  exact (h).run s₀ nw₀ s nw' Q E S' kn kr kx
theorem Ex.weaken {ρ' : Loc} {body : List Stmt} (h : Ex w A env R X ρ' own body N) (ha : AllIn ρ' ρ) : Ex w A env R X ρ own body N :=
  ⟨fun s₀ nw₀ s nw Q E S kn kr kx => (h).run s₀ nw₀ s nw Q E (S.weaken ha) kn kr kx⟩
theorem Ex.mono {N' : Loc → Own → Prop} {body : List Stmt} (h : Ex w A env R X ρ own body N') (hn : ∀ ρ o, N' ρ o → N ρ o) : Ex w A env R X ρ own body N :=
  ⟨fun s₀ nw₀ s nw Q E S kn kr kx => (h).run s₀ nw₀ s nw Q E S (fun ρ' o' s' nw' x => kn ρ' o' s' nw' (hn _ _ x)) kr kx⟩

/-- both ways meet in N' -/
theorem Ex.ite {t : Expr} {body orelse : List Stmt} {pos : Pos} {b : Bool} {N' : Loc → Own → Prop} (ht : Tr w A env ρ t b) (h1 : b = true → Ex w A env R X ρ own body N') (h2 : b = false → Ex w A env R X ρ own orelse N')
    (hr : ∀ ρ' own', N' ρ' own' → Ex w A env R X ρ' own' rest N) : Ex w A env R X ρ own (.If t body orelse pos :: rest) N := by
  refine ⟨?_⟩
  intro s₀ nw₀ s nw Q E S kn kr kx
  refine wpAny_cons (wpAny_If (ht.run s nw _ _ S.st fun s₁ nw₁ g₁ => ?_))
  have S₁ := S.grow g₁
  cases b with
  | true =>
    simp only [if_true]
    exact (h1 rfl).run s₀ nw₀ s₁ nw₁ _ _ S₁ (fun ρ' o' s' nw' hn S' => (hr ρ' o' hn).run s₀ nw₀ s' nw' Q E S' kn kr kx) kr kx
  | false =>
    simp only [Bool.false_eq_true, if_false]
    exact (h2 rfl).run s₀ nw₀ s₁ nw₁ _ _ S₁ (fun ρ' o' s' nw' hn S' => (hr ρ' o' hn).run s₀ nw₀ s' nw' Q E S' kn kr kx) kr kx
/-- an if whose body leaves -/
theorem Ex.ifLeave {t : Expr} {body : List Stmt} {pos : Pos} {b : Bool} (ht : Tr w A env ρ t b) (h1 : b = true → Ex w A env R X ρ own body fun _ _ => False) (hr : b = false → Ex w A env R X ρ own rest N) :
    Ex w A env R X ρ own (.If t body [] pos :: rest) N := by
  cases b with
  | true => exact Ex.ite (N' := fun _ _ => False) ht h1 (fun e => by cases e) fun _ _ h => h.elim
  | false => exact Ex.ite (N' := fun ρ' o' => ρ' = ρ ∧ o' = own) ht (fun e => by cases e) (fun _ => .nil ⟨rfl, rfl⟩) fun _ _ h => by rw [h.1, h.2]; exact hr rfl
end
end Mine
end

section
open PySem PySem.W PySem.Calls PyProof.Rows
set_option maxRecDepth 100000
namespace Mine
variable [Inhabited Thr]

omit [Inhabited Thr] in
/-- a state that differs in the listed places and by what is new -/
structure Near (wr : List Addr) (s s' : Shared) : Prop where
  eq : s' = { s with heap := s'.heap, toks := s'.toks }
  keep : ∀ b o, b ∉ wr → s.heap.get? b = some o → s'.heap.get? b = some o

/-- what a for draws: at I, over these items, which nw₀ bears -/
structure Src (w : World) (A : Around) (target : Expr) (nw₀ : Led) (I : Addr) (wr fp : List Addr) (items : List Dat) (St : Nat → Heap → Prop) : Prop where
  frame : ∀ i h h', St i h → (∀ b ∈ fp, ∀ o, h.get? b = some o → h'.get? b = some o) → St i h'
  flds : ∀ i h, St i h → ∀ b ∈ wr, ∃ o vs, h.get? b = some o ∧ o.data = .fields vs
  item : ∀ i d (s : Shared) (nw : Led) (Q : Value → Shared → Prop) (E : Value → Shared → Prop), items[i]? = some d → Has s.heap nw → (∀ p ∈ nw₀, p ∈ nw) → St i s.heap →
    (∀ v s' nw', Near wr s s' → (∀ p ∈ nw, p ∈ nw') → Has s'.heap nw' → (∀ p ∈ nw', p ∈ nw ∨ s.heap.get? p.1 = none) → St (i + 1) s'.heap → DatIn nw' v d → Q v s') →
    wpAny (model Prg w) A (pyNext (.ref I)) (fun r s₁ => ∃ v, r = some v ∧ wpAny (model Prg w) A (letOwnedTupleGo target (.ref I) v) (fun _ s' => Q v s') E s₁) E s
  done : ∀ (s : Shared) (Q : Shared → Prop) (E : Value → Shared → Prop), St items.length s.heap → (∀ s', Near wr s s' → Q s') → wpAny (model Prg w) A (pyNext (.ref I)) (fun r s' => r = none ∧ Q s') E s
  self : ∀ i (s : Shared) (Q : Value → Shared → Prop) (E : Value → Shared → Prop), St i s.heap → Q (.ref I) s → wpAny (model Prg w) A (pyIter (.ref I)) Q E s

/-- what iter() of a datum gives -/
noncomputable def Iter (w : World) (A : Around) (target : Expr) (d : Dat) (items : List Dat) : Prop :=
  ∀ (s : Shared) (nw : Led) (v : Value) (Q : Value → Shared → Prop) (E : Value → Shared → Prop), Has s.heap nw → DatIn nw v d →
    (∀ I s' wr fp St, Grow s s' nw nw → Src w A target nw I wr fp items St → (∀ b ∈ wr, s.heap.get? b = none) → (∀ b ∈ fp, b ∈ wr ∨ ∃ o, (b, o) ∈ nw) → St 0 s'.heap → Q (.ref I) s') → wpAny (model Prg w) A (pyIter v) Q E s

section
variable {w : World} {A : Around} {target : Expr}

theorem near_of {wr : List Addr} {s : Shared} {h' : Heap} {tk : Nat} (hk : ∀ b o, b ∉ wr → s.heap.get? b = some o → h'.get? b = some o) : Near wr s { s with heap := h', toks := tk } := ⟨rfl, hk⟩
theorem lt_of_get {α : Type} {l : List α} {i : Nat} {d : α} (hd : l[i]? = some d) : i < l.length := by
  rcases Nat.lt_or_ge i l.length with h | h
  · exact h
  · rw [List.getElem?_eq_none h] at hd; cases hd

omit [Inhabited Thr] in
noncomputable def Plain (target : Expr) : Prop := (∃ x p, target = .Name x p)
theorem owned_plain {M : Model} {E : Value → Shared → Prop} {s : Shared} {it v : Value} {Q : Unit → Shared → Prop} {x : Str} {p : Pos} (h : Q () s) : wpAny M A (letOwnedTupleGo (.Name x p) it v) Q E s := by
  unfold letOwnedTupleGo; exact wpAny_pure h
omit [Inhabited Thr] in
/-- an iterator that owns no tuple -/
noncomputable def notOwner (T : String) : Bool := !(["enumerate", "zip", "dict_itemiterator", "dict_reverseitemiterator", "odict_iterator", "itertools.zip_longest", "itertools.pairwise"] : List String).contains T
theorem owned_other {M : Model} {E : Value → Shared → Prop} {s : Shared} {I : Addr} {v : Value} {Q : Unit → Shared → Prop} {o : Obj} {T : String} (ho : s.heap.get? I = some o) (hc : o.cls = .type T) (hT : notOwner T = true) (h : Q () s) :
    wpAny M A (letOwnedTupleGo target (.ref I) v) Q E s := by
  have core : wpAny M A (match (Value.ref I, v) with
    | (.ref r, .ref a) => (do
      let o ← load r
      match o.cls, o.data with
      | .type n, .fields vs =>
        if ["enumerate", "zip", "dict_itemiterator", "dict_reverseitemiterator", "odict_iterator", "itertools.zip_longest", "itertools.pairwise"].contains n && vs[0]? == some (rawInt a) then
          rule "for.unpacks-the-owned-tuple"
          updateField r 0 .none
      | _, _ => pure () : Sem Unit)
    | _ => pure ()) Q E s := by
    cases v with
    | ref a =>
      refine wpAny_bind (wpAny_load ho ?_)
      rw [hc]
      cases hd : o.data with
      | fields vs =>
        have e : (["enumerate", "zip", "dict_itemiterator", "dict_reverseitemiterator", "odict_iterator", "itertools.zip_longest", "itertools.pairwise"] : List String).contains T = false := by simpa [notOwner] using hT
        simp only [e, Bool.false_and, Bool.false_eq_true, if_false]
        exact wpAny_pure h
      | _ => exact wpAny_pure h
    | _ => exact wpAny_pure h
  unfold letOwnedTupleGo
  cases target <;> first | exact wpAny_pure h | exact core

/-- a source out of the library's walks -/
theorem Src.of_walks {nw₀ : Led} {I : Addr} {fp : List Addr} {items : List Dat} {P : Nat → Value → Prop} {St : Nat → Heap → Prop} {T : String} (W : Walks Prg w A I fp [I] items.length P St)
    (hfl : ∀ i h, St i h → ∃ o vs, h.get? I = some o ∧ o.data = .fields vs ∧ o.cls = .type T) (hT : notOwner T = true) (hP : ∀ i v d, P i v → items[i]? = some d → DatIn nw₀ v d) : Src w A target nw₀ I [I] fp items St where
  frame := W.frame
  flds := fun i h x b hb => by rw [List.mem_singleton.mp hb]; obtain ⟨o, vs, a, b, _⟩ := hfl i h x; exact ⟨o, vs, a, b⟩
  item := fun i d s nw Q E hd H hsub x k => by
    refine W.item i s _ _ (lt_of_get hd) x fun v h' tk hv st' hk => ⟨v, rfl, ?_⟩
    obtain ⟨o, vs, ho, _, hc⟩ := hfl _ _ st'
    refine owned_other (s := { s with heap := h', toks := tk }) ho hc hT ?_
    have hne : ∀ p ∈ nw, p.1 ≠ I := fun p hp q => by
      obtain ⟨e, xs, n, hq⟩ := H p hp
      obtain ⟨o, vs, e', hf, _⟩ := hfl i s.heap x
      rw [q, e'] at e; cases e; rw [hf] at hq; cases hq
    exact k v _ nw (near_of hk) (fun _ h => h) (fun p hp => ⟨hk _ _ (by simpa using hne p hp) (H p hp).1, (H p hp).2⟩) (fun _ h => .inl h) st' ((hP i v d hv hd).mono hsub)
  done := fun s Q E x k => W.done s _ _ x fun h' tk hk => ⟨rfl, k _ (near_of hk)⟩
  self := W.self

theorem pushUp {s : Shared} {o : Obj} : Up s { s with heap := s.heap.push o } := ⟨rfl, .of fun _ _ e => Heap.get?_push_of_some _ e⟩
theorem get_new {h : Heap} : h.get? h.objs.size = none := Heap.get?_none_of_le (Nat.le_refl _)

theorem datAll_get {nw : Led} {vs : List Value} {ds : List Dat} (h : DatAll nw vs ds) {i : Nat} {v : Value} {d : Dat} (hv : vs[i]? = some v) (hd : ds[i]? = some d) : DatIn nw v d := by
  have hi := lt_of_get hd
  obtain ⟨u, hu, hx⟩ := h.get hi
  rw [List.getElem?_eq_getElem hi] at hd
  cases hd
  rw [hv] at hu; cases hu
  exact hx

theorem Iter.list (hh : A.handled = none) {ds : List Dat} : Iter w A target (.list ds) ds := by
  intro s nw v Q E H hv k
  obtain ⟨a, vs, n, rfl, hm, hr⟩ := datList hv
  have hl := isList_at H hm
  have hne : a ≠ s.heap.objs.size := Nat.ne_of_lt (Heap.lt_size (H _ hm).1)
  refine wpAny_pyIter_list hl ?_
  have W := Walks.list (prog := Prg) (w := w) hh s.heap.objs.size a hne vs.toArray
  have esz : vs.toArray.size = ds.length := by rw [List.size_toArray, hr.length]
  rw [esz] at W
  refine k _ _ _ _ _ (.of_up H pushUp) (Src.of_walks W (T := "list_iterator") (fun i h x => ?_) (by decide) fun i u d hu hd => datAll_get hr (by simpa using hu) hd) (fun b hb => ?_) (fun b hb => ?_) ⟨⟨_, Heap.get?_push_size _ rfl, rfl, rfl⟩, hl.push _⟩
  · obtain ⟨⟨o, e, hc, hd⟩, _⟩ := x; exact ⟨o, _, e, hd, hc⟩
  · rw [List.mem_singleton.mp hb]; exact get_new
  · rcases List.mem_cons.mp hb with rfl | hb
    · exact .inl (.head _)
    · rw [List.mem_singleton.mp hb]; exact .inr ⟨_, hm⟩
theorem Iter.tuple (hh : A.handled = none) {ds : List Dat} : Iter w A target (.tuple ds) ds := by
  intro s nw v Q E H hv k
  obtain ⟨a, vs, n, rfl, hm, hr⟩ := datTuple hv
  have hl : s.heap.IsTuple a vs.toArray := isTup_at H hm
  have hne : a ≠ s.heap.objs.size := Nat.ne_of_lt (Heap.lt_size (H _ hm).1)
  refine wpAny_pyIter_tuple hl ?_
  have W := Walks.tuple (prog := Prg) (w := w) hh s.heap.objs.size a hne vs.toArray
  have esz : vs.toArray.size = ds.length := by rw [List.size_toArray, hr.length]
  rw [esz] at W
  refine k _ _ _ _ _ (.of_up H pushUp) (Src.of_walks W (T := "tuple_iterator") (fun i h x => ?_) (by decide) fun i u d hu hd => datAll_get hr (by simpa using hu) hd) (fun b hb => ?_) (fun b hb => ?_) ⟨⟨_, Heap.get?_push_size _ rfl, rfl, rfl⟩, hl.push _⟩
  · obtain ⟨⟨o, e, hc, hd⟩, _⟩ := x; exact ⟨o, _, e, hd, hc⟩
  · rw [List.mem_singleton.mp hb]; exact get_new
  · rcases List.mem_cons.mp hb with rfl | hb
    · exact .inl (.head _)
    · rw [List.mem_singleton.mp hb]; exact .inr ⟨_, hm⟩
theorem Iter.bytes (hh : A.handled = none) {l : List UInt8} : Iter w A target (.bytes l.toArray) (l.map fun c => .int c.toNat) := by
  intro s nw v Q E H hv k
  obtain ⟨t, rfl⟩ := datBytes hv
  refine KBw.pyIter_bytes ?_
  have W := KBw.walks (prog := Prg) (w := w) hh s.heap.objs.size l.toArray t
  have e : (l.map fun c => Dat.int (c.toNat : Int)).length = l.toArray.size := by simp
  rw [← e] at W
  refine k _ _ _ _ _ (.of_up H pushUp) (Src.of_walks W (T := "bytes_iterator") (fun i h x => ?_) (by decide) fun i u d hu hd => ?_) (fun b hb => ?_) (fun b hb => ?_) ?_
  · obtain ⟨o, e, hc, hd⟩ := x; exact ⟨o, _, e, hd, hc⟩
  · obtain ⟨c, t', hc, rfl⟩ := hu
    rw [List.getElem?_map] at hd
    have hc' : l[i]? = some c := by simpa using hc
    rw [hc'] at hd
    cases hd
    exact .int _ _
  · rw [List.mem_singleton.mp hb]; exact get_new
  · exact .inl hb
  · exact ⟨_, Heap.get?_push_size _ rfl, rfl, rfl⟩

/-- evaluated and asked for its iterator -/
structure EvIter (w : World) (A : Around) (env : Env) (ρ : Loc) (target : Expr) (e : Expr) (items : List Dat) : Prop where
  run : ∀ (s : Shared) (nw : Led) (Q : Value → Shared → Prop) (E : Value → Shared → Prop), St w A env ρ s nw →
    (∀ I s' nw' wr fp St, Grow s s' nw nw' → Src w A target nw' I wr fp items St → (∀ b ∈ wr, s.heap.get? b = none) → (∀ b ∈ fp, b ∈ wr ∨ ∃ o, (b, o) ∈ nw') → St 0 s'.heap → Q (.ref I) s') →
    wpAny (model Prg w) A (eval e env) (fun x s₁ => wpAny (model Prg w) A (pyIter x) Q E s₁) E s
variable {env : Env} {ρ : Loc}
theorem EvIter.of {e : Expr} {d : Dat} {items : List Dat} (h : Ev w A env ρ e d) (hi : Iter w A target d items) : EvIter w A env ρ target e items := by
  refine ⟨?_⟩
  intro s nw Q E S k
  refine h.run s nw _ _ S fun v s₁ nw₁ g₁ d₁ => hi s₁ nw₁ v _ _ g₁.has d₁ fun I s₂ wr fp St g₂ src hwr hfp st => ?_
  exact k I s₂ nw₁ wr fp St (g₁.trans g₂) src (fun b hb => none_back g₁.up.keep (hwr b hb)) hfp st

omit [Inhabited Thr] in
noncomputable def runOf (a : Int) (n : Nat) : List Dat := (List.range n).map fun (i : Nat) => Dat.int (a + (i : Int))
theorem run_length (a : Int) (n : Nat) : (runOf a n).length = n := by simp [runOf]
theorem iter_range (hh : A.handled = none) {s : Shared} {nw : Led} {r : Addr} {a b : Int} {t u v : Tok} {Q : Value → Shared → Prop} {E : Value → Shared → Prop} (H : Has s.heap nw) (hr : IsRange s.heap r a b 1 t u v)
    (ha : -(2 ^ 62) ≤ a) (ha' : a < 2 ^ 62) (hb : -(2 ^ 62) ≤ b) (hb' : b < 2 ^ 62)
    (k : ∀ I s' wr fp St, Grow s s' nw nw → Src w A target nw I wr fp (runOf a (b - a).toNat) St → (∀ b ∈ wr, s.heap.get? b = none) → (∀ b ∈ fp, b ∈ wr ∨ ∃ o, (b, o) ∈ nw) → St 0 s'.heap → Q (.ref I) s') : wpAny (model Prg w) A (pyIter (.ref r)) Q E s := by
  refine wpAny_pyIter_range hr (small_one ha ha' hb hb') ?_
  have W := Walks.range (prog := Prg) (w := w) hh s.heap.objs.size a 1 (b - a).toNat
  rw [← run_length a (b - a).toNat] at W
  refine k _ _ _ _ _ (.of_up H pushUp) (Src.of_walks W (T := "range_iterator") (fun i h x => ⟨_, _, x, rfl, rfl⟩) (by decide) fun i v d hv hd => ?_) (fun b hb => ?_) (fun b hb => .inl hb) ?_
  · obtain ⟨t, rfl⟩ := hv
    have hi := lt_of_get hd
    rw [run_length] at hi
    simp only [runOf, List.getElem?_map, List.getElem?_range hi, Option.map_some, Option.some.injEq] at hd
    subst hd
    rw [Int.mul_one]
    exact .int _ _
  · rw [List.mem_singleton.mp hb]; exact get_new
  · have := Heap.get?_push_size s.heap (o := { cls := .type "range_iterator", data := .fields #[rawInt a, rawInt (Builtin.Range.rangeSize a b 1), rawInt 1] }) rfl
    show IsRangeIter _ _ _ _ _
    rw [rangeSize_nat] at this ⊢
    rw [run_length]
    simpa using this
theorem EvIter.range1 (hh : A.handled = none) {np pos : Pos} {e : Expr} {n : Int} (hx : nsIn (KK w) mainGlobals "range" = some none) (he : Ev w A env ρ e (.int n)) (h0 : -(2 ^ 62) ≤ n) (h1 : n < 2 ^ 62)
    (hg : env.kindOf "range" = some .globalImplicit := by rfl) (hs : starEach [e] env = (false, eval e env) :: starEach [] env := by rfl) : EvIter w A env ρ target (.Call (.Name "range" np) [e] [] pos) (runOf 0 n.toNat) := by
  refine ⟨?_⟩
  intro s nw Q E S k
  refine wpAny_Call_ofName (name_boot S hx (v := .type "range") (by decide +kernel) (by decide) hg ?_)
  show wpAny _ _ (callWith pos (.type "range") [] (backTo pos (starEach [e] env)) []) _ _ s
  refine callWith_type1 ((Evs.cons he .nil hs) pos s nw _ _ S fun vs s₁ nw₁ g₁ d₁ => ?_) hs rfl
  obtain ⟨v, rfl, hv⟩ := one d₁
  obtain ⟨t, rfl⟩ := datInt hv
  refine call_range_1 ?_
  have g₂ : Grow s₁ { s₁ with heap := s₁.heap.push { cls := .type "range", data := .fields #[.int 0 s₁.toks, .int n t, .int 1 (s₁.toks + 1)] }, toks := s₁.toks + 1 + 1 } nw₁ nw₁ := .of_up g₁.has (.both fun _ _ e => Heap.get?_push_of_some _ e)
  refine iter_range (target := target) hh g₂.has (IsRange.new ..) (by omega) (by omega) h0 h1 fun I s' wr fp St g₃ src hwr hfp st => ?_
  rw [Int.sub_zero] at src
  exact k I s' nw₁ wr fp St ((g₁.trans g₂).trans g₃) src (fun b hb => none_back (g₁.trans g₂).up.keep (hwr b hb)) hfp st
theorem EvIter.range2 (hh : A.handled = none) {np pos : Pos} {e e' : Expr} {a b : Int} (hx : nsIn (KK w) mainGlobals "range" = some none) (he : Ev w A env ρ e (.int a)) (he' : Ev w A env ρ e' (.int b)) (h0 : -(2 ^ 62) ≤ a) (h1 : a < 2 ^ 62) (h0' : -(2 ^ 62) ≤ b) (h1' : b < 2 ^ 62)
    (hg : env.kindOf "range" = some .globalImplicit := by rfl) (hs : starEach [e, e'] env = (false, eval e env) :: starEach [e'] env := by rfl) (hs' : starEach [e'] env = (false, eval e' env) :: starEach [] env := by rfl) : EvIter w A env ρ target (.Call (.Name "range" np) [e, e'] [] pos) (runOf a (b - a).toNat) := by
  refine ⟨?_⟩
  intro s nw Q E S k
  refine wpAny_Call_ofName (name_boot S hx (v := .type "range") (by decide +kernel) (by decide) hg ?_)
  show wpAny _ _ (callWith pos (.type "range") [] (backTo pos (starEach [e, e'] env)) []) _ _ s
  refine callWith_type1 ((Evs.cons he (.cons he' .nil hs') hs) pos s nw _ _ S fun vs s₁ nw₁ g₁ d₁ => ?_) hs (by rw [hs']; rfl)
  obtain ⟨v, u, rfl, hv, hu⟩ := two d₁
  obtain ⟨t, rfl⟩ := datInt hv
  obtain ⟨t', rfl⟩ := datInt hu
  refine call_range_2 ?_
  have g₂ : Grow s₁ { s₁ with heap := s₁.heap.push { cls := .type "range", data := .fields #[.int a t, .int b t', .int 1 s₁.toks] }, toks := s₁.toks + 1 } nw₁ nw₁ := .of_up g₁.has (.both fun _ _ e => Heap.get?_push_of_some _ e)
  refine iter_range (target := target) hh g₂.has (IsRange.new ..) h0 h1 h0' h1' fun I s' wr fp St g₃ src hwr hfp st => ?_
  exact k I s' nw₁ wr fp St ((g₁.trans g₂).trans g₃) src (fun b hb => none_back (g₁.trans g₂).up.keep (hwr b hb)) hfp st

omit [Inhabited Thr] in
/-- enumerate -/
noncomputable def numbered (ds : List Dat) : List Dat := ds.zipIdx.map fun p => .tuple [.int (p.2 : Int), p.1]
theorem numbered_length (ds : List Dat) : (numbered ds).length = ds.length := by simp [numbered]
theorem Src.enum (hh : A.handled = none) {nw₀ : Led} {e it l : Addr} {vs : List Value} {n : Nat} {ds : List Dat} {elts : List Expr} {k : Nat} {pos : Pos} (hei : e ≠ it) (hle : l ≠ e) (hli : l ≠ it) (hr : DatAll nw₀ vs ds) :
    Src w A (.Tuple elts k pos) nw₀ e [e, it] [e, it, l] (numbered ds) (fun i h => (∃ old, IsEnum h e it i old) ∧ h.IsListIter it l i ∧ h.IsList l vs.toArray) where
  frame := fun i h h' x hk => by
    obtain ⟨⟨old, he⟩, hit, hl⟩ := x
    exact ⟨⟨old, hk e (by simp) _ he⟩, hit.at fun o x => hk it (by simp) o x, hl.at fun o x => hk l (by simp) o x⟩
  flds := fun i h x b hb => by
    obtain ⟨⟨old, he⟩, ⟨o, ho, hc, hd⟩, hl⟩ := x
    rcases List.mem_cons.mp hb with rfl | hb
    · exact ⟨_, _, he, rfl⟩
    · rw [List.mem_singleton.mp hb]; exact ⟨o, _, ho, hd⟩
  item := fun i d s nw Q E hd H hsub x k => by
    obtain ⟨⟨old, he⟩, hit, hl⟩ := x
    have hi := lt_of_get hd
    rw [numbered_length] at hi
    obtain ⟨v, hv, hdv⟩ := hr.get hi
    have hd' : d = .tuple [.int (i : Int), ds[i]] := by
      simp only [numbered, List.getElem?_map, List.getElem?_zipIdx, List.getElem?_eq_getElem hi, Option.map_some, Option.some.injEq] at hd
      simpa using hd.symm
    subst hd'
    refine wpAny_pyNext_enum_item he hit hl (by simpa using hv) hei fun h' ho hit' hT hsz hk => ⟨_, rfl, ?_⟩
    refine wpAny_letOwnedTupleGo_enum ho fun h₂ he₂ hs₂ => ?_
    have helt : e < s.heap.objs.size := Heap.lt_size he
    have hilt : it < s.heap.objs.size := by obtain ⟨_, x, _⟩ := hit; exact Heap.lt_size x
    have keep : ∀ b o, b ∉ [e, it] → s.heap.get? b = some o → h₂.get? b = some o := fun b o hb y =>
      (hs₂.2 b fun q => hb (by simp [q])).trans (hk b o (fun q => hb (by simp [q])) (fun q => hb (by simp [q])) y)
    have hT₂ : h₂.get? s.heap.objs.size = some { cls := .type "tuple", data := .seq #[.int i s.toks, v] } := (hs₂.2 _ (Nat.ne_of_gt helt)).trans hT
    have hne : ∀ p ∈ nw, p.1 ∉ [e, it] := fun p hp q => by
      obtain ⟨y, xs, n, hq⟩ := H p hp
      rcases List.mem_cons.mp q with q | q
      · rw [q, he] at y; rw [← Option.some.inj y] at hq; cases hq
      · obtain ⟨o, ho', _, hd'⟩ := hit
        rw [List.mem_singleton.mp q, ho'] at y; rw [← Option.some.inj y, hd'] at hq; cases hq
    refine k _ _ ((s.heap.objs.size, { cls := .type "tuple", data := .seq #[.int i s.toks, v] }) :: nw) (near_of keep) (fun p hp => .tail _ hp) (fun p hp => ?_) (fun p hp => ?_)
      ⟨⟨v, by simpa using he₂⟩, (hit'.at fun o y => (hs₂.2 it hei.symm).trans y), hl.at fun o y => keep l o (by simp [hle, hli]) y⟩
      (.tuple (vs := [.int i s.toks, v]) (.head _) (.cons (.int _ _) (.cons ((hdv.mono hsub).mono fun p hp => .tail _ hp) .nil)))
    · rcases List.mem_cons.mp hp with rfl | hp
      · exact ⟨hT₂, _, _, rfl⟩
      · exact ⟨keep _ _ (hne p hp) (H p hp).1, (H p hp).2⟩
    · rcases List.mem_cons.mp hp with rfl | hp
      · exact .inr get_new
      · exact .inl hp
  done := fun s Q E x k => by
    obtain ⟨⟨old, he⟩, hit, hl⟩ := x
    exact wpAny_pyNext_enum_end hh he hit hl (by simp [numbered_length, hr.length]) fun h' hx => ⟨rfl, k _ (near_of fun b o hb y => hx b o (fun q => hb (by simp [q])) y)⟩
  self := fun i s Q E x k => by obtain ⟨⟨old, he⟩, _⟩ := x; exact wpAny_pyIter_enum he k
theorem EvIter.enum (hh : A.handled = none) {np pos tp : Pos} {e : Expr} {ds : List Dat} {elts : List Expr} {tk : Nat} (hx : nsIn (KK w) mainGlobals "enumerate" = some none) (he : Ev w A env ρ e (.list ds))
    (hg : env.kindOf "enumerate" = some .globalImplicit := by rfl) (hs : starEach [e] env = (false, eval e env) :: starEach [] env := by rfl) : EvIter w A env ρ (.Tuple elts tk tp) (.Call (.Name "enumerate" np) [e] [] pos) (numbered ds) := by
  refine ⟨?_⟩
  intro s nw Q E S k
  refine wpAny_Call_ofName (name_boot S hx (v := .type "enumerate") (by decide +kernel) (by decide) hg ?_)
  show wpAny _ _ (callWith pos (.type "enumerate") [] (backTo pos (starEach [e] env)) []) _ _ s
  refine callWith_type1 ((Evs.cons he .nil hs) pos s nw _ _ S fun us s₁ nw₁ g₁ d₁ => ?_) hs rfl
  obtain ⟨v, rfl, hv⟩ := one d₁
  obtain ⟨a, vs, n, rfl, hm, hr⟩ := datList hv
  have hl := isList_at g₁.has hm
  have halt : a < s₁.heap.objs.size := Heap.lt_size (g₁.has _ hm).1
  refine call_enumerate_list hl fun h' he' hit hz hk => ?_
  have g₂ : Grow s₁ { s₁ with heap := h' } nw₁ nw₁ := .of_up g₁.has ⟨rfl, .of hk⟩
  refine wpAny_pyIter_enum he' (k _ _ nw₁ _ _ _ (g₁.trans g₂) (Src.enum hh (Nat.succ_ne_self _) (Nat.ne_of_lt (Nat.lt_succ_of_lt halt)) (Nat.ne_of_lt halt) hr (n := n)) (fun b hb => ?_) (fun b hb => ?_) ⟨⟨_, he'⟩, hit, hl.at fun o y => hk _ o y⟩)
  · refine none_back g₁.up.keep (Heap.get?_none_of_le ?_)
    rcases List.mem_cons.mp hb with rfl | hb
    · exact Nat.le_succ _
    · rw [List.mem_singleton.mp hb]; exact Nat.le_refl _
  · rcases List.mem_cons.mp hb with rfl | hb
    · exact .inl (by simp)
    · rcases List.mem_cons.mp hb with rfl | hb
      · exact .inl (by simp)
      · rw [List.mem_singleton.mp hb]; exact .inr ⟨_, hm⟩
end
end Mine
end

section
open PySem PySem.W PySem.Calls PyProof.Rows
set_option maxRecDepth 100000
namespace Mine
variable [Inhabited Thr]

/-- what an exception's way out keeps -/
structure XOk (w : World) (A : Around) (env : Env) (X : Shared → Led → Value → Shared → Prop) : Prop where
  mono : ∀ s₀ s₁ nw₀ nw₁ e s', Grow s₀ s₁ nw₀ nw₁ → X s₁ nw₁ e s' → X s₀ nw₀ e s'
  lift : ∀ s₀ nw₀ e s' (E : Value → Shared → Prop), X s₀ nw₀ e s' → (∀ s'', X s₀ nw₀ e s'' → E e s'') → notedBy (model Prg w) A env (cameBackBy (model Prg w) A env E) e s'
omit [Inhabited Thr] in
noncomputable def noX : Shared → Led → Value → Shared → Prop := fun _ _ _ _ => False
theorem XOk.none {w : World} {A : Around} {env : Env} : XOk w A env noX := ⟨fun _ _ _ _ _ _ _ h => h, fun _ _ _ _ _ h => h.elim⟩

/-- a target's store -/
noncomputable def Asg (w : World) (A : Around) (env : Env) (target : Expr) (d : Dat) (own : Own) (upd : Loc → Loc) : Prop :=
  ∀ (s₀ : Shared) (nw₀ : Led) (ρ : Loc) (s : Shared) (nw : Led) (v : Value) (Q : Unit → Shared → Prop) (E : Value → Shared → Prop), Fs w A env s₀ nw₀ ρ own s nw → DatIn nw v d →
    (∀ s' nw', Fs w A env s₀ nw₀ (upd ρ) own s' nw' → Q () s') → wpAny (model Prg w) A (assign target env v) Q E s

section
variable {w : World} {A : Around} {env : Env} {own : Own}
theorem Asg.name {x : Str} {p : Pos} {d : Dat} (ho : ∀ y ds, own = some (y, ds) → y ≠ x) (hl : env.kindOf x = some .local := by rfl) : Asg w A env (.Name x p) d own ((x, d) :: ·) :=
  fun s₀ nw₀ ρ s nw v Q E S hv k => wpAny_assign_Name (S.store_local hl hv ho fun s' S' => k s' nw S')
theorem Asg.cell {x : Str} {c : Addr} {p : Pos} {d : Dat} (hl : env.kindOf x = some .cell) (hc : env.cells.lookup x = some c) : Asg w A env (.Name x p) d own ((x, d) :: ·) :=
  fun s₀ nw₀ ρ s nw v Q E S hv k => wpAny_assign_Name (S.store_cell hl hc hv fun s' S' => k s' nw S')

/-- targets in a row -/
noncomputable def AsgAll (w : World) (A : Around) (env : Env) (targets : List Expr) (ds : List Dat) (own : Own) (upd : Loc → Loc) : Prop :=
  ∀ (s₀ : Shared) (nw₀ : Led) (ρ : Loc) (s : Shared) (nw : Led) (vs : List Value) (Q : Unit → Shared → Prop) (E : Value → Shared → Prop), Fs w A env s₀ nw₀ ρ own s nw → DatAll nw vs ds →
    (∀ s' nw', Fs w A env s₀ nw₀ (upd ρ) own s' nw' → Q () s') → wpAny (model Prg w) A (assignInOrder ((assignEach targets env).map (·.2)) vs) Q E s
theorem AsgAll.nil : AsgAll w A env [] [] own id := fun s₀ nw₀ ρ s nw vs Q E S hv k => by
  cases hv
  have e : (assignEach [] env).map (·.2) = [] := rfl
  rw [e]; exact assignInOrder_nil (k s nw S)
/-- an assignment's made ledger is the one that it began with: names alone -/
theorem AsgAll.cons {x : Str} {p : Pos} {ts : List Expr} {d : Dat} {ds : List Dat} {upd : Loc → Loc} (ho : ∀ y ds, own = some (y, ds) → y ≠ x) (hr : AsgAll w A env ts ds own upd) (hl : env.kindOf x = some .local := by rfl) :
    AsgAll w A env (.Name x p :: ts) (d :: ds) own (fun ρ => upd ((x, d) :: ρ)) := fun s₀ nw₀ ρ s nw vs Q E S hv k => by
  cases hv with | cons h r =>
  have e : (assignEach (.Name x p :: ts) env).map (·.2) = assign (.Name x p) env :: (assignEach ts env).map (·.2) := rfl
  rw [e]
  exact assignInOrder_cons (wpAny_assign_Name (S.store_local hl h ho fun s' S' => hr s₀ nw₀ _ s' nw _ Q E S' r k))
theorem AsgAll.consCell {x : Str} {c : Addr} {p : Pos} {ts : List Expr} {d : Dat} {ds : List Dat} {upd : Loc → Loc} (hr : AsgAll w A env ts ds own upd) (hl : env.kindOf x = some .cell) (hc : env.cells.lookup x = some c) :
    AsgAll w A env (.Name x p :: ts) (d :: ds) own (fun ρ => upd ((x, d) :: ρ)) := fun s₀ nw₀ ρ s nw vs Q E S hv k => by
  cases hv with | cons h r =>
  have e : (assignEach (.Name x p :: ts) env).map (·.2) = assign (.Name x p) env :: (assignEach ts env).map (·.2) := rfl
  rw [e]
  exact assignInOrder_cons (wpAny_assign_Name (S.store_cell hl hc h fun s' S' => hr s₀ nw₀ _ s' nw _ Q E S' r k))
theorem Asg.tuple (hh : A.handled = none) {ts : List Expr} {k : Nat} {p : Pos} {ds : List Dat} {upd : Loc → Loc} (h : AsgAll w A env ts ds own upd) (hn : (assignEach ts env).length = ds.length := by rfl) (hs : (assignEach ts env).findIdx? (·.1) = none := by rfl) :
    Asg w A env (.Tuple ts k p) (.tuple ds) own upd := fun s₀ nw₀ ρ s nw v Q E S hv k => by
  obtain ⟨a, vs, n, rfl, hm, hr⟩ := datTuple hv
  have ht := isTup_at S.since.has hm
  refine assign_Tuple_tuple hh ht (by rw [hn, List.size_toArray, hr.length]) hs fun h' he => ?_
  have g : Grow s { s with heap := h' } nw nw := .of_up S.since.has ⟨rfl, .of fun b o e => he b o (Nat.ne_of_lt (Heap.lt_size e)) e⟩
  exact h s₀ nw₀ ρ _ nw vs Q E (S.grow g) hr k
end

theorem unpack2 {w : World} {A : Around} (hh : A.handled = none) {s : Shared} {a : Addr} {v u : Value} {Q : List Value → Shared → Prop} {E : Value → Shared → Prop} (ht : IsTup s.heap a [v, u].toArray)
    (k : ∀ h', Heap.ExtBut s.heap.objs.size s.heap h' → Q [v, u] { s with heap := h' }) : wpAny (model Prg w) A (unpackItems (.ref a) 2 none) Q E s := unpackItems_tuple (items := [v, u].toArray) hh ht k
theorem inOrder2 {w : World} {A : Around} {f g : Value → Sem Unit} {v u : Value} {Q : Unit → Shared → Prop} {E : Value → Shared → Prop} {s : Shared} (h : wpAny (model Prg w) A (f v) (fun _ s₁ => wpAny (model Prg w) A (g u) (fun _ s₂ => Q () s₂) E s₁) E s) :
    wpAny (model Prg w) A (assignInOrder [f, g] [v, u]) Q E s :=
  assignInOrder_cons (wpAny_mono h (fun _ _ h => assignInOrder_cons (wpAny_mono h (fun _ _ h => assignInOrder_nil h) fun _ _ e => e)) fun _ _ e => e)
/-- two local names out of a pair, stored from behind -/
theorem swapped {w : World} {A : Around} {env : Env} {x y : Str} {px py tp pos : Pos} {k : Nat} {e : Expr} {s : Shared} {Q : Flow → Shared → Prop} {E : Value → Shared → Prop}
    (h : wpAny (model Prg w) A (eval e env) (fun v s₁ => wpAny (model Prg w) A (unpackItems v 2 none) (fun items s₂ => ∃ v u, items = [v, u] ∧ wpAny (model Prg w) A (storeName env y u) (fun _ s₃ => wpAny (model Prg w) A (storeName env x v) (fun _ s₄ => Q .next s₄) E s₃) E s₂) E s₁) E s)
    (hs : swapsWithSole [.Tuple [.Name x px, .Name y py] k tp] e pos.line env = pure false) (hw : swappedStores [.Tuple [.Name x px, .Name y py] k tp] e env = pure (some [x, y])) :
    wpAny (model Prg w) A (exec (.Assign [.Tuple [.Name x px, .Name y py] k tp] e pos) env) Q E s := by
  refine Assign_Tuple_swapped (wpAny_mono h (fun v s₁ h₁ => ?_) fun _ _ e => e) hs hw
  refine wpAny_mono (show wpAny (model Prg w) A (unpackItems v ([x, y] : List Str).length none) _ E s₁ from h₁) (fun items s₂ h₂ => ?_) fun _ _ e => e
  obtain ⟨v, u, rfl, h₂⟩ := h₂
  exact inOrder2 (f := bindName env y) (g := bindName env x) (bindName_ (wpAny_mono h₂ (fun _ _ h => bindName_ h) fun _ _ e => e))

section
variable {w : World} {A : Around} {env : Env} {R : Dat → Prop} {X : Shared → Led → Value → Shared → Prop} {ρ : Loc} {own : Own} {rest : List Stmt} {N : Loc → Own → Prop}

theorem Ex.unpack (hh : A.handled = none) {ts : List Expr} {k : Nat} {tp pos : Pos} {e : Expr} {ds : List Dat} {upd : Loc → Loc} (he : Ev w A env ρ e (.tuple ds)) (ha : AsgAll w A env ts ds own upd) (hr : Ex w A env R X (upd ρ) own rest N)
    (hn : (assignEach ts env).length = ds.length := by rfl) (hf : (assignEach ts env).findIdx? (·.1) = none := by rfl)
    (hs : swapsWithSole [.Tuple ts k tp] e pos.line env = pure false := by rfl) (hw : swappedStores [.Tuple ts k tp] e env = pure none := by rfl) : Ex w A env R X ρ own (.Assign [.Tuple ts k tp] e pos :: rest) N := by
  refine ⟨?_⟩
  intro s₀ nw₀ s nw Q E S kn kr kx
  refine wpAny_cons (Assign_Tuple (he.run s nw _ _ S.st fun v s₁ nw₁ g₁ d₁ => ?_) hs hw)
  exact Asg.tuple hh ha hn hf s₀ nw₀ ρ s₁ nw₁ v _ _ (S.grow g₁) d₁ fun s' nw' S' => (hr).run s₀ nw₀ s' nw' Q E S' kn kr kx

/-- x, y = a, b of two local names (stored from behind) -/
theorem Ex.swap (hh : A.handled = none) {x y : Str} {px py tp pos : Pos} {k : Nat} {e : Expr} {d d' : Dat} (he : Ev w A env ρ e (.tuple [d, d'])) (hr : Ex w A env R X ((x, d) :: (y, d') :: ρ) own rest N)
    (hox : ∀ z ds, own = some (z, ds) → z ≠ x) (hoy : ∀ z ds, own = some (z, ds) → z ≠ y) (hx : env.kindOf x = some .local := by rfl) (hy : env.kindOf y = some .local := by rfl)
    (hs : swapsWithSole [.Tuple [.Name x px, .Name y py] k tp] e pos.line env = pure false := by rfl) (hw : swappedStores [.Tuple [.Name x px, .Name y py] k tp] e env = pure (some [x, y]) := by rfl) :
    Ex w A env R X ρ own (.Assign [.Tuple [.Name x px, .Name y py] k tp] e pos :: rest) N := by
  refine ⟨?_⟩
  intro s₀ nw₀ s nw Q E S kn kr kx
  refine wpAny_cons (swapped (he.run s nw _ _ S.st fun v s₁ nw₁ g₁ d₁ => ?_) hs hw)
  obtain ⟨a, vs, n, rfl, hm, hr'⟩ := datTuple d₁
  obtain ⟨v, u, rfl, hv, hu⟩ := two hr'
  refine unpack2 hh (isTup_at g₁.has hm) fun h' he => ⟨v, u, rfl, ?_⟩
  have g : Grow s₁ { s₁ with heap := h' } nw₁ nw₁ := .of_up g₁.has ⟨rfl, .of fun b o e => he b o (Nat.ne_of_lt (Heap.lt_size e)) e⟩
  exact ((S.grow g₁).grow g).store_local hy hu hoy fun s₂ S₂ => S₂.store_local hx hv hox fun s₃ S₃ => (hr).run s₀ nw₀ s₃ nw₁ Q E S₃ kn kr kx
/-- found, at = [], 0 : the new list is the frame's own -/
theorem Ex.swapOwn (hh : A.handled = none) {x y : Str} {px py lp tp vp pos : Pos} {k k' : Nat} {e : Expr} {d : Dat} (he : Ev w A env ρ e d) (hr : Ex w A env R X ((y, d) :: ρ) (some (x, [])) rest N)
    (hx : env.kindOf x = some .local := by rfl) (hy : env.kindOf y = some .local := by rfl) (hxy : x ≠ y := by decide) (hxn : look ρ x = Option.none := by rfl) (hes : starEach [.List [] lp, e] env = (false, eval (.List [] lp) env) :: starEach [e] env := by rfl) (hes' : starEach [e] env = (false, eval e env) :: starEach [] env := by rfl)
    (hs : swapsWithSole [.Tuple [.Name x px, .Name y py] k tp] (.Tuple [.List [] lp, e] k' vp) pos.line env = pure false := by rfl) (hw : swappedStores [.Tuple [.Name x px, .Name y py] k tp] (.Tuple [.List [] lp, e] k' vp) env = pure (some [x, y]) := by rfl) :
    Ex w A env R X ρ none (.Assign [.Tuple [.Name x px, .Name y py] k tp] (.Tuple [.List [] lp, e] k' vp) pos :: rest) N := by
  refine ⟨?_⟩
  intro s₀ nw₀ s nw Q E S kn kr kx
  refine wpAny_cons (swapped (wpAny_Tuple (wpAny_items_cons (wpAny_List (wpAny_items_nil ⟨Nat.zero_le _, ?_⟩)) hes)) hs hw)
  have ga : s.heap.get? s.heap.objs.size = none := get_new
  have g₁ : Grow s { s with heap := s.heap.push { cls := .type "list", data := .seq ([] : List Value).toArray } } nw nw := .of_up S.since.has pushUp
  have ha₁ : (s.heap.push { cls := .type "list", data := .seq ([] : List Value).toArray }).get? s.heap.objs.size = some { cls := .type "list", data := .seq ([] : List Value).toArray } := Heap.get?_push_size _ rfl
  refine wpAny_items_cons (he.run _ nw _ _ (S.grow g₁).st fun v s₂ nw₂ g₂ d₂ => wpAny_items_nil ⟨by simp [sizeLine_eq], ?_⟩) hes'
  have g₃ : Grow s₂ { s₂ with heap := s₂.heap.push { cls := .type "tuple", data := .seq [.ref s.heap.objs.size, v].toArray } } nw₂ nw₂ := .of_up g₂.has pushUp
  have ht : IsTup (s₂.heap.push { cls := .type "tuple", data := .seq [.ref s.heap.objs.size, v].toArray }) s₂.heap.objs.size [.ref s.heap.objs.size, v].toArray := ⟨_, Heap.get?_push_size _ rfl, rfl, _, rfl⟩
  refine unpack2 (s := { s₂ with heap := s₂.heap.push { cls := .type "tuple", data := .seq [.ref s.heap.objs.size, v].toArray } }) hh ht fun h' hext => ⟨_, _, rfl, ?_⟩
  have g₄ : Grow { s₂ with heap := s₂.heap.push { cls := .type "tuple", data := .seq [.ref s.heap.objs.size, v].toArray } } { s₂ with heap := h' } nw₂ nw₂ := .of_up g₃.has ⟨rfl, .of fun b o e => hext b o (Nat.ne_of_lt (Heap.lt_size e)) e⟩
  have S₁ := S.grow (((g₁.trans g₂).trans g₃).trans g₄)
  have ha : h'.get? s.heap.objs.size = some (listOf ([] : List Value).toArray 0) := ((g₂.up.keep.trans g₃.up.keep).trans g₄.up.keep).at ha₁ (fun _ _ q => by cases q)
  have hne : ∀ p ∈ nw₂, p.1 ≠ s.heap.objs.size := fun p hp q => by
    rcases g₂.new p hp with h | h
    · have := (S.since.has p h).1
      rw [q, ga] at this; cases this
    · rw [q, ha₁] at h; cases h
  have h0 : s₀.heap.get? s.heap.objs.size = none := none_back S.since.up.keep ga
  refine S₁.store_keep hy d₂ (fun _ _ e => by cases e) fun s₅ S₅ keep _ => ?_
  exact S₅.store_own hx (by unfold look; rw [if_neg hxy]; exact hxn) (keep _ _ ha ⟨_, _, rfl⟩) .nil hne h0 fun s₆ S₆ => (hr).run s₀ nw₀ s₆ nw₂ Q E S₆ kn kr kx
end
end Mine
end

section
open PySem PySem.W PySem.Calls PyProof.Rows
set_option maxRecDepth 100000
namespace Mine
variable [Inhabited Thr]

section
variable {w : World} {A : Around} {env : Env} {s₀ : Shared} {nw₀ : Led} {ρ : Loc} {own : Own} {s : Shared} {nw : Led}

theorem Fs.near (S : Fs w A env s₀ nw₀ ρ own s nw) {wr : List Addr} {s' : Shared} {nw' : Led} (hn : Near wr s s') (hw : ∀ b ∈ wr, s₀.heap.get? b = none ∧ ∃ o vs, s.heap.get? b = some o ∧ o.data = .fields vs)
    (hs : ∀ p ∈ nw, p ∈ nw') (hh : Has s'.heap nw') (new : ∀ p ∈ nw', p ∈ nw ∨ s.heap.get? p.1 = none) : Fs w A env s₀ nw₀ ρ own s' nw' := by
  have S' := S.other hw hn.eq hn.keep
  refine { S' with since := ⟨S'.since.up, fun p hp => hs p (S'.since.sub p hp), hh, fun p hp => ?_⟩, names := fun x d e => let ⟨v, a, b⟩ := S'.names x d e; ⟨v, a.mono hs, b⟩, own := fun x ds e => ?_ }
  · rcases new p hp with h | h
    · exact S'.since.new p h
    · exact .inr (none_back S.since.up.keep h)
  · obtain ⟨a, vs, n, hk, hm, ha, hd, hne, h0⟩ := S'.own x ds e
    obtain ⟨a₁, vs₁, n₁, _, ⟨m₁, hm₁, hx₁⟩, ha₁, _, _, _⟩ := S.own x ds e
    refine ⟨a, vs, n, hk, hm, ha, hd.mono hs, fun p hp q => ?_, h0⟩
    rcases new p hp with h | h
    · exact hne p h q
    · -- the owned place stood already
      obtain ⟨m, hm, hx⟩ := hm
      have hns' : s'.heap.Ns env.locals m₁ := by
        obtain ⟨o, es, ep, e, hd, r⟩ := hm₁
        refine ⟨o, es, ep, hn.keep _ _ (fun hb => ?_) e, hd, r⟩
        obtain ⟨_, o', vs', e', hd'⟩ := hw _ hb
        rw [e] at e'; rw [← Option.some.inj e', hd] at hd'; cases hd'
      have := (hm.agree hns' x).symm.trans hx
      rw [hx₁] at this
      cases this
      rw [q, ha₁] at h; cases h

theorem Fs.down {s₁ : Shared} {nw₁ : Led} (S : Fs w A env s₁ nw₁ ρ own s nw) (gl : Gl w s₀.heap) (g : Grow s₀ s₁ nw₀ nw₁) : Fs w A env s₀ nw₀ ρ own s nw where
  fits := S.fits
  gl₀ := gl
  stk := S.stk
  since := g.trans S.since
  fr := none_back g.up.keep S.fr
  ns := S.ns
  cells := fun x c e => let ⟨a, b⟩ := S.cells x c e; ⟨none_back g.up.keep a, b⟩
  apart := S.apart
  names := S.names
  own := fun x ds e => let ⟨a, vs, n, hk, hm, ha, hd, hne, h0⟩ := S.own x ds e; ⟨a, vs, n, hk, hm, ha, hd, hne, none_back g.up.keep h0⟩
end

section
variable {w : World} {A : Around} {env : Env} {R : Dat → Prop} {X : Shared → Led → Value → Shared → Prop} {ρ : Loc} {own : Own} {rest : List Stmt} {N : Loc → Own → Prop}

theorem Ex.for (hX : XOk w A env X) {target iter : Expr} {body : List Stmt} {pos : Pos} {items : List Dat} (hi : EvIter w A env ρ target iter items) (J : Nat → Loc → Own → Prop) (upd : Nat → Loc → Loc) (h0 : J 0 ρ own)
    (ha : ∀ i d ρ' own', items[i]? = some d → J i ρ' own' → Asg w A env target d own' (upd i))
    (turn : ∀ i d ρ' own', items[i]? = some d → J i ρ' own' → Ex w A env R X (upd i ρ') own' body (J (i + 1)))
    (done : ∀ ρ' own', J items.length ρ' own' → Ex w A env R X ρ' own' rest N)
    (hs : ∀ x, foldedSetIterable iter env x = pure x := by intro _; rfl) : Ex w A env R X ρ own (.For target iter body [] pos :: rest) N := by
  refine ⟨?_⟩
  intro s₀ nw₀ s nw Q E S kn kr kx
  refine wpAny_cons (wpAny_For (hi.run s nw _ _ S.st fun I s₁ nw₁ wr fp St g₁ src hwr hfp st => ?_) hs)
  have hwr₀ : ∀ b ∈ wr, s₀.heap.get? b = none := fun b hb => none_back S.since.up.keep (hwr b hb)
  refine codeAny_forLoop_any (fun k s' => ∃ i ρ' own' nw', k = items.length + 1 - i ∧ i ≤ items.length ∧ J i ρ' own' ∧ Fs w A env s₀ nw₀ ρ' own' s' nw' ∧ St i s'.heap ∧ ∀ p ∈ nw₁, p ∈ nw') ?_ (items.length + 1)
    ⟨0, ρ, own, nw₁, rfl, Nat.zero_le _, h0, S.grow g₁, st, fun _ h => h⟩
  rintro k s' ⟨i, ρ', own', nw', rfl, hle, hJ, S', st', hsub⟩
  have wrs : ∀ b ∈ wr, s₀.heap.get? b = none ∧ ∃ o vs, s'.heap.get? b = some o ∧ o.data = .fields vs := fun b hb => ⟨hwr₀ b hb, src.flds i _ st' b hb⟩
  rcases Nat.lt_or_ge i items.length with hlt | hge
  · have hd : items[i]? = some items[i] := List.getElem?_eq_getElem hlt
    refine wpAny_mono (src.item i _ s' nw' ?qq _ hd S'.since.has hsub st' ?kk) (fun r s₂ hr => ?cc) fun _ _ e => e
    case cc => obtain ⟨v, rfl, hr⟩ := hr; exact hr
    case kk =>
      intro v s'' nw'' near hs'' has'' new'' st'' hv
      have S'' := S'.near near wrs hs'' has'' new''
      obtain ⟨s₂, g₂, S₂, hf₂⟩ := S''.rebase
      refine ha i _ ρ' own' hd hJ s₂ nw'' ρ' s'' nw'' v _ _ S₂ hv fun s₃ nw₃ S₃ => ?_
      refine (turn i _ ρ' own' hd hJ).run s₂ nw'' s₃ nw₃ _ _ S₃ (fun ρ₄ own₄ s₄ nw₄ hJ₄ S₄ => ?_) (fun d v s₄ nw₄ hR g₄ hv₄ => ?_) fun e s₄ hx => ?_
      · refine ⟨items.length + 1 - (i + 1), by omega, i + 1, ρ₄, own₄, nw₄, rfl, hlt, hJ₄, S₄.down S.gl₀ g₂, src.frame _ _ _ st'' fun b hb o eo => ?_, fun p hp => S₄.since.sub p (hs'' p (hsub p hp))⟩
        rcases hfp b hb with h | ⟨o', h⟩
        · obtain ⟨o₂, vs, e₂, hd₂⟩ := src.flds _ _ st'' b h
          rw [eo] at e₂
          exact S₄.since.up.keep.at (hf₂ b o vs eo (by rw [Option.some.inj e₂]; exact hd₂)) (fun _ _ q => by rw [Option.some.inj e₂, hd₂] at q; cases q)
        · have h1 := has'' _ (hs'' _ (hsub _ h))
          rw [eo] at h1
          rw [Option.some.inj h1.1]
          exact (S₄.since.has _ (S₄.since.sub _ (hs'' _ (hsub _ h)))).1
      · exact kr d v s₄ nw₄ hR (g₂.trans g₄) hv₄
      · exact hX.lift s₀ nw₀ e s₄ _ (hX.mono _ _ _ _ _ _ g₂ hx) fun s'' hx'' => kx e s'' hx''
  · obtain rfl : i = items.length := Nat.le_antisymm hle hge
    refine wpAny_mono (src.done s' (fun s'' => Near wr s' s'') _ st' fun s'' near => near) (fun r s'' hr => ?_) fun _ _ e => e
    obtain ⟨rfl, near⟩ := hr
    have hneq : ∀ p ∈ nw', p.1 ∉ wr := fun p hp hb => by
      obtain ⟨o, vs, e, hd⟩ := src.flds _ _ st' _ hb
      obtain ⟨e', xs, n, hq⟩ := S'.since.has p hp
      rw [e] at e'; rw [← Option.some.inj e', hd] at hq; cases hq
    have S'' := S'.near near wrs (fun _ h => h) (fun p hp => ⟨near.keep _ _ (hneq p hp) (S'.since.has p hp).1, (S'.since.has p hp).2⟩) fun _ h => .inl h
    exact wpAny_execs_nil ((done ρ' own' hJ).run s₀ nw₀ s'' nw' Q E S'' kn kr kx)

theorem Ex.while (hX : XOk w A env X) {test : Expr} {body : List Stmt} {pos : Pos} (J : Nat → Loc → Own → Prop) (n : Nat) (h0 : J n ρ own)
    (turn : ∀ n ρ' own', J n ρ' own' → ∃ b, Tr w A env ρ' test b ∧ (b = true → Ex w A env R X ρ' own' body fun ρ'' own'' => ∃ m, m < n ∧ J m ρ'' own'') ∧ (b = false → Ex w A env R X ρ' own' rest N)) :
    Ex w A env R X ρ own (.While test body [] pos :: rest) N := by
  refine ⟨?_⟩
  intro s₀ nw₀ s nw Q E S kn kr kx
  refine wpAny_cons (wpAny_While ?_)
  refine codeAny_whileLoop (fun k s' => ∃ ρ' own' nw', J k ρ' own' ∧ Fs w A env s₀ nw₀ ρ' own' s' nw') ?_ n ⟨ρ, own, nw, h0, S⟩
  rintro k s' ⟨ρ', own', nw', hJ, S'⟩
  obtain ⟨b, ht, hb, hr⟩ := turn k ρ' own' hJ
  refine ht.run s' nw' _ _ S'.st fun s₂ nw₂ g₂ => ?_
  have S₂ := S'.grow g₂
  cases b with
  | true =>
    simp only [if_true]
    refine (hb rfl).run s₀ nw₀ s₂ nw₂ _ _ S₂ (fun ρ₃ own₃ s₃ nw₃ hJ₃ S₃ => ?_) (fun d v s₃ nw₃ hR g₃ hv => kr d v s₃ nw₃ hR g₃ hv) fun e s₃ hx => hX.lift s₀ nw₀ e s₃ _ hx fun s'' h => kx e s'' h
    obtain ⟨m, hm, hJ₃⟩ := hJ₃
    exact ⟨m, hm, ρ₃, own₃, nw₃, hJ₃, S₃⟩
  | false =>
    simp only [Bool.false_eq_true, if_false]
    exact wpAny_execs_nil ((hr rfl).run s₀ nw₀ s₂ nw₂ Q E S₂ kn kr kx)

/-- the owned list's new content -/
theorem Fs.own_upd {s₀ : Shared} {nw₀ : Led} {s : Shared} {nw : Led} {x : Str} {ds ds' : List Dat} (S : Fs w A env s₀ nw₀ ρ (some (x, ds)) s nw) {a : Addr} {o : Obj} {vs' : List Value} {n' : Nat} (hm : ∃ m, s.heap.Ns env.locals m ∧ m x = some (.ref a)) (ha : s.heap.get? a = some o)
    {h' : Heap} {tk : Nat} (hs : Heap.SameBut a s.heap h') (ha' : h'.get? a = some (listOf vs'.toArray n')) (hd : DatAll nw vs' ds') : Fs w A env s₀ nw₀ ρ (some (x, ds')) { s with heap := h', toks := tk } nw := by
  obtain ⟨a₁, vs, n, hk, ⟨m₁, hm₁, hx₁⟩, ha₁, _, hne, h0⟩ := S.own x ds rfl
  obtain ⟨m, hns, hx⟩ := hm
  have ea : a = a₁ := by
    have := (hns.agree hm₁ x).symm.trans hx
    rw [hx₁] at this; cases this; rfl
  subst ea
  rw [ha₁] at ha
  obtain ⟨oL, es, ep, hL, hLd, rL⟩ := id hns
  have hLa : env.locals ≠ a := fun q => by rw [q, ha₁] at hL; cases hL; cases hLd
  have keepCell : ∀ c v, s.heap.IsCell c v → h'.IsCell c v := fun c v hc => hc.sameBut hs fun q => by
    obtain ⟨o, ho, hd⟩ := hc
    rw [q, ha₁] at ho; cases ho; cases hd
  refine ⟨S.fits, S.gl₀, S.stk.but hs (notNs ha₁ fun _ _ q => by cases q), ⟨⟨by rw [S.since.up.eq], S.since.up.keep.but h0 fun b o hb e => hs.extBut b o hb e⟩, S.since.sub, fun p hp => ⟨(hs.2 p.1 (hne p hp)).trans (S.since.has p hp).1, (S.since.has p hp).2⟩, S.since.new⟩, S.fr, ⟨m, hns.sameBut hs hLa⟩,
    fun y c e => let ⟨z, v, hc⟩ := S.cells y c e; ⟨z, v, keepCell c v hc⟩, S.apart, fun y d e => ?_, fun y ds e => ?_⟩
  · obtain ⟨v, hv, hn⟩ := S.names y d e
    exact ⟨v, hv, hn.imp (fun ⟨z, m', b, c⟩ => ⟨z, m', b.sameBut hs hLa, c⟩) fun ⟨z, c, b, hc⟩ => ⟨z, c, b, keepCell c _ hc⟩⟩
  · cases e
    exact ⟨a, vs', n', hk, ⟨m, hns.sameBut hs hLa, hx⟩, ha', hd, hne, h0⟩

theorem listMethod {s : Shared} {a : Addr} {its : Array Value} {n : Nat} {name : Str} {id : String} {pl : Sem Bool} {Q : Value × List Value → Shared → Prop} {E : Value → Shared → Prop} (ha : s.heap.get? a = some (listOf its n)) (slot : Slot "list" name id) (hty : typeOf (.builtin id) = pure (.type "method_descriptor"))
    (h : Q (.builtin id, [.ref a]) s) : wpAny (model Prg w) A (getMethod (.ref a) name pl) Q E s :=
  getMethod_builtin ⟨_, ha, rfl⟩ PySem.F.plainAttrs_list slot hty (fun b e => by cases e; exact ⟨_, ha, rfl⟩) h

theorem Ex.append {x : Str} {px ap cp pos : Pos} {e : Expr} {ds : List Dat} {d : Dat} {pl : Sem Bool} (he : Ev w A env ρ e d) (hr : Ex w A env R X ρ (some (x, ds ++ [d])) rest N) (hz : ds.length ≤ 1000)
    (hm : eval (.Call (.Attribute (.Name x px) "append" ap) [e] [] cp) env = (do
      let ov ← eval (.Name x px) env
      standAt ap.atName
      let (f, first) ← holding [ov] (getMethod ov "append" pl)
      callWith cp f first (backTo cp (starEach [e] env)) (backToKw cp (keywordEach [] env))) := by rfl)
    (hi : interactive env = false := by rfl) (hst : starEach [e] env = (false, eval e env) :: starEach [] env := by rfl) (hd : (x == ("__debug__" : Str)) = false := by decide) :
    Ex w A env R X ρ (some (x, ds)) (.Expr (.Call (.Attribute (.Name x px) "append" ap) [e] [] cp) pos :: rest) N := by
  refine ⟨?_⟩
  intro s₀ nw₀ s nw Q E S kn kr kx
  obtain ⟨a, vs, n, hk, ⟨m, hns, hx⟩, ha, hds, hne, h0⟩ := S.own x ds rfl
  refine wpAny_cons (wpAny_Expr (methodCall_KW (wpAny_Name (wpAny_loadName_local S.fits.hk hk hns hx ?_) hd) hm) hi)
  refine listMethod ha PySem.F.slot_list_append PySem.F.type_list_append ?_
  show wpAny _ _ (callWith cp (.builtin "list.append") [.ref a] (backTo cp (starEach [e] env)) []) _ _ s
  have h := (Evs.cons he .nil hst) cp s nw (fun us s₁ => wpAny (model Prg w) A (call (.builtin "list.append") ([.ref a] ++ us) []) (fun v s' => match v with | .ref _ => False | _ => wpAny (model Prg w) A (execs rest env) Q E s') E s₁) E S.st fun us s₁ nw₁ g₁ d₁ => by
    obtain ⟨v, rfl, hv⟩ := one d₁
    have S₁ := S.grow g₁
    have ha₁ := g₁.up.keep.at ha (fun _ _ q => by cases q)
    refine append_at ha₁ (fun h' hs' ha' => ?_) (by rw [List.size_toArray, hds.length, sizeLine_eq]; omega)
    show wpAny (model Prg w) A (execs rest env) Q E _
    refine (hr).run s₀ nw₀ _ nw₁ Q E (S₁.own_upd (vs' := vs ++ [v]) (n' := n + 1) ⟨m, g₁.up.keep.ns hns, hx⟩ ha₁ hs' ?_ ((hds.mono g₁.sub).append (DatAll.one hv))) kn kr kx
    rw [ha', List.push_toArray]
  rw [hst] at h ⊢
  exact callWith_builtin (by rfl) (evalArgs_plain (wpAny_mono h (fun us s₁ h₁ => wpAny_mono h₁ (fun v s' h => by cases v <;> exact h) fun _ _ e => e) fun _ _ e => e))
theorem Ex.extend {x : Str} {px ap cp pos : Pos} {e : Expr} {ds ds' : List Dat} {pl : Sem Bool} (he : Ev w A env ρ e (.list ds')) (hr : Ex w A env R X ρ (some (x, ds ++ ds')) rest N) (hz : ds.length ≤ 1000) (hz' : ds'.length ≤ 1000)
    (hm : eval (.Call (.Attribute (.Name x px) "extend" ap) [e] [] cp) env = (do
      let ov ← eval (.Name x px) env
      standAt ap.atName
      let (f, first) ← holding [ov] (getMethod ov "extend" pl)
      callWith cp f first (backTo cp (starEach [e] env)) (backToKw cp (keywordEach [] env))) := by rfl)
    (hi : interactive env = false := by rfl) (hst : starEach [e] env = (false, eval e env) :: starEach [] env := by rfl) (hd : (x == ("__debug__" : Str)) = false := by decide) :
    Ex w A env R X ρ (some (x, ds)) (.Expr (.Call (.Attribute (.Name x px) "extend" ap) [e] [] cp) pos :: rest) N := by
  refine ⟨?_⟩
  intro s₀ nw₀ s nw Q E S kn kr kx
  obtain ⟨a, vs, n, hk, ⟨m, hns, hx⟩, ha, hds, hne, h0⟩ := S.own x ds rfl
  refine wpAny_cons (wpAny_Expr (methodCall_KW (wpAny_Name (wpAny_loadName_local S.fits.hk hk hns hx ?_) hd) hm) hi)
  refine listMethod ha PySem.F.slot_list_extend PySem.F.type_list_extend ?_
  show wpAny _ _ (callWith cp (.builtin "list.extend") [.ref a] (backTo cp (starEach [e] env)) []) _ _ s
  have h := (Evs.cons he .nil hst) cp s nw (fun us s₁ => wpAny (model Prg w) A (call (.builtin "list.extend") ([.ref a] ++ us) []) (fun v s' => match v with | .ref _ => False | _ => wpAny (model Prg w) A (execs rest env) Q E s') E s₁) E S.st fun us s₁ nw₁ g₁ d₁ => by
    obtain ⟨v, rfl, hv⟩ := one d₁
    obtain ⟨b, ws, n2, rfl, hb, hws⟩ := datList hv
    have S₁ := S.grow g₁
    have ha₁ := g₁.up.keep.at ha (fun _ _ q => by cases q)
    have hb₁ := (g₁.has _ hb).1
    have l1 := hds.length
    have l2 := hws.length
    refine call_meets PySem.F.slot_list_extend ⟨_, ha₁, rfl⟩ PySem.F.entry_list_extend (PySem.F.args_list_extend_2 _ _) (AutoSeq1.list_extend_list_list_0 a vs.toArray n b ws.toArray n2 (extend_door (by rw [List.size_toArray, List.size_toArray, sizeLine_eq]; omega)) (by rw [List.size_toArray, sizeLine_eq]; omega)) ⟨ha₁, hb₁, ?_⟩
    show wpAny (model Prg w) A (execs rest env) Q E _
    have e : vs.toArray ++ ws.toArray = (vs ++ ws).toArray := by simp
    refine (hr).run s₀ nw₀ _ nw₁ Q E (S₁.own_upd (vs' := vs ++ ws) (n' := if (vs.toArray ++ ws.toArray).size == vs.toArray.size then n else n + 1) ⟨m, g₁.up.keep.ns hns, hx⟩ ha₁ (Heap.SameBut.update ..) ?_ ((hds.mono g₁.sub).append hws)) kn kr kx
    rw [Heap.get?_update_self _ ha₁ (by rw [mapSeq_app]; rfl), mapSeq_app, e]
  rw [hst] at h ⊢
  exact callWith_builtin (by rfl) (evalArgs_plain (wpAny_mono h (fun us s₁ h₁ => wpAny_mono h₁ (fun v s' h => by cases v <;> exact h) fun _ _ e => e) fun _ _ e => e))
end
end Mine
end

section
open PySem PySem.W PySem.Calls PyProof.Rows
set_option maxRecDepth 100000
namespace Mine
variable [Inhabited Thr]
section
variable {w : World}

theorem bound_names {nw : Led} {h : Heap} {env : Env} : ∀ {xs : List Str} {vs : List Value} {ds : List Dat} {ps : List (Str × Value)} {ρ : Loc}, DatAll nw vs ds → (∀ x d, look ρ x = some d → ∃ v, ps.lookup x = some v ∧ DatIn nw v d) →
    ∀ x d, look ((xs.zip ds).reverse ++ ρ) x = some d → ∃ v, ((xs.zip vs).reverse ++ ps).lookup x = some v ∧ DatIn nw v d
  | [], _, _, ps, ρ, _, h, x, d, e => by simpa using h x d (by simpa using e)
  | _ :: _, _, _, ps, ρ, .nil, h, x, d, e => by simpa using h x d (by simpa using e)
  | y :: ys, _, _, ps, ρ, @DatAll.cons _ v vs d' ds hv hr, h, x, d, e => by
    have := bound_names (xs := ys) (ps := (y, v) :: ps) (ρ := (y, d') :: ρ) (h := ‹Heap›) (env := env) hr (fun z dz ez => by
      unfold look at ez
      split at ez
      · rename_i q; cases ez; exact ⟨v, by rw [List.lookup_cons, q]; simp, hv⟩
      · rename_i q
        obtain ⟨u, hu, hd⟩ := h z dz ez
        refine ⟨u, ?_, hd⟩
        rw [List.lookup_cons]
        have : (z == y) = false := by simpa using q
        rw [this]; exact hu) x d (by simpa using e)
    simpa using this

theorem Stk.push {A : Around} {env : Env} {h h' : Heap} {L : Addr} {m : Str → Option Value} (x : Stk A h) (k : Kp h h') (hk : env.scope.kind ≠ .module) (hf : env.frame = some L) (hn : h'.Ns L m) (hL : thr < L) : Stk (A.deeper env) h' := by
  obtain ⟨l, e, r⟩ := x
  refine ⟨env :: l, Around.frames_deeper e, fun env' he => ?_⟩
  rcases List.mem_cons.mp he with rfl | he
  · exact ⟨hk, L, m, hf, hn, hL⟩
  · obtain ⟨a, L', m', b, c, z⟩ := r env' he
    exact ⟨a, L', m', b, k.ns c, z⟩
/-- into a def without cells -/
theorem enter {f : Addr} {name qual : Str} {params : Arguments} {body : List Stmt} {scope : Scope} {dV kV doc pm cdv ct oc : Value} {an od : Option Addr} {osl : Array (Option Value)} {A : Around} {s : Shared} {nw : Led} {xs : List Str} {vs : List Value} {ds : List Dat} {Rz : Result → Shared → Prop}
    (ho : (KK w).lookup f = some ⟨oc, od, .func (fnOf name qual params body scope dV kV doc pm an cdv ct), osl⟩) (hcd : codeIn (KK w) cdv qual = true) (G : Gl w s.heap) (KS : Stk A s.heap) (H : Has s.heap nw) (D : DatAll nw vs ds) (hroom : A.depth < recursionLimit)
    (hbind : bindArgs (fnOf name qual params body scope dV kV doc pm an cdv ct) ⟨vs, []⟩ = pure (xs.zip vs)) (hloc : ∀ x ∈ xs, scope.names.lookup x = some .local) (hcell : ∀ x ∈ scope.names, x.2 ≠ .cell)
    (hk : scope.kind = .function) (hco : scope.isCoroutine = false) (hgen : scope.isGenerator = false)
    (h : ∀ L s₁, Fs w (A.deeper (envOf qual scope L f cdv)) (envOf qual scope L f cdv) s nw ((xs.zip ds).reverse) none s₁ nw → wpAny (model Prg w) (A.deeper (envOf qual scope L f cdv)) (execs body (envOf qual scope L f cdv)) (fun fl s' => Rz (.ok (.ret (match fl with | .ret v => v | _ => .none))) s')
      (fun e s' => wpAny (model Prg w) (A.deeper (envOf qual scope L f cdv)) (leaving (envOf qual scope L f cdv) e) (fun _ s'' => Rz (.error e) s'') (fun e' s'' => Rz (.error e') s'') s') s₁) : codeAny (model Prg w) A (.call (.ref f) ⟨vs, []⟩) Rz s := by
  refine codeAny_call_def (fd := fnOf name qual params body scope dV kV doc pm an cdv ct) (body := body) (binds := xs.zip vs) hroom (G.at ho fun _ _ q => by cases q) rfl G.nolimit (G.code hcd) rfl (BindsTo.of_eq hbind) hcell (fun x hx => hloc x.1 (List.of_mem_zip hx).1) (fun h₁ hns hk₁ => ?_) hco hgen hk
  refine h s.heap.objs.size _ ⟨⟨hk, rfl, rfl⟩, G, KS.push (.of hk₁) (by show scope.kind ≠ _; rw [hk]; decide) rfl hns G.big, .of_up H (.both hk₁), Heap.get?_none_of_le (Nat.le_refl _), ⟨_, hns⟩, fun x c e => (by cases e), fun x c y c' e => (by cases e), fun x d e => ?_, fun _ _ e => (by cases e)⟩
  obtain ⟨v, hv, hd⟩ := bound_names (h := h₁) (env := envOf qual scope 0 f cdv) (xs := xs) (ps := []) (ρ := []) D (fun _ _ e => by cases e) x d (by simpa using e)
  refine ⟨v, hd, .inl ⟨?_, _, hns, by simpa using hv⟩⟩
  have hx : x ∈ xs := by
    have : ∀ (l : List (Str × Value)), l.lookup x = some v → (x, v) ∈ l := by
      intro l
      induction l with
      | nil => intro e; cases e
      | cons q l ih =>
        intro e
        rw [List.lookup_cons] at e
        split at e
        · rename_i h
          cases e
          have : x = q.1 := by simpa using h
          rw [this]; exact .head _
        · exact .tail _ (ih e)
    have := this _ hv
    simp only [List.append_nil, List.mem_reverse] at this
    exact (List.of_mem_zip this).1
  exact hloc x hx

theorem Fn.intro {f : Addr} {name qual : Str} {params : Arguments} {body : List Stmt} {scope : Scope} {dV kV doc pm cdv ct oc : Value} {an od : Option Addr} {osl : Array (Option Value)} {xs : List Str} {ds : List Dat} {r : Dat} {k : Nat}
    (ho : (KK w).lookup f = some ⟨oc, od, .func (fnOf name qual params body scope dV kV doc pm an cdv ct), osl⟩) (hcd : codeIn (KK w) cdv qual = true)
    (hbind : ∀ vs : List Value, vs.length = ds.length → bindArgs (fnOf name qual params body scope dV kV doc pm an cdv ct) ⟨vs, []⟩ = pure (xs.zip vs)) (hloc : ∀ x ∈ xs, scope.names.lookup x = some .local) (hcell : ∀ x ∈ scope.names, x.2 ≠ .cell)
    (hk : scope.kind = .function) (hco : scope.isCoroutine = false) (hgen : scope.isGenerator = false)
    (h : ∀ A L, Room A k → Ex w A (envOf qual scope L f cdv) (fun d => d = r) noX ((xs.zip ds).reverse) none body fun _ _ => False) : Fn w (k + 1) (.ref f) ds r := by
  intro A hA s nw vs Q E G KS H D kk
  refine wpAny_call (enter ho hcd G KS H D hA.lt (hbind vs D.length) hloc hcell hk hco hgen fun L s₁ S₁ => ?_)
  exact (h _ L (hA.deeper _)).run s nw s₁ nw _ _ S₁ (fun _ _ _ _ h => h.elim) (fun d v s' nw' hr g hv => by subst hr; exact kk v s' nw' g hv) fun _ _ h => h.elim
theorem bind1 {P : List Value → Prop} (h : ∀ v, P [v]) : ∀ vs : List Value, vs.length = 1 → P vs := fun vs e => by
  match vs, e with
  | [v], _ => exact h v
theorem bind2 {P : List Value → Prop} (h : ∀ v u, P [v, u]) : ∀ vs : List Value, vs.length = 2 → P vs := fun vs e => by
  match vs, e with
  | [v, u], _ => exact h v u
end

end Mine
end

section
open PySem PySem.W PySem.Calls PyProof.Rows
set_option maxRecDepth 100000
namespace Mine
theorem fill : hd.heap_39 = hd.heap_39 ∧ PySem.Challenge.rw_nt0005_01 = PySem.Challenge.rw_nt0005_01 := by k_fill; exact ⟨rfl, rfl⟩
variable [Inhabited Thr]
theorem g_is_code (w : World) : nsIn (KK w) mainGlobals "is_code" = some (some (.ref 66)) := by unfold KK; k_is
theorem k_is_code (w : World) : fnIn (KK w) 66 = true := by unfold KK; k_is
theorem g_is_surrogate (w : World) : nsIn (KK w) mainGlobals "is_surrogate" = some (some (.ref 73)) := by unfold KK; k_is
theorem k_is_surrogate (w : World) : fnIn (KK w) 73 = true := by unfold KK; k_is
theorem g_is_scalar (w : World) : nsIn (KK w) mainGlobals "is_scalar" = some (some (.ref 80)) := by unfold KK; k_is
theorem k_is_scalar (w : World) : fnIn (KK w) 80 = true := by unfold KK; k_is
theorem g_utf8_octets (w : World) : nsIn (KK w) mainGlobals "utf8_octets" = some (some (.ref 87)) := by unfold KK; k_is
theorem k_utf8_octets (w : World) : fnIn (KK w) 87 = true := by unfold KK; k_is
theorem g_utf8_length (w : World) : nsIn (KK w) mainGlobals "utf8_length" = some (some (.ref 94)) := by unfold KK; k_is
theorem k_utf8_length (w : World) : fnIn (KK w) 94 = true := by unfold KK; k_is
theorem g_encode_utf8 (w : World) : nsIn (KK w) mainGlobals "encode_utf8" = some (some (.ref 101)) := by unfold KK; k_is
theorem k_encode_utf8 (w : World) : fnIn (KK w) 101 = true := by unfold KK; k_is
theorem g_length_of (w : World) : nsIn (KK w) mainGlobals "length_of" = some (some (.ref 108)) := by unfold KK; k_is
theorem k_length_of (w : World) : fnIn (KK w) 108 = true := by unfold KK; k_is
theorem g_utf8_lead (w : World) : nsIn (KK w) mainGlobals "utf8_lead" = some (some (.ref 115)) := by unfold KK; k_is
theorem k_utf8_lead (w : World) : fnIn (KK w) 115 = true := by unfold KK; k_is
theorem g_utf8_piece (w : World) : nsIn (KK w) mainGlobals "utf8_piece" = some (some (.ref 122)) := by unfold KK; k_is
theorem k_utf8_piece (w : World) : fnIn (KK w) 122 = true := by unfold KK; k_is
theorem g_decode_utf8 (w : World) : nsIn (KK w) mainGlobals "decode_utf8" = some (some (.ref 129)) := by unfold KK; k_is
theorem k_decode_utf8 (w : World) : fnIn (KK w) 129 = true := by unfold KK; k_is
theorem g_decode_utf8_replaced (w : World) : nsIn (KK w) mainGlobals "decode_utf8_replaced" = some (some (.ref 136)) := by unfold KK; k_is
theorem k_decode_utf8_replaced (w : World) : fnIn (KK w) 136 = true := by unfold KK; k_is
theorem g_is_utf8 (w : World) : nsIn (KK w) mainGlobals "is_utf8" = some (some (.ref 143)) := by unfold KK; k_is
theorem k_is_utf8 (w : World) : fnIn (KK w) 143 = true := by unfold KK; k_is
theorem g_forward_from (w : World) : nsIn (KK w) mainGlobals "forward_from" = some (some (.ref 150)) := by unfold KK; k_is
theorem k_forward_from (w : World) : fnIn (KK w) 150 = true := by unfold KK; k_is
theorem g_back_from (w : World) : nsIn (KK w) mainGlobals "back_from" = some (some (.ref 157)) := by unfold KK; k_is
theorem k_back_from (w : World) : fnIn (KK w) 157 = true := by unfold KK; k_is
theorem g_utf8_places (w : World) : nsIn (KK w) mainGlobals "utf8_places" = some (some (.ref 164)) := by unfold KK; k_is
theorem k_utf8_places (w : World) : fnIn (KK w) 164 = true := by unfold KK; k_is
theorem g_law_is_begun (w : World) : nsIn (KK w) mainGlobals "_law_is_begun" = some (some (.ref 169)) := by unfold KK; k_is
theorem k_law_is_begun (w : World) : fnIn (KK w) 169 = true := by unfold KK; k_is
theorem g_law_code (w : World) : nsIn (KK w) mainGlobals "_law_code" = some (some (.ref 176)) := by unfold KK; k_is
theorem k_law_code (w : World) : fnIn (KK w) 176 = true := by unfold KK; k_is
theorem g_law_cut (w : World) : nsIn (KK w) mainGlobals "_law_cut" = some (some (.ref 183)) := by unfold KK; k_is
theorem k_law_cut (w : World) : fnIn (KK w) 183 = true := by unfold KK; k_is
theorem g_law_written (w : World) : nsIn (KK w) mainGlobals "_law_written" = some (some (.ref 190)) := by unfold KK; k_is
theorem k_law_written (w : World) : fnIn (KK w) 190 = true := by unfold KK; k_is
theorem g_law_strict (w : World) : nsIn (KK w) mainGlobals "_law_strict" = some (some (.ref 197)) := by unfold KK; k_is
theorem k_law_strict (w : World) : fnIn (KK w) 197 = true := by unfold KK; k_is
theorem g_law_refused (w : World) : nsIn (KK w) mainGlobals "_law_refused" = some (some (.ref 204)) := by unfold KK; k_is
theorem k_law_refused (w : World) : fnIn (KK w) 204 = true := by unfold KK; k_is
theorem g_law_places (w : World) : nsIn (KK w) mainGlobals "_law_places" = some (some (.ref 211)) := by unfold KK; k_is
theorem k_law_places (w : World) : fnIn (KK w) 211 = true := by unfold KK; k_is
theorem g_law_text_right (w : World) : nsIn (KK w) mainGlobals "_law_text_right" = some (some (.ref 216)) := by unfold KK; k_is
theorem k_law_text_right (w : World) : fnIn (KK w) 216 = true := by unfold KK; k_is
theorem b_len (w : World) : nsIn (KK w) mainGlobals "len" = some none := by unfold KK; k_is
theorem b_range (w : World) : nsIn (KK w) mainGlobals "range" = some none := by unfold KK; k_is
theorem b_bytes (w : World) : nsIn (KK w) mainGlobals "bytes" = some none := by unfold KK; k_is
theorem b_list (w : World) : nsIn (KK w) mainGlobals "list" = some none := by unfold KK; k_is
theorem b_enumerate (w : World) : nsIn (KK w) mainGlobals "enumerate" = some none := by unfold KK; k_is
theorem b_abs (w : World) : nsIn (KK w) mainGlobals "abs" = some none := by unfold KK; k_is
theorem b_int (w : World) : nsIn (KK w) mainGlobals "int" = some none := by unfold KK; k_is
theorem c_MAX_CODE (w : World) : ∃ t, nsIn (KK w) mainGlobals "MAX_CODE" = some (some (.int 1114111 t)) := ⟨_, by unfold KK; k_is⟩
theorem c_HIGH_FIRST (w : World) : ∃ t, nsIn (KK w) mainGlobals "HIGH_FIRST" = some (some (.int 55296 t)) := ⟨_, by unfold KK; k_is⟩
theorem c_LOW_LAST (w : World) : ∃ t, nsIn (KK w) mainGlobals "LOW_LAST" = some (some (.int 57343 t)) := ⟨_, by unfold KK; k_is⟩
theorem c_REPLACEMENT (w : World) : ∃ t, nsIn (KK w) mainGlobals "REPLACEMENT" = some (some (.int 65533 t)) := ⟨_, by unfold KK; k_is⟩
theorem c_UTF8_TRAIL (w : World) : ∃ t, nsIn (KK w) mainGlobals "UTF8_TRAIL" = some (some (.int 128 t)) := ⟨_, by unfold KK; k_is⟩
theorem c_UTF8_PLANE (w : World) : ∃ t, nsIn (KK w) mainGlobals "UTF8_PLANE" = some (some (.int 65536 t)) := ⟨_, by unfold KK; k_is⟩
theorem c_UTF8_ALONE (w : World) : ∃ t, nsIn (KK w) mainGlobals "UTF8_ALONE" = some (some (.str (Str.ofString "a trail octet without a lead") t)) := ⟨_, by unfold KK; k_is⟩
theorem c_UTF8_NEVER (w : World) : ∃ t, nsIn (KK w) mainGlobals "UTF8_NEVER" = some (some (.str (Str.ofString "an octet that never stands") t)) := ⟨_, by unfold KK; k_is⟩
theorem c_UTF8_BROKEN (w : World) : ∃ t, nsIn (KK w) mainGlobals "UTF8_BROKEN" = some (some (.str (Str.ofString "a sequence that breaks off") t)) := ⟨_, by unfold KK; k_is⟩
theorem c_UTF8_SHORT (w : World) : ∃ t, nsIn (KK w) mainGlobals "UTF8_SHORT" = some (some (.str (Str.ofString "a sequence that is cut short") t)) := ⟨_, by unfold KK; k_is⟩
omit [Inhabited Thr] in
noncomputable def lawOctets : List UInt8 := [65, 127, 128, 143, 144, 159, 160, 191, 192, 193, 194, 223, 224, 225, 236, 237, 238, 239, 240, 241, 243, 244, 245, 255]
theorem c_octets (w : World) : ∃ t, nsIn (KK w) mainGlobals "_law_octets" = some (some (.bytes lawOctets.toArray t)) := ⟨_, by unfold KK; k_is⟩
section
variable {w : World} {A : Around} {env : Env} {ρ : Loc}
theorem Ev.top {x : Str} {pos : Pos} {v : Value} {d : Dat} (e : nsIn (KK w) mainGlobals x = some (some v)) (hv : ∀ nw, DatIn nw v d) (hx : env.kindOf x = some .globalImplicit) (hd : (x == ("__debug__" : Str)) = false := by decide) : Ev w A env ρ (.Name x pos) d := ⟨fun s nw Q E S k => name_top S e hx (k v s nw (.refl S.has) (hv nw)) hd⟩
theorem Ev.topInt {x : Str} {pos : Pos} {i : Int} (e : ∃ t, nsIn (KK w) mainGlobals x = some (some (.int i t))) (hx : env.kindOf x = some .globalImplicit) (hd : (x == ("__debug__" : Str)) = false := by decide) : Ev w A env ρ (.Name x pos) (.int i) :=
  let ⟨_, e⟩ := e; .top e (fun _ => .int _ _) hx hd
theorem Ev.topStr {x : Str} {pos : Pos} {i : Str} (e : ∃ t, nsIn (KK w) mainGlobals x = some (some (.str i t))) (hx : env.kindOf x = some .globalImplicit) (hd : (x == ("__debug__" : Str)) = false := by decide) : Ev w A env ρ (.Name x pos) (.str i) :=
  let ⟨_, e⟩ := e; .top e (fun _ => .str _ _) hx hd
theorem Ev.topBytes {x : Str} {pos : Pos} {i : Array UInt8} (e : ∃ t, nsIn (KK w) mainGlobals x = some (some (.bytes i t))) (hx : env.kindOf x = some .globalImplicit) (hd : (x == ("__debug__" : Str)) = false := by decide) : Ev w A env ρ (.Name x pos) (.bytes i) :=
  let ⟨_, e⟩ := e; .top e (fun _ => .bytes _ _) hx hd
end
end Mine
end

section
open PySem PySem.W PySem.Calls PyProof.Rows
set_option maxRecDepth 100000
namespace Mine
variable [Inhabited Thr]

theorem Kp.near {h₀ h h' : Heap} {wr : List Addr} (k : Kp h₀ h) (h0 : ∀ b ∈ wr, h₀.get? b = Option.none) (hs : ∀ b o, b ∉ wr → h.get? b = some o → h'.get? b = some o) : Kp h₀ h' := fun b o e => by
  obtain ⟨sl, e1, h1⟩ := k b o e
  exact ⟨sl, hs b _ (fun q => by rw [h0 b q] at e; cases e) e1, h1⟩
theorem Stk.off {A : Around} {h h₁ h' : Heap} {C : Addr} (x : Stk A h) (y : Stk A h₁) (hC : h.get? C = none) (hs : Heap.SameBut C h₁ h') : Stk A h' := by
  obtain ⟨l, e, r⟩ := x
  obtain ⟨l', e', r'⟩ := y
  rw [e] at e'; cases e'
  refine ⟨l, e, fun env he => ?_⟩
  obtain ⟨a, L, m, b, c, z⟩ := r env he
  obtain ⟨_, L', m', b', c', _⟩ := r' env he
  rw [b] at b'; cases b'
  refine ⟨a, L, m', b, c'.sameBut hs fun q => ?_, z⟩
  obtain ⟨o, es, ep, z, _⟩ := c
  rw [q, hC] at z; cases z
/-- one turn after another of a list comprehension, whatever its target and tests -/
theorem comp_turns {w : World} {A : Around} {elt target iter : Expr} {ifs : List Expr} {scope : Scope} {pos : Pos} {it acc : Value} {cenv : Env} {R : Result → Shared → Prop} {s : Shared} (I : Nat → Shared → Prop)
    (turn : ∀ n s, I n s → wpAny (model Prg w) A (pyNext it) (fun r s₁ => match r with
      | none => R (.ok .next) s₁
      | some v => wpAny (model Prg w) A (letOwnedTupleGo target it v) (fun _ s₁' => wpAny (model Prg w) A (assign target cenv v) (fun _ s₂ =>
          wpAny (model Prg w) A (forIn ifs true fun c r => if r = true then do let ok ← isTrue c cenv (eval c cenv); pure (ForInStep.yield ok) else pure (ForInStep.yield r)) (fun ok s₃ =>
            if ok = true then wpAny (model Prg w) A (eval elt cenv) (fun x s₄ =>
              wpAny (model Prg w) A (call (.builtin "list.append") [acc, x]) (fun _ s₅ => ∃ m, m < n ∧ I m s₅) (notedBy (model Prg w) A cenv fun e s' => R (.error e) s') s₄) (notedBy (model Prg w) A cenv fun e s' => R (.error e) s') s₃
            else ∃ m, m < n ∧ I m s₃) (notedBy (model Prg w) A cenv fun e s' => R (.error e) s') s₂) (notedBy (model Prg w) A cenv fun e s' => R (.error e) s') s₁') (notedBy (model Prg w) A cenv fun e s' => R (.error e) s') s₁) (notedBy (model Prg w) A cenv fun e s' => R (.error e) s') s)
    (n : Nat) (h : I n s) : codeAny (model Prg w) A (.compLoop (.ListComp elt [⟨target, iter, ifs, 0⟩] scope pos) 0 it acc cenv) R s := by
  refine codeAny_loop rfl I (fun n s hI => ?_) n h
  show wpAny _ A ((compTurn (.ListComp elt [⟨target, iter, ifs, 0⟩] scope pos) 0 it acc cenv).onRaise (fun x => do noteFrame x cenv; theTreesLotGoes x)) _ _ s
  refine wpAny_noted ?_
  rw [compTurn_list]
  refine wpAny_bind (wpAny_standAt (wpAny_bind (wpAny_mono (turn n s hI) (fun r s₁ h₁ => ?_) fun _ _ h' => h')))
  cases r with
  | none => exact wpAny_pure h₁
  | some v =>
    refine wpAny_bind (wpAny_mono h₁ (fun _ s₁' h₁' => ?_) fun _ _ h' => h')
    refine wpAny_bind (wpAny_mono h₁' (fun _ s₂ h₂ => wpAny_bind (wpAny_mono h₂ (fun ok s₃ h₃ => ?_) fun _ _ h' => h')) fun _ _ h' => h')
    cases ok with
    | false => exact wpAny_pure ⟨rfl, h₃⟩
    | true => exact wpAny_bind (wpAny_bind (wpAny_mono h₃ (fun x s₄ h₄ => wpAny_bind (wpAny_mono h₄ (fun _ s₅ h₅ => wpAny_pure (wpAny_pure ⟨rfl, h₅⟩)) fun _ _ h' => h')) fun _ _ h' => h'))

/-- tests of a clause -/
noncomputable def Tests (w : World) (A : Around) (env : Env) (ρ : Loc) (ifs : List Expr) (b : Bool) : Prop :=
  ∀ (s : Shared) (nw : Led) (Q : Bool → Shared → Prop) (E : Value → Shared → Prop), St w A env ρ s nw → (∀ s' nw', Grow s s' nw nw' → Q b s') →
    wpAny (model Prg w) A (forIn ifs true fun c r => if r = true then do let ok ← isTrue c env (eval c env); pure (ForInStep.yield ok) else pure (ForInStep.yield r)) Q E s
theorem Tests.nil {w : World} {A : Around} {env : Env} {ρ : Loc} : Tests w A env ρ [] true := fun s nw Q E S k => wpAny_tests_nil (k s nw (.refl S.has))
theorem Tests.one {w : World} {A : Around} {env : Env} {ρ : Loc} {c : Expr} {b : Bool} (h : Tr w A env ρ c b) : Tests w A env ρ [c] b := fun s nw Q E S k => wpAny_tests_one (h.run s nw Q E S k)

/-- a comprehension's own store -/
noncomputable def CAsg (w : World) (A : Around) (cenv : Env) (target : Expr) (d : Dat) (bs : Loc) : Prop :=
  ∀ (s : Shared) (nw : Led) (v : Value) (m : Str → Option Value) (Q : Unit → Shared → Prop) (E : Value → Shared → Prop), s.heap.Ns cenv.locals m → Has s.heap nw → DatIn nw v d →
    (∀ s' m', s' = { s with heap := s'.heap, toks := s'.toks } → (∀ b o, b ≠ cenv.locals → s.heap.get? b = some o → s'.heap.get? b = some o) → s'.heap.Ns cenv.locals m' →
      (∀ x dx, look bs x = some dx → cenv.kindOf x = some .local ∧ ∃ u, DatIn nw u dx ∧ m' x = some u) → Q () s') → wpAny (model Prg w) A (assign target cenv v) Q E s
theorem CAsg.name {w : World} {A : Around} {cenv : Env} {x : Str} {p : Pos} {d : Dat} (hx : cenv.kindOf x = some .local) (hk : cenv.scope.kind = .function) : CAsg w A cenv (.Name x p) d [(x, d)] := by
  intro s nw v m Q E hn H hv k
  refine wpAny_assign_Name (wpAny_storeName_local hx hn (fun h' hn' hs' => ?_) (by rw [hk]; rfl))
  refine k _ _ rfl (fun b o hb e => hs'.extBut b o hb e) hn' fun y dy e => ?_
  unfold look at e
  split at e
  · rename_i q; cases e; subst q; exact ⟨hx, v, hv, if_pos rfl⟩
  · cases e
theorem CAsg.pair {w : World} {A : Around} {cenv : Env} {x y : Str} {px py p : Pos} {k : Nat} {d e : Dat} (hh : A.handled = none) (hx : cenv.kindOf x = some .local) (hy : cenv.kindOf y = some .local) (hxy : y ≠ x) (hk : cenv.scope.kind = .function) :
    CAsg w A cenv (.Tuple [.Name x px, .Name y py] k p) (.tuple [d, e]) [(x, d), (y, e)] := by
  intro s nw v m Q E hn H hv k
  obtain ⟨a, vs, n, rfl, hm, hr⟩ := datTuple hv
  obtain ⟨v, u, rfl, hv, hu⟩ := two hr
  refine assign_Tuple_tuple hh (isTup_at H hm) rfl rfl fun h₁ he => ?_
  have keep₁ : ∀ b o, s.heap.get? b = some o → h₁.get? b = some o := fun b o e => he b o (Nat.ne_of_lt (Heap.lt_size e)) e
  refine inOrder2 (f := assign (.Name x px) cenv) (g := assign (.Name y py) cenv) ?_
  refine wpAny_assign_Name (wpAny_storeName_local hx (hn.keeps keep₁) (fun h₂ hn₂ hs₂ => ?_) (by rw [hk]; rfl))
  refine wpAny_assign_Name (wpAny_storeName_local hy hn₂ (fun h₃ hn₃ hs₃ => ?_) (by rw [hk]; rfl))
  refine k _ _ rfl (fun b o hb e => hs₃.extBut b o hb (hs₂.extBut b o hb (keep₁ b o e))) hn₃ fun z dz e => ?_
  unfold look at e
  split at e
  · rename_i q
    cases e
    subst q
    refine ⟨hx, v, hv, ?_⟩
    show (if z = y then some u else if z = z then some v else m z) = some v
    rw [if_neg (fun q => hxy q.symm), if_pos rfl]
  · unfold look at e
    split at e
    · rename_i q; cases e; subst q; exact ⟨hy, u, hu, if_pos rfl⟩
    · cases e

theorem look_append : ∀ {bs cap : Loc} {x : Str} {d : Dat}, look (bs ++ cap) x = some d → look bs x = some d ∨ look cap x = some d
  | [], _, _, _, h => .inr h
  | (y, e) :: bs, cap, x, d, h => by
    have h' : (if x = y then some e else look (bs ++ cap) x) = some d := h
    show (if x = y then some e else look bs x) = some d ∨ _
    split at h'
    · rename_i q; rw [if_pos q]; exact .inl h'
    · rename_i q; rw [if_neg q]; exact look_append h'

section
variable {w : World} {A : Around} {env : Env} {ρ : Loc}

/-- an iteration's source, seen from one state -/
structure EvIterAt (w : World) (A : Around) (env : Env) (target : Expr) (e : Expr) (items : List Dat) (s : Shared) (nw : Led) : Prop where
  run : ∀ (Q : Value → Shared → Prop) (E : Value → Shared → Prop), (∀ I s' nw' wr fp St, Grow s s' nw nw' → Src w A target nw' I wr fp items St → (∀ b ∈ wr, s.heap.get? b = none) → (∀ b ∈ fp, b ∈ wr ∨ ∃ o, (b, o) ∈ nw') → St 0 s'.heap → Q (.ref I) s') →
    wpAny (model Prg w) A (eval e env) (fun x s₁ => wpAny (model Prg w) A (pyIter x) Q E s₁) E s
theorem EvIter.at {target e : Expr} {items : List Dat} (h : EvIter w A env ρ target e items) {s : Shared} {nw : Led} (S : St w A env ρ s nw) : EvIterAt w A env target e items s nw := ⟨fun Q E k => h.run s nw Q E S k⟩
theorem comp_core {elt target iter : Expr} {ifs : List Expr} {scope : Scope} {cl : List (Str × Addr)} {pos : Pos} {items : List Dat} {cap : Loc} {bind : Dat → Loc} {g : Dat → Option Dat} {RR : Value → Addr → Result → Shared → Prop} {s : Shared} {nw : Led} {E : Value → Shared → Prop}
    (S : St w A env ρ s nw) (hi : EvIterAt w A env target iter items s nw) (hkind : scope.kind = .function) (hcell : ∀ y ∈ scope.names, y.2 ≠ .cell)
    (hcap : ∀ x d, look cap x = some d → look ρ x = some d ∧ env.kindOf x = some .cell ∧ cl.lookup x = env.cells.lookup x ∧ (relabel scope env).names.lookup x = some .cell)
    (hA : ∀ C d, d ∈ items → CAsg w A (compEnvC scope cl C env) target d (bind d))
    (turn : ∀ C d, d ∈ items → match g d with
      | none => Tests w A (compEnvC scope cl C env) (bind d ++ cap) ifs false
      | some e => Tests w A (compEnvC scope cl C env) (bind d ++ cap) ifs true ∧ Ev w A (compEnvC scope cl C env) (bind d ++ cap) elt e)
    (hz : items.length ≤ 1000)
    (hRR : ∀ D C s' nw' ys n m', Grow s s' nw nw' → s'.heap.get? D = some (listOf ys.toArray n) → (∀ p ∈ nw', p.1 ≠ D) → s.heap.get? D = none → DatAll nw' ys (items.filterMap g) → s'.heap.Ns C m' → s.heap.get? C = none → RR (.ref D) C (.ok .next) s') :
    wpAny (model Prg w) A (eval iter env) (fun x s₁ => wpAny (model Prg w) A (pyIter x) (fun it s₂ => wpAny (model Prg w) A (newList []) (fun acc s₃ => wpAny (model Prg w) A (newFunctionEnv scope env.globals cl [] env.qual none .none (some env)) (fun cenv s₄ =>
      codeAny (model Prg w) A (.compStart (.ListComp elt [⟨target, iter, ifs, 0⟩] scope pos) 0 it acc { cenv with scope := relabel scope env }) (RR acc cenv.locals) s₄) E s₃) E s₂) E s₁) E s := by
  refine hi.run _ _ fun I s₁ nw₁ wr fp St g₁ src hwr hfp st => ?_
  refine wpAny_newObj_type (wpAny_newFunctionEnv hcell (by intro y hy; simp at hy) (fun h₂ hns₂ hsb₂ => ?_) hkind)
  dsimp only at hns₂ hsb₂ ⊢
  generalize hD : s₁.heap.objs.size = D at *
  have hDnone : s₁.heap.get? D = none := by rw [← hD]; exact get_new
  generalize hH : s₁.heap.push { cls := .type "list", dict := none, data := .seq ([] : List Value).toArray } = H at *
  have hDH : H.get? D = some (listOf ([] : List Value).toArray 0) := by rw [← hH, ← hD]; exact Heap.get?_push_size _ rfl
  have hup : ∀ b o, s₁.heap.get? b = some o → H.get? b = some o := fun b o e => by rw [← hH]; exact Heap.get?_push_of_some _ e
  generalize hC : H.objs.size = C at *
  have hCnone : H.get? C = none := by rw [← hC]; exact get_new
  have up₂ : ∀ b o, H.get? b = some o → h₂.get? b = some o := fun b o e => hsb₂.extBut b o (fun q => by rw [q, hCnone] at e; cases e) (Heap.get?_push_of_some _ e)
  have g₂ : Grow s₁ { s₁ with heap := h₂, toks := s₁.toks + ([] : List (Str × Value)).length } nw₁ nw₁ := .of_up g₁.has (.both fun b o e => up₂ b o (hup b o e))
  have hwr₀ : ∀ b ∈ wr, s.heap.get? b = none := hwr
  have hC₀ : s.heap.get? C = none := none_back g₁.up.keep (none_back (.of hup) hCnone)
  have hD₀ : s.heap.get? D = none := none_back g₁.up.keep hDnone
  have st₂ : St 0 h₂ := src.frame _ _ _ st fun b hb o e => up₂ b o (hup b o e)
  have loop : codeAny (model Prg w) A (.compLoop (.ListComp elt [⟨target, iter, ifs, 0⟩] scope pos) 0 (.ref I) (.ref D) (compEnvC scope cl C env)) (RR (.ref D) C) { s₁ with heap := h₂, toks := s₁.toks + ([] : List (Str × Value)).length } := by
    refine comp_turns (fun k s' => ∃ i nw' ys n m', k = items.length + 1 - i ∧ i ≤ items.length ∧ Grow s s' nw nw' ∧ (∀ p ∈ nw₁, p ∈ nw') ∧ s'.heap.get? D = some (listOf ys.toArray n) ∧ (∀ p ∈ nw', p.1 ≠ D) ∧ DatAll nw' ys ((items.take i).filterMap g) ∧ s'.heap.Ns C m' ∧ St i s'.heap ∧ ys.length ≤ i) ?_ (items.length + 1)
      ⟨0, nw₁, [], 0, _, rfl, Nat.zero_le _, g₁.trans g₂, fun _ h => h, up₂ _ _ hDH, fun p hp q => ?_, by simp; exact .nil, hns₂, st₂, Nat.le_refl _⟩
    rotate_left
    · have := (g₁.has p hp).1
      rw [q, hDnone] at this; cases this
    rintro k s' ⟨i, nw', ys, n, m', rfl, hle, gr, hsub, hgD, hneD, hds, hnC, st', hyl⟩
    obtain ⟨oC, esC, epC, hgC, hdC, hrC⟩ := id hnC
    have fl := src.flds _ _ st'
    have hCw : C ∉ wr := fun h => by obtain ⟨o, vs, e, hd⟩ := fl C h; rw [hgC] at e; rw [← Option.some.inj e, hdC] at hd; cases hd
    have hDw : D ∉ wr := fun h => by obtain ⟨o, vs, e, hd⟩ := fl D h; rw [hgD] at e; rw [← Option.some.inj e] at hd; cases hd
    have hDC : D ≠ C := fun q => by rw [q, hgC] at hgD; rw [Option.some.inj hgD] at hdC; cases hdC
    rcases Nat.lt_or_ge i items.length with hlt | hge
    · have hd : items[i]? = some items[i] := List.getElem?_eq_getElem hlt
      have hmem : items[i] ∈ items := List.getElem_mem hlt
      refine wpAny_mono (src.item i _ s' nw' ?qq _ hd gr.has hsub st' ?kk) (fun r s₂ hr => ?cc) fun _ _ e => e
      case cc => obtain ⟨v, rfl, hr⟩ := hr; exact hr
      case kk =>
        intro v s'' nw'' near hs'' has'' new'' st'' hv
        have hgD'' := near.keep D _ hDw hgD
        have hnC'' : s''.heap.Ns C m' := ⟨oC, esC, epC, near.keep C _ hCw hgC, hdC, hrC⟩
        have hneD'' : ∀ p ∈ nw'', p.1 ≠ D := fun p hp q => by
          rcases new'' p hp with h | h
          · exact hneD p h q
          · rw [q, hgD] at h; cases h
        refine hA C _ hmem s'' nw'' v m' _ _ hnC'' has'' hv fun s₃ m₃ heq₃ hk₃ hn₃ hb₃ => ?_
        have hgD₃ := hk₃ D _ hDC hgD''
        have has₃ : Has s₃.heap nw'' := fun p hp => by
          obtain ⟨e, xs, k, hq⟩ := has'' p hp
          refine ⟨hk₃ p.1 _ (fun q => ?_) e, xs, k, hq⟩
          have hgC'' := near.keep C _ hCw hgC
          have q' : p.1 = C := q
          have e' : s''.heap.get? C = some p.2 := q' ▸ e
          rw [hgC''] at e'; rw [← Option.some.inj e', hdC] at hq; cases hq
        have gr₃ : Grow s s₃ nw nw'' := by
          refine ⟨⟨by rw [heq₃, near.eq, gr.up.eq], (gr.up.keep.near hwr₀ near.keep).but hC₀ hk₃⟩, fun p hp => hs'' p (gr.sub p hp), has₃, fun p hp => ?_⟩
          rcases new'' p hp with h | h
          · exact gr.new p h
          · exact .inr (none_back gr.up.keep h)
        have st₃ : St (i + 1) s₃.heap := src.frame _ _ _ st'' fun b hb o e => by
          rcases hfp b hb with h | ⟨o', h⟩
          · refine hk₃ b o (fun q => hCw ((show b = C from q) ▸ h)) e
          · have h1 := has'' _ (hs'' _ (hsub _ h))
            rw [e] at h1
            rw [Option.some.inj h1.1]
            exact (has₃ _ (hs'' _ (hsub _ h))).1
        have nd₃ : ∀ b ∈ fp, ∀ o, s₃.heap.get? b = some o → ∀ es ep, o.data ≠ .dict es ep := fun b hb o e es ep q => by
          rcases hfp b hb with h | ⟨o', h⟩
          · obtain ⟨o₂, vs, e₂, hd₂⟩ := src.flds _ _ st₃ b h
            rw [e] at e₂; cases e₂; rw [hd₂] at q; cases q
          · have h1 := has₃ _ (hs'' _ (hsub _ h))
            rw [e] at h1; cases h1.1; exact h1.2.nd _ _ q
        have S₃ : Mine.St w A (compEnvC scope cl C env) (bind items[i] ++ cap) s₃ nw'' := by
          refine ⟨⟨hkind, S.fits.hg, S.fits.hb⟩, S.gl.keeps gr₃.up.keep, S.stk.keeps gr₃.up.keep, has₃, fun x d e => ?_⟩
          rcases look_append e with e | e
          · obtain ⟨hkx, u, hu, hm⟩ := hb₃ x d e
            exact ⟨u, hu, .inl ⟨hkx, m₃, hn₃, hm⟩⟩
          · obtain ⟨h1, h2, h3, h4⟩ := hcap x d e
            obtain ⟨u, hu, hn⟩ := S.names x d h1
            rcases hn with ⟨hl, _⟩ | ⟨_, c, hc, hcc⟩
            · rw [h2] at hl; cases hl
            · exact ⟨u, hu.mono gr₃.sub, .inr ⟨h4, c, h3.trans hc, gr₃.up.keep.cell hcc⟩⟩
        have htake : (items.take (i + 1)).filterMap g = (items.take i).filterMap g ++ (g items[i]).toList := by
          rw [List.take_add_one, hd]
          simp only [Option.toList_some, List.filterMap_append]
          cases hg : g items[i] <;> simp [hg]
        have ht := turn C _ hmem
        cases hg : g items[i] with
        | none =>
          rw [hg] at ht htake
          refine ht s₃ nw'' _ _ S₃ fun s₄ nw₄ g₄ => ?_
          simp only [Bool.false_eq_true, if_false]
          refine ⟨items.length + 1 - (i + 1), by omega, i + 1, nw₄, ys, n, m₃, rfl, hlt, gr₃.trans g₄, fun p hp => g₄.sub p (hs'' p (hsub p hp)), g₄.up.keep.at hgD₃ (fun _ _ q => by cases q), fun p hp q => ?_, ?_, g₄.up.keep.ns hn₃, src.frame _ _ _ st₃ fun b hb o e => g₄.up.keep.at e (nd₃ b hb o e), by omega⟩
          · rcases g₄.new p hp with h | h
            · exact hneD'' p h q
            · rw [q, hgD₃] at h; cases h
          · rw [htake]; simpa using (hds.mono hs'').mono g₄.sub
        | some e =>
          rw [hg] at ht htake
          refine ht.1 s₃ nw'' _ _ S₃ fun s₄ nw₄ g₄ => ?_
          simp only [if_true]
          refine ht.2.run s₄ nw₄ _ _ (S₃.grow g₄) fun y s₅ nw₅ g₅ dy => ?_
          have g₄₅ := g₄.trans g₅
          have hgD₅ := g₄₅.up.keep.at hgD₃ (fun _ _ q => by cases q)
          have hneD₅ : ∀ p ∈ nw₅, p.1 ≠ D := fun p hp q => by
            rcases g₄₅.new p hp with h | h
            · exact hneD'' p h q
            · rw [q, hgD₃] at h; cases h
          refine append_at hgD₅ (fun h₆ hs₆ hD₆ => ?_) (by rw [List.size_toArray, sizeLine_eq]; omega)
          have has₆ : Has h₆ nw₅ := fun p hp => ⟨(hs₆.2 _ (hneD₅ p hp)).trans (g₅.has p hp).1, (g₅.has p hp).2⟩
          have gr₅ := gr₃.trans g₄₅
          have gr₆ : Grow s { s₅ with heap := h₆ } nw nw₅ := ⟨⟨by rw [gr₅.up.eq], gr₅.up.keep.but hD₀ fun b o hb e => hs₆.extBut b o hb e⟩, gr₅.sub, has₆, gr₅.new⟩
          refine ⟨items.length + 1 - (i + 1), by omega, i + 1, nw₅, ys ++ [y], n + 1, m₃, rfl, hlt, gr₆, fun p hp => g₄₅.sub p (hs'' p (hsub p hp)), by rw [hD₆, List.push_toArray], hneD₅, ?_, (g₄₅.up.keep.ns hn₃).sameBut hs₆ (Ne.symm hDC), src.frame _ _ _ st₃ fun b hb o e => (hs₆.2 b fun q => ?_).trans (g₄₅.up.keep.at e (nd₃ b hb o e)), by simp; omega⟩
          · rw [htake]; exact ((hds.mono hs'').mono g₄₅.sub).append (DatAll.one dy)
          · rcases hfp b hb with h | ⟨o', h⟩
            · exact hDw (q ▸ h)
            · exact hneD₅ _ (g₄₅.sub _ (hs'' _ (hsub _ h))) q
    · obtain rfl : i = items.length := Nat.le_antisymm hle hge
      refine wpAny_mono (src.done s' (fun s'' => Near wr s' s'') _ st' fun s'' near => near) (fun r s'' hr => ?_) fun _ _ e => e
      obtain ⟨rfl, near⟩ := hr
      have hneq : ∀ p ∈ nw', p.1 ∉ wr := fun p hp hb => by
        obtain ⟨o, vs, e, hd⟩ := fl _ hb
        obtain ⟨e', xs, n, hq⟩ := gr.has p hp
        rw [e] at e'; rw [← Option.some.inj e', hd] at hq; cases hq
      have gr' : Grow s s'' nw nw' := ⟨⟨by rw [near.eq, gr.up.eq], gr.up.keep.near hwr₀ near.keep⟩, gr.sub, fun p hp => ⟨near.keep _ _ (hneq p hp) (gr.has p hp).1, (gr.has p hp).2⟩, gr.new⟩
      rw [List.take_length] at hds
      exact hRR D C s'' nw' ys n m' gr' (near.keep D _ hDw hgD) hneD hD₀ hds ⟨oC, esC, epC, near.keep C _ hCw hgC, hdC, hrC⟩ hC₀
  exact codeAny_compStart_list loop (src.self 0 _ _ _ st₂ loop)

/-- a step at a namespace outside the frame -/
theorem Fs.otherNs {s₀ : Shared} {nw₀ : Led} {own : Own} {s : Shared} {nw : Led} (S : Fs w A env s₀ nw₀ ρ own s nw) {C : Addr} {m : Str → Option Value} (hC : s.heap.Ns C m) (h0 : s₀.heap.get? C = none) (hL : C ≠ env.locals) {h' : Heap} (hs : Heap.SameBut C s.heap h') (hk : Stk A h') :
    Fs w A env s₀ nw₀ ρ own { s with heap := h' } nw := by
  obtain ⟨oC, es, ep, eC, hdC, _⟩ := hC
  have keep : ∀ b o, b ≠ C → s.heap.get? b = some o → h'.get? b = some o := fun b o hb e => hs.extBut b o hb e
  have nd : ∀ {b o}, s.heap.get? b = some o → (∀ es ep, o.data ≠ .dict es ep) → h'.get? b = some o := fun {b o} e h => keep b o (fun q => by rw [q, eC] at e; cases e; exact h _ _ hdC) e
  have hcell : ∀ c v, s.heap.IsCell c v → h'.IsCell c v := fun c v ⟨o, e, hd⟩ => ⟨o, nd e (fun _ _ h => by rw [hd] at h; cases h), hd⟩
  have hns : ∀ m, s.heap.Ns env.locals m → h'.Ns env.locals m := fun m ⟨o, es, ep, e, hd, r⟩ => ⟨o, es, ep, keep _ _ hL.symm e, hd, r⟩
  refine ⟨S.fits, S.gl₀, hk, ⟨⟨by rw [S.since.up.eq], S.since.up.keep.but h0 keep⟩, S.since.sub, fun p hp => ?_, S.since.new⟩, S.fr, let ⟨m, h⟩ := S.ns; ⟨m, hns m h⟩, fun x c e => let ⟨a, v, h⟩ := S.cells x c e; ⟨a, v, hcell c v h⟩, S.apart, fun x d e => ?_, fun x ds e => ?_⟩
  · obtain ⟨e, xs, n, hd⟩ := S.since.has p hp
    exact ⟨nd e (fun _ _ h => by rw [hd] at h; cases h), xs, n, hd⟩
  · obtain ⟨v, hv, hn⟩ := S.names x d e
    exact ⟨v, hv, hn.imp (fun ⟨a, m, b, c⟩ => ⟨a, m, hns m b, c⟩) fun ⟨a, c, b, d⟩ => ⟨a, c, b, hcell c _ d⟩⟩
  · obtain ⟨a, vs, n, hk', ⟨m, hm, hx⟩, ha, hds, hne, h0⟩ := S.own x ds e
    exact ⟨a, vs, n, hk', ⟨m, hns m hm, hx⟩, nd ha (fun _ _ h => by cases h), hds, hne, h0⟩

theorem comp_grow {s s' : Shared} {nw nw' : Led} {D : Addr} {ys : List Value} {n : Nat} (g : Grow s s' nw nw') (hD : s'.heap.get? D = some (listOf ys.toArray n)) (hD₀ : s.heap.get? D = none) : Grow s s' nw ((D, listOf ys.toArray n) :: nw') := by
  refine ⟨g.up, fun p hp => .tail _ (g.sub p hp), fun p hp => ?_, fun p hp => ?_⟩
  · rcases List.mem_cons.mp hp with rfl | hp
    · exact ⟨hD, _, _, rfl⟩
    · exact g.has p hp
  · rcases List.mem_cons.mp hp with rfl | hp
    · exact .inr hD₀
    · exact g.new p hp

/-- what a comprehension over plain data needs -/
structure CompOk (w : World) (A : Around) (env : Env) (ρ : Loc) (elt target iter : Expr) (ifs : List Expr) (scope : Scope) (cl : List (Str × Addr)) (items : List Dat) (cap : Loc) (bind : Dat → Loc) (g : Dat → Option Dat) : Prop where
  hi : EvIter w A env ρ target iter items
  hclos : closureFor scope env = pure cl
  hkind : scope.kind = .function
  hcell : ∀ y ∈ scope.names, y.2 ≠ .cell
  hnames : ∀ y ∈ scope.names, y.2 = .local → scope.names.lookup y.1 = some .local
  hcap : ∀ x d, look cap x = some d → look ρ x = some d ∧ env.kindOf x = some .cell ∧ cl.lookup x = env.cells.lookup x ∧ (relabel scope env).names.lookup x = some .cell
  hA : ∀ C d, d ∈ items → CAsg w A (compEnvC scope cl C env) target d (bind d)
  turn : ∀ C d, d ∈ items → match g d with
      | none => Tests w A (compEnvC scope cl C env) (bind d ++ cap) ifs false
      | some e => Tests w A (compEnvC scope cl C env) (bind d ++ cap) ifs true ∧ Ev w A (compEnvC scope cl C env) (bind d ++ cap) elt e
  hz : items.length ≤ 1000

theorem Ev.comp {elt target iter : Expr} {ifs : List Expr} {scope : Scope} {cl : List (Str × Addr)} {pos : Pos} {items : List Dat} {cap : Loc} {bind : Dat → Loc} {g : Dat → Option Dat} (H : CompOk w A env ρ elt target iter ifs scope cl items cap bind g)
    (hs : ∀ x, foldedSetIterable iter env x = pure x := by intro _; rfl) : Ev w A env ρ (.ListComp elt [⟨target, iter, ifs, 0⟩] scope pos) (.list (items.filterMap g)) := by
  refine ⟨?_⟩
  intro s nw Q E S k
  rw [eval_ListComp]
  refine wpAny_comprehension_free (use := none) rfl hs H.hclos H.hkind H.hnames ?_
  refine comp_core (RR := fun acc C => compPost (model Prg w) A E none Q acc C) S (H.hi.at S) H.hkind H.hcell H.hcap H.hA H.turn H.hz fun D C s' nw' ys n m' gr hD hne hD₀ hds hC hC₀ => ?_
  refine ⟨m', hC, fun h'' hs'' => ?_⟩
  obtain ⟨oC, es, ep, eC, hdC, _⟩ := hC
  have g₁ := comp_grow gr hD hD₀
  have hneC : ∀ p ∈ (D, listOf ys.toArray n) :: nw', p.1 ≠ C := fun p hp q => by
    obtain ⟨e, xs, k, hq⟩ := g₁.has p hp
    rw [q, eC] at e; rw [← Option.some.inj e, hdC] at hq; cases hq
  have g₂ : Grow s { s' with heap := h'' } nw ((D, listOf ys.toArray n) :: nw') :=
    ⟨⟨by rw [g₁.up.eq], g₁.up.keep.but hC₀ fun b o hb e => hs''.extBut b o hb e⟩, g₁.sub, fun p hp => ⟨hs''.extBut _ _ (hneC p hp) (g₁.has p hp).1, (g₁.has p hp).2⟩, g₁.new⟩
  exact k _ _ _ g₂ (.list (n := n) (.head _) (hds.mono fun p hp => .tail _ hp))

theorem Ex.assignComp {R : Dat → Prop} {X : Shared → Led → Value → Shared → Prop} {own : Own} {rest : List Stmt} {N : Loc → Own → Prop} {y : Str} {py : Pos} {elt target iter : Expr} {ifs : List Expr} {scope : Scope} {cl : List (Str × Addr)} {pos spos : Pos} {items : List Dat} {cap : Loc} {bind : Dat → Loc} {g : Dat → Option Dat}
    (H : CompOk w A env ρ elt target iter ifs scope cl items cap bind g)
    (hr : Ex w A env R X ((y, .list (items.filterMap g)) :: ρ) own rest N) (ho : ∀ z ds, own = some (z, ds) → z ≠ y) (hy : env.kindOf y = some .local ∨ ∃ c, env.kindOf y = some .cell ∧ env.cells.lookup y = some c)
    (hsw : swapsWith (.ListComp elt [⟨target, iter, ifs, 0⟩] scope pos) (some (.Name y py)) spos.line env = pure true := by rfl)
    (hs : ∀ x, foldedSetIterable iter env x = pure x := by intro _; rfl) : Ex w A env R X ρ own (.Assign [.Name y py] (.ListComp elt [⟨target, iter, ifs, 0⟩] scope pos) spos :: rest) N := by
  refine ⟨?_⟩
  intro s₀ nw₀ s nw Q E S kn kr kx
  refine wpAny_cons ?_
  rw [exec_Assign_Name_used _ _ _ _ hsw]
  refine wpAny_bind (wpAny_standAt (wpAny_bind ?_))
  show wpAny _ A (do let _ ← comprehension (.ListComp elt [⟨target, iter, ifs, 0⟩] scope pos) scope env _ (newList []) false (eval iter env) (some (PySem.assign (.Name y py) env))) _ _ s
  refine wpAny_bind (wpAny_mono (wpAny_comprehension_free (use := some (PySem.assign (.Name y py) env)) (Q := fun _ s' => wpAny (model Prg w) A (execs rest env) Q E s') rfl hs H.hclos H.hkind H.hnames ?_) (fun _ s' hq => wpAny_pure (wpAny_pure hq)) fun _ _ e => e)
  refine comp_core (RR := fun acc C => compPost (model Prg w) A E (some (PySem.assign (.Name y py) env)) (fun _ s' => wpAny (model Prg w) A (execs rest env) Q E s') acc C) S.st (H.hi.at S.st) H.hkind H.hcell H.hcap H.hA H.turn H.hz fun D C s' nw' ys n m' gr hD hne hD₀ hds hC hC₀ => ?_
  show wpAny _ A (PySem.assign (.Name y py) env (.ref D)) _ _ _
  have S₁ := S.grow (comp_grow gr hD hD₀)
  have hd : DatIn ((D, listOf ys.toArray n) :: nw') (.ref D) (.list (items.filterMap g)) := .list (n := n) (.head _) (hds.mono fun p hp => .tail _ hp)
  obtain ⟨m, oL, esL, epL, eL, _⟩ := id S.ns
  have hCL : C ≠ env.locals := fun q => by rw [q, eL] at hC₀; cases hC₀
  have hC0 : s₀.heap.get? C = none := none_back S.since.up.keep hC₀
  have fin : ∀ s'' : Shared, Fs w A env s₀ nw₀ ((y, .list (items.filterMap g)) :: ρ) own s'' ((D, listOf ys.toArray n) :: nw') → s''.heap.Ns C m' → ∃ m, s''.heap.Ns C m ∧ ∀ h', Heap.SameBut C s''.heap h' → wpAny (model Prg w) A (execs rest env) Q E { s'' with heap := h' } := fun s'' S₂ hC₂ =>
    ⟨m', hC₂, fun h'' hs'' => (hr).run s₀ nw₀ _ _ Q E (S₂.otherNs hC₂ hC0 hCL hs'' (S.stk.off S₂.stk hC₀ hs'')) kn kr kx⟩
  rcases hy with hy | ⟨c, hy, hc⟩
  · exact wpAny_assign_Name (S₁.store_keep hy hd ho fun s'' S₂ _ kp => fin s'' S₂ (kp C m' hCL hC))
  · exact wpAny_assign_Name (S₁.store_cell_keep hy hc hd fun s'' S₂ kp => fin s'' S₂ (kp C m' hCL hC))
end
end Mine
end

section
open PySem PySem.W PySem.Calls PyProof.Rows
set_option maxRecDepth 100000
namespace Mine
variable [Inhabited Thr]
section
variable {w : World}

theorem bindL_look {k : Str → Option NameKind} {nw : Led} : ∀ {xs : List Str} {vs : List Value} {ds : List Dat} {m : Str → Option Value} {ρ : Loc}, DatAll nw vs ds → (∀ x ∈ xs, k x = some .local) → (∀ x d, look ρ x = some d → ∃ v, m x = some v ∧ DatIn nw v d) →
    ∀ x d, look ((xs.zip ds).reverse ++ ρ) x = some d → ∃ v, bindL k (xs.zip vs) m x = some v ∧ DatIn nw v d
  | [], _, _, m, ρ, _, _, h, x, d, e => by simpa [bindL] using h x d (by simpa using e)
  | _ :: _, _, _, m, ρ, .nil, _, h, x, d, e => by simpa [bindL] using h x d (by simpa using e)
  | y :: ys, _, _, m, ρ, @DatAll.cons _ v vs d' ds hv hr, hk, h, x, d, e => by
    have hky := hk y (.head _)
    have := bindL_look (k := k) (xs := ys) (m := fun z => if z = y then some v else m z) (ρ := (y, d') :: ρ) hr (fun z hz => hk z (.tail _ hz)) (fun z dz ez => by
      unfold look at ez
      split at ez
      · rename_i q; cases ez; exact ⟨v, if_pos q, hv⟩
      · rename_i q
        obtain ⟨u, hu, hd⟩ := h z dz ez
        exact ⟨u, by rw [if_neg q]; exact hu, hd⟩) x d (by simpa using e)
    obtain ⟨u, hu, hd⟩ := this
    refine ⟨u, ?_, hd⟩
    show bindL k (ys.zip vs) (if k y = some .local then fun z => if z = y then some v else m z else m) x = some u
    rw [if_pos hky]; exact hu

/-- into a def with cells, all its arguments plain names -/
theorem enterC {f : Addr} {name qual : Str} {params : Arguments} {body : List Stmt} {scope : Scope} {dV kV doc pm cdv ct oc : Value} {an od : Option Addr} {osl : Array (Option Value)} {A : Around} {s : Shared} {nw : Led} {xs : List Str} {vs : List Value} {ds : List Dat} {Rz : Result → Shared → Prop}
    (ho : (KK w).lookup f = some ⟨oc, od, .func (fnOf name qual params body scope dV kV doc pm an cdv ct), osl⟩) (hcd : codeIn (KK w) cdv qual = true) (G : Gl w s.heap) (KS : Stk A s.heap) (H : Has s.heap nw) (D : DatAll nw vs ds) (hroom : A.depth < recursionLimit)
    (hbind : bindArgs (fnOf name qual params body scope dV kV doc pm an cdv ct) ⟨vs, []⟩ = pure (xs.zip vs)) (hloc : ∀ x ∈ xs, scope.names.lookup x = some .local)
    (hk : scope.kind = .function) (hco : scope.isCoroutine = false) (hgen : scope.isGenerator = false)
    (h : ∀ L s₁, Fs w (A.deeper (envOfC qual scope L f cdv)) (envOfC qual scope L f cdv) s nw ((xs.zip ds).reverse) none s₁ nw → wpAny (model Prg w) (A.deeper (envOfC qual scope L f cdv)) (execs body (envOfC qual scope L f cdv)) (fun fl s' => Rz (.ok (.ret (match fl with | .ret v => v | _ => .none))) s')
      (fun e s' => wpAny (model Prg w) (A.deeper (envOfC qual scope L f cdv)) (leaving (envOfC qual scope L f cdv) e) (fun _ s'' => Rz (.error e) s'') (fun e' s'' => Rz (.error e') s'') s') s₁) : codeAny (model Prg w) A (.call (.ref f) ⟨vs, []⟩) Rz s := by
  refine codeAny_call_cells (fd := fnOf name qual params body scope dV kV doc pm an cdv ct) (body := body) (binds := xs.zip vs) hroom (G.at ho fun _ _ q => by cases q) rfl G.nolimit (G.code hcd) rfl hbind rfl (fun x hx => .inl (hloc x.1 (List.of_mem_zip hx).1)) (fun s₁ X => ?_) hco hgen hk
  refine h s.heap.objs.size _ ⟨⟨hk, rfl, rfl⟩, G, KS.push (.of X.toInCall.keep) (by show scope.kind ≠ _; rw [hk]; decide) rfl X.toInCall.ns G.big, .of_up H ⟨?_, .of X.toInCall.keep⟩, Heap.get?_none_of_le (Nat.le_refl _), ⟨_, X.toInCall.ns⟩, fun x c e => ⟨Heap.get?_none_of_le (Nat.le_of_lt (X.above x c (mem_of_lookup e))), _, X.cell x c e⟩, fun x c y c' e e' hxy q => ?_, fun x d e => ?_, fun _ _ e => (by cases e)⟩
  · obtain ⟨h', tk, e⟩ := X.toInCall.same
    rw [e]
  · subst q
    exact hxy (name_of_addr X.apart (mem_of_lookup e) (mem_of_lookup e'))
  · obtain ⟨v, hv, hd⟩ := bindL_look (k := (envOfC qual scope s.heap.objs.size f cdv).kindOf) (xs := xs) (m := fun _ => none) (ρ := []) D (fun x hx => hloc x hx) (fun _ _ e => by cases e) x d (by simpa using e)
    refine ⟨v, hd, .inl ⟨?_, _, X.toInCall.ns, hv⟩⟩
    have hx : x ∈ xs := by
      have : ∀ (l : List (Str × Value)) (m : Str → Option Value), bindL (envOfC qual scope s.heap.objs.size f cdv).kindOf l m x = some v → (∃ u, (x, u) ∈ l) ∨ m x = some v := by
        intro l
        induction l with
        | nil => intro m e; exact .inr e
        | cons q l ih =>
          intro m e
          rcases ih _ e with ⟨u, hu⟩ | h
          · exact .inl ⟨u, .tail _ hu⟩
          · split at h
            · dsimp only at h
              split at h
              · rename_i _ hq; cases h; exact .inl ⟨q.2, by rw [hq]; exact .head _⟩
              · exact .inr h
            · exact .inr h
      rcases this _ _ hv with ⟨u, hu⟩ | h
      · exact (List.of_mem_zip hu).1
      · cases h
    exact hloc x hx
theorem Fn.introC {f : Addr} {name qual : Str} {params : Arguments} {body : List Stmt} {scope : Scope} {dV kV doc pm cdv ct oc : Value} {an od : Option Addr} {osl : Array (Option Value)} {xs : List Str} {ds : List Dat} {r : Dat} {k : Nat}
    (ho : (KK w).lookup f = some ⟨oc, od, .func (fnOf name qual params body scope dV kV doc pm an cdv ct), osl⟩) (hcd : codeIn (KK w) cdv qual = true)
    (hbind : ∀ vs : List Value, vs.length = ds.length → bindArgs (fnOf name qual params body scope dV kV doc pm an cdv ct) ⟨vs, []⟩ = pure (xs.zip vs)) (hloc : ∀ x ∈ xs, scope.names.lookup x = some .local)
    (hk : scope.kind = .function) (hco : scope.isCoroutine = false) (hgen : scope.isGenerator = false)
    (h : ∀ A L, Room A k → Ex w A (envOfC qual scope L f cdv) (fun d => d = r) noX ((xs.zip ds).reverse) none body fun _ _ => False) : Fn w (k + 1) (.ref f) ds r := by
  intro A hA s nw vs Q E G KS H D kk
  refine wpAny_call (enterC ho hcd G KS H D hA.lt (hbind vs D.length) hloc hk hco hgen fun L s₁ S₁ => ?_)
  exact (h _ L (hA.deeper _)).run s nw s₁ nw _ _ S₁ (fun _ _ _ _ h => h.elim) (fun d v s' nw' hr g hv => by subst hr; exact kk v s' nw' g hv) fun _ _ h => h.elim
end
end Mine
end

section
open PySem PySem.W PySem.Calls PyProof.Rows
set_option maxRecDepth 100000
namespace Mine
variable [Inhabited Thr]
theorem ite_yes {c : Prop} [Decidable c] {X Y : Prop} (hc : c) (h : X) : if c then X else Y := by rw [if_pos hc]; exact h
theorem jn_slot : Slot "bytes" "join" "bytes.join" :=
  .of (owner := "bytes") (n := "join") (by rw [typeLookup_type, builtinLookup_eq_fast]; kernel_rfl) (by decide +kernel) (by decide +kernel) (by decide +kernel)
    (by first | exact .inl (by decide +kernel) | exact .inr (by decide +kernel)) (by rw [isSubtype_type]; kernel_rfl)
theorem jn_type : typeOf (.builtin "bytes.join") = pure (.type "method_descriptor") := by show builtinType _ = _; rw [builtinType_eq_fast]; kernel_rfl
theorem jn_entry : entryFor table "bytes.join" = some Builtin.«bytes.join» := entryFor_of_tree (by kernel_rfl)
theorem jn_args (a b : Value) : argsOk "bytes.join" ⟨[a, b], []⟩ := by
  unfold argsOk; rw [signature?_of (id := "bytes.join") (n := ['n', 'i', 'o', 'j']) (o := ['s', 'e', 't', 'y', 'b']) (by kernel_rfl) FB.owner_bytes]; kernel_rfl
open Builtin in
theorem jn_take {id : String} {b : Array UInt8} {t : Tok} : Bytes.takeBuffer? id (.bytes b t) 0 = pure (some (b, none)) := by
  unfold Bytes.takeBuffer?
  rw [KBy.special_eq KBy.look_buffer, KBy.own_buffer]
  simp only [pure_bind]
  show (do return (← Bytes.buffer? id (.bytes b t) (full := false)).map (·, (none : Option Value))) = _
  rw [KBy.buffer_eq]; rfl
open Builtin in
theorem jn_quiet {id : String} {b : Array UInt8} {t : Tok} : Bytes.takeBufferQuiet? id (.bytes b t) 0 = pure (some (b, none)) := by
  unfold Bytes.takeBufferQuiet?
  rw [jn_take]; rfl
open Builtin in
theorem jn_letGo {M : Model} {A : Around} {E : Value → Shared → Prop} {s : Shared} {Q : Unit → Shared → Prop} (keep : List Value) (h : Q () s) : ∀ (l : List Value), wpAny M A (Bytes.joinLetGo (l.map fun x => (x, none)) keep) Q E s
  | [] => wpAny_pure h
  | x :: l => by
    show wpAny M A (do letGo [x] (keep ++ ((l.map fun x => (x, (none : Option Value))).flatMap fun (y, u) => y :: u.toList)); Bytes.joinLetGo (l.map fun x => (x, none)) keep) Q E s
    refine wpAny_bind ?_
    unfold letGo
    refine wpAny_bind (wpAny_holding (wpAny_point ?_))
    exact wpAny_pure (jn_letGo keep h l)
omit [Inhabited Thr] in
noncomputable def bytesVals (l : List (Array UInt8 × Tok)) : List Value := l.map fun p => .bytes p.1 p.2
omit [Inhabited Thr] in
noncomputable def bytesCat (l : List (Array UInt8)) : Array UInt8 := l.foldl (· ++ ·) #[]
theorem jn_joined (l : List (Array UInt8)) : Builtin.Bytes.joined #[] l = bytesCat l := by
  unfold Builtin.Bytes.joined bytesCat
  have : ∀ (l : List (Array UInt8)) (k : Nat) (a : Array UInt8), (l.zipIdx k).foldl (fun out (x : Array UInt8 × Nat) => match x with | (p, i) => (if i > 0 then out ++ #[] else out) ++ p) a = l.foldl (· ++ ·) a := by
    intro l
    induction l with
    | nil => intro k a; rfl
    | cons x l ih =>
      intro k a
      rw [List.zipIdx_cons, List.foldl_cons, List.foldl_cons, ih]
      by_cases h : k > 0
      · simp [h]
      · simp [h]
  exact this l 0 #[]
omit [Inhabited Thr] in
noncomputable def sizes (l : List (Array UInt8)) : Nat := (l.map (·.size)).sum
open Builtin in
theorem jn_meets (t : Tok) (a : Addr) (l : List (Array UInt8 × Tok)) (n : Nat) : Meets («bytes.join» ⟨[.bytes #[] t, .ref a], []⟩) (fun _ R s => s.heap.get? a = some (listOf (bytesVals l).toArray n) ∧ sizes (l.map (·.1)) ≤ 2 ^ 20 ∧ ∀ t' k, R (.ok (.ret (.bytes (bytesCat (l.map (·.1))) t'))) { s with toks := k }) := by
  refine .of_wp fun prog w A R s hS => ?_
  obtain ⟨ha, hsz, h⟩ := hS
  have hT : s.TypeIs (.ref a) "list" := ⟨_, ha, rfl⟩
  show wpAny _ _ (selfAndOne "bytes.join" ⟨[.bytes #[] t, .ref a], []⟩ >>= fun r => _) _ _ s
  refine wpAny_bind (wpAny_of_eq (a := (.bytes #[] t, .ref a)) rfl ?_)
  dsimp only
  refine wpAny_bind ?_
  unfold Bytes.joinItems
  refine wpAny_bind (wpAny_typeOf hT (wpAny_pure ?_))
  refine wpAny_bind (wpAny_seqItems ha rfl ?_)
  dsimp only
  refine wpAny_ite (ite_yes rfl ?_)
  rcases l with _ | ⟨p, _ | ⟨q, r⟩⟩
  case cons.nil =>
    refine wpAny_bind (wpAny_typeOf (typeIs_bytes _ _ _) ?_)
    refine wpAny_ite (ite_yes rfl ?_)
    refine wpAny_bind (wpAny_rule ?_)
    have hb : bytesCat [p.1] = p.1 := by simp [bytesCat]
    have := h p.2 s.toks
    rw [show List.map (fun x => x.1) [p] = [p.1] from rfl, hb] at this
    exact wpAny_pure ⟨_, rfl, this⟩
  all_goals
    refine wpAny_bind ?_
    first | generalize (p :: q :: r) = l at * | generalize ([] : List (Array UInt8 × Tok)) = l at *
    generalize hxs : (bytesVals l).toArray = xs at ha ⊢
    have hlen : xs.size = l.length := by rw [← hxs]; simp [bytesVals]
    rw [Std.Legacy.Range.forIn_eq_forIn_range']
    simp only [Std.Legacy.Range.size, Nat.sub_zero, Nat.add_sub_cancel, Nat.div_one]
    refine wpAny_forIn_list _
      (fun rest r s' => ∃ i, rest = List.range' i (l.length - i) ∧ i ≤ l.length ∧ r = ((((l.take i).map (·.1)).toArray, (bytesVals (l.take i)).map fun x => (x, none)) : (Array (Array UInt8) × List (Value × Option Value))) ∧ s' = s)
      _ ?_ ?_ _ _ ⟨0, by simp [hlen], Nat.zero_le _, by simp [bytesVals], rfl⟩
    · rintro x rest _ _ ⟨i, hr, hi, rfl, rfl⟩
      have hlt : i < l.length := by
        rcases Nat.lt_or_ge i l.length with h | h
        · exact h
        · rw [Nat.sub_eq_zero_of_le h] at hr; simp at hr
      obtain ⟨rfl, hrest⟩ : x = i ∧ rest = List.range' (i + 1) (l.length - (i + 1)) := by
        have e : l.length - i = (l.length - (i + 1)) + 1 := by omega
        rw [e, List.range'_succ] at hr
        injection hr with h1 h2
        exact ⟨h1, h2⟩
      have hx : xs.getD x Value.none = .bytes l[x].1 l[x].2 := by rw [← hxs]; simp [bytesVals, hlt]
      have hany : ((bytesVals (l.take x)).map fun x => (x, (none : Option Value))).any (fun x => x.1.onHeap) = false := by
        rw [List.any_eq_false]
        intro y hy
        simp only [bytesVals, List.mem_map] at hy
        obtain ⟨_, ⟨q, _, rfl⟩, rfl⟩ := hy
        simp [Value.onHeap]
      refine wpAny_bind (wpAny_seqItems ha rfl ?_)
      dsimp only
      refine wpAny_ite (KBy.ite_no (by rw [hany]; decide) ?_)
      refine wpAny_bind (wpAny_holding ?_)
      rw [hx]
      refine wpAny_of_eq jn_quiet ?_
      dsimp only
      refine wpAny_bind (wpAny_seqItems ha rfl ?_)
      dsimp only
      refine wpAny_ite (KBy.ite_no (by simp) ?_)
      refine wpAny_pure ⟨x + 1, hrest, hlt, ?_, rfl⟩
      have e : l.take (x + 1) = l.take x ++ [l[x]] := by rw [List.take_add_one, List.getElem?_eq_getElem hlt]; rfl
      rw [e]
      simp only [bytesVals, List.map_append, List.map_cons, List.map_nil, List.push_toArray]
    · rintro _ _ ⟨i, hr, hi, rfl, rfl⟩
      have hi' : i = l.length := by
        rcases Nat.lt_or_ge i l.length with h | h
        · have e : l.length - i = (l.length - (i + 1)) + 1 := by omega
          rw [e, List.range'_succ] at hr; cases hr
        · omega
      subst hi'
      rw [List.take_length]
      refine wpAny_bind (wpAny_of_eq (a := #[]) rfl ?_)
      have hs : ((l.map (·.1)).toArray).foldl (fun x y => x + y.size) ((#[] : Array UInt8).size * (((l.map (·.1)).toArray).size - 1)) = sizes (l.map (·.1)) := by
        rw [List.foldl_toArray]
        have : ∀ (l : List (Array UInt8)) (k : Nat), l.foldl (fun x y => x + y.size) k = k + sizes l := by
          intro l
          induction l with
          | nil => intro k; simp [sizes]
          | cons x l ih => intro k; rw [List.foldl_cons, ih]; simp [sizes]; omega
        rw [this]; simp
      refine wpAny_ite (KBy.ite_no (by rw [hs, KBy.tooLong_not (by omega)]; decide) ?_)
      have hsize : (Builtin.Bytes.joined #[] (l.map (·.1)).toArray.toList).size = sizes (l.map (·.1)) := by
        rw [List.toList_toArray, jn_joined]
        unfold bytesCat
        have : ∀ (l : List (Array UInt8)) (a : Array UInt8), (l.foldl (· ++ ·) a).size = a.size + sizes l := by
          intro l
          induction l with
          | nil => intro a; simp [sizes]
          | cons x l ih => intro a; rw [List.foldl_cons, ih]; simp [sizes]; omega
        rw [this]; simp
      refine wpAny_bind (wpAny_mkBytes ?_ (by rw [hsize, sizeLine_eq]; omega))
      refine wpAny_bind (wpAny_holding (wpAny_point ?_))
      refine wpAny_bind (jn_letGo _ ?_ _)
      rw [List.toList_toArray, jn_joined]
      exact wpAny_pure ⟨_, rfl, h _ _⟩
end Mine
end

section
open PySem PySem.W PySem.Calls PyProof.Rows
set_option maxRecDepth 100000
namespace Mine
variable [Inhabited Thr]
section
variable {w : World} {A : Around} {env : Env} {ρ : Loc}

theorem bytesVals_of {nw : Led} : ∀ {vs : List Value} {bs : List (Array UInt8)}, DatAll nw vs (bs.map .bytes) → ∃ l : List (Array UInt8 × Tok), vs = bytesVals l ∧ l.map (·.1) = bs
  | [], [], _ => ⟨[], rfl, rfl⟩
  | v :: vs, b :: bs, h => by
    cases h with | cons h r =>
    obtain ⟨t, rfl⟩ := datBytes h
    obtain ⟨l, rfl, rfl⟩ := bytesVals_of r
    exact ⟨(b, t) :: l, rfl, rfl⟩
/-- b"".join(e) -/
theorem Ev.joinB {k : Nat} {kp ap cp : Pos} {e : Expr} {bs : List (Array UInt8)} {pl : Sem Bool} (he : Ev w A env ρ e (.list (bs.map .bytes))) (hz : sizes bs ≤ 2 ^ 20)
    (hm : eval (.Call (.Attribute (.Constant (.bytes []) k kp) "join" ap) [e] [] cp) env = (do
      let ov ← eval (.Constant (.bytes []) k kp) env
      standAt ap.atName
      let (f, first) ← holding [ov] (getMethod ov "join" pl)
      callWith cp f first (backTo cp (starEach [e] env)) (backToKw cp (keywordEach [] env))) := by rfl)
    (hst : starEach [e] env = (false, eval e env) :: starEach [] env := by rfl) : Ev w A env ρ (.Call (.Attribute (.Constant (.bytes []) k kp) "join" ap) [e] [] cp) (.bytes (bytesCat bs)) := by
  refine ⟨?_⟩
  intro s nw Q E S k
  refine methodCall_KW (Constant_bytes ?_) hm
  have g₀ : Grow s { s with toks := s.toks + 1 } nw nw := .toks S.has
  refine getMethod_builtin (typeIs_bytes _ _ _) FB.plainAttrs_bytes jn_slot jn_type (fun b e => by cases e) ?_
  show wpAny _ _ (callWith cp (.builtin "bytes.join") [_] (backTo cp (starEach [e] env)) []) _ _ _
  have h := fun tk => (Evs.cons he .nil hst) cp { s with toks := s.toks + 1 } nw (fun us s₁ => wpAny (model Prg w) A (call (.builtin "bytes.join") ([.bytes #[] tk] ++ us) []) Q E s₁) E (S.grow g₀) fun us s₁ nw₁ g₁ d₁ => by
    obtain ⟨v, rfl, hv⟩ := one d₁
    obtain ⟨a, vs, n, rfl, hm, hr⟩ := datList hv
    obtain ⟨l, rfl, rfl⟩ := bytesVals_of hr
    exact call_meets jn_slot (typeIs_bytes _ _ _) jn_entry (jn_args _ _) (jn_meets tk a l n) ⟨(g₁.has _ hm).1, hz, fun t' j => k _ _ nw₁ ((g₀.trans g₁).trans (.toks g₁.has)) (.bytes _ _)⟩
  rw [hst] at h ⊢
  exact callWith_builtin (by rfl) (evalArgs_plain (h _))

/-- lists compared -/
theorem led_news {s : Shared} {nw : Led} (H : Has s.heap nw) : News ({} : Heap) s.heap.objs.size s.heap nw := fun p hp => ⟨(H p hp).1, Nat.ne_of_lt (Heap.lt_size (H p hp).1), by simp [Heap.get?]⟩
open Classical in
theorem Cmp.listEq {ds es : List Dat} (hu : A.units + 64 < 9900) (ha : ∀ d ∈ ds, kqdOk 8 d = true) (hb : ∀ d ∈ es, kqdOk 8 d = true) : Cmp w A .Eq (.list ds) (.list es) (decide (ds = es)) := by
  intro s nw v u Q E H hv hu' k
  obtain ⟨a, vs, n, rfl, hm, hr⟩ := datList hv
  obtain ⟨b, ws, n', rfl, hm', hr'⟩ := datList hu'
  exact kqd_eq (led_news H) hm rfl rfl hr (fun _ h => h) hm' rfl rfl hr' (fun _ h => h) ha hb hu (k _ (.refl _))
open Classical in
theorem Cmp.listNe {ds es : List Dat} (hu : A.units + 64 < 9900) (ha : ∀ d ∈ ds, kqdOk 8 d = true) (hb : ∀ d ∈ es, kqdOk 8 d = true) : Cmp w A .NotEq (.list ds) (.list es) (!decide (ds = es)) := by
  intro s nw v u Q E H hv hu' k
  obtain ⟨a, vs, n, rfl, hm, hr⟩ := datList hv
  obtain ⟨b, ws, n', rfl, hm', hr'⟩ := datList hu'
  exact kqd_ne (led_news H) hm rfl rfl hr (fun _ h => h) hm' rfl rfl hr' (fun _ h => h) ha hb hu (k _ (.refl _))

theorem Cl.abs {i : Int} : Cl w A (.builtin "abs") [.int i] (.int (if i < 0 then -i else i)) := by
  intro s nw vs Q E G KS H D k
  obtain ⟨v, rfl, hv⟩ := one D
  obtain ⟨t, rfl⟩ := datInt hv
  exact call_abs_int fun u tk => k _ _ nw (.toks H) (.int _ _)
theorem Cl.int {i : Int} : Cl w A (.type "int") [.int i] (.int i) := by
  intro s nw vs Q E G KS H D k
  obtain ⟨v, rfl, hv⟩ := one D
  obtain ⟨t, rfl⟩ := datInt hv
  exact call_int_int (k _ _ nw (.refl H) (.int _ _))
theorem Ev.neg {e : Expr} {pos : Pos} {i : Int} (h : Ev w A env ρ e (.int i)) : Ev w A env ρ (.UnaryOp .USub e pos) (.int (-i)) := by
  refine ⟨?_⟩
  intro s nw Q E S k
  refine UnaryOp_ (h.run s nw _ _ S fun v s₁ nw₁ g₁ d₁ => ?_)
  obtain ⟨t, rfl⟩ := datInt d₁
  exact PyProof.Rows.neg_int (k _ _ nw₁ (g₁.trans (.toks g₁.has)) (.int _ _))

omit [Inhabited Thr] in
/-- a value that is made of literals and names: nothing that stood changes -/
noncomputable def Fast (s s' : Shared) : Prop := ∀ b o, s.heap.get? b = some o → s'.heap.get? b = some o
theorem Fast.trans {a b c : Shared} (x : Fast a b) (y : Fast b c) : Fast a c := fun p o e => y p o (x p o e)
structure EvX (w : World) (A : Around) (env : Env) (ρ : Loc) (e : Expr) (d : Dat) : Prop where
  run : ∀ (s : Shared) (nw : Led) (Q : Value → Shared → Prop) (E : Value → Shared → Prop), St w A env ρ s nw →
    (∀ v s' nw', Grow s s' nw nw' → Fast s s' → DatIn nw' v d → Q v s') → wpAny (model Prg w) A (eval e env) Q E s
structure EvsX (w : World) (A : Around) (env : Env) (ρ : Loc) (es : List Expr) (ds : List Dat) : Prop where
  run : ∀ (pos : Pos) (s : Shared) (nw : Led) (Q : List Value → Shared → Prop) (E : Value → Shared → Prop), St w A env ρ s nw →
    (∀ vs s' nw', Grow s s' nw nw' → Fast s s' → DatAll nw' vs ds → Q vs s') → wpAny (model Prg w) A (spliced (backTo pos (starEach es env))) Q E s
theorem EvX.int {i : Int} {k : Nat} {pos : Pos} : EvX w A env ρ (.Constant (.int i) k pos) (.int i) := ⟨fun s nw Q E S k =>
  wpAny_Constant_int (k _ _ nw (.of_up S.has ⟨rfl, .refl⟩) (fun _ _ e => e) (.int _ _))⟩
theorem EvX.name {x : Str} {pos : Pos} {d : Dat} (hm : Mine.look ρ x = some d) (hd : (x == ("__debug__" : Str)) = false := by decide) : EvX w A env ρ (.Name x pos) d := by
  refine ⟨?_⟩
  intro s nw Q E S k
  obtain ⟨v, hv, hn⟩ := S.names _ _ hm
  rcases hn with ⟨hl, m, hns, hm⟩ | ⟨hl, c, hc, hcell⟩
  · exact wpAny_Name (wpAny_loadName_local S.fits.hk hl hns hm (k v s nw (.refl S.has) (fun _ _ e => e) hv)) hd
  · exact wpAny_Name (wpAny_loadName_cell S.fits.hk hl hc hcell (k v s nw (.refl S.has) (fun _ _ e => e) hv)) hd
theorem EvsX.nil : EvsX w A env ρ [] [] := ⟨fun pos s nw Q E S k => wpAny_items_nil (k _ _ _ (.refl S.has) (fun _ _ e => e) .nil)⟩
theorem EvsX.cons {e : Expr} {es : List Expr} {d : Dat} {ds : List Dat} (h : EvX w A env ρ e d) (hr : EvsX w A env ρ es ds) (he : starEach (e :: es) env = (false, eval e env) :: starEach es env := by rfl) : EvsX w A env ρ (e :: es) (d :: ds) := by
  refine ⟨?_⟩
  intro pos s nw Q E S k
  refine wpAny_items_cons (h.run s nw _ _ S fun v s₁ nw₁ g₁ f₁ d₁ => hr.run pos s₁ nw₁ _ _ (S.grow g₁) fun vs s₂ nw₂ g₂ f₂ d₂ => ?_) he
  exact k _ _ _ (g₁.trans g₂) (f₁.trans f₂) (.cons (d₁.mono g₂.sub) d₂)
theorem EvX.tuple {es : List Expr} {k : Nat} {pos : Pos} {ds : List Dat} (h : EvsX w A env ρ es ds) (hz : ds.length ≤ 1000 := by exact Nat.le_of_ble_eq_true rfl) : EvX w A env ρ (.Tuple es k pos) (.tuple ds) := by
  refine ⟨?_⟩
  intro s nw Q E S k
  refine wpAny_Tuple (h.run _ s nw _ _ S fun vs s₁ nw₁ g₁ f₁ d₁ => ⟨by rw [d₁.length, sizeLine_eq]; omega, ?_⟩)
  have g₂ := Grow.push g₁.has { cls := .type "tuple", data := .seq vs.toArray } tupSeq
  exact k _ _ _ (g₁.trans g₂) (f₁.trans fun _ _ e => Heap.get?_push_of_some _ e) (.tuple (.head _) (d₁.mono g₂.sub))
theorem EvX.list {es : List Expr} {pos : Pos} {ds : List Dat} (h : EvsX w A env ρ es ds) (hz : ds.length ≤ 1000 := by exact Nat.le_of_ble_eq_true rfl) : EvX w A env ρ (.List es pos) (.list ds) := by
  refine ⟨?_⟩
  intro s nw Q E S k
  refine wpAny_List (h.run _ s nw _ _ S fun vs s₁ nw₁ g₁ f₁ d₁ => ⟨by rw [d₁.length, sizeLine_eq]; omega, ?_⟩)
  have g₂ := Grow.push g₁.has { cls := .type "list", data := .seq vs.toArray } ⟨_, _, rfl⟩
  exact k _ _ _ (g₁.trans g₂) (f₁.trans fun _ _ e => Heap.get?_push_of_some _ e) (.list (n := 0) (.head _) (d₁.mono g₂.sub))

omit [Inhabited Thr] in
/-- the pairs of a dict display, int keys -/
inductive KVs (nw : Led) : List (Value × Value) → List (Int × Dat) → Prop
  | nil : KVs nw [] []
  | cons {k t v d vs ds} : DatIn nw v d → KVs nw vs ds → KVs nw ((.int k t, v) :: vs) ((k, d) :: ds)
theorem KVs.mono {nw nw' : Led} (h : ∀ p ∈ nw, p ∈ nw') : ∀ {vs ds}, KVs nw vs ds → KVs nw' vs ds
  | _, _, .nil => .nil
  | _, _, .cons d r => .cons (d.mono h) (r.mono h)
theorem KVs.kvs {nw : Led} {w : World} : ∀ {vs ds}, KVs nw vs ds → ∃ kvs : List (Int × Value), Carries (intKind Prg w) vs kvs ∧ kvs.map (·.1) = ds.map (·.1) ∧ ∀ k d, (ds.find? fun p => p.1 = k).map (·.2) = some d → ∃ v, valueAt kvs k = some v ∧ DatIn nw v d
  | _, _, .nil => ⟨[], trivial, rfl, fun _ _ e => by cases e⟩
  | _, _, @KVs.cons _ k t v d vs ds hd r => by
    obtain ⟨kvs, hc, hk, hl⟩ := r.kvs (w := w)
    refine ⟨(k, v) :: kvs, ⟨intKind_is _ _ _ _, rfl, hc⟩, by simp [hk], fun j e he => ?_⟩
    unfold valueAt at hl ⊢
    rw [List.find?_cons] at he ⊢
    by_cases q : k = j
    · simp only [q, decide_true] at he ⊢
      cases he
      exact ⟨v, rfl, hd⟩
    · simp only [q, decide_false] at he ⊢
      exact hl j e he
structure Prs (w : World) (A : Around) (env : Env) (ρ : Loc) (keys : List (Option Expr)) (vals : List Expr) (ds : List (Int × Dat)) : Prop where
  run : ∀ (pos : Pos) (s : Shared) (nw : Led) (Q : List (Value × Value) → Shared → Prop) (E : Value → Shared → Prop), St w A env ρ s nw → (∀ vs s' nw', Grow s s' nw nw' → Fast s s' → KVs nw' vs ds → Q vs s') →
    wpAny (model Prg w) A (evalPairs (pairTrees keys vals env pos)) Q E s
theorem Prs.nil : Prs w A env ρ [] [] [] := ⟨fun pos s nw Q E S k => wpAny_pure (k _ _ _ (.refl S.has) (fun _ _ e => e) .nil)⟩
theorem Prs.cons {ke ve : Expr} {ks : List (Option Expr)} {vs : List Expr} {k : Int} {d : Dat} {ds : List (Int × Dat)} (hk : EvX w A env ρ ke (.int k)) (hv : EvX w A env ρ ve d) (hr : Prs w A env ρ ks vs ds) : Prs w A env ρ (some ke :: ks) (ve :: vs) ((k, d) :: ds) := by
  refine ⟨?_⟩
  intro pos s nw Q E S kk
  refine pairTrees_cons_walk (hk.run s nw _ _ S fun kv s₁ nw₁ g₁ f₁ d₁ => hv.run s₁ nw₁ _ _ (S.grow g₁) fun vv s₂ nw₂ g₂ f₂ d₂ => hr.run pos s₂ nw₂ _ _ ((S.grow g₁).grow g₂) fun r s₃ nw₃ g₃ f₃ d₃ => ?_)
  obtain ⟨t, rfl⟩ := datInt d₁
  exact kk _ _ nw₃ ((g₁.trans g₂).trans g₃) ((f₁.trans f₂).trans f₃) (.cons (d₂.mono g₃.sub) d₃)
/-- {k: v, ..}[i] -/
theorem Ev.pick {keys : List (Option Expr)} {vals : List Expr} {dp pos : Pos} {slice : Expr} {ds : List (Int × Dat)} {i : Int} {d : Dat} (hp : Prs w A env ρ keys vals ds) (hi : EvX w A env ρ slice (.int i)) (hd : (ds.find? fun p => p.1 = i).map (·.2) = some d) (hnd : (ds.map (·.1)).Nodup)
    (hall : keys.all (·.isSome) = true := by rfl) (hl : keys.length = vals.length := by rfl) (h0 : keys ≠ [] := by (intro h; cases h)) (hlen : keys.length ≤ 15 := by exact Nat.le_of_ble_eq_true rfl)
    (hs : ∀ o i, subscripted slice false o i = operate [o, i] (getItem o i) := by intro _ _; rfl) : Ev w A env ρ (.Subscript (.Dict keys vals dp) slice pos) d := by
  refine ⟨?_⟩
  intro s nw Q E S k
  refine Subscript_ (wpAny_Dict_walk (knd := intKind Prg w) hall hl h0 hlen ?_)
  have g₀ : Grow s { s with heap := s.heap.push { cls := .type "dict", data := .dict #[] } } nw nw := .of_up S.has pushUp
  refine hp.run dp _ nw _ _ (S.grow g₀) fun vs s₁ nw₁ g₁ f₁ hkv => ?_
  obtain ⟨kvs, hc, hks, hlk⟩ := hkv.kvs (w := w)
  have hD : s₁.heap.DictOf (intKind Prg w) s.heap.objs.size [] := (Heap.DictOf.new s.heap).keep f₁
  refine ⟨kvs, hc, hD, fun h' hd' hs' => ?_⟩
  rw [merged_nil_of_nodup kvs (by rw [hks]; exact hnd)] at hd'
  obtain ⟨oD, es, ep, eD, _, dD, _⟩ := id hD
  have g : Grow s { s₁ with heap := h', toks := s₁.toks + vs.length } nw nw₁ := by
    have g₀₁ := g₀.trans g₁
    refine ⟨⟨by rw [g₀₁.up.eq], g₀₁.up.keep.but get_new fun b o hb e => hs'.extBut b o hb e⟩, g₀₁.sub, fun p hp => ⟨(hs'.2 p.1 fun q => ?_).trans (g₀₁.has p hp).1, (g₀₁.has p hp).2⟩, g₀₁.new⟩
    · obtain ⟨e, xs, n, hq⟩ := g₀₁.has p hp
      rw [q, eD] at e; rw [← Option.some.inj e, dD] at hq; cases hq
  refine hi.run _ nw₁ _ _ (S.grow g) fun u s₂ nw₂ g₂ f₂ d₂ => ?_
  obtain ⟨t, rfl⟩ := datInt d₂
  have hd₂ : s₂.heap.DictOf (intKind Prg w) s.heap.objs.size kvs := hd'.keep f₂
  obtain ⟨v, hv, hdv⟩ := hlk i d hd
  exact tail_any hd₂.typeIs slot_dict_getitem.lookup (wpAny_getItem_of (intKind_is _ _ _ _) hd₂.mapOf hv (k _ _ nw₂ ((g.trans g₂).trans (.toks g₂.has)) (hdv.mono g₂.sub))) (hs _ _)
end
end Mine
end

section
open PySem PySem.W PySem.Calls PyProof.Rows
set_option maxRecDepth 100000
namespace Mine
variable [Inhabited Thr]
section
variable {w : World} {A : Around} {env : Env} {ρ : Loc}
theorem Cl.listCopy {ds : List Dat} (hz : ds.length ≤ 1000) : Cl w A (.type "list") [.list ds] (.list ds) := by
  intro s nw vs Q E G KS H D k
  obtain ⟨v, rfl, hv⟩ := one D
  obtain ⟨a, ws, n, rfl, hm, hr⟩ := datList hv
  have ho := (H _ hm).1
  refine call_list_seq (hsz := by rw [List.size_toArray, hr.length, sizeLine_eq]; omega) a (.inl rfl) ho rfl rfl fun h' c' hk hD => ?_
  have g : Grow s { s with heap := h' } nw ((s.heap.objs.size, listOf ws.toArray c') :: nw) := by
    refine ⟨⟨rfl, .of hk⟩, fun p hp => .tail _ hp, fun p hp => ?_, fun p hp => ?_⟩
    · rcases List.mem_cons.mp hp with rfl | hp
      · exact ⟨hD, _, _, rfl⟩
      · exact ⟨hk _ _ (H p hp).1, (H p hp).2⟩
    · rcases List.mem_cons.mp hp with rfl | hp
      · exact .inr get_new
      · exact .inl hp
  exact k _ _ _ g (.list (n := c') (.head _) (hr.mono fun p hp => .tail _ hp))
theorem Ev.listB {np pos : Pos} {e : Expr} {ds : List Dat} (he : Ev w A env ρ e (.list ds)) (hz : ds.length ≤ 1000) (hg : env.kindOf "list" = some .globalImplicit) (hs : starEach [e] env = (false, eval e env) :: starEach [] env) :
    Ev w A env ρ (.Call (.Name "list" np) [e] [] pos) (.list ds) := Ev.callT (b_list w) (by decide +kernel) (by decide) (.cons he .nil hs) (Cl.listCopy hz) hg (he := hs)
theorem Ev.absB {np pos : Pos} {e : Expr} {i : Int} (he : Ev w A env ρ e (.int i)) (hg : env.kindOf "abs" = some .globalImplicit) (hs : starEach [e] env = (false, eval e env) :: starEach [] env) :
    Ev w A env ρ (.Call (.Name "abs" np) [e] [] pos) (.int (if i < 0 then -i else i)) := Ev.callB (b_abs w) (by decide +kernel) (by decide) (.cons he .nil hs) Cl.abs hg (he := hs)
theorem Ev.intB {np pos : Pos} {e : Expr} {i : Int} (he : Ev w A env ρ e (.int i)) (hg : env.kindOf "int" = some .globalImplicit) (hs : starEach [e] env = (false, eval e env) :: starEach [] env) :
    Ev w A env ρ (.Call (.Name "int" np) [e] [] pos) (.int i) := Ev.callT (b_int w) (by decide +kernel) (by decide) (.cons he .nil hs) Cl.int hg (he := hs)
theorem Ev.bytesB {np pos : Pos} {e : Expr} {ns : List Int} (hh : A.handled = Option.none) (he : Ev w A env ρ e (.list (ns.map .int))) (hr : ∀ n ∈ ns, 0 ≤ n ∧ n < 256) (hz : ns.length ≤ 1000) (hg : env.kindOf "bytes" = some .globalImplicit) (hs : starEach [e] env = (false, eval e env) :: starEach [] env) :
    Ev w A env ρ (.Call (.Name "bytes" np) [e] [] pos) (.bytes (byteArr ns)) := Ev.callT (b_bytes w) (by decide +kernel) (by decide) (.cons he .nil hs) (Cl.bytes hh hr hz) hg (he := hs)

theorem stBin {a b : Expr} {op : Operator} {p : Pos} {es : List Expr} : starEach (.BinOp a op b p :: es) env = (false, eval (.BinOp a op b p) env) :: starEach es env := rfl
theorem stSub {a b : Expr} {p : Pos} {es : List Expr} : starEach (.Subscript a b p :: es) env = (false, eval (.Subscript a b p) env) :: starEach es env := rfl
theorem stCall {a : Expr} {as : List Expr} {ks : List Keyword} {p : Pos} {es : List Expr} : starEach (.Call a as ks p :: es) env = (false, eval (.Call a as ks p) env) :: starEach es env := rfl
theorem stIf {a b c : Expr} {p : Pos} {es : List Expr} : starEach (.IfExp a b c p :: es) env = (false, eval (.IfExp a b c p) env) :: starEach es env := rfl
theorem stComp {a : Expr} {gs : List Comprehension} {sc : Scope} {p : Pos} {es : List Expr} : starEach (.ListComp a gs sc p :: es) env = (false, eval (.ListComp a gs sc p) env) :: starEach es env := rfl
theorem stList {as : List Expr} {p : Pos} {es : List Expr} : starEach (.List as p :: es) env = (false, eval (.List as p) env) :: starEach es env := rfl
omit [Inhabited Thr] in
/-- captured names -/
noncomputable def Caps (env : Env) (scope : Scope) (cl : List (Str × Addr)) (ρ : Loc) : Loc → Prop
  | [] => True
  | (x, d) :: r => (look ρ x = some d ∧ env.kindOf x = some .cell ∧ cl.lookup x = env.cells.lookup x ∧ (relabel scope env).names.lookup x = some .cell) ∧ Caps env scope cl ρ r
theorem Caps.all {scope : Scope} {cl : List (Str × Addr)} : ∀ {cap : Loc}, Caps env scope cl ρ cap → ∀ x d, Mine.look cap x = some d → Mine.look ρ x = some d ∧ env.kindOf x = some .cell ∧ cl.lookup x = env.cells.lookup x ∧ (relabel scope env).names.lookup x = some .cell
  | (y, e) :: r, h, x, d, hl => by
    unfold Mine.look at hl
    split at hl
    · rename_i q; cases hl; subst q; exact h.1
    · exact h.2.all x d hl

theorem Ev.lc {elt iter : Expr} {x : Str} {px : Pos} {scope : Scope} {cl : List (Str × Addr)} {pos : Pos} {items : List Dat} (cap : Loc) {f : Dat → Dat} (hi : EvIter w A env ρ (.Name x px) iter items)
    (he : ∀ C d, d ∈ items → Ev w A (compEnvC scope cl C env) ((x, d) :: cap) elt (f d)) (hclos : closureFor scope env = pure cl) (hcap : Caps env scope cl ρ cap) (hz : items.length ≤ 1000) (hkind : scope.kind = .function := by rfl) (hcell : ∀ y ∈ scope.names, y.2 ≠ .cell := by decide)
    (hnames : ∀ y ∈ scope.names, y.2 = .local → scope.names.lookup y.1 = some .local := by decide) (hx : scope.names.lookup x = some .local := by rfl) (hs : ∀ x, foldedSetIterable iter env x = pure x := by intro _; rfl) :
    Ev w A env ρ (.ListComp elt [⟨.Name x px, iter, [], 0⟩] scope pos) (.list (items.map f)) := by
  have := Ev.comp (elt := elt) (pos := pos) (w := w) (A := A) (env := env) (ρ := ρ) (bind := fun d => [(x, d)]) (g := fun d => some (f d)) ⟨hi, hclos, hkind, hcell, hnames, hcap.all, fun C d _ => CAsg.name (lookup_relabel_local hx) hkind, fun C d hd => ⟨Tests.nil, he C d hd⟩, hz⟩ hs
  rwa [show items.filterMap (fun d => some (f d)) = items.map f from congrFun List.filterMap_eq_map' items] at this
theorem Ev.lcIf {elt iter c : Expr} {x : Str} {px : Pos} {scope : Scope} {cl : List (Str × Addr)} {pos : Pos} {items : List Dat} (cap : Loc) {f : Dat → Dat} {t : Dat → Bool} (hi : EvIter w A env ρ (.Name x px) iter items)
    (ht : ∀ C d, d ∈ items → Tr w A (compEnvC scope cl C env) ((x, d) :: cap) c (t d)) (he : ∀ C d, d ∈ items → t d = true → Ev w A (compEnvC scope cl C env) ((x, d) :: cap) elt (f d)) (hclos : closureFor scope env = pure cl) (hcap : Caps env scope cl ρ cap) (hz : items.length ≤ 1000) (hkind : scope.kind = .function := by rfl) (hcell : ∀ y ∈ scope.names, y.2 ≠ .cell := by decide)
    (hnames : ∀ y ∈ scope.names, y.2 = .local → scope.names.lookup y.1 = some .local := by decide) (hx : scope.names.lookup x = some .local := by rfl) (hs : ∀ x, foldedSetIterable iter env x = pure x := by intro _; rfl) :
    Ev w A env ρ (.ListComp elt [⟨.Name x px, iter, [c], 0⟩] scope pos) (.list ((items.filter t).map f)) := by
  have := Ev.comp (elt := elt) (pos := pos) (w := w) (A := A) (env := env) (ρ := ρ) (bind := fun d => [(x, d)]) (g := fun d => if t d = true then some (f d) else Option.none) ⟨hi, hclos, hkind, hcell, hnames, hcap.all, fun C d _ => CAsg.name (lookup_relabel_local hx) hkind, fun C d hd => (by
    have h := ht C d hd
    cases q : t d with
    | true => rw [q] at h; rw [if_pos rfl]; exact ⟨.one h, he C d hd q⟩
    | false => rw [q] at h; rw [if_neg (by decide)]; exact .one h), hz⟩ hs
  have e : ∀ l : List Dat, l.filterMap (fun d => if t d = true then some (f d) else Option.none) = (l.filter t).map f := by
    intro l
    induction l with
    | nil => rfl
    | cons d l ih => cases q : t d <;> simp [q, ih]
  rwa [e] at this
theorem Ex.assignLc {R : Dat → Prop} {X : Shared → Led → Value → Shared → Prop} {own : Own} {rest : List Stmt} {N : Loc → Own → Prop} {y : Str} {py spos : Pos} {elt iter : Expr} {x : Str} {px : Pos} {scope : Scope} {cl : List (Str × Addr)} {pos : Pos} {items : List Dat} (cap : Loc) {f : Dat → Dat} (hi : EvIter w A env ρ (.Name x px) iter items)
    (he : ∀ C d, d ∈ items → Ev w A (compEnvC scope cl C env) ((x, d) :: cap) elt (f d)) (hclos : closureFor scope env = pure cl) (hcap : Caps env scope cl ρ cap) (hz : items.length ≤ 1000)
    (hr : Ex w A env R X ((y, .list (items.map f)) :: ρ) own rest N) (ho : ∀ z ds, own = some (z, ds) → z ≠ y) (hy : env.kindOf y = some .local ∨ ∃ c, env.kindOf y = some .cell ∧ env.cells.lookup y = some c)
    (hsw : swapsWith (.ListComp elt [⟨.Name x px, iter, [], 0⟩] scope pos) (some (.Name y py)) spos.line env = pure true := by rfl) (hkind : scope.kind = .function := by rfl) (hcell : ∀ y ∈ scope.names, y.2 ≠ .cell := by decide)
    (hnames : ∀ y ∈ scope.names, y.2 = .local → scope.names.lookup y.1 = some .local := by decide) (hx : scope.names.lookup x = some .local := by rfl) (hs : ∀ x, foldedSetIterable iter env x = pure x := by intro _; rfl) :
    Ex w A env R X ρ own (.Assign [.Name y py] (.ListComp elt [⟨.Name x px, iter, [], 0⟩] scope pos) spos :: rest) N := by
  refine Ex.assignComp (bind := fun d => [(x, d)]) (g := fun d => some (f d)) ⟨hi, hclos, hkind, hcell, hnames, hcap.all, fun C d _ => CAsg.name (lookup_relabel_local hx) hkind, fun C d hd => ⟨Tests.nil, he C d hd⟩, hz⟩ ?_ ho hy hsw hs
  rwa [show items.filterMap (fun d => some (f d)) = items.map f from congrFun List.filterMap_eq_map' items]
end
end Mine
end

set_option maxRecDepth 100000
open PySem PySem.W PySem.Calls PyProof.Rows
namespace Mine
local macro_rules | `(tactic| ktr_rel) => `(tactic| first
  | (with_reducible exact Ev.int)
  | ((with_reducible refine' Ev.name ?p1 ?p2); (case p1 => exact rfl); (case p2 => decide))
  | ((with_reducible refine' Ev.topInt ?p1 ?p2 ?p3); (case p1 => first | exact c_MAX_CODE _ | exact c_HIGH_FIRST _ | exact c_LOW_LAST _ | exact c_REPLACEMENT _ | exact c_UTF8_TRAIL _ | exact c_UTF8_PLANE _); (case p2 => rfl); (case p3 => decide))
  | ((with_reducible refine' Ev.topStr ?p1 ?p2 ?p3); (case p1 => first | exact c_UTF8_ALONE _ | exact c_UTF8_NEVER _ | exact c_UTF8_BROKEN _ | exact c_UTF8_SHORT _); (case p2 => rfl); (case p3 => decide))
  | ((with_reducible refine' Tr.cmp ?p1 ?p2 ?p3 ?p4); (case p1 => ktr_rel); (case p2 => ktr_rel); (case p3 => ktr_rel); (case p4 => rfl))
  | ((with_reducible refine' Tr.chain ?p1 ?p2 ?p3 ?p4 ?p5 ?p6); (case p1 => ktr_rel); (case p2 => ktr_rel); (case p3 => ktr_rel); (case p4 => ktr_rel); (case p5 => ktr_rel); (case p6 => rfl))
  | ((with_reducible refine' Tr.not ?p1); (case p1 => ktr_rel))
  | ((with_reducible refine' Tr.bool ?p1); (case p1 => ktr_rel))
  | ((with_reducible refine' TrAll.andCons ?p1 ?p2); (case p1 => ktr_rel); (case p2 => (intro _; ktr_rel)))
  | ((with_reducible refine' TrAll.orCons ?p1 ?p2); (case p1 => ktr_rel); (case p2 => (intro _; ktr_rel)))
  | (with_reducible exact TrAll.andNil) | (with_reducible exact TrAll.orNil)
  | ((with_reducible refine' Ev.cmp ?p1 ?p2 ?p3 ?p4); (case p1 => ktr_rel); (case p2 => ktr_rel); (case p3 => ktr_rel); (case p4 => rfl))
  | ((with_reducible refine' Ev.chain ?p1 ?p2 ?p3 ?p4 ?p5 ?p6); (case p1 => ktr_rel); (case p2 => ktr_rel); (case p3 => ktr_rel); (case p4 => ktr_rel); (case p5 => ktr_rel); (case p6 => rfl))
  | ((with_reducible refine' Ev.bin ?p1 ?p2 ?p3); (case p1 => ktr_rel); (case p2 => ktr_rel); (case p3 => ktr_rel))
  | ((with_reducible refine' Ev.and ?p1 ?p2); (case p1 => ktr_rel); (case p2 => (intro _; ktr_rel)))
  | ((with_reducible refine' Ev.not ?p1); (case p1 => ktr_rel))
  | ((with_reducible refine' Ev.iteInt ?p1 ?p2 ?p3); (case p1 => ktr_rel); (case p2 => (intro _; ktr_rel)); (case p3 => (intro _; ktr_rel)))
  | (with_reducible exact Ev.nothing) | (with_reducible exact Ev.str) | (with_reducible exact Ev.bool) | (with_reducible exact Ev.bytes)
  | ((with_reducible refine' Ev.tuple ?p1 ?p2); (case p1 => ktr_rel); (case p2 => exact Nat.le_of_ble_eq_true rfl))
  | ((with_reducible refine' Ev.list ?p1 ?p2); (case p1 => ktr_rel); (case p2 => exact Nat.le_of_ble_eq_true rfl))
  | (with_reducible exact EvX.int) | (with_reducible exact EvsX.nil)
  | ((with_reducible refine' EvX.tuple ?p1 ?p2); (case p1 => ktr_rel); (case p2 => exact Nat.le_of_ble_eq_true rfl))
  | ((with_reducible refine' EvX.list ?p1 ?p2); (case p1 => ktr_rel); (case p2 => exact Nat.le_of_ble_eq_true rfl))
  | ((with_reducible refine' EvsX.cons ?p1 ?p2 ?p3); (case p1 => ktr_rel); (case p2 => ktr_rel); (case p3 => rfl))
  | (with_reducible exact Evs.nil)
  | ((with_reducible refine' Evs.cons ?p1 ?p2 ?p3); (case p1 => ktr_rel); (case p2 => ktr_rel); (case p3 => rfl))
  | (with_reducible exact Cmp.lt) | (with_reducible exact Cmp.le) | (with_reducible exact Cmp.gt) | (with_reducible exact Cmp.ge) | (with_reducible exact Cmp.eq) | (with_reducible exact Cmp.ne)
  | (with_reducible exact Cmp.is) | (with_reducible exact Cmp.isNot) | (with_reducible exact Cmp.bytesEq) | (with_reducible exact Cmp.bytesNe)
  | ((with_reducible refine' Ev.neg ?p1); (case p1 => ktr_rel))
  | ((with_reducible refine' Bin.mul ?p1); (case p1 => first | decide | omega))
  | ((with_reducible refine' Bin.pow ?p1 ?p2); (case p1 => first | decide | omega); (case p2 => first | decide | decide +kernel))
  | (with_reducible exact Bin.add) | (with_reducible exact Bin.sub) | (with_reducible exact Bin.and) | (with_reducible exact Bin.or)
  | ((with_reducible refine' Bin.addList ?p1); (case p1 => first | exact Nat.le_of_ble_eq_true rfl | (simp; omega)))
  | ((with_reducible refine' Bin.shr ?p1); (case p1 => first | decide | omega))
  | ((with_reducible refine' Bin.shl ?p1 ?p2); (case p1 => first | decide | omega); (case p2 => kcf_m))
  | ((with_reducible refine' Bin.mod ?p1); (case p1 => first | decide | omega))
  | ((with_reducible refine' Bin.floordiv ?p1 ?p2); (case p1 => first | decide | omega); (case p2 => first | decide | omega)))
local macro_rules | `(tactic| tb_start) => `(tactic| (
  (case ho => (unfold KK; k_is)); (case hcd => (unfold KK; k_is)); (case hl => decide); (case hc => decide); (case hk => rfl); (case hco => rfl); (case hg => rfl)))
local macro_rules | `(tactic| tb_rel) => `(tactic| (
  (case ho => (unfold KK; k_is)); (case hcd => (unfold KK; k_is)); (case hl => decide); (case hk => rfl); (case hco => rfl); (case hg => rfl)))

section
set_option maxHeartbeats 2000000
variable [Inhabited Thr]
/-! bits of ints, as the octets use them -/
theorem two6 : (2 : Int) ^ (6 : Int).toNat = 64 := by decide
theorem two12 : (2 : Int) ^ (12 : Int).toNat = 4096 := by decide
theorem two18 : (2 : Int) ^ (18 : Int).toNat = 262144 := by decide
theorem fdivP (a : Int) {b : Int} (hb : 0 < b) : a.fdiv b = a / b := Int.fdiv_eq_ediv_of_nonneg a (by omega)
theorem fmodP (a : Int) {b : Int} (hb : 0 < b) : a.fmod b = a % b := Int.fmod_eq_emod_of_nonneg a (by omega)
theorem bitAnd_nat {a b : Int} (ha : 0 ≤ a) (hb : 0 ≤ b) : Builtin.bitAnd a b = ((a.toNat &&& b.toNat : Nat) : Int) := by
  unfold Builtin.bitAnd
  rw [decide_eq_true ha, decide_eq_true hb]
theorem bitOr_nat {a b : Int} (ha : 0 ≤ a) (hb : 0 ≤ b) : Builtin.bitOr a b = ((a.toNat ||| b.toNat : Nat) : Int) := by
  unfold Builtin.bitOr Builtin.bitAnd
  have e : ∀ x : Int, Builtin.bitNot (Builtin.bitNot x) = x := fun x => by unfold Builtin.bitNot; omega
  have na : ¬ (0 ≤ Builtin.bitNot a) := by unfold Builtin.bitNot; omega
  have nb : ¬ (0 ≤ Builtin.bitNot b) := by unfold Builtin.bitNot; omega
  rw [decide_eq_false na, decide_eq_false nb]
  simp only [e]
theorem and63 {a : Int} (ha : 0 ≤ a) : Builtin.bitAnd a 63 = a % 64 := by
  rw [bitAnd_nat ha (by decide)]
  have : (63 : Int).toNat = 2 ^ 6 - 1 := by decide
  rw [this, Nat.and_two_pow_sub_one_eq_mod]
  omega
theorem orK {k m : Nat} (h : ∀ x, x < m → k ||| x = k + x) {b : Int} (h0 : 0 ≤ b) (h1 : b < m) : Builtin.bitOr k b = k + b := by
  rw [bitOr_nat (by omega) h0]
  have := h b.toNat (by omega)
  have e : ((k : Int)).toNat = k := by omega
  rw [e, this]; omega
theorem or128 {b : Int} (h0 : 0 ≤ b) (h1 : b < 64) : Builtin.bitOr 128 b = 128 + b := orK (k := 128) (m := 64) (by decide) h0 h1
theorem or192 {b : Int} (h0 : 0 ≤ b) (h1 : b < 32) : Builtin.bitOr 192 b = 192 + b := orK (k := 192) (m := 32) (by decide) h0 h1
theorem or224 {b : Int} (h0 : 0 ≤ b) (h1 : b < 16) : Builtin.bitOr 224 b = 224 + b := orK (k := 224) (m := 16) (by decide) h0 h1
theorem or240 {b : Int} (h0 : 0 ≤ b) (h1 : b < 8) : Builtin.bitOr 240 b = 240 + b := orK (k := 240) (m := 8) (by decide) h0 h1

section
variable {w : World}
theorem fn_is_code (n : Int) : Fn w 1 (.ref 66) [.int n] (.bool (decide (0 ≤ n) && decide (n ≤ 1114111))) := by
  refine' Fn.intro (xs := ["number"]) ?ho ?hcd (bind1 ?hb) ?hl ?hc ?hk ?hco ?hg ?h
  tb_start
  case hb => intro v; exact rfl
  intro A L hA
  exact Ex.ret (by ktr_rel) rfl
theorem fn_is_surrogate (n : Int) : Fn w 1 (.ref 73) [.int n] (.bool (decide (55296 ≤ n) && decide (n ≤ 57343))) := by
  refine' Fn.intro (xs := ["code"]) ?ho ?hcd (bind1 ?hb) ?hl ?hc ?hk ?hco ?hg ?h
  tb_start
  case hb => intro v; exact rfl
  intro A L hA
  exact Ex.ret (by ktr_rel) rfl
theorem Ev.is_code {A : Around} {env : Env} {ρ : Loc} {np pos : Pos} {e : Expr} {n : Int} (he : Ev w A env ρ e (.int n)) (hA : Room A 1) (hg : env.kindOf "is_code" = some .globalImplicit) (hs : starEach [e] env = (false, eval e env) :: starEach [] env) :
    Ev w A env ρ (.Call (.Name "is_code" np) [e] [] pos) (.bool (decide (0 ≤ n) && decide (n ≤ 1114111))) := Ev.callTop (g_is_code w) (k_is_code w) (.cons he .nil hs) (fn_is_code n A hA) hg (he := hs)
theorem Ev.is_surrogate {A : Around} {env : Env} {ρ : Loc} {np pos : Pos} {e : Expr} {n : Int} (he : Ev w A env ρ e (.int n)) (hA : Room A 1) (hg : env.kindOf "is_surrogate" = some .globalImplicit) (hs : starEach [e] env = (false, eval e env) :: starEach [] env) :
    Ev w A env ρ (.Call (.Name "is_surrogate" np) [e] [] pos) (.bool (decide (55296 ≤ n) && decide (n ≤ 57343))) := Ev.callTop (g_is_surrogate w) (k_is_surrogate w) (.cons he .nil hs) (fn_is_surrogate n A hA) hg (he := hs)
omit [Inhabited Thr] in
noncomputable def scalarI (n : Int) : Bool := (decide (0 ≤ n) && decide (n ≤ 1114111)) && !(decide (55296 ≤ n) && decide (n ≤ 57343))
theorem fn_is_scalar (n : Int) : Fn w 2 (.ref 80) [.int n] (.bool (scalarI n)) := by
  refine' Fn.intro (xs := ["number"]) ?ho ?hcd (bind1 ?hb) ?hl ?hc ?hk ?hco ?hg ?h
  tb_start
  case hb => intro v; exact rfl
  intro A L hA
  exact Ex.ret (Ev.and (Ev.is_code (by ktr_rel) hA rfl rfl) fun _ => Ev.not (Ev.is_surrogate (by ktr_rel) hA rfl rfl)) rfl
omit [Inhabited Thr] in
noncomputable def encI (c : Nat) : List Int := (enc c).map fun (x : Nat) => (x : Int)
theorem fn_utf8_length (c : Nat) (hc : c < 1114112) : Fn w 1 (.ref 94) [.int c] (.int (enc c).length) := by
  refine' Fn.intro (xs := ["code"]) ?ho ?hcd (bind1 ?hb) ?hl ?hc ?hk ?hco ?hg ?h
  tb_start
  case hb => intro v; exact rfl
  intro A L hA
  refine Ex.ifLeave (by ktr_rel) (fun h1 => Ex.ret (by ktr_rel) ?_) fun h1 => ?_
  · simp only [decide_eq_true_eq] at h1
    simp only [enc]; (repeat' split) <;> first | rfl | omega
  refine Ex.ifLeave (by ktr_rel) (fun h2 => Ex.ret (by ktr_rel) ?_) fun h2 => ?_
  · simp only [decide_eq_true_eq, decide_eq_false_iff_not] at h1 h2
    simp only [enc]; (repeat' split) <;> first | rfl | omega
  refine Ex.ret (by ktr_rel) ?_
  simp only [decide_eq_true_eq, decide_eq_false_iff_not] at h1 h2 ⊢
  simp only [enc]; (repeat' split) <;> first | rfl | omega
theorem fn_utf8_octets (c : Nat) (hc : c < 1114112) : Fn w 1 (.ref 87) [.int c] (.list ((encI c).map .int)) := by
  refine' Fn.intro (xs := ["code"]) ?ho ?hcd (bind1 ?hb) ?hl ?hc ?hk ?hco ?hg ?h
  tb_start
  case hb => intro v; exact rfl
  intro A L hA
  have d6 : ∀ a : Int, a.fdiv (2 ^ (6 : Int).toNat) = a / 64 := fun a => by rw [two6]; exact fdivP a (by decide)
  have d12 : ∀ a : Int, a.fdiv (2 ^ (12 : Int).toNat) = a / 4096 := fun a => by rw [two12]; exact fdivP a (by decide)
  have d18 : ∀ a : Int, a.fdiv (2 ^ (18 : Int).toNat) = a / 262144 := fun a => by rw [two18]; exact fdivP a (by decide)
  have a0 : (0 : Int) ≤ c := by omega
  have e1 : Builtin.bitAnd (c : Int) 63 = (c : Int) % 64 := and63 a0
  have e2 : Builtin.bitAnd ((c : Int) / 64) 63 = (c : Int) / 64 % 64 := and63 (by omega)
  have e3 : Builtin.bitAnd ((c : Int) / 4096) 63 = (c : Int) / 4096 % 64 := and63 (by omega)
  have o1 : Builtin.bitOr 128 ((c : Int) % 64) = 128 + (c : Int) % 64 := or128 (by omega) (by omega)
  have o2 : Builtin.bitOr 128 ((c : Int) / 64 % 64) = 128 + (c : Int) / 64 % 64 := or128 (by omega) (by omega)
  have o3 : Builtin.bitOr 128 ((c : Int) / 4096 % 64) = 128 + (c : Int) / 4096 % 64 := or128 (by omega) (by omega)
  refine Ex.ifLeave (by ktr_rel) (fun h1 => Ex.ret (by ktr_rel) ?_) fun h1 => ?_
  · simp only [decide_eq_true_eq] at h1
    rw [encI, enc, if_pos (by omega)]; rfl
  refine Ex.ifLeave (by ktr_rel) (fun h2 => Ex.ret (by ktr_rel) ?_) fun h2 => ?_
  · simp only [decide_eq_true_eq, decide_eq_false_iff_not] at h1 h2
    rw [encI, enc, if_neg (by omega), if_pos (by omega), d6, e1, o1, or192 (by omega) (by omega)]; simp
  refine Ex.ifLeave (by ktr_rel) (fun h3 => Ex.ret (by ktr_rel) ?_) fun h3 => ?_
  · simp only [decide_eq_true_eq, decide_eq_false_iff_not] at h1 h2 h3
    rw [encI, enc, if_neg (by omega), if_neg (by omega), if_pos (by omega), d6, d12, e1, e2, o1, o2, or224 (by omega) (by omega)]; simp
  refine Ex.assign (by ktr_rel) (Ex.ret (by ktr_rel) ?_) (fun _ _ e => by cases e)
  simp only [decide_eq_true_eq, decide_eq_false_iff_not] at h1 h2 h3
  rw [encI, enc, if_neg (by omega), if_neg (by omega), if_neg (by omega), d6, d12, d18, e1, e2, e3, o1, o2, o3, or240 (by omega) (by omega)]; simp
end
end

section
set_option maxHeartbeats 2000000
variable [Inhabited Thr]
omit [Inhabited Thr] in
noncomputable def fresh (x : Str) (ρ : Loc) : Bool := ρ.all fun p => decide (p.1 ≠ x)
theorem AllIn.under {x : Str} {d : Dat} : ∀ {ρ₁ ρ : Loc}, AllIn ρ₁ ρ → fresh x ρ₁ = true → AllIn ρ₁ ((x, d) :: ρ)
  | [], _, _, _ => trivial
  | (y, e) :: r, ρ, h, hf => by
    simp only [fresh, List.all_cons, Bool.and_eq_true, decide_eq_true_eq] at hf
    refine ⟨?_, AllIn.under h.2 hf.2⟩
    unfold Mine.look
    rw [if_neg hf.1]; exact h.1
theorem AllIn.push {x : Str} {d : Dat} {ρ₁ ρ : Loc} (h : AllIn ρ₁ ρ) (hf : fresh x ρ₁ = true) : AllIn ((x, d) :: ρ₁) ((x, d) :: ρ) := ⟨by unfold Mine.look; rw [if_pos rfl], h.under hf⟩

section
variable {w : World} {A : Around} {env : Env} {ρ : Loc}
theorem Ev.iteStr {t x y : Expr} {pos : Pos} {b : Bool} {i j : Str} (ht : Tr w A env ρ t b) (hx : b = true → Ev w A env ρ x (.str i)) (hy : b = false → Ev w A env ρ y (.str j)) : Ev w A env ρ (.IfExp t x y pos) (.str (if b = true then i else j)) :=
  .ite ht (fun e => by rw [if_pos e]; exact hx e) fun e => by rw [if_neg (by simp [e])]; exact hy e
theorem Ev.itemB {value slice : Expr} {pos : Pos} {l : List UInt8} {k : Nat} (hv : Ev w A env ρ value (.bytes l.toArray)) (hi : Ev w A env ρ slice (.int (k : Int))) (hk : k < l.length) (hz : l.length ≤ 1000)
    (hs : ∀ o i, subscripted slice false o i = operate [o, i] (getItem o i)) : Ev w A env ρ (.Subscript value slice pos) (.int ((l.getD k 0).toNat : Nat)) := by
  have := Ev.itemBytes (pos := pos) hv hi (by omega) (by omega) hz hs
  rwa [Int.toNat_natCast] at this
theorem Ev.lenB {np pos : Pos} {e : Expr} {b : Array UInt8} (he : Ev w A env ρ e (.bytes b)) (hz : b.size ≤ 1000) (hg : env.kindOf "len" = some .globalImplicit) (hs : starEach [e] env = (false, eval e env) :: starEach [] env) :
    Ev w A env ρ (.Call (.Name "len" np) [e] [] pos) (.int b.size) := Ev.callB (b_len w) (by decide +kernel) (by decide) (.cons he .nil hs) (Cl.lenBytes hz) hg (he := hs)
theorem Ev.lenL {np pos : Pos} {e : Expr} {ds : List Dat} (he : Ev w A env ρ e (.list ds)) (hz : ds.length ≤ 1000) (hg : env.kindOf "len" = some .globalImplicit) (hs : starEach [e] env = (false, eval e env) :: starEach [] env) :
    Ev w A env ρ (.Call (.Name "len" np) [e] [] pos) (.int ds.length) := Ev.callB (b_len w) (by decide +kernel) (by decide) (.cons he .nil hs) (Cl.lenList hz) hg (he := hs)
end

section
variable {w : World}
omit [Inhabited Thr] in
noncomputable def leadD : Option (Nat × Nat × Nat) → Dat
  | none => .none
  | some (m, lo, hi) => .tuple [.int m, .int lo, .int hi]
theorem fn_utf8_lead (n : Nat) : Fn w 1 (.ref 115) [.int n] (leadD (leadOf n)) := by
  refine' Fn.intro (xs := ["octet"]) ?ho ?hcd (bind1 ?hb) ?hl ?hc ?hk ?hco ?hg ?h
  tb_start
  case hb => intro v; exact rfl
  intro A L hA
  refine Ex.ifLeave (by ktr_rel) (fun h1 => Ex.ret (by ktr_rel) ?_) fun h1 => ?_
  · simp only [decide_eq_true_eq] at h1
    rw [leadOf, if_pos (by omega)]; rfl
  refine Ex.ifLeave (by ktr_rel) (fun h2 => Ex.ret (by ktr_rel) ?_) fun h2 => ?_
  · simp only [decide_eq_true_eq, decide_eq_false_iff_not, Bool.and_eq_true] at h1 h2
    rw [leadOf, if_neg (by omega), if_pos (by omega)]; rfl
  refine Ex.ifLeave (by ktr_rel) (fun h3 => Ex.ret (by ktr_rel) ?_) fun h3 => ?_
  · simp only [decide_eq_true_eq, decide_eq_false_iff_not, Bool.and_eq_true, Bool.and_eq_false_iff] at h1 h2 h3
    have e : leadOf n = some (3, if n = 224 then 160 else 128, if n = 237 then 159 else 191) := by rw [leadOf, if_neg (by omega), if_neg (by omega), if_pos (by omega)]
    rw [e]
    simp only [leadD, decide_eq_true_eq, Dat.tuple.injEq, List.cons.injEq, Dat.int.injEq, and_true]
    refine ⟨rfl, ?_, ?_⟩ <;> split <;> split <;> omega
  refine Ex.ifLeave (by ktr_rel) (fun h4 => Ex.ret (by ktr_rel) ?_) fun h4 => ?_
  · simp only [decide_eq_true_eq, decide_eq_false_iff_not, Bool.and_eq_true, Bool.and_eq_false_iff] at h1 h2 h3 h4
    have e : leadOf n = some (4, if n = 240 then 144 else 128, if n = 244 then 143 else 191) := by rw [leadOf, if_neg (by omega), if_neg (by omega), if_neg (by omega), if_pos (by omega)]
    rw [e]
    simp only [leadD, decide_eq_true_eq, Dat.tuple.injEq, List.cons.injEq, Dat.int.injEq, and_true]
    refine ⟨rfl, ?_, ?_⟩ <;> split <;> split <;> omega
  refine Ex.ret (by ktr_rel) ?_
  simp only [decide_eq_true_eq, decide_eq_false_iff_not, Bool.and_eq_true, Bool.and_eq_false_iff] at h1 h2 h3 h4
  rw [leadOf, if_neg (by omega), if_neg (by omega), if_neg (by omega), if_neg (by omega)]; rfl
theorem Ev.utf8_lead {A : Around} {env : Env} {ρ : Loc} {np pos : Pos} {e : Expr} {n : Nat} (he : Ev w A env ρ e (.int n)) (hA : Room A 1) (hg : env.kindOf "utf8_lead" = some .globalImplicit) (hs : starEach [e] env = (false, eval e env) :: starEach [] env) :
    Ev w A env ρ (.Call (.Name "utf8_lead" np) [e] [] pos) (leadD (leadOf n)) := Ev.callTop (g_utf8_lead w) (k_utf8_lead w) (.cons he .nil hs) (fn_utf8_lead n A hA) hg (he := hs)

omit [Inhabited Thr] in
noncomputable def word : Nat → Str
  | 1 => "a trail octet without a lead"
  | 2 => "an octet that never stands"
  | 3 => "a sequence that breaks off"
  | 4 => "a sequence that is cut short"
  | _ => ""
omit [Inhabited Thr] in
noncomputable def optD : Option Nat → Dat
  | none => .none
  | some c => .int c
omit [Inhabited Thr] in
noncomputable def pieceD (p : Nat × Option Nat × Nat) : Dat := .tuple [.int p.1, optD p.2.1, .str (word p.2.2)]
omit [Inhabited Thr] in
noncomputable abbrev nats (l : List UInt8) : List Nat := l.map UInt8.toNat
theorem nats_drop {l : List UInt8} {i : Nat} (h : i < l.length) : (nats l).drop i = (l.getD i 0).toNat :: (nats l).drop (i + 1) := by
  have h' : i < (nats l).length := by simpa using h
  rw [List.drop_eq_getElem_cons h']
  simp [List.getD, h]
theorem lead_some {n m lo hi : Nat} (h : leadOf n = some (m, lo, hi)) (hn : n < 256) : (m = 1 ∧ n < 128) ∨ ((m = 2 ∨ m = 3 ∨ m = 4) ∧ 128 ≤ n) := by
  unfold leadOf at h
  split at h
  · simp at h; omega
  · split at h
    · simp at h; omega
    · split at h
      · simp at h; omega
      · split at h
        · simp at h; omega
        · cases h
theorem mask {b m : Nat} (hm : m = 2 ∨ m = 3 ∨ m = 4) : Builtin.bitAnd (b : Int) ((127 : Int).fdiv (2 ^ ((m : Nat) : Int).toNat)) = ((b % 2 ^ (7 - m) : Nat) : Int) := by
  have h : (127 : Int).fdiv (2 ^ ((m : Nat) : Int).toNat) = ((2 ^ (7 - m) - 1 : Nat) : Int) := by rcases hm with rfl | rfl | rfl <;> decide
  rw [h, bitAnd_nat (by omega) (by omega)]
  have e1 : ((b : Nat) : Int).toNat = b := by omega
  have e2 : (((2 ^ (7 - m) - 1 : Nat)) : Int).toNat = 2 ^ (7 - m) - 1 := by omega
  rw [e1, e2, Nat.and_two_pow_sub_one_eq_mod]
theorem joinBits {c o : Nat} : Builtin.bitOr ((c : Int) * 2 ^ (6 : Int).toNat) (Builtin.bitAnd (o : Int) 63) = ((c * 64 + o % 64 : Nat) : Int) := by
  rw [and63 (by omega), two6, bitOr_nat (by omega) (by omega)]
  have e1 : ((c : Int) * 64).toNat = 2 ^ 6 * c := by omega
  have e2 : ((o : Int) % 64).toNat = o % 64 := by omega
  rw [e1, e2, ← Nat.two_pow_add_eq_or_of_lt (by omega)]
  omega
end
end

section
set_option maxHeartbeats 2000000
variable [Inhabited Thr]
section
variable {w : World}
theorem fn_utf8_piece (l : List UInt8) (i : Nat) (hi : i < l.length) (hz : l.length ≤ 1000) : Fn w 2 (.ref 122) [.bytes l.toArray, .int i] (pieceD (piece ((nats l).drop i))) := by
  refine' Fn.intro (xs := ["octets", "at"]) ?ho ?hcd (bind2 ?hb) ?hl ?hc ?hk ?hco ?hg ?h
  tb_start
  case hb => intro v u; exact rfl
  intro A L hA
  have hdrop := nats_drop hi
  generalize hb : (l.getD i 0).toNat = b at hdrop
  have hb256 : b < 256 := by rw [← hb]; exact UInt8.toNat_lt _
  refine Ex.assign (Ev.utf8_lead (Ev.itemB (by ktr_rel) (by ktr_rel) hi hz (by intro _ _; rfl)) (hA.le (by decide)) rfl rfl) ?_ (fun _ _ e => by cases e)
  rw [hb]
  cases hlead : leadOf b with
  | none =>
    refine Ex.ifLeave (Tr.cmp (Ev.name rfl (by decide)) Ev.nothing Cmp.is rfl) (fun h1 => Ex.ret (Ev.tuple (Evs.cons Ev.int (Evs.cons Ev.nothing (Evs.cons (Ev.iteStr (Tr.cmp (Ev.itemB (by ktr_rel) (by ktr_rel) hi hz (by intro _ _; rfl)) Ev.int Cmp.lt rfl) (fun _ => by ktr_rel) (fun _ => by ktr_rel)) Evs.nil)))) ?_) fun h1 => ?_
    · rw [hdrop, piece, hlead, hb]
      simp only [pieceD, optD]
      by_cases h : b < 192
      · rw [if_pos h, if_pos (by simpa using (show (b : Int) < 192 by omega))]; rfl
      · rw [if_neg h, if_neg (by simpa using (show ¬ (b : Int) < 192 by omega))]; rfl
    · cases h1
  | some q =>
    obtain ⟨m, lo, hiB⟩ := q
    refine Ex.ifLeave (Tr.cmp (Ev.name rfl (by decide)) Ev.nothing Cmp.is rfl) (fun h1 => by cases h1) fun _ => ?_
    refine Ex.unpack hA.hh (Ev.name rfl (by decide)) (.cons (fun _ _ e => by cases e) (.cons (fun _ _ e => by cases e) (.cons (fun _ _ e => by cases e) .nil))) ?_
    dsimp only [id]
    refine Ex.ifLeave (by ktr_rel) (fun h1 => Ex.ret (Ev.tuple (Evs.cons Ev.int (Evs.cons (Ev.itemB (by ktr_rel) (by ktr_rel) hi hz (by intro _ _; rfl)) (Evs.cons Ev.str Evs.nil)))) ?_) fun h1 => ?_
    · simp only [decide_eq_true_eq] at h1
      have hm : m = 1 := by omega
      subst hm
      rw [hdrop, piece, hlead, hb]; rfl
    simp only [decide_eq_false_iff_not] at h1
    have hm : m = 2 ∨ m = 3 ∨ m = 4 := by
      rcases lead_some hlead hb256 with h | h
      · omega
      · exact h.1
    have hp : piece ((nats l).drop i) = scan (m - 1) 1 (b % 2 ^ (7 - m)) lo hiB ((nats l).drop (i + 1)) := by
      rw [hdrop, piece, hlead]
      simp only [if_neg (show ¬ m = 1 by omega)]
    rw [hp]
    refine Ex.assign (Ev.bin (Ev.itemB (by ktr_rel) (by ktr_rel) hi hz (by intro _ _; rfl)) (by ktr_rel) Bin.and) ?_ (fun _ _ e => by cases e)
    rw [hb, mask hm]
    refine Ex.for XOk.none (EvIter.range2 hA.hh (b_range w) Ev.int (Ev.name rfl (by decide)) (by omega) (by omega) (by omega) (by omega))
      (fun k ρ' own' => own' = none ∧ k ≤ m - 1 ∧ ∃ c lo' hi', c < 2 ^ (5 + 6 * k) ∧ AllIn [("octets", .bytes l.toArray), ("at", .int i), ("many", .int m), ("code", .int (c : Nat)), ("low", .int (lo' : Nat)), ("high", .int (hi' : Nat))] ρ' ∧
        scan (m - 1) 1 (b % 2 ^ (7 - m)) lo hiB ((nats l).drop (i + 1)) = scan (m - 1 - k) (k + 1) c lo' hi' ((nats l).drop (i + 1 + k)))
      (fun k ρ => ("behind", .int (1 + (k : Int))) :: ρ) ?h0 ?ha ?turn ?done
    case h0 =>
      refine ⟨rfl, Nat.zero_le _, _, _, _, ?_, ⟨rfl, rfl, rfl, rfl, rfl, rfl, trivial⟩, rfl⟩
      rcases hm with rfl | rfl | rfl <;> omega
    case ha =>
      rintro k d ρ' own' hd ⟨rfl, _⟩
      have hk := lt_of_get hd
      rw [run_length] at hk
      simp only [runOf, List.getElem?_map, List.getElem?_range hk, Option.map_some, Option.some.injEq] at hd
      subst hd
      exact Asg.name fun _ _ e => by cases e
    case turn =>
      rintro k d ρ' own' hd ⟨rfl, hkm, c, lo', hi', hc, hall, heq⟩
      have hk := lt_of_get hd
      rw [run_length] at hk
      refine Ex.weaken ?_ (hall.push (x := "behind") (d := .int (1 + (k : Int))) rfl)
      refine Ex.ifLeave (Tr.cmp (by ktr_rel) (Ev.lenB (by ktr_rel) (by simpa using hz) rfl rfl) Cmp.ge rfl) (fun h2 => Ex.ret (by ktr_rel) ?_) fun h2 => ?_
      · simp only [decide_eq_true_eq, List.size_toArray] at h2
        rw [heq, List.drop_of_length_le (by simp; omega)]
        obtain ⟨j, hj⟩ : ∃ j, m - 1 - k = j + 1 := ⟨m - 2 - k, by omega⟩
        rw [hj, scan]
        simp [pieceD, optD, word, Int.add_comm]
      simp only [decide_eq_false_iff_not, List.size_toArray] at h2
      have hlt : i + 1 + k < l.length := by omega
      refine Ex.assign (Ev.to (Ev.itemB (k := i + 1 + k) (by ktr_rel) (Ev.to (by ktr_rel) (by congr 1; omega)) hlt hz (by intro _ _; rfl)) rfl) ?_ (fun _ _ e => by cases e)
      have hd2 := nats_drop hlt
      generalize ho : (l.getD (i + 1 + k) 0).toNat = o at hd2 ⊢
      obtain ⟨j, hj⟩ : ∃ j, m - 1 - k = j + 1 := ⟨m - 2 - k, by omega⟩
      rw [hj, hd2, scan] at heq
      refine Ex.ifLeave (by ktr_rel) (fun h3 => Ex.ret (by ktr_rel) ?_) fun h3 => ?_
      · simp only [Bool.not_eq_true', Bool.and_eq_false_iff, decide_eq_false_iff_not] at h3
        rw [if_neg (by omega)] at heq
        rw [heq]
        simp [pieceD, optD, word, Int.add_comm]
      simp only [Bool.not_eq_false', Bool.and_eq_true, decide_eq_true_eq] at h3
      rw [if_pos (by omega)] at heq
      refine Ex.assign (Ev.to (Ev.bin (Ev.bin (by ktr_rel) (by ktr_rel) (Bin.shl (by decide) ?_)) (by ktr_rel) Bin.or) (congrArg Dat.int joinBits)) ?_ (fun _ _ e => by cases e)
      · have : Builtin.Int.intBits (c : Int) ≤ 5 + 6 * k := intBits_le (by simpa using hc)
        omega
      refine Ex.unpack hA.hh (Ev.tuple (Evs.cons Ev.int (Evs.cons Ev.int Evs.nil))) (.cons (fun _ _ e => by cases e) (.cons (fun _ _ e => by cases e) .nil)) ?_
      dsimp only [id]
      refine Ex.nil ⟨rfl, by omega, c * 64 + o % 64, 128, 191, ?_, ⟨rfl, rfl, rfl, rfl, rfl, rfl, trivial⟩, ?_⟩
      · rw [show 5 + 6 * (k + 1) = (5 + 6 * k) + 6 by omega, Nat.pow_add]
        omega
      · rw [heq, show m - 1 - (k + 1) = j by omega]
        rfl
    case done =>
      rintro ρ' own' ⟨rfl, hkm, c, lo', hi', hc, hall, heq⟩
      refine Ex.weaken ?_ hall
      refine Ex.ret (by ktr_rel) ?_
      rw [run_length] at heq
      rw [heq, show m - 1 - ((m : Int) - 1).toNat = 0 by omega, scan]
      simp only [pieceD, optD, word]
      congr 3
      omega
end
end

section
set_option maxHeartbeats 2000000
variable [Inhabited Thr]
section
variable {w : World}
theorem Ev.utf8_piece {A : Around} {env : Env} {ρ : Loc} {np pos : Pos} {e f : Expr} {l : List UInt8} {i : Nat} (he : Ev w A env ρ e (.bytes l.toArray)) (hf : Ev w A env ρ f (.int i)) (hi : i < l.length) (hz : l.length ≤ 1000) (hA : Room A 2) (hg : env.kindOf "utf8_piece" = some .globalImplicit)
    (hs : starEach [e, f] env = (false, eval e env) :: starEach [f] env) (hs' : starEach [f] env = (false, eval f env) :: starEach [] env) : Ev w A env ρ (.Call (.Name "utf8_piece" np) [e, f] [] pos) (pieceD (piece ((nats l).drop i))) :=
  Ev.callTop (g_utf8_piece w) (k_utf8_piece w) (.cons he (.cons hf .nil hs') hs) (fn_utf8_piece l i hi hz A hA) hg (he := hs) (hp := by rw [hs']; rfl)
omit [Inhabited Thr] in
noncomputable def natsD (ns : List Nat) : List Dat := ns.map fun (n : Nat) => Dat.int n
theorem natsD_length (ns : List Nat) : (natsD ns).length = ns.length := by simp [natsD]
theorem natsD_snoc (ns : List Nat) (c : Nat) : natsD ns ++ [.int c] = natsD (ns ++ [c]) := by simp [natsD]
theorem drop_ne {l : List UInt8} {i : Nat} (h : i < l.length) : (nats l).drop i ≠ [] := by
  intro e
  have := congrArg List.length e
  simp at this; omega

theorem fn_replaced (l : List UInt8) (hz : l.length ≤ 1000) : Fn w 3 (.ref 136) [.bytes l.toArray] (.list (natsD (repl (nats l)))) := by
  refine' Fn.intro (xs := ["octets"]) ?ho ?hcd (bind1 ?hb) ?hl ?hc ?hk ?hco ?hg ?h
  tb_start
  case hb => intro v; exact rfl
  intro A L hA
  refine Ex.swapOwn hA.hh Ev.int ?_
  refine Ex.while XOk.none (fun n ρ own => ∃ i found, n = l.length - i ∧ i ≤ l.length ∧ AllIn [("octets", .bytes l.toArray), ("at", .int (i : Nat))] ρ ∧ own = some (Str.ofString "found", natsD found) ∧ repl (nats l) = found ++ repl ((nats l).drop i) ∧ found.length ≤ i) l.length
    ⟨0, [], rfl, Nat.zero_le _, ⟨rfl, rfl, trivial⟩, rfl, rfl, Nat.le_refl _⟩ ?_
  rintro n ρ own ⟨i, found, rfl, hi, hall, rfl, heq, hfl⟩
  refine ⟨_, Tr.cmp (Ev.name (hall.look _ _ rfl) (by decide)) (Ev.lenB (Ev.name (hall.look _ _ rfl) (by decide)) (by simpa using hz) rfl rfl) Cmp.lt rfl, fun h => ?_, fun h => ?_⟩
  · simp only [decide_eq_true_eq, List.size_toArray] at h
    have hlt : i < l.length := by omega
    have hne := drop_ne hlt
    have hle := piece_le hne
    have hpos := piece_pos hne
    simp only [List.length_drop, List.length_map] at hle
    refine Ex.weaken ?_ hall
    refine Ex.unpack hA.hh (Ev.utf8_piece (by ktr_rel) (by ktr_rel) hlt hz (hA.le (by decide)) rfl rfl rfl) (.cons (fun _ _ e => by cases e; decide) (.cons (fun _ _ e => by cases e; decide) (.cons (fun _ _ e => by cases e; decide) .nil))) ?_
    dsimp only [id]
    refine Ex.append (d := .int ((piece ((nats l).drop i)).2.1.getD 65533 : Nat)) (Ev.ite (Tr.cmp (Ev.name rfl (by decide)) Ev.nothing Cmp.is rfl) (fun h => ?_) (fun h => ?_)) ?_ (by rw [natsD_length]; omega)
    · cases hc : (piece ((nats l).drop i)).2.1 with
      | none => exact Ev.to (by ktr_rel) rfl
      | some c => rw [hc] at h; cases h
    · cases hc : (piece ((nats l).drop i)).2.1 with
      | none => rw [hc] at h; cases h
      | some c => exact Ev.to (Ev.name rfl (by decide)) (by first | rfl | (rw [hc]; rfl))
    refine Ex.assign (by ktr_rel) (Ex.nil ?_) (fun _ _ e => by cases e; decide)
    refine ⟨l.length - (i + (piece ((nats l).drop i)).1), by omega, i + (piece ((nats l).drop i)).1, found ++ [(piece ((nats l).drop i)).2.1.getD 65533], rfl, by omega, ⟨rfl, by unfold look; rw [if_pos rfl]; simp, trivial⟩, by rw [natsD_snoc], ?_, by simp; omega⟩
    rw [heq, repl_cons hne, List.drop_drop, List.append_assoc]; rfl
  · simp only [decide_eq_false_iff_not, List.size_toArray] at h
    refine Ex.release (Ex.ret (Ev.name rfl (by decide)) ?_)
    rw [heq, List.drop_of_length_le (by simp; omega)]
    simp [repl_nil]
theorem fn_is_utf8 (l : List UInt8) (hz : l.length ≤ 1000) : Fn w 3 (.ref 143) [.bytes l.toArray] (.bool (okAll (nats l))) := by
  refine' Fn.intro (xs := ["octets"]) ?ho ?hcd (bind1 ?hb) ?hl ?hc ?hk ?hco ?hg ?h
  tb_start
  case hb => intro v; exact rfl
  intro A L hA
  refine Ex.assign Ev.int ?_ (fun _ _ e => by cases e)
  refine Ex.while XOk.none (fun n ρ own => ∃ i, n = l.length - i ∧ i ≤ l.length ∧ AllIn [("octets", .bytes l.toArray), ("at", .int (i : Nat))] ρ ∧ own = none ∧ okAll (nats l) = okAll ((nats l).drop i)) l.length
    ⟨0, rfl, Nat.zero_le _, ⟨rfl, rfl, trivial⟩, rfl, rfl⟩ ?_
  rintro n ρ own ⟨i, rfl, hi, hall, rfl, heq⟩
  refine ⟨_, Tr.cmp (Ev.name (hall.look _ _ rfl) (by decide)) (Ev.lenB (Ev.name (hall.look _ _ rfl) (by decide)) (by simpa using hz) rfl rfl) Cmp.lt rfl, fun h => ?_, fun h => ?_⟩
  · simp only [decide_eq_true_eq, List.size_toArray] at h
    have hlt : i < l.length := by omega
    have hne := drop_ne hlt
    have hle := piece_le hne
    have hpos := piece_pos hne
    simp only [List.length_drop, List.length_map] at hle
    refine Ex.weaken ?_ hall
    refine Ex.unpack hA.hh (Ev.utf8_piece (by ktr_rel) (by ktr_rel) hlt hz (hA.le (by decide)) rfl rfl rfl) (.cons (fun _ _ e => by cases e) (.cons (fun _ _ e => by cases e) (.cons (fun _ _ e => by cases e) .nil))) ?_
    dsimp only [id]
    rw [okAll_cons hne] at heq
    refine Ex.ifLeave (Tr.cmp (Ev.name rfl (by decide)) Ev.nothing Cmp.is rfl) (fun h => Ex.ret (by ktr_rel) ?_) fun h => ?_
    · cases hc : (piece ((nats l).drop i)).2.1 with
      | none => rw [hc] at heq; rw [heq]; rfl
      | some c => rw [hc] at h; cases h
    refine Ex.assign (by ktr_rel) (Ex.nil ?_) (fun _ _ e => by cases e)
    refine ⟨l.length - (i + (piece ((nats l).drop i)).1), by omega, i + (piece ((nats l).drop i)).1, rfl, by omega, ⟨rfl, by unfold look; rw [if_pos rfl]; simp, trivial⟩, rfl, ?_⟩
    cases hc : (piece ((nats l).drop i)).2.1 with
    | none => rw [hc] at h; cases h
    | some c => rw [hc] at heq; rw [heq, List.drop_drop]; rfl
  · simp only [decide_eq_false_iff_not, List.size_toArray] at h
    refine Ex.ret (by ktr_rel) ?_
    rw [heq, List.drop_of_length_le (by simp; omega)]; rfl
theorem fn_forward (l : List UInt8) (i : Nat) (hz : l.length ≤ 1000) : Fn w 3 (.ref 150) [.bytes l.toArray, .int i] (.int (if l.length ≤ i then i else i + (piece ((nats l).drop i)).1 : Nat)) := by
  refine' Fn.intro (xs := ["octets", "at"]) ?ho ?hcd (bind2 ?hb) ?hl ?hc ?hk ?hco ?hg ?h
  tb_start
  case hb => intro v u; exact rfl
  intro A L hA
  refine Ex.ret (Ev.ite (Tr.cmp (Ev.name rfl (by decide)) (Ev.lenB (Ev.name rfl (by decide)) (by simpa using hz) rfl rfl) Cmp.ge rfl) (fun h => ?_) (fun h => ?_)) rfl
  · simp only [decide_eq_true_eq, List.size_toArray] at h
    rw [if_pos (by omega)]; ktr_rel
  · simp only [decide_eq_false_iff_not, List.size_toArray] at h
    rw [if_neg (by omega)]
    exact Ev.to (Ev.bin (by ktr_rel) (Ev.itemTuple (Ev.utf8_piece (by ktr_rel) (by ktr_rel) (by omega) hz (hA.le (by decide)) rfl rfl rfl) Ev.int (by decide) (by decide) rfl (by intro _ _; rfl)) Bin.add) rfl
theorem cut_upto (l : List UInt8) (i : Nat) : KBy.picked l.toArray none (some (i : Int)) = (l.take i).toArray := by
  rw [KBc.picked_eq]
  simp only [Option.elim, clipAt_nat, List.drop_zero, Nat.sub_zero, List.size_toArray, List.toList_toArray]
  congr 1
  rcases Nat.le_total i l.length with h | h
  · rw [Nat.min_eq_left h]
  · rw [Nat.min_eq_right h, List.take_of_length_le (Nat.le_refl _), List.take_of_length_le h]
theorem cut_from (l : List UInt8) (i : Nat) : KBy.picked l.toArray (some (i : Int)) none = (l.drop i).toArray := by
  rw [KBc.picked_eq]
  simp only [Option.elim, clipAt_nat, List.size_toArray, List.toList_toArray]
  congr 1
  rcases Nat.le_total i l.length with h | h
  · rw [Nat.min_eq_left h, List.take_of_length_le (by simp)]
  · rw [Nat.min_eq_right h, List.drop_of_length_le h, List.drop_of_length_le (Nat.le_refl _)]; simp
theorem cut_mid (l : List UInt8) (i n : Nat) (h : i + n ≤ l.length) : KBy.picked l.toArray (some (i : Int)) (some (((i + n : Nat)) : Int)) = ((l.drop i).take n).toArray := by
  rw [KBc.picked_eq]
  simp only [Option.elim, clipAt_nat, List.size_toArray, List.toList_toArray]
  rw [Nat.min_eq_left h, Nat.min_eq_left (by omega), Nat.add_sub_cancel_left]
theorem Ev.upto {A : Around} {env : Env} {ρ : Loc} {value e : Expr} {p pos : Pos} {l : List UInt8} {i : Nat} (hv : Ev w A env ρ value (.bytes l.toArray)) (he : Ev w A env ρ e (.int i)) (hz : l.length ≤ 1000) (ht : ∀ o r, letTemporaryGo value o r = pure ()) :
    Ev w A env ρ (.Subscript value (.Slice Option.none (some e) Option.none p) pos) (.bytes (l.take i).toArray) := by
  have := Ev.cutBytes (p := p) (pos := pos) (lo := Option.none) (i := Option.none) (hi := some e) (j := some (i : Int)) hv trivial he (by simpa using hz) ht
  rwa [cut_upto] at this
theorem Ev.from {A : Around} {env : Env} {ρ : Loc} {value e : Expr} {p pos : Pos} {l : List UInt8} {i : Nat} (hv : Ev w A env ρ value (.bytes l.toArray)) (he : Ev w A env ρ e (.int i)) (hz : l.length ≤ 1000) (ht : ∀ o r, letTemporaryGo value o r = pure ()) :
    Ev w A env ρ (.Subscript value (.Slice (some e) Option.none Option.none p) pos) (.bytes (l.drop i).toArray) := by
  have := Ev.cutBytes (p := p) (pos := pos) (lo := some e) (i := some (i : Int)) (hi := Option.none) (j := Option.none) hv he trivial (by simpa using hz) ht
  rwa [cut_from] at this
theorem Ev.mid {A : Around} {env : Env} {ρ : Loc} {value e f : Expr} {p pos : Pos} {l : List UInt8} {i n : Nat} (hv : Ev w A env ρ value (.bytes l.toArray)) (he : Ev w A env ρ e (.int i)) (hf : Ev w A env ρ f (.int ((i + n : Nat) : Int))) (h : i + n ≤ l.length) (hz : l.length ≤ 1000) (ht : ∀ o r, letTemporaryGo value o r = pure ()) :
    Ev w A env ρ (.Subscript value (.Slice (some e) (some f) Option.none p) pos) (.bytes ((l.drop i).take n).toArray) := by
  have := Ev.cutBytes (p := p) (pos := pos) (lo := some e) (i := some (i : Int)) (hi := some f) (j := some ((i + n : Nat) : Int)) hv he hf (by simpa using hz) ht
  rwa [cut_mid _ _ _ h] at this
theorem getD_nats (l : List UInt8) (k : Nat) : (l.getD k 0).toNat = (nats l).getD k 0 := by
  simp only [List.getD, List.getElem?_map]
  cases l[k]? <;> rfl
theorem fn_back (l : List UInt8) (i : Nat) (hi : i ≤ l.length) (hz : l.length ≤ 1000) : Fn w 3 (.ref 157) [.bytes l.toArray, .int i] (.int (back (nats l) i : Nat)) := by
  refine' Fn.intro (xs := ["octets", "at"]) ?ho ?hcd (bind2 ?hb) ?hl ?hc ?hk ?hco ?hg ?h
  tb_start
  case hb => intro v u; exact rfl
  intro A L hA
  refine Ex.ifLeave (by ktr_rel) (fun h => Ex.ret (by ktr_rel) ?_) fun h => ?_
  · simp only [decide_eq_true_eq] at h
    have : i = 0 := by omega
    subst this; rfl
  simp only [decide_eq_false_iff_not] at h
  refine Ex.assign (by ktr_rel) ?_ (fun _ _ e => by cases e)
  refine Ex.while XOk.none (fun n ρ own => n < i ∧ AllIn [("octets", .bytes l.toArray), ("at", .int (i : Nat)), ("here", .int (n : Nat))] ρ ∧ own = none ∧ backWalk (nats l) i (i - 1) = backWalk (nats l) i n) (i - 1)
    ⟨by omega, ⟨rfl, rfl, by unfold look; rw [if_pos rfl]; congr 2; omega, trivial⟩, rfl, rfl⟩ ?_
  rintro n ρ own ⟨hn, hall, rfl, heq⟩
  have hO := hall.look "octets" _ rfl
  have hT := hall.look "at" _ rfl
  have hH := hall.look "here" _ rfl
  refine ⟨_, Tr.bool (.andCons (Tr.cmp (Ev.name hH (by decide)) Ev.int Cmp.gt rfl) fun h0 => .andCons (Tr.cmp (Ev.bin (Ev.name hT (by decide)) (Ev.name hH (by decide)) Bin.sub) Ev.int Cmp.lt rfl) fun h1 =>
    .andCons (Tr.chain Ev.int (Ev.itemB (Ev.name hO (by decide)) (Ev.name hH (by decide)) (by omega) hz (by intro _ _; rfl)) Ev.int Cmp.le Cmp.lt rfl) fun _ => .andNil), fun h => ?_, fun h => ?_⟩
  · simp only [Bool.and_eq_true, decide_eq_true_eq, Bool.and_true] at h
    obtain ⟨k, rfl⟩ : ∃ k, n = k + 1 := ⟨n - 1, by omega⟩
    refine Ex.weaken ?_ hall
    refine Ex.assign (by ktr_rel) (Ex.nil ?_) (fun _ _ e => by cases e)
    refine ⟨k, Nat.lt_succ_self _, by omega, ⟨rfl, rfl, by unfold look; rw [if_pos rfl]; congr 2; omega, trivial⟩, rfl, ?_⟩
    rw [heq, backWalk, if_pos (by rw [getD_nats] at h; omega)]
  · simp only [Bool.and_eq_false_iff, decide_eq_false_iff_not, Bool.and_true] at h
    have hw : backWalk (nats l) i (i - 1) = n := by
      rw [heq]
      cases n with
      | zero => rfl
      | succ k => rw [backWalk, if_neg (by rw [getD_nats] at h; omega)]
    refine Ex.weaken ?_ hall
    have hlen : (l.take i).length = i := by simp; omega
    have hnt : (nats l).take i = nats (l.take i) := by simp [nats, List.map_take]
    refine Ex.ifLeave (Tr.cmp (Ev.bin (by ktr_rel) (Ev.itemTuple (Ev.utf8_piece (Ev.upto (by ktr_rel) (by ktr_rel) hz (by intro _ _; rfl)) (by ktr_rel) (by omega) (by omega) (hA.le (by decide)) rfl rfl rfl) Ev.int (by decide) (by decide) rfl (by intro _ _; rfl)) Bin.add) (by ktr_rel) Cmp.eq rfl) (fun h2 => Ex.ret (by ktr_rel) ?_) fun h2 => Ex.ret (by ktr_rel) ?_
    · simp only [decide_eq_true_eq] at h2
      rw [back, hw, if_pos (by rw [hnt]; omega)]
    · simp only [decide_eq_false_iff_not] at h2
      rw [back, hw, if_neg (by rw [hnt]; omega)]
      congr 1; omega
end
end

section
set_option maxHeartbeats 2000000
variable [Inhabited Thr]
section
variable {w : World}
theorem not_ints : ∀ (ns : List Nat), (∀ d ∈ natsD ns, kqdOk 8 d = true) := by
  intro ns d hd
  simp only [natsD, List.mem_map] at hd
  obtain ⟨n, _, rfl⟩ := hd
  rfl
theorem nats_take (l : List UInt8) (i : Nat) : nats (l.take i) = (nats l).take i := by simp [nats, List.map_take]
theorem nats_length (l : List UInt8) : (nats l).length = l.length := by simp [nats]
theorem nil_iff {α : Type} (l : List α) (p : α → Bool) : (l.filter p = []) ↔ l.all (fun x => !p x) = true := by
  rw [List.filter_eq_nil_iff, List.all_eq_true]
  simp
omit [Inhabited Thr] in
noncomputable def offD (d : Dat) : Bool := match d with | .int n => !(decide (128 ≤ n) && decide (n < 192)) | _ => false
theorem off_nil (l : List UInt8) : ((((l.drop 1).map fun c => Dat.int c.toNat).filter offD).map id = []) ↔ ((nats l).drop 1).all trail = true := by
  rw [List.map_id, nil_iff, ← List.map_drop]
  generalize l.drop 1 = r
  induction r with
  | nil => simp [nats]
  | cons c r ih =>
    simp only [List.map_cons, List.all_cons, Bool.and_eq_true, ih, nats]
    refine and_congr ?_ Iff.rfl
    simp only [offD, trail, Bool.not_not, Bool.and_eq_true, decide_eq_true_eq]
    omega
omit [Inhabited Thr] in
noncomputable def pairD (q : Int × Int) : Dat := .tuple [.int q.1, .int q.2]
omit [Inhabited Thr] in
noncomputable def meetD (lo hi : Int) (d : Dat) : Bool := match d with | .tuple [.int x, .int y] => decide (lo ≤ y) && decide (hi ≥ x) | _ => false
theorem meet_nil (lo hi : Int) : ∀ qs : List (Int × Int), (!decide (((qs.map pairD).filter (meetD lo hi)).map id = [])) = qs.any fun q => decide (lo ≤ q.2) && decide (hi ≥ q.1)
  | [] => by simp
  | q :: qs => by
    have ih := meet_nil lo hi qs
    rw [List.map_id] at ih ⊢
    rw [List.map_cons, List.any_cons, ← ih, List.filter_cons]
    have e : meetD lo hi (pairD q) = (decide (lo ≤ q.2) && decide (hi ≥ q.1)) := rfl
    rw [e]
    cases h : (decide (lo ≤ q.2) && decide (hi ≥ q.1)) <;> simp
theorem pow_bits : Builtin.Int.intBits 2 = 2 := by decide +kernel
theorem Ev.leadBits {A : Around} {env : Env} {ρ : Loc} {ea em : Expr} {k1 k2 k3 : Nat} {p1 p2 p3 p4 p5 p6 p7 : Pos} {lead m : Nat} (ha : Ev w A env ρ ea (.int lead)) (he : Ev w A env ρ em (.int m)) (hm : m = 2 ∨ m = 3 ∨ m = 4) :
    Ev w A env ρ (.BinOp ea .Mod (.BinOp (.Constant (.int 256) k1 p1) .FloorDiv (.BinOp (.Constant (.int 2) k2 p2) .Pow (.BinOp em .Add (.Constant (.int 1) k3 p3) p4) p5) p6) p7) (.int (Mine.leadBits lead m)) := by
  have hq : ((m : Int) + 1).toNat = m + 1 := by omega
  have hp0 : (0 : Int) < 2 ^ (m + 1) := by rcases hm with rfl | rfl | rfl <;> decide
  have hp1 : (2 : Int) ^ (m + 1) < 1073741824 := by rcases hm with rfl | rfl | rfl <;> decide
  have hp2 : (256 : Int).fdiv (2 ^ (m + 1)) ≠ 0 := by rcases hm with rfl | rfl | rfl <;> decide
  unfold Mine.leadBits
  rw [← hq] at hp0 hp1 hp2 ⊢
  exact Ev.bin ha (Ev.bin Ev.int (Ev.bin Ev.int (Ev.bin he Ev.int Bin.add) (Bin.pow (by omega) (by rw [pow_bits]; omega))) (Bin.floordiv hp0 hp1)) (Bin.mod hp2)
theorem runOf_get {a : Int} {n i : Nat} {d : Dat} (h : (runOf a n)[i]? = some d) : i < n ∧ d = .int (a + i) := by
  have hi := lt_of_get h
  rw [run_length] at hi
  simp only [runOf, List.getElem?_map, List.getElem?_range hi, Option.map_some, Option.some.injEq] at h
  exact ⟨hi, h.symm⟩
omit [Inhabited Thr] in
/-- the rounds of the three leads -/
noncomputable def upMany (lead i : Nat) : Nat := match i with
  | 0 => 0
  | 1 => if 192 ≤ lead ∧ lead < 224 then 2 else 0
  | 2 => if 224 ≤ lead ∧ lead < 240 then 3 else if 192 ≤ lead ∧ lead < 224 then 2 else 0
  | _ => manyOf lead
theorem fn_begun (l : List UInt8) (h0 : l ≠ []) (hz : l.length ≤ 1000) : Fn w 1 (.ref 169) [.bytes l.toArray] (.bool (begun (nats l))) := by
  have hpos : 0 < l.length := List.length_pos_iff.mpr h0
  refine' Fn.introC (xs := ["part"]) ?ho ?hcd (bind1 ?hb) ?hl ?hk ?hco ?hg ?h
  tb_rel
  case hb => intro v; exact rfl
  intro A L hA
  refine Ex.swap (d := .int (l.getD 0 0).toNat) (d' := .int 0) hA.hh (Ev.tuple (.cons (Ev.itemB (k := 0) (Ev.name rfl (by decide)) (Ev.to Ev.int rfl) hpos hz (by intro _ _; rfl)) (.cons Ev.int .nil rfl) rfl) (Nat.le_of_ble_eq_true rfl)) ?_ (fun _ _ e => by cases e) (fun _ _ e => by cases e)
  refine Ex.ifLeave (by ktr_rel) (fun h1 => Ex.ret (Ev.cmp (Ev.lenB (Ev.name rfl (by decide)) (by simpa using hz) rfl rfl) Ev.int Cmp.eq rfl) ?_) fun h1 => ?_
  · simp only [decide_eq_true_eq] at h1
    rw [getD_nats] at h1
    rw [begun, if_pos (by omega), nats_length]
    simp only [Dat.bool.injEq, decide_eq_decide, List.size_toArray]
    omega
  simp only [decide_eq_false_iff_not] at h1
  refine Ex.for XOk.none (items := [.tuple [.int 2, .int 192], .tuple [.int 3, .int 224], .tuple [.int 4, .int 240]]) (EvIter.of (by ktr_rel) (Iter.tuple hA.hh)) (fun i ρ own => own = none ∧ AllIn [("part", .bytes l.toArray), ("lead", .int (l.getD 0 0).toNat), ("many", .int (upMany (l.getD 0 0).toNat i))] ρ)
    (fun i ρ => match i with | 0 => ("first", .int 192) :: ("size", .int 2) :: ρ | 1 => ("first", .int 224) :: ("size", .int 3) :: ρ | _ => ("first", .int 240) :: ("size", .int 4) :: ρ) ⟨rfl, rfl, rfl, rfl, trivial⟩ ?_ ?_ ?_
  · rintro i d ρ own hd ⟨rfl, hall⟩
    rcases i with _ | _ | _ | i
    · cases hd; exact Asg.tuple hA.hh (.cons (fun _ _ e => by cases e) (.cons (fun _ _ e => by cases e) .nil))
    · cases hd; exact Asg.tuple hA.hh (.cons (fun _ _ e => by cases e) (.cons (fun _ _ e => by cases e) .nil))
    · cases hd; exact Asg.tuple hA.hh (.cons (fun _ _ e => by cases e) (.cons (fun _ _ e => by cases e) .nil))
    · cases hd
  · rintro i d ρ own hd ⟨rfl, hall⟩
    have e1 : (256 : Int).fdiv (2 ^ (((2 : Int) + 1).toNat)) = 32 := by decide
    have e2 : (256 : Int).fdiv (2 ^ (((3 : Int) + 1).toNat)) = 16 := by decide
    have e3 : (256 : Int).fdiv (2 ^ (((4 : Int) + 1).toNat)) = 8 := by decide
    rcases i with _ | _ | _ | i
    · cases hd
      have hall' := AllIn.push (x := "first") (d := .int 192) (AllIn.push (x := "size") (d := .int 2) hall rfl) rfl
      refine Ex.weaken ?_ hall'
      refine Ex.ite (Tr.chain (Ev.name rfl (by decide)) (Ev.name rfl (by decide)) (by ktr_rel) Cmp.le Cmp.lt rfl) (fun h => ?_) (fun h => ?_) fun _ _ h => .nil h
      · refine Ex.assign (Ev.name rfl (by decide)) (Ex.nil ⟨rfl, rfl, rfl, ?_, trivial⟩) (fun _ _ e => by cases e)
        rw [e1] at h
        simp only [Bool.and_eq_true, decide_eq_true_eq] at h
        unfold look; rw [if_pos rfl]; congr 2
        simp only [upMany, manyOf]
        repeat' split
        all_goals omega
      · refine Ex.nil ⟨rfl, rfl, rfl, ?_, trivial⟩
        rw [e1] at h
        simp only [Bool.and_eq_false_iff, decide_eq_false_iff_not] at h
        show (some (Dat.int ((upMany (l.getD 0 0).toNat 0 : Nat) : Int)) : Option Dat) = _
        congr 2
        simp only [upMany, manyOf]
        repeat' split
        all_goals omega
    · cases hd
      have hall' := AllIn.push (x := "first") (d := .int 224) (AllIn.push (x := "size") (d := .int 3) hall rfl) rfl
      refine Ex.weaken ?_ hall'
      refine Ex.ite (Tr.chain (Ev.name rfl (by decide)) (Ev.name rfl (by decide)) (by ktr_rel) Cmp.le Cmp.lt rfl) (fun h => ?_) (fun h => ?_) fun _ _ h => .nil h
      · refine Ex.assign (Ev.name rfl (by decide)) (Ex.nil ⟨rfl, rfl, rfl, ?_, trivial⟩) (fun _ _ e => by cases e)
        rw [e2] at h
        simp only [Bool.and_eq_true, decide_eq_true_eq] at h
        unfold look; rw [if_pos rfl]; congr 2
        simp only [upMany, manyOf]
        repeat' split
        all_goals omega
      · refine Ex.nil ⟨rfl, rfl, rfl, ?_, trivial⟩
        rw [e2] at h
        simp only [Bool.and_eq_false_iff, decide_eq_false_iff_not] at h
        show (some (Dat.int ((upMany (l.getD 0 0).toNat 1 : Nat) : Int)) : Option Dat) = _
        congr 2
        simp only [upMany, manyOf]
        repeat' split
        all_goals omega
    · cases hd
      have hall' := AllIn.push (x := "first") (d := .int 240) (AllIn.push (x := "size") (d := .int 4) hall rfl) rfl
      refine Ex.weaken ?_ hall'
      refine Ex.ite (Tr.chain (Ev.name rfl (by decide)) (Ev.name rfl (by decide)) (by ktr_rel) Cmp.le Cmp.lt rfl) (fun h => ?_) (fun h => ?_) fun _ _ h => .nil h
      · refine Ex.assign (Ev.name rfl (by decide)) (Ex.nil ⟨rfl, rfl, rfl, ?_, trivial⟩) (fun _ _ e => by cases e)
        rw [e3] at h
        simp only [Bool.and_eq_true, decide_eq_true_eq] at h
        unfold look; rw [if_pos rfl]; congr 2
        simp only [upMany, manyOf]
        repeat' split
        all_goals omega
      · refine Ex.nil ⟨rfl, rfl, rfl, ?_, trivial⟩
        rw [e3] at h
        simp only [Bool.and_eq_false_iff, decide_eq_false_iff_not] at h
        show (some (Dat.int ((upMany (l.getD 0 0).toNat 2 : Nat) : Int)) : Option Dat) = _
        congr 2
        simp only [upMany, manyOf]
        repeat' split
        all_goals omega
    · cases hd
  · rintro ρ own ⟨rfl, hall⟩
    replace hall : AllIn [("part", .bytes l.toArray), ("lead", .int (l.getD 0 0).toNat), ("many", .int (manyOf (l.getD 0 0).toNat : Nat))] ρ := hall
    refine Ex.weaken ?_ hall
    rw [getD_nats] at h1
    have hb : begun (nats l) = if manyOf ((nats l).getD 0 0) = 0 ∨ manyOf ((nats l).getD 0 0) < (nats l).length ∨ ¬ ((nats l).drop 1).all trail then false
      else (someOf (manyOf ((nats l).getD 0 0))).any fun q => decide (runI 0 (nats l) (leadBits ((nats l).getD 0 0) (manyOf ((nats l).getD 0 0))) (manyOf ((nats l).getD 0 0) - 1) ≤ q.2) && decide (runI 63 (nats l) (leadBits ((nats l).getD 0 0) (manyOf ((nats l).getD 0 0))) (manyOf ((nats l).getD 0 0) - 1) ≥ q.1) := by
      rw [begun, if_neg (by omega)]
    rw [hb]
    clear hb hall
    have hmo : manyOf ((nats l).getD 0 0) = 0 ∨ manyOf ((nats l).getD 0 0) = 2 ∨ manyOf ((nats l).getD 0 0) = 3 ∨ manyOf ((nats l).getD 0 0) = 4 := by
      unfold manyOf
      repeat' split
      all_goals omega
    rw [getD_nats]
    generalize (nats l).getD 0 0 = lead at *
    generalize manyOf lead = m at *
    refine Ex.ifLeave (Tr.bool (.orCons (Tr.cmp (Ev.name rfl (by decide)) Ev.int Cmp.eq rfl) fun _ => .orCons (Tr.cmp (Ev.lenB (Ev.name rfl (by decide)) (by simpa using hz) rfl rfl) (Ev.name rfl (by decide)) Cmp.gt rfl) fun _ =>
      .orCons (Tr.cmp (Ev.lcIf [] (f := id) (t := offD) (EvIter.of (Ev.from (Ev.name rfl (by decide)) (Ev.to (d' := .int ((1 : Nat) : Int)) Ev.int rfl) hz (by intro _ _; rfl)) (Iter.bytes hA.hh))
        (fun C d hd => ?t1) (fun C d hd _ => Ev.name rfl (by decide)) rfl trivial (by simp; omega)) (Ev.list .nil (Nat.zero_le _)) (Cmp.listNe (by have := hA.hu; omega) ?o1 (by intro d hd; cases hd)) rfl) fun _ => .orNil)) (fun h => Ex.ret (by ktr_rel) ?_) fun h => ?_
    case t1 =>
      simp only [List.mem_map] at hd
      obtain ⟨c, _, rfl⟩ := hd
      exact Tr.not (Tr.chain Ev.int (Ev.name rfl (by decide)) Ev.int Cmp.le Cmp.lt rfl)
    case o1 =>
      intro d hd
      simp only [List.map_id, List.mem_filter, List.mem_map] at hd
      obtain ⟨⟨c, _, rfl⟩, _⟩ := hd
      rfl
    · rw [if_pos]
      simp only [Bool.or_eq_true, decide_eq_true_eq, Bool.or_false, Bool.not_eq_true', decide_eq_false_iff_not, off_nil] at h
      rw [nats_length]
      simp only [List.size_toArray] at h
      rcases h with h | h | h
      · exact .inl (by omega)
      · exact .inr (.inl (by omega))
      · exact .inr (.inr h)
    simp only [Bool.or_eq_false_iff, decide_eq_false_iff_not, Bool.or_false, Bool.not_eq_false', decide_eq_true_eq, off_nil, List.size_toArray] at h
    obtain ⟨hm0, hml, htr⟩ := h
    rw [if_neg (by rw [nats_length]; rintro (h | h | h)
                   · exact hm0 (by omega)
                   · exact hml (by omega)
                   · exact h htr)]
    have hm : m = 2 ∨ m = 3 ∨ m = 4 := by omega
    clear hmo
    refine Ex.unpack hA.hh (Ev.tuple (.cons (Ev.leadBits (Ev.name rfl (by decide)) (Ev.name rfl (by decide)) hm) (.cons (Ev.leadBits (Ev.name rfl (by decide)) (Ev.name rfl (by decide)) hm) .nil rfl) rfl) (Nat.le_of_ble_eq_true rfl)) (.consCell (.consCell .nil rfl rfl) rfl rfl) ?_
    dsimp only [id]
    refine Ex.for XOk.none (items := runOf 1 ((m : Int) - 1).toNat) (EvIter.range2 hA.hh (b_range w) Ev.int (Ev.name rfl (by decide)) (by decide) (by decide) (by omega) (by omega)) (fun i ρ own => own = none ∧ AllIn [("part", .bytes l.toArray), ("many", .int (m : Nat)), ("low", .int (runI 0 (nats l) (leadBits lead m) i)), ("high", .int (runI 63 (nats l) (leadBits lead m) i))] ρ)
      (fun i ρ => ("k", .int (1 + (i : Int))) :: ρ) ⟨rfl, rfl, rfl, rfl, rfl, trivial⟩ ?_ ?_ ?_
    · rintro i d ρ own hd ⟨rfl, hall⟩
      obtain ⟨hi, rfl⟩ := runOf_get hd
      exact Asg.name (fun _ _ e => by cases e)
    · rintro i d ρ own hd ⟨rfl, hall⟩
      obtain ⟨hi, rfl⟩ := runOf_get hd
      have hall' := AllIn.push (x := "k") (d := .int (1 + (i : Int))) hall rfl
      refine Ex.weaken ?_ hall'
      have item : ∀ {ρ : Loc} {A : Around} {env : Env} {e f : Expr} {p : Pos}, Ev w A env ρ e (.bytes l.toArray) → Ev w A env ρ f (.int (1 + (i : Int))) → i + 1 < (nats l).length → (∀ o j, subscripted f false o j = operate [o, j] (getItem o j)) → Ev w A env ρ (.Subscript e f p) (.int ((nats l).getD (i + 1) 0 : Nat)) := fun he hf hlt hs => by
        rw [← getD_nats]
        exact Ev.itemB (k := i + 1) he (Ev.to hf (by congr 1; omega)) (by rw [nats_length] at hlt; exact hlt) hz hs
      refine Ex.assignCell (d := .int (runI 0 (nats l) (leadBits lead m) (i + 1))) ?_ ?_ rfl rfl rfl
      · refine Ev.bin (Ev.bin Ev.int (Ev.name rfl (by decide)) (Bin.mul (by decide))) (Ev.ite (Tr.cmp (Ev.name rfl (by decide)) (Ev.lenB (Ev.name rfl (by decide)) (by simpa using hz) rfl rfl) Cmp.lt rfl) (fun h => ?_) (fun h => ?_)) Bin.add
        · simp only [decide_eq_true_eq, List.size_toArray] at h
          rw [if_pos (by rw [nats_length]; omega)]
          exact Ev.bin (item (Ev.name rfl (by decide)) (Ev.name rfl (by decide)) (by rw [nats_length]; omega) (by intro _ _; rfl)) Ev.int Bin.sub
        · simp only [decide_eq_false_iff_not, List.size_toArray] at h
          rw [if_neg (by rw [nats_length]; omega)]
          exact Ev.int
      refine Ex.assignCell (d := .int (runI 63 (nats l) (leadBits lead m) (i + 1))) ?_ (Ex.nil ⟨rfl, rfl, rfl, rfl, rfl, trivial⟩) rfl rfl rfl
      · refine Ev.bin (Ev.bin Ev.int (Ev.name rfl (by decide)) (Bin.mul (by decide))) (Ev.ite (Tr.cmp (Ev.name rfl (by decide)) (Ev.lenB (Ev.name rfl (by decide)) (by simpa using hz) rfl rfl) Cmp.lt rfl) (fun h => ?_) (fun h => ?_)) Bin.add
        · simp only [decide_eq_true_eq, List.size_toArray] at h
          rw [if_pos (by rw [nats_length]; omega)]
          exact Ev.bin (item (Ev.name rfl (by decide)) (Ev.name rfl (by decide)) (by rw [nats_length]; omega) (by intro _ _; rfl)) Ev.int Bin.sub
        · simp only [decide_eq_false_iff_not, List.size_toArray] at h
          rw [if_neg (by rw [nats_length]; omega)]
          exact Ev.int
    · rintro ρ own ⟨rfl, hall⟩
      have hn : (runOf 1 ((m : Int) - 1).toNat).length = m - 1 := by rw [run_length]; omega
      rw [hn] at hall
      have hall' : AllIn [("many", .int (m : Nat)), ("low", .int (runI 0 (nats l) (leadBits lead m) (m - 1))), ("high", .int (runI 63 (nats l) (leadBits lead m) (m - 1)))] ρ := hall.2
      clear hall hn
      refine Ex.weaken ?_ hall'
      clear hall'
      generalize runI 0 (nats l) (leadBits lead m) (m - 1) = lo at *
      generalize runI 63 (nats l) (leadBits lead m) (m - 1) = hi at *
      refine Ex.assign (d := .list ((someOf m).map pairD)) (Ev.pick (ds := [(2, .list [.tuple [.int 128, .int 2047]]), (3, .list [.tuple [.int 2048, .int 55295], .tuple [.int 57344, .int 65535]]), (4, .list [.tuple [.int 65536, .int 1114111]])]) (.cons EvX.int (by ktr_rel) (.cons EvX.int (by ktr_rel) (.cons EvX.int (by ktr_rel) .nil))) (EvX.name rfl (by decide)) ?_ (by decide)) ?_ (fun _ _ e => by cases e)
      · rcases hm with rfl | rfl | rfl <;> rfl
      have hs4 : (someOf m).length ≤ 1000 := by rcases hm with rfl | rfl | rfl <;> decide
      refine Ex.ret (Ev.cmp (Ev.lcIf [("low", .int lo), ("high", .int hi)] (f := id) (t := meetD lo hi) (EvIter.of (Ev.name rfl (by decide)) (Iter.list hA.hh)) (fun C d hd => ?_) (fun C d hd _ => Ev.name rfl (by decide)) rfl ⟨⟨rfl, rfl, rfl, rfl⟩, ⟨rfl, rfl, rfl, rfl⟩, trivial⟩ (by simpa using hs4)) (Ev.list .nil (Nat.zero_le _)) (Cmp.listNe (by have := hA.hu; omega) ?_ (by intro d hd; cases hd)) rfl) ?_
      · simp only [List.mem_map] at hd
        obtain ⟨⟨x, y⟩, _, rfl⟩ := hd
        exact Tr.to (Tr.bool (.andCons (Tr.cmp (Ev.name rfl (by decide)) (Ev.itemTuple (d := .int y) (Ev.name rfl (by decide)) Ev.int (by decide) (by decide) rfl (by intro _ _; rfl)) Cmp.le rfl) fun _ => .andCons (Tr.cmp (Ev.name rfl (by decide)) (Ev.itemTuple (d := .int x) (Ev.name rfl (by decide)) Ev.int (by decide) (by decide) rfl (by intro _ _; rfl)) Cmp.ge rfl) fun _ => .andNil)) (by simp [meetD, pairD])
      · intro d hd
        simp only [List.map_id, List.mem_filter, List.mem_map] at hd
        obtain ⟨⟨q, _, rfl⟩, _⟩ := hd
        rfl
      · rw [meet_nil]
end
end

section
set_option maxHeartbeats 2000000
variable [Inhabited Thr]
omit [Inhabited Thr] in
noncomputable def codeD : Option Int → Dat
  | none => .none
  | some c => .int c
section
variable {w : World}
theorem Ev.begun {A : Around} {env : Env} {ρ : Loc} {np pos : Pos} {e : Expr} {l : List UInt8} (he : Ev w A env ρ e (.bytes l.toArray)) (h0 : l ≠ []) (hz : l.length ≤ 1000) (hA : Room A 1) (hg : env.kindOf "_law_is_begun" = some .globalImplicit)
    (hs : starEach [e] env = (false, eval e env) :: starEach [] env) : Ev w A env ρ (.Call (.Name "_law_is_begun" np) [e] [] pos) (.bool (Mine.begun (nats l))) :=
  Ev.callTop (g_law_is_begun w) (k_law_is_begun w) (.cons he .nil hs) (fn_begun l h0 hz A hA) hg (he := hs)
theorem Ev.item0 {A : Around} {env : Env} {ρ : Loc} {e : Expr} {k : Nat} {p pos : Pos} {l : List UInt8} (he : Ev w A env ρ e (.bytes l.toArray)) (h0 : l ≠ []) (hz : l.length ≤ 1000) : Ev w A env ρ (.Subscript e (.Constant (.int 0) k p) pos) (.int ((nats l).getD 0 0 : Nat)) := by
  rw [← getD_nats]
  exact Ev.itemB (k := 0) he (Ev.to Ev.int rfl) (List.length_pos_iff.mpr h0) hz (by intro _ _; rfl)
theorem fn_law_code (l : List UInt8) (h0 : l ≠ []) (hz : l.length ≤ 1000) : Fn w 2 (.ref 176) [.bytes l.toArray] (codeD (lawCode (nats l))) := by
  refine' Fn.intro (xs := ["part"]) ?ho ?hcd (bind1 ?hb) ?hl ?hc ?hk ?hco ?hg ?h
  tb_start
  case hb => intro v; exact rfl
  intro A L hA
  refine Ex.assign (d := .int (lawMany ((nats l).getD 0 0) : Nat)) ?_ ?_ (fun _ _ e => by cases e)
  · refine Ev.ite (Tr.cmp (Ev.item0 (Ev.name rfl (by decide)) h0 hz) Ev.int Cmp.lt rfl) (fun h => ?_) fun h => Ev.ite (Tr.cmp (Ev.item0 (Ev.name rfl (by decide)) h0 hz) Ev.int Cmp.lt rfl) (fun h' => ?_) fun h' => Ev.ite (Tr.cmp (Ev.item0 (Ev.name rfl (by decide)) h0 hz) Ev.int Cmp.lt rfl) (fun h'' => ?_) fun h'' => ?_
    all_goals simp only [decide_eq_true_eq, decide_eq_false_iff_not] at *
    · rw [lawMany, if_pos (by omega)]; exact Ev.int
    · rw [lawMany, if_neg (by omega), if_pos (by omega)]; exact Ev.int
    · rw [lawMany, if_neg (by omega), if_neg (by omega), if_pos (by omega)]; exact Ev.int
    · rw [lawMany, if_neg (by omega), if_neg (by omega), if_neg (by omega)]; exact Ev.int
  have hm : lawMany ((nats l).getD 0 0) = 1 ∨ lawMany ((nats l).getD 0 0) = 2 ∨ lawMany ((nats l).getD 0 0) = 3 ∨ lawMany ((nats l).getD 0 0) = 4 := by
    unfold lawMany
    repeat' split
    all_goals simp
  refine Ex.ifLeave (Tr.bool (.orCons (Tr.cmp (Ev.lenB (Ev.name rfl (by decide)) (by simpa using hz) rfl rfl) (Ev.name rfl (by decide)) Cmp.ne rfl) fun _ => .orCons (Tr.not (Tr.plain (Ev.begun (Ev.name rfl (by decide)) h0 hz hA rfl rfl) (by intro _; rfl))) fun _ => .orNil)) (fun h => Ex.ret Ev.nothing ?_) fun h => ?_
  · rw [lawCode, if_pos]
    · rfl
    · simp only [Bool.or_eq_true, decide_eq_true_eq, Bool.or_false, Bool.not_eq_true', List.size_toArray] at h
      rw [nats_length]
      rcases h with h | h
      · exact .inl (by omega)
      · exact .inr h
  simp only [Bool.or_eq_false_iff, decide_eq_false_iff_not, Bool.not_eq_false', List.size_toArray, Bool.or_false] at h
  have hcode : lawCode (nats l) = some (lawRun (if lawMany ((nats l).getD 0 0) = 1 then ((nats l).getD 0 0 : Int) else leadBits ((nats l).getD 0 0) (lawMany ((nats l).getD 0 0))) ((nats l).drop 1)) := by
    rw [lawCode, if_neg]
    rw [nats_length, h.2]
    rintro (h' | h')
    · exact h' (by omega)
    · cases h'
  rw [hcode]
  generalize lawMany ((nats l).getD 0 0) = m at *
  refine Ex.assign (d := .int (if m = 1 then ((nats l).getD 0 0 : Int) else leadBits ((nats l).getD 0 0) m)) ?_ ?_ (fun _ _ e => by cases e)
  · refine Ev.ite (Tr.cmp (Ev.name rfl (by decide)) Ev.int Cmp.eq rfl) (fun h => ?_) fun h => ?_
    · simp only [decide_eq_true_eq] at h
      rw [if_pos (by omega)]; exact Ev.item0 (Ev.name rfl (by decide)) h0 hz
    · simp only [decide_eq_false_iff_not] at h
      rw [if_neg (by omega)]; exact Ev.leadBits (Ev.item0 (Ev.name rfl (by decide)) h0 hz) (Ev.name rfl (by decide)) (by omega)
  generalize (if m = 1 then ((nats l).getD 0 0 : Int) else leadBits ((nats l).getD 0 0) m) = a
  refine Ex.for XOk.none (items := (l.drop 1).map fun c => .int c.toNat) (EvIter.of (Ev.from (Ev.name rfl (by decide)) (Ev.to (d' := .int ((1 : Nat) : Int)) Ev.int rfl) hz (by intro _ _; rfl)) (Iter.bytes hA.hh)) (fun i ρ own => own = none ∧ ∃ n, AllIn [("number", .int n)] ρ ∧ lawRun a ((nats l).drop 1) = lawRun n (((nats l).drop 1).drop i))
    (fun i ρ => ("octet", .int ((((nats l).drop 1).getD i 0 : Nat) : Int)) :: ρ) ⟨rfl, a, ⟨rfl, trivial⟩, rfl⟩ ?_ ?_ ?_
  · rintro i d ρ own hd ⟨rfl, hall⟩
    have hi := lt_of_get hd
    have hd' : d = .int ((((nats l).drop 1).getD i 0 : Nat) : Int) := by
      rw [← List.map_drop] 
      simp only [List.length_map] at hi
      simp only [List.getElem?_map, List.getElem?_eq_getElem hi, Option.map_some, Option.some.injEq] at hd
      rw [← hd]
      have hi1 : i + 1 < l.length := by simp at hi; omega
      simp [List.getD, hi, hi1]
    subst hd'
    exact Asg.name (fun _ _ e => by cases e)
  · rintro i d ρ own hd ⟨rfl, n, hall, heq⟩
    have hi := lt_of_get hd
    simp only [List.length_map] at hi
    have hall' := AllIn.push (x := "octet") (d := .int ((((nats l).drop 1).getD i 0 : Nat) : Int)) hall rfl
    refine Ex.weaken ?_ hall'
    refine Ex.assign (Ev.bin (Ev.bin (Ev.bin Ev.int (Ev.name rfl (by decide)) (Bin.mul (by decide))) (Ev.name rfl (by decide)) Bin.add) Ev.int Bin.sub) (Ex.nil ⟨rfl, _, ⟨rfl, trivial⟩, ?_⟩) (fun _ _ e => by cases e)
    rw [heq]
    have hi' : i < ((nats l).drop 1).length := by rw [← List.map_drop, List.length_map]; exact hi
    rw [List.drop_eq_getElem_cons hi', lawRun]
    simp only [List.getD, List.getElem?_eq_getElem hi', Option.getD_some]
  · rintro ρ own ⟨rfl, n, hall, heq⟩
    refine Ex.weaken ?_ hall
    refine Ex.ret (Ev.name rfl (by decide)) ?_
    rw [heq, List.drop_of_length_le (by simp)]
    rfl
theorem Ev.law_code {A : Around} {env : Env} {ρ : Loc} {np pos : Pos} {e : Expr} {l : List UInt8} (he : Ev w A env ρ e (.bytes l.toArray)) (h0 : l ≠ []) (hz : l.length ≤ 1000) (hA : Room A 2) (hg : env.kindOf "_law_code" = some .globalImplicit)
    (hs : starEach [e] env = (false, eval e env) :: starEach [] env) : Ev w A env ρ (.Call (.Name "_law_code" np) [e] [] pos) (codeD (lawCode (nats l))) :=
  Ev.callTop (g_law_code w) (k_law_code w) (.cons he .nil hs) (fn_law_code l h0 hz A hA) hg (he := hs)
end
end

section
set_option maxHeartbeats 2000000
variable [Inhabited Thr]
theorem nats_dropL (l : List UInt8) (i : Nat) : nats (l.drop i) = (nats l).drop i := by simp [nats, List.map_drop]
omit [Inhabited Thr] in
noncomputable def cutsF : Nat → List UInt8 → List (List UInt8)
  | 0, _ => []
  | _ + 1, [] => []
  | f + 1, b :: r => (b :: r).take (piece (nats (b :: r))).1 :: cutsF f ((b :: r).drop (piece (nats (b :: r))).1)
omit [Inhabited Thr] in
noncomputable def cuts (l : List UInt8) : List (List UInt8) := cutsF l.length l
theorem cutsF_nats : ∀ (f : Nat) (l : List UInt8), (cutsF f l).map nats = (pcsF f (nats l)).map (·.1)
  | 0, l => by cases l <;> rfl
  | f + 1, [] => rfl
  | f + 1, b :: r => by
    have ih := cutsF_nats f ((b :: r).drop (piece (nats (b :: r))).1)
    rw [nats_dropL] at ih
    show nats ((b :: r).take _) :: (cutsF f _).map nats = _ :: _
    rw [ih, nats_take]; rfl
theorem cuts_nats (l : List UInt8) : (cuts l).map nats = (pcs (nats l)).map (·.1) := by unfold cuts pcs; rw [cutsF_nats, nats_length]
theorem cutsF_more : ∀ (f g : Nat) (l : List UInt8), l.length ≤ f → l.length ≤ g → cutsF f l = cutsF g l
  | 0, 0, _, _, _ => rfl
  | 0, g + 1, l, h, _ => by
    have : l = [] := List.eq_nil_of_length_eq_zero (by omega)
    subst this; rfl
  | f + 1, 0, l, _, h => by
    have : l = [] := List.eq_nil_of_length_eq_zero (by omega)
    subst this; rfl
  | f + 1, g + 1, [], _, _ => rfl
  | f + 1, g + 1, b :: r, hf, hg => by
    have : 1 ≤ (piece (nats (b :: r))).1 := (piece_bounds b.toNat (nats r)).1
    simp only [cutsF]
    generalize (piece (nats (b :: r))).1 = k at this ⊢
    rw [cutsF_more f g _ (by simp at hf ⊢; omega) (by simp at hg ⊢; omega)]
theorem cuts_nil : cuts [] = [] := rfl
theorem cuts_cons {l : List UInt8} (h : l ≠ []) : cuts l = l.take (piece (nats l)).1 :: cuts (l.drop (piece (nats l)).1) := by
  cases l with
  | nil => exact absurd rfl h
  | cons b r =>
    have : 1 ≤ (piece (nats (b :: r))).1 := (piece_bounds b.toNat (nats r)).1
    unfold cuts
    simp only [List.length_cons, cutsF]
    generalize (piece (nats (b :: r))).1 = k at this ⊢
    rw [cutsF_more r.length ((b :: r).drop k).length _ (by simp; omega) (Nat.le_refl _)]
omit [Inhabited Thr] in
noncomputable def bytesD (l : List UInt8) : Dat := .bytes l.toArray
omit [Inhabited Thr] in
noncomputable def upSize (l : List Nat) (j : Nat) : Nat := match j with
  | 0 => 1
  | 1 => if 2 ≤ l.length ∧ Mine.begun (l.take 2) = true then 2 else 1
  | 2 => if 3 ≤ l.length ∧ Mine.begun (l.take 3) = true then 3 else if 2 ≤ l.length ∧ Mine.begun (l.take 2) = true then 2 else 1
  | _ => lawSize l
theorem nats_ne {l : List UInt8} (h : l ≠ []) : nats l ≠ [] := by cases l with
  | nil => exact absurd rfl h
  | cons b r => simp
section
variable {w : World}
theorem fn_law_cut (l : List UInt8) (hz : l.length ≤ 1000) : Fn w 2 (.ref 183) [.bytes l.toArray] (.list ((cuts l).map bytesD)) := by
  refine' Fn.intro (xs := ["octets"]) ?ho ?hcd (bind1 ?hb) ?hl ?hc ?hk ?hco ?hg ?h
  tb_start
  case hb => intro v; exact rfl
  intro A L hA
  refine Ex.swapOwn hA.hh Ev.int ?_
  refine Ex.while XOk.none (fun n ρ own => ∃ i found, n = l.length - i ∧ i ≤ l.length ∧ AllIn [("octets", .bytes l.toArray), ("at", .int (i : Nat))] ρ ∧ own = some (Str.ofString "found", found.map bytesD) ∧ cuts l = found ++ cuts (l.drop i) ∧ found.length ≤ i) l.length
    ⟨0, [], rfl, Nat.zero_le _, ⟨rfl, rfl, trivial⟩, rfl, rfl, Nat.le_refl _⟩ ?_
  rintro n ρ own ⟨i, found, rfl, hi, hall, rfl, heq, hfl⟩
  refine ⟨_, Tr.cmp (Ev.name (hall.look _ _ rfl) (by decide)) (Ev.lenB (Ev.name (hall.look _ _ rfl) (by decide)) (by simpa using hz) rfl rfl) Cmp.lt rfl, fun h => ?_, fun h => ?_⟩
  · simp only [decide_eq_true_eq, List.size_toArray] at h
    have hlt : i < l.length := by omega
    have hneU : l.drop i ≠ [] := fun e => by have := congrArg List.length e; simp at this; omega
    have hne : nats (l.drop i) ≠ [] := nats_ne hneU
    have hle := piece_le hne
    have hpos := piece_pos hne
    have hsz := size_eq _ hne
    rw [nats_length, List.length_drop] at hle
    have hle' : i + (piece (nats (l.drop i))).1 ≤ l.length := by omega
    refine Ex.weaken ?_ hall
    refine Ex.assign (d := .int ((1 : Nat) : Int)) (Ev.to Ev.int rfl) ?_ (fun _ _ e => by cases e; decide)
    refine Ex.for XOk.none (items := [.int 2, .int 3, .int 4]) (EvIter.of (by ktr_rel) (Iter.tuple hA.hh)) (fun j ρ own => own = some (Str.ofString "found", found.map bytesD) ∧ AllIn [("octets", .bytes l.toArray), ("at", .int (i : Nat)), ("size", .int (upSize (nats (l.drop i)) j : Nat))] ρ)
      (fun j ρ => match j with | 0 => ("more", .int 2) :: ρ | 1 => ("more", .int 3) :: ρ | _ => ("more", .int 4) :: ρ) ⟨rfl, rfl, rfl, rfl, trivial⟩ ?_ ?_ ?_
    · rintro j d ρ own hd ⟨rfl, hall⟩
      rcases j with _ | _ | _ | j
      · cases hd; exact Asg.name (fun _ _ e => by cases e; decide)
      · cases hd; exact Asg.name (fun _ _ e => by cases e; decide)
      · cases hd; exact Asg.name (fun _ _ e => by cases e; decide)
      · cases hd
    · rintro j d ρ own hd ⟨rfl, hall⟩
      have cutE : ∀ {ρ : Loc} {A : Around} {env : Env} {e f g : Expr} {p pos : Pos} {m : Nat}, Ev w A env ρ e (.bytes l.toArray) → Ev w A env ρ f (.int (i : Nat)) → Ev w A env ρ g (.int ((i : Int) + (m : Nat))) → i + m ≤ l.length → (∀ o r, letTemporaryGo e o r = pure ()) →
          Ev w A env ρ (.Subscript e (.Slice (some f) (some g) Option.none p) pos) (.bytes ((l.drop i).take m).toArray) := fun he hf hg hm ht => Ev.mid he hf (Ev.to hg (by congr 1)) hm hz ht
      have cl : ∀ m : Nat, i + m ≤ l.length ↔ m ≤ (nats (l.drop i)).length := fun m => by rw [nats_length, List.length_drop]; omega
      have tk : ∀ m : Nat, 1 ≤ m → (l.drop i).take m ≠ [] := fun m hm e => by
        have := congrArg List.length e
        simp at this; omega
      rcases j with _ | _ | _ | j
      · cases hd
        have hall' := AllIn.push (x := "more") (d := .int 2) hall rfl
        refine Ex.weaken ?_ hall'
        refine Ex.ite (Tr.bool (.andCons (Tr.cmp (Ev.bin (Ev.name rfl (by decide)) (Ev.name rfl (by decide)) Bin.add) (Ev.lenB (Ev.name rfl (by decide)) (by simpa using hz) rfl rfl) Cmp.le rfl) fun h1 => .andCons (Tr.plain (Ev.begun (l := (l.drop i).take 2) (cutE (m := 2) (Ev.name rfl (by decide)) (Ev.name rfl (by decide)) (Ev.to (Ev.bin (Ev.name rfl (by decide)) (Ev.name rfl (by decide)) Bin.add) rfl) (by simp only [decide_eq_true_eq, List.size_toArray] at h1; omega) (by intro _ _; rfl)) (tk 2 (by decide)) (by simp; omega) (hA.le (by decide)) rfl rfl) (by intro _; rfl)) fun _ => .andNil)) (fun h => ?_) (fun h => ?_) fun _ _ h => .nil h
        · refine Ex.assign (Ev.name rfl (by decide)) (Ex.nil ⟨rfl, rfl, rfl, ?_, trivial⟩) (fun _ _ e => by cases e; decide)
          simp only [Bool.and_eq_true, decide_eq_true_eq, Bool.and_true, nats_take, List.size_toArray] at h
          have h1 := (cl 2).mp (by omega)
          unfold look; rw [if_pos rfl]
          simp only [upSize, lawSize]
          rw [if_pos ⟨h1, h.2⟩]; rfl
        · refine Ex.nil ⟨rfl, rfl, rfl, ?_, trivial⟩
          simp only [Bool.and_true, nats_take, List.size_toArray] at h
          show (some (Dat.int ((upSize (nats (l.drop i)) 0 : Nat) : Int)) : Option Dat) = some (Dat.int ((upSize (nats (l.drop i)) (0 + 1) : Nat) : Int))
          simp only [upSize, lawSize]
          rw [if_neg (c := 2 ≤ _ ∧ _)]
          rintro ⟨h2, h3⟩
          have := (cl 2).mpr h2
          rw [h3, Bool.and_true, decide_eq_false_iff_not] at h
          omega
      · cases hd
        have hall' := AllIn.push (x := "more") (d := .int 3) hall rfl
        refine Ex.weaken ?_ hall'
        refine Ex.ite (Tr.bool (.andCons (Tr.cmp (Ev.bin (Ev.name rfl (by decide)) (Ev.name rfl (by decide)) Bin.add) (Ev.lenB (Ev.name rfl (by decide)) (by simpa using hz) rfl rfl) Cmp.le rfl) fun h1 => .andCons (Tr.plain (Ev.begun (l := (l.drop i).take 3) (cutE (m := 3) (Ev.name rfl (by decide)) (Ev.name rfl (by decide)) (Ev.to (Ev.bin (Ev.name rfl (by decide)) (Ev.name rfl (by decide)) Bin.add) rfl) (by simp only [decide_eq_true_eq, List.size_toArray] at h1; omega) (by intro _ _; rfl)) (tk 3 (by decide)) (by simp; omega) (hA.le (by decide)) rfl rfl) (by intro _; rfl)) fun _ => .andNil)) (fun h => ?_) (fun h => ?_) fun _ _ h => .nil h
        · refine Ex.assign (Ev.name rfl (by decide)) (Ex.nil ⟨rfl, rfl, rfl, ?_, trivial⟩) (fun _ _ e => by cases e; decide)
          simp only [Bool.and_eq_true, decide_eq_true_eq, Bool.and_true, nats_take, List.size_toArray] at h
          have h1 := (cl 3).mp (by omega)
          unfold look; rw [if_pos rfl]
          simp only [upSize, lawSize]
          rw [if_pos ⟨h1, h.2⟩]; rfl
        · refine Ex.nil ⟨rfl, rfl, rfl, ?_, trivial⟩
          simp only [Bool.and_true, nats_take, List.size_toArray] at h
          show (some (Dat.int ((upSize (nats (l.drop i)) 1 : Nat) : Int)) : Option Dat) = some (Dat.int ((upSize (nats (l.drop i)) (1 + 1) : Nat) : Int))
          simp only [upSize, lawSize]
          rw [if_neg (c := 3 ≤ _ ∧ _)]
          rintro ⟨h2, h3⟩
          have := (cl 3).mpr h2
          rw [h3, Bool.and_true, decide_eq_false_iff_not] at h
          omega
      · cases hd
        have hall' := AllIn.push (x := "more") (d := .int 4) hall rfl
        refine Ex.weaken ?_ hall'
        refine Ex.ite (Tr.bool (.andCons (Tr.cmp (Ev.bin (Ev.name rfl (by decide)) (Ev.name rfl (by decide)) Bin.add) (Ev.lenB (Ev.name rfl (by decide)) (by simpa using hz) rfl rfl) Cmp.le rfl) fun h1 => .andCons (Tr.plain (Ev.begun (l := (l.drop i).take 4) (cutE (m := 4) (Ev.name rfl (by decide)) (Ev.name rfl (by decide)) (Ev.to (Ev.bin (Ev.name rfl (by decide)) (Ev.name rfl (by decide)) Bin.add) rfl) (by simp only [decide_eq_true_eq, List.size_toArray] at h1; omega) (by intro _ _; rfl)) (tk 4 (by decide)) (by simp; omega) (hA.le (by decide)) rfl rfl) (by intro _; rfl)) fun _ => .andNil)) (fun h => ?_) (fun h => ?_) fun _ _ h => .nil h
        · refine Ex.assign (Ev.name rfl (by decide)) (Ex.nil ⟨rfl, rfl, rfl, ?_, trivial⟩) (fun _ _ e => by cases e; decide)
          simp only [Bool.and_eq_true, decide_eq_true_eq, Bool.and_true, nats_take, List.size_toArray] at h
          have h1 := (cl 4).mp (by omega)
          unfold look; rw [if_pos rfl]
          simp only [upSize, lawSize]
          rw [if_pos ⟨h1, h.2⟩]; rfl
        · refine Ex.nil ⟨rfl, rfl, rfl, ?_, trivial⟩
          simp only [Bool.and_true, nats_take, List.size_toArray] at h
          show (some (Dat.int ((upSize (nats (l.drop i)) 2 : Nat) : Int)) : Option Dat) = some (Dat.int ((upSize (nats (l.drop i)) (2 + 1) : Nat) : Int))
          simp only [upSize, lawSize]
          rw [if_neg (c := 4 ≤ _ ∧ _)]
          rintro ⟨h2, h3⟩
          have := (cl 4).mpr h2
          rw [h3, Bool.and_true, decide_eq_false_iff_not] at h
          omega
      · cases hd
    · rintro ρ own ⟨rfl, hall⟩
      replace hall : AllIn [("octets", .bytes l.toArray), ("at", .int (i : Nat)), ("size", .int (lawSize (nats (l.drop i)) : Nat))] ρ := hall
      rw [hsz] at hall
      refine Ex.weaken ?_ hall
      refine Ex.append (d := bytesD ((l.drop i).take (piece (nats (l.drop i))).1)) (Ev.mid (Ev.name rfl (by decide)) (Ev.name rfl (by decide)) (Ev.to (Ev.bin (Ev.name rfl (by decide)) (Ev.name rfl (by decide)) Bin.add) (by congr 1)) hle' hz (by intro _ _; rfl)) ?_ (by simp; omega)
      refine Ex.assign (Ev.bin (Ev.name rfl (by decide)) (Ev.name rfl (by decide)) Bin.add) (Ex.nil ?_) (fun _ _ e => by cases e; decide)
      refine ⟨l.length - (i + (piece (nats (l.drop i))).1), by omega, i + (piece (nats (l.drop i))).1, found ++ [(l.drop i).take (piece (nats (l.drop i))).1], rfl, by omega, ⟨rfl, by unfold look; rw [if_pos rfl]; simp, trivial⟩, by simp, ?_, by rw [List.length_append, List.length_singleton]; omega⟩
      rw [heq, cuts_cons hneU, List.drop_drop, List.append_assoc]; rfl
  · simp only [decide_eq_false_iff_not, List.size_toArray] at h
    refine Ex.release (Ex.ret (Ev.name rfl (by decide)) ?_)
    rw [heq, List.drop_of_length_le (by omega), cuts_nil, List.append_nil]
theorem Ev.law_cut {A : Around} {env : Env} {ρ : Loc} {np pos : Pos} {e : Expr} {l : List UInt8} (he : Ev w A env ρ e (.bytes l.toArray)) (hz : l.length ≤ 1000) (hA : Room A 2) (hg : env.kindOf "_law_cut" = some .globalImplicit)
    (hs : starEach [e] env = (false, eval e env) :: starEach [] env) : Ev w A env ρ (.Call (.Name "_law_cut" np) [e] [] pos) (.list ((cuts l).map bytesD)) :=
  Ev.callTop (g_law_cut w) (k_law_cut w) (.cons he .nil hs) (fn_law_cut l hz A hA) hg (he := hs)
end
end

section
set_option maxHeartbeats 2000000
variable [Inhabited Thr]
omit [Inhabited Thr] in
noncomputable def encB (c : Nat) : List UInt8 := (enc c).map fun n => n.toUInt8
theorem enc_bounds {c : Nat} (hc : c < 1114112) : ∀ x ∈ enc c, x < 256 := by
  intro x hx
  unfold enc at hx
  (repeat' split at hx) <;> simp at hx <;> omega
theorem enc_len (c : Nat) : 1 ≤ (enc c).length ∧ (enc c).length ≤ 4 := by
  unfold enc
  (repeat' split) <;> simp
theorem byteArr_enc (c : Nat) : byteArr (encI c) = (encB c).toArray := by
  unfold byteArr encI encB
  rw [List.map_map]
  congr 1
theorem byteArr_nats (ns : List Nat) : byteArr (ns.map fun (n : Nat) => (n : Int)) = (ns.map fun n => n.toUInt8).toArray := by
  unfold byteArr
  rw [List.map_map]
  congr 1
omit [Inhabited Thr] in
noncomputable def encSize (c : Nat) : Nat := if c < 2048 then 2 else if c < 65536 then 3 else 4
omit [Inhabited Thr] in
noncomputable def firstOf (m : Nat) : Nat := match m with | 2 => 192 | 3 => 224 | _ => 240
omit [Inhabited Thr] in
/-- the last octets, k of them -/
noncomputable def tails (c : Nat) : Nat → List Nat
  | 0 => []
  | k + 1 => (128 + c / 64 ^ k % 64) :: tails c k
theorem tails_length (c : Nat) : ∀ k, (tails c k).length = k
  | 0 => rfl
  | k + 1 => by simp [tails, tails_length c k]
theorem enc_tails {c : Nat} (h : 128 ≤ c) : enc c = (firstOf (encSize c) + c / 64 ^ (encSize c - 1)) :: tails c (encSize c - 1) := by
  unfold enc encSize
  rw [if_neg (by omega)]
  split
  · simp [tails, firstOf]
  · split <;> simp [tails, firstOf]
section
variable {w : World}
theorem fn_law_written (c : Nat) (hc : c < 1114112) : Fn w 1 (.ref 190) [.int c] (bytesD (encB c)) := by
  refine' Fn.intro (xs := ["code"]) ?ho ?hcd (bind1 ?hb) ?hl ?hc ?hk ?hco ?hg ?h
  tb_start
  case hb => intro v; exact rfl
  intro A L hA
  refine Ex.ifLeave (by ktr_rel) (fun h1 => Ex.ret (Ev.bytesB hA.hh (Ev.list (.cons (Ev.name rfl (by decide)) .nil rfl) (Nat.le_of_ble_eq_true rfl)) (ns := [(c : Int)]) (by simp only [decide_eq_true_eq] at h1; intro n hn; rw [List.mem_singleton.mp hn]; omega) (Nat.le_of_ble_eq_true rfl) rfl rfl) ?_) fun h1 => ?_
  · simp only [decide_eq_true_eq] at h1
    show Dat.bytes _ = Dat.bytes _
    congr 1
    rw [← byteArr_enc]
    unfold encI enc
    rw [if_pos (by omega)]; rfl
  simp only [decide_eq_false_iff_not] at h1
  have hm : encSize c = 2 ∨ encSize c = 3 ∨ encSize c = 4 := by
    unfold encSize
    repeat' split
    all_goals simp
  refine Ex.assign (d := .int (encSize c : Nat)) ?_ ?_ (fun _ _ e => by cases e)
  · refine Ev.ite (Tr.cmp (Ev.name rfl (by decide)) Ev.int Cmp.lt rfl) (fun h => ?_) fun h => Ev.ite (Tr.cmp (Ev.name rfl (by decide)) Ev.int Cmp.lt rfl) (fun h' => ?_) fun h' => ?_
    all_goals simp only [decide_eq_true_eq, decide_eq_false_iff_not] at *
    · rw [encSize, if_pos (by omega)]; exact Ev.int
    · rw [encSize, if_neg (by omega), if_pos (by omega)]; exact Ev.int
    · rw [encSize, if_neg (by omega), if_neg (by omega)]; exact Ev.int
  have henc := enc_tails (c := c) (by omega)
  have hb := enc_bounds hc
  have hsz := enc_len c
  have hsize : encSize c - 1 + 1 = encSize c := by omega
  refine Ex.assign (d := .list (natsD [])) (Ev.list .nil (Nat.zero_le _)) ?_ (fun _ _ e => by cases e)
  refine Ex.for XOk.none (items := runOf 0 ((encSize c : Int) - 1).toNat) (EvIter.range1 hA.hh (b_range w) (Ev.bin (Ev.name rfl (by decide)) Ev.int Bin.sub) (by omega) (by omega)) (fun i ρ own => own = none ∧ AllIn [("size", .int (encSize c : Nat)), ("code", .int (c / 64 ^ i : Nat)), ("found", .list (natsD (tails c i)))] ρ)
    (fun i ρ => ("k", .int (0 + (i : Int))) :: ρ) ⟨rfl, rfl, ?_, rfl, trivial⟩ ?_ ?_ ?_
  · rw [Nat.pow_zero, Nat.div_one]; rfl
  · rintro i d ρ own hd ⟨rfl, hall⟩
    obtain ⟨hi, rfl⟩ := runOf_get hd
    exact Asg.name (fun _ _ e => by cases e)
  · rintro i d ρ own hd ⟨rfl, hall⟩
    obtain ⟨hi, rfl⟩ := runOf_get hd
    have hall' := AllIn.push (x := "k") (d := .int (0 + (i : Int))) hall rfl
    refine Ex.weaken ?_ hall'
    have d1 : ((c / 64 ^ i : Nat) : Int).fmod 64 = ((c / 64 ^ i % 64 : Nat) : Int) := by rw [Int.fmod_eq_emod_of_nonneg _ (by decide)]; omega
    have d2 : ((c / 64 ^ i : Nat) : Int).fdiv 64 = ((c / 64 ^ (i + 1) : Nat) : Int) := by
      rw [Int.fdiv_eq_ediv_of_nonneg _ (by decide), Nat.pow_succ, ← Nat.div_div_eq_div_mul]; omega
    refine Ex.assign (d := .list (natsD (tails c (i + 1)))) (Ev.to (Ev.bin (Ev.list (.cons (Ev.bin Ev.int (Ev.bin (Ev.name rfl (by decide)) Ev.int (Bin.mod (by decide))) Bin.add) .nil rfl) (Nat.le_of_ble_eq_true rfl)) (Ev.name rfl (by decide)) (Bin.addList (by rw [natsD_length, tails_length]; simp; omega))) ?_) ?_ (fun _ _ e => by cases e)
    · rw [d1]
      simp [tails, natsD]
    refine Ex.assign (d := .int ((c / 64 ^ (i + 1) : Nat) : Int)) (Ev.to (Ev.bin (Ev.name rfl (by decide)) Ev.int (Bin.floordiv (by decide) (by decide))) (by rw [d2])) (Ex.nil ⟨rfl, rfl, rfl, rfl, trivial⟩) (fun _ _ e => by cases e)
  · rintro ρ own ⟨rfl, hall⟩
    have hn : (runOf 0 ((encSize c : Int) - 1).toNat).length = encSize c - 1 := by rw [run_length]; omega
    rw [hn] at hall
    refine Ex.weaken ?_ hall
    rw [henc] at hb
    refine Ex.ret (Ev.bytesB hA.hh (ns := encI c) (Ev.to (Ev.bin (Ev.list (.cons (Ev.bin (Ev.pick (d := .int (firstOf (encSize c) : Nat)) (ds := [(2, .int 192), (3, .int 224), (4, .int 240)]) (.cons EvX.int EvX.int (.cons EvX.int EvX.int (.cons EvX.int EvX.int .nil))) (EvX.name rfl (by decide)) ?_ (by decide)) (Ev.name rfl (by decide)) Bin.add) .nil stBin) (Nat.le_of_ble_eq_true rfl)) (Ev.name rfl (by decide)) (Bin.addList (by rw [natsD_length, tails_length]; simp; omega))) ?_) ?_ (by unfold encI; simp; omega) rfl stBin) ?_
    · rcases hm with h | h | h <;> rw [h] <;> rfl
    · unfold encI
      rw [henc]
      simp [natsD]
    · intro n hn
      simp only [encI, List.mem_map] at hn
      obtain ⟨x, hx, rfl⟩ := hn
      rw [henc] at hx
      have := hb x hx
      omega
    · show Dat.bytes _ = Dat.bytes _
      rw [byteArr_enc]
theorem Ev.law_written {A : Around} {env : Env} {ρ : Loc} {np pos : Pos} {e : Expr} {c : Nat} (he : Ev w A env ρ e (.int c)) (hc : c < 1114112) (hA : Room A 1) (hg : env.kindOf "_law_written" = some .globalImplicit)
    (hs : starEach [e] env = (false, eval e env) :: starEach [] env) : Ev w A env ρ (.Call (.Name "_law_written" np) [e] [] pos) (bytesD (encB c)) :=
  Ev.callTop (g_law_written w) (k_law_written w) (.cons he .nil hs) (fn_law_written c hc A hA) hg (he := hs)
end
end

section
open PySem.Sem (wp)
set_option maxHeartbeats 1000000
variable [Inhabited Thr]
omit [Inhabited Thr] in
/-- a class of the text's own above a built-in exception, whatever its __init__ -/
structure Chain (C : Addr) (bm : List Value) (B : String) : Prop where
  isB : (Value.ref C :: bm).contains (.type B) = true
  isC : (Value.ref C :: bm).contains (.ref C) = true
  base : (Value.ref C :: bm).contains (.type "BaseException") = true
  noAttr : (Value.ref C :: bm).contains (.type "AttributeError") = false
  noName : (Value.ref C :: bm).contains (.type "NameError") = false
section
variable {prog : Program} {w : World} {A : Around} {E : Value → Shared → Prop} {h : Heap} {g : Array GenState} {d : Drawn} {t : Nat} {os : OsState}
variable {nm q : Str} {C N : Addr} {bs bm bmB : List Value} {hdct : Bool} {sn : List Str} {sub : List Value} {ab : Bool} {col : Option Bool} {dd : Option Addr} {k0 k1 k2 k3 k5 : Option Value} {B newId initId : String}

theorem xc_check (F : ExcBaseFacts B newId initId bmB) (H : Chain C bm B) {M : Model} {rest : List Value} {Q : Unit → Shared → Prop} (hC : h.get? C = some (excClassObj nm q C N bs bm hdct sn sub ab col dd k0 k1 k2 k3 k5 newId))
    (hq : Q () ⟨h, g, d, t, os⟩) : wpAny M A (checkBuiltinCall newId ⟨.ref C :: rest, []⟩) Q E ⟨h, g, d, t, os⟩ := by
  have h1 := F.noStar
  have h2 := H.isB
  simp only [checkBuiltinCall, F.newKind, F.newSplit, F.newRow]
  repeat (first | refine wpAny_loadPart_at hC ?_ | (refine wpAny_isSubtype_exc hC ?_; rw [h2]) | refine wpAny_staticBase_exc hC ?_ | refine wpAny_madeBy_exc hC ?_ | simp only [bne_self_eq_false, Bool.false_eq_true, if_false] | wp_step)
  exact hq
theorem xc_new (F : ExcBaseFacts B newId initId bmB) (H : Chain C bm B) {R : Result → Shared → Prop} {rest : List Value} (hC : h.get? C = some (excClassObj nm q C N bs bm hdct sn sub ab col dd k0 k1 k2 k3 k5 newId)) (hrest : rest.length ≤ sizeLine)
    (hq : R (.ok (.ret (.ref (h.objs.size + 1)))) ⟨(h.push { cls := .type "tuple", data := .seq rest.toArray }).push { cls := .ref C, data := .fields #[.ref h.objs.size, .none, .none, .none, .bool false, .none] }, g, d, t, os⟩) :
    codeAny (model prog w) A (.builtin newId ⟨.ref C :: rest, []⟩) R ⟨h, g, d, t, os⟩ := by
  have h0 := F.ends
  have h1 := H.isB
  have h2 := H.noAttr
  have h3 := H.noName
  refine codeAny_builtinAt F.entry ?_
  unfold Builtin.«BaseException.__new__»
  refine PySem.wpAt_bind ?_
  show PySem.wpAt _ _ _ (stack >>= _) _ _ _
  refine PySem.wpAt_bind (PySem.wpAt_stack fun p below => PySem.wpAt_of_wpAny ?_)
  wp_walk
  refine PySem.wpAt_of_wpAny ?_
  rw [F.owner]
  repeat (first | with_reducible refine wpAny_madeHere_exc F.canon hC ?_ | with_reducible refine wpAny_loadPart_at hC ?_ | (with_reducible refine wpAny_isSubtype_exc hC ?_; first | rw [h1] | rw [h2] | rw [h3]) | wp_step)
  show R _ _
  rw [Heap.size_push]
  exact hq
/-- the class called: its __init__ is a def of the text's -/
theorem xc_type_call (F : ExcBaseFacts B newId initId bmB) (H : Chain C bm B) {rest : List Value} {fI : Addr} {oI : Obj} {Q : Fin → Shared → Prop}
    (hC : h.get? C = some (excClassObj nm q C N bs bm hdct sn sub ab col dd k0 k1 k2 k3 k5 newId)) (hi : Looks (model prog w) h (typeLookup (.ref C) (Str.ofString "__init__")) (some (.ref fI))) (hfI : h.get? fI = some oI) (hfc : oI.cls = .type "function") (hrest : rest.length ≤ sizeLine)
    (hq : ∀ h' e, Heap.MadeExcOf h h' e (.ref C) rest → wpAny (model prog w) A (call (.ref fI) (.ref e :: rest)) (fun r s' => r = .none ∧ Q (.done (.ret (.ref e))) s') E ⟨h', g, d, t, os⟩) :
    wpAny (model prog w) A (Builtin.«type.__call__» ⟨.ref C :: rest, []⟩) Q E ⟨h, g, d, t, os⟩ := by
  repeat (first | with_reducible refine wpAny_loadPart_at hC ?_ | with_reducible refine wpAny_madeBy_exc hC ?_ | wp_step)
  refine codeAny_call_builtin_code (Code.quiet_builtin _ F.quiet) (xc_check F H hC ?_)
  refine xc_new F H hC hrest ?_
  show wpAny _ _ _ _ _ _
  have kp : ∀ b o, h.get? b = some o → ((h.push { cls := .type "tuple", data := .seq rest.toArray }).push { cls := .ref C, data := .fields #[.ref h.objs.size, .none, .none, .none, .bool false, .none] }).get? b = some o := fun b o e => Heap.get?_push_of_some _ (Heap.get?_push_of_some _ e)
  have hC₁ := kp _ _ hC
  have hget : ((h.push { cls := .type "tuple", data := .seq rest.toArray }).push { cls := .ref C, data := .fields #[.ref h.objs.size, .none, .none, .none, .bool false, .none] }).get? (h.objs.size + 1) = some { cls := .ref C, data := .fields #[.ref h.objs.size, .none, .none, .none, .bool false, .none] } := by heap_get
  have hcC := H.isC
  unfold isInstance
  repeat (first | with_reducible refine wpAny_loadPart_at hget ?_ | (with_reducible refine wpAny_isSubtype_exc hC₁ ?_; rw [hcC]) | wp_step)
  show wpAny _ _ (typeLookup (.ref C) _) _ _ _
  refine hi _ _ _ _ kp ?_
  refine wpAny_holding (wpAny_bind ?_)
  unfold bindSpecial
  refine wpAny_bind (wpAny_typeOf (T := "function") ⟨_, kp _ _ hfI, hfc⟩ ?_)
  rw [if_pos (by decide)]
  refine wpAny_pure (wpAny_bind (wpAny_mono (hq _ (h.objs.size + 1) ⟨kp, Heap.get?_none_of_le (Nat.le_succ _), h.objs.size, hget, Heap.get?_none_of_le (Nat.le_refl _), Heap.get?_push_of_some _ (Heap.get?_push_at rfl rfl)⟩) (fun r s' hr => ?_) fun _ _ x => x))
  obtain ⟨rfl, hQ⟩ := hr
  wp_walk
  exact hQ
theorem xc_call (F : ExcBaseFacts B newId initId bmB) (H : Chain C bm B) {rest : List Value} {fI : Addr} {oI : Obj} {Q : Value → Shared → Prop}
    (hC : h.get? C = some (excClassObj nm q C N bs bm hdct sn sub ab col dd k0 k1 k2 k3 k5 newId)) (hi : Looks (model prog w) h (typeLookup (.ref C) (Str.ofString "__init__")) (some (.ref fI))) (hfI : h.get? fI = some oI) (hfc : oI.cls = .type "function") (hrest : rest.length ≤ sizeLine)
    (hq : ∀ h' e, Heap.MadeExcOf h h' e (.ref C) rest → wpAny (model prog w) (A.under (.builtin "type.__call__" ⟨.ref C :: rest, []⟩)) (call (.ref fI) (.ref e :: rest)) (fun r s' => r = .none ∧ Q (.ref e) s') E ⟨h', g, d, t, os⟩) :
    wpAny (model prog w) A (call (.ref C) rest) Q E ⟨h, g, d, t, os⟩ := by
  have f1 := tc_lookup
  have f2 := tc_bind (.ref C)
  have hT : (⟨h, g, d, t, os⟩ : Shared).TypeIs (.ref C) "type" := ⟨_, hC, rfl⟩
  refine wpAny_call (codeAny_of_tree ?_)
  show wpAny _ _ (callAny (.ref C) _) _ _ _
  repeat (any_goals (first | assumption | with_reducible refine wpAny_loadPart_at hC ?_ | wp_step))
  refine ⟨rfl, ?_⟩
  refine codeAny_call_builtin_at (Code.quiet_builtin _ (by decide +kernel)) entry_typeCall (wpAny_check_type_call_sub hC (xc_type_call F H hC hi hfI hfc hrest fun h' e hm => ?_))
  exact hq h' e hm
end
omit [Inhabited Thr] in
/-- the two classes that the text raises -/
noncomputable def isBad (C : Addr) : Prop := C = 45 ∨ C = 57
omit [Inhabited Thr] in
noncomputable def badMro : List Value := [.ref 32, .type "Exception", .type "BaseException", .type "object"]
theorem bad_chain {C : Addr} (h : isBad C) : Chain C badMro "Exception" := by
  rcases h with rfl | rfl <;> exact ⟨by decide, by decide, by decide, by decide, by decide⟩
theorem bad_obj (w : World) {C : Addr} (h : isBad C) : ∃ nm q N bs hdct sn sub ab col dd k0 k1 k2 k3 k5, (KK w).lookup C = some (excClassObj nm q C N bs badMro hdct sn sub ab col dd k0 k1 k2 k3 k5 "Exception.__new__") := by
  rcases h with rfl | rfl
  · exact ⟨_, _, _, _, _, _, _, _, _, _, _, _, _, _, _, by unfold KK; rfl⟩
  · exact ⟨_, _, _, _, _, _, _, _, _, _, _, _, _, _, _, by unfold KK; rfl⟩
end

section
open PySem.Sem (wp)
open PySem.Builtin PySem.Builtin.ObjectAttr
set_option maxHeartbeats 1000000
variable [Inhabited Thr]
theorem bad_find (w : World) {C : Addr} (h : isBad C) : findIn (KK w) (.ref C) (Str.ofString "__setattr__") = some (some (.builtin "object.__setattr__")) := by
  rcases h with rfl | rfl <;> (unfold KK; kernel_rfl)
theorem bad_init (w : World) {C : Addr} (h : isBad C) : findIn (KK w) (.ref C) (Str.ofString "__init__") = some (some (.ref 29)) := by
  rcases h with rfl | rfl <;> (unfold KK; kernel_rfl)
theorem bad_told (w : World) {C : Addr} (h : isBad C) : findIn (KK w) (.ref C) (Str.ofString "told") = some none := by
  rcases h with rfl | rfl <;> (unfold KK; kernel_rfl)
theorem bad_get (w : World) {C : Addr} (h : isBad C) : findIn (KK w) (.ref C) (Str.ofString "__getattribute__") = some (some (.builtin "BaseException.__getattribute__")) := by
  rcases h with rfl | rfl <;> (unfold KK; kernel_rfl)
theorem bad_cls (w : World) {C : Addr} (h : isBad C) : ∃ cd, clsIn (KK w) C = some cd ∧ cd.mro = .ref C :: badMro ∧ cd.hasDict = true := by
  rcases h with rfl | rfl <;> exact ⟨_, by unfold KK; rfl, rfl, rfl⟩
theorem bad_object (w : World) {C : Addr} (h : isBad C) : mroIn (KK w) C (.type "object") = some true := by
  rcases h with rfl | rfl <;> (unfold KK; kernel_rfl)
theorem bad_base (w : World) {C : Addr} (h : isBad C) : mroIn (KK w) C (.type "BaseException") = some true := by
  rcases h with rfl | rfl <;> (unfold KK; kernel_rfl)

section
variable {w : World} {A : Around} {E : Value → Shared → Prop} {s : Shared} {C x : Addr} {o : Obj} {v : Value}
theorem xs_taker {M : Model} {Q : Option Value → Shared → Prop} (h : Q none s) : wpAny M A (storeTaker? none) Q E s := wpAny_pure h
/-- self.told = v on a new exception -/
theorem xs_store (X : (KK w).In s.heap) (hC : isBad C) (hx : s.heap.get? x = some o) (hc : o.cls = .ref C) {vs : Array Value} (hd : o.data = .fields vs) (hdn : o.dict = none) {Q : Unit → Shared → Prop}
    (hq : ∀ h' tk D, h'.get? x = some { o with dict := some D } → h'.Ns D (fun y => if y = Str.ofString "told" then some v else none) → s.heap.get? D = none → (∀ b ob, b ≠ x → s.heap.get? b = some ob → h'.get? b = some ob) → Q () { s with heap := h', toks := tk }) :
    wpAny (model Prg w) A (setAttr (.ref x) (Str.ofString "told") v) Q E s := by
  have I : InstAt s.heap x o C none := ⟨hx, hc, by unfold notCls; rw [hd], by rw [hdn]; trivial⟩
  have SF := PySem.F.store_Exception
  obtain ⟨cd, hcd, hmro, hhas⟩ := bad_cls w hC
  have hm : Looks (model Prg w) s.heap (mroOf (.ref C)) (.ref C :: badMro) := hmro ▸ (looks_clsIn X hcd).andThen .now
  refine set_plain X I (bad_find w hC) ?_
  refine codeAny_call_builtin SF.slot.plain SF.entry (@check_slot (model Prg w) _ _ _ "object.__setattr__" "object" "__setattr__" (.ref x) [.str (Str.ofString "told") s.toks, v] [] _ SF.kind (by decide +kernel) (I.type.andThen (looks_mroIn X (bad_object w hC))) (SF.args (.ref x) _ v) ?_)
  rw [osa_eq, refuse_eq]
  refine wpAny_bind (wpAny_bind (I.type _ _ _ _ (fun _ _ e => e) (wpAny_bind (hm _ _ _ _ (fun _ _ e => e) ?_))))
  unfold badMro
  rw [refuseLoop_ref, refuseLoop_ref, SF.passes]
  refine wpAny_pure (wpAny_bind (I.type _ _ _ _ (fun _ _ e => e) (wpAny_bind (looks_findIn X (bad_told w hC) _ _ _ _ (fun _ _ e => e) (wpAny_bind (xs_taker ?_))))))
  dsimp only
  obtain ⟨oc, od, oda, osl⟩ := o
  dsimp only at hc hdn hd
  subst hc hdn hd
  have hxs : x ≠ s.heap.objs.size := Nat.ne_of_lt (Heap.lt_size hx)
  refine wpAny_bind (wpAny_pure (wpAny_bind (wpAny_bind (wpAny_loadPart hx (wpAny_bind (looks_clsIn X hcd _ _ _ _ (fun _ _ e => e) ?_))))))
  rw [hhas]
  dsimp only
  rw [if_neg (by simp), if_neg (by simp [typeHasDict])]
  have hx₁ := Heap.get?_push_of_some (h := s.heap) { cls := .type "dict", data := .dict #[] } hx
  refine wpAny_bind (wpAny_alloc (wpAny_bind (wpAny_update hx₁ ?_)))
  have hgd : ((s.heap.push { cls := .type "dict", data := .dict #[] }).update x fun o => { o with dict := some s.heap.objs.size }).get? s.heap.objs.size = some { cls := .type "dict", data := .dict #[] } :=
    (Heap.get?_update_ne _ _ _ _ hxs.symm).trans (Heap.get?_push_at rfl rfl)
  have hnd : ((s.heap.push { cls := .type "dict", data := .dict #[] }).update x fun o => { o with dict := some s.heap.objs.size }).Ns s.heap.objs.size (fun _ => none) := ⟨_, #[], _, hgd, rfl, fun e he => absurd he (by simp), fun _ => rfl⟩
  refine wpAny_pure ?_
  show wpAny _ _ (storeInDict s.heap.objs.size (.str (Str.ofString "told") s.toks) (Str.ofString "told") v) _ _ _
  unfold storeInDict newKeyGuard
  refine wpAny_bind (wpAny_pure (wpAny_bind (wpAny_nsSet1 (Heap.Ns1.of_empty hnd) fun h' hn' hs => ?_)))
  obtain ⟨oD, esD, epD, hoD, hdD, hcD⟩ := hn'.count (Within.cons (Str.ofString "told") v Within.nil)
  refine wpAny_bind (wpAny_lookBehind hoD (by rw [hdD]; exact pastItsLine_dict (Nat.le_trans hcD (by rw [List.length_cons, List.length_nil, sizeLine_eq]; omega))) ?_)
  refine wpAny_pure (hq h' _ s.heap.objs.size ?_ ?_ get_new fun b ob hb e => ?_)
  · refine (hs.2 x hxs).trans (Heap.get?_update_self _ hx₁ ?_)
    rfl
  · obtain ⟨o', es, ep, e1, e2, e3, eu, e4⟩ := hn'
    exact ⟨o', es, ep, e1, e2, e3, e4⟩
  · exact (hs.2 b (Nat.ne_of_lt (Heap.lt_size e))).trans ((Heap.get?_update_ne _ _ _ _ hb).trans (Heap.get?_push_of_some _ e))
end
end

section
set_option maxHeartbeats 2000000
variable [Inhabited Thr]
section
variable {w : World} {A : Around} {E : Value → Shared → Prop} {s : Shared} {C e : Addr} {o : Obj} {v : Value}
/-- into a def, its arguments plain values -/
theorem enterV {f : Addr} {name qual : Str} {params : Arguments} {body : List Stmt} {scope : Scope} {dV kV doc pm cdv ct oc : Value} {an od : Option Addr} {osl : Array (Option Value)} {vs : List Value} {binds : List (Str × Value)} {Rz : Result → Shared → Prop}
    (ho : (KK w).lookup f = some ⟨oc, od, .func (fnOf name qual params body scope dV kV doc pm an cdv ct), osl⟩) (hcd : codeIn (KK w) cdv qual = true) (G : Gl w s.heap) (hroom : A.depth < recursionLimit)
    (hbind : BindsTo s (fnOf name qual params body scope dV kV doc pm an cdv ct) ⟨vs, []⟩ binds) (hloc : ∀ x ∈ binds, scope.names.lookup x.1 = some .local) (hcell : ∀ x ∈ scope.names, x.2 ≠ .cell)
    (hk : scope.kind = .function) (hco : scope.isCoroutine = false) (hgen : scope.isGenerator = false)
    (h : ∀ h₁, h₁.Ns s.heap.objs.size (fun x => binds.reverse.lookup x) → (∀ b o, s.heap.get? b = some o → h₁.get? b = some o) → wpAny (model Prg w) (A.deeper (envOf qual scope s.heap.objs.size f cdv)) (execs body (envOf qual scope s.heap.objs.size f cdv)) (fun fl s' => Rz (.ok (.ret (match fl with | .ret v => v | _ => .none))) s')
      (fun e s' => wpAny (model Prg w) (A.deeper (envOf qual scope s.heap.objs.size f cdv)) (leaving (envOf qual scope s.heap.objs.size f cdv) e) (fun _ s'' => Rz (.error e) s'') (fun e' s'' => Rz (.error e') s'') s') { s with heap := h₁, toks := s.toks + binds.length }) : codeAny (model Prg w) A (.call (.ref f) ⟨vs, []⟩) Rz s :=
  codeAny_call_def (fd := fnOf name qual params body scope dV kV doc pm an cdv ct) (body := body) (binds := binds) hroom (G.at ho fun _ _ q => by cases q) rfl G.nolimit (G.code hcd) rfl hbind hcell hloc (fun h₁ hns hk₁ => h h₁ hns hk₁) hco hgen hk
theorem xi_init (G : Gl w s.heap) (hroom : A.depth < recursionLimit) (hC : isBad C) (hx : s.heap.get? e = some o) (hc : o.cls = .ref C) {vs : Array Value} (hd : o.data = .fields vs) (hdn : o.dict = none) {Q : Value → Shared → Prop}
    (hq : ∀ h' tk D, h'.get? e = some { o with dict := some D } → h'.Ns D (fun y => if y = Str.ofString "told" then some v else none) → s.heap.get? D = none → (∀ b ob, b ≠ e → s.heap.get? b = some ob → h'.get? b = some ob) → Q .none { s with heap := h', toks := tk }) :
    wpAny (model Prg w) A (call (.ref 29) [.ref e, v]) Q E s := by
  refine wpAny_call ?_
  refine' enterV (binds := [(Str.ofString "self", .ref e), (Str.ofString "told", v)]) ?ho ?hcd G hroom ?hb ?hl ?hc ?hk ?hco ?hg ?h
  case ho => unfold KK; k_is
  case hcd => unfold KK; k_is
  case hb =>
    have ht : ∃ oT n, (KK w).lookup 22 = some oT ∧ oT.data = .seq #[.none] n := ⟨_, _, by unfold KK; rfl, rfl⟩
    obtain ⟨oT, n, h1, h2⟩ := ht
    exact BindsTo.of_defaults rfl (G.K _ _ h1) h2 rfl rfl
  case hl =>
    intro x hx
    rcases List.mem_cons.mp hx with rfl | hx
    · rfl
    · rw [List.mem_singleton.mp hx]; rfl
  case hc => decide
  case hk => rfl
  case hco => rfl
  case hg => rfl
  intro h₁ hns hk₁
  refine wpAny_cons (plainObj_wpAny_Assign_Attribute ?_ (by rfl))
  refine wpAny_Name (wpAny_loadName_local rfl rfl hns (v := v) rfl ?_) (by decide)
  refine wpAny_Name (wpAny_loadName_local rfl rfl hns (v := .ref e) rfl ?_) (by decide)
  have G₁ : Gl w h₁ := G.keeps (.of hk₁)
  refine xs_store (s := { s with heap := h₁, toks := _ }) G₁.K hC (hk₁ _ _ hx) hc hd hdn fun h' tk D e1 e2 e3 e4 => ?_
  refine wpAny_execs_nil (hq h' tk D e1 e2 ((Kp.of hk₁).none e3) fun b ob hb q => e4 b ob hb (hk₁ _ _ q))
/-- BadCode(v), BadEncoding(v) -/
theorem xi_make (G : Gl w s.heap) (hroom : A.depth + 1 < recursionLimit) (hC : isBad C) {Q : Value → Shared → Prop}
    (hq : ∀ h' tk D e t, h'.get? e = some { cls := .ref C, dict := some D, data := .fields #[.ref t, .none, .none, .none, .bool false, .none] } → h'.Ns D (fun y => if y = Str.ofString "told" then some v else none) → s.heap.get? D = none → s.heap.get? e = none →
      (∀ b ob, s.heap.get? b = some ob → h'.get? b = some ob) → Q (.ref e) { s with heap := h', toks := tk }) : wpAny (model Prg w) A (call (.ref C) [v]) Q E s := by
  obtain ⟨nm, q, N, bs, hdct, sn, sub, ab, col, dd, k0, k1, k2, k3, k5, hlk⟩ := bad_obj w hC
  have hI : ∃ oI, (KK w).lookup 29 = some oI ∧ oI.cls = .type "function" := ⟨_, by unfold KK; rfl, rfl⟩
  obtain ⟨oI, hoI, hfc⟩ := hI
  refine xc_call (h := s.heap) (g := s.gens) (d := s.drawn) (t := s.toks) (os := s.os) PySem.F.excBase_Exception (bad_chain hC) (G.K _ _ hlk) (looks_findIn G.K (bad_init w hC)) (G.K _ _ hoI) hfc (by show 1 ≤ _; rw [sizeLine_eq]; decide) fun h' e hm => ?_
  obtain ⟨t, he, htn, ht⟩ := hm.there
  have G' : Gl w h' := G.keeps (.of hm.keeps)
  refine xi_init (A := A.under (.builtin "type.__call__" ⟨[.ref C, v], []⟩)) (s := ⟨h', s.gens, s.drawn, s.toks, s.os⟩) G' hroom hC he rfl rfl rfl fun h₂ tk D e1 e2 e3 e4 => ⟨rfl, ?_⟩
  exact hq h₂ tk D e t e1 e2 ((Kp.of hm.keeps).none e3) hm.new fun b ob eb => e4 b ob (fun z => by rw [z, hm.new] at eb; cases eb) (hm.keeps _ _ eb)
end
end

section
set_option maxHeartbeats 1000000
variable [Inhabited Thr]
/-- all stands as Kp says, but for the listed places -/
noncomputable def KpX (xs : List Addr) (h h' : Heap) : Prop := ∀ b o, b ∉ xs → h.get? b = some o → ∃ sl, h'.get? b = some { o with slots := sl } ∧ ((∀ es ep, o.data ≠ .dict es ep) ∨ b ≤ thr → sl = o.slots)
theorem KpX.refl {xs : List Addr} {h : Heap} : KpX xs h h := fun b o _ e => ⟨o.slots, e, fun _ => rfl⟩
theorem KpX.after {h₀ h h' : Heap} {xs : List Addr} (k : Kp h₀ h) (y : KpX xs h h') (h0 : ∀ b ∈ xs, h₀.get? b = Option.none) : Kp h₀ h' := fun b o e => by
  obtain ⟨sl, e1, h1⟩ := k b o e
  obtain ⟨sl2, e2, h2⟩ := y b _ (fun q => by rw [h0 b q] at e; cases e) e1
  exact ⟨sl2, e2, fun hn => (h2 hn).trans (h1 hn)⟩
theorem KpX.trans {a b c : Heap} {xs ys : List Addr} (x : KpX xs a b) (y : KpX ys b c) : KpX (xs ++ ys) a c := fun p o hp e => by
  obtain ⟨sl, e1, h1⟩ := x p o (fun q => hp (List.mem_append_left _ q)) e
  obtain ⟨sl2, e2, h2⟩ := y p _ (fun q => hp (List.mem_append_right _ q)) e1
  exact ⟨sl2, e2, fun hn => (h2 hn).trans (h1 hn)⟩
theorem KpX.ns {h h' : Heap} {xs : List Addr} (y : KpX xs h h') {D : Addr} {m : Str → Option Value} (n : h.Ns D m) (hD : D ∉ xs) : h'.Ns D m := by
  obtain ⟨o, es, ep, e, hd, r⟩ := n
  obtain ⟨sl, e1, _⟩ := y D o hD e
  exact ⟨_, es, ep, e1, hd, r⟩

omit [Inhabited Thr] in
/-- an exception of the text's own: its object, its dict, its trace -/
structure Exc (C D : Addr) (m : Str → Option Value) (h : Heap) (a : Addr) (tb : Option (Addr × Value)) : Prop where
  obj : ∃ vs sl, h.get? a = some ⟨.ref C, some D, .fields vs, sl⟩ ∧ vs.size = 6 ∧ vs[1]? = some (match tb with | none => .none | some q => .ref q.1)
  ns : h.Ns D m
  trace : ∀ T f, tb = some (T, f) → T ≠ a ∧ ∃ oT ts, h.get? T = some oT ∧ oT.data = .fields ts ∧ ts[3]? = some f
omit [Inhabited Thr] in
noncomputable def tbl : Option (Addr × Value) → List Addr
  | none => []
  | some q => [q.1]
section
variable {M : Model} {A : Around} {E : Value → Shared → Prop} {s : Shared} {env : Env} {outer : List Env} {L C D a : Addr} {m : Str → Option Value} {tb : Option (Addr × Value)} {Q : Unit → Shared → Prop}
theorem Stk.funs {h : Heap} {l : List Env} (KS : Stk A h) (hfr : A.frames = some l) : h.FunFrames {} l := by
  obtain ⟨l', e, r⟩ := KS
  rw [hfr] at e; cases e
  clear hfr
  induction l with
  | nil => trivial
  | cons env l ih =>
    obtain ⟨hk, L, m, hf, hn, _⟩ := r env (.head _)
    obtain ⟨o, es, ep, ho, hd, _⟩ := hn
    exact ⟨hk, ⟨L, o, hf, by simp [Heap.get?], ho, fun vs q => by rw [hd] at q; cases q⟩, ih fun e he => r e (.tail _ he)⟩
theorem Stk.mem {h : Heap} {l : List Env} (KS : Stk A h) (hfr : A.frames = some l) {b : Addr} (hb : b ∈ l.filterMap (·.frame)) : thr < b ∧ ∃ m, h.Ns b m := by
  obtain ⟨l', e, r⟩ := KS
  rw [hfr] at e; cases e
  obtain ⟨env, he, hf⟩ := List.mem_filterMap.mp hb
  obtain ⟨_, L, m, hf', hn, hL⟩ := r env he
  rw [hf] at hf'; cases hf'
  exact ⟨hL, m, hn⟩
theorem Exc.notTb (X : Exc C D m s.heap a tb) : D ∉ a :: tbl tb := fun hm => by
  obtain ⟨o, es, ep, e, hd, _⟩ := X.ns
  rcases List.mem_cons.mp hm with rfl | hm
  · obtain ⟨vs, sl, he, _⟩ := X.obj
    rw [e] at he; cases he; cases hd
  · cases tb with
    | none => cases hm
    | some q =>
      obtain ⟨_, oT, ts, hT, hdT, _⟩ := X.trace q.1 q.2 rfl
      rw [List.mem_singleton.mp hm, hT] at e; cases e; rw [hdT] at hd; cases hd

/-- the frame's own entry in the trace -/
theorem Exc.entry (X : Exc C D m s.heap a tb) (hfr : A.frames = some (env :: outer)) (KS : Stk A s.heap) (hf : env.frame = some L) {head : Value} {hadNext : Bool}
    (h : ∀ h' T, Exc C D m h' a (some (T, rawInt L)) → KpX [a] s.heap h' → s.heap.get? T = Option.none → Q () { s with heap := h' }) :
    wpAny M A (do let fr ← frameOf env; let pl ← entryPlaceOf L hadNext; let b ← EntryCells.newEntry head fr .none (rawInt L) .none pl; setField (.ref a) 1 b) Q E s := by
  obtain ⟨vs, sl, he, hsz, h1⟩ := X.obj
  refine wpAny_bind (wpAny_frameOf_fun hfr (KS.funs hfr) hf fun h₁ hs₁ => ?_)
  have ka : a ∉ (env :: outer).filterMap (·.frame) := fun hm => by
    obtain ⟨_, m', o, es, ep, e, hd, _⟩ := KS.mem hfr hm
    rw [he] at e; cases e; cases hd
  have k₁ : KpX [] s.heap h₁ := fun b o _ e => by
    by_cases hb : b ∈ (env :: outer).filterMap (·.frame)
    · obtain ⟨hL, m', o', es, ep, e', hd, _⟩ := KS.mem hfr hb
      obtain ⟨sl, hs⟩ := hs₁.2.2 b o e
      rw [e] at e'; cases e'
      exact ⟨sl, hs, fun hn => hn.elim (fun hn => absurd hd (hn _ _)) fun hl => absurd hL (Nat.not_lt.mpr hl)⟩
    · exact ⟨o.slots, (hs₁.2.1 b hb).trans e, fun _ => rfl⟩
  refine wpAny_bind (wpAny_entryPlaceOf fun pl hpl => ?_)
  unfold EntryCells.newEntry newFields
  refine wpAny_bind (wpAny_newObj_type ?_ (hpl.sizeOk5 _ _ _ _ _))
  have he₁ : h₁.get? a = some ⟨.ref C, some D, .fields vs, sl⟩ := (hs₁.2.1 a ka).trans he
  generalize hts : ([head, .ref L, .none, rawInt L, .none] ++ (if pl.isEmpty then List.replicate 6 Value.none else pl)).toArray = ts
  have h3 : ts[3]? = some (rawInt L) := by rw [← hts]; first | (simp; done) | (rcases hpl with rfl | ⟨_, _, _, _, _, _, _, rfl⟩ <;> simp)
  have he₂ := Heap.get?_push_of_some (h := h₁) { cls := .type "traceback", dict := none, data := .fields ts } he₁
  have hTa : h₁.objs.size ≠ a := Nat.ne_of_gt (Heap.lt_size he₁)
  refine wpAny_setField he₂ rfl (by omega) (h _ h₁.objs.size ?_ ?_ ?_)
  · have he₃ := Heap.get?_update_self (Obj.mapFields (·.setIfInBounds 1 (Value.ref h₁.objs.size))) he₂ rfl
    refine ⟨⟨vs.setIfInBounds 1 (.ref h₁.objs.size), sl, he₃, by simp [hsz], by simp [hsz]⟩, ?_, fun T f q => ?_⟩
    · have hDa : D ≠ a := fun q => X.notTb (q ▸ .head _)
      obtain ⟨o', es, ep, e, hd, r⟩ := k₁.ns X.ns (fun q => nomatch q)
      exact ⟨o', es, ep, (Heap.get?_update_other _ _ (Ne.symm hDa)).trans (Heap.get?_push_of_some _ e), hd, r⟩
    · cases q
      exact ⟨hTa, _, ts, (Heap.get?_update_other _ _ (Ne.symm hTa)).trans (Heap.get?_push_size h₁ rfl), rfl, h3⟩
  · intro b o hb e
    obtain ⟨sl', e1, r⟩ := k₁ b o (fun q => nomatch q) e
    exact ⟨sl', (Heap.get?_update_other _ _ (fun q => hb (by rw [q]; exact .head _))).trans (Heap.get?_push_of_some _ e1), r⟩
  · cases q : s.heap.get? h₁.objs.size with
    | none => rfl
    | some o =>
      obtain ⟨sl', e1, _⟩ := k₁ _ o (fun q => nomatch q) q
      exact absurd (Heap.lt_size e1) (Nat.lt_irrefl _)
theorem Exc.note0 (X : Exc C D m s.heap a none) (hfr : A.frames = some (env :: outer)) (KS : Stk A s.heap) (hf : env.frame = some L)
    (h : ∀ h' T, Exc C D m h' a (some (T, rawInt L)) → KpX [a] s.heap h' → s.heap.get? T = Option.none → Q () { s with heap := h' }) : wpAny M A (noteFrame (.ref a) env) Q E s := by
  obtain ⟨vs, sl, he, hsz, h1⟩ := id X.obj
  unfold noteFrame
  simp only [hf]
  refine wpAny_bind (wpAny_field he rfl h1 ?_)
  rw [if_neg (by decide)]
  exact X.entry hfr KS hf h
theorem Exc.noteOn {T : Addr} (X : Exc C D m s.heap a (some (T, .none))) (hfr : A.frames = some (env :: outer)) (KS : Stk A s.heap) (hf : env.frame = some L)
    (h : ∀ h' T', Exc C D m h' a (some (T', rawInt L)) → KpX [T, a] s.heap h' → (s.heap.get? T' = Option.none) → Q () { s with heap := h' }) : wpAny M A (noteFrame (.ref a) env) Q E s := by
  obtain ⟨vs, sl, he, hsz, h1⟩ := id X.obj
  obtain ⟨hTa, oT, ts, hT, hdT, h3⟩ := X.trace T _ rfl
  unfold noteFrame
  simp only [hf]
  refine wpAny_bind (wpAny_field he rfl h1 ?_)
  rw [if_pos (show (Value.ref T != Value.none) = true from by simp)]
  refine wpAny_bind (wpAny_field hT hdT h3 ?_)
  rw [if_neg (show ¬ ((Value.none == rawInt L) = true) from by simp [rawInt])]
  refine wpAny_bind (wpAny_setField hT hdT (Array.getElem?_eq_some_iff.mp h3).1 ?_)
  have other : ∀ b, b ≠ T → (s.heap.update T (Obj.mapFields (·.setIfInBounds 3 Value.none))).get? b = s.heap.get? b := fun b hb => Heap.get?_update_other _ _ (Ne.symm hb)
  have hTD : D ≠ T := fun q => X.notTb (by rw [q]; exact .tail _ (.head _))
  have X₁ : Exc C D m (s.heap.update T (Obj.mapFields (·.setIfInBounds 3 Value.none))) a (some (T, .none)) := by
    refine ⟨⟨vs, sl, (other a (Ne.symm hTa)).trans he, hsz, h1⟩, ?_, fun T' f q => ?_⟩
    · obtain ⟨o', es, ep, e, hd, r⟩ := X.ns
      exact ⟨o', es, ep, (other D hTD).trans e, hd, r⟩
    · cases q
      have := (Array.getElem?_eq_some_iff.mp h3).1
      exact ⟨hTa, _, _, Heap.get?_update_self _ hT (Obj.isFreed_of_fields (Obj.data_mapFields hdT _)), Obj.data_mapFields hdT _, by simp [this]⟩
  have kX : KpX [T] s.heap (s.heap.update T (Obj.mapFields (·.setIfInBounds 3 Value.none))) := fun b o hb e => ⟨o.slots, (other b (fun q => hb (by rw [q]; exact .head _))).trans e, fun _ => rfl⟩
  have KS₁ : Stk A (s.heap.update T (Obj.mapFields (·.setIfInBounds 3 Value.none))) := KS.map fun L' m' n => ⟨m', kX.ns n (fun q => by
    obtain ⟨o', es, ep, e, hd, _⟩ := n
    rw [List.mem_singleton.mp q, hT] at e; cases e; rw [hdT] at hd; cases hd)⟩
  refine X₁.entry (s := { s with heap := _ }) hfr KS₁ hf fun h' T' X' k' n' => h h' T' X' (kX.trans k') ?_
  replace n' : (s.heap.update T (Obj.mapFields (·.setIfInBounds 3 Value.none))).get? T' = Option.none := n'
  cases q : s.heap.get? T' with
  | none => rfl
  | some o =>
    by_cases z : T' = T
    · rw [z] at n'
      have := X₁.trace T _ rfl
      obtain ⟨_, oT', ts', e', _⟩ := this
      rw [n'] at e'; cases e'
    · rw [other T' z, q] at n'; cases n'
theorem Exc.noteAgain {T : Addr} (X : Exc C D m s.heap a (some (T, rawInt L))) (hf : env.frame = some L) (h : Q () s) : wpAny M A (noteFrame (.ref a) env) Q E s := by
  obtain ⟨vs, sl, he, hsz, h1⟩ := X.obj
  obtain ⟨hTa, oT, ts, hT, hdT, h3⟩ := X.trace T _ rfl
  exact wpAny_noteFrame_inFlight hf he rfl h1 hT hdT h3 h
theorem Exc.flight {T : Addr} {f : Value} {x : Option Addr} (X : Exc C D m s.heap a (some (T, f))) (h : ∀ h', Exc C D m h' a (some (T, x.elim .none fun f => rawInt f)) → KpX [T] s.heap h' → Q () { s with heap := h' }) : wpAny M A (setFlight (.ref a) x) Q E s := by
  obtain ⟨vs, sl, he, hsz, h1⟩ := id X.obj
  obtain ⟨hTa, oT, ts, hT, hdT, h3⟩ := X.trace T _ rfl
  have hsz3 := (Array.getElem?_eq_some_iff.mp h3).1
  have other : ∀ b, b ≠ T → (s.heap.update T (Obj.mapFields (·.setIfInBounds 3 (x.elim Value.none fun f => rawInt f)))).get? b = s.heap.get? b := fun b hb => Heap.get?_update_other _ _ (Ne.symm hb)
  have hTD : D ≠ T := fun q => X.notTb (by rw [q]; exact .tail _ (.head _))
  unfold setFlight
  refine wpAny_bind (wpAny_field he rfl h1 ?_)
  rw [if_pos (show (Value.ref T != Value.none) = true from by simp)]
  refine wpAny_setField hT hdT hsz3 (h _ ⟨⟨vs, sl, (other a (Ne.symm hTa)).trans he, hsz, h1⟩, ?_, fun T' f' q => ?_⟩ fun b o hb e => ⟨o.slots, (other b (fun q => hb (by rw [q]; exact .head _))).trans e, fun _ => rfl⟩)
  · obtain ⟨o', es, ep, e, hd, r⟩ := X.ns
    exact ⟨o', es, ep, (other D hTD).trans e, hd, r⟩
  · cases q
    exact ⟨hTa, _, _, Heap.get?_update_self _ hT (Obj.isFreed_of_fields (Obj.data_mapFields hdT _)), Obj.data_mapFields hdT _, by simp [hsz3]⟩
end
end

section
set_option maxHeartbeats 1000000
variable [Inhabited Thr]
section
variable {A : Around} {s₀ s : Shared} {nw₀ nw : Led} {xs : List Addr}
theorem grow_x (g : Grow s₀ s nw₀ nw) {h' : Heap} (k : KpX xs s.heap h') (h0 : ∀ b ∈ xs, s₀.heap.get? b = none) (hf : ∀ b ∈ xs, ∀ o, s.heap.get? b = some o → ∃ vs, o.data = .fields vs) : Grow s₀ { s with heap := h' } nw₀ nw := by
  refine ⟨⟨by rw [g.up.eq], k.after g.up.keep h0⟩, g.sub, fun p hp => ?_, g.new⟩
  obtain ⟨e, q⟩ := g.has p hp
  obtain ⟨sl, e1, h1⟩ := k p.1 p.2 (fun hm => by
    obtain ⟨vs, hd⟩ := hf _ hm _ e
    obtain ⟨xs, n, hq⟩ := q
    rw [hd] at hq; cases hq) e
  rw [h1 (.inl q.nd)] at e1
  exact ⟨e1, q⟩
theorem stk_x {h h' : Heap} (KS : Stk A h) (k : KpX xs h h') (hf : ∀ b ∈ xs, ∀ o, h.get? b = some o → ∃ vs, o.data = .fields vs) : Stk A h' := KS.map fun L m n => ⟨m, k.ns n fun hm => by
  obtain ⟨o, es, ep, e, hd, _⟩ := n
  obtain ⟨vs, hv⟩ := hf _ hm _ e
  rw [hd] at hv; cases hv⟩
theorem Exc.flds {C D a : Addr} {m : Str → Option Value} {h : Heap} {tb : Option (Addr × Value)} (X : Exc C D m h a tb) : ∀ b ∈ a :: tbl tb, ∀ o, h.get? b = some o → ∃ vs, o.data = .fields vs := fun b hb o e => by
  rcases List.mem_cons.mp hb with rfl | hb
  · obtain ⟨vs, sl, he, _⟩ := X.obj
    rw [e] at he; cases he; exact ⟨_, rfl⟩
  · cases tb with
    | none => cases hb
    | some q =>
      obtain ⟨_, oT, ts, hT, hdT, _⟩ := X.trace q.1 q.2 rfl
      rw [List.mem_singleton.mp hb, hT] at e; cases e; exact ⟨_, hdT⟩
/-- an exception on its way, seen from a base: its class, what it tells, its trace -/
structure BadAt (A : Around) (C : Addr) (d : Dat) (s₀ : Shared) (nw₀ : Led) (a : Addr) (s' : Shared) (tb : Option (Addr × Value)) : Prop where
  ex : ∃ D v m nw', Grow s₀ s' nw₀ nw' ∧ Exc C D m s'.heap a tb ∧ m (Str.ofString "told") = some v ∧ DatIn nw' v d
  stk : Stk A s'.heap
  new : ∀ b ∈ a :: tbl tb, s₀.heap.get? b = none
theorem BadAt.step {C : Addr} {d : Dat} {a : Addr} {tb tb' : Option (Addr × Value)} {h' : Heap} (B : BadAt A C d s₀ nw₀ a s tb) (k : KpX xs s.heap h') (hxs : ∀ b ∈ xs, b ∈ a :: tbl tb) (hn : ∀ q, tb' = some q → s₀.heap.get? q.1 = none)
    (X' : ∀ D m, Exc C D m s.heap a tb → Exc C D m h' a tb') : BadAt A C d s₀ nw₀ a { s with heap := h' } tb' := by
  obtain ⟨D, v, m, nw', g, X, hm, hv⟩ := B.ex
  refine ⟨⟨D, v, m, nw', grow_x g k (fun b hb => B.new b (hxs b hb)) (fun b hb => X.flds b (hxs b hb)), X' D m X, hm, hv⟩, stk_x B.stk k (fun b hb => X.flds b (hxs b hb)), fun b hb => ?_⟩
  rcases List.mem_cons.mp hb with rfl | hb
  · exact B.new _ (.head _)
  · cases tb' with
    | none => cases hb
    | some q => rw [List.mem_singleton.mp hb]; exact hn q rfl
end
/-- an exception in the frame at L -/
noncomputable def BadX (A : Around) (C : Addr) (d : Dat) (L : Addr) : Shared → Led → Value → Shared → Prop := fun s₀ nw₀ e s' => ∃ a tb, e = .ref a ∧ BadAt A C d s₀ nw₀ a s' tb ∧ (tb = none ∨ ∃ T, tb = some (T, rawInt L))
section
variable {w : World} {A : Around} {env : Env} {outer : List Env} {L C : Addr} {d : Dat} {s₀ : Shared} {nw₀ : Led}
/-- noted in its frame -/
theorem BadX.noted {e : Value} {s : Shared} {Q : Value → Unit → Shared → Prop} {E : Value → Shared → Prop} (hfr : A.frames = some (env :: outer)) (hf : env.frame = some L) (B : BadX A C d L s₀ nw₀ e s)
    (h : ∀ a T s', e = .ref a → BadAt A C d s₀ nw₀ a s' (some (T, rawInt L)) → Q e () s') : wpAny (model Prg w) A (noteFrame e env) (Q e) E s := by
  obtain ⟨a, tb, rfl, B, ht⟩ := B
  obtain ⟨D, v, m, nw', g, X, hm, hv⟩ := id B.ex
  rcases ht with rfl | ⟨T, rfl⟩
  · -- the object alone changes; the new entry's own facts are those of every dict
    refine X.note0 hfr B.stk hf fun h' T X' k n => h a T _ rfl ?_
    refine ⟨⟨D, v, m, nw', grow_x g k (fun b hb => B.new b (by simpa [tbl] using hb)) (fun b hb => X.flds b (by simpa [tbl] using hb)), X', hm, hv⟩, stk_x B.stk k (fun b hb => X.flds b (by simpa [tbl] using hb)), fun b hb => ?_⟩
    rcases List.mem_cons.mp hb with rfl | hb
    · exact B.new _ (.head _)
    · rw [List.mem_singleton.mp hb]; exact g.up.keep.none n
  · exact X.noteAgain hf (h a T s rfl B)
theorem BadX.ok (hfr : A.frames = some (env :: outer)) (hf : env.frame = some L) : XOk w A env (BadX A C d L) := by
  refine ⟨fun s₀ s₁ nw₀ nw₁ e s' g B => ?_, fun s₀ nw₀ e s' E B k => ?_⟩
  · obtain ⟨a, tb, he, ⟨⟨D, v, m, nw', g', X, hm, hv⟩, ks, n⟩, ht⟩ := B
    exact ⟨a, tb, he, ⟨⟨D, v, m, nw', g.trans g', X, hm, hv⟩, ks, fun b hb => g.up.keep.none (n b hb)⟩, ht⟩
  · refine BadX.noted (Q := fun e _ s'' => cameBackBy (model Prg w) A env E e s'') hfr hf B fun a T s'' he B' => ?_
    subst he
    obtain ⟨D, v, m, nw', g, X, hm, hv⟩ := id B'.ex
    obtain ⟨vs, sl, hobj, _, h1⟩ := X.obj
    show wpAny _ _ _ _ _ _
    refine wpAny_bind (wpAny_field hobj rfl h1 ?_)
    rw [if_neg (show ¬ ((Value.ref T == Value.none) = true) from by simp)]
    rw [hf]
    refine X.flight (x := some L) fun h' X' k' => k _ ⟨a, some (T, rawInt L), rfl, ?_, .inr ⟨T, rfl⟩⟩
    refine ⟨⟨D, v, m, nw', grow_x g k' (fun b hb => B'.new b (.tail _ hb)) (fun b hb => X.flds b (.tail _ hb)), X', hm, hv⟩, stk_x B'.stk k' (fun b hb => X.flds b (.tail _ hb)), B'.new⟩
/-- it leaves its frame -/
theorem BadX.leaves {e : Value} {s : Shared} {Q : Unit → Shared → Prop} {E : Value → Shared → Prop} (hfr : A.frames = some (env :: outer)) (hf : env.frame = some L) (B : BadX A C d L s₀ nw₀ e s)
    (h : ∀ a T s', e = .ref a → BadAt A C d s₀ nw₀ a s' (some (T, .none)) → Q () s') : wpAny (model Prg w) A (leaving env e) Q E s := by
  unfold leaving
  refine wpAny_bind (BadX.noted (Q := fun e _ s'' => wpAny (model Prg w) A (setFlight e none) Q E s'') hfr hf B fun a T s'' he B' => ?_)
  subst he
  obtain ⟨D, v, m, nw', g, X, hm, hv⟩ := id B'.ex
  refine X.flight (x := none) fun h' X' k' => h a T _ rfl ?_
  exact ⟨⟨D, v, m, nw', grow_x g k' (fun b hb => B'.new b (.tail _ hb)) (fun b hb => X.flds b (.tail _ hb)), X', hm, hv⟩, stk_x B'.stk k' (fun b hb => X.flds b (.tail _ hb)), B'.new⟩
end
end

section
set_option maxHeartbeats 1000000
variable [Inhabited Thr]
section
variable {M : Model} {A : Around} {E : Value → Shared → Prop} {env : Env}
variable {nm q : Str} {C N : Addr} {bs bm : List Value} {hdct : Bool} {sn : List Str} {sub : List Value} {ab : Bool} {col : Option Bool} {dd : Option Addr} {k0 k1 k2 k3 k5 : Option Value} {newId : String}
theorem xr_stmt {s : Shared} {x : Sem Value} {Q : Flow → Shared → Prop} (hB : (Value.ref C :: bm).contains (.type "BaseException") = true) (hh : A.handled = none)
    (h : wpAny M A x (fun v s₁ => ∃ e oe vs, v = .ref e ∧ s₁.heap.get? C = some (excClassObj nm q C N bs bm hdct sn sub ab col dd k0 k1 k2 k3 k5 newId) ∧ s₁.heap.get? e = some oe ∧ oe.cls = .ref C ∧ oe.data = .fields vs ∧ vs[1]? = some .none ∧ E (.ref e) s₁) E s) :
    wpAny M A (raiseStmt env (some x) none) Q E s := by
  unfold raiseStmt
  refine wpAny_bind (wpAny_mono h (fun v s₁ h₁ => ?_) fun _ _ x => x)
  obtain ⟨e, oe, vs, rfl, hC, he, hc, hd, h1, hE⟩ := h₁
  obtain ⟨hp, g, d, tk, os⟩ := s₁
  obtain ⟨oc, od, oda, osl⟩ := oe
  dsimp only at hc hd
  subst hc hd
  repeat (first | with_reducible refine wpAny_loadPart_at he ?_ | with_reducible refine wpAny_loadPart_at hC ?_ | (with_reducible refine wpAny_isSubtype_exc hC ?_; rw [hB]) | wp_step)
  rw [h1]
  refine wpAny_pure ?_
  rw [if_neg (by simp)]
  exact wpAny_pure (wpAny_raiseNew_none hh hE)
end
theorem bad_keep (w : World) {C : Addr} (h : isBad C) : keepIn (KK w) (.ref C) = true := by
  rcases h with rfl | rfl <;> (unfold KK; kernel_rfl)
theorem g_BadCode (w : World) : nsIn (KK w) mainGlobals "BadCode" = some (some (.ref 57)) := by unfold KK; rfl
theorem g_BadEncoding (w : World) : nsIn (KK w) mainGlobals "BadEncoding" = some (some (.ref 45)) := by unfold KK; rfl
section
variable {w : World} {A : Around} {env : Env} {R : Dat → Prop} {X : Shared → Led → Value → Shared → Prop} {ρ : Loc} {own : Own} {rest : List Stmt} {N : Loc → Own → Prop} {L : Addr}
/-- raise BadCode(arg) -/
theorem Ex.raise {C : Addr} {x : Str} {np cpos pos : Pos} {arg : Expr} {d : Dat} (hC : isBad C) (hx : nsIn (KK w) mainGlobals x = some (some (.ref C))) (he : Ev w A env ρ arg d) (hh : A.handled = Option.none) (hroom : A.depth + 1 < recursionLimit)
    (hg : env.kindOf x = some .globalImplicit := by rfl) (hd : (x == ("__debug__" : Str)) = false := by decide) (hs : starEach [arg] env = (false, eval arg env) :: starEach [] env := by rfl) :
    Ex w A env R (BadX A C d L) ρ own (.Raise (some (.Call (.Name x np) [arg] [] cpos)) Option.none pos :: rest) N := by
  refine ⟨?_⟩
  intro s₀ nw₀ s nw Q E S kn kr kx
  obtain ⟨nm, q, N, bs, hdct, sn, sub, ab, col, dd, k0, k1, k2, k3, k5, hlk⟩ := bad_obj w hC
  refine wpAny_cons ?_
  rw [arm_exec_Raise]
  refine wpAny_bind (wpAny_standAt ?_)
  show wpAny _ _ (raiseStmt env (some (do let v ← eval (.Call (.Name x np) [arg] [] cpos) env; standAt pos; pure v)) Option.none) _ _ s
  refine xr_stmt (C := C) (nm := nm) (q := q) (N := N) (bs := bs) (hdct := hdct) (sn := sn) (sub := sub) (ab := ab) (col := col) (dd := dd) (k0 := k0) (k1 := k1) (k2 := k2) (k3 := k3) (k5 := k5) (newId := "Exception.__new__") (bad_chain hC).base hh (wpAny_bind (wpAny_mono (?k) (fun v s₁ h₁ => wpAny_bind (wpAny_standAt (wpAny_pure h₁))) fun _ _ e => e))
  refine wpAny_Call_ofName (name_top S.st hx hg ?_ hd)
  show wpAny _ _ (callWith cpos (.ref C) [] (backTo cpos (starEach [arg] env)) []) _ _ s
  refine callWith_K S.st.gl.K (bad_keep w hC) ((Evs.cons he .nil hs) cpos s nw _ _ S.st fun vs s₁ nw₁ g₁ d₁ => ⟨(S.grow g₁).st.gl.K, ?_⟩) hs rfl
  obtain ⟨v, rfl, hv⟩ := one d₁
  have S₁ := S.grow g₁
  refine xi_make S₁.st.gl hroom hC fun h' tk D e t e1 e2 e3 e4 e5 => ?_
  have K₂ : Kp s₁.heap h' := .of e5
  refine ⟨e, _, _, rfl, e5 _ _ (S₁.st.gl.K _ _ hlk), e1, rfl, rfl, rfl, kx _ _ ⟨e, Option.none, rfl, ⟨⟨D, v, _, nw₁, S₁.since.trans (.of_up S₁.since.has (.both e5)), ⟨⟨_, _, e1, rfl, rfl⟩, e2, fun _ _ q => by cases q⟩, by simp, hv⟩, S₁.stk.keeps K₂, fun b hb => ?_⟩, .inl rfl⟩⟩
  rw [List.mem_singleton.mp hb]
  exact S₁.since.up.keep.none e4
end
end

section
set_option maxHeartbeats 1000000
variable [Inhabited Thr]
/-- a call that raises -/
noncomputable def ClX (w : World) (A : Around) (f : Value) (ds : List Dat) (C : Addr) (d : Dat) : Prop :=
  ∀ (s : Shared) (nw : Led) (vs : List Value) (Q : Value → Shared → Prop) (E : Value → Shared → Prop), Gl w s.heap → Stk A s.heap → Has s.heap nw → DatAll nw vs ds →
    (∀ a T s', BadAt A C d s nw a s' (some (T, .none)) → E (.ref a) s') → wpAny (model Prg w) A (call f vs) Q E s
noncomputable def FnX (w : World) (k : Nat) (f : Value) (ds : List Dat) (C : Addr) (d : Dat) : Prop := ∀ A, Room A k → ClX w A f ds C d
theorem Stk.pop {A : Around} {env : Env} {h h' : Heap} (x : Stk A h) (y : Stk (A.deeper env) h') : Stk A h' := by
  obtain ⟨l, e, r⟩ := x
  obtain ⟨l', e', r'⟩ := y
  rw [Around.frames_deeper e] at e'; cases e'
  exact ⟨l, e, fun env he => r' env (.tail _ he)⟩
theorem FnX.intro {w : World} {f : Addr} {name qual : Str} {params : Arguments} {body : List Stmt} {scope : Scope} {dV kV doc pm cdv ct oc : Value} {an od : Option Addr} {osl : Array (Option Value)} {xs : List Str} {ds : List Dat} {C : Addr} {d : Dat} {k : Nat}
    (ho : (KK w).lookup f = some ⟨oc, od, .func (fnOf name qual params body scope dV kV doc pm an cdv ct), osl⟩) (hcd : codeIn (KK w) cdv qual = true)
    (hbind : ∀ vs : List Value, vs.length = ds.length → bindArgs (fnOf name qual params body scope dV kV doc pm an cdv ct) ⟨vs, []⟩ = pure (xs.zip vs)) (hloc : ∀ x ∈ xs, scope.names.lookup x = some .local) (hcell : ∀ x ∈ scope.names, x.2 ≠ .cell)
    (hk : scope.kind = .function) (hco : scope.isCoroutine = false) (hgen : scope.isGenerator = false)
    (h : ∀ A L, Room A k → XOk w A (envOf qual scope L f cdv) (BadX A C d L) → Ex w A (envOf qual scope L f cdv) (fun _ => False) (BadX A C d L) ((xs.zip ds).reverse) none body fun _ _ => False) : FnX w (k + 1) (.ref f) ds C d := by
  intro A hA s nw vs Q E G KS H D kk
  obtain ⟨l, hl, _⟩ := id KS
  refine wpAny_call (enter ho hcd G KS H D hA.lt (hbind vs D.length) hloc hcell hk hco hgen fun L s₁ S₁ => ?_)
  have hfr := Around.frames_deeper (env := envOf qual scope L f cdv) hl
  refine (h _ L (hA.deeper _) (BadX.ok hfr rfl)).run s nw s₁ nw _ _ S₁ (fun _ _ _ _ h => h.elim) (fun d v s' nw' hr g hv => hr.elim) fun e s' B => ?_
  refine B.leaves hfr rfl fun a T s'' he B' => ?_
  subst he
  exact kk a T s'' ⟨B'.ex, KS.pop B'.stk, B'.new⟩
end

section
open PySem.Builtin
set_option maxHeartbeats 1000000
variable [Inhabited Thr]
theorem ite_yes' {c : Prop} [Decidable c] {X Y : Prop} (hc : c) (h : X) : if c then X else Y := by rw [if_pos hc]; exact h
theorem bad_ga (w : World) {C : Addr} (h : isBad C) : findIn (KK w) (.ref C) (Str.ofString "__getattribute__") = some (some (.builtin "BaseException.__getattribute__")) := by
  rcases h with rfl | rfl <;> (unfold KK; kernel_rfl)
theorem bad_getattr (w : World) {C : Addr} (h : isBad C) : findIn (KK w) (.ref C) (Str.ofString "__getattr__") = some none := by
  rcases h with rfl | rfl <;> (unfold KK; kernel_rfl)
section
variable {w : World} {A : Around} {E : Value → Shared → Prop} {s : Shared} {C D a : Addr} {m : Str → Option Value} {tb : Option (Addr × Value)} {v : Value} {Q : Value → Shared → Prop}
theorem xg_get (X : (KK w).In s.heap) (hC : isBad C) (B : Exc C D m s.heap a tb) (hm : m (Str.ofString "told") = some v) (hv : handedIn v = true) (expr : Bool) (h : Q v { s with toks := s.toks + 1 }) : wpAny (model Prg w) A (getAttr (.ref a) (Str.ofString "told") expr) Q E s := by
  obtain ⟨vs, sl, he, hsz, h1⟩ := B.obj
  have LT : Looks (model Prg w) s.heap (typeOf (.ref a)) (.ref C) := (Looks.ld he).andThen .now
  unfold getAttr getAttrBy
  refine wpAny_bind (wpAny_mkText (wpAny_holding (wpAny_bind (LT _ _ _ _ (fun _ _ e => e) (wpAny_bind (looks_findIn X (bad_ga w hC) _ _ _ _ (fun _ _ e => e) ?_))))))
  refine wpAny_ite (KBy.ite_no (by rw [Bool.and_eq_true]; rintro ⟨_, h⟩; revert h; decide) ?_)
  unfold getAttrByItsOwn hookBefore
  refine wpAny_bind ?_
  refine wpAny_ite (ite_yes' rfl ?_)
  refine looks_findIn X (bad_getattr w hC) _ _ _ _ (fun _ _ e => e) ?_
  refine wpAny_bind (wpAny_attempt (wpAny_holding ?_))
  unfold callGetattribute boundAndCalled
  refine wpAny_ite (KBy.ite_no (by cases expr <;> decide) ?_)
  have FB := PySem.F.attrBase_Exception
  rw [FB.ga.bind (.ref a)]
  refine wpAny_bind (wpAny_pure ?_)
  have hk : builtinKind "BaseException.__getattribute__" = some .slot := by decide +kernel
  have hsplit : splitId "BaseException.__getattribute__" = some ("BaseException", "__getattribute__") := by decide +kernel
  refine wpAny_call (codeAny_call_builtin FB.ga.plain PySem.F.entry_bexc_ga (@check_slot (model Prg w) _ _ _ "BaseException.__getattribute__" "BaseException" "__getattribute__" (.ref a) [.str (Str.ofString "told") s.toks] [] _ hk hsplit (LT.andThen (looks_mroIn X (bad_base w hC))) (PySem.F.args_bexc_ga _ _) ?_))
  obtain ⟨cd, hcd, hmro, hhas⟩ := bad_cls w hC
  refine wpAny_bind (wpAny_of_eq (a := (.ref a, [.str (Str.ofString "told") s.toks])) rfl ?_)
  dsimp only
  refine wpAny_bind (wpAny_pure ?_)
  refine wpAny_bind (LT _ _ _ _ (fun _ _ e => e) ?_)
  refine wpAny_bind ?_
  unfold ObjectAttr.find
  refine wpAny_bind (looks_findIn X (bad_told w hC) _ _ _ _ (fun _ _ e => e) (wpAny_bind (wpAny_pure (wpAny_bind (wpAny_pure ?_)))))
  unfold ObjectAttr.ownThenClass ObjectAttr.inOwnDict ObjectAttr.ownDict
  refine wpAny_bind (wpAny_bind (wpAny_bind (wpAny_loadPart he ?_)))
  dsimp only
  unfold instanceDict
  refine wpAny_bind (wpAny_loadPart he ?_)
  dsimp only
  refine wpAny_bind (looks_clsIn X hcd _ _ _ _ (fun _ _ e => e) ?_)
  rw [hhas]
  refine wpAny_pure ?_
  refine wpAny_nsGet B.ns ?_
  rw [hm]
  dsimp only
  refine wpAny_bind (wpAny_point (wpAny_pure ?_))
  dsimp only
  refine wpAny_pure ?_
  show wpAny _ _ (handedOut v) _ _ _
  rw [handedOut_of hv]
  exact wpAny_pure h
end
end

section
set_option maxHeartbeats 1000000
variable [Inhabited Thr]
section
variable {w : World} {A : Around} {env : Env} {R : Dat → Prop} {X : Shared → Led → Value → Shared → Prop} {ρ : Loc} {rest : List Stmt} {N : Loc → Own → Prop}
/-- found = [] : the new list is the frame's own -/
theorem Ex.own {x : Str} {px lp pos : Pos} (hr : Ex w A env R X ρ (some (x, [])) rest N) (hx : env.kindOf x = some .local := by rfl) (hxn : look ρ x = Option.none := by rfl)
    (hs : swapsWith (.List [] lp) (some (.Name x px)) pos.line env = pure false := by rfl) : Ex w A env R X ρ none (.Assign [.Name x px] (.List [] lp) pos :: rest) N := by
  refine ⟨?_⟩
  intro s₀ nw₀ s nw Q E S kn kr kx
  refine wpAny_cons (wpAny_Assign_Name (wpAny_List (wpAny_items_nil ⟨Nat.zero_le _, ?_⟩)) hs)
  have ga : s.heap.get? s.heap.objs.size = none := get_new
  have g₁ : Grow s { s with heap := s.heap.push { cls := .type "list", data := .seq ([] : List Value).toArray } } nw nw := .of_up S.since.has pushUp
  have hne : ∀ p ∈ nw, p.1 ≠ s.heap.objs.size := fun p hp q => by
    have := (S.since.has p hp).1
    rw [q, ga] at this; cases this
  exact (S.grow g₁).store_own hx hxn (Heap.get?_push_size _ rfl) .nil hne (none_back S.since.up.keep ga) fun s₂ S₂ => (hr).run s₀ nw₀ s₂ nw Q E S₂ kn kr kx
end
end

section
set_option maxHeartbeats 1000000
variable [Inhabited Thr]
/-- an expression that raises -/
structure EvR (w : World) (A : Around) (env : Env) (ρ : Loc) (e : Expr) (C : Addr) (d : Dat) : Prop where
  run : ∀ (s : Shared) (nw : Led) (Q : Value → Shared → Prop) (E : Value → Shared → Prop), St w A env ρ s nw →
    (∀ a T s', BadAt A C d s nw a s' (some (T, .none)) → E (.ref a) s') → wpAny (model Prg w) A (eval e env) Q E s
section
variable {w : World} {A : Around} {env : Env} {ρ : Loc} {C : Addr} {d : Dat}
theorem BadAt.under {s₀ s₁ s' : Shared} {nw₀ nw₁ : Led} {a : Addr} {tb : Option (Addr × Value)} (g : Grow s₀ s₁ nw₀ nw₁) (B : BadAt A C d s₁ nw₁ a s' tb) : BadAt A C d s₀ nw₀ a s' tb := by
  obtain ⟨⟨D, v, m, nw', g', X, hm, hv⟩, ks, n⟩ := B
  exact ⟨⟨D, v, m, nw', g.trans g', X, hm, hv⟩, ks, fun b hb => g.up.keep.none (n b hb)⟩
theorem EvR.callTop {x : Str} {np pos : Pos} {f : Addr} {e : Expr} {es : List Expr} {ds : List Dat} (hx : nsIn (KK w) mainGlobals x = some (some (.ref f))) (hk : fnIn (KK w) f = true)
    (ha : Evs w A env ρ (e :: es) ds) (hf : ClX w A (.ref f) ds C d) (hg : env.kindOf x = some .globalImplicit) (hd : (x == ("__debug__" : Str)) = false := by decide)
    (he : starEach (e :: es) env = (false, eval e env) :: starEach es env := by rfl) (hp : (backTo pos (starEach es env)).any (·.1) = false := by rfl) : EvR w A env ρ (.Call (.Name x np) (e :: es) [] pos) C d := by
  refine ⟨?_⟩
  intro s nw Q E S k
  refine wpAny_Call_ofName (name_top S hx hg ?_ hd)
  show wpAny _ _ (callWith pos (.ref f) [] (backTo pos (starEach (e :: es) env)) []) Q E s
  obtain ⟨o, ho, hnd, hk1⟩ := keep_one hk
  refine callWith_K (one_in (S.gl.at ho hnd)) hk1 (ha pos s nw _ _ S fun vs s₁ nw₁ g₁ d₁ => ⟨one_in ((S.grow g₁).gl.at ho hnd), ?_⟩) he hp
  exact hf s₁ nw₁ vs _ _ (S.grow g₁).gl (S.grow g₁).stk g₁.has d₁ fun a T s' B => k a T s' (B.under g₁)
theorem EvR.callT1 {x : Str} {np pos : Pos} {T : String} {e : Expr} (hx : nsIn (KK w) mainGlobals x = some none) (hv : bootBuiltins x = some (.type T)) (hn : x ≠ "__name__")
    (ha : EvR w A env ρ e C d) (hg : env.kindOf x = some .globalImplicit) (hd : (x == ("__debug__" : Str)) = false := by decide)
    (he : starEach [e] env = (false, eval e env) :: starEach [] env := by rfl) : EvR w A env ρ (.Call (.Name x np) [e] [] pos) C d := by
  refine ⟨?_⟩
  intro s nw Q E S k
  refine wpAny_Call_ofName (name_boot S hx hv hn hg ?_ hd)
  show wpAny _ _ (callWith pos (.type T) [] (backTo pos (starEach [e] env)) []) Q E s
  exact callWith_type1 (wpAny_items_cons (ha.run s nw _ _ S k) he) he rfl
theorem EvR.ite {t x y : Expr} {pos : Pos} {b : Bool} (ht : Tr w A env ρ t b) (hx : b = true → EvR w A env ρ x C d) (hy : b = false → EvR w A env ρ y C d) : EvR w A env ρ (.IfExp t x y pos) C d := by
  refine ⟨?_⟩
  intro s nw Q E S k
  refine wpAny_IfExp (ht.run s nw _ _ S fun s₁ nw₁ g₁ => ?_)
  cases b with
  | true => simp only [if_true]; exact (hx rfl).run s₁ nw₁ _ _ (S.grow g₁) fun a T s' B => k a T s' (B.under g₁)
  | false => simp only [Bool.false_eq_true, if_false]; exact (hy rfl).run s₁ nw₁ _ _ (S.grow g₁) fun a T s' B => k a T s' (B.under g₁)
/-- a test whose left side raises -/
theorem EvR.iteCmp {op : CmpOp} {l r x y : Expr} {pos cp : Pos} (hl : EvR w A env ρ l C d)
    (hm : behindInMarks op r = false := by with_unfolding_all rfl) : EvR w A env ρ (.IfExp (.Compare l [op] [r] cp) x y pos) C d := by
  refine ⟨?_⟩
  intro s nw Q E S k
  exact wpAny_IfExp (wpAny_isTrue_Compare1 (hl.run s nw _ _ S k) hm)

theorem Fs.around {A' : Around} {s₀ s : Shared} {nw₀ nw : Led} {own : Own} (S : Fs w A env s₀ nw₀ ρ own s nw) (h : A'.frames = A.frames) : Fs w A' env s₀ nw₀ ρ own s nw :=
  { S with stk := let ⟨l, e, r⟩ := S.stk; ⟨l, h.trans e, r⟩ }
/-- a name's value changed that the list of names does not tell -/
theorem Fs.hidden {s₀ s : Shared} {nw₀ nw : Led} {own : Own} (S : Fs w A env s₀ nw₀ ρ own s nw) {n : Str} {m m' : Str → Option Value} {h' : Heap} {tk : Nat} (hn : look ρ n = none) (ho : ∀ y ds, own = some (y, ds) → y ≠ n)
    (hns : s.heap.Ns env.locals m) (hn' : h'.Ns env.locals m') (he : ∀ x, x ≠ n → m' x = m x) (hs' : Heap.SameBut env.locals s.heap h') : Fs w A env s₀ nw₀ ρ own { s with heap := h', toks := tk } nw := by
  obtain ⟨oL, es, ep, hL, hLd, _⟩ := id hns
  obtain ⟨g, has⟩ := S.but hL (notSeq_dict hLd) S.fr (tk := tk) hs'
  have keepCell : ∀ c v, s.heap.IsCell c v → h'.IsCell c v := fun c v hc => hc.sameBut hs' fun q => by
    obtain ⟨o, ho, hd⟩ := hc
    rw [q, hL] at ho
    cases ho
    rw [hLd] at hd; cases hd
  refine ⟨S.fits, S.gl₀, S.stk.but hs' (fun _ _ => ⟨_, hn'⟩), g, S.fr, ⟨_, hn'⟩, fun y c e => ?_, S.apart, fun y dy e => ?_, fun y ds e => ?_⟩
  · obtain ⟨a, v', hc⟩ := S.cells y c e
    exact ⟨a, v', keepCell c v' hc⟩
  · obtain ⟨u, hu, hn0⟩ := S.names y dy e
    have q : y ≠ n := fun q => by rw [q, hn] at e; cases e
    refine ⟨u, hu, ?_⟩
    rcases hn0 with ⟨ha, m₂, hm₂, hy⟩ | ⟨ha, c, hc, hcc⟩
    · refine .inl ⟨ha, _, hn', ?_⟩
      rw [he y q, ← hy]
      exact hns.agree hm₂ y
    · exact .inr ⟨ha, c, hc, keepCell c _ hcc⟩
  · obtain ⟨a, vs, k, hk, ⟨m₂, hm₂, hy⟩, ha, hds, hne, h0⟩ := S.own y ds e
    refine ⟨a, vs, k, hk, ⟨_, hn', ?_⟩, (hs'.2 a fun q => ?_).trans ha, hds, hne, h0⟩
    · rw [he y (ho y ds e), ← hy]
      exact hns.agree hm₂ y
    · rw [q, hL] at ha; cases ha; cases hLd
theorem Exc.store {D a L : Addr} {m m₁ m₂ : Str → Option Value} {tb : Option (Addr × Value)} {h h' : Heap} {v : Value} (X : Exc C D m h a tb) (hns : h.Ns L m₁) (hn' : h'.Ns L m₂) (hs : Heap.SameBut L h h') (hv : m (Str.ofString "told") = some v)
    (he : m₂ (Str.ofString "told") = m₁ (Str.ofString "told")) : ∃ m', Exc C D m' h' a tb ∧ m' (Str.ofString "told") = some v := by
  obtain ⟨oL, es, ep, hL, hLd, _⟩ := id hns
  obtain ⟨vs, sl, hobj, hsz, h1⟩ := id X.obj
  have ha : a ≠ L := fun q => by rw [q, hL] at hobj; cases hobj; cases hLd
  have htr : ∀ T f, tb = some (T, f) → T ≠ a ∧ ∃ oT ts, h'.get? T = some oT ∧ oT.data = .fields ts ∧ ts[3]? = some f := fun T f e => by
    obtain ⟨q, oT, ts, hT, hdT, h3⟩ := X.trace T f e
    exact ⟨q, oT, ts, (hs.2 T fun z => by rw [z, hL] at hT; cases hT; rw [hLd] at hdT; cases hdT).trans hT, hdT, h3⟩
  by_cases q : D = L
  · subst q
    exact ⟨m₂, ⟨⟨vs, sl, (hs.2 a ha).trans hobj, hsz, h1⟩, hn', htr⟩, he.trans ((hns.agree X.ns _).trans hv)⟩
  · exact ⟨m, ⟨⟨vs, sl, (hs.2 a ha).trans hobj, hsz, h1⟩, X.ns.sameBut hs q, htr⟩, hv⟩
end
/-- the handler's expression, its name bound to the exception -/
noncomputable def HandEv (w : World) (env : Env) (n : Str) (he : Expr) (C : Addr) (d d' : Dat) : Prop :=
  ∀ (A : Around) (a : Addr) (tb : Option (Addr × Value)) (s : Shared) (nw : Led) (m₁ : Str → Option Value) (Q : Value → Shared → Prop) (E : Value → Shared → Prop), (KK w).In s.heap → Has s.heap nw → env.scope.kind = .function → env.kindOf n = some .local →
    s.heap.Ns env.locals m₁ → m₁ n = some (.ref a) → (∃ D m v, Exc C D m s.heap a tb ∧ m (Str.ofString "told") = some v ∧ DatIn nw v d) →
    (∀ v' s' nw', Grow s s' nw nw' → DatIn nw' v' d' → Q v' s') → wpAny (model Prg w) A (eval he env) Q E s
theorem handed_dat {nw : Led} {v : Value} {d : Dat} (h : DatIn nw v d) : handedIn v = true := by cases h <;> rfl
section
variable {w : World} {env : Env} {C : Addr} {d : Dat}
theorem HandEv.told {n : Str} {np pos : Pos} (hC : isBad C) (hd : (n == ("__debug__" : Str)) = false := by decide) : HandEv w env n (.Attribute (.Name n np) (Str.ofString "told") pos) C d d := by
  intro A a tb s nw m₁ Q E K H hk hl hns hm ⟨D, m, v, X, hv, hdat⟩ k
  refine Attribute_name (wpAny_Name (wpAny_loadName_local hk hl hns hm ?_) hd)
  exact xg_get K hC X hv (handed_dat hdat) true (k v _ nw (.toks H) hdat)
theorem HandEv.told0 {n : Str} {np ap pos : Pos} {k0 : Nat} {ip : Pos} {i : Dat} {ds : List Dat} (hC : isBad C) (hd : (n == ("__debug__" : Str)) = false := by decide) :
    HandEv w env n (.Subscript (.Attribute (.Name n np) (Str.ofString "told") ap) (.Constant (.int 0) k0 ip) pos) C (.tuple (i :: ds)) i := by
  intro A a tb s nw m₁ Q E K H hk hl hns hm hx k
  refine Subscript_ (HandEv.told hC hd A a tb s nw m₁ _ _ K H hk hl hns hm hx fun v s₁ nw₁ g₁ d₁ => wpAny_Constant_int ?_)
  obtain ⟨b, vs, z, rfl, hmem, hr⟩ := datTuple d₁
  have ht : IsTup s₁.heap b vs.toArray := isTup_at g₁.has hmem
  obtain ⟨x, hx0, hdx⟩ := hr.get (k := 0) (by simp)
  have hlen := hr.length
  have hj : seqIndex? 0 vs.toArray.size = some 0 := by
    have hz : vs.length = ds.length + 1 := by simpa using hlen
    unfold seqIndex?
    rw [List.size_toArray, hz]
    have h1 : (0 : Int) ≤ 0 := by omega
    have h2 : (0 : Int) < ((ds.length + 1 : Nat) : Int) := by omega
    simp [h2]
  refine tail_any (s := { s₁ with toks := s₁.toks + 1 }) (show IsTup _ b vs.toArray from ht).typeIs PyProof.Rows.slot_tuple_getitem.lookup (getItem_tuple (s := { s₁ with toks := s₁.toks + 1 }) ht (by omega) (by omega) hj (by simpa using hx0) (k _ _ nw₁ (g₁.trans (.toks g₁.has)) ?_)) rfl
  simpa using hdx
end
section
variable {w : World} {A : Around} {env : Env} {outer : List Env} {L : Addr} {R : Dat → Prop} {X : Shared → Led → Value → Shared → Prop} {ρ : Loc} {rest : List Stmt} {N : Loc → Own → Prop} {d : Dat}
theorem Ex.tryOk {x : Str} {px apos pos : Pos} {e : Expr} {h₀ : ExceptHandler} {hs : List ExceptHandler} (he : Ev w A env ρ e d) (hr : Ex w A env R X ((x, d) :: ρ) none rest N) (hl : env.kindOf x = some .local := by rfl)
    (hsw : swapsWith e (some (.Name x px)) apos.line env = pure false := by rfl) : Ex w A env R X ρ none (.Try [.Assign [.Name x px] e apos] (h₀ :: hs) [] [] pos :: rest) N := by
  refine ⟨?_⟩
  intro s₀ nw₀ s nw Q E S kn kr kx
  refine wpAny_cons (wpAny_Try_except ?_)
  refine wpAny_cons (wpAny_Assign_Name (he.run s nw _ _ S.st fun v s₁ nw₁ g₁ d₁ => ?_) hsw)
  refine (S.grow g₁).store_local hl d₁ (fun _ _ e => by cases e) fun s₂ S₂ => wpAny_execs_nil (wpAny_execs_nil ?_)
  exact (hr).run s₀ nw₀ s₂ nw₁ Q E S₂ kn kr kx
theorem Ex.tryBad {C : Addr} {x n cn : Str} {px hx apos np hap hpos pos : Pos} {e he : Expr} {d' : Dat} (hfr : A.frames = some (env :: outer)) (hf : env.frame = some L) (hC : isBad C) (hev : EvR w A env ρ e C d)
    (hhd : HandEv w env n he C d d') (hcn : nsIn (KK w) mainGlobals cn = some (some (.ref C))) (hr : Ex w A env R X ((x, d') :: ρ) none rest N) (hcg : env.kindOf cn = some .globalImplicit := by rfl)
    (hl : env.kindOf x = some .local := by rfl) (hln : env.kindOf n = some .local := by rfl) (hnr : look ρ n = Option.none := by rfl) (hnx : n ≠ x := by decide) (hnt : Str.ofString "told" ≠ n := by decide) (hcd : (cn == ("__debug__" : Str)) = false := by decide)
    (hsw : swapsWith e (some (.Name x px)) apos.line env = pure false := by rfl) (hsw' : swapsWith he (some (.Name x hx)) hap.line env = pure false := by rfl) :
    Ex w A env R X ρ none (.Try [.Assign [.Name x px] e apos] [.ExceptHandler (some (.Name cn np)) (some n) [.Assign [.Name x hx] he hap] hpos] [] [] pos :: rest) N := by
  refine ⟨?_⟩
  intro s₀ nw₀ s nw Q E S kn kr kx
  refine wpAny_cons (wpAny_Try_except ?_)
  refine wpAny_cons (wpAny_Assign_Name (hev.run s nw _ _ S.st fun a T s' B => ?_) hsw)
  obtain ⟨D, v, m, nw', g, X₀, hm, hv⟩ := id B.ex
  have flds : ∀ {h : Heap} {b : Addr} {tb : Option (Addr × Value)}, Exc C D m h a tb → b ∈ tbl tb ++ [a] → ∀ o, h.get? b = some o → ∃ vs, o.data = .fields vs := fun X hb => X.flds _ (by
    rcases List.mem_append.mp hb with h | h
    · exact .tail _ h
    · rw [List.mem_singleton.mp h]; exact .head _)
  refine X₀.noteOn hfr B.stk hf fun h₁ T₁ X₁ k₁ n₁ => ?_
  have w₁ : ∀ b ∈ [T, a], b ∈ a :: tbl (some (T, Value.none)) := fun b hb => by
    rcases List.mem_cons.mp hb with rfl | hb
    · exact .tail _ (.head _)
    · rw [List.mem_singleton.mp hb]; exact .head _
  have g₁ := grow_x g k₁ (fun b hb => B.new b (w₁ b hb)) (fun b hb => X₀.flds b (w₁ b hb))
  have st₁ := stk_x B.stk k₁ (fun b hb => X₀.flds b (w₁ b hb))
  have na : s.heap.get? a = Option.none := B.new a (.head _)
  have nT : s.heap.get? T₁ = Option.none := g.up.keep.none n₁
  refine X₁.flight (x := Option.none) fun h₂ X₂ k₂ => ?_
  have nTl : ∀ b ∈ [T₁], s.heap.get? b = Option.none := fun b hb => by rw [List.mem_singleton.mp hb]; exact nT
  have g₂ := grow_x g₁ k₂ nTl (fun b hb => X₁.flds b (.tail _ hb))
  have S₂ := S.grow g₂
  have SM₂ : Fs w (A.mark (some (.ref a))) env s₀ nw₀ ρ none { s' with heap := h₂ } nw' := S₂.around rfl
  obtain ⟨nm, q, Nn, bs, hdct, sn, sub, ab, col, dd, k0, k1, k2, k3, k5, hlk⟩ := bad_obj w hC
  refine wpAny_handleBy_cons ?_ (by unfold byPass; simp)
  refine codeAny_handlers_test (name_top SM₂.st hcn hcg ?_ hcd)
  obtain ⟨vs, sl, hobj, hsz, h1⟩ := id X₂.obj
  refine wpAny_excMatches_sub_self (S₂.st.gl.K _ _ hlk) hobj rfl (by decide) ?_
  show codeAny _ _ _ _ _
  refine codeAny_handlers_suite_as (X₂.flight (s := { s' with heap := h₂ }) (x := Option.none) fun h₃ X₃ k₃ => ?_)
  have g₃ := grow_x g₂ k₃ nTl (fun b hb => X₂.flds b (.tail _ hb))
  have S₃ := S.grow g₃
  obtain ⟨m₃, hns₃⟩ := S₃.ns
  refine wpAny_storeName_local hln hns₃ (fun h₄ hns₄ hs₄ => ?_) (by rw [S.fits.hk]; rfl)
  have S₄ := S₃.hidden (tk := s'.toks + 1) hnr (fun _ _ e => by cases e) hns₃ hns₄ (fun z hz => if_neg hz) hs₄
  obtain ⟨m₄, X₄, hm₄⟩ := X₃.store hns₃ hns₄ hs₄ hm (if_neg hnt)
  have SM₄ : Fs w (A.mark (some (.ref a))) env s₀ nw₀ ρ none { s' with heap := h₄, toks := s'.toks + 1 } nw' := S₄.around rfl
  refine wpAny_cons (wpAny_Assign_Name (hhd (A.mark (some (.ref a))) a _ _ nw' _ _ _ SM₄.st.gl.K SM₄.since.has S.fits.hk hln hns₄ (if_pos rfl) ⟨D, m₄, v, X₄, hm₄, hv⟩ fun v' s₅ nw₅ g₅ d₅ => ?_) hsw')
  refine (SM₄.grow g₅).store_local hl d₅ (fun _ _ e => by cases e) fun s₆ S₆ => wpAny_execs_nil ?_
  have S₆' : Fs w A env s₀ nw₀ ((x, d') :: ρ) none s₆ nw₅ := S₆.around rfl
  obtain ⟨m₆, hns₆⟩ := S₆.ns
  show wpAny _ _ _ _ _ _
  refine wpAny_nameGoes_keeps hln hns₆ (by rw [S.fits.hk]; rfl) fun h₇ v₇ hns₇ hs₇ => ?_
  have S₇ := S₆'.hidden (tk := s₆.toks + 1) (n := n) (by unfold look; rw [if_neg hnx]; exact hnr) (fun _ _ e => by cases e) hns₆ hns₇ (fun z hz => if_neg hz) hs₇
  exact (hr).run s₀ nw₀ _ nw₅ Q E S₇ kn kr kx
end
/-- Fn.intro, the frames told -/
theorem Fn.introT {w : World} {f : Addr} {name qual : Str} {params : Arguments} {body : List Stmt} {scope : Scope} {dV kV doc pm cdv ct oc : Value} {an od : Option Addr} {osl : Array (Option Value)} {xs : List Str} {ds : List Dat} {r : Dat} {k : Nat}
    (ho : (KK w).lookup f = some ⟨oc, od, .func (fnOf name qual params body scope dV kV doc pm an cdv ct), osl⟩) (hcd : codeIn (KK w) cdv qual = true)
    (hbind : ∀ vs : List Value, vs.length = ds.length → bindArgs (fnOf name qual params body scope dV kV doc pm an cdv ct) ⟨vs, []⟩ = pure (xs.zip vs)) (hloc : ∀ x ∈ xs, scope.names.lookup x = some .local) (hcell : ∀ x ∈ scope.names, x.2 ≠ .cell)
    (hk : scope.kind = .function) (hco : scope.isCoroutine = false) (hgen : scope.isGenerator = false)
    (h : ∀ A L l, Room A k → A.frames = some (envOf qual scope L f cdv :: l) → Ex w A (envOf qual scope L f cdv) (fun d => d = r) noX ((xs.zip ds).reverse) none body fun _ _ => False) : Fn w (k + 1) (.ref f) ds r := by
  intro A hA s nw vs Q E G KS H D kk
  obtain ⟨l, hl, _⟩ := id KS
  refine wpAny_call (enter ho hcd G KS H D hA.lt (hbind vs D.length) hloc hcell hk hco hgen fun L s₁ S₁ => ?_)
  exact (h _ L l (hA.deeper _) (Around.frames_deeper hl)).run s nw s₁ nw _ _ S₁ (fun _ _ _ _ h => h.elim) (fun d v s' nw' hr g hv => by subst hr; exact kk v s' nw' g hv) fun _ _ h => h.elim
end

section
set_option maxHeartbeats 2000000
variable [Inhabited Thr]
section
variable {w : World}
theorem Ev.is_scalar {A : Around} {env : Env} {ρ : Loc} {np pos : Pos} {e : Expr} {n : Int} (he : Ev w A env ρ e (.int n)) (hA : Room A 2) (hg : env.kindOf "is_scalar" = some .globalImplicit) (hs : starEach [e] env = (false, eval e env) :: starEach [] env) :
    Ev w A env ρ (.Call (.Name "is_scalar" np) [e] [] pos) (.bool (scalarI n)) := Ev.callTop (g_is_scalar w) (k_is_scalar w) (.cons he .nil hs) (fn_is_scalar n A hA) hg (he := hs)
theorem Ev.utf8_octets {A : Around} {env : Env} {ρ : Loc} {np pos : Pos} {e : Expr} {c : Nat} (he : Ev w A env ρ e (.int c)) (hc : c < 1114112) (hA : Room A 1) (hg : env.kindOf "utf8_octets" = some .globalImplicit) (hs : starEach [e] env = (false, eval e env) :: starEach [] env) :
    Ev w A env ρ (.Call (.Name "utf8_octets" np) [e] [] pos) (.list ((encI c).map .int)) := Ev.callTop (g_utf8_octets w) (k_utf8_octets w) (.cons he .nil hs) (fn_utf8_octets c hc A hA) hg (he := hs)
theorem Ev.utf8_length {A : Around} {env : Env} {ρ : Loc} {np pos : Pos} {e : Expr} {c : Nat} (he : Ev w A env ρ e (.int c)) (hc : c < 1114112) (hA : Room A 1) (hg : env.kindOf "utf8_length" = some .globalImplicit) (hs : starEach [e] env = (false, eval e env) :: starEach [] env) :
    Ev w A env ρ (.Call (.Name "utf8_length" np) [e] [] pos) (.int (enc c).length) := Ev.callTop (g_utf8_length w) (k_utf8_length w) (.cons he .nil hs) (fn_utf8_length c hc A hA) hg (he := hs)
theorem scalar_nat (c : Nat) : scalarI c = isScalar c := by
  unfold scalarI isScalar
  rw [Bool.eq_iff_iff]
  simp only [Bool.and_eq_true, Bool.or_eq_true, Bool.not_eq_true', Bool.and_eq_false_iff, decide_eq_true_eq, decide_eq_false_iff_not]
  omega
theorem scalar_lt {c : Nat} (h : isScalar c = true) : c < 1114112 := by
  unfold isScalar at h
  simp only [Bool.and_eq_true, Bool.or_eq_true, decide_eq_true_eq] at h
  omega
theorem encs_len (cs : List Nat) : (cs.flatMap enc).length ≤ 4 * cs.length := by
  induction cs with
  | nil => simp
  | cons c cs ih => have := enc_len c; simp only [List.flatMap_cons, List.length_append, List.length_cons]; omega
theorem natsD_get {ns : List Nat} {i : Nat} {d : Dat} (h : (natsD ns)[i]? = some d) : ∃ c, ns[i]? = some c ∧ d = .int (c : Nat) := by
  simp only [natsD, List.getElem?_map] at h
  cases q : ns[i]? with
  | none => rw [q] at h; cases h
  | some c => rw [q] at h; cases h; exact ⟨c, rfl, rfl⟩
theorem flat_take {cs : List Nat} {i c : Nat} (h : cs[i]? = some c) : (cs.take (i + 1)).flatMap enc = (cs.take i).flatMap enc ++ enc c := by
  rw [List.take_add_one, h]; simp
theorem fn_encode (cs : List Nat) (hs : ∀ c ∈ cs, isScalar c = true) (hz : cs.length ≤ 200) : Fn w 3 (.ref 101) [.list (natsD cs)] (bytesD (cs.flatMap encB)) := by
  refine' Fn.intro (xs := ["text"]) ?ho ?hcd (bind1 ?hb) ?hl ?hc ?hk ?hco ?hg ?h
  tb_start
  case hb => intro v; exact rfl
  intro A L hA
  refine Ex.own ?_
  refine Ex.for XOk.none (items := natsD cs) (EvIter.of (Ev.name rfl (by decide)) (Iter.list hA.hh)) (fun i ρ own => own = some (Str.ofString "found", natsD ((cs.take i).flatMap enc)) ∧ AllIn [] ρ)
    (fun i ρ => ("code", .int (cs.getD i 0 : Nat)) :: ρ) ⟨rfl, trivial⟩ ?_ ?_ ?_
  · rintro i d ρ own hd ⟨rfl, hall⟩
    obtain ⟨c, hc, rfl⟩ := natsD_get hd
    have : cs.getD i 0 = c := by simp [List.getD, hc]
    rw [this]
    exact Asg.name (fun _ _ e => by cases e; decide)
  · rintro i d ρ own hd ⟨rfl, hall⟩
    obtain ⟨c, hc, rfl⟩ := natsD_get hd
    have hgd : cs.getD i 0 = c := by simp [List.getD, hc]
    have hsc := hs c (List.mem_of_getElem? hc)
    have hlt := scalar_lt hsc
    have hi : i < cs.length := lt_of_get hc
    rw [hgd]
    refine Ex.ifLeave (Tr.not (Tr.plain (Ev.is_scalar (Ev.name rfl (by decide)) (hA.le (by decide)) rfl rfl) (by intro _; rfl))) (fun h => ?_) fun _ => ?_
    · rw [scalar_nat, hsc] at h; cases h
    have hlen := encs_len (cs.take i)
    rw [List.length_take] at hlen
    refine Ex.extend (Ev.utf8_octets (Ev.name rfl (by decide)) hlt (hA.le (by decide)) rfl rfl) (Ex.nil ⟨?_, trivial⟩) (by rw [natsD_length]; omega) (by have := (enc_len c).2; simp [encI]; omega)
    rw [flat_take hc]
    simp [natsD, encI]
  · rintro ρ own ⟨rfl, hall⟩
    refine Ex.release ?_
    have hlen := encs_len cs
    have hl : (natsD cs).length = cs.length := natsD_length cs
    rw [hl, List.take_length]
    refine Ex.ret (Ev.bytesB hA.hh (ns := (cs.flatMap enc).map fun (n : Nat) => (n : Int)) (Ev.to (Ev.name rfl (by decide)) (by simp [natsD])) (fun n hn => ?_) (by simp only [List.length_map]; omega) rfl rfl) ?_
    · simp only [List.mem_map, List.mem_flatMap] at hn
      obtain ⟨x, ⟨c, hc, hx⟩, rfl⟩ := hn
      have := enc_bounds (scalar_lt (hs c hc)) x hx
      omega
    · show Dat.bytes _ = Dat.bytes _
      rw [byteArr_nats]
      congr 2
      rw [List.map_flatMap]; rfl
end
end

section
set_option maxHeartbeats 2000000
variable [Inhabited Thr]
section
variable {w : World}
omit [Inhabited Thr] in
noncomputable def itemAt (l : List Dat) (i : Nat) : Dat := l.getD i .none
theorem itemAt_get {l : List Dat} {i : Nat} {d : Dat} (h : l[i]? = some d) : itemAt l i = d := by simp [itemAt, List.getD, h]
theorem pre_get {cs : List Nat} {d : Dat} {tail : List Dat} {i : Nat} {x : Dat} (h : (natsD cs ++ d :: tail)[i]? = some x) (hi : i ≤ cs.length) : (∃ c, cs[i]? = some c ∧ x = .int (c : Nat)) ∨ (i = cs.length ∧ x = d) := by
  rcases Nat.lt_or_ge i cs.length with hlt | hge
  · rw [List.getElem?_append_left (by rw [natsD_length]; exact hlt)] at h
    exact .inl (natsD_get h)
  · have : i = cs.length := by omega
    subst this
    rw [List.getElem?_append_right (by rw [natsD_length]; exact Nat.le_refl _), natsD_length] at h
    simp at h
    exact .inr ⟨rfl, h.symm⟩
theorem roomy {A : Around} {k : Nat} (h : Room A (k + 1)) : A.depth + 1 < recursionLimit := by have := h.hd; show A.depth + 1 < 1000; omega
theorem fx_encode (cs : List Nat) (odd : Int) (tail : List Dat) (hs : ∀ c ∈ cs, isScalar c = true) (ho : scalarI odd = false) (hz : cs.length ≤ 200) : FnX w 3 (.ref 101) [.list (natsD cs ++ .int odd :: tail)] 57 (.int odd) := by
  refine' FnX.intro (xs := ["text"]) ?ho ?hcd (bind1 ?hb) ?hl ?hc ?hk ?hco ?hg ?h
  tb_start
  case hb => intro v; exact rfl
  intro A L hA hX
  refine Ex.own ?_
  refine Ex.for hX (items := natsD cs ++ .int odd :: tail) (EvIter.of (Ev.name rfl (by decide)) (Iter.list hA.hh)) (fun i ρ own => own = some (Str.ofString "found", natsD ((cs.take i).flatMap enc)) ∧ i ≤ cs.length ∧ AllIn [] ρ)
    (fun i ρ => ("code", itemAt (natsD cs ++ .int odd :: tail) i) :: ρ) ⟨rfl, Nat.zero_le _, trivial⟩ ?_ ?_ ?_
  · rintro i d ρ own hd ⟨rfl, hi, hall⟩
    rw [itemAt_get hd]
    exact Asg.name (fun _ _ e => by cases e; decide)
  · rintro i d ρ own hd ⟨rfl, hi, hall⟩
    rw [itemAt_get hd]
    rcases pre_get hd hi with ⟨c, hc, rfl⟩ | ⟨rfl, rfl⟩
    · have hsc := hs c (List.mem_of_getElem? hc)
      have hlt := scalar_lt hsc
      have hi' : i < cs.length := lt_of_get hc
      refine Ex.ifLeave (Tr.not (Tr.plain (Ev.is_scalar (Ev.name rfl (by decide)) (hA.le (by decide)) rfl rfl) (by intro _; rfl))) (fun h => ?_) fun _ => ?_
      · rw [scalar_nat, hsc] at h; cases h
      have hlen := encs_len (cs.take i)
      rw [List.length_take] at hlen
      refine Ex.extend (Ev.utf8_octets (Ev.name rfl (by decide)) hlt (hA.le (by decide)) rfl rfl) (Ex.nil ⟨?_, hi', trivial⟩) (by rw [natsD_length]; omega) (by have := (enc_len c).2; simp [encI]; omega)
      rw [flat_take hc]
      simp [natsD, encI]
    · refine Ex.ifLeave (Tr.not (Tr.plain (Ev.is_scalar (Ev.name rfl (by decide)) (hA.le (by decide)) rfl rfl) (by intro _; rfl))) (fun h => ?_) fun h => ?_
      · exact Ex.raise (.inr rfl) (g_BadCode w) (Ev.name rfl (by decide)) hA.hh (roomy hA)
      · rw [ho] at h; cases h
  · rintro ρ own ⟨_, hi, _⟩
    simp only [List.length_append, natsD_length, List.length_cons] at hi; omega
theorem len_take {cs : List Nat} {i c : Nat} (h : cs[i]? = some c) : ((cs.take (i + 1)).flatMap enc).length = ((cs.take i).flatMap enc).length + (enc c).length := by rw [flat_take h, List.length_append]
theorem fn_length (cs : List Nat) (hs : ∀ c ∈ cs, isScalar c = true) : Fn w 3 (.ref 108) [.list (natsD cs)] (.int ((cs.flatMap enc).length : Nat)) := by
  refine' Fn.intro (xs := ["text"]) ?ho ?hcd (bind1 ?hb) ?hl ?hc ?hk ?hco ?hg ?h
  tb_start
  case hb => intro v; exact rfl
  intro A L hA
  refine Ex.assign Ev.int ?_ (fun _ _ e => by cases e)
  refine Ex.for XOk.none (items := natsD cs) (EvIter.of (Ev.name rfl (by decide)) (Iter.list hA.hh)) (fun i ρ own => own = none ∧ AllIn [("many", .int (((cs.take i).flatMap enc).length : Nat))] ρ)
    (fun i ρ => ("code", itemAt (natsD cs) i) :: ρ) ⟨rfl, rfl, trivial⟩ ?_ ?_ ?_
  · rintro i d ρ own hd ⟨rfl, hall⟩
    rw [itemAt_get hd]
    exact Asg.name (fun _ _ e => by cases e)
  · rintro i d ρ own hd ⟨rfl, hall⟩
    rw [itemAt_get hd]
    obtain ⟨c, hc, rfl⟩ := natsD_get hd
    have hsc := hs c (List.mem_of_getElem? hc)
    have hlt := scalar_lt hsc
    refine Ex.weaken ?_ (AllIn.push (x := "code") (d := .int (c : Nat)) hall rfl)
    refine Ex.ifLeave (Tr.not (Tr.plain (Ev.is_scalar (Ev.name rfl (by decide)) (hA.le (by decide)) rfl rfl) (by intro _; rfl))) (fun h => ?_) fun _ => ?_
    · rw [scalar_nat, hsc] at h; cases h
    refine Ex.assign (Ev.bin (Ev.name rfl (by decide)) (Ev.utf8_length (Ev.name rfl (by decide)) hlt (hA.le (by decide)) rfl rfl) Bin.add) (Ex.nil ⟨rfl, ?_, trivial⟩) (fun _ _ e => by cases e)
    unfold look; rw [if_pos rfl, len_take hc]; rfl
  · rintro ρ own ⟨rfl, hall⟩
    refine Ex.weaken ?_ hall
    refine Ex.ret (Ev.name rfl (by decide)) ?_
    rw [natsD_length, List.take_length]
theorem fx_length (cs : List Nat) (odd : Int) (tail : List Dat) (hs : ∀ c ∈ cs, isScalar c = true) (ho : scalarI odd = false) : FnX w 3 (.ref 108) [.list (natsD cs ++ .int odd :: tail)] 57 (.int odd) := by
  refine' FnX.intro (xs := ["text"]) ?ho ?hcd (bind1 ?hb) ?hl ?hc ?hk ?hco ?hg ?h
  tb_start
  case hb => intro v; exact rfl
  intro A L hA hX
  refine Ex.assign Ev.int ?_ (fun _ _ e => by cases e)
  refine Ex.for hX (items := natsD cs ++ .int odd :: tail) (EvIter.of (Ev.name rfl (by decide)) (Iter.list hA.hh)) (fun i ρ own => own = none ∧ i ≤ cs.length ∧ AllIn [("many", .int (((cs.take i).flatMap enc).length : Nat))] ρ)
    (fun i ρ => ("code", itemAt (natsD cs ++ .int odd :: tail) i) :: ρ) ⟨rfl, Nat.zero_le _, rfl, trivial⟩ ?_ ?_ ?_
  · rintro i d ρ own hd ⟨rfl, hi, hall⟩
    rw [itemAt_get hd]
    exact Asg.name (fun _ _ e => by cases e)
  · rintro i d ρ own hd ⟨rfl, hi, hall⟩
    rw [itemAt_get hd]
    rcases pre_get hd hi with ⟨c, hc, rfl⟩ | ⟨rfl, rfl⟩
    · have hsc := hs c (List.mem_of_getElem? hc)
      have hlt := scalar_lt hsc
      have hi' : i < cs.length := lt_of_get hc
      refine Ex.weaken ?_ (AllIn.push (x := "code") (d := .int (c : Nat)) hall rfl)
      refine Ex.ifLeave (Tr.not (Tr.plain (Ev.is_scalar (Ev.name rfl (by decide)) (hA.le (by decide)) rfl rfl) (by intro _; rfl))) (fun h => ?_) fun _ => ?_
      · rw [scalar_nat, hsc] at h; cases h
      refine Ex.assign (Ev.bin (Ev.name rfl (by decide)) (Ev.utf8_length (Ev.name rfl (by decide)) hlt (hA.le (by decide)) rfl rfl) Bin.add) (Ex.nil ⟨rfl, hi', ?_, trivial⟩) (fun _ _ e => by cases e)
      unfold look; rw [if_pos rfl, len_take hc]; rfl
    · refine Ex.ifLeave (Tr.not (Tr.plain (Ev.is_scalar (Ev.name rfl (by decide)) (hA.le (by decide)) rfl rfl) (by intro _; rfl))) (fun h => ?_) fun h => ?_
      · exact Ex.raise (.inr rfl) (g_BadCode w) (Ev.name rfl (by decide)) hA.hh (roomy hA)
      · rw [ho] at h; cases h
  · rintro ρ own ⟨_, hi, _⟩
    simp only [List.length_append, natsD_length, List.length_cons] at hi; omega
end
end

section
set_option maxHeartbeats 2000000
variable [Inhabited Thr]
section
variable {w : World}
theorem illF_cons {a : Nat} {l : List Nat} (h : l ≠ []) : illF a (pcs l) = (match (piece l).2.1 with | none => some a | some _ => illF (a + (piece l).1) (pcs (l.drop (piece l).1))) := by
  rw [pcs_cons h]
  have hle := piece_le h
  cases hc : (piece l).2.1 with
  | none => rfl
  | some c => simp only [illF, List.length_take, Nat.min_eq_left hle]
theorem startsF_cons {a : Nat} {l : List Nat} (h : l ≠ []) : startsF a (pcs l) = a :: startsF (a + (piece l).1) (pcs (l.drop (piece l).1)) := by
  rw [pcs_cons h]
  simp only [startsF, List.length_take, Nat.min_eq_left (piece_le h)]
omit [Inhabited Thr] in
noncomputable def badD (l : List UInt8) (a : Nat) : Dat := .tuple [.int (a : Nat), .str (word (piece ((nats l).drop a)).2.2)]
theorem fn_decode (l : List UInt8) (hz : l.length ≤ 1000) (hok : illF 0 (pcs (nats l)) = none) : Fn w 3 (.ref 129) [.bytes l.toArray] (.list (natsD (repl (nats l)))) := by
  refine' Fn.intro (xs := ["octets"]) ?ho ?hcd (bind1 ?hb) ?hl ?hc ?hk ?hco ?hg ?h
  tb_start
  case hb => intro v; exact rfl
  intro A L hA
  refine Ex.swapOwn hA.hh Ev.int ?_
  refine Ex.while XOk.none (fun n ρ own => ∃ i found, n = l.length - i ∧ i ≤ l.length ∧ AllIn [("octets", .bytes l.toArray), ("at", .int (i : Nat))] ρ ∧ own = some (Str.ofString "found", natsD found) ∧ repl (nats l) = found ++ repl ((nats l).drop i) ∧ found.length ≤ i ∧ illF i (pcs ((nats l).drop i)) = none) l.length
    ⟨0, [], rfl, Nat.zero_le _, ⟨rfl, rfl, trivial⟩, rfl, rfl, Nat.le_refl _, hok⟩ ?_
  rintro n ρ own ⟨i, found, rfl, hi, hall, rfl, heq, hfl, hill⟩
  refine ⟨_, Tr.cmp (Ev.name (hall.look _ _ rfl) (by decide)) (Ev.lenB (Ev.name (hall.look _ _ rfl) (by decide)) (by simpa using hz) rfl rfl) Cmp.lt rfl, fun h => ?_, fun h => ?_⟩
  · simp only [decide_eq_true_eq, List.size_toArray] at h
    have hlt : i < l.length := by omega
    have hne := drop_ne hlt
    have hle := piece_le hne
    have hpos := piece_pos hne
    simp only [List.length_drop, List.length_map] at hle
    rw [illF_cons hne] at hill
    cases hc : (piece ((nats l).drop i)).2.1 with
    | none => rw [hc] at hill; cases hill
    | some c =>
      rw [hc] at hill
      refine Ex.weaken ?_ hall
      refine Ex.unpack hA.hh (Ev.utf8_piece (by ktr_rel) (by ktr_rel) hlt hz (hA.le (by decide)) rfl rfl rfl) (.cons (fun _ _ e => by cases e; decide) (.cons (fun _ _ e => by cases e; decide) (.cons (fun _ _ e => by cases e; decide) .nil))) ?_
      dsimp only [id]
      rw [hc]
      refine Ex.ifLeave (Tr.cmp (Ev.name rfl (by decide)) Ev.nothing Cmp.is rfl) (fun h => by cases h) fun _ => ?_
      refine Ex.append (d := .int (c : Nat)) (Ev.to (Ev.name rfl (by decide)) rfl) ?_ (by rw [natsD_length]; omega)
      refine Ex.assign (by ktr_rel) (Ex.nil ?_) (fun _ _ e => by cases e; decide)
      refine ⟨l.length - (i + (piece ((nats l).drop i)).1), by omega, i + (piece ((nats l).drop i)).1, found ++ [c], rfl, by omega, ⟨rfl, by unfold look; rw [if_pos rfl]; simp, trivial⟩, by rw [natsD_snoc], ?_, by simp; omega, ?_⟩
      · rw [heq, repl_cons hne, List.drop_drop, List.append_assoc, hc]; rfl
      · rw [← List.drop_drop]; exact hill
  · simp only [decide_eq_false_iff_not, List.size_toArray] at h
    refine Ex.release (Ex.ret (Ev.name rfl (by decide)) ?_)
    rw [heq, List.drop_of_length_le (by simp; omega)]
    simp [repl_nil]
end
end

section
set_option maxHeartbeats 2000000
variable [Inhabited Thr]
section
variable {w : World}
theorem fx_decode (l : List UInt8) (a : Nat) (hz : l.length ≤ 1000) (hok : illF 0 (pcs (nats l)) = some a) : FnX w 3 (.ref 129) [.bytes l.toArray] 45 (badD l a) := by
  refine' FnX.intro (xs := ["octets"]) ?ho ?hcd (bind1 ?hb) ?hl ?hc ?hk ?hco ?hg ?h
  tb_start
  case hb => intro v; exact rfl
  intro A L hA hX
  refine Ex.swapOwn hA.hh Ev.int ?_
  refine Ex.while hX (fun n ρ own => ∃ i found, n = l.length - i ∧ i ≤ l.length ∧ AllIn [("octets", .bytes l.toArray), ("at", .int (i : Nat))] ρ ∧ own = some (Str.ofString "found", natsD found) ∧ repl (nats l) = found ++ repl ((nats l).drop i) ∧ found.length ≤ i ∧ illF i (pcs ((nats l).drop i)) = some a) l.length
    ⟨0, [], rfl, Nat.zero_le _, ⟨rfl, rfl, trivial⟩, rfl, rfl, Nat.le_refl _, hok⟩ ?_
  rintro n ρ own ⟨i, found, rfl, hi, hall, rfl, heq, hfl, hill⟩
  refine ⟨_, Tr.cmp (Ev.name (hall.look _ _ rfl) (by decide)) (Ev.lenB (Ev.name (hall.look _ _ rfl) (by decide)) (by simpa using hz) rfl rfl) Cmp.lt rfl, fun h => ?_, fun h => ?_⟩
  · simp only [decide_eq_true_eq, List.size_toArray] at h
    have hlt : i < l.length := by omega
    have hne := drop_ne hlt
    have hle := piece_le hne
    have hpos := piece_pos hne
    simp only [List.length_drop, List.length_map] at hle
    rw [illF_cons hne] at hill
    cases hc : (piece ((nats l).drop i)).2.1 with
    | none =>
      rw [hc] at hill
      cases hill
      refine Ex.weaken ?_ hall
      refine Ex.unpack hA.hh (Ev.utf8_piece (by ktr_rel) (by ktr_rel) hlt hz (hA.le (by decide)) rfl rfl rfl) (.cons (fun _ _ e => by cases e; decide) (.cons (fun _ _ e => by cases e; decide) (.cons (fun _ _ e => by cases e; decide) .nil))) ?_
      dsimp only [id]
      rw [hc]
      refine Ex.ifLeave (Tr.cmp (Ev.name rfl (by decide)) Ev.nothing Cmp.is rfl) (fun _ => ?_) fun h => by cases h
      exact Ex.raise (.inl rfl) (g_BadEncoding w) (Ev.tuple (.cons (Ev.name rfl (by decide)) (.cons (Ev.name rfl (by decide)) .nil rfl) rfl) (Nat.le_of_ble_eq_true rfl)) hA.hh (roomy hA)
    | some c =>
      rw [hc] at hill
      refine Ex.weaken ?_ hall
      refine Ex.unpack hA.hh (Ev.utf8_piece (by ktr_rel) (by ktr_rel) hlt hz (hA.le (by decide)) rfl rfl rfl) (.cons (fun _ _ e => by cases e; decide) (.cons (fun _ _ e => by cases e; decide) (.cons (fun _ _ e => by cases e; decide) .nil))) ?_
      dsimp only [id]
      rw [hc]
      refine Ex.ifLeave (Tr.cmp (Ev.name rfl (by decide)) Ev.nothing Cmp.is rfl) (fun h => by cases h) fun _ => ?_
      refine Ex.append (d := .int (c : Nat)) (Ev.to (Ev.name rfl (by decide)) rfl) ?_ (by rw [natsD_length]; omega)
      refine Ex.assign (by ktr_rel) (Ex.nil ?_) (fun _ _ e => by cases e; decide)
      refine ⟨l.length - (i + (piece ((nats l).drop i)).1), by omega, i + (piece ((nats l).drop i)).1, found ++ [c], rfl, by omega, ⟨rfl, by unfold look; rw [if_pos rfl]; simp, trivial⟩, by rw [natsD_snoc], ?_, by simp; omega, ?_⟩
      · rw [heq, repl_cons hne, List.drop_drop, List.append_assoc, hc]; rfl
      · rw [← List.drop_drop]; exact hill
  · simp only [decide_eq_false_iff_not, List.size_toArray] at h
    rw [List.drop_of_length_le (by simp; omega)] at hill
    cases hill
end
end

section
set_option maxHeartbeats 2000000
variable [Inhabited Thr]
section
variable {w : World}
theorem fn_places (l : List UInt8) (hz : l.length ≤ 1000) (hok : illF 0 (pcs (nats l)) = none) : Fn w 3 (.ref 164) [.bytes l.toArray] (.list (natsD (starts (nats l)))) := by
  refine' Fn.intro (xs := ["octets"]) ?ho ?hcd (bind1 ?hb) ?hl ?hc ?hk ?hco ?hg ?h
  tb_start
  case hb => intro v; exact rfl
  intro A L hA
  refine Ex.swapOwn hA.hh Ev.int ?_
  refine Ex.while XOk.none (fun n ρ own => ∃ i found, n = l.length - i ∧ i ≤ l.length ∧ AllIn [("octets", .bytes l.toArray), ("at", .int (i : Nat))] ρ ∧ own = some (Str.ofString "found", natsD found) ∧ startsF 0 (pcs (nats l)) = found ++ startsF i (pcs ((nats l).drop i)) ∧ found.length ≤ i ∧ illF i (pcs ((nats l).drop i)) = none) l.length
    ⟨0, [], rfl, Nat.zero_le _, ⟨rfl, rfl, trivial⟩, rfl, rfl, Nat.le_refl _, hok⟩ ?_
  rintro n ρ own ⟨i, found, rfl, hi, hall, rfl, heq, hfl, hill⟩
  refine ⟨_, Tr.cmp (Ev.name (hall.look _ _ rfl) (by decide)) (Ev.lenB (Ev.name (hall.look _ _ rfl) (by decide)) (by simpa using hz) rfl rfl) Cmp.lt rfl, fun h => ?_, fun h => ?_⟩
  · simp only [decide_eq_true_eq, List.size_toArray] at h
    have hlt : i < l.length := by omega
    have hne := drop_ne hlt
    have hle := piece_le hne
    have hpos := piece_pos hne
    simp only [List.length_drop, List.length_map] at hle
    rw [illF_cons hne] at hill
    cases hc : (piece ((nats l).drop i)).2.1 with
    | none => rw [hc] at hill; cases hill
    | some c =>
      rw [hc] at hill
      refine Ex.weaken ?_ hall
      refine Ex.unpack hA.hh (Ev.utf8_piece (by ktr_rel) (by ktr_rel) hlt hz (hA.le (by decide)) rfl rfl rfl) (.cons (fun _ _ e => by cases e; decide) (.cons (fun _ _ e => by cases e; decide) (.cons (fun _ _ e => by cases e; decide) .nil))) ?_
      dsimp only [id]
      rw [hc]
      refine Ex.ifLeave (Tr.cmp (Ev.name rfl (by decide)) Ev.nothing Cmp.is rfl) (fun h => by cases h) fun _ => ?_
      refine Ex.append (d := .int (i : Nat)) (Ev.name rfl (by decide)) ?_ (by rw [natsD_length]; omega)
      refine Ex.assign (by ktr_rel) (Ex.nil ?_) (fun _ _ e => by cases e; decide)
      refine ⟨l.length - (i + (piece ((nats l).drop i)).1), by omega, i + (piece ((nats l).drop i)).1, found ++ [i], rfl, by omega, ⟨rfl, by unfold look; rw [if_pos rfl]; simp, trivial⟩, by rw [natsD_snoc], ?_, by simp; omega, ?_⟩
      · rw [heq, startsF_cons hne, List.drop_drop, List.append_assoc]; rfl
      · rw [← List.drop_drop]; exact hill
  · simp only [decide_eq_false_iff_not, List.size_toArray] at h
    refine Ex.release (Ex.ret (Ev.name rfl (by decide)) ?_)
    show Dat.list _ = Dat.list _
    unfold starts
    rw [heq, List.drop_of_length_le (by simp; omega)]
    simp [pcs_nil, startsF]
theorem fx_places (l : List UInt8) (a : Nat) (hz : l.length ≤ 1000) (hok : illF 0 (pcs (nats l)) = some a) : FnX w 3 (.ref 164) [.bytes l.toArray] 45 (badD l a) := by
  refine' FnX.intro (xs := ["octets"]) ?ho ?hcd (bind1 ?hb) ?hl ?hc ?hk ?hco ?hg ?h
  tb_start
  case hb => intro v; exact rfl
  intro A L hA hX
  refine Ex.swapOwn hA.hh Ev.int ?_
  refine Ex.while hX (fun n ρ own => ∃ i found, n = l.length - i ∧ i ≤ l.length ∧ AllIn [("octets", .bytes l.toArray), ("at", .int (i : Nat))] ρ ∧ own = some (Str.ofString "found", natsD found) ∧ startsF 0 (pcs (nats l)) = found ++ startsF i (pcs ((nats l).drop i)) ∧ found.length ≤ i ∧ illF i (pcs ((nats l).drop i)) = some a) l.length
    ⟨0, [], rfl, Nat.zero_le _, ⟨rfl, rfl, trivial⟩, rfl, rfl, Nat.le_refl _, hok⟩ ?_
  rintro n ρ own ⟨i, found, rfl, hi, hall, rfl, heq, hfl, hill⟩
  refine ⟨_, Tr.cmp (Ev.name (hall.look _ _ rfl) (by decide)) (Ev.lenB (Ev.name (hall.look _ _ rfl) (by decide)) (by simpa using hz) rfl rfl) Cmp.lt rfl, fun h => ?_, fun h => ?_⟩
  · simp only [decide_eq_true_eq, List.size_toArray] at h
    have hlt : i < l.length := by omega
    have hne := drop_ne hlt
    have hle := piece_le hne
    have hpos := piece_pos hne
    simp only [List.length_drop, List.length_map] at hle
    rw [illF_cons hne] at hill
    cases hc : (piece ((nats l).drop i)).2.1 with
    | none =>
      rw [hc] at hill
      cases hill
      refine Ex.weaken ?_ hall
      refine Ex.unpack hA.hh (Ev.utf8_piece (by ktr_rel) (by ktr_rel) hlt hz (hA.le (by decide)) rfl rfl rfl) (.cons (fun _ _ e => by cases e; decide) (.cons (fun _ _ e => by cases e; decide) (.cons (fun _ _ e => by cases e; decide) .nil))) ?_
      dsimp only [id]
      rw [hc]
      refine Ex.ifLeave (Tr.cmp (Ev.name rfl (by decide)) Ev.nothing Cmp.is rfl) (fun _ => ?_) fun h => by cases h
      exact Ex.raise (.inl rfl) (g_BadEncoding w) (Ev.tuple (.cons (Ev.name rfl (by decide)) (.cons (Ev.name rfl (by decide)) .nil rfl) rfl) (Nat.le_of_ble_eq_true rfl)) hA.hh (roomy hA)
    | some c =>
      rw [hc] at hill
      refine Ex.weaken ?_ hall
      refine Ex.unpack hA.hh (Ev.utf8_piece (by ktr_rel) (by ktr_rel) hlt hz (hA.le (by decide)) rfl rfl rfl) (.cons (fun _ _ e => by cases e; decide) (.cons (fun _ _ e => by cases e; decide) (.cons (fun _ _ e => by cases e; decide) .nil))) ?_
      dsimp only [id]
      rw [hc]
      refine Ex.ifLeave (Tr.cmp (Ev.name rfl (by decide)) Ev.nothing Cmp.is rfl) (fun h => by cases h) fun _ => ?_
      refine Ex.append (d := .int (i : Nat)) (Ev.name rfl (by decide)) ?_ (by rw [natsD_length]; omega)
      refine Ex.assign (by ktr_rel) (Ex.nil ?_) (fun _ _ e => by cases e; decide)
      refine ⟨l.length - (i + (piece ((nats l).drop i)).1), by omega, i + (piece ((nats l).drop i)).1, found ++ [i], rfl, by omega, ⟨rfl, by unfold look; rw [if_pos rfl]; simp, trivial⟩, by rw [natsD_snoc], ?_, by simp; omega, ?_⟩
      · rw [heq, startsF_cons hne, List.drop_drop, List.append_assoc]; rfl
      · rw [← List.drop_drop]; exact hill
  · simp only [decide_eq_false_iff_not, List.size_toArray] at h
    rw [List.drop_of_length_le (by simp; omega)] at hill
    cases hill
end
end

section
set_option maxHeartbeats 2000000
variable [Inhabited Thr]
section
variable {w : World}
omit [Inhabited Thr] in
noncomputable def strictD (l : List UInt8) : Dat := match illF 0 (pcs (nats l)) with | none => .list (natsD (repl (nats l))) | some a => .int (a : Nat)
omit [Inhabited Thr] in
noncomputable def placesD (l : List UInt8) : Dat := match illF 0 (pcs (nats l)) with | none => .list (natsD (starts (nats l))) | some a => .int (a : Nat)
theorem nats_len (l : List UInt8) : (nats l).length = l.length := by simp [nats]
theorem starts_length (l : List Nat) : (starts l).length ≤ l.length := by
  have h : ∀ (ps : List (List Nat × Option Nat)) (a : Nat), (startsF a ps).length = ps.length := by
    intro ps
    induction ps with
    | nil => intro a; rfl
    | cons p ps ih => intro a; obtain ⟨p, c⟩ := p; simp only [startsF, List.length_cons, ih]
  unfold starts
  rw [h]; exact pcs_length_le l
theorem fn_strict (l : List UInt8) (hz : l.length ≤ 1000) : Fn w 4 (.ref 197) [.bytes l.toArray] (strictD l) := by
  refine' Fn.introT (xs := ["octets"]) ?ho ?hcd (bind1 ?hb) ?hl ?hc ?hk ?hco ?hg ?h
  tb_start
  case hb => intro v; exact rfl
  intro A L o hA hfr
  refine Ex.assign (by ktr_rel) ?_ (fun _ _ e => by cases e)
  cases hill : illF 0 (pcs (nats l)) with
  | none =>
    have hl1 := repl_length_le (nats l)
    rw [nats_len] at hl1
    refine Ex.tryOk (Ev.listB (Ev.callTop (g_decode_utf8 w) (k_decode_utf8 w) (.cons (Ev.name rfl (by decide)) .nil rfl) (fn_decode l hz hill A (hA.le (by decide))) rfl) (by rw [natsD_length]; omega) rfl rfl) ?_
    exact Ex.ret (Ev.name rfl (by decide)) (by rw [strictD, hill])
  | some a =>
    refine Ex.tryBad hfr rfl (.inl rfl) (EvR.callT1 (T := "list") (b_list w) (by decide +kernel) (by decide) (EvR.callTop (g_decode_utf8 w) (k_decode_utf8 w) (.cons (Ev.name rfl (by decide)) .nil rfl) (fx_decode l a hz hill A (hA.le (by decide))) rfl) rfl) (HandEv.told0 (.inl rfl)) (g_BadEncoding w) ?_
    exact Ex.ret (Ev.name rfl (by decide)) (by rw [strictD, hill])
theorem fn_lawplaces (l : List UInt8) (hz : l.length ≤ 1000) : Fn w 4 (.ref 211) [.bytes l.toArray] (placesD l) := by
  refine' Fn.introT (xs := ["octets"]) ?ho ?hcd (bind1 ?hb) ?hl ?hc ?hk ?hco ?hg ?h
  tb_start
  case hb => intro v; exact rfl
  intro A L o hA hfr
  refine Ex.assign (by ktr_rel) ?_ (fun _ _ e => by cases e)
  cases hill : illF 0 (pcs (nats l)) with
  | none =>
    have hl1 := starts_length (nats l)
    rw [nats_len] at hl1
    refine Ex.tryOk (Ev.listB (Ev.callTop (g_utf8_places w) (k_utf8_places w) (.cons (Ev.name rfl (by decide)) .nil rfl) (fn_places l hz hill A (hA.le (by decide))) rfl) (by rw [natsD_length]; omega) rfl rfl) ?_
    exact Ex.ret (Ev.name rfl (by decide)) (by rw [placesD, hill])
  | some a =>
    refine Ex.tryBad hfr rfl (.inl rfl) (EvR.callT1 (T := "list") (b_list w) (by decide +kernel) (by decide) (EvR.callTop (g_utf8_places w) (k_utf8_places w) (.cons (Ev.name rfl (by decide)) .nil rfl) (fx_places l a hz hill A (hA.le (by decide))) rfl) rfl) (HandEv.told0 (.inl rfl)) (g_BadEncoding w) ?_
    exact Ex.ret (Ev.name rfl (by decide)) (by rw [placesD, hill])
theorem fn_refused (cs : List Nat) (odd : Int) (tail : List Dat) (b : Bool) (hs : ∀ c ∈ cs, isScalar c = true) (ho : scalarI odd = false) (hz : cs.length ≤ 200) : Fn w 4 (.ref 204) [.list (natsD cs ++ .int odd :: tail), .bool b] (.int odd) := by
  refine' Fn.introT (xs := ["text", "is_written"]) ?ho ?hcd (bind2 ?hb) ?hl ?hc ?hk ?hco ?hg ?h
  tb_start
  case hb => intro v u; exact rfl
  intro A L o hA hfr
  refine Ex.assign (by ktr_rel) ?_ (fun _ _ e => by cases e)
  refine Ex.tryBad hfr rfl (.inr rfl) (EvR.iteCmp (EvR.ite (Tr.plain (Ev.name rfl (by decide)) (by intro _; rfl)) (fun _ => EvR.callTop (g_encode_utf8 w) (k_encode_utf8 w) (.cons (Ev.name rfl (by decide)) .nil rfl) (fx_encode cs odd tail hs ho hz A (hA.le (by decide))) rfl) (fun _ => EvR.callTop (g_length_of w) (k_length_of w) (.cons (Ev.name rfl (by decide)) .nil rfl) (fx_length cs odd tail hs ho A (hA.le (by decide))) rfl))) (HandEv.told (.inr rfl)) (g_BadCode w) ?_
  exact Ex.ret (Ev.name rfl (by decide)) rfl
end
end

section
set_option maxHeartbeats 2000000
variable [Inhabited Thr]
theorem bytesCat_app (l : List (Array UInt8)) : ∀ a : Array UInt8, l.foldl (· ++ ·) a = a ++ bytesCat l := by
  unfold bytesCat
  induction l with
  | nil => intro a; simp
  | cons x l ih => intro a; rw [List.foldl_cons, List.foldl_cons, ih, ih (#[] ++ x)]; simp
theorem bytesCat_map (ls : List (List UInt8)) : bytesCat (ls.map List.toArray) = ls.flatten.toArray := by
  induction ls with
  | nil => rfl
  | cons x l ih =>
    have : bytesCat ((x :: l).map List.toArray) = (#[] ++ x.toArray) ++ bytesCat (l.map List.toArray) := by
      rw [List.map_cons]
      exact bytesCat_app (l.map List.toArray) (#[] ++ x.toArray)
    rw [this, ih]
    simp
theorem sizes_map (ls : List (List UInt8)) : sizes (ls.map List.toArray) = ls.flatten.length := by
  induction ls with
  | nil => rfl
  | cons x l ih =>
    have e : sizes ((x :: l).map List.toArray) = x.length + sizes (l.map List.toArray) := by simp [sizes]
    rw [e, ih]; simp
theorem cutL_to {α : Type} (ds : List α) (k : Nat) : cutL ds none (some (k : Int)) = ds.take k := by
  unfold cutL
  simp only [Option.elim, clipAt_nat, List.drop_zero, Nat.sub_zero]
  rcases Nat.le_total k ds.length with h | h
  · rw [Nat.min_eq_left h]
  · rw [Nat.min_eq_right h, List.take_of_length_le (Nat.le_refl _), List.take_of_length_le h]
theorem nats_encB (c : Nat) (h : c < 1114112) : nats (encB c) = enc c := by
  unfold nats encB
  rw [List.map_map]
  conv => rhs; rw [← List.map_id (enc c)]
  refine List.map_congr_left fun n hn => ?_
  have := enc_bounds h n hn
  show n.toUInt8.toNat = n
  simp [Nat.toUInt8]
  omega
theorem nats_flat {cs : List Nat} (h : ∀ c ∈ cs, c < 1114112) : nats (cs.flatMap encB) = cs.flatMap enc := by
  induction cs with
  | nil => rfl
  | cons c cs ih =>
    have e : nats (encB c ++ cs.flatMap encB) = nats (encB c) ++ nats (cs.flatMap encB) := by simp [nats]
    rw [List.flatMap_cons, List.flatMap_cons, e, nats_encB c (h c (.head _)), ih fun x hx => h x (.tail _ hx)]
omit [Inhabited Thr] in
noncomputable def wrD : Dat → Dat
  | .int i => bytesD (encB i.toNat)
  | _ => .none
theorem wrD_map (cs : List Nat) : (natsD cs).map wrD = (cs.map encB).map bytesD := by
  unfold natsD
  rw [List.map_map, List.map_map]
  refine List.map_congr_left fun c _ => ?_
  simp [wrD]
omit [Inhabited Thr] in
noncomputable def preD (cs : List Nat) : Dat → Dat
  | .int i => .int (((cs.take i.toNat).flatMap encB).length : Nat)
  | _ => .none
omit [Inhabited Thr] in
noncomputable def oddOf (n : Nat) : Int := match n % 5 with | 0 => 55296 | 1 => 57343 | 2 => 1114112 | 3 => -1 | _ => 56320
theorem oddOf_not (n : Nat) : scalarI (oddOf n) = false := by
  unfold oddOf
  have h : n % 5 < 5 := Nat.mod_lt _ (by decide)
  generalize n % 5 = m at h
  match m, h with
  | 0, _ => rfl
  | 1, _ => rfl
  | 2, _ => rfl
  | 3, _ => rfl
  | 4, _ => rfl
section
variable {w : World}
theorem Ev.join {A : Around} {env : Env} {ρ : Loc} {k : Nat} {kp ap cp : Pos} {e : Expr} {ls : List (List UInt8)} {pl : Sem Bool} (he : Ev w A env ρ e (.list (ls.map bytesD))) (hz : ls.flatten.length ≤ 1000)
    (hm : eval (.Call (.Attribute (.Constant (.bytes []) k kp) "join" ap) [e] [] cp) env = (do
      let ov ← eval (.Constant (.bytes []) k kp) env
      standAt ap.atName
      let (f, first) ← holding [ov] (getMethod ov "join" pl)
      callWith cp f first (backTo cp (starEach [e] env)) (backToKw cp (keywordEach [] env))))
    (hst : starEach [e] env = (false, eval e env) :: starEach [] env) : Ev w A env ρ (.Call (.Attribute (.Constant (.bytes []) k kp) "join" ap) [e] [] cp) (bytesD ls.flatten) := by
  have e1 : ls.map bytesD = (ls.map List.toArray).map Dat.bytes := by rw [List.map_map]; rfl
  rw [e1] at he
  have := Ev.joinB (pl := pl) (kp := kp) (ap := ap) (cp := cp) (k := k) he (by rw [sizes_map]; exact Nat.le_trans hz (by decide)) hm hst
  rw [bytesCat_map] at this
  exact this
theorem Ev.listTo {A : Around} {env : Env} {ρ : Loc} {value e : Expr} {p pos : Pos} {ds : List Dat} {k : Nat} (hv : Ev w A env ρ value (.list ds)) (he : Ev w A env ρ e (.int k)) (hz : ds.length ≤ 1000) (ht : ∀ o r, letTemporaryGo value o r = pure ()) :
    Ev w A env ρ (.Subscript value (.Slice Option.none (some e) Option.none p) pos) (.list (ds.take k)) := by
  have := Ev.cutList (p := p) (pos := pos) (lo := Option.none) (i := Option.none) (hi := some e) (j := some (k : Int)) hv trivial he hz ht
  rwa [cutL_to] at this
theorem kq_nats {ns : List Nat} : ∀ d ∈ natsD ns, kqdOk 8 d = true := fun d hd => by
  obtain ⟨n, _, rfl⟩ := List.mem_map.mp hd
  rfl
theorem fn_text_right (cs : List Nat) (n : Nat) (hs : ∀ c ∈ cs, isScalar c = true) (hz : cs.length ≤ 60) : Fn w 5 (.ref 216) [.list (natsD cs), .int n] (.bool true) := by
  have hlt : ∀ c ∈ cs, c < 1114112 := fun c hc => scalar_lt (hs c hc)
  have hO := nats_flat hlt
  have hlen := encs_len cs
  have hOl : (cs.flatMap encB).length = (cs.flatMap enc).length := by rw [← hO, nats_len]
  have hill : illF 0 (pcs (nats (cs.flatMap encB))) = none := by rw [hO]; exact ill_enc hs 0
  have hlen1 : (natsD cs).length ≤ 1000 := by rw [natsD_length]; omega
  have hOz : (cs.flatMap encB).length ≤ 1000 := by omega
  refine' Fn.introC (xs := ["text", "at"]) ?ho ?hcd (bind2 ?hb) ?hl ?hk ?hco ?hg ?h
  tb_rel
  case hb => intro v u; exact rfl
  intro A L hA
  refine Ex.assignCell (Ev.lc [] (f := wrD) (EvIter.of (Ev.name rfl (by decide)) (Iter.list hA.hh)) (fun C d hd => ?_) rfl trivial hlen1) ?_ rfl rfl rfl
  · obtain ⟨c, hc, rfl⟩ := List.mem_map.mp hd
    exact Ev.to (Ev.callTop (g_law_written w) (k_law_written w) (.cons (Ev.name rfl (by decide)) .nil rfl) (fn_law_written c (hlt c hc) A (hA.le (by decide))) rfl) (by simp [wrD])
  rw [wrD_map]
  refine Ex.assign (Ev.join (Ev.name rfl (by decide)) hOz rfl rfl) ?_ (fun _ _ e => by cases e)
  have hfl : (cs.map encB).flatten = cs.flatMap encB := rfl
  rw [hfl]
  have hu : A.units + 64 < 9900 := by have := hA.hu; omega
  refine Ex.ifLeave (Tr.bool (.orCons (Tr.cmp (Ev.callTop (g_encode_utf8 w) (k_encode_utf8 w) (.cons (Ev.name rfl (by decide)) .nil rfl) (fn_encode cs hs (by omega) A (hA.le (by decide))) rfl) (Ev.name rfl (by decide)) Cmp.bytesNe rfl) fun _ =>
    .orCons (Tr.cmp (Ev.callTop (g_length_of w) (k_length_of w) (.cons (Ev.name rfl (by decide)) .nil rfl) (fn_length cs hs A (hA.le (by decide))) rfl) (Ev.lenB (Ev.name rfl (by decide)) hOz rfl rfl) Cmp.ne rfl) fun _ =>
    .orCons (Tr.cmp (Ev.listB (Ev.callTop (g_decode_utf8 w) (k_decode_utf8 w) (.cons (Ev.name rfl (by decide)) .nil rfl) (fn_decode _ hOz hill A (hA.le (by decide))) rfl) (by rw [hO, repl_enc hs]; exact hlen1) rfl rfl) (Ev.name rfl (by decide)) (Cmp.listNe hu kq_nats kq_nats) rfl) fun _ => .orNil)) (fun h => ?_) fun _ => ?_
  · rw [hO, repl_enc hs] at h
    simp [hOl] at h
  refine Ex.assignLc [("bits", .list ((cs.map encB).map bytesD))] (f := preD cs) (EvIter.range1 hA.hh (b_range w) (Ev.lenL (Ev.name rfl (by decide)) (by rw [List.length_map, List.length_map]; omega) rfl rfl) (by rw [List.length_map, List.length_map]; omega) (by rw [List.length_map, List.length_map]; omega)) (fun C d hd => ?_) rfl ⟨⟨rfl, rfl, rfl, rfl⟩, trivial⟩ (by rw [run_length, List.length_map, List.length_map]; omega) ?_ (fun _ _ e => by cases e) (.inl rfl)
  · obtain ⟨i, hi, rfl⟩ := List.mem_map.mp hd
    have hle := encs_len (cs.take i)
    rw [List.length_take] at hle
    have hlt' : ∀ c ∈ cs.take i, c < 1114112 := fun c hc => hlt c (List.mem_of_mem_take hc)
    have hl2 : ((cs.take i).flatMap encB).length = ((cs.take i).flatMap enc).length := by rw [← nats_flat hlt', nats_len]
    have hfl : (((cs.map encB).take i)).flatten = (cs.take i).flatMap encB := by rw [← List.map_take]; rfl
    refine Ev.to (Ev.lenB (Ev.join (ls := (cs.map encB).take i) (Ev.to (Ev.listTo (k := i) (Ev.name rfl (by decide)) (Ev.to (Ev.name rfl (by decide)) (by simp)) (by simp; omega) (by intro _ _; rfl)) (by rw [List.map_take])) (by rw [hfl]; omega) rfl stSub) (by rw [hfl, List.size_toArray]; omega) rfl stCall) ?_
    rw [hfl]; simp [preD]
  have hbeg : (runOf 0 ((((cs.map encB).map bytesD).length : Nat) : Int).toNat).map (preD cs) = natsD ((List.range cs.length).map fun k => ((cs.take k).flatMap enc).length) := by
    unfold runOf natsD
    simp only [List.map_map, List.length_map, Int.toNat_natCast]
    refine List.map_congr_left fun i _ => ?_
    have hlt' : ∀ c ∈ cs.take i, c < 1114112 := fun c hc => hlt c (List.mem_of_mem_take hc)
    have hl2 : ((cs.take i).flatMap encB).length = ((cs.take i).flatMap enc).length := by rw [← nats_flat hlt', nats_len]
    simp [preD, hl2]
  rw [hbeg]
  have hpl : placesD (cs.flatMap encB) = .list (natsD ((List.range cs.length).map fun k => ((cs.take k).flatMap enc).length)) := by
    rw [placesD, hill]
    show Dat.list _ = _
    rw [hO, starts_enc hs]
  refine Ex.ifLeave (Tr.bool (.orCons (Tr.cmp (Ev.to (Ev.callTop (g_law_places w) (k_law_places w) (.cons (Ev.name rfl (by decide)) .nil rfl) (fn_lawplaces _ hOz A (hA.le (by decide))) rfl) hpl) (Ev.name rfl (by decide)) (Cmp.listNe hu kq_nats kq_nats) rfl) fun _ =>
    .orCons (Tr.not (Tr.plain (Ev.callTop (g_is_utf8 w) (k_is_utf8 w) (.cons (Ev.name rfl (by decide)) .nil rfl) (fn_is_utf8 _ hOz A (hA.le (by decide))) rfl) (by intro _; rfl))) fun _ => .orNil)) (fun h => ?_) fun _ => ?_
  · rw [hO, ok_enc hs] at h
    simp at h
  refine Ex.assign (d := .int (oddOf n)) (Ev.itemList (ds := [.int 55296, .int 57343, .int 1114112, .int (-1), .int 56320]) (i := (n : Int).fmod 5) (by ktr_rel) (by ktr_rel) ?_ ?_ ?_ (by intro _ _; rfl)) ?_ (fun _ _ e => by cases e)
  · rw [Int.fmod_eq_emod_of_nonneg _ (by decide)]; omega
  · rw [Int.fmod_eq_emod_of_nonneg _ (by decide)]; omega
  · have e : ((n : Int).fmod 5).toNat = n % 5 := by rw [Int.fmod_eq_emod_of_nonneg _ (by decide)]; omega
    rw [e]
    unfold oddOf
    have h : n % 5 < 5 := Nat.mod_lt _ (by decide)
    generalize n % 5 = m at h
    match m, h with
    | 0, _ => rfl
    | 1, _ => rfl
    | 2, _ => rfl
    | 3, _ => rfl
    | 4, _ => rfl
  have hodd := oddOf_not n
  generalize oddOf n = odd at hodd
  have hk : (n : Int).fmod ((((natsD cs).length : Nat) : Int) + 1) = ((n % (cs.length + 1) : Nat) : Int) := by
    rw [natsD_length, Int.fmod_eq_emod_of_nonneg _ (by omega)]; rfl
  have hkl : n % (cs.length + 1) ≤ cs.length := by have := Nat.mod_lt n (show 0 < cs.length + 1 by omega); omega
  have hs' : ∀ c ∈ cs.take (n % (cs.length + 1)), isScalar c = true := fun c hc => hs c (List.mem_of_mem_take hc)
  refine Ex.assign (d := .list (natsD (cs.take (n % (cs.length + 1))) ++ [.int odd, .int 55297])) (Ev.to (Ev.bin (Ev.listTo (k := n % (cs.length + 1)) (Ev.name rfl (by decide)) (Ev.to (Ev.bin (Ev.name rfl (by decide)) (Ev.bin (Ev.lenL (Ev.name rfl (by decide)) hlen1 rfl rfl) Ev.int Bin.add) (Bin.mod (by omega))) (congrArg Dat.int hk)) hlen1 (by intro _ _; rfl)) (Ev.list (.cons (Ev.name rfl (by decide)) (.cons Ev.int .nil rfl) rfl) (Nat.le_of_ble_eq_true rfl)) (Bin.addList (by simp [natsD]; omega))) (by simp [natsD, List.map_take])) ?_ (fun _ _ e => by cases e)
  have hzt : (cs.take (n % (cs.length + 1))).length ≤ 200 := by rw [List.length_take]; omega
  exact Ex.ret (Ev.and (Ev.cmp (Ev.callTop (g_law_refused w) (k_law_refused w) (.cons (Ev.name rfl (by decide)) (.cons Ev.bool .nil rfl) rfl) (fn_refused _ odd _ true hs' hodd hzt A (hA.le (by decide))) rfl) (Ev.name rfl (by decide)) Cmp.eq rfl) fun _ =>
    Ev.cmp (Ev.callTop (g_law_refused w) (k_law_refused w) (.cons (Ev.name rfl (by decide)) (.cons Ev.bool .nil rfl) rfl) (fn_refused _ odd _ false hs' hodd hzt A (hA.le (by decide))) rfl) (Ev.name rfl (by decide)) Cmp.eq rfl) (by simp)
end
end

section
set_option maxHeartbeats 2000000
variable [Inhabited Thr]
theorem g_law (w : World) : nsIn (KK w) mainGlobals "law" = some (some (.ref 221)) := by unfold KK; k_is
end

section
set_option maxHeartbeats 1000000
variable [Inhabited Thr]
section
variable {w : World} {A : Around} {env : Env} {ρ : Loc}
theorem Cmp.boolNe {a b : Bool} : Cmp w A .NotEq (.bool a) (.bool b) (!(a == b)) := by
  intro s nw v u Q E H hv hu k
  rw [datBool hv, datBool hu]
  refine compareOp_gives (op := .NotEq) (T := "bool") rfl rfl F.slot_bool_ne F.entry_int_ne (F.args_int_ne_2 _ _) (PySem.SeqAt.int___ne___bool_bool_0 a b) (fun x => nomatch x) ?_
  have h := k s (.refl _)
  cases a <;> cases b <;> first | exact h | simpa using h
theorem ints_dat {nw : Led} : ∀ {vs : List Value} {ns : List Int}, IntsAre vs ns → DatAll nw vs (ns.map .int)
  | _, _, .nil => .nil
  | _, _, .cons _ _ r => .cons (.int _ _) (ints_dat r)
/-- script[:n], the script a list of ints of the caller's -/
theorem cut_raw {x : Str} {np p pos : Pos} {hi : Expr} {n : Nat} {a : Addr} {vs : List Value} {ns : List Int} {s : Shared} {nw : Led} {m : Str → Option Value} {Q : Value → Shared → Prop} {E : Value → Shared → Prop} (S : St w A env ρ s nw)
    (hl : env.kindOf x = some .local) (hns : s.heap.Ns env.locals m) (hm : m x = some (.ref a)) (hL : s.heap.IsList a vs.toArray) (hI : IntsAre vs ns) (hz : ns.length ≤ 1000) (hu : Ev w A env ρ hi (.int n)) (hd : (x == ("__debug__" : Str)) = false)
    (ht : ∀ o r, letTemporaryGo (.Name x np) o r = pure ()) (hpe : evalPart Option.none env = pure .none)
    (k : ∀ v s' nw', Grow s s' nw nw' → DatIn nw' v (.list ((ns.take n).map .int)) → Q v s') : wpAny (model Prg w) A (eval (.Subscript (.Name x np) (.Slice Option.none (some hi) Option.none p) pos) env) Q E s := by
  have hD : DatAll nw vs (ns.map .int) := ints_dat hI
  refine wpAny_Subscript_Slice (T := "list") list_getitem_lookup (wpAny_Name (wpAny_loadName_local S.fits.hk hl hns hm ?_) hd) ht
  refine wpAny_Slice (part_eval (e := Option.none) (i := Option.none) trivial S fun vl s₂ nw₂ g₂ p₂ => part_eval (e := some hi) (i := some (n : Int)) hu (S.grow g₂) fun vu s₃ nw₃ g₃ p₃ => ?_)
  rw [evalPart_none]
  obtain ⟨o, ho, hoc, nn, hod⟩ := hL
  have ho₃ := (g₂.up.keep.trans g₃.up.keep).at ho (fun _ _ q => by rw [hod] at q; cases q)
  have up : Up s₃ { s₃ with heap := s₃.heap.push { cls := .type "slice", data := .fields #[vl, vu, .none] } } := ⟨rfl, .of fun b o e => Heap.get?_push_of_some _ e⟩
  have g₄ := Grow.of_up g₃.has up
  have hl : (s₃.heap.push { cls := .type "slice", data := .fields #[vl, vu, .none] }).IsList a vs.toArray := ⟨o, g₄.up.keep.at ho₃ (fun _ _ q => by rw [hod] at q; cases q), hoc, nn, hod⟩
  refine wpAny_pure ⟨hl.typeIs, wpAny_getItem_list_slice hl (Heap.IsSliceOf.new ..) p₂ p₃ .none (by simp) ?_ (by rw [List.size_toArray, hI.length, sizeLine_eq]; omega)⟩
  have g₅ := Grow.push g₄.has { cls := .type "list", data := .seq (slicePick vs.toArray Option.none (some (n : Int)) none) } ⟨_, _, rfl⟩
  refine k _ _ _ ((g₂.trans g₃).trans (g₄.trans g₅)) ?_
  rw [slicePick_plain]
  have e := cutL_to vs n
  unfold cutL at e
  refine .list (n := 0) (vs := vs.take n) ?_ ?_
  · simp only [List.toList_toArray, List.size_toArray]
    rw [e]
    exact .head _
  · rw [List.map_take]
    exact DatAll.take _ (((hD.mono g₂.sub).mono g₃.sub).mono fun p hp => .tail _ hp)
theorem at_of {target e : Expr} {items : List Dat} {d : Dat} {s : Shared} {nw : Led} (h : ∀ (Q : Value → Shared → Prop) (E : Value → Shared → Prop), (∀ v s' nw', Grow s s' nw nw' → DatIn nw' v d → Q v s') → wpAny (model Prg w) A (eval e env) Q E s)
    (hi : Iter w A target d items) : EvIterAt w A env target e items s nw := by
  refine ⟨fun Q E k => h _ _ fun v s₁ nw₁ g₁ d₁ => hi s₁ nw₁ v _ _ g₁.has d₁ fun I s₂ wr fp St g₂ src hwr hfp st => ?_⟩
  exact k I s₂ nw₁ wr fp St (g₁.trans g₂) src (fun b hb => none_back g₁.up.keep (hwr b hb)) hfp st
/-- y = [elt for x in iter], the iteration's source known here alone -/
theorem comp_first {R : Dat → Prop} {X : Shared → Led → Value → Shared → Prop} {rest : List Stmt} {N : Loc → Own → Prop} {y x : Str} {py px : Pos} {elt iter : Expr} {scope : Scope} {cl : List (Str × Addr)} {pos spos : Pos} {items : List Dat} {f : Dat → Dat}
    {s₀ : Shared} {nw₀ : Led} {s : Shared} {nw : Led} {Q : Flow → Shared → Prop} {E : Value → Shared → Prop} (S : Fs w A env s₀ nw₀ ρ none s nw) (hi : EvIterAt w A env (.Name x px) iter items s nw) (hclos : closureFor scope env = pure cl) (hkind : scope.kind = .function) (hcell : ∀ y ∈ scope.names, y.2 ≠ .cell)
    (hnames : ∀ y ∈ scope.names, y.2 = .local → scope.names.lookup y.1 = some .local) (hx : scope.names.lookup x = some .local) (he : ∀ C d, d ∈ items → Ev w A (compEnvC scope cl C env) [(x, d)] elt (f d)) (hz : items.length ≤ 1000)
    (hr : Ex w A env R X ((y, .list (items.map f)) :: ρ) none rest N) (hy : env.kindOf y = some .local)
    (hsw : swapsWith (.ListComp elt [⟨.Name x px, iter, [], 0⟩] scope pos) (some (.Name y py)) spos.line env = pure true)
    (hs : ∀ x, foldedSetIterable iter env x = pure x)
    (kn : ∀ ρ' own' s' nw', N ρ' own' → Fs w A env s₀ nw₀ ρ' own' s' nw' → Q .next s') (kr : ∀ d v s' nw', R d → Grow s₀ s' nw₀ nw' → DatIn nw' v d → Q (.ret v) s') (kx : ∀ e s', X s₀ nw₀ e s' → E e s') :
    wpAny (model Prg w) A (execs (.Assign [.Name y py] (.ListComp elt [⟨.Name x px, iter, [], 0⟩] scope pos) spos :: rest) env) Q E s := by
  refine wpAny_cons ?_
  rw [exec_Assign_Name_used _ _ _ _ hsw]
  refine wpAny_bind (wpAny_standAt (wpAny_bind ?_))
  show wpAny _ A (do let _ ← comprehension (.ListComp elt [⟨.Name x px, iter, [], 0⟩] scope pos) scope env _ (newList []) false (eval iter env) (some (PySem.assign (.Name y py) env))) _ _ s
  refine wpAny_bind (wpAny_mono (wpAny_comprehension_free (use := some (PySem.assign (.Name y py) env)) (Q := fun _ s' => wpAny (model Prg w) A (execs rest env) Q E s') rfl hs hclos hkind hnames ?_) (fun _ s' hq => wpAny_pure (wpAny_pure hq)) fun _ _ e => e)
  refine comp_core (cap := []) (bind := fun d => [(x, d)]) (g := fun d => some (f d)) (RR := fun acc C => compPost (model Prg w) A E (some (PySem.assign (.Name y py) env)) (fun _ s' => wpAny (model Prg w) A (execs rest env) Q E s') acc C) S.st hi hkind hcell (fun _ _ e => by cases e) (fun C d _ => CAsg.name (lookup_relabel_local hx) hkind) (fun C d hd => ⟨Tests.nil, he C d hd⟩) hz fun D C s' nw' ys n m' gr hD hne hD₀ hds hC hC₀ => ?_
  rw [show items.filterMap (fun d => some (f d)) = items.map f from congrFun List.filterMap_eq_map' items] at hds
  show wpAny _ A (PySem.assign (.Name y py) env (.ref D)) _ _ _
  have S₁ := S.grow (comp_grow gr hD hD₀)
  have hd : DatIn ((D, listOf ys.toArray n) :: nw') (.ref D) (.list (items.map f)) := .list (n := n) (.head _) (hds.mono fun p hp => .tail _ hp)
  obtain ⟨m, oL, esL, epL, eL, _⟩ := id S.ns
  have hCL : C ≠ env.locals := fun q => by rw [q, eL] at hC₀; cases hC₀
  have hC0 : s₀.heap.get? C = none := none_back S.since.up.keep hC₀
  exact wpAny_assign_Name (S₁.store_keep hy hd (fun _ _ e => by cases e) fun s'' S₂ _ kp => ⟨m', kp C m' hCL hC, fun h'' hs'' => (hr).run s₀ nw₀ _ _ Q E (S₂.otherNs (kp C m' hCL hC) hC0 hCL hs'' (S.stk.off S₂.stk hC₀ hs'')) kn kr kx⟩)
end
section
variable {w : World}
/-- into a def with cells, its one argument any value -/
theorem enterRaw {f : Addr} {name qual : Str} {params : Arguments} {body : List Stmt} {scope : Scope} {dV kV doc pm cdv ct oc : Value} {an od : Option Addr} {osl : Array (Option Value)} {A : Around} {s : Shared} {nw : Led} {x : Str} {v : Value} {Rz : Result → Shared → Prop}
    (ho : (KK w).lookup f = some ⟨oc, od, .func (fnOf name qual params body scope dV kV doc pm an cdv ct), osl⟩) (hcd : codeIn (KK w) cdv qual = true) (G : Gl w s.heap) (KS : Stk A s.heap) (H : Has s.heap nw) {kk : Nat} (hR : Room A (kk + 1))
    (hbind : bindArgs (fnOf name qual params body scope dV kV doc pm an cdv ct) ⟨[v], []⟩ = pure [(x, v)]) (hloc : scope.names.lookup x = some .local)
    (hk : scope.kind = .function) (hco : scope.isCoroutine = false) (hgen : scope.isGenerator = false)
    (h : ∀ A' L s₁ m, Room A' kk → s₁.heap.Ns L m → m x = some v → Fs w A' (envOfC qual scope L f cdv) s nw [] none s₁ nw → wpAny (model Prg w) A' (execs body (envOfC qual scope L f cdv)) (fun fl s' => Rz (.ok (.ret (match fl with | .ret v => v | _ => .none))) s')
      (fun e s' => wpAny (model Prg w) A' (leaving (envOfC qual scope L f cdv) e) (fun _ s'' => Rz (.error e) s'') (fun e' s'' => Rz (.error e') s'') s') s₁) : codeAny (model Prg w) A (.call (.ref f) ⟨[v], []⟩) Rz s := by
  refine codeAny_call_cells (fd := fnOf name qual params body scope dV kV doc pm an cdv ct) (body := body) (binds := [(x, v)]) hR.lt (G.at ho fun _ _ q => by cases q) rfl G.nolimit (G.code hcd) rfl hbind rfl (fun y hy => .inl (by rw [List.mem_singleton.mp hy]; exact hloc)) (fun s₁ X => ?_) hco hgen hk
  refine h _ s.heap.objs.size _ _ (hR.deeper _) X.toInCall.ns ?hm ⟨⟨hk, rfl, rfl⟩, G, KS.push (.of X.toInCall.keep) (by show scope.kind ≠ _; rw [hk]; decide) rfl X.toInCall.ns G.big, .of_up H ⟨?_, .of X.toInCall.keep⟩, Heap.get?_none_of_le (Nat.le_refl _), ⟨_, X.toInCall.ns⟩, fun x c e => ⟨Heap.get?_none_of_le (Nat.le_of_lt (X.above x c (mem_of_lookup e))), _, X.cell x c e⟩, fun x c y c' e e' hxy q => ?_, fun x d e => (by cases e), fun _ _ e => (by cases e)⟩
  · have hkx : (callEnvC (fnOf name qual params body scope dV kV doc pm an cdv ct) s.heap.objs.size f).kindOf x = some .local := hloc
    unfold bindL
    rw [hkx]
    exact if_pos rfl
  · obtain ⟨h', tk, e⟩ := X.toInCall.same
    rw [e]
  · subst q
    exact hxy (name_of_addr X.apart (mem_of_lookup e) (mem_of_lookup e'))
end
end

section
set_option maxHeartbeats 2000000
variable [Inhabited Thr]
omit [Inhabited Thr] in
noncomputable def octI (v : Int) : Int := if (decide (0 < (v.fdiv 24).fmod 6) || decide (v < 24)) = true then ((lawOctets.getD (v.fmod 24).toNat 0).toNat : Nat) else (v.fdiv 144).fmod 256
omit [Inhabited Thr] in
noncomputable def octD : Dat → Dat
  | .int v => .int (octI v)
  | _ => .none
omit [Inhabited Thr] in
noncomputable def codD : Dat → Dat
  | .bytes b => codeD (lawCode (nats b.toList))
  | _ => .none
omit [Inhabited Thr] in
noncomputable def dueD (d : Dat) : Dat := if Dat.isNone d = true then .int 65533 else d
omit [Inhabited Thr] in
noncomputable def endD (l : List UInt8) : Dat → Dat
  | .int k => .int ((((cuts l).take (k.toNat + 1)).flatten.length : Nat) : Int)
  | _ => .none
omit [Inhabited Thr] in
noncomputable def illG (l : List UInt8) : Dat → Option Dat
  | .tuple [.int k, c] => if Dat.isNone c = true then some (.int (off (pcs (nats l)) k.toNat : Nat)) else Option.none
  | _ => Option.none
omit [Inhabited Thr] in
noncomputable def illB : Dat → Loc
  | .tuple [k, c] => [("k", k), ("code", c)]
  | _ => []
omit [Inhabited Thr] in
noncomputable def codes (l : List UInt8) : List Dat := (pcs (nats l)).map fun p => optD p.2
theorem octI_range (v : Int) : 0 ≤ octI v ∧ octI v < 256 := by
  unfold octI
  split
  · have : (lawOctets.getD (v.fmod 24).toNat 0).toNat < 256 := UInt8.toNat_lt _
    omega
  · rw [Int.fmod_eq_emod_of_nonneg _ (by decide)]; omega
theorem cuts_len (l : List UInt8) : (cuts l).length = (pcs (nats l)).length := by
  have := congrArg List.length (cuts_nats l)
  simpa using this
theorem cuts_le (l : List UInt8) : (cuts l).length ≤ l.length := by rw [cuts_len]; have := pcs_length_le (nats l); rwa [nats_len] at this
theorem codes_eq (l : List UInt8) : ((cuts l).map bytesD).map codD = codes l := by
  have e1 : ((cuts l).map bytesD).map codD = ((cuts l).map nats).map fun p => codeD (lawCode p) := by
    rw [List.map_map, List.map_map]
    exact List.map_congr_left fun p _ => rfl
  rw [e1, cuts_nats, List.map_map]
  have e2 : (pcs (nats l)).map ((fun p => codeD (lawCode p)) ∘ fun x => x.1) = ((pcs (nats l)).map fun p => lawCode p.1).map codeD := by rw [List.map_map]; rfl
  rw [e2, pcs_code, List.map_map]
  unfold codes
  refine List.map_congr_left fun p _ => ?_
  obtain ⟨p, c⟩ := p
  cases c <;> rfl
theorem due_eq (l : List UInt8) : (codes l).map dueD = natsD (repl (nats l)) := by
  unfold codes natsD repl
  rw [List.map_map, List.map_map]
  refine List.map_congr_left fun p _ => ?_
  obtain ⟨p, c⟩ := p
  cases c <;> rfl
theorem flat_nats : ∀ ls : List (List UInt8), (ls.map nats).flatten.length = ls.flatten.length
  | [] => rfl
  | x :: ls => by
    have := flat_nats ls
    simp only [List.map_cons, List.flatten_cons, List.length_append, this]
    rw [nats_len]
theorem flat_cuts (l : List UInt8) (k : Nat) : ((cuts l).take k).flatten.length = off (pcs (nats l)) k := by
  rw [← flat_nats, List.map_take, cuts_nats]
  unfold off
  rw [← List.map_take]
theorem cut_at {l : List UInt8} {k : Nat} {p : List UInt8} (h : (cuts l)[k]? = some p) : ∃ c, (pcs (nats l))[k]? = some (nats p, c) := by
  have e : ((cuts l).map nats)[k]? = some (nats p) := by rw [List.getElem?_map, h]; rfl
  rw [cuts_nats, List.getElem?_map] at e
  cases q : (pcs (nats l))[k]? with
  | none => rw [q] at e; cases e
  | some x => rw [q] at e; obtain ⟨x, c⟩ := x; cases e; exact ⟨c, rfl⟩
theorem cut_off {l : List UInt8} {k : Nat} {p : List UInt8} (h : (cuts l)[k]? = some p) : off (pcs (nats l)) k + p.length = off (pcs (nats l)) (k + 1) ∧ off (pcs (nats l)) (k + 1) ≤ l.length ∧ (piece ((nats l).drop (off (pcs (nats l)) k))).1 = p.length ∧ 1 ≤ p.length ∧ p.length ≤ 4 := by
  obtain ⟨c, hc⟩ := cut_at h
  obtain ⟨e1, e2, e3, _, e5, e6⟩ := pcs_at _ _ _ _ hc
  rw [nats_len] at e1 e2 e3 e5 e6
  exact ⟨e1, e2, e3, e5, e6⟩
theorem cut_ne {l p : List UInt8} (h : p ∈ cuts l) : p ≠ [] ∧ p.length ≤ 4 := by
  obtain ⟨k, hk⟩ := List.getElem?_of_mem h
  obtain ⟨_, _, _, h1, h2⟩ := cut_off hk
  exact ⟨fun e => by rw [e] at h1; simp at h1, h2⟩
theorem cut_last {l : List UInt8} (h : l ≠ []) : ∃ init last ps c, cuts l = init ++ [last] ∧ pcs (nats l) = ps ++ [(nats last, c)] := by
  have h1 : cuts l ≠ [] := by rw [cuts_cons h]; simp
  have h2 : pcs (nats l) ≠ [] := by rw [pcs_cons (nats_ne h)]; simp
  obtain ⟨⟨p, c⟩, hp⟩ : ∃ x, x = (pcs (nats l)).getLast h2 := ⟨_, rfl⟩
  refine ⟨(cuts l).dropLast, (cuts l).getLast h1, (pcs (nats l)).dropLast, c, (List.dropLast_concat_getLast h1).symm, ?_⟩
  have e : nats ((cuts l).getLast h1) = p := by
    have a : ((cuts l).map nats).getLast? = ((pcs (nats l)).map (·.1)).getLast? := by rw [cuts_nats]
    rw [List.getLast?_map, List.getLast?_map, List.getLast?_eq_some_getLast h1, List.getLast?_eq_some_getLast h2, ← hp] at a
    exact Option.some.inj a
  rw [e, hp]
  exact (List.dropLast_concat_getLast h2).symm
theorem fm_filter {α : Type} (F : α → Dat) (g : Dat → Option Dat) (t : α → Bool) (h : α → Nat) (he : ∀ q, g (F q) = if t q = true then some (.int (h q : Nat)) else Option.none) : ∀ L : List α, (L.map F).filterMap g = ((L.filter t).map h).map fun (n : Nat) => Dat.int n
  | [] => rfl
  | q :: L => by
    have ih := fm_filter F g t h he L
    have hq := he q
    cases ht : t q with
    | true => rw [ht] at hq; simp only [List.map_cons, List.filterMap_cons, hq, if_true, ih, List.filter_cons, ht]
    | false => rw [ht] at hq; simp only [List.map_cons, List.filterMap_cons, hq, Bool.false_eq_true, if_false, ih, List.filter_cons, ht]
theorem ill_items (l : List UInt8) : (numbered (codes l)).filterMap (illG l) = natsD (illS 0 (pcs (nats l))) := by
  rw [← illS_filter (pcs (nats l)) 0 0 (off (pcs (nats l))) fun i _ => by rw [Nat.zero_add, Nat.zero_add]]
  unfold numbered codes natsD
  rw [List.zipIdx_map, List.map_map]
  exact fm_filter _ _ (fun (q : (List Nat × Option Nat) × Nat) => q.1.2.isNone) (fun (q : (List Nat × Option Nat) × Nat) => off (pcs (nats l)) q.2) (by
    rintro ⟨⟨p, c⟩, i⟩
    cases c <;> simp [illG, optD, Dat.isNone]) _
theorem codes_len (l : List UInt8) : (codes l).length = (cuts l).length := by simp [codes, cuts_len]
theorem numbered_get {ds : List Dat} {i : Nat} {d : Dat} (h : (numbered ds)[i]? = some d) : ∃ x, ds[i]? = some x ∧ d = .tuple [.int (i : Int), x] := by
  unfold numbered at h
  rw [List.getElem?_map, List.getElem?_zipIdx] at h
  cases q : ds[i]? with
  | none => rw [q] at h; cases h
  | some x => rw [q] at h; simp at h; exact ⟨x, rfl, h.symm⟩
theorem ends_get (l : List UInt8) {k : Nat} (h : k < (cuts l).length) : (natsD ((List.range (cuts l).length).map fun k => off (pcs (nats l)) (k + 1)))[k]? = some (.int (off (pcs (nats l)) (k + 1) : Nat)) := by
  simp [natsD, h]
theorem pieces_get (l : List UInt8) {k : Nat} (h : k < (cuts l).length) : ∃ p, (cuts l)[k]? = some p ∧ ((cuts l).map bytesD)[k]? = some (bytesD p) := ⟨_, List.getElem?_eq_getElem h, by rw [List.getElem?_map, List.getElem?_eq_getElem h]; rfl⟩
theorem back_zero (bs : List Nat) : back bs 0 = 0 := by simp [back, backWalk, piece]
theorem kq_ints {ns : List Int} : ∀ d ∈ ns.map Dat.int, kqdOk 8 d = true := fun d hd => by
  obtain ⟨n, _, rfl⟩ := List.mem_map.mp hd
  rfl
section
variable {w : World}
theorem TrAll.to {A : Around} {env : Env} {ρ : Loc} {op : BoolOp} {es : List Expr} {b b' : Bool} (h : TrAll w A env ρ op es b) (q : b = b') : TrAll w A env ρ op es b' := q ▸ h
theorem law_walk {ns : List Int} {s : Shared} {a : Addr} {vs : List Value} {Rz : Result → Shared → Prop} (h63 : ns.length ≤ 63) (G : Gl w s.heap) (hL : s.heap.IsList a vs.toArray) (hI : IntsAre vs ns)
    (k : ∀ s', Up s s' → Rz (.ok (.ret (.bool true))) s') : codeAny (model Prg w) callerA (.call (.ref 221) ⟨[.ref a], []⟩) Rz s := by
  refine' enterRaw (x := "script") (nw := []) (kk := 10) ?ho ?hcd G ?ks ?has ?hR ?hb ?hl ?hk ?hco ?hg ?h
  tb_rel
  case ks => exact ⟨[], rfl, fun _ h => nomatch h⟩
  case has => exact fun _ h => nomatch h
  case hR => exact ⟨rfl, Nat.le_of_ble_eq_true rfl, Nat.le_of_ble_eq_true rfl⟩
  case hb => exact rfl
  intro A L s₁ m hA hns hm S
  have hu : A.units + 64 < 9900 := by have := hA.hu; omega
  refine comp_first (f := id) (items := (ns.take 7).map .int) (R := fun d => d = .bool true) (X := noX) (N := fun _ _ => False) S (at_of (fun Q E kk => cut_raw (n := 7) S.st rfl hns hm ?hl2 hI (by omega) Ev.int (by decide) (by intro _ _; rfl) rfl kk) (Iter.list hA.hh)) rfl rfl (by decide) (by decide) rfl (fun C d hd => ?_) ?_ ?_ rfl rfl (by intro _; rfl)
    (fun _ _ _ _ h => h.elim) (fun d v s' nw' hd g hv => ?_) fun _ _ h => h.elim
  case hl2 =>
    obtain ⟨o, ho, hoc, n, hod⟩ := hL
    exact ⟨o, S.since.up.keep.at ho (fun _ _ q => by rw [hod] at q; cases q), hoc, n, hod⟩
  · obtain ⟨v, _, rfl⟩ := List.mem_map.mp hd
    exact Ev.intB (Ev.name rfl (by decide)) rfl rfl
  · rw [List.length_map, List.length_take]; omega
  rotate_left
  · subst hd; cases hv; exact k s' g.up
  rw [List.map_id]
  obtain ⟨cells, hcells⟩ : ∃ c, c = ns.take 7 := ⟨_, rfl⟩
  have hcl : cells.length ≤ 7 := by rw [hcells, List.length_take]; omega
  rw [← hcells]
  have hcz : (cells.map Dat.int).length ≤ 1000 := by rw [List.length_map]; omega
  -- octets
  have hoc : (cells.map Dat.int).map octD = (cells.map octI).map Dat.int := by rw [List.map_map, List.map_map]; exact List.map_congr_left fun _ _ => rfl
  refine Ex.assign (Ev.bytesB hA.hh (Ev.to (Ev.lc [] (f := octD) (EvIter.of (Ev.name rfl (by decide)) (Iter.list hA.hh)) (fun C d hd => ?_) rfl trivial hcz) (congrArg Dat.list hoc)) (fun n hn => ?_) (by rw [List.length_map]; omega) rfl stComp) ?_ (fun _ _ e => by cases e)
  · obtain ⟨v, _, rfl⟩ := List.mem_map.mp hd
    have h0 : 0 ≤ v.fmod 24 := Int.fmod_nonneg_of_pos _ (by decide)
    have h1 : v.fmod 24 < 24 := Int.fmod_lt_of_pos _ (by decide)
    exact Ev.to (Ev.iteInt (Tr.bool (.orCons (by ktr_rel) fun _ => .orCons (by ktr_rel) fun _ => .orNil)) (fun _ => Ev.itemBytes (Ev.topBytes (c_octets w) rfl) (by ktr_rel) h0 (by simpa [lawOctets] using h1) (by decide) (by intro _ _; rfl)) (fun _ => by ktr_rel)) (by simp [octD, octI])
  · obtain ⟨v, _, rfl⟩ := List.mem_map.mp hn
    exact octI_range v
  obtain ⟨l, hl⟩ : ∃ l, l = (cells.map octI).map fun n => n.toNat.toUInt8 := ⟨_, rfl⟩
  have hlz : l.length ≤ 7 := by rw [hl, List.length_map, List.length_map]; exact hcl
  have hlb : Dat.bytes (byteArr (cells.map octI)) = .bytes l.toArray := by rw [hl]; rfl
  rw [hlb]
  clear hl hlb hoc
  have hlz' : l.length ≤ 1000 := by omega
  have hK := cuts_le l
  -- pieces
  refine Ex.assignCell (Ev.callTop (g_law_cut w) (k_law_cut w) (.cons (Ev.name rfl (by decide)) .nil rfl) (fn_law_cut l hlz' A (hA.le (by decide))) rfl) ?_ rfl rfl rfl
  have hpz : ((cuts l).map bytesD).length ≤ 1000 := by rw [List.length_map]; omega
  -- codes
  refine Ex.assignLc [] (f := codD) (EvIter.of (Ev.name rfl (by decide)) (Iter.list hA.hh)) (fun C d hd => ?_) rfl trivial hpz ?_ (fun _ _ e => by cases e) (.inl rfl)
  · obtain ⟨p, hp, rfl⟩ := List.mem_map.mp hd
    exact Ev.to (Ev.law_code (l := p) (Ev.name rfl (by decide)) (cut_ne hp).1 (by have := (cut_ne hp).2; omega) (hA.le (by decide)) rfl rfl) rfl
  rw [codes_eq]
  have hcd : (codes l).length ≤ 1000 := by rw [codes_len]; omega
  -- due
  refine Ex.assignLc [] (f := dueD) (EvIter.of (Ev.name rfl (by decide)) (Iter.list hA.hh)) (fun C d hd => ?_) rfl trivial hcd ?_ (fun _ _ e => by cases e) (.inl rfl)
  · exact Ev.ite (Tr.cmp (Ev.name rfl (by decide)) Ev.nothing Cmp.isNot rfl) (fun h => Ev.to (Ev.name rfl (by decide)) (by unfold dueD; rw [if_neg (by simpa using h)])) (fun h => Ev.to Ev.int (by unfold dueD; rw [if_pos (by simpa using h)]))
  rw [due_eq]
  -- ends
  refine Ex.assignCell (Ev.lc [("pieces", .list ((cuts l).map bytesD))] (f := endD l) (EvIter.range1 hA.hh (b_range w) (Ev.lenL (Ev.name rfl (by decide)) hpz rfl rfl) (by omega) (by omega)) (fun C d hd => ?_) rfl ⟨⟨rfl, rfl, rfl, rfl⟩, trivial⟩ (by rw [run_length]; omega)) ?_ rfl rfl rfl
  · obtain ⟨i, hi, rfl⟩ := List.mem_map.mp hd
    have hfz : ((cuts l).take (i + 1)).flatten.length ≤ 1000 := by
      rw [flat_cuts]
      rcases Nat.lt_or_ge i (cuts l).length with hlt | hge
      · obtain ⟨p, hp, _⟩ := pieces_get l hlt
        have := (cut_off hp).2.1; omega
      · rw [List.length_map] at hi; simp at hi; omega
    refine Ev.to (Ev.lenB (Ev.join (ls := (cuts l).take (i + 1)) (Ev.to (Ev.listTo (k := i + 1) (Ev.name rfl (by decide)) (Ev.to (Ev.bin (Ev.name rfl (by decide)) Ev.int Bin.add) (by simp)) hpz (by intro _ _; rfl)) (by rw [List.map_take])) hfz rfl stSub) (by rw [List.size_toArray]; exact hfz) rfl stCall) (by simp [endD])
  have hends : (runOf 0 ((((cuts l).map bytesD).length : Nat) : Int).toNat).map (endD l) = natsD ((List.range (cuts l).length).map fun k => off (pcs (nats l)) (k + 1)) := by
    unfold runOf natsD
    simp only [List.map_map, List.length_map, Int.toNat_natCast]
    refine List.map_congr_left fun i _ => ?_
    show endD l (.int (0 + (i : Int))) = .int ((off (pcs (nats l)) (i + 1) : Nat) : Int)
    rw [Int.zero_add]
    show Dat.int _ = _
    rw [Int.toNat_natCast, flat_cuts]
  rw [hends]
  have hez : (natsD ((List.range (cuts l).length).map fun k => off (pcs (nats l)) (k + 1))).length ≤ 1000 := by rw [natsD_length, List.length_map, List.length_range]; omega
  -- ill
  refine Ex.assignComp (cap := [("ends", .list (natsD ((List.range (cuts l).length).map fun k => off (pcs (nats l)) (k + 1)))), ("pieces", .list ((cuts l).map bytesD))]) (bind := illB) (g := illG l)
    ⟨EvIter.enum hA.hh (b_enumerate w) (Ev.name rfl (by decide)), rfl, rfl, by decide, by decide, Caps.all ⟨⟨rfl, rfl, rfl, rfl⟩, ⟨rfl, rfl, rfl, rfl⟩, trivial⟩, fun C d hd => ?_, fun C d hd => ?_, by rw [numbered_length]; exact hcd⟩ ?_ (fun _ _ e => by cases e) (.inl rfl)
  · obtain ⟨i, hi⟩ := List.getElem?_of_mem hd
    obtain ⟨x, hx, rfl⟩ := numbered_get hi
    exact CAsg.pair hA.hh (lookup_relabel_local rfl) (lookup_relabel_local rfl) (by decide) rfl
  · obtain ⟨i, hi⟩ := List.getElem?_of_mem hd
    obtain ⟨x, hx, rfl⟩ := numbered_get hi
    have hik : i < (cuts l).length := by rw [← codes_len]; exact lt_of_get hx
    obtain ⟨p, hp, hpd⟩ := pieces_get l hik
    have hof := cut_off hp
    cases hn : Dat.isNone x with
    | true =>
      have hg : illG l (.tuple [.int (i : Int), x]) = some (.int (off (pcs (nats l)) i : Nat)) := by simp [illG, hn]
      rw [hg]
      refine ⟨Tests.one (Tr.to (Tr.cmp (Ev.name rfl (by decide)) Ev.nothing Cmp.is rfl) hn), ?_⟩
      refine Ev.to (Ev.bin (Ev.itemList (i := (i : Int)) (Ev.name rfl (by decide)) (Ev.name rfl (by decide)) (by omega) (by omega) (by rw [Int.toNat_natCast]; exact ends_get l hik) (by intro _ _; rfl))
        (Ev.lenB (Ev.itemList (i := (i : Int)) (d := bytesD p) (Ev.name rfl (by decide)) (Ev.name rfl (by decide)) (by omega) (by omega) (by rw [Int.toNat_natCast]; exact hpd) (by intro _ _; rfl)) (by rw [List.size_toArray]; omega) rfl stSub) Bin.sub) ?_
      rw [List.size_toArray]
      congr 1
      omega
    | false =>
      have hg : illG l (.tuple [.int (i : Int), x]) = Option.none := by simp [illG, hn]
      rw [hg]
      exact Tests.one (Tr.to (Tr.cmp (Ev.name rfl (by decide)) Ev.nothing Cmp.is rfl) hn)
  rw [ill_items]
  have hrl := repl_length_le (nats l)
  rw [nats_len] at hrl
  have hdz : (natsD (repl (nats l))).length ≤ 1000 := by rw [natsD_length]; omega
  have hhead := illS_head (pcs (nats l)) 0
  have hok := illF_ok (pcs (nats l)) 0
  change illF 0 (pcs (nats l)) = none ↔ okAll (nats l) = true at hok
  -- the text read, strictly and not
  refine Ex.ifLeave (b := false) ?t1 (fun h => by cases h) fun _ => ?_
  case t1 =>
    refine Tr.to (Tr.bool (.orCons (b := false) (Tr.cmp (Ev.listB (Ev.callTop (g_decode_utf8_replaced w) (k_decode_utf8_replaced w) (.cons (Ev.name rfl (by decide)) .nil rfl) (fn_replaced l hlz' A (hA.le (by decide))) rfl) hdz rfl rfl) (Ev.name rfl (by decide)) (Cmp.listNe hu kq_nats kq_nats) rfl) fun _ => ?_)) (by simp)
    cases hill : illF 0 (pcs (nats l)) with
    | none =>
      rw [hill] at hhead
      have hnil : illS 0 (pcs (nats l)) = [] := List.head?_eq_none_iff.mp hhead
      have hst : strictD l = .list (natsD (repl (nats l))) := by rw [strictD, hill]
      rw [hnil]
      refine TrAll.to (.orCons (Tr.cmp (Ev.to (Ev.callTop (g_law_strict w) (k_law_strict w) (.cons (Ev.name rfl (by decide)) .nil rfl) (fn_strict l hlz' A (hA.le (by decide))) rfl) hst) (Ev.ite (Tr.cmp (Ev.name rfl (by decide)) (Ev.list .nil (Nat.zero_le _)) (Cmp.listNe hu kq_nats (fun d hd => nomatch hd)) rfl) (fun h => ?_) (fun _ => Ev.name rfl (by decide))) (Cmp.listNe hu kq_nats kq_nats) rfl) fun _ => .orNil) (by simp)
      simp [natsD] at h
    | some a =>
      rw [hill] at hhead
      obtain ⟨tl, htl⟩ : ∃ tl, illS 0 (pcs (nats l)) = a :: tl := by
        cases h : illS 0 (pcs (nats l)) with
        | nil => rw [h] at hhead; cases hhead
        | cons b tl => rw [h] at hhead; cases hhead; exact ⟨tl, rfl⟩
      have hst : strictD l = .int (a : Nat) := by rw [strictD, hill]
      rw [htl]
      refine TrAll.to (.orCons (Tr.cmp (Ev.to (Ev.callTop (g_law_strict w) (k_law_strict w) (.cons (Ev.name rfl (by decide)) .nil rfl) (fn_strict l hlz' A (hA.le (by decide))) rfl) hst) (Ev.ite (d := .int (a : Nat)) (Tr.cmp (Ev.name rfl (by decide)) (Ev.list .nil (Nat.zero_le _)) (Cmp.listNe hu kq_nats (fun d hd => nomatch hd)) rfl) (fun _ => Ev.itemList (Ev.name rfl (by decide)) Ev.int (by decide) (by decide) rfl (by intro _ _; rfl)) (fun h => ?_)) Cmp.ne rfl) fun _ => .orNil) (by simp)
      simp [natsD] at h
  -- is_utf8, the places
  refine Ex.ifLeave (b := false) ?t2 (fun h => by cases h) fun _ => ?_
  case t2 =>
    cases hill : illF 0 (pcs (nats l)) with
    | none =>
      rw [hill] at hhead
      have hnil : illS 0 (pcs (nats l)) = [] := List.head?_eq_none_iff.mp hhead
      rw [hnil]
      refine Tr.to (Tr.bool (.orCons (Tr.cmp (Ev.callTop (g_is_utf8 w) (k_is_utf8 w) (.cons (Ev.name rfl (by decide)) .nil rfl) (fn_is_utf8 l hlz' A (hA.le (by decide))) rfl) (Ev.cmp (Ev.name rfl (by decide)) (Ev.list .nil (Nat.zero_le _)) (Cmp.listEq hu kq_nats (fun d hd => nomatch hd)) rfl) Cmp.boolNe rfl) fun _ =>
        .orCons (Tr.bool (.andCons (b := false) (Tr.cmp (Ev.name rfl (by decide)) (Ev.list .nil (Nat.zero_le _)) (Cmp.listNe hu kq_nats (fun d hd => nomatch hd)) rfl) fun h => ?_)) fun _ => .orNil)) (by simp [hok.mp hill, natsD])
      simp [natsD] at h
    | some a =>
      rw [hill] at hhead
      obtain ⟨tl, htl⟩ : ∃ tl, illS 0 (pcs (nats l)) = a :: tl := by
        cases h : illS 0 (pcs (nats l)) with
        | nil => rw [h] at hhead; cases hhead
        | cons b tl => rw [h] at hhead; cases hhead; exact ⟨tl, rfl⟩
      have hst : placesD l = .int (a : Nat) := by rw [placesD, hill]
      have hokf : okAll (nats l) = false := by
        cases q : okAll (nats l) with
        | false => rfl
        | true => have := hok.mpr q; rw [hill] at this; cases this
      rw [htl]
      exact Tr.to (Tr.bool (.orCons (Tr.cmp (Ev.callTop (g_is_utf8 w) (k_is_utf8 w) (.cons (Ev.name rfl (by decide)) .nil rfl) (fn_is_utf8 l hlz' A (hA.le (by decide))) rfl) (Ev.cmp (Ev.name rfl (by decide)) (Ev.list .nil (Nat.zero_le _)) (Cmp.listEq hu kq_nats (fun d hd => nomatch hd)) rfl) Cmp.boolNe rfl) fun _ =>
        .orCons (Tr.bool (.andCons (Tr.cmp (Ev.name rfl (by decide)) (Ev.list .nil (Nat.zero_le _)) (Cmp.listNe hu kq_nats (fun d hd => nomatch hd)) rfl) fun _ => .andCons (Tr.cmp (Ev.to (Ev.callTop (g_law_places w) (k_law_places w) (.cons (Ev.name rfl (by decide)) .nil rfl) (fn_lawplaces l hlz' A (hA.le (by decide))) rfl) hst) (Ev.itemList (d := .int (a : Nat)) (Ev.name rfl (by decide)) Ev.int (by decide) (by decide) rfl (by intro _ _; rfl)) Cmp.ne rfl) fun _ => .andNil)) fun _ => .orNil)) (by simp [hokf, natsD])
  -- the ends
  refine Ex.ifLeave (b := false) (Tr.to (Tr.bool (.orCons (Tr.cmp (Ev.callTop (g_forward_from w) (k_forward_from w) (.cons (Ev.name rfl (by decide)) (.cons (Ev.lenB (Ev.name rfl (by decide)) (by simpa using hlz') rfl rfl) .nil rfl) rfl) (fn_forward l l.toArray.size hlz' A (hA.le (by decide))) rfl) (Ev.lenB (Ev.name rfl (by decide)) (by simpa using hlz') rfl rfl) Cmp.ne rfl) fun _ =>
    .orCons (Tr.cmp (Ev.callTop (g_back_from w) (k_back_from w) (.cons (Ev.name rfl (by decide)) (.cons (Ev.to (d' := .int ((0 : Nat) : Int)) Ev.int rfl) .nil rfl) rfl) (fn_back l 0 (Nat.zero_le _) hlz' A (hA.le (by decide))) rfl) Ev.int Cmp.ne rfl) fun _ => .orNil)) (by simp [back_zero])) (fun h => by cases h) fun _ => ?_
  -- forward
  refine Ex.for XOk.none (items := numbered ((cuts l).map bytesD)) (EvIter.enum hA.hh (b_enumerate w) (Ev.name rfl (by decide))) (fun i ρ own => own = none ∧ AllIn [("octets", .bytes l.toArray), ("ends", .list (natsD ((List.range (cuts l).length).map fun k => off (pcs (nats l)) (k + 1)))), ("due", .list (natsD (repl (nats l)))), ("cells", .list (cells.map Dat.int))] ρ)
    (fun i ρ => ("part", itemAt ((cuts l).map bytesD) i) :: ("k", .int (i : Int)) :: ρ) ⟨rfl, rfl, rfl, rfl, rfl, trivial⟩ ?_ ?_ ?_
  · rintro i d ρ own hd ⟨rfl, hall⟩
    obtain ⟨x, hx, rfl⟩ := numbered_get hd
    rw [itemAt_get hx]
    exact Asg.tuple hA.hh (.cons (fun _ _ e => by cases e) (.cons (fun _ _ e => by cases e) .nil))
  · rintro i d ρ own hd ⟨rfl, hall⟩
    obtain ⟨x, hx, rfl⟩ := numbered_get hd
    have hik : i < (cuts l).length := by have := lt_of_get hx; rwa [List.length_map] at this
    obtain ⟨p, hp, hpd⟩ := pieces_get l hik
    rw [hpd] at hx
    cases hx
    rw [itemAt_get hpd]
    have hof := cut_off hp
    refine Ex.weaken ?_ (AllIn.push (x := "part") (d := bytesD p) (AllIn.push (x := "k") (d := .int (i : Int)) hall rfl) rfl)
    refine Ex.ifLeave (b := false) (Tr.to (Tr.cmp (Ev.callTop (g_forward_from w) (k_forward_from w) (.cons (Ev.name rfl (by decide)) (.cons (Ev.to (d' := .int ((off (pcs (nats l)) i : Nat) : Int)) (Ev.bin (Ev.itemList (i := (i : Int)) (Ev.name rfl (by decide)) (Ev.name rfl (by decide)) (by omega) (by omega) (by rw [Int.toNat_natCast]; exact ends_get l hik) (by intro _ _; rfl)) (Ev.lenB (Ev.name rfl (by decide)) (by rw [List.size_toArray]; omega) rfl rfl) Bin.sub) ?_) .nil stBin) rfl) (fn_forward l _ hlz' A (hA.le (by decide))) rfl)
      (Ev.itemList (i := (i : Int)) (Ev.name rfl (by decide)) (Ev.name rfl (by decide)) (by omega) (by omega) (by rw [Int.toNat_natCast]; exact ends_get l hik) (by intro _ _; rfl)) Cmp.ne rfl) ?_) (fun h => by cases h) fun _ => .nil ⟨rfl, rfl, rfl, rfl, rfl, trivial⟩
    · rw [List.size_toArray]; congr 1; omega
    · rw [if_neg (by omega), hof.2.2.1]
      simp only [decide_eq_false_iff_not, Classical.not_not]
      omega
  rintro ρ own ⟨rfl, hall⟩
  refine Ex.weaken ?_ hall
  -- back
  refine Ex.for XOk.none (items := runOf 1 (((l.toArray.size : Int) + 1) - 1).toNat) (EvIter.range2 hA.hh (b_range w) Ev.int (Ev.bin (Ev.lenB (Ev.name rfl (by decide)) (by simpa using hlz') rfl rfl) Ev.int Bin.add) (by decide) (by decide) (by omega) (by rw [List.size_toArray]; omega)) (fun i ρ own => own = none ∧ AllIn [("octets", .bytes l.toArray), ("due", .list (natsD (repl (nats l)))), ("cells", .list (cells.map Dat.int))] ρ)
    (fun i ρ => ("at", .int ((i + 1 : Nat) : Int)) :: ρ) ⟨rfl, rfl, rfl, rfl, trivial⟩ ?_ ?_ ?_
  · rintro i d ρ own hd ⟨rfl, hall⟩
    obtain ⟨hi, rfl⟩ := runOf_get hd
    rw [show (1 : Int) + (i : Int) = ((i + 1 : Nat) : Int) by omega]
    exact Asg.name (fun _ _ e => by cases e)
  · rintro i d ρ own hd ⟨rfl, hall⟩
    obtain ⟨hi, rfl⟩ := runOf_get hd
    have hil : i + 1 ≤ l.length := by rw [List.size_toArray] at hi; omega
    refine Ex.weaken ?_ (AllIn.push (x := "at") (d := .int ((i + 1 : Nat) : Int)) hall rfl)
    have htne : l.take (i + 1) ≠ [] := fun e => by
      have := congrArg List.length e
      rw [List.length_take, List.length_nil] at this; omega
    obtain ⟨init, last, ps, c, hcut, hpcs⟩ := cut_last htne
    rw [nats_take] at hpcs
    have hb := back_last (nats l) (i + 1) (by omega) (by rw [nats_len]; exact hil) _ _ _ hpcs
    rw [nats_len] at hb
    have hitz : init.length ≤ 1000 := by
      have := cuts_le (l.take (i + 1))
      rw [hcut, List.length_append, List.length_take] at this; omega
    refine Ex.ifLeave (b := false) (Tr.to (Tr.cmp (Ev.callTop (g_back_from w) (k_back_from w) (.cons (Ev.name rfl (by decide)) (.cons (Ev.name rfl (by decide)) .nil rfl) rfl) (fn_back l (i + 1) hil hlz' A (hA.le (by decide))) rfl)
      (Ev.bin (Ev.name rfl (by decide)) (Ev.lenB (b := last.toArray) (Ev.itemLast (ds := init.map bytesD) (d := bytesD last) (Ev.to (Ev.callTop (g_law_cut w) (k_law_cut w) (.cons (Ev.upto (Ev.name rfl (by decide)) (Ev.name rfl (by decide)) hlz' (by intro _ _; rfl)) .nil stSub) (fn_law_cut (l.take (i + 1)) (by rw [List.length_take]; omega) A (hA.le (by decide))) rfl) (by rw [hcut]; simp)) (by ktr_rel) (by rw [List.length_map]; exact hitz) (by intro _ _; rfl)) (by rw [List.size_toArray]; omega) rfl stSub) Bin.sub) Cmp.ne rfl) ?_) (fun h => by cases h) fun _ => .nil ⟨rfl, rfl, rfl, rfl, trivial⟩
    rw [hb.1, List.size_toArray]
    simp only [decide_eq_false_iff_not, Classical.not_not]
    omega
  rintro ρ own ⟨rfl, hall⟩
  refine Ex.weaken ?_ hall
  have hsc := repl_scalar (nats l)
  cases cells with
  | nil =>
    refine Ex.ret (Ev.callTop (g_law_text_right w) (k_law_text_right w) (.cons (Ev.name rfl (by decide)) (.cons (Ev.ite (d := .int ((0 : Nat) : Int)) (Tr.cmp (Ev.name rfl (by decide)) (Ev.list .nil (Nat.zero_le _)) (Cmp.listNe hu kq_ints (fun d hd => nomatch hd)) rfl) (fun h => ?_) (fun _ => Ev.to Ev.int rfl)) .nil stIf) rfl) (fn_text_right (repl (nats l)) 0 hsc (by omega) A (hA.le (by decide))) rfl) rfl
    simp at h
  | cons c r =>
    refine Ex.ret (Ev.callTop (g_law_text_right w) (k_law_text_right w) (.cons (Ev.name rfl (by decide)) (.cons (Ev.ite (d := .int ((c.natAbs : Nat) : Int)) (Tr.cmp (Ev.name rfl (by decide)) (Ev.list .nil (Nat.zero_le _)) (Cmp.listNe hu kq_ints (fun d hd => nomatch hd)) rfl) (fun _ => Ev.to (Ev.absB (Ev.itemList (d := .int c) (Ev.name rfl (by decide)) Ev.int (by decide) (by decide) rfl (by intro _ _; rfl)) rfl stSub) ?_) (fun h => ?_)) .nil stIf) rfl) (fn_text_right (repl (nats l)) c.natAbs hsc (by omega) A (hA.le (by decide))) rfl) rfl
    · congr 1; split <;> omega
    · simp at h
end
end

end Mine

namespace Mine
/-- the last place that stands -/
theorem last_live {h : Heap} {o : Obj} (e : h.get? 221 = some o) : ∃ N : Nat, 221 ≤ N ∧ (∃ o, h.get? N = some o) ∧ ∀ (b : Nat) o, h.get? b = some o → b ≤ N := by
  have : ∀ k : Nat, (∀ (b : Nat) o, h.get? b = some o → b ≤ 221 + k) → ∃ N : Nat, 221 ≤ N ∧ (∃ o, h.get? N = some o) ∧ ∀ (b : Nat) o, h.get? b = some o → b ≤ N := by
    intro k
    induction k with
    | zero => intro hb; exact ⟨221, Nat.le_refl _, ⟨_, e⟩, hb⟩
    | succ k ih =>
      intro hb
      cases q : h.get? (221 + (k + 1)) with
      | some o' => exact ⟨_, Nat.le_add_right _ _, ⟨_, q⟩, hb⟩
      | none =>
        refine ih fun b o' e' => ?_
        have h1 := hb b o' e'
        have h2 : b ≠ 221 + (k + 1) := fun z => by rw [z, q] at e'; cases e'
        omega
  exact this h.objs.size fun b o' e' => by have : (b : Nat) < h.objs.size := Heap.lt_size e'; omega
theorem law_post {args : List WData} : PySem.Challenge.rw_nt0005_01.row.claim.post args (.bool true) args = true := by
  refine postW_of (r := PySem.Challenge.rw_nt0005_01.row.toRowW) (X := true) ?_ ?_ rfl
  · rfl
  · first | rfl | kernel_rfl | (simp [OpenLaw.row]; done) | decide
theorem law_good {w : World} {s : Shared} {a : Addr} {vs : List Value} {ns : List Int} {cl : Str → Option Addr} {mean : ExcName → Option Value} {args : List WData} (h63 : ¬ ((63 : Nat) : Int) < (ns.length : Int)) (K : (KK w).In s.heap) {p : Program} {loose : List Str} {mg mb : Str → Option Value} (T : TopRead p loose mg mb s.heap) (hg : s.gens = #[]) (hL : s.heap.IsList a vs.toArray) (hI : IntsAre vs ns) :
    codeAny (model Prg w) callerA (.call (.ref 221) ⟨[.ref a], []⟩) (GoodWG PySem.Challenge.rw_nt0005_01.row.claim cl mean args s) s := by
  obtain ⟨o, ho⟩ := @kk_law ⟨⟨221, Nat.le_refl _⟩⟩ w
  obtain ⟨N, hN, hlive, hmax⟩ := last_live (K _ _ ho)
  letI : Inhabited Thr := ⟨⟨N, hN⟩⟩
  refine law_walk (by omega) ⟨K, ⟨p, loose, mg, mb, T⟩, hlive⟩ hL hI fun s' u => ?_
  refine ⟨.inl ⟨.bool true, .bool true, [], rfl, fun _ => rfl, .bool true, law_post, fun _ => ⟨.nil, fun _ h => nomatch h⟩⟩, .of_keep fun b ob e => u.keep.low e (hmax b ob e), by rw [u.eq], .of_eq (by rw [u.eq]; exact hg)⟩
end Mine
set_option maxHeartbeats 8000000 in
theorem PySem.Challenge.cw_nt0005_01_holds : PySem.Challenge.rw_nt0005_01.Holds := by
  refine hd ?_
  intro w s₀ s₁ mg mb G Y fa o pm cd doc dV kV ho hd hcd hD hmg hg args vals as hpre hlay hrd hwl hlo
  have KX := kIn_of Y
  refine Ground.open G ?_
  intro T B D TE TW
  have hfa : fa = 221 := by
    have h1 : mg "law" = some (.ref 221) := mg_of KX T.g (@Mine.g_law ⟨⟨221, Nat.le_refl _⟩⟩ w)
    have h2 : mg "law" = some (.ref fa) := hmg
    rw [h2] at h1; cases h1; rfl
  subst hfa
  clear hmg hcd hD G B D TE TW Y ho hd
  wrow_args hpre hlay hrd hwl hlo
  all_goals (
    first | refine callC_kw (enter_call ?_) | refine enter_call ?_)
  all_goals exact Mine.law_good (by assumption) KX (topRead_of T) hg (by assumption) (by assumption)

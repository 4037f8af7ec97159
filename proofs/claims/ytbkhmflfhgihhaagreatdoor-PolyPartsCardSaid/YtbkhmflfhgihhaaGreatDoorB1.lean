/- Parts of a proof. -/
import Derived.Test.YtbkhmflfhgihhaaGreatDoorA4
import Derived.Test.YtbkhmflfhgihhaaGreatDoorL4
set_option linter.all false

set_option linter.unusedSimpArgs false
set_option linter.unusedVariables false
namespace Go.AM.R1
open Go.AM Go.Proofs
noncomputable abbrev PP := Tryz.prog
theorem orders : PP.follows .mixedOrders = true := lay.orders
theorem p54 {neg : Bool} {l : List Int} {v : AV} (h : IsI .u32 l v) : SPF PP G0 54 [.agg [.bool neg, v]] (.ret (.bool ((l.length : Int) == 0))) := by
  refine pf_sound orders is54 3 ?_
  simp -implicitDefEqProofs only [c54, go_sem, ↓reduceIte, h.len]

def validB (neg : Bool) (l : List Int) : Bool := decide (l.length ≤ 4096) && (decide (0 < l.length) && l.getD (l.length - 1) 0 != 0 || (l.length == 0) && !neg)

theorem p70 {neg : Bool} {l : List Int} {v : AV} (h : IsI .u32 l v) : SPF PP G0 70 [.agg [.bool neg, v]] (.ret (.bool ((l.length : Int) == 0))) := by
  refine pf_sound orders is70 3 ?_
  simp -implicitDefEqProofs only [c70, go_sem, h.len]

theorem p48 {neg : Bool} {l : List Int} {v : AV} (h : IsI .u32 l v) : SPF PP G0 48 [.agg [.bool neg, v]] (.ret (.bool (validB neg l))) := by
  refine pf_sound orders is48 3 ?_
  by_cases h1 : (l.length : Int) ≤ 4096
  · have b1 := decide_eq_true h1
    by_cases h2 : (0 : Int) < l.length
    · have b2 := decide_eq_true h2
      have h3 : ((l.length : Int) - 1) = ((l.length - 1 : Nat) : Int) := by omega
      have h4 := h.at_ (i := l.length - 1) (by omega)
      have h5 := IsI.drop_get .u32 l (i := l.length - 1) (by omega)
      have h6 : IntKind.wrap .i64 ((l.length - 1 : Nat) : Int) = ((l.length - 1 : Nat) : Int) := wrap_i64 (by omega) (by omega)
      have h8 : ((l.length : Int) == 0) = false := by rw [beq_eq_false_iff_ne]; omega
      cases h7 : l.getD (l.length - 1) 0 != 0 <;> simp -implicitDefEqProofs only [c48, go_sem, h.len, b1, b2, h3, h4, h5, h6, h7, h8]
      · have h9 : (l.length == 0) = false := by rw [beq_eq_false_iff_ne]; omega
        unfold validB; rw [h7, h9]; simp
      · have h9 : l.length ≤ 4096 := by omega
        have h10 : 0 < l.length := by omega
        unfold validB; rw [h7, decide_eq_true h9, decide_eq_true h10]; simp
    · have h2' : l.length = 0 := by omega
      have b2 := decide_eq_false h2
      have b3 : ((l.length : Int) == 0) = true := by rw [h2']; rfl
      simp -implicitDefEqProofs only [c48, go_sem, h.len, b1, b2, b3]
      simp [validB, h2']
  · have b1 := decide_eq_false h1
    simp -implicitDefEqProofs only [c48, go_sem, h.len, b1]
    have h9 : ¬ l.length ≤ 4096 := by omega
    simp [validB, h9]

/-- The degree, for exponents within their bounds. -/
theorem p62 {l : List Int} {v : AV} (h : IsI .i64 l v) (hb : ∀ x ∈ l, 0 ≤ x ∧ x ≤ 120) (hl : l.length ≤ 1000) : SPF PP G0 62 [v] (.ret (.int .i64 l.sum)) := by
  refine pf_sound orders is62 3 ?_
  simp -implicitDefEqProofs only [c62, go_sem]
  refine loop_of (σ := Nat) (fun i st => i ≤ l.length ∧ ∃ e S, st = ⟨e, S, []⟩ ∧ e.get 0 = v ∧ e.get 3 = .int .i64 (l.take i).sum ∧ e.get 4 = .int .i64 i) (fun i => l.length - i) ?_ (x0 := 0) ?_
  · rintro i _ ⟨hi, e, S, rfl, e0, e3, e4⟩
    by_cases hlt : i < l.length
    · have b1 : decide ((i : Int) < l.length) = true := decide_eq_true (by omega)
      have h4 := h.at_ hlt
      have h5 := IsI.drop_get .i64 l hlt
      have hs := sum_bd hb i hi
      have hs' := sum_bd hb (i + 1) hlt
      have hst := sum_take l hlt
      have w1 : IntKind.wrap .i64 ((l.take i).sum + l.getD i 0) = (l.take (i + 1)).sum := by rw [hst]; exact wrap_i64 (by omega) (by omega)
      have w2 : IntKind.wrap .i64 ((i : Int) + 1) = ((i + 1 : Nat) : Int) := wrap_i64 (by omega) (by omega)
      simp -implicitDefEqProofs only [go_sem, h.len, e0, e3, e4, b1, h4, h5, w1, w2]
      exact ⟨i + 1, ⟨by omega, _, _, rfl, rfl, rfl, rfl⟩, by omega⟩
    · have b1 : decide ((i : Int) < l.length) = false := decide_eq_false (by omega)
      have : i = l.length := by omega
      subst this
      simp -implicitDefEqProofs only [go_sem, h.len, e0, e3, e4, b1, List.take_length]
  · exact ⟨by omega, _, _, rfl, rfl, by simp only [List.take_zero, List.sum_nil]; rfl, rfl⟩

theorem p13 {neg : Bool} {l : List Int} {v : AV} (h : IsI .u32 l v) : SPF PP G0 13 [.agg [.bool neg, v]] (.ret (.bool (validB neg l))) := by
  refine pf_sound orders is13 3 ?_
  by_cases h2 : l.length = 0
  · have b3 : ((l.length : Int) == 0) = true := by rw [h2]; rfl
    simp -implicitDefEqProofs only [c13, go_sem, h.len, b3]
    simp [validB, h2]
  · have b3 : ((l.length : Int) == 0) = false := by rw [beq_eq_false_iff_ne]; omega
    have h9 : (l.length == 0) = false := by rw [beq_eq_false_iff_ne]; omega
    by_cases h1 : (l.length : Int) ≤ 4096
    · have b1 := decide_eq_true h1
      have h3 : ((l.length : Int) - 1) = ((l.length - 1 : Nat) : Int) := by omega
      have h4 := h.at_ (i := l.length - 1) (by omega)
      have h5 := IsI.drop_get .u32 l (i := l.length - 1) (by omega)
      have h6 : IntKind.wrap .i64 ((l.length - 1 : Nat) : Int) = ((l.length - 1 : Nat) : Int) := wrap_i64 (by omega) (by omega)
      simp -implicitDefEqProofs only [c13, go_sem, h.len, b1, b3, h3, h4, h5, h6]
      unfold validB
      rw [decide_eq_true (show l.length ≤ 4096 by omega), decide_eq_true (show 0 < l.length by omega), h9]; simp
    · have b1 := decide_eq_false h1
      simp -implicitDefEqProofs only [c13, go_sem, h.len, b1, b3]
      unfold validB
      rw [decide_eq_false (show ¬ l.length ≤ 4096 by omega)]; simp

theorem p55 {a b v : AV} {l : List Int} (h : IsI .i64 l v) (hb : ∀ x ∈ l, 0 ≤ x ∧ x ≤ 120) (hl : l.length ≤ 1000) : SPF PP G0 55 [.agg [a, b, v]] (.ret (.int .i64 l.sum)) := by
  refine pf_sound orders is55 3 ?_
  simp -implicitDefEqProofs only [c55, go_sem, h.len]
  refine loop_of (σ := Nat) (fun i st => i ≤ l.length ∧ ∃ e S, st = ⟨e, S, []⟩ ∧ e.get 7 = v ∧ e.get 3 = .int .i64 (l.take i).sum ∧ e.get 9 = .int .i64 i ∧ e.get 8 = .int .i64 l.length) (fun i => l.length - i) ?_ (x0 := 0) ?_
  · rintro i _ ⟨hi, e, S, rfl, e0, e3, e4, e8⟩
    by_cases hlt : i < l.length
    · have b1 : decide ((i : Int) < l.length) = true := decide_eq_true (by omega)
      have h4 := h.at_ hlt
      have h5 := IsI.drop_get .i64 l hlt
      have hs := sum_bd hb i hi
      have hs' := sum_bd hb (i + 1) hlt
      have hst := sum_take l hlt
      have w1 : IntKind.wrap .i64 ((l.take i).sum + l.getD i 0) = (l.take (i + 1)).sum := by rw [hst]; exact wrap_i64 (by omega) (by omega)
      have w2 : IntKind.wrap .i64 ((i : Int) + 1) = ((i + 1 : Nat) : Int) := wrap_i64 (by omega) (by omega)
      simp -implicitDefEqProofs only [go_sem, h.len, e0, e3, e4, e8, b1, h4, h5, w1, w2]
      exact ⟨i + 1, ⟨by omega, _, _, rfl, rfl, rfl, rfl, rfl⟩, by omega⟩
    · have b1 : decide ((i : Int) < l.length) = false := decide_eq_false (by omega)
      have : i = l.length := by omega
      subst this
      simp -implicitDefEqProofs only [go_sem, h.len, e0, e3, e4, e8, b1, List.take_length]
  · exact ⟨by omega, _, _, rfl, rfl, by simp only [List.take_zero, List.sum_nil]; rfl, rfl, rfl⟩

theorem p143 {x : Int} : SPF PP G0 143 [.int .i64 x] (.ret (.bool false)) := by
  refine pf_sound orders is143 3 ?_
  have : (x != x) = false := by simp
  simp -implicitDefEqProofs only [c143, go_sem, this]

def cmpI (x y : Int) : Int := if x < y then -1 else if y < x then 1 else 0

theorem p122 {x y : Int} : SPF PP G0 122 [.int .i64 x, .int .i64 y] (.ret (.int .i64 (cmpI x y))) := by
  refine pf_sound orders is122 3 ?_
  simp -implicitDefEqProofs only [c122, go_sem]
  refine callP_ret p143 rfl rfl ?_
  simp -implicitDefEqProofs only [go_sem]
  refine callP_ret p143 rfl rfl ?_
  unfold cmpI
  by_cases h1 : x < y
  · have b1 := decide_eq_true h1
    simp -implicitDefEqProofs only [go_sem, h1, b1]
  · by_cases h2 : y < x
    · have b1 := decide_eq_false h1
      have b2 := decide_eq_true h2
      simp -implicitDefEqProofs only [go_sem, h1, h2, b1, b2]
    · have b1 := decide_eq_false h1
      have b2 := decide_eq_false h2
      simp -implicitDefEqProofs only [go_sem, h1, h2, b1, b2]
end Go.AM.R1

set_option linter.unusedSimpArgs false
set_option linter.unusedVariables false
namespace Go.AM.R1
open Go.AM Go.Proofs

def cmpL : List Int → List Int → Int
  | [], [] => 0
  | [], _ :: _ => -1
  | _ :: _, [] => 1
  | x :: xs, y :: ys => if x < y then -1 else if y < x then 1 else cmpL xs ys

theorem cmpL_swap : ∀ a b : List Int, cmpL b a = -cmpL a b
  | [], [] => rfl
  | [], _ :: _ => rfl
  | _ :: _, [] => rfl
  | x :: xs, y :: ys => by
    simp only [cmpL]
    rcases Int.lt_trichotomy x y with h | h | h
    · rw [if_neg (by omega), if_pos h, if_pos h]; rfl
    · subst h; simp only [Int.lt_irrefl, if_false]; exact cmpL_swap xs ys
    · rw [if_pos h, if_neg (by omega), if_pos h]
theorem cmpL_vals : ∀ a b : List Int, cmpL a b = -1 ∨ cmpL a b = 0 ∨ cmpL a b = 1
  | [], [] => .inr (.inl rfl)
  | [], _ :: _ => .inl rfl
  | _ :: _, [] => .inr (.inr rfl)
  | x :: xs, y :: ys => by
    simp only [cmpL]
    split
    · exact .inl rfl
    · split
      · exact .inr (.inr rfl)
      · exact cmpL_vals xs ys
theorem cmpL_drop {a b : List Int} (hl : a.length = b.length) {i : Nat} (h : i < a.length) :
    cmpL (a.drop i) (b.drop i) = if a.getD i 0 < b.getD i 0 then -1 else if b.getD i 0 < a.getD i 0 then 1 else cmpL (a.drop (i + 1)) (b.drop (i + 1)) := by
  have h2 : i < b.length := by omega
  have e1 : a.drop i = a.getD i 0 :: a.drop (i + 1) := by simp [h]
  have e2 : b.drop i = b.getD i 0 :: b.drop (i + 1) := by simp [h2]
  rw [e1, e2]; rfl
theorem cmpL_end {a b : List Int} (hl : a.length = b.length) : cmpL (a.drop a.length) (b.drop a.length) = 0 := by
  rw [List.drop_length, hl, List.drop_length]; rfl

theorem pure1 {k : IntKind} {a : List Int} {u : AV} (h : IsI k a u) : pureL [u] = true := by simp [pureL, h.pure]
theorem pure2 {k : IntKind} {a b : List Int} {u v : AV} (h : IsI k a u) (h' : IsI k b v) : pureL [u, v] = true := by simp [pureL, h.pure, h'.pure]

theorem p87 {a b : List Int} {u v : AV} (ha : IsI .i64 a u) (hb : IsI .i64 b v) (hl : a.length = b.length) (hn : a.length ≤ 1000) : SPF PP G0 87 [u, v] (.ret (.int .i64 (cmpL a b))) := by
  refine pf_sound orders is87 3 ?_
  simp -implicitDefEqProofs only [c87, go_sem, ha.len]
  refine loop_of (σ := Nat) (fun i st => i ≤ a.length ∧ cmpL a b = cmpL (a.drop i) (b.drop i) ∧ ∃ e S, st = ⟨e, S, []⟩ ∧ e.get 0 = u ∧ e.get 1 = v ∧ e.get 9 = u ∧ e.get 10 = .int .i64 a.length ∧ e.get 11 = .int .i64 i) (fun i => a.length - i) ?_ (x0 := 0) ?_
  · rintro i _ ⟨hi, hc, e, S, rfl, e0, e1, e9, e10, e11⟩
    by_cases hlt : i < a.length
    · have b1 : decide ((i : Int) < a.length) = true := decide_eq_true (by omega)
      have b2 : decide ((b.length : Int) ≤ i) = false := decide_eq_false (by omega)
      have h4 := ha.at_ hlt
      have h5 := IsI.drop_get .i64 a hlt
      have h6 := hb.at_ (i := i) (by omega)
      have h7 := IsI.drop_get .i64 b (i := i) (by omega)
      have w2 : IntKind.wrap .i64 ((i : Int) + 1) = ((i + 1 : Nat) : Int) := wrap_i64 (by omega) (by omega)
      have hd := cmpL_drop hl hlt
      simp -implicitDefEqProofs only [go_sem, ha.len, hb.len, e0, e1, e9, e10, e11, b1, b2, h4, h5, h6, h7]
      refine callP_ret p122 rfl rfl ?_
      by_cases h8 : cmpI (a.getD i 0) (b.getD i 0) = 0
      · have b3 : (cmpI (a.getD i 0) (b.getD i 0) != 0) = false := by rw [h8]; rfl
        simp -implicitDefEqProofs only [go_sem, ha.len, hb.len, e0, e1, e9, e10, e11, b1, b2, h4, h5, h6, h7, w2, h8]
        refine ⟨i + 1, ⟨by omega, ?_, _, _, rfl, rfl, rfl, rfl, rfl, rfl⟩, by omega⟩
        rw [hc, hd]
        unfold cmpI at h8
        split at h8
        · omega
        · rename_i n1; rw [if_neg n1]
          split at h8
          · omega
          · rename_i n2; rw [if_neg n2]
      · simp -implicitDefEqProofs only [go_sem, ha.len, hb.len, e0, e1, e9, e10, e11, b1, b2, h4, h5, h6, h7, w2, h8]
        rw [hc, hd]
        unfold cmpI at h8 ⊢
        split
        · rfl
        · rename_i n1; rw [if_neg n1] at h8
          split
          · rfl
          · rename_i n2; rw [if_neg n2] at h8; exact absurd rfl h8
    · have b1 : decide ((i : Int) < a.length) = false := decide_eq_false (by omega)
      have b2 : decide ((a.length : Int) < b.length) = false := decide_eq_false (by omega)
      have : i = a.length := by omega
      subst this
      simp -implicitDefEqProofs only [go_sem, ha.len, hb.len, e0, e1, e9, e10, e11, b1, b2]
      rw [hc, cmpL_end hl]
  · exact ⟨by omega, by simp, _, _, rfl, rfl, rfl, rfl, rfl, rfl⟩

/-- The order of exponents: 1 if a comes before b. -/
def ordR (a b : List Int) : Int := if a.sum < b.sum then -1 else if b.sum < a.sum then 1 else cmpL a b

theorem p53 {a b : List Int} {u v : AV} (ha : IsI .i64 a u) (hb : IsI .i64 b v) (hl : a.length = b.length) (hn : a.length ≤ 1000) (ba : ∀ x ∈ a, 0 ≤ x ∧ x ≤ 120) (bb : ∀ x ∈ b, 0 ≤ x ∧ x ≤ 120) :
    SPF PP G0 53 [u, v] (.ret (.int .i64 (ordR a b))) := by
  refine pf_sound orders is53 3 ?_
  simp -implicitDefEqProofs only [c53, go_sem]
  refine callP_ret (p62 ha ba hn) (pure1 ha) rfl ?_
  simp -implicitDefEqProofs only [go_sem]
  refine callP_ret (p62 hb bb (by omega)) (pure1 hb) rfl ?_
  simp -implicitDefEqProofs only [go_sem]
  refine loop_of (σ := Nat × Int × Int) (fun z st => z.1 ≤ a.length ∧ ordR a b = (if z.2.1 < z.2.2 then -1 else if z.2.2 < z.2.1 then 1 else cmpL (a.drop z.1) (b.drop z.1)) ∧ ∃ e S, st = ⟨e, S, []⟩ ∧ e.get 0 = u ∧ e.get 1 = v ∧ e.get 5 = .int .i64 z.2.1 ∧ e.get 6 = .int .i64 z.2.2 ∧ e.get 7 = .int .i64 z.1) (fun z => a.length - z.1) ?_ (x0 := (0, a.sum, b.sum)) ?_
  · rintro ⟨i, x, y⟩ _ ⟨hi, hc, e, S, rfl, e0, e1, e5, e6, e7⟩
    simp only at hi hc e5 e6 e7
    by_cases hlt : i < a.length ∧ x = y
    · obtain ⟨hlt, rfl⟩ := hlt
      have b1 : decide ((i : Int) < a.length) = true := decide_eq_true (by omega)
      have b2 : (x == x) = true := by simp
      have h4 := ha.at_ hlt
      have h5 := IsI.drop_get .i64 a hlt
      have h6 := hb.at_ (i := i) (by omega)
      have h7 := IsI.drop_get .i64 b (i := i) (by omega)
      have w2 : IntKind.wrap .i64 ((i : Int) + 1) = ((i + 1 : Nat) : Int) := wrap_i64 (by omega) (by omega)
      have hd := cmpL_drop hl hlt
      simp only [Int.lt_irrefl, if_false] at hc
      rw [hd] at hc
      simp -implicitDefEqProofs only [go_sem, ha.len, hb.len, e0, e1, e5, e6, e7, b1, b2, h4, h5, h6, h7, w2]
      exact ⟨(i + 1, a.getD i 0, b.getD i 0), ⟨by simp only []; omega, hc, _, _, rfl, rfl, rfl, rfl, rfl, rfl⟩, by simp only []; omega⟩
    · have hfin : ordR a b = if y < x then 1 else if x < y then -1 else 0 := by
        rw [hc]
        rcases Int.lt_trichotomy x y with h | h | h
        · rw [if_pos h, if_neg (by omega), if_pos h]
        · subst h
          have : i = a.length := by omega
          subst this
          simp only [Int.lt_irrefl, if_false]
          exact cmpL_end hl
        · rw [if_neg (by omega), if_pos h, if_pos h]
      have fin : ∀ c : Bool, c = (decide ((i : Int) < a.length) && (x == y)) → c = false := by
        intro c hc; rw [hc]
        by_cases h1 : i < a.length
        · have : x ≠ y := fun h => hlt ⟨h1, h⟩
          simp [this]
        · simp; intro h; omega
      rw [hfin]
      by_cases h1 : i < a.length
      · have hne : x ≠ y := fun h => hlt ⟨h1, h⟩
        have b1 : decide ((i : Int) < a.length) = true := decide_eq_true (by omega)
        have b2 : (x == y) = false := by simpa using hne
        by_cases h2 : y < x
        · have b3 := decide_eq_true h2
          simp -implicitDefEqProofs only [go_sem, ha.len, hb.len, e0, e1, e5, e6, e7, b1, b2, b3, h2]
        · have b3 := decide_eq_false h2
          have h3 : x < y := by omega
          have b4 := decide_eq_true h3
          simp -implicitDefEqProofs only [go_sem, ha.len, hb.len, e0, e1, e5, e6, e7, b1, b2, b3, b4, h2, h3]
      · have b1 : decide ((i : Int) < a.length) = false := decide_eq_false (by omega)
        by_cases h2 : y < x
        · have b3 := decide_eq_true h2
          simp -implicitDefEqProofs only [go_sem, ha.len, hb.len, e0, e1, e5, e6, e7, b1, b3, h2]
        · have b3 := decide_eq_false h2
          by_cases h3 : x < y
          · have b4 := decide_eq_true h3
            simp -implicitDefEqProofs only [go_sem, ha.len, hb.len, e0, e1, e5, e6, e7, b1, b3, b4, h2, h3]
          · have b4 := decide_eq_false h3
            simp -implicitDefEqProofs only [go_sem, ha.len, hb.len, e0, e1, e5, e6, e7, b1, b3, b4, h2, h3]
  · exact ⟨by simp, rfl, _, _, rfl, rfl, rfl, rfl, rfl, rfl⟩

/-- The order of terms: negative if a comes before b. -/
def ordP (a b : List Int) : Int := if b.sum - a.sum ≠ 0 then b.sum - a.sum else cmpL b a
end Go.AM.R1

set_option linter.unusedSimpArgs false
set_option linter.unusedVariables false
namespace Go.AM.R1
open Go.AM Go.Proofs

def okEx (l : List Int) : Prop := ∀ x ∈ l, 0 ≤ x ∧ x ≤ 120
instance (l : List Int) : Decidable (okEx l) := inferInstanceAs (Decidable (∀ x ∈ l, 0 ≤ x ∧ x ≤ 120))
def tmB (vars : Int) (t : Tm) : Bool := validB t.neg t.ws && (!((t.ws.length : Int) == 0) && (((t.ex.length : Int) == vars) && (decide (okEx t.ex) && decide (t.ex.sum ≤ 120))))

theorem okEx_take {l : List Int} {i : Nat} (h : okEx (l.take i)) (hi : i < l.length) (hx : 0 ≤ l.getD i 0 ∧ l.getD i 0 ≤ 120) : okEx (l.take (i + 1)) := by
  intro x hm
  rw [List.take_succ_eq_append_getElem hi, List.mem_append] at hm
  rcases hm with hm | hm
  · exact h x hm
  · simp at hm; subst hm; simpa [hi] using hx
theorem getD0_mem {l : List Int} {i : Nat} (h : i < l.length) : l.getD i 0 ∈ l := by simp [h]

theorem p56 {na nb : Bool} {wa wb u v : AV} {a b : List Int} (pa : wa.pure = true) (pb : wb.pure = true) (ha : IsI .i64 a u) (hb : IsI .i64 b v) (hl : a.length = b.length) (hn : a.length ≤ 1000) (ba : okEx a) (bb : okEx b) :
    SPF PP G0 56 [.agg [.bool na, wa, u], .agg [.bool nb, wb, v]] (.ret (.int .i64 (ordP a b))) := by
  refine pf_sound orders is56 3 ?_
  simp -implicitDefEqProofs only [c56, go_sem]
  refine callP_ret (p55 hb bb (by omega)) (by simp [pureL, AV.pure, pb, hb.pure]) rfl ?_
  simp -implicitDefEqProofs only [go_sem]
  refine callP_ret (p55 ha ba (by omega)) (by simp [pureL, AV.pure, pa, ha.pure]) rfl ?_
  have ha' := sum_bd ba a.length (Nat.le_refl _)
  have hb' := sum_bd bb b.length (Nat.le_refl _)
  rw [List.take_length] at ha' hb'
  have w1 : IntKind.wrap .i64 (b.sum - a.sum) = b.sum - a.sum := wrap_i64 (by omega) (by omega)
  by_cases h0 : b.sum - a.sum = 0
  · have b1 : (b.sum - a.sum != 0) = false := by simp [h0]
    simp -implicitDefEqProofs only [go_sem, w1, h0]
    refine callP_ret (p87 hb ha hl.symm (by omega)) (pure2 hb ha) rfl ?_
    simp -implicitDefEqProofs only [go_sem, ordP, h0, ne_eq, not_true_eq_false]
  · have b1 : (b.sum - a.sum != 0) = true := by simpa using h0
    simp -implicitDefEqProofs only [go_sem, w1, h0, ordP, ne_eq, not_false_eq_true]

theorem p52 {t : Tm} {w u : AV} {vars : Int} (hw : IsI .u32 t.ws w) (hu : IsI .i64 t.ex u) (h0 : 0 ≤ vars) (h1 : vars ≤ 32) :
    SPF PP G0 52 [.agg [.bool t.neg, w, u], .int .i64 vars] (.ret (.bool (tmB vars t))) := by
  refine pf_sound orders is52 3 ?_
  simp -implicitDefEqProofs only [c52, go_sem]
  refine callP_ret (p13 hw) (by simp [pureL, AV.pure, hw.pure]) rfl ?_
  cases hv : validB t.neg t.ws
  · simp -implicitDefEqProofs only [go_sem, tmB, hv, Bool.false_and]
  · simp -implicitDefEqProofs only [go_sem]
    refine callP_ret (p70 hw) (by simp [pureL, AV.pure, hw.pure]) rfl ?_
    cases hz : ((t.ws.length : Int) == 0)
    · cases hlen : ((t.ex.length : Int) == vars)
      · have hlen' : ((t.ex.length : Int) != vars) = true := by rw [bne, hlen]; rfl
        simp -implicitDefEqProofs only [go_sem, tmB, hv, hz, hlen, hu.len, hlen', Bool.false_and, Bool.and_false]
      · have hlen' : ((t.ex.length : Int) != vars) = false := by rw [bne, hlen]; rfl
        have hl : (t.ex.length : Int) = vars := by simpa using hlen
        simp -implicitDefEqProofs only [go_sem, hu.len, hlen']
        have hT : tmB vars t = (decide (okEx t.ex) && decide (t.ex.sum ≤ 120)) := by simp only [tmB, hv, hz, hlen, Bool.not_false, Bool.true_and]
        rw [hT]
        refine loop_of (σ := Nat) (fun i st => i ≤ t.ex.length ∧ okEx (t.ex.take i) ∧ ∃ e junk, st = ⟨e, .cells [.bool t.neg, w, u] 54 0 false :: junk, []⟩ ∧ e.get 1 = .int .i64 vars ∧ e.get 2 = .ptr 0 0 0 ∧ e.get 5 = .int .i64 i) (fun i => t.ex.length - i) ?_ (x0 := 0) ?_
        · rintro i _ ⟨hi, hok, e, junk, rfl, e1, e2, e5⟩
          by_cases hlt : i < t.ex.length
          · have b1 : decide ((i : Int) < vars) = true := decide_eq_true (by omega)
            have h4 := hu.at_ hlt
            have h5 := IsI.drop_get .i64 t.ex hlt
            have w2 : IntKind.wrap .i64 ((i : Int) + 1) = ((i + 1 : Nat) : Int) := wrap_i64 (by omega) (by omega)
            by_cases hx0 : t.ex.getD i 0 < 0
            · have b2 := decide_eq_true hx0
              have hno : decide (okEx t.ex) = false := decide_eq_false fun h => by have := h _ (getD0_mem hlt); omega
              simp -implicitDefEqProofs only [go_sem, e1, e2, e5, b1, b2, h4, h5, w2, hno, Bool.false_and]
            · have b2 := decide_eq_false hx0
              by_cases hx1 : 120 < t.ex.getD i 0
              · have b3 := decide_eq_true hx1
                have hno : decide (okEx t.ex) = false := decide_eq_false fun h => by have := h _ (getD0_mem hlt); omega
                simp -implicitDefEqProofs only [go_sem, e1, e2, e5, b1, b2, b3, h4, h5, w2, hno, Bool.false_and]
              · have b3 := decide_eq_false hx1
                simp -implicitDefEqProofs only [go_sem, e1, e2, e5, b1, b2, b3, h4, h5, w2]
                exact ⟨i + 1, ⟨by omega, okEx_take hok hlt ⟨by omega, by omega⟩, _, _, rfl, rfl, rfl, rfl⟩, by omega⟩
          · have b1 : decide ((i : Int) < vars) = false := decide_eq_false (by omega)
            have : i = t.ex.length := by omega
            subst this
            rw [List.take_length] at hok
            simp -implicitDefEqProofs only [go_sem, e1, e2, e5, b1]
            refine callP_ret (p62 hu hok (by omega)) (pure1 hu) rfl ?_
            simp -implicitDefEqProofs only [go_sem, decide_eq_true hok, Bool.true_and]
        · exact ⟨by omega, by intro x hx; simp at hx, _, [], rfl, rfl, rfl, rfl⟩
    · simp -implicitDefEqProofs only [go_sem, tmB, hv, hz, Bool.false_and, Bool.and_false]
end Go.AM.R1

set_option linter.unusedSimpArgs false
set_option linter.unusedVariables false
namespace Go.AM.R1
open Go.AM Go.Proofs

theorem p82 {l : List Int} {u v : AV} (hu : IsI .u32 l u) (hv : IsI .u32 l v) (hl : l.length < 140737488355328) : SPF PP G0 82 [u, v] (.ret (.bool true)) := by
  refine pf_sound orders is82 3 ?_
  have b0 : ((l.length : Int) != l.length) = false := by simp
  simp -implicitDefEqProofs only [c82, go_sem, hu.len, hv.len, b0]
  refine loop_of (σ := Nat) (fun i st => i ≤ l.length ∧ ∃ e S, st = ⟨e, S, []⟩ ∧ e.get 0 = u ∧ e.get 1 = v ∧ e.get 5 = .int .i64 i) (fun i => l.length - i) ?_ (x0 := 0) ?_
  · rintro i _ ⟨hi, e, S, rfl, e0, e1, e5⟩
    by_cases hlt : i < l.length
    · have b1 : decide ((i : Int) < l.length) = true := decide_eq_true (by omega)
      have h4 := hu.at_ hlt
      have h5 := hv.at_ hlt
      have h6 := IsI.drop_get .u32 l hlt
      have b2 : (l.getD i 0 != l.getD i 0) = false := by simp
      have w2 : IntKind.wrap .i64 ((i : Int) + 1) = ((i + 1 : Nat) : Int) := wrap_i64 (by omega) (by omega)
      simp -implicitDefEqProofs only [go_sem, hu.len, e0, e1, e5, b1, b2, h4, h5, h6, w2]
      exact ⟨i + 1, ⟨by omega, _, _, rfl, rfl, rfl, rfl⟩, by omega⟩
    · have b1 : decide ((i : Int) < l.length) = false := decide_eq_false (by omega)
      simp -implicitDefEqProofs only [go_sem, hu.len, e0, e1, e5, b1]
  · exact ⟨by omega, _, _, rfl, rfl, rfl, rfl⟩

theorem p66 {l : List Int} {u v : AV} (hu : IsI .i64 l u) (hv : IsI .i64 l v) (hl : l.length < 140737488355328) : SPF PP G0 66 [u, v] (.ret (.bool true)) := by
  refine pf_sound orders is66 3 ?_
  have b0 : ((l.length : Int) != l.length) = false := by simp
  simp -implicitDefEqProofs only [c66, go_sem, hu.len, hv.len, b0]
  refine loop_of (σ := Nat) (fun i st => i ≤ l.length ∧ ∃ e S, st = ⟨e, S, []⟩ ∧ e.get 0 = u ∧ e.get 1 = v ∧ e.get 5 = .int .i64 i) (fun i => l.length - i) ?_ (x0 := 0) ?_
  · rintro i _ ⟨hi, e, S, rfl, e0, e1, e5⟩
    by_cases hlt : i < l.length
    · have b1 : decide ((i : Int) < l.length) = true := decide_eq_true (by omega)
      have h4 := hu.at_ hlt
      have h5 := hv.at_ hlt
      have h6 := IsI.drop_get .i64 l hlt
      have b2 : (l.getD i 0 != l.getD i 0) = false := by simp
      have w2 : IntKind.wrap .i64 ((i : Int) + 1) = ((i + 1 : Nat) : Int) := wrap_i64 (by omega) (by omega)
      simp -implicitDefEqProofs only [go_sem, hu.len, e0, e1, e5, b1, b2, h4, h5, h6, w2]
      exact ⟨i + 1, ⟨by omega, _, _, rfl, rfl, rfl, rfl⟩, by omega⟩
    · have b1 : decide ((i : Int) < l.length) = false := decide_eq_false (by omega)
      simp -implicitDefEqProofs only [go_sem, hu.len, e0, e1, e5, b1]
  · exact ⟨by omega, _, _, rfl, rfl, rfl, rfl⟩

theorem p43 {neg : Bool} {l : List Int} {u v : AV} (hu : IsI .u32 l u) (hv : IsI .u32 l v) (hl : l.length < 140737488355328) : SPF PP G0 43 [.agg [.bool neg, u], .agg [.bool neg, v]] (.ret (.bool true)) := by
  refine pf_sound orders is43 3 ?_
  have b0 : (neg == neg) = true := by simp
  simp -implicitDefEqProofs only [c43, go_sem, b0]
  refine callP_ret (p82 hu hv hl) (pure2 hu hv) rfl ?_
  simp -implicitDefEqProofs only [go_sem]

/-- Terms whose lists are not too long for a machine. -/
def Sane (ts : List Tm) : Prop := ts.length < 140737488355328 ∧ ∀ t ∈ ts, t.ws.length < 140737488355328 ∧ t.ex.length < 140737488355328

theorem p32 {vars : Int} {ts : List Tm} {u v : AV} (hu : IsTs ts u) (hv : IsTs ts v) (hs : Sane ts) : SPF PP G0 32 [.agg [.int .i64 vars, u], .agg [.int .i64 vars, v]] (.ret (.bool true)) := by
  refine pf_sound orders is32 3 ?_
  have b0 : ((ts.length : Int) != ts.length) = false := by simp
  have b9 : (vars != vars) = false := by simp
  simp -implicitDefEqProofs only [c32, go_sem, hu.len, hv.len, b0, b9]
  refine loop_of (σ := Nat) (fun i st => i ≤ ts.length ∧ ∃ e junk, st = ⟨e, .cells [.int .i64 vars, u] 24 0 false :: .cells [.int .i64 vars, v] 24 0 false :: junk, []⟩ ∧ e.get 2 = .ptr 0 0 0 ∧ e.get 3 = .ptr 1 0 0 ∧ e.get 5 = .int .i64 i) (fun i => ts.length - i) ?_ (x0 := 0) ?_
  · rintro i _ ⟨hi, e, junk, rfl, e2, e3, e5⟩
    have hi' := hs.1
    by_cases hlt : i < ts.length
    · have b1 : decide ((i : Int) < ts.length) = true := decide_eq_true (by omega)
      obtain ⟨w, x, c, h4, hw, hx⟩ := hu.at_ hlt
      obtain ⟨w', x', c', h5, hw', hx'⟩ := hv.at_ hlt
      have hsane := hs.2 _ (getD_mem hlt)
      have w2 : IntKind.wrap .i64 ((i : Int) + 1) = ((i + 1 : Nat) : Int) := wrap_i64 (by omega) (by omega)
      simp -implicitDefEqProofs only [go_sem, hu.len, hv.len, e2, e3, e5, b1, h4, h5]
      refine callP_ret (p43 hw hw' hsane.1) (by simp [pureL, AV.pure, hw.pure, hw'.pure]) rfl ?_
      simp -implicitDefEqProofs only [go_sem, hu.len, hv.len, e2, e3, e5, b1, h4, h5]
      refine callP_ret (p66 hx hx' hsane.2) (pure2 hx hx') rfl ?_
      simp -implicitDefEqProofs only [go_sem, hu.len, hv.len, e2, e3, e5, b1, h4, h5, w2]
      exact ⟨i + 1, ⟨by omega, _, _, rfl, rfl, rfl, rfl⟩, by omega⟩
    · have b1 : decide ((i : Int) < ts.length) = false := decide_eq_false (by omega)
      simp -implicitDefEqProofs only [go_sem, hu.len, hv.len, e2, e3, e5, b1]
  · exact ⟨by omega, _, [], rfl, rfl, rfl, rfl⟩
end Go.AM.R1

set_option linter.unusedSimpArgs false
set_option linter.unusedVariables false
namespace Go.AM.R1
open Go.AM Go.Proofs

def okAt (vars : Int) (ts : List Tm) (i : Nat) : Bool := tmB vars (ts.getD i default) && (i == 0 || ordR (ts.getD (i - 1) default).ex (ts.getD i default).ex == 1)
def polyB (vars : Int) (ts : List Tm) : Bool := decide (0 ≤ vars) && (decide (vars ≤ 32) && (decide (ts.length ≤ 3000) && (List.range ts.length).all (okAt vars ts)))

theorem polyB_no {vars : Int} {ts : List Tm} {i : Nat} (h : okAt vars ts i = false) (hi : i < ts.length) : polyB vars ts = false := by
  have : (List.range ts.length).all (okAt vars ts) = false := by
    rw [List.all_eq_false]
    exact ⟨i, List.mem_range.2 hi, by simp [h]⟩
  simp [polyB, this]
theorem polyB_yes {vars : Int} {ts : List Tm} (h0 : 0 ≤ vars) (h1 : vars ≤ 32) (h2 : ts.length ≤ 3000) (h : ∀ i, i < ts.length → okAt vars ts i = true) : polyB vars ts = true := by
  have : (List.range ts.length).all (okAt vars ts) = true := by
    rw [List.all_eq_true]
    exact fun i hi => h i (List.mem_range.1 hi)
  simp [polyB, this, h0, h1, h2]
theorem tmB_spec {vars : Int} {t : Tm} (h : tmB vars t = true) : validB t.neg t.ws = true ∧ ((t.ws.length : Int) == 0) = false ∧ (t.ex.length : Int) = vars ∧ okEx t.ex ∧ t.ex.sum ≤ 120 := by
  simp only [tmB, Bool.and_eq_true, Bool.not_eq_true', beq_iff_eq, decide_eq_true_eq] at h
  obtain ⟨a, b, c, d, e⟩ := h
  exact ⟨a, b, c, d, e⟩
theorem okAt_tm {vars : Int} {ts : List Tm} {i : Nat} (h : okAt vars ts i = true) : tmB vars (ts.getD i default) = true := by
  simp only [okAt, Bool.and_eq_true] at h; exact h.1

theorem p18 {vars : Int} {ts : List Tm} {s : AV} (hs : IsTs ts s) (hl : Sane ts) : SPF PP G0 18 [.agg [.int .i64 vars, s]] (.ret (.bool (polyB vars ts))) := by
  refine pf_sound orders is18 3 ?_
  by_cases h0 : vars < 0
  · have b0 := decide_eq_true h0
    simp -implicitDefEqProofs only [c18, go_sem, hs.len, b0]
    have : ¬ 0 ≤ vars := by omega
    simp [polyB, this]
  have b0 := decide_eq_false h0
  by_cases h1 : 32 < vars
  · have b1 := decide_eq_true h1
    simp -implicitDefEqProofs only [c18, go_sem, hs.len, b0, b1]
    have : ¬ vars ≤ 32 := by omega
    simp [polyB, this]
  have b1 := decide_eq_false h1
  by_cases h2 : (3000 : Int) < ts.length
  · have b2 := decide_eq_true h2
    simp -implicitDefEqProofs only [c18, go_sem, hs.len, b0, b1, b2]
    have : ¬ ts.length ≤ 3000 := by omega
    simp [polyB, this]
  have b2 := decide_eq_false h2
  simp -implicitDefEqProofs only [c18, go_sem, hs.len, b0, b1, b2]
  refine loop_of (σ := Nat) (fun i st => i ≤ ts.length ∧ (∀ j, j < i → okAt vars ts j = true) ∧ ∃ e junk, st = ⟨e, .cells [.int .i64 vars, s] 24 0 false :: junk, []⟩ ∧ e.get 1 = .ptr 0 0 0 ∧ e.get 3 = .int .i64 i) (fun i => ts.length - i) ?_ (x0 := 0) ?_
  · rintro i _ ⟨hi, hok, e, junk, rfl, e1, e3⟩
    by_cases hlt : i < ts.length
    · have b3 : decide ((i : Int) < ts.length) = true := decide_eq_true (by omega)
      obtain ⟨w, x, c, h4, hw, hx⟩ := hs.at_ hlt
      have w2 : IntKind.wrap .i64 ((i : Int) + 1) = ((i + 1 : Nat) : Int) := wrap_i64 (by omega) (by omega)
      simp -implicitDefEqProofs only [go_sem, hs.len, e1, e3, b3, h4]
      refine callP_ret (p52 hw hx (by omega) (by omega)) (by simp [pureL, AV.pure, hw.pure, hx.pure]) rfl ?_
      cases ht : tmB vars (ts.getD i default)
      · have hno : polyB vars ts = false := polyB_no (i := i) (by simp only [okAt, ht, Bool.false_and]) hlt
        simp -implicitDefEqProofs only [go_sem, hs.len, e1, e3, b3, h4, hno]
      · obtain ⟨_, _, t1, t2, _⟩ := tmB_spec ht
        by_cases hz : i = 0
        · subst hz
          have b4 : decide ((0 : Int) < ((0 : Nat) : Int)) = false := rfl
          simp -implicitDefEqProofs only [go_sem, hs.len, e1, e3, b3, b4, h4, w2]
          refine ⟨1, ⟨by omega, ?_, _, _, rfl, rfl, rfl⟩, by omega⟩
          intro j hj
          have : j = 0 := by omega
          subst this
          simp only [okAt, ht]; rfl
        · have b4 : decide ((0 : Int) < (i : Int)) = true := decide_eq_true (by omega)
          have w3 : IntKind.wrap .i64 ((i : Int) - 1) = ((i - 1 : Nat) : Int) := by rw [wrap_i64 (by omega) (by omega)]; omega
          obtain ⟨w', x', c', h5, hw', hx'⟩ := hs.at_ (i := i - 1) (by omega)
          obtain ⟨_, _, t3, t4, _⟩ := tmB_spec (okAt_tm (hok (i - 1) (by omega)))
          simp -implicitDefEqProofs only [go_sem, hs.len, e1, e3, b3, b4, h4, h5, w2, w3]
          refine callP_ret (p53 hx' hx (by omega) (by omega) t4 t2) (pure2 hx' hx) rfl ?_
          have hz' : (i == 0) = false := by simpa using hz
          cases ho : (ordR (ts.getD (i - 1) default).ex (ts.getD i default).ex == 1)
          · have hno : polyB vars ts = false := polyB_no (i := i) (by simp only [okAt, ht, hz', ho]; rfl) hlt
            have ho' : (ordR (ts.getD (i - 1) default).ex (ts.getD i default).ex != 1) = true := by rw [bne, ho]; rfl
            simp -implicitDefEqProofs only [go_sem, hs.len, e1, e3, b3, b4, h4, h5, w2, w3, ho', hno]
          · have ho' : (ordR (ts.getD (i - 1) default).ex (ts.getD i default).ex != 1) = false := by rw [bne, ho]; rfl
            simp -implicitDefEqProofs only [go_sem, hs.len, e1, e3, b3, b4, h4, h5, w2, w3, ho']
            refine ⟨i + 1, ⟨by omega, ?_, _, _, rfl, rfl, rfl⟩, by omega⟩
            intro j hj
            rcases Nat.lt_or_ge j i with h | h
            · exact hok j h
            · have : j = i := by omega
              subst this
              simp only [okAt, ht, ho, hz']; rfl
    · have b3 : decide ((i : Int) < ts.length) = false := decide_eq_false (by omega)
      have hyes : polyB vars ts = true := polyB_yes (by omega) (by omega) (by omega) (fun j hj => hok j (by omega))
      simp -implicitDefEqProofs only [go_sem, hs.len, e1, e3, b3, hyes]
  · exact ⟨by omega, fun j hj => by omega, _, [], rfl, rfl, rfl⟩

/-- The two orders say the same. -/
theorem ord_eq {a b : List Int} : (decide (0 ≤ ordP a b)) = !(ordR a b == 1) := by
  have hv := cmpL_vals a b
  have hs := cmpL_swap a b
  unfold ordP ordR
  by_cases h0 : b.sum - a.sum = 0
  · rw [if_neg (fun h => h h0), if_neg (by omega), if_neg (by omega), hs]
    rcases hv with h | h | h <;> rw [h] <;> rfl
  · rw [if_pos h0]
    by_cases h1 : a.sum < b.sum
    · rw [if_pos h1, decide_eq_true (show 0 ≤ b.sum - a.sum by omega)]; rfl
    · rw [if_neg h1, if_pos (by omega), decide_eq_false (show ¬ 0 ≤ b.sum - a.sum by omega)]; rfl

set_option maxHeartbeats 1000000 in
theorem p20 {vars : Int} {ts : List Tm} {s : AV} (hs : IsTs ts s) (hl : Sane ts) : SPF PP G0 20 [.agg [.int .i64 vars, s]] (.ret (.bool (polyB vars ts))) := by
  refine pf_sound orders is20 3 ?_
  by_cases h0 : vars < 0
  · have b0 := decide_eq_true h0
    simp -implicitDefEqProofs only [c20, go_sem, hs.len, b0]
    have : ¬ 0 ≤ vars := by omega
    simp [polyB, this]
  have b0 := decide_eq_false h0
  by_cases h1 : 32 < vars
  · have b1 := decide_eq_true h1
    simp -implicitDefEqProofs only [c20, go_sem, hs.len, b0, b1]
    have : ¬ vars ≤ 32 := by omega
    simp [polyB, this]
  have b1 := decide_eq_false h1
  by_cases h2 : (3000 : Int) < ts.length
  · have b2 := decide_eq_true h2
    simp -implicitDefEqProofs only [c20, go_sem, hs.len, b0, b1, b2]
    have : ¬ ts.length ≤ 3000 := by omega
    simp [polyB, this]
  have b2 := decide_eq_false h2
  simp -implicitDefEqProofs only [c20, go_sem, hs.len, b0, b1, b2]
  refine loop_of (σ := Nat) (fun i st => i ≤ ts.length ∧ (∀ j, j < i → okAt vars ts j = true) ∧ ∃ e junk, st = ⟨e, .cells [.int .i64 vars, s] 24 0 false :: junk, []⟩ ∧ e.get 1 = .ptr 0 0 0 ∧ e.get 22 = s ∧ e.get 23 = .int .i64 ts.length ∧ e.get 24 = .int .i64 i) (fun i => ts.length - i) ?_ (x0 := 0) ?_
  · rintro i _ ⟨hi, hok, e, junk, rfl, e1, e22, e23, e24⟩
    by_cases hlt : i < ts.length
    · have b3 : decide ((i : Int) < ts.length) = true := decide_eq_true (by omega)
      obtain ⟨w, x, c, h4, hw, hx⟩ := hs.at_ hlt
      generalize hT : ts.getD i default = T at h4 hw hx
      have w2 : IntKind.wrap .i64 ((i : Int) + 1) = ((i + 1 : Nat) : Int) := wrap_i64 (by omega) (by omega)
      simp -implicitDefEqProofs only [go_sem, hs.len, e1, e22, e23, e24, b3, h4]
      refine callP_ret (p48 hw) (by simp [pureL, AV.pure, hw.pure]) rfl ?_
      have no : tmB vars T = false → polyB vars ts = false := fun h => polyB_no (i := i) (by simp only [okAt, hT, h, Bool.false_and]) hlt
      cases hv : validB T.neg T.ws
      · have hno := no (by simp only [tmB, hv, Bool.false_and])
        simp -implicitDefEqProofs only [go_sem, hno]
      simp -implicitDefEqProofs only [go_sem]
      refine callP_ret (p54 hw) (by simp [pureL, AV.pure, hw.pure]) rfl ?_
      rcases Bool.eq_false_or_eq_true ((T.ws.length : Int) == 0) with hz | hz
      · have hno := no (by simp only [tmB, hv, hz]; rfl)
        simp -implicitDefEqProofs only [go_sem, hz, hno]
      cases hlen : ((T.ex.length : Int) == vars)
      · have hno := no (by simp only [tmB, hv, hz, hlen]; rfl)
        have hlen' : ((T.ex.length : Int) != vars) = true := by rw [bne, hlen]; rfl
        simp -implicitDefEqProofs only [go_sem, hz, hx.len, hlen', hno]
      have hlen' : ((T.ex.length : Int) != vars) = false := by rw [bne, hlen]; rfl
      have hl : (T.ex.length : Int) = vars := by simpa using hlen
      simp -implicitDefEqProofs only [go_sem, hz, hx.len, hlen']
      refine loop_of (σ := Nat) (fun j st => j ≤ T.ex.length ∧ okEx (T.ex.take j) ∧ ∃ e, st = ⟨e, .cells [.int .i64 vars, s] 24 0 false :: (junk ++ [.cells [.bool T.neg, w, x] 54 0 false]), []⟩ ∧ e.get 1 = .ptr 0 0 0 ∧ e.get 3 = .int .i64 i ∧ e.get 4 = .ptr (junk.length + 1) 0 0 ∧
        e.get 22 = s ∧ e.get 23 = .int .i64 ts.length ∧ e.get 24 = .int .i64 i ∧ e.get 47 = x ∧ e.get 48 = .int .i64 T.ex.length ∧ e.get 49 = .int .i64 j) (fun j => T.ex.length - j) ?_ (x0 := 0) ?_
      · rintro j _ ⟨hj, hoj, e, rfl, e1, e3, e4, e22, e23, e24, e47, e48, e49⟩
        by_cases hjlt : j < T.ex.length
        · have c1 : decide ((j : Int) < T.ex.length) = true := decide_eq_true (by omega)
          have h6 := hx.at_ hjlt
          have h7 := IsI.drop_get .i64 T.ex hjlt
          have w3 : IntKind.wrap .i64 ((j : Int) + 1) = ((j + 1 : Nat) : Int) := wrap_i64 (by omega) (by omega)
          by_cases hx0 : T.ex.getD j 0 < 0
          · have c2 := decide_eq_true hx0
            have hno := no (by
              have : decide (okEx T.ex) = false := decide_eq_false fun h => by have := h _ (getD0_mem hjlt); omega
              simp only [tmB, hv, hz, hlen, this]; rfl)
            simp -implicitDefEqProofs only [go_sem, e1, e3, e4, e22, e23, e24, e47, e48, e49, c1, c2, h6, h7, hno]
          · have c2 := decide_eq_false hx0
            by_cases hx1 : 120 < T.ex.getD j 0
            · have c3 := decide_eq_true hx1
              have hno := no (by
                have : decide (okEx T.ex) = false := decide_eq_false fun h => by have := h _ (getD0_mem hjlt); omega
                simp only [tmB, hv, hz, hlen, this]; rfl)
              simp -implicitDefEqProofs only [go_sem, e1, e3, e4, e22, e23, e24, e47, e48, e49, c1, c2, c3, h6, h7, hno]
            · have c3 := decide_eq_false hx1
              simp -implicitDefEqProofs only [go_sem, e1, e3, e4, e22, e23, e24, e47, e48, e49, c1, c2, c3, h6, h7, w3]
              exact ⟨j + 1, ⟨by omega, okEx_take hoj hjlt ⟨by omega, by omega⟩, _, rfl, rfl, rfl, rfl, rfl, rfl, rfl, rfl, rfl, rfl⟩, by omega⟩
        · have c1 : decide ((j : Int) < T.ex.length) = false := decide_eq_false (by omega)
          have : j = T.ex.length := by omega
          subst this
          rw [List.take_length] at hoj
          simp -implicitDefEqProofs only [go_sem, e1, e3, e4, e22, e23, e24, e47, e48, e49, c1]
          refine callP_ret (p55 hx hoj (by omega)) (by simp [pureL, AV.pure, hw.pure, hx.pure]) rfl ?_
          by_cases hd : 120 < T.ex.sum
          · have d1 := decide_eq_true hd
            have hno := no (by
              have : decide (T.ex.sum ≤ 120) = false := decide_eq_false (by omega)
              simp only [tmB, hv, hz, hlen, this, Bool.and_false])
            simp -implicitDefEqProofs only [go_sem, d1, hno]
          · have d1 := decide_eq_false hd
            have ht : tmB vars T = true := by
              simp only [tmB, hv, hz, hlen, decide_eq_true hoj, decide_eq_true (show T.ex.sum ≤ 120 by omega)]; rfl
            by_cases hi0 : i = 0
            · subst hi0
              have b4 : decide ((0 : Int) < ((0 : Nat) : Int)) = false := rfl
              simp -implicitDefEqProofs only [go_sem, hs.len, e1, e3, e4, e22, e23, e24, e47, e48, e49, d1, b4, w2]
              refine ⟨1, ⟨by omega, ?_, _, _, rfl, rfl, rfl, rfl, rfl⟩, by omega⟩
              intro j hj
              have : j = 0 := by omega
              subst this
              simp only [okAt, hT, ht]; rfl
            · have b4 : decide ((0 : Int) < (i : Int)) = true := decide_eq_true (by omega)
              have w3 : IntKind.wrap .i64 ((i : Int) - 1) = ((i - 1 : Nat) : Int) := by rw [wrap_i64 (by omega) (by omega)]; omega
              obtain ⟨w', x', c', h5, hw', hx'⟩ := hs.at_ (i := i - 1) (by omega)
              obtain ⟨_, _, t3, t4, _⟩ := tmB_spec (okAt_tm (hok (i - 1) (by omega)))
              simp -implicitDefEqProofs only [go_sem, hs.len, e1, e3, e4, e22, e23, e24, e47, e48, e49, d1, b4, w2, w3, h5]
              refine callP_ret (p56 hw'.pure hw.pure hx' hx (by omega) (by omega) t4 hoj) (by simp [pureL, AV.pure, hw.pure, hx.pure, hw'.pure, hx'.pure]) rfl ?_
              have hz' : (i == 0) = false := by simpa using hi0
              have hoe := ord_eq (a := (ts.getD (i - 1) default).ex) (b := T.ex)
              cases ho : (ordR (ts.getD (i - 1) default).ex T.ex == 1)
              · rw [ho] at hoe
                have hno : polyB vars ts = false := polyB_no (i := i) (by simp only [okAt, hT, ht, hz', ho]; rfl) hlt
                simp -implicitDefEqProofs only [go_sem, hs.len, e1, e3, e4, e22, e23, e24, e47, e48, e49, d1, b4, w2, w3, h5, hoe, hno]
              · rw [ho] at hoe
                simp -implicitDefEqProofs only [go_sem, hs.len, e1, e3, e4, e22, e23, e24, e47, e48, e49, d1, b4, w2, w3, h5, hoe]
                refine ⟨i + 1, ⟨by omega, ?_, _, _, rfl, rfl, rfl, rfl, rfl⟩, by omega⟩
                intro j hj
                rcases Nat.lt_or_ge j i with h | h
                · exact hok j h
                · have : j = i := by omega
                  subst this
                  simp only [okAt, hT, ht, ho, hz']; rfl
      · exact ⟨by omega, by intro x hx; simp at hx, _, rfl, rfl, rfl, rfl, rfl, rfl, rfl, rfl, rfl, rfl⟩
    · have b3 : decide ((i : Int) < ts.length) = false := decide_eq_false (by omega)
      have hyes : polyB vars ts = true := polyB_yes (by omega) (by omega) (by omega) (fun j hj => hok j (by omega))
      simp -implicitDefEqProofs only [go_sem, hs.len, e1, e22, e23, e24, b3, hyes]
  · exact ⟨by omega, fun j hj => by omega, _, [], rfl, rfl, rfl, rfl, rfl⟩
end Go.AM.R1

set_option linter.unusedSimpArgs false
set_option linter.unusedVariables false
namespace Go.AM.R1
open Go.AM Go.Proofs

def copied (l : List Int) : AV := if l.length = 0 then .nsl else .fsl (l.map (.int .u32)) l.length
theorem copied_is (l : List Int) : IsI .u32 l (copied l) := by
  unfold copied
  split
  · rename_i h; rw [List.eq_nil_of_length_eq_zero h]; exact .nsl
  · exact .of_fsl

theorem p50 {neg : Bool} {l : List Int} {w : AV} (hw : IsI .u32 l w) (hl : l.length ≤ 4096) : SPF PP G0 50 [.fsl [.bool neg, w] 1] (.ret (.fsl [.bool neg, copied l] 1)) := by
  refine pf_sound orders is50 5 ?_
  simp -implicitDefEqProofs only [c50, go_sem, big_eq]
  refine loop_n 2 ?_
  unfold copied
  by_cases h0 : l.length = 0
  · simp -implicitDefEqProofs only [go_sem, lpN_succ, hw.len, hw.src, hw.parts, hw.solid, h0, big_eq]
  · have h1 : l.length * 4 ≤ 1099511627776 := by omega
    have h2 : l.length ≤ 1099511627776 := by omega
    simp -implicitDefEqProofs only [go_sem, lpN_succ, hw.len, hw.src, hw.parts, hw.solid, h0, h1, h2, big_eq]

/-- A number without variables, as a polynomial. -/
def constT (neg : Bool) (l : List Int) (vars : Nat) : List Tm := if l.length = 0 then [] else [⟨neg, l, List.replicate vars 0⟩]
def zeros (n : Nat) : AV := .fsl ((List.replicate n (0 : Int)).map (.int .i64)) n
theorem zeros_is (n : Nat) : IsI .i64 (List.replicate n 0) (zeros n) := ⟨.inr (by simp [zeros])⟩
def constV (neg : Bool) (l : List Int) (vars : Nat) : AV := if l.length = 0 then .nsl else .fsl [.bool neg, copied l, zeros vars] 1
theorem constV_is (neg : Bool) (l : List Int) (vars : Nat) : IsTs (constT neg l vars) (constV neg l vars) := by
  unfold constT constV
  split
  · exact .nsl
  · exact ⟨.inr ⟨_, rfl, _, _, _, rfl, copied_is l, zeros_is vars, rfl⟩⟩

theorem p49 {neg : Bool} {l : List Int} {w : AV} {vars : Nat} (hw : IsI .u32 l w) (hl : l.length ≤ 4096) (hv : vars ≤ 32) :
    SPF PP G0 49 [.int .i64 vars, .agg [.bool neg, w]] (.ret (.agg [.int .i64 vars, constV neg l vars])) := by
  refine pf_sound orders is49 6 ?_
  simp -implicitDefEqProofs only [c49, go_sem]
  refine callP_ret (p54 hw) (by simp [pureL, AV.pure, hw.pure]) rfl ?_
  cases hz : ((l.length : Int) == 0)
  · have h0 : ¬ l.length = 0 := by intro h; rw [h] at hz; cases hz
    simp -implicitDefEqProofs only [go_sem, hw.parts, hw.solid]
    have h1 : vars * 8 ≤ 1099511627776 := by omega
    have h2 : vars ≤ 1099511627776 := by omega
    simp -implicitDefEqProofs only [go_sem, hw.parts, hw.solid, big_eq, h1, h2]
    refine ⟨⟨callK_ret (by simp -implicitDefEqProofs only [go_sem, hw.refs, hw.frz]) rfl (p50 (neg := neg) hw hl) (by simp [AV.pure, pureL, (copied_is l).pure]) ?_, callK_ret (by simp -implicitDefEqProofs only [go_sem, hw.refs, hw.frz]) rfl (p50 (neg := neg) hw hl) (by simp [AV.pure, pureL, (copied_is l).pure]) ?_⟩, callK_ret (by simp -implicitDefEqProofs only [go_sem, hw.refs, hw.frz]) rfl (p50 (neg := neg) hw hl) (by simp [AV.pure, pureL, (copied_is l).pure]) ?_⟩
    all_goals
      simp -implicitDefEqProofs only [go_sem, hw.refs, (copied_is l).parts, (copied_is l).solid, (copied_is l).frz, big_eq, h1, h2, constV, h0, zeros]
  · have h0 : l.length = 0 := by simpa using hz
    simp -implicitDefEqProofs only [go_sem, constV, h0]

def zeroI : AV := .agg [.bool false, .nsl]
def zeroP : AV := .agg [.int .i64 0, .nsl]

theorem p10 {neg : Bool} {l : List Int} {w : AV} {vars : Int} (hw : IsI .u32 l w) :
    SPF PP G0 10 [.int .i64 vars, .agg [.bool neg, w]] (.ret (if validB neg l then (if 0 ≤ vars ∧ vars ≤ 32 then .tup [.agg [.int .i64 vars, constV neg l vars.toNat], .int .i64 0] else .tup [zeroP, .int .i64 2]) else .tup [zeroP, .int .i64 1])) := by
  refine pf_sound orders is10 7 ?_
  simp -implicitDefEqProofs only [c10, go_sem, hw.parts]
  refine callP_ret (p48 hw) (by simp [pureL, AV.pure, hw.pure]) rfl ?_
  cases hv : validB neg l
  · simp -implicitDefEqProofs only [go_sem, zeroP]
  · have hl : l.length ≤ 4096 := by
      simp only [validB, Bool.and_eq_true, decide_eq_true_eq] at hv; exact hv.1
    by_cases h0 : vars < 0
    · have b0 := decide_eq_true h0
      have hn : ¬ (0 ≤ vars ∧ vars ≤ 32) := by omega
      simp -implicitDefEqProofs only [go_sem, b0, zeroP, hn]
    · have b0 := decide_eq_false h0
      by_cases h1 : 32 < vars
      · have b1 := decide_eq_true h1
        have hn : ¬ (0 ≤ vars ∧ vars ≤ 32) := by omega
        simp -implicitDefEqProofs only [go_sem, b0, b1, zeroP, hn]
      · have b1 := decide_eq_false h1
        have hn : (0 ≤ vars ∧ vars ≤ 32) := by omega
        obtain ⟨n, rfl⟩ : ∃ n : Nat, vars = n := ⟨vars.toNat, by omega⟩
        have hc := constV_is neg l n
        simp -implicitDefEqProofs only [go_sem, b0, b1, hn]
        refine callP_ret (p49 hw hl (by omega)) (by simp [pureL, AV.pure, hw.pure]) (by simp [AV.pure, pureL, hc.pure]) ?_
        simp -implicitDefEqProofs only [go_sem, Int.toNat_natCast, hc.frz]

def oneV : AV := .fsl [.int .u32 1] 1
theorem one_is : IsI .u32 [1] oneV := ⟨.inr rfl⟩
theorem p34 : SPF PP G0 34 [.int .i64 1] (.ret (.agg [.bool false, oneV])) := lay.run [] Known.nil (by kernel_rfl)
theorem p47 : SPF PP G0 47 [.int .i64 1] (.ret (.agg [.bool false, oneV])) := lay.run [] Known.nil (by kernel_rfl)

/-- A variable as a polynomial. -/
def unitL (n i : Nat) : List Int := (List.replicate n 0).set i 1
def unitV (n i : Nat) : AV := .fsl ((unitL n i).map (.int .i64)) n
theorem unit_is (n i : Nat) : IsI .i64 (unitL n i) (unitV n i) := ⟨.inr (by simp [unitV, unitL])⟩
def varV (n i : Nat) : AV := .fsl [.bool false, oneV, unitV n i] 1
theorem varV_is (n i : Nat) : IsTs [⟨false, [1], unitL n i⟩] (varV n i) := ⟨.inr ⟨_, rfl, _, _, _, rfl, one_is, unit_is n i, rfl⟩⟩

theorem set_ints (k : IntKind) (l : List Int) (i : Nat) (x : Int) : ((l.map (AV.int k)).set i (.int k x)) = (l.set i x).map (AV.int k) := by
  rw [List.map_set]

theorem p11 {vars i : Int} : SPF PP G0 11 [.int .i64 vars, .int .i64 i] (.ret (if (0 ≤ vars ∧ vars ≤ 32) ∧ (0 ≤ i ∧ i < vars) then .tup [.agg [.int .i64 vars, varV vars.toNat i.toNat], .int .i64 0] else .tup [zeroP, .int .i64 2])) := by
  refine pf_sound orders is11 7 ?_
  by_cases h0 : vars < 0
  · have b0 := decide_eq_true h0
    have hn : ¬ ((0 ≤ vars ∧ vars ≤ 32) ∧ (0 ≤ i ∧ i < vars)) := by omega
    simp -implicitDefEqProofs only [c11, go_sem, b0, zeroP, hn]
  have b0 := decide_eq_false h0
  by_cases h1 : 32 < vars
  · have b1 := decide_eq_true h1
    have hn : ¬ ((0 ≤ vars ∧ vars ≤ 32) ∧ (0 ≤ i ∧ i < vars)) := by omega
    simp -implicitDefEqProofs only [c11, go_sem, b0, b1, zeroP, hn]
  have b1 := decide_eq_false h1
  by_cases h2 : i < 0
  · have b2 := decide_eq_true h2
    have hn : ¬ ((0 ≤ vars ∧ vars ≤ 32) ∧ (0 ≤ i ∧ i < vars)) := by omega
    simp -implicitDefEqProofs only [c11, go_sem, b0, b1, b2, zeroP, hn]
  have b2 := decide_eq_false h2
  by_cases h3 : vars ≤ i
  · have b3 := decide_eq_true h3
    have hn : ¬ ((0 ≤ vars ∧ vars ≤ 32) ∧ (0 ≤ i ∧ i < vars)) := by omega
    simp -implicitDefEqProofs only [c11, go_sem, b0, b1, b2, b3, zeroP, hn]
  have b3 := decide_eq_false h3
  have hn : ((0 ≤ vars ∧ vars ≤ 32) ∧ (0 ≤ i ∧ i < vars)) := by omega
  obtain ⟨n, rfl⟩ : ∃ n : Nat, vars = n := ⟨vars.toNat, by omega⟩
  obtain ⟨j, rfl⟩ : ∃ j : Nat, i = j := ⟨i.toNat, by omega⟩
  have w1 : n * 8 ≤ 1099511627776 := by omega
  have w2 : n ≤ 1099511627776 := by omega
  have w3 : j < n := by omega
  have w4 : j + 1 ≤ n := by omega
  simp -implicitDefEqProofs only [c11, go_sem, b0, b1, b2, b3, hn, big_eq, w1, w2, w3, w4, set_ints]
  refine callP_ret p47 rfl rfl ?_
  simp -implicitDefEqProofs only [go_sem, one_is.parts, one_is.solid, one_is.frz, Int.toNat_natCast, varV, unitV, unitL, List.length_set]

theorem p17 {n j : Nat} (h : n ≤ 32) (hj : j < n) : SPF PP G0 17 [.int .i64 n, .int .i64 j] (.ret (.agg [.int .i64 n, varV n j])) := by
  refine pf_sound orders is17 7 ?_
  have w1 : n * 8 ≤ 1099511627776 := by omega
  have w2 : n ≤ 1099511627776 := by omega
  have w4 : j + 1 ≤ n := by omega
  simp -implicitDefEqProofs only [c17, go_sem, big_eq, w1, w2, hj, w4, set_ints]
  refine callP_ret p34 rfl rfl ?_
  simp -implicitDefEqProofs only [go_sem, one_is.parts, one_is.solid, one_is.frz, Int.toNat_natCast, varV, unitV, unitL, List.length_set]

/-- One term, merged with none. -/
theorem p65 {t : Tm} {w x : AV} (hw : IsI .u32 t.ws w) (hx : IsI .i64 t.ex x) : SPF PP G0 65 [.fsl [.bool t.neg, w, x] 1, .nsl] (.ret (if t.ws.length = 0 then .nsl else .fsl [.bool t.neg, w, x] 1)) := by
  refine pf_sound orders is65 6 ?_
  simp -implicitDefEqProofs only [c65, go_sem]
  refine loop_n 2 ?_
  simp -implicitDefEqProofs only [go_sem, lpN_succ, hw.parts, hw.solid, hx.parts, hx.solid]
  refine callP_ret (p70 hw) (by simp [pureL, AV.pure, hw.pure]) rfl ?_
  cases hz : ((t.ws.length : Int) == 0)
  · have h0 : ¬ t.ws.length = 0 := by intro h; rw [h] at hz; cases hz
    simp -implicitDefEqProofs only [go_sem, lpN_succ, hw.parts, hw.solid, hx.parts, hx.solid, hw.frz, hx.frz, big_eq, h0]
  · have h0 : t.ws.length = 0 := by simpa using hz
    simp -implicitDefEqProofs only [go_sem, lpN_succ, hw.parts, hw.solid, hx.parts, hx.solid, h0]

/-- A list of one term, sorted. -/
theorem p51 {t : Tm} {w x : AV} (hw : IsI .u32 t.ws w) (hx : IsI .i64 t.ex x) : SPF PP G0 51 [.fsl [.bool t.neg, w, x] 1] (.ret (if t.ws.length = 0 then .nsl else .fsl [.bool t.neg, w, x] 1)) := by
  refine pf_sound orders is51 6 ?_
  simp -implicitDefEqProofs only [c51, go_sem]
  refine callP_ret (p65 hw hx) (by simp [pureL, AV.pure, hw.pure, hx.pure]) (by split <;> simp [pureL, AV.pure, hw.pure, hx.pure]) ?_
  by_cases h0 : t.ws.length = 0
  · simp -implicitDefEqProofs only [go_sem, h0]
  · simp -implicitDefEqProofs only [go_sem, h0, hw.frz, hx.frz]

/-- The reference's constant. -/
def constR (neg : Bool) (l : List Int) (w : AV) (n : Nat) : AV := if l.length = 0 then .nsl else .fsl [.bool neg, w, zeros n] 1
theorem constR_is {neg : Bool} {l : List Int} {w : AV} (hw : IsI .u32 l w) (n : Nat) : IsTs (constT neg l n) (constR neg l w n) := by
  unfold constT constR
  split
  · exact .nsl
  · exact ⟨.inr ⟨_, rfl, _, _, _, rfl, hw, zeros_is n, rfl⟩⟩

theorem p16 {neg : Bool} {l : List Int} {w : AV} {n : Nat} (hw : IsI .u32 l w) (hn : n ≤ 32) : SPF PP G0 16 [.int .i64 n, .agg [.bool neg, w]] (.ret (.agg [.int .i64 n, constR neg l w n])) := by
  refine pf_sound orders is16 7 ?_
  have w1 : n * 8 ≤ 1099511627776 := by omega
  have w2 : n ≤ 1099511627776 := by omega
  simp -implicitDefEqProofs only [c16, go_sem, hw.parts, hw.solid, big_eq, w1, w2]
  refine callK_ret (by simp -implicitDefEqProofs only [go_sem, hw.refs, hw.frz]; rfl) rfl (p51 (t := ⟨neg, l, List.replicate n 0⟩) hw (zeros_is n)) (by split <;> simp [pureL, AV.pure, hw.pure, (zeros_is n).pure]) ?_
  by_cases h0 : l.length = 0
  · simp -implicitDefEqProofs only [go_sem, hw.refs, constR, h0, hw.frz, (zeros_is n).frz]
  · simp -implicitDefEqProofs only [go_sem, hw.refs, constR, h0, hw.frz, (zeros_is n).frz]

/-- The errors. -/
theorem zero_same {v : AV} (h : IsTs [] v) : SPF PP G0 32 [.agg [.int .i64 0, v], .agg [.int .i64 0, .nsl]] (.ret (.bool true)) := p32 h .nsl ⟨by simp, by simp⟩

theorem p14 {v : AV} {e : Int} (h : IsTs [] v) : SPF PP G0 14 [.agg [.int .i64 0, v], .int .i64 e, .int .i64 e] (.ret (.bool true)) := by
  refine pf_sound orders is14 3 ?_
  have b0 : (e == e) = true := by simp
  simp -implicitDefEqProofs only [c14, go_sem, h.parts, b0]
  refine callP_ret (zero_same h) (by simp [pureL, AV.pure, h.pure]) rfl ?_
  simp -implicitDefEqProofs only [go_sem]

/-- A polynomial and OK are what is wanted. -/
theorem p15 {vars : Int} {ts : List Tm} {u v : AV} {free : Bool} (hu : IsTs ts u) (hv : IsTs ts v) (hs : Sane ts) (hb : polyB vars ts = true) : SPF PP G0 15 [.agg [.int .i64 vars, u], .int .i64 0, .agg [.int .i64 vars, v], .bool free] (.ret (.bool true)) := by
  refine pf_sound orders is15 3 ?_
  have b0 : ((0 : Int) == 4) = false := rfl
  have b1 : ((0 : Int) == 0) = true := rfl
  simp -implicitDefEqProofs only [c15, go_sem, hu.parts, hv.parts, b0, b1]
  refine callP_ret (p18 hv hs) (by simp [pureL, AV.pure, hv.pure]) rfl ?_
  simp -implicitDefEqProofs only [go_sem, hb]
  refine callP_ret (p32 hu hv hs) (by simp [pureL, AV.pure, hu.pure, hv.pure]) rfl ?_
  simp -implicitDefEqProofs only [go_sem]
end Go.AM.R1

set_option linter.unusedSimpArgs false
set_option linter.unusedVariables false
namespace Go.AM.R1
open Go.AM Go.Proofs

def widT (n : Nat) (t : Tm) : Tm := ⟨t.neg, t.ws, padL n t.ex⟩
def mkR (n : Nat) (ts : List Tm) (s : AV) (i : Nat) : List AV := [.bool (ts.getD i default).neg, (cellsOf s).getD (i * 3 + 1) .top, .fsl ((padL n (ts.getD i default).ex).map (.int .i64)) n]
def widR (n : Nat) (ts : List Tm) (s : AV) : AV := if ts.length = 0 then .nsl else .fsl ((List.range ts.length).flatMap (mkR n ts s)) ts.length
theorem widR_is {n : Nat} {ts : List Tm} {s : AV} (hs : IsTs ts s) (h : ∀ t ∈ ts, t.ex.length ≤ n) : IsTs (ts.map (widT n)) (widR n ts s) := by
  unfold widR
  split
  · rename_i h0; rw [List.eq_nil_of_length_eq_zero h0]; exact .nsl
  · refine ⟨.inr ⟨_, by rw [List.length_map], ?_⟩⟩
    rw [← range_map_getD (widT n) ts]
    refine tsCells_range fun i hi => ?_
    have hl := padL_len (h _ (getD_mem hi))
    exact ⟨_, _, _, rfl, (hs.atG hi).2, ⟨.inr (by rw [show (widT n (ts.getD i default)).ex.length = n from hl]; rfl)⟩, rfl⟩

/-- What is appended to, after so many terms. -/
def Out (S rest : Store) (i : Nat) (f : List AV) (T : AV) : Prop :=
  (i = 0 ∧ T = .nsl) ∨ (0 < i ∧ ∃ bb g c, T = .sl (bb + 3) g 0 3 i none ∧ rest[bb]? = some (.cells c 54 g true) ∧ c.length = i * 3 ∧ Fzn S c f)

theorem p19 {vars : Int} {n : Nat} {ts : List Tm} {s : AV} (hs : IsTs ts s) (hn : n ≤ 32) (h : ∀ t ∈ ts, t.ex.length ≤ n) (hl : ts.length ≤ 3000) :
    SPF PP G0 19 [.agg [.int .i64 vars, s], .int .i64 n] (.ret (.agg [.int .i64 n, widR n ts s])) := by
  refine pf_sound orders is19 7 ?_
  have w1 : n * 8 ≤ 1099511627776 := by omega
  have w2 : n ≤ 1099511627776 := by omega
  simp -implicitDefEqProofs only [c19, go_sem, hs.parts, big_eq, w1, w2]
  refine loop_of (σ := Nat) (fun i st => i ≤ ts.length ∧ ∃ e rest T, st = ⟨e, .cells [.int .i64 vars, s] 24 0 false :: .cells [.int .i64 0, .nsl] 24 0 false :: .cells [.int .i64 n, T] 24 0 false :: rest, []⟩ ∧
    Out (.cells [.int .i64 vars, s] 24 0 false :: .cells [.int .i64 0, .nsl] 24 0 false :: .cells [.int .i64 n, T] 24 0 false :: rest) rest i ((List.range i).flatMap (mkR n ts s)) T ∧
    e.get 1 = .int .i64 n ∧ e.get 2 = .ptr 0 0 0 ∧ e.get 4 = .ptr 1 0 0 ∧ e.get 5 = .ptr 2 0 0 ∧ e.get 6 = .int .i64 i) (fun i => ts.length - i) ?_ (x0 := 0) ?_
  · rintro i _ ⟨hi, e, rest, T, rfl, hT, e1, e2, e4, e5, e6⟩
    by_cases hlt : i < ts.length
    · have b1 : decide ((i : Int) < ts.length) = true := decide_eq_true (by omega)
      have w3 : IntKind.wrap .i64 ((i : Int) + 1) = ((i + 1 : Nat) : Int) := wrap_i64 (by omega) (by omega)
      obtain ⟨⟨x, c', h4, hx⟩, hw⟩ := hs.atG hlt
      have hxl := h _ (getD_mem hlt)
      have hpl := padL_len hxl
      rcases hT with ⟨rfl, rfl⟩ | ⟨hpos, bb, g, c, rfl, hr, hcl, hF⟩
      · have b1' : decide ((0 : Int) < ts.length) = true := decide_eq_true (by omega)
        simp -implicitDefEqProofs only [go_sem, hs.len, e1, e2, e4, e5, e6, b1', h4, big_eq, w1, w2, copy_is hx hxl, wrl_pad hxl, hxl, hw.parts, hw.solid]
        refine ⟨1, ⟨by omega, _, _, _, rfl, .inr ⟨by omega, _, 0, _, rfl, List.getElem?_concat_length, rfl, ?_⟩, rfl, rfl, rfl, rfl, rfl⟩, by omega⟩
        refine Fzn.term (k := rest.length + 1 + 1 + 1) hw ?_ hpl
        simp
      · have hbl : bb < rest.length := by
          rcases Nat.lt_or_ge bb rest.length with h' | h'
          · exact h'
          · rw [List.getElem?_eq_none h'] at hr; cases hr
        have hr' : ∀ A B : Box, (rest ++ [A] ++ [B])[bb]? = some (.cells c 54 g true) := fun A B => by
          rw [List.append_assoc, List.getElem?_append_left hbl]; exact hr
        have q1 : i * 3 ≤ c.length := by omega
        have q2 : (i + 1) * 56 ≤ 1099511627776 := by omega
        have q3 : i + 1 ≤ 1099511627776 := by omega
        have q4 : c.take (i * 3) = c := List.take_of_length_le (by omega)
        simp -implicitDefEqProofs only [go_sem, hs.len, e1, e2, e4, e5, e6, b1, h4, big_eq, w1, w2, w3, copy_is hx hxl, wrl_pad hxl, hxl, hw.parts, hw.solid, hr', q1, q2, q3, q4]
        refine ⟨i + 1, ⟨by omega, _, _, _, rfl, .inr ⟨by omega, bb, g + 1, _, rfl, List.getElem?_set_self (by simp; omega), by simp; omega, ?_⟩, rfl, rfl, rfl, rfl, rfl⟩, by omega⟩
        rw [List.range_succ, List.flatMap_append]
        refine Fzn.append (hF.keep ?_) ?_
        · refine Agree.cons (Agree.cons (Agree.cons ?_ (fun l h => by cases h)) (fun l h => by cases h)) (fun l h => by cases h)
          rw [List.append_assoc]
          refine (Agree.append _ _).trans (Agree.set (by rw [← List.append_assoc]; exact hr' _ _) (fun l h => by cases h))
        · simp only [List.flatMap_cons, List.flatMap_nil, List.append_nil]
          refine Fzn.term (k := rest.length + 1 + 1 + 1) hw ?_ hpl
          simp only [List.getElem?_cons_succ]
          rw [List.getElem?_set_ne (by omega)]
          simp
    · have b1 : decide ((i : Int) < ts.length) = false := decide_eq_false (by omega)
      have hil : i = ts.length := by omega
      subst hil
      rcases hT with ⟨h0, rfl⟩ | ⟨hpos, bb, g, c, rfl, hr, hcl, hF⟩
      · simp -implicitDefEqProofs only [go_sem, hs.len, e1, e2, e4, e5, e6, b1, widR, h0]
      · have h0 : ¬ ts.length = 0 := by omega
        have q1 : ts.length * 3 ≤ c.length := by omega
        have q4 : c.take (ts.length * 3) = c := List.take_of_length_le (by omega)
        have hf := hF (.cells [.int .i64 vars, s] 24 0 false :: .cells [.int .i64 n, .sl (bb + 3) g 0 3 ts.length none] 24 0 false :: .cells [.int .i64 n, .sl (bb + 3) g 0 3 ts.length none] 24 0 false :: rest)
          (Agree.cons (Agree.cons (Agree.cons (Agree.refl _) (fun l h => by cases h)) (fun l h => by cases h)) (fun l h => by cases h))
        simp -implicitDefEqProofs only [go_sem, hs.len, e1, e2, e4, e5, e6, b1, widR, h0, hr, q1, q4, hf]
  · exact ⟨by omega, _, [], _, rfl, .inl ⟨rfl, rfl⟩, rfl, rfl, rfl, rfl, rfl⟩
end Go.AM.R1

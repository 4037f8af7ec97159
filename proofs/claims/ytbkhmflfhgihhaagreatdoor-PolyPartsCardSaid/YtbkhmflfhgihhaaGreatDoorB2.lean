/- Parts of a proof. -/
import Derived.Test.YtbkhmflfhgihhaaGreatDoorB1
set_option linter.all false

set_option linter.unusedSimpArgs false
set_option linter.unusedVariables false
namespace Go.AM.R1
open Go.AM Go.Proofs

def mkP (n : Nat) (ts : List Tm) (i : Nat) : List AV := [.bool (ts.getD i default).neg, copied (ts.getD i default).ws, .fsl ((padL n (ts.getD i default).ex).map (.int .i64)) n]
def widP (n : Nat) (ts : List Tm) : AV := if ts.length = 0 then .nsl else .fsl ((List.range ts.length).flatMap (mkP n ts)) ts.length
theorem widP_is {n : Nat} {ts : List Tm} (h : ∀ t ∈ ts, t.ex.length ≤ n) : IsTs (ts.map (widT n)) (widP n ts) := by
  unfold widP
  split
  · rename_i h0; rw [List.eq_nil_of_length_eq_zero h0]; exact .nsl
  · refine ⟨.inr ⟨_, by rw [List.length_map], ?_⟩⟩
    rw [← range_map_getD (widT n) ts]
    refine tsCells_range fun i hi => ?_
    have hl := padL_len (h _ (getD_mem hi))
    exact ⟨_, _, _, rfl, copied_is _, ⟨.inr (by rw [show (widT n (ts.getD i default)).ex.length = n from hl]; rfl)⟩, rfl⟩
@[go_sem] theorem get_mid2 {α : Type} (l : List α) (a : α) (m k : List α) : (((l ++ [a]) ++ m) ++ k)[l.length]? = some a := by rw [List.append_assoc, List.append_assoc]; simp
@[go_sem] theorem get_mid3 {α : Type} (l : List α) (a : α) (m k j : List α) : ((((l ++ [a]) ++ m) ++ k) ++ j)[l.length]? = some a := by rw [List.append_assoc, List.append_assoc, List.append_assoc]; simp

theorem polyB_spec {vars : Int} {ts : List Tm} (h : polyB vars ts = true) : 0 ≤ vars ∧ vars ≤ 32 ∧ ts.length ≤ 3000 ∧ ∀ i, i < ts.length → okAt vars ts i = true := by
  simp only [polyB, Bool.and_eq_true, decide_eq_true_eq, List.all_eq_true, List.mem_range] at h
  obtain ⟨a, b, c, d⟩ := h
  exact ⟨a, b, c, d⟩
theorem validB_len {neg : Bool} {l : List Int} (h : validB neg l = true) : l.length ≤ 4096 := by
  simp only [validB, Bool.and_eq_true, decide_eq_true_eq] at h; exact h.1

set_option maxHeartbeats 1000000 in
theorem p12 {vars0 vars : Int} {ts : List Tm} {s : AV} (hs : IsTs ts s) (hl : Sane ts) :
    SPF PP G0 12 [.agg [.int .i64 vars0, s], .int .i64 vars] (.ret (if polyB vars0 ts then (if vars0 ≤ vars ∧ vars ≤ 32 then .tup [.agg [.int .i64 vars, widP vars.toNat ts], .int .i64 0] else .tup [zeroP, .int .i64 2]) else .tup [zeroP, .int .i64 1])) := by
  refine pf_sound orders is12 8 ?_
  simp -implicitDefEqProofs only [c12, go_sem, hs.parts]
  refine callP_ret (p20 hs hl) (by simp [pureL, AV.pure, hs.pure]) rfl ?_
  cases hv : polyB vars0 ts
  · simp -implicitDefEqProofs only [go_sem, zeroP]
  obtain ⟨v1, v2, v3, v4⟩ := polyB_spec hv
  by_cases h0 : vars < vars0
  · have b0 := decide_eq_true h0
    have hn : ¬ (vars0 ≤ vars ∧ vars ≤ 32) := by omega
    simp -implicitDefEqProofs only [go_sem, b0, zeroP, hn]
  have b0 := decide_eq_false h0
  by_cases h1 : 32 < vars
  · have b1 := decide_eq_true h1
    have hn : ¬ (vars0 ≤ vars ∧ vars ≤ 32) := by omega
    simp -implicitDefEqProofs only [go_sem, b0, b1, zeroP, hn]
  have b1 := decide_eq_false h1
  have hn : (vars0 ≤ vars ∧ vars ≤ 32) := by omega
  obtain ⟨n, rfl⟩ : ∃ n : Nat, vars = n := ⟨vars.toNat, by omega⟩
  have w1 : n * 8 ≤ 1099511627776 := by omega
  have w2 : n ≤ 1099511627776 := by omega
  simp -implicitDefEqProofs only [go_sem, b0, b1, hn, hs.len, hs.parts, Int.toNat_natCast]
  have hex : ∀ t ∈ ts, t.ex.length ≤ n ∧ t.ws.length ≤ 4096 := by
    intro t ht
    obtain ⟨i, hi, rfl⟩ := List.getElem_of_mem ht
    obtain ⟨a1, _, a2, _⟩ := tmB_spec (okAt_tm (v4 i hi))
    have e : ts.getD i default = ts[i] := by simp [hi]
    rw [e] at a1 a2
    exact ⟨by omega, validB_len a1⟩
  refine loop_of (σ := Nat) (fun i st => i ≤ ts.length ∧ ∃ e rest T, st = ⟨e, .cells [.int .i64 vars0, s] 24 0 false :: .cells [.int .i64 0, .nsl] 24 0 false :: .cells [.int .i64 n, T] 24 0 false :: rest, []⟩ ∧
    Out (.cells [.int .i64 vars0, s] 24 0 false :: .cells [.int .i64 0, .nsl] 24 0 false :: .cells [.int .i64 n, T] 24 0 false :: rest) rest i ((List.range i).flatMap (mkP n ts)) T ∧
    e.get 1 = .int .i64 n ∧ e.get 4 = .ptr 1 0 0 ∧ e.get 6 = .ptr 2 0 0 ∧ e.get 26 = s ∧ e.get 27 = .int .i64 ts.length ∧ e.get 28 = .int .i64 i) (fun i => ts.length - i) ?_ (x0 := 0) ?_
  · rintro i _ ⟨hi, e, rest, T, rfl, hT, e1, e4, e6, e26, e27, e28⟩
    by_cases hlt : i < ts.length
    · have b2 : decide ((i : Int) < ts.length) = true := decide_eq_true (by omega)
      have w3 : IntKind.wrap .i64 ((i : Int) + 1) = ((i + 1 : Nat) : Int) := wrap_i64 (by omega) (by omega)
      obtain ⟨⟨x, c', h4, hx⟩, hw⟩ := hs.atG hlt
      generalize (cellsOf s).getD (i * 3 + 1) .top = w at h4 hw
      obtain ⟨hxl, hwl⟩ := hex _ (getD_mem hlt)
      have hpl := padL_len hxl
      have hcp := copied_is (ts.getD i default).ws
      have hp50 := p50 (neg := (ts.getD i default).neg) hw hwl
      have hpure : (AV.fsl [.bool (ts.getD i default).neg, copied (ts.getD i default).ws] 1).pure = true := by simp only [AV.pure, pureL, hcp.pure, Bool.and_true]
      rcases hT with ⟨rfl, rfl⟩ | ⟨hpos, bb, g, c, rfl, hr, hcl, hF⟩
      · have b2' : decide ((0 : Int) < ts.length) = true := decide_eq_true (by omega)
        simp -implicitDefEqProofs only [go_sem, hs.len, e1, e4, e6, e26, e27, e28, b2', h4, big_eq, w1, w2, copy_is hx hxl, wrl_pad hxl, hxl, hw.parts, hw.solid, hx.parts, hx.solid]
        repeat' apply And.intro
        all_goals
          refine callK_last (X := SX PP G0) (f := 50) (L := .cells [.int .i64 vars0, s] 24 0 false :: .cells [.int .i64 0, .nsl] 24 0 false :: .cells [.int .i64 n, .nsl] 24 0 false :: (rest ++ [.cells [.bool (ts.getD 0 default).neg, w, x] 54 0 false] ++ [.cells ((padL n (ts.getD 0 default).ex).map (.int .i64)) 3 0 false])) (cs := [.bool (ts.getD 0 default).neg, w])
            (by simp [refsL, refs, hw.refs]) (fun ok S => by simp -implicitDefEqProofs only [go_sem, hw.frz]) rfl hp50 hpure ?_
          simp -implicitDefEqProofs only [go_sem, hs.len, e1, e4, e6, e26, e27, e28, b2', h4, big_eq, w1, w2, hcp.parts, hcp.solid]
          refine ⟨1, ⟨by omega, _, _, _, rfl, .inr ⟨by omega, _, 0, _, rfl, List.getElem?_concat_length, rfl, ?_⟩, rfl, rfl, rfl, rfl, rfl, rfl⟩, by omega⟩
          refine Fzn.term (k := (rest ++ [Box.cells [.bool (ts.getD 0 default).neg, w, x] 54 0 false]).length + 1 + 1 + 1) hcp ?_ hpl
          simp
      · have hbl : bb < rest.length := by
          rcases Nat.lt_or_ge bb rest.length with h' | h'
          · exact h'
          · rw [List.getElem?_eq_none h'] at hr; cases hr
        have hr2 : ∀ A B : Box, (rest ++ [A] ++ [B])[bb]? = some (.cells c 54 g true) := fun A B => by
          rw [List.append_assoc, List.getElem?_append_left hbl]; exact hr
        have hr4 : ∀ A B C D : Box, (rest ++ [A] ++ [B] ++ [C] ++ [D])[bb]? = some (.cells c 54 g true) := fun A B C D => by
          rw [List.append_assoc, List.append_assoc, List.append_assoc, List.getElem?_append_left hbl]; exact hr
        have q1 : i * 3 ≤ c.length := by omega
        have q2 : (i + 1) * 56 ≤ 1099511627776 := by omega
        have q3 : i + 1 ≤ 1099511627776 := by omega
        have q4 : c.take (i * 3) = c := List.take_of_length_le (by omega)
        simp -implicitDefEqProofs only [go_sem, hs.len, e1, e4, e6, e26, e27, e28, b2, h4, big_eq, w1, w2, copy_is hx hxl, wrl_pad hxl, hxl, hw.parts, hw.solid, hx.parts, hx.solid]
        repeat' apply And.intro
        all_goals
          refine callK_last (X := SX PP G0) (f := 50) (L := .cells [.int .i64 vars0, s] 24 0 false :: .cells [.int .i64 0, .nsl] 24 0 false :: .cells [.int .i64 n, .sl (bb + 3) g 0 3 i none] 24 0 false :: (rest ++ [.cells [.bool (ts.getD i default).neg, w, x] 54 0 false] ++ [.cells ((padL n (ts.getD i default).ex).map (.int .i64)) 3 0 false])) (cs := [.bool (ts.getD i default).neg, w])
            (by simp [refsL, refs, hw.refs]) (fun ok S => by simp -implicitDefEqProofs only [go_sem, hw.frz]) rfl hp50 hpure ?_
          simp -implicitDefEqProofs only [go_sem, hs.len, e1, e4, e6, e26, e27, e28, b2, h4, big_eq, w1, w2, w3, hcp.parts, hcp.solid, hr2, hr4, q1, q2, q3, q4]
          refine ⟨i + 1, ⟨by omega, _, _, _, rfl, .inr ⟨by omega, bb, g + 1, _, rfl, List.getElem?_set_self (by simp; omega), by simp; omega, ?_⟩, rfl, rfl, rfl, rfl, rfl, rfl⟩, by omega⟩
          rw [List.range_succ, List.flatMap_append]
          refine Fzn.append (hF.keep ?_) ?_
          · refine Agree.cons (Agree.cons (Agree.cons ?_ (fun l h => by cases h)) (fun l h => by cases h)) (fun l h => by cases h)
            rw [List.append_assoc, List.append_assoc, List.append_assoc]
            refine (Agree.append _ _).trans (Agree.set (by rw [List.getElem?_append_left hbl]; exact hr) (fun l h => by cases h))
          · simp only [List.flatMap_cons, List.flatMap_nil, List.append_nil]
            refine Fzn.term (k := (rest ++ [Box.cells [.bool (ts.getD i default).neg, w, x] 54 0 false]).length + 1 + 1 + 1) hcp ?_ hpl
            simp only [List.getElem?_cons_succ]
            rw [List.getElem?_set_ne (by simp; omega)]
            simp
    · have b2 : decide ((i : Int) < ts.length) = false := decide_eq_false (by omega)
      have hil : i = ts.length := by omega
      subst hil
      rcases hT with ⟨h0, rfl⟩ | ⟨hpos, bb, g, c, rfl, hr, hcl, hF⟩
      · simp -implicitDefEqProofs only [go_sem, hs.len, e1, e4, e6, e26, e27, e28, b2, widP, h0]
      · have h0 : ¬ ts.length = 0 := by omega
        have q1 : ts.length * 3 ≤ c.length := by omega
        have q4 : c.take (ts.length * 3) = c := List.take_of_length_le (by omega)
        have hf := hF (.cells [.int .i64 vars0, s] 24 0 false :: .cells [.int .i64 n, .sl (bb + 3) g 0 3 ts.length none] 24 0 false :: .cells [.int .i64 n, .sl (bb + 3) g 0 3 ts.length none] 24 0 false :: rest)
          (Agree.cons (Agree.cons (Agree.cons (Agree.refl _) (fun l h => by cases h)) (fun l h => by cases h)) (fun l h => by cases h))
        simp -implicitDefEqProofs only [go_sem, hs.len, e1, e4, e6, e26, e27, e28, b2, widP, h0, hr, q1, q4, hf]
  · exact ⟨by omega, _, [], _, rfl, .inl ⟨rfl, rfl⟩, rfl, rfl, rfl, rfl, rfl, rfl⟩
end Go.AM.R1

set_option linter.unusedSimpArgs false
set_option linter.unusedVariables false
namespace Go.AM.R1
open Go.AM Go.Proofs

def wideGo (len : Nat) : List Tm → Nat → Int → Bool
  | [], _, n => decide (20000 < n) || decide (3100 < len)
  | t :: r, i, n => if i ≤ 3100 then (if 40 < t.ex.length then true else wideGo len r (i + 1) (n + t.ws.length)) else decide (20000 < n) || decide (3100 < len)
def wideB (ts : List Tm) : Bool := wideGo ts.length ts 0 0

theorem p8 {vars : Int} {ts : List Tm} {s : AV} (hs : IsTs ts s) (hl : Sane ts) : SPF PP G0 8 [.agg [.int .i64 vars, s]] (.ret (.bool (wideB ts))) := by
  refine pf_sound orders is8 3 ?_
  have hl1 := hl.1
  simp -implicitDefEqProofs only [c8, go_sem, hs.parts]
  refine loop_of (σ := Nat × Int) (fun z st => z.1 ≤ ts.length ∧ z.1 ≤ 3101 ∧ 0 ≤ z.2 ∧ z.2 ≤ z.1 * 140737488355328 ∧ wideB ts = wideGo ts.length (ts.drop z.1) z.1 z.2 ∧ ∃ e junk, st = ⟨e, .cells [.int .i64 vars, s] 24 0 false :: junk, []⟩ ∧ e.get 1 = .ptr 0 0 0 ∧ e.get 3 = .int .i64 z.2 ∧ e.get 4 = .int .i64 z.1) (fun z => ts.length - z.1) ?_ (x0 := (0, 0)) ?_
  · rintro ⟨i, n⟩ _ ⟨hi, hi2, hn0, hn1, hw, e, junk, rfl, e1, e3, e4⟩
    simp only at hi hi2 hn0 hn1 hw e3 e4
    have done : (ts.length ≤ i ∨ 3100 < i) → wideB ts = (decide (20000 < n) || decide (3100 < ts.length)) := by
      intro h
      rw [hw]
      rcases h with h | h
      · rw [List.drop_of_length_le h]; rfl
      · cases hd : ts.drop i with
        | nil => rfl
        | cons t r => simp only [wideGo]; rw [if_neg (by omega)]
    have fin : ∀ b : Bool, b = (decide (20000 < n) || decide (3100 < ts.length)) → wideB ts = b → True := fun _ _ _ => trivial
    by_cases hlt : i < ts.length
    · have b1 : decide ((i : Int) < ts.length) = true := decide_eq_true (by omega)
      by_cases h31 : i ≤ 3100
      · have b2 : decide ((i : Int) ≤ 3100) = true := decide_eq_true (by omega)
        obtain ⟨w, x, c, h4, hw4, hx⟩ := hs.at_ hlt
        obtain ⟨s1, s2⟩ := hl.2 _ (getD_mem hlt)
        have hdrop : ts.drop i = ts.getD i default :: ts.drop (i + 1) := by simp [hlt]
        rw [hdrop] at hw
        simp only [wideGo] at hw
        rw [if_pos h31] at hw
        by_cases h40 : (40 : Int) < (ts.getD i default).ex.length
        · have b3 := decide_eq_true h40
          rw [if_pos (by omega)] at hw
          simp -implicitDefEqProofs only [go_sem, hs.len, e1, e3, e4, b1, b2, b3, h4, hx.len, hw4.len, hw]
        · have b3 := decide_eq_false h40
          rw [if_neg (by omega)] at hw
          have w3 : IntKind.wrap .i64 ((i : Int) + 1) = ((i + 1 : Nat) : Int) := wrap_i64 (by omega) (by omega)
          have w4 : IntKind.wrap .i64 (n + ((ts.getD i default).ws.length : Int)) = n + ((ts.getD i default).ws.length : Int) := wrap_i64 (by omega) (by omega)
          simp -implicitDefEqProofs only [go_sem, hs.len, e1, e3, e4, b1, b2, b3, h4, hx.len, hw4.len, w3, w4]
          refine ⟨(i + 1, n + ((ts.getD i default).ws.length : Int)), ⟨by simp only []; omega, by simp only []; omega, by simp only []; omega, ?_, hw, _, _, rfl, rfl, rfl, rfl⟩, by simp only []; omega⟩
          simp only []
          push_cast
          omega
      · have b2 : decide ((i : Int) ≤ 3100) = false := decide_eq_false (by omega)
        have hb4 : decide ((3100 : Int) < ts.length) = true := decide_eq_true (by omega)
        have hd := done (.inr (by omega))
        have hb5 : decide (3100 < ts.length) = true := decide_eq_true (by omega)
        rw [hb5, Bool.or_true] at hd
        by_cases h2 : 20000 < n
        · have b3 := decide_eq_true h2
          simp -implicitDefEqProofs only [go_sem, hs.len, e1, e3, e4, b1, b2, b3, hd]
        · have b3 := decide_eq_false h2
          simp -implicitDefEqProofs only [go_sem, hs.len, e1, e3, e4, b1, b2, b3, hb4, hd]
    · have b1 : decide ((i : Int) < ts.length) = false := decide_eq_false (by omega)
      have hd := done (.inl (by omega))
      by_cases h2 : 20000 < n
      · have b3 := decide_eq_true h2
        rw [b3, Bool.true_or] at hd
        simp -implicitDefEqProofs only [go_sem, hs.len, e1, e3, e4, b1, b3, hd]
      · have b3 := decide_eq_false h2
        rw [b3, Bool.false_or] at hd
        by_cases h5 : 3100 < ts.length
        · have b5 := decide_eq_true h5
          have b6 : decide ((3100 : Int) < ts.length) = true := decide_eq_true (by omega)
          rw [b5] at hd
          simp -implicitDefEqProofs only [go_sem, hs.len, e1, e3, e4, b1, b3, b6, hd]
        · have b5 := decide_eq_false h5
          have b6 : decide ((3100 : Int) < ts.length) = false := decide_eq_false (by omega)
          rw [b5] at hd
          simp -implicitDefEqProofs only [go_sem, hs.len, e1, e3, e4, b1, b3, b6, hd]
  · exact ⟨by simp, by simp, by simp, by simp, rfl, _, [], rfl, rfl, rfl, rfl⟩

/- polynomials that are valid -/
theorem okEx_rep (n : Nat) : okEx (List.replicate n 0) := fun x hx => by rw [List.eq_of_mem_replicate hx]; omega
theorem sum_rep : ∀ n : Nat, (List.replicate n (0 : Int)).sum = 0
  | 0 => rfl
  | n + 1 => by rw [List.replicate_succ, List.sum_cons, sum_rep n]; rfl
theorem const_ok {neg : Bool} {l : List Int} {n : Nat} (h : validB neg l = true) (hn : n ≤ 32) : polyB n (constT neg l n) = true := by
  unfold constT
  split
  · exact polyB_yes (by omega) (by omega) (by simp) (fun i hi => by simp at hi)
  · rename_i h0
    refine polyB_yes (by omega) (by omega) (by simp) (fun i hi => ?_)
    have : i = 0 := by simp at hi; omega
    subst this
    have e : ([⟨neg, l, List.replicate n 0⟩] : List Tm).getD 0 default = ⟨neg, l, List.replicate n 0⟩ := rfl
    have z : ((l.length : Int) == 0) = false := by rw [beq_eq_false_iff_ne]; omega
    simp only [okAt, e, tmB, h, z, List.length_replicate, decide_eq_true (okEx_rep n), sum_rep]
    simp
theorem unit_len (n i : Nat) : (unitL n i).length = n := by simp [unitL]
theorem unit_ex (n i : Nat) : okEx (unitL n i) := by
  intro x hx
  unfold unitL at hx
  rcases List.mem_or_eq_of_mem_set hx with h | h
  · rw [List.eq_of_mem_replicate h]; omega
  · omega
theorem unit_sum : ∀ (n i : Nat), i < n → (unitL n i).sum = 1
  | 0, i, h => by omega
  | n + 1, 0, _ => by simp [unitL, List.replicate_succ, sum_rep]
  | n + 1, i + 1, h => by
    have := unit_sum n i (by omega)
    unfold unitL at this ⊢
    rw [List.replicate_succ, List.set_cons_succ, List.sum_cons, this]; rfl
theorem var_ok {n i : Nat} (hn : n ≤ 32) (hi : i < n) : polyB n [⟨false, [1], unitL n i⟩] = true := by
  refine polyB_yes (by omega) (by omega) (by simp) (fun j hj => ?_)
  have : j = 0 := by simp at hj; omega
  subst this
  have e : ([⟨false, [1], unitL n i⟩] : List Tm).getD 0 default = ⟨false, [1], unitL n i⟩ := rfl
  simp only [okAt, e, tmB, unit_len, decide_eq_true (unit_ex n i), unit_sum n i hi]
  simp [validB]
theorem cmpL_app : ∀ (a b z : List Int), a.length = b.length → cmpL (a ++ z) (b ++ z) = cmpL a b
  | [], [], z, _ => by
    have : ∀ z : List Int, cmpL z z = 0 := by
      intro z
      induction z with
      | nil => rfl
      | cons x z ih => simp only [cmpL, Int.lt_irrefl, if_false]; exact ih
    exact this z
  | x :: a, y :: b, z, h => by
    simp only [List.cons_append, cmpL]
    rw [cmpL_app a b z (by simpa using h)]
  | [], _ :: _, _, h => by simp at h
  | _ :: _, [], _, h => by simp at h
theorem pad_sum (n : Nat) (l : List Int) : (padL n l).sum = l.sum := by unfold padL; rw [List.sum_append, sum_rep]; omega
theorem pad_ord {n : Nat} {a b : List Int} (h : a.length = b.length) : ordR (padL n a) (padL n b) = ordR a b := by
  unfold ordR; rw [pad_sum, pad_sum]; unfold padL; rw [h, cmpL_app _ _ _ h]
theorem pad_ex {n : Nat} {l : List Int} (h : okEx l) : okEx (padL n l) := fun x hx => by
  rcases List.mem_append.1 hx with h' | h'
  · exact h x h'
  · rw [List.eq_of_mem_replicate h']; omega
theorem wid_ok {vars : Int} {n : Nat} {ts : List Tm} (h : polyB vars ts = true) (h1 : vars ≤ n) (h2 : n ≤ 32) : polyB n (ts.map (widT n)) = true := by
  obtain ⟨v1, v2, v3, v4⟩ := polyB_spec h
  refine polyB_yes (by omega) (by omega) (by simpa using v3) (fun i hi => ?_)
  have hi : i < ts.length := by simpa using hi
  have g : ∀ j, j < ts.length → (ts.map (widT n)).getD j default = widT n (ts.getD j default) := fun j hj => by simp [hj]
  have tm : ∀ j, j < ts.length → tmB n (widT n (ts.getD j default)) = true := fun j hj => by
    obtain ⟨a1, a2, a3, a4, a5⟩ := tmB_spec (okAt_tm (v4 j hj))
    generalize ts.getD j default = T at a1 a2 a3 a4 a5 ⊢
    have hp : okEx (padL n T.ex) := pad_ex a4
    simp only [tmB, widT, a1, a2, padL_len (show T.ex.length ≤ n by omega), decide_eq_true hp, pad_sum, decide_eq_true a5]
    simp only [beq_self_eq_true, Bool.not_false, Bool.true_and, Bool.and_true]
    exact decide_eq_true hp
  have h4 := v4 i hi
  simp only [okAt, Bool.and_eq_true, Bool.or_eq_true] at h4 ⊢
  rw [g i hi]
  refine ⟨tm i hi, ?_⟩
  by_cases h0 : i = 0
  · exact .inl (by simpa using h0)
  · rw [g (i - 1) (by omega)]
    refine .inr ?_
    obtain ⟨_, _, a3, _, _⟩ := tmB_spec (okAt_tm (v4 i hi))
    obtain ⟨_, _, b3, _, _⟩ := tmB_spec (okAt_tm (v4 (i - 1) (by omega)))
    simp only [widT]
    rw [pad_ord (by omega)]
    rcases h4.2 with h | h
    · exact absurd (by simpa using h) h0
    · exact h
theorem wid_sane {n : Nat} {ts : List Tm} (hs : Sane ts) (h : ∀ t ∈ ts, t.ex.length ≤ n) (hn : n ≤ 32) : Sane (ts.map (widT n)) := by
  refine ⟨by simpa using hs.1, fun t ht => ?_⟩
  obtain ⟨u, hu, rfl⟩ := List.mem_map.1 ht
  have := (hs.2 u hu).1
  have h2 := padL_len (h u hu)
  exact ⟨this, by simp only [widT]; omega⟩
theorem const_sane {neg : Bool} {l : List Int} {n : Nat} (h : l.length < 140737488355328) (hn : n ≤ 32) : Sane (constT neg l n) := by
  unfold constT
  split
  · exact ⟨by simp, by simp⟩
  · exact ⟨by simp, fun t ht => by simp at ht; subst ht; exact ⟨h, by simp; omega⟩⟩
theorem var_sane {n i : Nat} (hn : n ≤ 32) : Sane [⟨false, [1], unitL n i⟩] := ⟨by simp, fun t ht => by simp at ht; subst ht; exact ⟨by simp, by simp [unit_len]; omega⟩⟩
end Go.AM.R1

/- Parts of a proof. -/
import Derived.Test.YtbkhmflfhgihhaaGreatDoorB3
import Derived.Test.YtbkhmflfhgihhaaGreatDoorB4
set_option linter.all false

set_option linter.unusedSimpArgs false
set_option linter.unusedVariables false
namespace Go.AM.R1
open Go.AM Go.Proofs

theorem p3_wide {vars0 vars i : Int} {ts : List Tm} {s w : AV} {neg : Bool} {l : List Int} (hs : IsTs ts s) (hl : Sane ts) (hw : IsI .u32 l w) (h : wideB ts = true ∨ 5000 < (l.length : Int)) :
    SPF PP G0 3 [.agg [.int .i64 vars0, s], .agg [.bool neg, w], .int .i64 vars, .int .i64 i] (.ret (.bool true)) := by
  refine pf_sound orders is3 3 ?_
  simp -implicitDefEqProofs only [c3, go_sem, hs.parts, hw.parts]
  refine callP_ret (p8 hs hl) (by simp [pureL, AV.pure, hs.pure]) rfl ?_
  cases hwd : wideB ts
  · have h5 : 5000 < (l.length : Int) := by
      rcases h with h | h
      · rw [hwd] at h; cases h
      · exact h
    have b5 : decide ((5000 : Int) < l.length) = true := decide_eq_true h5
    simp -implicitDefEqProofs only [go_sem, hw.len, b5]
    refine callP_ret awake_true rfl rfl ?_
    simp -implicitDefEqProofs only [go_sem]
  · simp -implicitDefEqProofs only [go_sem]
    refine callP_ret awake_true rfl rfl ?_
    simp -implicitDefEqProofs only [go_sem]

theorem p3 {vars0 vars i : Int} {ts : List Tm} {s w : AV} {neg : Bool} {l : List Int} (hs : IsTs ts s) (hl : Sane ts) (hw : IsI .u32 l w) :
    SPF PP G0 3 [.agg [.int .i64 vars0, s], .agg [.bool neg, w], .int .i64 vars, .int .i64 i] (.ret (.bool true)) := by
  by_cases h5 : 5000 < (l.length : Int)
  · exact p3_wide hs hl hw (.inr h5)
  rcases Bool.eq_false_or_eq_true (wideB ts) with hwd | hwd
  · exact p3_wide hs hl hw (.inl hwd)
  have hll : l.length ≤ 5000 := by omega
  have hex : polyB vars0 ts = true → ∀ n : Nat, vars0 ≤ n → ∀ t ∈ ts, t.ex.length ≤ n := by
    intro hp n hn t ht
    obtain ⟨v1, v2, v3, v4⟩ := polyB_spec hp
    obtain ⟨i, hi, rfl⟩ := List.getElem_of_mem ht
    obtain ⟨a1, _, a2, _⟩ := tmB_spec (okAt_tm (v4 i hi))
    have e : ts.getD i default = ts[i] := by simp [hi]
    rw [e] at a2
    omega
  rcases Bool.eq_false_or_eq_true (validB neg l) with hv | hv
  · by_cases hm : 0 ≤ vars ∧ vars ≤ 32
    · obtain ⟨n, rfl⟩ : ∃ n : Nat, vars = n := ⟨vars.toNat, by omega⟩
      have hn : n ≤ 32 := by omega
      by_cases hi : 0 ≤ i ∧ i < (n : Int)
      · obtain ⟨j, rfl⟩ : ∃ j : Nat, i = j := ⟨i.toNat, by omega⟩
        have hj : j < n := by omega
        rcases Bool.eq_false_or_eq_true (polyB vars0 ts) with hp | hp
        · by_cases hlt : (n : Int) < vars0
          · exact leaf_val_yes_in_lt hs hl hw hll hwd hv hn hj hp hlt
          · exact leaf_val_yes_in_ge hs hl hw hll hwd hv hn hj hp (by omega) (hex hp n (by omega))
        · exact leaf_val_yes_in_F hs hl hw hll hwd hv hn hj hp
      · rcases Bool.eq_false_or_eq_true (polyB vars0 ts) with hp | hp
        · by_cases hlt : (n : Int) < vars0
          · exact leaf_val_yes_out_lt hs hl hw hll hwd hv hn hi hp hlt
          · exact leaf_val_yes_out_ge hs hl hw hll hwd hv hn hi hp (by omega) (hex hp n (by omega))
        · exact leaf_val_yes_out_F hs hl hw hll hwd hv hn hi hp
    · rcases Bool.eq_false_or_eq_true (polyB vars0 ts) with hp | hp
      · exact leaf_val_no_x_T hs hl hw hll hwd hv hm hp
      · exact leaf_val_no_x_F hs hl hw hll hwd hv hm hp
  · by_cases hm : 0 ≤ vars ∧ vars ≤ 32
    · obtain ⟨n, rfl⟩ : ∃ n : Nat, vars = n := ⟨vars.toNat, by omega⟩
      have hn : n ≤ 32 := by omega
      by_cases hi : 0 ≤ i ∧ i < (n : Int)
      · obtain ⟨j, rfl⟩ : ∃ j : Nat, i = j := ⟨i.toNat, by omega⟩
        have hj : j < n := by omega
        rcases Bool.eq_false_or_eq_true (polyB vars0 ts) with hp | hp
        · by_cases hlt : (n : Int) < vars0
          · exact leaf_inv_yes_in_lt hs hl hw hll hwd hv hn hj hp hlt
          · exact leaf_inv_yes_in_ge hs hl hw hll hwd hv hn hj hp (by omega) (hex hp n (by omega))
        · exact leaf_inv_yes_in_F hs hl hw hll hwd hv hn hj hp
      · rcases Bool.eq_false_or_eq_true (polyB vars0 ts) with hp | hp
        · by_cases hlt : (n : Int) < vars0
          · exact leaf_inv_yes_out_lt hs hl hw hll hwd hv hn hi hp hlt
          · exact leaf_inv_yes_out_ge hs hl hw hll hwd hv hn hi hp (by omega) (hex hp n (by omega))
        · exact leaf_inv_yes_out_F hs hl hw hll hwd hv hn hi hp
    · rcases Bool.eq_false_or_eq_true (polyB vars0 ts) with hp | hp
      · exact leaf_inv_no_x_T hs hl hw hll hwd hv hm hp
      · exact leaf_inv_no_x_F hs hl hw hll hwd hv hm hp

/- from data to terms -/
def polyT : TD := .struct [.int .i64, .slice (.struct [.struct [.bool, .slice (.int .u32)], .slice (.int .i64)])]
def intT : TD := .struct [.bool, .slice (.int .u32)]

theorem ints_fit {k : IntKind} : ∀ {ch : List (List AV)}, (∀ c ∈ ch, (TD.int k).Fits c) → ∃ l : List Int, ch.flatten = l.map (.int k) ∧ l.length = ch.length
  | [], _ => ⟨[], rfl, rfl⟩
  | c :: ch, h => by
    obtain ⟨l, h1, h2⟩ := ints_fit fun c hc => h c (List.mem_cons_of_mem _ hc)
    obtain ⟨n, rfl, _⟩ := h c List.mem_cons_self
    exact ⟨n :: l, by simp [h1], by simp [h2]⟩
theorem slice_fit {k : IntKind} {l : List AV} (h : (TD.slice (.int k)).Fits l) : ∃ v xs, l = [v] ∧ IsI k xs v ∧ xs.length < 140737488355328 := by
  rcases h with rfl | ⟨ch, rfl, h1, h2⟩
  · exact ⟨_, [], rfl, .nsl, by simp⟩
  · obtain ⟨xs, h3, h4⟩ := ints_fit h1
    exact ⟨_, xs, rfl, ⟨.inr (by rw [h3, h4])⟩, by omega⟩
theorem int_fit {l : List AV} (h : TD.FitsL [.bool, .slice (.int .u32)] l) : ∃ b v xs, l = [.bool b, v] ∧ IsI .u32 xs v ∧ xs.length < 140737488355328 := by
  obtain ⟨a, r, rfl, ⟨b, rfl⟩, c, d, rfl, h1, rfl⟩ := h
  obtain ⟨v, xs, rfl, h2, h3⟩ := slice_fit h1
  exact ⟨b, v, xs, rfl, h2, h3⟩
theorem terms_fit : ∀ {ch : List (List AV)}, (∀ c ∈ ch, (TD.struct [.struct [.bool, .slice (.int .u32)], .slice (.int .i64)]).Fits c) → ∃ ts : List Tm, TsCells ts ch.flatten ∧ ts.length = ch.length ∧ ∀ t ∈ ts, t.ws.length < 140737488355328 ∧ t.ex.length < 140737488355328
  | [], _ => ⟨[], rfl, rfl, by simp⟩
  | c :: ch, h => by
    obtain ⟨ts, h1, h2, h3⟩ := terms_fit fun c hc => h c (List.mem_cons_of_mem _ hc)
    obtain ⟨a, r, rfl, ha, d, e, rfl, hd, rfl⟩ := h c List.mem_cons_self
    obtain ⟨b, v, xs, rfl, g1, g2⟩ := int_fit ha
    obtain ⟨u, ys, rfl, g3, g4⟩ := slice_fit hd
    refine ⟨⟨b, xs, ys⟩ :: ts, ⟨v, u, _, rfl, g1, g3, h1⟩, by simp [h2], fun t ht => ?_⟩
    rcases List.mem_cons.1 ht with rfl | ht
    · exact ⟨g2, g4⟩
    · exact h3 t ht
theorem poly_fit {v : AV} (h : polyT.Val v) : ∃ vars s ts, v = .agg [.int .i64 vars, s] ∧ IsTs ts s ∧ Sane ts := by
  obtain ⟨l, rfl, a, r, rfl, ⟨vars, rfl, _⟩, c, d, rfl, hc, rfl⟩ := h
  rcases hc with rfl | ⟨ch, rfl, h1, h2⟩
  · exact ⟨vars, .nsl, [], rfl, .nsl, by simp, by simp⟩
  · obtain ⟨ts, g1, g2, g3⟩ := terms_fit h1
    exact ⟨vars, _, ts, rfl, ⟨.inr ⟨_, by rw [g2], g1⟩⟩, by omega, g3⟩
theorem num_fit {v : AV} (h : intT.Val v) : ∃ neg w l, v = .agg [.bool neg, w] ∧ IsI .u32 l w ∧ l.length < 140737488355328 := by
  obtain ⟨l, rfl, h⟩ := h
  obtain ⟨b, v, xs, rfl, h1, h2⟩ := int_fit h
  exact ⟨b, v, xs, rfl, h1, h2⟩

theorem parts_main (avs : List AV) (h : TD.ValL [polyT, intT, .int .i64, .int .i64] avs) : SPF Tryz.prog (fun _ => none) 3 avs (.ret (.bool true)) := by
  obtain ⟨a, r, rfl, ha, b, r2, rfl, hb, c, r3, rfl, hc, d, r4, rfl, hd, rfl⟩ := h
  obtain ⟨vars0, s, ts, rfl, h1, h2⟩ := poly_fit ha
  obtain ⟨neg, w, l, rfl, h3, h4⟩ := num_fit hb
  obtain ⟨x, hx, _⟩ := hc
  obtain ⟨y, hy, _⟩ := hd
  injection hx with hx _
  injection hy with hy _
  subst hx; subst hy
  exact p3 h1 h2 h3
end Go.AM.R1

/- Parts of a proof. -/
import Derived.Test.YtbkhmflfhgihhaaGreatDoorB3
set_option linter.all false

set_option linter.unusedSimpArgs false
set_option linter.unusedVariables false
namespace Go.AM.R1
open Go.AM Go.Proofs

theorem leaf_val_yes_in_F {vars0 : Int} {ts : List Tm} {s w : AV} {neg : Bool} {l : List Int} {n : Nat} {j : Nat} (hs : IsTs ts s) (hl : Sane ts) (hw : IsI .u32 l w) (hll : l.length ≤ 5000) (hwd : wideB ts = false) (hv : validB neg l = true) (hn : n ≤ 32) (hj : j < n) (hp : polyB vars0 ts = false) :
    SPF PP G0 3 [.agg [.int .i64 vars0, s], .agg [.bool neg, w], .int .i64 (n : Int), .int .i64 (j : Int)] (.ret (.bool true)) := by
  refine pf_sound orders is3 3 ?_
  have b5 : decide ((5000 : Int) < l.length) = false := decide_eq_false (by omega)
  have h10 := p10 (neg := neg) (vars := (n : Int)) hw
  rw [hv] at h10
  simp only [if_true] at h10
  rw [if_pos (by omega), Int.toNat_natCast] at h10
  have h11 := p11 (vars := (n : Int)) (i := (j : Int))
  rw [if_pos (by omega), Int.toNat_natCast, Int.toNat_natCast] at h11
  have h12 := p12 (vars0 := vars0) (vars := (n : Int)) hs hl
  rw [hp] at h12
  simp only [Bool.false_eq_true, if_false] at h12
  have bm1 : decide ((0 : Int) ≤ (n : Int)) = true := decide_eq_true (by omega)
  have bm2 : decide ((n : Int) ≤ 32) = true := decide_eq_true (by omega)
  have bi1 : decide ((j : Int) < 0) = false := decide_eq_false (by omega)
  have bi2 : decide ((n : Int) ≤ (j : Int)) = false := decide_eq_false (by omega)
  simp -implicitDefEqProofs only [c3, go_sem, b5, zeroP, hs.parts, hw.parts, (constV_is neg l n).parts, (constV_is neg l n).solid, (varV_is n j).parts, (varV_is n j).solid, bm1, bm2, bi1, bi2]
  refine callP_ret (p8 hs hl) (by simp [pureL, AV.pure, zeroP, hs.pure, hw.pure, (constV_is neg l n).pure, (constR_is (neg := neg) hw n).pure, (varV_is n j).pure]) rfl ?_
  simp -implicitDefEqProofs only [hwd, hw.len, go_sem, b5, zeroP, hs.parts, hw.parts, (constV_is neg l n).parts, (constV_is neg l n).solid, (varV_is n j).parts, (varV_is n j).solid, bm1, bm2, bi1, bi2]
  refine callP_ret h10 (by simp [pureL, AV.pure, zeroP, hs.pure, hw.pure, (constV_is neg l n).pure, (constR_is (neg := neg) hw n).pure, (varV_is n j).pure]) (by simp [pureL, AV.pure, zeroP, hs.pure, hw.pure, (constV_is neg l n).pure, (constR_is (neg := neg) hw n).pure, (varV_is n j).pure]) ?_
  simp -implicitDefEqProofs only [go_sem, b5, zeroP, hs.parts, hw.parts, (constV_is neg l n).parts, (constV_is neg l n).solid, (varV_is n j).parts, (varV_is n j).solid, bm1, bm2, bi1, bi2]
  refine callP_ret h11 (by simp [pureL, AV.pure, zeroP, hs.pure, hw.pure, (constV_is neg l n).pure, (constR_is (neg := neg) hw n).pure, (varV_is n j).pure]) (by simp [pureL, AV.pure, zeroP, hs.pure, hw.pure, (constV_is neg l n).pure, (constR_is (neg := neg) hw n).pure, (varV_is n j).pure]) ?_
  simp -implicitDefEqProofs only [go_sem, b5, zeroP, hs.parts, hw.parts, (constV_is neg l n).parts, (constV_is neg l n).solid, (varV_is n j).parts, (varV_is n j).solid, bm1, bm2, bi1, bi2]
  refine callP_ret h12 (by simp [pureL, AV.pure, zeroP, hs.pure, hw.pure, (constV_is neg l n).pure, (constR_is (neg := neg) hw n).pure, (varV_is n j).pure]) (by simp [pureL, AV.pure, zeroP, hs.pure, hw.pure, (constV_is neg l n).pure, (constR_is (neg := neg) hw n).pure, (varV_is n j).pure]) ?_
  simp -implicitDefEqProofs only [go_sem, b5, zeroP, hs.parts, hw.parts, (constV_is neg l n).parts, (constV_is neg l n).solid, (varV_is n j).parts, (varV_is n j).solid, bm1, bm2, bi1, bi2]
  refine callP_ret (p13 hw) (by simp [pureL, AV.pure, zeroP, hs.pure, hw.pure, (constV_is neg l n).pure, (constR_is (neg := neg) hw n).pure, (varV_is n j).pure]) rfl ?_
  simp -implicitDefEqProofs only [hv, go_sem, b5, zeroP, hs.parts, hw.parts, (constV_is neg l n).parts, (constV_is neg l n).solid, (varV_is n j).parts, (varV_is n j).solid, bm1, bm2, bi1, bi2]
  refine callP_ret (p16 (neg := neg) hw hn) (by simp [pureL, AV.pure, zeroP, hs.pure, hw.pure, (constV_is neg l n).pure, (constR_is (neg := neg) hw n).pure, (varV_is n j).pure]) (by simp [pureL, AV.pure, zeroP, hs.pure, hw.pure, (constV_is neg l n).pure, (constR_is (neg := neg) hw n).pure, (varV_is n j).pure]) ?_
  simp -implicitDefEqProofs only [go_sem, b5, zeroP, hs.parts, hw.parts, (constV_is neg l n).parts, (constV_is neg l n).solid, (varV_is n j).parts, (varV_is n j).solid, bm1, bm2, bi1, bi2]
  refine callP_ret (p15 (free := false) (constV_is neg l n) (constR_is (neg := neg) hw n) (const_sane (by omega) hn) (const_ok hv hn)) (by simp [pureL, AV.pure, zeroP, hs.pure, hw.pure, (constV_is neg l n).pure, (constR_is (neg := neg) hw n).pure, (varV_is n j).pure]) (by simp [pureL, AV.pure, zeroP, hs.pure, hw.pure, (constV_is neg l n).pure, (constR_is (neg := neg) hw n).pure, (varV_is n j).pure]) ?_
  simp -implicitDefEqProofs only [go_sem, b5, zeroP, hs.parts, hw.parts, (constV_is neg l n).parts, (constV_is neg l n).solid, (varV_is n j).parts, (varV_is n j).solid, bm1, bm2, bi1, bi2]
  refine callP_ret (p17 hn hj) (by simp [pureL, AV.pure, zeroP, hs.pure, hw.pure, (constV_is neg l n).pure, (constR_is (neg := neg) hw n).pure, (varV_is n j).pure]) (by simp [pureL, AV.pure, zeroP, hs.pure, hw.pure, (constV_is neg l n).pure, (constR_is (neg := neg) hw n).pure, (varV_is n j).pure]) ?_
  simp -implicitDefEqProofs only [go_sem, b5, zeroP, hs.parts, hw.parts, (constV_is neg l n).parts, (constV_is neg l n).solid, (varV_is n j).parts, (varV_is n j).solid, bm1, bm2, bi1, bi2]
  refine callP_ret (p15 (free := false) (varV_is n j) (varV_is n j) (var_sane hn) (var_ok hn hj)) (by simp [pureL, AV.pure, zeroP, hs.pure, hw.pure, (constV_is neg l n).pure, (constR_is (neg := neg) hw n).pure, (varV_is n j).pure]) (by simp [pureL, AV.pure, zeroP, hs.pure, hw.pure, (constV_is neg l n).pure, (constR_is (neg := neg) hw n).pure, (varV_is n j).pure]) ?_
  simp -implicitDefEqProofs only [go_sem, b5, zeroP, hs.parts, hw.parts, (constV_is neg l n).parts, (constV_is neg l n).solid, (varV_is n j).parts, (varV_is n j).solid, bm1, bm2, bi1, bi2]
  refine callP_ret (p18 hs hl) (by simp [pureL, AV.pure, zeroP, hs.pure, hw.pure, (constV_is neg l n).pure, (constR_is (neg := neg) hw n).pure, (varV_is n j).pure]) rfl ?_
  simp -implicitDefEqProofs only [hp, go_sem, b5, zeroP, hs.parts, hw.parts, (constV_is neg l n).parts, (constV_is neg l n).solid, (varV_is n j).parts, (varV_is n j).solid, bm1, bm2, bi1, bi2]
  refine callP_ret (p14 (v := .nsl) .nsl) (by simp [pureL, AV.pure, zeroP, hs.pure, hw.pure, (constV_is neg l n).pure, (constR_is (neg := neg) hw n).pure, (varV_is n j).pure]) (by simp [pureL, AV.pure, zeroP, hs.pure, hw.pure, (constV_is neg l n).pure, (constR_is (neg := neg) hw n).pure, (varV_is n j).pure]) ?_
  simp -implicitDefEqProofs only [go_sem, b5, zeroP, hs.parts, hw.parts, (constV_is neg l n).parts, (constV_is neg l n).solid, (varV_is n j).parts, (varV_is n j).solid, bm1, bm2, bi1, bi2]
  refine callP_ret awake_true (by simp [pureL, AV.pure, zeroP, hs.pure, hw.pure, (constV_is neg l n).pure, (constR_is (neg := neg) hw n).pure, (varV_is n j).pure]) rfl ?_
  simp -implicitDefEqProofs only [go_sem, b5, zeroP, hs.parts, hw.parts, (constV_is neg l n).parts, (constV_is neg l n).solid, (varV_is n j).parts, (varV_is n j).solid, bm1, bm2, bi1, bi2]

theorem leaf_val_yes_in_lt {vars0 : Int} {ts : List Tm} {s w : AV} {neg : Bool} {l : List Int} {n : Nat} {j : Nat} (hs : IsTs ts s) (hl : Sane ts) (hw : IsI .u32 l w) (hll : l.length ≤ 5000) (hwd : wideB ts = false) (hv : validB neg l = true) (hn : n ≤ 32) (hj : j < n) (hp : polyB vars0 ts = true) (hlt : (n : Int) < vars0) :
    SPF PP G0 3 [.agg [.int .i64 vars0, s], .agg [.bool neg, w], .int .i64 (n : Int), .int .i64 (j : Int)] (.ret (.bool true)) := by
  refine pf_sound orders is3 3 ?_
  have b5 : decide ((5000 : Int) < l.length) = false := decide_eq_false (by omega)
  have h10 := p10 (neg := neg) (vars := (n : Int)) hw
  rw [hv] at h10
  simp only [if_true] at h10
  rw [if_pos (by omega), Int.toNat_natCast] at h10
  have h11 := p11 (vars := (n : Int)) (i := (j : Int))
  rw [if_pos (by omega), Int.toNat_natCast, Int.toNat_natCast] at h11
  have h12 := p12 (vars0 := vars0) (vars := (n : Int)) hs hl
  rw [hp] at h12
  simp only [if_true] at h12
  rw [if_neg (by omega)] at h12
  have bm1 : decide ((0 : Int) ≤ (n : Int)) = true := decide_eq_true (by omega)
  have bm2 : decide ((n : Int) ≤ 32) = true := decide_eq_true (by omega)
  have bi1 : decide ((j : Int) < 0) = false := decide_eq_false (by omega)
  have bi2 : decide ((n : Int) ≤ (j : Int)) = false := decide_eq_false (by omega)
  have bl : decide ((n : Int) < vars0) = true := decide_eq_true (by omega)
  simp -implicitDefEqProofs only [c3, go_sem, b5, zeroP, hs.parts, hw.parts, (constV_is neg l n).parts, (constV_is neg l n).solid, (varV_is n j).parts, (varV_is n j).solid, bm1, bm2, bi1, bi2, bl]
  refine callP_ret (p8 hs hl) (by simp [pureL, AV.pure, zeroP, hs.pure, hw.pure, (constV_is neg l n).pure, (constR_is (neg := neg) hw n).pure, (varV_is n j).pure]) rfl ?_
  simp -implicitDefEqProofs only [hwd, hw.len, go_sem, b5, zeroP, hs.parts, hw.parts, (constV_is neg l n).parts, (constV_is neg l n).solid, (varV_is n j).parts, (varV_is n j).solid, bm1, bm2, bi1, bi2, bl]
  refine callP_ret h10 (by simp [pureL, AV.pure, zeroP, hs.pure, hw.pure, (constV_is neg l n).pure, (constR_is (neg := neg) hw n).pure, (varV_is n j).pure]) (by simp [pureL, AV.pure, zeroP, hs.pure, hw.pure, (constV_is neg l n).pure, (constR_is (neg := neg) hw n).pure, (varV_is n j).pure]) ?_
  simp -implicitDefEqProofs only [go_sem, b5, zeroP, hs.parts, hw.parts, (constV_is neg l n).parts, (constV_is neg l n).solid, (varV_is n j).parts, (varV_is n j).solid, bm1, bm2, bi1, bi2, bl]
  refine callP_ret h11 (by simp [pureL, AV.pure, zeroP, hs.pure, hw.pure, (constV_is neg l n).pure, (constR_is (neg := neg) hw n).pure, (varV_is n j).pure]) (by simp [pureL, AV.pure, zeroP, hs.pure, hw.pure, (constV_is neg l n).pure, (constR_is (neg := neg) hw n).pure, (varV_is n j).pure]) ?_
  simp -implicitDefEqProofs only [go_sem, b5, zeroP, hs.parts, hw.parts, (constV_is neg l n).parts, (constV_is neg l n).solid, (varV_is n j).parts, (varV_is n j).solid, bm1, bm2, bi1, bi2, bl]
  refine callP_ret h12 (by simp [pureL, AV.pure, zeroP, hs.pure, hw.pure, (constV_is neg l n).pure, (constR_is (neg := neg) hw n).pure, (varV_is n j).pure]) (by simp [pureL, AV.pure, zeroP, hs.pure, hw.pure, (constV_is neg l n).pure, (constR_is (neg := neg) hw n).pure, (varV_is n j).pure]) ?_
  simp -implicitDefEqProofs only [go_sem, b5, zeroP, hs.parts, hw.parts, (constV_is neg l n).parts, (constV_is neg l n).solid, (varV_is n j).parts, (varV_is n j).solid, bm1, bm2, bi1, bi2, bl]
  refine callP_ret (p13 hw) (by simp [pureL, AV.pure, zeroP, hs.pure, hw.pure, (constV_is neg l n).pure, (constR_is (neg := neg) hw n).pure, (varV_is n j).pure]) rfl ?_
  simp -implicitDefEqProofs only [hv, go_sem, b5, zeroP, hs.parts, hw.parts, (constV_is neg l n).parts, (constV_is neg l n).solid, (varV_is n j).parts, (varV_is n j).solid, bm1, bm2, bi1, bi2, bl]
  refine callP_ret (p16 (neg := neg) hw hn) (by simp [pureL, AV.pure, zeroP, hs.pure, hw.pure, (constV_is neg l n).pure, (constR_is (neg := neg) hw n).pure, (varV_is n j).pure]) (by simp [pureL, AV.pure, zeroP, hs.pure, hw.pure, (constV_is neg l n).pure, (constR_is (neg := neg) hw n).pure, (varV_is n j).pure]) ?_
  simp -implicitDefEqProofs only [go_sem, b5, zeroP, hs.parts, hw.parts, (constV_is neg l n).parts, (constV_is neg l n).solid, (varV_is n j).parts, (varV_is n j).solid, bm1, bm2, bi1, bi2, bl]
  refine callP_ret (p15 (free := false) (constV_is neg l n) (constR_is (neg := neg) hw n) (const_sane (by omega) hn) (const_ok hv hn)) (by simp [pureL, AV.pure, zeroP, hs.pure, hw.pure, (constV_is neg l n).pure, (constR_is (neg := neg) hw n).pure, (varV_is n j).pure]) (by simp [pureL, AV.pure, zeroP, hs.pure, hw.pure, (constV_is neg l n).pure, (constR_is (neg := neg) hw n).pure, (varV_is n j).pure]) ?_
  simp -implicitDefEqProofs only [go_sem, b5, zeroP, hs.parts, hw.parts, (constV_is neg l n).parts, (constV_is neg l n).solid, (varV_is n j).parts, (varV_is n j).solid, bm1, bm2, bi1, bi2, bl]
  refine callP_ret (p17 hn hj) (by simp [pureL, AV.pure, zeroP, hs.pure, hw.pure, (constV_is neg l n).pure, (constR_is (neg := neg) hw n).pure, (varV_is n j).pure]) (by simp [pureL, AV.pure, zeroP, hs.pure, hw.pure, (constV_is neg l n).pure, (constR_is (neg := neg) hw n).pure, (varV_is n j).pure]) ?_
  simp -implicitDefEqProofs only [go_sem, b5, zeroP, hs.parts, hw.parts, (constV_is neg l n).parts, (constV_is neg l n).solid, (varV_is n j).parts, (varV_is n j).solid, bm1, bm2, bi1, bi2, bl]
  refine callP_ret (p15 (free := false) (varV_is n j) (varV_is n j) (var_sane hn) (var_ok hn hj)) (by simp [pureL, AV.pure, zeroP, hs.pure, hw.pure, (constV_is neg l n).pure, (constR_is (neg := neg) hw n).pure, (varV_is n j).pure]) (by simp [pureL, AV.pure, zeroP, hs.pure, hw.pure, (constV_is neg l n).pure, (constR_is (neg := neg) hw n).pure, (varV_is n j).pure]) ?_
  simp -implicitDefEqProofs only [go_sem, b5, zeroP, hs.parts, hw.parts, (constV_is neg l n).parts, (constV_is neg l n).solid, (varV_is n j).parts, (varV_is n j).solid, bm1, bm2, bi1, bi2, bl]
  refine callP_ret (p18 hs hl) (by simp [pureL, AV.pure, zeroP, hs.pure, hw.pure, (constV_is neg l n).pure, (constR_is (neg := neg) hw n).pure, (varV_is n j).pure]) rfl ?_
  simp -implicitDefEqProofs only [hp, go_sem, b5, zeroP, hs.parts, hw.parts, (constV_is neg l n).parts, (constV_is neg l n).solid, (varV_is n j).parts, (varV_is n j).solid, bm1, bm2, bi1, bi2, bl]
  refine callP_ret (p14 (v := .nsl) .nsl) (by simp [pureL, AV.pure, zeroP, hs.pure, hw.pure, (constV_is neg l n).pure, (constR_is (neg := neg) hw n).pure, (varV_is n j).pure]) (by simp [pureL, AV.pure, zeroP, hs.pure, hw.pure, (constV_is neg l n).pure, (constR_is (neg := neg) hw n).pure, (varV_is n j).pure]) ?_
  simp -implicitDefEqProofs only [go_sem, b5, zeroP, hs.parts, hw.parts, (constV_is neg l n).parts, (constV_is neg l n).solid, (varV_is n j).parts, (varV_is n j).solid, bm1, bm2, bi1, bi2, bl]
  refine callP_ret awake_true (by simp [pureL, AV.pure, zeroP, hs.pure, hw.pure, (constV_is neg l n).pure, (constR_is (neg := neg) hw n).pure, (varV_is n j).pure]) rfl ?_
  simp -implicitDefEqProofs only [go_sem, b5, zeroP, hs.parts, hw.parts, (constV_is neg l n).parts, (constV_is neg l n).solid, (varV_is n j).parts, (varV_is n j).solid, bm1, bm2, bi1, bi2, bl]

theorem leaf_val_yes_in_ge {vars0 : Int} {ts : List Tm} {s w : AV} {neg : Bool} {l : List Int} {n : Nat} {j : Nat} (hs : IsTs ts s) (hl : Sane ts) (hw : IsI .u32 l w) (hll : l.length ≤ 5000) (hwd : wideB ts = false) (hv : validB neg l = true) (hn : n ≤ 32) (hj : j < n) (hp : polyB vars0 ts = true) (hge : vars0 ≤ (n : Int)) (hx : ∀ t ∈ ts, t.ex.length ≤ n) :
    SPF PP G0 3 [.agg [.int .i64 vars0, s], .agg [.bool neg, w], .int .i64 (n : Int), .int .i64 (j : Int)] (.ret (.bool true)) := by
  refine pf_sound orders is3 3 ?_
  have b5 : decide ((5000 : Int) < l.length) = false := decide_eq_false (by omega)
  have h10 := p10 (neg := neg) (vars := (n : Int)) hw
  rw [hv] at h10
  simp only [if_true] at h10
  rw [if_pos (by omega), Int.toNat_natCast] at h10
  have h11 := p11 (vars := (n : Int)) (i := (j : Int))
  rw [if_pos (by omega), Int.toNat_natCast, Int.toNat_natCast] at h11
  have h12 := p12 (vars0 := vars0) (vars := (n : Int)) hs hl
  rw [hp] at h12
  simp only [if_true] at h12
  rw [if_pos (by omega), Int.toNat_natCast] at h12
  have bm1 : decide ((0 : Int) ≤ (n : Int)) = true := decide_eq_true (by omega)
  have bm2 : decide ((n : Int) ≤ 32) = true := decide_eq_true (by omega)
  have bi1 : decide ((j : Int) < 0) = false := decide_eq_false (by omega)
  have bi2 : decide ((n : Int) ≤ (j : Int)) = false := decide_eq_false (by omega)
  have bl : decide ((n : Int) < vars0) = false := decide_eq_false (by omega)
  simp -implicitDefEqProofs only [c3, go_sem, b5, zeroP, hs.parts, hw.parts, (constV_is neg l n).parts, (constV_is neg l n).solid, (varV_is n j).parts, (varV_is n j).solid, (widP_is hx).parts, (widP_is hx).solid, bm1, bm2, bi1, bi2, bl]
  refine callP_ret (p8 hs hl) (by simp [pureL, AV.pure, zeroP, hs.pure, hw.pure, (constV_is neg l n).pure, (constR_is (neg := neg) hw n).pure, (varV_is n j).pure, (widP_is hx).pure, (widR_is hs hx).pure]) rfl ?_
  simp -implicitDefEqProofs only [hwd, hw.len, go_sem, b5, zeroP, hs.parts, hw.parts, (constV_is neg l n).parts, (constV_is neg l n).solid, (varV_is n j).parts, (varV_is n j).solid, (widP_is hx).parts, (widP_is hx).solid, bm1, bm2, bi1, bi2, bl]
  refine callP_ret h10 (by simp [pureL, AV.pure, zeroP, hs.pure, hw.pure, (constV_is neg l n).pure, (constR_is (neg := neg) hw n).pure, (varV_is n j).pure, (widP_is hx).pure, (widR_is hs hx).pure]) (by simp [pureL, AV.pure, zeroP, hs.pure, hw.pure, (constV_is neg l n).pure, (constR_is (neg := neg) hw n).pure, (varV_is n j).pure, (widP_is hx).pure, (widR_is hs hx).pure]) ?_
  simp -implicitDefEqProofs only [go_sem, b5, zeroP, hs.parts, hw.parts, (constV_is neg l n).parts, (constV_is neg l n).solid, (varV_is n j).parts, (varV_is n j).solid, (widP_is hx).parts, (widP_is hx).solid, bm1, bm2, bi1, bi2, bl]
  refine callP_ret h11 (by simp [pureL, AV.pure, zeroP, hs.pure, hw.pure, (constV_is neg l n).pure, (constR_is (neg := neg) hw n).pure, (varV_is n j).pure, (widP_is hx).pure, (widR_is hs hx).pure]) (by simp [pureL, AV.pure, zeroP, hs.pure, hw.pure, (constV_is neg l n).pure, (constR_is (neg := neg) hw n).pure, (varV_is n j).pure, (widP_is hx).pure, (widR_is hs hx).pure]) ?_
  simp -implicitDefEqProofs only [go_sem, b5, zeroP, hs.parts, hw.parts, (constV_is neg l n).parts, (constV_is neg l n).solid, (varV_is n j).parts, (varV_is n j).solid, (widP_is hx).parts, (widP_is hx).solid, bm1, bm2, bi1, bi2, bl]
  refine callP_ret h12 (by simp [pureL, AV.pure, zeroP, hs.pure, hw.pure, (constV_is neg l n).pure, (constR_is (neg := neg) hw n).pure, (varV_is n j).pure, (widP_is hx).pure, (widR_is hs hx).pure]) (by simp [pureL, AV.pure, zeroP, hs.pure, hw.pure, (constV_is neg l n).pure, (constR_is (neg := neg) hw n).pure, (varV_is n j).pure, (widP_is hx).pure, (widR_is hs hx).pure]) ?_
  simp -implicitDefEqProofs only [go_sem, b5, zeroP, hs.parts, hw.parts, (constV_is neg l n).parts, (constV_is neg l n).solid, (varV_is n j).parts, (varV_is n j).solid, (widP_is hx).parts, (widP_is hx).solid, bm1, bm2, bi1, bi2, bl]
  refine callP_ret (p13 hw) (by simp [pureL, AV.pure, zeroP, hs.pure, hw.pure, (constV_is neg l n).pure, (constR_is (neg := neg) hw n).pure, (varV_is n j).pure, (widP_is hx).pure, (widR_is hs hx).pure]) rfl ?_
  simp -implicitDefEqProofs only [hv, go_sem, b5, zeroP, hs.parts, hw.parts, (constV_is neg l n).parts, (constV_is neg l n).solid, (varV_is n j).parts, (varV_is n j).solid, (widP_is hx).parts, (widP_is hx).solid, bm1, bm2, bi1, bi2, bl]
  refine callP_ret (p16 (neg := neg) hw hn) (by simp [pureL, AV.pure, zeroP, hs.pure, hw.pure, (constV_is neg l n).pure, (constR_is (neg := neg) hw n).pure, (varV_is n j).pure, (widP_is hx).pure, (widR_is hs hx).pure]) (by simp [pureL, AV.pure, zeroP, hs.pure, hw.pure, (constV_is neg l n).pure, (constR_is (neg := neg) hw n).pure, (varV_is n j).pure, (widP_is hx).pure, (widR_is hs hx).pure]) ?_
  simp -implicitDefEqProofs only [go_sem, b5, zeroP, hs.parts, hw.parts, (constV_is neg l n).parts, (constV_is neg l n).solid, (varV_is n j).parts, (varV_is n j).solid, (widP_is hx).parts, (widP_is hx).solid, bm1, bm2, bi1, bi2, bl]
  refine callP_ret (p15 (free := false) (constV_is neg l n) (constR_is (neg := neg) hw n) (const_sane (by omega) hn) (const_ok hv hn)) (by simp [pureL, AV.pure, zeroP, hs.pure, hw.pure, (constV_is neg l n).pure, (constR_is (neg := neg) hw n).pure, (varV_is n j).pure, (widP_is hx).pure, (widR_is hs hx).pure]) (by simp [pureL, AV.pure, zeroP, hs.pure, hw.pure, (constV_is neg l n).pure, (constR_is (neg := neg) hw n).pure, (varV_is n j).pure, (widP_is hx).pure, (widR_is hs hx).pure]) ?_
  simp -implicitDefEqProofs only [go_sem, b5, zeroP, hs.parts, hw.parts, (constV_is neg l n).parts, (constV_is neg l n).solid, (varV_is n j).parts, (varV_is n j).solid, (widP_is hx).parts, (widP_is hx).solid, bm1, bm2, bi1, bi2, bl]
  refine callP_ret (p17 hn hj) (by simp [pureL, AV.pure, zeroP, hs.pure, hw.pure, (constV_is neg l n).pure, (constR_is (neg := neg) hw n).pure, (varV_is n j).pure, (widP_is hx).pure, (widR_is hs hx).pure]) (by simp [pureL, AV.pure, zeroP, hs.pure, hw.pure, (constV_is neg l n).pure, (constR_is (neg := neg) hw n).pure, (varV_is n j).pure, (widP_is hx).pure, (widR_is hs hx).pure]) ?_
  simp -implicitDefEqProofs only [go_sem, b5, zeroP, hs.parts, hw.parts, (constV_is neg l n).parts, (constV_is neg l n).solid, (varV_is n j).parts, (varV_is n j).solid, (widP_is hx).parts, (widP_is hx).solid, bm1, bm2, bi1, bi2, bl]
  refine callP_ret (p15 (free := false) (varV_is n j) (varV_is n j) (var_sane hn) (var_ok hn hj)) (by simp [pureL, AV.pure, zeroP, hs.pure, hw.pure, (constV_is neg l n).pure, (constR_is (neg := neg) hw n).pure, (varV_is n j).pure, (widP_is hx).pure, (widR_is hs hx).pure]) (by simp [pureL, AV.pure, zeroP, hs.pure, hw.pure, (constV_is neg l n).pure, (constR_is (neg := neg) hw n).pure, (varV_is n j).pure, (widP_is hx).pure, (widR_is hs hx).pure]) ?_
  simp -implicitDefEqProofs only [go_sem, b5, zeroP, hs.parts, hw.parts, (constV_is neg l n).parts, (constV_is neg l n).solid, (varV_is n j).parts, (varV_is n j).solid, (widP_is hx).parts, (widP_is hx).solid, bm1, bm2, bi1, bi2, bl]
  refine callP_ret (p18 hs hl) (by simp [pureL, AV.pure, zeroP, hs.pure, hw.pure, (constV_is neg l n).pure, (constR_is (neg := neg) hw n).pure, (varV_is n j).pure, (widP_is hx).pure, (widR_is hs hx).pure]) rfl ?_
  simp -implicitDefEqProofs only [hp, go_sem, b5, zeroP, hs.parts, hw.parts, (constV_is neg l n).parts, (constV_is neg l n).solid, (varV_is n j).parts, (varV_is n j).solid, (widP_is hx).parts, (widP_is hx).solid, bm1, bm2, bi1, bi2, bl]
  refine callP_ret (p19 hs hn hx (polyB_spec hp).2.2.1) (by simp [pureL, AV.pure, zeroP, hs.pure, hw.pure, (constV_is neg l n).pure, (constR_is (neg := neg) hw n).pure, (varV_is n j).pure, (widP_is hx).pure, (widR_is hs hx).pure]) (by simp [pureL, AV.pure, zeroP, hs.pure, hw.pure, (constV_is neg l n).pure, (constR_is (neg := neg) hw n).pure, (varV_is n j).pure, (widP_is hx).pure, (widR_is hs hx).pure]) ?_
  simp -implicitDefEqProofs only [go_sem, b5, zeroP, hs.parts, hw.parts, (constV_is neg l n).parts, (constV_is neg l n).solid, (varV_is n j).parts, (varV_is n j).solid, (widP_is hx).parts, (widP_is hx).solid, bm1, bm2, bi1, bi2, bl]
  refine callP_ret (p15 (free := false) (widP_is hx) (widR_is hs hx) (wid_sane hl hx hn) (wid_ok hp hge hn)) (by simp [pureL, AV.pure, zeroP, hs.pure, hw.pure, (constV_is neg l n).pure, (constR_is (neg := neg) hw n).pure, (varV_is n j).pure, (widP_is hx).pure, (widR_is hs hx).pure]) (by simp [pureL, AV.pure, zeroP, hs.pure, hw.pure, (constV_is neg l n).pure, (constR_is (neg := neg) hw n).pure, (varV_is n j).pure, (widP_is hx).pure, (widR_is hs hx).pure]) ?_
  simp -implicitDefEqProofs only [go_sem, b5, zeroP, hs.parts, hw.parts, (constV_is neg l n).parts, (constV_is neg l n).solid, (varV_is n j).parts, (varV_is n j).solid, (widP_is hx).parts, (widP_is hx).solid, bm1, bm2, bi1, bi2, bl]
  refine callP_ret awake_true (by simp [pureL, AV.pure, zeroP, hs.pure, hw.pure, (constV_is neg l n).pure, (constR_is (neg := neg) hw n).pure, (varV_is n j).pure, (widP_is hx).pure, (widR_is hs hx).pure]) rfl ?_
  simp -implicitDefEqProofs only [go_sem, b5, zeroP, hs.parts, hw.parts, (constV_is neg l n).parts, (constV_is neg l n).solid, (varV_is n j).parts, (varV_is n j).solid, (widP_is hx).parts, (widP_is hx).solid, bm1, bm2, bi1, bi2, bl]
end Go.AM.R1

set_option linter.unusedSimpArgs false
set_option linter.unusedVariables false
namespace Go.AM.R1
open Go.AM Go.Proofs

theorem leaf_val_yes_out_F {vars0 : Int} {ts : List Tm} {s w : AV} {neg : Bool} {l : List Int} {n : Nat} {i : Int} (hs : IsTs ts s) (hl : Sane ts) (hw : IsI .u32 l w) (hll : l.length ≤ 5000) (hwd : wideB ts = false) (hv : validB neg l = true) (hn : n ≤ 32) (hi : ¬ (0 ≤ i ∧ i < (n : Int))) (hp : polyB vars0 ts = false) :
    SPF PP G0 3 [.agg [.int .i64 vars0, s], .agg [.bool neg, w], .int .i64 (n : Int), .int .i64 i] (.ret (.bool true)) := by
  refine pf_sound orders is3 3 ?_
  have b5 : decide ((5000 : Int) < l.length) = false := decide_eq_false (by omega)
  have h10 := p10 (neg := neg) (vars := (n : Int)) hw
  rw [hv] at h10
  simp only [if_true] at h10
  rw [if_pos (by omega), Int.toNat_natCast] at h10
  have h11 := p11 (vars := (n : Int)) (i := i)
  rw [if_neg (by omega)] at h11
  have h12 := p12 (vars0 := vars0) (vars := (n : Int)) hs hl
  rw [hp] at h12
  simp only [Bool.false_eq_true, if_false] at h12
  have bm1 : decide ((0 : Int) ≤ (n : Int)) = true := decide_eq_true (by omega)
  have bm2 : decide ((n : Int) ≤ 32) = true := decide_eq_true (by omega)
  by_cases i1 : i < 0
  · have i1b := decide_eq_true i1
    simp -implicitDefEqProofs only [c3, go_sem, b5, zeroP, hs.parts, hw.parts, (constV_is neg l n).parts, (constV_is neg l n).solid, bm1, bm2, i1b]
    refine callP_ret (p8 hs hl) (by simp [pureL, AV.pure, zeroP, hs.pure, hw.pure, (constV_is neg l n).pure, (constR_is (neg := neg) hw n).pure]) rfl ?_
    simp -implicitDefEqProofs only [hwd, hw.len, go_sem, b5, zeroP, hs.parts, hw.parts, (constV_is neg l n).parts, (constV_is neg l n).solid, bm1, bm2, i1b]
    refine callP_ret h10 (by simp [pureL, AV.pure, zeroP, hs.pure, hw.pure, (constV_is neg l n).pure, (constR_is (neg := neg) hw n).pure]) (by simp [pureL, AV.pure, zeroP, hs.pure, hw.pure, (constV_is neg l n).pure, (constR_is (neg := neg) hw n).pure]) ?_
    simp -implicitDefEqProofs only [go_sem, b5, zeroP, hs.parts, hw.parts, (constV_is neg l n).parts, (constV_is neg l n).solid, bm1, bm2, i1b]
    refine callP_ret h11 (by simp [pureL, AV.pure, zeroP, hs.pure, hw.pure, (constV_is neg l n).pure, (constR_is (neg := neg) hw n).pure]) (by simp [pureL, AV.pure, zeroP, hs.pure, hw.pure, (constV_is neg l n).pure, (constR_is (neg := neg) hw n).pure]) ?_
    simp -implicitDefEqProofs only [go_sem, b5, zeroP, hs.parts, hw.parts, (constV_is neg l n).parts, (constV_is neg l n).solid, bm1, bm2, i1b]
    refine callP_ret h12 (by simp [pureL, AV.pure, zeroP, hs.pure, hw.pure, (constV_is neg l n).pure, (constR_is (neg := neg) hw n).pure]) (by simp [pureL, AV.pure, zeroP, hs.pure, hw.pure, (constV_is neg l n).pure, (constR_is (neg := neg) hw n).pure]) ?_
    simp -implicitDefEqProofs only [go_sem, b5, zeroP, hs.parts, hw.parts, (constV_is neg l n).parts, (constV_is neg l n).solid, bm1, bm2, i1b]
    refine callP_ret (p13 hw) (by simp [pureL, AV.pure, zeroP, hs.pure, hw.pure, (constV_is neg l n).pure, (constR_is (neg := neg) hw n).pure]) rfl ?_
    simp -implicitDefEqProofs only [hv, go_sem, b5, zeroP, hs.parts, hw.parts, (constV_is neg l n).parts, (constV_is neg l n).solid, bm1, bm2, i1b]
    refine callP_ret (p16 (neg := neg) hw hn) (by simp [pureL, AV.pure, zeroP, hs.pure, hw.pure, (constV_is neg l n).pure, (constR_is (neg := neg) hw n).pure]) (by simp [pureL, AV.pure, zeroP, hs.pure, hw.pure, (constV_is neg l n).pure, (constR_is (neg := neg) hw n).pure]) ?_
    simp -implicitDefEqProofs only [go_sem, b5, zeroP, hs.parts, hw.parts, (constV_is neg l n).parts, (constV_is neg l n).solid, bm1, bm2, i1b]
    refine callP_ret (p15 (free := false) (constV_is neg l n) (constR_is (neg := neg) hw n) (const_sane (by omega) hn) (const_ok hv hn)) (by simp [pureL, AV.pure, zeroP, hs.pure, hw.pure, (constV_is neg l n).pure, (constR_is (neg := neg) hw n).pure]) (by simp [pureL, AV.pure, zeroP, hs.pure, hw.pure, (constV_is neg l n).pure, (constR_is (neg := neg) hw n).pure]) ?_
    simp -implicitDefEqProofs only [go_sem, b5, zeroP, hs.parts, hw.parts, (constV_is neg l n).parts, (constV_is neg l n).solid, bm1, bm2, i1b]
    refine callP_ret (p14 (v := .nsl) .nsl) (by simp [pureL, AV.pure, zeroP, hs.pure, hw.pure, (constV_is neg l n).pure, (constR_is (neg := neg) hw n).pure]) (by simp [pureL, AV.pure, zeroP, hs.pure, hw.pure, (constV_is neg l n).pure, (constR_is (neg := neg) hw n).pure]) ?_
    simp -implicitDefEqProofs only [go_sem, b5, zeroP, hs.parts, hw.parts, (constV_is neg l n).parts, (constV_is neg l n).solid, bm1, bm2, i1b]
    refine callP_ret (p18 hs hl) (by simp [pureL, AV.pure, zeroP, hs.pure, hw.pure, (constV_is neg l n).pure, (constR_is (neg := neg) hw n).pure]) rfl ?_
    simp -implicitDefEqProofs only [hp, go_sem, b5, zeroP, hs.parts, hw.parts, (constV_is neg l n).parts, (constV_is neg l n).solid, bm1, bm2, i1b]
    refine callP_ret (p14 (v := .nsl) .nsl) (by simp [pureL, AV.pure, zeroP, hs.pure, hw.pure, (constV_is neg l n).pure, (constR_is (neg := neg) hw n).pure]) (by simp [pureL, AV.pure, zeroP, hs.pure, hw.pure, (constV_is neg l n).pure, (constR_is (neg := neg) hw n).pure]) ?_
    simp -implicitDefEqProofs only [go_sem, b5, zeroP, hs.parts, hw.parts, (constV_is neg l n).parts, (constV_is neg l n).solid, bm1, bm2, i1b]
    refine callP_ret awake_true (by simp [pureL, AV.pure, zeroP, hs.pure, hw.pure, (constV_is neg l n).pure, (constR_is (neg := neg) hw n).pure]) rfl ?_
    simp -implicitDefEqProofs only [go_sem, b5, zeroP, hs.parts, hw.parts, (constV_is neg l n).parts, (constV_is neg l n).solid, bm1, bm2, i1b]
  · have i1b := decide_eq_false i1
    by_cases i2 : (n : Int) ≤ i
    · have i2b := decide_eq_true i2
      simp -implicitDefEqProofs only [c3, go_sem, b5, zeroP, hs.parts, hw.parts, (constV_is neg l n).parts, (constV_is neg l n).solid, bm1, bm2, i1b, i2b]
      refine callP_ret (p8 hs hl) (by simp [pureL, AV.pure, zeroP, hs.pure, hw.pure, (constV_is neg l n).pure, (constR_is (neg := neg) hw n).pure]) rfl ?_
      simp -implicitDefEqProofs only [hwd, hw.len, go_sem, b5, zeroP, hs.parts, hw.parts, (constV_is neg l n).parts, (constV_is neg l n).solid, bm1, bm2, i1b, i2b]
      refine callP_ret h10 (by simp [pureL, AV.pure, zeroP, hs.pure, hw.pure, (constV_is neg l n).pure, (constR_is (neg := neg) hw n).pure]) (by simp [pureL, AV.pure, zeroP, hs.pure, hw.pure, (constV_is neg l n).pure, (constR_is (neg := neg) hw n).pure]) ?_
      simp -implicitDefEqProofs only [go_sem, b5, zeroP, hs.parts, hw.parts, (constV_is neg l n).parts, (constV_is neg l n).solid, bm1, bm2, i1b, i2b]
      refine callP_ret h11 (by simp [pureL, AV.pure, zeroP, hs.pure, hw.pure, (constV_is neg l n).pure, (constR_is (neg := neg) hw n).pure]) (by simp [pureL, AV.pure, zeroP, hs.pure, hw.pure, (constV_is neg l n).pure, (constR_is (neg := neg) hw n).pure]) ?_
      simp -implicitDefEqProofs only [go_sem, b5, zeroP, hs.parts, hw.parts, (constV_is neg l n).parts, (constV_is neg l n).solid, bm1, bm2, i1b, i2b]
      refine callP_ret h12 (by simp [pureL, AV.pure, zeroP, hs.pure, hw.pure, (constV_is neg l n).pure, (constR_is (neg := neg) hw n).pure]) (by simp [pureL, AV.pure, zeroP, hs.pure, hw.pure, (constV_is neg l n).pure, (constR_is (neg := neg) hw n).pure]) ?_
      simp -implicitDefEqProofs only [go_sem, b5, zeroP, hs.parts, hw.parts, (constV_is neg l n).parts, (constV_is neg l n).solid, bm1, bm2, i1b, i2b]
      refine callP_ret (p13 hw) (by simp [pureL, AV.pure, zeroP, hs.pure, hw.pure, (constV_is neg l n).pure, (constR_is (neg := neg) hw n).pure]) rfl ?_
      simp -implicitDefEqProofs only [hv, go_sem, b5, zeroP, hs.parts, hw.parts, (constV_is neg l n).parts, (constV_is neg l n).solid, bm1, bm2, i1b, i2b]
      refine callP_ret (p16 (neg := neg) hw hn) (by simp [pureL, AV.pure, zeroP, hs.pure, hw.pure, (constV_is neg l n).pure, (constR_is (neg := neg) hw n).pure]) (by simp [pureL, AV.pure, zeroP, hs.pure, hw.pure, (constV_is neg l n).pure, (constR_is (neg := neg) hw n).pure]) ?_
      simp -implicitDefEqProofs only [go_sem, b5, zeroP, hs.parts, hw.parts, (constV_is neg l n).parts, (constV_is neg l n).solid, bm1, bm2, i1b, i2b]
      refine callP_ret (p15 (free := false) (constV_is neg l n) (constR_is (neg := neg) hw n) (const_sane (by omega) hn) (const_ok hv hn)) (by simp [pureL, AV.pure, zeroP, hs.pure, hw.pure, (constV_is neg l n).pure, (constR_is (neg := neg) hw n).pure]) (by simp [pureL, AV.pure, zeroP, hs.pure, hw.pure, (constV_is neg l n).pure, (constR_is (neg := neg) hw n).pure]) ?_
      simp -implicitDefEqProofs only [go_sem, b5, zeroP, hs.parts, hw.parts, (constV_is neg l n).parts, (constV_is neg l n).solid, bm1, bm2, i1b, i2b]
      refine callP_ret (p14 (v := .nsl) .nsl) (by simp [pureL, AV.pure, zeroP, hs.pure, hw.pure, (constV_is neg l n).pure, (constR_is (neg := neg) hw n).pure]) (by simp [pureL, AV.pure, zeroP, hs.pure, hw.pure, (constV_is neg l n).pure, (constR_is (neg := neg) hw n).pure]) ?_
      simp -implicitDefEqProofs only [go_sem, b5, zeroP, hs.parts, hw.parts, (constV_is neg l n).parts, (constV_is neg l n).solid, bm1, bm2, i1b, i2b]
      refine callP_ret (p18 hs hl) (by simp [pureL, AV.pure, zeroP, hs.pure, hw.pure, (constV_is neg l n).pure, (constR_is (neg := neg) hw n).pure]) rfl ?_
      simp -implicitDefEqProofs only [hp, go_sem, b5, zeroP, hs.parts, hw.parts, (constV_is neg l n).parts, (constV_is neg l n).solid, bm1, bm2, i1b, i2b]
      refine callP_ret (p14 (v := .nsl) .nsl) (by simp [pureL, AV.pure, zeroP, hs.pure, hw.pure, (constV_is neg l n).pure, (constR_is (neg := neg) hw n).pure]) (by simp [pureL, AV.pure, zeroP, hs.pure, hw.pure, (constV_is neg l n).pure, (constR_is (neg := neg) hw n).pure]) ?_
      simp -implicitDefEqProofs only [go_sem, b5, zeroP, hs.parts, hw.parts, (constV_is neg l n).parts, (constV_is neg l n).solid, bm1, bm2, i1b, i2b]
      refine callP_ret awake_true (by simp [pureL, AV.pure, zeroP, hs.pure, hw.pure, (constV_is neg l n).pure, (constR_is (neg := neg) hw n).pure]) rfl ?_
      simp -implicitDefEqProofs only [go_sem, b5, zeroP, hs.parts, hw.parts, (constV_is neg l n).parts, (constV_is neg l n).solid, bm1, bm2, i1b, i2b]
    · have i2b := decide_eq_false i2
      exfalso; omega

theorem leaf_val_yes_out_lt {vars0 : Int} {ts : List Tm} {s w : AV} {neg : Bool} {l : List Int} {n : Nat} {i : Int} (hs : IsTs ts s) (hl : Sane ts) (hw : IsI .u32 l w) (hll : l.length ≤ 5000) (hwd : wideB ts = false) (hv : validB neg l = true) (hn : n ≤ 32) (hi : ¬ (0 ≤ i ∧ i < (n : Int))) (hp : polyB vars0 ts = true) (hlt : (n : Int) < vars0) :
    SPF PP G0 3 [.agg [.int .i64 vars0, s], .agg [.bool neg, w], .int .i64 (n : Int), .int .i64 i] (.ret (.bool true)) := by
  refine pf_sound orders is3 3 ?_
  have b5 : decide ((5000 : Int) < l.length) = false := decide_eq_false (by omega)
  have h10 := p10 (neg := neg) (vars := (n : Int)) hw
  rw [hv] at h10
  simp only [if_true] at h10
  rw [if_pos (by omega), Int.toNat_natCast] at h10
  have h11 := p11 (vars := (n : Int)) (i := i)
  rw [if_neg (by omega)] at h11
  have h12 := p12 (vars0 := vars0) (vars := (n : Int)) hs hl
  rw [hp] at h12
  simp only [if_true] at h12
  have hp0 := (polyB_spec hp).1
  rw [if_neg (by omega)] at h12
  have bm1 : decide ((0 : Int) ≤ (n : Int)) = true := decide_eq_true (by omega)
  have bm2 : decide ((n : Int) ≤ 32) = true := decide_eq_true (by omega)
  have bl : decide ((n : Int) < vars0) = true := decide_eq_true (by omega)
  by_cases i1 : i < 0
  · have i1b := decide_eq_true i1
    simp -implicitDefEqProofs only [c3, go_sem, b5, zeroP, hs.parts, hw.parts, (constV_is neg l n).parts, (constV_is neg l n).solid, bm1, bm2, bl, i1b]
    refine callP_ret (p8 hs hl) (by simp [pureL, AV.pure, zeroP, hs.pure, hw.pure, (constV_is neg l n).pure, (constR_is (neg := neg) hw n).pure]) rfl ?_
    simp -implicitDefEqProofs only [hwd, hw.len, go_sem, b5, zeroP, hs.parts, hw.parts, (constV_is neg l n).parts, (constV_is neg l n).solid, bm1, bm2, bl, i1b]
    refine callP_ret h10 (by simp [pureL, AV.pure, zeroP, hs.pure, hw.pure, (constV_is neg l n).pure, (constR_is (neg := neg) hw n).pure]) (by simp [pureL, AV.pure, zeroP, hs.pure, hw.pure, (constV_is neg l n).pure, (constR_is (neg := neg) hw n).pure]) ?_
    simp -implicitDefEqProofs only [go_sem, b5, zeroP, hs.parts, hw.parts, (constV_is neg l n).parts, (constV_is neg l n).solid, bm1, bm2, bl, i1b]
    refine callP_ret h11 (by simp [pureL, AV.pure, zeroP, hs.pure, hw.pure, (constV_is neg l n).pure, (constR_is (neg := neg) hw n).pure]) (by simp [pureL, AV.pure, zeroP, hs.pure, hw.pure, (constV_is neg l n).pure, (constR_is (neg := neg) hw n).pure]) ?_
    simp -implicitDefEqProofs only [go_sem, b5, zeroP, hs.parts, hw.parts, (constV_is neg l n).parts, (constV_is neg l n).solid, bm1, bm2, bl, i1b]
    refine callP_ret h12 (by simp [pureL, AV.pure, zeroP, hs.pure, hw.pure, (constV_is neg l n).pure, (constR_is (neg := neg) hw n).pure]) (by simp [pureL, AV.pure, zeroP, hs.pure, hw.pure, (constV_is neg l n).pure, (constR_is (neg := neg) hw n).pure]) ?_
    simp -implicitDefEqProofs only [go_sem, b5, zeroP, hs.parts, hw.parts, (constV_is neg l n).parts, (constV_is neg l n).solid, bm1, bm2, bl, i1b]
    refine callP_ret (p13 hw) (by simp [pureL, AV.pure, zeroP, hs.pure, hw.pure, (constV_is neg l n).pure, (constR_is (neg := neg) hw n).pure]) rfl ?_
    simp -implicitDefEqProofs only [hv, go_sem, b5, zeroP, hs.parts, hw.parts, (constV_is neg l n).parts, (constV_is neg l n).solid, bm1, bm2, bl, i1b]
    refine callP_ret (p16 (neg := neg) hw hn) (by simp [pureL, AV.pure, zeroP, hs.pure, hw.pure, (constV_is neg l n).pure, (constR_is (neg := neg) hw n).pure]) (by simp [pureL, AV.pure, zeroP, hs.pure, hw.pure, (constV_is neg l n).pure, (constR_is (neg := neg) hw n).pure]) ?_
    simp -implicitDefEqProofs only [go_sem, b5, zeroP, hs.parts, hw.parts, (constV_is neg l n).parts, (constV_is neg l n).solid, bm1, bm2, bl, i1b]
    refine callP_ret (p15 (free := false) (constV_is neg l n) (constR_is (neg := neg) hw n) (const_sane (by omega) hn) (const_ok hv hn)) (by simp [pureL, AV.pure, zeroP, hs.pure, hw.pure, (constV_is neg l n).pure, (constR_is (neg := neg) hw n).pure]) (by simp [pureL, AV.pure, zeroP, hs.pure, hw.pure, (constV_is neg l n).pure, (constR_is (neg := neg) hw n).pure]) ?_
    simp -implicitDefEqProofs only [go_sem, b5, zeroP, hs.parts, hw.parts, (constV_is neg l n).parts, (constV_is neg l n).solid, bm1, bm2, bl, i1b]
    refine callP_ret (p14 (v := .nsl) .nsl) (by simp [pureL, AV.pure, zeroP, hs.pure, hw.pure, (constV_is neg l n).pure, (constR_is (neg := neg) hw n).pure]) (by simp [pureL, AV.pure, zeroP, hs.pure, hw.pure, (constV_is neg l n).pure, (constR_is (neg := neg) hw n).pure]) ?_
    simp -implicitDefEqProofs only [go_sem, b5, zeroP, hs.parts, hw.parts, (constV_is neg l n).parts, (constV_is neg l n).solid, bm1, bm2, bl, i1b]
    refine callP_ret (p18 hs hl) (by simp [pureL, AV.pure, zeroP, hs.pure, hw.pure, (constV_is neg l n).pure, (constR_is (neg := neg) hw n).pure]) rfl ?_
    simp -implicitDefEqProofs only [hp, go_sem, b5, zeroP, hs.parts, hw.parts, (constV_is neg l n).parts, (constV_is neg l n).solid, bm1, bm2, bl, i1b]
    refine callP_ret (p14 (v := .nsl) .nsl) (by simp [pureL, AV.pure, zeroP, hs.pure, hw.pure, (constV_is neg l n).pure, (constR_is (neg := neg) hw n).pure]) (by simp [pureL, AV.pure, zeroP, hs.pure, hw.pure, (constV_is neg l n).pure, (constR_is (neg := neg) hw n).pure]) ?_
    simp -implicitDefEqProofs only [go_sem, b5, zeroP, hs.parts, hw.parts, (constV_is neg l n).parts, (constV_is neg l n).solid, bm1, bm2, bl, i1b]
    refine callP_ret awake_true (by simp [pureL, AV.pure, zeroP, hs.pure, hw.pure, (constV_is neg l n).pure, (constR_is (neg := neg) hw n).pure]) rfl ?_
    simp -implicitDefEqProofs only [go_sem, b5, zeroP, hs.parts, hw.parts, (constV_is neg l n).parts, (constV_is neg l n).solid, bm1, bm2, bl, i1b]
  · have i1b := decide_eq_false i1
    by_cases i2 : (n : Int) ≤ i
    · have i2b := decide_eq_true i2
      simp -implicitDefEqProofs only [c3, go_sem, b5, zeroP, hs.parts, hw.parts, (constV_is neg l n).parts, (constV_is neg l n).solid, bm1, bm2, bl, i1b, i2b]
      refine callP_ret (p8 hs hl) (by simp [pureL, AV.pure, zeroP, hs.pure, hw.pure, (constV_is neg l n).pure, (constR_is (neg := neg) hw n).pure]) rfl ?_
      simp -implicitDefEqProofs only [hwd, hw.len, go_sem, b5, zeroP, hs.parts, hw.parts, (constV_is neg l n).parts, (constV_is neg l n).solid, bm1, bm2, bl, i1b, i2b]
      refine callP_ret h10 (by simp [pureL, AV.pure, zeroP, hs.pure, hw.pure, (constV_is neg l n).pure, (constR_is (neg := neg) hw n).pure]) (by simp [pureL, AV.pure, zeroP, hs.pure, hw.pure, (constV_is neg l n).pure, (constR_is (neg := neg) hw n).pure]) ?_
      simp -implicitDefEqProofs only [go_sem, b5, zeroP, hs.parts, hw.parts, (constV_is neg l n).parts, (constV_is neg l n).solid, bm1, bm2, bl, i1b, i2b]
      refine callP_ret h11 (by simp [pureL, AV.pure, zeroP, hs.pure, hw.pure, (constV_is neg l n).pure, (constR_is (neg := neg) hw n).pure]) (by simp [pureL, AV.pure, zeroP, hs.pure, hw.pure, (constV_is neg l n).pure, (constR_is (neg := neg) hw n).pure]) ?_
      simp -implicitDefEqProofs only [go_sem, b5, zeroP, hs.parts, hw.parts, (constV_is neg l n).parts, (constV_is neg l n).solid, bm1, bm2, bl, i1b, i2b]
      refine callP_ret h12 (by simp [pureL, AV.pure, zeroP, hs.pure, hw.pure, (constV_is neg l n).pure, (constR_is (neg := neg) hw n).pure]) (by simp [pureL, AV.pure, zeroP, hs.pure, hw.pure, (constV_is neg l n).pure, (constR_is (neg := neg) hw n).pure]) ?_
      simp -implicitDefEqProofs only [go_sem, b5, zeroP, hs.parts, hw.parts, (constV_is neg l n).parts, (constV_is neg l n).solid, bm1, bm2, bl, i1b, i2b]
      refine callP_ret (p13 hw) (by simp [pureL, AV.pure, zeroP, hs.pure, hw.pure, (constV_is neg l n).pure, (constR_is (neg := neg) hw n).pure]) rfl ?_
      simp -implicitDefEqProofs only [hv, go_sem, b5, zeroP, hs.parts, hw.parts, (constV_is neg l n).parts, (constV_is neg l n).solid, bm1, bm2, bl, i1b, i2b]
      refine callP_ret (p16 (neg := neg) hw hn) (by simp [pureL, AV.pure, zeroP, hs.pure, hw.pure, (constV_is neg l n).pure, (constR_is (neg := neg) hw n).pure]) (by simp [pureL, AV.pure, zeroP, hs.pure, hw.pure, (constV_is neg l n).pure, (constR_is (neg := neg) hw n).pure]) ?_
      simp -implicitDefEqProofs only [go_sem, b5, zeroP, hs.parts, hw.parts, (constV_is neg l n).parts, (constV_is neg l n).solid, bm1, bm2, bl, i1b, i2b]
      refine callP_ret (p15 (free := false) (constV_is neg l n) (constR_is (neg := neg) hw n) (const_sane (by omega) hn) (const_ok hv hn)) (by simp [pureL, AV.pure, zeroP, hs.pure, hw.pure, (constV_is neg l n).pure, (constR_is (neg := neg) hw n).pure]) (by simp [pureL, AV.pure, zeroP, hs.pure, hw.pure, (constV_is neg l n).pure, (constR_is (neg := neg) hw n).pure]) ?_
      simp -implicitDefEqProofs only [go_sem, b5, zeroP, hs.parts, hw.parts, (constV_is neg l n).parts, (constV_is neg l n).solid, bm1, bm2, bl, i1b, i2b]
      refine callP_ret (p14 (v := .nsl) .nsl) (by simp [pureL, AV.pure, zeroP, hs.pure, hw.pure, (constV_is neg l n).pure, (constR_is (neg := neg) hw n).pure]) (by simp [pureL, AV.pure, zeroP, hs.pure, hw.pure, (constV_is neg l n).pure, (constR_is (neg := neg) hw n).pure]) ?_
      simp -implicitDefEqProofs only [go_sem, b5, zeroP, hs.parts, hw.parts, (constV_is neg l n).parts, (constV_is neg l n).solid, bm1, bm2, bl, i1b, i2b]
      refine callP_ret (p18 hs hl) (by simp [pureL, AV.pure, zeroP, hs.pure, hw.pure, (constV_is neg l n).pure, (constR_is (neg := neg) hw n).pure]) rfl ?_
      simp -implicitDefEqProofs only [hp, go_sem, b5, zeroP, hs.parts, hw.parts, (constV_is neg l n).parts, (constV_is neg l n).solid, bm1, bm2, bl, i1b, i2b]
      refine callP_ret (p14 (v := .nsl) .nsl) (by simp [pureL, AV.pure, zeroP, hs.pure, hw.pure, (constV_is neg l n).pure, (constR_is (neg := neg) hw n).pure]) (by simp [pureL, AV.pure, zeroP, hs.pure, hw.pure, (constV_is neg l n).pure, (constR_is (neg := neg) hw n).pure]) ?_
      simp -implicitDefEqProofs only [go_sem, b5, zeroP, hs.parts, hw.parts, (constV_is neg l n).parts, (constV_is neg l n).solid, bm1, bm2, bl, i1b, i2b]
      refine callP_ret awake_true (by simp [pureL, AV.pure, zeroP, hs.pure, hw.pure, (constV_is neg l n).pure, (constR_is (neg := neg) hw n).pure]) rfl ?_
      simp -implicitDefEqProofs only [go_sem, b5, zeroP, hs.parts, hw.parts, (constV_is neg l n).parts, (constV_is neg l n).solid, bm1, bm2, bl, i1b, i2b]
    · have i2b := decide_eq_false i2
      exfalso; omega

theorem leaf_val_yes_out_ge {vars0 : Int} {ts : List Tm} {s w : AV} {neg : Bool} {l : List Int} {n : Nat} {i : Int} (hs : IsTs ts s) (hl : Sane ts) (hw : IsI .u32 l w) (hll : l.length ≤ 5000) (hwd : wideB ts = false) (hv : validB neg l = true) (hn : n ≤ 32) (hi : ¬ (0 ≤ i ∧ i < (n : Int))) (hp : polyB vars0 ts = true) (hge : vars0 ≤ (n : Int)) (hx : ∀ t ∈ ts, t.ex.length ≤ n) :
    SPF PP G0 3 [.agg [.int .i64 vars0, s], .agg [.bool neg, w], .int .i64 (n : Int), .int .i64 i] (.ret (.bool true)) := by
  refine pf_sound orders is3 3 ?_
  have b5 : decide ((5000 : Int) < l.length) = false := decide_eq_false (by omega)
  have h10 := p10 (neg := neg) (vars := (n : Int)) hw
  rw [hv] at h10
  simp only [if_true] at h10
  rw [if_pos (by omega), Int.toNat_natCast] at h10
  have h11 := p11 (vars := (n : Int)) (i := i)
  rw [if_neg (by omega)] at h11
  have h12 := p12 (vars0 := vars0) (vars := (n : Int)) hs hl
  rw [hp] at h12
  simp only [if_true] at h12
  rw [if_pos (by omega), Int.toNat_natCast] at h12
  have bm1 : decide ((0 : Int) ≤ (n : Int)) = true := decide_eq_true (by omega)
  have bm2 : decide ((n : Int) ≤ 32) = true := decide_eq_true (by omega)
  have bl : decide ((n : Int) < vars0) = false := decide_eq_false (by omega)
  by_cases i1 : i < 0
  · have i1b := decide_eq_true i1
    simp -implicitDefEqProofs only [c3, go_sem, b5, zeroP, hs.parts, hw.parts, (constV_is neg l n).parts, (constV_is neg l n).solid, (widP_is hx).parts, (widP_is hx).solid, bm1, bm2, bl, i1b]
    refine callP_ret (p8 hs hl) (by simp [pureL, AV.pure, zeroP, hs.pure, hw.pure, (constV_is neg l n).pure, (constR_is (neg := neg) hw n).pure, (widP_is hx).pure, (widR_is hs hx).pure]) rfl ?_
    simp -implicitDefEqProofs only [hwd, hw.len, go_sem, b5, zeroP, hs.parts, hw.parts, (constV_is neg l n).parts, (constV_is neg l n).solid, (widP_is hx).parts, (widP_is hx).solid, bm1, bm2, bl, i1b]
    refine callP_ret h10 (by simp [pureL, AV.pure, zeroP, hs.pure, hw.pure, (constV_is neg l n).pure, (constR_is (neg := neg) hw n).pure, (widP_is hx).pure, (widR_is hs hx).pure]) (by simp [pureL, AV.pure, zeroP, hs.pure, hw.pure, (constV_is neg l n).pure, (constR_is (neg := neg) hw n).pure, (widP_is hx).pure, (widR_is hs hx).pure]) ?_
    simp -implicitDefEqProofs only [go_sem, b5, zeroP, hs.parts, hw.parts, (constV_is neg l n).parts, (constV_is neg l n).solid, (widP_is hx).parts, (widP_is hx).solid, bm1, bm2, bl, i1b]
    refine callP_ret h11 (by simp [pureL, AV.pure, zeroP, hs.pure, hw.pure, (constV_is neg l n).pure, (constR_is (neg := neg) hw n).pure, (widP_is hx).pure, (widR_is hs hx).pure]) (by simp [pureL, AV.pure, zeroP, hs.pure, hw.pure, (constV_is neg l n).pure, (constR_is (neg := neg) hw n).pure, (widP_is hx).pure, (widR_is hs hx).pure]) ?_
    simp -implicitDefEqProofs only [go_sem, b5, zeroP, hs.parts, hw.parts, (constV_is neg l n).parts, (constV_is neg l n).solid, (widP_is hx).parts, (widP_is hx).solid, bm1, bm2, bl, i1b]
    refine callP_ret h12 (by simp [pureL, AV.pure, zeroP, hs.pure, hw.pure, (constV_is neg l n).pure, (constR_is (neg := neg) hw n).pure, (widP_is hx).pure, (widR_is hs hx).pure]) (by simp [pureL, AV.pure, zeroP, hs.pure, hw.pure, (constV_is neg l n).pure, (constR_is (neg := neg) hw n).pure, (widP_is hx).pure, (widR_is hs hx).pure]) ?_
    simp -implicitDefEqProofs only [go_sem, b5, zeroP, hs.parts, hw.parts, (constV_is neg l n).parts, (constV_is neg l n).solid, (widP_is hx).parts, (widP_is hx).solid, bm1, bm2, bl, i1b]
    refine callP_ret (p13 hw) (by simp [pureL, AV.pure, zeroP, hs.pure, hw.pure, (constV_is neg l n).pure, (constR_is (neg := neg) hw n).pure, (widP_is hx).pure, (widR_is hs hx).pure]) rfl ?_
    simp -implicitDefEqProofs only [hv, go_sem, b5, zeroP, hs.parts, hw.parts, (constV_is neg l n).parts, (constV_is neg l n).solid, (widP_is hx).parts, (widP_is hx).solid, bm1, bm2, bl, i1b]
    refine callP_ret (p16 (neg := neg) hw hn) (by simp [pureL, AV.pure, zeroP, hs.pure, hw.pure, (constV_is neg l n).pure, (constR_is (neg := neg) hw n).pure, (widP_is hx).pure, (widR_is hs hx).pure]) (by simp [pureL, AV.pure, zeroP, hs.pure, hw.pure, (constV_is neg l n).pure, (constR_is (neg := neg) hw n).pure, (widP_is hx).pure, (widR_is hs hx).pure]) ?_
    simp -implicitDefEqProofs only [go_sem, b5, zeroP, hs.parts, hw.parts, (constV_is neg l n).parts, (constV_is neg l n).solid, (widP_is hx).parts, (widP_is hx).solid, bm1, bm2, bl, i1b]
    refine callP_ret (p15 (free := false) (constV_is neg l n) (constR_is (neg := neg) hw n) (const_sane (by omega) hn) (const_ok hv hn)) (by simp [pureL, AV.pure, zeroP, hs.pure, hw.pure, (constV_is neg l n).pure, (constR_is (neg := neg) hw n).pure, (widP_is hx).pure, (widR_is hs hx).pure]) (by simp [pureL, AV.pure, zeroP, hs.pure, hw.pure, (constV_is neg l n).pure, (constR_is (neg := neg) hw n).pure, (widP_is hx).pure, (widR_is hs hx).pure]) ?_
    simp -implicitDefEqProofs only [go_sem, b5, zeroP, hs.parts, hw.parts, (constV_is neg l n).parts, (constV_is neg l n).solid, (widP_is hx).parts, (widP_is hx).solid, bm1, bm2, bl, i1b]
    refine callP_ret (p14 (v := .nsl) .nsl) (by simp [pureL, AV.pure, zeroP, hs.pure, hw.pure, (constV_is neg l n).pure, (constR_is (neg := neg) hw n).pure, (widP_is hx).pure, (widR_is hs hx).pure]) (by simp [pureL, AV.pure, zeroP, hs.pure, hw.pure, (constV_is neg l n).pure, (constR_is (neg := neg) hw n).pure, (widP_is hx).pure, (widR_is hs hx).pure]) ?_
    simp -implicitDefEqProofs only [go_sem, b5, zeroP, hs.parts, hw.parts, (constV_is neg l n).parts, (constV_is neg l n).solid, (widP_is hx).parts, (widP_is hx).solid, bm1, bm2, bl, i1b]
    refine callP_ret (p18 hs hl) (by simp [pureL, AV.pure, zeroP, hs.pure, hw.pure, (constV_is neg l n).pure, (constR_is (neg := neg) hw n).pure, (widP_is hx).pure, (widR_is hs hx).pure]) rfl ?_
    simp -implicitDefEqProofs only [hp, go_sem, b5, zeroP, hs.parts, hw.parts, (constV_is neg l n).parts, (constV_is neg l n).solid, (widP_is hx).parts, (widP_is hx).solid, bm1, bm2, bl, i1b]
    refine callP_ret (p19 hs hn hx (polyB_spec hp).2.2.1) (by simp [pureL, AV.pure, zeroP, hs.pure, hw.pure, (constV_is neg l n).pure, (constR_is (neg := neg) hw n).pure, (widP_is hx).pure, (widR_is hs hx).pure]) (by simp [pureL, AV.pure, zeroP, hs.pure, hw.pure, (constV_is neg l n).pure, (constR_is (neg := neg) hw n).pure, (widP_is hx).pure, (widR_is hs hx).pure]) ?_
    simp -implicitDefEqProofs only [go_sem, b5, zeroP, hs.parts, hw.parts, (constV_is neg l n).parts, (constV_is neg l n).solid, (widP_is hx).parts, (widP_is hx).solid, bm1, bm2, bl, i1b]
    refine callP_ret (p15 (free := false) (widP_is hx) (widR_is hs hx) (wid_sane hl hx hn) (wid_ok hp hge hn)) (by simp [pureL, AV.pure, zeroP, hs.pure, hw.pure, (constV_is neg l n).pure, (constR_is (neg := neg) hw n).pure, (widP_is hx).pure, (widR_is hs hx).pure]) (by simp [pureL, AV.pure, zeroP, hs.pure, hw.pure, (constV_is neg l n).pure, (constR_is (neg := neg) hw n).pure, (widP_is hx).pure, (widR_is hs hx).pure]) ?_
    simp -implicitDefEqProofs only [go_sem, b5, zeroP, hs.parts, hw.parts, (constV_is neg l n).parts, (constV_is neg l n).solid, (widP_is hx).parts, (widP_is hx).solid, bm1, bm2, bl, i1b]
    refine callP_ret awake_true (by simp [pureL, AV.pure, zeroP, hs.pure, hw.pure, (constV_is neg l n).pure, (constR_is (neg := neg) hw n).pure, (widP_is hx).pure, (widR_is hs hx).pure]) rfl ?_
    simp -implicitDefEqProofs only [go_sem, b5, zeroP, hs.parts, hw.parts, (constV_is neg l n).parts, (constV_is neg l n).solid, (widP_is hx).parts, (widP_is hx).solid, bm1, bm2, bl, i1b]
  · have i1b := decide_eq_false i1
    by_cases i2 : (n : Int) ≤ i
    · have i2b := decide_eq_true i2
      simp -implicitDefEqProofs only [c3, go_sem, b5, zeroP, hs.parts, hw.parts, (constV_is neg l n).parts, (constV_is neg l n).solid, (widP_is hx).parts, (widP_is hx).solid, bm1, bm2, bl, i1b, i2b]
      refine callP_ret (p8 hs hl) (by simp [pureL, AV.pure, zeroP, hs.pure, hw.pure, (constV_is neg l n).pure, (constR_is (neg := neg) hw n).pure, (widP_is hx).pure, (widR_is hs hx).pure]) rfl ?_
      simp -implicitDefEqProofs only [hwd, hw.len, go_sem, b5, zeroP, hs.parts, hw.parts, (constV_is neg l n).parts, (constV_is neg l n).solid, (widP_is hx).parts, (widP_is hx).solid, bm1, bm2, bl, i1b, i2b]
      refine callP_ret h10 (by simp [pureL, AV.pure, zeroP, hs.pure, hw.pure, (constV_is neg l n).pure, (constR_is (neg := neg) hw n).pure, (widP_is hx).pure, (widR_is hs hx).pure]) (by simp [pureL, AV.pure, zeroP, hs.pure, hw.pure, (constV_is neg l n).pure, (constR_is (neg := neg) hw n).pure, (widP_is hx).pure, (widR_is hs hx).pure]) ?_
      simp -implicitDefEqProofs only [go_sem, b5, zeroP, hs.parts, hw.parts, (constV_is neg l n).parts, (constV_is neg l n).solid, (widP_is hx).parts, (widP_is hx).solid, bm1, bm2, bl, i1b, i2b]
      refine callP_ret h11 (by simp [pureL, AV.pure, zeroP, hs.pure, hw.pure, (constV_is neg l n).pure, (constR_is (neg := neg) hw n).pure, (widP_is hx).pure, (widR_is hs hx).pure]) (by simp [pureL, AV.pure, zeroP, hs.pure, hw.pure, (constV_is neg l n).pure, (constR_is (neg := neg) hw n).pure, (widP_is hx).pure, (widR_is hs hx).pure]) ?_
      simp -implicitDefEqProofs only [go_sem, b5, zeroP, hs.parts, hw.parts, (constV_is neg l n).parts, (constV_is neg l n).solid, (widP_is hx).parts, (widP_is hx).solid, bm1, bm2, bl, i1b, i2b]
      refine callP_ret h12 (by simp [pureL, AV.pure, zeroP, hs.pure, hw.pure, (constV_is neg l n).pure, (constR_is (neg := neg) hw n).pure, (widP_is hx).pure, (widR_is hs hx).pure]) (by simp [pureL, AV.pure, zeroP, hs.pure, hw.pure, (constV_is neg l n).pure, (constR_is (neg := neg) hw n).pure, (widP_is hx).pure, (widR_is hs hx).pure]) ?_
      simp -implicitDefEqProofs only [go_sem, b5, zeroP, hs.parts, hw.parts, (constV_is neg l n).parts, (constV_is neg l n).solid, (widP_is hx).parts, (widP_is hx).solid, bm1, bm2, bl, i1b, i2b]
      refine callP_ret (p13 hw) (by simp [pureL, AV.pure, zeroP, hs.pure, hw.pure, (constV_is neg l n).pure, (constR_is (neg := neg) hw n).pure, (widP_is hx).pure, (widR_is hs hx).pure]) rfl ?_
      simp -implicitDefEqProofs only [hv, go_sem, b5, zeroP, hs.parts, hw.parts, (constV_is neg l n).parts, (constV_is neg l n).solid, (widP_is hx).parts, (widP_is hx).solid, bm1, bm2, bl, i1b, i2b]
      refine callP_ret (p16 (neg := neg) hw hn) (by simp [pureL, AV.pure, zeroP, hs.pure, hw.pure, (constV_is neg l n).pure, (constR_is (neg := neg) hw n).pure, (widP_is hx).pure, (widR_is hs hx).pure]) (by simp [pureL, AV.pure, zeroP, hs.pure, hw.pure, (constV_is neg l n).pure, (constR_is (neg := neg) hw n).pure, (widP_is hx).pure, (widR_is hs hx).pure]) ?_
      simp -implicitDefEqProofs only [go_sem, b5, zeroP, hs.parts, hw.parts, (constV_is neg l n).parts, (constV_is neg l n).solid, (widP_is hx).parts, (widP_is hx).solid, bm1, bm2, bl, i1b, i2b]
      refine callP_ret (p15 (free := false) (constV_is neg l n) (constR_is (neg := neg) hw n) (const_sane (by omega) hn) (const_ok hv hn)) (by simp [pureL, AV.pure, zeroP, hs.pure, hw.pure, (constV_is neg l n).pure, (constR_is (neg := neg) hw n).pure, (widP_is hx).pure, (widR_is hs hx).pure]) (by simp [pureL, AV.pure, zeroP, hs.pure, hw.pure, (constV_is neg l n).pure, (constR_is (neg := neg) hw n).pure, (widP_is hx).pure, (widR_is hs hx).pure]) ?_
      simp -implicitDefEqProofs only [go_sem, b5, zeroP, hs.parts, hw.parts, (constV_is neg l n).parts, (constV_is neg l n).solid, (widP_is hx).parts, (widP_is hx).solid, bm1, bm2, bl, i1b, i2b]
      refine callP_ret (p14 (v := .nsl) .nsl) (by simp [pureL, AV.pure, zeroP, hs.pure, hw.pure, (constV_is neg l n).pure, (constR_is (neg := neg) hw n).pure, (widP_is hx).pure, (widR_is hs hx).pure]) (by simp [pureL, AV.pure, zeroP, hs.pure, hw.pure, (constV_is neg l n).pure, (constR_is (neg := neg) hw n).pure, (widP_is hx).pure, (widR_is hs hx).pure]) ?_
      simp -implicitDefEqProofs only [go_sem, b5, zeroP, hs.parts, hw.parts, (constV_is neg l n).parts, (constV_is neg l n).solid, (widP_is hx).parts, (widP_is hx).solid, bm1, bm2, bl, i1b, i2b]
      refine callP_ret (p18 hs hl) (by simp [pureL, AV.pure, zeroP, hs.pure, hw.pure, (constV_is neg l n).pure, (constR_is (neg := neg) hw n).pure, (widP_is hx).pure, (widR_is hs hx).pure]) rfl ?_
      simp -implicitDefEqProofs only [hp, go_sem, b5, zeroP, hs.parts, hw.parts, (constV_is neg l n).parts, (constV_is neg l n).solid, (widP_is hx).parts, (widP_is hx).solid, bm1, bm2, bl, i1b, i2b]
      refine callP_ret (p19 hs hn hx (polyB_spec hp).2.2.1) (by simp [pureL, AV.pure, zeroP, hs.pure, hw.pure, (constV_is neg l n).pure, (constR_is (neg := neg) hw n).pure, (widP_is hx).pure, (widR_is hs hx).pure]) (by simp [pureL, AV.pure, zeroP, hs.pure, hw.pure, (constV_is neg l n).pure, (constR_is (neg := neg) hw n).pure, (widP_is hx).pure, (widR_is hs hx).pure]) ?_
      simp -implicitDefEqProofs only [go_sem, b5, zeroP, hs.parts, hw.parts, (constV_is neg l n).parts, (constV_is neg l n).solid, (widP_is hx).parts, (widP_is hx).solid, bm1, bm2, bl, i1b, i2b]
      refine callP_ret (p15 (free := false) (widP_is hx) (widR_is hs hx) (wid_sane hl hx hn) (wid_ok hp hge hn)) (by simp [pureL, AV.pure, zeroP, hs.pure, hw.pure, (constV_is neg l n).pure, (constR_is (neg := neg) hw n).pure, (widP_is hx).pure, (widR_is hs hx).pure]) (by simp [pureL, AV.pure, zeroP, hs.pure, hw.pure, (constV_is neg l n).pure, (constR_is (neg := neg) hw n).pure, (widP_is hx).pure, (widR_is hs hx).pure]) ?_
      simp -implicitDefEqProofs only [go_sem, b5, zeroP, hs.parts, hw.parts, (constV_is neg l n).parts, (constV_is neg l n).solid, (widP_is hx).parts, (widP_is hx).solid, bm1, bm2, bl, i1b, i2b]
      refine callP_ret awake_true (by simp [pureL, AV.pure, zeroP, hs.pure, hw.pure, (constV_is neg l n).pure, (constR_is (neg := neg) hw n).pure, (widP_is hx).pure, (widR_is hs hx).pure]) rfl ?_
      simp -implicitDefEqProofs only [go_sem, b5, zeroP, hs.parts, hw.parts, (constV_is neg l n).parts, (constV_is neg l n).solid, (widP_is hx).parts, (widP_is hx).solid, bm1, bm2, bl, i1b, i2b]
    · have i2b := decide_eq_false i2
      exfalso; omega

theorem leaf_val_no_x_F {vars0 : Int} {ts : List Tm} {s w : AV} {neg : Bool} {l : List Int} {vars : Int} {i : Int} (hs : IsTs ts s) (hl : Sane ts) (hw : IsI .u32 l w) (hll : l.length ≤ 5000) (hwd : wideB ts = false) (hv : validB neg l = true) (hm : ¬ (0 ≤ vars ∧ vars ≤ 32)) (hp : polyB vars0 ts = false) :
    SPF PP G0 3 [.agg [.int .i64 vars0, s], .agg [.bool neg, w], .int .i64 vars, .int .i64 i] (.ret (.bool true)) := by
  refine pf_sound orders is3 3 ?_
  have b5 : decide ((5000 : Int) < l.length) = false := decide_eq_false (by omega)
  have h10 := p10 (neg := neg) (vars := vars) hw
  rw [hv] at h10
  simp only [if_true] at h10
  rw [if_neg hm] at h10
  have h11 := p11 (vars := vars) (i := i)
  rw [if_neg (by omega)] at h11
  have h12 := p12 (vars0 := vars0) (vars := vars) hs hl
  rw [hp] at h12
  simp only [Bool.false_eq_true, if_false] at h12
  by_cases m1 : (0 : Int) ≤ vars
  · have m1b := decide_eq_true m1
    by_cases m2 : vars ≤ 32
    · have m2b := decide_eq_true m2
      exfalso; omega
    · have m2b := decide_eq_false m2
      simp -implicitDefEqProofs only [c3, go_sem, b5, zeroP, hs.parts, hw.parts, m1b, m2b]
      refine callP_ret (p8 hs hl) (by simp [pureL, AV.pure, zeroP, hs.pure, hw.pure]) rfl ?_
      simp -implicitDefEqProofs only [hwd, hw.len, go_sem, b5, zeroP, hs.parts, hw.parts, m1b, m2b]
      refine callP_ret h10 (by simp [pureL, AV.pure, zeroP, hs.pure, hw.pure]) (by simp [pureL, AV.pure, zeroP, hs.pure, hw.pure]) ?_
      simp -implicitDefEqProofs only [go_sem, b5, zeroP, hs.parts, hw.parts, m1b, m2b]
      refine callP_ret h11 (by simp [pureL, AV.pure, zeroP, hs.pure, hw.pure]) (by simp [pureL, AV.pure, zeroP, hs.pure, hw.pure]) ?_
      simp -implicitDefEqProofs only [go_sem, b5, zeroP, hs.parts, hw.parts, m1b, m2b]
      refine callP_ret h12 (by simp [pureL, AV.pure, zeroP, hs.pure, hw.pure]) (by simp [pureL, AV.pure, zeroP, hs.pure, hw.pure]) ?_
      simp -implicitDefEqProofs only [go_sem, b5, zeroP, hs.parts, hw.parts, m1b, m2b]
      refine callP_ret (p13 hw) (by simp [pureL, AV.pure, zeroP, hs.pure, hw.pure]) rfl ?_
      simp -implicitDefEqProofs only [hv, go_sem, b5, zeroP, hs.parts, hw.parts, m1b, m2b]
      refine callP_ret (p14 (v := .nsl) .nsl) (by simp [pureL, AV.pure, zeroP, hs.pure, hw.pure]) (by simp [pureL, AV.pure, zeroP, hs.pure, hw.pure]) ?_
      simp -implicitDefEqProofs only [go_sem, b5, zeroP, hs.parts, hw.parts, m1b, m2b]
      refine callP_ret (p14 (v := .nsl) .nsl) (by simp [pureL, AV.pure, zeroP, hs.pure, hw.pure]) (by simp [pureL, AV.pure, zeroP, hs.pure, hw.pure]) ?_
      simp -implicitDefEqProofs only [go_sem, b5, zeroP, hs.parts, hw.parts, m1b, m2b]
      refine callP_ret (p18 hs hl) (by simp [pureL, AV.pure, zeroP, hs.pure, hw.pure]) rfl ?_
      simp -implicitDefEqProofs only [hp, go_sem, b5, zeroP, hs.parts, hw.parts, m1b, m2b]
      refine callP_ret (p14 (v := .nsl) .nsl) (by simp [pureL, AV.pure, zeroP, hs.pure, hw.pure]) (by simp [pureL, AV.pure, zeroP, hs.pure, hw.pure]) ?_
      simp -implicitDefEqProofs only [go_sem, b5, zeroP, hs.parts, hw.parts, m1b, m2b]
      refine callP_ret awake_true (by simp [pureL, AV.pure, zeroP, hs.pure, hw.pure]) rfl ?_
      simp -implicitDefEqProofs only [go_sem, b5, zeroP, hs.parts, hw.parts, m1b, m2b]
  · have m1b := decide_eq_false m1
    simp -implicitDefEqProofs only [c3, go_sem, b5, zeroP, hs.parts, hw.parts, m1b]
    refine callP_ret (p8 hs hl) (by simp [pureL, AV.pure, zeroP, hs.pure, hw.pure]) rfl ?_
    simp -implicitDefEqProofs only [hwd, hw.len, go_sem, b5, zeroP, hs.parts, hw.parts, m1b]
    refine callP_ret h10 (by simp [pureL, AV.pure, zeroP, hs.pure, hw.pure]) (by simp [pureL, AV.pure, zeroP, hs.pure, hw.pure]) ?_
    simp -implicitDefEqProofs only [go_sem, b5, zeroP, hs.parts, hw.parts, m1b]
    refine callP_ret h11 (by simp [pureL, AV.pure, zeroP, hs.pure, hw.pure]) (by simp [pureL, AV.pure, zeroP, hs.pure, hw.pure]) ?_
    simp -implicitDefEqProofs only [go_sem, b5, zeroP, hs.parts, hw.parts, m1b]
    refine callP_ret h12 (by simp [pureL, AV.pure, zeroP, hs.pure, hw.pure]) (by simp [pureL, AV.pure, zeroP, hs.pure, hw.pure]) ?_
    simp -implicitDefEqProofs only [go_sem, b5, zeroP, hs.parts, hw.parts, m1b]
    refine callP_ret (p13 hw) (by simp [pureL, AV.pure, zeroP, hs.pure, hw.pure]) rfl ?_
    simp -implicitDefEqProofs only [hv, go_sem, b5, zeroP, hs.parts, hw.parts, m1b]
    refine callP_ret (p14 (v := .nsl) .nsl) (by simp [pureL, AV.pure, zeroP, hs.pure, hw.pure]) (by simp [pureL, AV.pure, zeroP, hs.pure, hw.pure]) ?_
    simp -implicitDefEqProofs only [go_sem, b5, zeroP, hs.parts, hw.parts, m1b]
    refine callP_ret (p14 (v := .nsl) .nsl) (by simp [pureL, AV.pure, zeroP, hs.pure, hw.pure]) (by simp [pureL, AV.pure, zeroP, hs.pure, hw.pure]) ?_
    simp -implicitDefEqProofs only [go_sem, b5, zeroP, hs.parts, hw.parts, m1b]
    refine callP_ret (p18 hs hl) (by simp [pureL, AV.pure, zeroP, hs.pure, hw.pure]) rfl ?_
    simp -implicitDefEqProofs only [hp, go_sem, b5, zeroP, hs.parts, hw.parts, m1b]
    refine callP_ret (p14 (v := .nsl) .nsl) (by simp [pureL, AV.pure, zeroP, hs.pure, hw.pure]) (by simp [pureL, AV.pure, zeroP, hs.pure, hw.pure]) ?_
    simp -implicitDefEqProofs only [go_sem, b5, zeroP, hs.parts, hw.parts, m1b]
    refine callP_ret awake_true (by simp [pureL, AV.pure, zeroP, hs.pure, hw.pure]) rfl ?_
    simp -implicitDefEqProofs only [go_sem, b5, zeroP, hs.parts, hw.parts, m1b]

theorem leaf_val_no_x_T {vars0 : Int} {ts : List Tm} {s w : AV} {neg : Bool} {l : List Int} {vars : Int} {i : Int} (hs : IsTs ts s) (hl : Sane ts) (hw : IsI .u32 l w) (hll : l.length ≤ 5000) (hwd : wideB ts = false) (hv : validB neg l = true) (hm : ¬ (0 ≤ vars ∧ vars ≤ 32)) (hp : polyB vars0 ts = true) :
    SPF PP G0 3 [.agg [.int .i64 vars0, s], .agg [.bool neg, w], .int .i64 vars, .int .i64 i] (.ret (.bool true)) := by
  refine pf_sound orders is3 3 ?_
  have b5 : decide ((5000 : Int) < l.length) = false := decide_eq_false (by omega)
  have h10 := p10 (neg := neg) (vars := vars) hw
  rw [hv] at h10
  simp only [if_true] at h10
  rw [if_neg hm] at h10
  have h11 := p11 (vars := vars) (i := i)
  rw [if_neg (by omega)] at h11
  have h12 := p12 (vars0 := vars0) (vars := vars) hs hl
  rw [hp] at h12
  simp only [if_true] at h12
  have hp0 := (polyB_spec hp).1
  rw [if_neg (by omega)] at h12
  by_cases m1 : (0 : Int) ≤ vars
  · have m1b := decide_eq_true m1
    by_cases m2 : vars ≤ 32
    · have m2b := decide_eq_true m2
      exfalso; omega
    · have m2b := decide_eq_false m2
      by_cases c1 : vars < vars0
      · have c1b := decide_eq_true c1
        simp -implicitDefEqProofs only [c3, go_sem, b5, zeroP, hs.parts, hw.parts, m1b, m2b, c1b]
        refine callP_ret (p8 hs hl) (by simp [pureL, AV.pure, zeroP, hs.pure, hw.pure]) rfl ?_
        simp -implicitDefEqProofs only [hwd, hw.len, go_sem, b5, zeroP, hs.parts, hw.parts, m1b, m2b, c1b]
        refine callP_ret h10 (by simp [pureL, AV.pure, zeroP, hs.pure, hw.pure]) (by simp [pureL, AV.pure, zeroP, hs.pure, hw.pure]) ?_
        simp -implicitDefEqProofs only [go_sem, b5, zeroP, hs.parts, hw.parts, m1b, m2b, c1b]
        refine callP_ret h11 (by simp [pureL, AV.pure, zeroP, hs.pure, hw.pure]) (by simp [pureL, AV.pure, zeroP, hs.pure, hw.pure]) ?_
        simp -implicitDefEqProofs only [go_sem, b5, zeroP, hs.parts, hw.parts, m1b, m2b, c1b]
        refine callP_ret h12 (by simp [pureL, AV.pure, zeroP, hs.pure, hw.pure]) (by simp [pureL, AV.pure, zeroP, hs.pure, hw.pure]) ?_
        simp -implicitDefEqProofs only [go_sem, b5, zeroP, hs.parts, hw.parts, m1b, m2b, c1b]
        refine callP_ret (p13 hw) (by simp [pureL, AV.pure, zeroP, hs.pure, hw.pure]) rfl ?_
        simp -implicitDefEqProofs only [hv, go_sem, b5, zeroP, hs.parts, hw.parts, m1b, m2b, c1b]
        refine callP_ret (p14 (v := .nsl) .nsl) (by simp [pureL, AV.pure, zeroP, hs.pure, hw.pure]) (by simp [pureL, AV.pure, zeroP, hs.pure, hw.pure]) ?_
        simp -implicitDefEqProofs only [go_sem, b5, zeroP, hs.parts, hw.parts, m1b, m2b, c1b]
        refine callP_ret (p14 (v := .nsl) .nsl) (by simp [pureL, AV.pure, zeroP, hs.pure, hw.pure]) (by simp [pureL, AV.pure, zeroP, hs.pure, hw.pure]) ?_
        simp -implicitDefEqProofs only [go_sem, b5, zeroP, hs.parts, hw.parts, m1b, m2b, c1b]
        refine callP_ret (p18 hs hl) (by simp [pureL, AV.pure, zeroP, hs.pure, hw.pure]) rfl ?_
        simp -implicitDefEqProofs only [hp, go_sem, b5, zeroP, hs.parts, hw.parts, m1b, m2b, c1b]
        refine callP_ret (p14 (v := .nsl) .nsl) (by simp [pureL, AV.pure, zeroP, hs.pure, hw.pure]) (by simp [pureL, AV.pure, zeroP, hs.pure, hw.pure]) ?_
        simp -implicitDefEqProofs only [go_sem, b5, zeroP, hs.parts, hw.parts, m1b, m2b, c1b]
        refine callP_ret awake_true (by simp [pureL, AV.pure, zeroP, hs.pure, hw.pure]) rfl ?_
        simp -implicitDefEqProofs only [go_sem, b5, zeroP, hs.parts, hw.parts, m1b, m2b, c1b]
      · have c1b := decide_eq_false c1
        simp -implicitDefEqProofs only [c3, go_sem, b5, zeroP, hs.parts, hw.parts, m1b, m2b, c1b]
        refine callP_ret (p8 hs hl) (by simp [pureL, AV.pure, zeroP, hs.pure, hw.pure]) rfl ?_
        simp -implicitDefEqProofs only [hwd, hw.len, go_sem, b5, zeroP, hs.parts, hw.parts, m1b, m2b, c1b]
        refine callP_ret h10 (by simp [pureL, AV.pure, zeroP, hs.pure, hw.pure]) (by simp [pureL, AV.pure, zeroP, hs.pure, hw.pure]) ?_
        simp -implicitDefEqProofs only [go_sem, b5, zeroP, hs.parts, hw.parts, m1b, m2b, c1b]
        refine callP_ret h11 (by simp [pureL, AV.pure, zeroP, hs.pure, hw.pure]) (by simp [pureL, AV.pure, zeroP, hs.pure, hw.pure]) ?_
        simp -implicitDefEqProofs only [go_sem, b5, zeroP, hs.parts, hw.parts, m1b, m2b, c1b]
        refine callP_ret h12 (by simp [pureL, AV.pure, zeroP, hs.pure, hw.pure]) (by simp [pureL, AV.pure, zeroP, hs.pure, hw.pure]) ?_
        simp -implicitDefEqProofs only [go_sem, b5, zeroP, hs.parts, hw.parts, m1b, m2b, c1b]
        refine callP_ret (p13 hw) (by simp [pureL, AV.pure, zeroP, hs.pure, hw.pure]) rfl ?_
        simp -implicitDefEqProofs only [hv, go_sem, b5, zeroP, hs.parts, hw.parts, m1b, m2b, c1b]
        refine callP_ret (p14 (v := .nsl) .nsl) (by simp [pureL, AV.pure, zeroP, hs.pure, hw.pure]) (by simp [pureL, AV.pure, zeroP, hs.pure, hw.pure]) ?_
        simp -implicitDefEqProofs only [go_sem, b5, zeroP, hs.parts, hw.parts, m1b, m2b, c1b]
        refine callP_ret (p14 (v := .nsl) .nsl) (by simp [pureL, AV.pure, zeroP, hs.pure, hw.pure]) (by simp [pureL, AV.pure, zeroP, hs.pure, hw.pure]) ?_
        simp -implicitDefEqProofs only [go_sem, b5, zeroP, hs.parts, hw.parts, m1b, m2b, c1b]
        refine callP_ret (p18 hs hl) (by simp [pureL, AV.pure, zeroP, hs.pure, hw.pure]) rfl ?_
        simp -implicitDefEqProofs only [hp, go_sem, b5, zeroP, hs.parts, hw.parts, m1b, m2b, c1b]
        refine callP_ret (p14 (v := .nsl) .nsl) (by simp [pureL, AV.pure, zeroP, hs.pure, hw.pure]) (by simp [pureL, AV.pure, zeroP, hs.pure, hw.pure]) ?_
        simp -implicitDefEqProofs only [go_sem, b5, zeroP, hs.parts, hw.parts, m1b, m2b, c1b]
        refine callP_ret awake_true (by simp [pureL, AV.pure, zeroP, hs.pure, hw.pure]) rfl ?_
        simp -implicitDefEqProofs only [go_sem, b5, zeroP, hs.parts, hw.parts, m1b, m2b, c1b]
  · have m1b := decide_eq_false m1
    by_cases c1 : vars < vars0
    · have c1b := decide_eq_true c1
      simp -implicitDefEqProofs only [c3, go_sem, b5, zeroP, hs.parts, hw.parts, m1b, c1b]
      refine callP_ret (p8 hs hl) (by simp [pureL, AV.pure, zeroP, hs.pure, hw.pure]) rfl ?_
      simp -implicitDefEqProofs only [hwd, hw.len, go_sem, b5, zeroP, hs.parts, hw.parts, m1b, c1b]
      refine callP_ret h10 (by simp [pureL, AV.pure, zeroP, hs.pure, hw.pure]) (by simp [pureL, AV.pure, zeroP, hs.pure, hw.pure]) ?_
      simp -implicitDefEqProofs only [go_sem, b5, zeroP, hs.parts, hw.parts, m1b, c1b]
      refine callP_ret h11 (by simp [pureL, AV.pure, zeroP, hs.pure, hw.pure]) (by simp [pureL, AV.pure, zeroP, hs.pure, hw.pure]) ?_
      simp -implicitDefEqProofs only [go_sem, b5, zeroP, hs.parts, hw.parts, m1b, c1b]
      refine callP_ret h12 (by simp [pureL, AV.pure, zeroP, hs.pure, hw.pure]) (by simp [pureL, AV.pure, zeroP, hs.pure, hw.pure]) ?_
      simp -implicitDefEqProofs only [go_sem, b5, zeroP, hs.parts, hw.parts, m1b, c1b]
      refine callP_ret (p13 hw) (by simp [pureL, AV.pure, zeroP, hs.pure, hw.pure]) rfl ?_
      simp -implicitDefEqProofs only [hv, go_sem, b5, zeroP, hs.parts, hw.parts, m1b, c1b]
      refine callP_ret (p14 (v := .nsl) .nsl) (by simp [pureL, AV.pure, zeroP, hs.pure, hw.pure]) (by simp [pureL, AV.pure, zeroP, hs.pure, hw.pure]) ?_
      simp -implicitDefEqProofs only [go_sem, b5, zeroP, hs.parts, hw.parts, m1b, c1b]
      refine callP_ret (p14 (v := .nsl) .nsl) (by simp [pureL, AV.pure, zeroP, hs.pure, hw.pure]) (by simp [pureL, AV.pure, zeroP, hs.pure, hw.pure]) ?_
      simp -implicitDefEqProofs only [go_sem, b5, zeroP, hs.parts, hw.parts, m1b, c1b]
      refine callP_ret (p18 hs hl) (by simp [pureL, AV.pure, zeroP, hs.pure, hw.pure]) rfl ?_
      simp -implicitDefEqProofs only [hp, go_sem, b5, zeroP, hs.parts, hw.parts, m1b, c1b]
      refine callP_ret (p14 (v := .nsl) .nsl) (by simp [pureL, AV.pure, zeroP, hs.pure, hw.pure]) (by simp [pureL, AV.pure, zeroP, hs.pure, hw.pure]) ?_
      simp -implicitDefEqProofs only [go_sem, b5, zeroP, hs.parts, hw.parts, m1b, c1b]
      refine callP_ret awake_true (by simp [pureL, AV.pure, zeroP, hs.pure, hw.pure]) rfl ?_
      simp -implicitDefEqProofs only [go_sem, b5, zeroP, hs.parts, hw.parts, m1b, c1b]
    · have c1b := decide_eq_false c1
      simp -implicitDefEqProofs only [c3, go_sem, b5, zeroP, hs.parts, hw.parts, m1b, c1b]
      refine callP_ret (p8 hs hl) (by simp [pureL, AV.pure, zeroP, hs.pure, hw.pure]) rfl ?_
      simp -implicitDefEqProofs only [hwd, hw.len, go_sem, b5, zeroP, hs.parts, hw.parts, m1b, c1b]
      refine callP_ret h10 (by simp [pureL, AV.pure, zeroP, hs.pure, hw.pure]) (by simp [pureL, AV.pure, zeroP, hs.pure, hw.pure]) ?_
      simp -implicitDefEqProofs only [go_sem, b5, zeroP, hs.parts, hw.parts, m1b, c1b]
      refine callP_ret h11 (by simp [pureL, AV.pure, zeroP, hs.pure, hw.pure]) (by simp [pureL, AV.pure, zeroP, hs.pure, hw.pure]) ?_
      simp -implicitDefEqProofs only [go_sem, b5, zeroP, hs.parts, hw.parts, m1b, c1b]
      refine callP_ret h12 (by simp [pureL, AV.pure, zeroP, hs.pure, hw.pure]) (by simp [pureL, AV.pure, zeroP, hs.pure, hw.pure]) ?_
      simp -implicitDefEqProofs only [go_sem, b5, zeroP, hs.parts, hw.parts, m1b, c1b]
      refine callP_ret (p13 hw) (by simp [pureL, AV.pure, zeroP, hs.pure, hw.pure]) rfl ?_
      simp -implicitDefEqProofs only [hv, go_sem, b5, zeroP, hs.parts, hw.parts, m1b, c1b]
      refine callP_ret (p14 (v := .nsl) .nsl) (by simp [pureL, AV.pure, zeroP, hs.pure, hw.pure]) (by simp [pureL, AV.pure, zeroP, hs.pure, hw.pure]) ?_
      simp -implicitDefEqProofs only [go_sem, b5, zeroP, hs.parts, hw.parts, m1b, c1b]
      refine callP_ret (p14 (v := .nsl) .nsl) (by simp [pureL, AV.pure, zeroP, hs.pure, hw.pure]) (by simp [pureL, AV.pure, zeroP, hs.pure, hw.pure]) ?_
      simp -implicitDefEqProofs only [go_sem, b5, zeroP, hs.parts, hw.parts, m1b, c1b]
      refine callP_ret (p18 hs hl) (by simp [pureL, AV.pure, zeroP, hs.pure, hw.pure]) rfl ?_
      simp -implicitDefEqProofs only [hp, go_sem, b5, zeroP, hs.parts, hw.parts, m1b, c1b]
      refine callP_ret (p14 (v := .nsl) .nsl) (by simp [pureL, AV.pure, zeroP, hs.pure, hw.pure]) (by simp [pureL, AV.pure, zeroP, hs.pure, hw.pure]) ?_
      simp -implicitDefEqProofs only [go_sem, b5, zeroP, hs.parts, hw.parts, m1b, c1b]
      refine callP_ret awake_true (by simp [pureL, AV.pure, zeroP, hs.pure, hw.pure]) rfl ?_
      simp -implicitDefEqProofs only [go_sem, b5, zeroP, hs.parts, hw.parts, m1b, c1b]
end Go.AM.R1

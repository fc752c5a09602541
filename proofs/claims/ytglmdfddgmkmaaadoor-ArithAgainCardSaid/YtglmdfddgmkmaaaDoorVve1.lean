/- What the claim needs, part 2 of 6. -/
import Derived.Lib.OthersKept
import Derived.Laws.RangeAny
import Derived.Test.YtglmdfddgmkmaaaDoorVve0
section
namespace Go.Proofs.YtglmdfddgmkmaaaDoor.Q
open Go.RowKit Go.Proofs.YtglmdfddgmkmaaaDoorW.PrintWords Go.Proofs.YtglmdfddgmkmaaaDoorW.PrintLast Go.Proofs.YtglmdfddgmkmaaaDoorW.PrintMore
attribute [local go_sem] max2_int min2_int max_two min_two max_three min_three max_four min_four
set_option linter.unusedVariables false
set_option linter.unusedSimpArgs false
set_option maxHeartbeats 8000000 in
set_option maxRecDepth 100000 in
theorem arith_number.calls (k : Nat) (a0 : ByteArray) (r1 : Int) (r2 : Int) (w : World) (h : arith_number.f k a0 = some (r1, r2)) :
 Calls Tryd.prog 136 #[.string a0] w fun e w' => e = .returned (.tuple #[.int .i64 r1, .int .i64 r2]) ∧ Drawn0 w w' := by
 have H : (if (a0.size : Int) > 1 then (if 0 < (a0.size : Int) then (if (bt a0 0) = 48 then (if 1 < (a0.size : Int) then (if (bt a0 1) = 120 then (arith_number.j0 k a0 10 a0 true) else (arith_number.j0 k a0 10 a0 ((bt a0 1) == 88))) else (none)) else (arith_number.j0 k a0 10 a0 false)) else (none)) else (arith_number.j0 k a0 10 a0 false)) = some (r1, r2) := h
 clear h
 have HC2 := Aside0.mk H
 clear H
 go_enter Tryd.func136, Tryd.ntmps136
 go_upto_block 0 with (fail)
 repeat (go_quiet (fail); go_upto_block 0 with (fail))
 go_cut [4, 5] (fun v4 v5 wc => ∃ (kq : Nat) (x4_1 : Int) (x5_1 : ByteArray), v4 = .int .i64 x4_1 ∧ v5 = .string x5_1 ∧ Aside0 (arith_number.j1 kq x4_1 x5_1 = some (r1, r2)) ∧ Aside0 (kq ≤ k) ∧ Drawn0 w wc)
 case first =>
  have H := HC2.out
  clear HC2
  have HC3 := Aside0.mk H
  clear H
  go_upto_region 2 with (fail)
  repeat (go_quiet (fail); go_upto_region 2 with (fail))
  go_cut [11] (fun v11 wc => ∃ (kq : Nat) (x11_2 : Bool), v11 = .bool x11_2 ∧ Aside0 (arith_number.j0 kq a0 10 a0 x11_2 = some (r1, r2)) ∧ Aside0 (kq ≤ k) ∧ Drawn0 w wc)
  case first =>
   have H := HC3.out
   clear HC3
   by_cases c4 : (a0.size : Int) > 1
   ·rw [if_pos c4] at H
    have c4b0 : decide (1 < (a0.size : Int)) = true := decide_eq_true c4
    have c4b1 : decide (1 < a0.size) = true := decide_eq_true (by omega)
    clear c4
    (first | rw [c4b0] | (simp only [i64_w, i32_w]; rw [c4b0]) | skip)
    by_cases c5 : 0 < (a0.size : Int)
    ·rw [if_pos c5] at H
     have c5b0 : decide (0 < (a0.size : Int)) = true := decide_eq_true c5
     have c5b1 : decide (0 < a0.size) = true := decide_eq_true (by omega)
     clear c5
     by_cases c7 : (bt a0 0) = 48
     ·rw [if_pos c7] at H
      have c7b0 : ((bt a0 0) == 48) = true := beq_iff_eq.mpr c7
      have c7b1 : ((bt a0 0) != 48) = false := bne_eq_false_iff_eq.mpr c7
      clear c7
      by_cases c8 : 1 < (a0.size : Int)
      ·rw [if_pos c8] at H
       have c8b0 : decide (1 < (a0.size : Int)) = true := decide_eq_true c8
       have c8b1 : decide (1 < a0.size) = true := decide_eq_true (by omega)
       clear c8
       by_cases c10 : (bt a0 1) = 120
       ·rw [if_pos c10] at H
        have c10b0 : ((bt a0 1) == 120) = true := beq_iff_eq.mpr c10
        have c10b1 : ((bt a0 1) != 120) = false := bne_eq_false_iff_eq.mpr c10
        clear c10
        have H' := Aside0.mk H
        clear H
        have p6 : 0 ≤ (0 : Int) := (by omega)
        have q6 : 0 < a0.size := (by have : (0 : Int) < (a0.size : Int) := of_decide_eq_true (by first | (with_reducible assumption) | assumption); omega)
        have hx6 : ∀ h : 0 < a0.size, ((a0[0]'h).toNat : Int) = bt a0 0 := bt_at a0 0
        clear p6
        have qi6 : (0 < (a0.size : Int)) = True := eq_true (of_decide_eq_true (by first | (with_reducible assumption) | assumption))
        replace q6 := eq_true q6
        have p9 : 0 ≤ (1 : Int) := (by omega)
        have q9 : 1 < a0.size := (by have : (1 : Int) < (a0.size : Int) := of_decide_eq_true (by first | (with_reducible assumption) | assumption); omega)
        have hx9 : ∀ h : 1 < a0.size, ((a0[1]'h).toNat : Int) = bt a0 1 := bt_at a0 1
        clear p9
        have qi9 : (1 < (a0.size : Int)) = True := eq_true (of_decide_eq_true (by first | (with_reducible assumption) | assumption))
        replace q9 := eq_true q9
        go_wp2
        repeat (go_quiet (fail); try go_wp2)
        go_meet
        case rel => exact ⟨_, (true), (by first | rfl | (simp; done) | (simp [*]; done)), H', ⟨by first | omega | exact Nat.le_refl _⟩, by repeat (first | exact Drawn0.refl _ | apply Drawn0.step)⟩
       ·rw [if_neg c10] at H
        have c10b0 : ((bt a0 1) == 120) = false := beq_eq_false_iff_ne.mpr c10
        have c10b1 : ((bt a0 1) != 120) = true := bne_iff_ne.mpr c10
        have H' := Aside0.mk H
        clear H
        have p6 : 0 ≤ (0 : Int) := (by omega)
        have q6 : 0 < a0.size := (by have : (0 : Int) < (a0.size : Int) := of_decide_eq_true (by first | (with_reducible assumption) | assumption); omega)
        have hx6 : ∀ h : 0 < a0.size, ((a0[0]'h).toNat : Int) = bt a0 0 := bt_at a0 0
        clear p6
        have qi6 : (0 < (a0.size : Int)) = True := eq_true (of_decide_eq_true (by first | (with_reducible assumption) | assumption))
        replace q6 := eq_true q6
        have p9 : 0 ≤ (1 : Int) := (by omega)
        have q9 : 1 < a0.size := (by have : (1 : Int) < (a0.size : Int) := of_decide_eq_true (by first | (with_reducible assumption) | assumption); omega)
        have hx9 : ∀ h : 1 < a0.size, ((a0[1]'h).toNat : Int) = bt a0 1 := bt_at a0 1
        clear p9
        have qi9 : (1 < (a0.size : Int)) = True := eq_true (of_decide_eq_true (by first | (with_reducible assumption) | assumption))
        replace q9 := eq_true q9
        have p11 : 0 ≤ (1 : Int) := (by omega)
        have q11 : 1 < a0.size := (by have : (1 : Int) < (a0.size : Int) := of_decide_eq_true (by first | (with_reducible assumption) | assumption); omega)
        have hx11 : ∀ h : 1 < a0.size, ((a0[1]'h).toNat : Int) = bt a0 1 := bt_at a0 1
        clear p11
        have qi11 : (1 < (a0.size : Int)) = True := eq_true (of_decide_eq_true (by first | (with_reducible assumption) | assumption))
        replace q11 := eq_true q11
        go_wp2
        repeat (go_quiet (fail); try go_wp2)
        go_meet
        case rel => exact ⟨_, (((bt a0 1) == 88)), (by first | rfl | (simp; done) | (simp [*]; done)), H', ⟨by first | omega | exact Nat.le_refl _⟩, by repeat (first | exact Drawn0.refl _ | apply Drawn0.step)⟩
      ·rw [if_neg c8] at H
       exact absurd H (by simp)
     ·rw [if_neg c7] at H
      have c7b0 : ((bt a0 0) == 48) = false := beq_eq_false_iff_ne.mpr c7
      have c7b1 : ((bt a0 0) != 48) = true := bne_iff_ne.mpr c7
      have H' := Aside0.mk H
      clear H
      have p6 : 0 ≤ (0 : Int) := (by omega)
      have q6 : 0 < a0.size := (by have : (0 : Int) < (a0.size : Int) := of_decide_eq_true (by first | (with_reducible assumption) | assumption); omega)
      have hx6 : ∀ h : 0 < a0.size, ((a0[0]'h).toNat : Int) = bt a0 0 := bt_at a0 0
      clear p6
      have qi6 : (0 < (a0.size : Int)) = True := eq_true (of_decide_eq_true (by first | (with_reducible assumption) | assumption))
      replace q6 := eq_true q6
      go_wp2
      repeat (go_quiet (fail); try go_wp2)
      go_meet
      case rel => exact ⟨_, (false), (by first | rfl | (simp; done) | (simp [*]; done)), H', ⟨by first | omega | exact Nat.le_refl _⟩, by repeat (first | exact Drawn0.refl _ | apply Drawn0.step)⟩
    ·rw [if_neg c5] at H
     exact absurd H (by simp)
   ·rw [if_neg c4] at H
    have c4b0 : decide (1 < (a0.size : Int)) = false := decide_eq_false c4
    have c4b1 : decide (1 < a0.size) = false := decide_eq_false (by omega)
    clear c4
    (first | rw [c4b0] | (simp only [i64_w, i32_w]; rw [c4b0]) | skip)
    have H' := Aside0.mk H
    clear H
    go_wp2
    repeat (go_quiet (fail); try go_wp2)
    go_meet
    case rel => exact ⟨_, (false), (by first | rfl | (simp; done) | (simp [*]; done)), H', ⟨by first | omega | exact Nat.le_refl _⟩, by repeat (first | exact Drawn0.refl _ | apply Drawn0.step)⟩
  case rest =>
   clear HC3
   try clear c1
   try clear p1
   try clear q1
   try clear hx1
   try clear qi1
   try clear p2
   try clear c4
   try clear c4b0
   try clear c4b1
   try clear c5
   try clear c5b0
   try clear c5b1
   try clear p6
   try clear q6
   try clear hx6
   try clear qi6
   try clear c7
   try clear c7b0
   try clear c7b1
   try clear c8
   try clear c8b0
   try clear c8b1
   try clear p9
   try clear q9
   try clear hx9
   try clear qi9
   try clear c10
   try clear c10b0
   try clear c10b1
   try clear p11
   try clear q11
   try clear hx11
   try clear qi11
   try clear p11
   try clear p6
   try clear p9
   try clear q11
   try clear q6
   try clear q9
   obtain ⟨kq, x11_2, rfl, HA, HJ2, ⟨mc2, rfl⟩⟩ := hcut
   cases kq with
   | zero => exact absurd HA.out (by simp [arith_number.j0])
   | succ kj2 =>
    have H := HA.out
    clear HA
    simp only [arith_number.j0] at H
    by_cases c12 : x11_2 = true
    ·subst c12
     have H1 : (if 2 ≤ (a0.size : Int) then (arith_number.j1 kj2 16 (a0.extract 2 a0.size)) else (none)) = some (r1, r2) := by rw [if_pos rfl] at H; exact H
     clear H
     have H := H1
     clear H1
     by_cases c13 : 2 ≤ (a0.size : Int)
     ·rw [if_pos c13] at H
      have c13b0 := eq_true c13
      have c13b1 : decide (2 ≤ (a0.size : Int)) = true := decide_eq_true c13
      clear c13
      have H' := Aside0.mk H
      clear H
      go_wp2
      repeat (go_quiet (fail); try go_wp2)
      go_meet
      case rel => exact ⟨_, (16), (a0.extract 2 a0.size), (by first | rfl | (simp; done) | (simp [*]; done)), (by first | rfl | (simp; done) | (simp [*]; done)), H', ⟨by have := HJ2.out; first | omega | exact Nat.le_refl _⟩, by repeat (first | exact Drawn0.refl _ | apply Drawn0.step)⟩
     ·rw [if_neg c13] at H
      exact absurd H (by simp)
    ·replace c12 := Bool.eq_false_iff.mpr c12
     subst c12
     have H1 : (if 0 < (a0.size : Int) then (if (bt a0 0) = 48 then (arith_number.j1 kj2 8 a0) else (arith_number.j1 kj2 10 a0)) else (none)) = some (r1, r2) := by rw [if_neg (show ¬ (false = true) by decide)] at H; exact H
     clear H
     have H := H1
     clear H1
     by_cases c14 : 0 < (a0.size : Int)
     ·rw [if_pos c14] at H
      have c14b0 : decide (0 < (a0.size : Int)) = true := decide_eq_true c14
      have c14b1 : decide (0 < a0.size) = true := decide_eq_true (by omega)
      clear c14
      by_cases c16 : (bt a0 0) = 48
      ·rw [if_pos c16] at H
       have c16b0 : ((bt a0 0) == 48) = true := beq_iff_eq.mpr c16
       have c16b1 : ((bt a0 0) != 48) = false := bne_eq_false_iff_eq.mpr c16
       clear c16
       have H' := Aside0.mk H
       clear H
       have p15 : 0 ≤ (0 : Int) := (by omega)
       have q15 : 0 < a0.size := (by have : (0 : Int) < (a0.size : Int) := of_decide_eq_true (by first | (with_reducible assumption) | assumption); omega)
       have hx15 : ∀ h : 0 < a0.size, ((a0[0]'h).toNat : Int) = bt a0 0 := bt_at a0 0
       clear p15
       have qi15 : (0 < (a0.size : Int)) = True := eq_true (of_decide_eq_true (by first | (with_reducible assumption) | assumption))
       replace q15 := eq_true q15
       go_wp2
       repeat (go_quiet (fail); try go_wp2)
       go_meet
       case rel => exact ⟨_, (8), (a0), (by first | rfl | (simp; done) | (simp [*]; done)), (by first | rfl | (simp; done) | (simp [*]; done)), H', ⟨by have := HJ2.out; first | omega | exact Nat.le_refl _⟩, by repeat (first | exact Drawn0.refl _ | apply Drawn0.step)⟩
      ·rw [if_neg c16] at H
       have c16b0 : ((bt a0 0) == 48) = false := beq_eq_false_iff_ne.mpr c16
       have c16b1 : ((bt a0 0) != 48) = true := bne_iff_ne.mpr c16
       have H' := Aside0.mk H
       clear H
       have p15 : 0 ≤ (0 : Int) := (by omega)
       have q15 : 0 < a0.size := (by have : (0 : Int) < (a0.size : Int) := of_decide_eq_true (by first | (with_reducible assumption) | assumption); omega)
       have hx15 : ∀ h : 0 < a0.size, ((a0[0]'h).toNat : Int) = bt a0 0 := bt_at a0 0
       clear p15
       have qi15 : (0 < (a0.size : Int)) = True := eq_true (of_decide_eq_true (by first | (with_reducible assumption) | assumption))
       replace q15 := eq_true q15
       go_wp2
       repeat (go_quiet (fail); try go_wp2)
       go_meet
       case rel => exact ⟨_, (10), (a0), (by first | rfl | (simp; done) | (simp [*]; done)), (by first | rfl | (simp; done) | (simp [*]; done)), H', ⟨by have := HJ2.out; first | omega | exact Nat.le_refl _⟩, by repeat (first | exact Drawn0.refl _ | apply Drawn0.step)⟩
     ·rw [if_neg c14] at H
      exact absurd H (by simp)
 case rest =>
  clear HC2
  try clear c1
  try clear p1
  try clear q1
  try clear hx1
  try clear qi1
  try clear c2
  try clear p2
  try clear c4
  try clear c4b0
  try clear c4b1
  try clear c5
  try clear c5b0
  try clear c5b1
  try clear p6
  try clear q6
  try clear hx6
  try clear qi6
  try clear c7
  try clear c7b0
  try clear c7b1
  try clear c8
  try clear c8b0
  try clear c8b1
  try clear p9
  try clear q9
  try clear hx9
  try clear qi9
  try clear c10
  try clear c10b0
  try clear c10b1
  try clear p11
  try clear q11
  try clear hx11
  try clear qi11
  try clear c12
  try clear c13
  try clear c13b0
  try clear c13b1
  try clear c14
  try clear c14b0
  try clear c14b1
  try clear p15
  try clear q15
  try clear hx15
  try clear qi15
  try clear c16
  try clear c16b0
  try clear c16b1
  try clear p1
  try clear p11
  try clear p15
  try clear p2
  try clear p6
  try clear p9
  try clear q1
  try clear q11
  try clear q15
  try clear q6
  try clear q9
  obtain ⟨kq, x4_1, x5_1, rfl, rfl, HA, HJ1, ⟨mc1, rfl⟩⟩ := hcut
  cases kq with
  | zero => exact absurd HA.out (by simp [arith_number.j1])
  | succ kj1 =>
   have H := HA.out
   clear HA
   simp only [arith_number.j1] at H
   by_cases c17 : x5_1.toList = ([] : List UInt8)
   ·rw [if_pos c17] at H
    have c17b0 : (x5_1.toList == ([] : List UInt8)) = true := beq_iff_eq.mpr c17
    have c17b1 : (x5_1.toList != ([] : List UInt8)) = false := bne_eq_false_iff_eq.mpr c17
    clear c17
    simp only [Option.some.injEq, Prod.mk.injEq] at H
    obtain ⟨rfl, rfl⟩ := H
    go_wp2
    repeat (go_quiet (fail); try go_wp2)
    go_ret2
    exact ⟨by first | rfl | (simp; done) | (simp [*]; done), by repeat (first | exact Drawn0.refl _ | apply Drawn0.step)⟩
   ·rw [if_neg c17] at H
    have c17b0 : (x5_1.toList == ([] : List UInt8)) = false := beq_eq_false_iff_ne.mpr c17
    have c17b1 : (x5_1.toList != ([] : List UInt8)) = true := bne_iff_ne.mpr c17
    have H' := Aside0.mk H
    clear H
    go_wp2
    repeat (go_quiet (fail); try go_wp2)
    go_loopg [6, 7, 40] kj1 (fun kq v6 v7 v40 w' => ∃ (x6_2 : Int) (x7_2 : Bool) (x40_2 : Int), v6 = .int .i64 x6_2 ∧ v7 = .bool x7_2 ∧ v40 = .int .i64 x40_2 ∧ Aside0 (arith_number.l0 kq x4_1 x5_1 x6_2 x7_2 (x5_1.size : Int) x40_2 = some (r1, r2)) ∧ Aside0 (kq ≤ kj1) ∧ Drawn0 w w')
    case atStart => exact ⟨(0), (false), (0), (by first | rfl | (simp; done) | (simp [*]; done)), (by first | rfl | (simp; done) | (simp [*]; done)), (by first | rfl | (simp; done) | (simp [*]; done)), H', ⟨Nat.le_refl _⟩, by repeat (first | exact Drawn0.refl _ | apply Drawn0.step)⟩
    case round =>
     clear H'
     try clear c1
     try clear p1
     try clear q1
     try clear hx1
     try clear qi1
     try clear c2
     try clear p2
     try clear c4
     try clear c4b0
     try clear c4b1
     try clear c5
     try clear c5b0
     try clear c5b1
     try clear p6
     try clear q6
     try clear hx6
     try clear qi6
     try clear c7
     try clear c7b0
     try clear c7b1
     try clear c8
     try clear c8b0
     try clear c8b1
     try clear p9
     try clear q9
     try clear hx9
     try clear qi9
     try clear c10
     try clear c10b0
     try clear c10b1
     try clear p11
     try clear q11
     try clear hx11
     try clear qi11
     try clear c12
     try clear c13
     try clear c13b0
     try clear c13b1
     try clear c14
     try clear c14b0
     try clear c14b1
     try clear p15
     try clear q15
     try clear hx15
     try clear qi15
     try clear c16
     try clear c16b0
     try clear c16b1
     try clear c17
     try clear c17b0
     try clear c17b1
     try clear p1
     try clear p11
     try clear p15
     try clear p2
     try clear p6
     try clear p9
     try clear q1
     try clear q11
     try clear q15
     try clear q6
     try clear q9
     obtain ⟨x6_2, x7_2, x40_2, rfl, rfl, rfl, HA, HK2, ⟨m2, rfl⟩⟩ := hrel
     cases gk with
     | zero => exact absurd HA.out (by simp [arith_number.l0])
     | succ k2 =>
      have H := HA.out
      clear HA
      simp only [arith_number.l0] at H
      by_cases c18 : x40_2 < (x5_1.size : Int)
      ·rw [if_pos c18] at H
       have c18b0 : decide (x40_2 < (x5_1.size : Int)) = true := decide_eq_true c18
       clear c18
       by_cases c19 : 0 ≤ x40_2
       ·rw [if_pos c19] at H
        have c19b0 : decide (0 ≤ x40_2) = true := decide_eq_true c19
        clear c19
        by_cases c20 : x40_2 < (x5_1.size : Int)
        ·rw [if_pos c20] at H
         have c20b0 : decide (x40_2 < (x5_1.size : Int)) = true := decide_eq_true c20
         clear c20
         replace H := Option.bind_eq_some_iff.mp H
         obtain ⟨t108, A220, H⟩ := H
         replace H : (if t108 ≥ x4_1 then (some (0, 6)) else (if x7_2 = true then (arith_number.l0 k2 x4_1 x5_1 x6_2 true (x5_1.size : Int) (wrap64 (x40_2 + 1))) else (if x4_1 = 0 then (none) else (if (x6_2 > (wrap64 (Int.tdiv (wrap64 (9223372036854775807 - t108)) x4_1))) then (arith_number.l0 k2 x4_1 x5_1 x6_2 (decide (x6_2 > (wrap64 (Int.tdiv (wrap64 (9223372036854775807 - t108)) x4_1)))) (x5_1.size : Int) (wrap64 (x40_2 + 1))) else (arith_number.l0 k2 x4_1 x5_1 (wrap64 ((wrap64 (x6_2 * x4_1)) + t108)) (decide (x6_2 > (wrap64 (Int.tdiv (wrap64 (9223372036854775807 - t108)) x4_1)))) (x5_1.size : Int) (wrap64 (x40_2 + 1))))))) = some (r1, r2) := H
         have A22 := Aside0.mk A220
         clear A220
         by_cases c23 : t108 ≥ x4_1
         ·rw [if_pos c23] at H
          have c23b0 : decide (x4_1 ≤ t108) = true := decide_eq_true c23
          clear c23
          simp only [Option.some.injEq, Prod.mk.injEq] at H
          obtain ⟨rfl, rfl⟩ := H
          have p21 : 0 ≤ (x40_2 : Int) := of_decide_eq_true (by first | (with_reducible assumption) | assumption)
          have q21 : x40_2 < (x5_1.size : Int) := of_decide_eq_true (by first | (with_reducible assumption) | assumption)
          have hx21 := bt_at x5_1 x40_2
          replace p21 := eq_true p21
          replace q21 := eq_true q21
          go_wp2_with (first | (go_at_call 144; (with_reducible refine (arith_value.calls k2 (bt x5_1 x40_2) t108 _ A22.out).mono ?_); rintro e w' ⟨rfl, ⟨nd, rfl⟩⟩; (try first | exact ⟨rfl, _, World.drewN_drewN _ _ _⟩ | exact ⟨rfl, _, Eq.trans (World.drewN_drewN _ _ _) (congrArg (World.drewN _) (Nat.add_assoc _ _ _))⟩)))
          repeat (go_quiet (first | (go_at_call 144; (with_reducible refine (arith_value.calls k2 (bt x5_1 x40_2) t108 _ A22.out).mono ?_); rintro e w' ⟨rfl, ⟨nd, rfl⟩⟩; (try first | exact ⟨rfl, _, World.drewN_drewN _ _ _⟩ | exact ⟨rfl, _, Eq.trans (World.drewN_drewN _ _ _) (congrArg (World.drewN _) (Nat.add_assoc _ _ _))⟩))); try go_wp2_with (first | (go_at_call 144; (with_reducible refine (arith_value.calls k2 (bt x5_1 x40_2) t108 _ A22.out).mono ?_); rintro e w' ⟨rfl, ⟨nd, rfl⟩⟩; (try first | exact ⟨rfl, _, World.drewN_drewN _ _ _⟩ | exact ⟨rfl, _, Eq.trans (World.drewN_drewN _ _ _) (congrArg (World.drewN _) (Nat.add_assoc _ _ _))⟩))))
          go_ret2
          exact ⟨by first | rfl | (simp; done) | (simp [*]; done), by repeat (first | exact Drawn0.refl _ | apply Drawn0.step)⟩
         ·rw [if_neg c23] at H
          have c23b0 : decide (x4_1 ≤ t108) = false := decide_eq_false c23
          clear c23
          by_cases c24 : x7_2 = true
          ·subst c24
           have H1 : (arith_number.l0 k2 x4_1 x5_1 x6_2 true (x5_1.size : Int) (wrap64 (x40_2 + 1))) = some (r1, r2) := by rw [if_pos rfl] at H; exact H
           clear H
           have H := H1
           clear H1
           have H' := Aside0.mk H
           clear H
           have p21 : 0 ≤ (x40_2 : Int) := of_decide_eq_true (by first | (with_reducible assumption) | assumption)
           have q21 : x40_2 < (x5_1.size : Int) := of_decide_eq_true (by first | (with_reducible assumption) | assumption)
           have hx21 := bt_at x5_1 x40_2
           replace p21 := eq_true p21
           replace q21 := eq_true q21
           go_wp2_with (first | (go_at_call 144; (with_reducible refine (arith_value.calls k2 (bt x5_1 x40_2) t108 _ A22.out).mono ?_); rintro e w' ⟨rfl, ⟨nd, rfl⟩⟩; (try first | exact ⟨rfl, _, World.drewN_drewN _ _ _⟩ | exact ⟨rfl, _, Eq.trans (World.drewN_drewN _ _ _) (congrArg (World.drewN _) (Nat.add_assoc _ _ _))⟩)))
           repeat (go_quiet (first | (go_at_call 144; (with_reducible refine (arith_value.calls k2 (bt x5_1 x40_2) t108 _ A22.out).mono ?_); rintro e w' ⟨rfl, ⟨nd, rfl⟩⟩; (try first | exact ⟨rfl, _, World.drewN_drewN _ _ _⟩ | exact ⟨rfl, _, Eq.trans (World.drewN_drewN _ _ _) (congrArg (World.drewN _) (Nat.add_assoc _ _ _))⟩))); try go_wp2_with (first | (go_at_call 144; (with_reducible refine (arith_value.calls k2 (bt x5_1 x40_2) t108 _ A22.out).mono ?_); rintro e w' ⟨rfl, ⟨nd, rfl⟩⟩; (try first | exact ⟨rfl, _, World.drewN_drewN _ _ _⟩ | exact ⟨rfl, _, Eq.trans (World.drewN_drewN _ _ _) (congrArg (World.drewN _) (Nat.add_assoc _ _ _))⟩))))
           go_roundg k2
           case measure => have := HJ1.out; have := HK2.out; omega
           case rel => exact ⟨(x6_2), (true), (wrap64 (x40_2 + 1)), (by first | rfl | (simp; done) | (simp [*]; done)), (by first | rfl | (simp; done) | (simp [*]; done)), (by first | rfl | (simp; done) | (simp [*]; done)), H', ⟨by have := HJ1.out; have := HK2.out; omega⟩, by repeat (first | exact Drawn0.refl _ | apply Drawn0.step)⟩
          ·replace c24 := Bool.eq_false_iff.mpr c24
           subst c24
           have H1 : (if x4_1 = 0 then (none) else (if (x6_2 > (wrap64 (Int.tdiv (wrap64 (9223372036854775807 - t108)) x4_1))) then (arith_number.l0 k2 x4_1 x5_1 x6_2 (decide (x6_2 > (wrap64 (Int.tdiv (wrap64 (9223372036854775807 - t108)) x4_1)))) (x5_1.size : Int) (wrap64 (x40_2 + 1))) else (arith_number.l0 k2 x4_1 x5_1 (wrap64 ((wrap64 (x6_2 * x4_1)) + t108)) (decide (x6_2 > (wrap64 (Int.tdiv (wrap64 (9223372036854775807 - t108)) x4_1)))) (x5_1.size : Int) (wrap64 (x40_2 + 1))))) = some (r1, r2) := by rw [if_neg (show ¬ (false = true) by decide)] at H; exact H
           clear H
           have H := H1
           clear H1
           by_cases c25 : x4_1 = 0
           ·rw [if_pos c25] at H
            exact absurd H (by simp)
           ·rw [if_neg c25] at H
            have c25b0 : (x4_1 == 0) = false := beq_eq_false_iff_ne.mpr c25
            have c25b1 : (x4_1 != 0) = true := bne_iff_ne.mpr c25
            by_cases c26 : (x6_2 > (wrap64 (Int.tdiv (wrap64 (9223372036854775807 - t108)) x4_1)))
            ·rw [if_pos c26] at H
             have c26b0 : decide ((wrap64 (Int.tdiv (wrap64 (9223372036854775807 - t108)) x4_1)) < x6_2) = true := decide_eq_true c26
             clear c26
             have H' := Aside0.mk H
             clear H
             have p21 : 0 ≤ (x40_2 : Int) := of_decide_eq_true (by first | (with_reducible assumption) | assumption)
             have q21 : x40_2 < (x5_1.size : Int) := of_decide_eq_true (by first | (with_reducible assumption) | assumption)
             have hx21 := bt_at x5_1 x40_2
             replace p21 := eq_true p21
             replace q21 := eq_true q21
             go_wp2_with (first | (go_at_call 144; (with_reducible refine (arith_value.calls k2 (bt x5_1 x40_2) t108 _ A22.out).mono ?_); rintro e w' ⟨rfl, ⟨nd, rfl⟩⟩; (try first | exact ⟨rfl, _, World.drewN_drewN _ _ _⟩ | exact ⟨rfl, _, Eq.trans (World.drewN_drewN _ _ _) (congrArg (World.drewN _) (Nat.add_assoc _ _ _))⟩)))
             repeat (go_quiet (first | (go_at_call 144; (with_reducible refine (arith_value.calls k2 (bt x5_1 x40_2) t108 _ A22.out).mono ?_); rintro e w' ⟨rfl, ⟨nd, rfl⟩⟩; (try first | exact ⟨rfl, _, World.drewN_drewN _ _ _⟩ | exact ⟨rfl, _, Eq.trans (World.drewN_drewN _ _ _) (congrArg (World.drewN _) (Nat.add_assoc _ _ _))⟩))); try go_wp2_with (first | (go_at_call 144; (with_reducible refine (arith_value.calls k2 (bt x5_1 x40_2) t108 _ A22.out).mono ?_); rintro e w' ⟨rfl, ⟨nd, rfl⟩⟩; (try first | exact ⟨rfl, _, World.drewN_drewN _ _ _⟩ | exact ⟨rfl, _, Eq.trans (World.drewN_drewN _ _ _) (congrArg (World.drewN _) (Nat.add_assoc _ _ _))⟩))))
             go_roundg k2
             case measure => have := HJ1.out; have := HK2.out; omega
             case rel => exact ⟨(x6_2), (decide (x6_2 > (wrap64 (Int.tdiv (wrap64 (9223372036854775807 - t108)) x4_1)))), (wrap64 (x40_2 + 1)), (by first | rfl | (simp; done) | (simp [*]; done)), (by first | rfl | (simp; done) | (simp [*]; done)), (by first | rfl | (simp; done) | (simp [*]; done)), H', ⟨by have := HJ1.out; have := HK2.out; omega⟩, by repeat (first | exact Drawn0.refl _ | apply Drawn0.step)⟩
            ·rw [if_neg c26] at H
             have c26b0 : decide ((wrap64 (Int.tdiv (wrap64 (9223372036854775807 - t108)) x4_1)) < x6_2) = false := decide_eq_false c26
             clear c26
             have H' := Aside0.mk H
             clear H
             have p21 : 0 ≤ (x40_2 : Int) := of_decide_eq_true (by first | (with_reducible assumption) | assumption)
             have q21 : x40_2 < (x5_1.size : Int) := of_decide_eq_true (by first | (with_reducible assumption) | assumption)
             have hx21 := bt_at x5_1 x40_2
             replace p21 := eq_true p21
             replace q21 := eq_true q21
             go_wp2_with (first | (go_at_call 144; (with_reducible refine (arith_value.calls k2 (bt x5_1 x40_2) t108 _ A22.out).mono ?_); rintro e w' ⟨rfl, ⟨nd, rfl⟩⟩; (try first | exact ⟨rfl, _, World.drewN_drewN _ _ _⟩ | exact ⟨rfl, _, Eq.trans (World.drewN_drewN _ _ _) (congrArg (World.drewN _) (Nat.add_assoc _ _ _))⟩)))
             repeat (go_quiet (first | (go_at_call 144; (with_reducible refine (arith_value.calls k2 (bt x5_1 x40_2) t108 _ A22.out).mono ?_); rintro e w' ⟨rfl, ⟨nd, rfl⟩⟩; (try first | exact ⟨rfl, _, World.drewN_drewN _ _ _⟩ | exact ⟨rfl, _, Eq.trans (World.drewN_drewN _ _ _) (congrArg (World.drewN _) (Nat.add_assoc _ _ _))⟩))); try go_wp2_with (first | (go_at_call 144; (with_reducible refine (arith_value.calls k2 (bt x5_1 x40_2) t108 _ A22.out).mono ?_); rintro e w' ⟨rfl, ⟨nd, rfl⟩⟩; (try first | exact ⟨rfl, _, World.drewN_drewN _ _ _⟩ | exact ⟨rfl, _, Eq.trans (World.drewN_drewN _ _ _) (congrArg (World.drewN _) (Nat.add_assoc _ _ _))⟩))))
             go_roundg k2
             case measure => have := HJ1.out; have := HK2.out; omega
             case rel => exact ⟨(wrap64 ((wrap64 (x6_2 * x4_1)) + t108)), (decide (x6_2 > (wrap64 (Int.tdiv (wrap64 (9223372036854775807 - t108)) x4_1)))), (wrap64 (x40_2 + 1)), (by first | rfl | (simp; done) | (simp [*]; done)), (by first | rfl | (simp; done) | (simp [*]; done)), (by first | rfl | (simp; done) | (simp [*]; done)), H', ⟨by have := HJ1.out; have := HK2.out; omega⟩, by repeat (first | exact Drawn0.refl _ | apply Drawn0.step)⟩
        ·rw [if_neg c20] at H
         exact absurd H (by simp)
       ·rw [if_neg c19] at H
        exact absurd H (by simp)
      ·rw [if_neg c18] at H
       have c18b0 : decide (x40_2 < (x5_1.size : Int)) = false := decide_eq_false c18
       clear c18
       by_cases c27 : x7_2 = true
       ·subst c27
        have H1 : (some (0, 14)) = some (r1, r2) := by rw [if_pos rfl] at H; exact H
        clear H
        have H := H1
        clear H1
        simp only [Option.some.injEq, Prod.mk.injEq] at H
        obtain ⟨rfl, rfl⟩ := H
        go_wp2
        repeat (go_quiet (fail); try go_wp2)
        go_ret2
        exact ⟨by first | rfl | (simp; done) | (simp [*]; done), by repeat (first | exact Drawn0.refl _ | apply Drawn0.step)⟩
       ·replace c27 := Bool.eq_false_iff.mpr c27
        subst c27
        have H1 : (some (x6_2, 0)) = some (r1, r2) := by rw [if_neg (show ¬ (false = true) by decide)] at H; exact H
        clear H
        have H := H1
        clear H1
        simp only [Option.some.injEq, Prod.mk.injEq] at H
        obtain ⟨rfl, rfl⟩ := H
        go_wp2
        repeat (go_quiet (fail); try go_wp2)
        go_ret2
        exact ⟨by first | rfl | (simp; done) | (simp [*]; done), by repeat (first | exact Drawn0.refl _ | apply Drawn0.step)⟩
end Go.Proofs.YtglmdfddgmkmaaaDoor.Q
end
section
namespace Go.Proofs.YtglmdfddgmkmaaaDoor.Q
open Go.RowKit Go.Proofs.YtglmdfddgmkmaaaDoorW.PrintWords Go.Proofs.YtglmdfddgmkmaaaDoorW.PrintLast Go.Proofs.YtglmdfddgmkmaaaDoorW.PrintMore
attribute [local go_sem] max2_int min2_int max_two min_two max_three min_three max_four min_four
set_option linter.unusedVariables false
set_option linter.unusedSimpArgs false
mutual
def arith_levels.l0 : Nat → Int → List (S26) → Int → Int → Option (Int)
 | 0, _, _, _, _ => none
 | k + 1, x3, x7, x8, x9 => if x9 < x8 then (if 0 ≤ x9 then (if x9 < (x7.length : Int) then ((arith_levels.f k ((rd_T26 x7 x9).f0) ((rd_T26 x7 x9).f1) ((rd_T26 x7 x9).f2) ((rd_T26 x7 x9).f3)).bind fun t120 => (arith_levels.l0 k (mx x3 t120) x7 x8 (wrap64 (x9 + 1)))) else (none)) else (none)) else (some (wrap64 (x3 + 1)))
def arith_levels.f : Nat → Int → Int → ByteArray → List (S26) → Option (Int)
 | 0, _, _, _, _ => none
 | k + 1, a0_0, a0_1, a0_2, l0_3 => arith_levels.l0 k 0 l0_3 (l0_3.length : Int) 0
end
theorem arith_levels.mono_l : ∀ k, (∀ y0 y1 y2 y3, LeO (arith_levels.f k y0 y1 y2 y3) (arith_levels.f (k + 1) y0 y1 y2 y3)) ∧ (∀ y0 y1 y2 y3, LeO (arith_levels.l0 k y0 y1 y2 y3) (arith_levels.l0 (k + 1) y0 y1 y2 y3))
 | 0 => ⟨fun _ _ _ _ r h => by simp [arith_levels.f] at h, fun _ _ _ _ r h => by simp [arith_levels.l0] at h⟩
 | k + 1 => by
  obtain ⟨ih0, ih1⟩ := arith_levels.mono_l k
  refine ⟨?_, ?_⟩
  ·intro y0 y1 y2 y3
   unfold arith_levels.f
   repeat' first
   | (with_reducible exact ih0 _ _ _ _)
   | (with_reducible exact ih1 _ _ _ _)
   | (with_reducible exact LeO.refl _)
   | (with_reducible exact LeO.none _)
   | (with_reducible refine LeO.ite ?_ ?_)
   | (with_reducible refine LeO.bind ?_ (fun _ => ?_))
   | exact ih0 _ _ _ _
   | exact ih1 _ _ _ _
   | exact LeO.none _
   | refine LeO.ite ?_ ?_
   | refine LeO.bind ?_ (fun _ => ?_)
  ·intro y0 y1 y2 y3
   unfold arith_levels.l0
   repeat' first
   | (with_reducible exact ih0 _ _ _ _)
   | (with_reducible exact ih1 _ _ _ _)
   | (with_reducible exact LeO.refl _)
   | (with_reducible exact LeO.none _)
   | (with_reducible refine LeO.ite ?_ ?_)
   | (with_reducible refine LeO.bind ?_ (fun _ => ?_))
   | exact ih0 _ _ _ _
   | exact ih1 _ _ _ _
   | exact LeO.none _
   | refine LeO.ite ?_ ?_
   | refine LeO.bind ?_ (fun _ => ?_)
theorem arith_levels.mono : ∀ a0 a1 a2 a3 k, LeO (arith_levels.f k a0 a1 a2 a3) (arith_levels.f (k + 1) a0 a1 a2 a3) := by
 intro a0 a1 a2 a3 k
 obtain ⟨ih0, ih1⟩ := arith_levels.mono_l k
 exact ih0 a0 a1 a2 a3
set_option maxHeartbeats 8000000 in
set_option maxRecDepth 100000 in
theorem arith_levels.calls (k : Nat) : ∀ (a0_0 : Int) (a0_1 : Int) (a0_2 : ByteArray) (A0_3 : Option Addr) (c0_3 : Nat) (l0_3 : List (S26)) (r : Int) (w : World) (hr0_3 : Kd.C k26 w A0_3 l0_3.length l0_3) (hc0_3 : l0_3.length ≤ c0_3) (h : arith_levels.f k a0_0 a0_1 a0_2 l0_3 = some r),
 Calls Tryd.prog 45 #[.agg #[.int .i64 a0_0, .int .i64 a0_1, .string a0_2, .slice A0_3 l0_3.length c0_3]] w fun e w' => e = .returned (.int .i64 r) ∧ Below w.heap.size w w' := by
 induction k using Nat.strongRecOn with
 | _ k ih =>
 intro a0_0 a0_1 a0_2 A0_3 c0_3 l0_3 r w hr0_3 hc0_3 h
 cases k with
 | zero => exact absurd h (by simp [arith_levels.f])
 | succ k =>
 simp only [arith_levels.f] at h
 have hu26 := Tryd.underlying26
 have HR0_3 := Aside0.mk hr0_3
 have HC0_3 := Aside0.mk hc0_3
 clear hr0_3 hc0_3
 have HB := Aside0.mk (Below.refl w.heap.size w)
 have H : (arith_levels.l0 k 0 l0_3 (l0_3.length : Int) 0) = some r := h
 clear h
 have H' := Aside0.mk H
 clear H
 go_enter Tryd.func45, Tryd.ntmps45
 go_wp2_with (first | ((with_reducible refine gate_dst (N := 1) rfl ?_); refine box_event ?hg (N := 1) ?hd (cs := #[.int .i64 a0_0, .int .i64 a0_1, .string a0_2, .slice A0_3 l0_3.length c0_3]) (t := 26) ?hr ?_; (case hd => rfl); (case hg => rfl); (case hr => first | (go_simp; done) | (go_simp; rfl)); intro gb117 hg w2 hbox hb; have n0_ := Aside0.mk (below_step (by repeat (first | (with_reducible first | exact HB.out | apply below_alloc | apply pw_below_drewN | apply below_drew1) | exact HB.out)) hb); have n1_ := Aside0.mk (hbox); have n2_ := Aside0.mk ((by rw [hg]; exact (below_size (by repeat (first | (with_reducible first | exact HB.out | apply below_alloc | apply pw_below_drewN | apply below_drew1) | exact HB.out))) : w.heap.size ≤ gb117)); have n3_ := Aside0.mk ((by rw [hg]; exact (below_size (by repeat (first | (with_reducible first | exact HB.out | apply below_alloc | apply pw_below_drewN | apply below_drew1) | exact HB.out))) : w.heap.size ≤ gb117)); clear HB; have HB := n0_; have BK117 := n1_; have GW117 := n2_; have GE117 := n3_; clear n0_ n1_ n2_ n3_; clear hb hbox hg; have hcz3_0 : w2.cell? ⟨gb117, 0, none⟩ = some (.int .i64 a0_0) := (blk_cell BK117.out 0).trans rfl; have hcz3_1 : w2.cell? ⟨gb117, 1, none⟩ = some (.int .i64 a0_1) := (blk_cell BK117.out 1).trans rfl; have hcz3_2 : w2.cell? ⟨gb117, 2, none⟩ = some (.string a0_2) := (blk_cell BK117.out 2).trans rfl; have hcz3_3 : w2.cell? ⟨gb117, 3, none⟩ = some (.slice A0_3 l0_3.length c0_3) := (blk_cell BK117.out 3).trans rfl; have hfz3_0 := blk_frozen BK117.out 0; have hfz3_1 := blk_frozen BK117.out 1; have hfz3_2 := blk_frozen BK117.out 2; have hfz3_3 := blk_frozen BK117.out 3))
 go_loopg [3, 9] k (fun kq v3 v9 w' => ∃ (x3_1 : Int) (x9_1 : Int), v3 = .int .i64 x3_1 ∧ v9 = .int .i64 x9_1 ∧ Aside0 (arith_levels.l0 kq x3_1 l0_3 (l0_3.length : Int) x9_1 = some r) ∧ Aside0 (kq ≤ k) ∧ Aside0 (w'.heap[gb117]? = some (.cells #[.int .i64 a0_0, .int .i64 a0_1, .string a0_2, (.slice A0_3 l0_3.length c0_3)] 26 (0, 0))) ∧ Aside0 (Below w.heap.size w w'))
 case atStart => exact ⟨(0), (0), (by first | rfl | (simp; done) | (simp [*]; done)), (by first | rfl | (simp; done) | (simp [*]; done)), H', ⟨Nat.le_refl _⟩, ⟨by (with_reducible repeat (first | refine blk_drewN ?_ _ | refine blk_drew ?_ | refine blk_alloc ?_ _)); exact BK117.out⟩, ⟨by repeat (first | (with_reducible first | exact HB.out | apply below_alloc | apply pw_below_drewN | apply below_drew1 | refine below_set ?_ GE117.out) | exact HB.out)⟩⟩
 case round =>
  clear H'
  try clear p2
  try clear hcz3_0
  try clear hcz3_1
  try clear hcz3_2
  try clear hcz3_3
  try clear hfz3_0
  try clear hfz3_1
  try clear hfz3_2
  try clear hfz3_3
  obtain ⟨x3_1, x9_1, rfl, rfl, HA, HK1, BK117, HB⟩ := hrel
  cases gk with
  | zero => exact absurd HA.out (by simp [arith_levels.l0])
  | succ k1 =>
   have H := HA.out
   clear HA
   simp only [arith_levels.l0] at H
   by_cases c4 : x9_1 < (l0_3.length : Int)
   ·rw [if_pos c4] at H
    have c4b0 : decide (x9_1 < (l0_3.length : Int)) = true := decide_eq_true c4
    clear c4
    by_cases c5 : 0 ≤ x9_1
    ·rw [if_pos c5] at H
     have c5b0 : decide (0 ≤ x9_1) = true := decide_eq_true c5
     clear c5
     by_cases c6 : x9_1 < (l0_3.length : Int)
     ·rw [if_pos c6] at H
      have c6b0 : decide (x9_1 < (l0_3.length : Int)) = true := decide_eq_true c6
      clear c6
      replace H := Option.bind_eq_some_iff.mp H
      obtain ⟨t120, A70, H⟩ := H
      replace H : (arith_levels.l0 k1 (mx x3_1 t120) l0_3 (l0_3.length : Int) (wrap64 (x9_1 + 1))) = some r := H
      have A7 := Aside0.mk A70
      clear A70
      obtain ⟨ji8, hji8⟩ : ∃ j_ : Int, (mx x3_1 t120) = j_ := ⟨_, rfl⟩
      replace H : (arith_levels.l0 k1 ji8 l0_3 (l0_3.length : Int) (wrap64 (x9_1 + 1))) = some r := by first | (rw [hji8] at H; exact H) | (simp only [hji8] at H ⊢; exact H)
      (try rw [hji8] at A7)
      have hji8_ : (if x3_1 < t120 then t120 else x3_1) = ji8 := hji8
      have H' := Aside0.mk H
      clear H
      have p118 : 0 ≤ (x9_1 : Int) := of_decide_eq_true (by first | (with_reducible assumption) | assumption)
      have q118 : x9_1 < (l0_3.length : Int) := of_decide_eq_true (by first | (with_reducible assumption) | assumption)
      obtain ⟨ad118, A118_3, c118_3, e118, hx118_0, hx118_1, hx118_2, hx118_3, hl118_3, hi118_3⟩ := at_T26 HR0_3.out x9_1 p118 q118
      cases e118
      replace hx118_0 := (HB.out.cell (World.block_lt_of_cell? w _ hx118_0)).trans hx118_0
      replace hx118_1 := (HB.out.cell (World.block_lt_of_cell? w _ hx118_1)).trans hx118_1
      replace hx118_2 := (HB.out.cell (World.block_lt_of_cell? w _ hx118_2)).trans hx118_2
      replace hx118_3 := (HB.out.cell (World.block_lt_of_cell? w _ hx118_3)).trans hx118_3
      have HR118_3 := Aside0.mk hi118_3
      have HC118_3 := Aside0.mk hl118_3
      clear hi118_3 hl118_3
      replace p118 := eq_true p118
      replace q118 := eq_true q118
      go_wp2_with (first | ((with_reducible refine gate_dst (N := 5) rfl ?_); refine box_event ?hg (N := 5) ?hd (cs := #[.int .i64 0, .int .i64 0, .string (⟨#[]⟩ : ByteArray), .slice none 0 0]) (t := 26) ?hr ?_; (case hd => rfl); (case hg => rfl); (case hr => first | (go_simp; done) | (go_simp; rfl)); intro gb119 hg w9 hbox hb; have n0_ := Aside0.mk (blk_below (g := gb117) (o := .cells #[.int .i64 a0_0, .int .i64 a0_1, .string a0_2, .slice (some ad118) l0_3.length c0_3] 26 (0, 0)) (by (with_reducible repeat (first | refine blk_drewN ?_ _ | refine blk_drew ?_ | refine blk_alloc ?_ _)); exact BK117.out) hb); have n1_ := Aside0.mk (below_step (by repeat (first | (with_reducible first | exact HB.out | apply below_alloc | apply pw_below_drewN | apply below_drew1 | refine below_set ?_ GE117.out) | exact HB.out)) hb); have n2_ := Aside0.mk (hbox); have n3_ := Aside0.mk ((by rw [hg]; exact (below_size (by repeat (first | (with_reducible first | exact HB.out | apply below_alloc | apply pw_below_drewN | apply below_drew1 | refine below_set ?_ GE117.out) | exact HB.out))) : w.heap.size ≤ gb119)); have n4_ := Aside0.mk ((by rw [hg]; exact (below_size (by repeat (first | (with_reducible first | exact HB.out | apply below_alloc | apply pw_below_drewN | apply below_drew1 | refine below_set ?_ GE117.out) | exact HB.out))) : w.heap.size ≤ gb119)); have n5_ := Aside0.mk ((by rw [hg]; exact Nat.ne_of_lt (blk_lt (g := gb117) (o := .cells #[.int .i64 a0_0, .int .i64 a0_1, .string a0_2, .slice (some ad118) l0_3.length c0_3] 26 (0, 0)) (by (with_reducible repeat (first | refine blk_drewN ?_ _ | refine blk_drew ?_ | refine blk_alloc ?_ _)); exact BK117.out)) : gb117 ≠ gb119)); have n6_ := Aside0.mk ((by rw [hg]; exact Nat.ne_of_gt (blk_lt (g := gb117) (o := .cells #[.int .i64 a0_0, .int .i64 a0_1, .string a0_2, .slice (some ad118) l0_3.length c0_3] 26 (0, 0)) (by (with_reducible repeat (first | refine blk_drewN ?_ _ | refine blk_drew ?_ | refine blk_alloc ?_ _)); exact BK117.out)) : gb119 ≠ gb117)); clear BK117; clear HB; have BK117 := n0_; have HB := n1_; have BK119 := n2_; have GW119 := n3_; have GE119 := n4_; have NB117_119 := n5_; have NB119_117 := n6_; clear n0_ n1_ n2_ n3_ n4_ n5_ n6_; clear hb hbox hg; have hnb10 := NB119_117.out; have hnc10 := NB117_119.out; have hcz11_0 : w9.cell? ⟨gb119, 0, none⟩ = some (.int .i64 0) := (blk_cell BK119.out 0).trans rfl; have hcz11_1 : w9.cell? ⟨gb119, 1, none⟩ = some (.int .i64 0) := (blk_cell BK119.out 1).trans rfl; have hcz11_2 : w9.cell? ⟨gb119, 2, none⟩ = some (.string (⟨#[]⟩ : ByteArray)) := (blk_cell BK119.out 2).trans rfl; have hcz11_3 : w9.cell? ⟨gb119, 3, none⟩ = some (.slice none 0 0) := (blk_cell BK119.out 3).trans rfl; have hfz11_0 := blk_frozen BK119.out 0; have hfz11_1 := blk_frozen BK119.out 1; have hfz11_2 := blk_frozen BK119.out 2; have hfz11_3 := blk_frozen BK119.out 3) | ((with_reducible refine gate_callee (f := 45) rfl ?_); refine goesL_ (some 15) rfl rfl Tryd.func45 (by kernel_rfl) rfl #[.agg #[.int .i64 ((rd_T26 l0_3 x9_1).f0), .int .i64 ((rd_T26 l0_3 x9_1).f1), .string ((rd_T26 l0_3 x9_1).f2), .slice A118_3 ((rd_T26 l0_3 x9_1).f3).length c118_3]] rfl (by (try simp only [List.map_toArray, List.map_cons, List.map_nil]); first | done | rfl | (simp only [List.length_drop, List.length_take]; rfl)) ?_; (with_reducible refine (ih k1 (by have := HK1.out; omega) ((rd_T26 l0_3 x9_1).f0) ((rd_T26 l0_3 x9_1).f1) ((rd_T26 l0_3 x9_1).f2) _ _ ((rd_T26 l0_3 x9_1).f3) t120 _ ?side1 ?side2 A7.out).mono ?_); (case side1 => exact Kd.C_below HR118_3.out (by repeat (first | (with_reducible first | exact HB.out | apply below_alloc | apply pw_below_drewN | apply below_drew1 | refine below_set ?_ GE117.out | refine below_set ?_ GE119.out) | exact HB.out))); (case side2 => exact HC118_3.out); rintro e w12 ⟨rfl, hb⟩; refine ⟨_, rfl, ?_⟩; have n0_ := Aside0.mk (blk_below (g := gb117) (o := .cells #[.int .i64 a0_0, .int .i64 a0_1, .string a0_2, .slice (some ad118) l0_3.length c0_3] 26 (0, 0)) (by (with_reducible repeat (first | refine blk_drewN ?_ _ | refine blk_drew ?_ | refine blk_alloc ?_ _)); refine blk_far ?_ NB117_119.out _; (with_reducible repeat (first | refine blk_drewN ?_ _ | refine blk_drew ?_ | refine blk_alloc ?_ _)); refine blk_far ?_ NB117_119.out _; (with_reducible repeat (first | refine blk_drewN ?_ _ | refine blk_drew ?_ | refine blk_alloc ?_ _)); refine blk_far ?_ NB117_119.out _; (with_reducible repeat (first | refine blk_drewN ?_ _ | refine blk_drew ?_ | refine blk_alloc ?_ _)); refine blk_far ?_ NB117_119.out _; (with_reducible repeat (first | refine blk_drewN ?_ _ | refine blk_drew ?_ | refine blk_alloc ?_ _)); exact BK117.out) hb); have n1_ := Aside0.mk (blk_below (g := gb119) (o := .cells #[.int .i64 ((rd_T26 l0_3 x9_1).f0), .int .i64 ((rd_T26 l0_3 x9_1).f1), .string ((rd_T26 l0_3 x9_1).f2), .slice A118_3 ((rd_T26 l0_3 x9_1).f3).length c118_3] 26 (0, 0)) (by (with_reducible repeat (first | refine blk_drewN ?_ _ | refine blk_drew ?_ | refine blk_alloc ?_ _)); refine blk_put (cs := #[.int .i64 ((rd_T26 l0_3 x9_1).f0), .int .i64 ((rd_T26 l0_3 x9_1).f1), .string ((rd_T26 l0_3 x9_1).f2), .slice none 0 0]) ?_ 3 _ rfl; (with_reducible repeat (first | refine blk_drewN ?_ _ | refine blk_drew ?_ | refine blk_alloc ?_ _)); refine blk_put (cs := #[.int .i64 ((rd_T26 l0_3 x9_1).f0), .int .i64 ((rd_T26 l0_3 x9_1).f1), .string (⟨#[]⟩ : ByteArray), .slice none 0 0]) ?_ 2 _ rfl; (with_reducible repeat (first | refine blk_drewN ?_ _ | refine blk_drew ?_ | refine blk_alloc ?_ _)); refine blk_put (cs := #[.int .i64 ((rd_T26 l0_3 x9_1).f0), .int .i64 0, .string (⟨#[]⟩ : ByteArray), .slice none 0 0]) ?_ 1 _ rfl; (with_reducible repeat (first | refine blk_drewN ?_ _ | refine blk_drew ?_ | refine blk_alloc ?_ _)); refine blk_put (cs := #[.int .i64 0, .int .i64 0, .string (⟨#[]⟩ : ByteArray), .slice none 0 0]) ?_ 0 _ rfl; (with_reducible repeat (first | refine blk_drewN ?_ _ | refine blk_drew ?_ | refine blk_alloc ?_ _)); exact BK119.out) hb); have n2_ := Aside0.mk (below_step (by repeat (first | (with_reducible first | exact HB.out | apply below_alloc | apply pw_below_drewN | apply below_drew1 | refine below_set ?_ GE117.out | refine below_set ?_ GE119.out) | exact HB.out)) hb); clear BK117; clear BK119; clear HB; have BK117 := n0_; have BK119 := n1_; have HB := n2_; clear n0_ n1_ n2_; (try clear hb); (try clear hb2); (try clear hk); (try clear hi)))
      go_roundg k1
      case measure => have := HK1.out; omega
      case rel => exact ⟨(ji8), (wrap64 (x9_1 + 1)), (by first | rfl | (simp; done) | (simp only [← hji8] <;> (first | rfl | simp)) | (simp [*]; done)), (by first | rfl | (simp; done) | (simp [*]; done)), H', ⟨by have := HK1.out; omega⟩, ⟨by (with_reducible repeat (first | refine blk_drewN ?_ _ | refine blk_drew ?_ | refine blk_alloc ?_ _)); exact BK117.out⟩, ⟨by repeat (first | (with_reducible first | exact HB.out | apply below_alloc | apply pw_below_drewN | apply below_drew1 | refine below_set ?_ GE117.out | refine below_set ?_ GE119.out) | exact HB.out)⟩⟩
     ·rw [if_neg c6] at H
      exact absurd H (by simp)
    ·rw [if_neg c5] at H
     exact absurd H (by simp)
   ·rw [if_neg c4] at H
    have c4b0 : decide (x9_1 < (l0_3.length : Int)) = false := decide_eq_false c4
    clear c4
    obtain rfl := Option.some.inj H
    go_wp2
    go_ret
    exact ⟨by first | rfl | (simp [errW_none, errW_some] <;> rfl) | (simp [*, errW_none, errW_some] <;> rfl), by repeat (first | (with_reducible first | exact HB.out | apply below_alloc | apply pw_below_drewN | apply below_drew1 | refine below_set ?_ GE117.out) | exact HB.out)⟩
def arith_assigns.f (a0 : Int) : Option (Bool) := if a0 = 0 then (some true) else (if a0 ≥ 7 then (if a0 ≤ 13 then (some true) else (if a0 ≥ 20 then (some (decide (a0 ≤ 22))) else (some false))) else (if a0 ≥ 20 then (some (decide (a0 ≤ 22))) else (some false)))
set_option maxHeartbeats 8000000 in
set_option maxRecDepth 100000 in
theorem arith_assigns.calls (a0 : Int) (r : Bool) (w : World) (h : arith_assigns.f a0 = some r) :
 Calls Tryd.prog 115 #[.int .i64 a0] w fun e w' => e = .returned (.bool r) ∧ Drawn0 w w' := by
 have H : (if a0 = 0 then (some true) else (if a0 ≥ 7 then (if a0 ≤ 13 then (some true) else (if a0 ≥ 20 then (some (decide (a0 ≤ 22))) else (some false))) else (if a0 ≥ 20 then (some (decide (a0 ≤ 22))) else (some false)))) = some r := h
 clear h
 by_cases c2 : a0 = 0
 ·rw [if_pos c2] at H
  have c2b0 : (a0 == 0) = true := beq_iff_eq.mpr c2
  have c2b1 : (a0 != 0) = false := bne_eq_false_iff_eq.mpr c2
  clear c2
  obtain rfl := Option.some.inj H
  go_enter Tryd.func115, Tryd.ntmps115
  go_wp2
  go_ret
  exact ⟨by first | rfl | (simp; done) | (simp [*]; done), by repeat (first | exact Drawn0.refl _ | apply Drawn0.step)⟩
 ·rw [if_neg c2] at H
  have c2b0 : (a0 == 0) = false := beq_eq_false_iff_ne.mpr c2
  have c2b1 : (a0 != 0) = true := bne_iff_ne.mpr c2
  by_cases c3 : a0 ≥ 7
  ·rw [if_pos c3] at H
   have c3b0 : decide (7 ≤ a0) = true := decide_eq_true c3
   clear c3
   by_cases c4 : a0 ≤ 13
   ·rw [if_pos c4] at H
    have c4b0 : decide (a0 ≤ 13) = true := decide_eq_true c4
    clear c4
    obtain rfl := Option.some.inj H
    go_enter Tryd.func115, Tryd.ntmps115
    go_wp2
    go_ret
    exact ⟨by first | rfl | (simp; done) | (simp [*]; done), by repeat (first | exact Drawn0.refl _ | apply Drawn0.step)⟩
   ·rw [if_neg c4] at H
    have c4b0 : decide (a0 ≤ 13) = false := decide_eq_false c4
    clear c4
    by_cases c5 : a0 ≥ 20
    ·rw [if_pos c5] at H
     have c5b0 : decide (20 ≤ a0) = true := decide_eq_true c5
     clear c5
     obtain rfl := Option.some.inj H
     go_enter Tryd.func115, Tryd.ntmps115
     go_wp2
     go_ret
     exact ⟨by first | rfl | (simp; done) | (simp [*]; done), by repeat (first | exact Drawn0.refl _ | apply Drawn0.step)⟩
    ·rw [if_neg c5] at H
     have c5b0 : decide (20 ≤ a0) = false := decide_eq_false c5
     clear c5
     obtain rfl := Option.some.inj H
     go_enter Tryd.func115, Tryd.ntmps115
     go_wp2
     go_ret
     exact ⟨by first | rfl | (simp; done) | (simp [*]; done), by repeat (first | exact Drawn0.refl _ | apply Drawn0.step)⟩
  ·rw [if_neg c3] at H
   have c3b0 : decide (7 ≤ a0) = false := decide_eq_false c3
   clear c3
   by_cases c6 : a0 ≥ 20
   ·rw [if_pos c6] at H
    have c6b0 : decide (20 ≤ a0) = true := decide_eq_true c6
    clear c6
    obtain rfl := Option.some.inj H
    go_enter Tryd.func115, Tryd.ntmps115
    go_wp2
    go_ret
    exact ⟨by first | rfl | (simp; done) | (simp [*]; done), by repeat (first | exact Drawn0.refl _ | apply Drawn0.step)⟩
   ·rw [if_neg c6] at H
    have c6b0 : decide (20 ≤ a0) = false := decide_eq_false c6
    clear c6
    obtain rfl := Option.some.inj H
    go_enter Tryd.func115, Tryd.ntmps115
    go_wp2
    go_ret
    exact ⟨by first | rfl | (simp; done) | (simp [*]; done), by repeat (first | exact Drawn0.refl _ | apply Drawn0.step)⟩
mutual
def arith_kids.j0 : Nat → Int → Bool → Option (Int)
 | 0, _, _ => none
 | k + 1, x0, x3 => if x3 = true then (some 0) else (if x0 ≥ 3 then (if x0 ≤ 6 then (arith_kids.j1 k x0 true) else (arith_kids.j1 k x0 (x0 == 26))) else (arith_kids.j1 k x0 (x0 == 26)))
def arith_kids.j1 : Nat → Int → Bool → Option (Int)
 | 0, _, _ => none
 | k + 1, x0, x10 => if x10 = true then (some 1) else (if x0 = 25 then (some 3) else (if x0 ≥ 7 then (if x0 ≤ 24 then (some 2) else (some (-1))) else (some (-1))))
end
def arith_kids.f (k : Nat) (a0 : Int) : Option (Int) := if a0 = 1 then (arith_kids.j0 k a0 true) else (arith_kids.j0 k a0 (a0 == 2))
theorem arith_kids.mono_l : ∀ k, (∀ y0 y1, LeO (arith_kids.j0 k y0 y1) (arith_kids.j0 (k + 1) y0 y1)) ∧ (∀ y0 y1, LeO (arith_kids.j1 k y0 y1) (arith_kids.j1 (k + 1) y0 y1))
 | 0 => ⟨fun _ _ r h => by simp [arith_kids.j0] at h, fun _ _ r h => by simp [arith_kids.j1] at h⟩
 | k + 1 => by
  obtain ⟨ih0, ih1⟩ := arith_kids.mono_l k
  refine ⟨?_, ?_⟩
  ·intro y0 y1
   unfold arith_kids.j0
   repeat' first
   | (with_reducible exact ih0 _ _)
   | (with_reducible exact ih1 _ _)
   | (with_reducible exact LeO.refl _)
   | (with_reducible exact LeO.none _)
   | (with_reducible refine LeO.ite ?_ ?_)
   | (with_reducible refine LeO.bind ?_ (fun _ => ?_))
   | exact ih0 _ _
   | exact ih1 _ _
   | exact LeO.none _
   | refine LeO.ite ?_ ?_
   | refine LeO.bind ?_ (fun _ => ?_)
  ·intro y0 y1
   unfold arith_kids.j1
   repeat' first
   | (with_reducible exact ih0 _ _)
   | (with_reducible exact ih1 _ _)
   | (with_reducible exact LeO.refl _)
   | (with_reducible exact LeO.none _)
   | (with_reducible refine LeO.ite ?_ ?_)
   | (with_reducible refine LeO.bind ?_ (fun _ => ?_))
   | exact ih0 _ _
   | exact ih1 _ _
   | exact LeO.none _
   | refine LeO.ite ?_ ?_
   | refine LeO.bind ?_ (fun _ => ?_)
theorem arith_kids.mono : ∀ a0 k, LeO (arith_kids.f k a0) (arith_kids.f (k + 1) a0) := by
 intro a0 k
 obtain ⟨ih0, ih1⟩ := arith_kids.mono_l k
 unfold arith_kids.f
 repeat' first
  | (with_reducible exact ih0 _ _)
  | (with_reducible exact ih1 _ _)
  | (with_reducible exact LeO.refl _)
  | (with_reducible exact LeO.none _)
  | (with_reducible refine LeO.ite ?_ ?_)
  | (with_reducible refine LeO.bind ?_ (fun _ => ?_))
  | exact ih0 _ _
  | exact ih1 _ _
  | exact LeO.none _
  | refine LeO.ite ?_ ?_
  | refine LeO.bind ?_ (fun _ => ?_)
set_option maxHeartbeats 8000000 in
set_option maxRecDepth 100000 in
theorem arith_kids.calls (k : Nat) (a0 : Int) (r : Int) (w : World) (h : arith_kids.f k a0 = some r) :
 Calls Tryd.prog 116 #[.int .i64 a0] w fun e w' => e = .returned (.int .i64 r) ∧ Drawn0 w w' := by
 have H : (if a0 = 1 then (arith_kids.j0 k a0 true) else (arith_kids.j0 k a0 (a0 == 2))) = some r := h
 clear h
 have HC2 := Aside0.mk H
 clear H
 go_enter Tryd.func116, Tryd.ntmps116
 go_upto_region 1 with (fail)
 go_cut [3] (fun v3 wc => ∃ (kq : Nat) (x3_1 : Bool), v3 = .bool x3_1 ∧ Aside0 (arith_kids.j0 kq a0 x3_1 = some r) ∧ Aside0 (kq ≤ k) ∧ Drawn0 w wc)
 case first =>
  have H := HC2.out
  clear HC2
  by_cases c3 : a0 = 1
  ·rw [if_pos c3] at H
   have c3b0 : (a0 == 1) = true := beq_iff_eq.mpr c3
   have c3b1 : (a0 != 1) = false := bne_eq_false_iff_eq.mpr c3
   clear c3
   (first | rw [c3b0] | (simp only [i64_w, i32_w]; rw [c3b0]) | skip)
   have H' := Aside0.mk H
   clear H
   go_wp2
   go_meet
   case rel => exact ⟨_, (true), (by first | rfl | (simp; done) | (simp [*]; done)), H', ⟨by first | omega | exact Nat.le_refl _⟩, by repeat (first | exact Drawn0.refl _ | apply Drawn0.step)⟩
  ·rw [if_neg c3] at H
   have c3b0 : (a0 == 1) = false := beq_eq_false_iff_ne.mpr c3
   have c3b1 : (a0 != 1) = true := bne_iff_ne.mpr c3
   (first | rw [c3b0] | (simp only [i64_w, i32_w]; rw [c3b0]) | skip)
   have H' := Aside0.mk H
   clear H
   go_wp2
   go_meet
   case rel => exact ⟨_, ((a0 == 2)), (by first | rfl | (simp; done) | (simp [*]; done)), H', ⟨by first | omega | exact Nat.le_refl _⟩, by repeat (first | exact Drawn0.refl _ | apply Drawn0.step)⟩
 case rest =>
  clear HC2
  try clear c1
  try clear p2
  try clear c3
  try clear c3b0
  try clear c3b1
  obtain ⟨kq, x3_1, rfl, HA, HJ1, ⟨mc1, rfl⟩⟩ := hcut
  cases kq with
  | zero => exact absurd HA.out (by simp [arith_kids.j0])
  | succ kj1 =>
   have H := HA.out
   clear HA
   simp only [arith_kids.j0] at H
   by_cases c4 : x3_1 = true
   ·subst c4
    have H1 : (some 0) = some r := by rw [if_pos rfl] at H; exact H
    clear H
    have H := H1
    clear H1
    obtain rfl := Option.some.inj H
    go_wp2
    go_ret
    exact ⟨by first | rfl | (simp; done) | (simp [*]; done), by repeat (first | exact Drawn0.refl _ | apply Drawn0.step)⟩
   ·replace c4 := Bool.eq_false_iff.mpr c4
    subst c4
    have H1 : (if a0 ≥ 3 then (if a0 ≤ 6 then (arith_kids.j1 kj1 a0 true) else (arith_kids.j1 kj1 a0 (a0 == 26))) else (arith_kids.j1 kj1 a0 (a0 == 26))) = some r := by rw [if_neg (show ¬ (false = true) by decide)] at H; exact H
    clear H
    have H := H1
    clear H1
    have HC5 := Aside0.mk H
    clear H
    go_upto_region 3 with (fail)
    go_cut [10] (fun v10 wc => ∃ (kq : Nat) (x10_4 : Bool), v10 = .bool x10_4 ∧ Aside0 (arith_kids.j1 kq a0 x10_4 = some r) ∧ Aside0 (kq ≤ kj1) ∧ Drawn0 w wc)
    case first =>
     have H := HC5.out
     clear HC5
     by_cases c6 : a0 ≥ 3
     ·rw [if_pos c6] at H
      have c6b0 : decide (3 ≤ a0) = true := decide_eq_true c6
      clear c6
      (first | rw [c6b0] | (simp only [i64_w, i32_w]; rw [c6b0]) | skip)
      by_cases c7 : a0 ≤ 6
      ·rw [if_pos c7] at H
       have c7b0 : decide (a0 ≤ 6) = true := decide_eq_true c7
       clear c7
       have H' := Aside0.mk H
       clear H
       go_wp2
       go_meet
       case rel => exact ⟨_, (true), (by first | rfl | (simp; done) | (simp [*]; done)), H', ⟨by have := HJ1.out; first | omega | exact Nat.le_refl _⟩, by repeat (first | exact Drawn0.refl _ | apply Drawn0.step)⟩
      ·rw [if_neg c7] at H
       have c7b0 : decide (a0 ≤ 6) = false := decide_eq_false c7
       clear c7
       have H' := Aside0.mk H
       clear H
       go_wp2
       go_meet
       case rel => exact ⟨_, ((a0 == 26)), (by first | rfl | (simp; done) | (simp [*]; done)), H', ⟨by have := HJ1.out; first | omega | exact Nat.le_refl _⟩, by repeat (first | exact Drawn0.refl _ | apply Drawn0.step)⟩
     ·rw [if_neg c6] at H
      have c6b0 : decide (3 ≤ a0) = false := decide_eq_false c6
      clear c6
      (first | rw [c6b0] | (simp only [i64_w, i32_w]; rw [c6b0]) | skip)
      have H' := Aside0.mk H
      clear H
      go_wp2
      go_meet
      case rel => exact ⟨_, ((a0 == 26)), (by first | rfl | (simp; done) | (simp [*]; done)), H', ⟨by have := HJ1.out; first | omega | exact Nat.le_refl _⟩, by repeat (first | exact Drawn0.refl _ | apply Drawn0.step)⟩
    case rest =>
     clear HC5
     try clear c1
     try clear p2
     try clear c3
     try clear c3b0
     try clear c3b1
     try clear c4
     try clear c6
     try clear c6b0
     try clear c7
     try clear c7b0
     try clear p2
     obtain ⟨kq, x10_4, rfl, HA, HJ4, ⟨mc4, rfl⟩⟩ := hcut
     cases kq with
     | zero => exact absurd HA.out (by simp [arith_kids.j1])
     | succ kj4 =>
      have H := HA.out
      clear HA
      simp only [arith_kids.j1] at H
      by_cases c8 : x10_4 = true
      ·subst c8
       have H1 : (some 1) = some r := by rw [if_pos rfl] at H; exact H
       clear H
       have H := H1
       clear H1
       obtain rfl := Option.some.inj H
       go_wp2
       go_ret
       exact ⟨by first | rfl | (simp; done) | (simp [*]; done), by repeat (first | exact Drawn0.refl _ | apply Drawn0.step)⟩
      ·replace c8 := Bool.eq_false_iff.mpr c8
       subst c8
       have H1 : (if a0 = 25 then (some 3) else (if a0 ≥ 7 then (if a0 ≤ 24 then (some 2) else (some (-1))) else (some (-1)))) = some r := by rw [if_neg (show ¬ (false = true) by decide)] at H; exact H
       clear H
       have H := H1
       clear H1
       by_cases c9 : a0 = 25
       ·rw [if_pos c9] at H
        have c9b0 : (a0 == 25) = true := beq_iff_eq.mpr c9
        have c9b1 : (a0 != 25) = false := bne_eq_false_iff_eq.mpr c9
        clear c9
        obtain rfl := Option.some.inj H
        go_wp2
        go_ret
        exact ⟨by first | rfl | (simp; done) | (simp [*]; done), by repeat (first | exact Drawn0.refl _ | apply Drawn0.step)⟩
       ·rw [if_neg c9] at H
        have c9b0 : (a0 == 25) = false := beq_eq_false_iff_ne.mpr c9
        have c9b1 : (a0 != 25) = true := bne_iff_ne.mpr c9
        by_cases c10 : a0 ≥ 7
        ·rw [if_pos c10] at H
         have c10b0 : decide (7 ≤ a0) = true := decide_eq_true c10
         clear c10
         by_cases c11 : a0 ≤ 24
         ·rw [if_pos c11] at H
          have c11b0 : decide (a0 ≤ 24) = true := decide_eq_true c11
          clear c11
          obtain rfl := Option.some.inj H
          go_wp2
          go_ret
          exact ⟨by first | rfl | (simp; done) | (simp [*]; done), by repeat (first | exact Drawn0.refl _ | apply Drawn0.step)⟩
         ·rw [if_neg c11] at H
          have c11b0 : decide (a0 ≤ 24) = false := decide_eq_false c11
          clear c11
          obtain rfl := Option.some.inj H
          go_wp2
          go_ret
          exact ⟨by first | rfl | (simp; done) | (simp [*]; done), by repeat (first | exact Drawn0.refl _ | apply Drawn0.step)⟩
        ·rw [if_neg c10] at H
         have c10b0 : decide (7 ≤ a0) = false := decide_eq_false c10
         clear c10
         obtain rfl := Option.some.inj H
         go_wp2
         go_ret
         exact ⟨by first | rfl | (simp; done) | (simp [*]; done), by repeat (first | exact Drawn0.refl _ | apply Drawn0.step)⟩
mutual
def arith_size.l0 : Nat → Int → List (S26) → Int → Int → Option (Int)
 | 0, _, _, _, _ => none
 | k + 1, x3, x7, x8, x9 => if x9 < x8 then (if 0 ≤ x9 then (if x9 < (x7.length : Int) then (if x3 > 4096 then (some x3) else ((arith_size.f k ((rd_T26 x7 x9).f0) ((rd_T26 x7 x9).f1) ((rd_T26 x7 x9).f2) ((rd_T26 x7 x9).f3)).bind fun t130 => (arith_size.l0 k (wrap64 (x3 + t130)) x7 x8 (wrap64 (x9 + 1))))) else (none)) else (none)) else (some x3)
def arith_size.f : Nat → Int → Int → ByteArray → List (S26) → Option (Int)
 | 0, _, _, _, _ => none
 | k + 1, a0_0, a0_1, a0_2, l0_3 => arith_size.l0 k 1 l0_3 (l0_3.length : Int) 0
end
theorem arith_size.mono_l : ∀ k, (∀ y0 y1 y2 y3, LeO (arith_size.f k y0 y1 y2 y3) (arith_size.f (k + 1) y0 y1 y2 y3)) ∧ (∀ y0 y1 y2 y3, LeO (arith_size.l0 k y0 y1 y2 y3) (arith_size.l0 (k + 1) y0 y1 y2 y3))
 | 0 => ⟨fun _ _ _ _ r h => by simp [arith_size.f] at h, fun _ _ _ _ r h => by simp [arith_size.l0] at h⟩
 | k + 1 => by
  obtain ⟨ih0, ih1⟩ := arith_size.mono_l k
  refine ⟨?_, ?_⟩
  ·intro y0 y1 y2 y3
   unfold arith_size.f
   repeat' first
   | (with_reducible exact ih0 _ _ _ _)
   | (with_reducible exact ih1 _ _ _ _)
   | (with_reducible exact LeO.refl _)
   | (with_reducible exact LeO.none _)
   | (with_reducible refine LeO.ite ?_ ?_)
   | (with_reducible refine LeO.bind ?_ (fun _ => ?_))
   | exact ih0 _ _ _ _
   | exact ih1 _ _ _ _
   | exact LeO.none _
   | refine LeO.ite ?_ ?_
   | refine LeO.bind ?_ (fun _ => ?_)
  ·intro y0 y1 y2 y3
   unfold arith_size.l0
   repeat' first
   | (with_reducible exact ih0 _ _ _ _)
   | (with_reducible exact ih1 _ _ _ _)
   | (with_reducible exact LeO.refl _)
   | (with_reducible exact LeO.none _)
   | (with_reducible refine LeO.ite ?_ ?_)
   | (with_reducible refine LeO.bind ?_ (fun _ => ?_))
   | exact ih0 _ _ _ _
   | exact ih1 _ _ _ _
   | exact LeO.none _
   | refine LeO.ite ?_ ?_
   | refine LeO.bind ?_ (fun _ => ?_)
theorem arith_size.mono : ∀ a0 a1 a2 a3 k, LeO (arith_size.f k a0 a1 a2 a3) (arith_size.f (k + 1) a0 a1 a2 a3) := by
 intro a0 a1 a2 a3 k
 obtain ⟨ih0, ih1⟩ := arith_size.mono_l k
 exact ih0 a0 a1 a2 a3
set_option maxHeartbeats 8000000 in
set_option maxRecDepth 100000 in
theorem arith_size.calls (k : Nat) : ∀ (a0_0 : Int) (a0_1 : Int) (a0_2 : ByteArray) (A0_3 : Option Addr) (c0_3 : Nat) (l0_3 : List (S26)) (r : Int) (w : World) (hr0_3 : Kd.C k26 w A0_3 l0_3.length l0_3) (hc0_3 : l0_3.length ≤ c0_3) (h : arith_size.f k a0_0 a0_1 a0_2 l0_3 = some r),
 Calls Tryd.prog 51 #[.agg #[.int .i64 a0_0, .int .i64 a0_1, .string a0_2, .slice A0_3 l0_3.length c0_3]] w fun e w' => e = .returned (.int .i64 r) ∧ Below w.heap.size w w' := by
 induction k using Nat.strongRecOn with
 | _ k ih =>
 intro a0_0 a0_1 a0_2 A0_3 c0_3 l0_3 r w hr0_3 hc0_3 h
 cases k with
 | zero => exact absurd h (by simp [arith_size.f])
 | succ k =>
 simp only [arith_size.f] at h
 have hu26 := Tryd.underlying26
 have HR0_3 := Aside0.mk hr0_3
 have HC0_3 := Aside0.mk hc0_3
 clear hr0_3 hc0_3
 have HB := Aside0.mk (Below.refl w.heap.size w)
 have H : (arith_size.l0 k 1 l0_3 (l0_3.length : Int) 0) = some r := h
 clear h
 have H' := Aside0.mk H
 clear H
 go_enter Tryd.func51, Tryd.ntmps51
 go_wp2_with (first | ((with_reducible refine gate_dst (N := 1) rfl ?_); refine box_event ?hg (N := 1) ?hd (cs := #[.int .i64 a0_0, .int .i64 a0_1, .string a0_2, .slice A0_3 l0_3.length c0_3]) (t := 26) ?hr ?_; (case hd => rfl); (case hg => rfl); (case hr => first | (go_simp; done) | (go_simp; rfl)); intro gb127 hg w2 hbox hb; have n0_ := Aside0.mk (below_step (by repeat (first | (with_reducible first | exact HB.out | apply below_alloc | apply pw_below_drewN | apply below_drew1) | exact HB.out)) hb); have n1_ := Aside0.mk (hbox); have n2_ := Aside0.mk ((by rw [hg]; exact (below_size (by repeat (first | (with_reducible first | exact HB.out | apply below_alloc | apply pw_below_drewN | apply below_drew1) | exact HB.out))) : w.heap.size ≤ gb127)); have n3_ := Aside0.mk ((by rw [hg]; exact (below_size (by repeat (first | (with_reducible first | exact HB.out | apply below_alloc | apply pw_below_drewN | apply below_drew1) | exact HB.out))) : w.heap.size ≤ gb127)); clear HB; have HB := n0_; have BK127 := n1_; have GW127 := n2_; have GE127 := n3_; clear n0_ n1_ n2_ n3_; clear hb hbox hg; have hcz3_0 : w2.cell? ⟨gb127, 0, none⟩ = some (.int .i64 a0_0) := (blk_cell BK127.out 0).trans rfl; have hcz3_1 : w2.cell? ⟨gb127, 1, none⟩ = some (.int .i64 a0_1) := (blk_cell BK127.out 1).trans rfl; have hcz3_2 : w2.cell? ⟨gb127, 2, none⟩ = some (.string a0_2) := (blk_cell BK127.out 2).trans rfl; have hcz3_3 : w2.cell? ⟨gb127, 3, none⟩ = some (.slice A0_3 l0_3.length c0_3) := (blk_cell BK127.out 3).trans rfl; have hfz3_0 := blk_frozen BK127.out 0; have hfz3_1 := blk_frozen BK127.out 1; have hfz3_2 := blk_frozen BK127.out 2; have hfz3_3 := blk_frozen BK127.out 3))
 go_loopg [3, 9] k (fun kq v3 v9 w' => ∃ (x3_1 : Int) (x9_1 : Int), v3 = .int .i64 x3_1 ∧ v9 = .int .i64 x9_1 ∧ Aside0 (arith_size.l0 kq x3_1 l0_3 (l0_3.length : Int) x9_1 = some r) ∧ Aside0 (kq ≤ k) ∧ Aside0 (w'.heap[gb127]? = some (.cells #[.int .i64 a0_0, .int .i64 a0_1, .string a0_2, (.slice A0_3 l0_3.length c0_3)] 26 (0, 0))) ∧ Aside0 (Below w.heap.size w w'))
 case atStart => exact ⟨(1), (0), (by first | rfl | (simp; done) | (simp [*]; done)), (by first | rfl | (simp; done) | (simp [*]; done)), H', ⟨Nat.le_refl _⟩, ⟨by (with_reducible repeat (first | refine blk_drewN ?_ _ | refine blk_drew ?_ | refine blk_alloc ?_ _)); exact BK127.out⟩, ⟨by repeat (first | (with_reducible first | exact HB.out | apply below_alloc | apply pw_below_drewN | apply below_drew1 | refine below_set ?_ GE127.out) | exact HB.out)⟩⟩
 case round =>
  clear H'
  try clear p2
  try clear hcz3_0
  try clear hcz3_1
  try clear hcz3_2
  try clear hcz3_3
  try clear hfz3_0
  try clear hfz3_1
  try clear hfz3_2
  try clear hfz3_3
  obtain ⟨x3_1, x9_1, rfl, rfl, HA, HK1, BK127, HB⟩ := hrel
  cases gk with
  | zero => exact absurd HA.out (by simp [arith_size.l0])
  | succ k1 =>
   have H := HA.out
   clear HA
   simp only [arith_size.l0] at H
   by_cases c4 : x9_1 < (l0_3.length : Int)
   ·rw [if_pos c4] at H
    have c4b0 : decide (x9_1 < (l0_3.length : Int)) = true := decide_eq_true c4
    clear c4
    by_cases c5 : 0 ≤ x9_1
    ·rw [if_pos c5] at H
     have c5b0 : decide (0 ≤ x9_1) = true := decide_eq_true c5
     clear c5
     by_cases c6 : x9_1 < (l0_3.length : Int)
     ·rw [if_pos c6] at H
      have c6b0 : decide (x9_1 < (l0_3.length : Int)) = true := decide_eq_true c6
      clear c6
      by_cases c7 : x3_1 > 4096
      ·rw [if_pos c7] at H
       have c7b0 : decide (4096 < x3_1) = true := decide_eq_true c7
       clear c7
       obtain rfl := Option.some.inj H
       have p128 : 0 ≤ (x9_1 : Int) := of_decide_eq_true (by first | (with_reducible assumption) | assumption)
       have q128 : x9_1 < (l0_3.length : Int) := of_decide_eq_true (by first | (with_reducible assumption) | assumption)
       obtain ⟨ad128, A128_3, c128_3, e128, hx128_0, hx128_1, hx128_2, hx128_3, hl128_3, hi128_3⟩ := at_T26 HR0_3.out x9_1 p128 q128
       cases e128
       replace hx128_0 := (HB.out.cell (World.block_lt_of_cell? w _ hx128_0)).trans hx128_0
       replace hx128_1 := (HB.out.cell (World.block_lt_of_cell? w _ hx128_1)).trans hx128_1
       replace hx128_2 := (HB.out.cell (World.block_lt_of_cell? w _ hx128_2)).trans hx128_2
       replace hx128_3 := (HB.out.cell (World.block_lt_of_cell? w _ hx128_3)).trans hx128_3
       have HR128_3 := Aside0.mk hi128_3
       have HC128_3 := Aside0.mk hl128_3
       clear hi128_3 hl128_3
       replace p128 := eq_true p128
       replace q128 := eq_true q128
       go_wp2_with (first | ((with_reducible refine gate_dst (N := 5) rfl ?_); refine box_event ?hg (N := 5) ?hd (cs := #[.int .i64 0, .int .i64 0, .string (⟨#[]⟩ : ByteArray), .slice none 0 0]) (t := 26) ?hr ?_; (case hd => rfl); (case hg => rfl); (case hr => first | (go_simp; done) | (go_simp; rfl)); intro gb129 hg w8 hbox hb; have n0_ := Aside0.mk (blk_below (g := gb127) (o := .cells #[.int .i64 a0_0, .int .i64 a0_1, .string a0_2, .slice (some ad128) l0_3.length c0_3] 26 (0, 0)) (by (with_reducible repeat (first | refine blk_drewN ?_ _ | refine blk_drew ?_ | refine blk_alloc ?_ _)); exact BK127.out) hb); have n1_ := Aside0.mk (below_step (by repeat (first | (with_reducible first | exact HB.out | apply below_alloc | apply pw_below_drewN | apply below_drew1 | refine below_set ?_ GE127.out) | exact HB.out)) hb); have n2_ := Aside0.mk (hbox); have n3_ := Aside0.mk ((by rw [hg]; exact (below_size (by repeat (first | (with_reducible first | exact HB.out | apply below_alloc | apply pw_below_drewN | apply below_drew1 | refine below_set ?_ GE127.out) | exact HB.out))) : w.heap.size ≤ gb129)); have n4_ := Aside0.mk ((by rw [hg]; exact (below_size (by repeat (first | (with_reducible first | exact HB.out | apply below_alloc | apply pw_below_drewN | apply below_drew1 | refine below_set ?_ GE127.out) | exact HB.out))) : w.heap.size ≤ gb129)); have n5_ := Aside0.mk ((by rw [hg]; exact Nat.ne_of_lt (blk_lt (g := gb127) (o := .cells #[.int .i64 a0_0, .int .i64 a0_1, .string a0_2, .slice (some ad128) l0_3.length c0_3] 26 (0, 0)) (by (with_reducible repeat (first | refine blk_drewN ?_ _ | refine blk_drew ?_ | refine blk_alloc ?_ _)); exact BK127.out)) : gb127 ≠ gb129)); have n6_ := Aside0.mk ((by rw [hg]; exact Nat.ne_of_gt (blk_lt (g := gb127) (o := .cells #[.int .i64 a0_0, .int .i64 a0_1, .string a0_2, .slice (some ad128) l0_3.length c0_3] 26 (0, 0)) (by (with_reducible repeat (first | refine blk_drewN ?_ _ | refine blk_drew ?_ | refine blk_alloc ?_ _)); exact BK127.out)) : gb129 ≠ gb127)); clear BK127; clear HB; have BK127 := n0_; have HB := n1_; have BK129 := n2_; have GW129 := n3_; have GE129 := n4_; have NB127_129 := n5_; have NB129_127 := n6_; clear n0_ n1_ n2_ n3_ n4_ n5_ n6_; clear hb hbox hg; have hnb9 := NB129_127.out; have hnc9 := NB127_129.out; have hcz10_0 : w8.cell? ⟨gb129, 0, none⟩ = some (.int .i64 0) := (blk_cell BK129.out 0).trans rfl; have hcz10_1 : w8.cell? ⟨gb129, 1, none⟩ = some (.int .i64 0) := (blk_cell BK129.out 1).trans rfl; have hcz10_2 : w8.cell? ⟨gb129, 2, none⟩ = some (.string (⟨#[]⟩ : ByteArray)) := (blk_cell BK129.out 2).trans rfl; have hcz10_3 : w8.cell? ⟨gb129, 3, none⟩ = some (.slice none 0 0) := (blk_cell BK129.out 3).trans rfl; have hfz10_0 := blk_frozen BK129.out 0; have hfz10_1 := blk_frozen BK129.out 1; have hfz10_2 := blk_frozen BK129.out 2; have hfz10_3 := blk_frozen BK129.out 3))
       go_ret
       exact ⟨by first | rfl | (simp [errW_none, errW_some] <;> rfl) | (simp [*, errW_none, errW_some] <;> rfl), by repeat (first | (with_reducible first | exact HB.out | apply below_alloc | apply pw_below_drewN | apply below_drew1 | refine below_set ?_ GE127.out | refine below_set ?_ GE129.out) | exact HB.out)⟩
      ·rw [if_neg c7] at H
       have c7b0 : decide (4096 < x3_1) = false := decide_eq_false c7
       clear c7
       replace H := Option.bind_eq_some_iff.mp H
       obtain ⟨t130, A110, H⟩ := H
       replace H : (arith_size.l0 k1 (wrap64 (x3_1 + t130)) l0_3 (l0_3.length : Int) (wrap64 (x9_1 + 1))) = some r := H
       have A11 := Aside0.mk A110
       clear A110
       have H' := Aside0.mk H
       clear H
       have p128 : 0 ≤ (x9_1 : Int) := of_decide_eq_true (by first | (with_reducible assumption) | assumption)
       have q128 : x9_1 < (l0_3.length : Int) := of_decide_eq_true (by first | (with_reducible assumption) | assumption)
       obtain ⟨ad128, A128_3, c128_3, e128, hx128_0, hx128_1, hx128_2, hx128_3, hl128_3, hi128_3⟩ := at_T26 HR0_3.out x9_1 p128 q128
       cases e128
       replace hx128_0 := (HB.out.cell (World.block_lt_of_cell? w _ hx128_0)).trans hx128_0
       replace hx128_1 := (HB.out.cell (World.block_lt_of_cell? w _ hx128_1)).trans hx128_1
       replace hx128_2 := (HB.out.cell (World.block_lt_of_cell? w _ hx128_2)).trans hx128_2
       replace hx128_3 := (HB.out.cell (World.block_lt_of_cell? w _ hx128_3)).trans hx128_3
       have HR128_3 := Aside0.mk hi128_3
       have HC128_3 := Aside0.mk hl128_3
       clear hi128_3 hl128_3
       replace p128 := eq_true p128
       replace q128 := eq_true q128
       go_wp2_with (first | ((with_reducible refine gate_dst (N := 5) rfl ?_); refine box_event ?hg (N := 5) ?hd (cs := #[.int .i64 0, .int .i64 0, .string (⟨#[]⟩ : ByteArray), .slice none 0 0]) (t := 26) ?hr ?_; (case hd => rfl); (case hg => rfl); (case hr => first | (go_simp; done) | (go_simp; rfl)); intro gb129 hg w12 hbox hb; have n0_ := Aside0.mk (blk_below (g := gb127) (o := .cells #[.int .i64 a0_0, .int .i64 a0_1, .string a0_2, .slice (some ad128) l0_3.length c0_3] 26 (0, 0)) (by (with_reducible repeat (first | refine blk_drewN ?_ _ | refine blk_drew ?_ | refine blk_alloc ?_ _)); exact BK127.out) hb); have n1_ := Aside0.mk (below_step (by repeat (first | (with_reducible first | exact HB.out | apply below_alloc | apply pw_below_drewN | apply below_drew1 | refine below_set ?_ GE127.out) | exact HB.out)) hb); have n2_ := Aside0.mk (hbox); have n3_ := Aside0.mk ((by rw [hg]; exact (below_size (by repeat (first | (with_reducible first | exact HB.out | apply below_alloc | apply pw_below_drewN | apply below_drew1 | refine below_set ?_ GE127.out) | exact HB.out))) : w.heap.size ≤ gb129)); have n4_ := Aside0.mk ((by rw [hg]; exact (below_size (by repeat (first | (with_reducible first | exact HB.out | apply below_alloc | apply pw_below_drewN | apply below_drew1 | refine below_set ?_ GE127.out) | exact HB.out))) : w.heap.size ≤ gb129)); have n5_ := Aside0.mk ((by rw [hg]; exact Nat.ne_of_lt (blk_lt (g := gb127) (o := .cells #[.int .i64 a0_0, .int .i64 a0_1, .string a0_2, .slice (some ad128) l0_3.length c0_3] 26 (0, 0)) (by (with_reducible repeat (first | refine blk_drewN ?_ _ | refine blk_drew ?_ | refine blk_alloc ?_ _)); exact BK127.out)) : gb127 ≠ gb129)); have n6_ := Aside0.mk ((by rw [hg]; exact Nat.ne_of_gt (blk_lt (g := gb127) (o := .cells #[.int .i64 a0_0, .int .i64 a0_1, .string a0_2, .slice (some ad128) l0_3.length c0_3] 26 (0, 0)) (by (with_reducible repeat (first | refine blk_drewN ?_ _ | refine blk_drew ?_ | refine blk_alloc ?_ _)); exact BK127.out)) : gb129 ≠ gb127)); clear BK127; clear HB; have BK127 := n0_; have HB := n1_; have BK129 := n2_; have GW129 := n3_; have GE129 := n4_; have NB127_129 := n5_; have NB129_127 := n6_; clear n0_ n1_ n2_ n3_ n4_ n5_ n6_; clear hb hbox hg; have hnb13 := NB129_127.out; have hnc13 := NB127_129.out; have hcz14_0 : w12.cell? ⟨gb129, 0, none⟩ = some (.int .i64 0) := (blk_cell BK129.out 0).trans rfl; have hcz14_1 : w12.cell? ⟨gb129, 1, none⟩ = some (.int .i64 0) := (blk_cell BK129.out 1).trans rfl; have hcz14_2 : w12.cell? ⟨gb129, 2, none⟩ = some (.string (⟨#[]⟩ : ByteArray)) := (blk_cell BK129.out 2).trans rfl; have hcz14_3 : w12.cell? ⟨gb129, 3, none⟩ = some (.slice none 0 0) := (blk_cell BK129.out 3).trans rfl; have hfz14_0 := blk_frozen BK129.out 0; have hfz14_1 := blk_frozen BK129.out 1; have hfz14_2 := blk_frozen BK129.out 2; have hfz14_3 := blk_frozen BK129.out 3) | ((with_reducible refine gate_callee (f := 51) rfl ?_); refine goesL_ (some 18) rfl rfl Tryd.func51 (by kernel_rfl) rfl #[.agg #[.int .i64 ((rd_T26 l0_3 x9_1).f0), .int .i64 ((rd_T26 l0_3 x9_1).f1), .string ((rd_T26 l0_3 x9_1).f2), .slice A128_3 ((rd_T26 l0_3 x9_1).f3).length c128_3]] rfl (by (try simp only [List.map_toArray, List.map_cons, List.map_nil]); first | done | rfl | (simp only [List.length_drop, List.length_take]; rfl)) ?_; (with_reducible refine (ih k1 (by have := HK1.out; omega) ((rd_T26 l0_3 x9_1).f0) ((rd_T26 l0_3 x9_1).f1) ((rd_T26 l0_3 x9_1).f2) _ _ ((rd_T26 l0_3 x9_1).f3) t130 _ ?side1 ?side2 A11.out).mono ?_); (case side1 => exact Kd.C_below HR128_3.out (by repeat (first | (with_reducible first | exact HB.out | apply below_alloc | apply pw_below_drewN | apply below_drew1 | refine below_set ?_ GE127.out | refine below_set ?_ GE129.out) | exact HB.out))); (case side2 => exact HC128_3.out); rintro e w15 ⟨rfl, hb⟩; refine ⟨_, rfl, ?_⟩; have n0_ := Aside0.mk (blk_below (g := gb127) (o := .cells #[.int .i64 a0_0, .int .i64 a0_1, .string a0_2, .slice (some ad128) l0_3.length c0_3] 26 (0, 0)) (by (with_reducible repeat (first | refine blk_drewN ?_ _ | refine blk_drew ?_ | refine blk_alloc ?_ _)); refine blk_far ?_ NB127_129.out _; (with_reducible repeat (first | refine blk_drewN ?_ _ | refine blk_drew ?_ | refine blk_alloc ?_ _)); refine blk_far ?_ NB127_129.out _; (with_reducible repeat (first | refine blk_drewN ?_ _ | refine blk_drew ?_ | refine blk_alloc ?_ _)); refine blk_far ?_ NB127_129.out _; (with_reducible repeat (first | refine blk_drewN ?_ _ | refine blk_drew ?_ | refine blk_alloc ?_ _)); refine blk_far ?_ NB127_129.out _; (with_reducible repeat (first | refine blk_drewN ?_ _ | refine blk_drew ?_ | refine blk_alloc ?_ _)); exact BK127.out) hb); have n1_ := Aside0.mk (blk_below (g := gb129) (o := .cells #[.int .i64 ((rd_T26 l0_3 x9_1).f0), .int .i64 ((rd_T26 l0_3 x9_1).f1), .string ((rd_T26 l0_3 x9_1).f2), .slice A128_3 ((rd_T26 l0_3 x9_1).f3).length c128_3] 26 (0, 0)) (by (with_reducible repeat (first | refine blk_drewN ?_ _ | refine blk_drew ?_ | refine blk_alloc ?_ _)); refine blk_put (cs := #[.int .i64 ((rd_T26 l0_3 x9_1).f0), .int .i64 ((rd_T26 l0_3 x9_1).f1), .string ((rd_T26 l0_3 x9_1).f2), .slice none 0 0]) ?_ 3 _ rfl; (with_reducible repeat (first | refine blk_drewN ?_ _ | refine blk_drew ?_ | refine blk_alloc ?_ _)); refine blk_put (cs := #[.int .i64 ((rd_T26 l0_3 x9_1).f0), .int .i64 ((rd_T26 l0_3 x9_1).f1), .string (⟨#[]⟩ : ByteArray), .slice none 0 0]) ?_ 2 _ rfl; (with_reducible repeat (first | refine blk_drewN ?_ _ | refine blk_drew ?_ | refine blk_alloc ?_ _)); refine blk_put (cs := #[.int .i64 ((rd_T26 l0_3 x9_1).f0), .int .i64 0, .string (⟨#[]⟩ : ByteArray), .slice none 0 0]) ?_ 1 _ rfl; (with_reducible repeat (first | refine blk_drewN ?_ _ | refine blk_drew ?_ | refine blk_alloc ?_ _)); refine blk_put (cs := #[.int .i64 0, .int .i64 0, .string (⟨#[]⟩ : ByteArray), .slice none 0 0]) ?_ 0 _ rfl; (with_reducible repeat (first | refine blk_drewN ?_ _ | refine blk_drew ?_ | refine blk_alloc ?_ _)); exact BK129.out) hb); have n2_ := Aside0.mk (below_step (by repeat (first | (with_reducible first | exact HB.out | apply below_alloc | apply pw_below_drewN | apply below_drew1 | refine below_set ?_ GE127.out | refine below_set ?_ GE129.out) | exact HB.out)) hb); clear BK127; clear BK129; clear HB; have BK127 := n0_; have BK129 := n1_; have HB := n2_; clear n0_ n1_ n2_; (try clear hb); (try clear hb2); (try clear hk); (try clear hi)))
       go_roundg k1
       case measure => have := HK1.out; omega
       case rel => exact ⟨(wrap64 (x3_1 + t130)), (wrap64 (x9_1 + 1)), (by first | rfl | (simp; done) | (simp [*]; done)), (by first | rfl | (simp; done) | (simp [*]; done)), H', ⟨by have := HK1.out; omega⟩, ⟨by (with_reducible repeat (first | refine blk_drewN ?_ _ | refine blk_drew ?_ | refine blk_alloc ?_ _)); exact BK127.out⟩, ⟨by repeat (first | (with_reducible first | exact HB.out | apply below_alloc | apply pw_below_drewN | apply below_drew1 | refine below_set ?_ GE127.out | refine below_set ?_ GE129.out) | exact HB.out)⟩⟩
     ·rw [if_neg c6] at H
      exact absurd H (by simp)
    ·rw [if_neg c5] at H
     exact absurd H (by simp)
   ·rw [if_neg c4] at H
    have c4b0 : decide (x9_1 < (l0_3.length : Int)) = false := decide_eq_false c4
    clear c4
    obtain rfl := Option.some.inj H
    go_wp2
    go_ret
    exact ⟨by first | rfl | (simp [errW_none, errW_some] <;> rfl) | (simp [*, errW_none, errW_some] <;> rfl), by repeat (first | (with_reducible first | exact HB.out | apply below_alloc | apply pw_below_drewN | apply below_drew1 | refine below_set ?_ GE127.out) | exact HB.out)⟩
end Go.Proofs.YtglmdfddgmkmaaaDoor.Q
end
section
namespace Go.Proofs.YtglmdfddgmkmaaaDoor.Q
open Go.RowKit Go.Proofs.YtglmdfddgmkmaaaDoorW.PrintWords Go.Proofs.YtglmdfddgmkmaaaDoorW.PrintLast Go.Proofs.YtglmdfddgmkmaaaDoorW.PrintMore
attribute [local go_sem] max2_int min2_int max_two min_two max_three min_three max_four min_four
set_option linter.unusedVariables false
set_option linter.unusedSimpArgs false
theorem nextP_le (s : ByteArray) (p : Nat) (t : ByteArray) (h : p + t.size ≤ s.size) : p + t.size ≤ nextP s p t ∧ nextP s p t ≤ s.size := skipB_le s _ h
theorem nextT_size (s : ByteArray) (p : Nat) (t : ByteArray) : (nextT s p t).size = tokN (s.extract (nextP s p t) s.size) := by
 have := tokN_le (s.extract (nextP s p t) s.size)
 unfold nextT
 simp only [ByteArray.size_extract] at *
 omega
theorem next_fits (s : ByteArray) (p : Nat) (t : ByteArray) (h : p + t.size ≤ s.size) : nextP s p t + (nextT s p t).size ≤ s.size := by
 have h1 := nextP_le s p t h
 have h2 := tokN_le (s.extract (nextP s p t) s.size)
 rw [nextT_size]
 simp only [ByteArray.size_extract] at h2
 omega
/-- Is the byte before place n, blanks left out, another one than a closing parenthesis? -/
def bareN (s : ByteArray) : Nat → Bool
 | 0 => false
 | n + 1 => if isBl (bt s n) = true then bareN s n else !(bt s n == 41)
/-- Is a string a name? (chars.Name) -/
def lett (c : Int) : Bool := (decide (97 ≤ c) && decide (c ≤ 122)) || (decide (65 ≤ c) && decide (c ≤ 90))
def dgt (c : Int) : Bool := decide (48 ≤ c) && decide (c ≤ 57)
def nameC (c : Int) (i : Nat) : Bool := c == 95 || lett c || (decide (0 < i) && dgt c)
def nameAll (t : ByteArray) : Nat → Nat → Bool
 | 0, _ => true
 | f + 1, i => if i < t.size then (nameC (bt t i) i && nameAll t f (i + 1)) else true
def nameB (t : ByteArray) : Bool := decide (0 < t.size) && decide (t.size ≤ 32) && nameAll t t.size 0
/-- A fault: where, and the error's number; or a tree, the place of the token behind it, and that token. -/
abbrev PRes := Option (Except (Nat × Int) (S26 × Nat × ByteArray))
def ebind (x : PRes) (f : S26 → Nat → ByteArray → PRes) : PRes :=
 match x with
 | none => none
 | some (.error e) => some (.error e)
 | some (.ok (a, b, c)) => f a b c
inductive Gl where
 | first
 | second
 | level (n : Nat)
 | more (n : Nat) (x : S26)
 | operand
def noName : ByteArray := ⟨#[]⟩
/-- The parser: k rounds at the most; s is read from the token t at place p on. -/
def pr (s : ByteArray) : Nat → Gl → Nat → ByteArray → PRes
 | 0, _, _, _ => none
 | k + 1, .first, p, t => ebind (pr s k .second p t) fun x p1 t1 =>
  match arith_assignment.f 1 t1 with
  | none => none
  | some (op, is) =>
   if is = true ∧ x.f0 = 2 ∧ bareN s p1 = true then ebind (pr s k .first (nextP s p1 t1) (nextT s p1 t1)) fun y p2 t2 => some (.ok (⟨26, op, x.f2, [y]⟩, p2, t2))
   else some (.ok (x, p1, t1))
 | k + 1, .second, p, t => ebind (pr s k (.level 3) p t) fun x p1 t1 =>
  if t1.toList = [63] then ebind (pr s k .first (nextP s p1 t1) (nextT s p1 t1)) fun y p2 t2 =>
   if t2.toList = [58] then ebind (pr s k .second (nextP s p2 t2) (nextT s p2 t2)) fun z p3 t3 => some (.ok (⟨25, 0, noName, [x, y, z]⟩, p3, t3))
   else some (.error (p2, 6))
  else some (.ok (x, p1, t1))
 | k + 1, .level n, p, t => if n = 13 then pr s k .operand p t else ebind (pr s k (.level (n + 1)) p t) fun x p1 t1 => pr s k (.more n x) p1 t1
 | k + 1, .more n x, p, t =>
  match arith_binary.f t with
  | none => none
  | some (op, l) => if l = (n : Int) then ebind (pr s k (.level (n + 1)) (nextP s p t) (nextT s p t)) fun y p1 t1 => pr s k (.more n ⟨op, 0, noName, [x, y]⟩) p1 t1 else some (.ok (x, p, t))
 | k + 1, .operand, p, t =>
  match arith_unary.f t with
  | none => none
  | some op =>
   if ¬ op = 0 then ebind (pr s k .operand (nextP s p t) (nextT s p t)) fun y p1 t1 => some (.ok (⟨op, 0, noName, [y]⟩, p1, t1))
   else if t.toList = [40] then ebind (pr s k .first (nextP s p t) (nextT s p t)) fun y p1 t1 => if t1.toList = [41] then some (.ok (y, nextP s p1 t1, nextT s p1 t1)) else some (.error (p1, 6))
   else if t.size = 0 ∨ ¬ arith_wordByte.f (bt t 0) = some true then some (.error (p, 6))
   else if arith_digit.f (bt t 0) = some true then
    match arith_number.f (t.size + 3) t with
    | none => none
    | some (n, e) => if e = 0 then some (.ok (⟨1, n, noName, []⟩, nextP s p t, nextT s p t)) else some (.error (p, e))
   else if nameB t = true then some (.ok (⟨2, 0, t, []⟩, nextP s p t, nextT s p t)) else some (.error (p, 10))
theorem ebind_ok {x : PRes} {f : S26 → Nat → ByteArray → PRes} {r : S26 × Nat × ByteArray} (h : ebind x f = some (.ok r)) : ∃ a b c, x = some (.ok (a, b, c)) ∧ f a b c = some (.ok r) := by
 unfold ebind at h
 split at h
 ·simp at h
 ·simp at h
 ·exact ⟨_, _, _, rfl, h⟩
/-- The token behind what was read lies in the text. -/
theorem pr_fits (s : ByteArray) : ∀ (k : Nat) (gl : Gl) (p : Nat) (t : ByteArray) (x : S26) (p' : Nat) (t' : ByteArray), p + t.size ≤ s.size → pr s k gl p t = some (.ok (x, p', t')) → p' + t'.size ≤ s.size := by
 intro k
 induction k with
 | zero => intro gl p t x p' t' _ h; simp [pr] at h
 | succ k ih =>
  intro gl p t x p' t' hp h
  cases gl with
  | first =>
   simp only [pr] at h
   obtain ⟨a, b, c, h1, h2⟩ := ebind_ok h
   have i1 := ih _ _ _ _ _ _ hp h1
   split at h2
   ·simp at h2
   ·split at h2
    ·obtain ⟨a2, b2, c2, h3, h4⟩ := ebind_ok h2
     have i2 := ih _ _ _ _ _ _ (next_fits s _ _ i1) h3
     simp at h4
     obtain ⟨_, rfl, rfl⟩ := h4
     exact i2
    ·simp at h2
     obtain ⟨_, rfl, rfl⟩ := h2
     exact i1
  | second =>
   simp only [pr] at h
   obtain ⟨a, b, c, h1, h2⟩ := ebind_ok h
   have i1 := ih _ _ _ _ _ _ hp h1
   split at h2
   ·obtain ⟨a2, b2, c2, h3, h4⟩ := ebind_ok h2
    have i2 := ih _ _ _ _ _ _ (next_fits s _ _ i1) h3
    split at h4
    ·obtain ⟨a3, b3, c3, h5, h6⟩ := ebind_ok h4
     have i3 := ih _ _ _ _ _ _ (next_fits s _ _ i2) h5
     simp at h6
     obtain ⟨_, rfl, rfl⟩ := h6
     exact i3
    ·simp at h4
   ·simp at h2
    obtain ⟨_, rfl, rfl⟩ := h2
    exact i1
  | level n =>
   simp only [pr] at h
   split at h
   ·exact ih _ _ _ _ _ _ hp h
   ·obtain ⟨a, b, c, h1, h2⟩ := ebind_ok h
    exact ih _ _ _ _ _ _ (ih _ _ _ _ _ _ hp h1) h2
  | more n x0 =>
   simp only [pr] at h
   split at h
   ·simp at h
   ·split at h
    ·obtain ⟨a, b, c, h1, h2⟩ := ebind_ok h
     exact ih _ _ _ _ _ _ (ih _ _ _ _ _ _ (next_fits s _ _ hp) h1) h2
    ·simp at h
     obtain ⟨_, rfl, rfl⟩ := h
     exact hp
  | operand =>
   simp only [pr] at h
   split at h
   ·simp at h
   ·split at h
    ·obtain ⟨a, b, c, h1, h2⟩ := ebind_ok h
     simp at h2
     obtain ⟨_, rfl, rfl⟩ := h2
     exact ih _ _ _ _ _ _ (next_fits s _ _ hp) h1
    ·split at h
     ·obtain ⟨a, b, c, h1, h2⟩ := ebind_ok h
      have i1 := ih _ _ _ _ _ _ (next_fits s _ _ hp) h1
      split at h2
      ·simp at h2
       obtain ⟨_, rfl, rfl⟩ := h2
       exact next_fits s _ _ i1
      ·simp at h2
     ·split at h
      ·simp at h
      ·split at h
       ·split at h
        ·simp at h
        ·split at h
         ·simp at h
          obtain ⟨_, rfl, rfl⟩ := h
          exact next_fits s _ _ hp
         ·simp at h
       ·split at h
        ·simp at h
         obtain ⟨_, rfl, rfl⟩ := h
         exact next_fits s _ _ hp
        ·simp at h
def faultV (p : Nat) (e : Int) : List PanicEntry := [{ v := .iface 62 (.agg #[.int .i64 p, .int .i64 e]), recovered := false }]
set_option maxRecDepth 100000 in
theorem expect_yes (g : Nat) (s tok u : ByteArray) (p : Nat) (w0 w : World) (hI : IsS65 w0 w g s p tok) (hB : Below w0.heap.size w0 w) (h1 : p + tok.size ≤ s.size) (h2 : s.size ≤ 4096) (hu : tok.toList = u.toList) :
 Calls Tryd.prog 106 #[.pointer (some ⟨g, 0, none⟩), .string u] w fun en w' => en = .returned (.tuple #[]) ∧ IsS65 w0 w' g s (nextP s p tok) (nextT s p tok) ∧ Below w0.heap.size w0 w' ∧ KeepBut w w' g none := by
 have q : (tok.toList == u.toList) = true := by simpa using hu
 have Hh := Aside0.mk (And.intro h1 h2)
 have HI := Aside0.mk hI
 have HB := Aside0.mk hB
 clear hu h1 h2
 obtain ⟨HG, hg⟩ := hI
 have c0 := cellS65_0 HG
 have c1 := cellS65_1 HG
 have c2 := cellS65_2 HG
 clear HG hg hB
 have hu65 := Tryd.underlying65
 go_enter Tryd.func106, Tryd.ntmps106
 go_wp2_with (first | (go_at_call 42; (with_reducible refine (next_calls g s tok p w0 _ HI.out HB.out Hh.out.1 Hh.out.2).mono ?_); rintro e w' ⟨rfl, hi, hb, hk⟩))
 go_end0
 exact ⟨rfl, hi, hb, hk⟩
set_option maxRecDepth 100000 in
theorem expect_no (g : Nat) (s tok u : ByteArray) (p : Nat) (w0 w : World) (hI : IsS65 w0 w g s p tok) (hu : ¬ tok.toList = u.toList) :
 Calls Tryd.prog 106 #[.pointer (some ⟨g, 0, none⟩), .string u] w fun en w' => en = .panicked (faultV p 6) ∧ w' = w := by
 have q : (tok.toList == u.toList) = false := by simpa using hu
 have HI := Aside0.mk hI
 clear hu
 obtain ⟨HG, hg⟩ := hI
 have c0 := cellS65_0 HG
 have c1 := cellS65_1 HG
 have c2 := cellS65_2 HG
 clear HG hg
 have hu65 := Tryd.underlying65
 go_enter Tryd.func106, Tryd.ntmps106
 go_wp2_with (first | (go_at_call 44; (with_reducible refine (fail_calls g s tok p 6 w0 _ HI.out).mono ?_); rintro e w' ⟨rfl, rfl⟩))
 exact ⟨rfl, rfl, rfl⟩
end Go.Proofs.YtglmdfddgmkmaaaDoor.Q
end
section
namespace Go.Proofs.YtglmdfddgmkmaaaDoor.Q
open Go.RowKit Go.Lib Go.Proofs.YtglmdfddgmkmaaaDoorW.PrintWords Go.Proofs.YtglmdfddgmkmaaaDoorW.PrintLast Go.Proofs.YtglmdfddgmkmaaaDoorW.PrintMore
attribute [local go_sem] max2_int min2_int max_two min_two max_three min_three max_four min_four
set_option linter.unusedVariables false
set_option linter.unusedSimpArgs false
theorem isLetter_eq (c : Int) : chars_isLetter.f c = some (lett c) := by
 unfold chars_isLetter.f lett
 repeat' split
 all_goals simp [*]
 all_goals omega
theorem isDigit_eq (c : Int) : chars_isDigit.f c = some (dgt c) := by
 unfold chars_isDigit.f dgt
 repeat' split
 all_goals simp [*]
 all_goals omega
theorem nameAll_step {t : ByteArray} {i : Nat} (h : i < t.size) : nameAll t (t.size - i) i = (nameC (bt t i) i && nameAll t (t.size - (i + 1)) (i + 1)) := by
 obtain ⟨f, hf⟩ : ∃ f, t.size - i = f + 1 := ⟨t.size - i - 1, by omega⟩
 rw [hf, show t.size - (i + 1) = f by omega]
 simp only [nameAll]
 rw [if_pos h]
theorem nameAll_end {t : ByteArray} {i : Nat} (h : ¬ i < t.size) : nameAll t (t.size - i) i = true := by
 cases t.size - i with
 | zero => rfl
 | succ f => simp only [nameAll]; rw [if_neg h]
/-- What the range's next round gives: a rune that tests as the byte does; if it passes, it is one byte wide. -/
theorem rune_at (w : World) (k : Nat) (s : ByteArray) (i : Nat) (hk : w.heap[k]? = some (.stringIter s i)) (h : i < s.size) :
 ∃ (c : Int) (np : Nat), (∀ ty, (Instr.next (.pointer (some ⟨k, 0, none⟩)) true ty).run Tryd.prog w = .ok (.tuple #[.bool true, .int .i64 i, .int .i32 c]) (w.iterAt k s np)) ∧
  nameC c i = nameC (bt s i) i ∧ (nameC c i = true → np = i + 1) := by
 have hb : bt s i = ((s[i]'h).toNat : Int) := by simp [bt, h]
 by_cases ha : (s[i]'h).toNat < 128
 ·exact ⟨((s[i]'h).toNat : Int), i + 1, fun ty => run_next_ascii_at w k s i ty hk h ha, by rw [hb], fun _ => rfl⟩
 ·have h1 := (decode_high s i h (by omega)).1
  have no : ∀ c : Int, 128 ≤ c → nameC c i = false := by
   intro c hc
   simp [nameC, lett, dgt]
   omega
  refine ⟨((Utf8.decode s i).1 : Int), _, fun ty => run_next_any_at w k s i ty hk h, ?_, ?_⟩
  ·rw [no _ (by omega), no _ (by rw [hb]; omega)]
  ·rw [no _ (by omega)]; simp
theorem below_iter {B : Nat} {w W : World} (h : Below B w W) {k : Nat} {s : ByteArray} {p : Nat} (hk : B ≤ k) : Below B w (W.iterAt k s p) :=
 ⟨h.os, h.tape, h.output, by rw [iterAt_size]; exact h.size, fun i hi => by rw [iterAt_other _ _ _ _ _ (by omega)]; exact h.block i hi⟩
def chars_Name.f (s : ByteArray) : Option Bool := some (nameB s)
set_option maxRecDepth 100000 in
set_option maxHeartbeats 2000000 in
theorem chars_Name.calls (s : ByteArray) (r : Bool) (w : World) (h : chars_Name.f s = some r) :
 Calls Tryd.prog 117 #[.string s] w fun e w' => e = .returned (.bool r) ∧ Below w.heap.size w w' := by
 obtain rfl := Option.some.inj h
 clear h
 have hu9 := Tryd.underlying9
 by_cases h0 : s.size = 0
 ·have q : (s.toList == ([] : List UInt8)) = true := by
   rw [Go.ByteArray.toList_eq]
   have : s.data.toList = [] := List.eq_nil_of_length_eq_zero (by simpa using h0)
   simp [this]
  have q3 : nameB s = false := by simp [nameB, h0]
  rw [q3]
  clear q3 h0
  go_enter Tryd.func117, Tryd.ntmps117
  go_wp2_with (fail)
  go_ret
  exact ⟨rfl, Below.refl _ _⟩
 ·have q : (s.toList == ([] : List UInt8)) = false := by
   rw [Go.ByteArray.toList_eq]
   cases hd : s.data.toList with
   | nil => exact absurd (by simpa using congrArg List.length hd) h0
   | cons a l => rfl
  by_cases h1 : s.size ≤ 32
  ·have q1 : decide ((32 : Int) < s.size) = false := by simp; omega
   have Hs : Aside0 (nameB s = nameAll s s.size 0) := ⟨by simp [nameB, h1]; omega⟩
   have hs : s.size ≤ 32 := h1
   clear h0 h1
   go_enter Tryd.func117, Tryd.ntmps117
   go_wp2_with (fail)
   go_loopg [] s.size (fun kq wr => ∃ i : Nat, Aside0 (i ≤ s.size) ∧ Aside0 (s.size - i ≤ kq) ∧ Aside0 (nameAll s (s.size - i) i = nameAll s s.size 0) ∧ Aside0 (wr.heap[w.heap.size]? = some (.stringIter s i)) ∧ Aside0 (Below w.heap.size w wr))
   case atStart => exact ⟨0, ⟨Nat.zero_le _⟩, ⟨Nat.le_refl _⟩, ⟨rfl⟩, ⟨World.iter_heap _ _ _⟩, ⟨below_alloc (Below.refl _ _) _⟩⟩
   case round =>
    obtain ⟨i, Hi0, Hk, HN, HK, HB⟩ := hrel
    by_cases hlt : i < s.size
    ·have Hi := Aside0.mk hlt
     obtain ⟨c, np, hnx, hc, hnp⟩ := rune_at wr w.heap.size s i HK.out hlt
     have Hc := Aside0.mk hc
     have Hnp := Aside0.mk hnp
     clear hc hnp hlt
     have hi : i ≤ 4096 := by have := Hi.out; omega
     have Hl : Aside0 (chars_isLetter.f c = some (lett c)) := ⟨isLetter_eq c⟩
     have Hd : Aside0 (chars_isDigit.f c = some (dgt c)) := ⟨isDigit_eq c⟩
     have Hx : Aside0 (nameC c i = (c == 95 || lett c || (decide (0 < i) && dgt c))) := ⟨rfl⟩
     generalize lett c = l at *
     generalize dgt c = d at *
     by_cases hc9 : c = 95
     ·have t1 : (c == 95) = true := beq_iff_eq.mpr hc9
      have t2 : (c != 95) = false := bne_eq_false_iff_eq.mpr hc9
      have Hok : Aside0 (nameC c i = true) := ⟨by rw [Hx.out, t1]; rfl⟩
      clear hc9
      go_wp2_with (first | (go_at_call 127; (with_reducible refine (chars_isLetter.calls c l _ Hl.out).mono ?_); rintro e w' ⟨rfl, ⟨nd, rfl⟩⟩) | (go_at_call 128; (with_reducible refine (chars_isDigit.calls c d _ Hd.out).mono ?_); rintro e w' ⟨rfl, ⟨nd, rfl⟩⟩))
      go_roundg (s.size - (i + 1))
      case measure => have := Hi.out; have := Hk.out; omega
      case rel => exact ⟨i + 1, ⟨by have := Hi.out; omega⟩, ⟨Nat.le_refl _⟩, ⟨by have h := HN.out; rw [nameAll_step Hi.out, ← Hc.out, Hok.out, Bool.true_and] at h; exact h⟩, ⟨by rw [← Hnp.out Hok.out]; exact (iterAt_heap _ _ _ _ _ HK.out)⟩, ⟨by repeat (first | apply pw_below_drewN | apply below_drew1 | exact below_iter HB.out (Nat.le_refl _))⟩⟩
     ·have t1 : (c == 95) = false := beq_eq_false_iff_ne.mpr hc9
      have t2 : (c != 95) = true := bne_iff_ne.mpr hc9
      clear hc9
      cases l with
      | true =>
       have Hok : Aside0 (nameC c i = true) := ⟨by rw [Hx.out, t1]; rfl⟩
       go_wp2_with (first | (go_at_call 127; (with_reducible refine (chars_isLetter.calls c true _ Hl.out).mono ?_); rintro e w' ⟨rfl, ⟨nd, rfl⟩⟩) | (go_at_call 128; (with_reducible refine (chars_isDigit.calls c d _ Hd.out).mono ?_); rintro e w' ⟨rfl, ⟨nd, rfl⟩⟩))
       go_roundg (s.size - (i + 1))
       case measure => have := Hi.out; have := Hk.out; omega
       case rel => exact ⟨i + 1, ⟨by have := Hi.out; omega⟩, ⟨Nat.le_refl _⟩, ⟨by have h := HN.out; rw [nameAll_step Hi.out, ← Hc.out, Hok.out, Bool.true_and] at h; exact h⟩, ⟨by rw [← Hnp.out Hok.out]; exact (iterAt_heap _ _ _ _ _ HK.out)⟩, ⟨by repeat (first | apply pw_below_drewN | apply below_drew1 | exact below_iter HB.out (Nat.le_refl _))⟩⟩
      | false =>
       by_cases hi0 : i = 0
       ·have Hok : Aside0 (nameC c i = false) := ⟨by rw [Hx.out, t1, hi0]; rfl⟩
        have t3 : ((i : Int) == 0) = true := beq_iff_eq.mpr (by omega)
        have t4 : (i == 0) = true := beq_iff_eq.mpr (by omega)
        clear hi0
        go_wp2_with (first | (go_at_call 127; (with_reducible refine (chars_isLetter.calls c false _ Hl.out).mono ?_); rintro e w' ⟨rfl, ⟨nd, rfl⟩⟩) | (go_at_call 128; (with_reducible refine (chars_isDigit.calls c d _ Hd.out).mono ?_); rintro e w' ⟨rfl, ⟨nd, rfl⟩⟩))
        go_ret
        exact ⟨by have h := HN.out; rw [nameAll_step Hi.out, ← Hc.out, Hok.out, Bool.false_and] at h; rw [Hs.out, ← h]; rfl, by repeat (first | apply pw_below_drewN | apply below_drew1 | exact below_iter HB.out (Nat.le_refl _))⟩
       ·have t3 : ((i : Int) == 0) = false := beq_eq_false_iff_ne.mpr (by omega)
        have t4 : (i == 0) = false := beq_eq_false_iff_ne.mpr (by omega)
        have t5 : decide (0 < i) = true := by simp; omega
        cases d with
        | true =>
         have Hok : Aside0 (nameC c i = true) := ⟨by rw [Hx.out, t1, t5]; rfl⟩
         clear hi0 t5
         go_wp2_with (first | (go_at_call 127; (with_reducible refine (chars_isLetter.calls c false _ Hl.out).mono ?_); rintro e w' ⟨rfl, ⟨nd, rfl⟩⟩) | (go_at_call 128; (with_reducible refine (chars_isDigit.calls c true _ Hd.out).mono ?_); rintro e w' ⟨rfl, ⟨nd, rfl⟩⟩))
         go_roundg (s.size - (i + 1))
         case measure => have := Hi.out; have := Hk.out; omega
         case rel => exact ⟨i + 1, ⟨by have := Hi.out; omega⟩, ⟨Nat.le_refl _⟩, ⟨by have h := HN.out; rw [nameAll_step Hi.out, ← Hc.out, Hok.out, Bool.true_and] at h; exact h⟩, ⟨by rw [← Hnp.out Hok.out]; exact (iterAt_heap _ _ _ _ _ HK.out)⟩, ⟨by repeat (first | apply pw_below_drewN | apply below_drew1 | exact below_iter HB.out (Nat.le_refl _))⟩⟩
        | false =>
         have Hok : Aside0 (nameC c i = false) := ⟨by rw [Hx.out, t1, t5]; rfl⟩
         clear hi0 t5
         go_wp2_with (first | (go_at_call 127; (with_reducible refine (chars_isLetter.calls c false _ Hl.out).mono ?_); rintro e w' ⟨rfl, ⟨nd, rfl⟩⟩) | (go_at_call 128; (with_reducible refine (chars_isDigit.calls c false _ Hd.out).mono ?_); rintro e w' ⟨rfl, ⟨nd, rfl⟩⟩))
         go_ret
         exact ⟨by have h := HN.out; rw [nameAll_step Hi.out, ← Hc.out, Hok.out, Bool.false_and] at h; rw [Hs.out, ← h]; rfl, by repeat (first | apply pw_below_drewN | apply below_drew1 | exact below_iter HB.out (Nat.le_refl _))⟩
    ·have Hi := Aside0.mk hlt
     have hnx := fun ty => run_next_end_at (P := Tryd.prog) wr w.heap.size s i ty HK.out hlt
     clear hlt
     go_wp2_with (fail)
     go_ret
     exact ⟨by have h := HN.out; rw [nameAll_end Hi.out] at h; rw [Hs.out, ← h]; rfl, HB.out⟩
  ·have q1 : decide ((32 : Int) < s.size) = true := by simp; omega
   have q3 : nameB s = false := by simp [nameB, h1]
   rw [q3]
   clear q3 h0 h1
   go_enter Tryd.func117, Tryd.ntmps117
   go_wp2_with (fail)
   go_ret
   exact ⟨rfl, Below.refl _ _⟩
end Go.Proofs.YtglmdfddgmkmaaaDoor.Q
end
section
namespace Go.Proofs.YtglmdfddgmkmaaaDoor.Q
open Go.RowKit Go.Proofs.YtglmdfddgmkmaaaDoorW.PrintWords Go.Proofs.YtglmdfddgmkmaaaDoorW.PrintLast Go.Proofs.YtglmdfddgmkmaaaDoorW.PrintMore
attribute [local go_sem] max2_int min2_int max_two min_two max_three min_three max_four min_four
set_option linter.unusedVariables false
set_option linter.unusedSimpArgs false
/-- A tree's four cells at block b. -/
def At26 (W : World) (b : Nat) (op n : Int) (nm : ByteArray) (v : Value) : Prop := W.heap[b]? = some (.cells #[.int .i64 op, .int .i64 n, .string nm, v] 26 (0, 0))
theorem At26.cells {W : World} {b : Nat} {op n : Int} {nm : ByteArray} {v : Value} (h : At26 W b op n nm v) :
 W.cell? ⟨b, 0, none⟩ = some (.int .i64 op) ∧ W.cell? ⟨b, 1, none⟩ = some (.int .i64 n) ∧ W.cell? ⟨b, 2, none⟩ = some (.string nm) ∧ W.cell? ⟨b, 3, none⟩ = some v :=
 ⟨(blk_cell h 0).trans rfl, (blk_cell h 1).trans rfl, (blk_cell h 2).trans rfl, (blk_cell h 3).trans rfl⟩
/-- The world has changed in block b alone (and grown). -/
structure Wrote (b : Nat) (W W' : World) : Prop where
 kept : Kept W W' (fun k => k = b)
 below : ∀ B w0, Below B w0 W → B ≤ b → Below B w0 W'
theorem wrote4 {W : World} {b : Nat} {op n op' n' : Int} {nm nm' : ByteArray} {v v' : Value} (h : At26 W b op n nm v) :
 At26 ((((W.setCell ⟨b, 0, none⟩ (.int .i64 op')).setCell ⟨b, 1, none⟩ (.int .i64 n')).setCell ⟨b, 2, none⟩ (.string nm')).setCell ⟨b, 3, none⟩ v') b op' n' nm' v' ∧
 Wrote b W ((((W.setCell ⟨b, 0, none⟩ (.int .i64 op')).setCell ⟨b, 1, none⟩ (.int .i64 n')).setCell ⟨b, 2, none⟩ (.string nm')).setCell ⟨b, 3, none⟩ v') := by
 have e0 : (W.setCell ⟨b, 0, none⟩ (.int .i64 op')).heap[b]? = some (.cells #[.int .i64 op', .int .i64 n, .string nm, v] 26 (0, 0)) := blk_put h 0 _ rfl
 have e1 : ((W.setCell ⟨b, 0, none⟩ (.int .i64 op')).setCell ⟨b, 1, none⟩ (.int .i64 n')).heap[b]? = some (.cells #[.int .i64 op', .int .i64 n', .string nm, v] 26 (0, 0)) := blk_put e0 1 _ rfl
 have e2 : (((W.setCell ⟨b, 0, none⟩ (.int .i64 op')).setCell ⟨b, 1, none⟩ (.int .i64 n')).setCell ⟨b, 2, none⟩ (.string nm')).heap[b]? = some (.cells #[.int .i64 op', .int .i64 n', .string nm', v] 26 (0, 0)) := blk_put e1 2 _ rfl
 have e3 : ((((W.setCell ⟨b, 0, none⟩ (.int .i64 op')).setCell ⟨b, 1, none⟩ (.int .i64 n')).setCell ⟨b, 2, none⟩ (.string nm')).setCell ⟨b, 3, none⟩ v').heap[b]? = some (.cells #[.int .i64 op', .int .i64 n', .string nm', v'] 26 (0, 0)) := blk_put e2 3 _ rfl
 refine ⟨e3, ⟨?_, ?_⟩⟩
 ·exact Kept.setCell (Kept.setCell (Kept.setCell (Kept.setCell (Kept.refl W (fun k => k = b)) (p := ⟨b, 0, none⟩) (.inl rfl) _) (p := ⟨b, 1, none⟩) (.inl rfl) _) (p := ⟨b, 2, none⟩) (.inl rfl) _) (p := ⟨b, 3, none⟩) (.inl rfl) _
 ·intro B w0 hb hle
  exact Below.setCell (Below.setCell (Below.setCell (Below.setCell hb (p := ⟨b, 0, none⟩) hle _) (p := ⟨b, 1, none⟩) hle _) (p := ⟨b, 2, none⟩) hle _) (p := ⟨b, 3, none⟩) hle _
theorem size26 (W : World) : (sizeOf 26).run Tryd.prog W = .ok 4 W := by kernel_rfl
section
variable {ops : Array Oper} {rest : List Oper} {o : Oper} {a : Act} {Q : Exit → Act → World → Prop}
theorem store26_run {W : World} {t : Operand} {q : Operand} {o : Oper} (ho : o.op = .store 26 t q)
 {b : Nat} {op n op' n' : Int} {nm nm' : ByteArray} {v : Value} {A' : Option Addr} {l' c' : Nat} (hp : a.eval t = .pointer (some ⟨b, 0, none⟩)) (hq : a.eval q = .agg #[.int .i64 op', .int .i64 n', .string nm', .slice A' l' c'])
 (hb : At26 W b op n nm v) : (execOp a.eval o).run Tryd.prog W = .ok .skip ((((W.setCell ⟨b, 0, none⟩ (.int .i64 op')).setCell ⟨b, 1, none⟩ (.int .i64 n')).setCell ⟨b, 2, none⟩ (.string nm')).setCell ⟨b, 3, none⟩ (.slice A' l' c')) := by
 obtain ⟨c0, c1, c2, c3⟩ := hb.cells
 have f0 := blk_frozen hb 0
 have f1 := blk_frozen hb 1
 have f2 := blk_frozen hb 2
 have f3 := blk_frozen hb 3
 have hs := size26
 have hu := Tryd.underlying26
 unfold execOp
 simp only [ho, hp, hq]
 go_simp
/-- A store of a tree's cells into a variable of the call's own. -/
theorem store26_event {W : World} (hgd : o.guard = none) (p : Tmp) (q : Operand) (hN : o.dst = none) (ho : o.op = .store 26 (.tmp p) q)
 {b : Nat} {op n op' n' : Int} {nm nm' : ByteArray} {v : Value} {A' : Option Addr} {l' c' : Nat} (hp : a.eval (.tmp p) = .pointer (some ⟨b, 0, none⟩)) (hq : a.eval q = .agg #[.int .i64 op', .int .i64 n', .string nm', .slice A' l' c'])
 (hb : At26 W b op n nm v) (h : ∀ W', At26 W' b op' n' nm' (.slice A' l' c') → Wrote b W W' → wpList Tryd.prog ops Q rest a W') : wpList Tryd.prog ops Q (o :: rest) a W := by
 refine wpList_plain hgd fun K hK => ?_
 unfold Oper.wp
 rw [store26_run ho hp hq hb]
 show K (a.put o.dst undef) _
 rw [hN]
 obtain ⟨e1, e2⟩ := wrote4 (op' := op') (n' := n') (nm' := nm') (v' := .slice A' l' c') hb
 exact hK _ _ (h _ e1 e2)
/-- A new variable of type 26. -/
theorem alloc26_event {W : World} (hgd : o.guard = none) (N : Tmp) (hN : o.dst = some N) (ho : o.op = .alloc 26)
 (h : ∀ b W', b = W.heap.size → At26 W' b 0 0 ⟨#[]⟩ (.slice none 0 0) → Below W.heap.size W W' → wpList Tryd.prog ops Q rest (a.put (some N) (.pointer (some ⟨b, 0, none⟩))) W') : wpList Tryd.prog ops Q (o :: rest) a W := by
 have hu := Tryd.underlying26
 refine box_event hgd hN (cs := #[.int .i64 0, .int .i64 0, .string ⟨#[]⟩, .slice none 0 0]) (t := 26) ?_ ?_
 ·unfold execOp
  simp only [ho]
  go_simp
 ·intro g hg w1 h1 h2
  rw [hN]
  exact h g w1 hg h1 h2
end
/-- The parser's state, and what has been kept since the call began (w). -/
structure Cx (s : ByteArray) (g : Nat) (w0 w W : World) (p : Int) (t : ByteArray) : Prop where
 st : IsS65 w0 W g s p t
 bel : Below w0.heap.size w0 W
 keep : KeepBut w W g none
 lt : g < w.heap.size
 le : w0.heap.size ≤ w.heap.size
section
variable {s : ByteArray} {g : Nat} {w0 w W W' : World} {p p' : Int} {t t' : ByteArray}
theorem Cx.start (hI : IsS65 w0 w g s p t) (hB : Below w0.heap.size w0 w) : Cx s g w0 w w p t := ⟨hI, hB, KeepBut.refl w g none, hI.lt, hB.size⟩
theorem Cx.size (h : Cx s g w0 w W p t) : w.heap.size ≤ W.heap.size := h.keep.1
theorem Cx.below (h : Cx s g w0 w W p t) (hb : Below W.heap.size W W') : Cx s g w0 w W' p t :=
 ⟨h.st.below hb, below_then h.bel h.bel.size hb, Kept.keep h.keep (Kept.of_below hb (fun _ => False)) (fun _ hk => hk.elim), h.lt, h.le⟩
theorem Cx.wrote {b : Nat} (h : Cx s g w0 w W p t) (hw : Wrote b W W') (hb : w.heap.size ≤ b) : Cx s g w0 w W' p t :=
 ⟨h.st.kept hw.kept (by have := h.lt; omega), hw.below _ _ h.bel (by have := h.le; omega), Kept.keep h.keep hw.kept (fun k hk => by omega), h.lt, h.le⟩
theorem Cx.call (h : Cx s g w0 w W p t) (hi : IsS65 w0 W' g s p' t') (hb : Below w0.heap.size w0 W') (hk : KeepBut W W' g none) : Cx s g w0 w W' p' t' :=
 ⟨hi, hb, KeepBut.trans h.keep hk (.inl rfl), h.lt, h.le⟩
theorem Cx.drewN (h : Cx s g w0 w W p t) (m : Nat) : Cx s g w0 w (W.drewN m) p t := h.below (pw_below_drewN (Below.refl _ _) m)
theorem Cx.drew (h : Cx s g w0 w W p t) : Cx s g w0 w W.drew p t := h.below (below_drew (Below.refl _ _))
end
/-- A variable of the call's own, of type 26. -/
structure Vr (w W : World) (b : Nat) (op n : Int) (nm : ByteArray) (A : Option Addr) (l c : Nat) : Prop where
 at_ : At26 W b op n nm (.slice A l c)
 ge : w.heap.size ≤ b
section
variable {w W W' : World} {b : Nat} {op n : Int} {nm : ByteArray} {A : Option Addr} {l c : Nat}
theorem Vr.lt (h : Vr w W b op n nm A l c) : b < W.heap.size := blk_lt h.at_
theorem Vr.below (h : Vr w W b op n nm A l c) (hb : Below W.heap.size W W') : Vr w W' b op n nm A l c := ⟨(hb.block b h.lt).trans h.at_, h.ge⟩
theorem Vr.wrote {b' : Nat} (h : Vr w W b op n nm A l c) (hw : Wrote b' W W') (hne : b ≠ b') : Vr w W' b op n nm A l c := ⟨blk_kept h.at_ hw.kept hne, h.ge⟩
theorem Vr.call {g : Nat} (h : Vr w W b op n nm A l c) (hk : KeepBut W W' g none) (hg : g < w.heap.size) : Vr w W' b op n nm A l c := ⟨(hk.2 b h.lt (by have := h.ge; omega) (by simp)).trans h.at_, h.ge⟩
theorem Vr.drewN (h : Vr w W b op n nm A l c) (m : Nat) : Vr w (W.drewN m) b op n nm A l c := h.below (pw_below_drewN (Below.refl _ _) m)
theorem Vr.drew (h : Vr w W b op n nm A l c) : Vr w W.drew b op n nm A l c := h.below (below_drew (Below.refl _ _))
end
/-- Trees that were made: their blocks lie from lo on, below hi. -/
def Tr (W : World) (lo hi : Nat) (A : Option Addr) (c : Nat) (xs : List S26) : Prop := Kd.R k26 26 W lo (fun k => k < hi) (.slice A xs.length c) xs
section
variable {W W' : World} {lo hi lo' hi' : Nat} {A : Option Addr} {c : Nat} {xs : List S26}
theorem Tr.kept {S : Nat → Prop} (h : Tr W lo hi A c xs) (hk : Kept W W' S) (hne : ∀ k, lo ≤ k → k < hi → ¬ S k) : Tr W' lo hi A c xs :=
 Kd.R_mono (Kd.R_kept (Kd.R_bound h) hk (fun k hk => hne k hk.2.1 hk.1)) (fun k hk => hk.1)
theorem Tr.below (h : Tr W lo hi A c xs) (hb : Below W.heap.size W W') : Tr W' lo hi A c xs := h.kept (Kept.of_below hb (fun _ => False)) (fun _ _ _ hk => hk)
theorem Tr.wrote {b : Nat} (h : Tr W lo hi A c xs) (hw : Wrote b W W') (hb : b < lo ∨ hi ≤ b) : Tr W' lo hi A c xs := h.kept hw.kept (fun k h1 h2 h3 => by omega)
theorem Tr.call {g : Nat} (h : Tr W lo hi A c xs) (hk : KeepBut W W' g none) (hg : g < lo) : Tr W' lo hi A c xs :=
 h.kept (S := fun k => k = g) ⟨hk.1, fun i hi hn => hk.2 i hi hn (by simp)⟩ (fun k h1 h2 h3 => by omega)
theorem Tr.drewN (h : Tr W lo hi A c xs) (m : Nat) : Tr (W.drewN m) lo hi A c xs := h.below (pw_below_drewN (Below.refl _ _) m)
theorem Tr.drew (h : Tr W lo hi A c xs) : Tr W.drew lo hi A c xs := h.below (below_drew (Below.refl _ _))
theorem Tr.wide (h : Tr W lo hi A c xs) (h1 : lo' ≤ lo) (h2 : hi ≤ hi') : Tr W lo' hi' A c xs := Kd.R_lower (Kd.R_mono h (fun k hk => Nat.lt_of_lt_of_le hk h2)) h1
theorem Tr.nil (W : World) (lo hi : Nat) : Tr W lo hi none 0 [] := Kd.R_nil _ _ _ _ _
/-- It can be read from now on, whatever happens to the blocks outside. -/
theorem Tr.reads (h : Tr W lo hi A c xs) : xs.length ≤ c ∧ Kd.C k26 W A xs.length xs := by
 have h2 := Kd.R_reads' h
 exact ⟨h2.2.1, h2.2.2⟩
theorem Tr.reads_keep {g : Nat} (h : Tr W lo hi A c xs) (hg : g < lo) : ∀ W_, KeepBut W W_ g none → Kd.C k26 W_ A xs.length xs := fun W_ hk => (h.call hk hg).reads.2
end
/-- What a function of the parser leaves behind. -/
def Post (s : ByteArray) (g : Nat) (w0 w : World) : Except (Nat × Int) (S26 × Nat × ByteArray) → Ending → World → Prop
 | .error (p, er), e, w' => e = .panicked (faultV p er) ∧ Below w0.heap.size w0 w' ∧ KeepBut w w' g none
 | .ok (x, p, t), e, w' => ∃ A c, e = .returned (.agg #[.int .i64 x.f0, .int .i64 x.f1, .string x.f2, .slice A x.f3.length c]) ∧ Tr w' w.heap.size w'.heap.size A c x.f3 ∧ IsS65 w0 w' g s p t ∧ Below w0.heap.size w0 w' ∧ KeepBut w w' g none
theorem Post.err {s : ByteArray} {g : Nat} {w0 w w' : World} {p : Nat} {er : Int} (hb : Below w0.heap.size w0 w') (hk : KeepBut w w' g none) : Post s g w0 w (.error (p, er)) (.panicked (faultV p er)) w' := ⟨rfl, hb, hk⟩
theorem Post.done {s : ByteArray} {g : Nat} {w0 w w' : World} {x : S26} {p : Nat} {t : ByteArray} {A : Option Addr} {c lo hi : Nat} (hT : Tr w' lo hi A c x.f3) (hC : Cx s g w0 w w' p t) (h1 : w.heap.size ≤ lo) (h2 : hi ≤ w'.heap.size) :
 Post s g w0 w (.ok (x, p, t)) (.returned (.agg #[.int .i64 x.f0, .int .i64 x.f1, .string x.f2, .slice A x.f3.length c])) w' :=
 ⟨A, c, rfl, hT.wide h1 h2, hC.st, hC.bel, hC.keep⟩
abbrev C43 (s : ByteArray) (k : Nat) : Prop := ∀ (g p : Nat) (t : ByteArray) (w0 w : World) (r : Except (Nat × Int) (S26 × Nat × ByteArray)), pr s k .first p t = some r → IsS65 w0 w g s p t → Below w0.heap.size w0 w → p + t.size ≤ s.size → Calls Tryd.prog 43 #[.pointer (some ⟨g, 0, none⟩)] w (Post s g w0 w r)
abbrev C70 (s : ByteArray) (k : Nat) : Prop := ∀ (g p : Nat) (t : ByteArray) (w0 w : World) (r : Except (Nat × Int) (S26 × Nat × ByteArray)), pr s k .second p t = some r → IsS65 w0 w g s p t → Below w0.heap.size w0 w → p + t.size ≤ s.size → Calls Tryd.prog 70 #[.pointer (some ⟨g, 0, none⟩)] w (Post s g w0 w r)
abbrev C105 (s : ByteArray) (k n : Nat) : Prop := ∀ (m : Int), m = (n : Int) → ∀ (g p : Nat) (t : ByteArray) (w0 w : World) (r : Except (Nat × Int) (S26 × Nat × ByteArray)), pr s k (.level n) p t = some r → IsS65 w0 w g s p t → Below w0.heap.size w0 w → p + t.size ≤ s.size → Calls Tryd.prog 105 #[.pointer (some ⟨g, 0, none⟩), .int .i64 m] w (Post s g w0 w r)
abbrev C122 (s : ByteArray) (k : Nat) : Prop := ∀ (g p : Nat) (t : ByteArray) (w0 w : World) (r : Except (Nat × Int) (S26 × Nat × ByteArray)), pr s k .operand p t = some r → IsS65 w0 w g s p t → Below w0.heap.size w0 w → p + t.size ≤ s.size → Calls Tryd.prog 122 #[.pointer (some ⟨g, 0, none⟩)] w (Post s g w0 w r)
section
variable {ops : Array Oper} {o : Oper} {a : Act} {Q : Exit → Act → World → Prop} {Kc : Act → World → Prop}
/-- A call that panics, in a region. -/
theorem goesP_ {oi : Oper} {N : Option Tmp} {w : World} {K : Act → World → Prop} {f : FuncId} {fn : Func} {ags : Array Operand} {ts : Array TypeId} (hf : Tryd.prog.funcs[f]? = some fn) (hname : (fn.name == "runtime.NumGoroutine") = false) (hb : fn.body.isSome = true) (args : Array Value)
 (hw : Region.wanted oi (yielded ops a.tmps) = true) (hop : oi.op = .call { callee := .value (.func f), args := ags, argTypes := ts }) (hargs : ags.map a.eval = args) (chain : List PanicEntry)
 (h : Calls Tryd.prog f args w fun e w' => e = .panicked chain ∧ Q (.panic chain) a w') : if Region.wanted oi (yielded ops a.tmps) = true then Oper.wp Tryd.prog oi a w K Q else K (a.put N undef) w := by
 rw [if_pos hw]
 have he := enters_ hf hname hb args w
 have hrun : (execOp a.eval oi).run Tryd.prog w = .ok (.enter f args) w := by
  unfold execOp
  simp [hop, resolve, Deferred.ofValue, invoke, Act.eval, hargs, he]
 unfold Oper.wp
 rw [hrun, Oper.upon_enter]
 refine h.mono fun e w'' hh => ?_
 obtain ⟨rfl, hq⟩ := hh
 exact hq
/-- A tree's store, in a region. -/
theorem store26_step {W : World} (hw : Region.wanted o (yielded ops a.tmps) = true) (p : Tmp) (q : Operand) (hN : o.dst = none) (ho : o.op = .store 26 (.tmp p) q)
 {b : Nat} {op n op' n' : Int} {nm nm' : ByteArray} {v : Value} {A' : Option Addr} {l' c' : Nat} (hp : a.eval (.tmp p) = .pointer (some ⟨b, 0, none⟩)) (hq : a.eval q = .agg #[.int .i64 op', .int .i64 n', .string nm', .slice A' l' c'])
 (hb : At26 W b op n nm v) (h : ∀ W', At26 W' b op' n' nm' (.slice A' l' c') → Wrote b W W' → Kc a W') : if Region.wanted o (yielded ops a.tmps) = true then Oper.wp Tryd.prog o a W Kc Q else Kc (a.put none undef) W := by
 rw [if_pos hw]
 unfold Oper.wp
 rw [store26_run ho hp hq hb]
 show Kc (a.put o.dst undef) _
 rw [hN]
 obtain ⟨e1, e2⟩ := wrote4 (op' := op') (n' := n') (nm' := nm') (v' := .slice A' l' c') hb
 exact h _ e1 e2
/-- The cells of a list of trees, one behind the other. -/
def cellsOf : List (S26 × Option Addr × Nat) → List Value
 | [] => []
 | (x, A, c) :: r => .int .i64 x.f0 :: .int .i64 x.f1 :: .string x.f2 :: .slice A x.f3.length c :: cellsOf r
theorem reps_cells {W : World} {lo hi : Nat} : ∀ l : List (S26 × Option Addr × Nat), (∀ z ∈ l, Tr W lo hi z.2.1 z.2.2 z.1.f3) → Reps (k26.M W lo (fun k => k < hi)) k26.sz (l.map (·.1)) (cellsOf l)
 | [], _ => Reps.none _ _
 | (x, A, c) :: r, h => by
  have h1 : Tr W lo hi A c x.f3 := h (x, A, c) (by simp)
  exact Reps.front (R := k26.M W lo (fun k => k < hi)) (k26_mkM W lo (fun k => k < hi) x h1) rfl (reps_cells r (fun z hz => h z (by simp [hz]))) rfl
theorem cells_step {W : World} (hw : Region.wanted o (yielded ops a.tmps) = true) (N : Tmp) (hN : o.dst = some N) (l : List (S26 × Option Addr × Nat)) {lo hi : Nat}
 (hrun : (execOp a.eval o).run Tryd.prog W = .ok (.value (.slice (some ⟨W.heap.size, 0, none⟩) l.length l.length)) (W.alloc (.cells (cellsOf l).toArray 26)))
 (hl : ∀ z ∈ l, Tr W lo hi z.2.1 z.2.2 z.1.f3) (hlo : lo ≤ W.heap.size) (hhi : hi ≤ W.heap.size) (hm : l.length ≤ 100)
 (h : ∀ (A : Option Addr) (c : Nat) (W' : World), Tr W' lo (W.heap.size + 1) A c (l.map (·.1)) → Below W.heap.size W W' → W.heap.size + 1 ≤ W'.heap.size → Kc (a.put (some N) (.slice A l.length c)) W') :
 if Region.wanted o (yielded ops a.tmps) = true then Oper.wp Tryd.prog o a W Kc Q else Kc (a.put (some N) undef) W := by
 rw [← hN] at h ⊢
 have hr := reps_cells l hl
 refine event_step hw hrun ?_
 have hb : Below W.heap.size W (W.alloc (.cells (cellsOf l).toArray 26)) := below_alloc (Below.refl _ _) _
 refine h _ _ _ ?_ hb (by simp)
 have hlen : (cellsOf l).length = l.length * 4 := by have h9 := hr.1; rw [show k26.sz = 4 from rfl] at h9; simpa using h9
 have e : Tr (W.alloc (.cells (cellsOf l).toArray 26)) lo (W.heap.size + 1) (some ⟨W.heap.size, 0, none⟩) l.length (l.map (·.1)) := by
  refine ⟨fun k hk => ?_, cellsOf l, ?_, ?_⟩
  ·have : W.heap.size = k := by simpa [Value.ownBlock] using hk
   omega
  ·have h2 := World.ownsRow_lit (base := lo) (e := 26) (size := 4) W (cellsOf l).toArray l.length hlo (by simp only [maxLen]; omega) (by simpa using hlen)
   rw [show k26.sz = 4 from rfl]
   simpa using h2
  ·refine hr.imp_ (fun p c hp => k26.M_mono (fun k hk => ⟨?_, fun he => ?_⟩) (Kd.M_below (k26.M_bound hp) hb))
   ·have := hk.1; omega
   ·have h3 : k = W.heap.size := by simpa [Value.ownBlock] using he
    have := hk.1
    omega
 exact e
end
theorem tr_all1 {W : World} {lo hi : Nat} {x : S26} {A : Option Addr} {c : Nat} (h : Tr W lo hi A c x.f3) : ∀ z ∈ [(x, A, c)], Tr W lo hi z.2.1 z.2.2 z.1.f3 := by
 intro z hz
 simp only [List.mem_cons, List.not_mem_nil, or_false] at hz
 subst hz
 exact h
theorem tr_all3 {W : World} {lo hi : Nat} {x y u : S26} {A B C : Option Addr} {c d e : Nat} (h : Tr W lo hi A c x.f3) (h2 : Tr W lo hi B d y.f3) (h3 : Tr W lo hi C e u.f3) : ∀ z ∈ [(x, A, c), (y, B, d), (u, C, e)], Tr W lo hi z.2.1 z.2.2 z.1.f3 := by
 intro z hz
 simp only [List.mem_cons, List.not_mem_nil, or_false] at hz
 rcases hz with rfl | rfl | rfl
 ·exact h
 ·exact h2
 ·exact h3
section
variable {ops : Array Oper} {rest : List Oper} {o : Oper} {a : Act} {Q : Exit → Act → World → Prop}
/-- A literal of trees, as a step of a plain region. -/
theorem cells_event {W : World} (hgd : o.guard = none) (N : Tmp) (hN : o.dst = some N) (l : List (S26 × Option Addr × Nat)) {lo hi : Nat}
 (hrun : (execOp a.eval o).run Tryd.prog W = .ok (.value (.slice (some ⟨W.heap.size, 0, none⟩) l.length l.length)) (W.alloc (.cells (cellsOf l).toArray 26)))
 (hl : ∀ z ∈ l, Tr W lo hi z.2.1 z.2.2 z.1.f3) (hlo : lo ≤ W.heap.size) (hhi : hi ≤ W.heap.size) (hm : l.length ≤ 100)
 (h : ∀ (A : Option Addr) (c : Nat) (W' : World), Tr W' lo (W.heap.size + 1) A c (l.map (·.1)) → Below W.heap.size W W' → W.heap.size + 1 ≤ W'.heap.size → wpList Tryd.prog ops Q rest (a.put (some N) (.slice A l.length c)) W') :
 wpList Tryd.prog ops Q (o :: rest) a W := by
 refine wpList_plain hgd fun K hK => ?_
 have h0 : Region.wanted o (yielded ops a.tmps) = true := by simp [Region.wanted, hgd]
 have h1 := cells_step (ops := ops) (Q := Q) (Kc := K) h0 N hN l hrun hl hlo hhi hm (fun A c W' e1 e2 e3 => hK _ _ (h A c W' e1 e2 e3))
 rw [if_pos h0] at h1
 exact h1
end
/-- The same as Tr, but block X is none of theirs (the variable that a loop writes again and again). -/
def TrX (X : Nat) (W : World) (lo hi : Nat) (A : Option Addr) (c : Nat) (xs : List S26) : Prop := Kd.R k26 26 W lo (fun k => k < hi ∧ k ≠ X) (.slice A xs.length c) xs
section
variable {X : Nat} {W W' : World} {lo hi lo' hi' : Nat} {A : Option Addr} {c : Nat} {xs : List S26}
theorem TrX.kept {S : Nat → Prop} (h : TrX X W lo hi A c xs) (hk : Kept W W' S) (hne : ∀ k, lo ≤ k → k < hi → k ≠ X → ¬ S k) : TrX X W' lo hi A c xs :=
 Kd.R_mono (Kd.R_kept (Kd.R_bound h) hk (fun k hk => hne k hk.2.1 hk.1.1 hk.1.2)) (fun k hk => hk.1)
theorem TrX.below (h : TrX X W lo hi A c xs) (hb : Below W.heap.size W W') : TrX X W' lo hi A c xs := h.kept (Kept.of_below hb (fun _ => False)) (fun _ _ _ _ hk => hk)
theorem TrX.wrote {b : Nat} (h : TrX X W lo hi A c xs) (hw : Wrote b W W') (hb : b < lo ∨ hi ≤ b ∨ b = X) : TrX X W' lo hi A c xs := h.kept hw.kept (fun k h1 h2 h3 h4 => by omega)
theorem TrX.call {g : Nat} (h : TrX X W lo hi A c xs) (hk : KeepBut W W' g none) (hg : g < lo) : TrX X W' lo hi A c xs :=
 h.kept (S := fun k => k = g) ⟨hk.1, fun i hi hn => hk.2 i hi hn (by simp)⟩ (fun k h1 h2 h3 h4 => by omega)
theorem TrX.drew (h : TrX X W lo hi A c xs) : TrX X W.drew lo hi A c xs := h.below (below_drew (Below.refl _ _))
theorem TrX.wide (h : TrX X W lo hi A c xs) (h1 : lo' ≤ lo) (h2 : hi ≤ hi') : TrX X W lo' hi' A c xs := Kd.R_lower (Kd.R_mono h (fun k hk => ⟨Nat.lt_of_lt_of_le hk.1 h2, hk.2⟩)) h1
theorem TrX.tr (h : TrX X W lo hi A c xs) : Tr W lo hi A c xs := Kd.R_mono h (fun k hk => hk.1)
theorem Tr.trX (h : Tr W lo hi A c xs) (hX : X < lo ∨ hi ≤ X) : TrX X W lo hi A c xs := Kd.R_mono (Kd.R_bound h) (fun k hk => ⟨hk.1, by have := hk.2.1; have := hk.1; omega⟩)
end
theorem Tr.trX2 {X lo1 : Nat} {W : World} {lo hi : Nat} {A : Option Addr} {c : Nat} {xs : List S26} (h : Tr W lo1 hi A c xs) (h1 : lo ≤ lo1) (hX : X < lo1 ∨ hi ≤ X) : TrX X W lo hi A c xs := Kd.R_lower (h.trX hX) h1
theorem reps_cellsX {X : Nat} {W : World} {lo hi : Nat} : ∀ l : List (S26 × Option Addr × Nat), (∀ z ∈ l, TrX X W lo hi z.2.1 z.2.2 z.1.f3) → Reps (k26.M W lo (fun k => k < hi ∧ k ≠ X)) k26.sz (l.map (·.1)) (cellsOf l)
 | [], _ => Reps.none _ _
 | (x, A, c) :: r, h => by
  have h1 : TrX X W lo hi A c x.f3 := h (x, A, c) (by simp)
  exact Reps.front (R := k26.M W lo (fun k => k < hi ∧ k ≠ X)) (k26_mkM W lo (fun k => k < hi ∧ k ≠ X) x h1) rfl (reps_cellsX r (fun z hz => h z (by simp [hz]))) rfl
theorem trX_all2 {X : Nat} {W : World} {lo hi : Nat} {x y : S26} {A B : Option Addr} {c d : Nat} (h : TrX X W lo hi A c x.f3) (h2 : TrX X W lo hi B d y.f3) : ∀ z ∈ [(x, A, c), (y, B, d)], TrX X W lo hi z.2.1 z.2.2 z.1.f3 := by
 intro z hz
 simp only [List.mem_cons, List.not_mem_nil, or_false] at hz
 rcases hz with rfl | rfl
 ·exact h
 ·exact h2
section
variable {ops : Array Oper} {o : Oper} {a : Act} {Q : Exit → Act → World → Prop} {Kc : Act → World → Prop}
theorem cells_stepX {X : Nat} {W : World} (hw : Region.wanted o (yielded ops a.tmps) = true) (N : Tmp) (hN : o.dst = some N) (l : List (S26 × Option Addr × Nat)) {lo hi : Nat}
 (hrun : (execOp a.eval o).run Tryd.prog W = .ok (.value (.slice (some ⟨W.heap.size, 0, none⟩) l.length l.length)) (W.alloc (.cells (cellsOf l).toArray 26)))
 (hl : ∀ z ∈ l, TrX X W lo hi z.2.1 z.2.2 z.1.f3) (hlo : lo ≤ W.heap.size) (hhi : hi ≤ W.heap.size) (hX : X < W.heap.size) (hm : l.length ≤ 100)
 (h : ∀ (A : Option Addr) (c : Nat) (W' : World), TrX X W' lo (W.heap.size + 1) A c (l.map (·.1)) → Below W.heap.size W W' → W.heap.size + 1 ≤ W'.heap.size → Kc (a.put (some N) (.slice A l.length c)) W') :
 if Region.wanted o (yielded ops a.tmps) = true then Oper.wp Tryd.prog o a W Kc Q else Kc (a.put (some N) undef) W := by
 rw [← hN] at h ⊢
 have hr := reps_cellsX l hl
 refine event_step hw hrun ?_
 have hb : Below W.heap.size W (W.alloc (.cells (cellsOf l).toArray 26)) := below_alloc (Below.refl _ _) _
 refine h _ _ _ ?_ hb (by simp)
 have hlen : (cellsOf l).length = l.length * 4 := by have h9 := hr.1; rw [show k26.sz = 4 from rfl] at h9; simpa using h9
 have e : TrX X (W.alloc (.cells (cellsOf l).toArray 26)) lo (W.heap.size + 1) (some ⟨W.heap.size, 0, none⟩) l.length (l.map (·.1)) := by
  refine ⟨fun k hk => ?_, cellsOf l, ?_, ?_⟩
  ·have : W.heap.size = k := by simpa [Value.ownBlock] using hk
   omega
  ·have h2 := World.ownsRow_lit (base := lo) (e := 26) (size := 4) W (cellsOf l).toArray l.length hlo (by simp only [maxLen]; omega) (by simpa using hlen)
   rw [show k26.sz = 4 from rfl]
   simpa using h2
  ·refine hr.imp_ (fun p c hp => k26.M_mono (fun k hk => ⟨?_, fun he => ?_⟩) (Kd.M_below (k26.M_bound hp) hb))
   ·have h5 := hk.1; have h6 := h5.1; have h7 := h5.2; omega
   ·have h3 : k = W.heap.size := by simpa [Value.ownBlock] using he
    have h5 := hk.1; have h6 := h5.1
    omega
 exact e
end
end Go.Proofs.YtglmdfddgmkmaaaDoor.Q
end
section
namespace Go.Proofs.YtglmdfddgmkmaaaDoor.Q
open Go.RowKit Go.Proofs.YtglmdfddgmkmaaaDoorW.PrintWords Go.Proofs.YtglmdfddgmkmaaaDoorW.PrintLast Go.Proofs.YtglmdfddgmkmaaaDoorW.PrintMore
attribute [local go_sem] max2_int min2_int max_two min_two max_three min_three max_four min_four
set_option linter.unusedVariables false
set_option linter.unusedSimpArgs false
set_option maxRecDepth 100000 in
set_option maxHeartbeats 2000000 in
theorem second_step (s : ByteArray) (hs : s.size ≤ 4096) (k : Nat) (h3 : C105 s k 3) (h1 : C43 s k) (h2 : C70 s k) : C70 s (k + 1) := by
 intro g p t w0 w r hr hI hB hp
 have H3 := Aside0.mk h3
 have H1 := Aside0.mk h1
 have H2 := Aside0.mk h2
 have HS := Aside0.mk hs
 have HP := Aside0.mk hp
 clear h3 h1 h2 hs hp
 simp only [pr] at hr
 have hu26 := Tryd.underlying26
 have hu65 := Tryd.underlying65
 cases hA : pr s k (.level 3) p t with
 | none => rw [hA] at hr; simp [ebind] at hr
 | some ra =>
  rw [hA] at hr
  have HA := Aside0.mk hA
  clear hA
  cases ra with
  | error q =>
   obtain ⟨q, er⟩ := q
   simp only [ebind, Option.some.injEq] at hr
   subst hr
   have HC := Aside0.mk (Cx.start (s := s) hI hB)
   have gl := HC.out.lt
   clear hI hB
   go_enter Tryd.func70, Tryd.ntmps70
   go_wp2_with (first | ((with_reducible refine gate_dst (N := 2) rfl ?_); refine alloc26_event rfl 2 rfl rfl ?_; intro b2 wa1 hb_ ha_ hw_; have zb2 := hw_.size; have yb2 := Nat.le_of_eq hb_.symm; have nHC := Aside0.mk (HC.out.below hw_); have nVb2 := Aside0.mk (Vr.mk (w := w) ha_ (Nat.le_trans HC.out.size yb2)); clear HC; have HC := nHC; have Vb2 := nVb2; clear nHC nVb2; have kb2 := Vb2.out.ge; clear hw_ ha_ hb_) | (go_at_call 105; (with_reducible refine (H3.out 3 rfl g p t w0 _ _ HA.out HC.out.st HC.out.bel HP.out).mono ?_); rintro e we ⟨rfl, hb, hk⟩))
   exact ⟨rfl, Post.err hb (KeepBut.trans HC.out.keep hk (.inl rfl))⟩
  | ok xa =>
   obtain ⟨x, p1, t1⟩ := xa
   have HP1 := Aside0.mk (pr_fits s _ _ _ _ _ _ _ HP.out HA.out)
   have HQ1 := Aside0.mk (next_fits s _ _ HP1.out)
   simp only [ebind] at hr
   by_cases ht1 : t1.toList = [63]
   ·rw [if_pos ht1] at hr
    have u1 : (t1.toList == ([63] : List UInt8)) = true := by simpa using ht1
    clear ht1
    cases hA : pr s k .first (nextP s p1 t1) (nextT s p1 t1) with
    | none => rw [hA] at hr; simp at hr
    | some rb =>
     rw [hA] at hr
     have HA1 := Aside0.mk hA
     clear hA
     cases rb with
     | error q =>
      obtain ⟨q, er⟩ := q
      simp only [Option.some.injEq] at hr
      subst hr
      have HC := Aside0.mk (Cx.start (s := s) hI hB)
      have gl := HC.out.lt
      clear hI hB
      go_enter Tryd.func70, Tryd.ntmps70
      go_upto_region 2 with (first | ((with_reducible refine gate_dst (N := 2) rfl ?_); refine alloc26_event rfl 2 rfl rfl ?_; intro b2 wa1 hb_ ha_ hw_; have zb2 := hw_.size; have yb2 := Nat.le_of_eq hb_.symm; have nHC := Aside0.mk (HC.out.below hw_); have nVb2 := Aside0.mk (Vr.mk (w := w) ha_ (Nat.le_trans HC.out.size yb2)); clear HC; have HC := nHC; have Vb2 := nVb2; clear nHC nVb2; have kb2 := Vb2.out.ge; clear hw_ ha_ hb_) | (go_at_call 105; have gx := Nat.lt_of_lt_of_le HC.out.lt HC.out.size; have qx := HC.out.size; have lb2_x := Vb2.out.lt; (with_reducible refine (H3.out 3 rfl g p t w0 _ _ HA.out HC.out.st HC.out.bel HP.out).mono ?_); rintro e wc2 ⟨Ax, cx, rfl, ht_, hi, hb, hk⟩; have zx := hk.1; have nHC := Aside0.mk (HC.out.call hi hb hk); have nVb2 := Aside0.mk (Vb2.out.call hk gl); have nTx := Aside0.mk (ht_); clear HC Vb2; have HC := nHC; have Vb2 := nVb2; have Tx := nTx; clear nHC nVb2 nTx; clear ht_ hi hb hk) | ((with_reducible refine gate_dst (N := 3) rfl ?_); refine alloc26_event rfl 3 rfl rfl ?_; intro b3 wa3 hb_ ha_ hw_; have lb2_b3 := Vb2.out.lt; have zb3 := hw_.size; have yb3 := Nat.le_of_eq hb_.symm; have nHC := Aside0.mk (HC.out.below hw_); have nVb2 := Aside0.mk (Vb2.out.below hw_); have nTx := Aside0.mk (Tx.out.below hw_); have nVb3 := Aside0.mk (Vr.mk (w := w) ha_ (Nat.le_trans HC.out.size yb3)); clear HC Vb2 Tx; have HC := nHC; have Vb2 := nVb2; have Tx := nTx; have Vb3 := nVb3; clear nHC nVb2 nTx nVb3; have kb3 := Vb3.out.ge; clear hw_ ha_ hb_) | (refine store26_event rfl 3 (.tmp 6) rfl rfl rfl rfl Vb3.out.at_ ?_; intro ws4 ha_ hw_; have zws4 := hw_.kept.1; have nHC := Aside0.mk (HC.out.wrote hw_ Vb3.out.ge); have nVb2 := Aside0.mk (Vb2.out.wrote hw_ (by omega)); have nTx := Aside0.mk (Tx.out.wrote hw_ (by omega)); have nVb3 := Aside0.mk (Vr.mk (w := w) ha_ Vb3.out.ge); clear HC Vb2 Tx Vb3; have HC := nHC; have Vb2 := nVb2; have Tx := nTx; have Vb3 := nVb3; clear nHC nVb2 nTx nVb3; clear hw_ ha_))
      obtain ⟨HG, hg⟩ := HC.out.st
      have c0 := cellS65_0 HG
      have c1 := cellS65_1 HG
      have c2 := cellS65_2 HG
      clear HG hg
      go_upto_region 4 with (fail)
      clear c0 c1 c2
      go_wp2_with (first | (go_at_call 42; have gn1 := Nat.lt_of_lt_of_le HC.out.lt HC.out.size; have qn1 := HC.out.size; have lb2_n1 := Vb2.out.lt; have lb3_n1 := Vb3.out.lt; (with_reducible refine (next_calls g s t1 p1 w0 _ HC.out.st HC.out.bel HP1.out HS.out).mono ?_); rintro e wn5 ⟨rfl, hi, hb, hk⟩; have zn1 := hk.1; have nHC := Aside0.mk (HC.out.call hi hb hk); have nVb2 := Aside0.mk (Vb2.out.call hk gl); have nVb3 := Aside0.mk (Vb3.out.call hk gl); have nTx := Aside0.mk (Tx.out.call hk (by omega)); clear HC Vb2 Vb3 Tx; have HC := nHC; have Vb2 := nVb2; have Vb3 := nVb3; have Tx := nTx; clear nHC nVb2 nVb3 nTx; clear hi hb hk) | (go_at_call 43; (with_reducible refine (H1.out g _ _ w0 _ _ HA1.out HC.out.st HC.out.bel HQ1.out).mono ?_); rintro e we ⟨rfl, hb, hk⟩))
      exact ⟨rfl, Post.err hb (KeepBut.trans HC.out.keep hk (.inl rfl))⟩
     | ok ya =>
      obtain ⟨y, p2, t2⟩ := ya
      have HP2 := Aside0.mk (pr_fits s _ _ _ _ _ _ _ HQ1.out HA1.out)
      have HQ2 := Aside0.mk (next_fits s _ _ HP2.out)
      simp only at hr
      by_cases ht2 : t2.toList = [58]
      ·rw [if_pos ht2] at hr
       have U2 := Aside0.mk (show t2.toList = (⟨#[58]⟩ : ByteArray).toList by rw [ht2]; simp)
       clear ht2
       cases hA : pr s k .second (nextP s p2 t2) (nextT s p2 t2) with
       | none => rw [hA] at hr; simp at hr
       | some rc =>
        rw [hA] at hr
        have HA2 := Aside0.mk hA
        clear hA
        cases rc with
        | error q =>
         obtain ⟨q, er⟩ := q
         simp only [Option.some.injEq] at hr
         subst hr
         have HC := Aside0.mk (Cx.start (s := s) hI hB)
         have gl := HC.out.lt
         clear hI hB
         go_enter Tryd.func70, Tryd.ntmps70
         go_upto_region 2 with (first | ((with_reducible refine gate_dst (N := 2) rfl ?_); refine alloc26_event rfl 2 rfl rfl ?_; intro b2 wa1 hb_ ha_ hw_; have zb2 := hw_.size; have yb2 := Nat.le_of_eq hb_.symm; have nHC := Aside0.mk (HC.out.below hw_); have nVb2 := Aside0.mk (Vr.mk (w := w) ha_ (Nat.le_trans HC.out.size yb2)); clear HC; have HC := nHC; have Vb2 := nVb2; clear nHC nVb2; have kb2 := Vb2.out.ge; clear hw_ ha_ hb_) | (go_at_call 105; have gx := Nat.lt_of_lt_of_le HC.out.lt HC.out.size; have qx := HC.out.size; have lb2_x := Vb2.out.lt; (with_reducible refine (H3.out 3 rfl g p t w0 _ _ HA.out HC.out.st HC.out.bel HP.out).mono ?_); rintro e wc2 ⟨Ax, cx, rfl, ht_, hi, hb, hk⟩; have zx := hk.1; have nHC := Aside0.mk (HC.out.call hi hb hk); have nVb2 := Aside0.mk (Vb2.out.call hk gl); have nTx := Aside0.mk (ht_); clear HC Vb2; have HC := nHC; have Vb2 := nVb2; have Tx := nTx; clear nHC nVb2 nTx; clear ht_ hi hb hk) | ((with_reducible refine gate_dst (N := 3) rfl ?_); refine alloc26_event rfl 3 rfl rfl ?_; intro b3 wa3 hb_ ha_ hw_; have lb2_b3 := Vb2.out.lt; have zb3 := hw_.size; have yb3 := Nat.le_of_eq hb_.symm; have nHC := Aside0.mk (HC.out.below hw_); have nVb2 := Aside0.mk (Vb2.out.below hw_); have nTx := Aside0.mk (Tx.out.below hw_); have nVb3 := Aside0.mk (Vr.mk (w := w) ha_ (Nat.le_trans HC.out.size yb3)); clear HC Vb2 Tx; have HC := nHC; have Vb2 := nVb2; have Tx := nTx; have Vb3 := nVb3; clear nHC nVb2 nTx nVb3; have kb3 := Vb3.out.ge; clear hw_ ha_ hb_) | (refine store26_event rfl 3 (.tmp 6) rfl rfl rfl rfl Vb3.out.at_ ?_; intro ws4 ha_ hw_; have zws4 := hw_.kept.1; have nHC := Aside0.mk (HC.out.wrote hw_ Vb3.out.ge); have nVb2 := Aside0.mk (Vb2.out.wrote hw_ (by omega)); have nTx := Aside0.mk (Tx.out.wrote hw_ (by omega)); have nVb3 := Aside0.mk (Vr.mk (w := w) ha_ Vb3.out.ge); clear HC Vb2 Tx Vb3; have HC := nHC; have Vb2 := nVb2; have Tx := nTx; have Vb3 := nVb3; clear nHC nVb2 nTx nVb3; clear hw_ ha_))
         obtain ⟨HG, hg⟩ := HC.out.st
         have c0 := cellS65_0 HG
         have c1 := cellS65_1 HG
         have c2 := cellS65_2 HG
         clear HG hg
         go_upto_region 4 with (fail)
         clear c0 c1 c2
         go_upto_region 6 with (first | (go_at_call 42; have gn1 := Nat.lt_of_lt_of_le HC.out.lt HC.out.size; have qn1 := HC.out.size; have lb2_n1 := Vb2.out.lt; have lb3_n1 := Vb3.out.lt; (with_reducible refine (next_calls g s t1 p1 w0 _ HC.out.st HC.out.bel HP1.out HS.out).mono ?_); rintro e wn5 ⟨rfl, hi, hb, hk⟩; have zn1 := hk.1; have nHC := Aside0.mk (HC.out.call hi hb hk); have nVb2 := Aside0.mk (Vb2.out.call hk gl); have nVb3 := Aside0.mk (Vb3.out.call hk gl); have nTx := Aside0.mk (Tx.out.call hk (by omega)); clear HC Vb2 Vb3 Tx; have HC := nHC; have Vb2 := nVb2; have Vb3 := nVb3; have Tx := nTx; clear nHC nVb2 nVb3 nTx; clear hi hb hk) | (go_at_call 43; have gy := Nat.lt_of_lt_of_le HC.out.lt HC.out.size; have qy := HC.out.size; have lb2_y := Vb2.out.lt; have lb3_y := Vb3.out.lt; (with_reducible refine (H1.out g _ _ w0 _ _ HA1.out HC.out.st HC.out.bel HQ1.out).mono ?_); rintro e wc6 ⟨Ay, cy, rfl, ht_, hi, hb, hk⟩; have zy := hk.1; have nHC := Aside0.mk (HC.out.call hi hb hk); have nVb2 := Aside0.mk (Vb2.out.call hk gl); have nVb3 := Aside0.mk (Vb3.out.call hk gl); have nTx := Aside0.mk (Tx.out.call hk (by omega)); have nTy := Aside0.mk (ht_); clear HC Vb2 Vb3 Tx; have HC := nHC; have Vb2 := nVb2; have Vb3 := nVb3; have Tx := nTx; have Ty := nTy; clear nHC nVb2 nVb3 nTx nTy; clear ht_ hi hb hk) | ((with_reducible refine gate_dst (N := 4) rfl ?_); refine alloc26_event rfl 4 rfl rfl ?_; intro b4 wa7 hb_ ha_ hw_; have lb2_b4 := Vb2.out.lt; have lb3_b4 := Vb3.out.lt; have zb4 := hw_.size; have yb4 := Nat.le_of_eq hb_.symm; have nHC := Aside0.mk (HC.out.below hw_); have nVb2 := Aside0.mk (Vb2.out.below hw_); have nVb3 := Aside0.mk (Vb3.out.below hw_); have nTx := Aside0.mk (Tx.out.below hw_); have nTy := Aside0.mk (Ty.out.below hw_); have nVb4 := Aside0.mk (Vr.mk (w := w) ha_ (Nat.le_trans HC.out.size yb4)); clear HC Vb2 Vb3 Tx Ty; have HC := nHC; have Vb2 := nVb2; have Vb3 := nVb3; have Tx := nTx; have Ty := nTy; have Vb4 := nVb4; clear nHC nVb2 nVb3 nTx nTy nVb4; have kb4 := Vb4.out.ge; clear hw_ ha_ hb_) | (refine store26_event rfl 4 (.tmp 16) rfl rfl rfl rfl Vb4.out.at_ ?_; intro ws8 ha_ hw_; have zws8 := hw_.kept.1; have nHC := Aside0.mk (HC.out.wrote hw_ Vb4.out.ge); have nVb2 := Aside0.mk (Vb2.out.wrote hw_ (by omega)); have nVb3 := Aside0.mk (Vb3.out.wrote hw_ (by omega)); have nTx := Aside0.mk (Tx.out.wrote hw_ (by omega)); have nTy := Aside0.mk (Ty.out.wrote hw_ (by omega)); have nVb4 := Aside0.mk (Vr.mk (w := w) ha_ Vb4.out.ge); clear HC Vb2 Vb3 Tx Ty Vb4; have HC := nHC; have Vb2 := nVb2; have Vb3 := nVb3; have Tx := nTx; have Ty := nTy; have Vb4 := nVb4; clear nHC nVb2 nVb3 nTx nTy nVb4; clear hw_ ha_))
         go_upto_region 7 with (first | (go_at_call 106; have ge2 := Nat.lt_of_lt_of_le HC.out.lt HC.out.size; have qe2 := HC.out.size; have lb2_e2 := Vb2.out.lt; have lb3_e2 := Vb3.out.lt; have lb4_e2 := Vb4.out.lt; (with_reducible refine (expect_yes g s t2 _ p2 w0 _ HC.out.st HC.out.bel HP2.out HS.out U2.out).mono ?_); rintro e wn9 ⟨rfl, hi, hb, hk⟩; have ze2 := hk.1; have nHC := Aside0.mk (HC.out.call hi hb hk); have nVb2 := Aside0.mk (Vb2.out.call hk gl); have nVb3 := Aside0.mk (Vb3.out.call hk gl); have nVb4 := Aside0.mk (Vb4.out.call hk gl); have nTx := Aside0.mk (Tx.out.call hk (by omega)); have nTy := Aside0.mk (Ty.out.call hk (by omega)); clear HC Vb2 Vb3 Vb4 Tx Ty; have HC := nHC; have Vb2 := nVb2; have Vb3 := nVb3; have Vb4 := nVb4; have Tx := nTx; have Ty := nTy; clear nHC nVb2 nVb3 nVb4 nTx nTy; clear hi hb hk))
         refine start_ (n := 7) (S := fun w' => At26 w' b3 x.f0 x.f1 x.f2 (.slice Ax x.f3.length cx) ∧ At26 w' b4 y.f0 y.f1 y.f2 (.slice Ay y.f3.length cy)) (ds := [6]) #[false, false, false, false, false, false, false] (by kernel_rfl) rfl rfl ⟨Vb3.out.drew.at_, Vb4.out.drew.at_⟩ (fun hHeld => ?_)
         have nHC := Aside0.mk (HC.out.drew)
         have nVb2 := Aside0.mk (Vb2.out.drew)
         have nVb3 := Aside0.mk (Vb3.out.drew)
         have nVb4 := Aside0.mk (Vb4.out.drew)
         have nTx := Aside0.mk (Tx.out.drew)
         have nTy := Aside0.mk (Ty.out.drew)
         clear HC Vb2 Vb3 Vb4 Tx Ty
         have HC := nHC
         have Vb2 := nVb2
         have Vb3 := nVb3
         have Vb4 := nVb4
         have Tx := nTx
         have Ty := nTy
         clear nHC nVb2 nVb3 nVb4 nTx nTy
         have zd : wn9.heap.size ≤ wn9.drew.heap.size := Nat.le_refl _
         refine pure_ (i := 2) (N := some 21) (v := ?_) (a' := ?_) #[false, false, true, false, false, false, false] rfl rfl (by kernel_rfl) (fun _ _ _ h => h) (Or.inl ⟨by rfl, ?_⟩) ?_ ?_
         rotate_left
         ·intro w'
          go_simp
          with_reducible rfl
         rotate_left
         ·simp only [Act.put, List.setIfInBounds_toArray, List.set_cons_zero, List.set_cons_succ, i64_w, i32_w]
          rfl
         refine take_ (i := 0) (N := some 19) (v := ?_) (a' := ?_) #[true, false, true, false, false, false, false] rfl rfl (by kernel_rfl) (fun _ _ _ h => h) (Or.inl ⟨by rfl, ?_⟩) hHeld ?_ ?_
         rotate_left
         ·rintro w' ⟨s3, s4⟩
          obtain ⟨e0, e1, e2, e3⟩ := s3.cells
          go_simp
          with_reducible rfl
         rotate_left
         ·simp only [Act.put, List.setIfInBounds_toArray, List.set_cons_zero, List.set_cons_succ, i64_w, i32_w]
          rfl
         refine take_ (i := 1) (N := some 20) (v := ?_) (a' := ?_) #[true, true, true, false, false, false, false] rfl rfl (by kernel_rfl) (fun _ _ _ h => h) (Or.inl ⟨by rfl, ?_⟩) hHeld ?_ ?_
         rotate_left
         ·rintro w' ⟨s3, s4⟩
          obtain ⟨e0, e1, e2, e3⟩ := s4.cells
          go_simp
          with_reducible rfl
         rotate_left
         ·simp only [Act.put, List.setIfInBounds_toArray, List.set_cons_zero, List.set_cons_succ, i64_w, i32_w]
          rfl
         refine one_ (i := 3) (N := some 22) #[true, true, true, true, false, false, false] rfl rfl (by kernel_rfl) (by decide) (fun K hK => ?_)
         refine goesP_ Tryd.func70 (by kernel_rfl) rfl #[.pointer (some ⟨g, 0, none⟩)] (by rfl) rfl (by simp only [List.map_toArray, List.map_cons, List.map_nil]; rfl) (faultV q er) ?_
         refine (H2.out g _ _ w0 _ _ HA2.out HC.out.st HC.out.bel HQ2.out).mono ?_
         rintro e we ⟨rfl, hb, hk⟩
         exact ⟨rfl, rfl, Post.err hb (KeepBut.trans HC.out.keep hk (.inl rfl))⟩
        | ok za =>
         obtain ⟨z, p3, t3⟩ := za
         simp only [Option.some.injEq] at hr
         subst hr
         have HC := Aside0.mk (Cx.start (s := s) hI hB)
         have gl := HC.out.lt
         clear hI hB
         go_enter Tryd.func70, Tryd.ntmps70
         go_upto_region 2 with (first | ((with_reducible refine gate_dst (N := 2) rfl ?_); refine alloc26_event rfl 2 rfl rfl ?_; intro b2 wa1 hb_ ha_ hw_; have zb2 := hw_.size; have yb2 := Nat.le_of_eq hb_.symm; have nHC := Aside0.mk (HC.out.below hw_); have nVb2 := Aside0.mk (Vr.mk (w := w) ha_ (Nat.le_trans HC.out.size yb2)); clear HC; have HC := nHC; have Vb2 := nVb2; clear nHC nVb2; have kb2 := Vb2.out.ge; clear hw_ ha_ hb_) | (go_at_call 105; have gx := Nat.lt_of_lt_of_le HC.out.lt HC.out.size; have qx := HC.out.size; have lb2_x := Vb2.out.lt; (with_reducible refine (H3.out 3 rfl g p t w0 _ _ HA.out HC.out.st HC.out.bel HP.out).mono ?_); rintro e wc2 ⟨Ax, cx, rfl, ht_, hi, hb, hk⟩; have zx := hk.1; have nHC := Aside0.mk (HC.out.call hi hb hk); have nVb2 := Aside0.mk (Vb2.out.call hk gl); have nTx := Aside0.mk (ht_); clear HC Vb2; have HC := nHC; have Vb2 := nVb2; have Tx := nTx; clear nHC nVb2 nTx; clear ht_ hi hb hk) | ((with_reducible refine gate_dst (N := 3) rfl ?_); refine alloc26_event rfl 3 rfl rfl ?_; intro b3 wa3 hb_ ha_ hw_; have lb2_b3 := Vb2.out.lt; have zb3 := hw_.size; have yb3 := Nat.le_of_eq hb_.symm; have nHC := Aside0.mk (HC.out.below hw_); have nVb2 := Aside0.mk (Vb2.out.below hw_); have nTx := Aside0.mk (Tx.out.below hw_); have nVb3 := Aside0.mk (Vr.mk (w := w) ha_ (Nat.le_trans HC.out.size yb3)); clear HC Vb2 Tx; have HC := nHC; have Vb2 := nVb2; have Tx := nTx; have Vb3 := nVb3; clear nHC nVb2 nTx nVb3; have kb3 := Vb3.out.ge; clear hw_ ha_ hb_) | (refine store26_event rfl 3 (.tmp 6) rfl rfl rfl rfl Vb3.out.at_ ?_; intro ws4 ha_ hw_; have zws4 := hw_.kept.1; have nHC := Aside0.mk (HC.out.wrote hw_ Vb3.out.ge); have nVb2 := Aside0.mk (Vb2.out.wrote hw_ (by omega)); have nTx := Aside0.mk (Tx.out.wrote hw_ (by omega)); have nVb3 := Aside0.mk (Vr.mk (w := w) ha_ Vb3.out.ge); clear HC Vb2 Tx Vb3; have HC := nHC; have Vb2 := nVb2; have Tx := nTx; have Vb3 := nVb3; clear nHC nVb2 nTx nVb3; clear hw_ ha_))
         obtain ⟨HG, hg⟩ := HC.out.st
         have c0 := cellS65_0 HG
         have c1 := cellS65_1 HG
         have c2 := cellS65_2 HG
         clear HG hg
         go_upto_region 4 with (fail)
         clear c0 c1 c2
         go_upto_region 6 with (first | (go_at_call 42; have gn1 := Nat.lt_of_lt_of_le HC.out.lt HC.out.size; have qn1 := HC.out.size; have lb2_n1 := Vb2.out.lt; have lb3_n1 := Vb3.out.lt; (with_reducible refine (next_calls g s t1 p1 w0 _ HC.out.st HC.out.bel HP1.out HS.out).mono ?_); rintro e wn5 ⟨rfl, hi, hb, hk⟩; have zn1 := hk.1; have nHC := Aside0.mk (HC.out.call hi hb hk); have nVb2 := Aside0.mk (Vb2.out.call hk gl); have nVb3 := Aside0.mk (Vb3.out.call hk gl); have nTx := Aside0.mk (Tx.out.call hk (by omega)); clear HC Vb2 Vb3 Tx; have HC := nHC; have Vb2 := nVb2; have Vb3 := nVb3; have Tx := nTx; clear nHC nVb2 nVb3 nTx; clear hi hb hk) | (go_at_call 43; have gy := Nat.lt_of_lt_of_le HC.out.lt HC.out.size; have qy := HC.out.size; have lb2_y := Vb2.out.lt; have lb3_y := Vb3.out.lt; (with_reducible refine (H1.out g _ _ w0 _ _ HA1.out HC.out.st HC.out.bel HQ1.out).mono ?_); rintro e wc6 ⟨Ay, cy, rfl, ht_, hi, hb, hk⟩; have zy := hk.1; have nHC := Aside0.mk (HC.out.call hi hb hk); have nVb2 := Aside0.mk (Vb2.out.call hk gl); have nVb3 := Aside0.mk (Vb3.out.call hk gl); have nTx := Aside0.mk (Tx.out.call hk (by omega)); have nTy := Aside0.mk (ht_); clear HC Vb2 Vb3 Tx; have HC := nHC; have Vb2 := nVb2; have Vb3 := nVb3; have Tx := nTx; have Ty := nTy; clear nHC nVb2 nVb3 nTx nTy; clear ht_ hi hb hk) | ((with_reducible refine gate_dst (N := 4) rfl ?_); refine alloc26_event rfl 4 rfl rfl ?_; intro b4 wa7 hb_ ha_ hw_; have lb2_b4 := Vb2.out.lt; have lb3_b4 := Vb3.out.lt; have zb4 := hw_.size; have yb4 := Nat.le_of_eq hb_.symm; have nHC := Aside0.mk (HC.out.below hw_); have nVb2 := Aside0.mk (Vb2.out.below hw_); have nVb3 := Aside0.mk (Vb3.out.below hw_); have nTx := Aside0.mk (Tx.out.below hw_); have nTy := Aside0.mk (Ty.out.below hw_); have nVb4 := Aside0.mk (Vr.mk (w := w) ha_ (Nat.le_trans HC.out.size yb4)); clear HC Vb2 Vb3 Tx Ty; have HC := nHC; have Vb2 := nVb2; have Vb3 := nVb3; have Tx := nTx; have Ty := nTy; have Vb4 := nVb4; clear nHC nVb2 nVb3 nTx nTy nVb4; have kb4 := Vb4.out.ge; clear hw_ ha_ hb_) | (refine store26_event rfl 4 (.tmp 16) rfl rfl rfl rfl Vb4.out.at_ ?_; intro ws8 ha_ hw_; have zws8 := hw_.kept.1; have nHC := Aside0.mk (HC.out.wrote hw_ Vb4.out.ge); have nVb2 := Aside0.mk (Vb2.out.wrote hw_ (by omega)); have nVb3 := Aside0.mk (Vb3.out.wrote hw_ (by omega)); have nTx := Aside0.mk (Tx.out.wrote hw_ (by omega)); have nTy := Aside0.mk (Ty.out.wrote hw_ (by omega)); have nVb4 := Aside0.mk (Vr.mk (w := w) ha_ Vb4.out.ge); clear HC Vb2 Vb3 Tx Ty Vb4; have HC := nHC; have Vb2 := nVb2; have Vb3 := nVb3; have Tx := nTx; have Ty := nTy; have Vb4 := nVb4; clear nHC nVb2 nVb3 nTx nTy nVb4; clear hw_ ha_))
         go_upto_region 7 with (first | (go_at_call 106; have ge2 := Nat.lt_of_lt_of_le HC.out.lt HC.out.size; have qe2 := HC.out.size; have lb2_e2 := Vb2.out.lt; have lb3_e2 := Vb3.out.lt; have lb4_e2 := Vb4.out.lt; (with_reducible refine (expect_yes g s t2 _ p2 w0 _ HC.out.st HC.out.bel HP2.out HS.out U2.out).mono ?_); rintro e wn9 ⟨rfl, hi, hb, hk⟩; have ze2 := hk.1; have nHC := Aside0.mk (HC.out.call hi hb hk); have nVb2 := Aside0.mk (Vb2.out.call hk gl); have nVb3 := Aside0.mk (Vb3.out.call hk gl); have nVb4 := Aside0.mk (Vb4.out.call hk gl); have nTx := Aside0.mk (Tx.out.call hk (by omega)); have nTy := Aside0.mk (Ty.out.call hk (by omega)); clear HC Vb2 Vb3 Vb4 Tx Ty; have HC := nHC; have Vb2 := nVb2; have Vb3 := nVb3; have Vb4 := nVb4; have Tx := nTx; have Ty := nTy; clear nHC nVb2 nVb3 nVb4 nTx nTy; clear hi hb hk))
         refine start_ (n := 7) (S := fun w' => At26 w' b3 x.f0 x.f1 x.f2 (.slice Ax x.f3.length cx) ∧ At26 w' b4 y.f0 y.f1 y.f2 (.slice Ay y.f3.length cy)) (ds := [6]) #[false, false, false, false, false, false, false] (by kernel_rfl) rfl rfl ⟨Vb3.out.drew.at_, Vb4.out.drew.at_⟩ (fun hHeld => ?_)
         have nHC := Aside0.mk (HC.out.drew)
         have nVb2 := Aside0.mk (Vb2.out.drew)
         have nVb3 := Aside0.mk (Vb3.out.drew)
         have nVb4 := Aside0.mk (Vb4.out.drew)
         have nTx := Aside0.mk (Tx.out.drew)
         have nTy := Aside0.mk (Ty.out.drew)
         clear HC Vb2 Vb3 Vb4 Tx Ty
         have HC := nHC
         have Vb2 := nVb2
         have Vb3 := nVb3
         have Vb4 := nVb4
         have Tx := nTx
         have Ty := nTy
         clear nHC nVb2 nVb3 nVb4 nTx nTy
         have zd : wn9.heap.size ≤ wn9.drew.heap.size := Nat.le_refl _
         refine pure_ (i := 2) (N := some 21) (v := ?_) (a' := ?_) #[false, false, true, false, false, false, false] rfl rfl (by kernel_rfl) (fun _ _ _ h => h) (Or.inl ⟨by rfl, ?_⟩) ?_ ?_
         rotate_left
         ·intro w'
          go_simp
          with_reducible rfl
         rotate_left
         ·simp only [Act.put, List.setIfInBounds_toArray, List.set_cons_zero, List.set_cons_succ, i64_w, i32_w]
          rfl
         refine take_ (i := 0) (N := some 19) (v := ?_) (a' := ?_) #[true, false, true, false, false, false, false] rfl rfl (by kernel_rfl) (fun _ _ _ h => h) (Or.inl ⟨by rfl, ?_⟩) hHeld ?_ ?_
         rotate_left
         ·rintro w' ⟨s3, s4⟩
          obtain ⟨e0, e1, e2, e3⟩ := s3.cells
          go_simp
          with_reducible rfl
         rotate_left
         ·simp only [Act.put, List.setIfInBounds_toArray, List.set_cons_zero, List.set_cons_succ, i64_w, i32_w]
          rfl
         refine take_ (i := 1) (N := some 20) (v := ?_) (a' := ?_) #[true, true, true, false, false, false, false] rfl rfl (by kernel_rfl) (fun _ _ _ h => h) (Or.inl ⟨by rfl, ?_⟩) hHeld ?_ ?_
         rotate_left
         ·rintro w' ⟨s3, s4⟩
          obtain ⟨e0, e1, e2, e3⟩ := s4.cells
          go_simp
          with_reducible rfl
         rotate_left
         ·simp only [Act.put, List.setIfInBounds_toArray, List.set_cons_zero, List.set_cons_succ, i64_w, i32_w]
          rfl
         refine one_ (i := 3) (N := some 22) #[true, true, true, true, false, false, false] rfl rfl (by kernel_rfl) (by decide) (fun K hK => ?_)
         refine goes_ Tryd.func70 (by kernel_rfl) rfl #[.pointer (some ⟨g, 0, none⟩)] (by rfl) rfl rfl (by simp only [List.map_toArray, List.map_cons, List.map_nil]; rfl) ?_
         have gz := Nat.lt_of_lt_of_le HC.out.lt HC.out.size
         have qz := HC.out.size
         have lb2_z := Vb2.out.lt
         have lb3_z := Vb3.out.lt
         have lb4_z := Vb4.out.lt
         with_reducible refine (H2.out g _ _ w0 _ _ HA2.out HC.out.st HC.out.bel HQ2.out).mono ?_
         rintro e wz ⟨Az, cz, rfl, ht_, hi, hb, hk⟩
         refine ⟨_, rfl, ?_⟩
         have zz := hk.1
         have nHC := Aside0.mk (HC.out.call hi hb hk)
         have nVb2 := Aside0.mk (Vb2.out.call hk gl)
         have nVb3 := Aside0.mk (Vb3.out.call hk gl)
         have nVb4 := Aside0.mk (Vb4.out.call hk gl)
         have nTx := Aside0.mk (Tx.out.call hk (by omega))
         have nTy := Aside0.mk (Ty.out.call hk (by omega))
         have nTz := Aside0.mk (ht_)
         clear HC Vb2 Vb3 Vb4 Tx Ty
         have HC := nHC
         have Vb2 := nVb2
         have Vb3 := nVb3
         have Vb4 := nVb4
         have Tx := nTx
         have Ty := nTy
         have Tz := nTz
         clear nHC nVb2 nVb3 nVb4 nTx nTy nTz
         clear ht_ hi hb hk
         refine hK.out _ _ ⟨Vb3.out.at_, Vb4.out.at_⟩ (fun hHeld => ?_)
         clear hK K
         refine norm_ (a' := ?_) ?_ ?_
         rotate_left
         ·show Act.put _ (some 22) _ = _
          simp only [Act.put, List.setIfInBounds_toArray, List.set_cons_zero, List.set_cons_succ, i64_w, i32_w]
          rfl
         refine one_ (i := 4) (N := some 23) #[true, true, true, true, true, false, false] rfl rfl (by kernel_rfl) (by decide) (fun K hK => ?_)
         refine cells_step (by rfl) 23 rfl [(x, Ax, cx), (y, Ay, cy), (z, Az, cz)] (lo := wa1.heap.size) (hi := wz.heap.size) (by go_simp; rfl) ?hl (by omega) (Nat.le_refl _) (by simp) ?_
         case hl => exact tr_all3 (Tx.out.wide (by omega) (by omega)) (Ty.out.wide (by omega) (by omega)) (Tz.out.wide (by omega) (by omega))
         intro An cn wl ht_ hw_ hz_
         have zl := hw_.size
         have nHC := Aside0.mk (HC.out.below hw_)
         have nVb2 := Aside0.mk (Vb2.out.below hw_)
         have nVb3 := Aside0.mk (Vb3.out.below hw_)
         have nVb4 := Aside0.mk (Vb4.out.below hw_)
         have nTx := Aside0.mk (Tx.out.below hw_)
         have nTy := Aside0.mk (Ty.out.below hw_)
         have nTz := Aside0.mk (Tz.out.below hw_)
         have nTn := Aside0.mk (ht_)
         clear HC Vb2 Vb3 Vb4 Tx Ty Tz
         have HC := nHC
         have Vb2 := nVb2
         have Vb3 := nVb3
         have Vb4 := nVb4
         have Tx := nTx
         have Ty := nTy
         have Tz := nTz
         have Tn := nTn
         clear nHC nVb2 nVb3 nVb4 nTx nTy nTz nTn
         clear ht_ hw_
         refine hK.out _ _ ⟨Vb3.out.at_, Vb4.out.at_⟩ (fun hHeld => ?_)
         clear hK K
         refine norm_ (a' := ?_) ?_ ?_
         rotate_left
         ·show Act.put _ (some 23) _ = _
          simp only [Act.put, List.setIfInBounds_toArray, List.set_cons_zero, List.set_cons_succ, i64_w, i32_w]
          rfl
         refine pure_ (i := 5) (N := some 24) (v := ?_) (a' := ?_) #[true, true, true, true, true, true, false] rfl rfl (by kernel_rfl) (fun _ _ _ h => h) (Or.inl ⟨by rfl, ?_⟩) ?_ ?_
         rotate_left
         ·intro w'
          go_simp
          with_reducible rfl
         rotate_left
         ·simp only [Act.put, List.setIfInBounds_toArray, List.set_cons_zero, List.set_cons_succ, i64_w, i32_w]
          rfl
         refine last_ (i := 6) (N := none) #[true, true, true, true, true, true, true] rfl rfl (by kernel_rfl) (by decide) (fun K hK => ?_)
         refine store26_step (by rfl) 2 (.tmp 24) rfl rfl rfl rfl Vb2.out.at_ ?_
         intro wf ha_ hw_
         have zf := hw_.kept.1
         have nHC := Aside0.mk (HC.out.wrote hw_ Vb2.out.ge)
         have nTn := Aside0.mk (Tn.out.wrote hw_ (by omega))
         have nVb2 := Aside0.mk (Vr.mk (w := w) ha_ Vb2.out.ge)
         clear HC Tn Vb2
         have HC := nHC
         have Tn := nTn
         have Vb2 := nVb2
         clear nHC nTn nVb2
         clear hw_ ha_
         refine hK.out _ _ ?_
         refine done_ (by kernel_rfl) ?_
         go_wp2_with (fail)
         refine bodyPost_ret (results_cell_row rfl _ _ b2 26 #[.int .i64 (25), .int .i64 (0), .string (⟨#[]⟩), .slice An 3 cn] (0, 0) _ rfl Vb2.out.at_ Tryd.underlying26 rfl (by kernel_rfl)) rfl ?_
         exact Post.done (x := ⟨25, 0, noName, [x, y, z]⟩) Tn.out HC.out (by omega) (by omega)
      ·rw [if_neg ht2] at hr
       have U2 := Aside0.mk (show ¬ t2.toList = (⟨#[58]⟩ : ByteArray).toList by simpa using ht2)
       clear ht2
       simp only [Option.some.injEq] at hr
       subst hr
       have HC := Aside0.mk (Cx.start (s := s) hI hB)
       have gl := HC.out.lt
       clear hI hB
       go_enter Tryd.func70, Tryd.ntmps70
       go_upto_region 2 with (first | ((with_reducible refine gate_dst (N := 2) rfl ?_); refine alloc26_event rfl 2 rfl rfl ?_; intro b2 wa1 hb_ ha_ hw_; have zb2 := hw_.size; have yb2 := Nat.le_of_eq hb_.symm; have nHC := Aside0.mk (HC.out.below hw_); have nVb2 := Aside0.mk (Vr.mk (w := w) ha_ (Nat.le_trans HC.out.size yb2)); clear HC; have HC := nHC; have Vb2 := nVb2; clear nHC nVb2; have kb2 := Vb2.out.ge; clear hw_ ha_ hb_) | (go_at_call 105; have gx := Nat.lt_of_lt_of_le HC.out.lt HC.out.size; have qx := HC.out.size; have lb2_x := Vb2.out.lt; (with_reducible refine (H3.out 3 rfl g p t w0 _ _ HA.out HC.out.st HC.out.bel HP.out).mono ?_); rintro e wc2 ⟨Ax, cx, rfl, ht_, hi, hb, hk⟩; have zx := hk.1; have nHC := Aside0.mk (HC.out.call hi hb hk); have nVb2 := Aside0.mk (Vb2.out.call hk gl); have nTx := Aside0.mk (ht_); clear HC Vb2; have HC := nHC; have Vb2 := nVb2; have Tx := nTx; clear nHC nVb2 nTx; clear ht_ hi hb hk) | ((with_reducible refine gate_dst (N := 3) rfl ?_); refine alloc26_event rfl 3 rfl rfl ?_; intro b3 wa3 hb_ ha_ hw_; have lb2_b3 := Vb2.out.lt; have zb3 := hw_.size; have yb3 := Nat.le_of_eq hb_.symm; have nHC := Aside0.mk (HC.out.below hw_); have nVb2 := Aside0.mk (Vb2.out.below hw_); have nTx := Aside0.mk (Tx.out.below hw_); have nVb3 := Aside0.mk (Vr.mk (w := w) ha_ (Nat.le_trans HC.out.size yb3)); clear HC Vb2 Tx; have HC := nHC; have Vb2 := nVb2; have Tx := nTx; have Vb3 := nVb3; clear nHC nVb2 nTx nVb3; have kb3 := Vb3.out.ge; clear hw_ ha_ hb_) | (refine store26_event rfl 3 (.tmp 6) rfl rfl rfl rfl Vb3.out.at_ ?_; intro ws4 ha_ hw_; have zws4 := hw_.kept.1; have nHC := Aside0.mk (HC.out.wrote hw_ Vb3.out.ge); have nVb2 := Aside0.mk (Vb2.out.wrote hw_ (by omega)); have nTx := Aside0.mk (Tx.out.wrote hw_ (by omega)); have nVb3 := Aside0.mk (Vr.mk (w := w) ha_ Vb3.out.ge); clear HC Vb2 Tx Vb3; have HC := nHC; have Vb2 := nVb2; have Tx := nTx; have Vb3 := nVb3; clear nHC nVb2 nTx nVb3; clear hw_ ha_))
       obtain ⟨HG, hg⟩ := HC.out.st
       have c0 := cellS65_0 HG
       have c1 := cellS65_1 HG
       have c2 := cellS65_2 HG
       clear HG hg
       go_upto_region 4 with (fail)
       clear c0 c1 c2
       go_upto_region 6 with (first | (go_at_call 42; have gn1 := Nat.lt_of_lt_of_le HC.out.lt HC.out.size; have qn1 := HC.out.size; have lb2_n1 := Vb2.out.lt; have lb3_n1 := Vb3.out.lt; (with_reducible refine (next_calls g s t1 p1 w0 _ HC.out.st HC.out.bel HP1.out HS.out).mono ?_); rintro e wn5 ⟨rfl, hi, hb, hk⟩; have zn1 := hk.1; have nHC := Aside0.mk (HC.out.call hi hb hk); have nVb2 := Aside0.mk (Vb2.out.call hk gl); have nVb3 := Aside0.mk (Vb3.out.call hk gl); have nTx := Aside0.mk (Tx.out.call hk (by omega)); clear HC Vb2 Vb3 Tx; have HC := nHC; have Vb2 := nVb2; have Vb3 := nVb3; have Tx := nTx; clear nHC nVb2 nVb3 nTx; clear hi hb hk) | (go_at_call 43; have gy := Nat.lt_of_lt_of_le HC.out.lt HC.out.size; have qy := HC.out.size; have lb2_y := Vb2.out.lt; have lb3_y := Vb3.out.lt; (with_reducible refine (H1.out g _ _ w0 _ _ HA1.out HC.out.st HC.out.bel HQ1.out).mono ?_); rintro e wc6 ⟨Ay, cy, rfl, ht_, hi, hb, hk⟩; have zy := hk.1; have nHC := Aside0.mk (HC.out.call hi hb hk); have nVb2 := Aside0.mk (Vb2.out.call hk gl); have nVb3 := Aside0.mk (Vb3.out.call hk gl); have nTx := Aside0.mk (Tx.out.call hk (by omega)); have nTy := Aside0.mk (ht_); clear HC Vb2 Vb3 Tx; have HC := nHC; have Vb2 := nVb2; have Vb3 := nVb3; have Tx := nTx; have Ty := nTy; clear nHC nVb2 nVb3 nTx nTy; clear ht_ hi hb hk) | ((with_reducible refine gate_dst (N := 4) rfl ?_); refine alloc26_event rfl 4 rfl rfl ?_; intro b4 wa7 hb_ ha_ hw_; have lb2_b4 := Vb2.out.lt; have lb3_b4 := Vb3.out.lt; have zb4 := hw_.size; have yb4 := Nat.le_of_eq hb_.symm; have nHC := Aside0.mk (HC.out.below hw_); have nVb2 := Aside0.mk (Vb2.out.below hw_); have nVb3 := Aside0.mk (Vb3.out.below hw_); have nTx := Aside0.mk (Tx.out.below hw_); have nTy := Aside0.mk (Ty.out.below hw_); have nVb4 := Aside0.mk (Vr.mk (w := w) ha_ (Nat.le_trans HC.out.size yb4)); clear HC Vb2 Vb3 Tx Ty; have HC := nHC; have Vb2 := nVb2; have Vb3 := nVb3; have Tx := nTx; have Ty := nTy; have Vb4 := nVb4; clear nHC nVb2 nVb3 nTx nTy nVb4; have kb4 := Vb4.out.ge; clear hw_ ha_ hb_) | (refine store26_event rfl 4 (.tmp 16) rfl rfl rfl rfl Vb4.out.at_ ?_; intro ws8 ha_ hw_; have zws8 := hw_.kept.1; have nHC := Aside0.mk (HC.out.wrote hw_ Vb4.out.ge); have nVb2 := Aside0.mk (Vb2.out.wrote hw_ (by omega)); have nVb3 := Aside0.mk (Vb3.out.wrote hw_ (by omega)); have nTx := Aside0.mk (Tx.out.wrote hw_ (by omega)); have nTy := Aside0.mk (Ty.out.wrote hw_ (by omega)); have nVb4 := Aside0.mk (Vr.mk (w := w) ha_ Vb4.out.ge); clear HC Vb2 Vb3 Tx Ty Vb4; have HC := nHC; have Vb2 := nVb2; have Vb3 := nVb3; have Tx := nTx; have Ty := nTy; have Vb4 := nVb4; clear nHC nVb2 nVb3 nTx nTy nVb4; clear hw_ ha_))
       go_wp2_with (first | (go_at_call 106; (with_reducible refine (expect_no g s t2 _ p2 w0 _ HC.out.st U2.out).mono ?_); rintro e we ⟨rfl, rfl⟩))
       exact ⟨rfl, Post.err HC.out.bel HC.out.keep⟩
   ·rw [if_neg ht1] at hr
    have u1 : (t1.toList == ([63] : List UInt8)) = false := by simpa using ht1
    clear ht1
    simp only [Option.some.injEq] at hr
    subst hr
    have HC := Aside0.mk (Cx.start (s := s) hI hB)
    have gl := HC.out.lt
    clear hI hB
    go_enter Tryd.func70, Tryd.ntmps70
    go_upto_region 2 with (first | ((with_reducible refine gate_dst (N := 2) rfl ?_); refine alloc26_event rfl 2 rfl rfl ?_; intro b2 wa1 hb_ ha_ hw_; have zb2 := hw_.size; have yb2 := Nat.le_of_eq hb_.symm; have nHC := Aside0.mk (HC.out.below hw_); have nVb2 := Aside0.mk (Vr.mk (w := w) ha_ (Nat.le_trans HC.out.size yb2)); clear HC; have HC := nHC; have Vb2 := nVb2; clear nHC nVb2; have kb2 := Vb2.out.ge; clear hw_ ha_ hb_) | (go_at_call 105; have gx := Nat.lt_of_lt_of_le HC.out.lt HC.out.size; have qx := HC.out.size; have lb2_x := Vb2.out.lt; (with_reducible refine (H3.out 3 rfl g p t w0 _ _ HA.out HC.out.st HC.out.bel HP.out).mono ?_); rintro e wc2 ⟨Ax, cx, rfl, ht_, hi, hb, hk⟩; have zx := hk.1; have nHC := Aside0.mk (HC.out.call hi hb hk); have nVb2 := Aside0.mk (Vb2.out.call hk gl); have nTx := Aside0.mk (ht_); clear HC Vb2; have HC := nHC; have Vb2 := nVb2; have Tx := nTx; clear nHC nVb2 nTx; clear ht_ hi hb hk) | ((with_reducible refine gate_dst (N := 3) rfl ?_); refine alloc26_event rfl 3 rfl rfl ?_; intro b3 wa3 hb_ ha_ hw_; have lb2_b3 := Vb2.out.lt; have zb3 := hw_.size; have yb3 := Nat.le_of_eq hb_.symm; have nHC := Aside0.mk (HC.out.below hw_); have nVb2 := Aside0.mk (Vb2.out.below hw_); have nTx := Aside0.mk (Tx.out.below hw_); have nVb3 := Aside0.mk (Vr.mk (w := w) ha_ (Nat.le_trans HC.out.size yb3)); clear HC Vb2 Tx; have HC := nHC; have Vb2 := nVb2; have Tx := nTx; have Vb3 := nVb3; clear nHC nVb2 nTx nVb3; have kb3 := Vb3.out.ge; clear hw_ ha_ hb_) | (refine store26_event rfl 3 (.tmp 6) rfl rfl rfl rfl Vb3.out.at_ ?_; intro ws4 ha_ hw_; have zws4 := hw_.kept.1; have nHC := Aside0.mk (HC.out.wrote hw_ Vb3.out.ge); have nVb2 := Aside0.mk (Vb2.out.wrote hw_ (by omega)); have nTx := Aside0.mk (Tx.out.wrote hw_ (by omega)); have nVb3 := Aside0.mk (Vr.mk (w := w) ha_ Vb3.out.ge); clear HC Vb2 Tx Vb3; have HC := nHC; have Vb2 := nVb2; have Tx := nTx; have Vb3 := nVb3; clear nHC nVb2 nTx nVb3; clear hw_ ha_))
    obtain ⟨HG, hg⟩ := HC.out.st
    have c0 := cellS65_0 HG
    have c1 := cellS65_1 HG
    have c2 := cellS65_2 HG
    clear HG hg
    obtain ⟨x0, x1, x2, x3⟩ := Vb3.out.at_.cells
    go_upto_region 3 with (fail)
    go_wp2_with (first | (refine store26_event rfl 2 (.tmp 12) rfl rfl rfl rfl Vb2.out.at_ ?_; intro ws5 ha_ hw_; have zws5 := hw_.kept.1; have nHC := Aside0.mk (HC.out.wrote hw_ Vb2.out.ge); have nVb3 := Aside0.mk (Vb3.out.wrote hw_ (by omega)); have nTx := Aside0.mk (Tx.out.wrote hw_ (by omega)); have nVb2 := Aside0.mk (Vr.mk (w := w) ha_ Vb2.out.ge); clear HC Vb3 Tx Vb2; have HC := nHC; have Vb3 := nVb3; have Tx := nTx; have Vb2 := nVb2; clear nHC nVb3 nTx nVb2; clear hw_ ha_))
    refine bodyPost_ret (results_cell_row rfl _ _ b2 26 #[.int .i64 (x.f0), .int .i64 (x.f1), .string (x.f2), .slice Ax x.f3.length cx] (0, 0) _ rfl Vb2.out.at_ Tryd.underlying26 rfl (by kernel_rfl)) rfl ?_
    exact Post.done Tx.out HC.out (by omega) (by omega)
end Go.Proofs.YtglmdfddgmkmaaaDoor.Q
end
section
namespace Go.Proofs.YtglmdfddgmkmaaaDoor.Q
open Go.RowKit Go.Proofs.YtglmdfddgmkmaaaDoorW.PrintWords Go.Proofs.YtglmdfddgmkmaaaDoorW.PrintLast Go.Proofs.YtglmdfddgmkmaaaDoorW.PrintMore
attribute [local go_sem] max2_int min2_int max_two min_two max_three min_three max_four min_four
set_option linter.unusedVariables false
set_option linter.unusedSimpArgs false
theorem bare_eq (s : ByteArray) (hs : s.size ≤ 4096) (x : Int) (t : ByteArray) : ∀ p : Nat, p ≤ s.size → arith_parser_bare.l0 (p + 1) p s x t = some (bareN s p, s, x, t)
 | 0, _ => by simp [arith_parser_bare.l0, bareN]
 | n + 1, h => by
  have ih := bare_eq s hs x t n (by omega)
  have e : wrap64 (((n + 1 : Nat) : Int) - 1) = (n : Int) := by unfold wrap64; omega
  rw [arith_parser_bare.l0, if_pos (by omega), e, if_pos (by omega), if_pos (by omega)]
  simp only [bareN, isBl]
  by_cases h1 : bt s n = 32
  ·rw [if_pos h1, ih]; simp [h1]
  ·rw [if_neg h1]
   by_cases h2 : bt s n = 9
   ·rw [if_pos h2, ih]; simp [h2]
   ·rw [if_neg h2]
    by_cases h3 : bt s n = 10
    ·rw [if_pos h3, ih]; simp [h3]
    ·rw [if_neg h3]
     have b1 : (bt s n == 32) = false := beq_eq_false_iff_ne.mpr h1
     have b2 : (bt s n == 9) = false := beq_eq_false_iff_ne.mpr h2
     have b3 : (bt s n == 10) = false := beq_eq_false_iff_ne.mpr h3
     simp [b1, b2, b3]
     rfl
theorem bare_f (s : ByteArray) (hs : s.size ≤ 4096) (p : Nat) (hp : p ≤ s.size) (t : ByteArray) (x : S26) : arith_parser_bare.f (p + 1) s p t x.f0 x.f1 x.f2 x.f3 = some (bareN s p, s, (p : Int), t) := bare_eq s hs p t p hp
set_option maxRecDepth 100000 in
set_option maxHeartbeats 2000000 in
theorem first_step (s : ByteArray) (hs : s.size ≤ 4096) (k : Nat) (h1 : C43 s k) (h2 : C70 s k) : C43 s (k + 1) := by
 intro g p t w0 w r hr hI hB hp
 have H1 := Aside0.mk h1
 have H2 := Aside0.mk h2
 have HS := Aside0.mk hs
 have HP := Aside0.mk hp
 clear h1 h2 hs hp
 simp only [pr] at hr
 have hu26 := Tryd.underlying26
 have hu65 := Tryd.underlying65
 cases hA : pr s k .second p t with
 | none => rw [hA] at hr; simp [ebind] at hr
 | some ra =>
  rw [hA] at hr
  have HA := Aside0.mk hA
  clear hA
  cases ra with
  | error q =>
   obtain ⟨q, er⟩ := q
   simp only [ebind, Option.some.injEq] at hr
   subst hr
   have HC := Aside0.mk (Cx.start (s := s) hI hB)
   have gl := HC.out.lt
   clear hI hB
   go_enter Tryd.func43, Tryd.ntmps43
   go_wp2_with (first | ((with_reducible refine gate_dst (N := 2) rfl ?_); refine alloc26_event rfl 2 rfl rfl ?_; intro b2 wa1 hb_ ha_ hw_; have zb2 := hw_.size; have yb2 := Nat.le_of_eq hb_.symm; have nHC := Aside0.mk (HC.out.below hw_); have nVb2 := Aside0.mk (Vr.mk (w := w) ha_ (Nat.le_trans HC.out.size yb2)); clear HC; have HC := nHC; have Vb2 := nVb2; clear nHC nVb2; have kb2 := Vb2.out.ge; clear hw_ ha_ hb_) | (go_at_call 70; (with_reducible refine (H2.out g p t w0 _ _ HA.out HC.out.st HC.out.bel HP.out).mono ?_); rintro e we ⟨rfl, hb, hk⟩))
   exact ⟨rfl, Post.err hb (KeepBut.trans HC.out.keep hk (.inl rfl))⟩
  | ok xa =>
   obtain ⟨x, p1, t1⟩ := xa
   have HP1 := Aside0.mk (pr_fits s _ _ _ _ _ _ _ HP.out HA.out)
   have HQ1 := Aside0.mk (next_fits s _ _ HP1.out)
   have HBR := Aside0.mk (bare_f s HS.out p1 (by have := HP1.out; omega) t1 x)
   simp only [ebind] at hr
   cases hG : arith_assignment.f 1 t1 with
   | none => rw [hG] at hr; simp at hr
   | some oi =>
    obtain ⟨op, is⟩ := oi
    rw [hG] at hr
    have HG1 := Aside0.mk hG
    clear hG
    simp only at hr
    cases is with
    | false =>
     rw [if_neg (by simp)] at hr
     simp only [Option.some.injEq] at hr
     subst hr
     have HC := Aside0.mk (Cx.start (s := s) hI hB)
     have gl := HC.out.lt
     clear hI hB
     go_enter Tryd.func43, Tryd.ntmps43
     go_upto_region 2 with (first | ((with_reducible refine gate_dst (N := 2) rfl ?_); refine alloc26_event rfl 2 rfl rfl ?_; intro b2 wa1 hb_ ha_ hw_; have zb2 := hw_.size; have yb2 := Nat.le_of_eq hb_.symm; have nHC := Aside0.mk (HC.out.below hw_); have nVb2 := Aside0.mk (Vr.mk (w := w) ha_ (Nat.le_trans HC.out.size yb2)); clear HC; have HC := nHC; have Vb2 := nVb2; clear nHC nVb2; have kb2 := Vb2.out.ge; clear hw_ ha_ hb_) | (go_at_call 70; have gx := Nat.lt_of_lt_of_le HC.out.lt HC.out.size; have qx := HC.out.size; have lb2_x := Vb2.out.lt; (with_reducible refine (H2.out g p t w0 _ _ HA.out HC.out.st HC.out.bel HP.out).mono ?_); rintro e wc2 ⟨Ax, cx, rfl, ht_, hi, hb, hk⟩; have zx := hk.1; have nHC := Aside0.mk (HC.out.call hi hb hk); have nVb2 := Aside0.mk (Vb2.out.call hk gl); have nTx := Aside0.mk (ht_); clear HC Vb2; have HC := nHC; have Vb2 := nVb2; have Tx := nTx; clear nHC nVb2 nTx; clear ht_ hi hb hk) | ((with_reducible refine gate_dst (N := 3) rfl ?_); refine alloc26_event rfl 3 rfl rfl ?_; intro b3 wa3 hb_ ha_ hw_; have lb2_b3 := Vb2.out.lt; have zb3 := hw_.size; have yb3 := Nat.le_of_eq hb_.symm; have nHC := Aside0.mk (HC.out.below hw_); have nVb2 := Aside0.mk (Vb2.out.below hw_); have nTx := Aside0.mk (Tx.out.below hw_); have nVb3 := Aside0.mk (Vr.mk (w := w) ha_ (Nat.le_trans HC.out.size yb3)); clear HC Vb2 Tx; have HC := nHC; have Vb2 := nVb2; have Tx := nTx; have Vb3 := nVb3; clear nHC nVb2 nTx nVb3; have kb3 := Vb3.out.ge; clear hw_ ha_ hb_) | (refine store26_event rfl 3 (.tmp 7) rfl rfl rfl rfl Vb3.out.at_ ?_; intro ws4 ha_ hw_; have zws4 := hw_.kept.1; have nHC := Aside0.mk (HC.out.wrote hw_ Vb3.out.ge); have nVb2 := Aside0.mk (Vb2.out.wrote hw_ (by omega)); have nTx := Aside0.mk (Tx.out.wrote hw_ (by omega)); have nVb3 := Aside0.mk (Vr.mk (w := w) ha_ Vb3.out.ge); clear HC Vb2 Tx Vb3; have HC := nHC; have Vb2 := nVb2; have Tx := nTx; have Vb3 := nVb3; clear nHC nVb2 nTx nVb3; clear hw_ ha_))
     obtain ⟨HG, hg⟩ := HC.out.st
     have c0 := cellS65_0 HG
     have c1 := cellS65_1 HG
     have c2 := cellS65_2 HG
     clear HG hg
     go_upto_region 3 with (first | (go_at_call 71; (with_reducible refine (arith_assignment.calls 1 t1 op false _ HG1.out).mono ?_); rintro e wp5 ⟨rfl, hd_⟩; have hw_ := hd_.below; have zwp5 := hw_.size; have nHC := Aside0.mk (HC.out.below hw_); have nVb2 := Aside0.mk (Vb2.out.below hw_); have nVb3 := Aside0.mk (Vb3.out.below hw_); have nTx := Aside0.mk (Tx.out.below hw_); clear HC Vb2 Vb3 Tx; have HC := nHC; have Vb2 := nVb2; have Vb3 := nVb3; have Tx := nTx; clear nHC nVb2 nVb3 nTx; clear hd_ hw_))
     clear c0 c1 c2
     obtain ⟨x0, x1, x2, x3⟩ := Vb3.out.at_.cells
     go_upto_region 4 with (fail)
     go_wp2_with (first | (refine store26_event rfl 2 (.tmp 29) rfl rfl rfl rfl Vb2.out.at_ ?_; intro ws6 ha_ hw_; have zws6 := hw_.kept.1; have nHC := Aside0.mk (HC.out.wrote hw_ Vb2.out.ge); have nVb3 := Aside0.mk (Vb3.out.wrote hw_ (by omega)); have nTx := Aside0.mk (Tx.out.wrote hw_ (by omega)); have nVb2 := Aside0.mk (Vr.mk (w := w) ha_ Vb2.out.ge); clear HC Vb3 Tx Vb2; have HC := nHC; have Vb3 := nVb3; have Tx := nTx; have Vb2 := nVb2; clear nHC nVb3 nTx nVb2; clear hw_ ha_))
     refine bodyPost_ret (results_cell_row rfl _ _ b2 26 #[.int .i64 (x.f0), .int .i64 (x.f1), .string (x.f2), .slice Ax x.f3.length cx] (0, 0) _ rfl Vb2.out.at_ Tryd.underlying26 rfl (by kernel_rfl)) rfl ?_
     exact Post.done Tx.out HC.out (by omega) (by omega)
    | true =>
     by_cases hx2 : x.f0 = 2
     ·have q1 : (x.f0 == 2) = true := beq_iff_eq.mpr hx2
      have q2 : (x.f0 != 2) = false := bne_eq_false_iff_eq.mpr hx2
      have HX2 := Aside0.mk hx2
      clear hx2
      cases hb : bareN s p1 with
      | false =>
       rw [hb] at HBR hr
       clear hb
       rw [if_neg (by simp)] at hr
       simp only [Option.some.injEq] at hr
       subst hr
       have HC := Aside0.mk (Cx.start (s := s) hI hB)
       have gl := HC.out.lt
       clear hI hB
       go_enter Tryd.func43, Tryd.ntmps43
       go_upto_region 2 with (first | ((with_reducible refine gate_dst (N := 2) rfl ?_); refine alloc26_event rfl 2 rfl rfl ?_; intro b2 wa1 hb_ ha_ hw_; have zb2 := hw_.size; have yb2 := Nat.le_of_eq hb_.symm; have nHC := Aside0.mk (HC.out.below hw_); have nVb2 := Aside0.mk (Vr.mk (w := w) ha_ (Nat.le_trans HC.out.size yb2)); clear HC; have HC := nHC; have Vb2 := nVb2; clear nHC nVb2; have kb2 := Vb2.out.ge; clear hw_ ha_ hb_) | (go_at_call 70; have gx := Nat.lt_of_lt_of_le HC.out.lt HC.out.size; have qx := HC.out.size; have lb2_x := Vb2.out.lt; (with_reducible refine (H2.out g p t w0 _ _ HA.out HC.out.st HC.out.bel HP.out).mono ?_); rintro e wc2 ⟨Ax, cx, rfl, ht_, hi, hb, hk⟩; have zx := hk.1; have nHC := Aside0.mk (HC.out.call hi hb hk); have nVb2 := Aside0.mk (Vb2.out.call hk gl); have nTx := Aside0.mk (ht_); clear HC Vb2; have HC := nHC; have Vb2 := nVb2; have Tx := nTx; clear nHC nVb2 nTx; clear ht_ hi hb hk) | ((with_reducible refine gate_dst (N := 3) rfl ?_); refine alloc26_event rfl 3 rfl rfl ?_; intro b3 wa3 hb_ ha_ hw_; have lb2_b3 := Vb2.out.lt; have zb3 := hw_.size; have yb3 := Nat.le_of_eq hb_.symm; have nHC := Aside0.mk (HC.out.below hw_); have nVb2 := Aside0.mk (Vb2.out.below hw_); have nTx := Aside0.mk (Tx.out.below hw_); have nVb3 := Aside0.mk (Vr.mk (w := w) ha_ (Nat.le_trans HC.out.size yb3)); clear HC Vb2 Tx; have HC := nHC; have Vb2 := nVb2; have Tx := nTx; have Vb3 := nVb3; clear nHC nVb2 nTx nVb3; have kb3 := Vb3.out.ge; clear hw_ ha_ hb_) | (refine store26_event rfl 3 (.tmp 7) rfl rfl rfl rfl Vb3.out.at_ ?_; intro ws4 ha_ hw_; have zws4 := hw_.kept.1; have nHC := Aside0.mk (HC.out.wrote hw_ Vb3.out.ge); have nVb2 := Aside0.mk (Vb2.out.wrote hw_ (by omega)); have nTx := Aside0.mk (Tx.out.wrote hw_ (by omega)); have nVb3 := Aside0.mk (Vr.mk (w := w) ha_ Vb3.out.ge); clear HC Vb2 Tx Vb3; have HC := nHC; have Vb2 := nVb2; have Tx := nTx; have Vb3 := nVb3; clear nHC nVb2 nTx nVb3; clear hw_ ha_))
       obtain ⟨HG, hg⟩ := HC.out.st
       have c0 := cellS65_0 HG
       have c1 := cellS65_1 HG
       have c2 := cellS65_2 HG
       clear HG hg
       go_upto_region 3 with (first | (go_at_call 71; (with_reducible refine (arith_assignment.calls 1 t1 op true _ HG1.out).mono ?_); rintro e wp5 ⟨rfl, hd_⟩; have hw_ := hd_.below; have zwp5 := hw_.size; have nHC := Aside0.mk (HC.out.below hw_); have nVb2 := Aside0.mk (Vb2.out.below hw_); have nVb3 := Aside0.mk (Vb3.out.below hw_); have nTx := Aside0.mk (Tx.out.below hw_); clear HC Vb2 Vb3 Tx; have HC := nHC; have Vb2 := nVb2; have Vb3 := nVb3; have Tx := nTx; clear nHC nVb2 nVb3 nTx; clear hd_ hw_))
       clear c0 c1 c2
       obtain ⟨x0, x1, x2, x3⟩ := Vb3.out.at_.cells
       go_upto_region 4 with (first | (go_at_call 72; have gbr := Nat.lt_of_lt_of_le HC.out.lt HC.out.size; have qbr := HC.out.size; have lb2_br := Vb2.out.lt; have lb3_br := Vb3.out.lt; (with_reducible refine (arith_parser_bare.calls (p1 + 1) g s p1 t1 x.f0 x.f1 x.f2 Ax cx x.f3 false s p1 t1 w0 _ HC.out.st HC.out.bel (Tx.out.reads_keep (by omega)) Tx.out.reads.1 HBR.out).mono ?_); rintro e wn6 ⟨rfl, hi, hb, hk⟩; have zbr := hk.1; have nHC := Aside0.mk (HC.out.call hi hb hk); have nVb2 := Aside0.mk (Vb2.out.call hk gl); have nVb3 := Aside0.mk (Vb3.out.call hk gl); have nTx := Aside0.mk (Tx.out.call hk (by omega)); clear HC Vb2 Vb3 Tx; have HC := nHC; have Vb2 := nVb2; have Vb3 := nVb3; have Tx := nTx; clear nHC nVb2 nVb3 nTx; clear hi hb hk))
       clear x0 x1 x2 x3
       obtain ⟨x0, x1, x2, x3⟩ := Vb3.out.at_.cells
       go_wp2_with (first | (refine store26_event rfl 2 (.tmp 29) rfl rfl rfl rfl Vb2.out.at_ ?_; intro ws7 ha_ hw_; have zws7 := hw_.kept.1; have nHC := Aside0.mk (HC.out.wrote hw_ Vb2.out.ge); have nVb3 := Aside0.mk (Vb3.out.wrote hw_ (by omega)); have nTx := Aside0.mk (Tx.out.wrote hw_ (by omega)); have nVb2 := Aside0.mk (Vr.mk (w := w) ha_ Vb2.out.ge); clear HC Vb3 Tx Vb2; have HC := nHC; have Vb3 := nVb3; have Tx := nTx; have Vb2 := nVb2; clear nHC nVb3 nTx nVb2; clear hw_ ha_))
       refine bodyPost_ret (results_cell_row rfl _ _ b2 26 #[.int .i64 (x.f0), .int .i64 (x.f1), .string (x.f2), .slice Ax x.f3.length cx] (0, 0) _ rfl Vb2.out.at_ Tryd.underlying26 rfl (by kernel_rfl)) rfl ?_
       exact Post.done Tx.out HC.out (by omega) (by omega)
      | true =>
       rw [hb] at HBR hr
       clear hb
       rw [if_pos ⟨rfl, HX2.out, rfl⟩] at hr
       cases hA : pr s k .first (nextP s p1 t1) (nextT s p1 t1) with
       | none => rw [hA] at hr; simp at hr
       | some rb =>
        rw [hA] at hr
        have HA1 := Aside0.mk hA
        clear hA
        cases rb with
        | error q =>
         obtain ⟨q, er⟩ := q
         simp only [Option.some.injEq] at hr
         subst hr
         have HC := Aside0.mk (Cx.start (s := s) hI hB)
         have gl := HC.out.lt
         clear hI hB
         go_enter Tryd.func43, Tryd.ntmps43
         go_upto_region 2 with (first | ((with_reducible refine gate_dst (N := 2) rfl ?_); refine alloc26_event rfl 2 rfl rfl ?_; intro b2 wa1 hb_ ha_ hw_; have zb2 := hw_.size; have yb2 := Nat.le_of_eq hb_.symm; have nHC := Aside0.mk (HC.out.below hw_); have nVb2 := Aside0.mk (Vr.mk (w := w) ha_ (Nat.le_trans HC.out.size yb2)); clear HC; have HC := nHC; have Vb2 := nVb2; clear nHC nVb2; have kb2 := Vb2.out.ge; clear hw_ ha_ hb_) | (go_at_call 70; have gx := Nat.lt_of_lt_of_le HC.out.lt HC.out.size; have qx := HC.out.size; have lb2_x := Vb2.out.lt; (with_reducible refine (H2.out g p t w0 _ _ HA.out HC.out.st HC.out.bel HP.out).mono ?_); rintro e wc2 ⟨Ax, cx, rfl, ht_, hi, hb, hk⟩; have zx := hk.1; have nHC := Aside0.mk (HC.out.call hi hb hk); have nVb2 := Aside0.mk (Vb2.out.call hk gl); have nTx := Aside0.mk (ht_); clear HC Vb2; have HC := nHC; have Vb2 := nVb2; have Tx := nTx; clear nHC nVb2 nTx; clear ht_ hi hb hk) | ((with_reducible refine gate_dst (N := 3) rfl ?_); refine alloc26_event rfl 3 rfl rfl ?_; intro b3 wa3 hb_ ha_ hw_; have lb2_b3 := Vb2.out.lt; have zb3 := hw_.size; have yb3 := Nat.le_of_eq hb_.symm; have nHC := Aside0.mk (HC.out.below hw_); have nVb2 := Aside0.mk (Vb2.out.below hw_); have nTx := Aside0.mk (Tx.out.below hw_); have nVb3 := Aside0.mk (Vr.mk (w := w) ha_ (Nat.le_trans HC.out.size yb3)); clear HC Vb2 Tx; have HC := nHC; have Vb2 := nVb2; have Tx := nTx; have Vb3 := nVb3; clear nHC nVb2 nTx nVb3; have kb3 := Vb3.out.ge; clear hw_ ha_ hb_) | (refine store26_event rfl 3 (.tmp 7) rfl rfl rfl rfl Vb3.out.at_ ?_; intro ws4 ha_ hw_; have zws4 := hw_.kept.1; have nHC := Aside0.mk (HC.out.wrote hw_ Vb3.out.ge); have nVb2 := Aside0.mk (Vb2.out.wrote hw_ (by omega)); have nTx := Aside0.mk (Tx.out.wrote hw_ (by omega)); have nVb3 := Aside0.mk (Vr.mk (w := w) ha_ Vb3.out.ge); clear HC Vb2 Tx Vb3; have HC := nHC; have Vb2 := nVb2; have Tx := nTx; have Vb3 := nVb3; clear nHC nVb2 nTx nVb3; clear hw_ ha_))
         obtain ⟨HG, hg⟩ := HC.out.st
         have c0 := cellS65_0 HG
         have c1 := cellS65_1 HG
         have c2 := cellS65_2 HG
         clear HG hg
         go_upto_region 3 with (first | (go_at_call 71; (with_reducible refine (arith_assignment.calls 1 t1 op true _ HG1.out).mono ?_); rintro e wp5 ⟨rfl, hd_⟩; have hw_ := hd_.below; have zwp5 := hw_.size; have nHC := Aside0.mk (HC.out.below hw_); have nVb2 := Aside0.mk (Vb2.out.below hw_); have nVb3 := Aside0.mk (Vb3.out.below hw_); have nTx := Aside0.mk (Tx.out.below hw_); clear HC Vb2 Vb3 Tx; have HC := nHC; have Vb2 := nVb2; have Vb3 := nVb3; have Tx := nTx; clear nHC nVb2 nVb3 nTx; clear hd_ hw_))
         clear c0 c1 c2
         obtain ⟨x0, x1, x2, x3⟩ := Vb3.out.at_.cells
         go_upto_region 5 with (first | (go_at_call 72; have gbr := Nat.lt_of_lt_of_le HC.out.lt HC.out.size; have qbr := HC.out.size; have lb2_br := Vb2.out.lt; have lb3_br := Vb3.out.lt; (with_reducible refine (arith_parser_bare.calls (p1 + 1) g s p1 t1 x.f0 x.f1 x.f2 Ax cx x.f3 true s p1 t1 w0 _ HC.out.st HC.out.bel (Tx.out.reads_keep (by omega)) Tx.out.reads.1 HBR.out).mono ?_); rintro e wn6 ⟨rfl, hi, hb, hk⟩; have zbr := hk.1; have nHC := Aside0.mk (HC.out.call hi hb hk); have nVb2 := Aside0.mk (Vb2.out.call hk gl); have nVb3 := Aside0.mk (Vb3.out.call hk gl); have nTx := Aside0.mk (Tx.out.call hk (by omega)); clear HC Vb2 Vb3 Tx; have HC := nHC; have Vb2 := nVb2; have Vb3 := nVb3; have Tx := nTx; clear nHC nVb2 nVb3 nTx; clear hi hb hk))
         clear x0 x1 x2 x3
         go_upto_region 6 with (first | (go_at_call 42; have gn1 := Nat.lt_of_lt_of_le HC.out.lt HC.out.size; have qn1 := HC.out.size; have lb2_n1 := Vb2.out.lt; have lb3_n1 := Vb3.out.lt; (with_reducible refine (next_calls g s t1 p1 w0 _ HC.out.st HC.out.bel HP1.out HS.out).mono ?_); rintro e wn7 ⟨rfl, hi, hb, hk⟩; have zn1 := hk.1; have nHC := Aside0.mk (HC.out.call hi hb hk); have nVb2 := Aside0.mk (Vb2.out.call hk gl); have nVb3 := Aside0.mk (Vb3.out.call hk gl); have nTx := Aside0.mk (Tx.out.call hk (by omega)); clear HC Vb2 Vb3 Tx; have HC := nHC; have Vb2 := nVb2; have Vb3 := nVb3; have Tx := nTx; clear nHC nVb2 nVb3 nTx; clear hi hb hk))
         refine start_ (n := 8) (S := fun w' => At26 w' b3 x.f0 x.f1 x.f2 (.slice Ax x.f3.length cx)) (ds := [7]) #[false, false, false, false, false, false, false, false] (by kernel_rfl) rfl rfl Vb3.out.drew.at_ (fun hHeld => ?_)
         have nHC := Aside0.mk (HC.out.drew)
         have nVb2 := Aside0.mk (Vb2.out.drew)
         have nVb3 := Aside0.mk (Vb3.out.drew)
         have nTx := Aside0.mk (Tx.out.drew)
         clear HC Vb2 Vb3 Tx
         have HC := nHC
         have Vb2 := nVb2
         have Vb3 := nVb3
         have Tx := nTx
         clear nHC nVb2 nVb3 nTx
         have zd : wn7.heap.size ≤ wn7.drew.heap.size := Nat.le_refl _
         refine pure_ (i := 0) (N := some 32) (v := ?_) (a' := ?_) #[true, false, false, false, false, false, false, false] rfl rfl (by kernel_rfl) (fun _ _ _ h => h) (Or.inl ⟨by rfl, ?_⟩) ?_ ?_
         rotate_left
         ·intro w'
          go_simp
          with_reducible rfl
         rotate_left
         ·simp only [Act.put, List.setIfInBounds_toArray, List.set_cons_zero, List.set_cons_succ, i64_w, i32_w]
          rfl
         refine pure_ (i := 1) (N := some 33) (v := ?_) (a' := ?_) #[true, true, false, false, false, false, false, false] rfl rfl (by kernel_rfl) (fun _ _ _ h => h) (Or.inl ⟨by rfl, ?_⟩) ?_ ?_
         rotate_left
         ·intro w'
          go_simp
          with_reducible rfl
         rotate_left
         ·simp only [Act.put, List.setIfInBounds_toArray, List.set_cons_zero, List.set_cons_succ, i64_w, i32_w]
          rfl
         refine pure_ (i := 3) (N := some 35) (v := ?_) (a' := ?_) #[true, true, false, true, false, false, false, false] rfl rfl (by kernel_rfl) (fun _ _ _ h => h) (Or.inl ⟨by rfl, ?_⟩) ?_ ?_
         rotate_left
         ·intro w'
          go_simp
          with_reducible rfl
         rotate_left
         ·simp only [Act.put, List.setIfInBounds_toArray, List.set_cons_zero, List.set_cons_succ, i64_w, i32_w]
          rfl
         refine take_ (i := 2) (N := some 34) (v := ?_) (a' := ?_) #[true, true, true, true, false, false, false, false] rfl rfl (by kernel_rfl) (fun _ _ _ h => h) (Or.inl ⟨by rfl, ?_⟩) hHeld ?_ ?_
         rotate_left
         ·rintro w' s3
          obtain ⟨e0, e1, e2, e3⟩ := s3.cells
          go_simp
          with_reducible rfl
         rotate_left
         ·simp only [Act.put, List.setIfInBounds_toArray, List.set_cons_zero, List.set_cons_succ, i64_w, i32_w]
          rfl
         refine one_ (i := 4) (N := some 36) #[true, true, true, true, true, false, false, false] rfl rfl (by kernel_rfl) (by decide) (fun K hK => ?_)
         refine goesP_ Tryd.func43 (by kernel_rfl) rfl #[.pointer (some ⟨g, 0, none⟩)] (by rfl) rfl (by simp only [List.map_toArray, List.map_cons, List.map_nil]; rfl) (faultV q er) ?_
         refine (H1.out g _ _ w0 _ _ HA1.out HC.out.st HC.out.bel HQ1.out).mono ?_
         rintro e we ⟨rfl, hb, hk⟩
         exact ⟨rfl, rfl, Post.err hb (KeepBut.trans HC.out.keep hk (.inl rfl))⟩
        | ok ya =>
         obtain ⟨y, p2, t2⟩ := ya
         simp only [Option.some.injEq] at hr
         subst hr
         have HC := Aside0.mk (Cx.start (s := s) hI hB)
         have gl := HC.out.lt
         clear hI hB
         go_enter Tryd.func43, Tryd.ntmps43
         go_upto_region 2 with (first | ((with_reducible refine gate_dst (N := 2) rfl ?_); refine alloc26_event rfl 2 rfl rfl ?_; intro b2 wa1 hb_ ha_ hw_; have zb2 := hw_.size; have yb2 := Nat.le_of_eq hb_.symm; have nHC := Aside0.mk (HC.out.below hw_); have nVb2 := Aside0.mk (Vr.mk (w := w) ha_ (Nat.le_trans HC.out.size yb2)); clear HC; have HC := nHC; have Vb2 := nVb2; clear nHC nVb2; have kb2 := Vb2.out.ge; clear hw_ ha_ hb_) | (go_at_call 70; have gx := Nat.lt_of_lt_of_le HC.out.lt HC.out.size; have qx := HC.out.size; have lb2_x := Vb2.out.lt; (with_reducible refine (H2.out g p t w0 _ _ HA.out HC.out.st HC.out.bel HP.out).mono ?_); rintro e wc2 ⟨Ax, cx, rfl, ht_, hi, hb, hk⟩; have zx := hk.1; have nHC := Aside0.mk (HC.out.call hi hb hk); have nVb2 := Aside0.mk (Vb2.out.call hk gl); have nTx := Aside0.mk (ht_); clear HC Vb2; have HC := nHC; have Vb2 := nVb2; have Tx := nTx; clear nHC nVb2 nTx; clear ht_ hi hb hk) | ((with_reducible refine gate_dst (N := 3) rfl ?_); refine alloc26_event rfl 3 rfl rfl ?_; intro b3 wa3 hb_ ha_ hw_; have lb2_b3 := Vb2.out.lt; have zb3 := hw_.size; have yb3 := Nat.le_of_eq hb_.symm; have nHC := Aside0.mk (HC.out.below hw_); have nVb2 := Aside0.mk (Vb2.out.below hw_); have nTx := Aside0.mk (Tx.out.below hw_); have nVb3 := Aside0.mk (Vr.mk (w := w) ha_ (Nat.le_trans HC.out.size yb3)); clear HC Vb2 Tx; have HC := nHC; have Vb2 := nVb2; have Tx := nTx; have Vb3 := nVb3; clear nHC nVb2 nTx nVb3; have kb3 := Vb3.out.ge; clear hw_ ha_ hb_) | (refine store26_event rfl 3 (.tmp 7) rfl rfl rfl rfl Vb3.out.at_ ?_; intro ws4 ha_ hw_; have zws4 := hw_.kept.1; have nHC := Aside0.mk (HC.out.wrote hw_ Vb3.out.ge); have nVb2 := Aside0.mk (Vb2.out.wrote hw_ (by omega)); have nTx := Aside0.mk (Tx.out.wrote hw_ (by omega)); have nVb3 := Aside0.mk (Vr.mk (w := w) ha_ Vb3.out.ge); clear HC Vb2 Tx Vb3; have HC := nHC; have Vb2 := nVb2; have Tx := nTx; have Vb3 := nVb3; clear nHC nVb2 nTx nVb3; clear hw_ ha_))
         obtain ⟨HG, hg⟩ := HC.out.st
         have c0 := cellS65_0 HG
         have c1 := cellS65_1 HG
         have c2 := cellS65_2 HG
         clear HG hg
         go_upto_region 3 with (first | (go_at_call 71; (with_reducible refine (arith_assignment.calls 1 t1 op true _ HG1.out).mono ?_); rintro e wp5 ⟨rfl, hd_⟩; have hw_ := hd_.below; have zwp5 := hw_.size; have nHC := Aside0.mk (HC.out.below hw_); have nVb2 := Aside0.mk (Vb2.out.below hw_); have nVb3 := Aside0.mk (Vb3.out.below hw_); have nTx := Aside0.mk (Tx.out.below hw_); clear HC Vb2 Vb3 Tx; have HC := nHC; have Vb2 := nVb2; have Vb3 := nVb3; have Tx := nTx; clear nHC nVb2 nVb3 nTx; clear hd_ hw_))
         clear c0 c1 c2
         obtain ⟨x0, x1, x2, x3⟩ := Vb3.out.at_.cells
         go_upto_region 5 with (first | (go_at_call 72; have gbr := Nat.lt_of_lt_of_le HC.out.lt HC.out.size; have qbr := HC.out.size; have lb2_br := Vb2.out.lt; have lb3_br := Vb3.out.lt; (with_reducible refine (arith_parser_bare.calls (p1 + 1) g s p1 t1 x.f0 x.f1 x.f2 Ax cx x.f3 true s p1 t1 w0 _ HC.out.st HC.out.bel (Tx.out.reads_keep (by omega)) Tx.out.reads.1 HBR.out).mono ?_); rintro e wn6 ⟨rfl, hi, hb, hk⟩; have zbr := hk.1; have nHC := Aside0.mk (HC.out.call hi hb hk); have nVb2 := Aside0.mk (Vb2.out.call hk gl); have nVb3 := Aside0.mk (Vb3.out.call hk gl); have nTx := Aside0.mk (Tx.out.call hk (by omega)); clear HC Vb2 Vb3 Tx; have HC := nHC; have Vb2 := nVb2; have Vb3 := nVb3; have Tx := nTx; clear nHC nVb2 nVb3 nTx; clear hi hb hk))
         clear x0 x1 x2 x3
         go_upto_region 6 with (first | (go_at_call 42; have gn1 := Nat.lt_of_lt_of_le HC.out.lt HC.out.size; have qn1 := HC.out.size; have lb2_n1 := Vb2.out.lt; have lb3_n1 := Vb3.out.lt; (with_reducible refine (next_calls g s t1 p1 w0 _ HC.out.st HC.out.bel HP1.out HS.out).mono ?_); rintro e wn7 ⟨rfl, hi, hb, hk⟩; have zn1 := hk.1; have nHC := Aside0.mk (HC.out.call hi hb hk); have nVb2 := Aside0.mk (Vb2.out.call hk gl); have nVb3 := Aside0.mk (Vb3.out.call hk gl); have nTx := Aside0.mk (Tx.out.call hk (by omega)); clear HC Vb2 Vb3 Tx; have HC := nHC; have Vb2 := nVb2; have Vb3 := nVb3; have Tx := nTx; clear nHC nVb2 nVb3 nTx; clear hi hb hk))
         refine start_ (n := 8) (S := fun w' => At26 w' b3 x.f0 x.f1 x.f2 (.slice Ax x.f3.length cx)) (ds := [7]) #[false, false, false, false, false, false, false, false] (by kernel_rfl) rfl rfl Vb3.out.drew.at_ (fun hHeld => ?_)
         have nHC := Aside0.mk (HC.out.drew)
         have nVb2 := Aside0.mk (Vb2.out.drew)
         have nVb3 := Aside0.mk (Vb3.out.drew)
         have nTx := Aside0.mk (Tx.out.drew)
         clear HC Vb2 Vb3 Tx
         have HC := nHC
         have Vb2 := nVb2
         have Vb3 := nVb3
         have Tx := nTx
         clear nHC nVb2 nVb3 nTx
         have zd : wn7.heap.size ≤ wn7.drew.heap.size := Nat.le_refl _
         refine pure_ (i := 0) (N := some 32) (v := ?_) (a' := ?_) #[true, false, false, false, false, false, false, false] rfl rfl (by kernel_rfl) (fun _ _ _ h => h) (Or.inl ⟨by rfl, ?_⟩) ?_ ?_
         rotate_left
         ·intro w'
          go_simp
          with_reducible rfl
         rotate_left
         ·simp only [Act.put, List.setIfInBounds_toArray, List.set_cons_zero, List.set_cons_succ, i64_w, i32_w]
          rfl
         refine pure_ (i := 1) (N := some 33) (v := ?_) (a' := ?_) #[true, true, false, false, false, false, false, false] rfl rfl (by kernel_rfl) (fun _ _ _ h => h) (Or.inl ⟨by rfl, ?_⟩) ?_ ?_
         rotate_left
         ·intro w'
          go_simp
          with_reducible rfl
         rotate_left
         ·simp only [Act.put, List.setIfInBounds_toArray, List.set_cons_zero, List.set_cons_succ, i64_w, i32_w]
          rfl
         refine pure_ (i := 3) (N := some 35) (v := ?_) (a' := ?_) #[true, true, false, true, false, false, false, false] rfl rfl (by kernel_rfl) (fun _ _ _ h => h) (Or.inl ⟨by rfl, ?_⟩) ?_ ?_
         rotate_left
         ·intro w'
          go_simp
          with_reducible rfl
         rotate_left
         ·simp only [Act.put, List.setIfInBounds_toArray, List.set_cons_zero, List.set_cons_succ, i64_w, i32_w]
          rfl
         refine take_ (i := 2) (N := some 34) (v := ?_) (a' := ?_) #[true, true, true, true, false, false, false, false] rfl rfl (by kernel_rfl) (fun _ _ _ h => h) (Or.inl ⟨by rfl, ?_⟩) hHeld ?_ ?_
         rotate_left
         ·rintro w' s3
          obtain ⟨e0, e1, e2, e3⟩ := s3.cells
          go_simp
          with_reducible rfl
         rotate_left
         ·simp only [Act.put, List.setIfInBounds_toArray, List.set_cons_zero, List.set_cons_succ, i64_w, i32_w]
          rfl
         refine one_ (i := 4) (N := some 36) #[true, true, true, true, true, false, false, false] rfl rfl (by kernel_rfl) (by decide) (fun K hK => ?_)
         refine goes_ Tryd.func43 (by kernel_rfl) rfl #[.pointer (some ⟨g, 0, none⟩)] (by rfl) rfl rfl (by simp only [List.map_toArray, List.map_cons, List.map_nil]; rfl) ?_
         have gy := Nat.lt_of_lt_of_le HC.out.lt HC.out.size
         have qy := HC.out.size
         have lb2_y := Vb2.out.lt
         have lb3_y := Vb3.out.lt
         with_reducible refine (H1.out g _ _ w0 _ _ HA1.out HC.out.st HC.out.bel HQ1.out).mono ?_
         rintro e wy ⟨Ay, cy, rfl, ht_, hi, hb, hk⟩
         refine ⟨_, rfl, ?_⟩
         have zy := hk.1
         have nHC := Aside0.mk (HC.out.call hi hb hk)
         have nVb2 := Aside0.mk (Vb2.out.call hk gl)
         have nVb3 := Aside0.mk (Vb3.out.call hk gl)
         have nTx := Aside0.mk (Tx.out.call hk (by omega))
         have nTy := Aside0.mk (ht_)
         clear HC Vb2 Vb3 Tx
         have HC := nHC
         have Vb2 := nVb2
         have Vb3 := nVb3
         have Tx := nTx
         have Ty := nTy
         clear nHC nVb2 nVb3 nTx nTy
         clear ht_ hi hb hk
         refine hK.out _ _ Vb3.out.at_ (fun hHeld => ?_)
         clear hK K
         refine norm_ (a' := ?_) ?_ ?_
         rotate_left
         ·show Act.put _ (some 36) _ = _
          simp only [Act.put, List.setIfInBounds_toArray, List.set_cons_zero, List.set_cons_succ, i64_w, i32_w]
          rfl
         refine one_ (i := 5) (N := some 37) #[true, true, true, true, true, true, false, false] rfl rfl (by kernel_rfl) (by decide) (fun K hK => ?_)
         refine cells_step (by rfl) 37 rfl [(y, Ay, cy)] (lo := wa1.heap.size) (hi := wy.heap.size) (by go_simp; rfl) (tr_all1 (Ty.out.wide (by omega) (by omega))) (by omega) (Nat.le_refl _) (by simp) ?_
         intro An cn wl ht_ hw_ hz_
         have zl := hw_.size
         have nHC := Aside0.mk (HC.out.below hw_)
         have nVb2 := Aside0.mk (Vb2.out.below hw_)
         have nVb3 := Aside0.mk (Vb3.out.below hw_)
         have nTn := Aside0.mk (ht_)
         clear HC Vb2 Vb3
         have HC := nHC
         have Vb2 := nVb2
         have Vb3 := nVb3
         have Tn := nTn
         clear nHC nVb2 nVb3 nTn
         clear ht_ hw_
         refine hK.out _ _ Vb3.out.at_ (fun hHeld => ?_)
         clear hK K
         refine norm_ (a' := ?_) ?_ ?_
         rotate_left
         ·show Act.put _ (some 37) _ = _
          simp only [Act.put, List.setIfInBounds_toArray, List.set_cons_zero, List.set_cons_succ, i64_w, i32_w]
          rfl
         refine pure_ (i := 6) (N := some 38) (v := ?_) (a' := ?_) #[true, true, true, true, true, true, true, false] rfl rfl (by kernel_rfl) (fun _ _ _ h => h) (Or.inl ⟨by rfl, ?_⟩) ?_ ?_
         rotate_left
         ·intro w'
          go_simp
          with_reducible rfl
         rotate_left
         ·simp only [Act.put, List.setIfInBounds_toArray, List.set_cons_zero, List.set_cons_succ, i64_w, i32_w]
          rfl
         refine last_ (i := 7) (N := none) #[true, true, true, true, true, true, true, true] rfl rfl (by kernel_rfl) (by decide) (fun K hK => ?_)
         refine store26_step (by rfl) 2 (.tmp 38) rfl rfl rfl rfl Vb2.out.at_ ?_
         intro wf ha_ hw_
         have zf := hw_.kept.1
         have nHC := Aside0.mk (HC.out.wrote hw_ Vb2.out.ge)
         have nTn := Aside0.mk (Tn.out.wrote hw_ (by omega))
         have nVb2 := Aside0.mk (Vr.mk (w := w) ha_ Vb2.out.ge)
         clear HC Tn Vb2
         have HC := nHC
         have Tn := nTn
         have Vb2 := nVb2
         clear nHC nTn nVb2
         clear hw_ ha_
         refine hK.out _ _ ?_
         refine done_ (by kernel_rfl) ?_
         go_wp2_with (fail)
         refine bodyPost_ret (results_cell_row rfl _ _ b2 26 #[.int .i64 (26), .int .i64 (op), .string (x.f2), .slice An 1 cn] (0, 0) _ rfl Vb2.out.at_ Tryd.underlying26 rfl (by kernel_rfl)) rfl ?_
         exact Post.done (x := ⟨26, op, x.f2, [y]⟩) Tn.out HC.out (by omega) (by omega)
     ·have q1 : (x.f0 == 2) = false := beq_eq_false_iff_ne.mpr hx2
      have q2 : (x.f0 != 2) = true := bne_iff_ne.mpr hx2
      rw [if_neg (fun h => hx2 h.2.1)] at hr
      clear hx2
      simp only [Option.some.injEq] at hr
      subst hr
      have HC := Aside0.mk (Cx.start (s := s) hI hB)
      have gl := HC.out.lt
      clear hI hB
      go_enter Tryd.func43, Tryd.ntmps43
      go_upto_region 2 with (first | ((with_reducible refine gate_dst (N := 2) rfl ?_); refine alloc26_event rfl 2 rfl rfl ?_; intro b2 wa1 hb_ ha_ hw_; have zb2 := hw_.size; have yb2 := Nat.le_of_eq hb_.symm; have nHC := Aside0.mk (HC.out.below hw_); have nVb2 := Aside0.mk (Vr.mk (w := w) ha_ (Nat.le_trans HC.out.size yb2)); clear HC; have HC := nHC; have Vb2 := nVb2; clear nHC nVb2; have kb2 := Vb2.out.ge; clear hw_ ha_ hb_) | (go_at_call 70; have gx := Nat.lt_of_lt_of_le HC.out.lt HC.out.size; have qx := HC.out.size; have lb2_x := Vb2.out.lt; (with_reducible refine (H2.out g p t w0 _ _ HA.out HC.out.st HC.out.bel HP.out).mono ?_); rintro e wc2 ⟨Ax, cx, rfl, ht_, hi, hb, hk⟩; have zx := hk.1; have nHC := Aside0.mk (HC.out.call hi hb hk); have nVb2 := Aside0.mk (Vb2.out.call hk gl); have nTx := Aside0.mk (ht_); clear HC Vb2; have HC := nHC; have Vb2 := nVb2; have Tx := nTx; clear nHC nVb2 nTx; clear ht_ hi hb hk) | ((with_reducible refine gate_dst (N := 3) rfl ?_); refine alloc26_event rfl 3 rfl rfl ?_; intro b3 wa3 hb_ ha_ hw_; have lb2_b3 := Vb2.out.lt; have zb3 := hw_.size; have yb3 := Nat.le_of_eq hb_.symm; have nHC := Aside0.mk (HC.out.below hw_); have nVb2 := Aside0.mk (Vb2.out.below hw_); have nTx := Aside0.mk (Tx.out.below hw_); have nVb3 := Aside0.mk (Vr.mk (w := w) ha_ (Nat.le_trans HC.out.size yb3)); clear HC Vb2 Tx; have HC := nHC; have Vb2 := nVb2; have Tx := nTx; have Vb3 := nVb3; clear nHC nVb2 nTx nVb3; have kb3 := Vb3.out.ge; clear hw_ ha_ hb_) | (refine store26_event rfl 3 (.tmp 7) rfl rfl rfl rfl Vb3.out.at_ ?_; intro ws4 ha_ hw_; have zws4 := hw_.kept.1; have nHC := Aside0.mk (HC.out.wrote hw_ Vb3.out.ge); have nVb2 := Aside0.mk (Vb2.out.wrote hw_ (by omega)); have nTx := Aside0.mk (Tx.out.wrote hw_ (by omega)); have nVb3 := Aside0.mk (Vr.mk (w := w) ha_ Vb3.out.ge); clear HC Vb2 Tx Vb3; have HC := nHC; have Vb2 := nVb2; have Tx := nTx; have Vb3 := nVb3; clear nHC nVb2 nTx nVb3; clear hw_ ha_))
      obtain ⟨HG, hg⟩ := HC.out.st
      have c0 := cellS65_0 HG
      have c1 := cellS65_1 HG
      have c2 := cellS65_2 HG
      clear HG hg
      go_upto_region 3 with (first | (go_at_call 71; (with_reducible refine (arith_assignment.calls 1 t1 op true _ HG1.out).mono ?_); rintro e wp5 ⟨rfl, hd_⟩; have hw_ := hd_.below; have zwp5 := hw_.size; have nHC := Aside0.mk (HC.out.below hw_); have nVb2 := Aside0.mk (Vb2.out.below hw_); have nVb3 := Aside0.mk (Vb3.out.below hw_); have nTx := Aside0.mk (Tx.out.below hw_); clear HC Vb2 Vb3 Tx; have HC := nHC; have Vb2 := nVb2; have Vb3 := nVb3; have Tx := nTx; clear nHC nVb2 nVb3 nTx; clear hd_ hw_))
      clear c0 c1 c2
      obtain ⟨x0, x1, x2, x3⟩ := Vb3.out.at_.cells
      go_upto_region 4 with (fail)
      go_wp2_with (first | (refine store26_event rfl 2 (.tmp 29) rfl rfl rfl rfl Vb2.out.at_ ?_; intro ws6 ha_ hw_; have zws6 := hw_.kept.1; have nHC := Aside0.mk (HC.out.wrote hw_ Vb2.out.ge); have nVb3 := Aside0.mk (Vb3.out.wrote hw_ (by omega)); have nTx := Aside0.mk (Tx.out.wrote hw_ (by omega)); have nVb2 := Aside0.mk (Vr.mk (w := w) ha_ Vb2.out.ge); clear HC Vb3 Tx Vb2; have HC := nHC; have Vb3 := nVb3; have Tx := nTx; have Vb2 := nVb2; clear nHC nVb3 nTx nVb2; clear hw_ ha_))
      refine bodyPost_ret (results_cell_row rfl _ _ b2 26 #[.int .i64 (x.f0), .int .i64 (x.f1), .string (x.f2), .slice Ax x.f3.length cx] (0, 0) _ rfl Vb2.out.at_ Tryd.underlying26 rfl (by kernel_rfl)) rfl ?_
      exact Post.done Tx.out HC.out (by omega) (by omega)
end Go.Proofs.YtglmdfddgmkmaaaDoor.Q
end
section
namespace Go.Proofs.YtglmdfddgmkmaaaDoor.Q
open Go.RowKit Go.Proofs.YtglmdfddgmkmaaaDoorW.PrintWords Go.Proofs.YtglmdfddgmkmaaaDoorW.PrintLast Go.Proofs.YtglmdfddgmkmaaaDoorW.PrintMore
attribute [local go_sem] max2_int min2_int max_two min_two max_three min_three max_four min_four
set_option linter.unusedVariables false
set_option linter.unusedSimpArgs false
theorem digit_some (c : Int) : ∃ b, arith_digit.f c = some b := by
 unfold arith_digit.f
 split
 ·exact ⟨_, rfl⟩
 ·exact ⟨_, rfl⟩
set_option maxRecDepth 100000 in
set_option maxHeartbeats 2000000 in
theorem operand_step (s : ByteArray) (hs : s.size ≤ 4096) (k : Nat) (h1 : C43 s k) (h2 : C122 s k) : C122 s (k + 1) := by
 intro g p t w0 w r hr hI hB hp
 have H1 := Aside0.mk h1
 have H2 := Aside0.mk h2
 have HS := Aside0.mk hs
 have HP := Aside0.mk hp
 have HQ := Aside0.mk (next_fits s _ _ hp)
 clear h1 h2 hs hp
 simp only [pr] at hr
 have hu26 := Tryd.underlying26
 have hu65 := Tryd.underlying65
 cases hG : arith_unary.f t with
 | none => rw [hG] at hr; simp at hr
 | some op =>
  rw [hG] at hr
  have HG := Aside0.mk hG
  clear hG
  simp only at hr
  by_cases hop : op = 0
  ·have o1 : (op == 0) = true := beq_iff_eq.mpr hop
   have o2 : (op != 0) = false := bne_eq_false_iff_eq.mpr hop
   rw [if_neg (fun h => h hop)] at hr
   clear hop
   by_cases hpar : t.toList = [40]
   ·rw [if_pos hpar] at hr
    have u1 : (t.toList == ([40] : List UInt8)) = true := by simpa using hpar
    clear hpar
    cases hA : pr s k .first (nextP s p t) (nextT s p t) with
    | none => rw [hA] at hr; simp [ebind] at hr
    | some ra =>
     rw [hA] at hr
     have HA := Aside0.mk hA
     clear hA
     cases ra with
     | error q =>
      obtain ⟨q, er⟩ := q
      simp only [ebind, Option.some.injEq] at hr
      subst hr
      have HC := Aside0.mk (Cx.start (s := s) hI hB)
      have gl := HC.out.lt
      clear hI hB
      go_enter Tryd.func122, Tryd.ntmps122
      go_upto_region 1 with (first | ((with_reducible refine gate_dst (N := 2) rfl ?_); refine alloc26_event rfl 2 rfl rfl ?_; intro b2 wa1 hb_ ha_ hw_; have zb2 := hw_.size; have yb2 := Nat.le_of_eq hb_.symm; have nHC := Aside0.mk (HC.out.below hw_); have nVb2 := Aside0.mk (Vr.mk (w := w) ha_ (Nat.le_trans HC.out.size yb2)); clear HC; have HC := nHC; have Vb2 := nVb2; clear nHC nVb2; have kb2 := Vb2.out.ge; clear hw_ ha_ hb_))
      obtain ⟨HG, hg⟩ := HC.out.st
      have c0 := cellS65_0 HG
      have c1 := cellS65_1 HG
      have c2 := cellS65_2 HG
      clear HG hg
      go_upto_region 2 with (first | (go_at_call 135; (with_reducible refine (arith_unary.calls t op _ HG.out).mono ?_); rintro e wp2 ⟨rfl, hd_⟩; have hw_ := hd_.below; have zwp2 := hw_.size; have nHC := Aside0.mk (HC.out.below hw_); have nVb2 := Aside0.mk (Vb2.out.below hw_); clear HC Vb2; have HC := nHC; have Vb2 := nVb2; clear nHC nVb2; clear hd_ hw_))
      clear c0 c1 c2
      obtain ⟨HG, hg⟩ := HC.out.st
      have c0 := cellS65_0 HG
      have c1 := cellS65_1 HG
      have c2 := cellS65_2 HG
      clear HG hg
      go_upto_region 6 with (fail)
      clear c0 c1 c2
      go_wp2_with (first | (go_at_call 42; have gn1 := Nat.lt_of_lt_of_le HC.out.lt HC.out.size; have qn1 := HC.out.size; have lb2_n1 := Vb2.out.lt; (with_reducible refine (next_calls g s t p w0 _ HC.out.st HC.out.bel HP.out HS.out).mono ?_); rintro e wn3 ⟨rfl, hi, hb, hk⟩; have zn1 := hk.1; have nHC := Aside0.mk (HC.out.call hi hb hk); have nVb2 := Aside0.mk (Vb2.out.call hk gl); clear HC Vb2; have HC := nHC; have Vb2 := nVb2; clear nHC nVb2; clear hi hb hk) | (go_at_call 43; (with_reducible refine (H1.out g _ _ w0 _ _ HA.out HC.out.st HC.out.bel HQ.out).mono ?_); rintro e we ⟨rfl, hb, hk⟩))
      exact ⟨rfl, Post.err hb (KeepBut.trans HC.out.keep hk (.inl rfl))⟩
     | ok xa =>
      obtain ⟨y, p1, t1⟩ := xa
      have HP1 := Aside0.mk (pr_fits s _ _ _ _ _ _ _ HQ.out HA.out)
      simp only [ebind] at hr
      by_cases ht1 : t1.toList = [41]
      ·rw [if_pos ht1] at hr
       have U2 := Aside0.mk (show t1.toList = (⟨#[41]⟩ : ByteArray).toList by rw [ht1]; simp)
       clear ht1
       simp only [Option.some.injEq] at hr
       subst hr
       have HC := Aside0.mk (Cx.start (s := s) hI hB)
       have gl := HC.out.lt
       clear hI hB
       go_enter Tryd.func122, Tryd.ntmps122
       go_upto_region 1 with (first | ((with_reducible refine gate_dst (N := 2) rfl ?_); refine alloc26_event rfl 2 rfl rfl ?_; intro b2 wa1 hb_ ha_ hw_; have zb2 := hw_.size; have yb2 := Nat.le_of_eq hb_.symm; have nHC := Aside0.mk (HC.out.below hw_); have nVb2 := Aside0.mk (Vr.mk (w := w) ha_ (Nat.le_trans HC.out.size yb2)); clear HC; have HC := nHC; have Vb2 := nVb2; clear nHC nVb2; have kb2 := Vb2.out.ge; clear hw_ ha_ hb_))
       obtain ⟨HG, hg⟩ := HC.out.st
       have c0 := cellS65_0 HG
       have c1 := cellS65_1 HG
       have c2 := cellS65_2 HG
       clear HG hg
       go_upto_region 2 with (first | (go_at_call 135; (with_reducible refine (arith_unary.calls t op _ HG.out).mono ?_); rintro e wp2 ⟨rfl, hd_⟩; have hw_ := hd_.below; have zwp2 := hw_.size; have nHC := Aside0.mk (HC.out.below hw_); have nVb2 := Aside0.mk (Vb2.out.below hw_); clear HC Vb2; have HC := nHC; have Vb2 := nVb2; clear nHC nVb2; clear hd_ hw_))
       clear c0 c1 c2
       obtain ⟨HG, hg⟩ := HC.out.st
       have c0 := cellS65_0 HG
       have c1 := cellS65_1 HG
       have c2 := cellS65_2 HG
       clear HG hg
       go_upto_region 6 with (fail)
       clear c0 c1 c2
       go_upto_region 9 with (first | (go_at_call 42; have gn1 := Nat.lt_of_lt_of_le HC.out.lt HC.out.size; have qn1 := HC.out.size; have lb2_n1 := Vb2.out.lt; (with_reducible refine (next_calls g s t p w0 _ HC.out.st HC.out.bel HP.out HS.out).mono ?_); rintro e wn3 ⟨rfl, hi, hb, hk⟩; have zn1 := hk.1; have nHC := Aside0.mk (HC.out.call hi hb hk); have nVb2 := Aside0.mk (Vb2.out.call hk gl); clear HC Vb2; have HC := nHC; have Vb2 := nVb2; clear nHC nVb2; clear hi hb hk) | (go_at_call 43; have gy := Nat.lt_of_lt_of_le HC.out.lt HC.out.size; have qy := HC.out.size; have lb2_y := Vb2.out.lt; (with_reducible refine (H1.out g _ _ w0 _ _ HA.out HC.out.st HC.out.bel HQ.out).mono ?_); rintro e wc4 ⟨Ay, cy, rfl, ht_, hi, hb, hk⟩; have zy := hk.1; have nHC := Aside0.mk (HC.out.call hi hb hk); have nVb2 := Aside0.mk (Vb2.out.call hk gl); have nTy := Aside0.mk (ht_); clear HC Vb2; have HC := nHC; have Vb2 := nVb2; have Ty := nTy; clear nHC nVb2 nTy; clear ht_ hi hb hk) | ((with_reducible refine gate_dst (N := 4) rfl ?_); refine alloc26_event rfl 4 rfl rfl ?_; intro b4 wa5 hb_ ha_ hw_; have lb2_b4 := Vb2.out.lt; have zb4 := hw_.size; have yb4 := Nat.le_of_eq hb_.symm; have nHC := Aside0.mk (HC.out.below hw_); have nVb2 := Aside0.mk (Vb2.out.below hw_); have nTy := Aside0.mk (Ty.out.below hw_); have nVb4 := Aside0.mk (Vr.mk (w := w) ha_ (Nat.le_trans HC.out.size yb4)); clear HC Vb2 Ty; have HC := nHC; have Vb2 := nVb2; have Ty := nTy; have Vb4 := nVb4; clear nHC nVb2 nTy nVb4; have kb4 := Vb4.out.ge; clear hw_ ha_ hb_) | (refine store26_event rfl 4 (.tmp 30) rfl rfl rfl rfl Vb4.out.at_ ?_; intro ws6 ha_ hw_; have zws6 := hw_.kept.1; have nHC := Aside0.mk (HC.out.wrote hw_ Vb4.out.ge); have nVb2 := Aside0.mk (Vb2.out.wrote hw_ (by omega)); have nTy := Aside0.mk (Ty.out.wrote hw_ (by omega)); have nVb4 := Aside0.mk (Vr.mk (w := w) ha_ Vb4.out.ge); clear HC Vb2 Ty Vb4; have HC := nHC; have Vb2 := nVb2; have Ty := nTy; have Vb4 := nVb4; clear nHC nVb2 nTy nVb4; clear hw_ ha_) | (go_at_call 106; have ge2 := Nat.lt_of_lt_of_le HC.out.lt HC.out.size; have qe2 := HC.out.size; have lb2_e2 := Vb2.out.lt; have lb4_e2 := Vb4.out.lt; (with_reducible refine (expect_yes g s t1 _ p1 w0 _ HC.out.st HC.out.bel HP1.out HS.out U2.out).mono ?_); rintro e wn7 ⟨rfl, hi, hb, hk⟩; have ze2 := hk.1; have nHC := Aside0.mk (HC.out.call hi hb hk); have nVb2 := Aside0.mk (Vb2.out.call hk gl); have nVb4 := Aside0.mk (Vb4.out.call hk gl); have nTy := Aside0.mk (Ty.out.call hk (by omega)); clear HC Vb2 Vb4 Ty; have HC := nHC; have Vb2 := nVb2; have Vb4 := nVb4; have Ty := nTy; clear nHC nVb2 nVb4 nTy; clear hi hb hk))
       obtain ⟨x0, x1, x2, x3⟩ := Vb4.out.at_.cells
       go_wp2_with (first | (refine store26_event rfl 2 (.tmp 33) rfl rfl rfl rfl Vb2.out.at_ ?_; intro ws8 ha_ hw_; have zws8 := hw_.kept.1; have nHC := Aside0.mk (HC.out.wrote hw_ Vb2.out.ge); have nVb4 := Aside0.mk (Vb4.out.wrote hw_ (by omega)); have nTy := Aside0.mk (Ty.out.wrote hw_ (by omega)); have nVb2 := Aside0.mk (Vr.mk (w := w) ha_ Vb2.out.ge); clear HC Vb4 Ty Vb2; have HC := nHC; have Vb4 := nVb4; have Ty := nTy; have Vb2 := nVb2; clear nHC nVb4 nTy nVb2; clear hw_ ha_))
       refine bodyPost_ret (results_cell_row rfl _ _ b2 26 #[.int .i64 (y.f0), .int .i64 (y.f1), .string (y.f2), .slice Ay y.f3.length cy] (0, 0) _ rfl Vb2.out.at_ Tryd.underlying26 rfl (by kernel_rfl)) rfl ?_
       exact Post.done Ty.out HC.out (by omega) (by omega)
      ·rw [if_neg ht1] at hr
       have U2 := Aside0.mk (show ¬ t1.toList = (⟨#[41]⟩ : ByteArray).toList by simpa using ht1)
       clear ht1
       simp only [Option.some.injEq] at hr
       subst hr
       have HC := Aside0.mk (Cx.start (s := s) hI hB)
       have gl := HC.out.lt
       clear hI hB
       go_enter Tryd.func122, Tryd.ntmps122
       go_upto_region 1 with (first | ((with_reducible refine gate_dst (N := 2) rfl ?_); refine alloc26_event rfl 2 rfl rfl ?_; intro b2 wa1 hb_ ha_ hw_; have zb2 := hw_.size; have yb2 := Nat.le_of_eq hb_.symm; have nHC := Aside0.mk (HC.out.below hw_); have nVb2 := Aside0.mk (Vr.mk (w := w) ha_ (Nat.le_trans HC.out.size yb2)); clear HC; have HC := nHC; have Vb2 := nVb2; clear nHC nVb2; have kb2 := Vb2.out.ge; clear hw_ ha_ hb_))
       obtain ⟨HG, hg⟩ := HC.out.st
       have c0 := cellS65_0 HG
       have c1 := cellS65_1 HG
       have c2 := cellS65_2 HG
       clear HG hg
       go_upto_region 2 with (first | (go_at_call 135; (with_reducible refine (arith_unary.calls t op _ HG.out).mono ?_); rintro e wp2 ⟨rfl, hd_⟩; have hw_ := hd_.below; have zwp2 := hw_.size; have nHC := Aside0.mk (HC.out.below hw_); have nVb2 := Aside0.mk (Vb2.out.below hw_); clear HC Vb2; have HC := nHC; have Vb2 := nVb2; clear nHC nVb2; clear hd_ hw_))
       clear c0 c1 c2
       obtain ⟨HG, hg⟩ := HC.out.st
       have c0 := cellS65_0 HG
       have c1 := cellS65_1 HG
       have c2 := cellS65_2 HG
       clear HG hg
       go_upto_region 6 with (fail)
       clear c0 c1 c2
       go_wp2_with (first | (go_at_call 42; have gn1 := Nat.lt_of_lt_of_le HC.out.lt HC.out.size; have qn1 := HC.out.size; have lb2_n1 := Vb2.out.lt; (with_reducible refine (next_calls g s t p w0 _ HC.out.st HC.out.bel HP.out HS.out).mono ?_); rintro e wn3 ⟨rfl, hi, hb, hk⟩; have zn1 := hk.1; have nHC := Aside0.mk (HC.out.call hi hb hk); have nVb2 := Aside0.mk (Vb2.out.call hk gl); clear HC Vb2; have HC := nHC; have Vb2 := nVb2; clear nHC nVb2; clear hi hb hk) | (go_at_call 43; have gy := Nat.lt_of_lt_of_le HC.out.lt HC.out.size; have qy := HC.out.size; have lb2_y := Vb2.out.lt; (with_reducible refine (H1.out g _ _ w0 _ _ HA.out HC.out.st HC.out.bel HQ.out).mono ?_); rintro e wc4 ⟨Ay, cy, rfl, ht_, hi, hb, hk⟩; have zy := hk.1; have nHC := Aside0.mk (HC.out.call hi hb hk); have nVb2 := Aside0.mk (Vb2.out.call hk gl); have nTy := Aside0.mk (ht_); clear HC Vb2; have HC := nHC; have Vb2 := nVb2; have Ty := nTy; clear nHC nVb2 nTy; clear ht_ hi hb hk) | ((with_reducible refine gate_dst (N := 4) rfl ?_); refine alloc26_event rfl 4 rfl rfl ?_; intro b4 wa5 hb_ ha_ hw_; have lb2_b4 := Vb2.out.lt; have zb4 := hw_.size; have yb4 := Nat.le_of_eq hb_.symm; have nHC := Aside0.mk (HC.out.below hw_); have nVb2 := Aside0.mk (Vb2.out.below hw_); have nTy := Aside0.mk (Ty.out.below hw_); have nVb4 := Aside0.mk (Vr.mk (w := w) ha_ (Nat.le_trans HC.out.size yb4)); clear HC Vb2 Ty; have HC := nHC; have Vb2 := nVb2; have Ty := nTy; have Vb4 := nVb4; clear nHC nVb2 nTy nVb4; have kb4 := Vb4.out.ge; clear hw_ ha_ hb_) | (refine store26_event rfl 4 (.tmp 30) rfl rfl rfl rfl Vb4.out.at_ ?_; intro ws6 ha_ hw_; have zws6 := hw_.kept.1; have nHC := Aside0.mk (HC.out.wrote hw_ Vb4.out.ge); have nVb2 := Aside0.mk (Vb2.out.wrote hw_ (by omega)); have nTy := Aside0.mk (Ty.out.wrote hw_ (by omega)); have nVb4 := Aside0.mk (Vr.mk (w := w) ha_ Vb4.out.ge); clear HC Vb2 Ty Vb4; have HC := nHC; have Vb2 := nVb2; have Ty := nTy; have Vb4 := nVb4; clear nHC nVb2 nTy nVb4; clear hw_ ha_) | (go_at_call 106; (with_reducible refine (expect_no g s t1 _ p1 w0 _ HC.out.st U2.out).mono ?_); rintro e we ⟨rfl, rfl⟩))
       exact ⟨rfl, Post.err HC.out.bel HC.out.keep⟩
   ·rw [if_neg hpar] at hr
    have u1 : (t.toList == ([40] : List UInt8)) = false := by simpa using hpar
    clear hpar
    obtain ⟨wb, hwb⟩ := wordByte_some (bt t 0)
    obtain ⟨db, hdb⟩ := digit_some (bt t 0)
    have HWB := Aside0.mk hwb
    have HDB := Aside0.mk hdb
    rw [hwb] at hr
    rw [hdb] at hr
    clear hwb hdb
    by_cases ht0 : t.size = 0
    ·have u2 : (t.toList == ([] : List UInt8)) = true := by
      rw [Go.ByteArray.toList_eq]
      have : t.data.toList = [] := List.eq_nil_of_length_eq_zero (by simpa using ht0)
      simp [this]
     rw [if_pos (.inl ht0)] at hr
     clear ht0
     simp only [Option.some.injEq] at hr
     subst hr
     have HC := Aside0.mk (Cx.start (s := s) hI hB)
     have gl := HC.out.lt
     clear hI hB
     go_enter Tryd.func122, Tryd.ntmps122
     go_upto_region 1 with (first | ((with_reducible refine gate_dst (N := 2) rfl ?_); refine alloc26_event rfl 2 rfl rfl ?_; intro b2 wa1 hb_ ha_ hw_; have zb2 := hw_.size; have yb2 := Nat.le_of_eq hb_.symm; have nHC := Aside0.mk (HC.out.below hw_); have nVb2 := Aside0.mk (Vr.mk (w := w) ha_ (Nat.le_trans HC.out.size yb2)); clear HC; have HC := nHC; have Vb2 := nVb2; clear nHC nVb2; have kb2 := Vb2.out.ge; clear hw_ ha_ hb_))
     obtain ⟨HG, hg⟩ := HC.out.st
     have c0 := cellS65_0 HG
     have c1 := cellS65_1 HG
     have c2 := cellS65_2 HG
     clear HG hg
     go_upto_region 2 with (first | (go_at_call 135; (with_reducible refine (arith_unary.calls t op _ HG.out).mono ?_); rintro e wp2 ⟨rfl, hd_⟩; have hw_ := hd_.below; have zwp2 := hw_.size; have nHC := Aside0.mk (HC.out.below hw_); have nVb2 := Aside0.mk (Vb2.out.below hw_); clear HC Vb2; have HC := nHC; have Vb2 := nVb2; clear nHC nVb2; clear hd_ hw_))
     clear c0 c1 c2
     obtain ⟨HG, hg⟩ := HC.out.st
     have c0 := cellS65_0 HG
     have c1 := cellS65_1 HG
     have c2 := cellS65_2 HG
     clear HG hg
     go_upto_region 10 with (fail)
     go_wp2_with (first | (go_at_call 44; (with_reducible refine (fail_calls g s t p 6 w0 _ HC.out.st).mono ?_); rintro e we ⟨rfl, rfl⟩))
     exact ⟨rfl, Post.err HC.out.bel HC.out.keep⟩
    ·have u2 : (t.toList == ([] : List UInt8)) = false := by
      rw [Go.ByteArray.toList_eq]
      cases hd : t.data.toList with
      | nil => exact absurd (by simpa using congrArg List.length hd) ht0
      | cons a l => rfl
     have hts : (0 : Int) < (t.size : Int) := by omega
     have HT0 := Aside0.mk ht0
     have qi4 : (0 < (t.size : Int)) = True := eq_true hts
     have q4 : (0 < t.size) = True := eq_true (by omega)
     have hx4 : ∀ h : 0 < t.size, ((t[0]'h).toNat : Int) = bt t 0 := bt_at t 0
     clear ht0 hts
     cases wb with
     | false =>
      rw [if_pos (.inr (by simp))] at hr
      simp only [Option.some.injEq] at hr
      subst hr
      have HC := Aside0.mk (Cx.start (s := s) hI hB)
      have gl := HC.out.lt
      clear hI hB
      go_enter Tryd.func122, Tryd.ntmps122
      go_upto_region 1 with (first | ((with_reducible refine gate_dst (N := 2) rfl ?_); refine alloc26_event rfl 2 rfl rfl ?_; intro b2 wa1 hb_ ha_ hw_; have zb2 := hw_.size; have yb2 := Nat.le_of_eq hb_.symm; have nHC := Aside0.mk (HC.out.below hw_); have nVb2 := Aside0.mk (Vr.mk (w := w) ha_ (Nat.le_trans HC.out.size yb2)); clear HC; have HC := nHC; have Vb2 := nVb2; clear nHC nVb2; have kb2 := Vb2.out.ge; clear hw_ ha_ hb_))
      obtain ⟨HG, hg⟩ := HC.out.st
      have c0 := cellS65_0 HG
      have c1 := cellS65_1 HG
      have c2 := cellS65_2 HG
      clear HG hg
      go_upto_region 2 with (first | (go_at_call 135; (with_reducible refine (arith_unary.calls t op _ HG.out).mono ?_); rintro e wp2 ⟨rfl, hd_⟩; have hw_ := hd_.below; have zwp2 := hw_.size; have nHC := Aside0.mk (HC.out.below hw_); have nVb2 := Aside0.mk (Vb2.out.below hw_); clear HC Vb2; have HC := nHC; have Vb2 := nVb2; clear nHC nVb2; clear hd_ hw_))
      clear c0 c1 c2
      obtain ⟨HG, hg⟩ := HC.out.st
      have c0 := cellS65_0 HG
      have c1 := cellS65_1 HG
      have c2 := cellS65_2 HG
      clear HG hg
      go_upto_region 10 with (fail)
      go_upto_region 11 with (first | (go_at_call 68; (with_reducible refine (arith_wordByte.calls (bt t 0) false _ HWB.out).mono ?_); rintro e wp3 ⟨rfl, hd_⟩; have hw_ := hd_.below; have zwp3 := hw_.size; have nHC := Aside0.mk (HC.out.below hw_); have nVb2 := Aside0.mk (Vb2.out.below hw_); clear HC Vb2; have HC := nHC; have Vb2 := nVb2; clear nHC nVb2; clear hd_ hw_))
      clear c0 c1 c2
      go_wp2_with (first | (go_at_call 44; (with_reducible refine (fail_calls g s t p 6 w0 _ HC.out.st).mono ?_); rintro e we ⟨rfl, rfl⟩))
      exact ⟨rfl, Post.err HC.out.bel HC.out.keep⟩
     | true =>
      rw [if_neg (by simp [HT0.out])] at hr
      cases db with
      | true =>
       rw [if_pos rfl] at hr
       cases hN : arith_number.f (t.size + 3) t with
       | none => rw [hN] at hr; simp at hr
       | some ne =>
        obtain ⟨n, e⟩ := ne
        rw [hN] at hr
        have HN := Aside0.mk hN
        clear hN
        simp only at hr
        by_cases he : e = 0
        ·have v1 : (e == 0) = true := beq_iff_eq.mpr he
         have v2 : (e != 0) = false := bne_eq_false_iff_eq.mpr he
         rw [if_pos he] at hr
         clear he
         simp only [Option.some.injEq] at hr
         subst hr
         have HC := Aside0.mk (Cx.start (s := s) hI hB)
         have gl := HC.out.lt
         clear hI hB
         go_enter Tryd.func122, Tryd.ntmps122
         go_upto_region 1 with (first | ((with_reducible refine gate_dst (N := 2) rfl ?_); refine alloc26_event rfl 2 rfl rfl ?_; intro b2 wa1 hb_ ha_ hw_; have zb2 := hw_.size; have yb2 := Nat.le_of_eq hb_.symm; have nHC := Aside0.mk (HC.out.below hw_); have nVb2 := Aside0.mk (Vr.mk (w := w) ha_ (Nat.le_trans HC.out.size yb2)); clear HC; have HC := nHC; have Vb2 := nVb2; clear nHC nVb2; have kb2 := Vb2.out.ge; clear hw_ ha_ hb_))
         obtain ⟨HG, hg⟩ := HC.out.st
         have c0 := cellS65_0 HG
         have c1 := cellS65_1 HG
         have c2 := cellS65_2 HG
         clear HG hg
         go_upto_region 2 with (first | (go_at_call 135; (with_reducible refine (arith_unary.calls t op _ HG.out).mono ?_); rintro e wp2 ⟨rfl, hd_⟩; have hw_ := hd_.below; have zwp2 := hw_.size; have nHC := Aside0.mk (HC.out.below hw_); have nVb2 := Aside0.mk (Vb2.out.below hw_); clear HC Vb2; have HC := nHC; have Vb2 := nVb2; clear nHC nVb2; clear hd_ hw_))
         clear c0 c1 c2
         obtain ⟨HG, hg⟩ := HC.out.st
         have c0 := cellS65_0 HG
         have c1 := cellS65_1 HG
         have c2 := cellS65_2 HG
         clear HG hg
         go_upto_region 10 with (fail)
         go_upto_region 12 with (first | (go_at_call 68; (with_reducible refine (arith_wordByte.calls (bt t 0) true _ HWB.out).mono ?_); rintro e wp3 ⟨rfl, hd_⟩; have hw_ := hd_.below; have zwp3 := hw_.size; have nHC := Aside0.mk (HC.out.below hw_); have nVb2 := Aside0.mk (Vb2.out.below hw_); clear HC Vb2; have HC := nHC; have Vb2 := nVb2; clear nHC nVb2; clear hd_ hw_))
         clear c0 c1 c2
         obtain ⟨HG, hg⟩ := HC.out.st
         have c0 := cellS65_0 HG
         have c1 := cellS65_1 HG
         have c2 := cellS65_2 HG
         clear HG hg
         go_upto_region 13 with (first | (go_at_call 104; (with_reducible refine (arith_digit.calls (bt t 0) true _ HDB.out).mono ?_); rintro e wp4 ⟨rfl, hd_⟩; have hw_ := hd_.below; have zwp4 := hw_.size; have nHC := Aside0.mk (HC.out.below hw_); have nVb2 := Aside0.mk (Vb2.out.below hw_); clear HC Vb2; have HC := nHC; have Vb2 := nVb2; clear nHC nVb2; clear hd_ hw_))
         clear c0 c1 c2
         obtain ⟨HG, hg⟩ := HC.out.st
         have c0 := cellS65_0 HG
         have c1 := cellS65_1 HG
         have c2 := cellS65_2 HG
         clear HG hg
         go_upto_region 14 with (first | (go_at_call 136; (with_reducible refine (arith_number.calls (t.size + 3) t n e _ HN.out).mono ?_); rintro e wp5 ⟨rfl, hd_⟩; have hw_ := hd_.below; have zwp5 := hw_.size; have nHC := Aside0.mk (HC.out.below hw_); have nVb2 := Aside0.mk (Vb2.out.below hw_); clear HC Vb2; have HC := nHC; have Vb2 := nVb2; clear nHC nVb2; clear hd_ hw_))
         clear c0 c1 c2
         go_wp2_with (first | (go_at_call 42; have gn1 := Nat.lt_of_lt_of_le HC.out.lt HC.out.size; have qn1 := HC.out.size; have lb2_n1 := Vb2.out.lt; (with_reducible refine (next_calls g s t p w0 _ HC.out.st HC.out.bel HP.out HS.out).mono ?_); rintro e wn6 ⟨rfl, hi, hb, hk⟩; have zn1 := hk.1; have nHC := Aside0.mk (HC.out.call hi hb hk); have nVb2 := Aside0.mk (Vb2.out.call hk gl); clear HC Vb2; have HC := nHC; have Vb2 := nVb2; clear nHC nVb2; clear hi hb hk) | (refine store26_event rfl 2 (.tmp 72) rfl rfl rfl rfl Vb2.out.at_ ?_; intro ws7 ha_ hw_; have zws7 := hw_.kept.1; have nHC := Aside0.mk (HC.out.wrote hw_ Vb2.out.ge); have nVb2 := Aside0.mk (Vr.mk (w := w) ha_ Vb2.out.ge); clear HC Vb2; have HC := nHC; have Vb2 := nVb2; clear nHC nVb2; clear hw_ ha_))
         refine bodyPost_ret (results_cell_row rfl _ _ b2 26 #[.int .i64 (1), .int .i64 (n), .string (⟨#[]⟩), .slice none 0 0] (0, 0) _ rfl Vb2.out.at_ Tryd.underlying26 rfl (by kernel_rfl)) rfl ?_
         exact Post.done (x := ⟨1, n, noName, []⟩) (Tr.nil _ w.heap.size w.heap.size) HC.out (Nat.le_refl _) HC.out.size
        ·have v1 : (e == 0) = false := beq_eq_false_iff_ne.mpr he
         have v2 : (e != 0) = true := bne_iff_ne.mpr he
         rw [if_neg he] at hr
         clear he
         simp only [Option.some.injEq] at hr
         subst hr
         have HC := Aside0.mk (Cx.start (s := s) hI hB)
         have gl := HC.out.lt
         clear hI hB
         go_enter Tryd.func122, Tryd.ntmps122
         go_upto_region 1 with (first | ((with_reducible refine gate_dst (N := 2) rfl ?_); refine alloc26_event rfl 2 rfl rfl ?_; intro b2 wa1 hb_ ha_ hw_; have zb2 := hw_.size; have yb2 := Nat.le_of_eq hb_.symm; have nHC := Aside0.mk (HC.out.below hw_); have nVb2 := Aside0.mk (Vr.mk (w := w) ha_ (Nat.le_trans HC.out.size yb2)); clear HC; have HC := nHC; have Vb2 := nVb2; clear nHC nVb2; have kb2 := Vb2.out.ge; clear hw_ ha_ hb_))
         obtain ⟨HG, hg⟩ := HC.out.st
         have c0 := cellS65_0 HG
         have c1 := cellS65_1 HG
         have c2 := cellS65_2 HG
         clear HG hg
         go_upto_region 2 with (first | (go_at_call 135; (with_reducible refine (arith_unary.calls t op _ HG.out).mono ?_); rintro e wp2 ⟨rfl, hd_⟩; have hw_ := hd_.below; have zwp2 := hw_.size; have nHC := Aside0.mk (HC.out.below hw_); have nVb2 := Aside0.mk (Vb2.out.below hw_); clear HC Vb2; have HC := nHC; have Vb2 := nVb2; clear nHC nVb2; clear hd_ hw_))
         clear c0 c1 c2
         obtain ⟨HG, hg⟩ := HC.out.st
         have c0 := cellS65_0 HG
         have c1 := cellS65_1 HG
         have c2 := cellS65_2 HG
         clear HG hg
         go_upto_region 10 with (fail)
         go_upto_region 12 with (first | (go_at_call 68; (with_reducible refine (arith_wordByte.calls (bt t 0) true _ HWB.out).mono ?_); rintro e wp3 ⟨rfl, hd_⟩; have hw_ := hd_.below; have zwp3 := hw_.size; have nHC := Aside0.mk (HC.out.below hw_); have nVb2 := Aside0.mk (Vb2.out.below hw_); clear HC Vb2; have HC := nHC; have Vb2 := nVb2; clear nHC nVb2; clear hd_ hw_))
         clear c0 c1 c2
         obtain ⟨HG, hg⟩ := HC.out.st
         have c0 := cellS65_0 HG
         have c1 := cellS65_1 HG
         have c2 := cellS65_2 HG
         clear HG hg
         go_upto_region 13 with (first | (go_at_call 104; (with_reducible refine (arith_digit.calls (bt t 0) true _ HDB.out).mono ?_); rintro e wp4 ⟨rfl, hd_⟩; have hw_ := hd_.below; have zwp4 := hw_.size; have nHC := Aside0.mk (HC.out.below hw_); have nVb2 := Aside0.mk (Vb2.out.below hw_); clear HC Vb2; have HC := nHC; have Vb2 := nVb2; clear nHC nVb2; clear hd_ hw_))
         clear c0 c1 c2
         obtain ⟨HG, hg⟩ := HC.out.st
         have c0 := cellS65_0 HG
         have c1 := cellS65_1 HG
         have c2 := cellS65_2 HG
         clear HG hg
         go_upto_region 14 with (first | (go_at_call 136; (with_reducible refine (arith_number.calls (t.size + 3) t n e _ HN.out).mono ?_); rintro e wp5 ⟨rfl, hd_⟩; have hw_ := hd_.below; have zwp5 := hw_.size; have nHC := Aside0.mk (HC.out.below hw_); have nVb2 := Aside0.mk (Vb2.out.below hw_); clear HC Vb2; have HC := nHC; have Vb2 := nVb2; clear nHC nVb2; clear hd_ hw_))
         clear c0 c1 c2
         go_wp2_with (first | (go_at_call 44; (with_reducible refine (fail_calls g s t p e w0 _ HC.out.st).mono ?_); rintro e we ⟨rfl, rfl⟩))
         exact ⟨rfl, Post.err HC.out.bel HC.out.keep⟩
      | false =>
       rw [if_neg (by simp)] at hr
       cases hn : nameB t with
       | true =>
        rw [hn] at hr
        have HNM := Aside0.mk (show chars_Name.f t = some true from congrArg some hn)
        clear hn
        simp only [if_true, Option.some.injEq] at hr
        subst hr
        have HC := Aside0.mk (Cx.start (s := s) hI hB)
        have gl := HC.out.lt
        clear hI hB
        go_enter Tryd.func122, Tryd.ntmps122
        go_upto_region 1 with (first | ((with_reducible refine gate_dst (N := 2) rfl ?_); refine alloc26_event rfl 2 rfl rfl ?_; intro b2 wa1 hb_ ha_ hw_; have zb2 := hw_.size; have yb2 := Nat.le_of_eq hb_.symm; have nHC := Aside0.mk (HC.out.below hw_); have nVb2 := Aside0.mk (Vr.mk (w := w) ha_ (Nat.le_trans HC.out.size yb2)); clear HC; have HC := nHC; have Vb2 := nVb2; clear nHC nVb2; have kb2 := Vb2.out.ge; clear hw_ ha_ hb_))
        obtain ⟨HG, hg⟩ := HC.out.st
        have c0 := cellS65_0 HG
        have c1 := cellS65_1 HG
        have c2 := cellS65_2 HG
        clear HG hg
        go_upto_region 2 with (first | (go_at_call 135; (with_reducible refine (arith_unary.calls t op _ HG.out).mono ?_); rintro e wp2 ⟨rfl, hd_⟩; have hw_ := hd_.below; have zwp2 := hw_.size; have nHC := Aside0.mk (HC.out.below hw_); have nVb2 := Aside0.mk (Vb2.out.below hw_); clear HC Vb2; have HC := nHC; have Vb2 := nVb2; clear nHC nVb2; clear hd_ hw_))
        clear c0 c1 c2
        obtain ⟨HG, hg⟩ := HC.out.st
        have c0 := cellS65_0 HG
        have c1 := cellS65_1 HG
        have c2 := cellS65_2 HG
        clear HG hg
        go_upto_region 10 with (fail)
        go_upto_region 12 with (first | (go_at_call 68; (with_reducible refine (arith_wordByte.calls (bt t 0) true _ HWB.out).mono ?_); rintro e wp3 ⟨rfl, hd_⟩; have hw_ := hd_.below; have zwp3 := hw_.size; have nHC := Aside0.mk (HC.out.below hw_); have nVb2 := Aside0.mk (Vb2.out.below hw_); clear HC Vb2; have HC := nHC; have Vb2 := nVb2; clear nHC nVb2; clear hd_ hw_))
        clear c0 c1 c2
        obtain ⟨HG, hg⟩ := HC.out.st
        have c0 := cellS65_0 HG
        have c1 := cellS65_1 HG
        have c2 := cellS65_2 HG
        clear HG hg
        go_upto_region 18 with (first | (go_at_call 104; (with_reducible refine (arith_digit.calls (bt t 0) false _ HDB.out).mono ?_); rintro e wp4 ⟨rfl, hd_⟩; have hw_ := hd_.below; have zwp4 := hw_.size; have nHC := Aside0.mk (HC.out.below hw_); have nVb2 := Aside0.mk (Vb2.out.below hw_); clear HC Vb2; have HC := nHC; have Vb2 := nVb2; clear nHC nVb2; clear hd_ hw_))
        clear c0 c1 c2
        obtain ⟨HG, hg⟩ := HC.out.st
        have c0 := cellS65_0 HG
        have c1 := cellS65_1 HG
        have c2 := cellS65_2 HG
        clear HG hg
        go_upto_region 20 with (first | (go_at_call 117; (with_reducible refine (chars_Name.calls t true _ HNM.out).mono ?_); rintro e wp5 ⟨rfl, hw_⟩; have zwp5 := hw_.size; have nHC := Aside0.mk (HC.out.below hw_); have nVb2 := Aside0.mk (Vb2.out.below hw_); clear HC Vb2; have HC := nHC; have Vb2 := nVb2; clear nHC nVb2; clear hw_))
        clear c0 c1 c2
        obtain ⟨HG, hg⟩ := HC.out.st
        have c0 := cellS65_0 HG
        have c1 := cellS65_1 HG
        have c2 := cellS65_2 HG
        clear HG hg
        go_upto_region 21 with (first | ((with_reducible refine gate_dst (N := 7) rfl ?_); refine alloc26_event rfl 7 rfl rfl ?_; intro b7 wa6 hb_ ha_ hw_; have lb2_b7 := Vb2.out.lt; have zb7 := hw_.size; have yb7 := Nat.le_of_eq hb_.symm; have nHC := Aside0.mk (HC.out.below hw_); have nVb2 := Aside0.mk (Vb2.out.below hw_); have nVb7 := Aside0.mk (Vr.mk (w := w) ha_ (Nat.le_trans HC.out.size yb7)); clear HC Vb2; have HC := nHC; have Vb2 := nVb2; have Vb7 := nVb7; clear nHC nVb2 nVb7; have kb7 := Vb7.out.ge; clear hw_ ha_ hb_) | (refine store26_event rfl 7 (.tmp 85) rfl rfl rfl rfl Vb7.out.at_ ?_; intro ws7 ha_ hw_; have zws7 := hw_.kept.1; have nHC := Aside0.mk (HC.out.wrote hw_ Vb7.out.ge); have nVb2 := Aside0.mk (Vb2.out.wrote hw_ (by omega)); have nVb7 := Aside0.mk (Vr.mk (w := w) ha_ Vb7.out.ge); clear HC Vb2 Vb7; have HC := nHC; have Vb2 := nVb2; have Vb7 := nVb7; clear nHC nVb2 nVb7; clear hw_ ha_))
        clear c0 c1 c2
        go_upto_region 22 with (first | (go_at_call 42; have gn1 := Nat.lt_of_lt_of_le HC.out.lt HC.out.size; have qn1 := HC.out.size; have lb2_n1 := Vb2.out.lt; have lb7_n1 := Vb7.out.lt; (with_reducible refine (next_calls g s t p w0 _ HC.out.st HC.out.bel HP.out HS.out).mono ?_); rintro e wn8 ⟨rfl, hi, hb, hk⟩; have zn1 := hk.1; have nHC := Aside0.mk (HC.out.call hi hb hk); have nVb2 := Aside0.mk (Vb2.out.call hk gl); have nVb7 := Aside0.mk (Vb7.out.call hk gl); clear HC Vb2 Vb7; have HC := nHC; have Vb2 := nVb2; have Vb7 := nVb7; clear nHC nVb2 nVb7; clear hi hb hk))
        obtain ⟨x0, x1, x2, x3⟩ := Vb7.out.at_.cells
        go_wp2_with (first | (refine store26_event rfl 2 (.tmp 88) rfl rfl rfl rfl Vb2.out.at_ ?_; intro ws9 ha_ hw_; have zws9 := hw_.kept.1; have nHC := Aside0.mk (HC.out.wrote hw_ Vb2.out.ge); have nVb7 := Aside0.mk (Vb7.out.wrote hw_ (by omega)); have nVb2 := Aside0.mk (Vr.mk (w := w) ha_ Vb2.out.ge); clear HC Vb7 Vb2; have HC := nHC; have Vb7 := nVb7; have Vb2 := nVb2; clear nHC nVb7 nVb2; clear hw_ ha_))
        refine bodyPost_ret (results_cell_row rfl _ _ b2 26 #[.int .i64 (2), .int .i64 (0), .string (t), .slice none 0 0] (0, 0) _ rfl Vb2.out.at_ Tryd.underlying26 rfl (by kernel_rfl)) rfl ?_
        exact Post.done (x := ⟨2, 0, t, []⟩) (Tr.nil _ w.heap.size w.heap.size) HC.out (Nat.le_refl _) HC.out.size
       | false =>
        rw [hn] at hr
        have HNM := Aside0.mk (show chars_Name.f t = some false from congrArg some hn)
        clear hn
        simp only [Bool.false_eq_true, if_false, Option.some.injEq] at hr
        subst hr
        have HC := Aside0.mk (Cx.start (s := s) hI hB)
        have gl := HC.out.lt
        clear hI hB
        go_enter Tryd.func122, Tryd.ntmps122
        go_upto_region 1 with (first | ((with_reducible refine gate_dst (N := 2) rfl ?_); refine alloc26_event rfl 2 rfl rfl ?_; intro b2 wa1 hb_ ha_ hw_; have zb2 := hw_.size; have yb2 := Nat.le_of_eq hb_.symm; have nHC := Aside0.mk (HC.out.below hw_); have nVb2 := Aside0.mk (Vr.mk (w := w) ha_ (Nat.le_trans HC.out.size yb2)); clear HC; have HC := nHC; have Vb2 := nVb2; clear nHC nVb2; have kb2 := Vb2.out.ge; clear hw_ ha_ hb_))
        obtain ⟨HG, hg⟩ := HC.out.st
        have c0 := cellS65_0 HG
        have c1 := cellS65_1 HG
        have c2 := cellS65_2 HG
        clear HG hg
        go_upto_region 2 with (first | (go_at_call 135; (with_reducible refine (arith_unary.calls t op _ HG.out).mono ?_); rintro e wp2 ⟨rfl, hd_⟩; have hw_ := hd_.below; have zwp2 := hw_.size; have nHC := Aside0.mk (HC.out.below hw_); have nVb2 := Aside0.mk (Vb2.out.below hw_); clear HC Vb2; have HC := nHC; have Vb2 := nVb2; clear nHC nVb2; clear hd_ hw_))
        clear c0 c1 c2
        obtain ⟨HG, hg⟩ := HC.out.st
        have c0 := cellS65_0 HG
        have c1 := cellS65_1 HG
        have c2 := cellS65_2 HG
        clear HG hg
        go_upto_region 10 with (fail)
        go_upto_region 12 with (first | (go_at_call 68; (with_reducible refine (arith_wordByte.calls (bt t 0) true _ HWB.out).mono ?_); rintro e wp3 ⟨rfl, hd_⟩; have hw_ := hd_.below; have zwp3 := hw_.size; have nHC := Aside0.mk (HC.out.below hw_); have nVb2 := Aside0.mk (Vb2.out.below hw_); clear HC Vb2; have HC := nHC; have Vb2 := nVb2; clear nHC nVb2; clear hd_ hw_))
        clear c0 c1 c2
        obtain ⟨HG, hg⟩ := HC.out.st
        have c0 := cellS65_0 HG
        have c1 := cellS65_1 HG
        have c2 := cellS65_2 HG
        clear HG hg
        go_upto_region 18 with (first | (go_at_call 104; (with_reducible refine (arith_digit.calls (bt t 0) false _ HDB.out).mono ?_); rintro e wp4 ⟨rfl, hd_⟩; have hw_ := hd_.below; have zwp4 := hw_.size; have nHC := Aside0.mk (HC.out.below hw_); have nVb2 := Aside0.mk (Vb2.out.below hw_); clear HC Vb2; have HC := nHC; have Vb2 := nVb2; clear nHC nVb2; clear hd_ hw_))
        clear c0 c1 c2
        obtain ⟨HG, hg⟩ := HC.out.st
        have c0 := cellS65_0 HG
        have c1 := cellS65_1 HG
        have c2 := cellS65_2 HG
        clear HG hg
        go_upto_region 19 with (first | (go_at_call 117; (with_reducible refine (chars_Name.calls t false _ HNM.out).mono ?_); rintro e wp5 ⟨rfl, hw_⟩; have zwp5 := hw_.size; have nHC := Aside0.mk (HC.out.below hw_); have nVb2 := Aside0.mk (Vb2.out.below hw_); clear HC Vb2; have HC := nHC; have Vb2 := nVb2; clear nHC nVb2; clear hw_))
        clear c0 c1 c2
        go_wp2_with (first | (go_at_call 44; (with_reducible refine (fail_calls g s t p 10 w0 _ HC.out.st).mono ?_); rintro e we ⟨rfl, rfl⟩))
        exact ⟨rfl, Post.err HC.out.bel HC.out.keep⟩
  ·have o1 : (op == 0) = false := beq_eq_false_iff_ne.mpr hop
   have o2 : (op != 0) = true := bne_iff_ne.mpr hop
   rw [if_pos hop] at hr
   clear hop
   cases hA : pr s k .operand (nextP s p t) (nextT s p t) with
   | none => rw [hA] at hr; simp [ebind] at hr
   | some ra =>
    rw [hA] at hr
    have HA := Aside0.mk hA
    clear hA
    cases ra with
    | error q =>
     obtain ⟨q, er⟩ := q
     simp only [ebind, Option.some.injEq] at hr
     subst hr
     have HC := Aside0.mk (Cx.start (s := s) hI hB)
     have gl := HC.out.lt
     clear hI hB
     go_enter Tryd.func122, Tryd.ntmps122
     go_upto_region 1 with (first | ((with_reducible refine gate_dst (N := 2) rfl ?_); refine alloc26_event rfl 2 rfl rfl ?_; intro b2 wa1 hb_ ha_ hw_; have zb2 := hw_.size; have yb2 := Nat.le_of_eq hb_.symm; have nHC := Aside0.mk (HC.out.below hw_); have nVb2 := Aside0.mk (Vr.mk (w := w) ha_ (Nat.le_trans HC.out.size yb2)); clear HC; have HC := nHC; have Vb2 := nVb2; clear nHC nVb2; have kb2 := Vb2.out.ge; clear hw_ ha_ hb_))
     obtain ⟨HG, hg⟩ := HC.out.st
     have c0 := cellS65_0 HG
     have c1 := cellS65_1 HG
     have c2 := cellS65_2 HG
     clear HG hg
     go_upto_region 2 with (first | (go_at_call 135; (with_reducible refine (arith_unary.calls t op _ HG.out).mono ?_); rintro e wp2 ⟨rfl, hd_⟩; have hw_ := hd_.below; have zwp2 := hw_.size; have nHC := Aside0.mk (HC.out.below hw_); have nVb2 := Aside0.mk (Vb2.out.below hw_); clear HC Vb2; have HC := nHC; have Vb2 := nVb2; clear nHC nVb2; clear hd_ hw_))
     clear c0 c1 c2
     obtain ⟨HG, hg⟩ := HC.out.st
     have c0 := cellS65_0 HG
     have c1 := cellS65_1 HG
     have c2 := cellS65_2 HG
     clear HG hg
     go_upto_region 3 with (fail)
     clear c0 c1 c2
     go_wp2_with (first | (go_at_call 42; have gn1 := Nat.lt_of_lt_of_le HC.out.lt HC.out.size; have qn1 := HC.out.size; have lb2_n1 := Vb2.out.lt; (with_reducible refine (next_calls g s t p w0 _ HC.out.st HC.out.bel HP.out HS.out).mono ?_); rintro e wn3 ⟨rfl, hi, hb, hk⟩; have zn1 := hk.1; have nHC := Aside0.mk (HC.out.call hi hb hk); have nVb2 := Aside0.mk (Vb2.out.call hk gl); clear HC Vb2; have HC := nHC; have Vb2 := nVb2; clear nHC nVb2; clear hi hb hk) | (go_at_call 122; (with_reducible refine (H2.out g _ _ w0 _ _ HA.out HC.out.st HC.out.bel HQ.out).mono ?_); rintro e we ⟨rfl, hb, hk⟩))
     exact ⟨rfl, Post.err hb (KeepBut.trans HC.out.keep hk (.inl rfl))⟩
    | ok xa =>
     obtain ⟨y, p1, t1⟩ := xa
     simp only [ebind, Option.some.injEq] at hr
     subst hr
     have HC := Aside0.mk (Cx.start (s := s) hI hB)
     have gl := HC.out.lt
     clear hI hB
     go_enter Tryd.func122, Tryd.ntmps122
     go_upto_region 1 with (first | ((with_reducible refine gate_dst (N := 2) rfl ?_); refine alloc26_event rfl 2 rfl rfl ?_; intro b2 wa1 hb_ ha_ hw_; have zb2 := hw_.size; have yb2 := Nat.le_of_eq hb_.symm; have nHC := Aside0.mk (HC.out.below hw_); have nVb2 := Aside0.mk (Vr.mk (w := w) ha_ (Nat.le_trans HC.out.size yb2)); clear HC; have HC := nHC; have Vb2 := nVb2; clear nHC nVb2; have kb2 := Vb2.out.ge; clear hw_ ha_ hb_))
     obtain ⟨HG, hg⟩ := HC.out.st
     have c0 := cellS65_0 HG
     have c1 := cellS65_1 HG
     have c2 := cellS65_2 HG
     clear HG hg
     go_upto_region 2 with (first | (go_at_call 135; (with_reducible refine (arith_unary.calls t op _ HG.out).mono ?_); rintro e wp2 ⟨rfl, hd_⟩; have hw_ := hd_.below; have zwp2 := hw_.size; have nHC := Aside0.mk (HC.out.below hw_); have nVb2 := Aside0.mk (Vb2.out.below hw_); clear HC Vb2; have HC := nHC; have Vb2 := nVb2; clear nHC nVb2; clear hd_ hw_))
     clear c0 c1 c2
     obtain ⟨HG, hg⟩ := HC.out.st
     have c0 := cellS65_0 HG
     have c1 := cellS65_1 HG
     have c2 := cellS65_2 HG
     clear HG hg
     go_upto_region 3 with (fail)
     clear c0 c1 c2
     go_wp2_with (first | (go_at_call 42; have gn1 := Nat.lt_of_lt_of_le HC.out.lt HC.out.size; have qn1 := HC.out.size; have lb2_n1 := Vb2.out.lt; (with_reducible refine (next_calls g s t p w0 _ HC.out.st HC.out.bel HP.out HS.out).mono ?_); rintro e wn3 ⟨rfl, hi, hb, hk⟩; have zn1 := hk.1; have nHC := Aside0.mk (HC.out.call hi hb hk); have nVb2 := Aside0.mk (Vb2.out.call hk gl); clear HC Vb2; have HC := nHC; have Vb2 := nVb2; clear nHC nVb2; clear hi hb hk) | (go_at_call 122; have gy := Nat.lt_of_lt_of_le HC.out.lt HC.out.size; have qy := HC.out.size; have lb2_y := Vb2.out.lt; (with_reducible refine (H2.out g _ _ w0 _ _ HA.out HC.out.st HC.out.bel HQ.out).mono ?_); rintro e wc4 ⟨Ay, cy, rfl, ht_, hi, hb, hk⟩; have zy := hk.1; have nHC := Aside0.mk (HC.out.call hi hb hk); have nVb2 := Aside0.mk (Vb2.out.call hk gl); have nTy := Aside0.mk (ht_); clear HC Vb2; have HC := nHC; have Vb2 := nVb2; have Ty := nTy; clear nHC nVb2 nTy; clear ht_ hi hb hk) | ((with_reducible refine gate_dst (N := 20) rfl ?_); refine cells_event rfl 20 rfl [(y, Ay, cy)] (lo := wn3.heap.size) (hi := wc4.heap.size) (by go_simp; rfl) (tr_all1 (Ty.out.wide (by omega) (by omega))) (by omega) (Nat.le_refl _) (by simp) ?_; intro An cn wl ht_ hw_ hz_; have zl := hw_.size; have nHC := Aside0.mk (HC.out.below hw_); have nVb2 := Aside0.mk (Vb2.out.below hw_); have nTn := Aside0.mk (ht_); clear HC Vb2; have HC := nHC; have Vb2 := nVb2; have Tn := nTn; clear nHC nVb2 nTn; clear ht_ hw_) | (refine store26_event rfl 2 (.tmp 21) rfl rfl rfl rfl Vb2.out.at_ ?_; intro ws5 ha_ hw_; have zws5 := hw_.kept.1; have nHC := Aside0.mk (HC.out.wrote hw_ Vb2.out.ge); have nTn := Aside0.mk (Tn.out.wrote hw_ (by omega)); have nVb2 := Aside0.mk (Vr.mk (w := w) ha_ Vb2.out.ge); clear HC Tn Vb2; have HC := nHC; have Tn := nTn; have Vb2 := nVb2; clear nHC nTn nVb2; clear hw_ ha_))
     refine bodyPost_ret (results_cell_row rfl _ _ b2 26 #[.int .i64 (op), .int .i64 (0), .string (⟨#[]⟩), .slice An 1 cn] (0, 0) _ rfl Vb2.out.at_ Tryd.underlying26 rfl (by kernel_rfl)) rfl ?_
     exact Post.done (x := ⟨op, 0, noName, [y]⟩) Tn.out HC.out (by omega) (by omega)
end Go.Proofs.YtglmdfddgmkmaaaDoor.Q
end
section
namespace Go.Proofs.YtglmdfddgmkmaaaDoor.Q
open Go.RowKit Go.Proofs.YtglmdfddgmkmaaaDoorW.PrintWords Go.Proofs.YtglmdfddgmkmaaaDoorW.PrintLast Go.Proofs.YtglmdfddgmkmaaaDoorW.PrintMore
attribute [local go_sem] max2_int min2_int max_two min_two max_three min_three max_four min_four
set_option linter.unusedVariables false
set_option linter.unusedSimpArgs false
set_option maxRecDepth 100000 in
set_option maxHeartbeats 4000000 in
theorem level_step (s : ByteArray) (hs : s.size ≤ 4096) (k n : Nat) (hn : n ≤ 13) (h13 : C122 s k) (hl : n < 13 → ∀ j, j ≤ k → C105 s j (n + 1)) : C105 s (k + 1) n := by
 intro m hm g p t w0 w r hr hI hB hp
 have H13 := Aside0.mk h13
 have HS := Aside0.mk hs
 have HP := Aside0.mk hp
 have HM := Aside0.mk hm
 have hm0 : (0 : Int) ≤ m := by omega
 have hm1 : m ≤ 13 := by omega
 clear h13 hs hp
 simp only [pr] at hr
 have hu26 := Tryd.underlying26
 have hu65 := Tryd.underlying65
 by_cases h13 : n = 13
 ·have q1 : (m == 13) = true := beq_iff_eq.mpr (by omega)
  rw [if_pos h13] at hr
  clear h13 hm hl hn
  have HA := Aside0.mk hr
  clear hr
  cases r with
  | error q =>
   obtain ⟨q, er⟩ := q
   have HC := Aside0.mk (Cx.start (s := s) hI hB)
   have gl := HC.out.lt
   clear hI hB
   go_enter Tryd.func105, Tryd.ntmps105
   go_wp2_with (first | ((with_reducible refine gate_dst (N := 4) rfl ?_); refine alloc26_event rfl 4 rfl rfl ?_; intro b4 wa1 hb_ ha_ hw_; have zb4 := hw_.size; have yb4 := Nat.le_of_eq hb_.symm; have nHC := Aside0.mk (HC.out.below hw_); have nVb4 := Aside0.mk (Vr.mk (w := w) ha_ (Nat.le_trans HC.out.size yb4)); clear HC; have HC := nHC; have Vb4 := nVb4; clear nHC nVb4; have kb4 := Vb4.out.ge; clear hw_ ha_ hb_) | (go_at_call 122; (with_reducible refine (H13.out g p t w0 _ _ HA.out HC.out.st HC.out.bel HP.out).mono ?_); rintro e we ⟨rfl, hb, hk⟩))
   exact ⟨rfl, Post.err hb (KeepBut.trans HC.out.keep hk (.inl rfl))⟩
  | ok xa =>
   obtain ⟨x, p1, t1⟩ := xa
   have HC := Aside0.mk (Cx.start (s := s) hI hB)
   have gl := HC.out.lt
   clear hI hB
   go_enter Tryd.func105, Tryd.ntmps105
   go_wp2_with (first | ((with_reducible refine gate_dst (N := 4) rfl ?_); refine alloc26_event rfl 4 rfl rfl ?_; intro b4 wa1 hb_ ha_ hw_; have zb4 := hw_.size; have yb4 := Nat.le_of_eq hb_.symm; have nHC := Aside0.mk (HC.out.below hw_); have nVb4 := Aside0.mk (Vr.mk (w := w) ha_ (Nat.le_trans HC.out.size yb4)); clear HC; have HC := nHC; have Vb4 := nVb4; clear nHC nVb4; have kb4 := Vb4.out.ge; clear hw_ ha_ hb_) | (go_at_call 122; have gx := Nat.lt_of_lt_of_le HC.out.lt HC.out.size; have qx := HC.out.size; have lb4_x := Vb4.out.lt; (with_reducible refine (H13.out g p t w0 _ _ HA.out HC.out.st HC.out.bel HP.out).mono ?_); rintro e wc2 ⟨Ax, cx, rfl, ht_, hi, hb, hk⟩; have zx := hk.1; have nHC := Aside0.mk (HC.out.call hi hb hk); have nVb4 := Aside0.mk (Vb4.out.call hk gl); have nTx := Aside0.mk (ht_); clear HC Vb4; have HC := nHC; have Vb4 := nVb4; have Tx := nTx; clear nHC nVb4 nTx; clear ht_ hi hb hk) | (refine store26_event rfl 4 (.tmp 11) rfl rfl rfl rfl Vb4.out.at_ ?_; intro ws3 ha_ hw_; have zws3 := hw_.kept.1; have nHC := Aside0.mk (HC.out.wrote hw_ Vb4.out.ge); have nTx := Aside0.mk (Tx.out.wrote hw_ (by omega)); have nVb4 := Aside0.mk (Vr.mk (w := w) ha_ Vb4.out.ge); clear HC Tx Vb4; have HC := nHC; have Tx := nTx; have Vb4 := nVb4; clear nHC nTx nVb4; clear hw_ ha_))
   refine bodyPost_ret (results_cell_row rfl _ _ b4 26 #[.int .i64 (x.f0), .int .i64 (x.f1), .string (x.f2), .slice Ax x.f3.length cx] (0, 0) _ rfl Vb4.out.at_ Tryd.underlying26 rfl (by kernel_rfl)) rfl ?_
   exact Post.done Tx.out HC.out (by omega) (by omega)
 ·have q1 : (m == 13) = false := beq_eq_false_iff_ne.mpr (by omega)
  have hm2 : m ≤ 12 := by omega
  rw [if_neg h13] at hr
  have HL := Aside0.mk (hl (by omega))
  clear h13 hm hl hn
  cases hA : pr s k (.level (n + 1)) p t with
  | none => rw [hA] at hr; simp [ebind] at hr
  | some ra =>
   rw [hA] at hr
   have HA := Aside0.mk hA
   clear hA
   cases ra with
   | error q =>
    obtain ⟨q, er⟩ := q
    simp only [ebind, Option.some.injEq] at hr
    subst hr
    have HC := Aside0.mk (Cx.start (s := s) hI hB)
    have gl := HC.out.lt
    clear hI hB
    go_enter Tryd.func105, Tryd.ntmps105
    go_wp2_with (first | ((with_reducible refine gate_dst (N := 4) rfl ?_); refine alloc26_event rfl 4 rfl rfl ?_; intro b4 wa1 hb_ ha_ hw_; have zb4 := hw_.size; have yb4 := Nat.le_of_eq hb_.symm; have nHC := Aside0.mk (HC.out.below hw_); have nVb4 := Aside0.mk (Vr.mk (w := w) ha_ (Nat.le_trans HC.out.size yb4)); clear HC; have HC := nHC; have Vb4 := nVb4; clear nHC nVb4; have kb4 := Vb4.out.ge; clear hw_ ha_ hb_) | (go_at_call 105; (with_reducible refine (HL.out k (Nat.le_refl _) (m + 1) (by have := HM.out; omega) g p t w0 _ _ HA.out HC.out.st HC.out.bel HP.out).mono ?_); rintro e we ⟨rfl, hb, hk⟩))
    exact ⟨rfl, Post.err hb (KeepBut.trans HC.out.keep hk (.inl rfl))⟩
   | ok xa =>
    obtain ⟨x, p1, t1⟩ := xa
    have HP1 := Aside0.mk (pr_fits s _ _ _ _ _ _ _ HP.out HA.out)
    simp only [ebind] at hr
    have HR := Aside0.mk hr
    clear hr
    have HC := Aside0.mk (Cx.start (s := s) hI hB)
    have gl := HC.out.lt
    clear hI hB
    go_enter Tryd.func105, Tryd.ntmps105
    go_wp2_with (first | ((with_reducible refine gate_dst (N := 4) rfl ?_); refine alloc26_event rfl 4 rfl rfl ?_; intro b4 wa1 hb_ ha_ hw_; have zb4 := hw_.size; have yb4 := Nat.le_of_eq hb_.symm; have nHC := Aside0.mk (HC.out.below hw_); have nVb4 := Aside0.mk (Vr.mk (w := w) ha_ (Nat.le_trans HC.out.size yb4)); clear HC; have HC := nHC; have Vb4 := nVb4; clear nHC nVb4; have kb4 := Vb4.out.ge; clear hw_ ha_ hb_) | (go_at_call 105; have gx := Nat.lt_of_lt_of_le HC.out.lt HC.out.size; have qx := HC.out.size; have lb4_x := Vb4.out.lt; (with_reducible refine (HL.out k (Nat.le_refl _) (m + 1) (by have := HM.out; omega) g p t w0 _ _ HA.out HC.out.st HC.out.bel HP.out).mono ?_); rintro e wc2 ⟨Ax, cx, rfl, ht_, hi, hb, hk⟩; have zx := hk.1; have nHC := Aside0.mk (HC.out.call hi hb hk); have nVb4 := Aside0.mk (Vb4.out.call hk gl); have nTx := Aside0.mk (ht_); clear HC Vb4; have HC := nHC; have Vb4 := nVb4; have Tx := nTx; clear nHC nVb4 nTx; clear ht_ hi hb hk) | ((with_reducible refine gate_dst (N := 5) rfl ?_); refine alloc26_event rfl 5 rfl rfl ?_; intro b5 wa3 hb_ ha_ hw_; have lb4_b5 := Vb4.out.lt; have zb5 := hw_.size; have yb5 := Nat.le_of_eq hb_.symm; have nHC := Aside0.mk (HC.out.below hw_); have nVb4 := Aside0.mk (Vb4.out.below hw_); have nTx := Aside0.mk (Tx.out.below hw_); have nVb5 := Aside0.mk (Vr.mk (w := w) ha_ (Nat.le_trans HC.out.size yb5)); clear HC Vb4 Tx; have HC := nHC; have Vb4 := nVb4; have Tx := nTx; have Vb5 := nVb5; clear nHC nVb4 nTx nVb5; have kb5 := Vb5.out.ge; clear hw_ ha_ hb_) | (refine store26_event rfl 5 (.tmp 15) rfl rfl rfl rfl Vb5.out.at_ ?_; intro ws4 ha_ hw_; have zws4 := hw_.kept.1; have nHC := Aside0.mk (HC.out.wrote hw_ Vb5.out.ge); have nVb4 := Aside0.mk (Vb4.out.wrote hw_ (by omega)); have nTx := Aside0.mk (Tx.out.wrote hw_ (by omega)); have nVb5 := Aside0.mk (Vr.mk (w := w) ha_ Vb5.out.ge); clear HC Vb4 Tx Vb5; have HC := nHC; have Vb4 := nVb4; have Tx := nTx; have Vb5 := nVb5; clear nHC nVb4 nTx nVb5; clear hw_ ha_))
    have TX := Aside0.mk (Tx.out.trX (X := b5) (by omega))
    clear Tx
    obtain ⟨lo, hlo⟩ : ∃ lo, wa1.heap.size = lo := ⟨_, rfl⟩
    rw [hlo] at TX
    have n1 : b4 < lo := by omega
    have n2 : g < lo := by omega
    have n3 : w.heap.size ≤ lo := by omega
    have n4 : b4 < b5 := by omega
    have HI := Aside0.mk (show wc2.heap.size ≤ ws4.heap.size by omega)
    (try simp only [Act.put, List.setIfInBounds_toArray, List.set_cons_zero, List.set_cons_succ])
    go_loopg [] k (fun kq wr => ∃ (x : S26) (p : Nat) (t : ByteArray) (A : Option Addr) (c hi : Nat), Aside0 (pr s kq (.more n x) p t = some r) ∧ Aside0 (kq ≤ k) ∧ Aside0 (p + t.size ≤ s.size) ∧ Aside0 (Cx s g w0 w wr p t) ∧ Aside0 (Vr w wr b4 0 0 ⟨#[]⟩ none 0 0) ∧ Aside0 (Vr w wr b5 x.f0 x.f1 x.f2 A x.f3.length c) ∧ Aside0 (TrX b5 wr lo hi A c x.f3) ∧ Aside0 (hi ≤ wr.heap.size))
    case atStart => exact ⟨x, p1, t1, Ax, cx, _, HR, ⟨Nat.le_refl _⟩, HP1, HC, Vb4, Vb5, TX, HI⟩
    case round =>
     clear HR HP1 HC Vb4 Vb5 TX HI HA HP
     obtain ⟨x, p, t, Ax, cx, hi, HR, HKQ, HP, HC, Vb4, Vb5, Tx, HI⟩ := hrel
     cases gk with
     | zero => exact absurd HR.out (by simp [pr])
     | succ j =>
      have hr := HR.out
      clear HR
      simp only [pr] at hr
      have HQ := Aside0.mk (next_fits s _ _ HP.out)
      cases hG : arith_binary.f t with
      | none => rw [hG] at hr; simp at hr
      | some ol =>
       obtain ⟨op, l⟩ := ol
       rw [hG] at hr
       have HG := Aside0.mk hG
       clear hG
       simp only at hr
       by_cases hln : l = (n : Int)
       ·have v1 : (l == m) = true := beq_iff_eq.mpr (by have := HM.out; omega)
        have v2 : (l != m) = false := bne_eq_false_iff_eq.mpr (by have := HM.out; omega)
        rw [if_pos hln] at hr
        clear hln
        cases hA : pr s j (.level (n + 1)) (nextP s p t) (nextT s p t) with
        | none => rw [hA] at hr; simp [ebind] at hr
        | some ra =>
         rw [hA] at hr
         have HA := Aside0.mk hA
         clear hA
         cases ra with
         | error q =>
          obtain ⟨q, er⟩ := q
          simp only [ebind, Option.some.injEq] at hr
          subst hr
          obtain ⟨HG, hg⟩ := HC.out.st
          have c0 := cellS65_0 HG
          have c1 := cellS65_1 HG
          have c2 := cellS65_2 HG
          clear HG hg
          go_upto_region 5 with (first | (go_at_call 107; (with_reducible refine (arith_binary.calls t op l _ HG.out).mono ?_); rintro e wp21 ⟨rfl, hd_⟩; have hw_ := hd_.below; have zwp21 := hw_.size; have nHC := Aside0.mk (HC.out.below hw_); have nVb4 := Aside0.mk (Vb4.out.below hw_); have nVb5 := Aside0.mk (Vb5.out.below hw_); have nTx := Aside0.mk (Tx.out.below hw_); clear HC Vb4 Vb5 Tx; have HC := nHC; have Vb4 := nVb4; have Vb5 := nVb5; have Tx := nTx; clear nHC nVb4 nVb5 nTx; clear hd_ hw_))
          clear c0 c1 c2
          go_upto_region 8 with (first | (go_at_call 42; have gn1 := Nat.lt_of_lt_of_le HC.out.lt HC.out.size; have qn1 := HC.out.size; have lb4_n1 := Vb4.out.lt; have lb5_n1 := Vb5.out.lt; (with_reducible refine (next_calls g s t p w0 _ HC.out.st HC.out.bel HP.out HS.out).mono ?_); rintro e wn22 ⟨rfl, hi, hb, hk⟩; have zn1 := hk.1; have nHC := Aside0.mk (HC.out.call hi hb hk); have nVb4 := Aside0.mk (Vb4.out.call hk gl); have nVb5 := Aside0.mk (Vb5.out.call hk gl); have nTx := Aside0.mk (Tx.out.call hk (by omega)); clear HC Vb4 Vb5 Tx; have HC := nHC; have Vb4 := nVb4; have Vb5 := nVb5; have Tx := nTx; clear nHC nVb4 nVb5 nTx; clear hi hb hk))
          refine start_ (n := 9) (S := fun w' => At26 w' b5 x.f0 x.f1 x.f2 (.slice Ax x.f3.length cx)) (ds := [8]) #[false, false, false, false, false, false, false, false, false] (by kernel_rfl) rfl rfl Vb5.out.drew.at_ (fun hHeld => ?_)
          have nHC := Aside0.mk (HC.out.drew)
          have nVb4 := Aside0.mk (Vb4.out.drew)
          have nVb5 := Aside0.mk (Vb5.out.drew)
          have nTx := Aside0.mk (Tx.out.drew)
          clear HC Vb4 Vb5 Tx
          have HC := nHC
          have Vb4 := nVb4
          have Vb5 := nVb5
          have Tx := nTx
          clear nHC nVb4 nVb5 nTx
          have hhi := HI.out
          have zd : wn22.heap.size ≤ wn22.drew.heap.size := Nat.le_refl _
          refine pure_ (i := 0) (N := some 30) (v := ?_) (a' := ?_) #[true, false, false, false, false, false, false, false, false] rfl rfl (by kernel_rfl) (fun _ _ _ h => h) (Or.inl ⟨by rfl, ?_⟩) ?_ ?_
          rotate_left
          ·intro w'
           go_simp
           with_reducible rfl
          rotate_left
          ·simp only [Act.put, List.setIfInBounds_toArray, List.set_cons_zero, List.set_cons_succ, i64_w, i32_w]
           rfl
          refine pure_ (i := 2) (N := some 32) (v := ?_) (a' := ?_) #[true, false, true, false, false, false, false, false, false] rfl rfl (by kernel_rfl) (fun _ _ _ h => h) (Or.inl ⟨by rfl, ?_⟩) ?_ ?_
          rotate_left
          ·intro w'
           go_simp
           with_reducible rfl
          rotate_left
          ·simp only [Act.put, List.setIfInBounds_toArray, List.set_cons_zero, List.set_cons_succ, i64_w, i32_w]
           rfl
          refine pure_ (i := 3) (N := some 33) (v := ?_) (a' := ?_) #[true, false, true, true, false, false, false, false, false] rfl rfl (by kernel_rfl) (fun _ _ _ h => h) (Or.inl ⟨by rfl, ?_⟩) ?_ ?_
          rotate_left
          ·intro w'
           go_simp
           with_reducible rfl
          rotate_left
          ·simp only [Act.put, List.setIfInBounds_toArray, List.set_cons_zero, List.set_cons_succ, i64_w, i32_w]
           rfl
          refine pure_ (i := 4) (N := some 34) (v := ?_) (a' := ?_) #[true, false, true, true, true, false, false, false, false] rfl rfl (by kernel_rfl) (fun _ _ _ h => h) (Or.inl ⟨by rfl, ?_⟩) ?_ ?_
          rotate_left
          ·intro w'
           go_simp
           with_reducible rfl
          rotate_left
          ·simp only [Act.put, List.setIfInBounds_toArray, List.set_cons_zero, List.set_cons_succ, i64_w, i32_w]
           rfl
          refine take_ (i := 1) (N := some 31) (v := ?_) (a' := ?_) #[true, true, true, true, true, false, false, false, false] rfl rfl (by kernel_rfl) (fun _ _ _ h => h) (Or.inl ⟨by rfl, ?_⟩) hHeld ?_ ?_
          rotate_left
          ·rintro w' s3
           obtain ⟨e0, e1, e2, e3⟩ := s3.cells
           go_simp
           with_reducible rfl
          rotate_left
          ·simp only [Act.put, List.setIfInBounds_toArray, List.set_cons_zero, List.set_cons_succ, i64_w, i32_w]
           rfl
          refine one_ (i := 5) (N := some 35) #[true, true, true, true, true, true, false, false, false] rfl rfl (by kernel_rfl) (by decide) (fun K hK => ?_)
          refine goesP_ Tryd.func105 (by kernel_rfl) rfl #[.pointer (some ⟨g, 0, none⟩), .int .i64 (wrap64 (m + 1))] (by rfl) rfl (by simp only [List.map_toArray, List.map_cons, List.map_nil]; rfl) (faultV q er) ?_
          refine (HL.out j (by have := HKQ.out; omega) (wrap64 (m + 1)) (by have := HM.out; unfold wrap64; omega) g _ _ w0 _ _ HA.out HC.out.st HC.out.bel HQ.out).mono ?_
          rintro e we ⟨rfl, hb, hk⟩
          exact ⟨rfl, rfl, Post.err hb (KeepBut.trans HC.out.keep hk (.inl rfl))⟩
         | ok ya =>
          obtain ⟨y, p1, t1⟩ := ya
          have HP1 := Aside0.mk (pr_fits s _ _ _ _ _ _ _ HQ.out HA.out)
          simp only [ebind] at hr
          have HR := Aside0.mk hr
          clear hr
          obtain ⟨HG, hg⟩ := HC.out.st
          have c0 := cellS65_0 HG
          have c1 := cellS65_1 HG
          have c2 := cellS65_2 HG
          clear HG hg
          go_upto_region 5 with (first | (go_at_call 107; (with_reducible refine (arith_binary.calls t op l _ HG.out).mono ?_); rintro e wp21 ⟨rfl, hd_⟩; have hw_ := hd_.below; have zwp21 := hw_.size; have nHC := Aside0.mk (HC.out.below hw_); have nVb4 := Aside0.mk (Vb4.out.below hw_); have nVb5 := Aside0.mk (Vb5.out.below hw_); have nTx := Aside0.mk (Tx.out.below hw_); clear HC Vb4 Vb5 Tx; have HC := nHC; have Vb4 := nVb4; have Vb5 := nVb5; have Tx := nTx; clear nHC nVb4 nVb5 nTx; clear hd_ hw_))
          clear c0 c1 c2
          go_upto_region 8 with (first | (go_at_call 42; have gn1 := Nat.lt_of_lt_of_le HC.out.lt HC.out.size; have qn1 := HC.out.size; have lb4_n1 := Vb4.out.lt; have lb5_n1 := Vb5.out.lt; (with_reducible refine (next_calls g s t p w0 _ HC.out.st HC.out.bel HP.out HS.out).mono ?_); rintro e wn22 ⟨rfl, hi, hb, hk⟩; have zn1 := hk.1; have nHC := Aside0.mk (HC.out.call hi hb hk); have nVb4 := Aside0.mk (Vb4.out.call hk gl); have nVb5 := Aside0.mk (Vb5.out.call hk gl); have nTx := Aside0.mk (Tx.out.call hk (by omega)); clear HC Vb4 Vb5 Tx; have HC := nHC; have Vb4 := nVb4; have Vb5 := nVb5; have Tx := nTx; clear nHC nVb4 nVb5 nTx; clear hi hb hk))
          refine start_ (n := 9) (S := fun w' => At26 w' b5 x.f0 x.f1 x.f2 (.slice Ax x.f3.length cx)) (ds := [8]) #[false, false, false, false, false, false, false, false, false] (by kernel_rfl) rfl rfl Vb5.out.drew.at_ (fun hHeld => ?_)
          have nHC := Aside0.mk (HC.out.drew)
          have nVb4 := Aside0.mk (Vb4.out.drew)
          have nVb5 := Aside0.mk (Vb5.out.drew)
          have nTx := Aside0.mk (Tx.out.drew)
          clear HC Vb4 Vb5 Tx
          have HC := nHC
          have Vb4 := nVb4
          have Vb5 := nVb5
          have Tx := nTx
          clear nHC nVb4 nVb5 nTx
          have hhi := HI.out
          have zd : wn22.heap.size ≤ wn22.drew.heap.size := Nat.le_refl _
          refine pure_ (i := 0) (N := some 30) (v := ?_) (a' := ?_) #[true, false, false, false, false, false, false, false, false] rfl rfl (by kernel_rfl) (fun _ _ _ h => h) (Or.inl ⟨by rfl, ?_⟩) ?_ ?_
          rotate_left
          ·intro w'
           go_simp
           with_reducible rfl
          rotate_left
          ·simp only [Act.put, List.setIfInBounds_toArray, List.set_cons_zero, List.set_cons_succ, i64_w, i32_w]
           rfl
          refine pure_ (i := 2) (N := some 32) (v := ?_) (a' := ?_) #[true, false, true, false, false, false, false, false, false] rfl rfl (by kernel_rfl) (fun _ _ _ h => h) (Or.inl ⟨by rfl, ?_⟩) ?_ ?_
          rotate_left
          ·intro w'
           go_simp
           with_reducible rfl
          rotate_left
          ·simp only [Act.put, List.setIfInBounds_toArray, List.set_cons_zero, List.set_cons_succ, i64_w, i32_w]
           rfl
          refine pure_ (i := 3) (N := some 33) (v := ?_) (a' := ?_) #[true, false, true, true, false, false, false, false, false] rfl rfl (by kernel_rfl) (fun _ _ _ h => h) (Or.inl ⟨by rfl, ?_⟩) ?_ ?_
          rotate_left
          ·intro w'
           go_simp
           with_reducible rfl
          rotate_left
          ·simp only [Act.put, List.setIfInBounds_toArray, List.set_cons_zero, List.set_cons_succ, i64_w, i32_w]
           rfl
          refine pure_ (i := 4) (N := some 34) (v := ?_) (a' := ?_) #[true, false, true, true, true, false, false, false, false] rfl rfl (by kernel_rfl) (fun _ _ _ h => h) (Or.inl ⟨by rfl, ?_⟩) ?_ ?_
          rotate_left
          ·intro w'
           go_simp
           with_reducible rfl
          rotate_left
          ·simp only [Act.put, List.setIfInBounds_toArray, List.set_cons_zero, List.set_cons_succ, i64_w, i32_w]
           rfl
          refine take_ (i := 1) (N := some 31) (v := ?_) (a' := ?_) #[true, true, true, true, true, false, false, false, false] rfl rfl (by kernel_rfl) (fun _ _ _ h => h) (Or.inl ⟨by rfl, ?_⟩) hHeld ?_ ?_
          rotate_left
          ·rintro w' s3
           obtain ⟨e0, e1, e2, e3⟩ := s3.cells
           go_simp
           with_reducible rfl
          rotate_left
          ·simp only [Act.put, List.setIfInBounds_toArray, List.set_cons_zero, List.set_cons_succ, i64_w, i32_w]
           rfl
          refine one_ (i := 5) (N := some 35) #[true, true, true, true, true, true, false, false, false] rfl rfl (by kernel_rfl) (by decide) (fun K hK => ?_)
          refine goes_ Tryd.func105 (by kernel_rfl) rfl #[.pointer (some ⟨g, 0, none⟩), .int .i64 (wrap64 (m + 1))] (by rfl) rfl rfl (by simp only [List.map_toArray, List.map_cons, List.map_nil]; rfl) ?_
          have gy := Nat.lt_of_lt_of_le HC.out.lt HC.out.size
          have qy := HC.out.size
          have lb4_y := Vb4.out.lt
          have lb5_y := Vb5.out.lt
          with_reducible refine (HL.out j (by have := HKQ.out; omega) (wrap64 (m + 1)) (by have := HM.out; unfold wrap64; omega) g _ _ w0 _ _ HA.out HC.out.st HC.out.bel HQ.out).mono ?_
          rintro e wy ⟨Ay, cy, rfl, ht_, hi_, hb, hk⟩
          refine ⟨_, rfl, ?_⟩
          have zy := hk.1
          have nHC := Aside0.mk (HC.out.call hi_ hb hk)
          have nVb4 := Aside0.mk (Vb4.out.call hk gl)
          have nVb5 := Aside0.mk (Vb5.out.call hk gl)
          have nTx := Aside0.mk (Tx.out.call hk (by omega))
          have nTy := Aside0.mk (ht_)
          clear HC Vb4 Vb5 Tx
          have HC := nHC
          have Vb4 := nVb4
          have Vb5 := nVb5
          have Tx := nTx
          have Ty := nTy
          clear nHC nVb4 nVb5 nTx nTy
          clear ht_ hi_ hb hk
          refine hK.out _ _ Vb5.out.at_ (fun hHeld => ?_)
          clear hK K
          refine norm_ (a' := ?_) ?_ ?_
          rotate_left
          ·show Act.put _ (some 35) _ = _
           simp only [Act.put, List.setIfInBounds_toArray, List.set_cons_zero, List.set_cons_succ, i64_w, i32_w]
           rfl
          refine one_ (i := 6) (N := some 36) #[true, true, true, true, true, true, true, false, false] rfl rfl (by kernel_rfl) (by decide) (fun K hK => ?_)
          have hlt5 := Vb5.out.lt
          refine cells_stepX (X := b5) (by rfl) 36 rfl [(x, Ax, cx), (y, Ay, cy)] (lo := lo) (hi := wy.heap.size) (by go_simp; rfl) (trX_all2 (Tx.out.wide (Nat.le_refl _) (by omega)) (Ty.out.trX2 (by omega) (by omega))) (by omega) (Nat.le_refl _) (by omega) (by simp) ?_
          intro An cn wl ht_ hw_ hz_
          have zl := hw_.size
          have nHC := Aside0.mk (HC.out.below hw_)
          have nVb4 := Aside0.mk (Vb4.out.below hw_)
          have nVb5 := Aside0.mk (Vb5.out.below hw_)
          have nTn := Aside0.mk (ht_)
          clear HC Vb4 Vb5
          have HC := nHC
          have Vb4 := nVb4
          have Vb5 := nVb5
          have Tn := nTn
          clear nHC nVb4 nVb5 nTn
          clear ht_ hw_
          refine hK.out _ _ Vb5.out.at_ (fun hHeld => ?_)
          clear hK K
          refine norm_ (a' := ?_) ?_ ?_
          rotate_left
          ·show Act.put _ (some 36) _ = _
           simp only [Act.put, List.setIfInBounds_toArray, List.set_cons_zero, List.set_cons_succ, i64_w, i32_w]
           rfl
          refine pure_ (i := 7) (N := some 37) (v := ?_) (a' := ?_) #[true, true, true, true, true, true, true, true, false] rfl rfl (by kernel_rfl) (fun _ _ _ h => h) (Or.inl ⟨by rfl, ?_⟩) ?_ ?_
          rotate_left
          ·intro w'
           go_simp
           with_reducible rfl
          rotate_left
          ·simp only [Act.put, List.setIfInBounds_toArray, List.set_cons_zero, List.set_cons_succ, i64_w, i32_w]
           rfl
          refine last_ (i := 8) (N := none) #[true, true, true, true, true, true, true, true, true] rfl rfl (by kernel_rfl) (by decide) (fun K hK => ?_)
          refine store26_step (by rfl) 5 (.tmp 37) rfl rfl rfl rfl Vb5.out.at_ ?_
          intro wf ha_ hw_
          have zf := hw_.kept.1
          have nHC := Aside0.mk (HC.out.wrote hw_ Vb5.out.ge)
          have nTn := Aside0.mk (Tn.out.wrote hw_ (.inr (.inr rfl)))
          have nVb4 := Aside0.mk (Vb4.out.wrote hw_ (by omega))
          have nVb5 := Aside0.mk (Vr.mk (w := w) ha_ Vb5.out.ge)
          clear HC Tn Vb4 Vb5
          have HC := nHC
          have Tn := nTn
          have Vb4 := nVb4
          have Vb5 := nVb5
          clear nHC nTn nVb4 nVb5
          clear hw_ ha_
          refine hK.out _ _ ?_
          refine done_ (by kernel_rfl) ?_
          go_wp2_with (fail)
          go_roundg j
          case measure => omega
          case rel => exact ⟨⟨op, 0, noName, [x, y]⟩, p1, t1, An, cn, _, HR, ⟨by have := HKQ.out; omega⟩, HP1, HC, Vb4, Vb5, Tn, ⟨by omega⟩⟩
       ·have v1 : (l == m) = false := beq_eq_false_iff_ne.mpr (by have := HM.out; omega)
        have v2 : (l != m) = true := bne_iff_ne.mpr (by have := HM.out; omega)
        rw [if_neg hln] at hr
        clear hln
        simp only [Option.some.injEq] at hr
        subst hr
        obtain ⟨HG, hg⟩ := HC.out.st
        have c0 := cellS65_0 HG
        have c1 := cellS65_1 HG
        have c2 := cellS65_2 HG
        clear HG hg
        go_upto_region 5 with (first | (go_at_call 107; (with_reducible refine (arith_binary.calls t op l _ HG.out).mono ?_); rintro e wp21 ⟨rfl, hd_⟩; have hw_ := hd_.below; have zwp21 := hw_.size; have nHC := Aside0.mk (HC.out.below hw_); have nVb4 := Aside0.mk (Vb4.out.below hw_); have nVb5 := Aside0.mk (Vb5.out.below hw_); have nTx := Aside0.mk (Tx.out.below hw_); clear HC Vb4 Vb5 Tx; have HC := nHC; have Vb4 := nVb4; have Vb5 := nVb5; have Tx := nTx; clear nHC nVb4 nVb5 nTx; clear hd_ hw_))
        clear c0 c1 c2
        obtain ⟨x0, x1, x2, x3⟩ := Vb5.out.at_.cells
        have hhi := HI.out
        go_wp2_with (first | (refine store26_event rfl 4 (.tmp 27) rfl rfl rfl rfl Vb4.out.at_ ?_; intro ws22 ha_ hw_; have zws22 := hw_.kept.1; have nHC := Aside0.mk (HC.out.wrote hw_ Vb4.out.ge); have nVb5 := Aside0.mk (Vb5.out.wrote hw_ (by omega)); have nTx := Aside0.mk (Tx.out.wrote hw_ (.inl n1)); have nVb4 := Aside0.mk (Vr.mk (w := w) ha_ Vb4.out.ge); clear HC Vb5 Tx Vb4; have HC := nHC; have Vb5 := nVb5; have Tx := nTx; have Vb4 := nVb4; clear nHC nVb5 nTx nVb4; clear hw_ ha_))
        refine bodyPost_ret (results_cell_row rfl _ _ b4 26 #[.int .i64 (x.f0), .int .i64 (x.f1), .string (x.f2), .slice Ax x.f3.length cx] (0, 0) _ rfl Vb4.out.at_ Tryd.underlying26 rfl (by kernel_rfl)) rfl ?_
        exact Post.done Tx.out.tr HC.out (by omega) (by omega)
end Go.Proofs.YtglmdfddgmkmaaaDoor.Q
end
section
namespace Go.Proofs.YtglmdfddgmkmaaaDoor.Q
open Go.RowKit Go.Proofs.YtglmdfddgmkmaaaDoorW.PrintWords Go.Proofs.YtglmdfddgmkmaaaDoorW.PrintLast Go.Proofs.YtglmdfddgmkmaaaDoorW.PrintMore
attribute [local go_sem] max2_int min2_int max_two min_two max_three min_three max_four min_four
set_option linter.unusedVariables false
set_option linter.unusedSimpArgs false
theorem pr_calls (s : ByteArray) (hs : s.size ≤ 4096) (k : Nat) : C43 s k ∧ C70 s k ∧ C122 s k ∧ ∀ n, n ≤ 13 → C105 s k n := by
 induction k using Nat.strongRecOn with
 | _ k ih =>
  cases k with
  | zero =>
   refine ⟨?_, ?_, ?_, ?_⟩
   ·intro g p t w0 w r hr; simp [pr] at hr
   ·intro g p t w0 w r hr; simp [pr] at hr
   ·intro g p t w0 w r hr; simp [pr] at hr
   ·intro n _ m _ g p t w0 w r hr; simp [pr] at hr
  | succ k =>
   obtain ⟨i1, i2, i3, i4⟩ := ih k (by omega)
   refine ⟨first_step s hs k i1 i2, second_step s hs k (i4 3 (by omega)) i1 i2, operand_step s hs k i1 i3, ?_⟩
   intro n hn
   exact level_step s hs k n hn i3 (fun hlt j hj => (ih j (by omega)).2.2.2 (n + 1) (by omega))
/-- One cell of an integer. -/
def At1 (W : World) (b t : Nat) (n : Int) : Prop := W.heap[b]? = some (.cells #[.int .i64 n] t (0, 0))
theorem At1.cell {W : World} {b t : Nat} {n : Int} (h : At1 W b t n) : W.cell? ⟨b, 0, none⟩ = some (.int .i64 n) := (blk_cell h 0).trans rfl
theorem wrote1 {W : World} {b t : Nat} {n n' : Int} (h : At1 W b t n) : At1 (W.setCell ⟨b, 0, none⟩ (.int .i64 n')) b t n' ∧ Wrote b W (W.setCell ⟨b, 0, none⟩ (.int .i64 n')) := by
 have e0 : (W.setCell ⟨b, 0, none⟩ (.int .i64 n')).heap[b]? = some (.cells #[.int .i64 n'] t (0, 0)) := blk_put h 0 _ rfl
 refine ⟨e0, ⟨?_, ?_⟩⟩
 ·exact Kept.setCell (Kept.refl W (fun k => k = b)) (p := ⟨b, 0, none⟩) (.inl rfl) _
 ·intro B w0 hb hle
  exact Below.setCell hb (p := ⟨b, 0, none⟩) hle _
theorem store1_run {W : World} {a : Act} {t : TypeId} (ht : t = 3 ∨ t = 27) {q r : Operand} {o : Oper} (ho : o.op = .store t q r) {b t0 : Nat} {n n' : Int} (hp : a.eval q = .pointer (some ⟨b, 0, none⟩)) (hq : a.eval r = .int .i64 n')
 (hb : At1 W b t0 n) : (execOp a.eval o).run Tryd.prog W = .ok .skip (W.setCell ⟨b, 0, none⟩ (.int .i64 n')) := by
 have c0 := hb.cell
 have f0 := blk_frozen hb 0
 have hu3 := Tryd.underlying3
 have hu27 := Tryd.underlying27
 unfold execOp
 simp only [ho, hp, hq]
 rcases ht with rfl | rfl
 ·go_simp
 ·go_simp
theorem store1_step {ops : Array Oper} {o : Oper} {a : Act} {Q : Exit → Act → World → Prop} {Kc : Act → World → Prop} {W : World} (hw : Region.wanted o (yielded ops a.tmps) = true) (t : TypeId) (ht : t = 3 ∨ t = 27) (q r : Operand) (hN : o.dst = none) (ho : o.op = .store t q r)
 {b t0 : Nat} {n n' : Int} (hp : a.eval q = .pointer (some ⟨b, 0, none⟩)) (hq : a.eval r = .int .i64 n') (hb : At1 W b t0 n) (h : ∀ W', At1 W' b t0 n' → Wrote b W W' → Kc a W') :
 if Region.wanted o (yielded ops a.tmps) = true then Oper.wp Tryd.prog o a W Kc Q else Kc (a.put none undef) W := by
 rw [if_pos hw]
 unfold Oper.wp
 rw [store1_run ht ho hp hq hb]
 show Kc (a.put o.dst undef) _
 rw [hN]
 obtain ⟨e1, e2⟩ := wrote1 (n' := n') hb
 exact h _ e1 e2
theorem At26.wrote {W W' : World} {b b' : Nat} {op n : Int} {nm : ByteArray} {v : Value} (h : At26 W b op n nm v) (hw : Wrote b' W W') (hne : b ≠ b') : At26 W' b op n nm v := blk_kept h hw.kept hne
theorem At1.wrote {W W' : World} {b t b' : Nat} {n : Int} (h : At1 W b t n) (hw : Wrote b' W W') (hne : b ≠ b') : At1 W' b t n := blk_kept h hw.kept hne
theorem At26.below {W W' : World} {b : Nat} {op n : Int} {nm : ByteArray} {v : Value} (h : At26 W b op n nm v) (hw : Below W.heap.size W W') : At26 W' b op n nm v := (hw.block b (blk_lt h)).trans h
theorem At1.below {W W' : World} {b t : Nat} {n : Int} (h : At1 W b t n) (hw : Below W.heap.size W W') : At1 W' b t n := (hw.block b (blk_lt h)).trans h
/-- The body of a deferred function that has no results comes to its end. -/
def EndIs (F : World → Prop) : Exit → Act → World → Prop
 | .normal, a, w => a.defers = [] ∧ F w
 | .ret, a, w => a.defers = [] ∧ F w
 | _, _, _ => False
theorem wpS_end {c : Code} {a : Act} {cs : List Frame} {c₀ : Frame} {w : World} {fn : Func} {R : Ending → FrameMode → World → Prop} {u' : FrameMode} {cs0 : List Frame} (hcs : cs0 = { c₀ with mode := u' } :: cs) (F : World → Prop) (hr : fn.results = #[]) (hR : ∀ w, F w → R (.returned (.tuple #[])) u' w)
 (h : c.wp Tryd.prog (EndIs F) a w) : c.wpS Tryd.prog (bodyPostS Tryd.prog fn c₀ cs R) a cs0 w := by
 subst hcs
 refine wpS_of_wp (wp_mono h ?_)
 intro e a w hq
 cases e with
 | normal => exact ⟨hq.1, u', rfl, _, results_none hr _ _ _, hR w hq.2⟩
 | ret => exact ⟨hq.1, u', rfl, _, results_none hr _ _ _, hR w hq.2⟩
 | exit id => exact hq.elim
 | goto l => exact hq.elim
 | panic ch => exact hq.elim
 | outgrown => exact hq.elim
theorem catch_idle (b2 b3 b4 : Nat) (w : World) :
 CallsD Tryd.prog 41 #[.pointer (some ⟨b2, 0, none⟩), .pointer (some ⟨b3, 0, none⟩), .pointer (some ⟨b4, 0, none⟩)] .returning w fun e u' w' => e = .returned (.tuple #[]) ∧ u' = .returning ∧ w' = w := by
 refine callsD_of_wpS Tryd.func41 rfl fun c₀ cs hu => ?_
 simp only [Tryd.ntmps41, List.size_toArray, List.length_cons, List.length_nil, Nat.reduceAdd, Nat.reduceSub, Array.replicate_succ, Array.replicate_zero, List.push_toArray, List.append_toArray, List.nil_append, List.cons_append]
 apply wpS_seq
 apply wpS_region
 simp [wpOpsS, go_sem, recoverD, hu, Exit.thenS]
 refine wpS_end (u' := .returning) (by cases c₀; simp_all) (fun w' => w' = w) Tryd.results41 (fun w' h => ⟨rfl, rfl, h⟩) ?_
 have hu20 := Tryd.underlying20
 go_wp2
 exact ⟨rfl, rfl⟩
/-- What the closure leaves of a fault. -/
structure Caught (w0 : World) (b2 b3 b4 : Nat) (at_ er : Int) (w w' : World) : Prop where
 x : At26 w' b2 0 0 ⟨#[]⟩ (.slice none 0 0)
 at_ : At1 w' b3 3 at_
 er : At1 w' b4 27 er
 bel : ∀ B, Below B w0 w → B ≤ b2 → B ≤ b3 → B ≤ b4 → B ≤ w.heap.size → Below B w0 w'
end Go.Proofs.YtglmdfddgmkmaaaDoor.Q
end

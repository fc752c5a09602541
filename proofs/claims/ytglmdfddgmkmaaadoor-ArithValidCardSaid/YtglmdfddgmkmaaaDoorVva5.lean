/- Valid returns the first error of every expression tree (P5.3): ArithValid answers true for every tree; no condition beyond those of the statement itself (the tables that its row lays). Part 6 of 6: the walk of the law, its plain law, its row and its card. -/
import Derived.ChangeOld
import Derived.SizedLaws
import Derived.SevenTiedAt
import Derived.ShutString
import Derived.Test.YtglmdfddgmkmaaaDoorTie
import Derived.Test.YtglmdfddgmkmaaaDoorCards
import Derived.Test.YtglmdfddgmkmaaaDoorVva4
section
namespace Go.Proofs.YtglmdfddgmkmaaaDoor.Q
open Go.RowKit Go.Proofs.YtglmdfddgmkmaaaDoorW.PrintWords Go.Proofs.YtglmdfddgmkmaaaDoorW.PrintLast Go.Proofs.YtglmdfddgmkmaaaDoorW.PrintMore
attribute [local go_sem] max2_int min2_int max_two min_two max_three min_three max_four min_four
set_option linter.unusedVariables false
set_option linter.unusedSimpArgs false
def jobshellref05_digits.l0 : Nat → Int → ByteArray → Option (ByteArray)
 | 0, _, _ => none
 | k + 1, x0, x3 => if x0 > 9 then ((some (([(IntKind.u64.wrap (48 + (Int.tmod x0 10))) % 256] : List Int) : List Int)).bind fun y273 => (if (strOfNums y273).size + x3.size ≤ 9223372036854775807 then (jobshellref05_digits.l0 k (IntKind.u64.wrap (Int.tdiv x0 10)) ((strOfNums y273) ++ x3)) else (none))) else ((some (([(IntKind.u64.wrap (48 + x0)) % 256] : List Int) : List Int)).bind fun y276 => (if (strOfNums y276).size + x3.size ≤ 9223372036854775807 then (some ((strOfNums y276) ++ x3)) else (none)))
def jobshellref05_digits.f (k : Nat) (a0 : Int) : Option (ByteArray) := jobshellref05_digits.l0 k a0 (⟨#[]⟩ : ByteArray)
theorem jobshellref05_digits.mono_l : ∀ k, (∀ y0 y1, LeO (jobshellref05_digits.l0 k y0 y1) (jobshellref05_digits.l0 (k + 1) y0 y1))
 | 0 => fun _ _ r h => by simp [jobshellref05_digits.l0] at h
 | k + 1 => by
  have ih0 := jobshellref05_digits.mono_l k
  ·intro y0 y1
   unfold jobshellref05_digits.l0
   repeat' first
   | (with_reducible exact ih0 _ _)
   | (with_reducible exact LeO.refl _)
   | (with_reducible exact LeO.none _)
   | (with_reducible refine LeO.ite ?_ ?_)
   | (with_reducible refine LeO.bind ?_ (fun _ => ?_))
   | exact ih0 _ _
   | exact LeO.none _
   | refine LeO.ite ?_ ?_
   | refine LeO.bind ?_ (fun _ => ?_)
theorem jobshellref05_digits.mono : ∀ a0 k, LeO (jobshellref05_digits.f k a0) (jobshellref05_digits.f (k + 1) a0) := by
 intro a0 k
 have ih0 := jobshellref05_digits.mono_l k
 unfold jobshellref05_digits.f
 repeat' first
  | (with_reducible exact ih0 _ _)
  | (with_reducible exact LeO.refl _)
  | (with_reducible exact LeO.none _)
  | (with_reducible refine LeO.ite ?_ ?_)
  | (with_reducible refine LeO.bind ?_ (fun _ => ?_))
  | exact ih0 _ _
  | exact LeO.none _
  | refine LeO.ite ?_ ?_
  | refine LeO.bind ?_ (fun _ => ?_)
set_option maxHeartbeats 8000000 in
set_option maxRecDepth 100000 in
theorem jobshellref05_digits.calls (k : Nat) (a0 : Int) (r : ByteArray) (w : World) (h : jobshellref05_digits.f k a0 = some r) :
 Calls Tryd.prog 67 #[.int .u64 a0] w fun e w' => e = .returned (.string r) ∧ Below w.heap.size w w' := by
 have HB := Aside0.mk (Below.refl w.heap.size w)
 have H : (jobshellref05_digits.l0 k a0 (⟨#[]⟩ : ByteArray)) = some r := h
 clear h
 have H' := Aside0.mk H
 clear H
 go_enter Tryd.func67, Tryd.ntmps67
 go_wp2
 go_loopg [0, 3] k (fun kq v0 v3 w' => ∃ (x0_1 : Int) (x3_1 : ByteArray), v0 = .int .u64 x0_1 ∧ v3 = .string x3_1 ∧ Aside0 (jobshellref05_digits.l0 kq x0_1 x3_1 = some r) ∧ Aside0 (kq ≤ k) ∧ Aside0 (Below w.heap.size w w'))
 case atStart => exact ⟨(a0), ((⟨#[]⟩ : ByteArray)), (by first | rfl | (simp; done) | (simp [*]; done)), (by first | rfl | (simp; done) | (simp [*]; done)), H', ⟨Nat.le_refl _⟩, ⟨by repeat (first | (with_reducible first | exact HB.out | apply below_alloc | apply pw_below_drewN | apply below_drew1) | exact HB.out)⟩⟩
 case round =>
  clear H'
  obtain ⟨x0_1, x3_1, rfl, rfl, HA, HK1, HB⟩ := hrel
  cases gk with
  | zero => exact absurd HA.out (by simp [jobshellref05_digits.l0])
  | succ k1 =>
   have H := HA.out
   clear HA
   simp only [jobshellref05_digits.l0] at H
   by_cases c2 : x0_1 > 9
   ·rw [if_pos c2] at H
    have c2b0 : decide (9 < x0_1) = true := decide_eq_true c2
    clear c2
    obtain ⟨y273, hy273⟩ : ∃ y_ : List Int, y_ = (([(IntKind.u64.wrap (48 + (Int.tmod x0_1 10))) % 256] : List Int)) := ⟨_, rfl⟩
    replace H : (if (strOfNums y273).size + x3_1.size ≤ 9223372036854775807 then (jobshellref05_digits.l0 k1 (IntKind.u64.wrap (Int.tdiv x0_1 10)) ((strOfNums y273) ++ x3_1)) else (none)) = some r := by first | (rw [hy273]; with_reducible exact H) | (have H2_ := (Option.bind_some _ _).symm.trans H; rw [hy273]; with_reducible exact H2_) | (have H2_ := (Option.bind_some _ _).symm.trans H; with_reducible exact H2_) | with_reducible exact H | (rw [hy273]; exact H) | exact H
    have Ny273 := Aside0.mk hy273
    clear hy273
    by_cases c3 : (strOfNums y273).size + x3_1.size ≤ 9223372036854775807
    ·rw [if_pos c3] at H
     have c3b0 := eq_true c3
     have c3b1 : decide ((strOfNums y273).size + x3_1.size ≤ 9223372036854775807) = true := decide_eq_true c3
     try have c3b2 : (9223372036854775807 < (strOfNums y273).size + x3_1.size) = False := eq_false (Nat.not_lt.2 c3)
     have H' := Aside0.mk H
     clear H
     go_wp2_with (first | ((with_reducible refine gate_dst (N := 10) rfl ?_); refine Kd.R_lit (Kd.int .u8) _ 5 ?hg (N := 10) ?hd (xs := ([(IntKind.u64.wrap (48 + (Int.tmod x0_1 10))) % 256] : List Int)) (inner := [.int .u8 ((IntKind.u64.wrap (48 + (Int.tmod x0_1 10))) % 256)]) (ok := fun _ => True) (okp := fun _ => True) ?hr ?hp (fun _ hk => hk) trivial (Below.refl _ _) (Nat.le_refl _) (by simp) ?_; (case hd => rfl); (case hg => rfl); (case hr => first | (go_simp; done) | (go_simp; rfl)); (case hp => exact (Reps.one (show Kd.M (Kd.int .u8) _ _ _ ((IntKind.u64.wrap (48 + (Int.tmod x0_1 10))) % 256) [.int .u8 ((IntKind.u64.wrap (48 + (Int.tmod x0_1 10))) % 256)] from rfl) (Reps.none _ _))); intro v274 w4 ho5 hb hg_ hnew_; clear hg_ hnew_; (first | rw [← Ny273.out] at ho5 | (simp only [Int.reduceToNat] at ho5; rw [← Ny273.out] at ho5)); have n0_ := Aside0.mk (Kd.R_lower ho5 (below_size (by repeat (first | (with_reducible first | exact HB.out | apply below_alloc | apply pw_below_drewN | apply below_drew1) | exact HB.out)))); have n1_ := Aside0.mk (below_step (by repeat (first | (with_reducible first | exact HB.out | apply below_alloc | apply pw_below_drewN | apply below_drew1) | exact HB.out)) hb); clear HB; have HO275 := n0_; have HB := n1_; clear n0_ n1_; clear hb ho5; have hcv6 := own_string (P := Tryd.prog) Tryd.underlying110 Tryd.underlying5 Tryd.underlying9 (Kd.own_of_R HO275.out)))
     go_roundg k1
     case measure => have := HK1.out; omega
     case rel => exact ⟨(IntKind.u64.wrap (Int.tdiv x0_1 10)), ((strOfNums y273) ++ x3_1), (by first | rfl | (simp; done) | (simp [*]; done)), (by first | rfl | (simp; done) | (simp [*]; done)), H', ⟨by have := HK1.out; omega⟩, ⟨by repeat (first | (with_reducible first | exact HB.out | apply below_alloc | apply pw_below_drewN | apply below_drew1) | exact HB.out)⟩⟩
    ·rw [if_neg c3] at H
     exact absurd H (by simp)
   ·rw [if_neg c2] at H
    have c2b0 : decide (9 < x0_1) = false := decide_eq_false c2
    clear c2
    obtain ⟨y276, hy276⟩ : ∃ y_ : List Int, y_ = (([(IntKind.u64.wrap (48 + x0_1)) % 256] : List Int)) := ⟨_, rfl⟩
    replace H : (if (strOfNums y276).size + x3_1.size ≤ 9223372036854775807 then (some ((strOfNums y276) ++ x3_1)) else (none)) = some r := by first | (rw [hy276]; with_reducible exact H) | (have H2_ := (Option.bind_some _ _).symm.trans H; rw [hy276]; with_reducible exact H2_) | (have H2_ := (Option.bind_some _ _).symm.trans H; with_reducible exact H2_) | with_reducible exact H | (rw [hy276]; exact H) | exact H
    have Ny276 := Aside0.mk hy276
    clear hy276
    by_cases c7 : (strOfNums y276).size + x3_1.size ≤ 9223372036854775807
    ·rw [if_pos c7] at H
     have c7b0 := eq_true c7
     have c7b1 : decide ((strOfNums y276).size + x3_1.size ≤ 9223372036854775807) = true := decide_eq_true c7
     try have c7b2 : (9223372036854775807 < (strOfNums y276).size + x3_1.size) = False := eq_false (Nat.not_lt.2 c7)
     obtain rfl := Option.some.inj H
     go_wp2_with (first | ((with_reducible refine gate_dst (N := 19) rfl ?_); refine Kd.R_lit (Kd.int .u8) _ 5 ?hg (N := 19) ?hd (xs := ([(IntKind.u64.wrap (48 + x0_1)) % 256] : List Int)) (inner := [.int .u8 ((IntKind.u64.wrap (48 + x0_1)) % 256)]) (ok := fun _ => True) (okp := fun _ => True) ?hr ?hp (fun _ hk => hk) trivial (Below.refl _ _) (Nat.le_refl _) (by simp) ?_; (case hd => rfl); (case hg => rfl); (case hr => first | (go_simp; done) | (go_simp; rfl)); (case hp => exact (Reps.one (show Kd.M (Kd.int .u8) _ _ _ ((IntKind.u64.wrap (48 + x0_1)) % 256) [.int .u8 ((IntKind.u64.wrap (48 + x0_1)) % 256)] from rfl) (Reps.none _ _))); intro v277 w8 ho9 hb hg_ hnew_; clear hg_ hnew_; (first | rw [← Ny276.out] at ho9 | (simp only [Int.reduceToNat] at ho9; rw [← Ny276.out] at ho9)); have n0_ := Aside0.mk (Kd.R_lower ho9 (below_size (by repeat (first | (with_reducible first | exact HB.out | apply below_alloc | apply pw_below_drewN | apply below_drew1) | exact HB.out)))); have n1_ := Aside0.mk (below_step (by repeat (first | (with_reducible first | exact HB.out | apply below_alloc | apply pw_below_drewN | apply below_drew1) | exact HB.out)) hb); clear HB; have HO278 := n0_; have HB := n1_; clear n0_ n1_; clear hb ho9; have hcv10 := own_string (P := Tryd.prog) Tryd.underlying110 Tryd.underlying5 Tryd.underlying9 (Kd.own_of_R HO278.out)))
     go_ret
     exact ⟨by first | rfl | (simp [errW_none, errW_some] <;> rfl) | (simp [*, errW_none, errW_some] <;> rfl), by repeat (first | (with_reducible first | exact HB.out | apply below_alloc | apply pw_below_drewN | apply below_drew1) | exact HB.out)⟩
    ·rw [if_neg c7] at H
     exact absurd H (by simp)
def jobshellref05_Decimal.f (k : Nat) (a0 : Int) : Option (ByteArray) := if a0 < 0 then ((jobshellref05_digits.f k (IntKind.u64.wrap ((IntKind.u64.wrap (wrap64 (-(wrap64 (a0 + 1))))) + 1))).bind fun t279 => (if 1 + t279.size ≤ 9223372036854775807 then (some ((⟨#[45]⟩ : ByteArray) ++ t279)) else (none))) else ((jobshellref05_digits.f k (IntKind.u64.wrap (a0))).bind fun t280 => (some t280))
theorem jobshellref05_Decimal.mono : ∀ a0 k, LeO (jobshellref05_Decimal.f k a0) (jobshellref05_Decimal.f (k + 1) a0) := by
 intro a0 k
 unfold jobshellref05_Decimal.f
 repeat' first
  | (with_reducible exact jobshellref05_digits.mono _ _)
  | (with_reducible exact LeO.refl _)
  | (with_reducible exact LeO.none _)
  | (with_reducible refine LeO.ite ?_ ?_)
  | (with_reducible refine LeO.bind ?_ (fun _ => ?_))
  | exact jobshellref05_digits.mono _ _
  | exact LeO.none _
  | refine LeO.ite ?_ ?_
  | refine LeO.bind ?_ (fun _ => ?_)
set_option maxHeartbeats 8000000 in
set_option maxRecDepth 100000 in
theorem jobshellref05_Decimal.calls (k : Nat) (a0 : Int) (r : ByteArray) (w : World) (h : jobshellref05_Decimal.f k a0 = some r) :
 Calls Tryd.prog 38 #[.int .i64 a0] w fun e w' => e = .returned (.string r) ∧ Below w.heap.size w w' := by
 have HB := Aside0.mk (Below.refl w.heap.size w)
 have H : (if a0 < 0 then ((jobshellref05_digits.f k (IntKind.u64.wrap ((IntKind.u64.wrap (wrap64 (-(wrap64 (a0 + 1))))) + 1))).bind fun t279 => (if 1 + t279.size ≤ 9223372036854775807 then (some ((⟨#[45]⟩ : ByteArray) ++ t279)) else (none))) else ((jobshellref05_digits.f k (IntKind.u64.wrap (a0))).bind fun t280 => (some t280))) = some r := h
 clear h
 by_cases c2 : a0 < 0
 ·rw [if_pos c2] at H
  have c2b0 : decide (a0 < 0) = true := decide_eq_true c2
  clear c2
  replace H := Option.bind_eq_some_iff.mp H
  obtain ⟨t279, A30, H⟩ := H
  replace H : (if 1 + t279.size ≤ 9223372036854775807 then (some ((⟨#[45]⟩ : ByteArray) ++ t279)) else (none)) = some r := H
  have A3 := Aside0.mk A30
  clear A30
  by_cases c4 : 1 + t279.size ≤ 9223372036854775807
  ·rw [if_pos c4] at H
   have c4b0 := eq_true c4
   have c4b1 : decide (1 + t279.size ≤ 9223372036854775807) = true := decide_eq_true c4
   try have c4b2 : (9223372036854775807 < 1 + t279.size) = False := eq_false (Nat.not_lt.2 c4)
   obtain rfl := Option.some.inj H
   go_enter Tryd.func38, Tryd.ntmps38
   go_wp2_with (first | ((with_reducible refine gate_callee (f := 67) rfl ?_); refine goesL_ (some 10) rfl rfl Tryd.func67 (by kernel_rfl) rfl #[.int .u64 (IntKind.u64.wrap ((IntKind.u64.wrap (wrap64 (-(wrap64 (a0 + 1))))) + 1))] rfl (by (try simp only [List.map_toArray, List.map_cons, List.map_nil]); first | done | rfl | (simp only [List.length_drop, List.length_take]; rfl)) ?_; (with_reducible refine (jobshellref05_digits.calls k (IntKind.u64.wrap ((IntKind.u64.wrap (wrap64 (-(wrap64 (a0 + 1))))) + 1)) t279 _ A3.out).mono ?_); rintro e w5 ⟨rfl, hb⟩; refine ⟨_, rfl, ?_⟩; have n0_ := Aside0.mk (below_step (by repeat (first | (with_reducible first | exact HB.out | apply below_alloc | apply pw_below_drewN | apply below_drew1) | exact HB.out)) hb); clear HB; have HB := n0_; clear n0_; (try clear hb); (try clear hb2); (try clear hk); (try clear hi)))
   go_ret
   exact ⟨by first | rfl | (simp [errW_none, errW_some] <;> rfl) | (simp [*, errW_none, errW_some] <;> rfl), by repeat (first | (with_reducible first | exact HB.out | apply below_alloc | apply pw_below_drewN | apply below_drew1) | exact HB.out)⟩
  ·rw [if_neg c4] at H
   exact absurd H (by simp)
 ·rw [if_neg c2] at H
  have c2b0 : decide (a0 < 0) = false := decide_eq_false c2
  clear c2
  replace H := Option.bind_eq_some_iff.mp H
  obtain ⟨t280, A60, H⟩ := H
  replace H : (some t280) = some r := H
  have A6 := Aside0.mk A60
  clear A60
  obtain rfl := Option.some.inj H
  go_enter Tryd.func38, Tryd.ntmps38
  go_wp2_with (first | ((with_reducible refine gate_callee (f := 67) rfl ?_); refine goesL_ (some 14) rfl rfl Tryd.func67 (by kernel_rfl) rfl #[.int .u64 (IntKind.u64.wrap (a0))] rfl (by (try simp only [List.map_toArray, List.map_cons, List.map_nil]); first | done | rfl | (simp only [List.length_drop, List.length_take]; rfl)) ?_; (with_reducible refine (jobshellref05_digits.calls k (IntKind.u64.wrap (a0)) t280 _ A6.out).mono ?_); rintro e w7 ⟨rfl, hb⟩; refine ⟨_, rfl, ?_⟩; have n0_ := Aside0.mk (below_step (by repeat (first | (with_reducible first | exact HB.out | apply below_alloc | apply pw_below_drewN | apply below_drew1) | exact HB.out)) hb); clear HB; have HB := n0_; clear n0_; (try clear hb); (try clear hb2); (try clear hk); (try clear hi)))
  go_ret
  exact ⟨by first | rfl | (simp [errW_none, errW_some] <;> rfl) | (simp [*, errW_none, errW_some] <;> rfl), by repeat (first | (with_reducible first | exact HB.out | apply below_alloc | apply pw_below_drewN | apply below_drew1) | exact HB.out)⟩
def jobshellref05_has.l0 : Nat → List ByteArray → ByteArray → Int → Option (Bool)
 | 0, _, _, _ => none
 | k + 1, x0, x1, x5 => if x5 < (x0.length : Int) then (if 0 ≤ x5 then (if (rdOf ByteArray.empty x0 x5).toList = x1.toList then (some true) else (jobshellref05_has.l0 k x0 x1 (wrap64 (x5 + 1)))) else (none)) else (some false)
def jobshellref05_has.f (k : Nat) (l0 : List ByteArray) (a1 : ByteArray) : Option (Bool) := jobshellref05_has.l0 k l0 a1 0
theorem jobshellref05_has.mono_l : ∀ k, (∀ y0 y1 y2, LeO (jobshellref05_has.l0 k y0 y1 y2) (jobshellref05_has.l0 (k + 1) y0 y1 y2))
 | 0 => fun _ _ _ r h => by simp [jobshellref05_has.l0] at h
 | k + 1 => by
  have ih0 := jobshellref05_has.mono_l k
  ·intro y0 y1 y2
   unfold jobshellref05_has.l0
   repeat' first
   | (with_reducible exact ih0 _ _ _)
   | (with_reducible exact LeO.refl _)
   | (with_reducible exact LeO.none _)
   | (with_reducible refine LeO.ite ?_ ?_)
   | (with_reducible refine LeO.bind ?_ (fun _ => ?_))
   | exact ih0 _ _ _
   | exact LeO.none _
   | refine LeO.ite ?_ ?_
   | refine LeO.bind ?_ (fun _ => ?_)
theorem jobshellref05_has.mono : ∀ a0 a1 k, LeO (jobshellref05_has.f k a0 a1) (jobshellref05_has.f (k + 1) a0 a1) := by
 intro a0 a1 k
 have ih0 := jobshellref05_has.mono_l k
 unfold jobshellref05_has.f
 repeat' first
  | (with_reducible exact ih0 _ _ _)
  | (with_reducible exact LeO.refl _)
  | (with_reducible exact LeO.none _)
  | (with_reducible refine LeO.ite ?_ ?_)
  | (with_reducible refine LeO.bind ?_ (fun _ => ?_))
  | exact ih0 _ _ _
  | exact LeO.none _
  | refine LeO.ite ?_ ?_
  | refine LeO.bind ?_ (fun _ => ?_)
set_option maxHeartbeats 8000000 in
set_option maxRecDepth 100000 in
theorem jobshellref05_has.calls (k : Nat) (A0 : Option Addr) (c0 : Nat) (l0 : List ByteArray) (a1 : ByteArray) (r : Bool) (w : World) (hr0 : Kd.C Kd.string w A0 l0.length l0) (hc0 : l0.length ≤ c0) (h : jobshellref05_has.f k l0 a1 = some r) :
 Calls Tryd.prog 57 #[.slice A0 l0.length c0, .string a1] w fun e w' => e = .returned (.bool r) ∧ Drawn0 w w' := by
 have HR0 := Aside0.mk hr0
 have HC0 := Aside0.mk hc0
 clear hr0 hc0
 have H : (jobshellref05_has.l0 k l0 a1 0) = some r := h
 clear h
 have H' := Aside0.mk H
 clear H
 go_enter Tryd.func57, Tryd.ntmps57
 go_wp2
 go_loopg [5] k (fun kq v5 w' => ∃ (x5_1 : Int), v5 = .int .i64 x5_1 ∧ Aside0 (jobshellref05_has.l0 kq l0 a1 x5_1 = some r) ∧ Aside0 (kq ≤ k) ∧ Drawn0 w w')
 case atStart => exact ⟨(0), (by first | rfl | (simp; done) | (simp [*]; done)), H', ⟨Nat.le_refl _⟩, by repeat (first | exact Drawn0.refl _ | apply Drawn0.step)⟩
 case round =>
  clear H'
  try clear p2
  obtain ⟨x5_1, rfl, HA, HK1, ⟨m1, rfl⟩⟩ := hrel
  cases gk with
  | zero => exact absurd HA.out (by simp [jobshellref05_has.l0])
  | succ k1 =>
   have H := HA.out
   clear HA
   simp only [jobshellref05_has.l0] at H
   by_cases c3 : x5_1 < (l0.length : Int)
   ·rw [if_pos c3] at H
    have c3b0 : decide (x5_1 < (l0.length : Int)) = true := decide_eq_true c3
    clear c3
    by_cases c4 : 0 ≤ x5_1
    ·rw [if_pos c4] at H
     have c4b0 : decide (0 ≤ x5_1) = true := decide_eq_true c4
     clear c4
     by_cases c5 : (rdOf ByteArray.empty l0 x5_1).toList = a1.toList
     ·rw [if_pos c5] at H
      have c5b0 : ((rdOf ByteArray.empty l0 x5_1).toList == a1.toList) = true := beq_iff_eq.mpr c5
      have c5b1 : ((rdOf ByteArray.empty l0 x5_1).toList != a1.toList) = false := bne_eq_false_iff_eq.mpr c5
      clear c5
      obtain rfl := Option.some.inj H
      have p294 : 0 ≤ (x5_1 : Int) := of_decide_eq_true (by first | (with_reducible assumption) | assumption)
      have q294 : x5_1 < (l0.length : Int) := of_decide_eq_true (by first | (with_reducible assumption) | assumption)
      obtain ⟨ad294, e294, hx294_0⟩ := Kd.at_string HR0.out x5_1 p294 q294
      cases e294
      replace p294 := eq_true p294
      replace q294 := eq_true q294
      go_wp2
      go_ret
      exact ⟨by first | rfl | (simp; done) | (simp [*]; done), by repeat (first | exact Drawn0.refl _ | apply Drawn0.step)⟩
     ·rw [if_neg c5] at H
      have c5b0 : ((rdOf ByteArray.empty l0 x5_1).toList == a1.toList) = false := beq_eq_false_iff_ne.mpr c5
      have c5b1 : ((rdOf ByteArray.empty l0 x5_1).toList != a1.toList) = true := bne_iff_ne.mpr c5
      have H' := Aside0.mk H
      clear H
      have p294 : 0 ≤ (x5_1 : Int) := of_decide_eq_true (by first | (with_reducible assumption) | assumption)
      have q294 : x5_1 < (l0.length : Int) := of_decide_eq_true (by first | (with_reducible assumption) | assumption)
      obtain ⟨ad294, e294, hx294_0⟩ := Kd.at_string HR0.out x5_1 p294 q294
      cases e294
      replace p294 := eq_true p294
      replace q294 := eq_true q294
      go_wp2
      go_roundg k1
      case measure => have := HK1.out; omega
      case rel => exact ⟨(wrap64 (x5_1 + 1)), (by first | rfl | (simp; done) | (simp [*]; done)), H', ⟨by have := HK1.out; omega⟩, by repeat (first | exact Drawn0.refl _ | apply Drawn0.step)⟩
    ·rw [if_neg c4] at H
     exact absurd H (by simp)
   ·rw [if_neg c3] at H
    have c3b0 : decide (x5_1 < (l0.length : Int)) = false := decide_eq_false c3
    clear c3
    obtain rfl := Option.some.inj H
    go_wp2
    go_ret
    exact ⟨by first | rfl | (simp; done) | (simp [*]; done), by repeat (first | exact Drawn0.refl _ | apply Drawn0.step)⟩
end Go.Proofs.YtglmdfddgmkmaaaDoor.Q
end
section
namespace Go.Proofs.YtglmdfddgmkmaaaDoor.Q
open Go.RowKit Go.Proofs.YtglmdfddgmkmaaaDoorW.PrintWords Go.Proofs.YtglmdfddgmkmaaaDoorW.PrintLast Go.Proofs.YtglmdfddgmkmaaaDoorW.PrintMore
attribute [local go_sem] max2_int min2_int max_two min_two max_three min_three max_four min_four
set_option linter.unusedVariables false
set_option linter.unusedSimpArgs false
def jobshelllaw05_ArithValid.f (k : Nat) (a0_0 : Int) (a0_1 : Int) (a0_2 : ByteArray) (l0_3 : List (S26)) : Option (Bool) := (jobshellref05_Small.f k a0_0 a0_1 a0_2 l0_3 60).bind fun t248 => (if t248 = true then ((arith_Valid.f k a0_0 a0_1 a0_2 l0_3).bind fun t249 => ((jobshellref05_Valid.f k a0_0 a0_1 a0_2 l0_3).bind fun t250 => (if t249 = t250 then ((jobshelllaw05_awake.f k).bind fun t251 => (some t251)) else (some false)))) else ((jobshelllaw05_awake.f k).bind fun t252 => (some t252)))
theorem jobshelllaw05_ArithValid.mono : ∀ a0 a1 a2 a3 k, LeO (jobshelllaw05_ArithValid.f k a0 a1 a2 a3) (jobshelllaw05_ArithValid.f (k + 1) a0 a1 a2 a3) := by
 intro a0 a1 a2 a3 k
 unfold jobshelllaw05_ArithValid.f
 repeat' first
  | (with_reducible exact arith_Valid.mono _ _ _ _ _)
  | (with_reducible exact jobshelllaw05_awake.mono _)
  | (with_reducible exact jobshellref05_Small.mono _ _ _ _ _ _)
  | (with_reducible exact jobshellref05_Valid.mono _ _ _ _ _)
  | (with_reducible exact LeO.refl _)
  | (with_reducible exact LeO.none _)
  | (with_reducible refine LeO.ite ?_ ?_)
  | (with_reducible refine LeO.bind ?_ (fun _ => ?_))
  | exact arith_Valid.mono _ _ _ _ _
  | exact jobshelllaw05_awake.mono _
  | exact jobshellref05_Small.mono _ _ _ _ _ _
  | exact jobshellref05_Valid.mono _ _ _ _ _
  | exact LeO.none _
  | refine LeO.ite ?_ ?_
  | refine LeO.bind ?_ (fun _ => ?_)
def jobshelllaw05_ArithValid.T3 : Bool × List (List Nat × List Nat) := (true, [([], []), ([0], [0]), ([], []), ([2, 1], [2]), ([1, 3], [1, 3]), ([4, 3], [4]), ([5, 5], [5]), ([5, 6], [5, 6]), ([7, 6, 0, 1, 2, 3, 4, 5, 6, 7], [7])])
def jobshelllaw05_ArithValid.B3 : List Nat := [0, 1, 0, 7, 15, 31, 63, 127, 255]
theorem jobshelllaw05_ArithValid.tab3 : rtab .any (opsOf Tryd.f5 3) = jobshelllaw05_ArithValid.T3 := by kernel_rfl
theorem jobshelllaw05_ArithValid.bits3 : waitsOk jobshelllaw05_ArithValid.T3.2 jobshelllaw05_ArithValid.B3 = true := by kernel_rfl
set_option maxHeartbeats 8000000 in
set_option maxRecDepth 100000 in
theorem jobshelllaw05_ArithValid.calls (k : Nat) (a0_0 : Int) (a0_1 : Int) (a0_2 : ByteArray) (A0_3 : Option Addr) (c0_3 : Nat) (l0_3 : List (S26)) (r : Bool) (w : World) (hr0_3 : Kd.C k26 w A0_3 l0_3.length l0_3) (hc0_3 : l0_3.length ≤ c0_3) (h : jobshelllaw05_ArithValid.f k a0_0 a0_1 a0_2 l0_3 = some r) (hT : Laid w := by first | assumption | exact HT.out | exact Laid.below HT.out (by repeat (first | (with_reducible first | exact HB.out | apply below_alloc | apply pw_below_drewN | apply below_drew1 | refine below_set ?_ (Aside0.out (by assumption))) | exact HB.out))) :
 Calls Tryd.prog 5 #[.agg #[.int .i64 a0_0, .int .i64 a0_1, .string a0_2, .slice A0_3 l0_3.length c0_3]] w fun e w' => e = .returned (.bool r) ∧ Below w.heap.size w w' := by
 have hu26 := Tryd.underlying26
 have HR0_3 := Aside0.mk hr0_3
 have HC0_3 := Aside0.mk hc0_3
 clear hr0_3 hc0_3
 have HB := Aside0.mk (Below.refl w.heap.size w)
 have HT : Aside0 (Laid w) := Aside0.mk hT
 clear hT
 have H : ((jobshellref05_Small.f k a0_0 a0_1 a0_2 l0_3 60).bind fun t248 => (if t248 = true then ((arith_Valid.f k a0_0 a0_1 a0_2 l0_3).bind fun t249 => ((jobshellref05_Valid.f k a0_0 a0_1 a0_2 l0_3).bind fun t250 => (if t249 = t250 then ((jobshelllaw05_awake.f k).bind fun t251 => (some t251)) else (some false)))) else ((jobshelllaw05_awake.f k).bind fun t252 => (some t252)))) = some r := h
 clear h
 replace H := Option.bind_eq_some_iff.mp H
 obtain ⟨t248, A20, H⟩ := H
 replace H : (if t248 = true then ((arith_Valid.f k a0_0 a0_1 a0_2 l0_3).bind fun t249 => ((jobshellref05_Valid.f k a0_0 a0_1 a0_2 l0_3).bind fun t250 => (if t249 = t250 then ((jobshelllaw05_awake.f k).bind fun t251 => (some t251)) else (some false)))) else ((jobshelllaw05_awake.f k).bind fun t252 => (some t252))) = some r := H
 have A2 := Aside0.mk A20
 clear A20
 by_cases c3 : t248 = true
 ·subst c3
  have H1 : ((arith_Valid.f k a0_0 a0_1 a0_2 l0_3).bind fun t249 => ((jobshellref05_Valid.f k a0_0 a0_1 a0_2 l0_3).bind fun t250 => (if t249 = t250 then ((jobshelllaw05_awake.f k).bind fun t251 => (some t251)) else (some false)))) = some r := by rw [if_pos rfl] at H; exact H
  clear H
  have H := H1
  clear H1
  replace H := Option.bind_eq_some_iff.mp H
  obtain ⟨t249, A40, H⟩ := H
  replace H : ((jobshellref05_Valid.f k a0_0 a0_1 a0_2 l0_3).bind fun t250 => (if t249 = t250 then ((jobshelllaw05_awake.f k).bind fun t251 => (some t251)) else (some false))) = some r := H
  have A4 := Aside0.mk A40
  clear A40
  replace H := Option.bind_eq_some_iff.mp H
  obtain ⟨t250, A50, H⟩ := H
  replace H : (if t249 = t250 then ((jobshelllaw05_awake.f k).bind fun t251 => (some t251)) else (some false)) = some r := H
  have A5 := Aside0.mk A50
  clear A50
  by_cases c6 : t249 = t250
  ·rw [if_pos c6] at H
   have c6b0 : (t249 == t250) = true := beq_iff_eq.mpr c6
   have c6b1 : (t249 != t250) = false := bne_eq_false_iff_eq.mpr c6
   clear c6
   replace H := Option.bind_eq_some_iff.mp H
   obtain ⟨t251, A70, H⟩ := H
   replace H : (some t251) = some r := H
   have A7 := Aside0.mk A70
   clear A70
   obtain rfl := Option.some.inj H
   go_enter Tryd.func5, Tryd.ntmps5
   try go_wp2_with (first | ((with_reducible refine gate_dst (N := 1) rfl ?_); refine box_event ?hg (N := 1) ?hd (cs := #[.int .i64 a0_0, .int .i64 a0_1, .string a0_2, .slice A0_3 l0_3.length c0_3]) (t := 26) ?hr ?_; (case hd => rfl); (case hg => rfl); (case hr => first | (go_simp; done) | (go_simp; rfl)); intro gb247 hg w8 hbox hb; have n0_ := Aside0.mk (below_step (by repeat (first | (with_reducible first | exact HB.out | apply below_alloc | apply pw_below_drewN | apply below_drew1) | exact HB.out)) hb); have n1_ := Aside0.mk (hbox); have n2_ := Aside0.mk ((by rw [hg]; exact (below_size (by repeat (first | (with_reducible first | exact HB.out | apply below_alloc | apply pw_below_drewN | apply below_drew1) | exact HB.out))) : w.heap.size ≤ gb247)); have n3_ := Aside0.mk ((by rw [hg]; exact (below_size (by repeat (first | (with_reducible first | exact HB.out | apply below_alloc | apply pw_below_drewN | apply below_drew1) | exact HB.out))) : w.heap.size ≤ gb247)); clear HB; have HB := n0_; have BK247 := n1_; have GW247 := n2_; have GE247 := n3_; clear n0_ n1_ n2_ n3_; clear hb hbox hg; have hcz9_0 : w8.cell? ⟨gb247, 0, none⟩ = some (.int .i64 a0_0) := (blk_cell BK247.out 0).trans rfl; have hcz9_1 : w8.cell? ⟨gb247, 1, none⟩ = some (.int .i64 a0_1) := (blk_cell BK247.out 1).trans rfl; have hcz9_2 : w8.cell? ⟨gb247, 2, none⟩ = some (.string a0_2) := (blk_cell BK247.out 2).trans rfl; have hcz9_3 : w8.cell? ⟨gb247, 3, none⟩ = some (.slice A0_3 l0_3.length c0_3) := (blk_cell BK247.out 3).trans rfl; have hfz9_0 := blk_frozen BK247.out 0; have hfz9_1 := blk_frozen BK247.out 1; have hfz9_2 := blk_frozen BK247.out 2; have hfz9_3 := blk_frozen BK247.out 3) | ((with_reducible refine gate_callee (f := 21) rfl ?_); refine goesL_ (some 4) rfl rfl Tryd.func21 (by kernel_rfl) rfl #[.agg #[.int .i64 a0_0, .int .i64 a0_1, .string a0_2, .slice A0_3 l0_3.length c0_3], .int .i64 60] rfl (by (try simp only [List.map_toArray, List.map_cons, List.map_nil]); first | done | rfl | (simp only [List.length_drop, List.length_take]; rfl)) ?_; (with_reducible refine (jobshellref05_Small.calls k a0_0 a0_1 a0_2 _ _ l0_3 60 true _ ?side1 ?side2 A2.out).mono ?_); (case side1 => repeat (first | exact (Kd.C_below HR0_3.out HB.out) | (with_reducible refine Kd.C_alloc ?_ _) | (with_reducible refine Kd.C_drewN ?_ _) | (with_reducible refine Kd.C_drew ?_))); (case side2 => exact HC0_3.out); rintro e w10 ⟨rfl, hb⟩; refine ⟨_, rfl, ?_⟩; have n0_ := Aside0.mk (blk_below (g := gb247) (o := .cells #[.int .i64 a0_0, .int .i64 a0_1, .string a0_2, .slice A0_3 l0_3.length c0_3] 26 (0, 0)) (by (with_reducible repeat (first | refine blk_drewN ?_ _ | refine blk_drew ?_ | refine blk_alloc ?_ _)); exact BK247.out) hb); have n1_ := Aside0.mk (below_step (by repeat (first | (with_reducible first | exact HB.out | apply below_alloc | apply pw_below_drewN | apply below_drew1 | refine below_set ?_ GE247.out) | exact HB.out)) hb); clear BK247; clear HB; have BK247 := n0_; have HB := n1_; clear n0_ n1_; (try clear hb); (try clear hb2); (try clear hk); (try clear hi)))
   have n0_ := Aside0.mk (blk_drew BK247.out)
   have n1_ := Aside0.mk (below_drew1 HB.out)
   clear BK247
   clear HB
   have BK247 := n0_
   have HB := n1_
   clear n0_ n1_
   refine start_ (n := 9) (S := fun w' => w'.cell? ⟨gb247, 0, none⟩ = some (.int .i64 a0_0) ∧ w'.cell? ⟨gb247, 1, none⟩ = some (.int .i64 a0_1) ∧ w'.cell? ⟨gb247, 2, none⟩ = some (.string a0_2) ∧ w'.cell? ⟨gb247, 3, none⟩ = some (.slice A0_3 l0_3.length c0_3)) (ds := []) #[false, false, false, false, false, false, false, false, false] (by kernel_rfl) rfl rfl ⟨(blk_cell BK247.out 0).trans rfl, (blk_cell BK247.out 1).trans rfl, (blk_cell BK247.out 2).trans rfl, (blk_cell BK247.out 3).trans rfl⟩ (fun hHeld => ?_); refine with_tabW jobshelllaw05_ArithValid.tab3 jobshelllaw05_ArithValid.bits3 (fun HT_ HW_ => ?_)
   generalize w10.drew = w11 at BK247 HB hHeld ⊢
   refine take_ (i := 0) (N := some 7) (v := ?_) (a' := ?_) #[true, false, false, false, false, false, false, false, false] rfl rfl (take_ofW HT_.out HW_.out (by kernel_rfl)) (fun _ _ _ h => h) (Or.inl ⟨by rfl, ?_⟩) hHeld ?_ ?_
   rotate_left
   ·rintro w' ⟨s0, s1, s2, s3⟩
    go_simp
    with_reducible rfl
   rotate_left
   ·simp only [Act.put, List.setIfInBounds_toArray, List.set_cons_zero, List.set_cons_succ, i64_w, i32_w]
    rfl
   refine take_ (i := 2) (N := some 9) (v := ?_) (a' := ?_) #[true, false, true, false, false, false, false, false, false] rfl rfl (take_ofW HT_.out HW_.out (by kernel_rfl)) (fun _ _ _ h => h) (Or.inl ⟨by rfl, ?_⟩) hHeld ?_ ?_
   rotate_left
   ·rintro w' ⟨s0, s1, s2, s3⟩
    go_simp
    with_reducible rfl
   rotate_left
   ·simp only [Act.put, List.setIfInBounds_toArray, List.set_cons_zero, List.set_cons_succ, i64_w, i32_w]
    rfl
   refine one_ (i := 1) (N := some 8) #[true, true, true, false, false, false, false, false, false] rfl rfl (one_of HT_.out (by kernel_rfl)) (by decide) (fun K hK => ?_)
   refine goes_ Tryd.func24 (by kernel_rfl) rfl #[.agg #[.int .i64 a0_0, .int .i64 a0_1, .string a0_2, .slice A0_3 l0_3.length c0_3]] (by rfl) rfl rfl (by (try simp only [List.map_toArray, List.map_cons, List.map_nil]); first | done | rfl | (simp only [List.length_drop, List.length_take]; rfl)) ?_
   with_reducible refine (arith_Valid.calls k a0_0 a0_1 a0_2 _ _ l0_3 t249 _ ?side1 ?side2 A4.out).mono ?_
   (case side1 => repeat (first | exact (Kd.C_below HR0_3.out HB.out) | (with_reducible refine Kd.C_alloc ?_ _) | (with_reducible refine Kd.C_drewN ?_ _) | (with_reducible refine Kd.C_drew ?_)))
   (case side2 => exact HC0_3.out)
   rintro e w12 ⟨rfl, hb⟩
   refine ⟨_, rfl, ?_⟩
   have n0_ := Aside0.mk (blk_below (g := gb247) (o := .cells #[.int .i64 a0_0, .int .i64 a0_1, .string a0_2, .slice A0_3 l0_3.length c0_3] 26 (0, 0)) (by (with_reducible repeat (first | refine blk_drewN ?_ _ | refine blk_drew ?_ | refine blk_alloc ?_ _)); exact BK247.out) hb)
   have n1_ := Aside0.mk (below_step (by repeat (first | (with_reducible first | exact HB.out | apply below_alloc | apply pw_below_drewN | apply below_drew1 | refine below_set ?_ GE247.out) | exact HB.out)) hb)
   clear BK247
   clear HB
   have BK247 := n0_
   have HB := n1_
   clear n0_ n1_
   (try clear hb)
   (try clear hb2)
   (try clear hk)
   (try clear hi)
   refine hK.out _ _ ⟨(blk_cell BK247.out 0).trans rfl, (blk_cell BK247.out 1).trans rfl, (blk_cell BK247.out 2).trans rfl, (blk_cell BK247.out 3).trans rfl⟩ (fun hHeld => ?_)
   clear hK K
   refine norm_ (a' := ?_) ?_ ?_
   rotate_left
   ·show Act.put _ (some 8) _ = _
    simp only [Act.put, List.setIfInBounds_toArray, List.set_cons_zero, List.set_cons_succ, i64_w, i32_w]
    rfl
   refine one_ (i := 3) (N := some 10) #[true, true, true, true, false, false, false, false, false] rfl rfl (one_of HT_.out (by kernel_rfl)) (by decide) (fun K hK => ?_)
   refine goes_ Tryd.func25 (by kernel_rfl) rfl #[.agg #[.int .i64 a0_0, .int .i64 a0_1, .string a0_2, .slice A0_3 l0_3.length c0_3]] (by rfl) rfl rfl (by (try simp only [List.map_toArray, List.map_cons, List.map_nil]); first | done | rfl | (simp only [List.length_drop, List.length_take]; rfl)) ?_
   with_reducible refine (jobshellref05_Valid.calls k a0_0 a0_1 a0_2 _ _ l0_3 t250 _ ?side1 ?side2 A5.out).mono ?_
   (case side1 => repeat (first | exact (Kd.C_below HR0_3.out HB.out) | (with_reducible refine Kd.C_alloc ?_ _) | (with_reducible refine Kd.C_drewN ?_ _) | (with_reducible refine Kd.C_drew ?_)))
   (case side2 => exact HC0_3.out)
   rintro e w13 ⟨rfl, hb⟩
   refine ⟨_, rfl, ?_⟩
   have n0_ := Aside0.mk (blk_below (g := gb247) (o := .cells #[.int .i64 a0_0, .int .i64 a0_1, .string a0_2, .slice A0_3 l0_3.length c0_3] 26 (0, 0)) (by (with_reducible repeat (first | refine blk_drewN ?_ _ | refine blk_drew ?_ | refine blk_alloc ?_ _)); exact BK247.out) hb)
   have n1_ := Aside0.mk (below_step (by repeat (first | (with_reducible first | exact HB.out | apply below_alloc | apply pw_below_drewN | apply below_drew1 | refine below_set ?_ GE247.out) | exact HB.out)) hb)
   clear BK247
   clear HB
   have BK247 := n0_
   have HB := n1_
   clear n0_ n1_
   (try clear hb)
   (try clear hb2)
   (try clear hk)
   (try clear hi)
   refine hK.out _ _ ⟨(blk_cell BK247.out 0).trans rfl, (blk_cell BK247.out 1).trans rfl, (blk_cell BK247.out 2).trans rfl, (blk_cell BK247.out 3).trans rfl⟩ (fun hHeld => ?_)
   clear hK K
   refine norm_ (a' := ?_) ?_ ?_
   rotate_left
   ·show Act.put _ (some 10) _ = _
    simp only [Act.put, List.setIfInBounds_toArray, List.set_cons_zero, List.set_cons_succ, i64_w, i32_w]
    rfl
   refine pure_ (i := 4) (N := some 11) (v := ?_) (a' := ?_) #[true, true, true, true, true, false, false, false, false] rfl rfl (any_of HT_.out (by kernel_rfl)) (fun _ _ _ h => h) (Or.inl ⟨by rfl, ?_⟩) ?_ ?_
   rotate_left
   ·intro w'
    go_simp
    with_reducible rfl
   rotate_left
   ·simp only [Act.put, List.setIfInBounds_toArray, List.set_cons_zero, List.set_cons_succ, i64_w, i32_w]
    rfl
   refine pure_ (i := 5) (N := some 12) (v := ?_) (a' := ?_) #[true, true, true, true, true, true, false, false, false] rfl rfl (any_of HT_.out (by kernel_rfl)) (fun _ _ _ h => h) (Or.inl ⟨by rfl, ?_⟩) ?_ ?_
   rotate_left
   ·intro w'
    go_simp
    with_reducible rfl
   rotate_left
   ·simp only [Act.put, List.setIfInBounds_toArray, List.set_cons_zero, List.set_cons_succ, i64_w, i32_w]
    rfl
   refine one_ (i := 6) (N := some 13) #[true, true, true, true, true, true, true, false, false] rfl rfl (one_of HT_.out (by kernel_rfl)) (by decide) (fun K hK => ?_)
   refine goes_ Tryd.func17 (by kernel_rfl) rfl #[] (by rfl) rfl rfl (by (try simp only [List.map_toArray, List.map_cons, List.map_nil]); first | done | rfl | (simp only [List.length_drop, List.length_take]; rfl)) ?_
   with_reducible refine (jobshelllaw05_awake.calls k  t251 _ A7.out).mono ?_
   rintro e w14 ⟨rfl, hb⟩
   refine ⟨_, rfl, ?_⟩
   have n0_ := Aside0.mk (blk_below (g := gb247) (o := .cells #[.int .i64 a0_0, .int .i64 a0_1, .string a0_2, .slice A0_3 l0_3.length c0_3] 26 (0, 0)) (by (with_reducible repeat (first | refine blk_drewN ?_ _ | refine blk_drew ?_ | refine blk_alloc ?_ _)); exact BK247.out) hb)
   have n1_ := Aside0.mk (below_step (by repeat (first | (with_reducible first | exact HB.out | apply below_alloc | apply pw_below_drewN | apply below_drew1 | refine below_set ?_ GE247.out) | exact HB.out)) hb)
   clear BK247
   clear HB
   have BK247 := n0_
   have HB := n1_
   clear n0_ n1_
   (try clear hb)
   (try clear hb2)
   (try clear hk)
   (try clear hi)
   refine hK.out _ _ ⟨(blk_cell BK247.out 0).trans rfl, (blk_cell BK247.out 1).trans rfl, (blk_cell BK247.out 2).trans rfl, (blk_cell BK247.out 3).trans rfl⟩ (fun hHeld => ?_)
   clear hK K
   refine norm_ (a' := ?_) ?_ ?_
   rotate_left
   ·show Act.put _ (some 13) _ = _
    simp only [Act.put, List.setIfInBounds_toArray, List.set_cons_zero, List.set_cons_succ, i64_w, i32_w]
    rfl
   refine pure_ (i := 7) (N := some 14) (v := ?_) (a' := ?_) #[true, true, true, true, true, true, true, true, false] rfl rfl (any_of HT_.out (by kernel_rfl)) (fun _ _ _ h => h) (Or.inl ⟨by rfl, ?_⟩) ?_ ?_
   rotate_left
   ·intro w'
    go_simp
    with_reducible rfl
   rotate_left
   ·simp only [Act.put, List.setIfInBounds_toArray, List.set_cons_zero, List.set_cons_succ, i64_w, i32_w]
    rfl
   refine pure_ (i := 8) (N := some 2) (v := ?_) (a' := ?_) #[true, true, true, true, true, true, true, true, true] rfl rfl (any_of HT_.out (by kernel_rfl)) (fun _ _ _ h => h) (Or.inl ⟨by rfl, ?_⟩) ?_ ?_
   rotate_left
   ·intro w'
    go_simp
    with_reducible rfl
   rotate_left
   ·simp only [Act.put, List.setIfInBounds_toArray, List.set_cons_zero, List.set_cons_succ, i64_w, i32_w]
    rfl
   refine done_ (done_of HT_.out (by kernel_rfl)) ?_
   try go_wp2
   go_ret
   exact ⟨by first | rfl | (simp [errW_none, errW_some] <;> rfl) | (simp [*, errW_none, errW_some] <;> rfl), by repeat (first | (with_reducible first | exact HB.out | apply below_alloc | apply pw_below_drewN | apply below_drew1 | refine below_set ?_ GE247.out) | exact HB.out)⟩
  ·rw [if_neg c6] at H
   have c6b0 : (t249 == t250) = false := beq_eq_false_iff_ne.mpr c6
   have c6b1 : (t249 != t250) = true := bne_iff_ne.mpr c6
   obtain rfl := Option.some.inj H
   go_enter Tryd.func5, Tryd.ntmps5
   try go_wp2_with (first | ((with_reducible refine gate_dst (N := 1) rfl ?_); refine box_event ?hg (N := 1) ?hd (cs := #[.int .i64 a0_0, .int .i64 a0_1, .string a0_2, .slice A0_3 l0_3.length c0_3]) (t := 26) ?hr ?_; (case hd => rfl); (case hg => rfl); (case hr => first | (go_simp; done) | (go_simp; rfl)); intro gb247 hg w15 hbox hb; have n0_ := Aside0.mk (below_step (by repeat (first | (with_reducible first | exact HB.out | apply below_alloc | apply pw_below_drewN | apply below_drew1) | exact HB.out)) hb); have n1_ := Aside0.mk (hbox); have n2_ := Aside0.mk ((by rw [hg]; exact (below_size (by repeat (first | (with_reducible first | exact HB.out | apply below_alloc | apply pw_below_drewN | apply below_drew1) | exact HB.out))) : w.heap.size ≤ gb247)); have n3_ := Aside0.mk ((by rw [hg]; exact (below_size (by repeat (first | (with_reducible first | exact HB.out | apply below_alloc | apply pw_below_drewN | apply below_drew1) | exact HB.out))) : w.heap.size ≤ gb247)); clear HB; have HB := n0_; have BK247 := n1_; have GW247 := n2_; have GE247 := n3_; clear n0_ n1_ n2_ n3_; clear hb hbox hg; have hcz16_0 : w15.cell? ⟨gb247, 0, none⟩ = some (.int .i64 a0_0) := (blk_cell BK247.out 0).trans rfl; have hcz16_1 : w15.cell? ⟨gb247, 1, none⟩ = some (.int .i64 a0_1) := (blk_cell BK247.out 1).trans rfl; have hcz16_2 : w15.cell? ⟨gb247, 2, none⟩ = some (.string a0_2) := (blk_cell BK247.out 2).trans rfl; have hcz16_3 : w15.cell? ⟨gb247, 3, none⟩ = some (.slice A0_3 l0_3.length c0_3) := (blk_cell BK247.out 3).trans rfl; have hfz16_0 := blk_frozen BK247.out 0; have hfz16_1 := blk_frozen BK247.out 1; have hfz16_2 := blk_frozen BK247.out 2; have hfz16_3 := blk_frozen BK247.out 3) | ((with_reducible refine gate_callee (f := 21) rfl ?_); refine goesL_ (some 4) rfl rfl Tryd.func21 (by kernel_rfl) rfl #[.agg #[.int .i64 a0_0, .int .i64 a0_1, .string a0_2, .slice A0_3 l0_3.length c0_3], .int .i64 60] rfl (by (try simp only [List.map_toArray, List.map_cons, List.map_nil]); first | done | rfl | (simp only [List.length_drop, List.length_take]; rfl)) ?_; (with_reducible refine (jobshellref05_Small.calls k a0_0 a0_1 a0_2 _ _ l0_3 60 true _ ?side1 ?side2 A2.out).mono ?_); (case side1 => repeat (first | exact (Kd.C_below HR0_3.out HB.out) | (with_reducible refine Kd.C_alloc ?_ _) | (with_reducible refine Kd.C_drewN ?_ _) | (with_reducible refine Kd.C_drew ?_))); (case side2 => exact HC0_3.out); rintro e w17 ⟨rfl, hb⟩; refine ⟨_, rfl, ?_⟩; have n0_ := Aside0.mk (blk_below (g := gb247) (o := .cells #[.int .i64 a0_0, .int .i64 a0_1, .string a0_2, .slice A0_3 l0_3.length c0_3] 26 (0, 0)) (by (with_reducible repeat (first | refine blk_drewN ?_ _ | refine blk_drew ?_ | refine blk_alloc ?_ _)); exact BK247.out) hb); have n1_ := Aside0.mk (below_step (by repeat (first | (with_reducible first | exact HB.out | apply below_alloc | apply pw_below_drewN | apply below_drew1 | refine below_set ?_ GE247.out) | exact HB.out)) hb); clear BK247; clear HB; have BK247 := n0_; have HB := n1_; clear n0_ n1_; (try clear hb); (try clear hb2); (try clear hk); (try clear hi)))
   have n0_ := Aside0.mk (blk_drew BK247.out)
   have n1_ := Aside0.mk (below_drew1 HB.out)
   clear BK247
   clear HB
   have BK247 := n0_
   have HB := n1_
   clear n0_ n1_
   refine start_ (n := 9) (S := fun w' => w'.cell? ⟨gb247, 0, none⟩ = some (.int .i64 a0_0) ∧ w'.cell? ⟨gb247, 1, none⟩ = some (.int .i64 a0_1) ∧ w'.cell? ⟨gb247, 2, none⟩ = some (.string a0_2) ∧ w'.cell? ⟨gb247, 3, none⟩ = some (.slice A0_3 l0_3.length c0_3)) (ds := []) #[false, false, false, false, false, false, false, false, false] (by kernel_rfl) rfl rfl ⟨(blk_cell BK247.out 0).trans rfl, (blk_cell BK247.out 1).trans rfl, (blk_cell BK247.out 2).trans rfl, (blk_cell BK247.out 3).trans rfl⟩ (fun hHeld => ?_); refine with_tabW jobshelllaw05_ArithValid.tab3 jobshelllaw05_ArithValid.bits3 (fun HT_ HW_ => ?_)
   generalize w17.drew = w18 at BK247 HB hHeld ⊢
   refine take_ (i := 0) (N := some 7) (v := ?_) (a' := ?_) #[true, false, false, false, false, false, false, false, false] rfl rfl (take_ofW HT_.out HW_.out (by kernel_rfl)) (fun _ _ _ h => h) (Or.inl ⟨by rfl, ?_⟩) hHeld ?_ ?_
   rotate_left
   ·rintro w' ⟨s0, s1, s2, s3⟩
    go_simp
    with_reducible rfl
   rotate_left
   ·simp only [Act.put, List.setIfInBounds_toArray, List.set_cons_zero, List.set_cons_succ, i64_w, i32_w]
    rfl
   refine take_ (i := 2) (N := some 9) (v := ?_) (a' := ?_) #[true, false, true, false, false, false, false, false, false] rfl rfl (take_ofW HT_.out HW_.out (by kernel_rfl)) (fun _ _ _ h => h) (Or.inl ⟨by rfl, ?_⟩) hHeld ?_ ?_
   rotate_left
   ·rintro w' ⟨s0, s1, s2, s3⟩
    go_simp
    with_reducible rfl
   rotate_left
   ·simp only [Act.put, List.setIfInBounds_toArray, List.set_cons_zero, List.set_cons_succ, i64_w, i32_w]
    rfl
   refine one_ (i := 1) (N := some 8) #[true, true, true, false, false, false, false, false, false] rfl rfl (one_of HT_.out (by kernel_rfl)) (by decide) (fun K hK => ?_)
   refine goes_ Tryd.func24 (by kernel_rfl) rfl #[.agg #[.int .i64 a0_0, .int .i64 a0_1, .string a0_2, .slice A0_3 l0_3.length c0_3]] (by rfl) rfl rfl (by (try simp only [List.map_toArray, List.map_cons, List.map_nil]); first | done | rfl | (simp only [List.length_drop, List.length_take]; rfl)) ?_
   with_reducible refine (arith_Valid.calls k a0_0 a0_1 a0_2 _ _ l0_3 t249 _ ?side1 ?side2 A4.out).mono ?_
   (case side1 => repeat (first | exact (Kd.C_below HR0_3.out HB.out) | (with_reducible refine Kd.C_alloc ?_ _) | (with_reducible refine Kd.C_drewN ?_ _) | (with_reducible refine Kd.C_drew ?_)))
   (case side2 => exact HC0_3.out)
   rintro e w19 ⟨rfl, hb⟩
   refine ⟨_, rfl, ?_⟩
   have n0_ := Aside0.mk (blk_below (g := gb247) (o := .cells #[.int .i64 a0_0, .int .i64 a0_1, .string a0_2, .slice A0_3 l0_3.length c0_3] 26 (0, 0)) (by (with_reducible repeat (first | refine blk_drewN ?_ _ | refine blk_drew ?_ | refine blk_alloc ?_ _)); exact BK247.out) hb)
   have n1_ := Aside0.mk (below_step (by repeat (first | (with_reducible first | exact HB.out | apply below_alloc | apply pw_below_drewN | apply below_drew1 | refine below_set ?_ GE247.out) | exact HB.out)) hb)
   clear BK247
   clear HB
   have BK247 := n0_
   have HB := n1_
   clear n0_ n1_
   (try clear hb)
   (try clear hb2)
   (try clear hk)
   (try clear hi)
   refine hK.out _ _ ⟨(blk_cell BK247.out 0).trans rfl, (blk_cell BK247.out 1).trans rfl, (blk_cell BK247.out 2).trans rfl, (blk_cell BK247.out 3).trans rfl⟩ (fun hHeld => ?_)
   clear hK K
   refine norm_ (a' := ?_) ?_ ?_
   rotate_left
   ·show Act.put _ (some 8) _ = _
    simp only [Act.put, List.setIfInBounds_toArray, List.set_cons_zero, List.set_cons_succ, i64_w, i32_w]
    rfl
   refine one_ (i := 3) (N := some 10) #[true, true, true, true, false, false, false, false, false] rfl rfl (one_of HT_.out (by kernel_rfl)) (by decide) (fun K hK => ?_)
   refine goes_ Tryd.func25 (by kernel_rfl) rfl #[.agg #[.int .i64 a0_0, .int .i64 a0_1, .string a0_2, .slice A0_3 l0_3.length c0_3]] (by rfl) rfl rfl (by (try simp only [List.map_toArray, List.map_cons, List.map_nil]); first | done | rfl | (simp only [List.length_drop, List.length_take]; rfl)) ?_
   with_reducible refine (jobshellref05_Valid.calls k a0_0 a0_1 a0_2 _ _ l0_3 t250 _ ?side1 ?side2 A5.out).mono ?_
   (case side1 => repeat (first | exact (Kd.C_below HR0_3.out HB.out) | (with_reducible refine Kd.C_alloc ?_ _) | (with_reducible refine Kd.C_drewN ?_ _) | (with_reducible refine Kd.C_drew ?_)))
   (case side2 => exact HC0_3.out)
   rintro e w20 ⟨rfl, hb⟩
   refine ⟨_, rfl, ?_⟩
   have n0_ := Aside0.mk (blk_below (g := gb247) (o := .cells #[.int .i64 a0_0, .int .i64 a0_1, .string a0_2, .slice A0_3 l0_3.length c0_3] 26 (0, 0)) (by (with_reducible repeat (first | refine blk_drewN ?_ _ | refine blk_drew ?_ | refine blk_alloc ?_ _)); exact BK247.out) hb)
   have n1_ := Aside0.mk (below_step (by repeat (first | (with_reducible first | exact HB.out | apply below_alloc | apply pw_below_drewN | apply below_drew1 | refine below_set ?_ GE247.out) | exact HB.out)) hb)
   clear BK247
   clear HB
   have BK247 := n0_
   have HB := n1_
   clear n0_ n1_
   (try clear hb)
   (try clear hb2)
   (try clear hk)
   (try clear hi)
   refine hK.out _ _ ⟨(blk_cell BK247.out 0).trans rfl, (blk_cell BK247.out 1).trans rfl, (blk_cell BK247.out 2).trans rfl, (blk_cell BK247.out 3).trans rfl⟩ (fun hHeld => ?_)
   clear hK K
   refine norm_ (a' := ?_) ?_ ?_
   rotate_left
   ·show Act.put _ (some 10) _ = _
    simp only [Act.put, List.setIfInBounds_toArray, List.set_cons_zero, List.set_cons_succ, i64_w, i32_w]
    rfl
   refine pure_ (i := 4) (N := some 11) (v := ?_) (a' := ?_) #[true, true, true, true, true, false, false, false, false] rfl rfl (any_of HT_.out (by kernel_rfl)) (fun _ _ _ h => h) (Or.inl ⟨by rfl, ?_⟩) ?_ ?_
   rotate_left
   ·intro w'
    go_simp
    with_reducible rfl
   rotate_left
   ·simp only [Act.put, List.setIfInBounds_toArray, List.set_cons_zero, List.set_cons_succ, i64_w, i32_w]
    rfl
   refine pure_ (i := 5) (N := some 12) (v := ?_) (a' := ?_) #[true, true, true, true, true, true, false, false, false] rfl rfl (any_of HT_.out (by kernel_rfl)) (fun _ _ _ h => h) (Or.inl ⟨by rfl, ?_⟩) ?_ ?_
   rotate_left
   ·intro w'
    go_simp
    with_reducible rfl
   rotate_left
   ·simp only [Act.put, List.setIfInBounds_toArray, List.set_cons_zero, List.set_cons_succ, i64_w, i32_w]
    rfl
   refine pure_ (i := 6) (N := some 13) (v := undef) (a' := ?_) #[true, true, true, true, true, true, true, false, false] rfl rfl (any_of HT_.out (by kernel_rfl)) (fun _ _ _ h => h) (Or.inr ⟨by rfl, rfl⟩) ?_ ?_
   rotate_left
   ·simp only [Act.put, List.setIfInBounds_toArray, List.set_cons_zero, List.set_cons_succ, i64_w, i32_w]
    rfl
   refine pure_ (i := 7) (N := some 14) (v := ?_) (a' := ?_) #[true, true, true, true, true, true, true, true, false] rfl rfl (any_of HT_.out (by kernel_rfl)) (fun _ _ _ h => h) (Or.inl ⟨by rfl, ?_⟩) ?_ ?_
   rotate_left
   ·intro w'
    go_simp
    with_reducible rfl
   rotate_left
   ·simp only [Act.put, List.setIfInBounds_toArray, List.set_cons_zero, List.set_cons_succ, i64_w, i32_w]
    rfl
   refine pure_ (i := 8) (N := some 2) (v := ?_) (a' := ?_) #[true, true, true, true, true, true, true, true, true] rfl rfl (any_of HT_.out (by kernel_rfl)) (fun _ _ _ h => h) (Or.inl ⟨by rfl, ?_⟩) ?_ ?_
   rotate_left
   ·intro w'
    go_simp
    with_reducible rfl
   rotate_left
   ·simp only [Act.put, List.setIfInBounds_toArray, List.set_cons_zero, List.set_cons_succ, i64_w, i32_w]
    rfl
   refine done_ (done_of HT_.out (by kernel_rfl)) ?_
   try go_wp2
   go_ret
   exact ⟨by first | rfl | (simp [errW_none, errW_some] <;> rfl) | (simp [*, errW_none, errW_some] <;> rfl), by repeat (first | (with_reducible first | exact HB.out | apply below_alloc | apply pw_below_drewN | apply below_drew1 | refine below_set ?_ GE247.out) | exact HB.out)⟩
 ·replace c3 := Bool.eq_false_iff.mpr c3
  subst c3
  have H1 : ((jobshelllaw05_awake.f k).bind fun t252 => (some t252)) = some r := by rw [if_neg (show ¬ (false = true) by decide)] at H; exact H
  clear H
  have H := H1
  clear H1
  replace H := Option.bind_eq_some_iff.mp H
  obtain ⟨t252, A210, H⟩ := H
  replace H : (some t252) = some r := H
  have A21 := Aside0.mk A210
  clear A210
  obtain rfl := Option.some.inj H
  go_enter Tryd.func5, Tryd.ntmps5
  go_wp2_with (first | ((with_reducible refine gate_dst (N := 1) rfl ?_); refine box_event ?hg (N := 1) ?hd (cs := #[.int .i64 a0_0, .int .i64 a0_1, .string a0_2, .slice A0_3 l0_3.length c0_3]) (t := 26) ?hr ?_; (case hd => rfl); (case hg => rfl); (case hr => first | (go_simp; done) | (go_simp; rfl)); intro gb247 hg w22 hbox hb; have n0_ := Aside0.mk (below_step (by repeat (first | (with_reducible first | exact HB.out | apply below_alloc | apply pw_below_drewN | apply below_drew1) | exact HB.out)) hb); have n1_ := Aside0.mk (hbox); have n2_ := Aside0.mk ((by rw [hg]; exact (below_size (by repeat (first | (with_reducible first | exact HB.out | apply below_alloc | apply pw_below_drewN | apply below_drew1) | exact HB.out))) : w.heap.size ≤ gb247)); have n3_ := Aside0.mk ((by rw [hg]; exact (below_size (by repeat (first | (with_reducible first | exact HB.out | apply below_alloc | apply pw_below_drewN | apply below_drew1) | exact HB.out))) : w.heap.size ≤ gb247)); clear HB; have HB := n0_; have BK247 := n1_; have GW247 := n2_; have GE247 := n3_; clear n0_ n1_ n2_ n3_; clear hb hbox hg; have hcz23_0 : w22.cell? ⟨gb247, 0, none⟩ = some (.int .i64 a0_0) := (blk_cell BK247.out 0).trans rfl; have hcz23_1 : w22.cell? ⟨gb247, 1, none⟩ = some (.int .i64 a0_1) := (blk_cell BK247.out 1).trans rfl; have hcz23_2 : w22.cell? ⟨gb247, 2, none⟩ = some (.string a0_2) := (blk_cell BK247.out 2).trans rfl; have hcz23_3 : w22.cell? ⟨gb247, 3, none⟩ = some (.slice A0_3 l0_3.length c0_3) := (blk_cell BK247.out 3).trans rfl; have hfz23_0 := blk_frozen BK247.out 0; have hfz23_1 := blk_frozen BK247.out 1; have hfz23_2 := blk_frozen BK247.out 2; have hfz23_3 := blk_frozen BK247.out 3) | ((with_reducible refine gate_callee (f := 21) rfl ?_); refine goesL_ (some 4) rfl rfl Tryd.func21 (by kernel_rfl) rfl #[.agg #[.int .i64 a0_0, .int .i64 a0_1, .string a0_2, .slice A0_3 l0_3.length c0_3], .int .i64 60] rfl (by (try simp only [List.map_toArray, List.map_cons, List.map_nil]); first | done | rfl | (simp only [List.length_drop, List.length_take]; rfl)) ?_; (with_reducible refine (jobshellref05_Small.calls k a0_0 a0_1 a0_2 _ _ l0_3 60 false _ ?side1 ?side2 A2.out).mono ?_); (case side1 => repeat (first | exact (Kd.C_below HR0_3.out HB.out) | (with_reducible refine Kd.C_alloc ?_ _) | (with_reducible refine Kd.C_drewN ?_ _) | (with_reducible refine Kd.C_drew ?_))); (case side2 => exact HC0_3.out); rintro e w24 ⟨rfl, hb⟩; refine ⟨_, rfl, ?_⟩; have n0_ := Aside0.mk (blk_below (g := gb247) (o := .cells #[.int .i64 a0_0, .int .i64 a0_1, .string a0_2, .slice A0_3 l0_3.length c0_3] 26 (0, 0)) (by (with_reducible repeat (first | refine blk_drewN ?_ _ | refine blk_drew ?_ | refine blk_alloc ?_ _)); exact BK247.out) hb); have n1_ := Aside0.mk (below_step (by repeat (first | (with_reducible first | exact HB.out | apply below_alloc | apply pw_below_drewN | apply below_drew1 | refine below_set ?_ GE247.out) | exact HB.out)) hb); clear BK247; clear HB; have BK247 := n0_; have HB := n1_; clear n0_ n1_; (try clear hb); (try clear hb2); (try clear hk); (try clear hi)) | ((with_reducible refine gate_callee (f := 17) rfl ?_); refine goesL_ (some 6) rfl rfl Tryd.func17 (by kernel_rfl) rfl #[] rfl (by (try simp only [List.map_toArray, List.map_cons, List.map_nil]); first | done | rfl | (simp only [List.length_drop, List.length_take]; rfl)) ?_; (with_reducible refine (jobshelllaw05_awake.calls k  t252 _ A21.out).mono ?_); rintro e w25 ⟨rfl, hb⟩; refine ⟨_, rfl, ?_⟩; have n0_ := Aside0.mk (blk_below (g := gb247) (o := .cells #[.int .i64 a0_0, .int .i64 a0_1, .string a0_2, .slice A0_3 l0_3.length c0_3] 26 (0, 0)) (by (with_reducible repeat (first | refine blk_drewN ?_ _ | refine blk_drew ?_ | refine blk_alloc ?_ _)); exact BK247.out) hb); have n1_ := Aside0.mk (below_step (by repeat (first | (with_reducible first | exact HB.out | apply below_alloc | apply pw_below_drewN | apply below_drew1 | refine below_set ?_ GE247.out) | exact HB.out)) hb); clear BK247; clear HB; have BK247 := n0_; have HB := n1_; clear n0_ n1_; (try clear hb); (try clear hb2); (try clear hk); (try clear hi)))
  go_ret
  exact ⟨by first | rfl | (simp [errW_none, errW_some] <;> rfl) | (simp [*, errW_none, errW_some] <;> rfl), by repeat (first | (with_reducible first | exact HB.out | apply below_alloc | apply pw_below_drewN | apply below_drew1 | refine below_set ?_ GE247.out) | exact HB.out)⟩
end Go.Proofs.YtglmdfddgmkmaaaDoor.Q
end
section
namespace Go.Proofs.YtglmdfddgmkmaaaDoor.Q
open Go.RowKit Go.Proofs.YtglmdfddgmkmaaaDoorW.PrintWords
set_option linter.unusedVariables false
set_option linter.unusedSimpArgs false
def SmallAt (n : Nat) : Prop := ∀ (x : S26) (a : Int) (k : Nat), -1 ≤ a → a ≤ 60 → 80 * n + 3 ≤ k → ∃ r, jobshellref05_small.f k x.f0 x.f1 x.f2 x.f3 a (n : Int) = some r ∧ -1 ≤ r ∧ (r ≤ a - 1 ∨ r = -1)
theorem wrap_of {z : Int} (h0 : -9223372036854775808 ≤ z) (h1 : z ≤ 9223372036854775807) : wrap64 z = z := by
 simp only [wrap64, IntKind.wrap]
 omega
theorem small_loop (n : Nat) (hn : n ≤ 40) (ih : SmallAt n) (x : S26) : ∀ (c : Nat) (b : Int) (i m : Nat), -1 ≤ b → b + 1 ≤ c → (i : Int) + b ≤ 60 → c + (80 * n + 3) + 2 ≤ m → ∃ r, jobshellref05_small.l0 m b ((n + 1 : Nat) : Int) (i : Int) x.f0 x.f1 x.f2 x.f3 = some r ∧ -1 ≤ r ∧ r ≤ b := by
 intro c
 induction c with
 | zero =>
  intro b i m hb0 hb1 hi hm
  obtain ⟨m, rfl⟩ : ∃ k', m = k' + 1 := ⟨m - 1, by omega⟩
  rw [jobshellref05_small.l0]
  have hb : ¬ b ≥ 0 := by omega
  by_cases hlt : (i : Int) < (x.f3.length : Int)
  ·rw [if_pos hlt, if_neg hb]
   exact ⟨b, rfl, hb0, Int.le_refl _⟩
  ·rw [if_neg hlt]
   exact ⟨b, rfl, hb0, Int.le_refl _⟩
 | succ c ihc =>
  intro b i m hb0 hb1 hi hm
  obtain ⟨m, rfl⟩ : ∃ k', m = k' + 1 := ⟨m - 1, by omega⟩
  rw [jobshellref05_small.l0]
  by_cases hlt : (i : Int) < (x.f3.length : Int)
  ·rw [if_pos hlt]
   by_cases hb : b ≥ 0
   ·have hi0 : (0 : Int) ≤ (i : Int) := Int.natCast_nonneg i
    rw [if_pos hb, if_pos hi0]
    have hw : wrap64 (((n + 1 : Nat) : Int) - 1) = (n : Int) := by
     rw [wrap_of (by omega) (by omega)]
     omega
    obtain ⟨t, ht, ht0, ht1⟩ := ih (rd_T26 x.f3 i) b m hb0 (by omega) (by omega)
    rw [hw, ht, Option.bind_some]
    have hw2 : wrap64 ((i : Int) + 1) = ((i + 1 : Nat) : Int) := by
     rw [wrap_of (by omega) (by omega)]
     omega
    rw [hw2]
    obtain ⟨r, hr, hr0, hr1⟩ := ihc t (i + 1) m ht0 (by omega) (by omega) (by omega)
    exact ⟨r, hr, hr0, by omega⟩
   ·rw [if_neg hb]
    exact ⟨b, rfl, hb0, Int.le_refl _⟩
  ·rw [if_neg hlt]
   exact ⟨b, rfl, hb0, Int.le_refl _⟩
theorem small_j0 (k : Nat) (a l : Int) (x : S26) : jobshellref05_small.j0 (k + 1) a l true x.f0 x.f1 x.f2 x.f3 = some (-1) := by
 rw [jobshellref05_small.j0, if_pos rfl]
theorem small_step (n : Nat) (hn : n < 40) (ih : SmallAt n) : SmallAt (n + 1) := by
 intro x a k h0 h1 hk
 obtain ⟨k, rfl⟩ : ∃ k', k = k' + 2 := ⟨k - 2, by omega⟩
 rw [jobshellref05_small.f]
 by_cases ha : a < 1
 ·rw [if_pos ha, small_j0]
  exact ⟨-1, rfl, Int.le_refl _, .inr rfl⟩
 ·have hl : ¬ (((n + 1 : Nat) : Int) < 1) := by omega
  rw [if_neg ha, if_neg hl]
  cases hd : decide ((x.f2.size : Int) > 60)
  ·rw [jobshellref05_small.j0, if_neg Bool.false_ne_true, wrap_of (show -9223372036854775808 ≤ a - 1 by omega) (by omega)]
   obtain ⟨r, hr, hr0, hr1⟩ := small_loop n (by omega) ih x 60 (a - 1) 0 k (by omega) (by omega) (by omega) (by omega)
   exact ⟨r, hr, hr0, .inl hr1⟩
  ·rw [small_j0]
   exact ⟨-1, rfl, Int.le_refl _, .inr rfl⟩
theorem small_zero : SmallAt 0 := by
 intro x a k h0 h1 hk
 obtain ⟨k, rfl⟩ : ∃ k', k = k' + 2 := ⟨k - 2, by omega⟩
 rw [jobshellref05_small.f]
 refine ⟨-1, ?_, Int.le_refl _, .inr rfl⟩
 split
 ·rw [small_j0]
 ·rw [if_pos (by omega), small_j0]
theorem small_at : ∀ n : Nat, n ≤ 40 → SmallAt n
 | 0, _ => small_zero
 | n + 1, h => small_step n (by omega) (small_at n (by omega))
theorem Small_eq (x : S26) (k : Nat) (hk : 3300 ≤ k) : ∃ b, jobshellref05_Small.f k x.f0 x.f1 x.f2 x.f3 60 = some b := by
 obtain ⟨r, hr, _, _⟩ := small_at 40 (Nat.le_refl _) x 60 k (by omega) (by omega) (by omega)
 unfold jobshellref05_Small.f
 rw [show ((40 : Nat) : Int) = 40 from rfl] at hr
 rw [hr]
 exact ⟨_, rfl⟩
theorem awake_at (k : Nat) (hk : 60 ≤ k) : jobshelllaw05_awake.f k = some true := awake_up 60 k true awake_eval hk
end Go.Proofs.YtglmdfddgmkmaaaDoor.Q
end
section
namespace Go.Proofs.YtglmdfddgmkmaaaDoor.Q
open Go.RowKit Go.Proofs.YtglmdfddgmkmaaaDoorW.PrintWords
set_option linter.unusedVariables false
set_option linter.unusedSimpArgs false
def kidsE (op : Int) : Int := if op = 1 ∨ op = 2 then 0 else if (3 ≤ op ∧ op ≤ 6) ∨ op = 26 then 1 else if 7 ≤ op ∧ op ≤ 24 then 2 else if op = 25 then 3 else -1
theorem arith_kids_eq (k : Nat) (op : Int) : arith_kids.f (k + 2) op = some (kidsE op) := by
 unfold arith_kids.f kidsE
 simp only [arith_kids.j0, arith_kids.j1]
 repeat' split
 all_goals first | rfl | (exfalso; simp_all; done) | (exfalso; simp_all; omega)
def asgE (n : Int) : Bool := n == 0 || (decide (7 ≤ n) && decide (n ≤ 13)) || (decide (20 ≤ n) && decide (n ≤ 22))
theorem assigns_eq (n : Int) : arith_assigns.f n = some (asgE n) := by
 unfold arith_assigns.f asgE
 repeat' split
 all_goals first | (simp_all; done) | (simp_all; omega)
def wordsAll (s : ByteArray) : Nat → Nat → Bool
 | 0, _ => true
 | f + 1, i => if (lett (bt s i) || dgt (bt s i) || bt s i == 95) = true then wordsAll s f (i + 1) else false
theorem words_names (s : ByteArray) : ∀ (f i : Nat), i + f = s.size → 0 < i → wordsAll s f i = nameAll s f i
 | 0, i, _, _ => rfl
 | f + 1, i, hi, h0 => by
  have e0 : nameAll s (f + 1) i = (nameC (bt s i) i && nameAll s f (i + 1)) := by rw [nameAll, if_pos (show i < s.size by omega)]
  rw [wordsAll, e0, words_names s f (i + 1) (by omega) (by omega)]
  have e : nameC (bt s i) i = (lett (bt s i) || dgt (bt s i) || bt s i == 95) := by
   unfold nameC
   simp [h0]
   cases lett (bt s i) <;> cases dgt (bt s i) <;> cases (bt s i == 95) <;> rfl
  rw [e]
  cases (lett (bt s i) || dgt (bt s i) || bt s i == 95) <;> rfl
def namedE (op : Int) : Bool := op == 2 || op == 26
def rightE (op n : Int) : Bool := if op = 1 then decide (n ≥ 0) else if op = 26 then asgE n else n == 0
def partE (op n : Int) (nm : ByteArray) (l : Nat) : Int :=
 if (decide (kidsE op = (l : Int)) && rightE op n && (namedE op == (nm.toList != []))) = true then (if (namedE op && !nameB nm) = true then 10 else 0) else 1
theorem arith_part_eq (k : Nat) (op n : Int) (nm : ByteArray) (l : List S26) : arith_part.f (k + 5) op n nm l = some (partE op n nm l.length) := by
 have h1 : ∀ b, arith_part.j0 (k + 5) b op n nm l = arith_part.j1 (k + 4) b (rightE op n) op n nm l := by
  intro b
  rw [arith_part.j0, assigns_eq]
  unfold rightE
  split
  ·rfl
  ·split <;> rfl
 have h2 : ∀ b c, arith_part.j1 (k + 4) b c op n nm l = arith_part.j2 (k + 3) b (!(decide (kidsE op = (l.length : Int)) && c && (b == (nm.toList != [])))) op n nm l := by
  intro b c
  rw [arith_part.j1, arith_kids_eq]
  simp only [Option.bind_some]
  split
  ·rename_i h
   cases c
   ·simp
   ·simp only [if_true, h]
    cases b <;> cases (nm.toList != []) <;> simp
  ·rename_i h
   simp [h]
 have h3 : ∀ b c, arith_part.j2 (k + 3) b (!c) op n nm l = some (if c = true then (if (b && !nameB nm) = true then 10 else 0) else 1) := by
  intro b c
  rw [arith_part.j2]
  cases c
  ·simp
  ·cases b
   ·simp
   ·simp only [chars_Name.f, Option.bind_some]
    cases nameB nm <;> simp
 unfold arith_part.f partE
 have hn : namedE op = if op = 2 then true else (op == 26) := by
  unfold namedE
  split <;> simp_all
 by_cases h : op = 2
 ·rw [if_pos h, h1, h2, h3, hn, if_pos h]
 ·rw [if_neg h, h1, h2, h3, hn, if_neg h]
def firstE (g : S26 → Int) : List S26 → Int
 | [] => 0
 | y :: ys => if g y = 0 then firstE g ys else g y
/-- The first error of a tree that has m levels left. -/
def validE : Nat → S26 → Int
 | 0, _ => 5
 | m + 1, x => if partE x.f0 x.f1 x.f2 x.f3.length = 0 then firstE (validE m) x.f3 else partE x.f0 x.f1 x.f2 x.f3.length
theorem part_len {op n : Int} {nm : ByteArray} {l : Nat} (h : partE op n nm l = 0) : l ≤ 3 := by
 unfold partE at h
 split at h
 ·rename_i hc
  have hk : kidsE op = (l : Int) := by simp at hc; exact hc.1.1
  unfold kidsE at hk
  repeat' split at hk
  all_goals omega
 ·omega
theorem rd_at {xs ys : List S26} {y : S26} {i : Nat} (h : xs.drop i = y :: ys) : rd_T26 xs (i : Int) = y ∧ i < xs.length ∧ xs.drop (i + 1) = ys := by
 have hi : i < xs.length := by
  rcases Nat.lt_or_ge i xs.length with h1 | h1
  ·exact h1
  ·rw [List.drop_eq_nil_of_le h1] at h
   simp at h
 rw [List.drop_eq_getElem_cons hi] at h
 simp only [List.cons.injEq] at h
 refine ⟨?_, hi, h.2⟩
 simp [rd_T26, List.getD_eq_getElem?_getD, hi, h.1]
theorem wrap_succ {i : Nat} (h : i < 1000) : wrap64 ((i : Int) + 1) = ((i + 1 : Nat) : Int) := by
 simp only [wrap64, IntKind.wrap]
 omega
theorem arith_valid_eq : ∀ (m : Nat) (x : S26) (k : Nat), m ≤ 32 → 10 * m + 10 ≤ k → arith_valid.f k x.f0 x.f1 x.f2 x.f3 ((32 - m : Nat) : Int) = some (validE m x)
 | 0, x, k, _, hk => by
  obtain ⟨k, rfl⟩ : ∃ k', k = k' + 1 := ⟨k - 1, by omega⟩
  rw [arith_valid.f, if_pos (by omega)]
  rfl
 | m + 1, x, k, hm, hk => by
  obtain ⟨k, rfl⟩ : ∃ k', k = k' + 6 := ⟨k - 6, by omega⟩
  have hl : ∀ (ys : List S26) (i n : Nat), x.f3.drop i = ys → x.f3.length ≤ 3 → i ≤ 3 → ys.length + (10 * m + 10) + 1 ≤ n → arith_valid.l0 n ((32 - (m + 1) : Nat) : Int) x.f3 (x.f3.length : Int) (i : Int) = some (firstE (validE m) ys) := by
   intro ys
   induction ys with
   | nil =>
    intro i n hd h3 hi hn
    obtain ⟨n, rfl⟩ : ∃ k', n = k' + 1 := ⟨n - 1, by omega⟩
    have : x.f3.length ≤ i := by
     have := congrArg List.length hd
     simp at this
     omega
    rw [arith_valid.l0, if_neg (by omega)]
    rfl
   | cons y ys ih =>
    intro i n hd h3 hi hn
    obtain ⟨n, rfl⟩ : ∃ k', n = k' + 1 := ⟨n - 1, by omega⟩
    obtain ⟨e1, e2, e3⟩ := rd_at hd
    simp only [List.length_cons] at hn
    rw [arith_valid.l0, if_pos (by omega), if_pos (by omega), if_pos (by omega), e1]
    have hw : wrap64 (((32 - (m + 1) : Nat) : Int) + 1) = ((32 - m : Nat) : Int) := by
     simp only [wrap64, IntKind.wrap]
     omega
    rw [hw, arith_valid_eq m y n (by omega) (by omega), wrap_succ (by omega)]
    simp only [Option.bind_some]
    unfold firstE
    split
    ·exact ih (i + 1) n e3 h3 (by omega) (by omega)
    ·rfl
  rw [arith_valid.f, if_neg (by omega), arith_part_eq]
  simp only [Option.bind_some]
  unfold validE
  split
  ·rename_i hp
   exact hl x.f3 0 (k + 5) rfl (part_len hp) (by omega) (by have := part_len hp; omega)
  ·rfl
end Go.Proofs.YtglmdfddgmkmaaaDoor.Q
end
section
namespace Go.Proofs.YtglmdfddgmkmaaaDoor.Q
open Go.RowKit Go.Proofs.YtglmdfddgmkmaaaDoorW.PrintWords
set_option linter.unusedVariables false
set_option linter.unusedSimpArgs false
theorem ref_kids_eq (k : Nat) (op : Int) : jobshellref05_kids.f (k + 3) op = some (kidsE op) := by
 unfold jobshellref05_kids.f kidsE
 simp only [jobshellref05_kids.j0, jobshellref05_kids.j1, jobshellref05_kids.j2]
 repeat' split
 all_goals first | rfl | (exfalso; simp_all; done) | (exfalso; simp_all; omega)
theorem compound_eq (n : Int) : jobshellref05_compound.f n = some (asgE n) := assigns_eq n
theorem letter_eq (c : Int) : jobshellref01_Letter.f c = some (lett c) := by
 unfold jobshellref01_Letter.f lett
 repeat' split
 all_goals first | (simp_all; done) | (simp_all; omega)
theorem digit_eq (c : Int) : jobshellref01_Digit.f c = some (dgt c) := by
 unfold jobshellref01_Digit.f dgt
 repeat' split
 all_goals first | (simp_all; done) | (simp_all; omega)
theorem word_eq (c : Int) : jobshellref01_Word.f c = some (lett c || dgt c || c == 95) := by
 unfold jobshellref01_Word.f
 rw [letter_eq, digit_eq]
 cases lett c <;> cases dgt c <;> simp
theorem name_l0 (s : ByteArray) (hs : s.size ≤ 32) : ∀ (f i : Nat), i + f = s.size → ∀ k, f + 1 ≤ k → jobshellref01_Name.l0 k s (i : Int) = some (wordsAll s f i)
 | 0, i, hi, k, hk => by
  obtain ⟨k, rfl⟩ : ∃ k', k = k' + 1 := ⟨k - 1, by omega⟩
  rw [jobshellref01_Name.l0, if_neg (by omega)]
  rfl
 | f + 1, i, hi, k, hk => by
  obtain ⟨k, rfl⟩ : ∃ k', k = k' + 1 := ⟨k - 1, by omega⟩
  rw [jobshellref01_Name.l0, if_pos (by omega), if_pos (by omega), word_eq]
  simp only [Option.bind_some]
  have hw : wrap64 ((i : Int) + 1) = ((i + 1 : Nat) : Int) := by
   simp only [wrap64, IntKind.wrap]
   omega
  rw [hw, name_l0 s hs f (i + 1) (by omega) k (by omega)]
  show _ = some (if (lett (bt s (i : Int)) || dgt (bt s (i : Int)) || bt s (i : Int) == 95) = true then wordsAll s f (i + 1) else false)
  split <;> rfl
theorem name_eq (s : ByteArray) (k : Nat) (hk : 34 ≤ k) : jobshellref01_Name.f k s = some (nameB s) := by
 obtain ⟨k, rfl⟩ : ∃ k', k = k' + 1 := ⟨k - 1, by omega⟩
 unfold jobshellref01_Name.f
 have hj : jobshellref01_Name.j0 (k + 1) s true = some false := rfl
 have hz : s.toList = [] ↔ s.size = 0 := by
  rw [Go.ByteArray.toList_eq]
  constructor
  ·intro h
   have := congrArg List.length h
   simpa using this
  ·intro h
   exact List.eq_nil_of_length_eq_zero (by simpa using h)
 by_cases h0 : s.size = 0
 ·rw [if_pos (hz.mpr h0), hj]
  simp [nameB, h0]
 ·rw [if_neg (fun h => h0 (hz.mp h))]
  by_cases h1 : (s.size : Int) > 32
  ·rw [if_pos h1, hj]
   have : ¬ s.size ≤ 32 := by omega
   simp [nameB, this]
  ·rw [if_neg h1, if_pos (by omega), digit_eq]
   have h32 : s.size ≤ 32 := by omega
   simp only [Option.bind_some, jobshellref01_Name.j0]
   have hl := name_l0 s h32 s.size 0 (by omega) k (by omega)
   rw [show ((0 : Nat) : Int) = 0 from rfl] at hl
   rw [hl]
   obtain ⟨f, hf⟩ : ∃ f, s.size = f + 1 := ⟨s.size - 1, by omega⟩
   have hB : nameB s = nameAll s s.size 0 := by simp [nameB, h32, show 0 < s.size by omega]
   rw [hB, hf]
   have e0 : nameAll s (f + 1) 0 = (nameC (bt s 0) 0 && nameAll s f 1) := by rw [nameAll, if_pos (show 0 < s.size by omega)]; rfl
   have e1 : wordsAll s (f + 1) 0 = if (lett (bt s 0) || dgt (bt s 0) || bt s 0 == 95) = true then wordsAll s f 1 else false := rfl
   rw [e0, e1, words_names s f 1 (by omega) (by omega)]
   unfold nameC
   have hd : dgt (bt s 0) = true → lett (bt s 0) = false ∧ (bt s 0 == 95) = false := by
    unfold dgt lett
    intro h
    simp at h ⊢
    omega
   cases hD : dgt (bt s 0)
   ·cases lett (bt s 0) <;> cases (bt s 0 == 95) <;> simp
   ·obtain ⟨h3, h4⟩ := hd hD
    rw [h3, h4]
    simp
theorem ref_part_eq (k : Nat) (op n : Int) (nm : ByteArray) (l : List S26) (d : Int) (hd : d < 32) :
 jobshellref05_valid.f (k + 41) op n nm l d = if partE op n nm l.length = 0 then jobshellref05_valid.l0 (k + 36) d 0 op n nm l else some (partE op n nm l.length) := by
 have h4 : ∀ c, jobshellref05_valid.j3 (k + 37) d c op n nm l = if c = true then some 10 else jobshellref05_valid.l0 (k + 36) d 0 op n nm l := fun c => by rw [jobshellref05_valid.j3]
 have h3 : ∀ b c, jobshellref05_valid.j2 (k + 38) d b (!c) op n nm l = if c = true then (if (b && !nameB nm) = true then some 10 else jobshellref05_valid.l0 (k + 36) d 0 op n nm l) else some 1 := by
  intro b c
  rw [jobshellref05_valid.j2, name_eq nm (k + 37) (by omega)]
  simp only [Option.bind_some, h4]
  cases c
  ·simp
  ·cases b
   ·simp
   ·cases nameB nm <;> simp
 have h2 : ∀ b c, jobshellref05_valid.j1 (k + 39) d b (!c) op n nm l = if c = true then jobshellref05_valid.j2 (k + 38) d b (!rightE op n) op n nm l else some 1 := by
  intro b c
  rw [jobshellref05_valid.j1, compound_eq]
  simp only [Option.bind_some]
  unfold rightE
  cases c
  ·simp
  ·by_cases o1 : op = 1
   ·have o26 : ¬ op = 26 := by omega
    by_cases hn : n < 0
    ·have : ¬ n ≥ 0 := by omega
     simp [o1, hn, this]
    ·have : n ≥ 0 := by omega
     simp [o1, hn, this]
   ·by_cases o26 : op = 26
    ·simp only [if_neg o1, if_pos o26]
     cases asgE n <;> simp
    ·simp [o1, o26, bne]
 have h1 : ∀ b, jobshellref05_valid.j0 (k + 40) d b op n nm l = jobshellref05_valid.j1 (k + 39) d b (!(decide (kidsE op = (l.length : Int)) && (b == (nm.toList != [])))) op n nm l := by
  intro b
  rw [jobshellref05_valid.j0, ref_kids_eq]
  simp only [Option.bind_some]
  by_cases hk : (l.length : Int) = kidsE op
  ·rw [if_pos hk]
   have hk' : kidsE op = (l.length : Int) := hk.symm
   cases b <;> simp [hk', bne]
  ·rw [if_neg hk]
   have hk' : ¬ kidsE op = (l.length : Int) := fun h => hk h.symm
   simp [hk']
 have hn : namedE op = if op = 2 then true else (op == 26) := by
  unfold namedE
  split <;> simp_all
 have hall : ∀ b, jobshellref05_valid.j0 (k + 40) d b op n nm l = if (decide (kidsE op = (l.length : Int)) && rightE op n && (b == (nm.toList != []))) = true then (if (b && !nameB nm) = true then some 10 else jobshellref05_valid.l0 (k + 36) d 0 op n nm l) else some 1 := by
  intro b
  rw [h1, h2, h3]
  cases decide (kidsE op = (l.length : Int)) <;> cases rightE op n <;> cases (b == (nm.toList != [])) <;> simp
 rw [jobshellref05_valid.f, if_neg (by omega)]
 have hp : (if op = 2 then jobshellref05_valid.j0 (k + 40) d true op n nm l else jobshellref05_valid.j0 (k + 40) d (op == 26) op n nm l) = jobshellref05_valid.j0 (k + 40) d (namedE op) op n nm l := by
  rw [hn]
  split <;> rfl
 rw [hp, hall]
 unfold partE
 split
 ·split <;> simp
 ·simp
theorem ref_valid_eq : ∀ (m : Nat) (x : S26) (k : Nat), m ≤ 32 → 50 * m + 50 ≤ k → jobshellref05_valid.f k x.f0 x.f1 x.f2 x.f3 ((32 - m : Nat) : Int) = some (validE m x)
 | 0, x, k, _, hk => by
  obtain ⟨k, rfl⟩ : ∃ k', k = k' + 1 := ⟨k - 1, by omega⟩
  rw [jobshellref05_valid.f, if_pos (by omega)]
  rfl
 | m + 1, x, k, hm, hk => by
  obtain ⟨k, rfl⟩ : ∃ k', k = k' + 41 := ⟨k - 41, by omega⟩
  have hl : ∀ (ys : List S26) (i n : Nat), x.f3.drop i = ys → x.f3.length ≤ 3 → i ≤ 3 → ys.length + (50 * m + 50) + 1 ≤ n → jobshellref05_valid.l0 n ((32 - (m + 1) : Nat) : Int) (i : Int) x.f0 x.f1 x.f2 x.f3 = some (firstE (validE m) ys) := by
   intro ys
   induction ys with
   | nil =>
    intro i n hd h3 hi hn
    obtain ⟨n, rfl⟩ : ∃ k', n = k' + 1 := ⟨n - 1, by omega⟩
    have : x.f3.length ≤ i := by
     have := congrArg List.length hd
     simp at this
     omega
    rw [jobshellref05_valid.l0, if_neg (by omega)]
    rfl
   | cons y ys ih =>
    intro i n hd h3 hi hn
    obtain ⟨n, rfl⟩ : ∃ k', n = k' + 1 := ⟨n - 1, by omega⟩
    obtain ⟨e1, e2, e3⟩ := rd_at hd
    simp only [List.length_cons] at hn
    rw [jobshellref05_valid.l0, if_pos (by omega), if_pos (by omega), e1]
    have hw : wrap64 (((32 - (m + 1) : Nat) : Int) + 1) = ((32 - m : Nat) : Int) := by
     simp only [wrap64, IntKind.wrap]
     omega
    rw [hw, ref_valid_eq m y n (by omega) (by omega), wrap_succ (by omega)]
    simp only [Option.bind_some]
    unfold firstE
    split
    ·exact ih (i + 1) n e3 h3 (by omega) (by omega)
    ·rfl
  rw [ref_part_eq _ _ _ _ _ _ (by omega)]
  unfold validE
  split
  ·rename_i hp
   exact hl x.f3 0 (k + 36) rfl (part_len hp) (by omega) (by have := part_len hp; omega)
  ·rfl
theorem valid_true (x : S26) (hF : Fine x) : ∃ k, jobshelllaw05_ArithValid.f k x.f0 x.f1 x.f2 x.f3 = some true := by
 refine ⟨3300, ?_⟩
 obtain ⟨b, hb⟩ := Small_eq x 3300 (by omega)
 unfold jobshelllaw05_ArithValid.f
 rw [hb]
 simp only [Option.bind_some]
 have h1 := arith_valid_eq 32 x 3300 (by omega) (by omega)
 have h2 := ref_valid_eq 32 x 3300 (by omega) (by omega)
 rw [show ((32 - 32 : Nat) : Int) = 0 from rfl] at h1 h2
 have h3 : arith_Valid.f 3300 x.f0 x.f1 x.f2 x.f3 = some (validE 32 x) := by
  unfold arith_Valid.f
  rw [h1]
  rfl
 have h4 : jobshellref05_Valid.f 3300 x.f0 x.f1 x.f2 x.f3 = some (validE 32 x) := by
  unfold jobshellref05_Valid.f
  rw [h2]
  rfl
 rw [h3, h4, awake_at 3300 (by omega)]
 simp
end Go.Proofs.YtglmdfddgmkmaaaDoor.Q
end
section
namespace Go.Proofs.YtglmdfddgmkmaaaDoor.Q
open Go.ChangeShapes Go.WideShapes Go.ChangeAt Go.RowKit
open Go.ChangeMaps (open_string shut_string)
set_option maxRecDepth 100000
set_option linter.unusedVariables false
theorem laidOut : laidOutB Tryd.prog = true := by kernel_rfl
theorem valid_lifted (os : Os) (started : os.Started) (H : Type) (enc : TypeId × Value → H) :
 ReturnsInHanded {} Tryd.checked os 5 .any (fun w args => (Rows.arithValidSpec.pre enc Tryd.prog Tryd.f5 [] false w args ∧ laidMetH Tryd.prog laid3 w) ∧ sizedMet enc Tryd.prog Tryd.f5 (OpenSpec.ofChange Rows.arithValidSpec) false w args)
  (Rows.arithValidSpec.post enc Tryd.prog Tryd.f5 false true false false) := by
 refine returnsInHanded_of_change_and (C := Tryd.checked) (X := fun w _ => laidMetH Tryd.prog laid3 w) (fun _ _ _ hh h => h.of_heap hh) own started (by kernel_rfl) Tryd.func5
  (ChangeSpec.witness_shaped (enc := enc) (C := Tryd.checked) (os := os) (X := fun w _ => laidMetH Tryd.prog laid3 w) false (World.doorLaid Tryd.prog 400 os) #[.agg #[.int .i64 0, .int .i64 0, .string ⟨#[]⟩, .slice none 0 0]] 8 rfl (World.shaped_of_RefB (by kernel_rfl) (by kernel_rfl)) (by kernel_rfl) (by kernel_rfl) (by kernel_rfl) (door_met os _)) ?_
 intro W base args ds gs before hval0 hW _ _ hL _
 have hval : ∀ (j : Nat) t v, Tryd.f5.params[j]? = some t → args[j]? = some v → Value.okWide Tryd.prog W .any base t v := hval0
 have hW' := hW
 obtain ⟨p, q, hA0, hV, rfl, hfz, hnd⟩ := hW
 have hA : DataW.TrodAll enc Tryd.prog W 0 (fun _ => true) true Tryd.f5.params.toList args.toList ds p := hA0
 rw [Tryd.params5] at hA hval
 obtain ⟨v0, vs0, d0, ds0, p0, q0, hargs, rfl, rfl, h0, r0⟩ := trodAll_cons hA
 obtain ⟨rfl, rfl, rfl⟩ := trodAll_nil r0
 obtain rfl : args = #[v0] := by cases args; simp_all
 obtain ⟨rfl, rfl⟩ := trodVars_none hV
 have k0 := h0
 have lt0 : ∀ x ∈ p0, x.block < W.heap.size := by obtain ⟨m, hm⟩ := k0; exact DataW.trod_lt m _ _ _ hm
 obtain ⟨x0, A0, c0, rfl, hc0, hC0, hF0⟩ := tree_open (hval 0 26 v0 rfl rfl) h0
 obtain ⟨k, hk⟩ := valid_true x0 hF0
 refine (jobshelllaw05_ArithValid.calls k x0.f0 x0.f1 x0.f2 A0 c0 x0.f3 true W hC0 hc0 hk (of_laid hL)).mono fun e W' ⟨he, bel⟩ => ?_
 subst he
 exact ⟨_, rfl, _, _, _, [], _, [], hW', trodAll_mk1 (shut_bool Tryd.underlying4 _), (trodAll_cons_mk (Below.trod laidOut (by kernel_rfl) (of_decide_eq_true (by kernel_rfl)) k0 bel lt0) trodAll_mk0), rfl, bel.frame _, fun h => by cases h⟩
theorem arithValid_holds : Rows.ArithValidSaid :=
 OpenClaim.holds_of_wide 5 Tryd.f5 rfl rfl rfl rfl rfl rfl rfl ⟨rfl, rfl, rfl, rfl, rfl⟩ rfl rfl rfl rfl rfl (by kernel_rfl) Tryd.func5 (by kernel_rfl)
  (of_decide_eq_true (by kernel_rfl)) (by unfold Func.isWrapper; first | (rw [if_pos (by decide +kernel)]; kernel_rfl) | (rw [if_neg (by decide +kernel)]; exact ⟨rfl, rfl⟩))
  (fun os started H enc _ => valid_lifted os started H enc)
end Go.Proofs.YtglmdfddgmkmaaaDoor.Q
namespace Go.Proofs.YtglmdfddgmkmaaaDoor
open Q
set_option maxRecDepth 100000
theorem arithValid_card : Rows.ArithValidCardSaid :=
 Claim7.holds_tied_plain_at .later [] [.data, .data, .data] true (true, "74cc2cd4b784e984c7617e824861adf5041c4fd5a2cf63fd298402107294065b") true
  arithValid_holds (fun _ h => by cases h) (by kernel_rfl) (fun _ h => by cases h) arithValid_row_tie rfl ⟨rfl, rfl⟩ (by kernel_rfl) rfl
  (fun f fn hf hfn => by
   obtain rfl : f = 5 := Option.some.inj ((show Tryd.prog.funcNamed "jobshell/jobshelllaw05.ArithValid" = some 5 by kernel_rfl).symm.trans hf) |>.symm
   obtain rfl : fn = Tryd.f5 := (Option.some.inj (Tryd.func5.symm.trans hfn)).symm
   exact ⟨by kernel_rfl, fun j t ht => by
    rw [Tryd.params5] at ht
    have hm : t ∈ [26] := by simpa using Array.mem_of_getElem? ht
    have hall : ([26].all fun u => !Tryd.prog.wantsStandIn u) = true := by kernel_rfl
    exact (show Tryd.prog.wantsStandIn t = false by simpa using List.all_eq_true.1 hall t hm)⟩)
  (by kernel_rfl)
end Go.Proofs.YtglmdfddgmkmaaaDoor
end

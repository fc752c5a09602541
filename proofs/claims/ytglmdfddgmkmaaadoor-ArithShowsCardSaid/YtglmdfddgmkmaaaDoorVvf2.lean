/- What the claim needs, part 3 of 6. -/
import Derived.Test.YtglmdfddgmkmaaaDoorVvf1
section
namespace Go.Proofs.YtglmdfddgmkmaaaDoor.Q
open Go.RowKit Go.Proofs.YtglmdfddgmkmaaaDoorW.PrintWords Go.Proofs.YtglmdfddgmkmaaaDoorW.PrintLast Go.Proofs.YtglmdfddgmkmaaaDoorW.PrintMore
attribute [local go_sem] max2_int min2_int max_two min_two max_three min_three max_four min_four
set_option linter.unusedVariables false
set_option linter.unusedSimpArgs false
set_option maxHeartbeats 8000000 in
set_option maxRecDepth 100000 in
theorem jobshellref05_digits.calls (k : Nat) (a0 : Int) (r : ByteArray) (w : World) (h : jobshellref05_digits.f k a0 = some r) :
 Calls Tryd.prog 67 #[.int .u64 a0] w fun e w' => e = .returned (.string r) ∧ Below w.heap.size w w' := by
 have HB := Aside0.mk (Below.refl w.heap.size w)
 have H : (jobshellref05_digits.l0 k a0 (⟨#[]⟩ : ByteArray)) = some r := h
 clear h
 have H' := Aside0.mk H
 clear H
 go_enter Tryd.func67, Tryd.ntmps67
 go_wp2
 go_loopg [0, 3] k (fun kq v0 v3 w' => ∃ (x0_1 : Int) (x3_1 : ByteArray), v0 = .int .u64 x0_1 ∧ v3 = .string x3_1 ∧ Aside0 (jobshellref05_digits.l0 kq x0_1 x3_1 = some r) ∧ Aside0 (kq ≤ k) ∧ Aside0 (Below w.heap.size w w'))
 case atStart => exact ⟨(a0), ((⟨#[]⟩ : ByteArray)), (by first | rfl | (simp; done) | (simp [*]; done)), (by first | rfl | (simp; done) | (simp [*]; done)), H', ⟨Nat.le_refl _⟩, ⟨by repeat (first | (with_reducible first | exact HB.out | apply below_alloc | apply pw_below_drewN | apply below_drew1) | exact HB.out)⟩⟩
 case round =>
  clear H'
  obtain ⟨x0_1, x3_1, rfl, rfl, HA, HK1, HB⟩ := hrel
  cases gk with
  | zero => exact absurd HA.out (by simp [jobshellref05_digits.l0])
  | succ k1 =>
   have H := HA.out
   clear HA
   simp only [jobshellref05_digits.l0] at H
   by_cases c2 : x0_1 > 9
   rotate_left
   ·rw [if_neg c2] at H
    have c2b0 : decide (9 < x0_1) = false := decide_eq_false c2
    clear c2
    obtain ⟨y276, hy276⟩ : ∃ y_ : List Int, y_ = (([(IntKind.u64.wrap (48 + x0_1)) % 256] : List Int)) := ⟨_, rfl⟩
    replace H : (if (strOfNums y276).size + x3_1.size ≤ 9223372036854775807 then (some ((strOfNums y276) ++ x3_1)) else (none)) = some r := by first | (rw [hy276]; with_reducible exact H) | (have H2_ := (Option.bind_some _ _).symm.trans H; rw [hy276]; with_reducible exact H2_) | (have H2_ := (Option.bind_some _ _).symm.trans H; with_reducible exact H2_) | with_reducible exact H | (rw [hy276]; exact H) | exact H
    have Ny276 := Aside0.mk hy276
    clear hy276
    by_cases c7 : (strOfNums y276).size + x3_1.size ≤ 9223372036854775807
    rotate_left
    ·rw [if_neg c7] at H
     exact absurd H (by simp)
    rw [if_pos c7] at H
    have c7b0 := eq_true c7
    have c7b1 : decide ((strOfNums y276).size + x3_1.size ≤ 9223372036854775807) = true := decide_eq_true c7
    try have c7b2 : (9223372036854775807 < (strOfNums y276).size + x3_1.size) = False := eq_false (Nat.not_lt.2 c7)
    obtain rfl := Option.some.inj H
    go_wp2_with (first | ((with_reducible refine gate_dst (N := 19) rfl ?_); refine Kd.R_lit (Kd.int .u8) _ 5 ?hg (N := 19) ?hd (xs := ([(IntKind.u64.wrap (48 + x0_1)) % 256] : List Int)) (inner := [.int .u8 ((IntKind.u64.wrap (48 + x0_1)) % 256)]) (ok := fun _ => True) (okp := fun _ => True) ?hr ?hp (fun _ hk => hk) trivial (Below.refl _ _) (Nat.le_refl _) (by simp) ?_; (case hd => rfl); (case hg => rfl); (case hr => first | (go_simp; done) | (go_simp; rfl)); (case hp => exact (Reps.one (show Kd.M (Kd.int .u8) _ _ _ ((IntKind.u64.wrap (48 + x0_1)) % 256) [.int .u8 ((IntKind.u64.wrap (48 + x0_1)) % 256)] from rfl) (Reps.none _ _))); intro v277 w8 ho9 hb hg_ hnew_; clear hg_ hnew_; (first | rw [← Ny276.out] at ho9 | (simp only [Int.reduceToNat] at ho9; rw [← Ny276.out] at ho9)); have n0_ := Aside0.mk (Kd.R_lower ho9 (below_size (by repeat (first | (with_reducible first | exact HB.out | apply below_alloc | apply pw_below_drewN | apply below_drew1) | exact HB.out)))); have n1_ := Aside0.mk (below_step (by repeat (first | (with_reducible first | exact HB.out | apply below_alloc | apply pw_below_drewN | apply below_drew1) | exact HB.out)) hb); clear HB; have HO278 := n0_; have HB := n1_; clear n0_ n1_; clear hb ho9; have hcv10 := own_string (P := Tryd.prog) Tryd.underlying110 Tryd.underlying5 Tryd.underlying9 (Kd.own_of_R HO278.out)))
    go_ret
    exact ⟨by first | rfl | (simp [errW_none, errW_some] <;> rfl) | (simp [*, errW_none, errW_some] <;> rfl), by repeat (first | (with_reducible first | exact HB.out | apply below_alloc | apply pw_below_drewN | apply below_drew1) | exact HB.out)⟩
   rw [if_pos c2] at H
   have c2b0 : decide (9 < x0_1) = true := decide_eq_true c2
   clear c2
   obtain ⟨y273, hy273⟩ : ∃ y_ : List Int, y_ = (([(IntKind.u64.wrap (48 + (Int.tmod x0_1 10))) % 256] : List Int)) := ⟨_, rfl⟩
   replace H : (if (strOfNums y273).size + x3_1.size ≤ 9223372036854775807 then (jobshellref05_digits.l0 k1 (IntKind.u64.wrap (Int.tdiv x0_1 10)) ((strOfNums y273) ++ x3_1)) else (none)) = some r := by first | (rw [hy273]; with_reducible exact H) | (have H2_ := (Option.bind_some _ _).symm.trans H; rw [hy273]; with_reducible exact H2_) | (have H2_ := (Option.bind_some _ _).symm.trans H; with_reducible exact H2_) | with_reducible exact H | (rw [hy273]; exact H) | exact H
   have Ny273 := Aside0.mk hy273
   clear hy273
   by_cases c3 : (strOfNums y273).size + x3_1.size ≤ 9223372036854775807
   rotate_left
   ·rw [if_neg c3] at H
    exact absurd H (by simp)
   rw [if_pos c3] at H
   have c3b0 := eq_true c3
   have c3b1 : decide ((strOfNums y273).size + x3_1.size ≤ 9223372036854775807) = true := decide_eq_true c3
   try have c3b2 : (9223372036854775807 < (strOfNums y273).size + x3_1.size) = False := eq_false (Nat.not_lt.2 c3)
   have H' := Aside0.mk H
   clear H
   go_wp2_with (first | ((with_reducible refine gate_dst (N := 10) rfl ?_); refine Kd.R_lit (Kd.int .u8) _ 5 ?hg (N := 10) ?hd (xs := ([(IntKind.u64.wrap (48 + (Int.tmod x0_1 10))) % 256] : List Int)) (inner := [.int .u8 ((IntKind.u64.wrap (48 + (Int.tmod x0_1 10))) % 256)]) (ok := fun _ => True) (okp := fun _ => True) ?hr ?hp (fun _ hk => hk) trivial (Below.refl _ _) (Nat.le_refl _) (by simp) ?_; (case hd => rfl); (case hg => rfl); (case hr => first | (go_simp; done) | (go_simp; rfl)); (case hp => exact (Reps.one (show Kd.M (Kd.int .u8) _ _ _ ((IntKind.u64.wrap (48 + (Int.tmod x0_1 10))) % 256) [.int .u8 ((IntKind.u64.wrap (48 + (Int.tmod x0_1 10))) % 256)] from rfl) (Reps.none _ _))); intro v274 w4 ho5 hb hg_ hnew_; clear hg_ hnew_; (first | rw [← Ny273.out] at ho5 | (simp only [Int.reduceToNat] at ho5; rw [← Ny273.out] at ho5)); have n0_ := Aside0.mk (Kd.R_lower ho5 (below_size (by repeat (first | (with_reducible first | exact HB.out | apply below_alloc | apply pw_below_drewN | apply below_drew1) | exact HB.out)))); have n1_ := Aside0.mk (below_step (by repeat (first | (with_reducible first | exact HB.out | apply below_alloc | apply pw_below_drewN | apply below_drew1) | exact HB.out)) hb); clear HB; have HO275 := n0_; have HB := n1_; clear n0_ n1_; clear hb ho5; have hcv6 := own_string (P := Tryd.prog) Tryd.underlying110 Tryd.underlying5 Tryd.underlying9 (Kd.own_of_R HO275.out)))
   go_roundg k1
   case measure => have := HK1.out; omega
   case rel => exact ⟨(IntKind.u64.wrap (Int.tdiv x0_1 10)), ((strOfNums y273) ++ x3_1), (by first | rfl | (simp; done) | (simp [*]; done)), (by first | rfl | (simp; done) | (simp [*]; done)), H', ⟨by have := HK1.out; omega⟩, ⟨by repeat (first | (with_reducible first | exact HB.out | apply below_alloc | apply pw_below_drewN | apply below_drew1) | exact HB.out)⟩⟩
def jobshellref05_Decimal.f (k : Nat) (a0 : Int) : Option (ByteArray) := if a0 < 0 then ((jobshellref05_digits.f k (IntKind.u64.wrap ((IntKind.u64.wrap (wrap64 (-(wrap64 (a0 + 1))))) + 1))).bind fun t279 => (if 1 + t279.size ≤ 9223372036854775807 then (some ((⟨#[45]⟩ : ByteArray) ++ t279)) else (none))) else ((jobshellref05_digits.f k (IntKind.u64.wrap (a0))).bind fun t280 => (some t280))
theorem jobshellref05_Decimal.mono : ∀ a0 k, LeO (jobshellref05_Decimal.f k a0) (jobshellref05_Decimal.f (k + 1) a0) := by
 intro a0 k
 unfold jobshellref05_Decimal.f
 repeat' first
  | (with_reducible exact jobshellref05_digits.mono _ _)
  | (with_reducible exact LeO.refl _)
  | (with_reducible exact LeO.none _)
  | (with_reducible refine LeO.ite ?_ ?_)
  | (with_reducible refine LeO.bind ?_ (fun _ => ?_))
  | exact jobshellref05_digits.mono _ _
  | exact LeO.none _
  | refine LeO.ite ?_ ?_
  | refine LeO.bind ?_ (fun _ => ?_)
set_option maxHeartbeats 8000000 in
set_option maxRecDepth 100000 in
theorem jobshellref05_Decimal.calls (k : Nat) (a0 : Int) (r : ByteArray) (w : World) (h : jobshellref05_Decimal.f k a0 = some r) :
 Calls Tryd.prog 38 #[.int .i64 a0] w fun e w' => e = .returned (.string r) ∧ Below w.heap.size w w' := by
 have HB := Aside0.mk (Below.refl w.heap.size w)
 have H : (if a0 < 0 then ((jobshellref05_digits.f k (IntKind.u64.wrap ((IntKind.u64.wrap (wrap64 (-(wrap64 (a0 + 1))))) + 1))).bind fun t279 => (if 1 + t279.size ≤ 9223372036854775807 then (some ((⟨#[45]⟩ : ByteArray) ++ t279)) else (none))) else ((jobshellref05_digits.f k (IntKind.u64.wrap (a0))).bind fun t280 => (some t280))) = some r := h
 clear h
 by_cases c2 : a0 < 0
 rotate_left
 ·rw [if_neg c2] at H
  have c2b0 : decide (a0 < 0) = false := decide_eq_false c2
  clear c2
  replace H := Option.bind_eq_some_iff.mp H
  obtain ⟨t280, A60, H⟩ := H
  try dsimp only at H
  have A6 := Aside0.mk A60
  clear A60
  obtain rfl := Option.some.inj H
  go_enter Tryd.func38, Tryd.ntmps38
  go_wp2_with (first | ((with_reducible refine gate_callee (f := 67) rfl ?_); refine goesL_ (some 14) rfl rfl Tryd.func67 (by kernel_rfl) rfl #[.int .u64 (IntKind.u64.wrap (a0))] rfl (by (try simp only [List.map_toArray, List.map_cons, List.map_nil]); first | done | rfl | (simp only [List.length_drop, List.length_take]; rfl)) ?_; (with_reducible refine (jobshellref05_digits.calls k (IntKind.u64.wrap (a0)) t280 _ A6.out).mono ?_); rintro e w7 ⟨rfl, hb⟩; refine ⟨_, rfl, ?_⟩; have n0_ := Aside0.mk (below_step (by repeat (first | (with_reducible first | exact HB.out | apply below_alloc | apply pw_below_drewN | apply below_drew1) | exact HB.out)) hb); clear HB; have HB := n0_; clear n0_; (try clear hb); (try clear hb2); (try clear hk); (try clear hi)))
  go_ret
  exact ⟨by first | rfl | (simp [errW_none, errW_some] <;> rfl) | (simp [*, errW_none, errW_some] <;> rfl), by repeat (first | (with_reducible first | exact HB.out | apply below_alloc | apply pw_below_drewN | apply below_drew1) | exact HB.out)⟩
 rw [if_pos c2] at H
 have c2b0 : decide (a0 < 0) = true := decide_eq_true c2
 clear c2
 replace H := Option.bind_eq_some_iff.mp H
 obtain ⟨t279, A30, H⟩ := H
 try dsimp only at H
 have A3 := Aside0.mk A30
 clear A30
 by_cases c4 : 1 + t279.size ≤ 9223372036854775807
 rotate_left
 ·rw [if_neg c4] at H
  exact absurd H (by simp)
 rw [if_pos c4] at H
 have c4b0 := eq_true c4
 have c4b1 : decide (1 + t279.size ≤ 9223372036854775807) = true := decide_eq_true c4
 try have c4b2 : (9223372036854775807 < 1 + t279.size) = False := eq_false (Nat.not_lt.2 c4)
 obtain rfl := Option.some.inj H
 go_enter Tryd.func38, Tryd.ntmps38
 go_wp2_with (first | ((with_reducible refine gate_callee (f := 67) rfl ?_); refine goesL_ (some 10) rfl rfl Tryd.func67 (by kernel_rfl) rfl #[.int .u64 (IntKind.u64.wrap ((IntKind.u64.wrap (wrap64 (-(wrap64 (a0 + 1))))) + 1))] rfl (by (try simp only [List.map_toArray, List.map_cons, List.map_nil]); first | done | rfl | (simp only [List.length_drop, List.length_take]; rfl)) ?_; (with_reducible refine (jobshellref05_digits.calls k (IntKind.u64.wrap ((IntKind.u64.wrap (wrap64 (-(wrap64 (a0 + 1))))) + 1)) t279 _ A3.out).mono ?_); rintro e w5 ⟨rfl, hb⟩; refine ⟨_, rfl, ?_⟩; have n0_ := Aside0.mk (below_step (by repeat (first | (with_reducible first | exact HB.out | apply below_alloc | apply pw_below_drewN | apply below_drew1) | exact HB.out)) hb); clear HB; have HB := n0_; clear n0_; (try clear hb); (try clear hb2); (try clear hk); (try clear hi)))
 go_ret
 exact ⟨by first | rfl | (simp [errW_none, errW_some] <;> rfl) | (simp [*, errW_none, errW_some] <;> rfl), by repeat (first | (with_reducible first | exact HB.out | apply below_alloc | apply pw_below_drewN | apply below_drew1) | exact HB.out)⟩
def showO.j0 [Op05] : Nat → Int → Bool → Int → Int → ByteArray → List (S26) → Option (ByteArray)
 | 0, _, _, _, _, _, _ => none
 | k + 1, x3, x32, x102000, x102001, x102002, x102003 => if x32 = true then (if x102002.size + 3 ≤ 9223372036854775807 then (if 0 < (x102003.length : Int) then ((opnd05.f k ((rd_T26 x102003 0).f0) ((rd_T26 x102003 0).f1) ((rd_T26 x102003 0).f2) ((rd_T26 x102003 0).f3) 1).bind fun t108 => (if (x102002 ++ (⟨#[32, 61, 32]⟩ : ByteArray)).size + t108.size ≤ 9223372036854775807 then (some ((x102002 ++ (⟨#[32, 61, 32]⟩ : ByteArray)) ++ t108)) else (none))) else (none)) else (none)) else (if x102000 = 26 then (if x102002.size + 1 ≤ 9223372036854775807 then ((jobshellref05_sign.f x102001).bind fun t109 => (if (x102002 ++ (⟨#[32]⟩ : ByteArray)).size + t109.size ≤ 9223372036854775807 then (if ((x102002 ++ (⟨#[32]⟩ : ByteArray)) ++ t109).size + 2 ≤ 9223372036854775807 then (if 0 < (x102003.length : Int) then ((opnd05.f k ((rd_T26 x102003 0).f0) ((rd_T26 x102003 0).f1) ((rd_T26 x102003 0).f2) ((rd_T26 x102003 0).f3) 1).bind fun t111 => (if (((x102002 ++ (⟨#[32]⟩ : ByteArray)) ++ t109) ++ (⟨#[61, 32]⟩ : ByteArray)).size + t111.size ≤ 9223372036854775807 then (some ((((x102002 ++ (⟨#[32]⟩ : ByteArray)) ++ t109) ++ (⟨#[61, 32]⟩ : ByteArray)) ++ t111)) else (none))) else (none)) else (none)) else (none))) else (none)) else (if x102000 = 25 then (if 0 < (x102003.length : Int) then ((opnd05.f k ((rd_T26 x102003 0).f0) ((rd_T26 x102003 0).f1) ((rd_T26 x102003 0).f2) ((rd_T26 x102003 0).f3) 3).bind fun t113 => (if t113.size + 3 ≤ 9223372036854775807 then (if 1 < (x102003.length : Int) then ((opnd05.f k ((rd_T26 x102003 1).f0) ((rd_T26 x102003 1).f1) ((rd_T26 x102003 1).f2) ((rd_T26 x102003 1).f3) 1).bind fun t115 => (if (t113 ++ (⟨#[32, 63, 32]⟩ : ByteArray)).size + t115.size ≤ 9223372036854775807 then (if ((t113 ++ (⟨#[32, 63, 32]⟩ : ByteArray)) ++ t115).size + 3 ≤ 9223372036854775807 then (if 2 < (x102003.length : Int) then ((opnd05.f k ((rd_T26 x102003 2).f0) ((rd_T26 x102003 2).f1) ((rd_T26 x102003 2).f2) ((rd_T26 x102003 2).f3) 2).bind fun t117 => (if (((t113 ++ (⟨#[32, 63, 32]⟩ : ByteArray)) ++ t115) ++ (⟨#[32, 58, 32]⟩ : ByteArray)).size + t117.size ≤ 9223372036854775807 then (some ((((t113 ++ (⟨#[32, 63, 32]⟩ : ByteArray)) ++ t115) ++ (⟨#[32, 58, 32]⟩ : ByteArray)) ++ t117)) else (none))) else (none)) else (none)) else (none))) else (none)) else (none))) else (none)) else (if 0 < (x102003.length : Int) then ((opnd05.f k ((rd_T26 x102003 0).f0) ((rd_T26 x102003 0).f1) ((rd_T26 x102003 0).f2) ((rd_T26 x102003 0).f3) x3).bind fun t119 => (if t119.size + 1 ≤ 9223372036854775807 then ((jobshellref05_sign.f x102000).bind fun t120 => (if (t119 ++ (⟨#[32]⟩ : ByteArray)).size + t120.size ≤ 9223372036854775807 then (if ((t119 ++ (⟨#[32]⟩ : ByteArray)) ++ t120).size + 1 ≤ 9223372036854775807 then (if 1 < (x102003.length : Int) then ((opnd05.f k ((rd_T26 x102003 1).f0) ((rd_T26 x102003 1).f1) ((rd_T26 x102003 1).f2) ((rd_T26 x102003 1).f3) (wrap64 (x3 + 1))).bind fun t122 => (if (((t119 ++ (⟨#[32]⟩ : ByteArray)) ++ t120) ++ (⟨#[32]⟩ : ByteArray)).size + t122.size ≤ 9223372036854775807 then (some ((((t119 ++ (⟨#[32]⟩ : ByteArray)) ++ t120) ++ (⟨#[32]⟩ : ByteArray)) ++ t122)) else (none))) else (none)) else (none)) else (none))) else (none))) else (none))))
def showO.f [Op05] (k : Nat) (a0_0 : Int) (a0_1 : Int) (a0_2 : ByteArray) (l0_3 : List (S26)) : Option (ByteArray) := (jobshellref05_Level.f k a0_0).bind fun t102 => (if a0_0 = 1 then ((jobshellref05_Decimal.f k a0_1).bind fun t103 => (some t103)) else (if a0_0 = 2 then (some a0_2) else (if t102 = 13 then ((jobshellref05_sign.f a0_0).bind fun t104 => (if 0 < (l0_3.length : Int) then ((opnd05.f k ((rd_T26 l0_3 0).f0) ((rd_T26 l0_3 0).f1) ((rd_T26 l0_3 0).f2) ((rd_T26 l0_3 0).f3) 13).bind fun t106 => (if t104.size + t106.size ≤ 9223372036854775807 then (some (t104 ++ t106)) else (none))) else (none))) else (if a0_0 = 26 then (showO.j0 k t102 (a0_1 == 0) a0_0 a0_1 a0_2 l0_3) else (showO.j0 k t102 false a0_0 a0_1 a0_2 l0_3)))))
theorem showO.mono_l [Op05] : ∀ k, (∀ y0 y1 y2 y3 y4 y5, LeO (showO.j0 k y0 y1 y2 y3 y4 y5) (showO.j0 (k + 1) y0 y1 y2 y3 y4 y5))
 | 0 => fun _ _ _ _ _ _ r h => by simp [showO.j0] at h
 | k + 1 => by
  have ih0 := showO.mono_l k
  ·intro y0 y1 y2 y3 y4 y5
   unfold showO.j0
   repeat' first
   | (with_reducible exact ih0 _ _ _ _ _ _)
   | (with_reducible exact jobshellref05_Decimal.mono _ _)
   | (with_reducible exact jobshellref05_Level.mono _ _)
   | (with_reducible exact opnd05.mono _ _ _ _ _ _)
   | (with_reducible exact LeO.refl _)
   | (with_reducible exact LeO.none _)
   | (with_reducible refine LeO.ite ?_ ?_)
   | (with_reducible refine LeO.bind ?_ (fun _ => ?_))
   | exact ih0 _ _ _ _ _ _
   | exact jobshellref05_Decimal.mono _ _
   | exact jobshellref05_Level.mono _ _
   | exact opnd05.mono _ _ _ _ _ _
   | exact LeO.none _
   | refine LeO.ite ?_ ?_
   | refine LeO.bind ?_ (fun _ => ?_)
theorem showO.mono [Op05] : ∀ a0 a1 a2 a3 k, LeO (showO.f k a0 a1 a2 a3) (showO.f (k + 1) a0 a1 a2 a3) := by
 intro a0 a1 a2 a3 k
 have ih0 := showO.mono_l k
 unfold showO.f
 repeat' first
  | (with_reducible exact ih0 _ _ _ _ _ _)
  | (with_reducible exact jobshellref05_Decimal.mono _ _)
  | (with_reducible exact jobshellref05_Level.mono _ _)
  | (with_reducible exact opnd05.mono _ _ _ _ _ _)
  | (with_reducible exact LeO.refl _)
  | (with_reducible exact LeO.none _)
  | (with_reducible refine LeO.ite ?_ ?_)
  | (with_reducible refine LeO.bind ?_ (fun _ => ?_))
  | exact ih0 _ _ _ _ _ _
  | exact jobshellref05_Decimal.mono _ _
  | exact jobshellref05_Level.mono _ _
  | exact opnd05.mono _ _ _ _ _ _
  | exact LeO.none _
  | refine LeO.ite ?_ ?_
  | refine LeO.bind ?_ (fun _ => ?_)
def showO.T7 : Bool × List (List Nat × List Nat) := (true, [([], []), ([0], [0]), ([1], [1]), ([], []), ([3], [3]), ([4], [4]), ([5], [5]), ([6, 2], [6]), ([2, 7], [2, 7]), ([8, 7, 0, 1, 2, 3, 4, 5, 6, 7, 8], [8])])
def showO.B7 : List Nat := [0, 1, 3, 0, 8, 24, 56, 127, 255, 511]
theorem showO.tab7 : rtab .any (opsOf Tryd.f53 7) = showO.T7 := by kernel_rfl
theorem showO.bits7 : waitsOk showO.T7.2 showO.B7 = true := by kernel_rfl
def showO.T9 : Bool × List (List Nat × List Nat) := (true, [([], []), ([0], [0]), ([1], [1]), ([], []), ([3], [3]), ([4], [4]), ([5], [5]), ([6], [6]), ([2, 7], [2, 7]), ([8, 7, 0, 1, 2, 3, 4, 5, 6, 7, 8], [8])])
def showO.B9 : List Nat := [0, 1, 3, 0, 8, 24, 56, 120, 255, 511]
theorem showO.tab9 : rtab .any (opsOf Tryd.f53 9) = showO.T9 := by kernel_rfl
theorem showO.bits9 : waitsOk showO.T9.2 showO.B9 = true := by kernel_rfl
def showO.T11 : Bool × List (List Nat × List Nat) := (true, [([], []), ([0], [0]), ([1], [1]), ([], []), ([3], [3]), ([4], [4]), ([2, 5], [2, 5]), ([6], [6]), ([], []), ([8], [8]), ([9], [9]), ([10], [10]), ([11, 5], [11]), ([7, 12], [7, 12]), ([13, 12, 0, 1, 2, 3, 4, 5, 6, 7, 8, 9, 10, 11, 12, 13], [13])])
def showO.B11 : List Nat := [0, 1, 3, 0, 8, 24, 63, 127, 0, 256, 768, 1792, 3896, 8191, 16383]
theorem showO.tab11 : rtab .any (opsOf Tryd.f53 11) = showO.T11 := by kernel_rfl
theorem showO.bits11 : waitsOk showO.T11.2 showO.B11 = true := by kernel_rfl
def showO.T13 : Bool × List (List Nat × List Nat) := (true, [([], []), ([0], [0]), ([1], [1]), ([2], [2]), ([3], [3]), ([4], [4]), ([], []), ([6], [6]), ([7], [7]), ([8], [8]), ([9, 4], [9]), ([5, 10], [5, 10]), ([11], [11]), ([], []), ([13], [13]), ([14], [14]), ([15], [15]), ([16, 10], [16]), ([12, 17], [12, 17]), ([18, 17, 0, 1, 2, 3, 4, 5, 6, 7, 8, 9, 10, 11, 12, 13, 14, 15, 16, 17, 18], [18])])
def showO.B13 : List Nat := [0, 1, 3, 7, 15, 31, 0, 64, 192, 448, 991, 2047, 4095, 0, 8192, 24576, 57344, 124895, 262143, 524287]
theorem showO.tab13 : rtab .any (opsOf Tryd.f53 13) = showO.T13 := by kernel_rfl
theorem showO.bits13 : waitsOk showO.T13.2 showO.B13 = true := by kernel_rfl
def showO.T14 : Bool × List (List Nat × List Nat) := (true, [([], []), ([0], [0]), ([1], [1]), ([2], [2]), ([], []), ([3, 4], [3, 4]), ([5], [5]), ([], []), ([7], [7]), ([8, 5], [8]), ([6, 9], [6, 9]), ([10], [10]), ([], []), ([12], [12]), ([13], [13]), ([14], [14]), ([], []), ([16], [16]), ([15, 17, 9], [15, 17]), ([11, 18], [11, 18]), ([19, 18, 0, 1, 2, 3, 4, 5, 6, 7, 8, 9, 10, 11, 12, 13, 14, 15, 16, 17, 18, 19], [19])])
def showO.B14 : List Nat := [0, 1, 3, 7, 0, 31, 63, 0, 128, 447, 1023, 2047, 0, 4096, 12288, 28672, 0, 65536, 259007, 524287, 1048575]
theorem showO.tab14 : rtab .any (opsOf Tryd.f53 14) = showO.T14 := by kernel_rfl
theorem showO.bits14 : waitsOk showO.T14.2 showO.B14 = true := by kernel_rfl
set_option maxHeartbeats 8000000 in
set_option maxRecDepth 100000 in
theorem showO.calls [Op05] (k : Nat) (a0_0 : Int) (a0_1 : Int) (a0_2 : ByteArray) (A0_3 : Option Addr) (c0_3 : Nat) (l0_3 : List (S26)) (r : ByteArray) (w : World) (hr0_3 : Kd.C k26 w A0_3 l0_3.length l0_3) (hc0_3 : l0_3.length ≤ c0_3) (h : showO.f k a0_0 a0_1 a0_2 l0_3 = some r) :
 Calls Tryd.prog 53 #[.agg #[.int .i64 a0_0, .int .i64 a0_1, .string a0_2, .slice A0_3 l0_3.length c0_3]] w fun e w' => e = .returned (.string r) ∧ Below w.heap.size w w' := by
 have hu26 := Tryd.underlying26
 have HR0_3 := Aside0.mk hr0_3
 have HC0_3 := Aside0.mk hc0_3
 clear hr0_3 hc0_3
 have HB := Aside0.mk (Below.refl w.heap.size w)
 have H : ((jobshellref05_Level.f k a0_0).bind fun t102 => (if a0_0 = 1 then ((jobshellref05_Decimal.f k a0_1).bind fun t103 => (some t103)) else (if a0_0 = 2 then (some a0_2) else (if t102 = 13 then ((jobshellref05_sign.f a0_0).bind fun t104 => (if 0 < (l0_3.length : Int) then ((opnd05.f k ((rd_T26 l0_3 0).f0) ((rd_T26 l0_3 0).f1) ((rd_T26 l0_3 0).f2) ((rd_T26 l0_3 0).f3) 13).bind fun t106 => (if t104.size + t106.size ≤ 9223372036854775807 then (some (t104 ++ t106)) else (none))) else (none))) else (if a0_0 = 26 then (showO.j0 k t102 (a0_1 == 0) a0_0 a0_1 a0_2 l0_3) else (showO.j0 k t102 false a0_0 a0_1 a0_2 l0_3)))))) = some r := h
 clear h
 replace H := Option.bind_eq_some_iff.mp H
 obtain ⟨t102, A20, H⟩ := H
 try dsimp only at H
 have A2 := Aside0.mk A20
 clear A20
 by_cases c3 : a0_0 = 1
 ·rw [if_pos c3] at H
  have c3b0 : (a0_0 == 1) = true := beq_iff_eq.mpr c3
  have c3b1 : (a0_0 != 1) = false := bne_eq_false_iff_eq.mpr c3
  clear c3
  replace H := Option.bind_eq_some_iff.mp H
  obtain ⟨t103, A40, H⟩ := H
  try dsimp only at H
  have A4 := Aside0.mk A40
  clear A40
  obtain rfl := Option.some.inj H
  go_enter Tryd.func53, Tryd.ntmps53
  go_wp2_with (first | ((with_reducible refine gate_dst (N := 1) rfl ?_); refine box_event ?hg (N := 1) ?hd (cs := #[.int .i64 a0_0, .int .i64 a0_1, .string a0_2, .slice A0_3 l0_3.length c0_3]) (t := 26) ?hr ?_; (case hd => rfl); (case hg => rfl); (case hr => first | (go_simp; done) | (go_simp; rfl)); intro gb101 hg w5 hbox hb; have n0_ := Aside0.mk (below_step (by repeat (first | (with_reducible first | exact HB.out | apply below_alloc | apply pw_below_drewN | apply below_drew1) | exact HB.out)) hb); have n1_ := Aside0.mk (hbox); have n2_ := Aside0.mk ((by rw [hg]; exact (below_size (by repeat (first | (with_reducible first | exact HB.out | apply below_alloc | apply pw_below_drewN | apply below_drew1) | exact HB.out))) : w.heap.size ≤ gb101)); have n3_ := Aside0.mk ((by rw [hg]; exact (below_size (by repeat (first | (with_reducible first | exact HB.out | apply below_alloc | apply pw_below_drewN | apply below_drew1) | exact HB.out))) : w.heap.size ≤ gb101)); clear HB; have HB := n0_; have BK101 := n1_; have GW101 := n2_; have GE101 := n3_; clear n0_ n1_ n2_ n3_; clear hb hbox hg; have hcz6_0 : w5.cell? ⟨gb101, 0, none⟩ = some (.int .i64 a0_0) := (blk_cell BK101.out 0).trans rfl; have hcz6_1 : w5.cell? ⟨gb101, 1, none⟩ = some (.int .i64 a0_1) := (blk_cell BK101.out 1).trans rfl; have hcz6_2 : w5.cell? ⟨gb101, 2, none⟩ = some (.string a0_2) := (blk_cell BK101.out 2).trans rfl; have hcz6_3 : w5.cell? ⟨gb101, 3, none⟩ = some (.slice A0_3 l0_3.length c0_3) := (blk_cell BK101.out 3).trans rfl; have hfz6_0 := blk_frozen BK101.out 0; have hfz6_1 := blk_frozen BK101.out 1; have hfz6_2 := blk_frozen BK101.out 2; have hfz6_3 := blk_frozen BK101.out 3) | ((with_reducible refine gate_callee (f := 82) rfl ?_); refine goesL_ (some 6) rfl rfl Tryd.func82 (by kernel_rfl) rfl #[.int .i64 a0_0] rfl (by (try simp only [List.map_toArray, List.map_cons, List.map_nil]); first | done | rfl | (simp only [List.length_drop, List.length_take]; rfl)) ?_; (with_reducible refine (jobshellref05_Level.calls k a0_0 t102 _ A2.out).mono ?_); rintro e w' ⟨rfl, ⟨nd, rfl⟩⟩; refine ⟨_, rfl, ?_⟩) | ((with_reducible refine gate_callee (f := 38) rfl ?_); refine goesL_ (some 13) rfl rfl Tryd.func38 (by kernel_rfl) rfl #[.int .i64 a0_1] rfl (by (try simp only [List.map_toArray, List.map_cons, List.map_nil]); first | done | rfl | (simp only [List.length_drop, List.length_take]; rfl)) ?_; (with_reducible refine (jobshellref05_Decimal.calls k a0_1 t103 _ A4.out).mono ?_); rintro e w7 ⟨rfl, hb⟩; refine ⟨_, rfl, ?_⟩; have n0_ := Aside0.mk (blk_below (g := gb101) (o := .cells #[.int .i64 a0_0, .int .i64 a0_1, .string a0_2, .slice A0_3 l0_3.length c0_3] 26 (0, 0)) (by (with_reducible repeat (first | refine blk_drewN ?_ _ | refine blk_drew ?_ | refine blk_alloc ?_ _)); exact BK101.out) hb); have n1_ := Aside0.mk (below_step (by repeat (first | (with_reducible first | exact HB.out | apply below_alloc | apply pw_below_drewN | apply below_drew1 | refine below_set ?_ GE101.out) | exact HB.out)) hb); clear BK101; clear HB; have BK101 := n0_; have HB := n1_; clear n0_ n1_; (try clear hb); (try clear hb2); (try clear hk); (try clear hi)))
  go_ret
  exact ⟨by first | rfl | (simp [errW_none, errW_some] <;> rfl) | (simp [*, errW_none, errW_some] <;> rfl), by repeat (first | (with_reducible first | exact HB.out | apply below_alloc | apply pw_below_drewN | apply below_drew1 | refine below_set ?_ GE101.out) | exact HB.out)⟩
 rw [if_neg c3] at H
 have c3b0 : (a0_0 == 1) = false := beq_eq_false_iff_ne.mpr c3
 have c3b1 : (a0_0 != 1) = true := bne_iff_ne.mpr c3
 by_cases c8 : a0_0 = 2
 ·rw [if_pos c8] at H
  have c8b0 : (a0_0 == 2) = true := beq_iff_eq.mpr c8
  have c8b1 : (a0_0 != 2) = false := bne_eq_false_iff_eq.mpr c8
  clear c8
  obtain rfl := Option.some.inj H
  go_enter Tryd.func53, Tryd.ntmps53
  go_wp2_with (first | ((with_reducible refine gate_dst (N := 1) rfl ?_); refine box_event ?hg (N := 1) ?hd (cs := #[.int .i64 a0_0, .int .i64 a0_1, .string a0_2, .slice A0_3 l0_3.length c0_3]) (t := 26) ?hr ?_; (case hd => rfl); (case hg => rfl); (case hr => first | (go_simp; done) | (go_simp; rfl)); intro gb101 hg w9 hbox hb; have n0_ := Aside0.mk (below_step (by repeat (first | (with_reducible first | exact HB.out | apply below_alloc | apply pw_below_drewN | apply below_drew1) | exact HB.out)) hb); have n1_ := Aside0.mk (hbox); have n2_ := Aside0.mk ((by rw [hg]; exact (below_size (by repeat (first | (with_reducible first | exact HB.out | apply below_alloc | apply pw_below_drewN | apply below_drew1) | exact HB.out))) : w.heap.size ≤ gb101)); have n3_ := Aside0.mk ((by rw [hg]; exact (below_size (by repeat (first | (with_reducible first | exact HB.out | apply below_alloc | apply pw_below_drewN | apply below_drew1) | exact HB.out))) : w.heap.size ≤ gb101)); clear HB; have HB := n0_; have BK101 := n1_; have GW101 := n2_; have GE101 := n3_; clear n0_ n1_ n2_ n3_; clear hb hbox hg; have hcz10_0 : w9.cell? ⟨gb101, 0, none⟩ = some (.int .i64 a0_0) := (blk_cell BK101.out 0).trans rfl; have hcz10_1 : w9.cell? ⟨gb101, 1, none⟩ = some (.int .i64 a0_1) := (blk_cell BK101.out 1).trans rfl; have hcz10_2 : w9.cell? ⟨gb101, 2, none⟩ = some (.string a0_2) := (blk_cell BK101.out 2).trans rfl; have hcz10_3 : w9.cell? ⟨gb101, 3, none⟩ = some (.slice A0_3 l0_3.length c0_3) := (blk_cell BK101.out 3).trans rfl; have hfz10_0 := blk_frozen BK101.out 0; have hfz10_1 := blk_frozen BK101.out 1; have hfz10_2 := blk_frozen BK101.out 2; have hfz10_3 := blk_frozen BK101.out 3) | ((with_reducible refine gate_callee (f := 82) rfl ?_); refine goesL_ (some 6) rfl rfl Tryd.func82 (by kernel_rfl) rfl #[.int .i64 a0_0] rfl (by (try simp only [List.map_toArray, List.map_cons, List.map_nil]); first | done | rfl | (simp only [List.length_drop, List.length_take]; rfl)) ?_; (with_reducible refine (jobshellref05_Level.calls k a0_0 t102 _ A2.out).mono ?_); rintro e w' ⟨rfl, ⟨nd, rfl⟩⟩; refine ⟨_, rfl, ?_⟩))
  go_ret
  exact ⟨by first | rfl | (simp [errW_none, errW_some] <;> rfl) | (simp [*, errW_none, errW_some] <;> rfl), by repeat (first | (with_reducible first | exact HB.out | apply below_alloc | apply pw_below_drewN | apply below_drew1 | refine below_set ?_ GE101.out) | exact HB.out)⟩
 rw [if_neg c8] at H
 have c8b0 : (a0_0 == 2) = false := beq_eq_false_iff_ne.mpr c8
 have c8b1 : (a0_0 != 2) = true := bne_iff_ne.mpr c8
 by_cases c11 : t102 = 13
 ·rw [if_pos c11] at H
  have c11b0 : (t102 == 13) = true := beq_iff_eq.mpr c11
  have c11b1 : (t102 != 13) = false := bne_eq_false_iff_eq.mpr c11
  clear c11
  replace H := Option.bind_eq_some_iff.mp H
  obtain ⟨t104, A120, H⟩ := H
  try dsimp only at H
  have A12 := Aside0.mk A120
  clear A120
  by_cases c13 : 0 < (l0_3.length : Int)
  rotate_left
  ·rw [if_neg c13] at H
   exact absurd H (by simp)
  rw [if_pos c13] at H
  have c13b0 : decide (0 < (l0_3.length : Int)) = true := decide_eq_true c13
  have c13b1 : decide (0 < l0_3.length) = true := decide_eq_true (by omega)
  clear c13
  replace H := Option.bind_eq_some_iff.mp H
  obtain ⟨t106, A140, H⟩ := H
  try dsimp only at H
  have A14 := Aside0.mk A140
  clear A140
  by_cases c15 : t104.size + t106.size ≤ 9223372036854775807
  rotate_left
  ·rw [if_neg c15] at H
   exact absurd H (by simp)
  rw [if_pos c15] at H
  have c15b0 := eq_true c15
  have c15b1 : decide (t104.size + t106.size ≤ 9223372036854775807) = true := decide_eq_true c15
  try have c15b2 : (9223372036854775807 < t104.size + t106.size) = False := eq_false (Nat.not_lt.2 c15)
  obtain rfl := Option.some.inj H
  go_enter Tryd.func53, Tryd.ntmps53
  try go_wp2_with (first | ((with_reducible refine gate_dst (N := 1) rfl ?_); refine box_event ?hg (N := 1) ?hd (cs := #[.int .i64 a0_0, .int .i64 a0_1, .string a0_2, .slice A0_3 l0_3.length c0_3]) (t := 26) ?hr ?_; (case hd => rfl); (case hg => rfl); (case hr => first | (go_simp; done) | (go_simp; rfl)); intro gb101 hg w16 hbox hb; have n0_ := Aside0.mk (below_step (by repeat (first | (with_reducible first | exact HB.out | apply below_alloc | apply pw_below_drewN | apply below_drew1) | exact HB.out)) hb); have n1_ := Aside0.mk (hbox); have n2_ := Aside0.mk ((by rw [hg]; exact (below_size (by repeat (first | (with_reducible first | exact HB.out | apply below_alloc | apply pw_below_drewN | apply below_drew1) | exact HB.out))) : w.heap.size ≤ gb101)); have n3_ := Aside0.mk ((by rw [hg]; exact (below_size (by repeat (first | (with_reducible first | exact HB.out | apply below_alloc | apply pw_below_drewN | apply below_drew1) | exact HB.out))) : w.heap.size ≤ gb101)); clear HB; have HB := n0_; have BK101 := n1_; have GW101 := n2_; have GE101 := n3_; clear n0_ n1_ n2_ n3_; clear hb hbox hg; have hcz17_0 : w16.cell? ⟨gb101, 0, none⟩ = some (.int .i64 a0_0) := (blk_cell BK101.out 0).trans rfl; have hcz17_1 : w16.cell? ⟨gb101, 1, none⟩ = some (.int .i64 a0_1) := (blk_cell BK101.out 1).trans rfl; have hcz17_2 : w16.cell? ⟨gb101, 2, none⟩ = some (.string a0_2) := (blk_cell BK101.out 2).trans rfl; have hcz17_3 : w16.cell? ⟨gb101, 3, none⟩ = some (.slice A0_3 l0_3.length c0_3) := (blk_cell BK101.out 3).trans rfl; have hfz17_0 := blk_frozen BK101.out 0; have hfz17_1 := blk_frozen BK101.out 1; have hfz17_2 := blk_frozen BK101.out 2; have hfz17_3 := blk_frozen BK101.out 3) | ((with_reducible refine gate_callee (f := 82) rfl ?_); refine goesL_ (some 6) rfl rfl Tryd.func82 (by kernel_rfl) rfl #[.int .i64 a0_0] rfl (by (try simp only [List.map_toArray, List.map_cons, List.map_nil]); first | done | rfl | (simp only [List.length_drop, List.length_take]; rfl)) ?_; (with_reducible refine (jobshellref05_Level.calls k a0_0 t102 _ A2.out).mono ?_); rintro e w' ⟨rfl, ⟨nd, rfl⟩⟩; refine ⟨_, rfl, ?_⟩))
  (try (rw [drewN_self w16]; generalize hq_ : World.drewN w16 _ = w16; have n0_ : Aside0 (w16.heap[gb101]? = some (.cells #[.int .i64 a0_0, .int .i64 a0_1, .string a0_2, .slice A0_3 l0_3.length c0_3] 26 (0, 0))) := ⟨by rw [← hq_]; exact (by (with_reducible repeat (first | refine blk_drewN ?_ _ | refine blk_drew ?_ | refine blk_alloc ?_ _)); exact BK101.out)⟩; have n1_ : Aside0 (Below w.heap.size w w16) := ⟨by rw [← hq_]; exact (by repeat (first | (with_reducible first | exact HB.out | apply below_alloc | apply pw_below_drewN | apply below_drew1 | refine below_set ?_ GE101.out) | exact HB.out))⟩; clear BK101 HB hq_; have BK101 := n0_; have HB := n1_; clear n0_ n1_))
  have n0_ := Aside0.mk (blk_drew BK101.out)
  have n1_ := Aside0.mk (below_drew1 HB.out)
  clear BK101
  clear HB
  have BK101 := n0_
  have HB := n1_
  clear n0_ n1_
  have p105 : 0 ≤ (0 : Int) := (by omega)
  have q105 : 0 < (l0_3.length : Int) := of_decide_eq_true (by first | (with_reducible assumption) | assumption)
  obtain ⟨ad105, A105_3, c105_3, e105, hx105_0, hx105_1, hx105_2, hx105_3, hl105_3, hi105_3⟩ := at_T26 HR0_3.out 0 p105 q105
  have hw105_3 := hx105_3
  (try rw [show ((0 : Int)).toNat = 0 from rfl] at hw105_3)
  (try rw [show 0 * 4 = 0 from rfl] at hw105_3)
  (try rw [Addr.add_zero'] at hw105_3)
  have hw105_2 := hx105_2
  (try rw [show ((0 : Int)).toNat = 0 from rfl] at hw105_2)
  (try rw [show 0 * 4 = 0 from rfl] at hw105_2)
  (try rw [Addr.add_zero'] at hw105_2)
  have hw105_1 := hx105_1
  (try rw [show ((0 : Int)).toNat = 0 from rfl] at hw105_1)
  (try rw [show 0 * 4 = 0 from rfl] at hw105_1)
  (try rw [Addr.add_zero'] at hw105_1)
  have hw105_0 := hx105_0
  (try rw [show ((0 : Int)).toNat = 0 from rfl] at hw105_0)
  (try rw [show 0 * 4 = 0 from rfl] at hw105_0)
  (try rw [Addr.add_zero'] at hw105_0)
  cases e105
  have qi105 : (0 < l0_3.length) = True := eq_true (by omega)
  (try rw [show ((0 : Int)).toNat = 0 from rfl] at hx105_0)
  (try rw [show 0 * 4 = 0 from rfl] at hx105_0)
  (try rw [Addr.add_zero'] at hx105_0)
  (try rw [show ((0 : Int)).toNat = 0 from rfl] at hx105_1)
  (try rw [show 0 * 4 = 0 from rfl] at hx105_1)
  (try rw [Addr.add_zero'] at hx105_1)
  (try rw [show ((0 : Int)).toNat = 0 from rfl] at hx105_2)
  (try rw [show 0 * 4 = 0 from rfl] at hx105_2)
  (try rw [Addr.add_zero'] at hx105_2)
  (try rw [show ((0 : Int)).toNat = 0 from rfl] at hx105_3)
  (try rw [show 0 * 4 = 0 from rfl] at hx105_3)
  (try rw [Addr.add_zero'] at hx105_3)
  replace hx105_0 := (HB.out.cell (World.block_lt_of_cell? w _ hx105_0)).trans hx105_0
  replace hx105_1 := (HB.out.cell (World.block_lt_of_cell? w _ hx105_1)).trans hx105_1
  replace hx105_2 := (HB.out.cell (World.block_lt_of_cell? w _ hx105_2)).trans hx105_2
  replace hx105_3 := (HB.out.cell (World.block_lt_of_cell? w _ hx105_3)).trans hx105_3
  have HR105_3 := Aside0.mk hi105_3
  have HC105_3 := Aside0.mk hl105_3
  clear hi105_3 hl105_3
  replace p105 := eq_true p105
  replace q105 := eq_true q105
  refine start_ (n := 10) (S := fun w' => w'.cell? ⟨gb101, 0, none⟩ = some (.int .i64 a0_0) ∧ w'.cell? ⟨gb101, 1, none⟩ = some (.int .i64 a0_1) ∧ w'.cell? ⟨gb101, 2, none⟩ = some (.string a0_2) ∧ w'.cell? ⟨gb101, 3, none⟩ = some (.slice (some ad105) l0_3.length c0_3) ∧ w'.cell? ad105 = some (.int .i64 ((rd_T26 l0_3 0).f0)) ∧ w'.cell? ⟨ad105.block, ad105.off + 1, none⟩ = some (.int .i64 ((rd_T26 l0_3 0).f1)) ∧ w'.cell? ⟨ad105.block, ad105.off + 2, none⟩ = some (.string ((rd_T26 l0_3 0).f2)) ∧ w'.cell? ⟨ad105.block, ad105.off + 3, none⟩ = some (.slice A105_3 ((rd_T26 l0_3 0).f3).length c105_3)) (ds := []) #[false, false, false, false, false, false, false, false, false, false] (by kernel_rfl) rfl rfl ⟨(blk_cell BK101.out 0).trans rfl, (blk_cell BK101.out 1).trans rfl, (blk_cell BK101.out 2).trans rfl, (blk_cell BK101.out 3).trans rfl, ((HB.out.cell (World.block_lt_of_cell? w _ hw105_0)).trans hw105_0), ((HB.out.cell (World.block_lt_of_cell? w _ hw105_1)).trans hw105_1), ((HB.out.cell (World.block_lt_of_cell? w _ hw105_2)).trans hw105_2), ((HB.out.cell (World.block_lt_of_cell? w _ hw105_3)).trans hw105_3)⟩ (fun hHeld => ?_); refine with_tabW showO.tab7 showO.bits7 (fun HT_ HW_ => ?_)
  generalize w16.drew = w18 at BK101 HB HR105_3 hx105_0 hx105_1 hx105_2 hx105_3 hHeld ⊢
  refine pure_ (i := 0) (N := some 23) (v := ?_) (a' := ?_) #[true, false, false, false, false, false, false, false, false, false] rfl rfl (any_of HT_.out (by kernel_rfl)) (fun _ _ _ h => h) (Or.inl ⟨by rfl, ?_⟩) ?_ ?_
  rotate_left
  ·intro w'
   go_simp
   with_reducible rfl
  rotate_left
  ·simp only [Act.put, List.setIfInBounds_toArray, List.set_cons_zero, List.set_cons_succ, i64_w, i32_w]
   rfl
  refine pure_ (i := 3) (N := some 26) (v := ?_) (a' := ?_) #[true, false, false, true, false, false, false, false, false, false] rfl rfl (any_of HT_.out (by kernel_rfl)) (fun _ _ _ h => h) (Or.inl ⟨by rfl, ?_⟩) ?_ ?_
  rotate_left
  ·intro w'
   go_simp
   with_reducible rfl
  rotate_left
  ·simp only [Act.put, List.setIfInBounds_toArray, List.set_cons_zero, List.set_cons_succ, i64_w, i32_w]
   rfl
  refine take_ (i := 1) (N := some 24) (v := ?_) (a' := ?_) #[true, true, false, true, false, false, false, false, false, false] rfl rfl (take_ofW HT_.out HW_.out (by kernel_rfl)) (fun _ _ _ h => h) (Or.inl ⟨by rfl, ?_⟩) hHeld ?_ ?_
  rotate_left
  ·rintro w' ⟨s0, s1, s2, s3, s4, s5, s6, s7⟩
   go_simp
   with_reducible rfl
  rotate_left
  ·simp only [Act.put, List.setIfInBounds_toArray, List.set_cons_zero, List.set_cons_succ, i64_w, i32_w]
   rfl
  refine take_ (i := 4) (N := some 27) (v := ?_) (a' := ?_) #[true, true, false, true, true, false, false, false, false, false] rfl rfl (take_ofW HT_.out HW_.out (by kernel_rfl)) (fun _ _ _ h => h) (Or.inl ⟨by rfl, ?_⟩) hHeld ?_ ?_
  rotate_left
  ·rintro w' ⟨s0, s1, s2, s3, s4, s5, s6, s7⟩
   go_simp
   with_reducible rfl
  rotate_left
  ·simp only [Act.put, List.setIfInBounds_toArray, List.set_cons_zero, List.set_cons_succ, i64_w, i32_w]
   rfl
  refine pure_ (i := 5) (N := some 28) (v := ?_) (a' := ?_) #[true, true, false, true, true, true, false, false, false, false] rfl rfl (any_of HT_.out (by kernel_rfl)) (fun _ _ _ h => h) (Or.inl ⟨by rfl, ?_⟩) ?_ ?_
  rotate_left
  ·intro w'
   go_simp
   with_reducible rfl
  rotate_left
  ·simp only [Act.put, List.setIfInBounds_toArray, List.set_cons_zero, List.set_cons_succ, i64_w, i32_w]
   rfl
  refine take_ (i := 6) (N := some 29) (v := ?_) (a' := ?_) #[true, true, false, true, true, true, true, false, false, false] rfl rfl (take_ofW HT_.out HW_.out (by kernel_rfl)) (fun _ _ _ h => h) (Or.inl ⟨by rfl, ?_⟩) hHeld ?_ ?_
  rotate_left
  ·rintro w' ⟨s0, s1, s2, s3, s4, s5, s6, s7⟩
   go_simp
   with_reducible rfl
  rotate_left
  ·simp only [Act.put, List.setIfInBounds_toArray, List.set_cons_zero, List.set_cons_succ, i64_w, i32_w]
   rfl
  refine one_ (i := 2) (N := some 25) #[true, true, true, true, true, true, true, false, false, false] rfl rfl (one_of HT_.out (by kernel_rfl)) (by decide) (fun K hK => ?_)
  refine goes_ Tryd.func83 (by kernel_rfl) rfl #[.int .i64 a0_0] (by rfl) rfl rfl (by (try simp only [List.map_toArray, List.map_cons, List.map_nil]); first | done | rfl | (simp only [List.length_drop, List.length_take]; rfl)) ?_
  with_reducible refine (jobshellref05_sign.calls a0_0 t104 _ A12.out).mono ?_
  rintro e w19 ⟨rfl, hb⟩
  refine ⟨_, rfl, ?_⟩
  have n0_ := Aside0.mk (blk_below (g := gb101) (o := .cells #[.int .i64 a0_0, .int .i64 a0_1, .string a0_2, .slice (some ad105) l0_3.length c0_3] 26 (0, 0)) (by (with_reducible repeat (first | refine blk_drewN ?_ _ | refine blk_drew ?_ | refine blk_alloc ?_ _)); exact BK101.out) hb)
  have n1_ := Aside0.mk (below_step (by repeat (first | (with_reducible first | exact HB.out | apply below_alloc | apply pw_below_drewN | apply below_drew1 | refine below_set ?_ GE101.out) | exact HB.out)) hb)
  clear BK101
  clear HB
  have BK101 := n0_
  have HB := n1_
  clear n0_ n1_
  (try clear hb)
  (try clear hb2)
  (try clear hk)
  (try clear hi)
  refine hK.out _ _ ⟨(blk_cell BK101.out 0).trans rfl, (blk_cell BK101.out 1).trans rfl, (blk_cell BK101.out 2).trans rfl, (blk_cell BK101.out 3).trans rfl, ((HB.out.cell (World.block_lt_of_cell? w _ hw105_0)).trans hw105_0), ((HB.out.cell (World.block_lt_of_cell? w _ hw105_1)).trans hw105_1), ((HB.out.cell (World.block_lt_of_cell? w _ hw105_2)).trans hw105_2), ((HB.out.cell (World.block_lt_of_cell? w _ hw105_3)).trans hw105_3)⟩ (fun hHeld => ?_)
  clear hK K
  refine norm_ (a' := ?_) ?_ ?_
  rotate_left
  ·show Act.put _ (some 25) _ = _
   simp only [Act.put, List.setIfInBounds_toArray, List.set_cons_zero, List.set_cons_succ, i64_w, i32_w]
   rfl
  refine one_ (i := 7) (N := some 30) #[true, true, true, true, true, true, true, true, false, false] rfl rfl (one_of HT_.out (by kernel_rfl)) (by decide) (fun K hK => ?_)
  refine goes_ Tryd.func84 (by kernel_rfl) rfl #[.agg #[.int .i64 ((rd_T26 l0_3 0).f0), .int .i64 ((rd_T26 l0_3 0).f1), .string ((rd_T26 l0_3 0).f2), .slice A105_3 ((rd_T26 l0_3 0).f3).length c105_3], .int .i64 13] (by rfl) rfl rfl (by (try simp only [List.map_toArray, List.map_cons, List.map_nil]); first | done | rfl | (simp only [List.length_drop, List.length_take]; rfl)) ?_
  with_reducible refine (opnd05.calls k ((rd_T26 l0_3 0).f0) ((rd_T26 l0_3 0).f1) ((rd_T26 l0_3 0).f2) _ _ ((rd_T26 l0_3 0).f3) 13 t106 _ ?side1 ?side2 A14.out).mono ?_
  (case side1 => repeat (first | exact (Kd.C_below HR105_3.out HB.out) | (with_reducible refine Kd.C_alloc ?_ _) | (with_reducible refine Kd.C_drewN ?_ _) | (with_reducible refine Kd.C_drew ?_)))
  (case side2 => exact HC105_3.out)
  rintro e w20 ⟨rfl, hb⟩
  refine ⟨_, rfl, ?_⟩
  have n0_ := Aside0.mk (blk_below (g := gb101) (o := .cells #[.int .i64 a0_0, .int .i64 a0_1, .string a0_2, .slice (some ad105) l0_3.length c0_3] 26 (0, 0)) (by (with_reducible repeat (first | refine blk_drewN ?_ _ | refine blk_drew ?_ | refine blk_alloc ?_ _)); exact BK101.out) hb)
  have n1_ := Aside0.mk (below_step (by repeat (first | (with_reducible first | exact HB.out | apply below_alloc | apply pw_below_drewN | apply below_drew1 | refine below_set ?_ GE101.out) | exact HB.out)) hb)
  clear BK101
  clear HB
  have BK101 := n0_
  have HB := n1_
  clear n0_ n1_
  (try clear hb)
  (try clear hb2)
  (try clear hk)
  (try clear hi)
  refine hK.out _ _ ⟨(blk_cell BK101.out 0).trans rfl, (blk_cell BK101.out 1).trans rfl, (blk_cell BK101.out 2).trans rfl, (blk_cell BK101.out 3).trans rfl, ((HB.out.cell (World.block_lt_of_cell? w _ hw105_0)).trans hw105_0), ((HB.out.cell (World.block_lt_of_cell? w _ hw105_1)).trans hw105_1), ((HB.out.cell (World.block_lt_of_cell? w _ hw105_2)).trans hw105_2), ((HB.out.cell (World.block_lt_of_cell? w _ hw105_3)).trans hw105_3)⟩ (fun hHeld => ?_)
  clear hK K
  refine norm_ (a' := ?_) ?_ ?_
  rotate_left
  ·show Act.put _ (some 30) _ = _
   simp only [Act.put, List.setIfInBounds_toArray, List.set_cons_zero, List.set_cons_succ, i64_w, i32_w]
   rfl
  refine pure_ (i := 8) (N := some 31) (v := ?_) (a' := ?_) #[true, true, true, true, true, true, true, true, true, false] rfl rfl (any_of HT_.out (by kernel_rfl)) (fun _ _ _ h => h) (Or.inl ⟨by rfl, ?_⟩) ?_ ?_
  rotate_left
  ·intro w'
   go_simp
   with_reducible rfl
  rotate_left
  ·simp only [Act.put, List.setIfInBounds_toArray, List.set_cons_zero, List.set_cons_succ, i64_w, i32_w]
   rfl
  refine pure_ (i := 9) (N := some 2) (v := ?_) (a' := ?_) #[true, true, true, true, true, true, true, true, true, true] rfl rfl (any_of HT_.out (by kernel_rfl)) (fun _ _ _ h => h) (Or.inl ⟨by rfl, ?_⟩) ?_ ?_
  rotate_left
  ·intro w'
   go_simp
   with_reducible rfl
  rotate_left
  ·simp only [Act.put, List.setIfInBounds_toArray, List.set_cons_zero, List.set_cons_succ, i64_w, i32_w]
   rfl
  refine done_ (done_of HT_.out (by kernel_rfl)) ?_
  try go_wp2
  go_ret
  exact ⟨by first | rfl | (simp [errW_none, errW_some] <;> rfl) | (simp [*, errW_none, errW_some] <;> rfl), by repeat (first | (with_reducible first | exact HB.out | apply below_alloc | apply pw_below_drewN | apply below_drew1 | refine below_set ?_ GE101.out) | exact HB.out)⟩
 rw [if_neg c11] at H
 have c11b0 : (t102 == 13) = false := beq_eq_false_iff_ne.mpr c11
 have c11b1 : (t102 != 13) = true := bne_iff_ne.mpr c11
 have HC21 := Aside0.mk H
 clear H
 go_enter Tryd.func53, Tryd.ntmps53
 go_upto_region 8 with (first | ((with_reducible refine gate_dst (N := 1) rfl ?_); refine box_event ?hg (N := 1) ?hd (cs := #[.int .i64 a0_0, .int .i64 a0_1, .string a0_2, .slice A0_3 l0_3.length c0_3]) (t := 26) ?hr ?_; (case hd => rfl); (case hg => rfl); (case hr => first | (go_simp; done) | (go_simp; rfl)); intro gb101 hg w22 hbox hb; have n0_ := Aside0.mk (below_step (by repeat (first | (with_reducible first | exact HB.out | apply below_alloc | apply pw_below_drewN | apply below_drew1) | exact HB.out)) hb); have n1_ := Aside0.mk (hbox); have n2_ := Aside0.mk ((by rw [hg]; exact (below_size (by repeat (first | (with_reducible first | exact HB.out | apply below_alloc | apply pw_below_drewN | apply below_drew1) | exact HB.out))) : w.heap.size ≤ gb101)); have n3_ := Aside0.mk ((by rw [hg]; exact (below_size (by repeat (first | (with_reducible first | exact HB.out | apply below_alloc | apply pw_below_drewN | apply below_drew1) | exact HB.out))) : w.heap.size ≤ gb101)); clear HB; have HB := n0_; have BK101 := n1_; have GW101 := n2_; have GE101 := n3_; clear n0_ n1_ n2_ n3_; clear hb hbox hg; have hcz23_0 : w22.cell? ⟨gb101, 0, none⟩ = some (.int .i64 a0_0) := (blk_cell BK101.out 0).trans rfl; have hcz23_1 : w22.cell? ⟨gb101, 1, none⟩ = some (.int .i64 a0_1) := (blk_cell BK101.out 1).trans rfl; have hcz23_2 : w22.cell? ⟨gb101, 2, none⟩ = some (.string a0_2) := (blk_cell BK101.out 2).trans rfl; have hcz23_3 : w22.cell? ⟨gb101, 3, none⟩ = some (.slice A0_3 l0_3.length c0_3) := (blk_cell BK101.out 3).trans rfl; have hfz23_0 := blk_frozen BK101.out 0; have hfz23_1 := blk_frozen BK101.out 1; have hfz23_2 := blk_frozen BK101.out 2; have hfz23_3 := blk_frozen BK101.out 3) | ((with_reducible refine gate_callee (f := 82) rfl ?_); refine goesL_ (some 6) rfl rfl Tryd.func82 (by kernel_rfl) rfl #[.int .i64 a0_0] rfl (by (try simp only [List.map_toArray, List.map_cons, List.map_nil]); first | done | rfl | (simp only [List.length_drop, List.length_take]; rfl)) ?_; (with_reducible refine (jobshellref05_Level.calls k a0_0 t102 _ A2.out).mono ?_); rintro e w' ⟨rfl, ⟨nd, rfl⟩⟩; refine ⟨_, rfl, ?_⟩))
 (try simp only [Act.put, List.setIfInBounds_toArray, List.set_cons_zero, List.set_cons_succ])
 go_cut [32] (fun v32 wc => ∃ (kq : Nat) (x32_20 : Bool), v32 = .bool x32_20 ∧ Aside0 (showO.j0 kq t102 x32_20 a0_0 a0_1 a0_2 l0_3 = some r) ∧ Aside0 (kq ≤ k) ∧ Aside0 (wc.heap[gb101]? = some (.cells #[.int .i64 a0_0, .int .i64 a0_1, .string a0_2, (.slice A0_3 l0_3.length c0_3)] 26 (0, 0))) ∧ Aside0 (Below w.heap.size w wc))
 case first =>
  have H := HC21.out
  clear HC21
  by_cases c24 : a0_0 = 26
  rotate_left
  ·rw [if_neg c24] at H
   have c24b0 : (a0_0 == 26) = false := beq_eq_false_iff_ne.mpr c24
   have c24b1 : (a0_0 != 26) = true := bne_iff_ne.mpr c24
   (first | rw [c24b0] | (simp only [i64_w, i32_w]; rw [c24b0]) | skip)
   have H' := Aside0.mk H
   clear H
   have hcz26_0 : w22.cell? ⟨gb101, 0, none⟩ = some (.int .i64 a0_0) := (blk_cell BK101.out 0).trans rfl
   have hcz26_1 : w22.cell? ⟨gb101, 1, none⟩ = some (.int .i64 a0_1) := (blk_cell BK101.out 1).trans rfl
   have hcz26_2 : w22.cell? ⟨gb101, 2, none⟩ = some (.string a0_2) := (blk_cell BK101.out 2).trans rfl
   have hcz26_3 : w22.cell? ⟨gb101, 3, none⟩ = some (.slice A0_3 l0_3.length c0_3) := (blk_cell BK101.out 3).trans rfl
   have hfz26_0 := blk_frozen BK101.out 0
   have hfz26_1 := blk_frozen BK101.out 1
   have hfz26_2 := blk_frozen BK101.out 2
   have hfz26_3 := blk_frozen BK101.out 3
   go_wp2
   go_meet
   case rel => exact ⟨_, (false), (by first | rfl | (simp; done) | (simp [*]; done)), H', ⟨by first | omega | exact Nat.le_refl _⟩, ⟨by (with_reducible repeat (first | refine blk_drewN ?_ _ | refine blk_drew ?_ | refine blk_alloc ?_ _)); exact BK101.out⟩, ⟨by repeat (first | (with_reducible first | exact HB.out | apply below_alloc | apply pw_below_drewN | apply below_drew1 | refine below_set ?_ GE101.out) | exact HB.out)⟩⟩
  rw [if_pos c24] at H
  have c24b0 : (a0_0 == 26) = true := beq_iff_eq.mpr c24
  have c24b1 : (a0_0 != 26) = false := bne_eq_false_iff_eq.mpr c24
  clear c24
  (first | rw [c24b0] | (simp only [i64_w, i32_w]; rw [c24b0]) | skip)
  have H' := Aside0.mk H
  clear H
  have hcz25_0 : w22.cell? ⟨gb101, 0, none⟩ = some (.int .i64 a0_0) := (blk_cell BK101.out 0).trans rfl
  have hcz25_1 : w22.cell? ⟨gb101, 1, none⟩ = some (.int .i64 a0_1) := (blk_cell BK101.out 1).trans rfl
  have hcz25_2 : w22.cell? ⟨gb101, 2, none⟩ = some (.string a0_2) := (blk_cell BK101.out 2).trans rfl
  have hcz25_3 : w22.cell? ⟨gb101, 3, none⟩ = some (.slice A0_3 l0_3.length c0_3) := (blk_cell BK101.out 3).trans rfl
  have hfz25_0 := blk_frozen BK101.out 0
  have hfz25_1 := blk_frozen BK101.out 1
  have hfz25_2 := blk_frozen BK101.out 2
  have hfz25_3 := blk_frozen BK101.out 3
  go_wp2
  go_meet
  case rel => exact ⟨_, ((a0_1 == 0)), (by first | rfl | (simp; done) | (simp [*]; done)), H', ⟨by first | omega | exact Nat.le_refl _⟩, ⟨by (with_reducible repeat (first | refine blk_drewN ?_ _ | refine blk_drew ?_ | refine blk_alloc ?_ _)); exact BK101.out⟩, ⟨by repeat (first | (with_reducible first | exact HB.out | apply below_alloc | apply pw_below_drewN | apply below_drew1 | refine below_set ?_ GE101.out) | exact HB.out)⟩⟩
 case rest =>
  clear HC21
  obtain ⟨kq, x32_20, rfl, HA, HJ20, BK101, HB⟩ := hcut
  cases kq with
  | zero => exact absurd HA.out (by simp [showO.j0])
  | succ kj20 =>
   have H := HA.out
   clear HA
   simp only [showO.j0] at H
   by_cases c27 : x32_20 = true
   ·subst c27
    have H1 : (if a0_2.size + 3 ≤ 9223372036854775807 then (if 0 < (l0_3.length : Int) then ((opnd05.f kj20 ((rd_T26 l0_3 0).f0) ((rd_T26 l0_3 0).f1) ((rd_T26 l0_3 0).f2) ((rd_T26 l0_3 0).f3) 1).bind fun t108 => (if (a0_2 ++ (⟨#[32, 61, 32]⟩ : ByteArray)).size + t108.size ≤ 9223372036854775807 then (some ((a0_2 ++ (⟨#[32, 61, 32]⟩ : ByteArray)) ++ t108)) else (none))) else (none)) else (none)) = some r := by rw [if_pos rfl] at H; exact H
    clear H
    have H := H1
    clear H1
    by_cases c28 : a0_2.size + 3 ≤ 9223372036854775807
    rotate_left
    ·rw [if_neg c28] at H
     exact absurd H (by simp)
    rw [if_pos c28] at H
    have c28b0 := eq_true c28
    have c28b1 : decide (a0_2.size + 3 ≤ 9223372036854775807) = true := decide_eq_true c28
    try have c28b2 : (9223372036854775807 < a0_2.size + 3) = False := eq_false (Nat.not_lt.2 c28)
    by_cases c29 : 0 < (l0_3.length : Int)
    rotate_left
    ·rw [if_neg c29] at H
     exact absurd H (by simp)
    rw [if_pos c29] at H
    have c29b0 : decide (0 < (l0_3.length : Int)) = true := decide_eq_true c29
    have c29b1 : decide (0 < l0_3.length) = true := decide_eq_true (by omega)
    clear c29
    replace H := Option.bind_eq_some_iff.mp H
    obtain ⟨t108, A300, H⟩ := H
    try dsimp only at H
    have A30 := Aside0.mk A300
    clear A300
    by_cases c31 : (a0_2 ++ (⟨#[32, 61, 32]⟩ : ByteArray)).size + t108.size ≤ 9223372036854775807
    rotate_left
    ·rw [if_neg c31] at H
     exact absurd H (by simp)
    rw [if_pos c31] at H
    have c31b0 := eq_true c31
    have c31b1 : decide ((a0_2 ++ (⟨#[32, 61, 32]⟩ : ByteArray)).size + t108.size ≤ 9223372036854775807) = true := decide_eq_true c31
    try have c31b2 : (9223372036854775807 < (a0_2 ++ (⟨#[32, 61, 32]⟩ : ByteArray)).size + t108.size) = False := eq_false (Nat.not_lt.2 c31)
    try have c31b3 := c31b2
    try simp only [ByteArray.size_append, show (⟨#[32, 61, 32]⟩ : ByteArray).size = 3 from rfl, Nat.zero_add, Nat.add_zero] at c31b3
    obtain rfl := Option.some.inj H
    try go_wp2
    have n0_ := Aside0.mk (blk_drew BK101.out)
    have n1_ := Aside0.mk (below_drew1 HB.out)
    clear BK101
    clear HB
    have BK101 := n0_
    have HB := n1_
    clear n0_ n1_
    have p107 : 0 ≤ (0 : Int) := (by omega)
    have q107 : 0 < (l0_3.length : Int) := of_decide_eq_true (by first | (with_reducible assumption) | assumption)
    obtain ⟨ad107, A107_3, c107_3, e107, hx107_0, hx107_1, hx107_2, hx107_3, hl107_3, hi107_3⟩ := at_T26 HR0_3.out 0 p107 q107
    have hw107_3 := hx107_3
    (try rw [show ((0 : Int)).toNat = 0 from rfl] at hw107_3)
    (try rw [show 0 * 4 = 0 from rfl] at hw107_3)
    (try rw [Addr.add_zero'] at hw107_3)
    have hw107_2 := hx107_2
    (try rw [show ((0 : Int)).toNat = 0 from rfl] at hw107_2)
    (try rw [show 0 * 4 = 0 from rfl] at hw107_2)
    (try rw [Addr.add_zero'] at hw107_2)
    have hw107_1 := hx107_1
    (try rw [show ((0 : Int)).toNat = 0 from rfl] at hw107_1)
    (try rw [show 0 * 4 = 0 from rfl] at hw107_1)
    (try rw [Addr.add_zero'] at hw107_1)
    have hw107_0 := hx107_0
    (try rw [show ((0 : Int)).toNat = 0 from rfl] at hw107_0)
    (try rw [show 0 * 4 = 0 from rfl] at hw107_0)
    (try rw [Addr.add_zero'] at hw107_0)
    cases e107
    have qi107 : (0 < l0_3.length) = True := eq_true (by omega)
    (try rw [show ((0 : Int)).toNat = 0 from rfl] at hx107_0)
    (try rw [show 0 * 4 = 0 from rfl] at hx107_0)
    (try rw [Addr.add_zero'] at hx107_0)
    (try rw [show ((0 : Int)).toNat = 0 from rfl] at hx107_1)
    (try rw [show 0 * 4 = 0 from rfl] at hx107_1)
    (try rw [Addr.add_zero'] at hx107_1)
    (try rw [show ((0 : Int)).toNat = 0 from rfl] at hx107_2)
    (try rw [show 0 * 4 = 0 from rfl] at hx107_2)
    (try rw [Addr.add_zero'] at hx107_2)
    (try rw [show ((0 : Int)).toNat = 0 from rfl] at hx107_3)
    (try rw [show 0 * 4 = 0 from rfl] at hx107_3)
    (try rw [Addr.add_zero'] at hx107_3)
    replace hx107_0 := (HB.out.cell (World.block_lt_of_cell? w _ hx107_0)).trans hx107_0
    replace hx107_1 := (HB.out.cell (World.block_lt_of_cell? w _ hx107_1)).trans hx107_1
    replace hx107_2 := (HB.out.cell (World.block_lt_of_cell? w _ hx107_2)).trans hx107_2
    replace hx107_3 := (HB.out.cell (World.block_lt_of_cell? w _ hx107_3)).trans hx107_3
    have HR107_3 := Aside0.mk hi107_3
    have HC107_3 := Aside0.mk hl107_3
    clear hi107_3 hl107_3
    replace p107 := eq_true p107
    replace q107 := eq_true q107
    refine start_ (n := 10) (S := fun w' => w'.cell? ⟨gb101, 0, none⟩ = some (.int .i64 a0_0) ∧ w'.cell? ⟨gb101, 1, none⟩ = some (.int .i64 a0_1) ∧ w'.cell? ⟨gb101, 2, none⟩ = some (.string a0_2) ∧ w'.cell? ⟨gb101, 3, none⟩ = some (.slice (some ad107) l0_3.length c0_3) ∧ w'.cell? ad107 = some (.int .i64 ((rd_T26 l0_3 0).f0)) ∧ w'.cell? ⟨ad107.block, ad107.off + 1, none⟩ = some (.int .i64 ((rd_T26 l0_3 0).f1)) ∧ w'.cell? ⟨ad107.block, ad107.off + 2, none⟩ = some (.string ((rd_T26 l0_3 0).f2)) ∧ w'.cell? ⟨ad107.block, ad107.off + 3, none⟩ = some (.slice A107_3 ((rd_T26 l0_3 0).f3).length c107_3)) (ds := []) #[false, false, false, false, false, false, false, false, false, false] (by kernel_rfl) rfl rfl ⟨(blk_cell BK101.out 0).trans rfl, (blk_cell BK101.out 1).trans rfl, (blk_cell BK101.out 2).trans rfl, (blk_cell BK101.out 3).trans rfl, ((HB.out.cell (World.block_lt_of_cell? w _ hw107_0)).trans hw107_0), ((HB.out.cell (World.block_lt_of_cell? w _ hw107_1)).trans hw107_1), ((HB.out.cell (World.block_lt_of_cell? w _ hw107_2)).trans hw107_2), ((HB.out.cell (World.block_lt_of_cell? w _ hw107_3)).trans hw107_3)⟩ (fun hHeld => ?_); refine with_tabW showO.tab9 showO.bits9 (fun HT_ HW_ => ?_)
    generalize wc.drew = w32 at BK101 HB HR107_3 hx107_0 hx107_1 hx107_2 hx107_3 hHeld ⊢
    refine pure_ (i := 0) (N := some 41) (v := ?_) (a' := ?_) #[true, false, false, false, false, false, false, false, false, false] rfl rfl (any_of HT_.out (by kernel_rfl)) (fun _ _ _ h => h) (Or.inl ⟨by rfl, ?_⟩) ?_ ?_
    rotate_left
    ·intro w'
     go_simp
     with_reducible rfl
    rotate_left
    ·simp only [Act.put, List.setIfInBounds_toArray, List.set_cons_zero, List.set_cons_succ, i64_w, i32_w]
     rfl
    refine pure_ (i := 3) (N := some 44) (v := ?_) (a' := ?_) #[true, false, false, true, false, false, false, false, false, false] rfl rfl (any_of HT_.out (by kernel_rfl)) (fun _ _ _ h => h) (Or.inl ⟨by rfl, ?_⟩) ?_ ?_
    rotate_left
    ·intro w'
     go_simp
     with_reducible rfl
    rotate_left
    ·simp only [Act.put, List.setIfInBounds_toArray, List.set_cons_zero, List.set_cons_succ, i64_w, i32_w]
     rfl
    refine take_ (i := 1) (N := some 42) (v := ?_) (a' := ?_) #[true, true, false, true, false, false, false, false, false, false] rfl rfl (take_ofW HT_.out HW_.out (by kernel_rfl)) (fun _ _ _ h => h) (Or.inl ⟨by rfl, ?_⟩) hHeld ?_ ?_
    rotate_left
    ·rintro w' ⟨s0, s1, s2, s3, s4, s5, s6, s7⟩
     go_simp
     with_reducible rfl
    rotate_left
    ·simp only [Act.put, List.setIfInBounds_toArray, List.set_cons_zero, List.set_cons_succ, i64_w, i32_w]
     rfl
    refine pure_ (i := 2) (N := some 43) (v := ?_) (a' := ?_) #[true, true, true, true, false, false, false, false, false, false] rfl rfl (any_of HT_.out (by kernel_rfl)) (fun _ _ _ h => h) (Or.inl ⟨by rfl, ?_⟩) ?_ ?_
    rotate_left
    ·intro w'
     go_simp
     with_reducible rfl
    rotate_left
    ·simp only [Act.put, List.setIfInBounds_toArray, List.set_cons_zero, List.set_cons_succ, i64_w, i32_w]
     rfl
    refine take_ (i := 4) (N := some 45) (v := ?_) (a' := ?_) #[true, true, true, true, true, false, false, false, false, false] rfl rfl (take_ofW HT_.out HW_.out (by kernel_rfl)) (fun _ _ _ h => h) (Or.inl ⟨by rfl, ?_⟩) hHeld ?_ ?_
    rotate_left
    ·rintro w' ⟨s0, s1, s2, s3, s4, s5, s6, s7⟩
     go_simp
     with_reducible rfl
    rotate_left
    ·simp only [Act.put, List.setIfInBounds_toArray, List.set_cons_zero, List.set_cons_succ, i64_w, i32_w]
     rfl
    refine pure_ (i := 5) (N := some 46) (v := ?_) (a' := ?_) #[true, true, true, true, true, true, false, false, false, false] rfl rfl (any_of HT_.out (by kernel_rfl)) (fun _ _ _ h => h) (Or.inl ⟨by rfl, ?_⟩) ?_ ?_
    rotate_left
    ·intro w'
     go_simp
     with_reducible rfl
    rotate_left
    ·simp only [Act.put, List.setIfInBounds_toArray, List.set_cons_zero, List.set_cons_succ, i64_w, i32_w]
     rfl
    refine take_ (i := 6) (N := some 47) (v := ?_) (a' := ?_) #[true, true, true, true, true, true, true, false, false, false] rfl rfl (take_ofW HT_.out HW_.out (by kernel_rfl)) (fun _ _ _ h => h) (Or.inl ⟨by rfl, ?_⟩) hHeld ?_ ?_
    rotate_left
    ·rintro w' ⟨s0, s1, s2, s3, s4, s5, s6, s7⟩
     go_simp
     with_reducible rfl
    rotate_left
    ·simp only [Act.put, List.setIfInBounds_toArray, List.set_cons_zero, List.set_cons_succ, i64_w, i32_w]
     rfl
    refine one_ (i := 7) (N := some 48) #[true, true, true, true, true, true, true, true, false, false] rfl rfl (one_of HT_.out (by kernel_rfl)) (by decide) (fun K hK => ?_)
    refine goes_ Tryd.func84 (by kernel_rfl) rfl #[.agg #[.int .i64 ((rd_T26 l0_3 0).f0), .int .i64 ((rd_T26 l0_3 0).f1), .string ((rd_T26 l0_3 0).f2), .slice A107_3 ((rd_T26 l0_3 0).f3).length c107_3], .int .i64 1] (by rfl) rfl rfl (by (try simp only [List.map_toArray, List.map_cons, List.map_nil]); first | done | rfl | (simp only [List.length_drop, List.length_take]; rfl)) ?_
    with_reducible refine (opnd05.calls kj20 ((rd_T26 l0_3 0).f0) ((rd_T26 l0_3 0).f1) ((rd_T26 l0_3 0).f2) _ _ ((rd_T26 l0_3 0).f3) 1 t108 _ ?side1 ?side2 A30.out).mono ?_
    (case side1 => repeat (first | exact (Kd.C_below HR107_3.out HB.out) | (with_reducible refine Kd.C_alloc ?_ _) | (with_reducible refine Kd.C_drewN ?_ _) | (with_reducible refine Kd.C_drew ?_)))
    (case side2 => exact HC107_3.out)
    rintro e w33 ⟨rfl, hb⟩
    refine ⟨_, rfl, ?_⟩
    have n0_ := Aside0.mk (blk_below (g := gb101) (o := .cells #[.int .i64 a0_0, .int .i64 a0_1, .string a0_2, .slice (some ad107) l0_3.length c0_3] 26 (0, 0)) (by (with_reducible repeat (first | refine blk_drewN ?_ _ | refine blk_drew ?_ | refine blk_alloc ?_ _)); exact BK101.out) hb)
    have n1_ := Aside0.mk (below_step (by repeat (first | (with_reducible first | exact HB.out | apply below_alloc | apply pw_below_drewN | apply below_drew1 | refine below_set ?_ GE101.out) | exact HB.out)) hb)
    clear BK101
    clear HB
    have BK101 := n0_
    have HB := n1_
    clear n0_ n1_
    (try clear hb)
    (try clear hb2)
    (try clear hk)
    (try clear hi)
    refine hK.out _ _ ⟨(blk_cell BK101.out 0).trans rfl, (blk_cell BK101.out 1).trans rfl, (blk_cell BK101.out 2).trans rfl, (blk_cell BK101.out 3).trans rfl, ((HB.out.cell (World.block_lt_of_cell? w _ hw107_0)).trans hw107_0), ((HB.out.cell (World.block_lt_of_cell? w _ hw107_1)).trans hw107_1), ((HB.out.cell (World.block_lt_of_cell? w _ hw107_2)).trans hw107_2), ((HB.out.cell (World.block_lt_of_cell? w _ hw107_3)).trans hw107_3)⟩ (fun hHeld => ?_)
    clear hK K
    refine norm_ (a' := ?_) ?_ ?_
    rotate_left
    ·show Act.put _ (some 48) _ = _
     simp only [Act.put, List.setIfInBounds_toArray, List.set_cons_zero, List.set_cons_succ, i64_w, i32_w]
     rfl
    refine pure_ (i := 8) (N := some 49) (v := ?_) (a' := ?_) #[true, true, true, true, true, true, true, true, true, false] rfl rfl (any_of HT_.out (by kernel_rfl)) (fun _ _ _ h => h) (Or.inl ⟨by rfl, ?_⟩) ?_ ?_
    rotate_left
    ·intro w'
     go_simp
     with_reducible rfl
    rotate_left
    ·simp only [Act.put, List.setIfInBounds_toArray, List.set_cons_zero, List.set_cons_succ, i64_w, i32_w]
     rfl
    refine pure_ (i := 9) (N := some 2) (v := ?_) (a' := ?_) #[true, true, true, true, true, true, true, true, true, true] rfl rfl (any_of HT_.out (by kernel_rfl)) (fun _ _ _ h => h) (Or.inl ⟨by rfl, ?_⟩) ?_ ?_
    rotate_left
    ·intro w'
     go_simp
     with_reducible rfl
    rotate_left
    ·simp only [Act.put, List.setIfInBounds_toArray, List.set_cons_zero, List.set_cons_succ, i64_w, i32_w]
     rfl
    refine done_ (done_of HT_.out (by kernel_rfl)) ?_
    try go_wp2
    go_ret
    exact ⟨by first | rfl | (simp [errW_none, errW_some] <;> rfl) | (simp [*, errW_none, errW_some] <;> rfl), by repeat (first | (with_reducible first | exact HB.out | apply below_alloc | apply pw_below_drewN | apply below_drew1 | refine below_set ?_ GE101.out) | exact HB.out)⟩
   replace c27 := Bool.eq_false_iff.mpr c27
   subst c27
   have H1 : (if a0_0 = 26 then (if a0_2.size + 1 ≤ 9223372036854775807 then ((jobshellref05_sign.f a0_1).bind fun t109 => (if (a0_2 ++ (⟨#[32]⟩ : ByteArray)).size + t109.size ≤ 9223372036854775807 then (if ((a0_2 ++ (⟨#[32]⟩ : ByteArray)) ++ t109).size + 2 ≤ 9223372036854775807 then (if 0 < (l0_3.length : Int) then ((opnd05.f kj20 ((rd_T26 l0_3 0).f0) ((rd_T26 l0_3 0).f1) ((rd_T26 l0_3 0).f2) ((rd_T26 l0_3 0).f3) 1).bind fun t111 => (if (((a0_2 ++ (⟨#[32]⟩ : ByteArray)) ++ t109) ++ (⟨#[61, 32]⟩ : ByteArray)).size + t111.size ≤ 9223372036854775807 then (some ((((a0_2 ++ (⟨#[32]⟩ : ByteArray)) ++ t109) ++ (⟨#[61, 32]⟩ : ByteArray)) ++ t111)) else (none))) else (none)) else (none)) else (none))) else (none)) else (if a0_0 = 25 then (if 0 < (l0_3.length : Int) then ((opnd05.f kj20 ((rd_T26 l0_3 0).f0) ((rd_T26 l0_3 0).f1) ((rd_T26 l0_3 0).f2) ((rd_T26 l0_3 0).f3) 3).bind fun t113 => (if t113.size + 3 ≤ 9223372036854775807 then (if 1 < (l0_3.length : Int) then ((opnd05.f kj20 ((rd_T26 l0_3 1).f0) ((rd_T26 l0_3 1).f1) ((rd_T26 l0_3 1).f2) ((rd_T26 l0_3 1).f3) 1).bind fun t115 => (if (t113 ++ (⟨#[32, 63, 32]⟩ : ByteArray)).size + t115.size ≤ 9223372036854775807 then (if ((t113 ++ (⟨#[32, 63, 32]⟩ : ByteArray)) ++ t115).size + 3 ≤ 9223372036854775807 then (if 2 < (l0_3.length : Int) then ((opnd05.f kj20 ((rd_T26 l0_3 2).f0) ((rd_T26 l0_3 2).f1) ((rd_T26 l0_3 2).f2) ((rd_T26 l0_3 2).f3) 2).bind fun t117 => (if (((t113 ++ (⟨#[32, 63, 32]⟩ : ByteArray)) ++ t115) ++ (⟨#[32, 58, 32]⟩ : ByteArray)).size + t117.size ≤ 9223372036854775807 then (some ((((t113 ++ (⟨#[32, 63, 32]⟩ : ByteArray)) ++ t115) ++ (⟨#[32, 58, 32]⟩ : ByteArray)) ++ t117)) else (none))) else (none)) else (none)) else (none))) else (none)) else (none))) else (none)) else (if 0 < (l0_3.length : Int) then ((opnd05.f kj20 ((rd_T26 l0_3 0).f0) ((rd_T26 l0_3 0).f1) ((rd_T26 l0_3 0).f2) ((rd_T26 l0_3 0).f3) t102).bind fun t119 => (if t119.size + 1 ≤ 9223372036854775807 then ((jobshellref05_sign.f a0_0).bind fun t120 => (if (t119 ++ (⟨#[32]⟩ : ByteArray)).size + t120.size ≤ 9223372036854775807 then (if ((t119 ++ (⟨#[32]⟩ : ByteArray)) ++ t120).size + 1 ≤ 9223372036854775807 then (if 1 < (l0_3.length : Int) then ((opnd05.f kj20 ((rd_T26 l0_3 1).f0) ((rd_T26 l0_3 1).f1) ((rd_T26 l0_3 1).f2) ((rd_T26 l0_3 1).f3) (wrap64 (t102 + 1))).bind fun t122 => (if (((t119 ++ (⟨#[32]⟩ : ByteArray)) ++ t120) ++ (⟨#[32]⟩ : ByteArray)).size + t122.size ≤ 9223372036854775807 then (some ((((t119 ++ (⟨#[32]⟩ : ByteArray)) ++ t120) ++ (⟨#[32]⟩ : ByteArray)) ++ t122)) else (none))) else (none)) else (none)) else (none))) else (none))) else (none)))) = some r := by rw [if_neg (show ¬ (false = true) by decide)] at H; exact H
   clear H
   have H := H1
   clear H1
   by_cases c34 : a0_0 = 26
   ·rw [if_pos c34] at H
    have c34b0 : (a0_0 == 26) = true := beq_iff_eq.mpr c34
    have c34b1 : (a0_0 != 26) = false := bne_eq_false_iff_eq.mpr c34
    clear c34
    by_cases c35 : a0_2.size + 1 ≤ 9223372036854775807
    rotate_left
    ·rw [if_neg c35] at H
     exact absurd H (by simp)
    rw [if_pos c35] at H
    have c35b0 := eq_true c35
    have c35b1 : decide (a0_2.size + 1 ≤ 9223372036854775807) = true := decide_eq_true c35
    try have c35b2 : (9223372036854775807 < a0_2.size + 1) = False := eq_false (Nat.not_lt.2 c35)
    replace H := Option.bind_eq_some_iff.mp H
    obtain ⟨t109, A360, H⟩ := H
    try dsimp only at H
    have A36 := Aside0.mk A360
    clear A360
    by_cases c37 : (a0_2 ++ (⟨#[32]⟩ : ByteArray)).size + t109.size ≤ 9223372036854775807
    rotate_left
    ·rw [if_neg c37] at H
     exact absurd H (by simp)
    rw [if_pos c37] at H
    have c37b0 := eq_true c37
    have c37b1 : decide ((a0_2 ++ (⟨#[32]⟩ : ByteArray)).size + t109.size ≤ 9223372036854775807) = true := decide_eq_true c37
    try have c37b2 : (9223372036854775807 < (a0_2 ++ (⟨#[32]⟩ : ByteArray)).size + t109.size) = False := eq_false (Nat.not_lt.2 c37)
    try have c37b3 := c37b2
    try simp only [ByteArray.size_append, show (⟨#[32]⟩ : ByteArray).size = 1 from rfl, Nat.zero_add, Nat.add_zero] at c37b3
    by_cases c38 : ((a0_2 ++ (⟨#[32]⟩ : ByteArray)) ++ t109).size + 2 ≤ 9223372036854775807
    rotate_left
    ·rw [if_neg c38] at H
     exact absurd H (by simp)
    rw [if_pos c38] at H
    have c38b0 := eq_true c38
    have c38b1 : decide (((a0_2 ++ (⟨#[32]⟩ : ByteArray)) ++ t109).size + 2 ≤ 9223372036854775807) = true := decide_eq_true c38
    try have c38b2 : (9223372036854775807 < ((a0_2 ++ (⟨#[32]⟩ : ByteArray)) ++ t109).size + 2) = False := eq_false (Nat.not_lt.2 c38)
    try have c38b3 := c38b2
    try simp only [ByteArray.size_append, show (⟨#[32]⟩ : ByteArray).size = 1 from rfl, Nat.zero_add, Nat.add_zero] at c38b3
    by_cases c39 : 0 < (l0_3.length : Int)
    rotate_left
    ·rw [if_neg c39] at H
     exact absurd H (by simp)
    rw [if_pos c39] at H
    have c39b0 : decide (0 < (l0_3.length : Int)) = true := decide_eq_true c39
    have c39b1 : decide (0 < l0_3.length) = true := decide_eq_true (by omega)
    clear c39
    replace H := Option.bind_eq_some_iff.mp H
    obtain ⟨t111, A400, H⟩ := H
    try dsimp only at H
    have A40 := Aside0.mk A400
    clear A400
    by_cases c41 : (((a0_2 ++ (⟨#[32]⟩ : ByteArray)) ++ t109) ++ (⟨#[61, 32]⟩ : ByteArray)).size + t111.size ≤ 9223372036854775807
    rotate_left
    ·rw [if_neg c41] at H
     exact absurd H (by simp)
    rw [if_pos c41] at H
    have c41b0 := eq_true c41
    have c41b1 : decide ((((a0_2 ++ (⟨#[32]⟩ : ByteArray)) ++ t109) ++ (⟨#[61, 32]⟩ : ByteArray)).size + t111.size ≤ 9223372036854775807) = true := decide_eq_true c41
    try have c41b2 : (9223372036854775807 < (((a0_2 ++ (⟨#[32]⟩ : ByteArray)) ++ t109) ++ (⟨#[61, 32]⟩ : ByteArray)).size + t111.size) = False := eq_false (Nat.not_lt.2 c41)
    try have c41b3 := c41b2
    try simp only [ByteArray.size_append, show (⟨#[32]⟩ : ByteArray).size = 1 from rfl, show (⟨#[61, 32]⟩ : ByteArray).size = 2 from rfl, Nat.zero_add, Nat.add_zero] at c41b3
    obtain rfl := Option.some.inj H
    have hcz42_0 : wc.cell? ⟨gb101, 0, none⟩ = some (.int .i64 a0_0) := (blk_cell BK101.out 0).trans rfl
    have hcz42_1 : wc.cell? ⟨gb101, 1, none⟩ = some (.int .i64 a0_1) := (blk_cell BK101.out 1).trans rfl
    have hcz42_2 : wc.cell? ⟨gb101, 2, none⟩ = some (.string a0_2) := (blk_cell BK101.out 2).trans rfl
    have hcz42_3 : wc.cell? ⟨gb101, 3, none⟩ = some (.slice A0_3 l0_3.length c0_3) := (blk_cell BK101.out 3).trans rfl
    have hfz42_0 := blk_frozen BK101.out 0
    have hfz42_1 := blk_frozen BK101.out 1
    have hfz42_2 := blk_frozen BK101.out 2
    have hfz42_3 := blk_frozen BK101.out 3
    try go_wp2
    have n0_ := Aside0.mk (blk_drew BK101.out)
    have n1_ := Aside0.mk (below_drew1 HB.out)
    clear BK101
    clear HB
    have BK101 := n0_
    have HB := n1_
    clear n0_ n1_
    have p110 : 0 ≤ (0 : Int) := (by omega)
    have q110 : 0 < (l0_3.length : Int) := of_decide_eq_true (by first | (with_reducible assumption) | assumption)
    obtain ⟨ad110, A110_3, c110_3, e110, hx110_0, hx110_1, hx110_2, hx110_3, hl110_3, hi110_3⟩ := at_T26 HR0_3.out 0 p110 q110
    have hw110_3 := hx110_3
    (try rw [show ((0 : Int)).toNat = 0 from rfl] at hw110_3)
    (try rw [show 0 * 4 = 0 from rfl] at hw110_3)
    (try rw [Addr.add_zero'] at hw110_3)
    have hw110_2 := hx110_2
    (try rw [show ((0 : Int)).toNat = 0 from rfl] at hw110_2)
    (try rw [show 0 * 4 = 0 from rfl] at hw110_2)
    (try rw [Addr.add_zero'] at hw110_2)
    have hw110_1 := hx110_1
    (try rw [show ((0 : Int)).toNat = 0 from rfl] at hw110_1)
    (try rw [show 0 * 4 = 0 from rfl] at hw110_1)
    (try rw [Addr.add_zero'] at hw110_1)
    have hw110_0 := hx110_0
    (try rw [show ((0 : Int)).toNat = 0 from rfl] at hw110_0)
    (try rw [show 0 * 4 = 0 from rfl] at hw110_0)
    (try rw [Addr.add_zero'] at hw110_0)
    cases e110
    have qi110 : (0 < l0_3.length) = True := eq_true (by omega)
    (try rw [show ((0 : Int)).toNat = 0 from rfl] at hx110_0)
    (try rw [show 0 * 4 = 0 from rfl] at hx110_0)
    (try rw [Addr.add_zero'] at hx110_0)
    (try rw [show ((0 : Int)).toNat = 0 from rfl] at hx110_1)
    (try rw [show 0 * 4 = 0 from rfl] at hx110_1)
    (try rw [Addr.add_zero'] at hx110_1)
    (try rw [show ((0 : Int)).toNat = 0 from rfl] at hx110_2)
    (try rw [show 0 * 4 = 0 from rfl] at hx110_2)
    (try rw [Addr.add_zero'] at hx110_2)
    (try rw [show ((0 : Int)).toNat = 0 from rfl] at hx110_3)
    (try rw [show 0 * 4 = 0 from rfl] at hx110_3)
    (try rw [Addr.add_zero'] at hx110_3)
    replace hx110_0 := (HB.out.cell (World.block_lt_of_cell? w _ hx110_0)).trans hx110_0
    replace hx110_1 := (HB.out.cell (World.block_lt_of_cell? w _ hx110_1)).trans hx110_1
    replace hx110_2 := (HB.out.cell (World.block_lt_of_cell? w _ hx110_2)).trans hx110_2
    replace hx110_3 := (HB.out.cell (World.block_lt_of_cell? w _ hx110_3)).trans hx110_3
    have HR110_3 := Aside0.mk hi110_3
    have HC110_3 := Aside0.mk hl110_3
    clear hi110_3 hl110_3
    replace p110 := eq_true p110
    replace q110 := eq_true q110
    refine start_ (n := 15) (S := fun w' => w'.cell? ⟨gb101, 0, none⟩ = some (.int .i64 a0_0) ∧ w'.cell? ⟨gb101, 1, none⟩ = some (.int .i64 a0_1) ∧ w'.cell? ⟨gb101, 2, none⟩ = some (.string a0_2) ∧ w'.cell? ⟨gb101, 3, none⟩ = some (.slice (some ad110) l0_3.length c0_3) ∧ w'.cell? ad110 = some (.int .i64 ((rd_T26 l0_3 0).f0)) ∧ w'.cell? ⟨ad110.block, ad110.off + 1, none⟩ = some (.int .i64 ((rd_T26 l0_3 0).f1)) ∧ w'.cell? ⟨ad110.block, ad110.off + 2, none⟩ = some (.string ((rd_T26 l0_3 0).f2)) ∧ w'.cell? ⟨ad110.block, ad110.off + 3, none⟩ = some (.slice A110_3 ((rd_T26 l0_3 0).f3).length c110_3)) (ds := []) #[false, false, false, false, false, false, false, false, false, false, false, false, false, false, false] (by kernel_rfl) rfl rfl ⟨(blk_cell BK101.out 0).trans rfl, (blk_cell BK101.out 1).trans rfl, (blk_cell BK101.out 2).trans rfl, (blk_cell BK101.out 3).trans rfl, ((HB.out.cell (World.block_lt_of_cell? w _ hw110_0)).trans hw110_0), ((HB.out.cell (World.block_lt_of_cell? w _ hw110_1)).trans hw110_1), ((HB.out.cell (World.block_lt_of_cell? w _ hw110_2)).trans hw110_2), ((HB.out.cell (World.block_lt_of_cell? w _ hw110_3)).trans hw110_3)⟩ (fun hHeld => ?_); refine with_tabW showO.tab11 showO.bits11 (fun HT_ HW_ => ?_)
    generalize wc.drew = w43 at BK101 HB HR110_3 hx110_0 hx110_1 hx110_2 hx110_3 hHeld ⊢
    refine pure_ (i := 0) (N := some 54) (v := ?_) (a' := ?_) #[true, false, false, false, false, false, false, false, false, false, false, false, false, false, false] rfl rfl (any_of HT_.out (by kernel_rfl)) (fun _ _ _ h => h) (Or.inl ⟨by rfl, ?_⟩) ?_ ?_
    rotate_left
    ·intro w'
     go_simp
     with_reducible rfl
    rotate_left
    ·simp only [Act.put, List.setIfInBounds_toArray, List.set_cons_zero, List.set_cons_succ, i64_w, i32_w]
     rfl
    refine pure_ (i := 3) (N := some 57) (v := ?_) (a' := ?_) #[true, false, false, true, false, false, false, false, false, false, false, false, false, false, false] rfl rfl (any_of HT_.out (by kernel_rfl)) (fun _ _ _ h => h) (Or.inl ⟨by rfl, ?_⟩) ?_ ?_
    rotate_left
    ·intro w'
     go_simp
     with_reducible rfl
    rotate_left
    ·simp only [Act.put, List.setIfInBounds_toArray, List.set_cons_zero, List.set_cons_succ, i64_w, i32_w]
     rfl
    refine pure_ (i := 8) (N := some 62) (v := ?_) (a' := ?_) #[true, false, false, true, false, false, false, false, true, false, false, false, false, false, false] rfl rfl (any_of HT_.out (by kernel_rfl)) (fun _ _ _ h => h) (Or.inl ⟨by rfl, ?_⟩) ?_ ?_
    rotate_left
    ·intro w'
     go_simp
     with_reducible rfl
    rotate_left
    ·simp only [Act.put, List.setIfInBounds_toArray, List.set_cons_zero, List.set_cons_succ, i64_w, i32_w]
     rfl
    refine take_ (i := 1) (N := some 55) (v := ?_) (a' := ?_) #[true, true, false, true, false, false, false, false, true, false, false, false, false, false, false] rfl rfl (take_ofW HT_.out HW_.out (by kernel_rfl)) (fun _ _ _ h => h) (Or.inl ⟨by rfl, ?_⟩) hHeld ?_ ?_
    rotate_left
    ·rintro w' ⟨s0, s1, s2, s3, s4, s5, s6, s7⟩
     go_simp
     with_reducible rfl
    rotate_left
    ·simp only [Act.put, List.setIfInBounds_toArray, List.set_cons_zero, List.set_cons_succ, i64_w, i32_w]
     rfl
    refine pure_ (i := 2) (N := some 56) (v := ?_) (a' := ?_) #[true, true, true, true, false, false, false, false, true, false, false, false, false, false, false] rfl rfl (any_of HT_.out (by kernel_rfl)) (fun _ _ _ h => h) (Or.inl ⟨by rfl, ?_⟩) ?_ ?_
    rotate_left
    ·intro w'
     go_simp
     with_reducible rfl
    rotate_left
    ·simp only [Act.put, List.setIfInBounds_toArray, List.set_cons_zero, List.set_cons_succ, i64_w, i32_w]
     rfl
    refine take_ (i := 4) (N := some 58) (v := ?_) (a' := ?_) #[true, true, true, true, true, false, false, false, true, false, false, false, false, false, false] rfl rfl (take_ofW HT_.out HW_.out (by kernel_rfl)) (fun _ _ _ h => h) (Or.inl ⟨by rfl, ?_⟩) hHeld ?_ ?_
    rotate_left
    ·rintro w' ⟨s0, s1, s2, s3, s4, s5, s6, s7⟩
     go_simp
     with_reducible rfl
    rotate_left
    ·simp only [Act.put, List.setIfInBounds_toArray, List.set_cons_zero, List.set_cons_succ, i64_w, i32_w]
     rfl
    refine take_ (i := 9) (N := some 63) (v := ?_) (a' := ?_) #[true, true, true, true, true, false, false, false, true, true, false, false, false, false, false] rfl rfl (take_ofW HT_.out HW_.out (by kernel_rfl)) (fun _ _ _ h => h) (Or.inl ⟨by rfl, ?_⟩) hHeld ?_ ?_
    rotate_left
    ·rintro w' ⟨s0, s1, s2, s3, s4, s5, s6, s7⟩
     go_simp
     with_reducible rfl
    rotate_left
    ·simp only [Act.put, List.setIfInBounds_toArray, List.set_cons_zero, List.set_cons_succ, i64_w, i32_w]
     rfl
    refine pure_ (i := 10) (N := some 64) (v := ?_) (a' := ?_) #[true, true, true, true, true, false, false, false, true, true, true, false, false, false, false] rfl rfl (any_of HT_.out (by kernel_rfl)) (fun _ _ _ h => h) (Or.inl ⟨by rfl, ?_⟩) ?_ ?_
    rotate_left
    ·intro w'
     go_simp
     with_reducible rfl
    rotate_left
    ·simp only [Act.put, List.setIfInBounds_toArray, List.set_cons_zero, List.set_cons_succ, i64_w, i32_w]
     rfl
    refine take_ (i := 11) (N := some 65) (v := ?_) (a' := ?_) #[true, true, true, true, true, false, false, false, true, true, true, true, false, false, false] rfl rfl (take_ofW HT_.out HW_.out (by kernel_rfl)) (fun _ _ _ h => h) (Or.inl ⟨by rfl, ?_⟩) hHeld ?_ ?_
    rotate_left
    ·rintro w' ⟨s0, s1, s2, s3, s4, s5, s6, s7⟩
     go_simp
     with_reducible rfl
    rotate_left
    ·simp only [Act.put, List.setIfInBounds_toArray, List.set_cons_zero, List.set_cons_succ, i64_w, i32_w]
     rfl
    refine one_ (i := 5) (N := some 59) #[true, true, true, true, true, true, false, false, true, true, true, true, false, false, false] rfl rfl (one_of HT_.out (by kernel_rfl)) (by decide) (fun K hK => ?_)
    refine goes_ Tryd.func83 (by kernel_rfl) rfl #[.int .i64 a0_1] (by rfl) rfl rfl (by (try simp only [List.map_toArray, List.map_cons, List.map_nil]); first | done | rfl | (simp only [List.length_drop, List.length_take]; rfl)) ?_
    with_reducible refine (jobshellref05_sign.calls a0_1 t109 _ A36.out).mono ?_
    rintro e w44 ⟨rfl, hb⟩
    refine ⟨_, rfl, ?_⟩
    have n0_ := Aside0.mk (blk_below (g := gb101) (o := .cells #[.int .i64 a0_0, .int .i64 a0_1, .string a0_2, .slice (some ad110) l0_3.length c0_3] 26 (0, 0)) (by (with_reducible repeat (first | refine blk_drewN ?_ _ | refine blk_drew ?_ | refine blk_alloc ?_ _)); exact BK101.out) hb)
    have n1_ := Aside0.mk (below_step (by repeat (first | (with_reducible first | exact HB.out | apply below_alloc | apply pw_below_drewN | apply below_drew1 | refine below_set ?_ GE101.out) | exact HB.out)) hb)
    clear BK101
    clear HB
    have BK101 := n0_
    have HB := n1_
    clear n0_ n1_
    (try clear hb)
    (try clear hb2)
    (try clear hk)
    (try clear hi)
    refine hK.out _ _ ⟨(blk_cell BK101.out 0).trans rfl, (blk_cell BK101.out 1).trans rfl, (blk_cell BK101.out 2).trans rfl, (blk_cell BK101.out 3).trans rfl, ((HB.out.cell (World.block_lt_of_cell? w _ hw110_0)).trans hw110_0), ((HB.out.cell (World.block_lt_of_cell? w _ hw110_1)).trans hw110_1), ((HB.out.cell (World.block_lt_of_cell? w _ hw110_2)).trans hw110_2), ((HB.out.cell (World.block_lt_of_cell? w _ hw110_3)).trans hw110_3)⟩ (fun hHeld => ?_)
    clear hK K
    refine norm_ (a' := ?_) ?_ ?_
    rotate_left
    ·show Act.put _ (some 59) _ = _
     simp only [Act.put, List.setIfInBounds_toArray, List.set_cons_zero, List.set_cons_succ, i64_w, i32_w]
     rfl
    refine pure_ (i := 6) (N := some 60) (v := ?_) (a' := ?_) #[true, true, true, true, true, true, true, false, true, true, true, true, false, false, false] rfl rfl (any_of HT_.out (by kernel_rfl)) (fun _ _ _ h => h) (Or.inl ⟨by rfl, ?_⟩) ?_ ?_
    rotate_left
    ·intro w'
     go_simp
     with_reducible rfl
    rotate_left
    ·simp only [Act.put, List.setIfInBounds_toArray, List.set_cons_zero, List.set_cons_succ, i64_w, i32_w]
     rfl
    refine pure_ (i := 7) (N := some 61) (v := ?_) (a' := ?_) #[true, true, true, true, true, true, true, true, true, true, true, true, false, false, false] rfl rfl (any_of HT_.out (by kernel_rfl)) (fun _ _ _ h => h) (Or.inl ⟨by rfl, ?_⟩) ?_ ?_
    rotate_left
    ·intro w'
     go_simp
     with_reducible rfl
    rotate_left
    ·simp only [Act.put, List.setIfInBounds_toArray, List.set_cons_zero, List.set_cons_succ, i64_w, i32_w]
     rfl
    refine one_ (i := 12) (N := some 66) #[true, true, true, true, true, true, true, true, true, true, true, true, true, false, false] rfl rfl (one_of HT_.out (by kernel_rfl)) (by decide) (fun K hK => ?_)
    refine goes_ Tryd.func84 (by kernel_rfl) rfl #[.agg #[.int .i64 ((rd_T26 l0_3 0).f0), .int .i64 ((rd_T26 l0_3 0).f1), .string ((rd_T26 l0_3 0).f2), .slice A110_3 ((rd_T26 l0_3 0).f3).length c110_3], .int .i64 1] (by rfl) rfl rfl (by (try simp only [List.map_toArray, List.map_cons, List.map_nil]); first | done | rfl | (simp only [List.length_drop, List.length_take]; rfl)) ?_
    with_reducible refine (opnd05.calls kj20 ((rd_T26 l0_3 0).f0) ((rd_T26 l0_3 0).f1) ((rd_T26 l0_3 0).f2) _ _ ((rd_T26 l0_3 0).f3) 1 t111 _ ?side1 ?side2 A40.out).mono ?_
    (case side1 => repeat (first | exact (Kd.C_below HR110_3.out HB.out) | (with_reducible refine Kd.C_alloc ?_ _) | (with_reducible refine Kd.C_drewN ?_ _) | (with_reducible refine Kd.C_drew ?_)))
    (case side2 => exact HC110_3.out)
    rintro e w45 ⟨rfl, hb⟩
    refine ⟨_, rfl, ?_⟩
    have n0_ := Aside0.mk (blk_below (g := gb101) (o := .cells #[.int .i64 a0_0, .int .i64 a0_1, .string a0_2, .slice (some ad110) l0_3.length c0_3] 26 (0, 0)) (by (with_reducible repeat (first | refine blk_drewN ?_ _ | refine blk_drew ?_ | refine blk_alloc ?_ _)); exact BK101.out) hb)
    have n1_ := Aside0.mk (below_step (by repeat (first | (with_reducible first | exact HB.out | apply below_alloc | apply pw_below_drewN | apply below_drew1 | refine below_set ?_ GE101.out) | exact HB.out)) hb)
    clear BK101
    clear HB
    have BK101 := n0_
    have HB := n1_
    clear n0_ n1_
    (try clear hb)
    (try clear hb2)
    (try clear hk)
    (try clear hi)
    refine hK.out _ _ ⟨(blk_cell BK101.out 0).trans rfl, (blk_cell BK101.out 1).trans rfl, (blk_cell BK101.out 2).trans rfl, (blk_cell BK101.out 3).trans rfl, ((HB.out.cell (World.block_lt_of_cell? w _ hw110_0)).trans hw110_0), ((HB.out.cell (World.block_lt_of_cell? w _ hw110_1)).trans hw110_1), ((HB.out.cell (World.block_lt_of_cell? w _ hw110_2)).trans hw110_2), ((HB.out.cell (World.block_lt_of_cell? w _ hw110_3)).trans hw110_3)⟩ (fun hHeld => ?_)
    clear hK K
    refine norm_ (a' := ?_) ?_ ?_
    rotate_left
    ·show Act.put _ (some 66) _ = _
     simp only [Act.put, List.setIfInBounds_toArray, List.set_cons_zero, List.set_cons_succ, i64_w, i32_w]
     rfl
    refine pure_ (i := 13) (N := some 67) (v := ?_) (a' := ?_) #[true, true, true, true, true, true, true, true, true, true, true, true, true, true, false] rfl rfl (any_of HT_.out (by kernel_rfl)) (fun _ _ _ h => h) (Or.inl ⟨by rfl, ?_⟩) ?_ ?_
    rotate_left
    ·intro w'
     go_simp
     with_reducible rfl
    rotate_left
    ·simp only [Act.put, List.setIfInBounds_toArray, List.set_cons_zero, List.set_cons_succ, i64_w, i32_w]
     rfl
    refine pure_ (i := 14) (N := some 2) (v := ?_) (a' := ?_) #[true, true, true, true, true, true, true, true, true, true, true, true, true, true, true] rfl rfl (any_of HT_.out (by kernel_rfl)) (fun _ _ _ h => h) (Or.inl ⟨by rfl, ?_⟩) ?_ ?_
    rotate_left
    ·intro w'
     go_simp
     with_reducible rfl
    rotate_left
    ·simp only [Act.put, List.setIfInBounds_toArray, List.set_cons_zero, List.set_cons_succ, i64_w, i32_w]
     rfl
    refine done_ (done_of HT_.out (by kernel_rfl)) ?_
    try go_wp2
    go_ret
    exact ⟨by first | rfl | (simp [errW_none, errW_some] <;> rfl) | (simp [*, errW_none, errW_some] <;> rfl), by repeat (first | (with_reducible first | exact HB.out | apply below_alloc | apply pw_below_drewN | apply below_drew1 | refine below_set ?_ GE101.out) | exact HB.out)⟩
   rw [if_neg c34] at H
   have c34b0 : (a0_0 == 26) = false := beq_eq_false_iff_ne.mpr c34
   have c34b1 : (a0_0 != 26) = true := bne_iff_ne.mpr c34
   by_cases c46 : a0_0 = 25
   rotate_left
   ·rw [if_neg c46] at H
    have c46b0 : (a0_0 == 25) = false := beq_eq_false_iff_ne.mpr c46
    have c46b1 : (a0_0 != 25) = true := bne_iff_ne.mpr c46
    by_cases c62 : 0 < (l0_3.length : Int)
    rotate_left
    ·rw [if_neg c62] at H
     exact absurd H (by simp)
    rw [if_pos c62] at H
    have c62b0 : decide (0 < (l0_3.length : Int)) = true := decide_eq_true c62
    have c62b1 : decide (0 < l0_3.length) = true := decide_eq_true (by omega)
    clear c62
    replace H := Option.bind_eq_some_iff.mp H
    obtain ⟨t119, A630, H⟩ := H
    try dsimp only at H
    have A63 := Aside0.mk A630
    clear A630
    by_cases c64 : t119.size + 1 ≤ 9223372036854775807
    rotate_left
    ·rw [if_neg c64] at H
     exact absurd H (by simp)
    rw [if_pos c64] at H
    have c64b0 := eq_true c64
    have c64b1 : decide (t119.size + 1 ≤ 9223372036854775807) = true := decide_eq_true c64
    try have c64b2 : (9223372036854775807 < t119.size + 1) = False := eq_false (Nat.not_lt.2 c64)
    replace H := Option.bind_eq_some_iff.mp H
    obtain ⟨t120, A650, H⟩ := H
    try dsimp only at H
    have A65 := Aside0.mk A650
    clear A650
    by_cases c66 : (t119 ++ (⟨#[32]⟩ : ByteArray)).size + t120.size ≤ 9223372036854775807
    rotate_left
    ·rw [if_neg c66] at H
     exact absurd H (by simp)
    rw [if_pos c66] at H
    have c66b0 := eq_true c66
    have c66b1 : decide ((t119 ++ (⟨#[32]⟩ : ByteArray)).size + t120.size ≤ 9223372036854775807) = true := decide_eq_true c66
    try have c66b2 : (9223372036854775807 < (t119 ++ (⟨#[32]⟩ : ByteArray)).size + t120.size) = False := eq_false (Nat.not_lt.2 c66)
    try have c66b3 := c66b2
    try simp only [ByteArray.size_append, show (⟨#[32]⟩ : ByteArray).size = 1 from rfl, Nat.zero_add, Nat.add_zero] at c66b3
    by_cases c67 : ((t119 ++ (⟨#[32]⟩ : ByteArray)) ++ t120).size + 1 ≤ 9223372036854775807
    rotate_left
    ·rw [if_neg c67] at H
     exact absurd H (by simp)
    rw [if_pos c67] at H
    have c67b0 := eq_true c67
    have c67b1 : decide (((t119 ++ (⟨#[32]⟩ : ByteArray)) ++ t120).size + 1 ≤ 9223372036854775807) = true := decide_eq_true c67
    try have c67b2 : (9223372036854775807 < ((t119 ++ (⟨#[32]⟩ : ByteArray)) ++ t120).size + 1) = False := eq_false (Nat.not_lt.2 c67)
    try have c67b3 := c67b2
    try simp only [ByteArray.size_append, show (⟨#[32]⟩ : ByteArray).size = 1 from rfl, Nat.zero_add, Nat.add_zero] at c67b3
    by_cases c68 : 1 < (l0_3.length : Int)
    rotate_left
    ·rw [if_neg c68] at H
     exact absurd H (by simp)
    rw [if_pos c68] at H
    have c68b0 : decide (1 < (l0_3.length : Int)) = true := decide_eq_true c68
    have c68b1 : decide (1 < l0_3.length) = true := decide_eq_true (by omega)
    clear c68
    replace H := Option.bind_eq_some_iff.mp H
    obtain ⟨t122, A690, H⟩ := H
    try dsimp only at H
    have A69 := Aside0.mk A690
    clear A690
    by_cases c70 : (((t119 ++ (⟨#[32]⟩ : ByteArray)) ++ t120) ++ (⟨#[32]⟩ : ByteArray)).size + t122.size ≤ 9223372036854775807
    rotate_left
    ·rw [if_neg c70] at H
     exact absurd H (by simp)
    rw [if_pos c70] at H
    have c70b0 := eq_true c70
    have c70b1 : decide ((((t119 ++ (⟨#[32]⟩ : ByteArray)) ++ t120) ++ (⟨#[32]⟩ : ByteArray)).size + t122.size ≤ 9223372036854775807) = true := decide_eq_true c70
    try have c70b2 : (9223372036854775807 < (((t119 ++ (⟨#[32]⟩ : ByteArray)) ++ t120) ++ (⟨#[32]⟩ : ByteArray)).size + t122.size) = False := eq_false (Nat.not_lt.2 c70)
    try have c70b3 := c70b2
    try simp only [ByteArray.size_append, show (⟨#[32]⟩ : ByteArray).size = 1 from rfl, Nat.zero_add, Nat.add_zero] at c70b3
    obtain rfl := Option.some.inj H
    have hcz71_0 : wc.cell? ⟨gb101, 0, none⟩ = some (.int .i64 a0_0) := (blk_cell BK101.out 0).trans rfl
    have hcz71_1 : wc.cell? ⟨gb101, 1, none⟩ = some (.int .i64 a0_1) := (blk_cell BK101.out 1).trans rfl
    have hcz71_2 : wc.cell? ⟨gb101, 2, none⟩ = some (.string a0_2) := (blk_cell BK101.out 2).trans rfl
    have hcz71_3 : wc.cell? ⟨gb101, 3, none⟩ = some (.slice A0_3 l0_3.length c0_3) := (blk_cell BK101.out 3).trans rfl
    have hfz71_0 := blk_frozen BK101.out 0
    have hfz71_1 := blk_frozen BK101.out 1
    have hfz71_2 := blk_frozen BK101.out 2
    have hfz71_3 := blk_frozen BK101.out 3
    try go_wp2
    have n0_ := Aside0.mk (blk_drew BK101.out)
    have n1_ := Aside0.mk (below_drew1 HB.out)
    clear BK101
    clear HB
    have BK101 := n0_
    have HB := n1_
    clear n0_ n1_
    have p118 : 0 ≤ (0 : Int) := (by omega)
    have q118 : 0 < (l0_3.length : Int) := of_decide_eq_true (by first | (with_reducible assumption) | assumption)
    obtain ⟨ad118, A118_3, c118_3, e118, hx118_0, hx118_1, hx118_2, hx118_3, hl118_3, hi118_3⟩ := at_T26 HR0_3.out 0 p118 q118
    have hw118_3 := hx118_3
    (try rw [show ((0 : Int)).toNat = 0 from rfl] at hw118_3)
    (try rw [show 0 * 4 = 0 from rfl] at hw118_3)
    (try rw [Addr.add_zero'] at hw118_3)
    have hw118_2 := hx118_2
    (try rw [show ((0 : Int)).toNat = 0 from rfl] at hw118_2)
    (try rw [show 0 * 4 = 0 from rfl] at hw118_2)
    (try rw [Addr.add_zero'] at hw118_2)
    have hw118_1 := hx118_1
    (try rw [show ((0 : Int)).toNat = 0 from rfl] at hw118_1)
    (try rw [show 0 * 4 = 0 from rfl] at hw118_1)
    (try rw [Addr.add_zero'] at hw118_1)
    have hw118_0 := hx118_0
    (try rw [show ((0 : Int)).toNat = 0 from rfl] at hw118_0)
    (try rw [show 0 * 4 = 0 from rfl] at hw118_0)
    (try rw [Addr.add_zero'] at hw118_0)
    cases e118
    have qi118 : (0 < l0_3.length) = True := eq_true (by omega)
    (try rw [show ((0 : Int)).toNat = 0 from rfl] at hx118_0)
    (try rw [show 0 * 4 = 0 from rfl] at hx118_0)
    (try rw [Addr.add_zero'] at hx118_0)
    (try rw [show ((0 : Int)).toNat = 0 from rfl] at hx118_1)
    (try rw [show 0 * 4 = 0 from rfl] at hx118_1)
    (try rw [Addr.add_zero'] at hx118_1)
    (try rw [show ((0 : Int)).toNat = 0 from rfl] at hx118_2)
    (try rw [show 0 * 4 = 0 from rfl] at hx118_2)
    (try rw [Addr.add_zero'] at hx118_2)
    (try rw [show ((0 : Int)).toNat = 0 from rfl] at hx118_3)
    (try rw [show 0 * 4 = 0 from rfl] at hx118_3)
    (try rw [Addr.add_zero'] at hx118_3)
    replace hx118_0 := (HB.out.cell (World.block_lt_of_cell? w _ hx118_0)).trans hx118_0
    replace hx118_1 := (HB.out.cell (World.block_lt_of_cell? w _ hx118_1)).trans hx118_1
    replace hx118_2 := (HB.out.cell (World.block_lt_of_cell? w _ hx118_2)).trans hx118_2
    replace hx118_3 := (HB.out.cell (World.block_lt_of_cell? w _ hx118_3)).trans hx118_3
    have HR118_3 := Aside0.mk hi118_3
    have HC118_3 := Aside0.mk hl118_3
    clear hi118_3 hl118_3
    replace p118 := eq_true p118
    replace q118 := eq_true q118
    have p121 : 0 ≤ (1 : Int) := (by omega)
    have q121 : 1 < (l0_3.length : Int) := of_decide_eq_true (by first | (with_reducible assumption) | assumption)
    obtain ⟨ad121, A121_3, c121_3, e121, hx121_0, hx121_1, hx121_2, hx121_3, hl121_3, hi121_3⟩ := at_T26 HR0_3.out 1 p121 q121
    have hw121_3 := hx121_3
    (try rw [show ((1 : Int)).toNat = 1 from rfl] at hw121_3)
    (try rw [show 1 * 4 = 4 from rfl] at hw121_3)
    (try simp only [Nat.reduceMul, Nat.reduceEqDiff, Go.Addr.add, ↓reduceIte] at hw121_3)
    have hw121_2 := hx121_2
    (try rw [show ((1 : Int)).toNat = 1 from rfl] at hw121_2)
    (try rw [show 1 * 4 = 4 from rfl] at hw121_2)
    (try simp only [Nat.reduceMul, Nat.reduceEqDiff, Go.Addr.add, ↓reduceIte] at hw121_2)
    have hw121_1 := hx121_1
    (try rw [show ((1 : Int)).toNat = 1 from rfl] at hw121_1)
    (try rw [show 1 * 4 = 4 from rfl] at hw121_1)
    (try simp only [Nat.reduceMul, Nat.reduceEqDiff, Go.Addr.add, ↓reduceIte] at hw121_1)
    have hw121_0 := hx121_0
    (try rw [show ((1 : Int)).toNat = 1 from rfl] at hw121_0)
    (try rw [show 1 * 4 = 4 from rfl] at hw121_0)
    (try simp only [Nat.reduceMul, Nat.reduceEqDiff, Go.Addr.add, ↓reduceIte] at hw121_0)
    obtain rfl : ad118 = ad121 := (by injection e121)
    (try simp only [show (1 : Int).toNat = 1 from rfl, Nat.reduceMul, Nat.reduceEqDiff, Go.Addr.add, ↓reduceIte] at hx121_0)
    (try simp only [show (1 : Int).toNat = 1 from rfl, Nat.reduceMul, Nat.reduceEqDiff, Go.Addr.add, ↓reduceIte] at hx121_1)
    (try simp only [show (1 : Int).toNat = 1 from rfl, Nat.reduceMul, Nat.reduceEqDiff, Go.Addr.add, ↓reduceIte] at hx121_2)
    (try simp only [show (1 : Int).toNat = 1 from rfl, Nat.reduceMul, Nat.reduceEqDiff, Go.Addr.add, ↓reduceIte] at hx121_3)
    have qi121 : (1 < l0_3.length) = True := eq_true (by omega)
    (try rw [show ((1 : Int)).toNat = 1 from rfl] at hx121_0)
    (try rw [show 1 * 4 = 4 from rfl] at hx121_0)
    (try rw [show ((1 : Int)).toNat = 1 from rfl] at hx121_1)
    (try rw [show 1 * 4 = 4 from rfl] at hx121_1)
    (try rw [show ((1 : Int)).toNat = 1 from rfl] at hx121_2)
    (try rw [show 1 * 4 = 4 from rfl] at hx121_2)
    (try rw [show ((1 : Int)).toNat = 1 from rfl] at hx121_3)
    (try rw [show 1 * 4 = 4 from rfl] at hx121_3)
    replace hx121_0 := (HB.out.cell (World.block_lt_of_cell? w _ hx121_0)).trans hx121_0
    replace hx121_1 := (HB.out.cell (World.block_lt_of_cell? w _ hx121_1)).trans hx121_1
    replace hx121_2 := (HB.out.cell (World.block_lt_of_cell? w _ hx121_2)).trans hx121_2
    replace hx121_3 := (HB.out.cell (World.block_lt_of_cell? w _ hx121_3)).trans hx121_3
    have HR121_3 := Aside0.mk hi121_3
    have HC121_3 := Aside0.mk hl121_3
    clear hi121_3 hl121_3
    replace p121 := eq_true p121
    replace q121 := eq_true q121
    refine start_ (n := 21) (S := fun w' => w'.cell? ⟨gb101, 0, none⟩ = some (.int .i64 a0_0) ∧ w'.cell? ⟨gb101, 1, none⟩ = some (.int .i64 a0_1) ∧ w'.cell? ⟨gb101, 2, none⟩ = some (.string a0_2) ∧ w'.cell? ⟨gb101, 3, none⟩ = some (.slice (some ad118) l0_3.length c0_3) ∧ w'.cell? ad118 = some (.int .i64 ((rd_T26 l0_3 0).f0)) ∧ w'.cell? ⟨ad118.block, ad118.off + 1, none⟩ = some (.int .i64 ((rd_T26 l0_3 0).f1)) ∧ w'.cell? ⟨ad118.block, ad118.off + 2, none⟩ = some (.string ((rd_T26 l0_3 0).f2)) ∧ w'.cell? ⟨ad118.block, ad118.off + 3, none⟩ = some (.slice A118_3 ((rd_T26 l0_3 0).f3).length c118_3) ∧ w'.cell? ⟨ad118.block, ad118.off + 4, none⟩ = some (.int .i64 ((rd_T26 l0_3 1).f0)) ∧ w'.cell? ⟨ad118.block, ad118.off + 4 + 1, none⟩ = some (.int .i64 ((rd_T26 l0_3 1).f1)) ∧ w'.cell? ⟨ad118.block, ad118.off + 4 + 2, none⟩ = some (.string ((rd_T26 l0_3 1).f2)) ∧ w'.cell? ⟨ad118.block, ad118.off + 4 + 3, none⟩ = some (.slice A121_3 ((rd_T26 l0_3 1).f3).length c121_3)) (ds := []) #[false, false, false, false, false, false, false, false, false, false, false, false, false, false, false, false, false, false, false, false, false] (by kernel_rfl) rfl rfl ⟨(blk_cell BK101.out 0).trans rfl, (blk_cell BK101.out 1).trans rfl, (blk_cell BK101.out 2).trans rfl, (blk_cell BK101.out 3).trans rfl, ((HB.out.cell (World.block_lt_of_cell? w _ hw118_0)).trans hw118_0), ((HB.out.cell (World.block_lt_of_cell? w _ hw118_1)).trans hw118_1), ((HB.out.cell (World.block_lt_of_cell? w _ hw118_2)).trans hw118_2), ((HB.out.cell (World.block_lt_of_cell? w _ hw118_3)).trans hw118_3), ((HB.out.cell (World.block_lt_of_cell? w _ hw121_0)).trans hw121_0), ((HB.out.cell (World.block_lt_of_cell? w _ hw121_1)).trans hw121_1), ((HB.out.cell (World.block_lt_of_cell? w _ hw121_2)).trans hw121_2), ((HB.out.cell (World.block_lt_of_cell? w _ hw121_3)).trans hw121_3)⟩ (fun hHeld => ?_); refine with_tabW showO.tab14 showO.bits14 (fun HT_ HW_ => ?_)
    generalize wc.drew = w72 at BK101 HB HR118_3 HR121_3 hx118_0 hx118_1 hx118_2 hx118_3 hx121_0 hx121_1 hx121_2 hx121_3 hHeld ⊢
    refine pure_ (i := 0) (N := some 91) (v := ?_) (a' := ?_) #[true, false, false, false, false, false, false, false, false, false, false, false, false, false, false, false, false, false, false, false, false] rfl rfl (any_of HT_.out (by kernel_rfl)) (fun _ _ _ h => h) (Or.inl ⟨by rfl, ?_⟩) ?_ ?_
    rotate_left
    ·intro w'
     go_simp
     with_reducible rfl
    rotate_left
    ·simp only [Act.put, List.setIfInBounds_toArray, List.set_cons_zero, List.set_cons_succ, i64_w, i32_w]
     rfl
    refine pure_ (i := 4) (N := some 95) (v := ?_) (a' := ?_) #[true, false, false, false, true, false, false, false, false, false, false, false, false, false, false, false, false, false, false, false, false] rfl rfl (any_of HT_.out (by kernel_rfl)) (fun _ _ _ h => h) (Or.inl ⟨by rfl, ?_⟩) ?_ ?_
    rotate_left
    ·intro w'
     go_simp
     with_reducible rfl
    rotate_left
    ·simp only [Act.put, List.setIfInBounds_toArray, List.set_cons_zero, List.set_cons_succ, i64_w, i32_w]
     rfl
    refine pure_ (i := 7) (N := some 98) (v := ?_) (a' := ?_) #[true, false, false, false, true, false, false, true, false, false, false, false, false, false, false, false, false, false, false, false, false] rfl rfl (any_of HT_.out (by kernel_rfl)) (fun _ _ _ h => h) (Or.inl ⟨by rfl, ?_⟩) ?_ ?_
    rotate_left
    ·intro w'
     go_simp
     with_reducible rfl
    rotate_left
    ·simp only [Act.put, List.setIfInBounds_toArray, List.set_cons_zero, List.set_cons_succ, i64_w, i32_w]
     rfl
    refine pure_ (i := 12) (N := some 103) (v := ?_) (a' := ?_) #[true, false, false, false, true, false, false, true, false, false, false, false, true, false, false, false, false, false, false, false, false] rfl rfl (any_of HT_.out (by kernel_rfl)) (fun _ _ _ h => h) (Or.inl ⟨by rfl, ?_⟩) ?_ ?_
    rotate_left
    ·intro w'
     go_simp
     with_reducible rfl
    rotate_left
    ·simp only [Act.put, List.setIfInBounds_toArray, List.set_cons_zero, List.set_cons_succ, i64_w, i32_w]
     rfl
    refine pure_ (i := 16) (N := some 107) (v := ?_) (a' := ?_) #[true, false, false, false, true, false, false, true, false, false, false, false, true, false, false, false, true, false, false, false, false] rfl rfl (any_of HT_.out (by kernel_rfl)) (fun _ _ _ h => h) (Or.inl ⟨by rfl, ?_⟩) ?_ ?_
    rotate_left
    ·intro w'
     go_simp
     with_reducible rfl
    rotate_left
    ·simp only [Act.put, List.setIfInBounds_toArray, List.set_cons_zero, List.set_cons_succ, i64_w, i32_w]
     rfl
    refine pure_ (i := 17) (N := some 108) (v := ?_) (a' := ?_) #[true, false, false, false, true, false, false, true, false, false, false, false, true, false, false, false, true, true, false, false, false] rfl rfl (any_of HT_.out (by kernel_rfl)) (fun _ _ _ h => h) (Or.inl ⟨by rfl, ?_⟩) ?_ ?_
    rotate_left
    ·intro w'
     go_simp
     with_reducible rfl
    rotate_left
    ·simp only [Act.put, List.setIfInBounds_toArray, List.set_cons_zero, List.set_cons_succ, i64_w, i32_w]
     rfl
    refine take_ (i := 1) (N := some 92) (v := ?_) (a' := ?_) #[true, true, false, false, true, false, false, true, false, false, false, false, true, false, false, false, true, true, false, false, false] rfl rfl (take_ofW HT_.out HW_.out (by kernel_rfl)) (fun _ _ _ h => h) (Or.inl ⟨by rfl, ?_⟩) hHeld ?_ ?_
    rotate_left
    ·rintro w' ⟨s0, s1, s2, s3, s4, s5, s6, s7, s8, s9, s10, s11⟩
     go_simp
     with_reducible rfl
    rotate_left
    ·simp only [Act.put, List.setIfInBounds_toArray, List.set_cons_zero, List.set_cons_succ, i64_w, i32_w]
     rfl
    refine pure_ (i := 2) (N := some 93) (v := ?_) (a' := ?_) #[true, true, true, false, true, false, false, true, false, false, false, false, true, false, false, false, true, true, false, false, false] rfl rfl (any_of HT_.out (by kernel_rfl)) (fun _ _ _ h => h) (Or.inl ⟨by rfl, ?_⟩) ?_ ?_
    rotate_left
    ·intro w'
     go_simp
     with_reducible rfl
    rotate_left
    ·simp only [Act.put, List.setIfInBounds_toArray, List.set_cons_zero, List.set_cons_succ, i64_w, i32_w]
     rfl
    refine take_ (i := 3) (N := some 94) (v := ?_) (a' := ?_) #[true, true, true, true, true, false, false, true, false, false, false, false, true, false, false, false, true, true, false, false, false] rfl rfl (take_ofW HT_.out HW_.out (by kernel_rfl)) (fun _ _ _ h => h) (Or.inl ⟨by rfl, ?_⟩) hHeld ?_ ?_
    rotate_left
    ·rintro w' ⟨s0, s1, s2, s3, s4, s5, s6, s7, s8, s9, s10, s11⟩
     go_simp
     with_reducible rfl
    rotate_left
    ·simp only [Act.put, List.setIfInBounds_toArray, List.set_cons_zero, List.set_cons_succ, i64_w, i32_w]
     rfl
    refine take_ (i := 8) (N := some 99) (v := ?_) (a' := ?_) #[true, true, true, true, true, false, false, true, true, false, false, false, true, false, false, false, true, true, false, false, false] rfl rfl (take_ofW HT_.out HW_.out (by kernel_rfl)) (fun _ _ _ h => h) (Or.inl ⟨by rfl, ?_⟩) hHeld ?_ ?_
    rotate_left
    ·rintro w' ⟨s0, s1, s2, s3, s4, s5, s6, s7, s8, s9, s10, s11⟩
     go_simp
     with_reducible rfl
    rotate_left
    ·simp only [Act.put, List.setIfInBounds_toArray, List.set_cons_zero, List.set_cons_succ, i64_w, i32_w]
     rfl
    refine take_ (i := 13) (N := some 104) (v := ?_) (a' := ?_) #[true, true, true, true, true, false, false, true, true, false, false, false, true, true, false, false, true, true, false, false, false] rfl rfl (take_ofW HT_.out HW_.out (by kernel_rfl)) (fun _ _ _ h => h) (Or.inl ⟨by rfl, ?_⟩) hHeld ?_ ?_
    rotate_left
    ·rintro w' ⟨s0, s1, s2, s3, s4, s5, s6, s7, s8, s9, s10, s11⟩
     go_simp
     with_reducible rfl
    rotate_left
    ·simp only [Act.put, List.setIfInBounds_toArray, List.set_cons_zero, List.set_cons_succ, i64_w, i32_w]
     rfl
    refine pure_ (i := 14) (N := some 105) (v := ?_) (a' := ?_) #[true, true, true, true, true, false, false, true, true, false, false, false, true, true, true, false, true, true, false, false, false] rfl rfl (any_of HT_.out (by kernel_rfl)) (fun _ _ _ h => h) (Or.inl ⟨by rfl, ?_⟩) ?_ ?_
    rotate_left
    ·intro w'
     go_simp
     with_reducible rfl
    rotate_left
    ·simp only [Act.put, List.setIfInBounds_toArray, List.set_cons_zero, List.set_cons_succ, i64_w, i32_w]
     rfl
    refine take_ (i := 15) (N := some 106) (v := ?_) (a' := ?_) #[true, true, true, true, true, false, false, true, true, false, false, false, true, true, true, true, true, true, false, false, false] rfl rfl (take_ofW HT_.out HW_.out (by kernel_rfl)) (fun _ _ _ h => h) (Or.inl ⟨by rfl, ?_⟩) hHeld ?_ ?_
    rotate_left
    ·rintro w' ⟨s0, s1, s2, s3, s4, s5, s6, s7, s8, s9, s10, s11⟩
     go_simp
     with_reducible rfl
    rotate_left
    ·simp only [Act.put, List.setIfInBounds_toArray, List.set_cons_zero, List.set_cons_succ, i64_w, i32_w]
     rfl
    refine one_ (i := 5) (N := some 96) #[true, true, true, true, true, true, false, true, true, false, false, false, true, true, true, true, true, true, false, false, false] rfl rfl (one_of HT_.out (by kernel_rfl)) (by decide) (fun K hK => ?_)
    refine goes_ Tryd.func84 (by kernel_rfl) rfl #[.agg #[.int .i64 ((rd_T26 l0_3 0).f0), .int .i64 ((rd_T26 l0_3 0).f1), .string ((rd_T26 l0_3 0).f2), .slice A118_3 ((rd_T26 l0_3 0).f3).length c118_3], .int .i64 t102] (by rfl) rfl rfl (by (try simp only [List.map_toArray, List.map_cons, List.map_nil]); first | done | rfl | (simp only [List.length_drop, List.length_take]; rfl)) ?_
    with_reducible refine (opnd05.calls kj20 ((rd_T26 l0_3 0).f0) ((rd_T26 l0_3 0).f1) ((rd_T26 l0_3 0).f2) _ _ ((rd_T26 l0_3 0).f3) t102 t119 _ ?side1 ?side2 A63.out).mono ?_
    (case side1 => repeat (first | exact (Kd.C_below HR118_3.out HB.out) | (with_reducible refine Kd.C_alloc ?_ _) | (with_reducible refine Kd.C_drewN ?_ _) | (with_reducible refine Kd.C_drew ?_)))
    (case side2 => exact HC118_3.out)
    rintro e w73 ⟨rfl, hb⟩
    refine ⟨_, rfl, ?_⟩
    have n0_ := Aside0.mk (blk_below (g := gb101) (o := .cells #[.int .i64 a0_0, .int .i64 a0_1, .string a0_2, .slice (some ad118) l0_3.length c0_3] 26 (0, 0)) (by (with_reducible repeat (first | refine blk_drewN ?_ _ | refine blk_drew ?_ | refine blk_alloc ?_ _)); exact BK101.out) hb)
    have n1_ := Aside0.mk (below_step (by repeat (first | (with_reducible first | exact HB.out | apply below_alloc | apply pw_below_drewN | apply below_drew1 | refine below_set ?_ GE101.out) | exact HB.out)) hb)
    clear BK101
    clear HB
    have BK101 := n0_
    have HB := n1_
    clear n0_ n1_
    (try clear hb)
    (try clear hb2)
    (try clear hk)
    (try clear hi)
    refine hK.out _ _ ⟨(blk_cell BK101.out 0).trans rfl, (blk_cell BK101.out 1).trans rfl, (blk_cell BK101.out 2).trans rfl, (blk_cell BK101.out 3).trans rfl, ((HB.out.cell (World.block_lt_of_cell? w _ hw118_0)).trans hw118_0), ((HB.out.cell (World.block_lt_of_cell? w _ hw118_1)).trans hw118_1), ((HB.out.cell (World.block_lt_of_cell? w _ hw118_2)).trans hw118_2), ((HB.out.cell (World.block_lt_of_cell? w _ hw118_3)).trans hw118_3), ((HB.out.cell (World.block_lt_of_cell? w _ hw121_0)).trans hw121_0), ((HB.out.cell (World.block_lt_of_cell? w _ hw121_1)).trans hw121_1), ((HB.out.cell (World.block_lt_of_cell? w _ hw121_2)).trans hw121_2), ((HB.out.cell (World.block_lt_of_cell? w _ hw121_3)).trans hw121_3)⟩ (fun hHeld => ?_)
    clear hK K
    refine norm_ (a' := ?_) ?_ ?_
    rotate_left
    ·show Act.put _ (some 96) _ = _
     simp only [Act.put, List.setIfInBounds_toArray, List.set_cons_zero, List.set_cons_succ, i64_w, i32_w]
     rfl
    refine pure_ (i := 6) (N := some 97) (v := ?_) (a' := ?_) #[true, true, true, true, true, true, true, true, true, false, false, false, true, true, true, true, true, true, false, false, false] rfl rfl (any_of HT_.out (by kernel_rfl)) (fun _ _ _ h => h) (Or.inl ⟨by rfl, ?_⟩) ?_ ?_
    rotate_left
    ·intro w'
     go_simp
     with_reducible rfl
    rotate_left
    ·simp only [Act.put, List.setIfInBounds_toArray, List.set_cons_zero, List.set_cons_succ, i64_w, i32_w]
     rfl
    refine one_ (i := 9) (N := some 100) #[true, true, true, true, true, true, true, true, true, true, false, false, true, true, true, true, true, true, false, false, false] rfl rfl (one_of HT_.out (by kernel_rfl)) (by decide) (fun K hK => ?_)
    refine goes_ Tryd.func83 (by kernel_rfl) rfl #[.int .i64 a0_0] (by rfl) rfl rfl (by (try simp only [List.map_toArray, List.map_cons, List.map_nil]); first | done | rfl | (simp only [List.length_drop, List.length_take]; rfl)) ?_
    with_reducible refine (jobshellref05_sign.calls a0_0 t120 _ A65.out).mono ?_
    rintro e w74 ⟨rfl, hb⟩
    refine ⟨_, rfl, ?_⟩
    have n0_ := Aside0.mk (blk_below (g := gb101) (o := .cells #[.int .i64 a0_0, .int .i64 a0_1, .string a0_2, .slice (some ad118) l0_3.length c0_3] 26 (0, 0)) (by (with_reducible repeat (first | refine blk_drewN ?_ _ | refine blk_drew ?_ | refine blk_alloc ?_ _)); exact BK101.out) hb)
    have n1_ := Aside0.mk (below_step (by repeat (first | (with_reducible first | exact HB.out | apply below_alloc | apply pw_below_drewN | apply below_drew1 | refine below_set ?_ GE101.out) | exact HB.out)) hb)
    clear BK101
    clear HB
    have BK101 := n0_
    have HB := n1_
    clear n0_ n1_
    (try clear hb)
    (try clear hb2)
    (try clear hk)
    (try clear hi)
    refine hK.out _ _ ⟨(blk_cell BK101.out 0).trans rfl, (blk_cell BK101.out 1).trans rfl, (blk_cell BK101.out 2).trans rfl, (blk_cell BK101.out 3).trans rfl, ((HB.out.cell (World.block_lt_of_cell? w _ hw118_0)).trans hw118_0), ((HB.out.cell (World.block_lt_of_cell? w _ hw118_1)).trans hw118_1), ((HB.out.cell (World.block_lt_of_cell? w _ hw118_2)).trans hw118_2), ((HB.out.cell (World.block_lt_of_cell? w _ hw118_3)).trans hw118_3), ((HB.out.cell (World.block_lt_of_cell? w _ hw121_0)).trans hw121_0), ((HB.out.cell (World.block_lt_of_cell? w _ hw121_1)).trans hw121_1), ((HB.out.cell (World.block_lt_of_cell? w _ hw121_2)).trans hw121_2), ((HB.out.cell (World.block_lt_of_cell? w _ hw121_3)).trans hw121_3)⟩ (fun hHeld => ?_)
    clear hK K
    refine norm_ (a' := ?_) ?_ ?_
    rotate_left
    ·show Act.put _ (some 100) _ = _
     simp only [Act.put, List.setIfInBounds_toArray, List.set_cons_zero, List.set_cons_succ, i64_w, i32_w]
     rfl
    refine pure_ (i := 10) (N := some 101) (v := ?_) (a' := ?_) #[true, true, true, true, true, true, true, true, true, true, true, false, true, true, true, true, true, true, false, false, false] rfl rfl (any_of HT_.out (by kernel_rfl)) (fun _ _ _ h => h) (Or.inl ⟨by rfl, ?_⟩) ?_ ?_
    rotate_left
    ·intro w'
     go_simp
     with_reducible rfl
    rotate_left
    ·simp only [Act.put, List.setIfInBounds_toArray, List.set_cons_zero, List.set_cons_succ, i64_w, i32_w]
     rfl
    refine pure_ (i := 11) (N := some 102) (v := ?_) (a' := ?_) #[true, true, true, true, true, true, true, true, true, true, true, true, true, true, true, true, true, true, false, false, false] rfl rfl (any_of HT_.out (by kernel_rfl)) (fun _ _ _ h => h) (Or.inl ⟨by rfl, ?_⟩) ?_ ?_
    rotate_left
    ·intro w'
     go_simp
     with_reducible rfl
    rotate_left
    ·simp only [Act.put, List.setIfInBounds_toArray, List.set_cons_zero, List.set_cons_succ, i64_w, i32_w]
     rfl
    refine one_ (i := 18) (N := some 109) #[true, true, true, true, true, true, true, true, true, true, true, true, true, true, true, true, true, true, true, false, false] rfl rfl (one_of HT_.out (by kernel_rfl)) (by decide) (fun K hK => ?_)
    refine goes_ Tryd.func84 (by kernel_rfl) rfl #[.agg #[.int .i64 ((rd_T26 l0_3 1).f0), .int .i64 ((rd_T26 l0_3 1).f1), .string ((rd_T26 l0_3 1).f2), .slice A121_3 ((rd_T26 l0_3 1).f3).length c121_3], .int .i64 (wrap64 (t102 + 1))] (by rfl) rfl rfl (by (try simp only [List.map_toArray, List.map_cons, List.map_nil]); first | done | rfl | (simp only [List.length_drop, List.length_take]; rfl)) ?_
    with_reducible refine (opnd05.calls kj20 ((rd_T26 l0_3 1).f0) ((rd_T26 l0_3 1).f1) ((rd_T26 l0_3 1).f2) _ _ ((rd_T26 l0_3 1).f3) (wrap64 (t102 + 1)) t122 _ ?side1 ?side2 A69.out).mono ?_
    (case side1 => repeat (first | exact (Kd.C_below HR121_3.out HB.out) | (with_reducible refine Kd.C_alloc ?_ _) | (with_reducible refine Kd.C_drewN ?_ _) | (with_reducible refine Kd.C_drew ?_)))
    (case side2 => exact HC121_3.out)
    rintro e w75 ⟨rfl, hb⟩
    refine ⟨_, rfl, ?_⟩
    have n0_ := Aside0.mk (blk_below (g := gb101) (o := .cells #[.int .i64 a0_0, .int .i64 a0_1, .string a0_2, .slice (some ad118) l0_3.length c0_3] 26 (0, 0)) (by (with_reducible repeat (first | refine blk_drewN ?_ _ | refine blk_drew ?_ | refine blk_alloc ?_ _)); exact BK101.out) hb)
    have n1_ := Aside0.mk (below_step (by repeat (first | (with_reducible first | exact HB.out | apply below_alloc | apply pw_below_drewN | apply below_drew1 | refine below_set ?_ GE101.out) | exact HB.out)) hb)
    clear BK101
    clear HB
    have BK101 := n0_
    have HB := n1_
    clear n0_ n1_
    (try clear hb)
    (try clear hb2)
    (try clear hk)
    (try clear hi)
    refine hK.out _ _ ⟨(blk_cell BK101.out 0).trans rfl, (blk_cell BK101.out 1).trans rfl, (blk_cell BK101.out 2).trans rfl, (blk_cell BK101.out 3).trans rfl, ((HB.out.cell (World.block_lt_of_cell? w _ hw118_0)).trans hw118_0), ((HB.out.cell (World.block_lt_of_cell? w _ hw118_1)).trans hw118_1), ((HB.out.cell (World.block_lt_of_cell? w _ hw118_2)).trans hw118_2), ((HB.out.cell (World.block_lt_of_cell? w _ hw118_3)).trans hw118_3), ((HB.out.cell (World.block_lt_of_cell? w _ hw121_0)).trans hw121_0), ((HB.out.cell (World.block_lt_of_cell? w _ hw121_1)).trans hw121_1), ((HB.out.cell (World.block_lt_of_cell? w _ hw121_2)).trans hw121_2), ((HB.out.cell (World.block_lt_of_cell? w _ hw121_3)).trans hw121_3)⟩ (fun hHeld => ?_)
    clear hK K
    refine norm_ (a' := ?_) ?_ ?_
    rotate_left
    ·show Act.put _ (some 109) _ = _
     simp only [Act.put, List.setIfInBounds_toArray, List.set_cons_zero, List.set_cons_succ, i64_w, i32_w]
     rfl
    refine pure_ (i := 19) (N := some 110) (v := ?_) (a' := ?_) #[true, true, true, true, true, true, true, true, true, true, true, true, true, true, true, true, true, true, true, true, false] rfl rfl (any_of HT_.out (by kernel_rfl)) (fun _ _ _ h => h) (Or.inl ⟨by rfl, ?_⟩) ?_ ?_
    rotate_left
    ·intro w'
     go_simp
     with_reducible rfl
    rotate_left
    ·simp only [Act.put, List.setIfInBounds_toArray, List.set_cons_zero, List.set_cons_succ, i64_w, i32_w]
     rfl
    refine pure_ (i := 20) (N := some 2) (v := ?_) (a' := ?_) #[true, true, true, true, true, true, true, true, true, true, true, true, true, true, true, true, true, true, true, true, true] rfl rfl (any_of HT_.out (by kernel_rfl)) (fun _ _ _ h => h) (Or.inl ⟨by rfl, ?_⟩) ?_ ?_
    rotate_left
    ·intro w'
     go_simp
     with_reducible rfl
    rotate_left
    ·simp only [Act.put, List.setIfInBounds_toArray, List.set_cons_zero, List.set_cons_succ, i64_w, i32_w]
     rfl
    refine done_ (done_of HT_.out (by kernel_rfl)) ?_
    try go_wp2
    go_ret
    exact ⟨by first | rfl | (simp [errW_none, errW_some] <;> rfl) | (simp [*, errW_none, errW_some] <;> rfl), by repeat (first | (with_reducible first | exact HB.out | apply below_alloc | apply pw_below_drewN | apply below_drew1 | refine below_set ?_ GE101.out) | exact HB.out)⟩
   rw [if_pos c46] at H
   have c46b0 : (a0_0 == 25) = true := beq_iff_eq.mpr c46
   have c46b1 : (a0_0 != 25) = false := bne_eq_false_iff_eq.mpr c46
   clear c46
   by_cases c47 : 0 < (l0_3.length : Int)
   rotate_left
   ·rw [if_neg c47] at H
    exact absurd H (by simp)
   rw [if_pos c47] at H
   have c47b0 : decide (0 < (l0_3.length : Int)) = true := decide_eq_true c47
   have c47b1 : decide (0 < l0_3.length) = true := decide_eq_true (by omega)
   clear c47
   replace H := Option.bind_eq_some_iff.mp H
   obtain ⟨t113, A480, H⟩ := H
   try dsimp only at H
   have A48 := Aside0.mk A480
   clear A480
   by_cases c49 : t113.size + 3 ≤ 9223372036854775807
   rotate_left
   ·rw [if_neg c49] at H
    exact absurd H (by simp)
   rw [if_pos c49] at H
   have c49b0 := eq_true c49
   have c49b1 : decide (t113.size + 3 ≤ 9223372036854775807) = true := decide_eq_true c49
   try have c49b2 : (9223372036854775807 < t113.size + 3) = False := eq_false (Nat.not_lt.2 c49)
   by_cases c50 : 1 < (l0_3.length : Int)
   rotate_left
   ·rw [if_neg c50] at H
    exact absurd H (by simp)
   rw [if_pos c50] at H
   have c50b0 : decide (1 < (l0_3.length : Int)) = true := decide_eq_true c50
   have c50b1 : decide (1 < l0_3.length) = true := decide_eq_true (by omega)
   clear c50
   replace H := Option.bind_eq_some_iff.mp H
   obtain ⟨t115, A510, H⟩ := H
   try dsimp only at H
   have A51 := Aside0.mk A510
   clear A510
   by_cases c52 : (t113 ++ (⟨#[32, 63, 32]⟩ : ByteArray)).size + t115.size ≤ 9223372036854775807
   rotate_left
   ·rw [if_neg c52] at H
    exact absurd H (by simp)
   rw [if_pos c52] at H
   have c52b0 := eq_true c52
   have c52b1 : decide ((t113 ++ (⟨#[32, 63, 32]⟩ : ByteArray)).size + t115.size ≤ 9223372036854775807) = true := decide_eq_true c52
   try have c52b2 : (9223372036854775807 < (t113 ++ (⟨#[32, 63, 32]⟩ : ByteArray)).size + t115.size) = False := eq_false (Nat.not_lt.2 c52)
   try have c52b3 := c52b2
   try simp only [ByteArray.size_append, show (⟨#[32, 63, 32]⟩ : ByteArray).size = 3 from rfl, Nat.zero_add, Nat.add_zero] at c52b3
   by_cases c53 : ((t113 ++ (⟨#[32, 63, 32]⟩ : ByteArray)) ++ t115).size + 3 ≤ 9223372036854775807
   rotate_left
   ·rw [if_neg c53] at H
    exact absurd H (by simp)
   rw [if_pos c53] at H
   have c53b0 := eq_true c53
   have c53b1 : decide (((t113 ++ (⟨#[32, 63, 32]⟩ : ByteArray)) ++ t115).size + 3 ≤ 9223372036854775807) = true := decide_eq_true c53
   try have c53b2 : (9223372036854775807 < ((t113 ++ (⟨#[32, 63, 32]⟩ : ByteArray)) ++ t115).size + 3) = False := eq_false (Nat.not_lt.2 c53)
   try have c53b3 := c53b2
   try simp only [ByteArray.size_append, show (⟨#[32, 63, 32]⟩ : ByteArray).size = 3 from rfl, Nat.zero_add, Nat.add_zero] at c53b3
   by_cases c54 : 2 < (l0_3.length : Int)
   rotate_left
   ·rw [if_neg c54] at H
    exact absurd H (by simp)
   rw [if_pos c54] at H
   have c54b0 : decide (2 < (l0_3.length : Int)) = true := decide_eq_true c54
   have c54b1 : decide (2 < l0_3.length) = true := decide_eq_true (by omega)
   clear c54
   replace H := Option.bind_eq_some_iff.mp H
   obtain ⟨t117, A550, H⟩ := H
   try dsimp only at H
   have A55 := Aside0.mk A550
   clear A550
   by_cases c56 : (((t113 ++ (⟨#[32, 63, 32]⟩ : ByteArray)) ++ t115) ++ (⟨#[32, 58, 32]⟩ : ByteArray)).size + t117.size ≤ 9223372036854775807
   rotate_left
   ·rw [if_neg c56] at H
    exact absurd H (by simp)
   rw [if_pos c56] at H
   have c56b0 := eq_true c56
   have c56b1 : decide ((((t113 ++ (⟨#[32, 63, 32]⟩ : ByteArray)) ++ t115) ++ (⟨#[32, 58, 32]⟩ : ByteArray)).size + t117.size ≤ 9223372036854775807) = true := decide_eq_true c56
   try have c56b2 : (9223372036854775807 < (((t113 ++ (⟨#[32, 63, 32]⟩ : ByteArray)) ++ t115) ++ (⟨#[32, 58, 32]⟩ : ByteArray)).size + t117.size) = False := eq_false (Nat.not_lt.2 c56)
   try have c56b3 := c56b2
   try simp only [ByteArray.size_append, show (⟨#[32, 63, 32]⟩ : ByteArray).size = 3 from rfl, show (⟨#[32, 58, 32]⟩ : ByteArray).size = 3 from rfl, Nat.zero_add, Nat.add_zero] at c56b3
   obtain rfl := Option.some.inj H
   have hcz57_0 : wc.cell? ⟨gb101, 0, none⟩ = some (.int .i64 a0_0) := (blk_cell BK101.out 0).trans rfl
   have hcz57_1 : wc.cell? ⟨gb101, 1, none⟩ = some (.int .i64 a0_1) := (blk_cell BK101.out 1).trans rfl
   have hcz57_2 : wc.cell? ⟨gb101, 2, none⟩ = some (.string a0_2) := (blk_cell BK101.out 2).trans rfl
   have hcz57_3 : wc.cell? ⟨gb101, 3, none⟩ = some (.slice A0_3 l0_3.length c0_3) := (blk_cell BK101.out 3).trans rfl
   have hfz57_0 := blk_frozen BK101.out 0
   have hfz57_1 := blk_frozen BK101.out 1
   have hfz57_2 := blk_frozen BK101.out 2
   have hfz57_3 := blk_frozen BK101.out 3
   try go_wp2
   have n0_ := Aside0.mk (blk_drew BK101.out)
   have n1_ := Aside0.mk (below_drew1 HB.out)
   clear BK101
   clear HB
   have BK101 := n0_
   have HB := n1_
   clear n0_ n1_
   have p112 : 0 ≤ (0 : Int) := (by omega)
   have q112 : 0 < (l0_3.length : Int) := of_decide_eq_true (by first | (with_reducible assumption) | assumption)
   obtain ⟨ad112, A112_3, c112_3, e112, hx112_0, hx112_1, hx112_2, hx112_3, hl112_3, hi112_3⟩ := at_T26 HR0_3.out 0 p112 q112
   have hw112_3 := hx112_3
   (try rw [show ((0 : Int)).toNat = 0 from rfl] at hw112_3)
   (try rw [show 0 * 4 = 0 from rfl] at hw112_3)
   (try rw [Addr.add_zero'] at hw112_3)
   have hw112_2 := hx112_2
   (try rw [show ((0 : Int)).toNat = 0 from rfl] at hw112_2)
   (try rw [show 0 * 4 = 0 from rfl] at hw112_2)
   (try rw [Addr.add_zero'] at hw112_2)
   have hw112_1 := hx112_1
   (try rw [show ((0 : Int)).toNat = 0 from rfl] at hw112_1)
   (try rw [show 0 * 4 = 0 from rfl] at hw112_1)
   (try rw [Addr.add_zero'] at hw112_1)
   have hw112_0 := hx112_0
   (try rw [show ((0 : Int)).toNat = 0 from rfl] at hw112_0)
   (try rw [show 0 * 4 = 0 from rfl] at hw112_0)
   (try rw [Addr.add_zero'] at hw112_0)
   cases e112
   have qi112 : (0 < l0_3.length) = True := eq_true (by omega)
   (try rw [show ((0 : Int)).toNat = 0 from rfl] at hx112_0)
   (try rw [show 0 * 4 = 0 from rfl] at hx112_0)
   (try rw [Addr.add_zero'] at hx112_0)
   (try rw [show ((0 : Int)).toNat = 0 from rfl] at hx112_1)
   (try rw [show 0 * 4 = 0 from rfl] at hx112_1)
   (try rw [Addr.add_zero'] at hx112_1)
   (try rw [show ((0 : Int)).toNat = 0 from rfl] at hx112_2)
   (try rw [show 0 * 4 = 0 from rfl] at hx112_2)
   (try rw [Addr.add_zero'] at hx112_2)
   (try rw [show ((0 : Int)).toNat = 0 from rfl] at hx112_3)
   (try rw [show 0 * 4 = 0 from rfl] at hx112_3)
   (try rw [Addr.add_zero'] at hx112_3)
   replace hx112_0 := (HB.out.cell (World.block_lt_of_cell? w _ hx112_0)).trans hx112_0
   replace hx112_1 := (HB.out.cell (World.block_lt_of_cell? w _ hx112_1)).trans hx112_1
   replace hx112_2 := (HB.out.cell (World.block_lt_of_cell? w _ hx112_2)).trans hx112_2
   replace hx112_3 := (HB.out.cell (World.block_lt_of_cell? w _ hx112_3)).trans hx112_3
   have HR112_3 := Aside0.mk hi112_3
   have HC112_3 := Aside0.mk hl112_3
   clear hi112_3 hl112_3
   replace p112 := eq_true p112
   replace q112 := eq_true q112
   have p114 : 0 ≤ (1 : Int) := (by omega)
   have q114 : 1 < (l0_3.length : Int) := of_decide_eq_true (by first | (with_reducible assumption) | assumption)
   obtain ⟨ad114, A114_3, c114_3, e114, hx114_0, hx114_1, hx114_2, hx114_3, hl114_3, hi114_3⟩ := at_T26 HR0_3.out 1 p114 q114
   have hw114_3 := hx114_3
   (try rw [show ((1 : Int)).toNat = 1 from rfl] at hw114_3)
   (try rw [show 1 * 4 = 4 from rfl] at hw114_3)
   (try simp only [Nat.reduceMul, Nat.reduceEqDiff, Go.Addr.add, ↓reduceIte] at hw114_3)
   have hw114_2 := hx114_2
   (try rw [show ((1 : Int)).toNat = 1 from rfl] at hw114_2)
   (try rw [show 1 * 4 = 4 from rfl] at hw114_2)
   (try simp only [Nat.reduceMul, Nat.reduceEqDiff, Go.Addr.add, ↓reduceIte] at hw114_2)
   have hw114_1 := hx114_1
   (try rw [show ((1 : Int)).toNat = 1 from rfl] at hw114_1)
   (try rw [show 1 * 4 = 4 from rfl] at hw114_1)
   (try simp only [Nat.reduceMul, Nat.reduceEqDiff, Go.Addr.add, ↓reduceIte] at hw114_1)
   have hw114_0 := hx114_0
   (try rw [show ((1 : Int)).toNat = 1 from rfl] at hw114_0)
   (try rw [show 1 * 4 = 4 from rfl] at hw114_0)
   (try simp only [Nat.reduceMul, Nat.reduceEqDiff, Go.Addr.add, ↓reduceIte] at hw114_0)
   obtain rfl : ad112 = ad114 := (by injection e114)
   (try simp only [show (1 : Int).toNat = 1 from rfl, Nat.reduceMul, Nat.reduceEqDiff, Go.Addr.add, ↓reduceIte] at hx114_0)
   (try simp only [show (1 : Int).toNat = 1 from rfl, Nat.reduceMul, Nat.reduceEqDiff, Go.Addr.add, ↓reduceIte] at hx114_1)
   (try simp only [show (1 : Int).toNat = 1 from rfl, Nat.reduceMul, Nat.reduceEqDiff, Go.Addr.add, ↓reduceIte] at hx114_2)
   (try simp only [show (1 : Int).toNat = 1 from rfl, Nat.reduceMul, Nat.reduceEqDiff, Go.Addr.add, ↓reduceIte] at hx114_3)
   have qi114 : (1 < l0_3.length) = True := eq_true (by omega)
   (try rw [show ((1 : Int)).toNat = 1 from rfl] at hx114_0)
   (try rw [show 1 * 4 = 4 from rfl] at hx114_0)
   (try rw [show ((1 : Int)).toNat = 1 from rfl] at hx114_1)
   (try rw [show 1 * 4 = 4 from rfl] at hx114_1)
   (try rw [show ((1 : Int)).toNat = 1 from rfl] at hx114_2)
   (try rw [show 1 * 4 = 4 from rfl] at hx114_2)
   (try rw [show ((1 : Int)).toNat = 1 from rfl] at hx114_3)
   (try rw [show 1 * 4 = 4 from rfl] at hx114_3)
   replace hx114_0 := (HB.out.cell (World.block_lt_of_cell? w _ hx114_0)).trans hx114_0
   replace hx114_1 := (HB.out.cell (World.block_lt_of_cell? w _ hx114_1)).trans hx114_1
   replace hx114_2 := (HB.out.cell (World.block_lt_of_cell? w _ hx114_2)).trans hx114_2
   replace hx114_3 := (HB.out.cell (World.block_lt_of_cell? w _ hx114_3)).trans hx114_3
   have HR114_3 := Aside0.mk hi114_3
   have HC114_3 := Aside0.mk hl114_3
   clear hi114_3 hl114_3
   replace p114 := eq_true p114
   replace q114 := eq_true q114
   have p116 : 0 ≤ (2 : Int) := (by omega)
   have q116 : 2 < (l0_3.length : Int) := of_decide_eq_true (by first | (with_reducible assumption) | assumption)
   obtain ⟨ad116, A116_3, c116_3, e116, hx116_0, hx116_1, hx116_2, hx116_3, hl116_3, hi116_3⟩ := at_T26 HR0_3.out 2 p116 q116
   have hw116_3 := hx116_3
   (try rw [show ((2 : Int)).toNat = 2 from rfl] at hw116_3)
   (try rw [show 2 * 4 = 8 from rfl] at hw116_3)
   (try simp only [Nat.reduceMul, Nat.reduceEqDiff, Go.Addr.add, ↓reduceIte] at hw116_3)
   have hw116_2 := hx116_2
   (try rw [show ((2 : Int)).toNat = 2 from rfl] at hw116_2)
   (try rw [show 2 * 4 = 8 from rfl] at hw116_2)
   (try simp only [Nat.reduceMul, Nat.reduceEqDiff, Go.Addr.add, ↓reduceIte] at hw116_2)
   have hw116_1 := hx116_1
   (try rw [show ((2 : Int)).toNat = 2 from rfl] at hw116_1)
   (try rw [show 2 * 4 = 8 from rfl] at hw116_1)
   (try simp only [Nat.reduceMul, Nat.reduceEqDiff, Go.Addr.add, ↓reduceIte] at hw116_1)
   have hw116_0 := hx116_0
   (try rw [show ((2 : Int)).toNat = 2 from rfl] at hw116_0)
   (try rw [show 2 * 4 = 8 from rfl] at hw116_0)
   (try simp only [Nat.reduceMul, Nat.reduceEqDiff, Go.Addr.add, ↓reduceIte] at hw116_0)
   obtain rfl : ad112 = ad116 := (by injection e116)
   (try simp only [show (2 : Int).toNat = 2 from rfl, Nat.reduceMul, Nat.reduceEqDiff, Go.Addr.add, ↓reduceIte] at hx116_0)
   (try simp only [show (2 : Int).toNat = 2 from rfl, Nat.reduceMul, Nat.reduceEqDiff, Go.Addr.add, ↓reduceIte] at hx116_1)
   (try simp only [show (2 : Int).toNat = 2 from rfl, Nat.reduceMul, Nat.reduceEqDiff, Go.Addr.add, ↓reduceIte] at hx116_2)
   (try simp only [show (2 : Int).toNat = 2 from rfl, Nat.reduceMul, Nat.reduceEqDiff, Go.Addr.add, ↓reduceIte] at hx116_3)
   have qi116 : (2 < l0_3.length) = True := eq_true (by omega)
   (try rw [show ((2 : Int)).toNat = 2 from rfl] at hx116_0)
   (try rw [show 2 * 4 = 8 from rfl] at hx116_0)
   (try rw [show ((2 : Int)).toNat = 2 from rfl] at hx116_1)
   (try rw [show 2 * 4 = 8 from rfl] at hx116_1)
   (try rw [show ((2 : Int)).toNat = 2 from rfl] at hx116_2)
   (try rw [show 2 * 4 = 8 from rfl] at hx116_2)
   (try rw [show ((2 : Int)).toNat = 2 from rfl] at hx116_3)
   (try rw [show 2 * 4 = 8 from rfl] at hx116_3)
   replace hx116_0 := (HB.out.cell (World.block_lt_of_cell? w _ hx116_0)).trans hx116_0
   replace hx116_1 := (HB.out.cell (World.block_lt_of_cell? w _ hx116_1)).trans hx116_1
   replace hx116_2 := (HB.out.cell (World.block_lt_of_cell? w _ hx116_2)).trans hx116_2
   replace hx116_3 := (HB.out.cell (World.block_lt_of_cell? w _ hx116_3)).trans hx116_3
   have HR116_3 := Aside0.mk hi116_3
   have HC116_3 := Aside0.mk hl116_3
   clear hi116_3 hl116_3
   replace p116 := eq_true p116
   replace q116 := eq_true q116
   refine start_ (n := 20) (S := fun w' => w'.cell? ⟨gb101, 0, none⟩ = some (.int .i64 a0_0) ∧ w'.cell? ⟨gb101, 1, none⟩ = some (.int .i64 a0_1) ∧ w'.cell? ⟨gb101, 2, none⟩ = some (.string a0_2) ∧ w'.cell? ⟨gb101, 3, none⟩ = some (.slice (some ad112) l0_3.length c0_3) ∧ w'.cell? ad112 = some (.int .i64 ((rd_T26 l0_3 0).f0)) ∧ w'.cell? ⟨ad112.block, ad112.off + 1, none⟩ = some (.int .i64 ((rd_T26 l0_3 0).f1)) ∧ w'.cell? ⟨ad112.block, ad112.off + 2, none⟩ = some (.string ((rd_T26 l0_3 0).f2)) ∧ w'.cell? ⟨ad112.block, ad112.off + 3, none⟩ = some (.slice A112_3 ((rd_T26 l0_3 0).f3).length c112_3) ∧ w'.cell? ⟨ad112.block, ad112.off + 4, none⟩ = some (.int .i64 ((rd_T26 l0_3 1).f0)) ∧ w'.cell? ⟨ad112.block, ad112.off + 4 + 1, none⟩ = some (.int .i64 ((rd_T26 l0_3 1).f1)) ∧ w'.cell? ⟨ad112.block, ad112.off + 4 + 2, none⟩ = some (.string ((rd_T26 l0_3 1).f2)) ∧ w'.cell? ⟨ad112.block, ad112.off + 4 + 3, none⟩ = some (.slice A114_3 ((rd_T26 l0_3 1).f3).length c114_3) ∧ w'.cell? ⟨ad112.block, ad112.off + 8, none⟩ = some (.int .i64 ((rd_T26 l0_3 2).f0)) ∧ w'.cell? ⟨ad112.block, ad112.off + 8 + 1, none⟩ = some (.int .i64 ((rd_T26 l0_3 2).f1)) ∧ w'.cell? ⟨ad112.block, ad112.off + 8 + 2, none⟩ = some (.string ((rd_T26 l0_3 2).f2)) ∧ w'.cell? ⟨ad112.block, ad112.off + 8 + 3, none⟩ = some (.slice A116_3 ((rd_T26 l0_3 2).f3).length c116_3)) (ds := []) #[false, false, false, false, false, false, false, false, false, false, false, false, false, false, false, false, false, false, false, false] (by kernel_rfl) rfl rfl ⟨(blk_cell BK101.out 0).trans rfl, (blk_cell BK101.out 1).trans rfl, (blk_cell BK101.out 2).trans rfl, (blk_cell BK101.out 3).trans rfl, ((HB.out.cell (World.block_lt_of_cell? w _ hw112_0)).trans hw112_0), ((HB.out.cell (World.block_lt_of_cell? w _ hw112_1)).trans hw112_1), ((HB.out.cell (World.block_lt_of_cell? w _ hw112_2)).trans hw112_2), ((HB.out.cell (World.block_lt_of_cell? w _ hw112_3)).trans hw112_3), ((HB.out.cell (World.block_lt_of_cell? w _ hw114_0)).trans hw114_0), ((HB.out.cell (World.block_lt_of_cell? w _ hw114_1)).trans hw114_1), ((HB.out.cell (World.block_lt_of_cell? w _ hw114_2)).trans hw114_2), ((HB.out.cell (World.block_lt_of_cell? w _ hw114_3)).trans hw114_3), ((HB.out.cell (World.block_lt_of_cell? w _ hw116_0)).trans hw116_0), ((HB.out.cell (World.block_lt_of_cell? w _ hw116_1)).trans hw116_1), ((HB.out.cell (World.block_lt_of_cell? w _ hw116_2)).trans hw116_2), ((HB.out.cell (World.block_lt_of_cell? w _ hw116_3)).trans hw116_3)⟩ (fun hHeld => ?_); refine with_tabW showO.tab13 showO.bits13 (fun HT_ HW_ => ?_)
   generalize wc.drew = w58 at BK101 HB HR112_3 HR114_3 HR116_3 hx112_0 hx112_1 hx112_2 hx112_3 hx114_0 hx114_1 hx114_2 hx114_3 hx116_0 hx116_1 hx116_2 hx116_3 hHeld ⊢
   refine pure_ (i := 0) (N := some 72) (v := ?_) (a' := ?_) #[true, false, false, false, false, false, false, false, false, false, false, false, false, false, false, false, false, false, false, false] rfl rfl (any_of HT_.out (by kernel_rfl)) (fun _ _ _ h => h) (Or.inl ⟨by rfl, ?_⟩) ?_ ?_
   rotate_left
   ·intro w'
    go_simp
    with_reducible rfl
   rotate_left
   ·simp only [Act.put, List.setIfInBounds_toArray, List.set_cons_zero, List.set_cons_succ, i64_w, i32_w]
    rfl
   refine pure_ (i := 6) (N := some 78) (v := ?_) (a' := ?_) #[true, false, false, false, false, false, true, false, false, false, false, false, false, false, false, false, false, false, false, false] rfl rfl (any_of HT_.out (by kernel_rfl)) (fun _ _ _ h => h) (Or.inl ⟨by rfl, ?_⟩) ?_ ?_
   rotate_left
   ·intro w'
    go_simp
    with_reducible rfl
   rotate_left
   ·simp only [Act.put, List.setIfInBounds_toArray, List.set_cons_zero, List.set_cons_succ, i64_w, i32_w]
    rfl
   refine pure_ (i := 13) (N := some 85) (v := ?_) (a' := ?_) #[true, false, false, false, false, false, true, false, false, false, false, false, false, true, false, false, false, false, false, false] rfl rfl (any_of HT_.out (by kernel_rfl)) (fun _ _ _ h => h) (Or.inl ⟨by rfl, ?_⟩) ?_ ?_
   rotate_left
   ·intro w'
    go_simp
    with_reducible rfl
   rotate_left
   ·simp only [Act.put, List.setIfInBounds_toArray, List.set_cons_zero, List.set_cons_succ, i64_w, i32_w]
    rfl
   refine take_ (i := 1) (N := some 73) (v := ?_) (a' := ?_) #[true, true, false, false, false, false, true, false, false, false, false, false, false, true, false, false, false, false, false, false] rfl rfl (take_ofW HT_.out HW_.out (by kernel_rfl)) (fun _ _ _ h => h) (Or.inl ⟨by rfl, ?_⟩) hHeld ?_ ?_
   rotate_left
   ·rintro w' ⟨s0, s1, s2, s3, s4, s5, s6, s7, s8, s9, s10, s11, s12, s13, s14, s15⟩
    go_simp
    with_reducible rfl
   rotate_left
   ·simp only [Act.put, List.setIfInBounds_toArray, List.set_cons_zero, List.set_cons_succ, i64_w, i32_w]
    rfl
   refine pure_ (i := 2) (N := some 74) (v := ?_) (a' := ?_) #[true, true, true, false, false, false, true, false, false, false, false, false, false, true, false, false, false, false, false, false] rfl rfl (any_of HT_.out (by kernel_rfl)) (fun _ _ _ h => h) (Or.inl ⟨by rfl, ?_⟩) ?_ ?_
   rotate_left
   ·intro w'
    go_simp
    with_reducible rfl
   rotate_left
   ·simp only [Act.put, List.setIfInBounds_toArray, List.set_cons_zero, List.set_cons_succ, i64_w, i32_w]
    rfl
   refine take_ (i := 3) (N := some 75) (v := ?_) (a' := ?_) #[true, true, true, true, false, false, true, false, false, false, false, false, false, true, false, false, false, false, false, false] rfl rfl (take_ofW HT_.out HW_.out (by kernel_rfl)) (fun _ _ _ h => h) (Or.inl ⟨by rfl, ?_⟩) hHeld ?_ ?_
   rotate_left
   ·rintro w' ⟨s0, s1, s2, s3, s4, s5, s6, s7, s8, s9, s10, s11, s12, s13, s14, s15⟩
    go_simp
    with_reducible rfl
   rotate_left
   ·simp only [Act.put, List.setIfInBounds_toArray, List.set_cons_zero, List.set_cons_succ, i64_w, i32_w]
    rfl
   refine take_ (i := 7) (N := some 79) (v := ?_) (a' := ?_) #[true, true, true, true, false, false, true, true, false, false, false, false, false, true, false, false, false, false, false, false] rfl rfl (take_ofW HT_.out HW_.out (by kernel_rfl)) (fun _ _ _ h => h) (Or.inl ⟨by rfl, ?_⟩) hHeld ?_ ?_
   rotate_left
   ·rintro w' ⟨s0, s1, s2, s3, s4, s5, s6, s7, s8, s9, s10, s11, s12, s13, s14, s15⟩
    go_simp
    with_reducible rfl
   rotate_left
   ·simp only [Act.put, List.setIfInBounds_toArray, List.set_cons_zero, List.set_cons_succ, i64_w, i32_w]
    rfl
   refine pure_ (i := 8) (N := some 80) (v := ?_) (a' := ?_) #[true, true, true, true, false, false, true, true, true, false, false, false, false, true, false, false, false, false, false, false] rfl rfl (any_of HT_.out (by kernel_rfl)) (fun _ _ _ h => h) (Or.inl ⟨by rfl, ?_⟩) ?_ ?_
   rotate_left
   ·intro w'
    go_simp
    with_reducible rfl
   rotate_left
   ·simp only [Act.put, List.setIfInBounds_toArray, List.set_cons_zero, List.set_cons_succ, i64_w, i32_w]
    rfl
   refine take_ (i := 9) (N := some 81) (v := ?_) (a' := ?_) #[true, true, true, true, false, false, true, true, true, true, false, false, false, true, false, false, false, false, false, false] rfl rfl (take_ofW HT_.out HW_.out (by kernel_rfl)) (fun _ _ _ h => h) (Or.inl ⟨by rfl, ?_⟩) hHeld ?_ ?_
   rotate_left
   ·rintro w' ⟨s0, s1, s2, s3, s4, s5, s6, s7, s8, s9, s10, s11, s12, s13, s14, s15⟩
    go_simp
    with_reducible rfl
   rotate_left
   ·simp only [Act.put, List.setIfInBounds_toArray, List.set_cons_zero, List.set_cons_succ, i64_w, i32_w]
    rfl
   refine take_ (i := 14) (N := some 86) (v := ?_) (a' := ?_) #[true, true, true, true, false, false, true, true, true, true, false, false, false, true, true, false, false, false, false, false] rfl rfl (take_ofW HT_.out HW_.out (by kernel_rfl)) (fun _ _ _ h => h) (Or.inl ⟨by rfl, ?_⟩) hHeld ?_ ?_
   rotate_left
   ·rintro w' ⟨s0, s1, s2, s3, s4, s5, s6, s7, s8, s9, s10, s11, s12, s13, s14, s15⟩
    go_simp
    with_reducible rfl
   rotate_left
   ·simp only [Act.put, List.setIfInBounds_toArray, List.set_cons_zero, List.set_cons_succ, i64_w, i32_w]
    rfl
   refine pure_ (i := 15) (N := some 87) (v := ?_) (a' := ?_) #[true, true, true, true, false, false, true, true, true, true, false, false, false, true, true, true, false, false, false, false] rfl rfl (any_of HT_.out (by kernel_rfl)) (fun _ _ _ h => h) (Or.inl ⟨by rfl, ?_⟩) ?_ ?_
   rotate_left
   ·intro w'
    go_simp
    with_reducible rfl
   rotate_left
   ·simp only [Act.put, List.setIfInBounds_toArray, List.set_cons_zero, List.set_cons_succ, i64_w, i32_w]
    rfl
   refine take_ (i := 16) (N := some 88) (v := ?_) (a' := ?_) #[true, true, true, true, false, false, true, true, true, true, false, false, false, true, true, true, true, false, false, false] rfl rfl (take_ofW HT_.out HW_.out (by kernel_rfl)) (fun _ _ _ h => h) (Or.inl ⟨by rfl, ?_⟩) hHeld ?_ ?_
   rotate_left
   ·rintro w' ⟨s0, s1, s2, s3, s4, s5, s6, s7, s8, s9, s10, s11, s12, s13, s14, s15⟩
    go_simp
    with_reducible rfl
   rotate_left
   ·simp only [Act.put, List.setIfInBounds_toArray, List.set_cons_zero, List.set_cons_succ, i64_w, i32_w]
    rfl
   refine one_ (i := 4) (N := some 76) #[true, true, true, true, true, false, true, true, true, true, false, false, false, true, true, true, true, false, false, false] rfl rfl (one_of HT_.out (by kernel_rfl)) (by decide) (fun K hK => ?_)
   refine goes_ Tryd.func84 (by kernel_rfl) rfl #[.agg #[.int .i64 ((rd_T26 l0_3 0).f0), .int .i64 ((rd_T26 l0_3 0).f1), .string ((rd_T26 l0_3 0).f2), .slice A112_3 ((rd_T26 l0_3 0).f3).length c112_3], .int .i64 3] (by rfl) rfl rfl (by (try simp only [List.map_toArray, List.map_cons, List.map_nil]); first | done | rfl | (simp only [List.length_drop, List.length_take]; rfl)) ?_
   with_reducible refine (opnd05.calls kj20 ((rd_T26 l0_3 0).f0) ((rd_T26 l0_3 0).f1) ((rd_T26 l0_3 0).f2) _ _ ((rd_T26 l0_3 0).f3) 3 t113 _ ?side1 ?side2 A48.out).mono ?_
   (case side1 => repeat (first | exact (Kd.C_below HR112_3.out HB.out) | (with_reducible refine Kd.C_alloc ?_ _) | (with_reducible refine Kd.C_drewN ?_ _) | (with_reducible refine Kd.C_drew ?_)))
   (case side2 => exact HC112_3.out)
   rintro e w59 ⟨rfl, hb⟩
   refine ⟨_, rfl, ?_⟩
   have n0_ := Aside0.mk (blk_below (g := gb101) (o := .cells #[.int .i64 a0_0, .int .i64 a0_1, .string a0_2, .slice (some ad112) l0_3.length c0_3] 26 (0, 0)) (by (with_reducible repeat (first | refine blk_drewN ?_ _ | refine blk_drew ?_ | refine blk_alloc ?_ _)); exact BK101.out) hb)
   have n1_ := Aside0.mk (below_step (by repeat (first | (with_reducible first | exact HB.out | apply below_alloc | apply pw_below_drewN | apply below_drew1 | refine below_set ?_ GE101.out) | exact HB.out)) hb)
   clear BK101
   clear HB
   have BK101 := n0_
   have HB := n1_
   clear n0_ n1_
   (try clear hb)
   (try clear hb2)
   (try clear hk)
   (try clear hi)
   refine hK.out _ _ ⟨(blk_cell BK101.out 0).trans rfl, (blk_cell BK101.out 1).trans rfl, (blk_cell BK101.out 2).trans rfl, (blk_cell BK101.out 3).trans rfl, ((HB.out.cell (World.block_lt_of_cell? w _ hw112_0)).trans hw112_0), ((HB.out.cell (World.block_lt_of_cell? w _ hw112_1)).trans hw112_1), ((HB.out.cell (World.block_lt_of_cell? w _ hw112_2)).trans hw112_2), ((HB.out.cell (World.block_lt_of_cell? w _ hw112_3)).trans hw112_3), ((HB.out.cell (World.block_lt_of_cell? w _ hw114_0)).trans hw114_0), ((HB.out.cell (World.block_lt_of_cell? w _ hw114_1)).trans hw114_1), ((HB.out.cell (World.block_lt_of_cell? w _ hw114_2)).trans hw114_2), ((HB.out.cell (World.block_lt_of_cell? w _ hw114_3)).trans hw114_3), ((HB.out.cell (World.block_lt_of_cell? w _ hw116_0)).trans hw116_0), ((HB.out.cell (World.block_lt_of_cell? w _ hw116_1)).trans hw116_1), ((HB.out.cell (World.block_lt_of_cell? w _ hw116_2)).trans hw116_2), ((HB.out.cell (World.block_lt_of_cell? w _ hw116_3)).trans hw116_3)⟩ (fun hHeld => ?_)
   clear hK K
   refine norm_ (a' := ?_) ?_ ?_
   rotate_left
   ·show Act.put _ (some 76) _ = _
    simp only [Act.put, List.setIfInBounds_toArray, List.set_cons_zero, List.set_cons_succ, i64_w, i32_w]
    rfl
   refine pure_ (i := 5) (N := some 77) (v := ?_) (a' := ?_) #[true, true, true, true, true, true, true, true, true, true, false, false, false, true, true, true, true, false, false, false] rfl rfl (any_of HT_.out (by kernel_rfl)) (fun _ _ _ h => h) (Or.inl ⟨by rfl, ?_⟩) ?_ ?_
   rotate_left
   ·intro w'
    go_simp
    with_reducible rfl
   rotate_left
   ·simp only [Act.put, List.setIfInBounds_toArray, List.set_cons_zero, List.set_cons_succ, i64_w, i32_w]
    rfl
   refine one_ (i := 10) (N := some 82) #[true, true, true, true, true, true, true, true, true, true, true, false, false, true, true, true, true, false, false, false] rfl rfl (one_of HT_.out (by kernel_rfl)) (by decide) (fun K hK => ?_)
   refine goes_ Tryd.func84 (by kernel_rfl) rfl #[.agg #[.int .i64 ((rd_T26 l0_3 1).f0), .int .i64 ((rd_T26 l0_3 1).f1), .string ((rd_T26 l0_3 1).f2), .slice A114_3 ((rd_T26 l0_3 1).f3).length c114_3], .int .i64 1] (by rfl) rfl rfl (by (try simp only [List.map_toArray, List.map_cons, List.map_nil]); first | done | rfl | (simp only [List.length_drop, List.length_take]; rfl)) ?_
   with_reducible refine (opnd05.calls kj20 ((rd_T26 l0_3 1).f0) ((rd_T26 l0_3 1).f1) ((rd_T26 l0_3 1).f2) _ _ ((rd_T26 l0_3 1).f3) 1 t115 _ ?side1 ?side2 A51.out).mono ?_
   (case side1 => repeat (first | exact (Kd.C_below HR114_3.out HB.out) | (with_reducible refine Kd.C_alloc ?_ _) | (with_reducible refine Kd.C_drewN ?_ _) | (with_reducible refine Kd.C_drew ?_)))
   (case side2 => exact HC114_3.out)
   rintro e w60 ⟨rfl, hb⟩
   refine ⟨_, rfl, ?_⟩
   have n0_ := Aside0.mk (blk_below (g := gb101) (o := .cells #[.int .i64 a0_0, .int .i64 a0_1, .string a0_2, .slice (some ad112) l0_3.length c0_3] 26 (0, 0)) (by (with_reducible repeat (first | refine blk_drewN ?_ _ | refine blk_drew ?_ | refine blk_alloc ?_ _)); exact BK101.out) hb)
   have n1_ := Aside0.mk (below_step (by repeat (first | (with_reducible first | exact HB.out | apply below_alloc | apply pw_below_drewN | apply below_drew1 | refine below_set ?_ GE101.out) | exact HB.out)) hb)
   clear BK101
   clear HB
   have BK101 := n0_
   have HB := n1_
   clear n0_ n1_
   (try clear hb)
   (try clear hb2)
   (try clear hk)
   (try clear hi)
   refine hK.out _ _ ⟨(blk_cell BK101.out 0).trans rfl, (blk_cell BK101.out 1).trans rfl, (blk_cell BK101.out 2).trans rfl, (blk_cell BK101.out 3).trans rfl, ((HB.out.cell (World.block_lt_of_cell? w _ hw112_0)).trans hw112_0), ((HB.out.cell (World.block_lt_of_cell? w _ hw112_1)).trans hw112_1), ((HB.out.cell (World.block_lt_of_cell? w _ hw112_2)).trans hw112_2), ((HB.out.cell (World.block_lt_of_cell? w _ hw112_3)).trans hw112_3), ((HB.out.cell (World.block_lt_of_cell? w _ hw114_0)).trans hw114_0), ((HB.out.cell (World.block_lt_of_cell? w _ hw114_1)).trans hw114_1), ((HB.out.cell (World.block_lt_of_cell? w _ hw114_2)).trans hw114_2), ((HB.out.cell (World.block_lt_of_cell? w _ hw114_3)).trans hw114_3), ((HB.out.cell (World.block_lt_of_cell? w _ hw116_0)).trans hw116_0), ((HB.out.cell (World.block_lt_of_cell? w _ hw116_1)).trans hw116_1), ((HB.out.cell (World.block_lt_of_cell? w _ hw116_2)).trans hw116_2), ((HB.out.cell (World.block_lt_of_cell? w _ hw116_3)).trans hw116_3)⟩ (fun hHeld => ?_)
   clear hK K
   refine norm_ (a' := ?_) ?_ ?_
   rotate_left
   ·show Act.put _ (some 82) _ = _
    simp only [Act.put, List.setIfInBounds_toArray, List.set_cons_zero, List.set_cons_succ, i64_w, i32_w]
    rfl
   refine pure_ (i := 11) (N := some 83) (v := ?_) (a' := ?_) #[true, true, true, true, true, true, true, true, true, true, true, true, false, true, true, true, true, false, false, false] rfl rfl (any_of HT_.out (by kernel_rfl)) (fun _ _ _ h => h) (Or.inl ⟨by rfl, ?_⟩) ?_ ?_
   rotate_left
   ·intro w'
    go_simp
    with_reducible rfl
   rotate_left
   ·simp only [Act.put, List.setIfInBounds_toArray, List.set_cons_zero, List.set_cons_succ, i64_w, i32_w]
    rfl
   refine pure_ (i := 12) (N := some 84) (v := ?_) (a' := ?_) #[true, true, true, true, true, true, true, true, true, true, true, true, true, true, true, true, true, false, false, false] rfl rfl (any_of HT_.out (by kernel_rfl)) (fun _ _ _ h => h) (Or.inl ⟨by rfl, ?_⟩) ?_ ?_
   rotate_left
   ·intro w'
    go_simp
    with_reducible rfl
   rotate_left
   ·simp only [Act.put, List.setIfInBounds_toArray, List.set_cons_zero, List.set_cons_succ, i64_w, i32_w]
    rfl
   refine one_ (i := 17) (N := some 89) #[true, true, true, true, true, true, true, true, true, true, true, true, true, true, true, true, true, true, false, false] rfl rfl (one_of HT_.out (by kernel_rfl)) (by decide) (fun K hK => ?_)
   refine goes_ Tryd.func84 (by kernel_rfl) rfl #[.agg #[.int .i64 ((rd_T26 l0_3 2).f0), .int .i64 ((rd_T26 l0_3 2).f1), .string ((rd_T26 l0_3 2).f2), .slice A116_3 ((rd_T26 l0_3 2).f3).length c116_3], .int .i64 2] (by rfl) rfl rfl (by (try simp only [List.map_toArray, List.map_cons, List.map_nil]); first | done | rfl | (simp only [List.length_drop, List.length_take]; rfl)) ?_
   with_reducible refine (opnd05.calls kj20 ((rd_T26 l0_3 2).f0) ((rd_T26 l0_3 2).f1) ((rd_T26 l0_3 2).f2) _ _ ((rd_T26 l0_3 2).f3) 2 t117 _ ?side1 ?side2 A55.out).mono ?_
   (case side1 => repeat (first | exact (Kd.C_below HR116_3.out HB.out) | (with_reducible refine Kd.C_alloc ?_ _) | (with_reducible refine Kd.C_drewN ?_ _) | (with_reducible refine Kd.C_drew ?_)))
   (case side2 => exact HC116_3.out)
   rintro e w61 ⟨rfl, hb⟩
   refine ⟨_, rfl, ?_⟩
   have n0_ := Aside0.mk (blk_below (g := gb101) (o := .cells #[.int .i64 a0_0, .int .i64 a0_1, .string a0_2, .slice (some ad112) l0_3.length c0_3] 26 (0, 0)) (by (with_reducible repeat (first | refine blk_drewN ?_ _ | refine blk_drew ?_ | refine blk_alloc ?_ _)); exact BK101.out) hb)
   have n1_ := Aside0.mk (below_step (by repeat (first | (with_reducible first | exact HB.out | apply below_alloc | apply pw_below_drewN | apply below_drew1 | refine below_set ?_ GE101.out) | exact HB.out)) hb)
   clear BK101
   clear HB
   have BK101 := n0_
   have HB := n1_
   clear n0_ n1_
   (try clear hb)
   (try clear hb2)
   (try clear hk)
   (try clear hi)
   refine hK.out _ _ ⟨(blk_cell BK101.out 0).trans rfl, (blk_cell BK101.out 1).trans rfl, (blk_cell BK101.out 2).trans rfl, (blk_cell BK101.out 3).trans rfl, ((HB.out.cell (World.block_lt_of_cell? w _ hw112_0)).trans hw112_0), ((HB.out.cell (World.block_lt_of_cell? w _ hw112_1)).trans hw112_1), ((HB.out.cell (World.block_lt_of_cell? w _ hw112_2)).trans hw112_2), ((HB.out.cell (World.block_lt_of_cell? w _ hw112_3)).trans hw112_3), ((HB.out.cell (World.block_lt_of_cell? w _ hw114_0)).trans hw114_0), ((HB.out.cell (World.block_lt_of_cell? w _ hw114_1)).trans hw114_1), ((HB.out.cell (World.block_lt_of_cell? w _ hw114_2)).trans hw114_2), ((HB.out.cell (World.block_lt_of_cell? w _ hw114_3)).trans hw114_3), ((HB.out.cell (World.block_lt_of_cell? w _ hw116_0)).trans hw116_0), ((HB.out.cell (World.block_lt_of_cell? w _ hw116_1)).trans hw116_1), ((HB.out.cell (World.block_lt_of_cell? w _ hw116_2)).trans hw116_2), ((HB.out.cell (World.block_lt_of_cell? w _ hw116_3)).trans hw116_3)⟩ (fun hHeld => ?_)
   clear hK K
   refine norm_ (a' := ?_) ?_ ?_
   rotate_left
   ·show Act.put _ (some 89) _ = _
    simp only [Act.put, List.setIfInBounds_toArray, List.set_cons_zero, List.set_cons_succ, i64_w, i32_w]
    rfl
   refine pure_ (i := 18) (N := some 90) (v := ?_) (a' := ?_) #[true, true, true, true, true, true, true, true, true, true, true, true, true, true, true, true, true, true, true, false] rfl rfl (any_of HT_.out (by kernel_rfl)) (fun _ _ _ h => h) (Or.inl ⟨by rfl, ?_⟩) ?_ ?_
   rotate_left
   ·intro w'
    go_simp
    with_reducible rfl
   rotate_left
   ·simp only [Act.put, List.setIfInBounds_toArray, List.set_cons_zero, List.set_cons_succ, i64_w, i32_w]
    rfl
   refine pure_ (i := 19) (N := some 2) (v := ?_) (a' := ?_) #[true, true, true, true, true, true, true, true, true, true, true, true, true, true, true, true, true, true, true, true] rfl rfl (any_of HT_.out (by kernel_rfl)) (fun _ _ _ h => h) (Or.inl ⟨by rfl, ?_⟩) ?_ ?_
   rotate_left
   ·intro w'
    go_simp
    with_reducible rfl
   rotate_left
   ·simp only [Act.put, List.setIfInBounds_toArray, List.set_cons_zero, List.set_cons_succ, i64_w, i32_w]
    rfl
   refine done_ (done_of HT_.out (by kernel_rfl)) ?_
   try go_wp2
   go_ret
   exact ⟨by first | rfl | (simp [errW_none, errW_some] <;> rfl) | (simp [*, errW_none, errW_some] <;> rfl), by repeat (first | (with_reducible first | exact HB.out | apply below_alloc | apply pw_below_drewN | apply below_drew1 | refine below_set ?_ GE101.out) | exact HB.out)⟩
end Go.Proofs.YtglmdfddgmkmaaaDoor.Q
end
section
namespace Go.Proofs.YtglmdfddgmkmaaaDoor.Q
open Go.RowKit Go.Proofs.YtglmdfddgmkmaaaDoorW.PrintWords Go.Proofs.YtglmdfddgmkmaaaDoorW.PrintLast Go.Proofs.YtglmdfddgmkmaaaDoorW.PrintMore
set_option linter.unusedVariables false
abbrev opOf (s : Sh05) : Op05 := ⟨fun k a0 a1 a2 a3 a4 => @opndS.f s k a0 a1 a2 a3 a4, @opndS.mono s, @opndS.calls s⟩
abbrev shOf (o : Op05) : Sh05 := ⟨fun k a0 a1 a2 a3 => @showO.f o k a0 a1 a2 a3, @showO.mono o, @showO.calls o⟩
abbrev sh0 : Sh05 := ⟨fun _ _ _ _ _ => none, fun _ _ _ _ _ => LeO.refl _, fun _ _ _ _ _ _ _ _ _ _ _ h => by cases h⟩
structure Box05 where
 s : Sh05
def lev05 : Nat → Box05
 | 0 => ⟨sh0⟩
 | n + 1 => ⟨shOf (opOf (lev05 n).s)⟩
def jobshellref05_show.f (k : Nat) (a0 a1 : Int) (a2 : ByteArray) (a3 : List S26) : Option (ByteArray) := (lev05 k).s.f k a0 a1 a2 a3
theorem jobshellref05_show.calls (k : Nat) : ∀ (a0_0 : Int) (a0_1 : Int) (a0_2 : ByteArray) (A0_3 : Option Addr) (c0_3 : Nat) (l0_3 : List (S26)) (r : ByteArray) (w : World) (hr0_3 : Kd.C k26 w A0_3 l0_3.length l0_3) (hc0_3 : l0_3.length ≤ c0_3) (h : jobshellref05_show.f k a0_0 a0_1 a0_2 l0_3 = some r),
 Calls Tryd.prog 53 #[.agg #[.int .i64 a0_0, .int .i64 a0_1, .string a0_2, .slice A0_3 l0_3.length c0_3]] w fun e w' => e = .returned (.string r) ∧ Below w.heap.size w w' :=
 fun a0_0 a0_1 a0_2 A0_3 c0_3 l0_3 r w hr hc h => (lev05 k).s.calls k a0_0 a0_1 a0_2 A0_3 c0_3 l0_3 r w hr hc h
end Go.Proofs.YtglmdfddgmkmaaaDoor.Q
end
section
namespace Go.Proofs.YtglmdfddgmkmaaaDoor.Q
open Go.RowKit Go.Proofs.YtglmdfddgmkmaaaDoorW.PrintWords Go.Proofs.YtglmdfddgmkmaaaDoorW.PrintLast Go.Proofs.YtglmdfddgmkmaaaDoorW.PrintMore
attribute [local go_sem] max2_int min2_int max_two min_two max_three min_three max_four min_four
set_option linter.unusedVariables false
set_option linter.unusedSimpArgs false
set_option maxRecDepth 100000 in
set_option maxHeartbeats 2000000 in
theorem second_step (s : ByteArray) (hs : s.size ≤ 4096) (k : Nat) (h3 : C105 s k 3) (h1 : C43 s k) (h2 : C70 s k) : C70 s (k + 1) := by
 intro g p t w0 w r hr hI hB hp
 have H3 := Aside0.mk h3
 have H1 := Aside0.mk h1
 have H2 := Aside0.mk h2
 have HS := Aside0.mk hs
 have HP := Aside0.mk hp
 clear h3 h1 h2 hs hp
 simp only [pr] at hr
 have hu26 := Tryd.underlying26
 have hu65 := Tryd.underlying65
 cases hA : pr s k (.level 3) p t with
 | none => rw [hA] at hr; simp [ebind] at hr
 | some ra =>
  rw [hA] at hr
  have HA := Aside0.mk hA
  clear hA
  cases ra with
  | error q =>
   obtain ⟨q, er⟩ := q
   simp only [ebind, Option.some.injEq] at hr
   subst hr
   have HC := Aside0.mk (Cx.start (s := s) hI hB)
   have gl := HC.out.lt
   clear hI hB
   go_enter Tryd.func70, Tryd.ntmps70
   go_wp2_with (first | ((with_reducible refine gate_dst (N := 2) rfl ?_); refine alloc26_event rfl 2 rfl rfl ?_; intro b2 wa1 hb_ ha_ hw_; have zb2 := hw_.size; have yb2 := Nat.le_of_eq hb_.symm; have nHC := Aside0.mk (HC.out.below hw_); have nVb2 := Aside0.mk (Vr.mk (w := w) ha_ (Nat.le_trans HC.out.size yb2)); clear HC; have HC := nHC; have Vb2 := nVb2; clear nHC nVb2; have kb2 := Vb2.out.ge; clear hw_ ha_ hb_) | (go_at_call 105; (with_reducible refine (H3.out 3 rfl g p t w0 _ _ HA.out HC.out.st HC.out.bel HP.out).mono ?_); rintro e we ⟨rfl, hb, hk⟩))
   exact ⟨rfl, Post.err hb (KeepBut.trans HC.out.keep hk (.inl rfl))⟩
  | ok xa =>
   obtain ⟨x, p1, t1⟩ := xa
   have HP1 := Aside0.mk (pr_fits s _ _ _ _ _ _ _ HP.out HA.out)
   have HQ1 := Aside0.mk (next_fits s _ _ HP1.out)
   simp only [ebind] at hr
   by_cases ht1 : t1.toList = [63]
   rotate_left
   ·rw [if_neg ht1] at hr
    have u1 : (t1.toList == ([63] : List UInt8)) = false := by simpa using ht1
    clear ht1
    simp only [Option.some.injEq] at hr
    subst hr
    have HC := Aside0.mk (Cx.start (s := s) hI hB)
    have gl := HC.out.lt
    clear hI hB
    go_enter Tryd.func70, Tryd.ntmps70
    go_upto_region 2 with (first | ((with_reducible refine gate_dst (N := 2) rfl ?_); refine alloc26_event rfl 2 rfl rfl ?_; intro b2 wa1 hb_ ha_ hw_; have zb2 := hw_.size; have yb2 := Nat.le_of_eq hb_.symm; have nHC := Aside0.mk (HC.out.below hw_); have nVb2 := Aside0.mk (Vr.mk (w := w) ha_ (Nat.le_trans HC.out.size yb2)); clear HC; have HC := nHC; have Vb2 := nVb2; clear nHC nVb2; have kb2 := Vb2.out.ge; clear hw_ ha_ hb_) | (go_at_call 105; have gx := Nat.lt_of_lt_of_le HC.out.lt HC.out.size; have qx := HC.out.size; have lb2_x := Vb2.out.lt; (with_reducible refine (H3.out 3 rfl g p t w0 _ _ HA.out HC.out.st HC.out.bel HP.out).mono ?_); rintro e wc2 ⟨Ax, cx, rfl, ht_, hi, hb, hk⟩; have zx := hk.1; have nHC := Aside0.mk (HC.out.call hi hb hk); have nVb2 := Aside0.mk (Vb2.out.call hk gl); have nTx := Aside0.mk (ht_); clear HC Vb2; have HC := nHC; have Vb2 := nVb2; have Tx := nTx; clear nHC nVb2 nTx; clear ht_ hi hb hk) | ((with_reducible refine gate_dst (N := 3) rfl ?_); refine alloc26_event rfl 3 rfl rfl ?_; intro b3 wa3 hb_ ha_ hw_; have lb2_b3 := Vb2.out.lt; have zb3 := hw_.size; have yb3 := Nat.le_of_eq hb_.symm; have nHC := Aside0.mk (HC.out.below hw_); have nVb2 := Aside0.mk (Vb2.out.below hw_); have nTx := Aside0.mk (Tx.out.below hw_); have nVb3 := Aside0.mk (Vr.mk (w := w) ha_ (Nat.le_trans HC.out.size yb3)); clear HC Vb2 Tx; have HC := nHC; have Vb2 := nVb2; have Tx := nTx; have Vb3 := nVb3; clear nHC nVb2 nTx nVb3; have kb3 := Vb3.out.ge; clear hw_ ha_ hb_) | (refine store26_event rfl 3 (.tmp 6) rfl rfl rfl rfl Vb3.out.at_ ?_; intro ws4 ha_ hw_; have zws4 := hw_.kept.1; have nHC := Aside0.mk (HC.out.wrote hw_ Vb3.out.ge); have nVb2 := Aside0.mk (Vb2.out.wrote hw_ (by omega)); have nTx := Aside0.mk (Tx.out.wrote hw_ (by omega)); have nVb3 := Aside0.mk (Vr.mk (w := w) ha_ Vb3.out.ge); clear HC Vb2 Tx Vb3; have HC := nHC; have Vb2 := nVb2; have Tx := nTx; have Vb3 := nVb3; clear nHC nVb2 nTx nVb3; clear hw_ ha_))
    obtain ⟨HG, hg⟩ := HC.out.st
    have c0 := cellS65_0 HG
    have c1 := cellS65_1 HG
    have c2 := cellS65_2 HG
    clear HG hg
    obtain ⟨x0, x1, x2, x3⟩ := Vb3.out.at_.cells
    go_upto_region 3 with (fail)
    go_wp2_with (first | (refine store26_event rfl 2 (.tmp 12) rfl rfl rfl rfl Vb2.out.at_ ?_; intro ws5 ha_ hw_; have zws5 := hw_.kept.1; have nHC := Aside0.mk (HC.out.wrote hw_ Vb2.out.ge); have nVb3 := Aside0.mk (Vb3.out.wrote hw_ (by omega)); have nTx := Aside0.mk (Tx.out.wrote hw_ (by omega)); have nVb2 := Aside0.mk (Vr.mk (w := w) ha_ Vb2.out.ge); clear HC Vb3 Tx Vb2; have HC := nHC; have Vb3 := nVb3; have Tx := nTx; have Vb2 := nVb2; clear nHC nVb3 nTx nVb2; clear hw_ ha_))
    refine bodyPost_ret (results_cell_row rfl _ _ b2 26 #[.int .i64 (x.f0), .int .i64 (x.f1), .string (x.f2), .slice Ax x.f3.length cx] (0, 0) _ rfl Vb2.out.at_ Tryd.underlying26 rfl (by kernel_rfl)) rfl ?_
    exact Post.done Tx.out HC.out (by omega) (by omega)
   rw [if_pos ht1] at hr
   have u1 : (t1.toList == ([63] : List UInt8)) = true := by simpa using ht1
   clear ht1
   cases hA : pr s k .first (nextP s p1 t1) (nextT s p1 t1) with
   | none => rw [hA] at hr; simp at hr
   | some rb =>
    rw [hA] at hr
    have HA1 := Aside0.mk hA
    clear hA
    cases rb with
    | error q =>
     obtain ⟨q, er⟩ := q
     simp only [Option.some.injEq] at hr
     subst hr
     have HC := Aside0.mk (Cx.start (s := s) hI hB)
     have gl := HC.out.lt
     clear hI hB
     go_enter Tryd.func70, Tryd.ntmps70
     go_upto_region 2 with (first | ((with_reducible refine gate_dst (N := 2) rfl ?_); refine alloc26_event rfl 2 rfl rfl ?_; intro b2 wa1 hb_ ha_ hw_; have zb2 := hw_.size; have yb2 := Nat.le_of_eq hb_.symm; have nHC := Aside0.mk (HC.out.below hw_); have nVb2 := Aside0.mk (Vr.mk (w := w) ha_ (Nat.le_trans HC.out.size yb2)); clear HC; have HC := nHC; have Vb2 := nVb2; clear nHC nVb2; have kb2 := Vb2.out.ge; clear hw_ ha_ hb_) | (go_at_call 105; have gx := Nat.lt_of_lt_of_le HC.out.lt HC.out.size; have qx := HC.out.size; have lb2_x := Vb2.out.lt; (with_reducible refine (H3.out 3 rfl g p t w0 _ _ HA.out HC.out.st HC.out.bel HP.out).mono ?_); rintro e wc2 ⟨Ax, cx, rfl, ht_, hi, hb, hk⟩; have zx := hk.1; have nHC := Aside0.mk (HC.out.call hi hb hk); have nVb2 := Aside0.mk (Vb2.out.call hk gl); have nTx := Aside0.mk (ht_); clear HC Vb2; have HC := nHC; have Vb2 := nVb2; have Tx := nTx; clear nHC nVb2 nTx; clear ht_ hi hb hk) | ((with_reducible refine gate_dst (N := 3) rfl ?_); refine alloc26_event rfl 3 rfl rfl ?_; intro b3 wa3 hb_ ha_ hw_; have lb2_b3 := Vb2.out.lt; have zb3 := hw_.size; have yb3 := Nat.le_of_eq hb_.symm; have nHC := Aside0.mk (HC.out.below hw_); have nVb2 := Aside0.mk (Vb2.out.below hw_); have nTx := Aside0.mk (Tx.out.below hw_); have nVb3 := Aside0.mk (Vr.mk (w := w) ha_ (Nat.le_trans HC.out.size yb3)); clear HC Vb2 Tx; have HC := nHC; have Vb2 := nVb2; have Tx := nTx; have Vb3 := nVb3; clear nHC nVb2 nTx nVb3; have kb3 := Vb3.out.ge; clear hw_ ha_ hb_) | (refine store26_event rfl 3 (.tmp 6) rfl rfl rfl rfl Vb3.out.at_ ?_; intro ws4 ha_ hw_; have zws4 := hw_.kept.1; have nHC := Aside0.mk (HC.out.wrote hw_ Vb3.out.ge); have nVb2 := Aside0.mk (Vb2.out.wrote hw_ (by omega)); have nTx := Aside0.mk (Tx.out.wrote hw_ (by omega)); have nVb3 := Aside0.mk (Vr.mk (w := w) ha_ Vb3.out.ge); clear HC Vb2 Tx Vb3; have HC := nHC; have Vb2 := nVb2; have Tx := nTx; have Vb3 := nVb3; clear nHC nVb2 nTx nVb3; clear hw_ ha_))
     obtain ⟨HG, hg⟩ := HC.out.st
     have c0 := cellS65_0 HG
     have c1 := cellS65_1 HG
     have c2 := cellS65_2 HG
     clear HG hg
     go_upto_region 4 with (fail)
     clear c0 c1 c2
     go_wp2_with (first | (go_at_call 42; have gn1 := Nat.lt_of_lt_of_le HC.out.lt HC.out.size; have qn1 := HC.out.size; have lb2_n1 := Vb2.out.lt; have lb3_n1 := Vb3.out.lt; (with_reducible refine (next_calls g s t1 p1 w0 _ HC.out.st HC.out.bel HP1.out HS.out).mono ?_); rintro e wn5 ⟨rfl, hi, hb, hk⟩; have zn1 := hk.1; have nHC := Aside0.mk (HC.out.call hi hb hk); have nVb2 := Aside0.mk (Vb2.out.call hk gl); have nVb3 := Aside0.mk (Vb3.out.call hk gl); have nTx := Aside0.mk (Tx.out.call hk (by omega)); clear HC Vb2 Vb3 Tx; have HC := nHC; have Vb2 := nVb2; have Vb3 := nVb3; have Tx := nTx; clear nHC nVb2 nVb3 nTx; clear hi hb hk) | (go_at_call 43; (with_reducible refine (H1.out g _ _ w0 _ _ HA1.out HC.out.st HC.out.bel HQ1.out).mono ?_); rintro e we ⟨rfl, hb, hk⟩))
     exact ⟨rfl, Post.err hb (KeepBut.trans HC.out.keep hk (.inl rfl))⟩
    | ok ya =>
     obtain ⟨y, p2, t2⟩ := ya
     have HP2 := Aside0.mk (pr_fits s _ _ _ _ _ _ _ HQ1.out HA1.out)
     have HQ2 := Aside0.mk (next_fits s _ _ HP2.out)
     simp only at hr
     by_cases ht2 : t2.toList = [58]
     rotate_left
     ·rw [if_neg ht2] at hr
      have U2 := Aside0.mk (show ¬ t2.toList = (⟨#[58]⟩ : ByteArray).toList by simpa using ht2)
      clear ht2
      simp only [Option.some.injEq] at hr
      subst hr
      have HC := Aside0.mk (Cx.start (s := s) hI hB)
      have gl := HC.out.lt
      clear hI hB
      go_enter Tryd.func70, Tryd.ntmps70
      go_upto_region 2 with (first | ((with_reducible refine gate_dst (N := 2) rfl ?_); refine alloc26_event rfl 2 rfl rfl ?_; intro b2 wa1 hb_ ha_ hw_; have zb2 := hw_.size; have yb2 := Nat.le_of_eq hb_.symm; have nHC := Aside0.mk (HC.out.below hw_); have nVb2 := Aside0.mk (Vr.mk (w := w) ha_ (Nat.le_trans HC.out.size yb2)); clear HC; have HC := nHC; have Vb2 := nVb2; clear nHC nVb2; have kb2 := Vb2.out.ge; clear hw_ ha_ hb_) | (go_at_call 105; have gx := Nat.lt_of_lt_of_le HC.out.lt HC.out.size; have qx := HC.out.size; have lb2_x := Vb2.out.lt; (with_reducible refine (H3.out 3 rfl g p t w0 _ _ HA.out HC.out.st HC.out.bel HP.out).mono ?_); rintro e wc2 ⟨Ax, cx, rfl, ht_, hi, hb, hk⟩; have zx := hk.1; have nHC := Aside0.mk (HC.out.call hi hb hk); have nVb2 := Aside0.mk (Vb2.out.call hk gl); have nTx := Aside0.mk (ht_); clear HC Vb2; have HC := nHC; have Vb2 := nVb2; have Tx := nTx; clear nHC nVb2 nTx; clear ht_ hi hb hk) | ((with_reducible refine gate_dst (N := 3) rfl ?_); refine alloc26_event rfl 3 rfl rfl ?_; intro b3 wa3 hb_ ha_ hw_; have lb2_b3 := Vb2.out.lt; have zb3 := hw_.size; have yb3 := Nat.le_of_eq hb_.symm; have nHC := Aside0.mk (HC.out.below hw_); have nVb2 := Aside0.mk (Vb2.out.below hw_); have nTx := Aside0.mk (Tx.out.below hw_); have nVb3 := Aside0.mk (Vr.mk (w := w) ha_ (Nat.le_trans HC.out.size yb3)); clear HC Vb2 Tx; have HC := nHC; have Vb2 := nVb2; have Tx := nTx; have Vb3 := nVb3; clear nHC nVb2 nTx nVb3; have kb3 := Vb3.out.ge; clear hw_ ha_ hb_) | (refine store26_event rfl 3 (.tmp 6) rfl rfl rfl rfl Vb3.out.at_ ?_; intro ws4 ha_ hw_; have zws4 := hw_.kept.1; have nHC := Aside0.mk (HC.out.wrote hw_ Vb3.out.ge); have nVb2 := Aside0.mk (Vb2.out.wrote hw_ (by omega)); have nTx := Aside0.mk (Tx.out.wrote hw_ (by omega)); have nVb3 := Aside0.mk (Vr.mk (w := w) ha_ Vb3.out.ge); clear HC Vb2 Tx Vb3; have HC := nHC; have Vb2 := nVb2; have Tx := nTx; have Vb3 := nVb3; clear nHC nVb2 nTx nVb3; clear hw_ ha_))
      obtain ⟨HG, hg⟩ := HC.out.st
      have c0 := cellS65_0 HG
      have c1 := cellS65_1 HG
      have c2 := cellS65_2 HG
      clear HG hg
      go_upto_region 4 with (fail)
      clear c0 c1 c2
      go_upto_region 6 with (first | (go_at_call 42; have gn1 := Nat.lt_of_lt_of_le HC.out.lt HC.out.size; have qn1 := HC.out.size; have lb2_n1 := Vb2.out.lt; have lb3_n1 := Vb3.out.lt; (with_reducible refine (next_calls g s t1 p1 w0 _ HC.out.st HC.out.bel HP1.out HS.out).mono ?_); rintro e wn5 ⟨rfl, hi, hb, hk⟩; have zn1 := hk.1; have nHC := Aside0.mk (HC.out.call hi hb hk); have nVb2 := Aside0.mk (Vb2.out.call hk gl); have nVb3 := Aside0.mk (Vb3.out.call hk gl); have nTx := Aside0.mk (Tx.out.call hk (by omega)); clear HC Vb2 Vb3 Tx; have HC := nHC; have Vb2 := nVb2; have Vb3 := nVb3; have Tx := nTx; clear nHC nVb2 nVb3 nTx; clear hi hb hk) | (go_at_call 43; have gy := Nat.lt_of_lt_of_le HC.out.lt HC.out.size; have qy := HC.out.size; have lb2_y := Vb2.out.lt; have lb3_y := Vb3.out.lt; (with_reducible refine (H1.out g _ _ w0 _ _ HA1.out HC.out.st HC.out.bel HQ1.out).mono ?_); rintro e wc6 ⟨Ay, cy, rfl, ht_, hi, hb, hk⟩; have zy := hk.1; have nHC := Aside0.mk (HC.out.call hi hb hk); have nVb2 := Aside0.mk (Vb2.out.call hk gl); have nVb3 := Aside0.mk (Vb3.out.call hk gl); have nTx := Aside0.mk (Tx.out.call hk (by omega)); have nTy := Aside0.mk (ht_); clear HC Vb2 Vb3 Tx; have HC := nHC; have Vb2 := nVb2; have Vb3 := nVb3; have Tx := nTx; have Ty := nTy; clear nHC nVb2 nVb3 nTx nTy; clear ht_ hi hb hk) | ((with_reducible refine gate_dst (N := 4) rfl ?_); refine alloc26_event rfl 4 rfl rfl ?_; intro b4 wa7 hb_ ha_ hw_; have lb2_b4 := Vb2.out.lt; have lb3_b4 := Vb3.out.lt; have zb4 := hw_.size; have yb4 := Nat.le_of_eq hb_.symm; have nHC := Aside0.mk (HC.out.below hw_); have nVb2 := Aside0.mk (Vb2.out.below hw_); have nVb3 := Aside0.mk (Vb3.out.below hw_); have nTx := Aside0.mk (Tx.out.below hw_); have nTy := Aside0.mk (Ty.out.below hw_); have nVb4 := Aside0.mk (Vr.mk (w := w) ha_ (Nat.le_trans HC.out.size yb4)); clear HC Vb2 Vb3 Tx Ty; have HC := nHC; have Vb2 := nVb2; have Vb3 := nVb3; have Tx := nTx; have Ty := nTy; have Vb4 := nVb4; clear nHC nVb2 nVb3 nTx nTy nVb4; have kb4 := Vb4.out.ge; clear hw_ ha_ hb_) | (refine store26_event rfl 4 (.tmp 16) rfl rfl rfl rfl Vb4.out.at_ ?_; intro ws8 ha_ hw_; have zws8 := hw_.kept.1; have nHC := Aside0.mk (HC.out.wrote hw_ Vb4.out.ge); have nVb2 := Aside0.mk (Vb2.out.wrote hw_ (by omega)); have nVb3 := Aside0.mk (Vb3.out.wrote hw_ (by omega)); have nTx := Aside0.mk (Tx.out.wrote hw_ (by omega)); have nTy := Aside0.mk (Ty.out.wrote hw_ (by omega)); have nVb4 := Aside0.mk (Vr.mk (w := w) ha_ Vb4.out.ge); clear HC Vb2 Vb3 Tx Ty Vb4; have HC := nHC; have Vb2 := nVb2; have Vb3 := nVb3; have Tx := nTx; have Ty := nTy; have Vb4 := nVb4; clear nHC nVb2 nVb3 nTx nTy nVb4; clear hw_ ha_))
      go_wp2_with (first | (go_at_call 106; (with_reducible refine (expect_no g s t2 _ p2 w0 _ HC.out.st U2.out).mono ?_); rintro e we ⟨rfl, rfl⟩))
      exact ⟨rfl, Post.err HC.out.bel HC.out.keep⟩
     rw [if_pos ht2] at hr
     have U2 := Aside0.mk (show t2.toList = (⟨#[58]⟩ : ByteArray).toList by rw [ht2]; simp)
     clear ht2
     cases hA : pr s k .second (nextP s p2 t2) (nextT s p2 t2) with
     | none => rw [hA] at hr; simp at hr
     | some rc =>
      rw [hA] at hr
      have HA2 := Aside0.mk hA
      clear hA
      cases rc with
      | error q =>
       obtain ⟨q, er⟩ := q
       simp only [Option.some.injEq] at hr
       subst hr
       have HC := Aside0.mk (Cx.start (s := s) hI hB)
       have gl := HC.out.lt
       clear hI hB
       go_enter Tryd.func70, Tryd.ntmps70
       go_upto_region 2 with (first | ((with_reducible refine gate_dst (N := 2) rfl ?_); refine alloc26_event rfl 2 rfl rfl ?_; intro b2 wa1 hb_ ha_ hw_; have zb2 := hw_.size; have yb2 := Nat.le_of_eq hb_.symm; have nHC := Aside0.mk (HC.out.below hw_); have nVb2 := Aside0.mk (Vr.mk (w := w) ha_ (Nat.le_trans HC.out.size yb2)); clear HC; have HC := nHC; have Vb2 := nVb2; clear nHC nVb2; have kb2 := Vb2.out.ge; clear hw_ ha_ hb_) | (go_at_call 105; have gx := Nat.lt_of_lt_of_le HC.out.lt HC.out.size; have qx := HC.out.size; have lb2_x := Vb2.out.lt; (with_reducible refine (H3.out 3 rfl g p t w0 _ _ HA.out HC.out.st HC.out.bel HP.out).mono ?_); rintro e wc2 ⟨Ax, cx, rfl, ht_, hi, hb, hk⟩; have zx := hk.1; have nHC := Aside0.mk (HC.out.call hi hb hk); have nVb2 := Aside0.mk (Vb2.out.call hk gl); have nTx := Aside0.mk (ht_); clear HC Vb2; have HC := nHC; have Vb2 := nVb2; have Tx := nTx; clear nHC nVb2 nTx; clear ht_ hi hb hk) | ((with_reducible refine gate_dst (N := 3) rfl ?_); refine alloc26_event rfl 3 rfl rfl ?_; intro b3 wa3 hb_ ha_ hw_; have lb2_b3 := Vb2.out.lt; have zb3 := hw_.size; have yb3 := Nat.le_of_eq hb_.symm; have nHC := Aside0.mk (HC.out.below hw_); have nVb2 := Aside0.mk (Vb2.out.below hw_); have nTx := Aside0.mk (Tx.out.below hw_); have nVb3 := Aside0.mk (Vr.mk (w := w) ha_ (Nat.le_trans HC.out.size yb3)); clear HC Vb2 Tx; have HC := nHC; have Vb2 := nVb2; have Tx := nTx; have Vb3 := nVb3; clear nHC nVb2 nTx nVb3; have kb3 := Vb3.out.ge; clear hw_ ha_ hb_) | (refine store26_event rfl 3 (.tmp 6) rfl rfl rfl rfl Vb3.out.at_ ?_; intro ws4 ha_ hw_; have zws4 := hw_.kept.1; have nHC := Aside0.mk (HC.out.wrote hw_ Vb3.out.ge); have nVb2 := Aside0.mk (Vb2.out.wrote hw_ (by omega)); have nTx := Aside0.mk (Tx.out.wrote hw_ (by omega)); have nVb3 := Aside0.mk (Vr.mk (w := w) ha_ Vb3.out.ge); clear HC Vb2 Tx Vb3; have HC := nHC; have Vb2 := nVb2; have Tx := nTx; have Vb3 := nVb3; clear nHC nVb2 nTx nVb3; clear hw_ ha_))
       obtain ⟨HG, hg⟩ := HC.out.st
       have c0 := cellS65_0 HG
       have c1 := cellS65_1 HG
       have c2 := cellS65_2 HG
       clear HG hg
       go_upto_region 4 with (fail)
       clear c0 c1 c2
       go_upto_region 6 with (first | (go_at_call 42; have gn1 := Nat.lt_of_lt_of_le HC.out.lt HC.out.size; have qn1 := HC.out.size; have lb2_n1 := Vb2.out.lt; have lb3_n1 := Vb3.out.lt; (with_reducible refine (next_calls g s t1 p1 w0 _ HC.out.st HC.out.bel HP1.out HS.out).mono ?_); rintro e wn5 ⟨rfl, hi, hb, hk⟩; have zn1 := hk.1; have nHC := Aside0.mk (HC.out.call hi hb hk); have nVb2 := Aside0.mk (Vb2.out.call hk gl); have nVb3 := Aside0.mk (Vb3.out.call hk gl); have nTx := Aside0.mk (Tx.out.call hk (by omega)); clear HC Vb2 Vb3 Tx; have HC := nHC; have Vb2 := nVb2; have Vb3 := nVb3; have Tx := nTx; clear nHC nVb2 nVb3 nTx; clear hi hb hk) | (go_at_call 43; have gy := Nat.lt_of_lt_of_le HC.out.lt HC.out.size; have qy := HC.out.size; have lb2_y := Vb2.out.lt; have lb3_y := Vb3.out.lt; (with_reducible refine (H1.out g _ _ w0 _ _ HA1.out HC.out.st HC.out.bel HQ1.out).mono ?_); rintro e wc6 ⟨Ay, cy, rfl, ht_, hi, hb, hk⟩; have zy := hk.1; have nHC := Aside0.mk (HC.out.call hi hb hk); have nVb2 := Aside0.mk (Vb2.out.call hk gl); have nVb3 := Aside0.mk (Vb3.out.call hk gl); have nTx := Aside0.mk (Tx.out.call hk (by omega)); have nTy := Aside0.mk (ht_); clear HC Vb2 Vb3 Tx; have HC := nHC; have Vb2 := nVb2; have Vb3 := nVb3; have Tx := nTx; have Ty := nTy; clear nHC nVb2 nVb3 nTx nTy; clear ht_ hi hb hk) | ((with_reducible refine gate_dst (N := 4) rfl ?_); refine alloc26_event rfl 4 rfl rfl ?_; intro b4 wa7 hb_ ha_ hw_; have lb2_b4 := Vb2.out.lt; have lb3_b4 := Vb3.out.lt; have zb4 := hw_.size; have yb4 := Nat.le_of_eq hb_.symm; have nHC := Aside0.mk (HC.out.below hw_); have nVb2 := Aside0.mk (Vb2.out.below hw_); have nVb3 := Aside0.mk (Vb3.out.below hw_); have nTx := Aside0.mk (Tx.out.below hw_); have nTy := Aside0.mk (Ty.out.below hw_); have nVb4 := Aside0.mk (Vr.mk (w := w) ha_ (Nat.le_trans HC.out.size yb4)); clear HC Vb2 Vb3 Tx Ty; have HC := nHC; have Vb2 := nVb2; have Vb3 := nVb3; have Tx := nTx; have Ty := nTy; have Vb4 := nVb4; clear nHC nVb2 nVb3 nTx nTy nVb4; have kb4 := Vb4.out.ge; clear hw_ ha_ hb_) | (refine store26_event rfl 4 (.tmp 16) rfl rfl rfl rfl Vb4.out.at_ ?_; intro ws8 ha_ hw_; have zws8 := hw_.kept.1; have nHC := Aside0.mk (HC.out.wrote hw_ Vb4.out.ge); have nVb2 := Aside0.mk (Vb2.out.wrote hw_ (by omega)); have nVb3 := Aside0.mk (Vb3.out.wrote hw_ (by omega)); have nTx := Aside0.mk (Tx.out.wrote hw_ (by omega)); have nTy := Aside0.mk (Ty.out.wrote hw_ (by omega)); have nVb4 := Aside0.mk (Vr.mk (w := w) ha_ Vb4.out.ge); clear HC Vb2 Vb3 Tx Ty Vb4; have HC := nHC; have Vb2 := nVb2; have Vb3 := nVb3; have Tx := nTx; have Ty := nTy; have Vb4 := nVb4; clear nHC nVb2 nVb3 nTx nTy nVb4; clear hw_ ha_))
       go_upto_region 7 with (first | (go_at_call 106; have ge2 := Nat.lt_of_lt_of_le HC.out.lt HC.out.size; have qe2 := HC.out.size; have lb2_e2 := Vb2.out.lt; have lb3_e2 := Vb3.out.lt; have lb4_e2 := Vb4.out.lt; (with_reducible refine (expect_yes g s t2 _ p2 w0 _ HC.out.st HC.out.bel HP2.out HS.out U2.out).mono ?_); rintro e wn9 ⟨rfl, hi, hb, hk⟩; have ze2 := hk.1; have nHC := Aside0.mk (HC.out.call hi hb hk); have nVb2 := Aside0.mk (Vb2.out.call hk gl); have nVb3 := Aside0.mk (Vb3.out.call hk gl); have nVb4 := Aside0.mk (Vb4.out.call hk gl); have nTx := Aside0.mk (Tx.out.call hk (by omega)); have nTy := Aside0.mk (Ty.out.call hk (by omega)); clear HC Vb2 Vb3 Vb4 Tx Ty; have HC := nHC; have Vb2 := nVb2; have Vb3 := nVb3; have Vb4 := nVb4; have Tx := nTx; have Ty := nTy; clear nHC nVb2 nVb3 nVb4 nTx nTy; clear hi hb hk))
       refine start_ (n := 7) (S := fun w' => At26 w' b3 x.f0 x.f1 x.f2 (.slice Ax x.f3.length cx) ∧ At26 w' b4 y.f0 y.f1 y.f2 (.slice Ay y.f3.length cy)) (ds := [6]) #[false, false, false, false, false, false, false] (by kernel_rfl) rfl rfl ⟨Vb3.out.drew.at_, Vb4.out.drew.at_⟩ (fun hHeld => ?_)
       have nHC := Aside0.mk (HC.out.drew)
       have nVb2 := Aside0.mk (Vb2.out.drew)
       have nVb3 := Aside0.mk (Vb3.out.drew)
       have nVb4 := Aside0.mk (Vb4.out.drew)
       have nTx := Aside0.mk (Tx.out.drew)
       have nTy := Aside0.mk (Ty.out.drew)
       clear HC Vb2 Vb3 Vb4 Tx Ty
       have HC := nHC
       have Vb2 := nVb2
       have Vb3 := nVb3
       have Vb4 := nVb4
       have Tx := nTx
       have Ty := nTy
       clear nHC nVb2 nVb3 nVb4 nTx nTy
       have zd : wn9.heap.size ≤ wn9.drew.heap.size := Nat.le_refl _
       refine pure_ (i := 2) (N := some 21) (v := ?_) (a' := ?_) #[false, false, true, false, false, false, false] rfl rfl (by kernel_rfl) (fun _ _ _ h => h) (Or.inl ⟨by rfl, ?_⟩) ?_ ?_
       rotate_left
       ·intro w'
        go_simp
        with_reducible rfl
       rotate_left
       ·simp only [Act.put, List.setIfInBounds_toArray, List.set_cons_zero, List.set_cons_succ, i64_w, i32_w]
        rfl
       refine take_ (i := 0) (N := some 19) (v := ?_) (a' := ?_) #[true, false, true, false, false, false, false] rfl rfl (by kernel_rfl) (fun _ _ _ h => h) (Or.inl ⟨by rfl, ?_⟩) hHeld ?_ ?_
       rotate_left
       ·rintro w' ⟨s3, s4⟩
        obtain ⟨e0, e1, e2, e3⟩ := s3.cells
        go_simp
        with_reducible rfl
       rotate_left
       ·simp only [Act.put, List.setIfInBounds_toArray, List.set_cons_zero, List.set_cons_succ, i64_w, i32_w]
        rfl
       refine take_ (i := 1) (N := some 20) (v := ?_) (a' := ?_) #[true, true, true, false, false, false, false] rfl rfl (by kernel_rfl) (fun _ _ _ h => h) (Or.inl ⟨by rfl, ?_⟩) hHeld ?_ ?_
       rotate_left
       ·rintro w' ⟨s3, s4⟩
        obtain ⟨e0, e1, e2, e3⟩ := s4.cells
        go_simp
        with_reducible rfl
       rotate_left
       ·simp only [Act.put, List.setIfInBounds_toArray, List.set_cons_zero, List.set_cons_succ, i64_w, i32_w]
        rfl
       refine one_ (i := 3) (N := some 22) #[true, true, true, true, false, false, false] rfl rfl (by kernel_rfl) (by decide) (fun K hK => ?_)
       refine goesP_ Tryd.func70 (by kernel_rfl) rfl #[.pointer (some ⟨g, 0, none⟩)] (by rfl) rfl (by simp only [List.map_toArray, List.map_cons, List.map_nil]; rfl) (faultV q er) ?_
       refine (H2.out g _ _ w0 _ _ HA2.out HC.out.st HC.out.bel HQ2.out).mono ?_
       rintro e we ⟨rfl, hb, hk⟩
       exact ⟨rfl, rfl, Post.err hb (KeepBut.trans HC.out.keep hk (.inl rfl))⟩
      | ok za =>
       obtain ⟨z, p3, t3⟩ := za
       simp only [Option.some.injEq] at hr
       subst hr
       have HC := Aside0.mk (Cx.start (s := s) hI hB)
       have gl := HC.out.lt
       clear hI hB
       go_enter Tryd.func70, Tryd.ntmps70
       go_upto_region 2 with (first | ((with_reducible refine gate_dst (N := 2) rfl ?_); refine alloc26_event rfl 2 rfl rfl ?_; intro b2 wa1 hb_ ha_ hw_; have zb2 := hw_.size; have yb2 := Nat.le_of_eq hb_.symm; have nHC := Aside0.mk (HC.out.below hw_); have nVb2 := Aside0.mk (Vr.mk (w := w) ha_ (Nat.le_trans HC.out.size yb2)); clear HC; have HC := nHC; have Vb2 := nVb2; clear nHC nVb2; have kb2 := Vb2.out.ge; clear hw_ ha_ hb_) | (go_at_call 105; have gx := Nat.lt_of_lt_of_le HC.out.lt HC.out.size; have qx := HC.out.size; have lb2_x := Vb2.out.lt; (with_reducible refine (H3.out 3 rfl g p t w0 _ _ HA.out HC.out.st HC.out.bel HP.out).mono ?_); rintro e wc2 ⟨Ax, cx, rfl, ht_, hi, hb, hk⟩; have zx := hk.1; have nHC := Aside0.mk (HC.out.call hi hb hk); have nVb2 := Aside0.mk (Vb2.out.call hk gl); have nTx := Aside0.mk (ht_); clear HC Vb2; have HC := nHC; have Vb2 := nVb2; have Tx := nTx; clear nHC nVb2 nTx; clear ht_ hi hb hk) | ((with_reducible refine gate_dst (N := 3) rfl ?_); refine alloc26_event rfl 3 rfl rfl ?_; intro b3 wa3 hb_ ha_ hw_; have lb2_b3 := Vb2.out.lt; have zb3 := hw_.size; have yb3 := Nat.le_of_eq hb_.symm; have nHC := Aside0.mk (HC.out.below hw_); have nVb2 := Aside0.mk (Vb2.out.below hw_); have nTx := Aside0.mk (Tx.out.below hw_); have nVb3 := Aside0.mk (Vr.mk (w := w) ha_ (Nat.le_trans HC.out.size yb3)); clear HC Vb2 Tx; have HC := nHC; have Vb2 := nVb2; have Tx := nTx; have Vb3 := nVb3; clear nHC nVb2 nTx nVb3; have kb3 := Vb3.out.ge; clear hw_ ha_ hb_) | (refine store26_event rfl 3 (.tmp 6) rfl rfl rfl rfl Vb3.out.at_ ?_; intro ws4 ha_ hw_; have zws4 := hw_.kept.1; have nHC := Aside0.mk (HC.out.wrote hw_ Vb3.out.ge); have nVb2 := Aside0.mk (Vb2.out.wrote hw_ (by omega)); have nTx := Aside0.mk (Tx.out.wrote hw_ (by omega)); have nVb3 := Aside0.mk (Vr.mk (w := w) ha_ Vb3.out.ge); clear HC Vb2 Tx Vb3; have HC := nHC; have Vb2 := nVb2; have Tx := nTx; have Vb3 := nVb3; clear nHC nVb2 nTx nVb3; clear hw_ ha_))
       obtain ⟨HG, hg⟩ := HC.out.st
       have c0 := cellS65_0 HG
       have c1 := cellS65_1 HG
       have c2 := cellS65_2 HG
       clear HG hg
       go_upto_region 4 with (fail)
       clear c0 c1 c2
       go_upto_region 6 with (first | (go_at_call 42; have gn1 := Nat.lt_of_lt_of_le HC.out.lt HC.out.size; have qn1 := HC.out.size; have lb2_n1 := Vb2.out.lt; have lb3_n1 := Vb3.out.lt; (with_reducible refine (next_calls g s t1 p1 w0 _ HC.out.st HC.out.bel HP1.out HS.out).mono ?_); rintro e wn5 ⟨rfl, hi, hb, hk⟩; have zn1 := hk.1; have nHC := Aside0.mk (HC.out.call hi hb hk); have nVb2 := Aside0.mk (Vb2.out.call hk gl); have nVb3 := Aside0.mk (Vb3.out.call hk gl); have nTx := Aside0.mk (Tx.out.call hk (by omega)); clear HC Vb2 Vb3 Tx; have HC := nHC; have Vb2 := nVb2; have Vb3 := nVb3; have Tx := nTx; clear nHC nVb2 nVb3 nTx; clear hi hb hk) | (go_at_call 43; have gy := Nat.lt_of_lt_of_le HC.out.lt HC.out.size; have qy := HC.out.size; have lb2_y := Vb2.out.lt; have lb3_y := Vb3.out.lt; (with_reducible refine (H1.out g _ _ w0 _ _ HA1.out HC.out.st HC.out.bel HQ1.out).mono ?_); rintro e wc6 ⟨Ay, cy, rfl, ht_, hi, hb, hk⟩; have zy := hk.1; have nHC := Aside0.mk (HC.out.call hi hb hk); have nVb2 := Aside0.mk (Vb2.out.call hk gl); have nVb3 := Aside0.mk (Vb3.out.call hk gl); have nTx := Aside0.mk (Tx.out.call hk (by omega)); have nTy := Aside0.mk (ht_); clear HC Vb2 Vb3 Tx; have HC := nHC; have Vb2 := nVb2; have Vb3 := nVb3; have Tx := nTx; have Ty := nTy; clear nHC nVb2 nVb3 nTx nTy; clear ht_ hi hb hk) | ((with_reducible refine gate_dst (N := 4) rfl ?_); refine alloc26_event rfl 4 rfl rfl ?_; intro b4 wa7 hb_ ha_ hw_; have lb2_b4 := Vb2.out.lt; have lb3_b4 := Vb3.out.lt; have zb4 := hw_.size; have yb4 := Nat.le_of_eq hb_.symm; have nHC := Aside0.mk (HC.out.below hw_); have nVb2 := Aside0.mk (Vb2.out.below hw_); have nVb3 := Aside0.mk (Vb3.out.below hw_); have nTx := Aside0.mk (Tx.out.below hw_); have nTy := Aside0.mk (Ty.out.below hw_); have nVb4 := Aside0.mk (Vr.mk (w := w) ha_ (Nat.le_trans HC.out.size yb4)); clear HC Vb2 Vb3 Tx Ty; have HC := nHC; have Vb2 := nVb2; have Vb3 := nVb3; have Tx := nTx; have Ty := nTy; have Vb4 := nVb4; clear nHC nVb2 nVb3 nTx nTy nVb4; have kb4 := Vb4.out.ge; clear hw_ ha_ hb_) | (refine store26_event rfl 4 (.tmp 16) rfl rfl rfl rfl Vb4.out.at_ ?_; intro ws8 ha_ hw_; have zws8 := hw_.kept.1; have nHC := Aside0.mk (HC.out.wrote hw_ Vb4.out.ge); have nVb2 := Aside0.mk (Vb2.out.wrote hw_ (by omega)); have nVb3 := Aside0.mk (Vb3.out.wrote hw_ (by omega)); have nTx := Aside0.mk (Tx.out.wrote hw_ (by omega)); have nTy := Aside0.mk (Ty.out.wrote hw_ (by omega)); have nVb4 := Aside0.mk (Vr.mk (w := w) ha_ Vb4.out.ge); clear HC Vb2 Vb3 Tx Ty Vb4; have HC := nHC; have Vb2 := nVb2; have Vb3 := nVb3; have Tx := nTx; have Ty := nTy; have Vb4 := nVb4; clear nHC nVb2 nVb3 nTx nTy nVb4; clear hw_ ha_))
       go_upto_region 7 with (first | (go_at_call 106; have ge2 := Nat.lt_of_lt_of_le HC.out.lt HC.out.size; have qe2 := HC.out.size; have lb2_e2 := Vb2.out.lt; have lb3_e2 := Vb3.out.lt; have lb4_e2 := Vb4.out.lt; (with_reducible refine (expect_yes g s t2 _ p2 w0 _ HC.out.st HC.out.bel HP2.out HS.out U2.out).mono ?_); rintro e wn9 ⟨rfl, hi, hb, hk⟩; have ze2 := hk.1; have nHC := Aside0.mk (HC.out.call hi hb hk); have nVb2 := Aside0.mk (Vb2.out.call hk gl); have nVb3 := Aside0.mk (Vb3.out.call hk gl); have nVb4 := Aside0.mk (Vb4.out.call hk gl); have nTx := Aside0.mk (Tx.out.call hk (by omega)); have nTy := Aside0.mk (Ty.out.call hk (by omega)); clear HC Vb2 Vb3 Vb4 Tx Ty; have HC := nHC; have Vb2 := nVb2; have Vb3 := nVb3; have Vb4 := nVb4; have Tx := nTx; have Ty := nTy; clear nHC nVb2 nVb3 nVb4 nTx nTy; clear hi hb hk))
       refine start_ (n := 7) (S := fun w' => At26 w' b3 x.f0 x.f1 x.f2 (.slice Ax x.f3.length cx) ∧ At26 w' b4 y.f0 y.f1 y.f2 (.slice Ay y.f3.length cy)) (ds := [6]) #[false, false, false, false, false, false, false] (by kernel_rfl) rfl rfl ⟨Vb3.out.drew.at_, Vb4.out.drew.at_⟩ (fun hHeld => ?_)
       have nHC := Aside0.mk (HC.out.drew)
       have nVb2 := Aside0.mk (Vb2.out.drew)
       have nVb3 := Aside0.mk (Vb3.out.drew)
       have nVb4 := Aside0.mk (Vb4.out.drew)
       have nTx := Aside0.mk (Tx.out.drew)
       have nTy := Aside0.mk (Ty.out.drew)
       clear HC Vb2 Vb3 Vb4 Tx Ty
       have HC := nHC
       have Vb2 := nVb2
       have Vb3 := nVb3
       have Vb4 := nVb4
       have Tx := nTx
       have Ty := nTy
       clear nHC nVb2 nVb3 nVb4 nTx nTy
       have zd : wn9.heap.size ≤ wn9.drew.heap.size := Nat.le_refl _
       refine pure_ (i := 2) (N := some 21) (v := ?_) (a' := ?_) #[false, false, true, false, false, false, false] rfl rfl (by kernel_rfl) (fun _ _ _ h => h) (Or.inl ⟨by rfl, ?_⟩) ?_ ?_
       rotate_left
       ·intro w'
        go_simp
        with_reducible rfl
       rotate_left
       ·simp only [Act.put, List.setIfInBounds_toArray, List.set_cons_zero, List.set_cons_succ, i64_w, i32_w]
        rfl
       refine take_ (i := 0) (N := some 19) (v := ?_) (a' := ?_) #[true, false, true, false, false, false, false] rfl rfl (by kernel_rfl) (fun _ _ _ h => h) (Or.inl ⟨by rfl, ?_⟩) hHeld ?_ ?_
       rotate_left
       ·rintro w' ⟨s3, s4⟩
        obtain ⟨e0, e1, e2, e3⟩ := s3.cells
        go_simp
        with_reducible rfl
       rotate_left
       ·simp only [Act.put, List.setIfInBounds_toArray, List.set_cons_zero, List.set_cons_succ, i64_w, i32_w]
        rfl
       refine take_ (i := 1) (N := some 20) (v := ?_) (a' := ?_) #[true, true, true, false, false, false, false] rfl rfl (by kernel_rfl) (fun _ _ _ h => h) (Or.inl ⟨by rfl, ?_⟩) hHeld ?_ ?_
       rotate_left
       ·rintro w' ⟨s3, s4⟩
        obtain ⟨e0, e1, e2, e3⟩ := s4.cells
        go_simp
        with_reducible rfl
       rotate_left
       ·simp only [Act.put, List.setIfInBounds_toArray, List.set_cons_zero, List.set_cons_succ, i64_w, i32_w]
        rfl
       refine one_ (i := 3) (N := some 22) #[true, true, true, true, false, false, false] rfl rfl (by kernel_rfl) (by decide) (fun K hK => ?_)
       refine goes_ Tryd.func70 (by kernel_rfl) rfl #[.pointer (some ⟨g, 0, none⟩)] (by rfl) rfl rfl (by simp only [List.map_toArray, List.map_cons, List.map_nil]; rfl) ?_
       have gz := Nat.lt_of_lt_of_le HC.out.lt HC.out.size
       have qz := HC.out.size
       have lb2_z := Vb2.out.lt
       have lb3_z := Vb3.out.lt
       have lb4_z := Vb4.out.lt
       with_reducible refine (H2.out g _ _ w0 _ _ HA2.out HC.out.st HC.out.bel HQ2.out).mono ?_
       rintro e wz ⟨Az, cz, rfl, ht_, hi, hb, hk⟩
       refine ⟨_, rfl, ?_⟩
       have zz := hk.1
       have nHC := Aside0.mk (HC.out.call hi hb hk)
       have nVb2 := Aside0.mk (Vb2.out.call hk gl)
       have nVb3 := Aside0.mk (Vb3.out.call hk gl)
       have nVb4 := Aside0.mk (Vb4.out.call hk gl)
       have nTx := Aside0.mk (Tx.out.call hk (by omega))
       have nTy := Aside0.mk (Ty.out.call hk (by omega))
       have nTz := Aside0.mk (ht_)
       clear HC Vb2 Vb3 Vb4 Tx Ty
       have HC := nHC
       have Vb2 := nVb2
       have Vb3 := nVb3
       have Vb4 := nVb4
       have Tx := nTx
       have Ty := nTy
       have Tz := nTz
       clear nHC nVb2 nVb3 nVb4 nTx nTy nTz
       clear ht_ hi hb hk
       refine hK.out _ _ ⟨Vb3.out.at_, Vb4.out.at_⟩ (fun hHeld => ?_)
       clear hK K
       refine norm_ (a' := ?_) ?_ ?_
       rotate_left
       ·show Act.put _ (some 22) _ = _
        simp only [Act.put, List.setIfInBounds_toArray, List.set_cons_zero, List.set_cons_succ, i64_w, i32_w]
        rfl
       refine one_ (i := 4) (N := some 23) #[true, true, true, true, true, false, false] rfl rfl (by kernel_rfl) (by decide) (fun K hK => ?_)
       refine cells_step (by rfl) 23 rfl [(x, Ax, cx), (y, Ay, cy), (z, Az, cz)] (lo := wa1.heap.size) (hi := wz.heap.size) (by go_simp; rfl) ?hl (by omega) (Nat.le_refl _) (by simp) ?_
       case hl => exact tr_all3 (Tx.out.wide (by omega) (by omega)) (Ty.out.wide (by omega) (by omega)) (Tz.out.wide (by omega) (by omega))
       intro An cn wl ht_ hw_ hz_
       have zl := hw_.size
       have nHC := Aside0.mk (HC.out.below hw_)
       have nVb2 := Aside0.mk (Vb2.out.below hw_)
       have nVb3 := Aside0.mk (Vb3.out.below hw_)
       have nVb4 := Aside0.mk (Vb4.out.below hw_)
       have nTx := Aside0.mk (Tx.out.below hw_)
       have nTy := Aside0.mk (Ty.out.below hw_)
       have nTz := Aside0.mk (Tz.out.below hw_)
       have nTn := Aside0.mk (ht_)
       clear HC Vb2 Vb3 Vb4 Tx Ty Tz
       have HC := nHC
       have Vb2 := nVb2
       have Vb3 := nVb3
       have Vb4 := nVb4
       have Tx := nTx
       have Ty := nTy
       have Tz := nTz
       have Tn := nTn
       clear nHC nVb2 nVb3 nVb4 nTx nTy nTz nTn
       clear ht_ hw_
       refine hK.out _ _ ⟨Vb3.out.at_, Vb4.out.at_⟩ (fun hHeld => ?_)
       clear hK K
       refine norm_ (a' := ?_) ?_ ?_
       rotate_left
       ·show Act.put _ (some 23) _ = _
        simp only [Act.put, List.setIfInBounds_toArray, List.set_cons_zero, List.set_cons_succ, i64_w, i32_w]
        rfl
       refine pure_ (i := 5) (N := some 24) (v := ?_) (a' := ?_) #[true, true, true, true, true, true, false] rfl rfl (by kernel_rfl) (fun _ _ _ h => h) (Or.inl ⟨by rfl, ?_⟩) ?_ ?_
       rotate_left
       ·intro w'
        go_simp
        with_reducible rfl
       rotate_left
       ·simp only [Act.put, List.setIfInBounds_toArray, List.set_cons_zero, List.set_cons_succ, i64_w, i32_w]
        rfl
       refine last_ (i := 6) (N := none) #[true, true, true, true, true, true, true] rfl rfl (by kernel_rfl) (by decide) (fun K hK => ?_)
       refine store26_step (by rfl) 2 (.tmp 24) rfl rfl rfl rfl Vb2.out.at_ ?_
       intro wf ha_ hw_
       have zf := hw_.kept.1
       have nHC := Aside0.mk (HC.out.wrote hw_ Vb2.out.ge)
       have nTn := Aside0.mk (Tn.out.wrote hw_ (by omega))
       have nVb2 := Aside0.mk (Vr.mk (w := w) ha_ Vb2.out.ge)
       clear HC Tn Vb2
       have HC := nHC
       have Tn := nTn
       have Vb2 := nVb2
       clear nHC nTn nVb2
       clear hw_ ha_
       refine hK.out _ _ ?_
       refine done_ (by kernel_rfl) ?_
       go_wp2_with (fail)
       refine bodyPost_ret (results_cell_row rfl _ _ b2 26 #[.int .i64 (25), .int .i64 (0), .string (⟨#[]⟩), .slice An 3 cn] (0, 0) _ rfl Vb2.out.at_ Tryd.underlying26 rfl (by kernel_rfl)) rfl ?_
       exact Post.done (x := ⟨25, 0, noName, [x, y, z]⟩) Tn.out HC.out (by omega) (by omega)
theorem bare_eq (s : ByteArray) (hs : s.size ≤ 4096) (x : Int) (t : ByteArray) : ∀ p : Nat, p ≤ s.size → arith_parser_bare.l0 (p + 1) p s x t = some (bareN s p, s, x, t)
 | 0, _ => by simp [arith_parser_bare.l0, bareN]
 | n + 1, h => by
  have ih := bare_eq s hs x t n (by omega)
  have e : wrap64 (((n + 1 : Nat) : Int) - 1) = (n : Int) := by unfold wrap64; omega
  rw [arith_parser_bare.l0, if_pos (by omega), e, if_pos (by omega), if_pos (by omega)]
  simp only [bareN, isBl]
  by_cases h1 : bt s n = 32
  ·rw [if_pos h1, ih]; simp [h1]
  rw [if_neg h1]
  by_cases h2 : bt s n = 9
  ·rw [if_pos h2, ih]; simp [h2]
  rw [if_neg h2]
  by_cases h3 : bt s n = 10
  ·rw [if_pos h3, ih]; simp [h3]
  rw [if_neg h3]
  have b1 : (bt s n == 32) = false := beq_eq_false_iff_ne.mpr h1
  have b2 : (bt s n == 9) = false := beq_eq_false_iff_ne.mpr h2
  have b3 : (bt s n == 10) = false := beq_eq_false_iff_ne.mpr h3
  simp [b1, b2, b3]
  rfl
theorem bare_f (s : ByteArray) (hs : s.size ≤ 4096) (p : Nat) (hp : p ≤ s.size) (t : ByteArray) (x : S26) : arith_parser_bare.f (p + 1) s p t x.f0 x.f1 x.f2 x.f3 = some (bareN s p, s, (p : Int), t) := bare_eq s hs p t p hp
set_option maxRecDepth 100000 in
set_option maxHeartbeats 2000000 in
theorem first_step (s : ByteArray) (hs : s.size ≤ 4096) (k : Nat) (h1 : C43 s k) (h2 : C70 s k) : C43 s (k + 1) := by
 intro g p t w0 w r hr hI hB hp
 have H1 := Aside0.mk h1
 have H2 := Aside0.mk h2
 have HS := Aside0.mk hs
 have HP := Aside0.mk hp
 clear h1 h2 hs hp
 simp only [pr] at hr
 have hu26 := Tryd.underlying26
 have hu65 := Tryd.underlying65
 cases hA : pr s k .second p t with
 | none => rw [hA] at hr; simp [ebind] at hr
 | some ra =>
  rw [hA] at hr
  have HA := Aside0.mk hA
  clear hA
  cases ra with
  | error q =>
   obtain ⟨q, er⟩ := q
   simp only [ebind, Option.some.injEq] at hr
   subst hr
   have HC := Aside0.mk (Cx.start (s := s) hI hB)
   have gl := HC.out.lt
   clear hI hB
   go_enter Tryd.func43, Tryd.ntmps43
   go_wp2_with (first | ((with_reducible refine gate_dst (N := 2) rfl ?_); refine alloc26_event rfl 2 rfl rfl ?_; intro b2 wa1 hb_ ha_ hw_; have zb2 := hw_.size; have yb2 := Nat.le_of_eq hb_.symm; have nHC := Aside0.mk (HC.out.below hw_); have nVb2 := Aside0.mk (Vr.mk (w := w) ha_ (Nat.le_trans HC.out.size yb2)); clear HC; have HC := nHC; have Vb2 := nVb2; clear nHC nVb2; have kb2 := Vb2.out.ge; clear hw_ ha_ hb_) | (go_at_call 70; (with_reducible refine (H2.out g p t w0 _ _ HA.out HC.out.st HC.out.bel HP.out).mono ?_); rintro e we ⟨rfl, hb, hk⟩))
   exact ⟨rfl, Post.err hb (KeepBut.trans HC.out.keep hk (.inl rfl))⟩
  | ok xa =>
   obtain ⟨x, p1, t1⟩ := xa
   have HP1 := Aside0.mk (pr_fits s _ _ _ _ _ _ _ HP.out HA.out)
   have HQ1 := Aside0.mk (next_fits s _ _ HP1.out)
   have HBR := Aside0.mk (bare_f s HS.out p1 (by have := HP1.out; omega) t1 x)
   simp only [ebind] at hr
   cases hG : arith_assignment.f 1 t1 with
   | none => rw [hG] at hr; simp at hr
   | some oi =>
    obtain ⟨op, is⟩ := oi
    rw [hG] at hr
    have HG1 := Aside0.mk hG
    clear hG
    simp only at hr
    cases is with
    | false =>
     rw [if_neg (by simp)] at hr
     simp only [Option.some.injEq] at hr
     subst hr
     have HC := Aside0.mk (Cx.start (s := s) hI hB)
     have gl := HC.out.lt
     clear hI hB
     go_enter Tryd.func43, Tryd.ntmps43
     go_upto_region 2 with (first | ((with_reducible refine gate_dst (N := 2) rfl ?_); refine alloc26_event rfl 2 rfl rfl ?_; intro b2 wa1 hb_ ha_ hw_; have zb2 := hw_.size; have yb2 := Nat.le_of_eq hb_.symm; have nHC := Aside0.mk (HC.out.below hw_); have nVb2 := Aside0.mk (Vr.mk (w := w) ha_ (Nat.le_trans HC.out.size yb2)); clear HC; have HC := nHC; have Vb2 := nVb2; clear nHC nVb2; have kb2 := Vb2.out.ge; clear hw_ ha_ hb_) | (go_at_call 70; have gx := Nat.lt_of_lt_of_le HC.out.lt HC.out.size; have qx := HC.out.size; have lb2_x := Vb2.out.lt; (with_reducible refine (H2.out g p t w0 _ _ HA.out HC.out.st HC.out.bel HP.out).mono ?_); rintro e wc2 ⟨Ax, cx, rfl, ht_, hi, hb, hk⟩; have zx := hk.1; have nHC := Aside0.mk (HC.out.call hi hb hk); have nVb2 := Aside0.mk (Vb2.out.call hk gl); have nTx := Aside0.mk (ht_); clear HC Vb2; have HC := nHC; have Vb2 := nVb2; have Tx := nTx; clear nHC nVb2 nTx; clear ht_ hi hb hk) | ((with_reducible refine gate_dst (N := 3) rfl ?_); refine alloc26_event rfl 3 rfl rfl ?_; intro b3 wa3 hb_ ha_ hw_; have lb2_b3 := Vb2.out.lt; have zb3 := hw_.size; have yb3 := Nat.le_of_eq hb_.symm; have nHC := Aside0.mk (HC.out.below hw_); have nVb2 := Aside0.mk (Vb2.out.below hw_); have nTx := Aside0.mk (Tx.out.below hw_); have nVb3 := Aside0.mk (Vr.mk (w := w) ha_ (Nat.le_trans HC.out.size yb3)); clear HC Vb2 Tx; have HC := nHC; have Vb2 := nVb2; have Tx := nTx; have Vb3 := nVb3; clear nHC nVb2 nTx nVb3; have kb3 := Vb3.out.ge; clear hw_ ha_ hb_) | (refine store26_event rfl 3 (.tmp 7) rfl rfl rfl rfl Vb3.out.at_ ?_; intro ws4 ha_ hw_; have zws4 := hw_.kept.1; have nHC := Aside0.mk (HC.out.wrote hw_ Vb3.out.ge); have nVb2 := Aside0.mk (Vb2.out.wrote hw_ (by omega)); have nTx := Aside0.mk (Tx.out.wrote hw_ (by omega)); have nVb3 := Aside0.mk (Vr.mk (w := w) ha_ Vb3.out.ge); clear HC Vb2 Tx Vb3; have HC := nHC; have Vb2 := nVb2; have Tx := nTx; have Vb3 := nVb3; clear nHC nVb2 nTx nVb3; clear hw_ ha_))
     obtain ⟨HG, hg⟩ := HC.out.st
     have c0 := cellS65_0 HG
     have c1 := cellS65_1 HG
     have c2 := cellS65_2 HG
     clear HG hg
     go_upto_region 3 with (first | (go_at_call 71; (with_reducible refine (arith_assignment.calls 1 t1 op false _ HG1.out).mono ?_); rintro e wp5 ⟨rfl, hd_⟩; have hw_ := hd_.below; have zwp5 := hw_.size; have nHC := Aside0.mk (HC.out.below hw_); have nVb2 := Aside0.mk (Vb2.out.below hw_); have nVb3 := Aside0.mk (Vb3.out.below hw_); have nTx := Aside0.mk (Tx.out.below hw_); clear HC Vb2 Vb3 Tx; have HC := nHC; have Vb2 := nVb2; have Vb3 := nVb3; have Tx := nTx; clear nHC nVb2 nVb3 nTx; clear hd_ hw_))
     clear c0 c1 c2
     obtain ⟨x0, x1, x2, x3⟩ := Vb3.out.at_.cells
     go_upto_region 4 with (fail)
     go_wp2_with (first | (refine store26_event rfl 2 (.tmp 29) rfl rfl rfl rfl Vb2.out.at_ ?_; intro ws6 ha_ hw_; have zws6 := hw_.kept.1; have nHC := Aside0.mk (HC.out.wrote hw_ Vb2.out.ge); have nVb3 := Aside0.mk (Vb3.out.wrote hw_ (by omega)); have nTx := Aside0.mk (Tx.out.wrote hw_ (by omega)); have nVb2 := Aside0.mk (Vr.mk (w := w) ha_ Vb2.out.ge); clear HC Vb3 Tx Vb2; have HC := nHC; have Vb3 := nVb3; have Tx := nTx; have Vb2 := nVb2; clear nHC nVb3 nTx nVb2; clear hw_ ha_))
     refine bodyPost_ret (results_cell_row rfl _ _ b2 26 #[.int .i64 (x.f0), .int .i64 (x.f1), .string (x.f2), .slice Ax x.f3.length cx] (0, 0) _ rfl Vb2.out.at_ Tryd.underlying26 rfl (by kernel_rfl)) rfl ?_
     exact Post.done Tx.out HC.out (by omega) (by omega)
    | true =>
     by_cases hx2 : x.f0 = 2
     rotate_left
     ·have q1 : (x.f0 == 2) = false := beq_eq_false_iff_ne.mpr hx2
      have q2 : (x.f0 != 2) = true := bne_iff_ne.mpr hx2
      rw [if_neg (fun h => hx2 h.2.1)] at hr
      clear hx2
      simp only [Option.some.injEq] at hr
      subst hr
      have HC := Aside0.mk (Cx.start (s := s) hI hB)
      have gl := HC.out.lt
      clear hI hB
      go_enter Tryd.func43, Tryd.ntmps43
      go_upto_region 2 with (first | ((with_reducible refine gate_dst (N := 2) rfl ?_); refine alloc26_event rfl 2 rfl rfl ?_; intro b2 wa1 hb_ ha_ hw_; have zb2 := hw_.size; have yb2 := Nat.le_of_eq hb_.symm; have nHC := Aside0.mk (HC.out.below hw_); have nVb2 := Aside0.mk (Vr.mk (w := w) ha_ (Nat.le_trans HC.out.size yb2)); clear HC; have HC := nHC; have Vb2 := nVb2; clear nHC nVb2; have kb2 := Vb2.out.ge; clear hw_ ha_ hb_) | (go_at_call 70; have gx := Nat.lt_of_lt_of_le HC.out.lt HC.out.size; have qx := HC.out.size; have lb2_x := Vb2.out.lt; (with_reducible refine (H2.out g p t w0 _ _ HA.out HC.out.st HC.out.bel HP.out).mono ?_); rintro e wc2 ⟨Ax, cx, rfl, ht_, hi, hb, hk⟩; have zx := hk.1; have nHC := Aside0.mk (HC.out.call hi hb hk); have nVb2 := Aside0.mk (Vb2.out.call hk gl); have nTx := Aside0.mk (ht_); clear HC Vb2; have HC := nHC; have Vb2 := nVb2; have Tx := nTx; clear nHC nVb2 nTx; clear ht_ hi hb hk) | ((with_reducible refine gate_dst (N := 3) rfl ?_); refine alloc26_event rfl 3 rfl rfl ?_; intro b3 wa3 hb_ ha_ hw_; have lb2_b3 := Vb2.out.lt; have zb3 := hw_.size; have yb3 := Nat.le_of_eq hb_.symm; have nHC := Aside0.mk (HC.out.below hw_); have nVb2 := Aside0.mk (Vb2.out.below hw_); have nTx := Aside0.mk (Tx.out.below hw_); have nVb3 := Aside0.mk (Vr.mk (w := w) ha_ (Nat.le_trans HC.out.size yb3)); clear HC Vb2 Tx; have HC := nHC; have Vb2 := nVb2; have Tx := nTx; have Vb3 := nVb3; clear nHC nVb2 nTx nVb3; have kb3 := Vb3.out.ge; clear hw_ ha_ hb_) | (refine store26_event rfl 3 (.tmp 7) rfl rfl rfl rfl Vb3.out.at_ ?_; intro ws4 ha_ hw_; have zws4 := hw_.kept.1; have nHC := Aside0.mk (HC.out.wrote hw_ Vb3.out.ge); have nVb2 := Aside0.mk (Vb2.out.wrote hw_ (by omega)); have nTx := Aside0.mk (Tx.out.wrote hw_ (by omega)); have nVb3 := Aside0.mk (Vr.mk (w := w) ha_ Vb3.out.ge); clear HC Vb2 Tx Vb3; have HC := nHC; have Vb2 := nVb2; have Tx := nTx; have Vb3 := nVb3; clear nHC nVb2 nTx nVb3; clear hw_ ha_))
      obtain ⟨HG, hg⟩ := HC.out.st
      have c0 := cellS65_0 HG
      have c1 := cellS65_1 HG
      have c2 := cellS65_2 HG
      clear HG hg
      go_upto_region 3 with (first | (go_at_call 71; (with_reducible refine (arith_assignment.calls 1 t1 op true _ HG1.out).mono ?_); rintro e wp5 ⟨rfl, hd_⟩; have hw_ := hd_.below; have zwp5 := hw_.size; have nHC := Aside0.mk (HC.out.below hw_); have nVb2 := Aside0.mk (Vb2.out.below hw_); have nVb3 := Aside0.mk (Vb3.out.below hw_); have nTx := Aside0.mk (Tx.out.below hw_); clear HC Vb2 Vb3 Tx; have HC := nHC; have Vb2 := nVb2; have Vb3 := nVb3; have Tx := nTx; clear nHC nVb2 nVb3 nTx; clear hd_ hw_))
      clear c0 c1 c2
      obtain ⟨x0, x1, x2, x3⟩ := Vb3.out.at_.cells
      go_upto_region 4 with (fail)
      go_wp2_with (first | (refine store26_event rfl 2 (.tmp 29) rfl rfl rfl rfl Vb2.out.at_ ?_; intro ws6 ha_ hw_; have zws6 := hw_.kept.1; have nHC := Aside0.mk (HC.out.wrote hw_ Vb2.out.ge); have nVb3 := Aside0.mk (Vb3.out.wrote hw_ (by omega)); have nTx := Aside0.mk (Tx.out.wrote hw_ (by omega)); have nVb2 := Aside0.mk (Vr.mk (w := w) ha_ Vb2.out.ge); clear HC Vb3 Tx Vb2; have HC := nHC; have Vb3 := nVb3; have Tx := nTx; have Vb2 := nVb2; clear nHC nVb3 nTx nVb2; clear hw_ ha_))
      refine bodyPost_ret (results_cell_row rfl _ _ b2 26 #[.int .i64 (x.f0), .int .i64 (x.f1), .string (x.f2), .slice Ax x.f3.length cx] (0, 0) _ rfl Vb2.out.at_ Tryd.underlying26 rfl (by kernel_rfl)) rfl ?_
      exact Post.done Tx.out HC.out (by omega) (by omega)
     have q1 : (x.f0 == 2) = true := beq_iff_eq.mpr hx2
     have q2 : (x.f0 != 2) = false := bne_eq_false_iff_eq.mpr hx2
     have HX2 := Aside0.mk hx2
     clear hx2
     cases hb : bareN s p1 with
     | false =>
      rw [hb] at HBR hr
      clear hb
      rw [if_neg (by simp)] at hr
      simp only [Option.some.injEq] at hr
      subst hr
      have HC := Aside0.mk (Cx.start (s := s) hI hB)
      have gl := HC.out.lt
      clear hI hB
      go_enter Tryd.func43, Tryd.ntmps43
      go_upto_region 2 with (first | ((with_reducible refine gate_dst (N := 2) rfl ?_); refine alloc26_event rfl 2 rfl rfl ?_; intro b2 wa1 hb_ ha_ hw_; have zb2 := hw_.size; have yb2 := Nat.le_of_eq hb_.symm; have nHC := Aside0.mk (HC.out.below hw_); have nVb2 := Aside0.mk (Vr.mk (w := w) ha_ (Nat.le_trans HC.out.size yb2)); clear HC; have HC := nHC; have Vb2 := nVb2; clear nHC nVb2; have kb2 := Vb2.out.ge; clear hw_ ha_ hb_) | (go_at_call 70; have gx := Nat.lt_of_lt_of_le HC.out.lt HC.out.size; have qx := HC.out.size; have lb2_x := Vb2.out.lt; (with_reducible refine (H2.out g p t w0 _ _ HA.out HC.out.st HC.out.bel HP.out).mono ?_); rintro e wc2 ⟨Ax, cx, rfl, ht_, hi, hb, hk⟩; have zx := hk.1; have nHC := Aside0.mk (HC.out.call hi hb hk); have nVb2 := Aside0.mk (Vb2.out.call hk gl); have nTx := Aside0.mk (ht_); clear HC Vb2; have HC := nHC; have Vb2 := nVb2; have Tx := nTx; clear nHC nVb2 nTx; clear ht_ hi hb hk) | ((with_reducible refine gate_dst (N := 3) rfl ?_); refine alloc26_event rfl 3 rfl rfl ?_; intro b3 wa3 hb_ ha_ hw_; have lb2_b3 := Vb2.out.lt; have zb3 := hw_.size; have yb3 := Nat.le_of_eq hb_.symm; have nHC := Aside0.mk (HC.out.below hw_); have nVb2 := Aside0.mk (Vb2.out.below hw_); have nTx := Aside0.mk (Tx.out.below hw_); have nVb3 := Aside0.mk (Vr.mk (w := w) ha_ (Nat.le_trans HC.out.size yb3)); clear HC Vb2 Tx; have HC := nHC; have Vb2 := nVb2; have Tx := nTx; have Vb3 := nVb3; clear nHC nVb2 nTx nVb3; have kb3 := Vb3.out.ge; clear hw_ ha_ hb_) | (refine store26_event rfl 3 (.tmp 7) rfl rfl rfl rfl Vb3.out.at_ ?_; intro ws4 ha_ hw_; have zws4 := hw_.kept.1; have nHC := Aside0.mk (HC.out.wrote hw_ Vb3.out.ge); have nVb2 := Aside0.mk (Vb2.out.wrote hw_ (by omega)); have nTx := Aside0.mk (Tx.out.wrote hw_ (by omega)); have nVb3 := Aside0.mk (Vr.mk (w := w) ha_ Vb3.out.ge); clear HC Vb2 Tx Vb3; have HC := nHC; have Vb2 := nVb2; have Tx := nTx; have Vb3 := nVb3; clear nHC nVb2 nTx nVb3; clear hw_ ha_))
      obtain ⟨HG, hg⟩ := HC.out.st
      have c0 := cellS65_0 HG
      have c1 := cellS65_1 HG
      have c2 := cellS65_2 HG
      clear HG hg
      go_upto_region 3 with (first | (go_at_call 71; (with_reducible refine (arith_assignment.calls 1 t1 op true _ HG1.out).mono ?_); rintro e wp5 ⟨rfl, hd_⟩; have hw_ := hd_.below; have zwp5 := hw_.size; have nHC := Aside0.mk (HC.out.below hw_); have nVb2 := Aside0.mk (Vb2.out.below hw_); have nVb3 := Aside0.mk (Vb3.out.below hw_); have nTx := Aside0.mk (Tx.out.below hw_); clear HC Vb2 Vb3 Tx; have HC := nHC; have Vb2 := nVb2; have Vb3 := nVb3; have Tx := nTx; clear nHC nVb2 nVb3 nTx; clear hd_ hw_))
      clear c0 c1 c2
      obtain ⟨x0, x1, x2, x3⟩ := Vb3.out.at_.cells
      go_upto_region 4 with (first | (go_at_call 72; have gbr := Nat.lt_of_lt_of_le HC.out.lt HC.out.size; have qbr := HC.out.size; have lb2_br := Vb2.out.lt; have lb3_br := Vb3.out.lt; (with_reducible refine (arith_parser_bare.calls (p1 + 1) g s p1 t1 x.f0 x.f1 x.f2 Ax cx x.f3 false s p1 t1 w0 _ HC.out.st HC.out.bel (Tx.out.reads_keep (by omega)) Tx.out.reads.1 HBR.out).mono ?_); rintro e wn6 ⟨rfl, hi, hb, hk⟩; have zbr := hk.1; have nHC := Aside0.mk (HC.out.call hi hb hk); have nVb2 := Aside0.mk (Vb2.out.call hk gl); have nVb3 := Aside0.mk (Vb3.out.call hk gl); have nTx := Aside0.mk (Tx.out.call hk (by omega)); clear HC Vb2 Vb3 Tx; have HC := nHC; have Vb2 := nVb2; have Vb3 := nVb3; have Tx := nTx; clear nHC nVb2 nVb3 nTx; clear hi hb hk))
      clear x0 x1 x2 x3
      obtain ⟨x0, x1, x2, x3⟩ := Vb3.out.at_.cells
      go_wp2_with (first | (refine store26_event rfl 2 (.tmp 29) rfl rfl rfl rfl Vb2.out.at_ ?_; intro ws7 ha_ hw_; have zws7 := hw_.kept.1; have nHC := Aside0.mk (HC.out.wrote hw_ Vb2.out.ge); have nVb3 := Aside0.mk (Vb3.out.wrote hw_ (by omega)); have nTx := Aside0.mk (Tx.out.wrote hw_ (by omega)); have nVb2 := Aside0.mk (Vr.mk (w := w) ha_ Vb2.out.ge); clear HC Vb3 Tx Vb2; have HC := nHC; have Vb3 := nVb3; have Tx := nTx; have Vb2 := nVb2; clear nHC nVb3 nTx nVb2; clear hw_ ha_))
      refine bodyPost_ret (results_cell_row rfl _ _ b2 26 #[.int .i64 (x.f0), .int .i64 (x.f1), .string (x.f2), .slice Ax x.f3.length cx] (0, 0) _ rfl Vb2.out.at_ Tryd.underlying26 rfl (by kernel_rfl)) rfl ?_
      exact Post.done Tx.out HC.out (by omega) (by omega)
     | true =>
      rw [hb] at HBR hr
      clear hb
      rw [if_pos ⟨rfl, HX2.out, rfl⟩] at hr
      cases hA : pr s k .first (nextP s p1 t1) (nextT s p1 t1) with
      | none => rw [hA] at hr; simp at hr
      | some rb =>
       rw [hA] at hr
       have HA1 := Aside0.mk hA
       clear hA
       cases rb with
       | error q =>
        obtain ⟨q, er⟩ := q
        simp only [Option.some.injEq] at hr
        subst hr
        have HC := Aside0.mk (Cx.start (s := s) hI hB)
        have gl := HC.out.lt
        clear hI hB
        go_enter Tryd.func43, Tryd.ntmps43
        go_upto_region 2 with (first | ((with_reducible refine gate_dst (N := 2) rfl ?_); refine alloc26_event rfl 2 rfl rfl ?_; intro b2 wa1 hb_ ha_ hw_; have zb2 := hw_.size; have yb2 := Nat.le_of_eq hb_.symm; have nHC := Aside0.mk (HC.out.below hw_); have nVb2 := Aside0.mk (Vr.mk (w := w) ha_ (Nat.le_trans HC.out.size yb2)); clear HC; have HC := nHC; have Vb2 := nVb2; clear nHC nVb2; have kb2 := Vb2.out.ge; clear hw_ ha_ hb_) | (go_at_call 70; have gx := Nat.lt_of_lt_of_le HC.out.lt HC.out.size; have qx := HC.out.size; have lb2_x := Vb2.out.lt; (with_reducible refine (H2.out g p t w0 _ _ HA.out HC.out.st HC.out.bel HP.out).mono ?_); rintro e wc2 ⟨Ax, cx, rfl, ht_, hi, hb, hk⟩; have zx := hk.1; have nHC := Aside0.mk (HC.out.call hi hb hk); have nVb2 := Aside0.mk (Vb2.out.call hk gl); have nTx := Aside0.mk (ht_); clear HC Vb2; have HC := nHC; have Vb2 := nVb2; have Tx := nTx; clear nHC nVb2 nTx; clear ht_ hi hb hk) | ((with_reducible refine gate_dst (N := 3) rfl ?_); refine alloc26_event rfl 3 rfl rfl ?_; intro b3 wa3 hb_ ha_ hw_; have lb2_b3 := Vb2.out.lt; have zb3 := hw_.size; have yb3 := Nat.le_of_eq hb_.symm; have nHC := Aside0.mk (HC.out.below hw_); have nVb2 := Aside0.mk (Vb2.out.below hw_); have nTx := Aside0.mk (Tx.out.below hw_); have nVb3 := Aside0.mk (Vr.mk (w := w) ha_ (Nat.le_trans HC.out.size yb3)); clear HC Vb2 Tx; have HC := nHC; have Vb2 := nVb2; have Tx := nTx; have Vb3 := nVb3; clear nHC nVb2 nTx nVb3; have kb3 := Vb3.out.ge; clear hw_ ha_ hb_) | (refine store26_event rfl 3 (.tmp 7) rfl rfl rfl rfl Vb3.out.at_ ?_; intro ws4 ha_ hw_; have zws4 := hw_.kept.1; have nHC := Aside0.mk (HC.out.wrote hw_ Vb3.out.ge); have nVb2 := Aside0.mk (Vb2.out.wrote hw_ (by omega)); have nTx := Aside0.mk (Tx.out.wrote hw_ (by omega)); have nVb3 := Aside0.mk (Vr.mk (w := w) ha_ Vb3.out.ge); clear HC Vb2 Tx Vb3; have HC := nHC; have Vb2 := nVb2; have Tx := nTx; have Vb3 := nVb3; clear nHC nVb2 nTx nVb3; clear hw_ ha_))
        obtain ⟨HG, hg⟩ := HC.out.st
        have c0 := cellS65_0 HG
        have c1 := cellS65_1 HG
        have c2 := cellS65_2 HG
        clear HG hg
        go_upto_region 3 with (first | (go_at_call 71; (with_reducible refine (arith_assignment.calls 1 t1 op true _ HG1.out).mono ?_); rintro e wp5 ⟨rfl, hd_⟩; have hw_ := hd_.below; have zwp5 := hw_.size; have nHC := Aside0.mk (HC.out.below hw_); have nVb2 := Aside0.mk (Vb2.out.below hw_); have nVb3 := Aside0.mk (Vb3.out.below hw_); have nTx := Aside0.mk (Tx.out.below hw_); clear HC Vb2 Vb3 Tx; have HC := nHC; have Vb2 := nVb2; have Vb3 := nVb3; have Tx := nTx; clear nHC nVb2 nVb3 nTx; clear hd_ hw_))
        clear c0 c1 c2
        obtain ⟨x0, x1, x2, x3⟩ := Vb3.out.at_.cells
        go_upto_region 5 with (first | (go_at_call 72; have gbr := Nat.lt_of_lt_of_le HC.out.lt HC.out.size; have qbr := HC.out.size; have lb2_br := Vb2.out.lt; have lb3_br := Vb3.out.lt; (with_reducible refine (arith_parser_bare.calls (p1 + 1) g s p1 t1 x.f0 x.f1 x.f2 Ax cx x.f3 true s p1 t1 w0 _ HC.out.st HC.out.bel (Tx.out.reads_keep (by omega)) Tx.out.reads.1 HBR.out).mono ?_); rintro e wn6 ⟨rfl, hi, hb, hk⟩; have zbr := hk.1; have nHC := Aside0.mk (HC.out.call hi hb hk); have nVb2 := Aside0.mk (Vb2.out.call hk gl); have nVb3 := Aside0.mk (Vb3.out.call hk gl); have nTx := Aside0.mk (Tx.out.call hk (by omega)); clear HC Vb2 Vb3 Tx; have HC := nHC; have Vb2 := nVb2; have Vb3 := nVb3; have Tx := nTx; clear nHC nVb2 nVb3 nTx; clear hi hb hk))
        clear x0 x1 x2 x3
        go_upto_region 6 with (first | (go_at_call 42; have gn1 := Nat.lt_of_lt_of_le HC.out.lt HC.out.size; have qn1 := HC.out.size; have lb2_n1 := Vb2.out.lt; have lb3_n1 := Vb3.out.lt; (with_reducible refine (next_calls g s t1 p1 w0 _ HC.out.st HC.out.bel HP1.out HS.out).mono ?_); rintro e wn7 ⟨rfl, hi, hb, hk⟩; have zn1 := hk.1; have nHC := Aside0.mk (HC.out.call hi hb hk); have nVb2 := Aside0.mk (Vb2.out.call hk gl); have nVb3 := Aside0.mk (Vb3.out.call hk gl); have nTx := Aside0.mk (Tx.out.call hk (by omega)); clear HC Vb2 Vb3 Tx; have HC := nHC; have Vb2 := nVb2; have Vb3 := nVb3; have Tx := nTx; clear nHC nVb2 nVb3 nTx; clear hi hb hk))
        refine start_ (n := 8) (S := fun w' => At26 w' b3 x.f0 x.f1 x.f2 (.slice Ax x.f3.length cx)) (ds := [7]) #[false, false, false, false, false, false, false, false] (by kernel_rfl) rfl rfl Vb3.out.drew.at_ (fun hHeld => ?_)
        have nHC := Aside0.mk (HC.out.drew)
        have nVb2 := Aside0.mk (Vb2.out.drew)
        have nVb3 := Aside0.mk (Vb3.out.drew)
        have nTx := Aside0.mk (Tx.out.drew)
        clear HC Vb2 Vb3 Tx
        have HC := nHC
        have Vb2 := nVb2
        have Vb3 := nVb3
        have Tx := nTx
        clear nHC nVb2 nVb3 nTx
        have zd : wn7.heap.size ≤ wn7.drew.heap.size := Nat.le_refl _
        refine pure_ (i := 0) (N := some 32) (v := ?_) (a' := ?_) #[true, false, false, false, false, false, false, false] rfl rfl (by kernel_rfl) (fun _ _ _ h => h) (Or.inl ⟨by rfl, ?_⟩) ?_ ?_
        rotate_left
        ·intro w'
         go_simp
         with_reducible rfl
        rotate_left
        ·simp only [Act.put, List.setIfInBounds_toArray, List.set_cons_zero, List.set_cons_succ, i64_w, i32_w]
         rfl
        refine pure_ (i := 1) (N := some 33) (v := ?_) (a' := ?_) #[true, true, false, false, false, false, false, false] rfl rfl (by kernel_rfl) (fun _ _ _ h => h) (Or.inl ⟨by rfl, ?_⟩) ?_ ?_
        rotate_left
        ·intro w'
         go_simp
         with_reducible rfl
        rotate_left
        ·simp only [Act.put, List.setIfInBounds_toArray, List.set_cons_zero, List.set_cons_succ, i64_w, i32_w]
         rfl
        refine pure_ (i := 3) (N := some 35) (v := ?_) (a' := ?_) #[true, true, false, true, false, false, false, false] rfl rfl (by kernel_rfl) (fun _ _ _ h => h) (Or.inl ⟨by rfl, ?_⟩) ?_ ?_
        rotate_left
        ·intro w'
         go_simp
         with_reducible rfl
        rotate_left
        ·simp only [Act.put, List.setIfInBounds_toArray, List.set_cons_zero, List.set_cons_succ, i64_w, i32_w]
         rfl
        refine take_ (i := 2) (N := some 34) (v := ?_) (a' := ?_) #[true, true, true, true, false, false, false, false] rfl rfl (by kernel_rfl) (fun _ _ _ h => h) (Or.inl ⟨by rfl, ?_⟩) hHeld ?_ ?_
        rotate_left
        ·rintro w' s3
         obtain ⟨e0, e1, e2, e3⟩ := s3.cells
         go_simp
         with_reducible rfl
        rotate_left
        ·simp only [Act.put, List.setIfInBounds_toArray, List.set_cons_zero, List.set_cons_succ, i64_w, i32_w]
         rfl
        refine one_ (i := 4) (N := some 36) #[true, true, true, true, true, false, false, false] rfl rfl (by kernel_rfl) (by decide) (fun K hK => ?_)
        refine goesP_ Tryd.func43 (by kernel_rfl) rfl #[.pointer (some ⟨g, 0, none⟩)] (by rfl) rfl (by simp only [List.map_toArray, List.map_cons, List.map_nil]; rfl) (faultV q er) ?_
        refine (H1.out g _ _ w0 _ _ HA1.out HC.out.st HC.out.bel HQ1.out).mono ?_
        rintro e we ⟨rfl, hb, hk⟩
        exact ⟨rfl, rfl, Post.err hb (KeepBut.trans HC.out.keep hk (.inl rfl))⟩
       | ok ya =>
        obtain ⟨y, p2, t2⟩ := ya
        simp only [Option.some.injEq] at hr
        subst hr
        have HC := Aside0.mk (Cx.start (s := s) hI hB)
        have gl := HC.out.lt
        clear hI hB
        go_enter Tryd.func43, Tryd.ntmps43
        go_upto_region 2 with (first | ((with_reducible refine gate_dst (N := 2) rfl ?_); refine alloc26_event rfl 2 rfl rfl ?_; intro b2 wa1 hb_ ha_ hw_; have zb2 := hw_.size; have yb2 := Nat.le_of_eq hb_.symm; have nHC := Aside0.mk (HC.out.below hw_); have nVb2 := Aside0.mk (Vr.mk (w := w) ha_ (Nat.le_trans HC.out.size yb2)); clear HC; have HC := nHC; have Vb2 := nVb2; clear nHC nVb2; have kb2 := Vb2.out.ge; clear hw_ ha_ hb_) | (go_at_call 70; have gx := Nat.lt_of_lt_of_le HC.out.lt HC.out.size; have qx := HC.out.size; have lb2_x := Vb2.out.lt; (with_reducible refine (H2.out g p t w0 _ _ HA.out HC.out.st HC.out.bel HP.out).mono ?_); rintro e wc2 ⟨Ax, cx, rfl, ht_, hi, hb, hk⟩; have zx := hk.1; have nHC := Aside0.mk (HC.out.call hi hb hk); have nVb2 := Aside0.mk (Vb2.out.call hk gl); have nTx := Aside0.mk (ht_); clear HC Vb2; have HC := nHC; have Vb2 := nVb2; have Tx := nTx; clear nHC nVb2 nTx; clear ht_ hi hb hk) | ((with_reducible refine gate_dst (N := 3) rfl ?_); refine alloc26_event rfl 3 rfl rfl ?_; intro b3 wa3 hb_ ha_ hw_; have lb2_b3 := Vb2.out.lt; have zb3 := hw_.size; have yb3 := Nat.le_of_eq hb_.symm; have nHC := Aside0.mk (HC.out.below hw_); have nVb2 := Aside0.mk (Vb2.out.below hw_); have nTx := Aside0.mk (Tx.out.below hw_); have nVb3 := Aside0.mk (Vr.mk (w := w) ha_ (Nat.le_trans HC.out.size yb3)); clear HC Vb2 Tx; have HC := nHC; have Vb2 := nVb2; have Tx := nTx; have Vb3 := nVb3; clear nHC nVb2 nTx nVb3; have kb3 := Vb3.out.ge; clear hw_ ha_ hb_) | (refine store26_event rfl 3 (.tmp 7) rfl rfl rfl rfl Vb3.out.at_ ?_; intro ws4 ha_ hw_; have zws4 := hw_.kept.1; have nHC := Aside0.mk (HC.out.wrote hw_ Vb3.out.ge); have nVb2 := Aside0.mk (Vb2.out.wrote hw_ (by omega)); have nTx := Aside0.mk (Tx.out.wrote hw_ (by omega)); have nVb3 := Aside0.mk (Vr.mk (w := w) ha_ Vb3.out.ge); clear HC Vb2 Tx Vb3; have HC := nHC; have Vb2 := nVb2; have Tx := nTx; have Vb3 := nVb3; clear nHC nVb2 nTx nVb3; clear hw_ ha_))
        obtain ⟨HG, hg⟩ := HC.out.st
        have c0 := cellS65_0 HG
        have c1 := cellS65_1 HG
        have c2 := cellS65_2 HG
        clear HG hg
        go_upto_region 3 with (first | (go_at_call 71; (with_reducible refine (arith_assignment.calls 1 t1 op true _ HG1.out).mono ?_); rintro e wp5 ⟨rfl, hd_⟩; have hw_ := hd_.below; have zwp5 := hw_.size; have nHC := Aside0.mk (HC.out.below hw_); have nVb2 := Aside0.mk (Vb2.out.below hw_); have nVb3 := Aside0.mk (Vb3.out.below hw_); have nTx := Aside0.mk (Tx.out.below hw_); clear HC Vb2 Vb3 Tx; have HC := nHC; have Vb2 := nVb2; have Vb3 := nVb3; have Tx := nTx; clear nHC nVb2 nVb3 nTx; clear hd_ hw_))
        clear c0 c1 c2
        obtain ⟨x0, x1, x2, x3⟩ := Vb3.out.at_.cells
        go_upto_region 5 with (first | (go_at_call 72; have gbr := Nat.lt_of_lt_of_le HC.out.lt HC.out.size; have qbr := HC.out.size; have lb2_br := Vb2.out.lt; have lb3_br := Vb3.out.lt; (with_reducible refine (arith_parser_bare.calls (p1 + 1) g s p1 t1 x.f0 x.f1 x.f2 Ax cx x.f3 true s p1 t1 w0 _ HC.out.st HC.out.bel (Tx.out.reads_keep (by omega)) Tx.out.reads.1 HBR.out).mono ?_); rintro e wn6 ⟨rfl, hi, hb, hk⟩; have zbr := hk.1; have nHC := Aside0.mk (HC.out.call hi hb hk); have nVb2 := Aside0.mk (Vb2.out.call hk gl); have nVb3 := Aside0.mk (Vb3.out.call hk gl); have nTx := Aside0.mk (Tx.out.call hk (by omega)); clear HC Vb2 Vb3 Tx; have HC := nHC; have Vb2 := nVb2; have Vb3 := nVb3; have Tx := nTx; clear nHC nVb2 nVb3 nTx; clear hi hb hk))
        clear x0 x1 x2 x3
        go_upto_region 6 with (first | (go_at_call 42; have gn1 := Nat.lt_of_lt_of_le HC.out.lt HC.out.size; have qn1 := HC.out.size; have lb2_n1 := Vb2.out.lt; have lb3_n1 := Vb3.out.lt; (with_reducible refine (next_calls g s t1 p1 w0 _ HC.out.st HC.out.bel HP1.out HS.out).mono ?_); rintro e wn7 ⟨rfl, hi, hb, hk⟩; have zn1 := hk.1; have nHC := Aside0.mk (HC.out.call hi hb hk); have nVb2 := Aside0.mk (Vb2.out.call hk gl); have nVb3 := Aside0.mk (Vb3.out.call hk gl); have nTx := Aside0.mk (Tx.out.call hk (by omega)); clear HC Vb2 Vb3 Tx; have HC := nHC; have Vb2 := nVb2; have Vb3 := nVb3; have Tx := nTx; clear nHC nVb2 nVb3 nTx; clear hi hb hk))
        refine start_ (n := 8) (S := fun w' => At26 w' b3 x.f0 x.f1 x.f2 (.slice Ax x.f3.length cx)) (ds := [7]) #[false, false, false, false, false, false, false, false] (by kernel_rfl) rfl rfl Vb3.out.drew.at_ (fun hHeld => ?_)
        have nHC := Aside0.mk (HC.out.drew)
        have nVb2 := Aside0.mk (Vb2.out.drew)
        have nVb3 := Aside0.mk (Vb3.out.drew)
        have nTx := Aside0.mk (Tx.out.drew)
        clear HC Vb2 Vb3 Tx
        have HC := nHC
        have Vb2 := nVb2
        have Vb3 := nVb3
        have Tx := nTx
        clear nHC nVb2 nVb3 nTx
        have zd : wn7.heap.size ≤ wn7.drew.heap.size := Nat.le_refl _
        refine pure_ (i := 0) (N := some 32) (v := ?_) (a' := ?_) #[true, false, false, false, false, false, false, false] rfl rfl (by kernel_rfl) (fun _ _ _ h => h) (Or.inl ⟨by rfl, ?_⟩) ?_ ?_
        rotate_left
        ·intro w'
         go_simp
         with_reducible rfl
        rotate_left
        ·simp only [Act.put, List.setIfInBounds_toArray, List.set_cons_zero, List.set_cons_succ, i64_w, i32_w]
         rfl
        refine pure_ (i := 1) (N := some 33) (v := ?_) (a' := ?_) #[true, true, false, false, false, false, false, false] rfl rfl (by kernel_rfl) (fun _ _ _ h => h) (Or.inl ⟨by rfl, ?_⟩) ?_ ?_
        rotate_left
        ·intro w'
         go_simp
         with_reducible rfl
        rotate_left
        ·simp only [Act.put, List.setIfInBounds_toArray, List.set_cons_zero, List.set_cons_succ, i64_w, i32_w]
         rfl
        refine pure_ (i := 3) (N := some 35) (v := ?_) (a' := ?_) #[true, true, false, true, false, false, false, false] rfl rfl (by kernel_rfl) (fun _ _ _ h => h) (Or.inl ⟨by rfl, ?_⟩) ?_ ?_
        rotate_left
        ·intro w'
         go_simp
         with_reducible rfl
        rotate_left
        ·simp only [Act.put, List.setIfInBounds_toArray, List.set_cons_zero, List.set_cons_succ, i64_w, i32_w]
         rfl
        refine take_ (i := 2) (N := some 34) (v := ?_) (a' := ?_) #[true, true, true, true, false, false, false, false] rfl rfl (by kernel_rfl) (fun _ _ _ h => h) (Or.inl ⟨by rfl, ?_⟩) hHeld ?_ ?_
        rotate_left
        ·rintro w' s3
         obtain ⟨e0, e1, e2, e3⟩ := s3.cells
         go_simp
         with_reducible rfl
        rotate_left
        ·simp only [Act.put, List.setIfInBounds_toArray, List.set_cons_zero, List.set_cons_succ, i64_w, i32_w]
         rfl
        refine one_ (i := 4) (N := some 36) #[true, true, true, true, true, false, false, false] rfl rfl (by kernel_rfl) (by decide) (fun K hK => ?_)
        refine goes_ Tryd.func43 (by kernel_rfl) rfl #[.pointer (some ⟨g, 0, none⟩)] (by rfl) rfl rfl (by simp only [List.map_toArray, List.map_cons, List.map_nil]; rfl) ?_
        have gy := Nat.lt_of_lt_of_le HC.out.lt HC.out.size
        have qy := HC.out.size
        have lb2_y := Vb2.out.lt
        have lb3_y := Vb3.out.lt
        with_reducible refine (H1.out g _ _ w0 _ _ HA1.out HC.out.st HC.out.bel HQ1.out).mono ?_
        rintro e wy ⟨Ay, cy, rfl, ht_, hi, hb, hk⟩
        refine ⟨_, rfl, ?_⟩
        have zy := hk.1
        have nHC := Aside0.mk (HC.out.call hi hb hk)
        have nVb2 := Aside0.mk (Vb2.out.call hk gl)
        have nVb3 := Aside0.mk (Vb3.out.call hk gl)
        have nTx := Aside0.mk (Tx.out.call hk (by omega))
        have nTy := Aside0.mk (ht_)
        clear HC Vb2 Vb3 Tx
        have HC := nHC
        have Vb2 := nVb2
        have Vb3 := nVb3
        have Tx := nTx
        have Ty := nTy
        clear nHC nVb2 nVb3 nTx nTy
        clear ht_ hi hb hk
        refine hK.out _ _ Vb3.out.at_ (fun hHeld => ?_)
        clear hK K
        refine norm_ (a' := ?_) ?_ ?_
        rotate_left
        ·show Act.put _ (some 36) _ = _
         simp only [Act.put, List.setIfInBounds_toArray, List.set_cons_zero, List.set_cons_succ, i64_w, i32_w]
         rfl
        refine one_ (i := 5) (N := some 37) #[true, true, true, true, true, true, false, false] rfl rfl (by kernel_rfl) (by decide) (fun K hK => ?_)
        refine cells_step (by rfl) 37 rfl [(y, Ay, cy)] (lo := wa1.heap.size) (hi := wy.heap.size) (by go_simp; rfl) (tr_all1 (Ty.out.wide (by omega) (by omega))) (by omega) (Nat.le_refl _) (by simp) ?_
        intro An cn wl ht_ hw_ hz_
        have zl := hw_.size
        have nHC := Aside0.mk (HC.out.below hw_)
        have nVb2 := Aside0.mk (Vb2.out.below hw_)
        have nVb3 := Aside0.mk (Vb3.out.below hw_)
        have nTn := Aside0.mk (ht_)
        clear HC Vb2 Vb3
        have HC := nHC
        have Vb2 := nVb2
        have Vb3 := nVb3
        have Tn := nTn
        clear nHC nVb2 nVb3 nTn
        clear ht_ hw_
        refine hK.out _ _ Vb3.out.at_ (fun hHeld => ?_)
        clear hK K
        refine norm_ (a' := ?_) ?_ ?_
        rotate_left
        ·show Act.put _ (some 37) _ = _
         simp only [Act.put, List.setIfInBounds_toArray, List.set_cons_zero, List.set_cons_succ, i64_w, i32_w]
         rfl
        refine pure_ (i := 6) (N := some 38) (v := ?_) (a' := ?_) #[true, true, true, true, true, true, true, false] rfl rfl (by kernel_rfl) (fun _ _ _ h => h) (Or.inl ⟨by rfl, ?_⟩) ?_ ?_
        rotate_left
        ·intro w'
         go_simp
         with_reducible rfl
        rotate_left
        ·simp only [Act.put, List.setIfInBounds_toArray, List.set_cons_zero, List.set_cons_succ, i64_w, i32_w]
         rfl
        refine last_ (i := 7) (N := none) #[true, true, true, true, true, true, true, true] rfl rfl (by kernel_rfl) (by decide) (fun K hK => ?_)
        refine store26_step (by rfl) 2 (.tmp 38) rfl rfl rfl rfl Vb2.out.at_ ?_
        intro wf ha_ hw_
        have zf := hw_.kept.1
        have nHC := Aside0.mk (HC.out.wrote hw_ Vb2.out.ge)
        have nTn := Aside0.mk (Tn.out.wrote hw_ (by omega))
        have nVb2 := Aside0.mk (Vr.mk (w := w) ha_ Vb2.out.ge)
        clear HC Tn Vb2
        have HC := nHC
        have Tn := nTn
        have Vb2 := nVb2
        clear nHC nTn nVb2
        clear hw_ ha_
        refine hK.out _ _ ?_
        refine done_ (by kernel_rfl) ?_
        go_wp2_with (fail)
        refine bodyPost_ret (results_cell_row rfl _ _ b2 26 #[.int .i64 (26), .int .i64 (op), .string (x.f2), .slice An 1 cn] (0, 0) _ rfl Vb2.out.at_ Tryd.underlying26 rfl (by kernel_rfl)) rfl ?_
        exact Post.done (x := ⟨26, op, x.f2, [y]⟩) Tn.out HC.out (by omega) (by omega)
theorem digit_some (c : Int) : ∃ b, arith_digit.f c = some b := by
 unfold arith_digit.f
 split
 ·exact ⟨_, rfl⟩
 exact ⟨_, rfl⟩
set_option maxRecDepth 100000 in
set_option maxHeartbeats 2000000 in
theorem operand_step (s : ByteArray) (hs : s.size ≤ 4096) (k : Nat) (h1 : C43 s k) (h2 : C122 s k) : C122 s (k + 1) := by
 intro g p t w0 w r hr hI hB hp
 have H1 := Aside0.mk h1
 have H2 := Aside0.mk h2
 have HS := Aside0.mk hs
 have HP := Aside0.mk hp
 have HQ := Aside0.mk (next_fits s _ _ hp)
 clear h1 h2 hs hp
 simp only [pr] at hr
 have hu26 := Tryd.underlying26
 have hu65 := Tryd.underlying65
 cases hG : arith_unary.f t with
 | none => rw [hG] at hr; simp at hr
 | some op =>
  rw [hG] at hr
  have HG := Aside0.mk hG
  clear hG
  simp only at hr
  by_cases hop : op = 0
  rotate_left
  ·have o1 : (op == 0) = false := beq_eq_false_iff_ne.mpr hop
   have o2 : (op != 0) = true := bne_iff_ne.mpr hop
   rw [if_pos hop] at hr
   clear hop
   cases hA : pr s k .operand (nextP s p t) (nextT s p t) with
   | none => rw [hA] at hr; simp [ebind] at hr
   | some ra =>
    rw [hA] at hr
    have HA := Aside0.mk hA
    clear hA
    cases ra with
    | error q =>
     obtain ⟨q, er⟩ := q
     simp only [ebind, Option.some.injEq] at hr
     subst hr
     have HC := Aside0.mk (Cx.start (s := s) hI hB)
     have gl := HC.out.lt
     clear hI hB
     go_enter Tryd.func122, Tryd.ntmps122
     go_upto_region 1 with (first | ((with_reducible refine gate_dst (N := 2) rfl ?_); refine alloc26_event rfl 2 rfl rfl ?_; intro b2 wa1 hb_ ha_ hw_; have zb2 := hw_.size; have yb2 := Nat.le_of_eq hb_.symm; have nHC := Aside0.mk (HC.out.below hw_); have nVb2 := Aside0.mk (Vr.mk (w := w) ha_ (Nat.le_trans HC.out.size yb2)); clear HC; have HC := nHC; have Vb2 := nVb2; clear nHC nVb2; have kb2 := Vb2.out.ge; clear hw_ ha_ hb_))
     obtain ⟨HG, hg⟩ := HC.out.st
     have c0 := cellS65_0 HG
     have c1 := cellS65_1 HG
     have c2 := cellS65_2 HG
     clear HG hg
     go_upto_region 2 with (first | (go_at_call 135; (with_reducible refine (arith_unary.calls t op _ HG.out).mono ?_); rintro e wp2 ⟨rfl, hd_⟩; have hw_ := hd_.below; have zwp2 := hw_.size; have nHC := Aside0.mk (HC.out.below hw_); have nVb2 := Aside0.mk (Vb2.out.below hw_); clear HC Vb2; have HC := nHC; have Vb2 := nVb2; clear nHC nVb2; clear hd_ hw_))
     clear c0 c1 c2
     obtain ⟨HG, hg⟩ := HC.out.st
     have c0 := cellS65_0 HG
     have c1 := cellS65_1 HG
     have c2 := cellS65_2 HG
     clear HG hg
     go_upto_region 3 with (fail)
     clear c0 c1 c2
     go_wp2_with (first | (go_at_call 42; have gn1 := Nat.lt_of_lt_of_le HC.out.lt HC.out.size; have qn1 := HC.out.size; have lb2_n1 := Vb2.out.lt; (with_reducible refine (next_calls g s t p w0 _ HC.out.st HC.out.bel HP.out HS.out).mono ?_); rintro e wn3 ⟨rfl, hi, hb, hk⟩; have zn1 := hk.1; have nHC := Aside0.mk (HC.out.call hi hb hk); have nVb2 := Aside0.mk (Vb2.out.call hk gl); clear HC Vb2; have HC := nHC; have Vb2 := nVb2; clear nHC nVb2; clear hi hb hk) | (go_at_call 122; (with_reducible refine (H2.out g _ _ w0 _ _ HA.out HC.out.st HC.out.bel HQ.out).mono ?_); rintro e we ⟨rfl, hb, hk⟩))
     exact ⟨rfl, Post.err hb (KeepBut.trans HC.out.keep hk (.inl rfl))⟩
    | ok xa =>
     obtain ⟨y, p1, t1⟩ := xa
     simp only [ebind, Option.some.injEq] at hr
     subst hr
     have HC := Aside0.mk (Cx.start (s := s) hI hB)
     have gl := HC.out.lt
     clear hI hB
     go_enter Tryd.func122, Tryd.ntmps122
     go_upto_region 1 with (first | ((with_reducible refine gate_dst (N := 2) rfl ?_); refine alloc26_event rfl 2 rfl rfl ?_; intro b2 wa1 hb_ ha_ hw_; have zb2 := hw_.size; have yb2 := Nat.le_of_eq hb_.symm; have nHC := Aside0.mk (HC.out.below hw_); have nVb2 := Aside0.mk (Vr.mk (w := w) ha_ (Nat.le_trans HC.out.size yb2)); clear HC; have HC := nHC; have Vb2 := nVb2; clear nHC nVb2; have kb2 := Vb2.out.ge; clear hw_ ha_ hb_))
     obtain ⟨HG, hg⟩ := HC.out.st
     have c0 := cellS65_0 HG
     have c1 := cellS65_1 HG
     have c2 := cellS65_2 HG
     clear HG hg
     go_upto_region 2 with (first | (go_at_call 135; (with_reducible refine (arith_unary.calls t op _ HG.out).mono ?_); rintro e wp2 ⟨rfl, hd_⟩; have hw_ := hd_.below; have zwp2 := hw_.size; have nHC := Aside0.mk (HC.out.below hw_); have nVb2 := Aside0.mk (Vb2.out.below hw_); clear HC Vb2; have HC := nHC; have Vb2 := nVb2; clear nHC nVb2; clear hd_ hw_))
     clear c0 c1 c2
     obtain ⟨HG, hg⟩ := HC.out.st
     have c0 := cellS65_0 HG
     have c1 := cellS65_1 HG
     have c2 := cellS65_2 HG
     clear HG hg
     go_upto_region 3 with (fail)
     clear c0 c1 c2
     go_wp2_with (first | (go_at_call 42; have gn1 := Nat.lt_of_lt_of_le HC.out.lt HC.out.size; have qn1 := HC.out.size; have lb2_n1 := Vb2.out.lt; (with_reducible refine (next_calls g s t p w0 _ HC.out.st HC.out.bel HP.out HS.out).mono ?_); rintro e wn3 ⟨rfl, hi, hb, hk⟩; have zn1 := hk.1; have nHC := Aside0.mk (HC.out.call hi hb hk); have nVb2 := Aside0.mk (Vb2.out.call hk gl); clear HC Vb2; have HC := nHC; have Vb2 := nVb2; clear nHC nVb2; clear hi hb hk) | (go_at_call 122; have gy := Nat.lt_of_lt_of_le HC.out.lt HC.out.size; have qy := HC.out.size; have lb2_y := Vb2.out.lt; (with_reducible refine (H2.out g _ _ w0 _ _ HA.out HC.out.st HC.out.bel HQ.out).mono ?_); rintro e wc4 ⟨Ay, cy, rfl, ht_, hi, hb, hk⟩; have zy := hk.1; have nHC := Aside0.mk (HC.out.call hi hb hk); have nVb2 := Aside0.mk (Vb2.out.call hk gl); have nTy := Aside0.mk (ht_); clear HC Vb2; have HC := nHC; have Vb2 := nVb2; have Ty := nTy; clear nHC nVb2 nTy; clear ht_ hi hb hk) | ((with_reducible refine gate_dst (N := 20) rfl ?_); refine cells_event rfl 20 rfl [(y, Ay, cy)] (lo := wn3.heap.size) (hi := wc4.heap.size) (by go_simp; rfl) (tr_all1 (Ty.out.wide (by omega) (by omega))) (by omega) (Nat.le_refl _) (by simp) ?_; intro An cn wl ht_ hw_ hz_; have zl := hw_.size; have nHC := Aside0.mk (HC.out.below hw_); have nVb2 := Aside0.mk (Vb2.out.below hw_); have nTn := Aside0.mk (ht_); clear HC Vb2; have HC := nHC; have Vb2 := nVb2; have Tn := nTn; clear nHC nVb2 nTn; clear ht_ hw_) | (refine store26_event rfl 2 (.tmp 21) rfl rfl rfl rfl Vb2.out.at_ ?_; intro ws5 ha_ hw_; have zws5 := hw_.kept.1; have nHC := Aside0.mk (HC.out.wrote hw_ Vb2.out.ge); have nTn := Aside0.mk (Tn.out.wrote hw_ (by omega)); have nVb2 := Aside0.mk (Vr.mk (w := w) ha_ Vb2.out.ge); clear HC Tn Vb2; have HC := nHC; have Tn := nTn; have Vb2 := nVb2; clear nHC nTn nVb2; clear hw_ ha_))
     refine bodyPost_ret (results_cell_row rfl _ _ b2 26 #[.int .i64 (op), .int .i64 (0), .string (⟨#[]⟩), .slice An 1 cn] (0, 0) _ rfl Vb2.out.at_ Tryd.underlying26 rfl (by kernel_rfl)) rfl ?_
     exact Post.done (x := ⟨op, 0, noName, [y]⟩) Tn.out HC.out (by omega) (by omega)
  have o1 : (op == 0) = true := beq_iff_eq.mpr hop
  have o2 : (op != 0) = false := bne_eq_false_iff_eq.mpr hop
  rw [if_neg (fun h => h hop)] at hr
  clear hop
  by_cases hpar : t.toList = [40]
  ·rw [if_pos hpar] at hr
   have u1 : (t.toList == ([40] : List UInt8)) = true := by simpa using hpar
   clear hpar
   cases hA : pr s k .first (nextP s p t) (nextT s p t) with
   | none => rw [hA] at hr; simp [ebind] at hr
   | some ra =>
    rw [hA] at hr
    have HA := Aside0.mk hA
    clear hA
    cases ra with
    | error q =>
     obtain ⟨q, er⟩ := q
     simp only [ebind, Option.some.injEq] at hr
     subst hr
     have HC := Aside0.mk (Cx.start (s := s) hI hB)
     have gl := HC.out.lt
     clear hI hB
     go_enter Tryd.func122, Tryd.ntmps122
     go_upto_region 1 with (first | ((with_reducible refine gate_dst (N := 2) rfl ?_); refine alloc26_event rfl 2 rfl rfl ?_; intro b2 wa1 hb_ ha_ hw_; have zb2 := hw_.size; have yb2 := Nat.le_of_eq hb_.symm; have nHC := Aside0.mk (HC.out.below hw_); have nVb2 := Aside0.mk (Vr.mk (w := w) ha_ (Nat.le_trans HC.out.size yb2)); clear HC; have HC := nHC; have Vb2 := nVb2; clear nHC nVb2; have kb2 := Vb2.out.ge; clear hw_ ha_ hb_))
     obtain ⟨HG, hg⟩ := HC.out.st
     have c0 := cellS65_0 HG
     have c1 := cellS65_1 HG
     have c2 := cellS65_2 HG
     clear HG hg
     go_upto_region 2 with (first | (go_at_call 135; (with_reducible refine (arith_unary.calls t op _ HG.out).mono ?_); rintro e wp2 ⟨rfl, hd_⟩; have hw_ := hd_.below; have zwp2 := hw_.size; have nHC := Aside0.mk (HC.out.below hw_); have nVb2 := Aside0.mk (Vb2.out.below hw_); clear HC Vb2; have HC := nHC; have Vb2 := nVb2; clear nHC nVb2; clear hd_ hw_))
     clear c0 c1 c2
     obtain ⟨HG, hg⟩ := HC.out.st
     have c0 := cellS65_0 HG
     have c1 := cellS65_1 HG
     have c2 := cellS65_2 HG
     clear HG hg
     go_upto_region 6 with (fail)
     clear c0 c1 c2
     go_wp2_with (first | (go_at_call 42; have gn1 := Nat.lt_of_lt_of_le HC.out.lt HC.out.size; have qn1 := HC.out.size; have lb2_n1 := Vb2.out.lt; (with_reducible refine (next_calls g s t p w0 _ HC.out.st HC.out.bel HP.out HS.out).mono ?_); rintro e wn3 ⟨rfl, hi, hb, hk⟩; have zn1 := hk.1; have nHC := Aside0.mk (HC.out.call hi hb hk); have nVb2 := Aside0.mk (Vb2.out.call hk gl); clear HC Vb2; have HC := nHC; have Vb2 := nVb2; clear nHC nVb2; clear hi hb hk) | (go_at_call 43; (with_reducible refine (H1.out g _ _ w0 _ _ HA.out HC.out.st HC.out.bel HQ.out).mono ?_); rintro e we ⟨rfl, hb, hk⟩))
     exact ⟨rfl, Post.err hb (KeepBut.trans HC.out.keep hk (.inl rfl))⟩
    | ok xa =>
     obtain ⟨y, p1, t1⟩ := xa
     have HP1 := Aside0.mk (pr_fits s _ _ _ _ _ _ _ HQ.out HA.out)
     simp only [ebind] at hr
     by_cases ht1 : t1.toList = [41]
     rotate_left
     ·rw [if_neg ht1] at hr
      have U2 := Aside0.mk (show ¬ t1.toList = (⟨#[41]⟩ : ByteArray).toList by simpa using ht1)
      clear ht1
      simp only [Option.some.injEq] at hr
      subst hr
      have HC := Aside0.mk (Cx.start (s := s) hI hB)
      have gl := HC.out.lt
      clear hI hB
      go_enter Tryd.func122, Tryd.ntmps122
      go_upto_region 1 with (first | ((with_reducible refine gate_dst (N := 2) rfl ?_); refine alloc26_event rfl 2 rfl rfl ?_; intro b2 wa1 hb_ ha_ hw_; have zb2 := hw_.size; have yb2 := Nat.le_of_eq hb_.symm; have nHC := Aside0.mk (HC.out.below hw_); have nVb2 := Aside0.mk (Vr.mk (w := w) ha_ (Nat.le_trans HC.out.size yb2)); clear HC; have HC := nHC; have Vb2 := nVb2; clear nHC nVb2; have kb2 := Vb2.out.ge; clear hw_ ha_ hb_))
      obtain ⟨HG, hg⟩ := HC.out.st
      have c0 := cellS65_0 HG
      have c1 := cellS65_1 HG
      have c2 := cellS65_2 HG
      clear HG hg
      go_upto_region 2 with (first | (go_at_call 135; (with_reducible refine (arith_unary.calls t op _ HG.out).mono ?_); rintro e wp2 ⟨rfl, hd_⟩; have hw_ := hd_.below; have zwp2 := hw_.size; have nHC := Aside0.mk (HC.out.below hw_); have nVb2 := Aside0.mk (Vb2.out.below hw_); clear HC Vb2; have HC := nHC; have Vb2 := nVb2; clear nHC nVb2; clear hd_ hw_))
      clear c0 c1 c2
      obtain ⟨HG, hg⟩ := HC.out.st
      have c0 := cellS65_0 HG
      have c1 := cellS65_1 HG
      have c2 := cellS65_2 HG
      clear HG hg
      go_upto_region 6 with (fail)
      clear c0 c1 c2
      go_wp2_with (first | (go_at_call 42; have gn1 := Nat.lt_of_lt_of_le HC.out.lt HC.out.size; have qn1 := HC.out.size; have lb2_n1 := Vb2.out.lt; (with_reducible refine (next_calls g s t p w0 _ HC.out.st HC.out.bel HP.out HS.out).mono ?_); rintro e wn3 ⟨rfl, hi, hb, hk⟩; have zn1 := hk.1; have nHC := Aside0.mk (HC.out.call hi hb hk); have nVb2 := Aside0.mk (Vb2.out.call hk gl); clear HC Vb2; have HC := nHC; have Vb2 := nVb2; clear nHC nVb2; clear hi hb hk) | (go_at_call 43; have gy := Nat.lt_of_lt_of_le HC.out.lt HC.out.size; have qy := HC.out.size; have lb2_y := Vb2.out.lt; (with_reducible refine (H1.out g _ _ w0 _ _ HA.out HC.out.st HC.out.bel HQ.out).mono ?_); rintro e wc4 ⟨Ay, cy, rfl, ht_, hi, hb, hk⟩; have zy := hk.1; have nHC := Aside0.mk (HC.out.call hi hb hk); have nVb2 := Aside0.mk (Vb2.out.call hk gl); have nTy := Aside0.mk (ht_); clear HC Vb2; have HC := nHC; have Vb2 := nVb2; have Ty := nTy; clear nHC nVb2 nTy; clear ht_ hi hb hk) | ((with_reducible refine gate_dst (N := 4) rfl ?_); refine alloc26_event rfl 4 rfl rfl ?_; intro b4 wa5 hb_ ha_ hw_; have lb2_b4 := Vb2.out.lt; have zb4 := hw_.size; have yb4 := Nat.le_of_eq hb_.symm; have nHC := Aside0.mk (HC.out.below hw_); have nVb2 := Aside0.mk (Vb2.out.below hw_); have nTy := Aside0.mk (Ty.out.below hw_); have nVb4 := Aside0.mk (Vr.mk (w := w) ha_ (Nat.le_trans HC.out.size yb4)); clear HC Vb2 Ty; have HC := nHC; have Vb2 := nVb2; have Ty := nTy; have Vb4 := nVb4; clear nHC nVb2 nTy nVb4; have kb4 := Vb4.out.ge; clear hw_ ha_ hb_) | (refine store26_event rfl 4 (.tmp 30) rfl rfl rfl rfl Vb4.out.at_ ?_; intro ws6 ha_ hw_; have zws6 := hw_.kept.1; have nHC := Aside0.mk (HC.out.wrote hw_ Vb4.out.ge); have nVb2 := Aside0.mk (Vb2.out.wrote hw_ (by omega)); have nTy := Aside0.mk (Ty.out.wrote hw_ (by omega)); have nVb4 := Aside0.mk (Vr.mk (w := w) ha_ Vb4.out.ge); clear HC Vb2 Ty Vb4; have HC := nHC; have Vb2 := nVb2; have Ty := nTy; have Vb4 := nVb4; clear nHC nVb2 nTy nVb4; clear hw_ ha_) | (go_at_call 106; (with_reducible refine (expect_no g s t1 _ p1 w0 _ HC.out.st U2.out).mono ?_); rintro e we ⟨rfl, rfl⟩))
      exact ⟨rfl, Post.err HC.out.bel HC.out.keep⟩
     rw [if_pos ht1] at hr
     have U2 := Aside0.mk (show t1.toList = (⟨#[41]⟩ : ByteArray).toList by rw [ht1]; simp)
     clear ht1
     simp only [Option.some.injEq] at hr
     subst hr
     have HC := Aside0.mk (Cx.start (s := s) hI hB)
     have gl := HC.out.lt
     clear hI hB
     go_enter Tryd.func122, Tryd.ntmps122
     go_upto_region 1 with (first | ((with_reducible refine gate_dst (N := 2) rfl ?_); refine alloc26_event rfl 2 rfl rfl ?_; intro b2 wa1 hb_ ha_ hw_; have zb2 := hw_.size; have yb2 := Nat.le_of_eq hb_.symm; have nHC := Aside0.mk (HC.out.below hw_); have nVb2 := Aside0.mk (Vr.mk (w := w) ha_ (Nat.le_trans HC.out.size yb2)); clear HC; have HC := nHC; have Vb2 := nVb2; clear nHC nVb2; have kb2 := Vb2.out.ge; clear hw_ ha_ hb_))
     obtain ⟨HG, hg⟩ := HC.out.st
     have c0 := cellS65_0 HG
     have c1 := cellS65_1 HG
     have c2 := cellS65_2 HG
     clear HG hg
     go_upto_region 2 with (first | (go_at_call 135; (with_reducible refine (arith_unary.calls t op _ HG.out).mono ?_); rintro e wp2 ⟨rfl, hd_⟩; have hw_ := hd_.below; have zwp2 := hw_.size; have nHC := Aside0.mk (HC.out.below hw_); have nVb2 := Aside0.mk (Vb2.out.below hw_); clear HC Vb2; have HC := nHC; have Vb2 := nVb2; clear nHC nVb2; clear hd_ hw_))
     clear c0 c1 c2
     obtain ⟨HG, hg⟩ := HC.out.st
     have c0 := cellS65_0 HG
     have c1 := cellS65_1 HG
     have c2 := cellS65_2 HG
     clear HG hg
     go_upto_region 6 with (fail)
     clear c0 c1 c2
     go_upto_region 9 with (first | (go_at_call 42; have gn1 := Nat.lt_of_lt_of_le HC.out.lt HC.out.size; have qn1 := HC.out.size; have lb2_n1 := Vb2.out.lt; (with_reducible refine (next_calls g s t p w0 _ HC.out.st HC.out.bel HP.out HS.out).mono ?_); rintro e wn3 ⟨rfl, hi, hb, hk⟩; have zn1 := hk.1; have nHC := Aside0.mk (HC.out.call hi hb hk); have nVb2 := Aside0.mk (Vb2.out.call hk gl); clear HC Vb2; have HC := nHC; have Vb2 := nVb2; clear nHC nVb2; clear hi hb hk) | (go_at_call 43; have gy := Nat.lt_of_lt_of_le HC.out.lt HC.out.size; have qy := HC.out.size; have lb2_y := Vb2.out.lt; (with_reducible refine (H1.out g _ _ w0 _ _ HA.out HC.out.st HC.out.bel HQ.out).mono ?_); rintro e wc4 ⟨Ay, cy, rfl, ht_, hi, hb, hk⟩; have zy := hk.1; have nHC := Aside0.mk (HC.out.call hi hb hk); have nVb2 := Aside0.mk (Vb2.out.call hk gl); have nTy := Aside0.mk (ht_); clear HC Vb2; have HC := nHC; have Vb2 := nVb2; have Ty := nTy; clear nHC nVb2 nTy; clear ht_ hi hb hk) | ((with_reducible refine gate_dst (N := 4) rfl ?_); refine alloc26_event rfl 4 rfl rfl ?_; intro b4 wa5 hb_ ha_ hw_; have lb2_b4 := Vb2.out.lt; have zb4 := hw_.size; have yb4 := Nat.le_of_eq hb_.symm; have nHC := Aside0.mk (HC.out.below hw_); have nVb2 := Aside0.mk (Vb2.out.below hw_); have nTy := Aside0.mk (Ty.out.below hw_); have nVb4 := Aside0.mk (Vr.mk (w := w) ha_ (Nat.le_trans HC.out.size yb4)); clear HC Vb2 Ty; have HC := nHC; have Vb2 := nVb2; have Ty := nTy; have Vb4 := nVb4; clear nHC nVb2 nTy nVb4; have kb4 := Vb4.out.ge; clear hw_ ha_ hb_) | (refine store26_event rfl 4 (.tmp 30) rfl rfl rfl rfl Vb4.out.at_ ?_; intro ws6 ha_ hw_; have zws6 := hw_.kept.1; have nHC := Aside0.mk (HC.out.wrote hw_ Vb4.out.ge); have nVb2 := Aside0.mk (Vb2.out.wrote hw_ (by omega)); have nTy := Aside0.mk (Ty.out.wrote hw_ (by omega)); have nVb4 := Aside0.mk (Vr.mk (w := w) ha_ Vb4.out.ge); clear HC Vb2 Ty Vb4; have HC := nHC; have Vb2 := nVb2; have Ty := nTy; have Vb4 := nVb4; clear nHC nVb2 nTy nVb4; clear hw_ ha_) | (go_at_call 106; have ge2 := Nat.lt_of_lt_of_le HC.out.lt HC.out.size; have qe2 := HC.out.size; have lb2_e2 := Vb2.out.lt; have lb4_e2 := Vb4.out.lt; (with_reducible refine (expect_yes g s t1 _ p1 w0 _ HC.out.st HC.out.bel HP1.out HS.out U2.out).mono ?_); rintro e wn7 ⟨rfl, hi, hb, hk⟩; have ze2 := hk.1; have nHC := Aside0.mk (HC.out.call hi hb hk); have nVb2 := Aside0.mk (Vb2.out.call hk gl); have nVb4 := Aside0.mk (Vb4.out.call hk gl); have nTy := Aside0.mk (Ty.out.call hk (by omega)); clear HC Vb2 Vb4 Ty; have HC := nHC; have Vb2 := nVb2; have Vb4 := nVb4; have Ty := nTy; clear nHC nVb2 nVb4 nTy; clear hi hb hk))
     obtain ⟨x0, x1, x2, x3⟩ := Vb4.out.at_.cells
     go_wp2_with (first | (refine store26_event rfl 2 (.tmp 33) rfl rfl rfl rfl Vb2.out.at_ ?_; intro ws8 ha_ hw_; have zws8 := hw_.kept.1; have nHC := Aside0.mk (HC.out.wrote hw_ Vb2.out.ge); have nVb4 := Aside0.mk (Vb4.out.wrote hw_ (by omega)); have nTy := Aside0.mk (Ty.out.wrote hw_ (by omega)); have nVb2 := Aside0.mk (Vr.mk (w := w) ha_ Vb2.out.ge); clear HC Vb4 Ty Vb2; have HC := nHC; have Vb4 := nVb4; have Ty := nTy; have Vb2 := nVb2; clear nHC nVb4 nTy nVb2; clear hw_ ha_))
     refine bodyPost_ret (results_cell_row rfl _ _ b2 26 #[.int .i64 (y.f0), .int .i64 (y.f1), .string (y.f2), .slice Ay y.f3.length cy] (0, 0) _ rfl Vb2.out.at_ Tryd.underlying26 rfl (by kernel_rfl)) rfl ?_
     exact Post.done Ty.out HC.out (by omega) (by omega)
  rw [if_neg hpar] at hr
  have u1 : (t.toList == ([40] : List UInt8)) = false := by simpa using hpar
  clear hpar
  obtain ⟨wb, hwb⟩ := wordByte_some (bt t 0)
  obtain ⟨db, hdb⟩ := digit_some (bt t 0)
  have HWB := Aside0.mk hwb
  have HDB := Aside0.mk hdb
  rw [hwb] at hr
  rw [hdb] at hr
  clear hwb hdb
  by_cases ht0 : t.size = 0
  ·have u2 : (t.toList == ([] : List UInt8)) = true := by
    rw [Go.ByteArray.toList_eq]
    have : t.data.toList = [] := List.eq_nil_of_length_eq_zero (by simpa using ht0)
    simp [this]
   rw [if_pos (.inl ht0)] at hr
   clear ht0
   simp only [Option.some.injEq] at hr
   subst hr
   have HC := Aside0.mk (Cx.start (s := s) hI hB)
   have gl := HC.out.lt
   clear hI hB
   go_enter Tryd.func122, Tryd.ntmps122
   go_upto_region 1 with (first | ((with_reducible refine gate_dst (N := 2) rfl ?_); refine alloc26_event rfl 2 rfl rfl ?_; intro b2 wa1 hb_ ha_ hw_; have zb2 := hw_.size; have yb2 := Nat.le_of_eq hb_.symm; have nHC := Aside0.mk (HC.out.below hw_); have nVb2 := Aside0.mk (Vr.mk (w := w) ha_ (Nat.le_trans HC.out.size yb2)); clear HC; have HC := nHC; have Vb2 := nVb2; clear nHC nVb2; have kb2 := Vb2.out.ge; clear hw_ ha_ hb_))
   obtain ⟨HG, hg⟩ := HC.out.st
   have c0 := cellS65_0 HG
   have c1 := cellS65_1 HG
   have c2 := cellS65_2 HG
   clear HG hg
   go_upto_region 2 with (first | (go_at_call 135; (with_reducible refine (arith_unary.calls t op _ HG.out).mono ?_); rintro e wp2 ⟨rfl, hd_⟩; have hw_ := hd_.below; have zwp2 := hw_.size; have nHC := Aside0.mk (HC.out.below hw_); have nVb2 := Aside0.mk (Vb2.out.below hw_); clear HC Vb2; have HC := nHC; have Vb2 := nVb2; clear nHC nVb2; clear hd_ hw_))
   clear c0 c1 c2
   obtain ⟨HG, hg⟩ := HC.out.st
   have c0 := cellS65_0 HG
   have c1 := cellS65_1 HG
   have c2 := cellS65_2 HG
   clear HG hg
   go_upto_region 10 with (fail)
   go_wp2_with (first | (go_at_call 44; (with_reducible refine (fail_calls g s t p 6 w0 _ HC.out.st).mono ?_); rintro e we ⟨rfl, rfl⟩))
   exact ⟨rfl, Post.err HC.out.bel HC.out.keep⟩
  have u2 : (t.toList == ([] : List UInt8)) = false := by
   rw [Go.ByteArray.toList_eq]
   cases hd : t.data.toList with
   | nil => exact absurd (by simpa using congrArg List.length hd) ht0
   | cons a l => rfl
  have hts : (0 : Int) < (t.size : Int) := by omega
  have HT0 := Aside0.mk ht0
  have qi4 : (0 < (t.size : Int)) = True := eq_true hts
  have q4 : (0 < t.size) = True := eq_true (by omega)
  have hx4 : ∀ h : 0 < t.size, ((t[0]'h).toNat : Int) = bt t 0 := bt_at t 0
  clear ht0 hts
  cases wb with
  | false =>
   rw [if_pos (.inr (by simp))] at hr
   simp only [Option.some.injEq] at hr
   subst hr
   have HC := Aside0.mk (Cx.start (s := s) hI hB)
   have gl := HC.out.lt
   clear hI hB
   go_enter Tryd.func122, Tryd.ntmps122
   go_upto_region 1 with (first | ((with_reducible refine gate_dst (N := 2) rfl ?_); refine alloc26_event rfl 2 rfl rfl ?_; intro b2 wa1 hb_ ha_ hw_; have zb2 := hw_.size; have yb2 := Nat.le_of_eq hb_.symm; have nHC := Aside0.mk (HC.out.below hw_); have nVb2 := Aside0.mk (Vr.mk (w := w) ha_ (Nat.le_trans HC.out.size yb2)); clear HC; have HC := nHC; have Vb2 := nVb2; clear nHC nVb2; have kb2 := Vb2.out.ge; clear hw_ ha_ hb_))
   obtain ⟨HG, hg⟩ := HC.out.st
   have c0 := cellS65_0 HG
   have c1 := cellS65_1 HG
   have c2 := cellS65_2 HG
   clear HG hg
   go_upto_region 2 with (first | (go_at_call 135; (with_reducible refine (arith_unary.calls t op _ HG.out).mono ?_); rintro e wp2 ⟨rfl, hd_⟩; have hw_ := hd_.below; have zwp2 := hw_.size; have nHC := Aside0.mk (HC.out.below hw_); have nVb2 := Aside0.mk (Vb2.out.below hw_); clear HC Vb2; have HC := nHC; have Vb2 := nVb2; clear nHC nVb2; clear hd_ hw_))
   clear c0 c1 c2
   obtain ⟨HG, hg⟩ := HC.out.st
   have c0 := cellS65_0 HG
   have c1 := cellS65_1 HG
   have c2 := cellS65_2 HG
   clear HG hg
   go_upto_region 10 with (fail)
   go_upto_region 11 with (first | (go_at_call 68; (with_reducible refine (arith_wordByte.calls (bt t 0) false _ HWB.out).mono ?_); rintro e wp3 ⟨rfl, hd_⟩; have hw_ := hd_.below; have zwp3 := hw_.size; have nHC := Aside0.mk (HC.out.below hw_); have nVb2 := Aside0.mk (Vb2.out.below hw_); clear HC Vb2; have HC := nHC; have Vb2 := nVb2; clear nHC nVb2; clear hd_ hw_))
   clear c0 c1 c2
   go_wp2_with (first | (go_at_call 44; (with_reducible refine (fail_calls g s t p 6 w0 _ HC.out.st).mono ?_); rintro e we ⟨rfl, rfl⟩))
   exact ⟨rfl, Post.err HC.out.bel HC.out.keep⟩
  | true =>
   rw [if_neg (by simp [HT0.out])] at hr
   cases db with
   | true =>
    rw [if_pos rfl] at hr
    cases hN : arith_number.f (t.size + 3) t with
    | none => rw [hN] at hr; simp at hr
    | some ne =>
     obtain ⟨n, e⟩ := ne
     rw [hN] at hr
     have HN := Aside0.mk hN
     clear hN
     simp only at hr
     by_cases he : e = 0
     rotate_left
     ·have v1 : (e == 0) = false := beq_eq_false_iff_ne.mpr he
      have v2 : (e != 0) = true := bne_iff_ne.mpr he
      rw [if_neg he] at hr
      clear he
      simp only [Option.some.injEq] at hr
      subst hr
      have HC := Aside0.mk (Cx.start (s := s) hI hB)
      have gl := HC.out.lt
      clear hI hB
      go_enter Tryd.func122, Tryd.ntmps122
      go_upto_region 1 with (first | ((with_reducible refine gate_dst (N := 2) rfl ?_); refine alloc26_event rfl 2 rfl rfl ?_; intro b2 wa1 hb_ ha_ hw_; have zb2 := hw_.size; have yb2 := Nat.le_of_eq hb_.symm; have nHC := Aside0.mk (HC.out.below hw_); have nVb2 := Aside0.mk (Vr.mk (w := w) ha_ (Nat.le_trans HC.out.size yb2)); clear HC; have HC := nHC; have Vb2 := nVb2; clear nHC nVb2; have kb2 := Vb2.out.ge; clear hw_ ha_ hb_))
      obtain ⟨HG, hg⟩ := HC.out.st
      have c0 := cellS65_0 HG
      have c1 := cellS65_1 HG
      have c2 := cellS65_2 HG
      clear HG hg
      go_upto_region 2 with (first | (go_at_call 135; (with_reducible refine (arith_unary.calls t op _ HG.out).mono ?_); rintro e wp2 ⟨rfl, hd_⟩; have hw_ := hd_.below; have zwp2 := hw_.size; have nHC := Aside0.mk (HC.out.below hw_); have nVb2 := Aside0.mk (Vb2.out.below hw_); clear HC Vb2; have HC := nHC; have Vb2 := nVb2; clear nHC nVb2; clear hd_ hw_))
      clear c0 c1 c2
      obtain ⟨HG, hg⟩ := HC.out.st
      have c0 := cellS65_0 HG
      have c1 := cellS65_1 HG
      have c2 := cellS65_2 HG
      clear HG hg
      go_upto_region 10 with (fail)
      go_upto_region 12 with (first | (go_at_call 68; (with_reducible refine (arith_wordByte.calls (bt t 0) true _ HWB.out).mono ?_); rintro e wp3 ⟨rfl, hd_⟩; have hw_ := hd_.below; have zwp3 := hw_.size; have nHC := Aside0.mk (HC.out.below hw_); have nVb2 := Aside0.mk (Vb2.out.below hw_); clear HC Vb2; have HC := nHC; have Vb2 := nVb2; clear nHC nVb2; clear hd_ hw_))
      clear c0 c1 c2
      obtain ⟨HG, hg⟩ := HC.out.st
      have c0 := cellS65_0 HG
      have c1 := cellS65_1 HG
      have c2 := cellS65_2 HG
      clear HG hg
      go_upto_region 13 with (first | (go_at_call 104; (with_reducible refine (arith_digit.calls (bt t 0) true _ HDB.out).mono ?_); rintro e wp4 ⟨rfl, hd_⟩; have hw_ := hd_.below; have zwp4 := hw_.size; have nHC := Aside0.mk (HC.out.below hw_); have nVb2 := Aside0.mk (Vb2.out.below hw_); clear HC Vb2; have HC := nHC; have Vb2 := nVb2; clear nHC nVb2; clear hd_ hw_))
      clear c0 c1 c2
      obtain ⟨HG, hg⟩ := HC.out.st
      have c0 := cellS65_0 HG
      have c1 := cellS65_1 HG
      have c2 := cellS65_2 HG
      clear HG hg
      go_upto_region 14 with (first | (go_at_call 136; (with_reducible refine (arith_number.calls (t.size + 3) t n e _ HN.out).mono ?_); rintro e wp5 ⟨rfl, hd_⟩; have hw_ := hd_.below; have zwp5 := hw_.size; have nHC := Aside0.mk (HC.out.below hw_); have nVb2 := Aside0.mk (Vb2.out.below hw_); clear HC Vb2; have HC := nHC; have Vb2 := nVb2; clear nHC nVb2; clear hd_ hw_))
      clear c0 c1 c2
      go_wp2_with (first | (go_at_call 44; (with_reducible refine (fail_calls g s t p e w0 _ HC.out.st).mono ?_); rintro e we ⟨rfl, rfl⟩))
      exact ⟨rfl, Post.err HC.out.bel HC.out.keep⟩
     have v1 : (e == 0) = true := beq_iff_eq.mpr he
     have v2 : (e != 0) = false := bne_eq_false_iff_eq.mpr he
     rw [if_pos he] at hr
     clear he
     simp only [Option.some.injEq] at hr
     subst hr
     have HC := Aside0.mk (Cx.start (s := s) hI hB)
     have gl := HC.out.lt
     clear hI hB
     go_enter Tryd.func122, Tryd.ntmps122
     go_upto_region 1 with (first | ((with_reducible refine gate_dst (N := 2) rfl ?_); refine alloc26_event rfl 2 rfl rfl ?_; intro b2 wa1 hb_ ha_ hw_; have zb2 := hw_.size; have yb2 := Nat.le_of_eq hb_.symm; have nHC := Aside0.mk (HC.out.below hw_); have nVb2 := Aside0.mk (Vr.mk (w := w) ha_ (Nat.le_trans HC.out.size yb2)); clear HC; have HC := nHC; have Vb2 := nVb2; clear nHC nVb2; have kb2 := Vb2.out.ge; clear hw_ ha_ hb_))
     obtain ⟨HG, hg⟩ := HC.out.st
     have c0 := cellS65_0 HG
     have c1 := cellS65_1 HG
     have c2 := cellS65_2 HG
     clear HG hg
     go_upto_region 2 with (first | (go_at_call 135; (with_reducible refine (arith_unary.calls t op _ HG.out).mono ?_); rintro e wp2 ⟨rfl, hd_⟩; have hw_ := hd_.below; have zwp2 := hw_.size; have nHC := Aside0.mk (HC.out.below hw_); have nVb2 := Aside0.mk (Vb2.out.below hw_); clear HC Vb2; have HC := nHC; have Vb2 := nVb2; clear nHC nVb2; clear hd_ hw_))
     clear c0 c1 c2
     obtain ⟨HG, hg⟩ := HC.out.st
     have c0 := cellS65_0 HG
     have c1 := cellS65_1 HG
     have c2 := cellS65_2 HG
     clear HG hg
     go_upto_region 10 with (fail)
     go_upto_region 12 with (first | (go_at_call 68; (with_reducible refine (arith_wordByte.calls (bt t 0) true _ HWB.out).mono ?_); rintro e wp3 ⟨rfl, hd_⟩; have hw_ := hd_.below; have zwp3 := hw_.size; have nHC := Aside0.mk (HC.out.below hw_); have nVb2 := Aside0.mk (Vb2.out.below hw_); clear HC Vb2; have HC := nHC; have Vb2 := nVb2; clear nHC nVb2; clear hd_ hw_))
     clear c0 c1 c2
     obtain ⟨HG, hg⟩ := HC.out.st
     have c0 := cellS65_0 HG
     have c1 := cellS65_1 HG
     have c2 := cellS65_2 HG
     clear HG hg
     go_upto_region 13 with (first | (go_at_call 104; (with_reducible refine (arith_digit.calls (bt t 0) true _ HDB.out).mono ?_); rintro e wp4 ⟨rfl, hd_⟩; have hw_ := hd_.below; have zwp4 := hw_.size; have nHC := Aside0.mk (HC.out.below hw_); have nVb2 := Aside0.mk (Vb2.out.below hw_); clear HC Vb2; have HC := nHC; have Vb2 := nVb2; clear nHC nVb2; clear hd_ hw_))
     clear c0 c1 c2
     obtain ⟨HG, hg⟩ := HC.out.st
     have c0 := cellS65_0 HG
     have c1 := cellS65_1 HG
     have c2 := cellS65_2 HG
     clear HG hg
     go_upto_region 14 with (first | (go_at_call 136; (with_reducible refine (arith_number.calls (t.size + 3) t n e _ HN.out).mono ?_); rintro e wp5 ⟨rfl, hd_⟩; have hw_ := hd_.below; have zwp5 := hw_.size; have nHC := Aside0.mk (HC.out.below hw_); have nVb2 := Aside0.mk (Vb2.out.below hw_); clear HC Vb2; have HC := nHC; have Vb2 := nVb2; clear nHC nVb2; clear hd_ hw_))
     clear c0 c1 c2
     go_wp2_with (first | (go_at_call 42; have gn1 := Nat.lt_of_lt_of_le HC.out.lt HC.out.size; have qn1 := HC.out.size; have lb2_n1 := Vb2.out.lt; (with_reducible refine (next_calls g s t p w0 _ HC.out.st HC.out.bel HP.out HS.out).mono ?_); rintro e wn6 ⟨rfl, hi, hb, hk⟩; have zn1 := hk.1; have nHC := Aside0.mk (HC.out.call hi hb hk); have nVb2 := Aside0.mk (Vb2.out.call hk gl); clear HC Vb2; have HC := nHC; have Vb2 := nVb2; clear nHC nVb2; clear hi hb hk) | (refine store26_event rfl 2 (.tmp 72) rfl rfl rfl rfl Vb2.out.at_ ?_; intro ws7 ha_ hw_; have zws7 := hw_.kept.1; have nHC := Aside0.mk (HC.out.wrote hw_ Vb2.out.ge); have nVb2 := Aside0.mk (Vr.mk (w := w) ha_ Vb2.out.ge); clear HC Vb2; have HC := nHC; have Vb2 := nVb2; clear nHC nVb2; clear hw_ ha_))
     refine bodyPost_ret (results_cell_row rfl _ _ b2 26 #[.int .i64 (1), .int .i64 (n), .string (⟨#[]⟩), .slice none 0 0] (0, 0) _ rfl Vb2.out.at_ Tryd.underlying26 rfl (by kernel_rfl)) rfl ?_
     exact Post.done (x := ⟨1, n, noName, []⟩) (Tr.nil _ w.heap.size w.heap.size) HC.out (Nat.le_refl _) HC.out.size
   | false =>
    rw [if_neg (by simp)] at hr
    cases hn : nameB t with
    | true =>
     rw [hn] at hr
     have HNM := Aside0.mk (show chars_Name.f t = some true from congrArg some hn)
     clear hn
     simp only [if_true, Option.some.injEq] at hr
     subst hr
     have HC := Aside0.mk (Cx.start (s := s) hI hB)
     have gl := HC.out.lt
     clear hI hB
     go_enter Tryd.func122, Tryd.ntmps122
     go_upto_region 1 with (first | ((with_reducible refine gate_dst (N := 2) rfl ?_); refine alloc26_event rfl 2 rfl rfl ?_; intro b2 wa1 hb_ ha_ hw_; have zb2 := hw_.size; have yb2 := Nat.le_of_eq hb_.symm; have nHC := Aside0.mk (HC.out.below hw_); have nVb2 := Aside0.mk (Vr.mk (w := w) ha_ (Nat.le_trans HC.out.size yb2)); clear HC; have HC := nHC; have Vb2 := nVb2; clear nHC nVb2; have kb2 := Vb2.out.ge; clear hw_ ha_ hb_))
     obtain ⟨HG, hg⟩ := HC.out.st
     have c0 := cellS65_0 HG
     have c1 := cellS65_1 HG
     have c2 := cellS65_2 HG
     clear HG hg
     go_upto_region 2 with (first | (go_at_call 135; (with_reducible refine (arith_unary.calls t op _ HG.out).mono ?_); rintro e wp2 ⟨rfl, hd_⟩; have hw_ := hd_.below; have zwp2 := hw_.size; have nHC := Aside0.mk (HC.out.below hw_); have nVb2 := Aside0.mk (Vb2.out.below hw_); clear HC Vb2; have HC := nHC; have Vb2 := nVb2; clear nHC nVb2; clear hd_ hw_))
     clear c0 c1 c2
     obtain ⟨HG, hg⟩ := HC.out.st
     have c0 := cellS65_0 HG
     have c1 := cellS65_1 HG
     have c2 := cellS65_2 HG
     clear HG hg
     go_upto_region 10 with (fail)
     go_upto_region 12 with (first | (go_at_call 68; (with_reducible refine (arith_wordByte.calls (bt t 0) true _ HWB.out).mono ?_); rintro e wp3 ⟨rfl, hd_⟩; have hw_ := hd_.below; have zwp3 := hw_.size; have nHC := Aside0.mk (HC.out.below hw_); have nVb2 := Aside0.mk (Vb2.out.below hw_); clear HC Vb2; have HC := nHC; have Vb2 := nVb2; clear nHC nVb2; clear hd_ hw_))
     clear c0 c1 c2
     obtain ⟨HG, hg⟩ := HC.out.st
     have c0 := cellS65_0 HG
     have c1 := cellS65_1 HG
     have c2 := cellS65_2 HG
     clear HG hg
     go_upto_region 18 with (first | (go_at_call 104; (with_reducible refine (arith_digit.calls (bt t 0) false _ HDB.out).mono ?_); rintro e wp4 ⟨rfl, hd_⟩; have hw_ := hd_.below; have zwp4 := hw_.size; have nHC := Aside0.mk (HC.out.below hw_); have nVb2 := Aside0.mk (Vb2.out.below hw_); clear HC Vb2; have HC := nHC; have Vb2 := nVb2; clear nHC nVb2; clear hd_ hw_))
     clear c0 c1 c2
     obtain ⟨HG, hg⟩ := HC.out.st
     have c0 := cellS65_0 HG
     have c1 := cellS65_1 HG
     have c2 := cellS65_2 HG
     clear HG hg
     go_upto_region 20 with (first | (go_at_call 117; (with_reducible refine (chars_Name.calls t true _ HNM.out).mono ?_); rintro e wp5 ⟨rfl, hw_⟩; have zwp5 := hw_.size; have nHC := Aside0.mk (HC.out.below hw_); have nVb2 := Aside0.mk (Vb2.out.below hw_); clear HC Vb2; have HC := nHC; have Vb2 := nVb2; clear nHC nVb2; clear hw_))
     clear c0 c1 c2
     obtain ⟨HG, hg⟩ := HC.out.st
     have c0 := cellS65_0 HG
     have c1 := cellS65_1 HG
     have c2 := cellS65_2 HG
     clear HG hg
     go_upto_region 21 with (first | ((with_reducible refine gate_dst (N := 7) rfl ?_); refine alloc26_event rfl 7 rfl rfl ?_; intro b7 wa6 hb_ ha_ hw_; have lb2_b7 := Vb2.out.lt; have zb7 := hw_.size; have yb7 := Nat.le_of_eq hb_.symm; have nHC := Aside0.mk (HC.out.below hw_); have nVb2 := Aside0.mk (Vb2.out.below hw_); have nVb7 := Aside0.mk (Vr.mk (w := w) ha_ (Nat.le_trans HC.out.size yb7)); clear HC Vb2; have HC := nHC; have Vb2 := nVb2; have Vb7 := nVb7; clear nHC nVb2 nVb7; have kb7 := Vb7.out.ge; clear hw_ ha_ hb_) | (refine store26_event rfl 7 (.tmp 85) rfl rfl rfl rfl Vb7.out.at_ ?_; intro ws7 ha_ hw_; have zws7 := hw_.kept.1; have nHC := Aside0.mk (HC.out.wrote hw_ Vb7.out.ge); have nVb2 := Aside0.mk (Vb2.out.wrote hw_ (by omega)); have nVb7 := Aside0.mk (Vr.mk (w := w) ha_ Vb7.out.ge); clear HC Vb2 Vb7; have HC := nHC; have Vb2 := nVb2; have Vb7 := nVb7; clear nHC nVb2 nVb7; clear hw_ ha_))
     clear c0 c1 c2
     go_upto_region 22 with (first | (go_at_call 42; have gn1 := Nat.lt_of_lt_of_le HC.out.lt HC.out.size; have qn1 := HC.out.size; have lb2_n1 := Vb2.out.lt; have lb7_n1 := Vb7.out.lt; (with_reducible refine (next_calls g s t p w0 _ HC.out.st HC.out.bel HP.out HS.out).mono ?_); rintro e wn8 ⟨rfl, hi, hb, hk⟩; have zn1 := hk.1; have nHC := Aside0.mk (HC.out.call hi hb hk); have nVb2 := Aside0.mk (Vb2.out.call hk gl); have nVb7 := Aside0.mk (Vb7.out.call hk gl); clear HC Vb2 Vb7; have HC := nHC; have Vb2 := nVb2; have Vb7 := nVb7; clear nHC nVb2 nVb7; clear hi hb hk))
     obtain ⟨x0, x1, x2, x3⟩ := Vb7.out.at_.cells
     go_wp2_with (first | (refine store26_event rfl 2 (.tmp 88) rfl rfl rfl rfl Vb2.out.at_ ?_; intro ws9 ha_ hw_; have zws9 := hw_.kept.1; have nHC := Aside0.mk (HC.out.wrote hw_ Vb2.out.ge); have nVb7 := Aside0.mk (Vb7.out.wrote hw_ (by omega)); have nVb2 := Aside0.mk (Vr.mk (w := w) ha_ Vb2.out.ge); clear HC Vb7 Vb2; have HC := nHC; have Vb7 := nVb7; have Vb2 := nVb2; clear nHC nVb7 nVb2; clear hw_ ha_))
     refine bodyPost_ret (results_cell_row rfl _ _ b2 26 #[.int .i64 (2), .int .i64 (0), .string (t), .slice none 0 0] (0, 0) _ rfl Vb2.out.at_ Tryd.underlying26 rfl (by kernel_rfl)) rfl ?_
     exact Post.done (x := ⟨2, 0, t, []⟩) (Tr.nil _ w.heap.size w.heap.size) HC.out (Nat.le_refl _) HC.out.size
    | false =>
     rw [hn] at hr
     have HNM := Aside0.mk (show chars_Name.f t = some false from congrArg some hn)
     clear hn
     simp only [Bool.false_eq_true, if_false, Option.some.injEq] at hr
     subst hr
     have HC := Aside0.mk (Cx.start (s := s) hI hB)
     have gl := HC.out.lt
     clear hI hB
     go_enter Tryd.func122, Tryd.ntmps122
     go_upto_region 1 with (first | ((with_reducible refine gate_dst (N := 2) rfl ?_); refine alloc26_event rfl 2 rfl rfl ?_; intro b2 wa1 hb_ ha_ hw_; have zb2 := hw_.size; have yb2 := Nat.le_of_eq hb_.symm; have nHC := Aside0.mk (HC.out.below hw_); have nVb2 := Aside0.mk (Vr.mk (w := w) ha_ (Nat.le_trans HC.out.size yb2)); clear HC; have HC := nHC; have Vb2 := nVb2; clear nHC nVb2; have kb2 := Vb2.out.ge; clear hw_ ha_ hb_))
     obtain ⟨HG, hg⟩ := HC.out.st
     have c0 := cellS65_0 HG
     have c1 := cellS65_1 HG
     have c2 := cellS65_2 HG
     clear HG hg
     go_upto_region 2 with (first | (go_at_call 135; (with_reducible refine (arith_unary.calls t op _ HG.out).mono ?_); rintro e wp2 ⟨rfl, hd_⟩; have hw_ := hd_.below; have zwp2 := hw_.size; have nHC := Aside0.mk (HC.out.below hw_); have nVb2 := Aside0.mk (Vb2.out.below hw_); clear HC Vb2; have HC := nHC; have Vb2 := nVb2; clear nHC nVb2; clear hd_ hw_))
     clear c0 c1 c2
     obtain ⟨HG, hg⟩ := HC.out.st
     have c0 := cellS65_0 HG
     have c1 := cellS65_1 HG
     have c2 := cellS65_2 HG
     clear HG hg
     go_upto_region 10 with (fail)
     go_upto_region 12 with (first | (go_at_call 68; (with_reducible refine (arith_wordByte.calls (bt t 0) true _ HWB.out).mono ?_); rintro e wp3 ⟨rfl, hd_⟩; have hw_ := hd_.below; have zwp3 := hw_.size; have nHC := Aside0.mk (HC.out.below hw_); have nVb2 := Aside0.mk (Vb2.out.below hw_); clear HC Vb2; have HC := nHC; have Vb2 := nVb2; clear nHC nVb2; clear hd_ hw_))
     clear c0 c1 c2
     obtain ⟨HG, hg⟩ := HC.out.st
     have c0 := cellS65_0 HG
     have c1 := cellS65_1 HG
     have c2 := cellS65_2 HG
     clear HG hg
     go_upto_region 18 with (first | (go_at_call 104; (with_reducible refine (arith_digit.calls (bt t 0) false _ HDB.out).mono ?_); rintro e wp4 ⟨rfl, hd_⟩; have hw_ := hd_.below; have zwp4 := hw_.size; have nHC := Aside0.mk (HC.out.below hw_); have nVb2 := Aside0.mk (Vb2.out.below hw_); clear HC Vb2; have HC := nHC; have Vb2 := nVb2; clear nHC nVb2; clear hd_ hw_))
     clear c0 c1 c2
     obtain ⟨HG, hg⟩ := HC.out.st
     have c0 := cellS65_0 HG
     have c1 := cellS65_1 HG
     have c2 := cellS65_2 HG
     clear HG hg
     go_upto_region 19 with (first | (go_at_call 117; (with_reducible refine (chars_Name.calls t false _ HNM.out).mono ?_); rintro e wp5 ⟨rfl, hw_⟩; have zwp5 := hw_.size; have nHC := Aside0.mk (HC.out.below hw_); have nVb2 := Aside0.mk (Vb2.out.below hw_); clear HC Vb2; have HC := nHC; have Vb2 := nVb2; clear nHC nVb2; clear hw_))
     clear c0 c1 c2
     go_wp2_with (first | (go_at_call 44; (with_reducible refine (fail_calls g s t p 10 w0 _ HC.out.st).mono ?_); rintro e we ⟨rfl, rfl⟩))
     exact ⟨rfl, Post.err HC.out.bel HC.out.keep⟩
end Go.Proofs.YtglmdfddgmkmaaaDoor.Q
end
section
namespace Go.Proofs.YtglmdfddgmkmaaaDoor.Q
open Go.RowKit Go.Proofs.YtglmdfddgmkmaaaDoorW.PrintWords Go.Proofs.YtglmdfddgmkmaaaDoorW.PrintLast Go.Proofs.YtglmdfddgmkmaaaDoorW.PrintMore
attribute [local go_sem] max2_int min2_int max_two min_two max_three min_three max_four min_four
set_option linter.unusedVariables false
set_option linter.unusedSimpArgs false
end Go.Proofs.YtglmdfddgmkmaaaDoor.Q
end

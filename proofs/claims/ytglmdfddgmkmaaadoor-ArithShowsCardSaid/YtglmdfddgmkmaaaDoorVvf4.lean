/- What the claim needs, part 5 of 6. -/
import Derived.Test.YtglmdfddgmkmaaaDoorVvf3
section
namespace Go.Proofs.YtglmdfddgmkmaaaDoor.Q
open Go.RowKit Go.Proofs.YtglmdfddgmkmaaaDoorW.PrintWords Go.Proofs.YtglmdfddgmkmaaaDoorW.PrintLast Go.Proofs.YtglmdfddgmkmaaaDoorW.PrintMore
attribute [local go_sem] max2_int min2_int max_two min_two max_three min_three max_four min_four
set_option linter.unusedVariables false
set_option linter.unusedSimpArgs false
mutual
def arith_show.j0 : Nat → Int → Int → ByteArray → Option (ByteArray)
 | 0, _, _, _ => none
 | k + 1, x1, x5, x6 => if x5 < x1 then (if 1 + x6.size ≤ 9223372036854775807 then (if ((⟨#[40]⟩ : ByteArray) ++ x6).size + 1 ≤ 9223372036854775807 then (some (((⟨#[40]⟩ : ByteArray) ++ x6) ++ (⟨#[41]⟩ : ByteArray))) else (none)) else (none)) else (some x6)
def arith_show.f : Nat → Int → Int → ByteArray → List (S26) → Int → Option (ByteArray)
 | 0, _, _, _, _, _ => none
 | k + 1, a0_0, a0_1, a0_2, l0_3, a1 => (arith_height.f k a0_0).bind fun t123 => (if t123 = 1 then (if a0_1 = 0 then (if a0_2.size + 1 ≤ 9223372036854775807 then (if (a0_2 ++ (⟨#[32]⟩ : ByteArray)).size + 0 ≤ 9223372036854775807 then (if ((a0_2 ++ (⟨#[32]⟩ : ByteArray)) ++ (⟨#[]⟩ : ByteArray)).size + 2 ≤ 9223372036854775807 then (if 0 < (l0_3.length : Int) then ((arith_show.f k ((rd_T26 l0_3 0).f0) ((rd_T26 l0_3 0).f1) ((rd_T26 l0_3 0).f2) ((rd_T26 l0_3 0).f3) 1).bind fun t125 => (if (((a0_2 ++ (⟨#[32]⟩ : ByteArray)) ++ (⟨#[]⟩ : ByteArray)) ++ (⟨#[61, 32]⟩ : ByteArray)).size + t125.size ≤ 9223372036854775807 then (arith_show.j0 k a1 t123 ((((a0_2 ++ (⟨#[32]⟩ : ByteArray)) ++ (⟨#[]⟩ : ByteArray)) ++ (⟨#[61, 32]⟩ : ByteArray)) ++ t125)) else (none))) else (none)) else (none)) else (none)) else (none)) else ((arith_sign.f a0_1).bind fun t126 => (if a0_2.size + 1 ≤ 9223372036854775807 then (if (a0_2 ++ (⟨#[32]⟩ : ByteArray)).size + t126.size ≤ 9223372036854775807 then (if ((a0_2 ++ (⟨#[32]⟩ : ByteArray)) ++ t126).size + 2 ≤ 9223372036854775807 then (if 0 < (l0_3.length : Int) then ((arith_show.f k ((rd_T26 l0_3 0).f0) ((rd_T26 l0_3 0).f1) ((rd_T26 l0_3 0).f2) ((rd_T26 l0_3 0).f3) 1).bind fun t128 => (if (((a0_2 ++ (⟨#[32]⟩ : ByteArray)) ++ t126) ++ (⟨#[61, 32]⟩ : ByteArray)).size + t128.size ≤ 9223372036854775807 then (arith_show.j0 k a1 t123 ((((a0_2 ++ (⟨#[32]⟩ : ByteArray)) ++ t126) ++ (⟨#[61, 32]⟩ : ByteArray)) ++ t128)) else (none))) else (none)) else (none)) else (none)) else (none)))) else (if t123 = 2 then (if 0 < (l0_3.length : Int) then ((arith_show.f k ((rd_T26 l0_3 0).f0) ((rd_T26 l0_3 0).f1) ((rd_T26 l0_3 0).f2) ((rd_T26 l0_3 0).f3) 3).bind fun t130 => (if t130.size + 3 ≤ 9223372036854775807 then (if 1 < (l0_3.length : Int) then ((arith_show.f k ((rd_T26 l0_3 1).f0) ((rd_T26 l0_3 1).f1) ((rd_T26 l0_3 1).f2) ((rd_T26 l0_3 1).f3) 1).bind fun t132 => (if (t130 ++ (⟨#[32, 63, 32]⟩ : ByteArray)).size + t132.size ≤ 9223372036854775807 then (if ((t130 ++ (⟨#[32, 63, 32]⟩ : ByteArray)) ++ t132).size + 3 ≤ 9223372036854775807 then (if 2 < (l0_3.length : Int) then ((arith_show.f k ((rd_T26 l0_3 2).f0) ((rd_T26 l0_3 2).f1) ((rd_T26 l0_3 2).f2) ((rd_T26 l0_3 2).f3) 2).bind fun t134 => (if (((t130 ++ (⟨#[32, 63, 32]⟩ : ByteArray)) ++ t132) ++ (⟨#[32, 58, 32]⟩ : ByteArray)).size + t134.size ≤ 9223372036854775807 then (arith_show.j0 k a1 t123 ((((t130 ++ (⟨#[32, 63, 32]⟩ : ByteArray)) ++ t132) ++ (⟨#[32, 58, 32]⟩ : ByteArray)) ++ t134)) else (none))) else (none)) else (none)) else (none))) else (none)) else (none))) else (none)) else (if t123 = 13 then ((arith_sign.f a0_0).bind fun t135 => (if 0 < (l0_3.length : Int) then ((arith_show.f k ((rd_T26 l0_3 0).f0) ((rd_T26 l0_3 0).f1) ((rd_T26 l0_3 0).f2) ((rd_T26 l0_3 0).f3) 13).bind fun t137 => (if t135.size + t137.size ≤ 9223372036854775807 then (arith_show.j0 k a1 t123 (t135 ++ t137)) else (none))) else (none))) else (if t123 = 14 then (if a0_0 = 1 then ((strconv_Itoa_81.f a0_1).bind fun t138 => (arith_show.j0 k a1 t123 t138)) else (arith_show.j0 k a1 t123 a0_2)) else (if 0 < (l0_3.length : Int) then ((arith_show.f k ((rd_T26 l0_3 0).f0) ((rd_T26 l0_3 0).f1) ((rd_T26 l0_3 0).f2) ((rd_T26 l0_3 0).f3) t123).bind fun t140 => (if t140.size + 1 ≤ 9223372036854775807 then ((arith_sign.f a0_0).bind fun t141 => (if (t140 ++ (⟨#[32]⟩ : ByteArray)).size + t141.size ≤ 9223372036854775807 then (if ((t140 ++ (⟨#[32]⟩ : ByteArray)) ++ t141).size + 1 ≤ 9223372036854775807 then (if 1 < (l0_3.length : Int) then ((arith_show.f k ((rd_T26 l0_3 1).f0) ((rd_T26 l0_3 1).f1) ((rd_T26 l0_3 1).f2) ((rd_T26 l0_3 1).f3) (wrap64 (t123 + 1))).bind fun t143 => (if (((t140 ++ (⟨#[32]⟩ : ByteArray)) ++ t141) ++ (⟨#[32]⟩ : ByteArray)).size + t143.size ≤ 9223372036854775807 then (arith_show.j0 k a1 t123 ((((t140 ++ (⟨#[32]⟩ : ByteArray)) ++ t141) ++ (⟨#[32]⟩ : ByteArray)) ++ t143)) else (none))) else (none)) else (none)) else (none))) else (none))) else (none))))))
end
theorem arith_show.mono_l : ∀ k, (∀ y0 y1 y2 y3 y4, LeO (arith_show.f k y0 y1 y2 y3 y4) (arith_show.f (k + 1) y0 y1 y2 y3 y4)) ∧ (∀ y0 y1 y2, LeO (arith_show.j0 k y0 y1 y2) (arith_show.j0 (k + 1) y0 y1 y2))
 | 0 => ⟨fun _ _ _ _ _ r h => by simp [arith_show.f] at h, fun _ _ _ r h => by simp [arith_show.j0] at h⟩
 | k + 1 => by
  obtain ⟨ih0, ih1⟩ := arith_show.mono_l k
  refine ⟨?_, ?_⟩
  ·intro y0 y1 y2 y3 y4
   unfold arith_show.f
   repeat' first
   | (with_reducible exact ih0 _ _ _ _ _)
   | (with_reducible exact ih1 _ _ _)
   | (with_reducible exact arith_height.mono _ _)
   | (with_reducible exact LeO.refl _)
   | (with_reducible exact LeO.none _)
   | (with_reducible refine LeO.ite ?_ ?_)
   | (with_reducible refine LeO.bind ?_ (fun _ => ?_))
   | exact ih0 _ _ _ _ _
   | exact ih1 _ _ _
   | exact arith_height.mono _ _
   | exact LeO.none _
   | refine LeO.ite ?_ ?_
   | refine LeO.bind ?_ (fun _ => ?_)
  intro y0 y1 y2
  unfold arith_show.j0
  repeat' first
  | (with_reducible exact ih0 _ _ _ _ _)
  | (with_reducible exact ih1 _ _ _)
  | (with_reducible exact arith_height.mono _ _)
  | (with_reducible exact LeO.refl _)
  | (with_reducible exact LeO.none _)
  | (with_reducible refine LeO.ite ?_ ?_)
  | (with_reducible refine LeO.bind ?_ (fun _ => ?_))
  | exact ih0 _ _ _ _ _
  | exact ih1 _ _ _
  | exact arith_height.mono _ _
  | exact LeO.none _
  | refine LeO.ite ?_ ?_
  | refine LeO.bind ?_ (fun _ => ?_)
theorem arith_show.mono : ∀ a0 a1 a2 a3 a4 k, LeO (arith_show.f k a0 a1 a2 a3 a4) (arith_show.f (k + 1) a0 a1 a2 a3 a4) := by
 intro a0 a1 a2 a3 a4 k
 obtain ⟨ih0, ih1⟩ := arith_show.mono_l k
 exact ih0 a0 a1 a2 a3 a4
def arith_show.T4 : Bool × List (List Nat × List Nat) := (true, [([], []), ([0], [0]), ([1], [1]), ([2], [2]), ([], []), ([3, 4], [3, 4]), ([5], [5]), ([], []), ([7], [7]), ([8, 5], [8]), ([6, 9], [6, 9]), ([10], [10]), ([], []), ([12], [12]), ([13], [13]), ([14], [14]), ([], []), ([16], [16]), ([15, 17, 9], [15, 17]), ([11, 18], [11, 18]), ([19, 18, 0, 1, 2, 3, 4, 5, 6, 7, 8, 9, 10, 11, 12, 13, 14, 15, 16, 17, 18, 19], [19])])
def arith_show.B4 : List Nat := [0, 1, 3, 7, 0, 31, 63, 0, 128, 447, 1023, 2047, 0, 4096, 12288, 28672, 0, 65536, 259007, 524287, 1048575]
theorem arith_show.tab4 : rtab .any (opsOf Tryd.f52 4) = arith_show.T4 := by kernel_rfl
theorem arith_show.bits4 : waitsOk arith_show.T4.2 arith_show.B4 = true := by kernel_rfl
def arith_show.T9 : Bool × List (List Nat × List Nat) := (true, [([], []), ([0], [0]), ([1], [1]), ([], []), ([2, 3], [2, 3]), ([4], [4]), ([], []), ([6], [6]), ([7], [7]), ([8], [8]), ([9], [9]), ([5, 10], [5, 10]), ([11, 10, 0, 1, 2, 3, 4, 5, 6, 7, 8, 9, 10, 11], [11])])
def arith_show.B9 : List Nat := [0, 1, 3, 0, 15, 31, 0, 64, 192, 448, 960, 2047, 4095]
theorem arith_show.tab9 : rtab .any (opsOf Tryd.f52 9) = arith_show.T9 := by kernel_rfl
theorem arith_show.bits9 : waitsOk arith_show.T9.2 arith_show.B9 = true := by kernel_rfl
def arith_show.T11 : Bool × List (List Nat × List Nat) := (true, [([], []), ([0], [0]), ([1], [1]), ([2], [2]), ([3], [3]), ([4], [4]), ([], []), ([6], [6]), ([7], [7]), ([8], [8]), ([9, 4], [9]), ([5, 10], [5, 10]), ([11], [11]), ([], []), ([13], [13]), ([14], [14]), ([15], [15]), ([16, 10], [16]), ([12, 17], [12, 17]), ([18, 17, 0, 1, 2, 3, 4, 5, 6, 7, 8, 9, 10, 11, 12, 13, 14, 15, 16, 17, 18], [18])])
def arith_show.B11 : List Nat := [0, 1, 3, 7, 15, 31, 0, 64, 192, 448, 991, 2047, 4095, 0, 8192, 24576, 57344, 124895, 262143, 524287]
theorem arith_show.tab11 : rtab .any (opsOf Tryd.f52 11) = arith_show.T11 := by kernel_rfl
theorem arith_show.bits11 : waitsOk arith_show.T11.2 arith_show.B11 = true := by kernel_rfl
def arith_show.T13 : Bool × List (List Nat × List Nat) := (true, [([], []), ([0], [0]), ([1], [1]), ([], []), ([3], [3]), ([4], [4]), ([5], [5]), ([6, 2], [6]), ([2, 7], [2, 7]), ([8, 7, 0, 1, 2, 3, 4, 5, 6, 7, 8], [8])])
def arith_show.B13 : List Nat := [0, 1, 3, 0, 8, 24, 56, 127, 255, 511]
theorem arith_show.tab13 : rtab .any (opsOf Tryd.f52 13) = arith_show.T13 := by kernel_rfl
theorem arith_show.bits13 : waitsOk arith_show.T13.2 arith_show.B13 = true := by kernel_rfl
set_option maxHeartbeats 8000000 in
set_option maxRecDepth 100000 in
theorem arith_show.calls (k : Nat) : ∀ (a0_0 : Int) (a0_1 : Int) (a0_2 : ByteArray) (A0_3 : Option Addr) (c0_3 : Nat) (l0_3 : List (S26)) (a1 : Int) (r : ByteArray) (w : World) (hr0_3 : Kd.C k26 w A0_3 l0_3.length l0_3) (hc0_3 : l0_3.length ≤ c0_3) (h : arith_show.f k a0_0 a0_1 a0_2 l0_3 a1 = some r) (hT : Laid w := by first | assumption | exact HT.out | exact Laid.below HT.out (by repeat (first | (with_reducible first | exact HB.out | apply below_alloc | apply pw_below_drewN | apply below_drew1 | refine below_set ?_ (Aside0.out (by assumption))) | exact HB.out))),
 Calls Tryd.prog 52 #[.agg #[.int .i64 a0_0, .int .i64 a0_1, .string a0_2, .slice A0_3 l0_3.length c0_3], .int .i64 a1] w fun e w' => e = .returned (.string r) ∧ Below w.heap.size w w' := by
 induction k using Nat.strongRecOn with
 | _ k ih =>
 intro a0_0 a0_1 a0_2 A0_3 c0_3 l0_3 a1 r w hr0_3 hc0_3 h hT
 cases k with
 | zero => exact absurd h (by simp [arith_show.f])
 | succ k =>
 simp only [arith_show.f] at h
 have hu26 := Tryd.underlying26
 have HR0_3 := Aside0.mk hr0_3
 have HC0_3 := Aside0.mk hc0_3
 clear hr0_3 hc0_3
 have HB := Aside0.mk (Below.refl w.heap.size w)
 have HT : Aside0 (Laid w) := Aside0.mk hT
 clear hT
 have H : ((arith_height.f k a0_0).bind fun t123 => (if t123 = 1 then (if a0_1 = 0 then (if a0_2.size + 1 ≤ 9223372036854775807 then (if (a0_2 ++ (⟨#[32]⟩ : ByteArray)).size + 0 ≤ 9223372036854775807 then (if ((a0_2 ++ (⟨#[32]⟩ : ByteArray)) ++ (⟨#[]⟩ : ByteArray)).size + 2 ≤ 9223372036854775807 then (if 0 < (l0_3.length : Int) then ((arith_show.f k ((rd_T26 l0_3 0).f0) ((rd_T26 l0_3 0).f1) ((rd_T26 l0_3 0).f2) ((rd_T26 l0_3 0).f3) 1).bind fun t125 => (if (((a0_2 ++ (⟨#[32]⟩ : ByteArray)) ++ (⟨#[]⟩ : ByteArray)) ++ (⟨#[61, 32]⟩ : ByteArray)).size + t125.size ≤ 9223372036854775807 then (arith_show.j0 k a1 t123 ((((a0_2 ++ (⟨#[32]⟩ : ByteArray)) ++ (⟨#[]⟩ : ByteArray)) ++ (⟨#[61, 32]⟩ : ByteArray)) ++ t125)) else (none))) else (none)) else (none)) else (none)) else (none)) else ((arith_sign.f a0_1).bind fun t126 => (if a0_2.size + 1 ≤ 9223372036854775807 then (if (a0_2 ++ (⟨#[32]⟩ : ByteArray)).size + t126.size ≤ 9223372036854775807 then (if ((a0_2 ++ (⟨#[32]⟩ : ByteArray)) ++ t126).size + 2 ≤ 9223372036854775807 then (if 0 < (l0_3.length : Int) then ((arith_show.f k ((rd_T26 l0_3 0).f0) ((rd_T26 l0_3 0).f1) ((rd_T26 l0_3 0).f2) ((rd_T26 l0_3 0).f3) 1).bind fun t128 => (if (((a0_2 ++ (⟨#[32]⟩ : ByteArray)) ++ t126) ++ (⟨#[61, 32]⟩ : ByteArray)).size + t128.size ≤ 9223372036854775807 then (arith_show.j0 k a1 t123 ((((a0_2 ++ (⟨#[32]⟩ : ByteArray)) ++ t126) ++ (⟨#[61, 32]⟩ : ByteArray)) ++ t128)) else (none))) else (none)) else (none)) else (none)) else (none)))) else (if t123 = 2 then (if 0 < (l0_3.length : Int) then ((arith_show.f k ((rd_T26 l0_3 0).f0) ((rd_T26 l0_3 0).f1) ((rd_T26 l0_3 0).f2) ((rd_T26 l0_3 0).f3) 3).bind fun t130 => (if t130.size + 3 ≤ 9223372036854775807 then (if 1 < (l0_3.length : Int) then ((arith_show.f k ((rd_T26 l0_3 1).f0) ((rd_T26 l0_3 1).f1) ((rd_T26 l0_3 1).f2) ((rd_T26 l0_3 1).f3) 1).bind fun t132 => (if (t130 ++ (⟨#[32, 63, 32]⟩ : ByteArray)).size + t132.size ≤ 9223372036854775807 then (if ((t130 ++ (⟨#[32, 63, 32]⟩ : ByteArray)) ++ t132).size + 3 ≤ 9223372036854775807 then (if 2 < (l0_3.length : Int) then ((arith_show.f k ((rd_T26 l0_3 2).f0) ((rd_T26 l0_3 2).f1) ((rd_T26 l0_3 2).f2) ((rd_T26 l0_3 2).f3) 2).bind fun t134 => (if (((t130 ++ (⟨#[32, 63, 32]⟩ : ByteArray)) ++ t132) ++ (⟨#[32, 58, 32]⟩ : ByteArray)).size + t134.size ≤ 9223372036854775807 then (arith_show.j0 k a1 t123 ((((t130 ++ (⟨#[32, 63, 32]⟩ : ByteArray)) ++ t132) ++ (⟨#[32, 58, 32]⟩ : ByteArray)) ++ t134)) else (none))) else (none)) else (none)) else (none))) else (none)) else (none))) else (none)) else (if t123 = 13 then ((arith_sign.f a0_0).bind fun t135 => (if 0 < (l0_3.length : Int) then ((arith_show.f k ((rd_T26 l0_3 0).f0) ((rd_T26 l0_3 0).f1) ((rd_T26 l0_3 0).f2) ((rd_T26 l0_3 0).f3) 13).bind fun t137 => (if t135.size + t137.size ≤ 9223372036854775807 then (arith_show.j0 k a1 t123 (t135 ++ t137)) else (none))) else (none))) else (if t123 = 14 then (if a0_0 = 1 then ((strconv_Itoa_81.f a0_1).bind fun t138 => (arith_show.j0 k a1 t123 t138)) else (arith_show.j0 k a1 t123 a0_2)) else (if 0 < (l0_3.length : Int) then ((arith_show.f k ((rd_T26 l0_3 0).f0) ((rd_T26 l0_3 0).f1) ((rd_T26 l0_3 0).f2) ((rd_T26 l0_3 0).f3) t123).bind fun t140 => (if t140.size + 1 ≤ 9223372036854775807 then ((arith_sign.f a0_0).bind fun t141 => (if (t140 ++ (⟨#[32]⟩ : ByteArray)).size + t141.size ≤ 9223372036854775807 then (if ((t140 ++ (⟨#[32]⟩ : ByteArray)) ++ t141).size + 1 ≤ 9223372036854775807 then (if 1 < (l0_3.length : Int) then ((arith_show.f k ((rd_T26 l0_3 1).f0) ((rd_T26 l0_3 1).f1) ((rd_T26 l0_3 1).f2) ((rd_T26 l0_3 1).f3) (wrap64 (t123 + 1))).bind fun t143 => (if (((t140 ++ (⟨#[32]⟩ : ByteArray)) ++ t141) ++ (⟨#[32]⟩ : ByteArray)).size + t143.size ≤ 9223372036854775807 then (arith_show.j0 k a1 t123 ((((t140 ++ (⟨#[32]⟩ : ByteArray)) ++ t141) ++ (⟨#[32]⟩ : ByteArray)) ++ t143)) else (none))) else (none)) else (none)) else (none))) else (none))) else (none))))))) = some r := h
 clear h
 replace H := Option.bind_eq_some_iff.mp H
 obtain ⟨t123, A30, H⟩ := H
 try dsimp only at H
 have A3 := Aside0.mk A30
 clear A30
 have HC4 := Aside0.mk H
 clear H
 go_enter Tryd.func52, Tryd.ntmps52
 go_upto_block 0 with (first | ((with_reducible refine gate_dst (N := 2) rfl ?_); refine box_event ?hg (N := 2) ?hd (cs := #[.int .i64 a0_0, .int .i64 a0_1, .string a0_2, .slice A0_3 l0_3.length c0_3]) (t := 26) ?hr ?_; (case hd => rfl); (case hg => rfl); (case hr => first | (go_simp; done) | (go_simp; rfl)); intro gb122 hg w5 hbox hb; have n0_ := Aside0.mk (below_step (by repeat (first | (with_reducible first | exact HB.out | apply below_alloc | apply pw_below_drewN | apply below_drew1) | exact HB.out)) hb); have n1_ := Aside0.mk (hbox); have n2_ := Aside0.mk ((by rw [hg]; exact (below_size (by repeat (first | (with_reducible first | exact HB.out | apply below_alloc | apply pw_below_drewN | apply below_drew1) | exact HB.out))) : w.heap.size ≤ gb122)); have n3_ := Aside0.mk ((by rw [hg]; exact (below_size (by repeat (first | (with_reducible first | exact HB.out | apply below_alloc | apply pw_below_drewN | apply below_drew1) | exact HB.out))) : w.heap.size ≤ gb122)); clear HB; have HB := n0_; have BK122 := n1_; have GW122 := n2_; have GE122 := n3_; clear n0_ n1_ n2_ n3_; clear hb hbox hg; have hcz6_0 : w5.cell? ⟨gb122, 0, none⟩ = some (.int .i64 a0_0) := (blk_cell BK122.out 0).trans rfl; have hcz6_1 : w5.cell? ⟨gb122, 1, none⟩ = some (.int .i64 a0_1) := (blk_cell BK122.out 1).trans rfl; have hcz6_2 : w5.cell? ⟨gb122, 2, none⟩ = some (.string a0_2) := (blk_cell BK122.out 2).trans rfl; have hcz6_3 : w5.cell? ⟨gb122, 3, none⟩ = some (.slice A0_3 l0_3.length c0_3) := (blk_cell BK122.out 3).trans rfl; have hfz6_0 := blk_frozen BK122.out 0; have hfz6_1 := blk_frozen BK122.out 1; have hfz6_2 := blk_frozen BK122.out 2; have hfz6_3 := blk_frozen BK122.out 3) | ((with_reducible refine gate_callee (f := 79) rfl ?_); refine goesL_ (some 10) rfl rfl Tryd.func79 (by kernel_rfl) rfl #[.int .i64 a0_0] rfl (by (try simp only [List.map_toArray, List.map_cons, List.map_nil]); first | done | rfl | (simp only [List.length_drop, List.length_take]; rfl)) ?_; (with_reducible refine (arith_height.calls k a0_0 t123 _ A3.out).mono ?_); rintro e w7 ⟨rfl, hb⟩; refine ⟨_, rfl, ?_⟩; have n0_ := Aside0.mk (blk_below (g := gb122) (o := .cells #[.int .i64 a0_0, .int .i64 a0_1, .string a0_2, .slice A0_3 l0_3.length c0_3] 26 (0, 0)) (by (with_reducible repeat (first | refine blk_drewN ?_ _ | refine blk_drew ?_ | refine blk_alloc ?_ _)); exact BK122.out) hb); have n1_ := Aside0.mk (below_step (by repeat (first | (with_reducible first | exact HB.out | apply below_alloc | apply pw_below_drewN | apply below_drew1 | refine below_set ?_ GE122.out) | exact HB.out)) hb); clear BK122; clear HB; have BK122 := n0_; have HB := n1_; clear n0_ n1_; (try clear hb); (try clear hb2); (try clear hk); (try clear hi)))
 (try simp only [Act.put, List.setIfInBounds_toArray, List.set_cons_zero, List.set_cons_succ])
 go_cut [6] (fun v6 wc => ∃ (kq : Nat) (x6_3 : ByteArray), v6 = .string x6_3 ∧ Aside0 (arith_show.j0 kq a1 t123 x6_3 = some r) ∧ Aside0 (kq ≤ k) ∧ Aside0 (wc.heap[gb122]? = some (.cells #[.int .i64 a0_0, .int .i64 a0_1, .string a0_2, (.slice A0_3 l0_3.length c0_3)] 26 (0, 0))) ∧ Aside0 (Below w.heap.size w wc))
 case first =>
  have H := HC4.out
  clear HC4
  by_cases c8 : t123 = 1
  ·rw [if_pos c8] at H
   have c8b0 : (t123 == 1) = true := beq_iff_eq.mpr c8
   have c8b1 : (t123 != 1) = false := bne_eq_false_iff_eq.mpr c8
   clear c8
   (first | rw [c8b0] | (simp only [i64_w, i32_w]; rw [c8b0]) | skip)
   by_cases c9 : a0_1 = 0
   ·rw [if_pos c9] at H
    have c9b0 : (a0_1 == 0) = true := beq_iff_eq.mpr c9
    have c9b1 : (a0_1 != 0) = false := bne_eq_false_iff_eq.mpr c9
    clear c9
    by_cases c10 : a0_2.size + 1 ≤ 9223372036854775807
    rotate_left
    ·rw [if_neg c10] at H
     exact absurd H (by simp)
    rw [if_pos c10] at H
    have c10b0 := eq_true c10
    have c10b1 : decide (a0_2.size + 1 ≤ 9223372036854775807) = true := decide_eq_true c10
    try have c10b2 : (9223372036854775807 < a0_2.size + 1) = False := eq_false (Nat.not_lt.2 c10)
    by_cases c11 : (a0_2 ++ (⟨#[32]⟩ : ByteArray)).size + 0 ≤ 9223372036854775807
    rotate_left
    ·rw [if_neg c11] at H
     exact absurd H (by simp)
    rw [if_pos c11] at H
    have c11b0 := eq_true c11
    have c11b1 : decide ((a0_2 ++ (⟨#[32]⟩ : ByteArray)).size + 0 ≤ 9223372036854775807) = true := decide_eq_true c11
    try have c11b2 : (9223372036854775807 < (a0_2 ++ (⟨#[32]⟩ : ByteArray)).size + 0) = False := eq_false (Nat.not_lt.2 c11)
    try have c11b3 := c11b2
    try simp only [ByteArray.size_append, show (⟨#[32]⟩ : ByteArray).size = 1 from rfl, Nat.zero_add, Nat.add_zero] at c11b3
    by_cases c12 : ((a0_2 ++ (⟨#[32]⟩ : ByteArray)) ++ (⟨#[]⟩ : ByteArray)).size + 2 ≤ 9223372036854775807
    rotate_left
    ·rw [if_neg c12] at H
     exact absurd H (by simp)
    rw [if_pos c12] at H
    have c12b0 := eq_true c12
    have c12b1 : decide (((a0_2 ++ (⟨#[32]⟩ : ByteArray)) ++ (⟨#[]⟩ : ByteArray)).size + 2 ≤ 9223372036854775807) = true := decide_eq_true c12
    try have c12b2 : (9223372036854775807 < ((a0_2 ++ (⟨#[32]⟩ : ByteArray)) ++ (⟨#[]⟩ : ByteArray)).size + 2) = False := eq_false (Nat.not_lt.2 c12)
    try have c12b3 := c12b2
    try simp only [ByteArray.size_append, show (⟨#[32]⟩ : ByteArray).size = 1 from rfl, show (⟨#[]⟩ : ByteArray).size = 0 from rfl, Nat.zero_add, Nat.add_zero] at c12b3
    by_cases c13 : 0 < (l0_3.length : Int)
    rotate_left
    ·rw [if_neg c13] at H
     exact absurd H (by simp)
    rw [if_pos c13] at H
    have c13b0 : decide (0 < (l0_3.length : Int)) = true := decide_eq_true c13
    have c13b1 : decide (0 < l0_3.length) = true := decide_eq_true (by omega)
    clear c13
    replace H := Option.bind_eq_some_iff.mp H
    obtain ⟨t125, A140, H⟩ := H
    try dsimp only at H
    have A14 := Aside0.mk A140
    clear A140
    by_cases c15 : (((a0_2 ++ (⟨#[32]⟩ : ByteArray)) ++ (⟨#[]⟩ : ByteArray)) ++ (⟨#[61, 32]⟩ : ByteArray)).size + t125.size ≤ 9223372036854775807
    rotate_left
    ·rw [if_neg c15] at H
     exact absurd H (by simp)
    rw [if_pos c15] at H
    have c15b0 := eq_true c15
    have c15b1 : decide ((((a0_2 ++ (⟨#[32]⟩ : ByteArray)) ++ (⟨#[]⟩ : ByteArray)) ++ (⟨#[61, 32]⟩ : ByteArray)).size + t125.size ≤ 9223372036854775807) = true := decide_eq_true c15
    try have c15b2 : (9223372036854775807 < (((a0_2 ++ (⟨#[32]⟩ : ByteArray)) ++ (⟨#[]⟩ : ByteArray)) ++ (⟨#[61, 32]⟩ : ByteArray)).size + t125.size) = False := eq_false (Nat.not_lt.2 c15)
    try have c15b3 := c15b2
    try simp only [ByteArray.size_append, show (⟨#[32]⟩ : ByteArray).size = 1 from rfl, show (⟨#[]⟩ : ByteArray).size = 0 from rfl, show (⟨#[61, 32]⟩ : ByteArray).size = 2 from rfl, Nat.zero_add, Nat.add_zero] at c15b3
    have H' := Aside0.mk H
    clear H
    have hcz16_0 : w7.cell? ⟨gb122, 0, none⟩ = some (.int .i64 a0_0) := (blk_cell BK122.out 0).trans rfl
    have hcz16_1 : w7.cell? ⟨gb122, 1, none⟩ = some (.int .i64 a0_1) := (blk_cell BK122.out 1).trans rfl
    have hcz16_2 : w7.cell? ⟨gb122, 2, none⟩ = some (.string a0_2) := (blk_cell BK122.out 2).trans rfl
    have hcz16_3 : w7.cell? ⟨gb122, 3, none⟩ = some (.slice A0_3 l0_3.length c0_3) := (blk_cell BK122.out 3).trans rfl
    have hfz16_0 := blk_frozen BK122.out 0
    have hfz16_1 := blk_frozen BK122.out 1
    have hfz16_2 := blk_frozen BK122.out 2
    have hfz16_3 := blk_frozen BK122.out 3
    try go_wp2
    have n0_ := Aside0.mk (blk_drew BK122.out)
    have n1_ := Aside0.mk (below_drew1 HB.out)
    clear BK122
    clear HB
    have BK122 := n0_
    have HB := n1_
    clear n0_ n1_
    have p124 : 0 ≤ (0 : Int) := (by omega)
    have q124 : 0 < (l0_3.length : Int) := of_decide_eq_true (by first | (with_reducible assumption) | assumption)
    obtain ⟨ad124, A124_3, c124_3, e124, hx124_0, hx124_1, hx124_2, hx124_3, hl124_3, hi124_3⟩ := at_T26 HR0_3.out 0 p124 q124
    have hw124_3 := hx124_3
    (try rw [show ((0 : Int)).toNat = 0 from rfl] at hw124_3)
    (try rw [show 0 * 4 = 0 from rfl] at hw124_3)
    (try rw [Addr.add_zero'] at hw124_3)
    have hw124_2 := hx124_2
    (try rw [show ((0 : Int)).toNat = 0 from rfl] at hw124_2)
    (try rw [show 0 * 4 = 0 from rfl] at hw124_2)
    (try rw [Addr.add_zero'] at hw124_2)
    have hw124_1 := hx124_1
    (try rw [show ((0 : Int)).toNat = 0 from rfl] at hw124_1)
    (try rw [show 0 * 4 = 0 from rfl] at hw124_1)
    (try rw [Addr.add_zero'] at hw124_1)
    have hw124_0 := hx124_0
    (try rw [show ((0 : Int)).toNat = 0 from rfl] at hw124_0)
    (try rw [show 0 * 4 = 0 from rfl] at hw124_0)
    (try rw [Addr.add_zero'] at hw124_0)
    cases e124
    have qi124 : (0 < l0_3.length) = True := eq_true (by omega)
    (try rw [show ((0 : Int)).toNat = 0 from rfl] at hx124_0)
    (try rw [show 0 * 4 = 0 from rfl] at hx124_0)
    (try rw [Addr.add_zero'] at hx124_0)
    (try rw [show ((0 : Int)).toNat = 0 from rfl] at hx124_1)
    (try rw [show 0 * 4 = 0 from rfl] at hx124_1)
    (try rw [Addr.add_zero'] at hx124_1)
    (try rw [show ((0 : Int)).toNat = 0 from rfl] at hx124_2)
    (try rw [show 0 * 4 = 0 from rfl] at hx124_2)
    (try rw [Addr.add_zero'] at hx124_2)
    (try rw [show ((0 : Int)).toNat = 0 from rfl] at hx124_3)
    (try rw [show 0 * 4 = 0 from rfl] at hx124_3)
    (try rw [Addr.add_zero'] at hx124_3)
    replace hx124_0 := (HB.out.cell (World.block_lt_of_cell? w _ hx124_0)).trans hx124_0
    replace hx124_1 := (HB.out.cell (World.block_lt_of_cell? w _ hx124_1)).trans hx124_1
    replace hx124_2 := (HB.out.cell (World.block_lt_of_cell? w _ hx124_2)).trans hx124_2
    replace hx124_3 := (HB.out.cell (World.block_lt_of_cell? w _ hx124_3)).trans hx124_3
    have HR124_3 := Aside0.mk hi124_3
    have HC124_3 := Aside0.mk hl124_3
    clear hi124_3 hl124_3
    replace p124 := eq_true p124
    replace q124 := eq_true q124
    refine start_ (n := 13) (S := fun w' => w'.cell? ⟨gb122, 0, none⟩ = some (.int .i64 a0_0) ∧ w'.cell? ⟨gb122, 1, none⟩ = some (.int .i64 a0_1) ∧ w'.cell? ⟨gb122, 2, none⟩ = some (.string a0_2) ∧ w'.cell? ⟨gb122, 3, none⟩ = some (.slice (some ad124) l0_3.length c0_3) ∧ w'.cell? ad124 = some (.int .i64 ((rd_T26 l0_3 0).f0)) ∧ w'.cell? ⟨ad124.block, ad124.off + 1, none⟩ = some (.int .i64 ((rd_T26 l0_3 0).f1)) ∧ w'.cell? ⟨ad124.block, ad124.off + 2, none⟩ = some (.string ((rd_T26 l0_3 0).f2)) ∧ w'.cell? ⟨ad124.block, ad124.off + 3, none⟩ = some (.slice A124_3 ((rd_T26 l0_3 0).f3).length c124_3)) (ds := []) #[false, false, false, false, false, false, false, false, false, false, false, false, false] (by kernel_rfl) rfl rfl ⟨(blk_cell BK122.out 0).trans rfl, (blk_cell BK122.out 1).trans rfl, (blk_cell BK122.out 2).trans rfl, (blk_cell BK122.out 3).trans rfl, ((HB.out.cell (World.block_lt_of_cell? w _ hw124_0)).trans hw124_0), ((HB.out.cell (World.block_lt_of_cell? w _ hw124_1)).trans hw124_1), ((HB.out.cell (World.block_lt_of_cell? w _ hw124_2)).trans hw124_2), ((HB.out.cell (World.block_lt_of_cell? w _ hw124_3)).trans hw124_3)⟩ (fun hHeld => ?_); refine with_tabW arith_show.tab9 arith_show.bits9 (fun HT_ HW_ => ?_)
    generalize w7.drew = w17 at BK122 HB HR124_3 hx124_0 hx124_1 hx124_2 hx124_3 hHeld ⊢
    refine pure_ (i := 0) (N := some 40) (v := ?_) (a' := ?_) #[true, false, false, false, false, false, false, false, false, false, false, false, false] rfl rfl (any_of HT_.out (by kernel_rfl)) (fun _ _ _ h => h) (Or.inl ⟨by rfl, ?_⟩) ?_ ?_
    rotate_left
    ·intro w'
     go_simp
     with_reducible rfl
    rotate_left
    ·simp only [Act.put, List.setIfInBounds_toArray, List.set_cons_zero, List.set_cons_succ, i64_w, i32_w]
     rfl
    refine pure_ (i := 3) (N := some 43) (v := ?_) (a' := ?_) #[true, false, false, true, false, false, false, false, false, false, false, false, false] rfl rfl (any_of HT_.out (by kernel_rfl)) (fun _ _ _ h => h) (Or.inl ⟨by rfl, ?_⟩) ?_ ?_
    rotate_left
    ·intro w'
     go_simp
     with_reducible rfl
    rotate_left
    ·simp only [Act.put, List.setIfInBounds_toArray, List.set_cons_zero, List.set_cons_succ, i64_w, i32_w]
     rfl
    refine pure_ (i := 6) (N := some 46) (v := ?_) (a' := ?_) #[true, false, false, true, false, false, true, false, false, false, false, false, false] rfl rfl (any_of HT_.out (by kernel_rfl)) (fun _ _ _ h => h) (Or.inl ⟨by rfl, ?_⟩) ?_ ?_
    rotate_left
    ·intro w'
     go_simp
     with_reducible rfl
    rotate_left
    ·simp only [Act.put, List.setIfInBounds_toArray, List.set_cons_zero, List.set_cons_succ, i64_w, i32_w]
     rfl
    refine take_ (i := 1) (N := some 41) (v := ?_) (a' := ?_) #[true, true, false, true, false, false, true, false, false, false, false, false, false] rfl rfl (take_ofW HT_.out HW_.out (by kernel_rfl)) (fun _ _ _ h => h) (Or.inl ⟨by rfl, ?_⟩) hHeld ?_ ?_
    rotate_left
    ·rintro w' ⟨s0, s1, s2, s3, s4, s5, s6, s7⟩
     go_simp
     with_reducible rfl
    rotate_left
    ·simp only [Act.put, List.setIfInBounds_toArray, List.set_cons_zero, List.set_cons_succ, i64_w, i32_w]
     rfl
    refine pure_ (i := 2) (N := some 42) (v := ?_) (a' := ?_) #[true, true, true, true, false, false, true, false, false, false, false, false, false] rfl rfl (any_of HT_.out (by kernel_rfl)) (fun _ _ _ h => h) (Or.inl ⟨by rfl, ?_⟩) ?_ ?_
    rotate_left
    ·intro w'
     go_simp
     with_reducible rfl
    rotate_left
    ·simp only [Act.put, List.setIfInBounds_toArray, List.set_cons_zero, List.set_cons_succ, i64_w, i32_w]
     rfl
    refine pure_ (i := 4) (N := some 44) (v := ?_) (a' := ?_) #[true, true, true, true, true, false, true, false, false, false, false, false, false] rfl rfl (any_of HT_.out (by kernel_rfl)) (fun _ _ _ h => h) (Or.inl ⟨by rfl, ?_⟩) ?_ ?_
    rotate_left
    ·intro w'
     go_simp
     with_reducible rfl
    rotate_left
    ·simp only [Act.put, List.setIfInBounds_toArray, List.set_cons_zero, List.set_cons_succ, i64_w, i32_w]
     rfl
    refine pure_ (i := 5) (N := some 45) (v := ?_) (a' := ?_) #[true, true, true, true, true, true, true, false, false, false, false, false, false] rfl rfl (any_of HT_.out (by kernel_rfl)) (fun _ _ _ h => h) (Or.inl ⟨by rfl, ?_⟩) ?_ ?_
    rotate_left
    ·intro w'
     go_simp
     with_reducible rfl
    rotate_left
    ·simp only [Act.put, List.setIfInBounds_toArray, List.set_cons_zero, List.set_cons_succ, i64_w, i32_w]
     rfl
    refine take_ (i := 7) (N := some 47) (v := ?_) (a' := ?_) #[true, true, true, true, true, true, true, true, false, false, false, false, false] rfl rfl (take_ofW HT_.out HW_.out (by kernel_rfl)) (fun _ _ _ h => h) (Or.inl ⟨by rfl, ?_⟩) hHeld ?_ ?_
    rotate_left
    ·rintro w' ⟨s0, s1, s2, s3, s4, s5, s6, s7⟩
     go_simp
     with_reducible rfl
    rotate_left
    ·simp only [Act.put, List.setIfInBounds_toArray, List.set_cons_zero, List.set_cons_succ, i64_w, i32_w]
     rfl
    refine pure_ (i := 8) (N := some 48) (v := ?_) (a' := ?_) #[true, true, true, true, true, true, true, true, true, false, false, false, false] rfl rfl (any_of HT_.out (by kernel_rfl)) (fun _ _ _ h => h) (Or.inl ⟨by rfl, ?_⟩) ?_ ?_
    rotate_left
    ·intro w'
     go_simp
     with_reducible rfl
    rotate_left
    ·simp only [Act.put, List.setIfInBounds_toArray, List.set_cons_zero, List.set_cons_succ, i64_w, i32_w]
     rfl
    refine take_ (i := 9) (N := some 49) (v := ?_) (a' := ?_) #[true, true, true, true, true, true, true, true, true, true, false, false, false] rfl rfl (take_ofW HT_.out HW_.out (by kernel_rfl)) (fun _ _ _ h => h) (Or.inl ⟨by rfl, ?_⟩) hHeld ?_ ?_
    rotate_left
    ·rintro w' ⟨s0, s1, s2, s3, s4, s5, s6, s7⟩
     go_simp
     with_reducible rfl
    rotate_left
    ·simp only [Act.put, List.setIfInBounds_toArray, List.set_cons_zero, List.set_cons_succ, i64_w, i32_w]
     rfl
    refine one_ (i := 10) (N := some 50) #[true, true, true, true, true, true, true, true, true, true, true, false, false] rfl rfl (one_of HT_.out (by kernel_rfl)) (by decide) (fun K hK => ?_)
    refine goes_ Tryd.func52 (by kernel_rfl) rfl #[.agg #[.int .i64 ((rd_T26 l0_3 0).f0), .int .i64 ((rd_T26 l0_3 0).f1), .string ((rd_T26 l0_3 0).f2), .slice A124_3 ((rd_T26 l0_3 0).f3).length c124_3], .int .i64 1] (by rfl) rfl rfl (by (try simp only [List.map_toArray, List.map_cons, List.map_nil]); first | done | rfl | (simp only [List.length_drop, List.length_take]; rfl)) ?_
    with_reducible refine (ih k (by omega) ((rd_T26 l0_3 0).f0) ((rd_T26 l0_3 0).f1) ((rd_T26 l0_3 0).f2) _ _ ((rd_T26 l0_3 0).f3) 1 t125 _ ?side1 ?side2 A14.out).mono ?_
    (case side1 => repeat (first | exact (Kd.C_below HR124_3.out HB.out) | (with_reducible refine Kd.C_alloc ?_ _) | (with_reducible refine Kd.C_drewN ?_ _) | (with_reducible refine Kd.C_drew ?_)))
    (case side2 => exact HC124_3.out)
    rintro e w18 ⟨rfl, hb⟩
    refine ⟨_, rfl, ?_⟩
    have n0_ := Aside0.mk (blk_below (g := gb122) (o := .cells #[.int .i64 a0_0, .int .i64 a0_1, .string a0_2, .slice (some ad124) l0_3.length c0_3] 26 (0, 0)) (by (with_reducible repeat (first | refine blk_drewN ?_ _ | refine blk_drew ?_ | refine blk_alloc ?_ _)); exact BK122.out) hb)
    have n1_ := Aside0.mk (below_step (by repeat (first | (with_reducible first | exact HB.out | apply below_alloc | apply pw_below_drewN | apply below_drew1 | refine below_set ?_ GE122.out) | exact HB.out)) hb)
    clear BK122
    clear HB
    have BK122 := n0_
    have HB := n1_
    clear n0_ n1_
    (try clear hb)
    (try clear hb2)
    (try clear hk)
    (try clear hi)
    refine hK.out _ _ ⟨(blk_cell BK122.out 0).trans rfl, (blk_cell BK122.out 1).trans rfl, (blk_cell BK122.out 2).trans rfl, (blk_cell BK122.out 3).trans rfl, ((HB.out.cell (World.block_lt_of_cell? w _ hw124_0)).trans hw124_0), ((HB.out.cell (World.block_lt_of_cell? w _ hw124_1)).trans hw124_1), ((HB.out.cell (World.block_lt_of_cell? w _ hw124_2)).trans hw124_2), ((HB.out.cell (World.block_lt_of_cell? w _ hw124_3)).trans hw124_3)⟩ (fun hHeld => ?_)
    clear hK K
    refine norm_ (a' := ?_) ?_ ?_
    rotate_left
    ·show Act.put _ (some 50) _ = _
     simp only [Act.put, List.setIfInBounds_toArray, List.set_cons_zero, List.set_cons_succ, i64_w, i32_w]
     rfl
    refine pure_ (i := 11) (N := some 51) (v := ?_) (a' := ?_) #[true, true, true, true, true, true, true, true, true, true, true, true, false] rfl rfl (any_of HT_.out (by kernel_rfl)) (fun _ _ _ h => h) (Or.inl ⟨by rfl, ?_⟩) ?_ ?_
    rotate_left
    ·intro w'
     go_simp
     with_reducible rfl
    rotate_left
    ·simp only [Act.put, List.setIfInBounds_toArray, List.set_cons_zero, List.set_cons_succ, i64_w, i32_w]
     rfl
    refine pure_ (i := 12) (N := some 6) (v := ?_) (a' := ?_) #[true, true, true, true, true, true, true, true, true, true, true, true, true] rfl rfl (any_of HT_.out (by kernel_rfl)) (fun _ _ _ h => h) (Or.inl ⟨by rfl, ?_⟩) ?_ ?_
    rotate_left
    ·intro w'
     go_simp
     with_reducible rfl
    rotate_left
    ·simp only [Act.put, List.setIfInBounds_toArray, List.set_cons_zero, List.set_cons_succ, i64_w, i32_w]
     rfl
    refine done_ (done_of HT_.out (by kernel_rfl)) ?_
    try go_wp2
    go_meet
    case rel => exact ⟨_, ((((a0_2 ++ (⟨#[32]⟩ : ByteArray)) ++ (⟨#[]⟩ : ByteArray)) ++ (⟨#[61, 32]⟩ : ByteArray)) ++ t125), (by first | rfl | (simp; done) | (simp [*]; done)), H', ⟨by first | omega | exact Nat.le_refl _⟩, ⟨by (with_reducible repeat (first | refine blk_drewN ?_ _ | refine blk_drew ?_ | refine blk_alloc ?_ _)); exact BK122.out⟩, ⟨by repeat (first | (with_reducible first | exact HB.out | apply below_alloc | apply pw_below_drewN | apply below_drew1 | refine below_set ?_ GE122.out) | exact HB.out)⟩⟩
   rw [if_neg c9] at H
   have c9b0 : (a0_1 == 0) = false := beq_eq_false_iff_ne.mpr c9
   have c9b1 : (a0_1 != 0) = true := bne_iff_ne.mpr c9
   replace H := Option.bind_eq_some_iff.mp H
   obtain ⟨t126, A190, H⟩ := H
   try dsimp only at H
   have A19 := Aside0.mk A190
   clear A190
   by_cases c20 : a0_2.size + 1 ≤ 9223372036854775807
   rotate_left
   ·rw [if_neg c20] at H
    exact absurd H (by simp)
   rw [if_pos c20] at H
   have c20b0 := eq_true c20
   have c20b1 : decide (a0_2.size + 1 ≤ 9223372036854775807) = true := decide_eq_true c20
   try have c20b2 : (9223372036854775807 < a0_2.size + 1) = False := eq_false (Nat.not_lt.2 c20)
   by_cases c21 : (a0_2 ++ (⟨#[32]⟩ : ByteArray)).size + t126.size ≤ 9223372036854775807
   rotate_left
   ·rw [if_neg c21] at H
    exact absurd H (by simp)
   rw [if_pos c21] at H
   have c21b0 := eq_true c21
   have c21b1 : decide ((a0_2 ++ (⟨#[32]⟩ : ByteArray)).size + t126.size ≤ 9223372036854775807) = true := decide_eq_true c21
   try have c21b2 : (9223372036854775807 < (a0_2 ++ (⟨#[32]⟩ : ByteArray)).size + t126.size) = False := eq_false (Nat.not_lt.2 c21)
   try have c21b3 := c21b2
   try simp only [ByteArray.size_append, show (⟨#[32]⟩ : ByteArray).size = 1 from rfl, Nat.zero_add, Nat.add_zero] at c21b3
   by_cases c22 : ((a0_2 ++ (⟨#[32]⟩ : ByteArray)) ++ t126).size + 2 ≤ 9223372036854775807
   rotate_left
   ·rw [if_neg c22] at H
    exact absurd H (by simp)
   rw [if_pos c22] at H
   have c22b0 := eq_true c22
   have c22b1 : decide (((a0_2 ++ (⟨#[32]⟩ : ByteArray)) ++ t126).size + 2 ≤ 9223372036854775807) = true := decide_eq_true c22
   try have c22b2 : (9223372036854775807 < ((a0_2 ++ (⟨#[32]⟩ : ByteArray)) ++ t126).size + 2) = False := eq_false (Nat.not_lt.2 c22)
   try have c22b3 := c22b2
   try simp only [ByteArray.size_append, show (⟨#[32]⟩ : ByteArray).size = 1 from rfl, Nat.zero_add, Nat.add_zero] at c22b3
   by_cases c23 : 0 < (l0_3.length : Int)
   rotate_left
   ·rw [if_neg c23] at H
    exact absurd H (by simp)
   rw [if_pos c23] at H
   have c23b0 : decide (0 < (l0_3.length : Int)) = true := decide_eq_true c23
   have c23b1 : decide (0 < l0_3.length) = true := decide_eq_true (by omega)
   clear c23
   replace H := Option.bind_eq_some_iff.mp H
   obtain ⟨t128, A240, H⟩ := H
   try dsimp only at H
   have A24 := Aside0.mk A240
   clear A240
   by_cases c25 : (((a0_2 ++ (⟨#[32]⟩ : ByteArray)) ++ t126) ++ (⟨#[61, 32]⟩ : ByteArray)).size + t128.size ≤ 9223372036854775807
   rotate_left
   ·rw [if_neg c25] at H
    exact absurd H (by simp)
   rw [if_pos c25] at H
   have c25b0 := eq_true c25
   have c25b1 : decide ((((a0_2 ++ (⟨#[32]⟩ : ByteArray)) ++ t126) ++ (⟨#[61, 32]⟩ : ByteArray)).size + t128.size ≤ 9223372036854775807) = true := decide_eq_true c25
   try have c25b2 : (9223372036854775807 < (((a0_2 ++ (⟨#[32]⟩ : ByteArray)) ++ t126) ++ (⟨#[61, 32]⟩ : ByteArray)).size + t128.size) = False := eq_false (Nat.not_lt.2 c25)
   try have c25b3 := c25b2
   try simp only [ByteArray.size_append, show (⟨#[32]⟩ : ByteArray).size = 1 from rfl, show (⟨#[61, 32]⟩ : ByteArray).size = 2 from rfl, Nat.zero_add, Nat.add_zero] at c25b3
   have H' := Aside0.mk H
   clear H
   have hcz26_0 : w7.cell? ⟨gb122, 0, none⟩ = some (.int .i64 a0_0) := (blk_cell BK122.out 0).trans rfl
   have hcz26_1 : w7.cell? ⟨gb122, 1, none⟩ = some (.int .i64 a0_1) := (blk_cell BK122.out 1).trans rfl
   have hcz26_2 : w7.cell? ⟨gb122, 2, none⟩ = some (.string a0_2) := (blk_cell BK122.out 2).trans rfl
   have hcz26_3 : w7.cell? ⟨gb122, 3, none⟩ = some (.slice A0_3 l0_3.length c0_3) := (blk_cell BK122.out 3).trans rfl
   have hfz26_0 := blk_frozen BK122.out 0
   have hfz26_1 := blk_frozen BK122.out 1
   have hfz26_2 := blk_frozen BK122.out 2
   have hfz26_3 := blk_frozen BK122.out 3
   try go_wp2_with (first | ((with_reducible refine gate_callee (f := 80) rfl ?_); refine goesL_ (some 39) rfl rfl Tryd.func80 (by kernel_rfl) rfl #[.int .i64 a0_1] rfl (by (try simp only [List.map_toArray, List.map_cons, List.map_nil]); first | done | rfl | (simp only [List.length_drop, List.length_take]; rfl)) ?_; (with_reducible refine (arith_sign.calls a0_1 t126 _ A19.out).mono ?_); rintro e w27 ⟨rfl, hb⟩; refine ⟨_, rfl, ?_⟩; have n0_ := Aside0.mk (blk_below (g := gb122) (o := .cells #[.int .i64 a0_0, .int .i64 a0_1, .string a0_2, .slice A0_3 l0_3.length c0_3] 26 (0, 0)) (by (with_reducible repeat (first | refine blk_drewN ?_ _ | refine blk_drew ?_ | refine blk_alloc ?_ _)); exact BK122.out) hb); have n1_ := Aside0.mk (below_step (by repeat (first | (with_reducible first | exact HB.out | apply below_alloc | apply pw_below_drewN | apply below_drew1 | refine below_set ?_ GE122.out) | exact HB.out)) hb); clear BK122; clear HB; have BK122 := n0_; have HB := n1_; clear n0_ n1_; (try clear hb); (try clear hb2); (try clear hk); (try clear hi)))
   have n0_ := Aside0.mk (blk_drew BK122.out)
   have n1_ := Aside0.mk (below_drew1 HB.out)
   clear BK122
   clear HB
   have BK122 := n0_
   have HB := n1_
   clear n0_ n1_
   have p127 : 0 ≤ (0 : Int) := (by omega)
   have q127 : 0 < (l0_3.length : Int) := of_decide_eq_true (by first | (with_reducible assumption) | assumption)
   obtain ⟨ad127, A127_3, c127_3, e127, hx127_0, hx127_1, hx127_2, hx127_3, hl127_3, hi127_3⟩ := at_T26 HR0_3.out 0 p127 q127
   have hw127_3 := hx127_3
   (try rw [show ((0 : Int)).toNat = 0 from rfl] at hw127_3)
   (try rw [show 0 * 4 = 0 from rfl] at hw127_3)
   (try rw [Addr.add_zero'] at hw127_3)
   have hw127_2 := hx127_2
   (try rw [show ((0 : Int)).toNat = 0 from rfl] at hw127_2)
   (try rw [show 0 * 4 = 0 from rfl] at hw127_2)
   (try rw [Addr.add_zero'] at hw127_2)
   have hw127_1 := hx127_1
   (try rw [show ((0 : Int)).toNat = 0 from rfl] at hw127_1)
   (try rw [show 0 * 4 = 0 from rfl] at hw127_1)
   (try rw [Addr.add_zero'] at hw127_1)
   have hw127_0 := hx127_0
   (try rw [show ((0 : Int)).toNat = 0 from rfl] at hw127_0)
   (try rw [show 0 * 4 = 0 from rfl] at hw127_0)
   (try rw [Addr.add_zero'] at hw127_0)
   cases e127
   have qi127 : (0 < l0_3.length) = True := eq_true (by omega)
   (try rw [show ((0 : Int)).toNat = 0 from rfl] at hx127_0)
   (try rw [show 0 * 4 = 0 from rfl] at hx127_0)
   (try rw [Addr.add_zero'] at hx127_0)
   (try rw [show ((0 : Int)).toNat = 0 from rfl] at hx127_1)
   (try rw [show 0 * 4 = 0 from rfl] at hx127_1)
   (try rw [Addr.add_zero'] at hx127_1)
   (try rw [show ((0 : Int)).toNat = 0 from rfl] at hx127_2)
   (try rw [show 0 * 4 = 0 from rfl] at hx127_2)
   (try rw [Addr.add_zero'] at hx127_2)
   (try rw [show ((0 : Int)).toNat = 0 from rfl] at hx127_3)
   (try rw [show 0 * 4 = 0 from rfl] at hx127_3)
   (try rw [Addr.add_zero'] at hx127_3)
   replace hx127_0 := (HB.out.cell (World.block_lt_of_cell? w _ hx127_0)).trans hx127_0
   replace hx127_1 := (HB.out.cell (World.block_lt_of_cell? w _ hx127_1)).trans hx127_1
   replace hx127_2 := (HB.out.cell (World.block_lt_of_cell? w _ hx127_2)).trans hx127_2
   replace hx127_3 := (HB.out.cell (World.block_lt_of_cell? w _ hx127_3)).trans hx127_3
   have HR127_3 := Aside0.mk hi127_3
   have HC127_3 := Aside0.mk hl127_3
   clear hi127_3 hl127_3
   replace p127 := eq_true p127
   replace q127 := eq_true q127
   refine start_ (n := 13) (S := fun w' => w'.cell? ⟨gb122, 0, none⟩ = some (.int .i64 a0_0) ∧ w'.cell? ⟨gb122, 1, none⟩ = some (.int .i64 a0_1) ∧ w'.cell? ⟨gb122, 2, none⟩ = some (.string a0_2) ∧ w'.cell? ⟨gb122, 3, none⟩ = some (.slice (some ad127) l0_3.length c0_3) ∧ w'.cell? ad127 = some (.int .i64 ((rd_T26 l0_3 0).f0)) ∧ w'.cell? ⟨ad127.block, ad127.off + 1, none⟩ = some (.int .i64 ((rd_T26 l0_3 0).f1)) ∧ w'.cell? ⟨ad127.block, ad127.off + 2, none⟩ = some (.string ((rd_T26 l0_3 0).f2)) ∧ w'.cell? ⟨ad127.block, ad127.off + 3, none⟩ = some (.slice A127_3 ((rd_T26 l0_3 0).f3).length c127_3)) (ds := []) #[false, false, false, false, false, false, false, false, false, false, false, false, false] (by kernel_rfl) rfl rfl ⟨(blk_cell BK122.out 0).trans rfl, (blk_cell BK122.out 1).trans rfl, (blk_cell BK122.out 2).trans rfl, (blk_cell BK122.out 3).trans rfl, ((HB.out.cell (World.block_lt_of_cell? w _ hw127_0)).trans hw127_0), ((HB.out.cell (World.block_lt_of_cell? w _ hw127_1)).trans hw127_1), ((HB.out.cell (World.block_lt_of_cell? w _ hw127_2)).trans hw127_2), ((HB.out.cell (World.block_lt_of_cell? w _ hw127_3)).trans hw127_3)⟩ (fun hHeld => ?_); refine with_tabW arith_show.tab9 arith_show.bits9 (fun HT_ HW_ => ?_)
   generalize w27.drew = w28 at BK122 HB HR127_3 hx127_0 hx127_1 hx127_2 hx127_3 hHeld ⊢
   refine pure_ (i := 0) (N := some 40) (v := ?_) (a' := ?_) #[true, false, false, false, false, false, false, false, false, false, false, false, false] rfl rfl (any_of HT_.out (by kernel_rfl)) (fun _ _ _ h => h) (Or.inl ⟨by rfl, ?_⟩) ?_ ?_
   rotate_left
   ·intro w'
    go_simp
    with_reducible rfl
   rotate_left
   ·simp only [Act.put, List.setIfInBounds_toArray, List.set_cons_zero, List.set_cons_succ, i64_w, i32_w]
    rfl
   refine pure_ (i := 3) (N := some 43) (v := ?_) (a' := ?_) #[true, false, false, true, false, false, false, false, false, false, false, false, false] rfl rfl (any_of HT_.out (by kernel_rfl)) (fun _ _ _ h => h) (Or.inl ⟨by rfl, ?_⟩) ?_ ?_
   rotate_left
   ·intro w'
    go_simp
    with_reducible rfl
   rotate_left
   ·simp only [Act.put, List.setIfInBounds_toArray, List.set_cons_zero, List.set_cons_succ, i64_w, i32_w]
    rfl
   refine pure_ (i := 6) (N := some 46) (v := ?_) (a' := ?_) #[true, false, false, true, false, false, true, false, false, false, false, false, false] rfl rfl (any_of HT_.out (by kernel_rfl)) (fun _ _ _ h => h) (Or.inl ⟨by rfl, ?_⟩) ?_ ?_
   rotate_left
   ·intro w'
    go_simp
    with_reducible rfl
   rotate_left
   ·simp only [Act.put, List.setIfInBounds_toArray, List.set_cons_zero, List.set_cons_succ, i64_w, i32_w]
    rfl
   refine take_ (i := 1) (N := some 41) (v := ?_) (a' := ?_) #[true, true, false, true, false, false, true, false, false, false, false, false, false] rfl rfl (take_ofW HT_.out HW_.out (by kernel_rfl)) (fun _ _ _ h => h) (Or.inl ⟨by rfl, ?_⟩) hHeld ?_ ?_
   rotate_left
   ·rintro w' ⟨s0, s1, s2, s3, s4, s5, s6, s7⟩
    go_simp
    with_reducible rfl
   rotate_left
   ·simp only [Act.put, List.setIfInBounds_toArray, List.set_cons_zero, List.set_cons_succ, i64_w, i32_w]
    rfl
   refine pure_ (i := 2) (N := some 42) (v := ?_) (a' := ?_) #[true, true, true, true, false, false, true, false, false, false, false, false, false] rfl rfl (any_of HT_.out (by kernel_rfl)) (fun _ _ _ h => h) (Or.inl ⟨by rfl, ?_⟩) ?_ ?_
   rotate_left
   ·intro w'
    go_simp
    with_reducible rfl
   rotate_left
   ·simp only [Act.put, List.setIfInBounds_toArray, List.set_cons_zero, List.set_cons_succ, i64_w, i32_w]
    rfl
   refine pure_ (i := 4) (N := some 44) (v := ?_) (a' := ?_) #[true, true, true, true, true, false, true, false, false, false, false, false, false] rfl rfl (any_of HT_.out (by kernel_rfl)) (fun _ _ _ h => h) (Or.inl ⟨by rfl, ?_⟩) ?_ ?_
   rotate_left
   ·intro w'
    go_simp
    with_reducible rfl
   rotate_left
   ·simp only [Act.put, List.setIfInBounds_toArray, List.set_cons_zero, List.set_cons_succ, i64_w, i32_w]
    rfl
   refine pure_ (i := 5) (N := some 45) (v := ?_) (a' := ?_) #[true, true, true, true, true, true, true, false, false, false, false, false, false] rfl rfl (any_of HT_.out (by kernel_rfl)) (fun _ _ _ h => h) (Or.inl ⟨by rfl, ?_⟩) ?_ ?_
   rotate_left
   ·intro w'
    go_simp
    with_reducible rfl
   rotate_left
   ·simp only [Act.put, List.setIfInBounds_toArray, List.set_cons_zero, List.set_cons_succ, i64_w, i32_w]
    rfl
   refine take_ (i := 7) (N := some 47) (v := ?_) (a' := ?_) #[true, true, true, true, true, true, true, true, false, false, false, false, false] rfl rfl (take_ofW HT_.out HW_.out (by kernel_rfl)) (fun _ _ _ h => h) (Or.inl ⟨by rfl, ?_⟩) hHeld ?_ ?_
   rotate_left
   ·rintro w' ⟨s0, s1, s2, s3, s4, s5, s6, s7⟩
    go_simp
    with_reducible rfl
   rotate_left
   ·simp only [Act.put, List.setIfInBounds_toArray, List.set_cons_zero, List.set_cons_succ, i64_w, i32_w]
    rfl
   refine pure_ (i := 8) (N := some 48) (v := ?_) (a' := ?_) #[true, true, true, true, true, true, true, true, true, false, false, false, false] rfl rfl (any_of HT_.out (by kernel_rfl)) (fun _ _ _ h => h) (Or.inl ⟨by rfl, ?_⟩) ?_ ?_
   rotate_left
   ·intro w'
    go_simp
    with_reducible rfl
   rotate_left
   ·simp only [Act.put, List.setIfInBounds_toArray, List.set_cons_zero, List.set_cons_succ, i64_w, i32_w]
    rfl
   refine take_ (i := 9) (N := some 49) (v := ?_) (a' := ?_) #[true, true, true, true, true, true, true, true, true, true, false, false, false] rfl rfl (take_ofW HT_.out HW_.out (by kernel_rfl)) (fun _ _ _ h => h) (Or.inl ⟨by rfl, ?_⟩) hHeld ?_ ?_
   rotate_left
   ·rintro w' ⟨s0, s1, s2, s3, s4, s5, s6, s7⟩
    go_simp
    with_reducible rfl
   rotate_left
   ·simp only [Act.put, List.setIfInBounds_toArray, List.set_cons_zero, List.set_cons_succ, i64_w, i32_w]
    rfl
   refine one_ (i := 10) (N := some 50) #[true, true, true, true, true, true, true, true, true, true, true, false, false] rfl rfl (one_of HT_.out (by kernel_rfl)) (by decide) (fun K hK => ?_)
   refine goes_ Tryd.func52 (by kernel_rfl) rfl #[.agg #[.int .i64 ((rd_T26 l0_3 0).f0), .int .i64 ((rd_T26 l0_3 0).f1), .string ((rd_T26 l0_3 0).f2), .slice A127_3 ((rd_T26 l0_3 0).f3).length c127_3], .int .i64 1] (by rfl) rfl rfl (by (try simp only [List.map_toArray, List.map_cons, List.map_nil]); first | done | rfl | (simp only [List.length_drop, List.length_take]; rfl)) ?_
   with_reducible refine (ih k (by omega) ((rd_T26 l0_3 0).f0) ((rd_T26 l0_3 0).f1) ((rd_T26 l0_3 0).f2) _ _ ((rd_T26 l0_3 0).f3) 1 t128 _ ?side1 ?side2 A24.out).mono ?_
   (case side1 => repeat (first | exact (Kd.C_below HR127_3.out HB.out) | (with_reducible refine Kd.C_alloc ?_ _) | (with_reducible refine Kd.C_drewN ?_ _) | (with_reducible refine Kd.C_drew ?_)))
   (case side2 => exact HC127_3.out)
   rintro e w29 ⟨rfl, hb⟩
   refine ⟨_, rfl, ?_⟩
   have n0_ := Aside0.mk (blk_below (g := gb122) (o := .cells #[.int .i64 a0_0, .int .i64 a0_1, .string a0_2, .slice (some ad127) l0_3.length c0_3] 26 (0, 0)) (by (with_reducible repeat (first | refine blk_drewN ?_ _ | refine blk_drew ?_ | refine blk_alloc ?_ _)); exact BK122.out) hb)
   have n1_ := Aside0.mk (below_step (by repeat (first | (with_reducible first | exact HB.out | apply below_alloc | apply pw_below_drewN | apply below_drew1 | refine below_set ?_ GE122.out) | exact HB.out)) hb)
   clear BK122
   clear HB
   have BK122 := n0_
   have HB := n1_
   clear n0_ n1_
   (try clear hb)
   (try clear hb2)
   (try clear hk)
   (try clear hi)
   refine hK.out _ _ ⟨(blk_cell BK122.out 0).trans rfl, (blk_cell BK122.out 1).trans rfl, (blk_cell BK122.out 2).trans rfl, (blk_cell BK122.out 3).trans rfl, ((HB.out.cell (World.block_lt_of_cell? w _ hw127_0)).trans hw127_0), ((HB.out.cell (World.block_lt_of_cell? w _ hw127_1)).trans hw127_1), ((HB.out.cell (World.block_lt_of_cell? w _ hw127_2)).trans hw127_2), ((HB.out.cell (World.block_lt_of_cell? w _ hw127_3)).trans hw127_3)⟩ (fun hHeld => ?_)
   clear hK K
   refine norm_ (a' := ?_) ?_ ?_
   rotate_left
   ·show Act.put _ (some 50) _ = _
    simp only [Act.put, List.setIfInBounds_toArray, List.set_cons_zero, List.set_cons_succ, i64_w, i32_w]
    rfl
   refine pure_ (i := 11) (N := some 51) (v := ?_) (a' := ?_) #[true, true, true, true, true, true, true, true, true, true, true, true, false] rfl rfl (any_of HT_.out (by kernel_rfl)) (fun _ _ _ h => h) (Or.inl ⟨by rfl, ?_⟩) ?_ ?_
   rotate_left
   ·intro w'
    go_simp
    with_reducible rfl
   rotate_left
   ·simp only [Act.put, List.setIfInBounds_toArray, List.set_cons_zero, List.set_cons_succ, i64_w, i32_w]
    rfl
   refine pure_ (i := 12) (N := some 6) (v := ?_) (a' := ?_) #[true, true, true, true, true, true, true, true, true, true, true, true, true] rfl rfl (any_of HT_.out (by kernel_rfl)) (fun _ _ _ h => h) (Or.inl ⟨by rfl, ?_⟩) ?_ ?_
   rotate_left
   ·intro w'
    go_simp
    with_reducible rfl
   rotate_left
   ·simp only [Act.put, List.setIfInBounds_toArray, List.set_cons_zero, List.set_cons_succ, i64_w, i32_w]
    rfl
   refine done_ (done_of HT_.out (by kernel_rfl)) ?_
   try go_wp2
   go_meet
   case rel => exact ⟨_, ((((a0_2 ++ (⟨#[32]⟩ : ByteArray)) ++ t126) ++ (⟨#[61, 32]⟩ : ByteArray)) ++ t128), (by first | rfl | (simp; done) | (simp [*]; done)), H', ⟨by first | omega | exact Nat.le_refl _⟩, ⟨by (with_reducible repeat (first | refine blk_drewN ?_ _ | refine blk_drew ?_ | refine blk_alloc ?_ _)); exact BK122.out⟩, ⟨by repeat (first | (with_reducible first | exact HB.out | apply below_alloc | apply pw_below_drewN | apply below_drew1 | refine below_set ?_ GE122.out) | exact HB.out)⟩⟩
  rw [if_neg c8] at H
  have c8b0 : (t123 == 1) = false := beq_eq_false_iff_ne.mpr c8
  have c8b1 : (t123 != 1) = true := bne_iff_ne.mpr c8
  (first | rw [c8b0] | (simp only [i64_w, i32_w]; rw [c8b0]) | skip)
  by_cases c30 : t123 = 2
  ·rw [if_pos c30] at H
   have c30b0 : (t123 == 2) = true := beq_iff_eq.mpr c30
   have c30b1 : (t123 != 2) = false := bne_eq_false_iff_eq.mpr c30
   clear c30
   by_cases c31 : 0 < (l0_3.length : Int)
   rotate_left
   ·rw [if_neg c31] at H
    exact absurd H (by simp)
   rw [if_pos c31] at H
   have c31b0 : decide (0 < (l0_3.length : Int)) = true := decide_eq_true c31
   have c31b1 : decide (0 < l0_3.length) = true := decide_eq_true (by omega)
   clear c31
   replace H := Option.bind_eq_some_iff.mp H
   obtain ⟨t130, A320, H⟩ := H
   try dsimp only at H
   have A32 := Aside0.mk A320
   clear A320
   by_cases c33 : t130.size + 3 ≤ 9223372036854775807
   rotate_left
   ·rw [if_neg c33] at H
    exact absurd H (by simp)
   rw [if_pos c33] at H
   have c33b0 := eq_true c33
   have c33b1 : decide (t130.size + 3 ≤ 9223372036854775807) = true := decide_eq_true c33
   try have c33b2 : (9223372036854775807 < t130.size + 3) = False := eq_false (Nat.not_lt.2 c33)
   by_cases c34 : 1 < (l0_3.length : Int)
   rotate_left
   ·rw [if_neg c34] at H
    exact absurd H (by simp)
   rw [if_pos c34] at H
   have c34b0 : decide (1 < (l0_3.length : Int)) = true := decide_eq_true c34
   have c34b1 : decide (1 < l0_3.length) = true := decide_eq_true (by omega)
   clear c34
   replace H := Option.bind_eq_some_iff.mp H
   obtain ⟨t132, A350, H⟩ := H
   try dsimp only at H
   have A35 := Aside0.mk A350
   clear A350
   by_cases c36 : (t130 ++ (⟨#[32, 63, 32]⟩ : ByteArray)).size + t132.size ≤ 9223372036854775807
   rotate_left
   ·rw [if_neg c36] at H
    exact absurd H (by simp)
   rw [if_pos c36] at H
   have c36b0 := eq_true c36
   have c36b1 : decide ((t130 ++ (⟨#[32, 63, 32]⟩ : ByteArray)).size + t132.size ≤ 9223372036854775807) = true := decide_eq_true c36
   try have c36b2 : (9223372036854775807 < (t130 ++ (⟨#[32, 63, 32]⟩ : ByteArray)).size + t132.size) = False := eq_false (Nat.not_lt.2 c36)
   try have c36b3 := c36b2
   try simp only [ByteArray.size_append, show (⟨#[32, 63, 32]⟩ : ByteArray).size = 3 from rfl, Nat.zero_add, Nat.add_zero] at c36b3
   by_cases c37 : ((t130 ++ (⟨#[32, 63, 32]⟩ : ByteArray)) ++ t132).size + 3 ≤ 9223372036854775807
   rotate_left
   ·rw [if_neg c37] at H
    exact absurd H (by simp)
   rw [if_pos c37] at H
   have c37b0 := eq_true c37
   have c37b1 : decide (((t130 ++ (⟨#[32, 63, 32]⟩ : ByteArray)) ++ t132).size + 3 ≤ 9223372036854775807) = true := decide_eq_true c37
   try have c37b2 : (9223372036854775807 < ((t130 ++ (⟨#[32, 63, 32]⟩ : ByteArray)) ++ t132).size + 3) = False := eq_false (Nat.not_lt.2 c37)
   try have c37b3 := c37b2
   try simp only [ByteArray.size_append, show (⟨#[32, 63, 32]⟩ : ByteArray).size = 3 from rfl, Nat.zero_add, Nat.add_zero] at c37b3
   by_cases c38 : 2 < (l0_3.length : Int)
   rotate_left
   ·rw [if_neg c38] at H
    exact absurd H (by simp)
   rw [if_pos c38] at H
   have c38b0 : decide (2 < (l0_3.length : Int)) = true := decide_eq_true c38
   have c38b1 : decide (2 < l0_3.length) = true := decide_eq_true (by omega)
   clear c38
   replace H := Option.bind_eq_some_iff.mp H
   obtain ⟨t134, A390, H⟩ := H
   try dsimp only at H
   have A39 := Aside0.mk A390
   clear A390
   by_cases c40 : (((t130 ++ (⟨#[32, 63, 32]⟩ : ByteArray)) ++ t132) ++ (⟨#[32, 58, 32]⟩ : ByteArray)).size + t134.size ≤ 9223372036854775807
   rotate_left
   ·rw [if_neg c40] at H
    exact absurd H (by simp)
   rw [if_pos c40] at H
   have c40b0 := eq_true c40
   have c40b1 : decide ((((t130 ++ (⟨#[32, 63, 32]⟩ : ByteArray)) ++ t132) ++ (⟨#[32, 58, 32]⟩ : ByteArray)).size + t134.size ≤ 9223372036854775807) = true := decide_eq_true c40
   try have c40b2 : (9223372036854775807 < (((t130 ++ (⟨#[32, 63, 32]⟩ : ByteArray)) ++ t132) ++ (⟨#[32, 58, 32]⟩ : ByteArray)).size + t134.size) = False := eq_false (Nat.not_lt.2 c40)
   try have c40b3 := c40b2
   try simp only [ByteArray.size_append, show (⟨#[32, 63, 32]⟩ : ByteArray).size = 3 from rfl, show (⟨#[32, 58, 32]⟩ : ByteArray).size = 3 from rfl, Nat.zero_add, Nat.add_zero] at c40b3
   have H' := Aside0.mk H
   clear H
   try go_wp2
   have n0_ := Aside0.mk (blk_drew BK122.out)
   have n1_ := Aside0.mk (below_drew1 HB.out)
   clear BK122
   clear HB
   have BK122 := n0_
   have HB := n1_
   clear n0_ n1_
   have p129 : 0 ≤ (0 : Int) := (by omega)
   have q129 : 0 < (l0_3.length : Int) := of_decide_eq_true (by first | (with_reducible assumption) | assumption)
   obtain ⟨ad129, A129_3, c129_3, e129, hx129_0, hx129_1, hx129_2, hx129_3, hl129_3, hi129_3⟩ := at_T26 HR0_3.out 0 p129 q129
   have hw129_3 := hx129_3
   (try rw [show ((0 : Int)).toNat = 0 from rfl] at hw129_3)
   (try rw [show 0 * 4 = 0 from rfl] at hw129_3)
   (try rw [Addr.add_zero'] at hw129_3)
   have hw129_2 := hx129_2
   (try rw [show ((0 : Int)).toNat = 0 from rfl] at hw129_2)
   (try rw [show 0 * 4 = 0 from rfl] at hw129_2)
   (try rw [Addr.add_zero'] at hw129_2)
   have hw129_1 := hx129_1
   (try rw [show ((0 : Int)).toNat = 0 from rfl] at hw129_1)
   (try rw [show 0 * 4 = 0 from rfl] at hw129_1)
   (try rw [Addr.add_zero'] at hw129_1)
   have hw129_0 := hx129_0
   (try rw [show ((0 : Int)).toNat = 0 from rfl] at hw129_0)
   (try rw [show 0 * 4 = 0 from rfl] at hw129_0)
   (try rw [Addr.add_zero'] at hw129_0)
   cases e129
   have qi129 : (0 < l0_3.length) = True := eq_true (by omega)
   (try rw [show ((0 : Int)).toNat = 0 from rfl] at hx129_0)
   (try rw [show 0 * 4 = 0 from rfl] at hx129_0)
   (try rw [Addr.add_zero'] at hx129_0)
   (try rw [show ((0 : Int)).toNat = 0 from rfl] at hx129_1)
   (try rw [show 0 * 4 = 0 from rfl] at hx129_1)
   (try rw [Addr.add_zero'] at hx129_1)
   (try rw [show ((0 : Int)).toNat = 0 from rfl] at hx129_2)
   (try rw [show 0 * 4 = 0 from rfl] at hx129_2)
   (try rw [Addr.add_zero'] at hx129_2)
   (try rw [show ((0 : Int)).toNat = 0 from rfl] at hx129_3)
   (try rw [show 0 * 4 = 0 from rfl] at hx129_3)
   (try rw [Addr.add_zero'] at hx129_3)
   replace hx129_0 := (HB.out.cell (World.block_lt_of_cell? w _ hx129_0)).trans hx129_0
   replace hx129_1 := (HB.out.cell (World.block_lt_of_cell? w _ hx129_1)).trans hx129_1
   replace hx129_2 := (HB.out.cell (World.block_lt_of_cell? w _ hx129_2)).trans hx129_2
   replace hx129_3 := (HB.out.cell (World.block_lt_of_cell? w _ hx129_3)).trans hx129_3
   have HR129_3 := Aside0.mk hi129_3
   have HC129_3 := Aside0.mk hl129_3
   clear hi129_3 hl129_3
   replace p129 := eq_true p129
   replace q129 := eq_true q129
   have p131 : 0 ≤ (1 : Int) := (by omega)
   have q131 : 1 < (l0_3.length : Int) := of_decide_eq_true (by first | (with_reducible assumption) | assumption)
   obtain ⟨ad131, A131_3, c131_3, e131, hx131_0, hx131_1, hx131_2, hx131_3, hl131_3, hi131_3⟩ := at_T26 HR0_3.out 1 p131 q131
   have hw131_3 := hx131_3
   (try rw [show ((1 : Int)).toNat = 1 from rfl] at hw131_3)
   (try rw [show 1 * 4 = 4 from rfl] at hw131_3)
   (try simp only [Nat.reduceMul, Nat.reduceEqDiff, Go.Addr.add, ↓reduceIte] at hw131_3)
   have hw131_2 := hx131_2
   (try rw [show ((1 : Int)).toNat = 1 from rfl] at hw131_2)
   (try rw [show 1 * 4 = 4 from rfl] at hw131_2)
   (try simp only [Nat.reduceMul, Nat.reduceEqDiff, Go.Addr.add, ↓reduceIte] at hw131_2)
   have hw131_1 := hx131_1
   (try rw [show ((1 : Int)).toNat = 1 from rfl] at hw131_1)
   (try rw [show 1 * 4 = 4 from rfl] at hw131_1)
   (try simp only [Nat.reduceMul, Nat.reduceEqDiff, Go.Addr.add, ↓reduceIte] at hw131_1)
   have hw131_0 := hx131_0
   (try rw [show ((1 : Int)).toNat = 1 from rfl] at hw131_0)
   (try rw [show 1 * 4 = 4 from rfl] at hw131_0)
   (try simp only [Nat.reduceMul, Nat.reduceEqDiff, Go.Addr.add, ↓reduceIte] at hw131_0)
   obtain rfl : ad129 = ad131 := (by injection e131)
   (try simp only [show (1 : Int).toNat = 1 from rfl, Nat.reduceMul, Nat.reduceEqDiff, Go.Addr.add, ↓reduceIte] at hx131_0)
   (try simp only [show (1 : Int).toNat = 1 from rfl, Nat.reduceMul, Nat.reduceEqDiff, Go.Addr.add, ↓reduceIte] at hx131_1)
   (try simp only [show (1 : Int).toNat = 1 from rfl, Nat.reduceMul, Nat.reduceEqDiff, Go.Addr.add, ↓reduceIte] at hx131_2)
   (try simp only [show (1 : Int).toNat = 1 from rfl, Nat.reduceMul, Nat.reduceEqDiff, Go.Addr.add, ↓reduceIte] at hx131_3)
   have qi131 : (1 < l0_3.length) = True := eq_true (by omega)
   (try rw [show ((1 : Int)).toNat = 1 from rfl] at hx131_0)
   (try rw [show 1 * 4 = 4 from rfl] at hx131_0)
   (try rw [show ((1 : Int)).toNat = 1 from rfl] at hx131_1)
   (try rw [show 1 * 4 = 4 from rfl] at hx131_1)
   (try rw [show ((1 : Int)).toNat = 1 from rfl] at hx131_2)
   (try rw [show 1 * 4 = 4 from rfl] at hx131_2)
   (try rw [show ((1 : Int)).toNat = 1 from rfl] at hx131_3)
   (try rw [show 1 * 4 = 4 from rfl] at hx131_3)
   replace hx131_0 := (HB.out.cell (World.block_lt_of_cell? w _ hx131_0)).trans hx131_0
   replace hx131_1 := (HB.out.cell (World.block_lt_of_cell? w _ hx131_1)).trans hx131_1
   replace hx131_2 := (HB.out.cell (World.block_lt_of_cell? w _ hx131_2)).trans hx131_2
   replace hx131_3 := (HB.out.cell (World.block_lt_of_cell? w _ hx131_3)).trans hx131_3
   have HR131_3 := Aside0.mk hi131_3
   have HC131_3 := Aside0.mk hl131_3
   clear hi131_3 hl131_3
   replace p131 := eq_true p131
   replace q131 := eq_true q131
   have p133 : 0 ≤ (2 : Int) := (by omega)
   have q133 : 2 < (l0_3.length : Int) := of_decide_eq_true (by first | (with_reducible assumption) | assumption)
   obtain ⟨ad133, A133_3, c133_3, e133, hx133_0, hx133_1, hx133_2, hx133_3, hl133_3, hi133_3⟩ := at_T26 HR0_3.out 2 p133 q133
   have hw133_3 := hx133_3
   (try rw [show ((2 : Int)).toNat = 2 from rfl] at hw133_3)
   (try rw [show 2 * 4 = 8 from rfl] at hw133_3)
   (try simp only [Nat.reduceMul, Nat.reduceEqDiff, Go.Addr.add, ↓reduceIte] at hw133_3)
   have hw133_2 := hx133_2
   (try rw [show ((2 : Int)).toNat = 2 from rfl] at hw133_2)
   (try rw [show 2 * 4 = 8 from rfl] at hw133_2)
   (try simp only [Nat.reduceMul, Nat.reduceEqDiff, Go.Addr.add, ↓reduceIte] at hw133_2)
   have hw133_1 := hx133_1
   (try rw [show ((2 : Int)).toNat = 2 from rfl] at hw133_1)
   (try rw [show 2 * 4 = 8 from rfl] at hw133_1)
   (try simp only [Nat.reduceMul, Nat.reduceEqDiff, Go.Addr.add, ↓reduceIte] at hw133_1)
   have hw133_0 := hx133_0
   (try rw [show ((2 : Int)).toNat = 2 from rfl] at hw133_0)
   (try rw [show 2 * 4 = 8 from rfl] at hw133_0)
   (try simp only [Nat.reduceMul, Nat.reduceEqDiff, Go.Addr.add, ↓reduceIte] at hw133_0)
   obtain rfl : ad129 = ad133 := (by injection e133)
   (try simp only [show (2 : Int).toNat = 2 from rfl, Nat.reduceMul, Nat.reduceEqDiff, Go.Addr.add, ↓reduceIte] at hx133_0)
   (try simp only [show (2 : Int).toNat = 2 from rfl, Nat.reduceMul, Nat.reduceEqDiff, Go.Addr.add, ↓reduceIte] at hx133_1)
   (try simp only [show (2 : Int).toNat = 2 from rfl, Nat.reduceMul, Nat.reduceEqDiff, Go.Addr.add, ↓reduceIte] at hx133_2)
   (try simp only [show (2 : Int).toNat = 2 from rfl, Nat.reduceMul, Nat.reduceEqDiff, Go.Addr.add, ↓reduceIte] at hx133_3)
   have qi133 : (2 < l0_3.length) = True := eq_true (by omega)
   (try rw [show ((2 : Int)).toNat = 2 from rfl] at hx133_0)
   (try rw [show 2 * 4 = 8 from rfl] at hx133_0)
   (try rw [show ((2 : Int)).toNat = 2 from rfl] at hx133_1)
   (try rw [show 2 * 4 = 8 from rfl] at hx133_1)
   (try rw [show ((2 : Int)).toNat = 2 from rfl] at hx133_2)
   (try rw [show 2 * 4 = 8 from rfl] at hx133_2)
   (try rw [show ((2 : Int)).toNat = 2 from rfl] at hx133_3)
   (try rw [show 2 * 4 = 8 from rfl] at hx133_3)
   replace hx133_0 := (HB.out.cell (World.block_lt_of_cell? w _ hx133_0)).trans hx133_0
   replace hx133_1 := (HB.out.cell (World.block_lt_of_cell? w _ hx133_1)).trans hx133_1
   replace hx133_2 := (HB.out.cell (World.block_lt_of_cell? w _ hx133_2)).trans hx133_2
   replace hx133_3 := (HB.out.cell (World.block_lt_of_cell? w _ hx133_3)).trans hx133_3
   have HR133_3 := Aside0.mk hi133_3
   have HC133_3 := Aside0.mk hl133_3
   clear hi133_3 hl133_3
   replace p133 := eq_true p133
   replace q133 := eq_true q133
   refine start_ (n := 20) (S := fun w' => w'.cell? ⟨gb122, 0, none⟩ = some (.int .i64 a0_0) ∧ w'.cell? ⟨gb122, 1, none⟩ = some (.int .i64 a0_1) ∧ w'.cell? ⟨gb122, 2, none⟩ = some (.string a0_2) ∧ w'.cell? ⟨gb122, 3, none⟩ = some (.slice (some ad129) l0_3.length c0_3) ∧ w'.cell? ad129 = some (.int .i64 ((rd_T26 l0_3 0).f0)) ∧ w'.cell? ⟨ad129.block, ad129.off + 1, none⟩ = some (.int .i64 ((rd_T26 l0_3 0).f1)) ∧ w'.cell? ⟨ad129.block, ad129.off + 2, none⟩ = some (.string ((rd_T26 l0_3 0).f2)) ∧ w'.cell? ⟨ad129.block, ad129.off + 3, none⟩ = some (.slice A129_3 ((rd_T26 l0_3 0).f3).length c129_3) ∧ w'.cell? ⟨ad129.block, ad129.off + 4, none⟩ = some (.int .i64 ((rd_T26 l0_3 1).f0)) ∧ w'.cell? ⟨ad129.block, ad129.off + 4 + 1, none⟩ = some (.int .i64 ((rd_T26 l0_3 1).f1)) ∧ w'.cell? ⟨ad129.block, ad129.off + 4 + 2, none⟩ = some (.string ((rd_T26 l0_3 1).f2)) ∧ w'.cell? ⟨ad129.block, ad129.off + 4 + 3, none⟩ = some (.slice A131_3 ((rd_T26 l0_3 1).f3).length c131_3) ∧ w'.cell? ⟨ad129.block, ad129.off + 8, none⟩ = some (.int .i64 ((rd_T26 l0_3 2).f0)) ∧ w'.cell? ⟨ad129.block, ad129.off + 8 + 1, none⟩ = some (.int .i64 ((rd_T26 l0_3 2).f1)) ∧ w'.cell? ⟨ad129.block, ad129.off + 8 + 2, none⟩ = some (.string ((rd_T26 l0_3 2).f2)) ∧ w'.cell? ⟨ad129.block, ad129.off + 8 + 3, none⟩ = some (.slice A133_3 ((rd_T26 l0_3 2).f3).length c133_3)) (ds := []) #[false, false, false, false, false, false, false, false, false, false, false, false, false, false, false, false, false, false, false, false] (by kernel_rfl) rfl rfl ⟨(blk_cell BK122.out 0).trans rfl, (blk_cell BK122.out 1).trans rfl, (blk_cell BK122.out 2).trans rfl, (blk_cell BK122.out 3).trans rfl, ((HB.out.cell (World.block_lt_of_cell? w _ hw129_0)).trans hw129_0), ((HB.out.cell (World.block_lt_of_cell? w _ hw129_1)).trans hw129_1), ((HB.out.cell (World.block_lt_of_cell? w _ hw129_2)).trans hw129_2), ((HB.out.cell (World.block_lt_of_cell? w _ hw129_3)).trans hw129_3), ((HB.out.cell (World.block_lt_of_cell? w _ hw131_0)).trans hw131_0), ((HB.out.cell (World.block_lt_of_cell? w _ hw131_1)).trans hw131_1), ((HB.out.cell (World.block_lt_of_cell? w _ hw131_2)).trans hw131_2), ((HB.out.cell (World.block_lt_of_cell? w _ hw131_3)).trans hw131_3), ((HB.out.cell (World.block_lt_of_cell? w _ hw133_0)).trans hw133_0), ((HB.out.cell (World.block_lt_of_cell? w _ hw133_1)).trans hw133_1), ((HB.out.cell (World.block_lt_of_cell? w _ hw133_2)).trans hw133_2), ((HB.out.cell (World.block_lt_of_cell? w _ hw133_3)).trans hw133_3)⟩ (fun hHeld => ?_); refine with_tabW arith_show.tab11 arith_show.bits11 (fun HT_ HW_ => ?_)
   generalize w7.drew = w41 at BK122 HB HR129_3 HR131_3 HR133_3 hx129_0 hx129_1 hx129_2 hx129_3 hx131_0 hx131_1 hx131_2 hx131_3 hx133_0 hx133_1 hx133_2 hx133_3 hHeld ⊢
   refine pure_ (i := 0) (N := some 54) (v := ?_) (a' := ?_) #[true, false, false, false, false, false, false, false, false, false, false, false, false, false, false, false, false, false, false, false] rfl rfl (any_of HT_.out (by kernel_rfl)) (fun _ _ _ h => h) (Or.inl ⟨by rfl, ?_⟩) ?_ ?_
   rotate_left
   ·intro w'
    go_simp
    with_reducible rfl
   rotate_left
   ·simp only [Act.put, List.setIfInBounds_toArray, List.set_cons_zero, List.set_cons_succ, i64_w, i32_w]
    rfl
   refine pure_ (i := 6) (N := some 60) (v := ?_) (a' := ?_) #[true, false, false, false, false, false, true, false, false, false, false, false, false, false, false, false, false, false, false, false] rfl rfl (any_of HT_.out (by kernel_rfl)) (fun _ _ _ h => h) (Or.inl ⟨by rfl, ?_⟩) ?_ ?_
   rotate_left
   ·intro w'
    go_simp
    with_reducible rfl
   rotate_left
   ·simp only [Act.put, List.setIfInBounds_toArray, List.set_cons_zero, List.set_cons_succ, i64_w, i32_w]
    rfl
   refine pure_ (i := 13) (N := some 67) (v := ?_) (a' := ?_) #[true, false, false, false, false, false, true, false, false, false, false, false, false, true, false, false, false, false, false, false] rfl rfl (any_of HT_.out (by kernel_rfl)) (fun _ _ _ h => h) (Or.inl ⟨by rfl, ?_⟩) ?_ ?_
   rotate_left
   ·intro w'
    go_simp
    with_reducible rfl
   rotate_left
   ·simp only [Act.put, List.setIfInBounds_toArray, List.set_cons_zero, List.set_cons_succ, i64_w, i32_w]
    rfl
   refine take_ (i := 1) (N := some 55) (v := ?_) (a' := ?_) #[true, true, false, false, false, false, true, false, false, false, false, false, false, true, false, false, false, false, false, false] rfl rfl (take_ofW HT_.out HW_.out (by kernel_rfl)) (fun _ _ _ h => h) (Or.inl ⟨by rfl, ?_⟩) hHeld ?_ ?_
   rotate_left
   ·rintro w' ⟨s0, s1, s2, s3, s4, s5, s6, s7, s8, s9, s10, s11, s12, s13, s14, s15⟩
    go_simp
    with_reducible rfl
   rotate_left
   ·simp only [Act.put, List.setIfInBounds_toArray, List.set_cons_zero, List.set_cons_succ, i64_w, i32_w]
    rfl
   refine pure_ (i := 2) (N := some 56) (v := ?_) (a' := ?_) #[true, true, true, false, false, false, true, false, false, false, false, false, false, true, false, false, false, false, false, false] rfl rfl (any_of HT_.out (by kernel_rfl)) (fun _ _ _ h => h) (Or.inl ⟨by rfl, ?_⟩) ?_ ?_
   rotate_left
   ·intro w'
    go_simp
    with_reducible rfl
   rotate_left
   ·simp only [Act.put, List.setIfInBounds_toArray, List.set_cons_zero, List.set_cons_succ, i64_w, i32_w]
    rfl
   refine take_ (i := 3) (N := some 57) (v := ?_) (a' := ?_) #[true, true, true, true, false, false, true, false, false, false, false, false, false, true, false, false, false, false, false, false] rfl rfl (take_ofW HT_.out HW_.out (by kernel_rfl)) (fun _ _ _ h => h) (Or.inl ⟨by rfl, ?_⟩) hHeld ?_ ?_
   rotate_left
   ·rintro w' ⟨s0, s1, s2, s3, s4, s5, s6, s7, s8, s9, s10, s11, s12, s13, s14, s15⟩
    go_simp
    with_reducible rfl
   rotate_left
   ·simp only [Act.put, List.setIfInBounds_toArray, List.set_cons_zero, List.set_cons_succ, i64_w, i32_w]
    rfl
   refine take_ (i := 7) (N := some 61) (v := ?_) (a' := ?_) #[true, true, true, true, false, false, true, true, false, false, false, false, false, true, false, false, false, false, false, false] rfl rfl (take_ofW HT_.out HW_.out (by kernel_rfl)) (fun _ _ _ h => h) (Or.inl ⟨by rfl, ?_⟩) hHeld ?_ ?_
   rotate_left
   ·rintro w' ⟨s0, s1, s2, s3, s4, s5, s6, s7, s8, s9, s10, s11, s12, s13, s14, s15⟩
    go_simp
    with_reducible rfl
   rotate_left
   ·simp only [Act.put, List.setIfInBounds_toArray, List.set_cons_zero, List.set_cons_succ, i64_w, i32_w]
    rfl
   refine pure_ (i := 8) (N := some 62) (v := ?_) (a' := ?_) #[true, true, true, true, false, false, true, true, true, false, false, false, false, true, false, false, false, false, false, false] rfl rfl (any_of HT_.out (by kernel_rfl)) (fun _ _ _ h => h) (Or.inl ⟨by rfl, ?_⟩) ?_ ?_
   rotate_left
   ·intro w'
    go_simp
    with_reducible rfl
   rotate_left
   ·simp only [Act.put, List.setIfInBounds_toArray, List.set_cons_zero, List.set_cons_succ, i64_w, i32_w]
    rfl
   refine take_ (i := 9) (N := some 63) (v := ?_) (a' := ?_) #[true, true, true, true, false, false, true, true, true, true, false, false, false, true, false, false, false, false, false, false] rfl rfl (take_ofW HT_.out HW_.out (by kernel_rfl)) (fun _ _ _ h => h) (Or.inl ⟨by rfl, ?_⟩) hHeld ?_ ?_
   rotate_left
   ·rintro w' ⟨s0, s1, s2, s3, s4, s5, s6, s7, s8, s9, s10, s11, s12, s13, s14, s15⟩
    go_simp
    with_reducible rfl
   rotate_left
   ·simp only [Act.put, List.setIfInBounds_toArray, List.set_cons_zero, List.set_cons_succ, i64_w, i32_w]
    rfl
   refine take_ (i := 14) (N := some 68) (v := ?_) (a' := ?_) #[true, true, true, true, false, false, true, true, true, true, false, false, false, true, true, false, false, false, false, false] rfl rfl (take_ofW HT_.out HW_.out (by kernel_rfl)) (fun _ _ _ h => h) (Or.inl ⟨by rfl, ?_⟩) hHeld ?_ ?_
   rotate_left
   ·rintro w' ⟨s0, s1, s2, s3, s4, s5, s6, s7, s8, s9, s10, s11, s12, s13, s14, s15⟩
    go_simp
    with_reducible rfl
   rotate_left
   ·simp only [Act.put, List.setIfInBounds_toArray, List.set_cons_zero, List.set_cons_succ, i64_w, i32_w]
    rfl
   refine pure_ (i := 15) (N := some 69) (v := ?_) (a' := ?_) #[true, true, true, true, false, false, true, true, true, true, false, false, false, true, true, true, false, false, false, false] rfl rfl (any_of HT_.out (by kernel_rfl)) (fun _ _ _ h => h) (Or.inl ⟨by rfl, ?_⟩) ?_ ?_
   rotate_left
   ·intro w'
    go_simp
    with_reducible rfl
   rotate_left
   ·simp only [Act.put, List.setIfInBounds_toArray, List.set_cons_zero, List.set_cons_succ, i64_w, i32_w]
    rfl
   refine take_ (i := 16) (N := some 70) (v := ?_) (a' := ?_) #[true, true, true, true, false, false, true, true, true, true, false, false, false, true, true, true, true, false, false, false] rfl rfl (take_ofW HT_.out HW_.out (by kernel_rfl)) (fun _ _ _ h => h) (Or.inl ⟨by rfl, ?_⟩) hHeld ?_ ?_
   rotate_left
   ·rintro w' ⟨s0, s1, s2, s3, s4, s5, s6, s7, s8, s9, s10, s11, s12, s13, s14, s15⟩
    go_simp
    with_reducible rfl
   rotate_left
   ·simp only [Act.put, List.setIfInBounds_toArray, List.set_cons_zero, List.set_cons_succ, i64_w, i32_w]
    rfl
   refine one_ (i := 4) (N := some 58) #[true, true, true, true, true, false, true, true, true, true, false, false, false, true, true, true, true, false, false, false] rfl rfl (one_of HT_.out (by kernel_rfl)) (by decide) (fun K hK => ?_)
   refine goes_ Tryd.func52 (by kernel_rfl) rfl #[.agg #[.int .i64 ((rd_T26 l0_3 0).f0), .int .i64 ((rd_T26 l0_3 0).f1), .string ((rd_T26 l0_3 0).f2), .slice A129_3 ((rd_T26 l0_3 0).f3).length c129_3], .int .i64 3] (by rfl) rfl rfl (by (try simp only [List.map_toArray, List.map_cons, List.map_nil]); first | done | rfl | (simp only [List.length_drop, List.length_take]; rfl)) ?_
   with_reducible refine (ih k (by omega) ((rd_T26 l0_3 0).f0) ((rd_T26 l0_3 0).f1) ((rd_T26 l0_3 0).f2) _ _ ((rd_T26 l0_3 0).f3) 3 t130 _ ?side1 ?side2 A32.out).mono ?_
   (case side1 => repeat (first | exact (Kd.C_below HR129_3.out HB.out) | (with_reducible refine Kd.C_alloc ?_ _) | (with_reducible refine Kd.C_drewN ?_ _) | (with_reducible refine Kd.C_drew ?_)))
   (case side2 => exact HC129_3.out)
   rintro e w42 ⟨rfl, hb⟩
   refine ⟨_, rfl, ?_⟩
   have n0_ := Aside0.mk (blk_below (g := gb122) (o := .cells #[.int .i64 a0_0, .int .i64 a0_1, .string a0_2, .slice (some ad129) l0_3.length c0_3] 26 (0, 0)) (by (with_reducible repeat (first | refine blk_drewN ?_ _ | refine blk_drew ?_ | refine blk_alloc ?_ _)); exact BK122.out) hb)
   have n1_ := Aside0.mk (below_step (by repeat (first | (with_reducible first | exact HB.out | apply below_alloc | apply pw_below_drewN | apply below_drew1 | refine below_set ?_ GE122.out) | exact HB.out)) hb)
   clear BK122
   clear HB
   have BK122 := n0_
   have HB := n1_
   clear n0_ n1_
   (try clear hb)
   (try clear hb2)
   (try clear hk)
   (try clear hi)
   refine hK.out _ _ ⟨(blk_cell BK122.out 0).trans rfl, (blk_cell BK122.out 1).trans rfl, (blk_cell BK122.out 2).trans rfl, (blk_cell BK122.out 3).trans rfl, ((HB.out.cell (World.block_lt_of_cell? w _ hw129_0)).trans hw129_0), ((HB.out.cell (World.block_lt_of_cell? w _ hw129_1)).trans hw129_1), ((HB.out.cell (World.block_lt_of_cell? w _ hw129_2)).trans hw129_2), ((HB.out.cell (World.block_lt_of_cell? w _ hw129_3)).trans hw129_3), ((HB.out.cell (World.block_lt_of_cell? w _ hw131_0)).trans hw131_0), ((HB.out.cell (World.block_lt_of_cell? w _ hw131_1)).trans hw131_1), ((HB.out.cell (World.block_lt_of_cell? w _ hw131_2)).trans hw131_2), ((HB.out.cell (World.block_lt_of_cell? w _ hw131_3)).trans hw131_3), ((HB.out.cell (World.block_lt_of_cell? w _ hw133_0)).trans hw133_0), ((HB.out.cell (World.block_lt_of_cell? w _ hw133_1)).trans hw133_1), ((HB.out.cell (World.block_lt_of_cell? w _ hw133_2)).trans hw133_2), ((HB.out.cell (World.block_lt_of_cell? w _ hw133_3)).trans hw133_3)⟩ (fun hHeld => ?_)
   clear hK K
   refine norm_ (a' := ?_) ?_ ?_
   rotate_left
   ·show Act.put _ (some 58) _ = _
    simp only [Act.put, List.setIfInBounds_toArray, List.set_cons_zero, List.set_cons_succ, i64_w, i32_w]
    rfl
   refine pure_ (i := 5) (N := some 59) (v := ?_) (a' := ?_) #[true, true, true, true, true, true, true, true, true, true, false, false, false, true, true, true, true, false, false, false] rfl rfl (any_of HT_.out (by kernel_rfl)) (fun _ _ _ h => h) (Or.inl ⟨by rfl, ?_⟩) ?_ ?_
   rotate_left
   ·intro w'
    go_simp
    with_reducible rfl
   rotate_left
   ·simp only [Act.put, List.setIfInBounds_toArray, List.set_cons_zero, List.set_cons_succ, i64_w, i32_w]
    rfl
   refine one_ (i := 10) (N := some 64) #[true, true, true, true, true, true, true, true, true, true, true, false, false, true, true, true, true, false, false, false] rfl rfl (one_of HT_.out (by kernel_rfl)) (by decide) (fun K hK => ?_)
   refine goes_ Tryd.func52 (by kernel_rfl) rfl #[.agg #[.int .i64 ((rd_T26 l0_3 1).f0), .int .i64 ((rd_T26 l0_3 1).f1), .string ((rd_T26 l0_3 1).f2), .slice A131_3 ((rd_T26 l0_3 1).f3).length c131_3], .int .i64 1] (by rfl) rfl rfl (by (try simp only [List.map_toArray, List.map_cons, List.map_nil]); first | done | rfl | (simp only [List.length_drop, List.length_take]; rfl)) ?_
   with_reducible refine (ih k (by omega) ((rd_T26 l0_3 1).f0) ((rd_T26 l0_3 1).f1) ((rd_T26 l0_3 1).f2) _ _ ((rd_T26 l0_3 1).f3) 1 t132 _ ?side1 ?side2 A35.out).mono ?_
   (case side1 => repeat (first | exact (Kd.C_below HR131_3.out HB.out) | (with_reducible refine Kd.C_alloc ?_ _) | (with_reducible refine Kd.C_drewN ?_ _) | (with_reducible refine Kd.C_drew ?_)))
   (case side2 => exact HC131_3.out)
   rintro e w43 ⟨rfl, hb⟩
   refine ⟨_, rfl, ?_⟩
   have n0_ := Aside0.mk (blk_below (g := gb122) (o := .cells #[.int .i64 a0_0, .int .i64 a0_1, .string a0_2, .slice (some ad129) l0_3.length c0_3] 26 (0, 0)) (by (with_reducible repeat (first | refine blk_drewN ?_ _ | refine blk_drew ?_ | refine blk_alloc ?_ _)); exact BK122.out) hb)
   have n1_ := Aside0.mk (below_step (by repeat (first | (with_reducible first | exact HB.out | apply below_alloc | apply pw_below_drewN | apply below_drew1 | refine below_set ?_ GE122.out) | exact HB.out)) hb)
   clear BK122
   clear HB
   have BK122 := n0_
   have HB := n1_
   clear n0_ n1_
   (try clear hb)
   (try clear hb2)
   (try clear hk)
   (try clear hi)
   refine hK.out _ _ ⟨(blk_cell BK122.out 0).trans rfl, (blk_cell BK122.out 1).trans rfl, (blk_cell BK122.out 2).trans rfl, (blk_cell BK122.out 3).trans rfl, ((HB.out.cell (World.block_lt_of_cell? w _ hw129_0)).trans hw129_0), ((HB.out.cell (World.block_lt_of_cell? w _ hw129_1)).trans hw129_1), ((HB.out.cell (World.block_lt_of_cell? w _ hw129_2)).trans hw129_2), ((HB.out.cell (World.block_lt_of_cell? w _ hw129_3)).trans hw129_3), ((HB.out.cell (World.block_lt_of_cell? w _ hw131_0)).trans hw131_0), ((HB.out.cell (World.block_lt_of_cell? w _ hw131_1)).trans hw131_1), ((HB.out.cell (World.block_lt_of_cell? w _ hw131_2)).trans hw131_2), ((HB.out.cell (World.block_lt_of_cell? w _ hw131_3)).trans hw131_3), ((HB.out.cell (World.block_lt_of_cell? w _ hw133_0)).trans hw133_0), ((HB.out.cell (World.block_lt_of_cell? w _ hw133_1)).trans hw133_1), ((HB.out.cell (World.block_lt_of_cell? w _ hw133_2)).trans hw133_2), ((HB.out.cell (World.block_lt_of_cell? w _ hw133_3)).trans hw133_3)⟩ (fun hHeld => ?_)
   clear hK K
   refine norm_ (a' := ?_) ?_ ?_
   rotate_left
   ·show Act.put _ (some 64) _ = _
    simp only [Act.put, List.setIfInBounds_toArray, List.set_cons_zero, List.set_cons_succ, i64_w, i32_w]
    rfl
   refine pure_ (i := 11) (N := some 65) (v := ?_) (a' := ?_) #[true, true, true, true, true, true, true, true, true, true, true, true, false, true, true, true, true, false, false, false] rfl rfl (any_of HT_.out (by kernel_rfl)) (fun _ _ _ h => h) (Or.inl ⟨by rfl, ?_⟩) ?_ ?_
   rotate_left
   ·intro w'
    go_simp
    with_reducible rfl
   rotate_left
   ·simp only [Act.put, List.setIfInBounds_toArray, List.set_cons_zero, List.set_cons_succ, i64_w, i32_w]
    rfl
   refine pure_ (i := 12) (N := some 66) (v := ?_) (a' := ?_) #[true, true, true, true, true, true, true, true, true, true, true, true, true, true, true, true, true, false, false, false] rfl rfl (any_of HT_.out (by kernel_rfl)) (fun _ _ _ h => h) (Or.inl ⟨by rfl, ?_⟩) ?_ ?_
   rotate_left
   ·intro w'
    go_simp
    with_reducible rfl
   rotate_left
   ·simp only [Act.put, List.setIfInBounds_toArray, List.set_cons_zero, List.set_cons_succ, i64_w, i32_w]
    rfl
   refine one_ (i := 17) (N := some 71) #[true, true, true, true, true, true, true, true, true, true, true, true, true, true, true, true, true, true, false, false] rfl rfl (one_of HT_.out (by kernel_rfl)) (by decide) (fun K hK => ?_)
   refine goes_ Tryd.func52 (by kernel_rfl) rfl #[.agg #[.int .i64 ((rd_T26 l0_3 2).f0), .int .i64 ((rd_T26 l0_3 2).f1), .string ((rd_T26 l0_3 2).f2), .slice A133_3 ((rd_T26 l0_3 2).f3).length c133_3], .int .i64 2] (by rfl) rfl rfl (by (try simp only [List.map_toArray, List.map_cons, List.map_nil]); first | done | rfl | (simp only [List.length_drop, List.length_take]; rfl)) ?_
   with_reducible refine (ih k (by omega) ((rd_T26 l0_3 2).f0) ((rd_T26 l0_3 2).f1) ((rd_T26 l0_3 2).f2) _ _ ((rd_T26 l0_3 2).f3) 2 t134 _ ?side1 ?side2 A39.out).mono ?_
   (case side1 => repeat (first | exact (Kd.C_below HR133_3.out HB.out) | (with_reducible refine Kd.C_alloc ?_ _) | (with_reducible refine Kd.C_drewN ?_ _) | (with_reducible refine Kd.C_drew ?_)))
   (case side2 => exact HC133_3.out)
   rintro e w44 ⟨rfl, hb⟩
   refine ⟨_, rfl, ?_⟩
   have n0_ := Aside0.mk (blk_below (g := gb122) (o := .cells #[.int .i64 a0_0, .int .i64 a0_1, .string a0_2, .slice (some ad129) l0_3.length c0_3] 26 (0, 0)) (by (with_reducible repeat (first | refine blk_drewN ?_ _ | refine blk_drew ?_ | refine blk_alloc ?_ _)); exact BK122.out) hb)
   have n1_ := Aside0.mk (below_step (by repeat (first | (with_reducible first | exact HB.out | apply below_alloc | apply pw_below_drewN | apply below_drew1 | refine below_set ?_ GE122.out) | exact HB.out)) hb)
   clear BK122
   clear HB
   have BK122 := n0_
   have HB := n1_
   clear n0_ n1_
   (try clear hb)
   (try clear hb2)
   (try clear hk)
   (try clear hi)
   refine hK.out _ _ ⟨(blk_cell BK122.out 0).trans rfl, (blk_cell BK122.out 1).trans rfl, (blk_cell BK122.out 2).trans rfl, (blk_cell BK122.out 3).trans rfl, ((HB.out.cell (World.block_lt_of_cell? w _ hw129_0)).trans hw129_0), ((HB.out.cell (World.block_lt_of_cell? w _ hw129_1)).trans hw129_1), ((HB.out.cell (World.block_lt_of_cell? w _ hw129_2)).trans hw129_2), ((HB.out.cell (World.block_lt_of_cell? w _ hw129_3)).trans hw129_3), ((HB.out.cell (World.block_lt_of_cell? w _ hw131_0)).trans hw131_0), ((HB.out.cell (World.block_lt_of_cell? w _ hw131_1)).trans hw131_1), ((HB.out.cell (World.block_lt_of_cell? w _ hw131_2)).trans hw131_2), ((HB.out.cell (World.block_lt_of_cell? w _ hw131_3)).trans hw131_3), ((HB.out.cell (World.block_lt_of_cell? w _ hw133_0)).trans hw133_0), ((HB.out.cell (World.block_lt_of_cell? w _ hw133_1)).trans hw133_1), ((HB.out.cell (World.block_lt_of_cell? w _ hw133_2)).trans hw133_2), ((HB.out.cell (World.block_lt_of_cell? w _ hw133_3)).trans hw133_3)⟩ (fun hHeld => ?_)
   clear hK K
   refine norm_ (a' := ?_) ?_ ?_
   rotate_left
   ·show Act.put _ (some 71) _ = _
    simp only [Act.put, List.setIfInBounds_toArray, List.set_cons_zero, List.set_cons_succ, i64_w, i32_w]
    rfl
   refine pure_ (i := 18) (N := some 72) (v := ?_) (a' := ?_) #[true, true, true, true, true, true, true, true, true, true, true, true, true, true, true, true, true, true, true, false] rfl rfl (any_of HT_.out (by kernel_rfl)) (fun _ _ _ h => h) (Or.inl ⟨by rfl, ?_⟩) ?_ ?_
   rotate_left
   ·intro w'
    go_simp
    with_reducible rfl
   rotate_left
   ·simp only [Act.put, List.setIfInBounds_toArray, List.set_cons_zero, List.set_cons_succ, i64_w, i32_w]
    rfl
   refine pure_ (i := 19) (N := some 6) (v := ?_) (a' := ?_) #[true, true, true, true, true, true, true, true, true, true, true, true, true, true, true, true, true, true, true, true] rfl rfl (any_of HT_.out (by kernel_rfl)) (fun _ _ _ h => h) (Or.inl ⟨by rfl, ?_⟩) ?_ ?_
   rotate_left
   ·intro w'
    go_simp
    with_reducible rfl
   rotate_left
   ·simp only [Act.put, List.setIfInBounds_toArray, List.set_cons_zero, List.set_cons_succ, i64_w, i32_w]
    rfl
   refine done_ (done_of HT_.out (by kernel_rfl)) ?_
   try go_wp2
   go_meet
   case rel => exact ⟨_, ((((t130 ++ (⟨#[32, 63, 32]⟩ : ByteArray)) ++ t132) ++ (⟨#[32, 58, 32]⟩ : ByteArray)) ++ t134), (by first | rfl | (simp; done) | (simp [*]; done)), H', ⟨by first | omega | exact Nat.le_refl _⟩, ⟨by (with_reducible repeat (first | refine blk_drewN ?_ _ | refine blk_drew ?_ | refine blk_alloc ?_ _)); exact BK122.out⟩, ⟨by repeat (first | (with_reducible first | exact HB.out | apply below_alloc | apply pw_below_drewN | apply below_drew1 | refine below_set ?_ GE122.out) | exact HB.out)⟩⟩
  rw [if_neg c30] at H
  have c30b0 : (t123 == 2) = false := beq_eq_false_iff_ne.mpr c30
  have c30b1 : (t123 != 2) = true := bne_iff_ne.mpr c30
  by_cases c45 : t123 = 13
  ·rw [if_pos c45] at H
   have c45b0 : (t123 == 13) = true := beq_iff_eq.mpr c45
   have c45b1 : (t123 != 13) = false := bne_eq_false_iff_eq.mpr c45
   clear c45
   replace H := Option.bind_eq_some_iff.mp H
   obtain ⟨t135, A460, H⟩ := H
   try dsimp only at H
   have A46 := Aside0.mk A460
   clear A460
   by_cases c47 : 0 < (l0_3.length : Int)
   rotate_left
   ·rw [if_neg c47] at H
    exact absurd H (by simp)
   rw [if_pos c47] at H
   have c47b0 : decide (0 < (l0_3.length : Int)) = true := decide_eq_true c47
   have c47b1 : decide (0 < l0_3.length) = true := decide_eq_true (by omega)
   clear c47
   replace H := Option.bind_eq_some_iff.mp H
   obtain ⟨t137, A480, H⟩ := H
   try dsimp only at H
   have A48 := Aside0.mk A480
   clear A480
   by_cases c49 : t135.size + t137.size ≤ 9223372036854775807
   rotate_left
   ·rw [if_neg c49] at H
    exact absurd H (by simp)
   rw [if_pos c49] at H
   have c49b0 := eq_true c49
   have c49b1 : decide (t135.size + t137.size ≤ 9223372036854775807) = true := decide_eq_true c49
   try have c49b2 : (9223372036854775807 < t135.size + t137.size) = False := eq_false (Nat.not_lt.2 c49)
   have H' := Aside0.mk H
   clear H
   try go_wp2
   have n0_ := Aside0.mk (blk_drew BK122.out)
   have n1_ := Aside0.mk (below_drew1 HB.out)
   clear BK122
   clear HB
   have BK122 := n0_
   have HB := n1_
   clear n0_ n1_
   have p136 : 0 ≤ (0 : Int) := (by omega)
   have q136 : 0 < (l0_3.length : Int) := of_decide_eq_true (by first | (with_reducible assumption) | assumption)
   obtain ⟨ad136, A136_3, c136_3, e136, hx136_0, hx136_1, hx136_2, hx136_3, hl136_3, hi136_3⟩ := at_T26 HR0_3.out 0 p136 q136
   have hw136_3 := hx136_3
   (try rw [show ((0 : Int)).toNat = 0 from rfl] at hw136_3)
   (try rw [show 0 * 4 = 0 from rfl] at hw136_3)
   (try rw [Addr.add_zero'] at hw136_3)
   have hw136_2 := hx136_2
   (try rw [show ((0 : Int)).toNat = 0 from rfl] at hw136_2)
   (try rw [show 0 * 4 = 0 from rfl] at hw136_2)
   (try rw [Addr.add_zero'] at hw136_2)
   have hw136_1 := hx136_1
   (try rw [show ((0 : Int)).toNat = 0 from rfl] at hw136_1)
   (try rw [show 0 * 4 = 0 from rfl] at hw136_1)
   (try rw [Addr.add_zero'] at hw136_1)
   have hw136_0 := hx136_0
   (try rw [show ((0 : Int)).toNat = 0 from rfl] at hw136_0)
   (try rw [show 0 * 4 = 0 from rfl] at hw136_0)
   (try rw [Addr.add_zero'] at hw136_0)
   cases e136
   have qi136 : (0 < l0_3.length) = True := eq_true (by omega)
   (try rw [show ((0 : Int)).toNat = 0 from rfl] at hx136_0)
   (try rw [show 0 * 4 = 0 from rfl] at hx136_0)
   (try rw [Addr.add_zero'] at hx136_0)
   (try rw [show ((0 : Int)).toNat = 0 from rfl] at hx136_1)
   (try rw [show 0 * 4 = 0 from rfl] at hx136_1)
   (try rw [Addr.add_zero'] at hx136_1)
   (try rw [show ((0 : Int)).toNat = 0 from rfl] at hx136_2)
   (try rw [show 0 * 4 = 0 from rfl] at hx136_2)
   (try rw [Addr.add_zero'] at hx136_2)
   (try rw [show ((0 : Int)).toNat = 0 from rfl] at hx136_3)
   (try rw [show 0 * 4 = 0 from rfl] at hx136_3)
   (try rw [Addr.add_zero'] at hx136_3)
   replace hx136_0 := (HB.out.cell (World.block_lt_of_cell? w _ hx136_0)).trans hx136_0
   replace hx136_1 := (HB.out.cell (World.block_lt_of_cell? w _ hx136_1)).trans hx136_1
   replace hx136_2 := (HB.out.cell (World.block_lt_of_cell? w _ hx136_2)).trans hx136_2
   replace hx136_3 := (HB.out.cell (World.block_lt_of_cell? w _ hx136_3)).trans hx136_3
   have HR136_3 := Aside0.mk hi136_3
   have HC136_3 := Aside0.mk hl136_3
   clear hi136_3 hl136_3
   replace p136 := eq_true p136
   replace q136 := eq_true q136
   refine start_ (n := 10) (S := fun w' => w'.cell? ⟨gb122, 0, none⟩ = some (.int .i64 a0_0) ∧ w'.cell? ⟨gb122, 1, none⟩ = some (.int .i64 a0_1) ∧ w'.cell? ⟨gb122, 2, none⟩ = some (.string a0_2) ∧ w'.cell? ⟨gb122, 3, none⟩ = some (.slice (some ad136) l0_3.length c0_3) ∧ w'.cell? ad136 = some (.int .i64 ((rd_T26 l0_3 0).f0)) ∧ w'.cell? ⟨ad136.block, ad136.off + 1, none⟩ = some (.int .i64 ((rd_T26 l0_3 0).f1)) ∧ w'.cell? ⟨ad136.block, ad136.off + 2, none⟩ = some (.string ((rd_T26 l0_3 0).f2)) ∧ w'.cell? ⟨ad136.block, ad136.off + 3, none⟩ = some (.slice A136_3 ((rd_T26 l0_3 0).f3).length c136_3)) (ds := []) #[false, false, false, false, false, false, false, false, false, false] (by kernel_rfl) rfl rfl ⟨(blk_cell BK122.out 0).trans rfl, (blk_cell BK122.out 1).trans rfl, (blk_cell BK122.out 2).trans rfl, (blk_cell BK122.out 3).trans rfl, ((HB.out.cell (World.block_lt_of_cell? w _ hw136_0)).trans hw136_0), ((HB.out.cell (World.block_lt_of_cell? w _ hw136_1)).trans hw136_1), ((HB.out.cell (World.block_lt_of_cell? w _ hw136_2)).trans hw136_2), ((HB.out.cell (World.block_lt_of_cell? w _ hw136_3)).trans hw136_3)⟩ (fun hHeld => ?_); refine with_tabW arith_show.tab13 arith_show.bits13 (fun HT_ HW_ => ?_)
   generalize w7.drew = w50 at BK122 HB HR136_3 hx136_0 hx136_1 hx136_2 hx136_3 hHeld ⊢
   refine pure_ (i := 0) (N := some 75) (v := ?_) (a' := ?_) #[true, false, false, false, false, false, false, false, false, false] rfl rfl (any_of HT_.out (by kernel_rfl)) (fun _ _ _ h => h) (Or.inl ⟨by rfl, ?_⟩) ?_ ?_
   rotate_left
   ·intro w'
    go_simp
    with_reducible rfl
   rotate_left
   ·simp only [Act.put, List.setIfInBounds_toArray, List.set_cons_zero, List.set_cons_succ, i64_w, i32_w]
    rfl
   refine pure_ (i := 3) (N := some 78) (v := ?_) (a' := ?_) #[true, false, false, true, false, false, false, false, false, false] rfl rfl (any_of HT_.out (by kernel_rfl)) (fun _ _ _ h => h) (Or.inl ⟨by rfl, ?_⟩) ?_ ?_
   rotate_left
   ·intro w'
    go_simp
    with_reducible rfl
   rotate_left
   ·simp only [Act.put, List.setIfInBounds_toArray, List.set_cons_zero, List.set_cons_succ, i64_w, i32_w]
    rfl
   refine take_ (i := 1) (N := some 76) (v := ?_) (a' := ?_) #[true, true, false, true, false, false, false, false, false, false] rfl rfl (take_ofW HT_.out HW_.out (by kernel_rfl)) (fun _ _ _ h => h) (Or.inl ⟨by rfl, ?_⟩) hHeld ?_ ?_
   rotate_left
   ·rintro w' ⟨s0, s1, s2, s3, s4, s5, s6, s7⟩
    go_simp
    with_reducible rfl
   rotate_left
   ·simp only [Act.put, List.setIfInBounds_toArray, List.set_cons_zero, List.set_cons_succ, i64_w, i32_w]
    rfl
   refine take_ (i := 4) (N := some 79) (v := ?_) (a' := ?_) #[true, true, false, true, true, false, false, false, false, false] rfl rfl (take_ofW HT_.out HW_.out (by kernel_rfl)) (fun _ _ _ h => h) (Or.inl ⟨by rfl, ?_⟩) hHeld ?_ ?_
   rotate_left
   ·rintro w' ⟨s0, s1, s2, s3, s4, s5, s6, s7⟩
    go_simp
    with_reducible rfl
   rotate_left
   ·simp only [Act.put, List.setIfInBounds_toArray, List.set_cons_zero, List.set_cons_succ, i64_w, i32_w]
    rfl
   refine pure_ (i := 5) (N := some 80) (v := ?_) (a' := ?_) #[true, true, false, true, true, true, false, false, false, false] rfl rfl (any_of HT_.out (by kernel_rfl)) (fun _ _ _ h => h) (Or.inl ⟨by rfl, ?_⟩) ?_ ?_
   rotate_left
   ·intro w'
    go_simp
    with_reducible rfl
   rotate_left
   ·simp only [Act.put, List.setIfInBounds_toArray, List.set_cons_zero, List.set_cons_succ, i64_w, i32_w]
    rfl
   refine take_ (i := 6) (N := some 81) (v := ?_) (a' := ?_) #[true, true, false, true, true, true, true, false, false, false] rfl rfl (take_ofW HT_.out HW_.out (by kernel_rfl)) (fun _ _ _ h => h) (Or.inl ⟨by rfl, ?_⟩) hHeld ?_ ?_
   rotate_left
   ·rintro w' ⟨s0, s1, s2, s3, s4, s5, s6, s7⟩
    go_simp
    with_reducible rfl
   rotate_left
   ·simp only [Act.put, List.setIfInBounds_toArray, List.set_cons_zero, List.set_cons_succ, i64_w, i32_w]
    rfl
   refine one_ (i := 2) (N := some 77) #[true, true, true, true, true, true, true, false, false, false] rfl rfl (one_of HT_.out (by kernel_rfl)) (by decide) (fun K hK => ?_)
   refine goes_ Tryd.func80 (by kernel_rfl) rfl #[.int .i64 a0_0] (by rfl) rfl rfl (by (try simp only [List.map_toArray, List.map_cons, List.map_nil]); first | done | rfl | (simp only [List.length_drop, List.length_take]; rfl)) ?_
   with_reducible refine (arith_sign.calls a0_0 t135 _ A46.out).mono ?_
   rintro e w51 ⟨rfl, hb⟩
   refine ⟨_, rfl, ?_⟩
   have n0_ := Aside0.mk (blk_below (g := gb122) (o := .cells #[.int .i64 a0_0, .int .i64 a0_1, .string a0_2, .slice (some ad136) l0_3.length c0_3] 26 (0, 0)) (by (with_reducible repeat (first | refine blk_drewN ?_ _ | refine blk_drew ?_ | refine blk_alloc ?_ _)); exact BK122.out) hb)
   have n1_ := Aside0.mk (below_step (by repeat (first | (with_reducible first | exact HB.out | apply below_alloc | apply pw_below_drewN | apply below_drew1 | refine below_set ?_ GE122.out) | exact HB.out)) hb)
   clear BK122
   clear HB
   have BK122 := n0_
   have HB := n1_
   clear n0_ n1_
   (try clear hb)
   (try clear hb2)
   (try clear hk)
   (try clear hi)
   refine hK.out _ _ ⟨(blk_cell BK122.out 0).trans rfl, (blk_cell BK122.out 1).trans rfl, (blk_cell BK122.out 2).trans rfl, (blk_cell BK122.out 3).trans rfl, ((HB.out.cell (World.block_lt_of_cell? w _ hw136_0)).trans hw136_0), ((HB.out.cell (World.block_lt_of_cell? w _ hw136_1)).trans hw136_1), ((HB.out.cell (World.block_lt_of_cell? w _ hw136_2)).trans hw136_2), ((HB.out.cell (World.block_lt_of_cell? w _ hw136_3)).trans hw136_3)⟩ (fun hHeld => ?_)
   clear hK K
   refine norm_ (a' := ?_) ?_ ?_
   rotate_left
   ·show Act.put _ (some 77) _ = _
    simp only [Act.put, List.setIfInBounds_toArray, List.set_cons_zero, List.set_cons_succ, i64_w, i32_w]
    rfl
   refine one_ (i := 7) (N := some 82) #[true, true, true, true, true, true, true, true, false, false] rfl rfl (one_of HT_.out (by kernel_rfl)) (by decide) (fun K hK => ?_)
   refine goes_ Tryd.func52 (by kernel_rfl) rfl #[.agg #[.int .i64 ((rd_T26 l0_3 0).f0), .int .i64 ((rd_T26 l0_3 0).f1), .string ((rd_T26 l0_3 0).f2), .slice A136_3 ((rd_T26 l0_3 0).f3).length c136_3], .int .i64 13] (by rfl) rfl rfl (by (try simp only [List.map_toArray, List.map_cons, List.map_nil]); first | done | rfl | (simp only [List.length_drop, List.length_take]; rfl)) ?_
   with_reducible refine (ih k (by omega) ((rd_T26 l0_3 0).f0) ((rd_T26 l0_3 0).f1) ((rd_T26 l0_3 0).f2) _ _ ((rd_T26 l0_3 0).f3) 13 t137 _ ?side1 ?side2 A48.out).mono ?_
   (case side1 => repeat (first | exact (Kd.C_below HR136_3.out HB.out) | (with_reducible refine Kd.C_alloc ?_ _) | (with_reducible refine Kd.C_drewN ?_ _) | (with_reducible refine Kd.C_drew ?_)))
   (case side2 => exact HC136_3.out)
   rintro e w52 ⟨rfl, hb⟩
   refine ⟨_, rfl, ?_⟩
   have n0_ := Aside0.mk (blk_below (g := gb122) (o := .cells #[.int .i64 a0_0, .int .i64 a0_1, .string a0_2, .slice (some ad136) l0_3.length c0_3] 26 (0, 0)) (by (with_reducible repeat (first | refine blk_drewN ?_ _ | refine blk_drew ?_ | refine blk_alloc ?_ _)); exact BK122.out) hb)
   have n1_ := Aside0.mk (below_step (by repeat (first | (with_reducible first | exact HB.out | apply below_alloc | apply pw_below_drewN | apply below_drew1 | refine below_set ?_ GE122.out) | exact HB.out)) hb)
   clear BK122
   clear HB
   have BK122 := n0_
   have HB := n1_
   clear n0_ n1_
   (try clear hb)
   (try clear hb2)
   (try clear hk)
   (try clear hi)
   refine hK.out _ _ ⟨(blk_cell BK122.out 0).trans rfl, (blk_cell BK122.out 1).trans rfl, (blk_cell BK122.out 2).trans rfl, (blk_cell BK122.out 3).trans rfl, ((HB.out.cell (World.block_lt_of_cell? w _ hw136_0)).trans hw136_0), ((HB.out.cell (World.block_lt_of_cell? w _ hw136_1)).trans hw136_1), ((HB.out.cell (World.block_lt_of_cell? w _ hw136_2)).trans hw136_2), ((HB.out.cell (World.block_lt_of_cell? w _ hw136_3)).trans hw136_3)⟩ (fun hHeld => ?_)
   clear hK K
   refine norm_ (a' := ?_) ?_ ?_
   rotate_left
   ·show Act.put _ (some 82) _ = _
    simp only [Act.put, List.setIfInBounds_toArray, List.set_cons_zero, List.set_cons_succ, i64_w, i32_w]
    rfl
   refine pure_ (i := 8) (N := some 83) (v := ?_) (a' := ?_) #[true, true, true, true, true, true, true, true, true, false] rfl rfl (any_of HT_.out (by kernel_rfl)) (fun _ _ _ h => h) (Or.inl ⟨by rfl, ?_⟩) ?_ ?_
   rotate_left
   ·intro w'
    go_simp
    with_reducible rfl
   rotate_left
   ·simp only [Act.put, List.setIfInBounds_toArray, List.set_cons_zero, List.set_cons_succ, i64_w, i32_w]
    rfl
   refine pure_ (i := 9) (N := some 6) (v := ?_) (a' := ?_) #[true, true, true, true, true, true, true, true, true, true] rfl rfl (any_of HT_.out (by kernel_rfl)) (fun _ _ _ h => h) (Or.inl ⟨by rfl, ?_⟩) ?_ ?_
   rotate_left
   ·intro w'
    go_simp
    with_reducible rfl
   rotate_left
   ·simp only [Act.put, List.setIfInBounds_toArray, List.set_cons_zero, List.set_cons_succ, i64_w, i32_w]
    rfl
   refine done_ (done_of HT_.out (by kernel_rfl)) ?_
   try go_wp2
   go_meet
   case rel => exact ⟨_, (t135 ++ t137), (by first | rfl | (simp; done) | (simp [*]; done)), H', ⟨by first | omega | exact Nat.le_refl _⟩, ⟨by (with_reducible repeat (first | refine blk_drewN ?_ _ | refine blk_drew ?_ | refine blk_alloc ?_ _)); exact BK122.out⟩, ⟨by repeat (first | (with_reducible first | exact HB.out | apply below_alloc | apply pw_below_drewN | apply below_drew1 | refine below_set ?_ GE122.out) | exact HB.out)⟩⟩
  rw [if_neg c45] at H
  have c45b0 : (t123 == 13) = false := beq_eq_false_iff_ne.mpr c45
  have c45b1 : (t123 != 13) = true := bne_iff_ne.mpr c45
  by_cases c53 : t123 = 14
  ·rw [if_pos c53] at H
   have c53b0 : (t123 == 14) = true := beq_iff_eq.mpr c53
   have c53b1 : (t123 != 14) = false := bne_eq_false_iff_eq.mpr c53
   clear c53
   by_cases c54 : a0_0 = 1
   rotate_left
   ·rw [if_neg c54] at H
    have c54b0 : (a0_0 == 1) = false := beq_eq_false_iff_ne.mpr c54
    have c54b1 : (a0_0 != 1) = true := bne_iff_ne.mpr c54
    have H' := Aside0.mk H
    clear H
    have hcz58_0 : w7.cell? ⟨gb122, 0, none⟩ = some (.int .i64 a0_0) := (blk_cell BK122.out 0).trans rfl
    have hcz58_1 : w7.cell? ⟨gb122, 1, none⟩ = some (.int .i64 a0_1) := (blk_cell BK122.out 1).trans rfl
    have hcz58_2 : w7.cell? ⟨gb122, 2, none⟩ = some (.string a0_2) := (blk_cell BK122.out 2).trans rfl
    have hcz58_3 : w7.cell? ⟨gb122, 3, none⟩ = some (.slice A0_3 l0_3.length c0_3) := (blk_cell BK122.out 3).trans rfl
    have hfz58_0 := blk_frozen BK122.out 0
    have hfz58_1 := blk_frozen BK122.out 1
    have hfz58_2 := blk_frozen BK122.out 2
    have hfz58_3 := blk_frozen BK122.out 3
    go_wp2
    go_meet
    case rel => exact ⟨_, (a0_2), (by first | rfl | (simp; done) | (simp [*]; done)), H', ⟨by first | omega | exact Nat.le_refl _⟩, ⟨by (with_reducible repeat (first | refine blk_drewN ?_ _ | refine blk_drew ?_ | refine blk_alloc ?_ _)); exact BK122.out⟩, ⟨by repeat (first | (with_reducible first | exact HB.out | apply below_alloc | apply pw_below_drewN | apply below_drew1 | refine below_set ?_ GE122.out) | exact HB.out)⟩⟩
   rw [if_pos c54] at H
   have c54b0 : (a0_0 == 1) = true := beq_iff_eq.mpr c54
   have c54b1 : (a0_0 != 1) = false := bne_eq_false_iff_eq.mpr c54
   clear c54
   replace H := Option.bind_eq_some_iff.mp H
   obtain ⟨t138, A550, H⟩ := H
   try dsimp only at H
   have A55 := Aside0.mk A550
   clear A550
   have H' := Aside0.mk H
   clear H
   have hcz56_0 : w7.cell? ⟨gb122, 0, none⟩ = some (.int .i64 a0_0) := (blk_cell BK122.out 0).trans rfl
   have hcz56_1 : w7.cell? ⟨gb122, 1, none⟩ = some (.int .i64 a0_1) := (blk_cell BK122.out 1).trans rfl
   have hcz56_2 : w7.cell? ⟨gb122, 2, none⟩ = some (.string a0_2) := (blk_cell BK122.out 2).trans rfl
   have hcz56_3 : w7.cell? ⟨gb122, 3, none⟩ = some (.slice A0_3 l0_3.length c0_3) := (blk_cell BK122.out 3).trans rfl
   have hfz56_0 := blk_frozen BK122.out 0
   have hfz56_1 := blk_frozen BK122.out 1
   have hfz56_2 := blk_frozen BK122.out 2
   have hfz56_3 := blk_frozen BK122.out 3
   go_wp2_with (first | ((with_reducible refine gate_callee (f := 81) rfl ?_); refine goesL_ (some 93) rfl rfl Tryd.func81 (by kernel_rfl) rfl #[.int .i64 a0_1] rfl (by (try simp only [List.map_toArray, List.map_cons, List.map_nil]); first | done | rfl | (simp only [List.length_drop, List.length_take]; rfl)) ?_; (with_reducible refine (strconv_Itoa_81.calls a0_1 t138 _ A55.out).mono ?_); rintro e w57 ⟨rfl, hb⟩; refine ⟨_, rfl, ?_⟩; have n0_ := Aside0.mk (blk_below (g := gb122) (o := .cells #[.int .i64 a0_0, .int .i64 a0_1, .string a0_2, .slice A0_3 l0_3.length c0_3] 26 (0, 0)) (by (with_reducible repeat (first | refine blk_drewN ?_ _ | refine blk_drew ?_ | refine blk_alloc ?_ _)); exact BK122.out) hb); have n1_ := Aside0.mk (below_step (by repeat (first | (with_reducible first | exact HB.out | apply below_alloc | apply pw_below_drewN | apply below_drew1 | refine below_set ?_ GE122.out) | exact HB.out)) hb); clear BK122; clear HB; have BK122 := n0_; have HB := n1_; clear n0_ n1_; (try clear hb); (try clear hb2); (try clear hk); (try clear hi)))
   go_meet
   case rel => exact ⟨_, (t138), (by first | rfl | (simp; done) | (simp [*]; done)), H', ⟨by first | omega | exact Nat.le_refl _⟩, ⟨by (with_reducible repeat (first | refine blk_drewN ?_ _ | refine blk_drew ?_ | refine blk_alloc ?_ _)); exact BK122.out⟩, ⟨by repeat (first | (with_reducible first | exact HB.out | apply below_alloc | apply pw_below_drewN | apply below_drew1 | refine below_set ?_ GE122.out) | exact HB.out)⟩⟩
  rw [if_neg c53] at H
  have c53b0 : (t123 == 14) = false := beq_eq_false_iff_ne.mpr c53
  have c53b1 : (t123 != 14) = true := bne_iff_ne.mpr c53
  by_cases c59 : 0 < (l0_3.length : Int)
  rotate_left
  ·rw [if_neg c59] at H
   exact absurd H (by simp)
  rw [if_pos c59] at H
  have c59b0 : decide (0 < (l0_3.length : Int)) = true := decide_eq_true c59
  have c59b1 : decide (0 < l0_3.length) = true := decide_eq_true (by omega)
  clear c59
  replace H := Option.bind_eq_some_iff.mp H
  obtain ⟨t140, A600, H⟩ := H
  try dsimp only at H
  have A60 := Aside0.mk A600
  clear A600
  by_cases c61 : t140.size + 1 ≤ 9223372036854775807
  rotate_left
  ·rw [if_neg c61] at H
   exact absurd H (by simp)
  rw [if_pos c61] at H
  have c61b0 := eq_true c61
  have c61b1 : decide (t140.size + 1 ≤ 9223372036854775807) = true := decide_eq_true c61
  try have c61b2 : (9223372036854775807 < t140.size + 1) = False := eq_false (Nat.not_lt.2 c61)
  replace H := Option.bind_eq_some_iff.mp H
  obtain ⟨t141, A620, H⟩ := H
  try dsimp only at H
  have A62 := Aside0.mk A620
  clear A620
  by_cases c63 : (t140 ++ (⟨#[32]⟩ : ByteArray)).size + t141.size ≤ 9223372036854775807
  rotate_left
  ·rw [if_neg c63] at H
   exact absurd H (by simp)
  rw [if_pos c63] at H
  have c63b0 := eq_true c63
  have c63b1 : decide ((t140 ++ (⟨#[32]⟩ : ByteArray)).size + t141.size ≤ 9223372036854775807) = true := decide_eq_true c63
  try have c63b2 : (9223372036854775807 < (t140 ++ (⟨#[32]⟩ : ByteArray)).size + t141.size) = False := eq_false (Nat.not_lt.2 c63)
  try have c63b3 := c63b2
  try simp only [ByteArray.size_append, show (⟨#[32]⟩ : ByteArray).size = 1 from rfl, Nat.zero_add, Nat.add_zero] at c63b3
  by_cases c64 : ((t140 ++ (⟨#[32]⟩ : ByteArray)) ++ t141).size + 1 ≤ 9223372036854775807
  rotate_left
  ·rw [if_neg c64] at H
   exact absurd H (by simp)
  rw [if_pos c64] at H
  have c64b0 := eq_true c64
  have c64b1 : decide (((t140 ++ (⟨#[32]⟩ : ByteArray)) ++ t141).size + 1 ≤ 9223372036854775807) = true := decide_eq_true c64
  try have c64b2 : (9223372036854775807 < ((t140 ++ (⟨#[32]⟩ : ByteArray)) ++ t141).size + 1) = False := eq_false (Nat.not_lt.2 c64)
  try have c64b3 := c64b2
  try simp only [ByteArray.size_append, show (⟨#[32]⟩ : ByteArray).size = 1 from rfl, Nat.zero_add, Nat.add_zero] at c64b3
  by_cases c65 : 1 < (l0_3.length : Int)
  rotate_left
  ·rw [if_neg c65] at H
   exact absurd H (by simp)
  rw [if_pos c65] at H
  have c65b0 : decide (1 < (l0_3.length : Int)) = true := decide_eq_true c65
  have c65b1 : decide (1 < l0_3.length) = true := decide_eq_true (by omega)
  clear c65
  replace H := Option.bind_eq_some_iff.mp H
  obtain ⟨t143, A660, H⟩ := H
  try dsimp only at H
  have A66 := Aside0.mk A660
  clear A660
  by_cases c67 : (((t140 ++ (⟨#[32]⟩ : ByteArray)) ++ t141) ++ (⟨#[32]⟩ : ByteArray)).size + t143.size ≤ 9223372036854775807
  rotate_left
  ·rw [if_neg c67] at H
   exact absurd H (by simp)
  rw [if_pos c67] at H
  have c67b0 := eq_true c67
  have c67b1 : decide ((((t140 ++ (⟨#[32]⟩ : ByteArray)) ++ t141) ++ (⟨#[32]⟩ : ByteArray)).size + t143.size ≤ 9223372036854775807) = true := decide_eq_true c67
  try have c67b2 : (9223372036854775807 < (((t140 ++ (⟨#[32]⟩ : ByteArray)) ++ t141) ++ (⟨#[32]⟩ : ByteArray)).size + t143.size) = False := eq_false (Nat.not_lt.2 c67)
  try have c67b3 := c67b2
  try simp only [ByteArray.size_append, show (⟨#[32]⟩ : ByteArray).size = 1 from rfl, Nat.zero_add, Nat.add_zero] at c67b3
  have H' := Aside0.mk H
  clear H
  try go_wp2
  have n0_ := Aside0.mk (blk_drew BK122.out)
  have n1_ := Aside0.mk (below_drew1 HB.out)
  clear BK122
  clear HB
  have BK122 := n0_
  have HB := n1_
  clear n0_ n1_
  have p139 : 0 ≤ (0 : Int) := (by omega)
  have q139 : 0 < (l0_3.length : Int) := of_decide_eq_true (by first | (with_reducible assumption) | assumption)
  obtain ⟨ad139, A139_3, c139_3, e139, hx139_0, hx139_1, hx139_2, hx139_3, hl139_3, hi139_3⟩ := at_T26 HR0_3.out 0 p139 q139
  have hw139_3 := hx139_3
  (try rw [show ((0 : Int)).toNat = 0 from rfl] at hw139_3)
  (try rw [show 0 * 4 = 0 from rfl] at hw139_3)
  (try rw [Addr.add_zero'] at hw139_3)
  have hw139_2 := hx139_2
  (try rw [show ((0 : Int)).toNat = 0 from rfl] at hw139_2)
  (try rw [show 0 * 4 = 0 from rfl] at hw139_2)
  (try rw [Addr.add_zero'] at hw139_2)
  have hw139_1 := hx139_1
  (try rw [show ((0 : Int)).toNat = 0 from rfl] at hw139_1)
  (try rw [show 0 * 4 = 0 from rfl] at hw139_1)
  (try rw [Addr.add_zero'] at hw139_1)
  have hw139_0 := hx139_0
  (try rw [show ((0 : Int)).toNat = 0 from rfl] at hw139_0)
  (try rw [show 0 * 4 = 0 from rfl] at hw139_0)
  (try rw [Addr.add_zero'] at hw139_0)
  cases e139
  have qi139 : (0 < l0_3.length) = True := eq_true (by omega)
  (try rw [show ((0 : Int)).toNat = 0 from rfl] at hx139_0)
  (try rw [show 0 * 4 = 0 from rfl] at hx139_0)
  (try rw [Addr.add_zero'] at hx139_0)
  (try rw [show ((0 : Int)).toNat = 0 from rfl] at hx139_1)
  (try rw [show 0 * 4 = 0 from rfl] at hx139_1)
  (try rw [Addr.add_zero'] at hx139_1)
  (try rw [show ((0 : Int)).toNat = 0 from rfl] at hx139_2)
  (try rw [show 0 * 4 = 0 from rfl] at hx139_2)
  (try rw [Addr.add_zero'] at hx139_2)
  (try rw [show ((0 : Int)).toNat = 0 from rfl] at hx139_3)
  (try rw [show 0 * 4 = 0 from rfl] at hx139_3)
  (try rw [Addr.add_zero'] at hx139_3)
  replace hx139_0 := (HB.out.cell (World.block_lt_of_cell? w _ hx139_0)).trans hx139_0
  replace hx139_1 := (HB.out.cell (World.block_lt_of_cell? w _ hx139_1)).trans hx139_1
  replace hx139_2 := (HB.out.cell (World.block_lt_of_cell? w _ hx139_2)).trans hx139_2
  replace hx139_3 := (HB.out.cell (World.block_lt_of_cell? w _ hx139_3)).trans hx139_3
  have HR139_3 := Aside0.mk hi139_3
  have HC139_3 := Aside0.mk hl139_3
  clear hi139_3 hl139_3
  replace p139 := eq_true p139
  replace q139 := eq_true q139
  have p142 : 0 ≤ (1 : Int) := (by omega)
  have q142 : 1 < (l0_3.length : Int) := of_decide_eq_true (by first | (with_reducible assumption) | assumption)
  obtain ⟨ad142, A142_3, c142_3, e142, hx142_0, hx142_1, hx142_2, hx142_3, hl142_3, hi142_3⟩ := at_T26 HR0_3.out 1 p142 q142
  have hw142_3 := hx142_3
  (try rw [show ((1 : Int)).toNat = 1 from rfl] at hw142_3)
  (try rw [show 1 * 4 = 4 from rfl] at hw142_3)
  (try simp only [Nat.reduceMul, Nat.reduceEqDiff, Go.Addr.add, ↓reduceIte] at hw142_3)
  have hw142_2 := hx142_2
  (try rw [show ((1 : Int)).toNat = 1 from rfl] at hw142_2)
  (try rw [show 1 * 4 = 4 from rfl] at hw142_2)
  (try simp only [Nat.reduceMul, Nat.reduceEqDiff, Go.Addr.add, ↓reduceIte] at hw142_2)
  have hw142_1 := hx142_1
  (try rw [show ((1 : Int)).toNat = 1 from rfl] at hw142_1)
  (try rw [show 1 * 4 = 4 from rfl] at hw142_1)
  (try simp only [Nat.reduceMul, Nat.reduceEqDiff, Go.Addr.add, ↓reduceIte] at hw142_1)
  have hw142_0 := hx142_0
  (try rw [show ((1 : Int)).toNat = 1 from rfl] at hw142_0)
  (try rw [show 1 * 4 = 4 from rfl] at hw142_0)
  (try simp only [Nat.reduceMul, Nat.reduceEqDiff, Go.Addr.add, ↓reduceIte] at hw142_0)
  obtain rfl : ad139 = ad142 := (by injection e142)
  (try simp only [show (1 : Int).toNat = 1 from rfl, Nat.reduceMul, Nat.reduceEqDiff, Go.Addr.add, ↓reduceIte] at hx142_0)
  (try simp only [show (1 : Int).toNat = 1 from rfl, Nat.reduceMul, Nat.reduceEqDiff, Go.Addr.add, ↓reduceIte] at hx142_1)
  (try simp only [show (1 : Int).toNat = 1 from rfl, Nat.reduceMul, Nat.reduceEqDiff, Go.Addr.add, ↓reduceIte] at hx142_2)
  (try simp only [show (1 : Int).toNat = 1 from rfl, Nat.reduceMul, Nat.reduceEqDiff, Go.Addr.add, ↓reduceIte] at hx142_3)
  have qi142 : (1 < l0_3.length) = True := eq_true (by omega)
  (try rw [show ((1 : Int)).toNat = 1 from rfl] at hx142_0)
  (try rw [show 1 * 4 = 4 from rfl] at hx142_0)
  (try rw [show ((1 : Int)).toNat = 1 from rfl] at hx142_1)
  (try rw [show 1 * 4 = 4 from rfl] at hx142_1)
  (try rw [show ((1 : Int)).toNat = 1 from rfl] at hx142_2)
  (try rw [show 1 * 4 = 4 from rfl] at hx142_2)
  (try rw [show ((1 : Int)).toNat = 1 from rfl] at hx142_3)
  (try rw [show 1 * 4 = 4 from rfl] at hx142_3)
  replace hx142_0 := (HB.out.cell (World.block_lt_of_cell? w _ hx142_0)).trans hx142_0
  replace hx142_1 := (HB.out.cell (World.block_lt_of_cell? w _ hx142_1)).trans hx142_1
  replace hx142_2 := (HB.out.cell (World.block_lt_of_cell? w _ hx142_2)).trans hx142_2
  replace hx142_3 := (HB.out.cell (World.block_lt_of_cell? w _ hx142_3)).trans hx142_3
  have HR142_3 := Aside0.mk hi142_3
  have HC142_3 := Aside0.mk hl142_3
  clear hi142_3 hl142_3
  replace p142 := eq_true p142
  replace q142 := eq_true q142
  refine start_ (n := 21) (S := fun w' => w'.cell? ⟨gb122, 0, none⟩ = some (.int .i64 a0_0) ∧ w'.cell? ⟨gb122, 1, none⟩ = some (.int .i64 a0_1) ∧ w'.cell? ⟨gb122, 2, none⟩ = some (.string a0_2) ∧ w'.cell? ⟨gb122, 3, none⟩ = some (.slice (some ad139) l0_3.length c0_3) ∧ w'.cell? ad139 = some (.int .i64 ((rd_T26 l0_3 0).f0)) ∧ w'.cell? ⟨ad139.block, ad139.off + 1, none⟩ = some (.int .i64 ((rd_T26 l0_3 0).f1)) ∧ w'.cell? ⟨ad139.block, ad139.off + 2, none⟩ = some (.string ((rd_T26 l0_3 0).f2)) ∧ w'.cell? ⟨ad139.block, ad139.off + 3, none⟩ = some (.slice A139_3 ((rd_T26 l0_3 0).f3).length c139_3) ∧ w'.cell? ⟨ad139.block, ad139.off + 4, none⟩ = some (.int .i64 ((rd_T26 l0_3 1).f0)) ∧ w'.cell? ⟨ad139.block, ad139.off + 4 + 1, none⟩ = some (.int .i64 ((rd_T26 l0_3 1).f1)) ∧ w'.cell? ⟨ad139.block, ad139.off + 4 + 2, none⟩ = some (.string ((rd_T26 l0_3 1).f2)) ∧ w'.cell? ⟨ad139.block, ad139.off + 4 + 3, none⟩ = some (.slice A142_3 ((rd_T26 l0_3 1).f3).length c142_3)) (ds := []) #[false, false, false, false, false, false, false, false, false, false, false, false, false, false, false, false, false, false, false, false, false] (by kernel_rfl) rfl rfl ⟨(blk_cell BK122.out 0).trans rfl, (blk_cell BK122.out 1).trans rfl, (blk_cell BK122.out 2).trans rfl, (blk_cell BK122.out 3).trans rfl, ((HB.out.cell (World.block_lt_of_cell? w _ hw139_0)).trans hw139_0), ((HB.out.cell (World.block_lt_of_cell? w _ hw139_1)).trans hw139_1), ((HB.out.cell (World.block_lt_of_cell? w _ hw139_2)).trans hw139_2), ((HB.out.cell (World.block_lt_of_cell? w _ hw139_3)).trans hw139_3), ((HB.out.cell (World.block_lt_of_cell? w _ hw142_0)).trans hw142_0), ((HB.out.cell (World.block_lt_of_cell? w _ hw142_1)).trans hw142_1), ((HB.out.cell (World.block_lt_of_cell? w _ hw142_2)).trans hw142_2), ((HB.out.cell (World.block_lt_of_cell? w _ hw142_3)).trans hw142_3)⟩ (fun hHeld => ?_); refine with_tabW arith_show.tab4 arith_show.bits4 (fun HT_ HW_ => ?_)
  generalize w7.drew = w68 at BK122 HB HR139_3 HR142_3 hx139_0 hx139_1 hx139_2 hx139_3 hx142_0 hx142_1 hx142_2 hx142_3 hHeld ⊢
  refine pure_ (i := 0) (N := some 12) (v := ?_) (a' := ?_) #[true, false, false, false, false, false, false, false, false, false, false, false, false, false, false, false, false, false, false, false, false] rfl rfl (any_of HT_.out (by kernel_rfl)) (fun _ _ _ h => h) (Or.inl ⟨by rfl, ?_⟩) ?_ ?_
  rotate_left
  ·intro w'
   go_simp
   with_reducible rfl
  rotate_left
  ·simp only [Act.put, List.setIfInBounds_toArray, List.set_cons_zero, List.set_cons_succ, i64_w, i32_w]
   rfl
  refine pure_ (i := 4) (N := some 16) (v := ?_) (a' := ?_) #[true, false, false, false, true, false, false, false, false, false, false, false, false, false, false, false, false, false, false, false, false] rfl rfl (any_of HT_.out (by kernel_rfl)) (fun _ _ _ h => h) (Or.inl ⟨by rfl, ?_⟩) ?_ ?_
  rotate_left
  ·intro w'
   go_simp
   with_reducible rfl
  rotate_left
  ·simp only [Act.put, List.setIfInBounds_toArray, List.set_cons_zero, List.set_cons_succ, i64_w, i32_w]
   rfl
  refine pure_ (i := 7) (N := some 19) (v := ?_) (a' := ?_) #[true, false, false, false, true, false, false, true, false, false, false, false, false, false, false, false, false, false, false, false, false] rfl rfl (any_of HT_.out (by kernel_rfl)) (fun _ _ _ h => h) (Or.inl ⟨by rfl, ?_⟩) ?_ ?_
  rotate_left
  ·intro w'
   go_simp
   with_reducible rfl
  rotate_left
  ·simp only [Act.put, List.setIfInBounds_toArray, List.set_cons_zero, List.set_cons_succ, i64_w, i32_w]
   rfl
  refine pure_ (i := 12) (N := some 24) (v := ?_) (a' := ?_) #[true, false, false, false, true, false, false, true, false, false, false, false, true, false, false, false, false, false, false, false, false] rfl rfl (any_of HT_.out (by kernel_rfl)) (fun _ _ _ h => h) (Or.inl ⟨by rfl, ?_⟩) ?_ ?_
  rotate_left
  ·intro w'
   go_simp
   with_reducible rfl
  rotate_left
  ·simp only [Act.put, List.setIfInBounds_toArray, List.set_cons_zero, List.set_cons_succ, i64_w, i32_w]
   rfl
  refine pure_ (i := 16) (N := some 28) (v := ?_) (a' := ?_) #[true, false, false, false, true, false, false, true, false, false, false, false, true, false, false, false, true, false, false, false, false] rfl rfl (any_of HT_.out (by kernel_rfl)) (fun _ _ _ h => h) (Or.inl ⟨by rfl, ?_⟩) ?_ ?_
  rotate_left
  ·intro w'
   go_simp
   with_reducible rfl
  rotate_left
  ·simp only [Act.put, List.setIfInBounds_toArray, List.set_cons_zero, List.set_cons_succ, i64_w, i32_w]
   rfl
  refine pure_ (i := 17) (N := some 29) (v := ?_) (a' := ?_) #[true, false, false, false, true, false, false, true, false, false, false, false, true, false, false, false, true, true, false, false, false] rfl rfl (any_of HT_.out (by kernel_rfl)) (fun _ _ _ h => h) (Or.inl ⟨by rfl, ?_⟩) ?_ ?_
  rotate_left
  ·intro w'
   go_simp
   with_reducible rfl
  rotate_left
  ·simp only [Act.put, List.setIfInBounds_toArray, List.set_cons_zero, List.set_cons_succ, i64_w, i32_w]
   rfl
  refine take_ (i := 1) (N := some 13) (v := ?_) (a' := ?_) #[true, true, false, false, true, false, false, true, false, false, false, false, true, false, false, false, true, true, false, false, false] rfl rfl (take_ofW HT_.out HW_.out (by kernel_rfl)) (fun _ _ _ h => h) (Or.inl ⟨by rfl, ?_⟩) hHeld ?_ ?_
  rotate_left
  ·rintro w' ⟨s0, s1, s2, s3, s4, s5, s6, s7, s8, s9, s10, s11⟩
   go_simp
   with_reducible rfl
  rotate_left
  ·simp only [Act.put, List.setIfInBounds_toArray, List.set_cons_zero, List.set_cons_succ, i64_w, i32_w]
   rfl
  refine pure_ (i := 2) (N := some 14) (v := ?_) (a' := ?_) #[true, true, true, false, true, false, false, true, false, false, false, false, true, false, false, false, true, true, false, false, false] rfl rfl (any_of HT_.out (by kernel_rfl)) (fun _ _ _ h => h) (Or.inl ⟨by rfl, ?_⟩) ?_ ?_
  rotate_left
  ·intro w'
   go_simp
   with_reducible rfl
  rotate_left
  ·simp only [Act.put, List.setIfInBounds_toArray, List.set_cons_zero, List.set_cons_succ, i64_w, i32_w]
   rfl
  refine take_ (i := 3) (N := some 15) (v := ?_) (a' := ?_) #[true, true, true, true, true, false, false, true, false, false, false, false, true, false, false, false, true, true, false, false, false] rfl rfl (take_ofW HT_.out HW_.out (by kernel_rfl)) (fun _ _ _ h => h) (Or.inl ⟨by rfl, ?_⟩) hHeld ?_ ?_
  rotate_left
  ·rintro w' ⟨s0, s1, s2, s3, s4, s5, s6, s7, s8, s9, s10, s11⟩
   go_simp
   with_reducible rfl
  rotate_left
  ·simp only [Act.put, List.setIfInBounds_toArray, List.set_cons_zero, List.set_cons_succ, i64_w, i32_w]
   rfl
  refine take_ (i := 8) (N := some 20) (v := ?_) (a' := ?_) #[true, true, true, true, true, false, false, true, true, false, false, false, true, false, false, false, true, true, false, false, false] rfl rfl (take_ofW HT_.out HW_.out (by kernel_rfl)) (fun _ _ _ h => h) (Or.inl ⟨by rfl, ?_⟩) hHeld ?_ ?_
  rotate_left
  ·rintro w' ⟨s0, s1, s2, s3, s4, s5, s6, s7, s8, s9, s10, s11⟩
   go_simp
   with_reducible rfl
  rotate_left
  ·simp only [Act.put, List.setIfInBounds_toArray, List.set_cons_zero, List.set_cons_succ, i64_w, i32_w]
   rfl
  refine take_ (i := 13) (N := some 25) (v := ?_) (a' := ?_) #[true, true, true, true, true, false, false, true, true, false, false, false, true, true, false, false, true, true, false, false, false] rfl rfl (take_ofW HT_.out HW_.out (by kernel_rfl)) (fun _ _ _ h => h) (Or.inl ⟨by rfl, ?_⟩) hHeld ?_ ?_
  rotate_left
  ·rintro w' ⟨s0, s1, s2, s3, s4, s5, s6, s7, s8, s9, s10, s11⟩
   go_simp
   with_reducible rfl
  rotate_left
  ·simp only [Act.put, List.setIfInBounds_toArray, List.set_cons_zero, List.set_cons_succ, i64_w, i32_w]
   rfl
  refine pure_ (i := 14) (N := some 26) (v := ?_) (a' := ?_) #[true, true, true, true, true, false, false, true, true, false, false, false, true, true, true, false, true, true, false, false, false] rfl rfl (any_of HT_.out (by kernel_rfl)) (fun _ _ _ h => h) (Or.inl ⟨by rfl, ?_⟩) ?_ ?_
  rotate_left
  ·intro w'
   go_simp
   with_reducible rfl
  rotate_left
  ·simp only [Act.put, List.setIfInBounds_toArray, List.set_cons_zero, List.set_cons_succ, i64_w, i32_w]
   rfl
  refine take_ (i := 15) (N := some 27) (v := ?_) (a' := ?_) #[true, true, true, true, true, false, false, true, true, false, false, false, true, true, true, true, true, true, false, false, false] rfl rfl (take_ofW HT_.out HW_.out (by kernel_rfl)) (fun _ _ _ h => h) (Or.inl ⟨by rfl, ?_⟩) hHeld ?_ ?_
  rotate_left
  ·rintro w' ⟨s0, s1, s2, s3, s4, s5, s6, s7, s8, s9, s10, s11⟩
   go_simp
   with_reducible rfl
  rotate_left
  ·simp only [Act.put, List.setIfInBounds_toArray, List.set_cons_zero, List.set_cons_succ, i64_w, i32_w]
   rfl
  refine one_ (i := 5) (N := some 17) #[true, true, true, true, true, true, false, true, true, false, false, false, true, true, true, true, true, true, false, false, false] rfl rfl (one_of HT_.out (by kernel_rfl)) (by decide) (fun K hK => ?_)
  refine goes_ Tryd.func52 (by kernel_rfl) rfl #[.agg #[.int .i64 ((rd_T26 l0_3 0).f0), .int .i64 ((rd_T26 l0_3 0).f1), .string ((rd_T26 l0_3 0).f2), .slice A139_3 ((rd_T26 l0_3 0).f3).length c139_3], .int .i64 t123] (by rfl) rfl rfl (by (try simp only [List.map_toArray, List.map_cons, List.map_nil]); first | done | rfl | (simp only [List.length_drop, List.length_take]; rfl)) ?_
  with_reducible refine (ih k (by omega) ((rd_T26 l0_3 0).f0) ((rd_T26 l0_3 0).f1) ((rd_T26 l0_3 0).f2) _ _ ((rd_T26 l0_3 0).f3) t123 t140 _ ?side1 ?side2 A60.out).mono ?_
  (case side1 => repeat (first | exact (Kd.C_below HR139_3.out HB.out) | (with_reducible refine Kd.C_alloc ?_ _) | (with_reducible refine Kd.C_drewN ?_ _) | (with_reducible refine Kd.C_drew ?_)))
  (case side2 => exact HC139_3.out)
  rintro e w69 ⟨rfl, hb⟩
  refine ⟨_, rfl, ?_⟩
  have n0_ := Aside0.mk (blk_below (g := gb122) (o := .cells #[.int .i64 a0_0, .int .i64 a0_1, .string a0_2, .slice (some ad139) l0_3.length c0_3] 26 (0, 0)) (by (with_reducible repeat (first | refine blk_drewN ?_ _ | refine blk_drew ?_ | refine blk_alloc ?_ _)); exact BK122.out) hb)
  have n1_ := Aside0.mk (below_step (by repeat (first | (with_reducible first | exact HB.out | apply below_alloc | apply pw_below_drewN | apply below_drew1 | refine below_set ?_ GE122.out) | exact HB.out)) hb)
  clear BK122
  clear HB
  have BK122 := n0_
  have HB := n1_
  clear n0_ n1_
  (try clear hb)
  (try clear hb2)
  (try clear hk)
  (try clear hi)
  refine hK.out _ _ ⟨(blk_cell BK122.out 0).trans rfl, (blk_cell BK122.out 1).trans rfl, (blk_cell BK122.out 2).trans rfl, (blk_cell BK122.out 3).trans rfl, ((HB.out.cell (World.block_lt_of_cell? w _ hw139_0)).trans hw139_0), ((HB.out.cell (World.block_lt_of_cell? w _ hw139_1)).trans hw139_1), ((HB.out.cell (World.block_lt_of_cell? w _ hw139_2)).trans hw139_2), ((HB.out.cell (World.block_lt_of_cell? w _ hw139_3)).trans hw139_3), ((HB.out.cell (World.block_lt_of_cell? w _ hw142_0)).trans hw142_0), ((HB.out.cell (World.block_lt_of_cell? w _ hw142_1)).trans hw142_1), ((HB.out.cell (World.block_lt_of_cell? w _ hw142_2)).trans hw142_2), ((HB.out.cell (World.block_lt_of_cell? w _ hw142_3)).trans hw142_3)⟩ (fun hHeld => ?_)
  clear hK K
  refine norm_ (a' := ?_) ?_ ?_
  rotate_left
  ·show Act.put _ (some 17) _ = _
   simp only [Act.put, List.setIfInBounds_toArray, List.set_cons_zero, List.set_cons_succ, i64_w, i32_w]
   rfl
  refine pure_ (i := 6) (N := some 18) (v := ?_) (a' := ?_) #[true, true, true, true, true, true, true, true, true, false, false, false, true, true, true, true, true, true, false, false, false] rfl rfl (any_of HT_.out (by kernel_rfl)) (fun _ _ _ h => h) (Or.inl ⟨by rfl, ?_⟩) ?_ ?_
  rotate_left
  ·intro w'
   go_simp
   with_reducible rfl
  rotate_left
  ·simp only [Act.put, List.setIfInBounds_toArray, List.set_cons_zero, List.set_cons_succ, i64_w, i32_w]
   rfl
  refine one_ (i := 9) (N := some 21) #[true, true, true, true, true, true, true, true, true, true, false, false, true, true, true, true, true, true, false, false, false] rfl rfl (one_of HT_.out (by kernel_rfl)) (by decide) (fun K hK => ?_)
  refine goes_ Tryd.func80 (by kernel_rfl) rfl #[.int .i64 a0_0] (by rfl) rfl rfl (by (try simp only [List.map_toArray, List.map_cons, List.map_nil]); first | done | rfl | (simp only [List.length_drop, List.length_take]; rfl)) ?_
  with_reducible refine (arith_sign.calls a0_0 t141 _ A62.out).mono ?_
  rintro e w70 ⟨rfl, hb⟩
  refine ⟨_, rfl, ?_⟩
  have n0_ := Aside0.mk (blk_below (g := gb122) (o := .cells #[.int .i64 a0_0, .int .i64 a0_1, .string a0_2, .slice (some ad139) l0_3.length c0_3] 26 (0, 0)) (by (with_reducible repeat (first | refine blk_drewN ?_ _ | refine blk_drew ?_ | refine blk_alloc ?_ _)); exact BK122.out) hb)
  have n1_ := Aside0.mk (below_step (by repeat (first | (with_reducible first | exact HB.out | apply below_alloc | apply pw_below_drewN | apply below_drew1 | refine below_set ?_ GE122.out) | exact HB.out)) hb)
  clear BK122
  clear HB
  have BK122 := n0_
  have HB := n1_
  clear n0_ n1_
  (try clear hb)
  (try clear hb2)
  (try clear hk)
  (try clear hi)
  refine hK.out _ _ ⟨(blk_cell BK122.out 0).trans rfl, (blk_cell BK122.out 1).trans rfl, (blk_cell BK122.out 2).trans rfl, (blk_cell BK122.out 3).trans rfl, ((HB.out.cell (World.block_lt_of_cell? w _ hw139_0)).trans hw139_0), ((HB.out.cell (World.block_lt_of_cell? w _ hw139_1)).trans hw139_1), ((HB.out.cell (World.block_lt_of_cell? w _ hw139_2)).trans hw139_2), ((HB.out.cell (World.block_lt_of_cell? w _ hw139_3)).trans hw139_3), ((HB.out.cell (World.block_lt_of_cell? w _ hw142_0)).trans hw142_0), ((HB.out.cell (World.block_lt_of_cell? w _ hw142_1)).trans hw142_1), ((HB.out.cell (World.block_lt_of_cell? w _ hw142_2)).trans hw142_2), ((HB.out.cell (World.block_lt_of_cell? w _ hw142_3)).trans hw142_3)⟩ (fun hHeld => ?_)
  clear hK K
  refine norm_ (a' := ?_) ?_ ?_
  rotate_left
  ·show Act.put _ (some 21) _ = _
   simp only [Act.put, List.setIfInBounds_toArray, List.set_cons_zero, List.set_cons_succ, i64_w, i32_w]
   rfl
  refine pure_ (i := 10) (N := some 22) (v := ?_) (a' := ?_) #[true, true, true, true, true, true, true, true, true, true, true, false, true, true, true, true, true, true, false, false, false] rfl rfl (any_of HT_.out (by kernel_rfl)) (fun _ _ _ h => h) (Or.inl ⟨by rfl, ?_⟩) ?_ ?_
  rotate_left
  ·intro w'
   go_simp
   with_reducible rfl
  rotate_left
  ·simp only [Act.put, List.setIfInBounds_toArray, List.set_cons_zero, List.set_cons_succ, i64_w, i32_w]
   rfl
  refine pure_ (i := 11) (N := some 23) (v := ?_) (a' := ?_) #[true, true, true, true, true, true, true, true, true, true, true, true, true, true, true, true, true, true, false, false, false] rfl rfl (any_of HT_.out (by kernel_rfl)) (fun _ _ _ h => h) (Or.inl ⟨by rfl, ?_⟩) ?_ ?_
  rotate_left
  ·intro w'
   go_simp
   with_reducible rfl
  rotate_left
  ·simp only [Act.put, List.setIfInBounds_toArray, List.set_cons_zero, List.set_cons_succ, i64_w, i32_w]
   rfl
  refine one_ (i := 18) (N := some 30) #[true, true, true, true, true, true, true, true, true, true, true, true, true, true, true, true, true, true, true, false, false] rfl rfl (one_of HT_.out (by kernel_rfl)) (by decide) (fun K hK => ?_)
  refine goes_ Tryd.func52 (by kernel_rfl) rfl #[.agg #[.int .i64 ((rd_T26 l0_3 1).f0), .int .i64 ((rd_T26 l0_3 1).f1), .string ((rd_T26 l0_3 1).f2), .slice A142_3 ((rd_T26 l0_3 1).f3).length c142_3], .int .i64 (wrap64 (t123 + 1))] (by rfl) rfl rfl (by (try simp only [List.map_toArray, List.map_cons, List.map_nil]); first | done | rfl | (simp only [List.length_drop, List.length_take]; rfl)) ?_
  with_reducible refine (ih k (by omega) ((rd_T26 l0_3 1).f0) ((rd_T26 l0_3 1).f1) ((rd_T26 l0_3 1).f2) _ _ ((rd_T26 l0_3 1).f3) (wrap64 (t123 + 1)) t143 _ ?side1 ?side2 A66.out).mono ?_
  (case side1 => repeat (first | exact (Kd.C_below HR142_3.out HB.out) | (with_reducible refine Kd.C_alloc ?_ _) | (with_reducible refine Kd.C_drewN ?_ _) | (with_reducible refine Kd.C_drew ?_)))
  (case side2 => exact HC142_3.out)
  rintro e w71 ⟨rfl, hb⟩
  refine ⟨_, rfl, ?_⟩
  have n0_ := Aside0.mk (blk_below (g := gb122) (o := .cells #[.int .i64 a0_0, .int .i64 a0_1, .string a0_2, .slice (some ad139) l0_3.length c0_3] 26 (0, 0)) (by (with_reducible repeat (first | refine blk_drewN ?_ _ | refine blk_drew ?_ | refine blk_alloc ?_ _)); exact BK122.out) hb)
  have n1_ := Aside0.mk (below_step (by repeat (first | (with_reducible first | exact HB.out | apply below_alloc | apply pw_below_drewN | apply below_drew1 | refine below_set ?_ GE122.out) | exact HB.out)) hb)
  clear BK122
  clear HB
  have BK122 := n0_
  have HB := n1_
  clear n0_ n1_
  (try clear hb)
  (try clear hb2)
  (try clear hk)
  (try clear hi)
  refine hK.out _ _ ⟨(blk_cell BK122.out 0).trans rfl, (blk_cell BK122.out 1).trans rfl, (blk_cell BK122.out 2).trans rfl, (blk_cell BK122.out 3).trans rfl, ((HB.out.cell (World.block_lt_of_cell? w _ hw139_0)).trans hw139_0), ((HB.out.cell (World.block_lt_of_cell? w _ hw139_1)).trans hw139_1), ((HB.out.cell (World.block_lt_of_cell? w _ hw139_2)).trans hw139_2), ((HB.out.cell (World.block_lt_of_cell? w _ hw139_3)).trans hw139_3), ((HB.out.cell (World.block_lt_of_cell? w _ hw142_0)).trans hw142_0), ((HB.out.cell (World.block_lt_of_cell? w _ hw142_1)).trans hw142_1), ((HB.out.cell (World.block_lt_of_cell? w _ hw142_2)).trans hw142_2), ((HB.out.cell (World.block_lt_of_cell? w _ hw142_3)).trans hw142_3)⟩ (fun hHeld => ?_)
  clear hK K
  refine norm_ (a' := ?_) ?_ ?_
  rotate_left
  ·show Act.put _ (some 30) _ = _
   simp only [Act.put, List.setIfInBounds_toArray, List.set_cons_zero, List.set_cons_succ, i64_w, i32_w]
   rfl
  refine pure_ (i := 19) (N := some 31) (v := ?_) (a' := ?_) #[true, true, true, true, true, true, true, true, true, true, true, true, true, true, true, true, true, true, true, true, false] rfl rfl (any_of HT_.out (by kernel_rfl)) (fun _ _ _ h => h) (Or.inl ⟨by rfl, ?_⟩) ?_ ?_
  rotate_left
  ·intro w'
   go_simp
   with_reducible rfl
  rotate_left
  ·simp only [Act.put, List.setIfInBounds_toArray, List.set_cons_zero, List.set_cons_succ, i64_w, i32_w]
   rfl
  refine pure_ (i := 20) (N := some 6) (v := ?_) (a' := ?_) #[true, true, true, true, true, true, true, true, true, true, true, true, true, true, true, true, true, true, true, true, true] rfl rfl (any_of HT_.out (by kernel_rfl)) (fun _ _ _ h => h) (Or.inl ⟨by rfl, ?_⟩) ?_ ?_
  rotate_left
  ·intro w'
   go_simp
   with_reducible rfl
  rotate_left
  ·simp only [Act.put, List.setIfInBounds_toArray, List.set_cons_zero, List.set_cons_succ, i64_w, i32_w]
   rfl
  refine done_ (done_of HT_.out (by kernel_rfl)) ?_
  try go_wp2
  go_meet
  case rel => exact ⟨_, ((((t140 ++ (⟨#[32]⟩ : ByteArray)) ++ t141) ++ (⟨#[32]⟩ : ByteArray)) ++ t143), (by first | rfl | (simp; done) | (simp [*]; done)), H', ⟨by first | omega | exact Nat.le_refl _⟩, ⟨by (with_reducible repeat (first | refine blk_drewN ?_ _ | refine blk_drew ?_ | refine blk_alloc ?_ _)); exact BK122.out⟩, ⟨by repeat (first | (with_reducible first | exact HB.out | apply below_alloc | apply pw_below_drewN | apply below_drew1 | refine below_set ?_ GE122.out) | exact HB.out)⟩⟩
 case rest =>
  clear HC4
  obtain ⟨kq, x6_3, rfl, HA, HJ3, BK122, HB⟩ := hcut
  cases kq with
  | zero => exact absurd HA.out (by simp [arith_show.j0])
  | succ kj3 =>
   have H := HA.out
   clear HA
   simp only [arith_show.j0] at H
   by_cases c72 : t123 < a1
   rotate_left
   ·rw [if_neg c72] at H
    have c72b0 : decide (t123 < a1) = false := decide_eq_false c72
    clear c72
    obtain rfl := Option.some.inj H
    go_wp2
    go_ret
    exact ⟨by first | rfl | (simp [errW_none, errW_some] <;> rfl) | (simp [*, errW_none, errW_some] <;> rfl), by repeat (first | (with_reducible first | exact HB.out | apply below_alloc | apply pw_below_drewN | apply below_drew1 | refine below_set ?_ GE122.out) | exact HB.out)⟩
   rw [if_pos c72] at H
   have c72b0 : decide (t123 < a1) = true := decide_eq_true c72
   clear c72
   by_cases c73 : 1 + x6_3.size ≤ 9223372036854775807
   rotate_left
   ·rw [if_neg c73] at H
    exact absurd H (by simp)
   rw [if_pos c73] at H
   have c73b0 := eq_true c73
   have c73b1 : decide (1 + x6_3.size ≤ 9223372036854775807) = true := decide_eq_true c73
   try have c73b2 : (9223372036854775807 < 1 + x6_3.size) = False := eq_false (Nat.not_lt.2 c73)
   by_cases c74 : ((⟨#[40]⟩ : ByteArray) ++ x6_3).size + 1 ≤ 9223372036854775807
   rotate_left
   ·rw [if_neg c74] at H
    exact absurd H (by simp)
   rw [if_pos c74] at H
   have c74b0 := eq_true c74
   have c74b1 : decide (((⟨#[40]⟩ : ByteArray) ++ x6_3).size + 1 ≤ 9223372036854775807) = true := decide_eq_true c74
   try have c74b2 : (9223372036854775807 < ((⟨#[40]⟩ : ByteArray) ++ x6_3).size + 1) = False := eq_false (Nat.not_lt.2 c74)
   try have c74b3 := c74b2
   try simp only [ByteArray.size_append, show (⟨#[40]⟩ : ByteArray).size = 1 from rfl, Nat.zero_add, Nat.add_zero] at c74b3
   obtain rfl := Option.some.inj H
   go_wp2
   go_ret
   exact ⟨by first | rfl | (simp [errW_none, errW_some] <;> rfl) | (simp [*, errW_none, errW_some] <;> rfl), by repeat (first | (with_reducible first | exact HB.out | apply below_alloc | apply pw_below_drewN | apply below_drew1 | refine below_set ?_ GE122.out) | exact HB.out)⟩
def arith_Show.f (k : Nat) (a0_0 : Int) (a0_1 : Int) (a0_2 : ByteArray) (l0_3 : List (S26)) : Option (ByteArray × Int) := (arith_Valid.f k a0_0 a0_1 a0_2 l0_3).bind fun t145 => (if t145 = 0 then ((arith_size.f k a0_0 a0_1 a0_2 l0_3).bind fun t146 => (if t146 > 4096 then (some ((⟨#[]⟩ : ByteArray), 3)) else ((arith_show.f k a0_0 a0_1 a0_2 l0_3 1).bind fun t147 => (if (t147.size : Int) > 4096 then (some ((⟨#[]⟩ : ByteArray), 3)) else (some (t147, 0)))))) else (some ((⟨#[]⟩ : ByteArray), t145)))
theorem arith_Show.mono : ∀ a0 a1 a2 a3 k, LeO (arith_Show.f k a0 a1 a2 a3) (arith_Show.f (k + 1) a0 a1 a2 a3) := by
 intro a0 a1 a2 a3 k
 unfold arith_Show.f
 repeat' first
  | (with_reducible exact arith_Valid.mono _ _ _ _ _)
  | (with_reducible exact arith_show.mono _ _ _ _ _ _)
  | (with_reducible exact arith_size.mono _ _ _ _ _)
  | (with_reducible exact LeO.refl _)
  | (with_reducible exact LeO.none _)
  | (with_reducible refine LeO.ite ?_ ?_)
  | (with_reducible refine LeO.bind ?_ (fun _ => ?_))
  | exact arith_Valid.mono _ _ _ _ _
  | exact arith_show.mono _ _ _ _ _ _
  | exact arith_size.mono _ _ _ _ _
  | exact LeO.none _
  | refine LeO.ite ?_ ?_
  | refine LeO.bind ?_ (fun _ => ?_)
set_option maxHeartbeats 8000000 in
set_option maxRecDepth 100000 in
theorem arith_Show.calls (k : Nat) (a0_0 : Int) (a0_1 : Int) (a0_2 : ByteArray) (A0_3 : Option Addr) (c0_3 : Nat) (l0_3 : List (S26)) (r1 : ByteArray) (r2 : Int) (w : World) (hr0_3 : Kd.C k26 w A0_3 l0_3.length l0_3) (hc0_3 : l0_3.length ≤ c0_3) (h : arith_Show.f k a0_0 a0_1 a0_2 l0_3 = some (r1, r2)) (hT : Laid w := by first | assumption | exact HT.out | exact Laid.below HT.out (by repeat (first | (with_reducible first | exact HB.out | apply below_alloc | apply pw_below_drewN | apply below_drew1 | refine below_set ?_ (Aside0.out (by assumption))) | exact HB.out))) :
 Calls Tryd.prog 22 #[.agg #[.int .i64 a0_0, .int .i64 a0_1, .string a0_2, .slice A0_3 l0_3.length c0_3]] w fun e w' => e = .returned (.tuple #[.string r1, .int .i64 r2]) ∧ Below w.heap.size w w' := by
 have hu26 := Tryd.underlying26
 have HR0_3 := Aside0.mk hr0_3
 have HC0_3 := Aside0.mk hc0_3
 clear hr0_3 hc0_3
 have HB := Aside0.mk (Below.refl w.heap.size w)
 have HT : Aside0 (Laid w) := Aside0.mk hT
 clear hT
 have H : ((arith_Valid.f k a0_0 a0_1 a0_2 l0_3).bind fun t145 => (if t145 = 0 then ((arith_size.f k a0_0 a0_1 a0_2 l0_3).bind fun t146 => (if t146 > 4096 then (some ((⟨#[]⟩ : ByteArray), 3)) else ((arith_show.f k a0_0 a0_1 a0_2 l0_3 1).bind fun t147 => (if (t147.size : Int) > 4096 then (some ((⟨#[]⟩ : ByteArray), 3)) else (some (t147, 0)))))) else (some ((⟨#[]⟩ : ByteArray), t145)))) = some (r1, r2) := h
 clear h
 replace H := Option.bind_eq_some_iff.mp H
 obtain ⟨t145, A20, H⟩ := H
 try dsimp only at H
 have A2 := Aside0.mk A20
 clear A20
 by_cases c3 : t145 = 0
 rotate_left
 ·rw [if_neg c3] at H
  have c3b0 : (t145 == 0) = false := beq_eq_false_iff_ne.mpr c3
  have c3b1 : (t145 != 0) = true := bne_iff_ne.mpr c3
  simp only [Option.some.injEq, Prod.mk.injEq] at H
  obtain ⟨rfl, rfl⟩ := H
  go_enter Tryd.func22, Tryd.ntmps22
  go_wp2_with (first | ((with_reducible refine gate_dst (N := 1) rfl ?_); refine box_event ?hg (N := 1) ?hd (cs := #[.int .i64 a0_0, .int .i64 a0_1, .string a0_2, .slice A0_3 l0_3.length c0_3]) (t := 26) ?hr ?_; (case hd => rfl); (case hg => rfl); (case hr => first | (go_simp; done) | (go_simp; rfl)); intro gb144 hg w27 hbox hb; have n0_ := Aside0.mk (below_step (by repeat (first | (with_reducible first | exact HB.out | apply below_alloc | apply pw_below_drewN | apply below_drew1) | exact HB.out)) hb); have n1_ := Aside0.mk (hbox); have n2_ := Aside0.mk ((by rw [hg]; exact (below_size (by repeat (first | (with_reducible first | exact HB.out | apply below_alloc | apply pw_below_drewN | apply below_drew1) | exact HB.out))) : w.heap.size ≤ gb144)); have n3_ := Aside0.mk ((by rw [hg]; exact (below_size (by repeat (first | (with_reducible first | exact HB.out | apply below_alloc | apply pw_below_drewN | apply below_drew1) | exact HB.out))) : w.heap.size ≤ gb144)); clear HB; have HB := n0_; have BK144 := n1_; have GW144 := n2_; have GE144 := n3_; clear n0_ n1_ n2_ n3_; clear hb hbox hg; have hcz28_0 : w27.cell? ⟨gb144, 0, none⟩ = some (.int .i64 a0_0) := (blk_cell BK144.out 0).trans rfl; have hcz28_1 : w27.cell? ⟨gb144, 1, none⟩ = some (.int .i64 a0_1) := (blk_cell BK144.out 1).trans rfl; have hcz28_2 : w27.cell? ⟨gb144, 2, none⟩ = some (.string a0_2) := (blk_cell BK144.out 2).trans rfl; have hcz28_3 : w27.cell? ⟨gb144, 3, none⟩ = some (.slice A0_3 l0_3.length c0_3) := (blk_cell BK144.out 3).trans rfl; have hfz28_0 := blk_frozen BK144.out 0; have hfz28_1 := blk_frozen BK144.out 1; have hfz28_2 := blk_frozen BK144.out 2; have hfz28_3 := blk_frozen BK144.out 3) | ((with_reducible refine gate_callee (f := 24) rfl ?_); refine goesL_ (some 7) rfl rfl Tryd.func24 (by kernel_rfl) rfl #[.agg #[.int .i64 a0_0, .int .i64 a0_1, .string a0_2, .slice A0_3 l0_3.length c0_3]] rfl (by (try simp only [List.map_toArray, List.map_cons, List.map_nil]); first | done | rfl | (simp only [List.length_drop, List.length_take]; rfl)) ?_; (with_reducible refine (arith_Valid.calls k a0_0 a0_1 a0_2 _ _ l0_3 t145 _ ?side1 ?side2 A2.out).mono ?_); (case side1 => repeat (first | exact (Kd.C_below HR0_3.out HB.out) | (with_reducible refine Kd.C_alloc ?_ _) | (with_reducible refine Kd.C_drewN ?_ _) | (with_reducible refine Kd.C_drew ?_))); (case side2 => exact HC0_3.out); rintro e w29 ⟨rfl, hb⟩; refine ⟨_, rfl, ?_⟩; have n0_ := Aside0.mk (blk_below (g := gb144) (o := .cells #[.int .i64 a0_0, .int .i64 a0_1, .string a0_2, .slice A0_3 l0_3.length c0_3] 26 (0, 0)) (by (with_reducible repeat (first | refine blk_drewN ?_ _ | refine blk_drew ?_ | refine blk_alloc ?_ _)); exact BK144.out) hb); have n1_ := Aside0.mk (below_step (by repeat (first | (with_reducible first | exact HB.out | apply below_alloc | apply pw_below_drewN | apply below_drew1 | refine below_set ?_ GE144.out) | exact HB.out)) hb); clear BK144; clear HB; have BK144 := n0_; have HB := n1_; clear n0_ n1_; (try clear hb); (try clear hb2); (try clear hk); (try clear hi)))
  go_ret2
  exact ⟨by first | rfl | (simp [errW_none, errW_some] <;> rfl) | (simp [*, errW_none, errW_some] <;> rfl), by repeat (first | (with_reducible first | exact HB.out | apply below_alloc | apply pw_below_drewN | apply below_drew1 | refine below_set ?_ GE144.out) | exact HB.out)⟩
 rw [if_pos c3] at H
 have c3b0 : (t145 == 0) = true := beq_iff_eq.mpr c3
 have c3b1 : (t145 != 0) = false := bne_eq_false_iff_eq.mpr c3
 clear c3
 replace H := Option.bind_eq_some_iff.mp H
 obtain ⟨t146, A40, H⟩ := H
 try dsimp only at H
 have A4 := Aside0.mk A40
 clear A40
 by_cases c5 : t146 > 4096
 ·rw [if_pos c5] at H
  have c5b0 : decide (4096 < t146) = true := decide_eq_true c5
  clear c5
  simp only [Option.some.injEq, Prod.mk.injEq] at H
  obtain ⟨rfl, rfl⟩ := H
  go_enter Tryd.func22, Tryd.ntmps22
  go_wp2_with (first | ((with_reducible refine gate_dst (N := 1) rfl ?_); refine box_event ?hg (N := 1) ?hd (cs := #[.int .i64 a0_0, .int .i64 a0_1, .string a0_2, .slice A0_3 l0_3.length c0_3]) (t := 26) ?hr ?_; (case hd => rfl); (case hg => rfl); (case hr => first | (go_simp; done) | (go_simp; rfl)); intro gb144 hg w6 hbox hb; have n0_ := Aside0.mk (below_step (by repeat (first | (with_reducible first | exact HB.out | apply below_alloc | apply pw_below_drewN | apply below_drew1) | exact HB.out)) hb); have n1_ := Aside0.mk (hbox); have n2_ := Aside0.mk ((by rw [hg]; exact (below_size (by repeat (first | (with_reducible first | exact HB.out | apply below_alloc | apply pw_below_drewN | apply below_drew1) | exact HB.out))) : w.heap.size ≤ gb144)); have n3_ := Aside0.mk ((by rw [hg]; exact (below_size (by repeat (first | (with_reducible first | exact HB.out | apply below_alloc | apply pw_below_drewN | apply below_drew1) | exact HB.out))) : w.heap.size ≤ gb144)); clear HB; have HB := n0_; have BK144 := n1_; have GW144 := n2_; have GE144 := n3_; clear n0_ n1_ n2_ n3_; clear hb hbox hg; have hcz7_0 : w6.cell? ⟨gb144, 0, none⟩ = some (.int .i64 a0_0) := (blk_cell BK144.out 0).trans rfl; have hcz7_1 : w6.cell? ⟨gb144, 1, none⟩ = some (.int .i64 a0_1) := (blk_cell BK144.out 1).trans rfl; have hcz7_2 : w6.cell? ⟨gb144, 2, none⟩ = some (.string a0_2) := (blk_cell BK144.out 2).trans rfl; have hcz7_3 : w6.cell? ⟨gb144, 3, none⟩ = some (.slice A0_3 l0_3.length c0_3) := (blk_cell BK144.out 3).trans rfl; have hfz7_0 := blk_frozen BK144.out 0; have hfz7_1 := blk_frozen BK144.out 1; have hfz7_2 := blk_frozen BK144.out 2; have hfz7_3 := blk_frozen BK144.out 3) | ((with_reducible refine gate_callee (f := 24) rfl ?_); refine goesL_ (some 7) rfl rfl Tryd.func24 (by kernel_rfl) rfl #[.agg #[.int .i64 a0_0, .int .i64 a0_1, .string a0_2, .slice A0_3 l0_3.length c0_3]] rfl (by (try simp only [List.map_toArray, List.map_cons, List.map_nil]); first | done | rfl | (simp only [List.length_drop, List.length_take]; rfl)) ?_; (with_reducible refine (arith_Valid.calls k a0_0 a0_1 a0_2 _ _ l0_3 t145 _ ?side1 ?side2 A2.out).mono ?_); (case side1 => repeat (first | exact (Kd.C_below HR0_3.out HB.out) | (with_reducible refine Kd.C_alloc ?_ _) | (with_reducible refine Kd.C_drewN ?_ _) | (with_reducible refine Kd.C_drew ?_))); (case side2 => exact HC0_3.out); rintro e w8 ⟨rfl, hb⟩; refine ⟨_, rfl, ?_⟩; have n0_ := Aside0.mk (blk_below (g := gb144) (o := .cells #[.int .i64 a0_0, .int .i64 a0_1, .string a0_2, .slice A0_3 l0_3.length c0_3] 26 (0, 0)) (by (with_reducible repeat (first | refine blk_drewN ?_ _ | refine blk_drew ?_ | refine blk_alloc ?_ _)); exact BK144.out) hb); have n1_ := Aside0.mk (below_step (by repeat (first | (with_reducible first | exact HB.out | apply below_alloc | apply pw_below_drewN | apply below_drew1 | refine below_set ?_ GE144.out) | exact HB.out)) hb); clear BK144; clear HB; have BK144 := n0_; have HB := n1_; clear n0_ n1_; (try clear hb); (try clear hb2); (try clear hk); (try clear hi); have hcz9_0 : w8.cell? ⟨gb144, 0, none⟩ = some (.int .i64 a0_0) := (blk_cell BK144.out 0).trans rfl; have hcz9_1 : w8.cell? ⟨gb144, 1, none⟩ = some (.int .i64 a0_1) := (blk_cell BK144.out 1).trans rfl; have hcz9_2 : w8.cell? ⟨gb144, 2, none⟩ = some (.string a0_2) := (blk_cell BK144.out 2).trans rfl; have hcz9_3 : w8.cell? ⟨gb144, 3, none⟩ = some (.slice A0_3 l0_3.length c0_3) := (blk_cell BK144.out 3).trans rfl; have hfz9_0 := blk_frozen BK144.out 0; have hfz9_1 := blk_frozen BK144.out 1; have hfz9_2 := blk_frozen BK144.out 2; have hfz9_3 := blk_frozen BK144.out 3) | ((with_reducible refine gate_callee (f := 51) rfl ?_); refine goesL_ (some 12) rfl rfl Tryd.func51 (by kernel_rfl) rfl #[.agg #[.int .i64 a0_0, .int .i64 a0_1, .string a0_2, .slice A0_3 l0_3.length c0_3]] rfl (by (try simp only [List.map_toArray, List.map_cons, List.map_nil]); first | done | rfl | (simp only [List.length_drop, List.length_take]; rfl)) ?_; (with_reducible refine (arith_size.calls k a0_0 a0_1 a0_2 _ _ l0_3 t146 _ ?side1 ?side2 A4.out).mono ?_); (case side1 => repeat (first | exact (Kd.C_below HR0_3.out HB.out) | (with_reducible refine Kd.C_alloc ?_ _) | (with_reducible refine Kd.C_drewN ?_ _) | (with_reducible refine Kd.C_drew ?_))); (case side2 => exact HC0_3.out); rintro e w10 ⟨rfl, hb⟩; refine ⟨_, rfl, ?_⟩; have n0_ := Aside0.mk (blk_below (g := gb144) (o := .cells #[.int .i64 a0_0, .int .i64 a0_1, .string a0_2, .slice A0_3 l0_3.length c0_3] 26 (0, 0)) (by (with_reducible repeat (first | refine blk_drewN ?_ _ | refine blk_drew ?_ | refine blk_alloc ?_ _)); exact BK144.out) hb); have n1_ := Aside0.mk (below_step (by repeat (first | (with_reducible first | exact HB.out | apply below_alloc | apply pw_below_drewN | apply below_drew1 | refine below_set ?_ GE144.out) | exact HB.out)) hb); clear BK144; clear HB; have BK144 := n0_; have HB := n1_; clear n0_ n1_; (try clear hb); (try clear hb2); (try clear hk); (try clear hi)))
  go_ret2
  exact ⟨by first | rfl | (simp [errW_none, errW_some] <;> rfl) | (simp [*, errW_none, errW_some] <;> rfl), by repeat (first | (with_reducible first | exact HB.out | apply below_alloc | apply pw_below_drewN | apply below_drew1 | refine below_set ?_ GE144.out) | exact HB.out)⟩
 rw [if_neg c5] at H
 have c5b0 : decide (4096 < t146) = false := decide_eq_false c5
 clear c5
 replace H := Option.bind_eq_some_iff.mp H
 obtain ⟨t147, A110, H⟩ := H
 try dsimp only at H
 have A11 := Aside0.mk A110
 clear A110
 by_cases c12 : (t147.size : Int) > 4096
 ·rw [if_pos c12] at H
  have c12b0 : decide (4096 < (t147.size : Int)) = true := decide_eq_true c12
  have c12b1 : decide (4096 < t147.size) = true := decide_eq_true (by omega)
  clear c12
  simp only [Option.some.injEq, Prod.mk.injEq] at H
  obtain ⟨rfl, rfl⟩ := H
  go_enter Tryd.func22, Tryd.ntmps22
  go_wp2_with (first | ((with_reducible refine gate_dst (N := 1) rfl ?_); refine box_event ?hg (N := 1) ?hd (cs := #[.int .i64 a0_0, .int .i64 a0_1, .string a0_2, .slice A0_3 l0_3.length c0_3]) (t := 26) ?hr ?_; (case hd => rfl); (case hg => rfl); (case hr => first | (go_simp; done) | (go_simp; rfl)); intro gb144 hg w13 hbox hb; have n0_ := Aside0.mk (below_step (by repeat (first | (with_reducible first | exact HB.out | apply below_alloc | apply pw_below_drewN | apply below_drew1) | exact HB.out)) hb); have n1_ := Aside0.mk (hbox); have n2_ := Aside0.mk ((by rw [hg]; exact (below_size (by repeat (first | (with_reducible first | exact HB.out | apply below_alloc | apply pw_below_drewN | apply below_drew1) | exact HB.out))) : w.heap.size ≤ gb144)); have n3_ := Aside0.mk ((by rw [hg]; exact (below_size (by repeat (first | (with_reducible first | exact HB.out | apply below_alloc | apply pw_below_drewN | apply below_drew1) | exact HB.out))) : w.heap.size ≤ gb144)); clear HB; have HB := n0_; have BK144 := n1_; have GW144 := n2_; have GE144 := n3_; clear n0_ n1_ n2_ n3_; clear hb hbox hg; have hcz14_0 : w13.cell? ⟨gb144, 0, none⟩ = some (.int .i64 a0_0) := (blk_cell BK144.out 0).trans rfl; have hcz14_1 : w13.cell? ⟨gb144, 1, none⟩ = some (.int .i64 a0_1) := (blk_cell BK144.out 1).trans rfl; have hcz14_2 : w13.cell? ⟨gb144, 2, none⟩ = some (.string a0_2) := (blk_cell BK144.out 2).trans rfl; have hcz14_3 : w13.cell? ⟨gb144, 3, none⟩ = some (.slice A0_3 l0_3.length c0_3) := (blk_cell BK144.out 3).trans rfl; have hfz14_0 := blk_frozen BK144.out 0; have hfz14_1 := blk_frozen BK144.out 1; have hfz14_2 := blk_frozen BK144.out 2; have hfz14_3 := blk_frozen BK144.out 3) | ((with_reducible refine gate_callee (f := 24) rfl ?_); refine goesL_ (some 7) rfl rfl Tryd.func24 (by kernel_rfl) rfl #[.agg #[.int .i64 a0_0, .int .i64 a0_1, .string a0_2, .slice A0_3 l0_3.length c0_3]] rfl (by (try simp only [List.map_toArray, List.map_cons, List.map_nil]); first | done | rfl | (simp only [List.length_drop, List.length_take]; rfl)) ?_; (with_reducible refine (arith_Valid.calls k a0_0 a0_1 a0_2 _ _ l0_3 t145 _ ?side1 ?side2 A2.out).mono ?_); (case side1 => repeat (first | exact (Kd.C_below HR0_3.out HB.out) | (with_reducible refine Kd.C_alloc ?_ _) | (with_reducible refine Kd.C_drewN ?_ _) | (with_reducible refine Kd.C_drew ?_))); (case side2 => exact HC0_3.out); rintro e w15 ⟨rfl, hb⟩; refine ⟨_, rfl, ?_⟩; have n0_ := Aside0.mk (blk_below (g := gb144) (o := .cells #[.int .i64 a0_0, .int .i64 a0_1, .string a0_2, .slice A0_3 l0_3.length c0_3] 26 (0, 0)) (by (with_reducible repeat (first | refine blk_drewN ?_ _ | refine blk_drew ?_ | refine blk_alloc ?_ _)); exact BK144.out) hb); have n1_ := Aside0.mk (below_step (by repeat (first | (with_reducible first | exact HB.out | apply below_alloc | apply pw_below_drewN | apply below_drew1 | refine below_set ?_ GE144.out) | exact HB.out)) hb); clear BK144; clear HB; have BK144 := n0_; have HB := n1_; clear n0_ n1_; (try clear hb); (try clear hb2); (try clear hk); (try clear hi); have hcz16_0 : w15.cell? ⟨gb144, 0, none⟩ = some (.int .i64 a0_0) := (blk_cell BK144.out 0).trans rfl; have hcz16_1 : w15.cell? ⟨gb144, 1, none⟩ = some (.int .i64 a0_1) := (blk_cell BK144.out 1).trans rfl; have hcz16_2 : w15.cell? ⟨gb144, 2, none⟩ = some (.string a0_2) := (blk_cell BK144.out 2).trans rfl; have hcz16_3 : w15.cell? ⟨gb144, 3, none⟩ = some (.slice A0_3 l0_3.length c0_3) := (blk_cell BK144.out 3).trans rfl; have hfz16_0 := blk_frozen BK144.out 0; have hfz16_1 := blk_frozen BK144.out 1; have hfz16_2 := blk_frozen BK144.out 2; have hfz16_3 := blk_frozen BK144.out 3) | ((with_reducible refine gate_callee (f := 51) rfl ?_); refine goesL_ (some 12) rfl rfl Tryd.func51 (by kernel_rfl) rfl #[.agg #[.int .i64 a0_0, .int .i64 a0_1, .string a0_2, .slice A0_3 l0_3.length c0_3]] rfl (by (try simp only [List.map_toArray, List.map_cons, List.map_nil]); first | done | rfl | (simp only [List.length_drop, List.length_take]; rfl)) ?_; (with_reducible refine (arith_size.calls k a0_0 a0_1 a0_2 _ _ l0_3 t146 _ ?side1 ?side2 A4.out).mono ?_); (case side1 => repeat (first | exact (Kd.C_below HR0_3.out HB.out) | (with_reducible refine Kd.C_alloc ?_ _) | (with_reducible refine Kd.C_drewN ?_ _) | (with_reducible refine Kd.C_drew ?_))); (case side2 => exact HC0_3.out); rintro e w17 ⟨rfl, hb⟩; refine ⟨_, rfl, ?_⟩; have n0_ := Aside0.mk (blk_below (g := gb144) (o := .cells #[.int .i64 a0_0, .int .i64 a0_1, .string a0_2, .slice A0_3 l0_3.length c0_3] 26 (0, 0)) (by (with_reducible repeat (first | refine blk_drewN ?_ _ | refine blk_drew ?_ | refine blk_alloc ?_ _)); exact BK144.out) hb); have n1_ := Aside0.mk (below_step (by repeat (first | (with_reducible first | exact HB.out | apply below_alloc | apply pw_below_drewN | apply below_drew1 | refine below_set ?_ GE144.out) | exact HB.out)) hb); clear BK144; clear HB; have BK144 := n0_; have HB := n1_; clear n0_ n1_; (try clear hb); (try clear hb2); (try clear hk); (try clear hi); have hcz18_0 : w17.cell? ⟨gb144, 0, none⟩ = some (.int .i64 a0_0) := (blk_cell BK144.out 0).trans rfl; have hcz18_1 : w17.cell? ⟨gb144, 1, none⟩ = some (.int .i64 a0_1) := (blk_cell BK144.out 1).trans rfl; have hcz18_2 : w17.cell? ⟨gb144, 2, none⟩ = some (.string a0_2) := (blk_cell BK144.out 2).trans rfl; have hcz18_3 : w17.cell? ⟨gb144, 3, none⟩ = some (.slice A0_3 l0_3.length c0_3) := (blk_cell BK144.out 3).trans rfl; have hfz18_0 := blk_frozen BK144.out 0; have hfz18_1 := blk_frozen BK144.out 1; have hfz18_2 := blk_frozen BK144.out 2; have hfz18_3 := blk_frozen BK144.out 3) | ((with_reducible refine gate_callee (f := 52) rfl ?_); refine goesL_ (some 15) rfl rfl Tryd.func52 (by kernel_rfl) rfl #[.agg #[.int .i64 a0_0, .int .i64 a0_1, .string a0_2, .slice A0_3 l0_3.length c0_3], .int .i64 1] rfl (by (try simp only [List.map_toArray, List.map_cons, List.map_nil]); first | done | rfl | (simp only [List.length_drop, List.length_take]; rfl)) ?_; (with_reducible refine (arith_show.calls k a0_0 a0_1 a0_2 _ _ l0_3 1 t147 _ ?side1 ?side2 A11.out).mono ?_); (case side1 => repeat (first | exact (Kd.C_below HR0_3.out HB.out) | (with_reducible refine Kd.C_alloc ?_ _) | (with_reducible refine Kd.C_drewN ?_ _) | (with_reducible refine Kd.C_drew ?_))); (case side2 => exact HC0_3.out); rintro e w19 ⟨rfl, hb⟩; refine ⟨_, rfl, ?_⟩; have n0_ := Aside0.mk (blk_below (g := gb144) (o := .cells #[.int .i64 a0_0, .int .i64 a0_1, .string a0_2, .slice A0_3 l0_3.length c0_3] 26 (0, 0)) (by (with_reducible repeat (first | refine blk_drewN ?_ _ | refine blk_drew ?_ | refine blk_alloc ?_ _)); exact BK144.out) hb); have n1_ := Aside0.mk (below_step (by repeat (first | (with_reducible first | exact HB.out | apply below_alloc | apply pw_below_drewN | apply below_drew1 | refine below_set ?_ GE144.out) | exact HB.out)) hb); clear BK144; clear HB; have BK144 := n0_; have HB := n1_; clear n0_ n1_; (try clear hb); (try clear hb2); (try clear hk); (try clear hi)))
  go_ret2
  exact ⟨by first | rfl | (simp [errW_none, errW_some] <;> rfl) | (simp [*, errW_none, errW_some] <;> rfl), by repeat (first | (with_reducible first | exact HB.out | apply below_alloc | apply pw_below_drewN | apply below_drew1 | refine below_set ?_ GE144.out) | exact HB.out)⟩
 rw [if_neg c12] at H
 have c12b0 : decide (4096 < (t147.size : Int)) = false := decide_eq_false c12
 have c12b1 : decide (4096 < t147.size) = false := decide_eq_false (by omega)
 clear c12
 simp only [Option.some.injEq, Prod.mk.injEq] at H
 obtain ⟨rfl, rfl⟩ := H
 go_enter Tryd.func22, Tryd.ntmps22
 go_wp2_with (first | ((with_reducible refine gate_dst (N := 1) rfl ?_); refine box_event ?hg (N := 1) ?hd (cs := #[.int .i64 a0_0, .int .i64 a0_1, .string a0_2, .slice A0_3 l0_3.length c0_3]) (t := 26) ?hr ?_; (case hd => rfl); (case hg => rfl); (case hr => first | (go_simp; done) | (go_simp; rfl)); intro gb144 hg w20 hbox hb; have n0_ := Aside0.mk (below_step (by repeat (first | (with_reducible first | exact HB.out | apply below_alloc | apply pw_below_drewN | apply below_drew1) | exact HB.out)) hb); have n1_ := Aside0.mk (hbox); have n2_ := Aside0.mk ((by rw [hg]; exact (below_size (by repeat (first | (with_reducible first | exact HB.out | apply below_alloc | apply pw_below_drewN | apply below_drew1) | exact HB.out))) : w.heap.size ≤ gb144)); have n3_ := Aside0.mk ((by rw [hg]; exact (below_size (by repeat (first | (with_reducible first | exact HB.out | apply below_alloc | apply pw_below_drewN | apply below_drew1) | exact HB.out))) : w.heap.size ≤ gb144)); clear HB; have HB := n0_; have BK144 := n1_; have GW144 := n2_; have GE144 := n3_; clear n0_ n1_ n2_ n3_; clear hb hbox hg; have hcz21_0 : w20.cell? ⟨gb144, 0, none⟩ = some (.int .i64 a0_0) := (blk_cell BK144.out 0).trans rfl; have hcz21_1 : w20.cell? ⟨gb144, 1, none⟩ = some (.int .i64 a0_1) := (blk_cell BK144.out 1).trans rfl; have hcz21_2 : w20.cell? ⟨gb144, 2, none⟩ = some (.string a0_2) := (blk_cell BK144.out 2).trans rfl; have hcz21_3 : w20.cell? ⟨gb144, 3, none⟩ = some (.slice A0_3 l0_3.length c0_3) := (blk_cell BK144.out 3).trans rfl; have hfz21_0 := blk_frozen BK144.out 0; have hfz21_1 := blk_frozen BK144.out 1; have hfz21_2 := blk_frozen BK144.out 2; have hfz21_3 := blk_frozen BK144.out 3) | ((with_reducible refine gate_callee (f := 24) rfl ?_); refine goesL_ (some 7) rfl rfl Tryd.func24 (by kernel_rfl) rfl #[.agg #[.int .i64 a0_0, .int .i64 a0_1, .string a0_2, .slice A0_3 l0_3.length c0_3]] rfl (by (try simp only [List.map_toArray, List.map_cons, List.map_nil]); first | done | rfl | (simp only [List.length_drop, List.length_take]; rfl)) ?_; (with_reducible refine (arith_Valid.calls k a0_0 a0_1 a0_2 _ _ l0_3 t145 _ ?side1 ?side2 A2.out).mono ?_); (case side1 => repeat (first | exact (Kd.C_below HR0_3.out HB.out) | (with_reducible refine Kd.C_alloc ?_ _) | (with_reducible refine Kd.C_drewN ?_ _) | (with_reducible refine Kd.C_drew ?_))); (case side2 => exact HC0_3.out); rintro e w22 ⟨rfl, hb⟩; refine ⟨_, rfl, ?_⟩; have n0_ := Aside0.mk (blk_below (g := gb144) (o := .cells #[.int .i64 a0_0, .int .i64 a0_1, .string a0_2, .slice A0_3 l0_3.length c0_3] 26 (0, 0)) (by (with_reducible repeat (first | refine blk_drewN ?_ _ | refine blk_drew ?_ | refine blk_alloc ?_ _)); exact BK144.out) hb); have n1_ := Aside0.mk (below_step (by repeat (first | (with_reducible first | exact HB.out | apply below_alloc | apply pw_below_drewN | apply below_drew1 | refine below_set ?_ GE144.out) | exact HB.out)) hb); clear BK144; clear HB; have BK144 := n0_; have HB := n1_; clear n0_ n1_; (try clear hb); (try clear hb2); (try clear hk); (try clear hi); have hcz23_0 : w22.cell? ⟨gb144, 0, none⟩ = some (.int .i64 a0_0) := (blk_cell BK144.out 0).trans rfl; have hcz23_1 : w22.cell? ⟨gb144, 1, none⟩ = some (.int .i64 a0_1) := (blk_cell BK144.out 1).trans rfl; have hcz23_2 : w22.cell? ⟨gb144, 2, none⟩ = some (.string a0_2) := (blk_cell BK144.out 2).trans rfl; have hcz23_3 : w22.cell? ⟨gb144, 3, none⟩ = some (.slice A0_3 l0_3.length c0_3) := (blk_cell BK144.out 3).trans rfl; have hfz23_0 := blk_frozen BK144.out 0; have hfz23_1 := blk_frozen BK144.out 1; have hfz23_2 := blk_frozen BK144.out 2; have hfz23_3 := blk_frozen BK144.out 3) | ((with_reducible refine gate_callee (f := 51) rfl ?_); refine goesL_ (some 12) rfl rfl Tryd.func51 (by kernel_rfl) rfl #[.agg #[.int .i64 a0_0, .int .i64 a0_1, .string a0_2, .slice A0_3 l0_3.length c0_3]] rfl (by (try simp only [List.map_toArray, List.map_cons, List.map_nil]); first | done | rfl | (simp only [List.length_drop, List.length_take]; rfl)) ?_; (with_reducible refine (arith_size.calls k a0_0 a0_1 a0_2 _ _ l0_3 t146 _ ?side1 ?side2 A4.out).mono ?_); (case side1 => repeat (first | exact (Kd.C_below HR0_3.out HB.out) | (with_reducible refine Kd.C_alloc ?_ _) | (with_reducible refine Kd.C_drewN ?_ _) | (with_reducible refine Kd.C_drew ?_))); (case side2 => exact HC0_3.out); rintro e w24 ⟨rfl, hb⟩; refine ⟨_, rfl, ?_⟩; have n0_ := Aside0.mk (blk_below (g := gb144) (o := .cells #[.int .i64 a0_0, .int .i64 a0_1, .string a0_2, .slice A0_3 l0_3.length c0_3] 26 (0, 0)) (by (with_reducible repeat (first | refine blk_drewN ?_ _ | refine blk_drew ?_ | refine blk_alloc ?_ _)); exact BK144.out) hb); have n1_ := Aside0.mk (below_step (by repeat (first | (with_reducible first | exact HB.out | apply below_alloc | apply pw_below_drewN | apply below_drew1 | refine below_set ?_ GE144.out) | exact HB.out)) hb); clear BK144; clear HB; have BK144 := n0_; have HB := n1_; clear n0_ n1_; (try clear hb); (try clear hb2); (try clear hk); (try clear hi); have hcz25_0 : w24.cell? ⟨gb144, 0, none⟩ = some (.int .i64 a0_0) := (blk_cell BK144.out 0).trans rfl; have hcz25_1 : w24.cell? ⟨gb144, 1, none⟩ = some (.int .i64 a0_1) := (blk_cell BK144.out 1).trans rfl; have hcz25_2 : w24.cell? ⟨gb144, 2, none⟩ = some (.string a0_2) := (blk_cell BK144.out 2).trans rfl; have hcz25_3 : w24.cell? ⟨gb144, 3, none⟩ = some (.slice A0_3 l0_3.length c0_3) := (blk_cell BK144.out 3).trans rfl; have hfz25_0 := blk_frozen BK144.out 0; have hfz25_1 := blk_frozen BK144.out 1; have hfz25_2 := blk_frozen BK144.out 2; have hfz25_3 := blk_frozen BK144.out 3) | ((with_reducible refine gate_callee (f := 52) rfl ?_); refine goesL_ (some 15) rfl rfl Tryd.func52 (by kernel_rfl) rfl #[.agg #[.int .i64 a0_0, .int .i64 a0_1, .string a0_2, .slice A0_3 l0_3.length c0_3], .int .i64 1] rfl (by (try simp only [List.map_toArray, List.map_cons, List.map_nil]); first | done | rfl | (simp only [List.length_drop, List.length_take]; rfl)) ?_; (with_reducible refine (arith_show.calls k a0_0 a0_1 a0_2 _ _ l0_3 1 t147 _ ?side1 ?side2 A11.out).mono ?_); (case side1 => repeat (first | exact (Kd.C_below HR0_3.out HB.out) | (with_reducible refine Kd.C_alloc ?_ _) | (with_reducible refine Kd.C_drewN ?_ _) | (with_reducible refine Kd.C_drew ?_))); (case side2 => exact HC0_3.out); rintro e w26 ⟨rfl, hb⟩; refine ⟨_, rfl, ?_⟩; have n0_ := Aside0.mk (blk_below (g := gb144) (o := .cells #[.int .i64 a0_0, .int .i64 a0_1, .string a0_2, .slice A0_3 l0_3.length c0_3] 26 (0, 0)) (by (with_reducible repeat (first | refine blk_drewN ?_ _ | refine blk_drew ?_ | refine blk_alloc ?_ _)); exact BK144.out) hb); have n1_ := Aside0.mk (below_step (by repeat (first | (with_reducible first | exact HB.out | apply below_alloc | apply pw_below_drewN | apply below_drew1 | refine below_set ?_ GE144.out) | exact HB.out)) hb); clear BK144; clear HB; have BK144 := n0_; have HB := n1_; clear n0_ n1_; (try clear hb); (try clear hb2); (try clear hk); (try clear hi)))
 go_ret2
 exact ⟨by first | rfl | (simp [errW_none, errW_some] <;> rfl) | (simp [*, errW_none, errW_some] <;> rfl), by repeat (first | (with_reducible first | exact HB.out | apply below_alloc | apply pw_below_drewN | apply below_drew1 | refine below_set ?_ GE144.out) | exact HB.out)⟩
def jobshelllaw05_awake.j0 : Nat → Bool → Int → Int → ByteArray → List (S26) → Int → Int → ByteArray → List (S26) → Option (Bool)
 | 0, _, _, _, _, _, _, _, _, _ => none
 | k + 1, x73, x157000, x157001, x157002, x157003, x177000, x177001, x177002, x177003 => if x73 = true then (some false) else (if x157000 = 7 then (if x177000 = 26 then ((arith_Same.f k x157000 x157001 x157002 x157003 x157000 x157001 x157002 x157003).bind fun t182 => (if t182 = true then ((arith_Same.f k x157000 x157001 x157002 x157003 x177000 x177001 x177002 x177003).bind fun t183 => (if t183 = true then (some false) else ((arith_Valid.f k 0 0 (⟨#[]⟩ : ByteArray) ([] : List (S26))).bind fun t184 => (if t184 = 1 then ((arith_Valid.f k x157000 x157001 x157002 x157003).bind fun t185 => (some (t185 == 0))) else (some false))))) else (some false))) else (some false)) else (some false))
def jobshelllaw05_awake.f (k : Nat)  : Option (Bool) := (arith_Parse.f k (⟨#[40, 49, 43, 50, 41, 42, 51]⟩ : ByteArray)).bind fun bt148 => ((arith_Show.f k bt148.1 bt148.2.1 bt148.2.2.1 bt148.2.2.2.1).bind fun bt157 => ((arith_Parse.f k (⟨#[97, 43, 98, 61, 50]⟩ : ByteArray)).bind fun bt159 => ((arith_Parse.f k (⟨#[97, 61, 98, 43, 61, 50]⟩ : ByteArray)).bind fun bt168 => ((arith_Names.f k bt168.1 bt168.2.1 bt168.2.2.1 bt168.2.2.2.1).bind fun t177 => (if bt148.2.2.2.2.2 = 0 then (if bt157.2 = 0 then (if bt157.1.toList = ([40, 49, 32, 43, 32, 50, 41, 32, 42, 32, 51] : List UInt8) then (if bt159.2.2.2.2.1 = 3 then (if bt159.2.2.2.2.2 = 6 then (if bt168.2.2.2.2.2 = 0 then (if (t177.length : Int) = 2 then (if 0 < (t177.length : Int) then (if (rdOf ByteArray.empty t177 0).toList = ([97] : List UInt8) then (if 1 < (t177.length : Int) then (jobshelllaw05_awake.j0 k ((rdOf ByteArray.empty t177 1).toList != ([98] : List UInt8)) bt148.1 bt148.2.1 bt148.2.2.1 bt148.2.2.2.1 bt168.1 bt168.2.1 bt168.2.2.1 bt168.2.2.2.1) else (none)) else (jobshelllaw05_awake.j0 k true bt148.1 bt148.2.1 bt148.2.2.1 bt148.2.2.2.1 bt168.1 bt168.2.1 bt168.2.2.1 bt168.2.2.2.1)) else (none)) else (jobshelllaw05_awake.j0 k true bt148.1 bt148.2.1 bt148.2.2.1 bt148.2.2.2.1 bt168.1 bt168.2.1 bt168.2.2.1 bt168.2.2.2.1)) else (jobshelllaw05_awake.j0 k true bt148.1 bt148.2.1 bt148.2.2.1 bt148.2.2.2.1 bt168.1 bt168.2.1 bt168.2.2.1 bt168.2.2.2.1)) else (jobshelllaw05_awake.j0 k true bt148.1 bt148.2.1 bt148.2.2.1 bt148.2.2.2.1 bt168.1 bt168.2.1 bt168.2.2.1 bt168.2.2.2.1)) else (jobshelllaw05_awake.j0 k true bt148.1 bt148.2.1 bt148.2.2.1 bt148.2.2.2.1 bt168.1 bt168.2.1 bt168.2.2.1 bt168.2.2.2.1)) else (jobshelllaw05_awake.j0 k true bt148.1 bt148.2.1 bt148.2.2.1 bt148.2.2.2.1 bt168.1 bt168.2.1 bt168.2.2.1 bt168.2.2.2.1)) else (jobshelllaw05_awake.j0 k true bt148.1 bt148.2.1 bt148.2.2.1 bt148.2.2.2.1 bt168.1 bt168.2.1 bt168.2.2.1 bt168.2.2.2.1)) else (jobshelllaw05_awake.j0 k true bt148.1 bt148.2.1 bt148.2.2.1 bt148.2.2.2.1 bt168.1 bt168.2.1 bt168.2.2.1 bt168.2.2.2.1))))))
theorem jobshelllaw05_awake.mono_l : ∀ k, (∀ y0 y1 y2 y3 y4 y5 y6 y7 y8, LeO (jobshelllaw05_awake.j0 k y0 y1 y2 y3 y4 y5 y6 y7 y8) (jobshelllaw05_awake.j0 (k + 1) y0 y1 y2 y3 y4 y5 y6 y7 y8))
 | 0 => fun _ _ _ _ _ _ _ _ _ r h => by simp [jobshelllaw05_awake.j0] at h
 | k + 1 => by
  have ih0 := jobshelllaw05_awake.mono_l k
  ·intro y0 y1 y2 y3 y4 y5 y6 y7 y8
   unfold jobshelllaw05_awake.j0
   repeat' first
   | (with_reducible exact ih0 _ _ _ _ _ _ _ _ _)
   | (with_reducible exact arith_Names.mono _ _ _ _ _)
   | (with_reducible exact arith_Parse.mono _ _)
   | (with_reducible exact arith_Same.mono _ _ _ _ _ _ _ _ _)
   | (with_reducible exact arith_Show.mono _ _ _ _ _)
   | (with_reducible exact arith_Valid.mono _ _ _ _ _)
   | (with_reducible exact LeO.refl _)
   | (with_reducible exact LeO.none _)
   | (with_reducible refine LeO.ite ?_ ?_)
   | (with_reducible refine LeO.bind ?_ (fun _ => ?_))
   | exact ih0 _ _ _ _ _ _ _ _ _
   | exact arith_Names.mono _ _ _ _ _
   | exact arith_Parse.mono _ _
   | exact arith_Same.mono _ _ _ _ _ _ _ _ _
   | exact arith_Show.mono _ _ _ _ _
   | exact arith_Valid.mono _ _ _ _ _
   | exact LeO.none _
   | refine LeO.ite ?_ ?_
   | refine LeO.bind ?_ (fun _ => ?_)
theorem jobshelllaw05_awake.mono : ∀ k, LeO (jobshelllaw05_awake.f k ) (jobshelllaw05_awake.f (k + 1) ) := by
 intro  k
 have ih0 := jobshelllaw05_awake.mono_l k
 unfold jobshelllaw05_awake.f
 repeat' first
  | (with_reducible exact ih0 _ _ _ _ _ _ _ _ _)
  | (with_reducible exact arith_Names.mono _ _ _ _ _)
  | (with_reducible exact arith_Parse.mono _ _)
  | (with_reducible exact arith_Same.mono _ _ _ _ _ _ _ _ _)
  | (with_reducible exact arith_Show.mono _ _ _ _ _)
  | (with_reducible exact arith_Valid.mono _ _ _ _ _)
  | (with_reducible exact LeO.refl _)
  | (with_reducible exact LeO.none _)
  | (with_reducible refine LeO.ite ?_ ?_)
  | (with_reducible refine LeO.bind ?_ (fun _ => ?_))
  | exact ih0 _ _ _ _ _ _ _ _ _
  | exact arith_Names.mono _ _ _ _ _
  | exact arith_Parse.mono _ _
  | exact arith_Same.mono _ _ _ _ _ _ _ _ _
  | exact arith_Show.mono _ _ _ _ _
  | exact arith_Valid.mono _ _ _ _ _
  | exact LeO.none _
  | refine LeO.ite ?_ ?_
  | refine LeO.bind ?_ (fun _ => ?_)
theorem awake_no (k : Nat) (x0 x1 : Int) (x2 : ByteArray) (x3 : List S26) (y0 y1 : Int) (y2 : ByteArray) (y3 : List S26) : ¬ jobshelllaw05_awake.j0 k true x0 x1 x2 x3 y0 y1 y2 y3 = some true := by
 cases k <;> simp [jobshelllaw05_awake.j0]
set_option maxHeartbeats 40000000 in
set_option maxRecDepth 100000 in
theorem jobshelllaw05_awake.calls_true (k : Nat) (w : World) (h : jobshelllaw05_awake.f k  = some true) (hT : Laid w := by first | assumption | exact HT.out | exact Laid.below HT.out (by repeat (first | (with_reducible first | exact HB.out | apply below_alloc | apply pw_below_drewN | apply below_drew1 | refine below_set ?_ (Aside0.out (by assumption))) | exact HB.out))) :
 Calls Tryd.prog 17 #[] w fun e w' => e = .returned (.bool true) ∧ Below w.heap.size w w' := by
 have hu26 := Tryd.underlying26
 have HB := Aside0.mk (Below.refl w.heap.size w)
 have HT : Aside0 (Laid w) := Aside0.mk hT
 clear hT
 have H : ((arith_Parse.f k (⟨#[40, 49, 43, 50, 41, 42, 51]⟩ : ByteArray)).bind fun bt148 => ((arith_Show.f k bt148.1 bt148.2.1 bt148.2.2.1 bt148.2.2.2.1).bind fun bt157 => ((arith_Parse.f k (⟨#[97, 43, 98, 61, 50]⟩ : ByteArray)).bind fun bt159 => ((arith_Parse.f k (⟨#[97, 61, 98, 43, 61, 50]⟩ : ByteArray)).bind fun bt168 => ((arith_Names.f k bt168.1 bt168.2.1 bt168.2.2.1 bt168.2.2.2.1).bind fun t177 => (if bt148.2.2.2.2.2 = 0 then (if bt157.2 = 0 then (if bt157.1.toList = ([40, 49, 32, 43, 32, 50, 41, 32, 42, 32, 51] : List UInt8) then (if bt159.2.2.2.2.1 = 3 then (if bt159.2.2.2.2.2 = 6 then (if bt168.2.2.2.2.2 = 0 then (if (t177.length : Int) = 2 then (if 0 < (t177.length : Int) then (if (rdOf ByteArray.empty t177 0).toList = ([97] : List UInt8) then (if 1 < (t177.length : Int) then (jobshelllaw05_awake.j0 k ((rdOf ByteArray.empty t177 1).toList != ([98] : List UInt8)) bt148.1 bt148.2.1 bt148.2.2.1 bt148.2.2.2.1 bt168.1 bt168.2.1 bt168.2.2.1 bt168.2.2.2.1) else (none)) else (jobshelllaw05_awake.j0 k true bt148.1 bt148.2.1 bt148.2.2.1 bt148.2.2.2.1 bt168.1 bt168.2.1 bt168.2.2.1 bt168.2.2.2.1)) else (none)) else (jobshelllaw05_awake.j0 k true bt148.1 bt148.2.1 bt148.2.2.1 bt148.2.2.2.1 bt168.1 bt168.2.1 bt168.2.2.1 bt168.2.2.2.1)) else (jobshelllaw05_awake.j0 k true bt148.1 bt148.2.1 bt148.2.2.1 bt148.2.2.2.1 bt168.1 bt168.2.1 bt168.2.2.1 bt168.2.2.2.1)) else (jobshelllaw05_awake.j0 k true bt148.1 bt148.2.1 bt148.2.2.1 bt148.2.2.2.1 bt168.1 bt168.2.1 bt168.2.2.1 bt168.2.2.2.1)) else (jobshelllaw05_awake.j0 k true bt148.1 bt148.2.1 bt148.2.2.1 bt148.2.2.2.1 bt168.1 bt168.2.1 bt168.2.2.1 bt168.2.2.2.1)) else (jobshelllaw05_awake.j0 k true bt148.1 bt148.2.1 bt148.2.2.1 bt148.2.2.2.1 bt168.1 bt168.2.1 bt168.2.2.1 bt168.2.2.2.1)) else (jobshelllaw05_awake.j0 k true bt148.1 bt148.2.1 bt148.2.2.1 bt148.2.2.2.1 bt168.1 bt168.2.1 bt168.2.2.1 bt168.2.2.2.1)) else (jobshelllaw05_awake.j0 k true bt148.1 bt148.2.1 bt148.2.2.1 bt148.2.2.2.1 bt168.1 bt168.2.1 bt168.2.2.1 bt168.2.2.2.1))))))) = some true := h
 clear h
 replace H := Option.bind_eq_some_iff.mp H
 obtain ⟨⟨t148, t149, t150, t151, t154, t155⟩, A10, H⟩ := H
 try dsimp only at H
 have A1 := Aside0.mk A10
 clear A10
 replace H := Option.bind_eq_some_iff.mp H
 obtain ⟨⟨t157, t158⟩, A20, H⟩ := H
 try dsimp only at H
 have A2 := Aside0.mk A20
 clear A20
 replace H := Option.bind_eq_some_iff.mp H
 obtain ⟨⟨t159, t160, t161, t162, t165, t166⟩, A30, H⟩ := H
 try dsimp only at H
 have A3 := Aside0.mk A30
 clear A30
 replace H := Option.bind_eq_some_iff.mp H
 obtain ⟨⟨t168, t169, t170, t171, t174, t175⟩, A40, H⟩ := H
 try dsimp only at H
 have A4 := Aside0.mk A40
 clear A40
 replace H := Option.bind_eq_some_iff.mp H
 obtain ⟨t177, A50, H⟩ := H
 try dsimp only at H
 have A5 := Aside0.mk A50
 clear A50
 have HC6 := Aside0.mk H
 clear H
 go_enter Tryd.func17, Tryd.ntmps17
 go_upto_region 6 with (first | ((with_reducible refine gate_callee (f := 18) rfl ?_); refine goesL_ (some 14) rfl rfl Tryd.func18 (by kernel_rfl) rfl #[.string (⟨#[40, 49, 43, 50, 41, 42, 51]⟩ : ByteArray)] rfl (by (try simp only [List.map_toArray, List.map_cons, List.map_nil]); first | done | rfl | (simp only [List.length_drop, List.length_take]; rfl)) ?_; (with_reducible refine (arith_Parse.calls k (⟨#[40, 49, 43, 50, 41, 42, 51]⟩ : ByteArray) t148 t149 t150 t151 t154 t155 _ A1.out).mono ?_); rintro e w7 ⟨v152, rfl, ho0, hb⟩; refine ⟨_, rfl, ?_⟩; have n0_ := Aside0.mk (Kd.R_lower ho0 (below_size (by repeat (first | (with_reducible first | exact HB.out | apply below_alloc | apply pw_below_drewN | apply below_drew1) | exact HB.out)))); have n1_ := Aside0.mk (below_step (by repeat (first | (with_reducible first | exact HB.out | apply below_alloc | apply pw_below_drewN | apply below_drew1) | exact HB.out)) hb); clear HB; have HO153 := n0_; have HB := n1_; clear n0_ n1_; (try clear hb); (try clear hb2); (try clear hk); (try clear hi); (try clear ho0)) | ((with_reducible refine gate_dst (N := 1) rfl ?_); (try (refine gate_guard (by rfl) ?_; dsimp only)); refine box_event ?hg (N := 1) ?hd (cs := #[.int .i64 0, .int .i64 0, .string (⟨#[]⟩ : ByteArray), .slice none 0 0]) (t := 26) ?hr ?_; (case hd => rfl); (case hg => rfl); (case hr => first | (go_simp; done) | (go_simp; rfl)); intro gb156 hg w8 hbox hb; have n0_ := Aside0.mk (Kd.R_below (Kd.R_elderB (by (with_reducible repeat (first | apply Kd.R_alloc | apply Kd.R_drewN | apply Kd.R_drew)); exact HO153.out) gb156 (Nat.le_of_eq hg.symm)) hb); have n1_ := Aside0.mk (below_step (by repeat (first | (with_reducible first | exact HB.out | apply below_alloc | apply pw_below_drewN | apply below_drew1) | exact HB.out)) hb); have n2_ := Aside0.mk (hbox); have n3_ := Aside0.mk ((by rw [hg]; exact (below_size (by repeat (first | (with_reducible first | exact HB.out | apply below_alloc | apply pw_below_drewN | apply below_drew1) | exact HB.out))) : w.heap.size ≤ gb156)); have n4_ := Aside0.mk ((by rw [hg]; exact (below_size (by repeat (first | (with_reducible first | exact HB.out | apply below_alloc | apply pw_below_drewN | apply below_drew1) | exact HB.out))) : w.heap.size ≤ gb156)); clear HO153; clear HB; have HO153 := n0_; have HB := n1_; have BK156 := n2_; have GW156 := n3_; have GE156 := n4_; clear n0_ n1_ n2_ n3_ n4_; clear hb hbox hg; have hcz9_0 : w8.cell? ⟨gb156, 0, none⟩ = some (.int .i64 0) := (blk_cell BK156.out 0).trans rfl; have hcz9_1 : w8.cell? ⟨gb156, 1, none⟩ = some (.int .i64 0) := (blk_cell BK156.out 1).trans rfl; have hcz9_2 : w8.cell? ⟨gb156, 2, none⟩ = some (.string (⟨#[]⟩ : ByteArray)) := (blk_cell BK156.out 2).trans rfl; have hcz9_3 : w8.cell? ⟨gb156, 3, none⟩ = some (.slice none 0 0) := (blk_cell BK156.out 3).trans rfl; have hfz9_0 := blk_frozen BK156.out 0; have hfz9_1 := blk_frozen BK156.out 1; have hfz9_2 := blk_frozen BK156.out 2; have hfz9_3 := blk_frozen BK156.out 3; obtain ⟨Ao10, co10, eo10⟩ := Kd.R_slice HO153.out; subst eo10) | ((with_reducible refine gate_callee (f := 22) rfl ?_); refine goesL_ (some 20) rfl rfl Tryd.func22 (by kernel_rfl) rfl #[.agg #[.int .i64 t148, .int .i64 t149, .string t150, .slice Ao10 t151.length co10]] rfl (by (try simp only [List.map_toArray, List.map_cons, List.map_nil]); first | done | rfl | (simp only [List.length_drop, List.length_take]; rfl)) ?_; (with_reducible refine (arith_Show.calls k t148 t149 t150 _ _ t151 t157 t158 _ ?side1 ?side2 A2.out).mono ?_); (case side1 => refine (Kd.R_reads' (e := 26) (base := w.heap.size) (ok := fun k_ => (True ∧ k_ ≠ gb156)) (n := t151.length) (c := co10) ?_).2.2; exact (by (with_reducible repeat (first | apply Kd.R_alloc | apply Kd.R_drewN | apply Kd.R_drew)); exact (Kd.R_mono (Kd.R_far (p := ⟨gb156, 3, none⟩) (Kd.R_far (p := ⟨gb156, 2, none⟩) (Kd.R_far (p := ⟨gb156, 1, none⟩) (Kd.R_far (p := ⟨gb156, 0, none⟩) (Kd.R_mono HO153.out (fun k_ hk => (⟨hk, hk.2⟩ : _ ∧ k_ ≠ gb156))) (fun _ hk => hk.2) (.int .i64 t148)) (fun _ hk => hk.2) (.int .i64 t149)) (fun _ hk => hk.2) (.string t150)) (fun _ hk => hk.2) (.slice Ao10 t151.length co10)) (fun _ h_ => h_.1)))); (case side2 => exact (Kd.R_reads' HO153.out).2.1); rintro e w11 ⟨rfl, hb⟩; refine ⟨_, rfl, ?_⟩; have n0_ := Aside0.mk (Kd.R_below (by (with_reducible repeat (first | apply Kd.R_alloc | apply Kd.R_drewN | apply Kd.R_drew)); exact (Kd.R_mono (Kd.R_far (p := ⟨gb156, 3, none⟩) (Kd.R_far (p := ⟨gb156, 2, none⟩) (Kd.R_far (p := ⟨gb156, 1, none⟩) (Kd.R_far (p := ⟨gb156, 0, none⟩) (Kd.R_mono HO153.out (fun k_ hk => (⟨hk, hk.2⟩ : _ ∧ k_ ≠ gb156))) (fun _ hk => hk.2) (.int .i64 t148)) (fun _ hk => hk.2) (.int .i64 t149)) (fun _ hk => hk.2) (.string t150)) (fun _ hk => hk.2) (.slice Ao10 t151.length co10)) (fun _ h_ => h_.1))) hb); have n1_ := Aside0.mk (blk_below (g := gb156) (o := .cells #[.int .i64 t148, .int .i64 t149, .string t150, .slice Ao10 t151.length co10] 26 (0, 0)) (by (with_reducible repeat (first | refine blk_drewN ?_ _ | refine blk_drew ?_ | refine blk_alloc ?_ _)); refine blk_put (cs := #[.int .i64 t148, .int .i64 t149, .string t150, .slice none 0 0]) ?_ 3 _ rfl; (with_reducible repeat (first | refine blk_drewN ?_ _ | refine blk_drew ?_ | refine blk_alloc ?_ _)); refine blk_put (cs := #[.int .i64 t148, .int .i64 t149, .string (⟨#[]⟩ : ByteArray), .slice none 0 0]) ?_ 2 _ rfl; (with_reducible repeat (first | refine blk_drewN ?_ _ | refine blk_drew ?_ | refine blk_alloc ?_ _)); refine blk_put (cs := #[.int .i64 t148, .int .i64 0, .string (⟨#[]⟩ : ByteArray), .slice none 0 0]) ?_ 1 _ rfl; (with_reducible repeat (first | refine blk_drewN ?_ _ | refine blk_drew ?_ | refine blk_alloc ?_ _)); refine blk_put (cs := #[.int .i64 0, .int .i64 0, .string (⟨#[]⟩ : ByteArray), .slice none 0 0]) ?_ 0 _ rfl; (with_reducible repeat (first | refine blk_drewN ?_ _ | refine blk_drew ?_ | refine blk_alloc ?_ _)); exact BK156.out) hb); have n2_ := Aside0.mk (below_step (by repeat (first | (with_reducible first | exact HB.out | apply below_alloc | apply pw_below_drewN | apply below_drew1 | refine below_set ?_ GE156.out) | exact HB.out)) hb); clear HO153; clear BK156; clear HB; have HO153 := n0_; have BK156 := n1_; have HB := n2_; clear n0_ n1_ n2_; (try clear hb); (try clear hb2); (try clear hk); (try clear hi)) | ((with_reducible refine gate_callee (f := 18) rfl ?_); refine goesL_ (some 24) rfl rfl Tryd.func18 (by kernel_rfl) rfl #[.string (⟨#[97, 43, 98, 61, 50]⟩ : ByteArray)] rfl (by (try simp only [List.map_toArray, List.map_cons, List.map_nil]); first | done | rfl | (simp only [List.length_drop, List.length_take]; rfl)) ?_; (with_reducible refine (arith_Parse.calls k (⟨#[97, 43, 98, 61, 50]⟩ : ByteArray) t159 t160 t161 t162 t165 t166 _ A3.out).mono ?_); rintro e w12 ⟨v163, rfl, ho0, hb⟩; refine ⟨_, rfl, ?_⟩; have n0_ := Aside0.mk (Kd.R_elder' (by (with_reducible repeat (first | apply Kd.R_alloc | apply Kd.R_drewN | apply Kd.R_drew)); exact HO153.out) (Kd.R_base ho0) hb); have n1_ := Aside0.mk (Kd.R_lower (Kd.R_newB (Kd.R_new' ho0 (Kd.R_lt (by (with_reducible repeat (first | apply Kd.R_alloc | apply Kd.R_drewN | apply Kd.R_drew)); exact HO153.out))) (g := gb156) (o := .cells #[.int .i64 t148, .int .i64 t149, .string t150, .slice Ao10 t151.length co10] 26 (0, 0)) (by (with_reducible repeat (first | refine blk_drewN ?_ _ | refine blk_drew ?_ | refine blk_alloc ?_ _)); exact BK156.out)) (below_size (by repeat (first | (with_reducible first | exact HB.out | apply below_alloc | apply pw_below_drewN | apply below_drew1 | refine below_set ?_ GE156.out) | exact HB.out)))); have n2_ := Aside0.mk (blk_below (g := gb156) (o := .cells #[.int .i64 t148, .int .i64 t149, .string t150, .slice Ao10 t151.length co10] 26 (0, 0)) (by (with_reducible repeat (first | refine blk_drewN ?_ _ | refine blk_drew ?_ | refine blk_alloc ?_ _)); exact BK156.out) hb); have n3_ := Aside0.mk (below_step (by repeat (first | (with_reducible first | exact HB.out | apply below_alloc | apply pw_below_drewN | apply below_drew1 | refine below_set ?_ GE156.out) | exact HB.out)) hb); clear HO153; clear BK156; clear HB; have HO153 := n0_; have HO164 := n1_; have BK156 := n2_; have HB := n3_; clear n0_ n1_ n2_ n3_; (try clear hb); (try clear hb2); (try clear hk); (try clear hi); (try clear ho0)) | ((with_reducible refine gate_dst (N := 6) rfl ?_); (try (refine gate_guard (by rfl) ?_; dsimp only)); refine box_event ?hg (N := 6) ?hd (cs := #[.int .i64 0, .int .i64 0, .string (⟨#[]⟩ : ByteArray), .slice none 0 0]) (t := 26) ?hr ?_; (case hd => rfl); (case hg => rfl); (case hr => first | (go_simp; done) | (go_simp; rfl)); intro gb167 hg w13 hbox hb; have n0_ := Aside0.mk (Kd.R_below (Kd.R_elderB (by (with_reducible repeat (first | apply Kd.R_alloc | apply Kd.R_drewN | apply Kd.R_drew)); exact HO153.out) gb167 (Nat.le_of_eq hg.symm)) hb); have n1_ := Aside0.mk (Kd.R_below (Kd.R_elderB (by (with_reducible repeat (first | apply Kd.R_alloc | apply Kd.R_drewN | apply Kd.R_drew)); exact HO164.out) gb167 (Nat.le_of_eq hg.symm)) hb); have n2_ := Aside0.mk (blk_below (g := gb156) (o := .cells #[.int .i64 t148, .int .i64 t149, .string t150, .slice Ao10 t151.length co10] 26 (0, 0)) (by (with_reducible repeat (first | refine blk_drewN ?_ _ | refine blk_drew ?_ | refine blk_alloc ?_ _)); exact BK156.out) hb); have n3_ := Aside0.mk (below_step (by repeat (first | (with_reducible first | exact HB.out | apply below_alloc | apply pw_below_drewN | apply below_drew1 | refine below_set ?_ GE156.out) | exact HB.out)) hb); have n4_ := Aside0.mk (hbox); have n5_ := Aside0.mk ((by rw [hg]; exact (below_size (by repeat (first | (with_reducible first | exact HB.out | apply below_alloc | apply pw_below_drewN | apply below_drew1 | refine below_set ?_ GE156.out) | exact HB.out))) : w.heap.size ≤ gb167)); have n6_ := Aside0.mk ((by rw [hg]; exact (below_size (by repeat (first | (with_reducible first | exact HB.out | apply below_alloc | apply pw_below_drewN | apply below_drew1 | refine below_set ?_ GE156.out) | exact HB.out))) : w.heap.size ≤ gb167)); have n7_ := Aside0.mk ((by rw [hg]; exact Nat.ne_of_lt (blk_lt (g := gb156) (o := .cells #[.int .i64 t148, .int .i64 t149, .string t150, .slice Ao10 t151.length co10] 26 (0, 0)) (by (with_reducible repeat (first | refine blk_drewN ?_ _ | refine blk_drew ?_ | refine blk_alloc ?_ _)); exact BK156.out)) : gb156 ≠ gb167)); have n8_ := Aside0.mk ((by rw [hg]; exact Nat.ne_of_gt (blk_lt (g := gb156) (o := .cells #[.int .i64 t148, .int .i64 t149, .string t150, .slice Ao10 t151.length co10] 26 (0, 0)) (by (with_reducible repeat (first | refine blk_drewN ?_ _ | refine blk_drew ?_ | refine blk_alloc ?_ _)); exact BK156.out)) : gb167 ≠ gb156)); clear HO153; clear HO164; clear BK156; clear HB; have HO153 := n0_; have HO164 := n1_; have BK156 := n2_; have HB := n3_; have BK167 := n4_; have GW167 := n5_; have GE167 := n6_; have NB156_167 := n7_; have NB167_156 := n8_; clear n0_ n1_ n2_ n3_ n4_ n5_ n6_ n7_ n8_; clear hb hbox hg; have hnb14 := NB167_156.out; have hnc14 := NB156_167.out; have hcz15_0 : w13.cell? ⟨gb167, 0, none⟩ = some (.int .i64 0) := (blk_cell BK167.out 0).trans rfl; have hcz15_1 : w13.cell? ⟨gb167, 1, none⟩ = some (.int .i64 0) := (blk_cell BK167.out 1).trans rfl; have hcz15_2 : w13.cell? ⟨gb167, 2, none⟩ = some (.string (⟨#[]⟩ : ByteArray)) := (blk_cell BK167.out 2).trans rfl; have hcz15_3 : w13.cell? ⟨gb167, 3, none⟩ = some (.slice none 0 0) := (blk_cell BK167.out 3).trans rfl; have hfz15_0 := blk_frozen BK167.out 0; have hfz15_1 := blk_frozen BK167.out 1; have hfz15_2 := blk_frozen BK167.out 2; have hfz15_3 := blk_frozen BK167.out 3; obtain ⟨Ao16, co16, eo16⟩ := Kd.R_slice HO164.out; subst eo16) | ((with_reducible refine gate_callee (f := 18) rfl ?_); refine goesL_ (some 29) rfl rfl Tryd.func18 (by kernel_rfl) rfl #[.string (⟨#[97, 61, 98, 43, 61, 50]⟩ : ByteArray)] rfl (by (try simp only [List.map_toArray, List.map_cons, List.map_nil]); first | done | rfl | (simp only [List.length_drop, List.length_take]; rfl)) ?_; (with_reducible refine (arith_Parse.calls k (⟨#[97, 61, 98, 43, 61, 50]⟩ : ByteArray) t168 t169 t170 t171 t174 t175 _ A4.out).mono ?_); rintro e w17 ⟨v172, rfl, ho0, hb⟩; refine ⟨_, rfl, ?_⟩; have n0_ := Aside0.mk (Kd.R_elder' (by (with_reducible repeat (first | apply Kd.R_alloc | apply Kd.R_drewN | apply Kd.R_drew)); exact (Kd.R_mono (Kd.R_far (p := ⟨gb167, 3, none⟩) (Kd.R_far (p := ⟨gb167, 2, none⟩) (Kd.R_far (p := ⟨gb167, 1, none⟩) (Kd.R_far (p := ⟨gb167, 0, none⟩) (Kd.R_mono HO153.out (fun k_ hk => (⟨hk, hk.2⟩ : _ ∧ k_ ≠ gb167))) (fun _ hk => hk.2) (.int .i64 t159)) (fun _ hk => hk.2) (.int .i64 t160)) (fun _ hk => hk.2) (.string t161)) (fun _ hk => hk.2) (.slice Ao16 t162.length co16)) (fun _ h_ => h_.1))) (Kd.R_base ho0) hb); have n1_ := Aside0.mk (Kd.R_elder' (by (with_reducible repeat (first | apply Kd.R_alloc | apply Kd.R_drewN | apply Kd.R_drew)); exact (Kd.R_mono (Kd.R_far (p := ⟨gb167, 3, none⟩) (Kd.R_far (p := ⟨gb167, 2, none⟩) (Kd.R_far (p := ⟨gb167, 1, none⟩) (Kd.R_far (p := ⟨gb167, 0, none⟩) (Kd.R_mono HO164.out (fun k_ hk => (⟨hk, hk.2⟩ : _ ∧ k_ ≠ gb167))) (fun _ hk => hk.2) (.int .i64 t159)) (fun _ hk => hk.2) (.int .i64 t160)) (fun _ hk => hk.2) (.string t161)) (fun _ hk => hk.2) (.slice Ao16 t162.length co16)) (fun _ h_ => h_.1))) (Kd.R_base ho0) hb); have n2_ := Aside0.mk (Kd.R_lower (Kd.R_newB (Kd.R_newB (Kd.R_new' (Kd.R_new' ho0 (Kd.R_lt (by (with_reducible repeat (first | apply Kd.R_alloc | apply Kd.R_drewN | apply Kd.R_drew)); exact (Kd.R_mono (Kd.R_far (p := ⟨gb167, 3, none⟩) (Kd.R_far (p := ⟨gb167, 2, none⟩) (Kd.R_far (p := ⟨gb167, 1, none⟩) (Kd.R_far (p := ⟨gb167, 0, none⟩) (Kd.R_mono HO153.out (fun k_ hk => (⟨hk, hk.2⟩ : _ ∧ k_ ≠ gb167))) (fun _ hk => hk.2) (.int .i64 t159)) (fun _ hk => hk.2) (.int .i64 t160)) (fun _ hk => hk.2) (.string t161)) (fun _ hk => hk.2) (.slice Ao16 t162.length co16)) (fun _ h_ => h_.1))))) (Kd.R_lt (by (with_reducible repeat (first | apply Kd.R_alloc | apply Kd.R_drewN | apply Kd.R_drew)); exact (Kd.R_mono (Kd.R_far (p := ⟨gb167, 3, none⟩) (Kd.R_far (p := ⟨gb167, 2, none⟩) (Kd.R_far (p := ⟨gb167, 1, none⟩) (Kd.R_far (p := ⟨gb167, 0, none⟩) (Kd.R_mono HO164.out (fun k_ hk => (⟨hk, hk.2⟩ : _ ∧ k_ ≠ gb167))) (fun _ hk => hk.2) (.int .i64 t159)) (fun _ hk => hk.2) (.int .i64 t160)) (fun _ hk => hk.2) (.string t161)) (fun _ hk => hk.2) (.slice Ao16 t162.length co16)) (fun _ h_ => h_.1))))) (g := gb156) (o := .cells #[.int .i64 t148, .int .i64 t149, .string t150, .slice Ao10 t151.length co10] 26 (0, 0)) (by (with_reducible repeat (first | refine blk_drewN ?_ _ | refine blk_drew ?_ | refine blk_alloc ?_ _)); refine blk_far ?_ NB156_167.out _; (with_reducible repeat (first | refine blk_drewN ?_ _ | refine blk_drew ?_ | refine blk_alloc ?_ _)); refine blk_far ?_ NB156_167.out _; (with_reducible repeat (first | refine blk_drewN ?_ _ | refine blk_drew ?_ | refine blk_alloc ?_ _)); refine blk_far ?_ NB156_167.out _; (with_reducible repeat (first | refine blk_drewN ?_ _ | refine blk_drew ?_ | refine blk_alloc ?_ _)); refine blk_far ?_ NB156_167.out _; (with_reducible repeat (first | refine blk_drewN ?_ _ | refine blk_drew ?_ | refine blk_alloc ?_ _)); exact BK156.out)) (g := gb167) (o := .cells #[.int .i64 t159, .int .i64 t160, .string t161, .slice Ao16 t162.length co16] 26 (0, 0)) (by (with_reducible repeat (first | refine blk_drewN ?_ _ | refine blk_drew ?_ | refine blk_alloc ?_ _)); refine blk_put (cs := #[.int .i64 t159, .int .i64 t160, .string t161, .slice none 0 0]) ?_ 3 _ rfl; (with_reducible repeat (first | refine blk_drewN ?_ _ | refine blk_drew ?_ | refine blk_alloc ?_ _)); refine blk_put (cs := #[.int .i64 t159, .int .i64 t160, .string (⟨#[]⟩ : ByteArray), .slice none 0 0]) ?_ 2 _ rfl; (with_reducible repeat (first | refine blk_drewN ?_ _ | refine blk_drew ?_ | refine blk_alloc ?_ _)); refine blk_put (cs := #[.int .i64 t159, .int .i64 0, .string (⟨#[]⟩ : ByteArray), .slice none 0 0]) ?_ 1 _ rfl; (with_reducible repeat (first | refine blk_drewN ?_ _ | refine blk_drew ?_ | refine blk_alloc ?_ _)); refine blk_put (cs := #[.int .i64 0, .int .i64 0, .string (⟨#[]⟩ : ByteArray), .slice none 0 0]) ?_ 0 _ rfl; (with_reducible repeat (first | refine blk_drewN ?_ _ | refine blk_drew ?_ | refine blk_alloc ?_ _)); exact BK167.out)) (below_size (by repeat (first | (with_reducible first | exact HB.out | apply below_alloc | apply pw_below_drewN | apply below_drew1 | refine below_set ?_ GE156.out | refine below_set ?_ GE167.out) | exact HB.out)))); have n3_ := Aside0.mk (blk_below (g := gb156) (o := .cells #[.int .i64 t148, .int .i64 t149, .string t150, .slice Ao10 t151.length co10] 26 (0, 0)) (by (with_reducible repeat (first | refine blk_drewN ?_ _ | refine blk_drew ?_ | refine blk_alloc ?_ _)); refine blk_far ?_ NB156_167.out _; (with_reducible repeat (first | refine blk_drewN ?_ _ | refine blk_drew ?_ | refine blk_alloc ?_ _)); refine blk_far ?_ NB156_167.out _; (with_reducible repeat (first | refine blk_drewN ?_ _ | refine blk_drew ?_ | refine blk_alloc ?_ _)); refine blk_far ?_ NB156_167.out _; (with_reducible repeat (first | refine blk_drewN ?_ _ | refine blk_drew ?_ | refine blk_alloc ?_ _)); refine blk_far ?_ NB156_167.out _; (with_reducible repeat (first | refine blk_drewN ?_ _ | refine blk_drew ?_ | refine blk_alloc ?_ _)); exact BK156.out) hb); have n4_ := Aside0.mk (blk_below (g := gb167) (o := .cells #[.int .i64 t159, .int .i64 t160, .string t161, .slice Ao16 t162.length co16] 26 (0, 0)) (by (with_reducible repeat (first | refine blk_drewN ?_ _ | refine blk_drew ?_ | refine blk_alloc ?_ _)); refine blk_put (cs := #[.int .i64 t159, .int .i64 t160, .string t161, .slice none 0 0]) ?_ 3 _ rfl; (with_reducible repeat (first | refine blk_drewN ?_ _ | refine blk_drew ?_ | refine blk_alloc ?_ _)); refine blk_put (cs := #[.int .i64 t159, .int .i64 t160, .string (⟨#[]⟩ : ByteArray), .slice none 0 0]) ?_ 2 _ rfl; (with_reducible repeat (first | refine blk_drewN ?_ _ | refine blk_drew ?_ | refine blk_alloc ?_ _)); refine blk_put (cs := #[.int .i64 t159, .int .i64 0, .string (⟨#[]⟩ : ByteArray), .slice none 0 0]) ?_ 1 _ rfl; (with_reducible repeat (first | refine blk_drewN ?_ _ | refine blk_drew ?_ | refine blk_alloc ?_ _)); refine blk_put (cs := #[.int .i64 0, .int .i64 0, .string (⟨#[]⟩ : ByteArray), .slice none 0 0]) ?_ 0 _ rfl; (with_reducible repeat (first | refine blk_drewN ?_ _ | refine blk_drew ?_ | refine blk_alloc ?_ _)); exact BK167.out) hb); have n5_ := Aside0.mk (below_step (by repeat (first | (with_reducible first | exact HB.out | apply below_alloc | apply pw_below_drewN | apply below_drew1 | refine below_set ?_ GE156.out | refine below_set ?_ GE167.out) | exact HB.out)) hb); clear HO153; clear HO164; clear BK156; clear BK167; clear HB; have HO153 := n0_; have HO164 := n1_; have HO173 := n2_; have BK156 := n3_; have BK167 := n4_; have HB := n5_; clear n0_ n1_ n2_ n3_ n4_ n5_; (try clear hb); (try clear hb2); (try clear hk); (try clear hi); (try clear ho0)) | ((with_reducible refine gate_dst (N := 9) rfl ?_); (try (refine gate_guard (by rfl) ?_; dsimp only)); refine box_event ?hg (N := 9) ?hd (cs := #[.int .i64 0, .int .i64 0, .string (⟨#[]⟩ : ByteArray), .slice none 0 0]) (t := 26) ?hr ?_; (case hd => rfl); (case hg => rfl); (case hr => first | (go_simp; done) | (go_simp; rfl)); intro gb176 hg w18 hbox hb; have n0_ := Aside0.mk (Kd.R_below (Kd.R_elderB (by (with_reducible repeat (first | apply Kd.R_alloc | apply Kd.R_drewN | apply Kd.R_drew)); exact HO153.out) gb176 (Nat.le_of_eq hg.symm)) hb); have n1_ := Aside0.mk (Kd.R_below (Kd.R_elderB (by (with_reducible repeat (first | apply Kd.R_alloc | apply Kd.R_drewN | apply Kd.R_drew)); exact HO164.out) gb176 (Nat.le_of_eq hg.symm)) hb); have n2_ := Aside0.mk (Kd.R_below (Kd.R_elderB (by (with_reducible repeat (first | apply Kd.R_alloc | apply Kd.R_drewN | apply Kd.R_drew)); exact HO173.out) gb176 (Nat.le_of_eq hg.symm)) hb); have n3_ := Aside0.mk (blk_below (g := gb156) (o := .cells #[.int .i64 t148, .int .i64 t149, .string t150, .slice Ao10 t151.length co10] 26 (0, 0)) (by (with_reducible repeat (first | refine blk_drewN ?_ _ | refine blk_drew ?_ | refine blk_alloc ?_ _)); exact BK156.out) hb); have n4_ := Aside0.mk (blk_below (g := gb167) (o := .cells #[.int .i64 t159, .int .i64 t160, .string t161, .slice Ao16 t162.length co16] 26 (0, 0)) (by (with_reducible repeat (first | refine blk_drewN ?_ _ | refine blk_drew ?_ | refine blk_alloc ?_ _)); exact BK167.out) hb); have n5_ := Aside0.mk (below_step (by repeat (first | (with_reducible first | exact HB.out | apply below_alloc | apply pw_below_drewN | apply below_drew1 | refine below_set ?_ GE156.out | refine below_set ?_ GE167.out) | exact HB.out)) hb); have n6_ := Aside0.mk (hbox); have n7_ := Aside0.mk ((by rw [hg]; exact (below_size (by repeat (first | (with_reducible first | exact HB.out | apply below_alloc | apply pw_below_drewN | apply below_drew1 | refine below_set ?_ GE156.out | refine below_set ?_ GE167.out) | exact HB.out))) : w.heap.size ≤ gb176)); have n8_ := Aside0.mk ((by rw [hg]; exact (below_size (by repeat (first | (with_reducible first | exact HB.out | apply below_alloc | apply pw_below_drewN | apply below_drew1 | refine below_set ?_ GE156.out | refine below_set ?_ GE167.out) | exact HB.out))) : w.heap.size ≤ gb176)); have n9_ := Aside0.mk ((by rw [hg]; exact Nat.ne_of_lt (blk_lt (g := gb156) (o := .cells #[.int .i64 t148, .int .i64 t149, .string t150, .slice Ao10 t151.length co10] 26 (0, 0)) (by (with_reducible repeat (first | refine blk_drewN ?_ _ | refine blk_drew ?_ | refine blk_alloc ?_ _)); exact BK156.out)) : gb156 ≠ gb176)); have n10_ := Aside0.mk ((by rw [hg]; exact Nat.ne_of_gt (blk_lt (g := gb156) (o := .cells #[.int .i64 t148, .int .i64 t149, .string t150, .slice Ao10 t151.length co10] 26 (0, 0)) (by (with_reducible repeat (first | refine blk_drewN ?_ _ | refine blk_drew ?_ | refine blk_alloc ?_ _)); exact BK156.out)) : gb176 ≠ gb156)); have n11_ := Aside0.mk ((by rw [hg]; exact Nat.ne_of_lt (blk_lt (g := gb167) (o := .cells #[.int .i64 t159, .int .i64 t160, .string t161, .slice Ao16 t162.length co16] 26 (0, 0)) (by (with_reducible repeat (first | refine blk_drewN ?_ _ | refine blk_drew ?_ | refine blk_alloc ?_ _)); exact BK167.out)) : gb167 ≠ gb176)); have n12_ := Aside0.mk ((by rw [hg]; exact Nat.ne_of_gt (blk_lt (g := gb167) (o := .cells #[.int .i64 t159, .int .i64 t160, .string t161, .slice Ao16 t162.length co16] 26 (0, 0)) (by (with_reducible repeat (first | refine blk_drewN ?_ _ | refine blk_drew ?_ | refine blk_alloc ?_ _)); exact BK167.out)) : gb176 ≠ gb167)); clear HO153; clear HO164; clear HO173; clear BK156; clear BK167; clear HB; have HO153 := n0_; have HO164 := n1_; have HO173 := n2_; have BK156 := n3_; have BK167 := n4_; have HB := n5_; have BK176 := n6_; have GW176 := n7_; have GE176 := n8_; have NB156_176 := n9_; have NB176_156 := n10_; have NB167_176 := n11_; have NB176_167 := n12_; clear n0_ n1_ n2_ n3_ n4_ n5_ n6_ n7_ n8_ n9_ n10_ n11_ n12_; clear hb hbox hg; have hnb19 := NB176_156.out; have hnc19 := NB156_176.out; have hnb20 := NB176_167.out; have hnc20 := NB167_176.out; have hcz21_0 : w18.cell? ⟨gb176, 0, none⟩ = some (.int .i64 0) := (blk_cell BK176.out 0).trans rfl; have hcz21_1 : w18.cell? ⟨gb176, 1, none⟩ = some (.int .i64 0) := (blk_cell BK176.out 1).trans rfl; have hcz21_2 : w18.cell? ⟨gb176, 2, none⟩ = some (.string (⟨#[]⟩ : ByteArray)) := (blk_cell BK176.out 2).trans rfl; have hcz21_3 : w18.cell? ⟨gb176, 3, none⟩ = some (.slice none 0 0) := (blk_cell BK176.out 3).trans rfl; have hfz21_0 := blk_frozen BK176.out 0; have hfz21_1 := blk_frozen BK176.out 1; have hfz21_2 := blk_frozen BK176.out 2; have hfz21_3 := blk_frozen BK176.out 3; obtain ⟨Ao22, co22, eo22⟩ := Kd.R_slice HO173.out; subst eo22) | ((with_reducible refine gate_callee (f := 26) rfl ?_); refine goesL_ (some 34) rfl rfl Tryd.func26 (by kernel_rfl) rfl #[.agg #[.int .i64 t168, .int .i64 t169, .string t170, .slice Ao22 t171.length co22]] rfl (by (try simp only [List.map_toArray, List.map_cons, List.map_nil]); first | done | rfl | (simp only [List.length_drop, List.length_take]; rfl)) ?_; (with_reducible refine (arith_Names.calls k t168 t169 t170 _ _ t171 t177 _ ?side1 ?side2 A5.out).mono ?_); (case side1 => refine (Kd.R_reads' (e := 26) (base := w.heap.size) (ok := fun k_ => (((((True ∧ some k_ ≠ (.slice Ao10 t151.length co10 : Value).ownBlock) ∧ some k_ ≠ (.slice Ao16 t162.length co16 : Value).ownBlock) ∧ k_ ≠ gb156) ∧ k_ ≠ gb167) ∧ k_ ≠ gb176)) (n := t171.length) (c := co22) ?_).2.2; exact (by (with_reducible repeat (first | apply Kd.R_alloc | apply Kd.R_drewN | apply Kd.R_drew)); exact (Kd.R_mono (Kd.R_far (p := ⟨gb176, 3, none⟩) (Kd.R_far (p := ⟨gb176, 2, none⟩) (Kd.R_far (p := ⟨gb176, 1, none⟩) (Kd.R_far (p := ⟨gb176, 0, none⟩) (Kd.R_mono HO173.out (fun k_ hk => (⟨hk, hk.2⟩ : _ ∧ k_ ≠ gb176))) (fun _ hk => hk.2) (.int .i64 t168)) (fun _ hk => hk.2) (.int .i64 t169)) (fun _ hk => hk.2) (.string t170)) (fun _ hk => hk.2) (.slice Ao22 t171.length co22)) (fun _ h_ => h_.1)))); (case side2 => exact (Kd.R_reads' HO173.out).2.1); rintro e w23 ⟨v178, rfl, ho0, hb⟩; refine ⟨_, rfl, ?_⟩; have n0_ := Aside0.mk (Kd.R_below (by (with_reducible repeat (first | apply Kd.R_alloc | apply Kd.R_drewN | apply Kd.R_drew)); exact (Kd.R_mono (Kd.R_far (p := ⟨gb176, 3, none⟩) (Kd.R_far (p := ⟨gb176, 2, none⟩) (Kd.R_far (p := ⟨gb176, 1, none⟩) (Kd.R_far (p := ⟨gb176, 0, none⟩) (Kd.R_mono HO153.out (fun k_ hk => (⟨hk, hk.2⟩ : _ ∧ k_ ≠ gb176))) (fun _ hk => hk.2) (.int .i64 t168)) (fun _ hk => hk.2) (.int .i64 t169)) (fun _ hk => hk.2) (.string t170)) (fun _ hk => hk.2) (.slice Ao22 t171.length co22)) (fun _ h_ => h_.1))) hb); have n1_ := Aside0.mk (Kd.R_below (by (with_reducible repeat (first | apply Kd.R_alloc | apply Kd.R_drewN | apply Kd.R_drew)); exact (Kd.R_mono (Kd.R_far (p := ⟨gb176, 3, none⟩) (Kd.R_far (p := ⟨gb176, 2, none⟩) (Kd.R_far (p := ⟨gb176, 1, none⟩) (Kd.R_far (p := ⟨gb176, 0, none⟩) (Kd.R_mono HO164.out (fun k_ hk => (⟨hk, hk.2⟩ : _ ∧ k_ ≠ gb176))) (fun _ hk => hk.2) (.int .i64 t168)) (fun _ hk => hk.2) (.int .i64 t169)) (fun _ hk => hk.2) (.string t170)) (fun _ hk => hk.2) (.slice Ao22 t171.length co22)) (fun _ h_ => h_.1))) hb); have n2_ := Aside0.mk (Kd.R_below (by (with_reducible repeat (first | apply Kd.R_alloc | apply Kd.R_drewN | apply Kd.R_drew)); exact (Kd.R_mono (Kd.R_far (p := ⟨gb176, 3, none⟩) (Kd.R_far (p := ⟨gb176, 2, none⟩) (Kd.R_far (p := ⟨gb176, 1, none⟩) (Kd.R_far (p := ⟨gb176, 0, none⟩) (Kd.R_mono HO173.out (fun k_ hk => (⟨hk, hk.2⟩ : _ ∧ k_ ≠ gb176))) (fun _ hk => hk.2) (.int .i64 t168)) (fun _ hk => hk.2) (.int .i64 t169)) (fun _ hk => hk.2) (.string t170)) (fun _ hk => hk.2) (.slice Ao22 t171.length co22)) (fun _ h_ => h_.1))) hb); have n3_ := Aside0.mk (Kd.R_lower ho0 (below_size (by repeat (first | (with_reducible first | exact HB.out | apply below_alloc | apply pw_below_drewN | apply below_drew1 | refine below_set ?_ GE156.out | refine below_set ?_ GE167.out | refine below_set ?_ GE176.out) | exact HB.out)))); have n4_ := Aside0.mk (blk_below (g := gb156) (o := .cells #[.int .i64 t148, .int .i64 t149, .string t150, .slice Ao10 t151.length co10] 26 (0, 0)) (by (with_reducible repeat (first | refine blk_drewN ?_ _ | refine blk_drew ?_ | refine blk_alloc ?_ _)); refine blk_far ?_ NB156_176.out _; (with_reducible repeat (first | refine blk_drewN ?_ _ | refine blk_drew ?_ | refine blk_alloc ?_ _)); refine blk_far ?_ NB156_176.out _; (with_reducible repeat (first | refine blk_drewN ?_ _ | refine blk_drew ?_ | refine blk_alloc ?_ _)); refine blk_far ?_ NB156_176.out _; (with_reducible repeat (first | refine blk_drewN ?_ _ | refine blk_drew ?_ | refine blk_alloc ?_ _)); refine blk_far ?_ NB156_176.out _; (with_reducible repeat (first | refine blk_drewN ?_ _ | refine blk_drew ?_ | refine blk_alloc ?_ _)); exact BK156.out) hb); have n5_ := Aside0.mk (blk_below (g := gb167) (o := .cells #[.int .i64 t159, .int .i64 t160, .string t161, .slice Ao16 t162.length co16] 26 (0, 0)) (by (with_reducible repeat (first | refine blk_drewN ?_ _ | refine blk_drew ?_ | refine blk_alloc ?_ _)); refine blk_far ?_ NB167_176.out _; (with_reducible repeat (first | refine blk_drewN ?_ _ | refine blk_drew ?_ | refine blk_alloc ?_ _)); refine blk_far ?_ NB167_176.out _; (with_reducible repeat (first | refine blk_drewN ?_ _ | refine blk_drew ?_ | refine blk_alloc ?_ _)); refine blk_far ?_ NB167_176.out _; (with_reducible repeat (first | refine blk_drewN ?_ _ | refine blk_drew ?_ | refine blk_alloc ?_ _)); refine blk_far ?_ NB167_176.out _; (with_reducible repeat (first | refine blk_drewN ?_ _ | refine blk_drew ?_ | refine blk_alloc ?_ _)); exact BK167.out) hb); have n6_ := Aside0.mk (blk_below (g := gb176) (o := .cells #[.int .i64 t168, .int .i64 t169, .string t170, .slice Ao22 t171.length co22] 26 (0, 0)) (by (with_reducible repeat (first | refine blk_drewN ?_ _ | refine blk_drew ?_ | refine blk_alloc ?_ _)); refine blk_put (cs := #[.int .i64 t168, .int .i64 t169, .string t170, .slice none 0 0]) ?_ 3 _ rfl; (with_reducible repeat (first | refine blk_drewN ?_ _ | refine blk_drew ?_ | refine blk_alloc ?_ _)); refine blk_put (cs := #[.int .i64 t168, .int .i64 t169, .string (⟨#[]⟩ : ByteArray), .slice none 0 0]) ?_ 2 _ rfl; (with_reducible repeat (first | refine blk_drewN ?_ _ | refine blk_drew ?_ | refine blk_alloc ?_ _)); refine blk_put (cs := #[.int .i64 t168, .int .i64 0, .string (⟨#[]⟩ : ByteArray), .slice none 0 0]) ?_ 1 _ rfl; (with_reducible repeat (first | refine blk_drewN ?_ _ | refine blk_drew ?_ | refine blk_alloc ?_ _)); refine blk_put (cs := #[.int .i64 0, .int .i64 0, .string (⟨#[]⟩ : ByteArray), .slice none 0 0]) ?_ 0 _ rfl; (with_reducible repeat (first | refine blk_drewN ?_ _ | refine blk_drew ?_ | refine blk_alloc ?_ _)); exact BK176.out) hb); have n7_ := Aside0.mk (below_step (by repeat (first | (with_reducible first | exact HB.out | apply below_alloc | apply pw_below_drewN | apply below_drew1 | refine below_set ?_ GE156.out | refine below_set ?_ GE167.out | refine below_set ?_ GE176.out) | exact HB.out)) hb); clear HO153; clear HO164; clear HO173; clear BK156; clear BK167; clear BK176; clear HB; have HO153 := n0_; have HO164 := n1_; have HO173 := n2_; have HO179 := n3_; have BK156 := n4_; have BK167 := n5_; have BK176 := n6_; have HB := n7_; clear n0_ n1_ n2_ n3_ n4_ n5_ n6_ n7_; (try clear hb); (try clear hb2); (try clear hk); (try clear hi); (try clear ho0)))
 (try simp only [Act.put, List.setIfInBounds_toArray, List.set_cons_zero, List.set_cons_succ])
 go_cut [73] (fun v73 wc => ∃ (kq : Nat) (x73_5 : Bool), v73 = .bool x73_5 ∧ Aside0 (jobshelllaw05_awake.j0 kq x73_5 t148 t149 t150 t151 t168 t169 t170 t171 = some true) ∧ Aside0 (kq ≤ k) ∧ Aside0 (Kd.R k26 26 wc w.heap.size (fun k_ => some k_ ≠ ((.slice Ao16 t162.length co16) : Value).ownBlock ∧ some k_ ≠ ((.slice Ao22 t171.length co22) : Value).ownBlock ∧ k_ ≠ gb156 ∧ k_ ≠ gb167 ∧ k_ ≠ gb176) (.slice Ao10 t151.length co10) t151) ∧ Aside0 (Kd.R k26 26 wc w.heap.size (fun k_ => some k_ ≠ ((.slice Ao10 t151.length co10) : Value).ownBlock ∧ some k_ ≠ ((.slice Ao22 t171.length co22) : Value).ownBlock ∧ k_ ≠ gb156 ∧ k_ ≠ gb167 ∧ k_ ≠ gb176) (.slice Ao16 t162.length co16) t162) ∧ Aside0 (Kd.R k26 26 wc w.heap.size (fun k_ => some k_ ≠ ((.slice Ao10 t151.length co10) : Value).ownBlock ∧ some k_ ≠ ((.slice Ao16 t162.length co16) : Value).ownBlock ∧ k_ ≠ gb156 ∧ k_ ≠ gb167 ∧ k_ ≠ gb176) (.slice Ao22 t171.length co22) t171) ∧ Aside0 (wc.heap[gb156]? = some (.cells #[.int .i64 t148, .int .i64 t149, .string t150, (.slice Ao10 t151.length co10)] 26 (0, 0))) ∧ Aside0 (wc.heap[gb167]? = some (.cells #[.int .i64 t159, .int .i64 t160, .string t161, (.slice Ao16 t162.length co16)] 26 (0, 0))) ∧ Aside0 (wc.heap[gb176]? = some (.cells #[.int .i64 t168, .int .i64 t169, .string t170, (.slice Ao22 t171.length co22)] 26 (0, 0))) ∧ Aside0 (Below w.heap.size w wc))
 case first =>
  have H := HC6.out
  clear HC6
  by_cases c24 : t155 = 0
  rotate_left
  ·rw [if_neg c24] at H
   exact absurd H (by first | exact awake_no _ _ _ _ _ _ _ _ _ | simp)
  rw [if_pos c24] at H
  have c24b0 : (t155 == 0) = true := beq_iff_eq.mpr c24
  have c24b1 : (t155 != 0) = false := bne_eq_false_iff_eq.mpr c24
  clear c24
  (first | rw [c24b0] | (simp only [i64_w, i32_w]; rw [c24b0]) | skip)
  by_cases c25 : t158 = 0
  rotate_left
  ·rw [if_neg c25] at H
   exact absurd H (by first | exact awake_no _ _ _ _ _ _ _ _ _ | simp)
  rw [if_pos c25] at H
  have c25b0 : (t158 == 0) = true := beq_iff_eq.mpr c25
  have c25b1 : (t158 != 0) = false := bne_eq_false_iff_eq.mpr c25
  clear c25
  by_cases c26 : t157.toList = ([40, 49, 32, 43, 32, 50, 41, 32, 42, 32, 51] : List UInt8)
  rotate_left
  ·rw [if_neg c26] at H
   exact absurd H (by first | exact awake_no _ _ _ _ _ _ _ _ _ | simp)
  rw [if_pos c26] at H
  have c26b0 : (t157.toList == ([40, 49, 32, 43, 32, 50, 41, 32, 42, 32, 51] : List UInt8)) = true := beq_iff_eq.mpr c26
  have c26b1 : (t157.toList != ([40, 49, 32, 43, 32, 50, 41, 32, 42, 32, 51] : List UInt8)) = false := bne_eq_false_iff_eq.mpr c26
  clear c26
  by_cases c27 : t165 = 3
  rotate_left
  ·rw [if_neg c27] at H
   exact absurd H (by first | exact awake_no _ _ _ _ _ _ _ _ _ | simp)
  rw [if_pos c27] at H
  have c27b0 : (t165 == 3) = true := beq_iff_eq.mpr c27
  have c27b1 : (t165 != 3) = false := bne_eq_false_iff_eq.mpr c27
  clear c27
  by_cases c28 : t166 = 6
  rotate_left
  ·rw [if_neg c28] at H
   exact absurd H (by first | exact awake_no _ _ _ _ _ _ _ _ _ | simp)
  rw [if_pos c28] at H
  have c28b0 : (t166 == 6) = true := beq_iff_eq.mpr c28
  have c28b1 : (t166 != 6) = false := bne_eq_false_iff_eq.mpr c28
  clear c28
  by_cases c29 : t175 = 0
  rotate_left
  ·rw [if_neg c29] at H
   exact absurd H (by first | exact awake_no _ _ _ _ _ _ _ _ _ | simp)
  rw [if_pos c29] at H
  have c29b0 : (t175 == 0) = true := beq_iff_eq.mpr c29
  have c29b1 : (t175 != 0) = false := bne_eq_false_iff_eq.mpr c29
  clear c29
  by_cases c30 : (t177.length : Int) = 2
  rotate_left
  ·rw [if_neg c30] at H
   exact absurd H (by first | exact awake_no _ _ _ _ _ _ _ _ _ | simp)
  rw [if_pos c30] at H
  have c30b0 : ((t177.length : Int) == 2) = true := beq_iff_eq.mpr c30
  have c30b1 : ((t177.length : Int) != 2) = false := bne_eq_false_iff_eq.mpr c30
  clear c30
  by_cases c31 : 0 < (t177.length : Int)
  rotate_left
  ·rw [if_neg c31] at H
   exact absurd H (by first | exact awake_no _ _ _ _ _ _ _ _ _ | simp)
  rw [if_pos c31] at H
  have c31b0 : decide (0 < (t177.length : Int)) = true := decide_eq_true c31
  have c31b1 : decide (0 < t177.length) = true := decide_eq_true (by omega)
  clear c31
  by_cases c32 : (rdOf ByteArray.empty t177 0).toList = ([97] : List UInt8)
  rotate_left
  ·rw [if_neg c32] at H
   exact absurd H (by first | exact awake_no _ _ _ _ _ _ _ _ _ | simp)
  rw [if_pos c32] at H
  have c32b0 : ((rdOf ByteArray.empty t177 0).toList == ([97] : List UInt8)) = true := beq_iff_eq.mpr c32
  have c32b1 : ((rdOf ByteArray.empty t177 0).toList != ([97] : List UInt8)) = false := bne_eq_false_iff_eq.mpr c32
  clear c32
  by_cases c33 : 1 < (t177.length : Int)
  rotate_left
  ·rw [if_neg c33] at H
   exact absurd H (by first | exact awake_no _ _ _ _ _ _ _ _ _ | simp)
  rw [if_pos c33] at H
  have c33b0 : decide (1 < (t177.length : Int)) = true := decide_eq_true c33
  have c33b1 : decide (1 < t177.length) = true := decide_eq_true (by omega)
  clear c33
  have H' := Aside0.mk H
  clear H
  obtain ⟨Ao34, co34, eo34⟩ := Kd.R_slice HO179.out
  subst eo34
  have p180 : 0 ≤ (0 : Int) := (by omega)
  have q180 : 0 < (t177.length : Int) := of_decide_eq_true (by first | (with_reducible assumption) | assumption)
  obtain ⟨ad180, e180, hx180_0⟩ := Kd.at_string (Kd.R_reads' HO179.out).2.2 0 p180 q180
  cases e180
  have qi180 : (0 < t177.length) = True := eq_true (by omega)
  (try rw [show ((0 : Int)).toNat = 0 from rfl] at hx180_0)
  (try rw [Addr.add_zero'] at hx180_0)
  replace p180 := eq_true p180
  replace q180 := eq_true q180
  have p181 : 0 ≤ (1 : Int) := (by omega)
  have q181 : 1 < (t177.length : Int) := of_decide_eq_true (by first | (with_reducible assumption) | assumption)
  obtain ⟨ad181, e181, hx181_0⟩ := Kd.at_string (Kd.R_reads' HO179.out).2.2 1 p181 q181
  obtain rfl : ad180 = ad181 := (by injection e181)
  (try simp only [show (1 : Int).toNat = 1 from rfl, Nat.reduceMul, Nat.reduceEqDiff, Go.Addr.add, ↓reduceIte] at hx181_0)
  have qi181 : (1 < t177.length) = True := eq_true (by omega)
  (try rw [show ((1 : Int)).toNat = 1 from rfl] at hx181_0)
  replace p181 := eq_true p181
  replace q181 := eq_true q181
  go_wp2
  go_meet
  case rel => exact ⟨_, (((rdOf ByteArray.empty t177 1).toList != ([98] : List UInt8))), (by first | rfl | (simp; done) | (simp [*]; done)), H', ⟨by first | omega | exact Nat.le_refl _⟩, ⟨by (with_reducible repeat (first | apply Kd.R_alloc | apply Kd.R_drewN | apply Kd.R_drew)); exact Kd.R_mono HO153.out (fun _ hk => ⟨hk.1.1.1.2, ⟨hk.1.2, ⟨hk.1.1.1.1.2, ⟨hk.1.1.2, hk.2⟩⟩⟩⟩)⟩, ⟨by (with_reducible repeat (first | apply Kd.R_alloc | apply Kd.R_drewN | apply Kd.R_drew)); exact Kd.R_mono HO164.out (fun _ hk => ⟨hk.1.1.1.1.2, ⟨hk.1.2, ⟨hk.1.1.1.2, ⟨hk.1.1.2, hk.2⟩⟩⟩⟩)⟩, ⟨by (with_reducible repeat (first | apply Kd.R_alloc | apply Kd.R_drewN | apply Kd.R_drew)); exact Kd.R_mono HO173.out (fun _ hk => ⟨hk.1.1.1.1.2, ⟨hk.1.1.1.2, ⟨hk.1.1.2, ⟨hk.1.2, hk.2⟩⟩⟩⟩)⟩, ⟨by (with_reducible repeat (first | refine blk_drewN ?_ _ | refine blk_drew ?_ | refine blk_alloc ?_ _)); exact BK156.out⟩, ⟨by (with_reducible repeat (first | refine blk_drewN ?_ _ | refine blk_drew ?_ | refine blk_alloc ?_ _)); exact BK167.out⟩, ⟨by (with_reducible repeat (first | refine blk_drewN ?_ _ | refine blk_drew ?_ | refine blk_alloc ?_ _)); exact BK176.out⟩, ⟨by repeat (first | (with_reducible first | exact HB.out | apply below_alloc | apply pw_below_drewN | apply below_drew1 | refine below_set ?_ GE156.out | refine below_set ?_ GE167.out | refine below_set ?_ GE176.out) | exact HB.out)⟩⟩
 case rest =>
  clear HC6
  obtain ⟨kq, x73_5, rfl, HA, HJ5, HO_157003, HO_168003, HO_177003, BK156, BK167, BK176, HB⟩ := hcut
  cases kq with
  | zero => exact absurd HA.out (by simp [jobshelllaw05_awake.j0])
  | succ kj5 =>
   have H := HA.out
   clear HA
   simp only [jobshelllaw05_awake.j0] at H
   by_cases c37 : x73_5 = true
   ·subst c37
    exact absurd H (by simp)
   replace c37 := Bool.eq_false_iff.mpr c37
   subst c37
   have H1 : (if t148 = 7 then (if t168 = 26 then ((arith_Same.f kj5 t148 t149 t150 t151 t148 t149 t150 t151).bind fun t182 => (if t182 = true then ((arith_Same.f kj5 t148 t149 t150 t151 t168 t169 t170 t171).bind fun t183 => (if t183 = true then (some false) else ((arith_Valid.f kj5 0 0 (⟨#[]⟩ : ByteArray) ([] : List (S26))).bind fun t184 => (if t184 = 1 then ((arith_Valid.f kj5 t148 t149 t150 t151).bind fun t185 => (some (t185 == 0))) else (some false))))) else (some false))) else (some false)) else (some false)) = some true := by rw [if_neg (show ¬ (false = true) by decide)] at H; exact H
   clear H
   have H := H1
   clear H1
   by_cases c38 : t148 = 7
   rotate_left
   ·rw [if_neg c38] at H
    exact absurd H (by first | exact awake_no _ _ _ _ _ _ _ _ _ | simp)
   rw [if_pos c38] at H
   have c38b0 : (t148 == 7) = true := beq_iff_eq.mpr c38
   have c38b1 : (t148 != 7) = false := bne_eq_false_iff_eq.mpr c38
   clear c38
   by_cases c39 : t168 = 26
   rotate_left
   ·rw [if_neg c39] at H
    exact absurd H (by first | exact awake_no _ _ _ _ _ _ _ _ _ | simp)
   rw [if_pos c39] at H
   have c39b0 : (t168 == 26) = true := beq_iff_eq.mpr c39
   have c39b1 : (t168 != 26) = false := bne_eq_false_iff_eq.mpr c39
   clear c39
   replace H := Option.bind_eq_some_iff.mp H
   obtain ⟨t182, A400, H⟩ := H
   try dsimp only at H
   have A40 := Aside0.mk A400
   clear A400
   by_cases c41 : t182 = true
   rotate_left
   ·replace c41 := Bool.eq_false_iff.mpr c41
    subst c41
    exact absurd H (by simp)
   subst c41
   have H1 : ((arith_Same.f kj5 t148 t149 t150 t151 t168 t169 t170 t171).bind fun t183 => (if t183 = true then (some false) else ((arith_Valid.f kj5 0 0 (⟨#[]⟩ : ByteArray) ([] : List (S26))).bind fun t184 => (if t184 = 1 then ((arith_Valid.f kj5 t148 t149 t150 t151).bind fun t185 => (some (t185 == 0))) else (some false))))) = some true := by rw [if_pos rfl] at H; exact H
   clear H
   have H := H1
   clear H1
   replace H := Option.bind_eq_some_iff.mp H
   obtain ⟨t183, A420, H⟩ := H
   try dsimp only at H
   have A42 := Aside0.mk A420
   clear A420
   by_cases c43 : t183 = true
   ·subst c43
    exact absurd H (by simp)
   replace c43 := Bool.eq_false_iff.mpr c43
   subst c43
   have H1 : ((arith_Valid.f kj5 0 0 (⟨#[]⟩ : ByteArray) ([] : List (S26))).bind fun t184 => (if t184 = 1 then ((arith_Valid.f kj5 t148 t149 t150 t151).bind fun t185 => (some (t185 == 0))) else (some false))) = some true := by rw [if_neg (show ¬ (false = true) by decide)] at H; exact H
   clear H
   have H := H1
   clear H1
   replace H := Option.bind_eq_some_iff.mp H
   obtain ⟨t184, A530, H⟩ := H
   try dsimp only at H
   have A53 := Aside0.mk A530
   clear A530
   by_cases c54 : t184 = 1
   rotate_left
   ·rw [if_neg c54] at H
    exact absurd H (by first | exact awake_no _ _ _ _ _ _ _ _ _ | simp)
   rw [if_pos c54] at H
   have c54b0 : (t184 == 1) = true := beq_iff_eq.mpr c54
   have c54b1 : (t184 != 1) = false := bne_eq_false_iff_eq.mpr c54
   clear c54
   replace H := Option.bind_eq_some_iff.mp H
   obtain ⟨t185, A550, H⟩ := H
   try dsimp only at H
   have A55 := Aside0.mk A550
   clear A550
   have H185 := Option.some.inj H
   clear H
   have hnb56 := NB156_167.out
   have hnc56 := NB167_156.out
   have hnb57 := NB156_176.out
   have hnc57 := NB176_156.out
   have hcz58_0 : wc.cell? ⟨gb156, 0, none⟩ = some (.int .i64 t148) := (blk_cell BK156.out 0).trans rfl
   have hcz58_1 : wc.cell? ⟨gb156, 1, none⟩ = some (.int .i64 t149) := (blk_cell BK156.out 1).trans rfl
   have hcz58_2 : wc.cell? ⟨gb156, 2, none⟩ = some (.string t150) := (blk_cell BK156.out 2).trans rfl
   have hcz58_3 : wc.cell? ⟨gb156, 3, none⟩ = some (.slice Ao10 t151.length co10) := (blk_cell BK156.out 3).trans rfl
   have hfz58_0 := blk_frozen BK156.out 0
   have hfz58_1 := blk_frozen BK156.out 1
   have hfz58_2 := blk_frozen BK156.out 2
   have hfz58_3 := blk_frozen BK156.out 3
   have hnb59 := NB176_167.out
   have hnc59 := NB167_176.out
   have hcz60_0 : wc.cell? ⟨gb176, 0, none⟩ = some (.int .i64 t168) := (blk_cell BK176.out 0).trans rfl
   have hcz60_1 : wc.cell? ⟨gb176, 1, none⟩ = some (.int .i64 t169) := (blk_cell BK176.out 1).trans rfl
   have hcz60_2 : wc.cell? ⟨gb176, 2, none⟩ = some (.string t170) := (blk_cell BK176.out 2).trans rfl
   have hcz60_3 : wc.cell? ⟨gb176, 3, none⟩ = some (.slice Ao22 t171.length co22) := (blk_cell BK176.out 3).trans rfl
   have hfz60_0 := blk_frozen BK176.out 0
   have hfz60_1 := blk_frozen BK176.out 1
   have hfz60_2 := blk_frozen BK176.out 2
   have hfz60_3 := blk_frozen BK176.out 3
   go_wp2_with (first | (go_at_call 28; (with_reducible refine (arith_Same.calls kj5 t148 t149 t150 _ _ t151 t148 t149 t150 _ _ t151 true _ ?side1 ?side2 ?side3 ?side4 A40.out).mono ?_); (case side1 => repeat (first | (with_reducible exact (Kd.R_reads' HO_157003.out).2.2) | (with_reducible refine Kd.C_alloc ?_ _) | (with_reducible refine Kd.C_drewN ?_ _) | (with_reducible refine Kd.C_drew ?_) | exact (Kd.R_reads' HO_157003.out).2.2)); (case side2 => exact (Kd.R_reads' HO_157003.out).2.1); (case side3 => repeat (first | (with_reducible exact (Kd.R_reads' HO_157003.out).2.2) | (with_reducible refine Kd.C_alloc ?_ _) | (with_reducible refine Kd.C_drewN ?_ _) | (with_reducible refine Kd.C_drew ?_) | exact (Kd.R_reads' HO_157003.out).2.2)); (case side4 => exact (Kd.R_reads' HO_157003.out).2.1); rintro e w61 ⟨rfl, hb⟩; have n0_ := Aside0.mk (Kd.R_below (by (with_reducible repeat (first | apply Kd.R_alloc | apply Kd.R_drewN | apply Kd.R_drew)); exact HO_157003.out) hb); have n1_ := Aside0.mk (Kd.R_below (by (with_reducible repeat (first | apply Kd.R_alloc | apply Kd.R_drewN | apply Kd.R_drew)); exact HO_168003.out) hb); have n2_ := Aside0.mk (Kd.R_below (by (with_reducible repeat (first | apply Kd.R_alloc | apply Kd.R_drewN | apply Kd.R_drew)); exact HO_177003.out) hb); have n3_ := Aside0.mk (blk_below (g := gb156) (o := .cells #[.int .i64 t148, .int .i64 t149, .string t150, .slice Ao10 t151.length co10] 26 (0, 0)) (by (with_reducible repeat (first | refine blk_drewN ?_ _ | refine blk_drew ?_ | refine blk_alloc ?_ _)); exact BK156.out) hb); have n4_ := Aside0.mk (blk_below (g := gb167) (o := .cells #[.int .i64 t159, .int .i64 t160, .string t161, .slice Ao16 t162.length co16] 26 (0, 0)) (by (with_reducible repeat (first | refine blk_drewN ?_ _ | refine blk_drew ?_ | refine blk_alloc ?_ _)); exact BK167.out) hb); have n5_ := Aside0.mk (blk_below (g := gb176) (o := .cells #[.int .i64 t168, .int .i64 t169, .string t170, .slice Ao22 t171.length co22] 26 (0, 0)) (by (with_reducible repeat (first | refine blk_drewN ?_ _ | refine blk_drew ?_ | refine blk_alloc ?_ _)); exact BK176.out) hb); have n6_ := Aside0.mk (below_step (by repeat (first | (with_reducible first | exact HB.out | apply below_alloc | apply pw_below_drewN | apply below_drew1 | refine below_set ?_ GE156.out | refine below_set ?_ GE167.out | refine below_set ?_ GE176.out) | exact HB.out)) hb); clear HO_157003; clear HO_168003; clear HO_177003; clear BK156; clear BK167; clear BK176; clear HB; have HO_157003 := n0_; have HO_168003 := n1_; have HO_177003 := n2_; have BK156 := n3_; have BK167 := n4_; have BK176 := n5_; have HB := n6_; clear n0_ n1_ n2_ n3_ n4_ n5_ n6_; (try clear hb); (try clear hb2); (try clear hk); (try clear hi); have hcz62_0 : w61.cell? ⟨gb156, 0, none⟩ = some (.int .i64 t148) := (blk_cell BK156.out 0).trans rfl; have hcz62_1 : w61.cell? ⟨gb156, 1, none⟩ = some (.int .i64 t149) := (blk_cell BK156.out 1).trans rfl; have hcz62_2 : w61.cell? ⟨gb156, 2, none⟩ = some (.string t150) := (blk_cell BK156.out 2).trans rfl; have hcz62_3 : w61.cell? ⟨gb156, 3, none⟩ = some (.slice Ao10 t151.length co10) := (blk_cell BK156.out 3).trans rfl; have hfz62_0 := blk_frozen BK156.out 0; have hfz62_1 := blk_frozen BK156.out 1; have hfz62_2 := blk_frozen BK156.out 2; have hfz62_3 := blk_frozen BK156.out 3; have hcz63_0 : w61.cell? ⟨gb176, 0, none⟩ = some (.int .i64 t168) := (blk_cell BK176.out 0).trans rfl; have hcz63_1 : w61.cell? ⟨gb176, 1, none⟩ = some (.int .i64 t169) := (blk_cell BK176.out 1).trans rfl; have hcz63_2 : w61.cell? ⟨gb176, 2, none⟩ = some (.string t170) := (blk_cell BK176.out 2).trans rfl; have hcz63_3 : w61.cell? ⟨gb176, 3, none⟩ = some (.slice Ao22 t171.length co22) := (blk_cell BK176.out 3).trans rfl; have hfz63_0 := blk_frozen BK176.out 0; have hfz63_1 := blk_frozen BK176.out 1; have hfz63_2 := blk_frozen BK176.out 2; have hfz63_3 := blk_frozen BK176.out 3) | (go_at_call 28; (with_reducible refine (arith_Same.calls kj5 t148 t149 t150 _ _ t151 t168 t169 t170 _ _ t171 false _ ?side1 ?side2 ?side3 ?side4 A42.out).mono ?_); (case side1 => repeat (first | (with_reducible exact (Kd.R_reads' HO_157003.out).2.2) | (with_reducible refine Kd.C_alloc ?_ _) | (with_reducible refine Kd.C_drewN ?_ _) | (with_reducible refine Kd.C_drew ?_) | exact (Kd.R_reads' HO_157003.out).2.2)); (case side2 => exact (Kd.R_reads' HO_157003.out).2.1); (case side3 => repeat (first | (with_reducible exact (Kd.R_reads' HO_177003.out).2.2) | (with_reducible refine Kd.C_alloc ?_ _) | (with_reducible refine Kd.C_drewN ?_ _) | (with_reducible refine Kd.C_drew ?_) | exact (Kd.R_reads' HO_177003.out).2.2)); (case side4 => exact (Kd.R_reads' HO_177003.out).2.1); rintro e w64 ⟨rfl, hb⟩; have n0_ := Aside0.mk (Kd.R_below (by (with_reducible repeat (first | apply Kd.R_alloc | apply Kd.R_drewN | apply Kd.R_drew)); exact HO_157003.out) hb); have n1_ := Aside0.mk (Kd.R_below (by (with_reducible repeat (first | apply Kd.R_alloc | apply Kd.R_drewN | apply Kd.R_drew)); exact HO_168003.out) hb); have n2_ := Aside0.mk (Kd.R_below (by (with_reducible repeat (first | apply Kd.R_alloc | apply Kd.R_drewN | apply Kd.R_drew)); exact HO_177003.out) hb); have n3_ := Aside0.mk (blk_below (g := gb156) (o := .cells #[.int .i64 t148, .int .i64 t149, .string t150, .slice Ao10 t151.length co10] 26 (0, 0)) (by (with_reducible repeat (first | refine blk_drewN ?_ _ | refine blk_drew ?_ | refine blk_alloc ?_ _)); exact BK156.out) hb); have n4_ := Aside0.mk (blk_below (g := gb167) (o := .cells #[.int .i64 t159, .int .i64 t160, .string t161, .slice Ao16 t162.length co16] 26 (0, 0)) (by (with_reducible repeat (first | refine blk_drewN ?_ _ | refine blk_drew ?_ | refine blk_alloc ?_ _)); exact BK167.out) hb); have n5_ := Aside0.mk (blk_below (g := gb176) (o := .cells #[.int .i64 t168, .int .i64 t169, .string t170, .slice Ao22 t171.length co22] 26 (0, 0)) (by (with_reducible repeat (first | refine blk_drewN ?_ _ | refine blk_drew ?_ | refine blk_alloc ?_ _)); exact BK176.out) hb); have n6_ := Aside0.mk (below_step (by repeat (first | (with_reducible first | exact HB.out | apply below_alloc | apply pw_below_drewN | apply below_drew1 | refine below_set ?_ GE156.out | refine below_set ?_ GE167.out | refine below_set ?_ GE176.out) | exact HB.out)) hb); clear HO_157003; clear HO_168003; clear HO_177003; clear BK156; clear BK167; clear BK176; clear HB; have HO_157003 := n0_; have HO_168003 := n1_; have HO_177003 := n2_; have BK156 := n3_; have BK167 := n4_; have BK176 := n5_; have HB := n6_; clear n0_ n1_ n2_ n3_ n4_ n5_ n6_; (try clear hb); (try clear hb2); (try clear hk); (try clear hi)) | (go_at_call 24; (with_reducible refine (arith_Valid.calls kj5 t148 t149 t150 _ _ t151 t185 _ ?side1 ?side2 A55.out).mono ?_); (case side1 => repeat (first | (with_reducible exact (Kd.R_reads' HO_157003.out).2.2) | (with_reducible refine Kd.C_alloc ?_ _) | (with_reducible refine Kd.C_drewN ?_ _) | (with_reducible refine Kd.C_drew ?_) | exact (Kd.R_reads' HO_157003.out).2.2)); (case side2 => exact (Kd.R_reads' HO_157003.out).2.1); rintro e w67 ⟨rfl, hb⟩; have n0_ := Aside0.mk (Kd.R_below (by (with_reducible repeat (first | apply Kd.R_alloc | apply Kd.R_drewN | apply Kd.R_drew)); exact HO_157003.out) hb); have n1_ := Aside0.mk (Kd.R_below (by (with_reducible repeat (first | apply Kd.R_alloc | apply Kd.R_drewN | apply Kd.R_drew)); exact HO_168003.out) hb); have n2_ := Aside0.mk (Kd.R_below (by (with_reducible repeat (first | apply Kd.R_alloc | apply Kd.R_drewN | apply Kd.R_drew)); exact HO_177003.out) hb); have n3_ := Aside0.mk (blk_below (g := gb156) (o := .cells #[.int .i64 t148, .int .i64 t149, .string t150, .slice Ao10 t151.length co10] 26 (0, 0)) (by (with_reducible repeat (first | refine blk_drewN ?_ _ | refine blk_drew ?_ | refine blk_alloc ?_ _)); exact BK156.out) hb); have n4_ := Aside0.mk (blk_below (g := gb167) (o := .cells #[.int .i64 t159, .int .i64 t160, .string t161, .slice Ao16 t162.length co16] 26 (0, 0)) (by (with_reducible repeat (first | refine blk_drewN ?_ _ | refine blk_drew ?_ | refine blk_alloc ?_ _)); exact BK167.out) hb); have n5_ := Aside0.mk (blk_below (g := gb176) (o := .cells #[.int .i64 t168, .int .i64 t169, .string t170, .slice Ao22 t171.length co22] 26 (0, 0)) (by (with_reducible repeat (first | refine blk_drewN ?_ _ | refine blk_drew ?_ | refine blk_alloc ?_ _)); exact BK176.out) hb); have n6_ := Aside0.mk (below_step (by repeat (first | (with_reducible first | exact HB.out | apply below_alloc | apply pw_below_drewN | apply below_drew1 | refine below_set ?_ GE156.out | refine below_set ?_ GE167.out | refine below_set ?_ GE176.out) | exact HB.out)) hb); clear HO_157003; clear HO_168003; clear HO_177003; clear BK156; clear BK167; clear BK176; clear HB; have HO_157003 := n0_; have HO_168003 := n1_; have HO_177003 := n2_; have BK156 := n3_; have BK167 := n4_; have BK176 := n5_; have HB := n6_; clear n0_ n1_ n2_ n3_ n4_ n5_ n6_; (try clear hb); (try clear hb2); (try clear hk); (try clear hi)) | (go_at_call 24; (refine (arith_Valid.calls kj5 0 0 (⟨#[]⟩ : ByteArray) _ _ ([] : List (S26)) t184 _ ?side1 ?side2 A53.out).mono ?_); (case side1 => exact Kd.C_nil _ _); (case side2 => exact Nat.le_refl _); rintro e w65 ⟨rfl, hb⟩; have n0_ := Aside0.mk (Kd.R_below (by (with_reducible repeat (first | apply Kd.R_alloc | apply Kd.R_drewN | apply Kd.R_drew)); exact HO_157003.out) hb); have n1_ := Aside0.mk (Kd.R_below (by (with_reducible repeat (first | apply Kd.R_alloc | apply Kd.R_drewN | apply Kd.R_drew)); exact HO_168003.out) hb); have n2_ := Aside0.mk (Kd.R_below (by (with_reducible repeat (first | apply Kd.R_alloc | apply Kd.R_drewN | apply Kd.R_drew)); exact HO_177003.out) hb); have n3_ := Aside0.mk (blk_below (g := gb156) (o := .cells #[.int .i64 t148, .int .i64 t149, .string t150, .slice Ao10 t151.length co10] 26 (0, 0)) (by (with_reducible repeat (first | refine blk_drewN ?_ _ | refine blk_drew ?_ | refine blk_alloc ?_ _)); exact BK156.out) hb); have n4_ := Aside0.mk (blk_below (g := gb167) (o := .cells #[.int .i64 t159, .int .i64 t160, .string t161, .slice Ao16 t162.length co16] 26 (0, 0)) (by (with_reducible repeat (first | refine blk_drewN ?_ _ | refine blk_drew ?_ | refine blk_alloc ?_ _)); exact BK167.out) hb); have n5_ := Aside0.mk (blk_below (g := gb176) (o := .cells #[.int .i64 t168, .int .i64 t169, .string t170, .slice Ao22 t171.length co22] 26 (0, 0)) (by (with_reducible repeat (first | refine blk_drewN ?_ _ | refine blk_drew ?_ | refine blk_alloc ?_ _)); exact BK176.out) hb); have n6_ := Aside0.mk (below_step (by repeat (first | (with_reducible first | exact HB.out | apply below_alloc | apply pw_below_drewN | apply below_drew1 | refine below_set ?_ GE156.out | refine below_set ?_ GE167.out | refine below_set ?_ GE176.out) | exact HB.out)) hb); clear HO_157003; clear HO_168003; clear HO_177003; clear BK156; clear BK167; clear BK176; clear HB; have HO_157003 := n0_; have HO_168003 := n1_; have HO_177003 := n2_; have BK156 := n3_; have BK167 := n4_; have BK176 := n5_; have HB := n6_; clear n0_ n1_ n2_ n3_ n4_ n5_ n6_; (try clear hb); (try clear hb2); (try clear hk); (try clear hi); have hcz66_0 : w65.cell? ⟨gb156, 0, none⟩ = some (.int .i64 t148) := (blk_cell BK156.out 0).trans rfl; have hcz66_1 : w65.cell? ⟨gb156, 1, none⟩ = some (.int .i64 t149) := (blk_cell BK156.out 1).trans rfl; have hcz66_2 : w65.cell? ⟨gb156, 2, none⟩ = some (.string t150) := (blk_cell BK156.out 2).trans rfl; have hcz66_3 : w65.cell? ⟨gb156, 3, none⟩ = some (.slice Ao10 t151.length co10) := (blk_cell BK156.out 3).trans rfl; have hfz66_0 := blk_frozen BK156.out 0; have hfz66_1 := blk_frozen BK156.out 1; have hfz66_2 := blk_frozen BK156.out 2; have hfz66_3 := blk_frozen BK156.out 3))
   go_ret
   exact ⟨by first | rfl | (simp [errW_none, errW_some] <;> rfl) | (simp [*, errW_none, errW_some] <;> rfl), by repeat (first | (with_reducible first | exact HB.out | apply below_alloc | apply pw_below_drewN | apply below_drew1 | refine below_set ?_ GE156.out | refine below_set ?_ GE167.out | refine below_set ?_ GE176.out) | exact HB.out)⟩
theorem awake_eval : jobshelllaw05_awake.f 60 = some true := by kernel_rfl
theorem awake_up (k n : Nat) (r : Bool) (h : jobshelllaw05_awake.f k = some r) : k ≤ n → jobshelllaw05_awake.f n = some r := by
 intro hn
 induction hn with
 | refl => exact h
 | step _ ih => exact jobshelllaw05_awake.mono _ _ ih
theorem awake_is (k : Nat) (r : Bool) (h : jobshelllaw05_awake.f k = some r) : r = true := by
 have h1 := awake_up k (max k 60) r h (Nat.le_max_left _ _)
 have h2 := awake_up 60 (max k 60) true awake_eval (Nat.le_max_right _ _)
 rw [h1] at h2
 exact Option.some.inj h2
theorem jobshelllaw05_awake.calls (k : Nat) (r : Bool) (w : World) (h : jobshelllaw05_awake.f k = some r) (hT : Laid w := by first | assumption | exact HT.out | exact Laid.below HT.out (by repeat (first | (with_reducible first | exact HB.out | apply below_alloc | apply pw_below_drewN | apply below_drew1 | refine below_set ?_ (Aside0.out (by assumption))) | exact HB.out))) : Calls Tryd.prog 17 #[] w fun e w' => e = .returned (.bool r) ∧ Below w.heap.size w w' := by
 obtain rfl := awake_is k r h
 exact jobshelllaw05_awake.calls_true k w h hT
end Go.Proofs.YtglmdfddgmkmaaaDoor.Q
end
section
namespace Go.Proofs.YtglmdfddgmkmaaaDoor.Q
open Go.RowKit Go.Proofs.YtglmdfddgmkmaaaDoorW.PrintWords Go.Proofs.YtglmdfddgmkmaaaDoorW.PrintLast Go.Proofs.YtglmdfddgmkmaaaDoorW.PrintMore
attribute [local go_sem] max2_int min2_int max_two min_two max_three min_three max_four min_four
set_option linter.unusedVariables false
set_option linter.unusedSimpArgs false
def jobshellref05_Show.f (k : Nat) (a0_0 : Int) (a0_1 : Int) (a0_2 : ByteArray) (l0_3 : List (S26)) : Option (ByteArray × Int) := (jobshellref05_Valid.f k a0_0 a0_1 a0_2 l0_3).bind fun t237 => (if t237 = 0 then ((jobshellref05_show.f k a0_0 a0_1 a0_2 l0_3).bind fun t238 => (if (t238.size : Int) > 4096 then (some ((⟨#[]⟩ : ByteArray), 3)) else (some (t238, 0)))) else (some ((⟨#[]⟩ : ByteArray), t237)))
set_option maxHeartbeats 8000000 in
set_option maxRecDepth 100000 in
theorem jobshellref05_Show.calls (k : Nat) (a0_0 : Int) (a0_1 : Int) (a0_2 : ByteArray) (A0_3 : Option Addr) (c0_3 : Nat) (l0_3 : List (S26)) (r1 : ByteArray) (r2 : Int) (w : World) (hr0_3 : Kd.C k26 w A0_3 l0_3.length l0_3) (hc0_3 : l0_3.length ≤ c0_3) (h : jobshellref05_Show.f k a0_0 a0_1 a0_2 l0_3 = some (r1, r2)) :
 Calls Tryd.prog 23 #[.agg #[.int .i64 a0_0, .int .i64 a0_1, .string a0_2, .slice A0_3 l0_3.length c0_3]] w fun e w' => e = .returned (.tuple #[.string r1, .int .i64 r2]) ∧ Below w.heap.size w w' := by
 have hu26 := Tryd.underlying26
 have HR0_3 := Aside0.mk hr0_3
 have HC0_3 := Aside0.mk hc0_3
 clear hr0_3 hc0_3
 have HB := Aside0.mk (Below.refl w.heap.size w)
 have H : ((jobshellref05_Valid.f k a0_0 a0_1 a0_2 l0_3).bind fun t237 => (if t237 = 0 then ((jobshellref05_show.f k a0_0 a0_1 a0_2 l0_3).bind fun t238 => (if (t238.size : Int) > 4096 then (some ((⟨#[]⟩ : ByteArray), 3)) else (some (t238, 0)))) else (some ((⟨#[]⟩ : ByteArray), t237)))) = some (r1, r2) := h
 clear h
 replace H := Option.bind_eq_some_iff.mp H
 obtain ⟨t237, A20, H⟩ := H
 try dsimp only at H
 have A2 := Aside0.mk A20
 clear A20
 by_cases c3 : t237 = 0
 rotate_left
 ·rw [if_neg c3] at H
  have c3b0 : (t237 == 0) = false := beq_eq_false_iff_ne.mpr c3
  have c3b1 : (t237 != 0) = true := bne_iff_ne.mpr c3
  simp only [Option.some.injEq, Prod.mk.injEq] at H
  obtain ⟨rfl, rfl⟩ := H
  go_enter Tryd.func23, Tryd.ntmps23
  go_wp2_with (first | ((with_reducible refine gate_dst (N := 1) rfl ?_); refine box_event ?hg (N := 1) ?hd (cs := #[.int .i64 a0_0, .int .i64 a0_1, .string a0_2, .slice A0_3 l0_3.length c0_3]) (t := 26) ?hr ?_; (case hd => rfl); (case hg => rfl); (case hr => first | (go_simp; done) | (go_simp; rfl)); intro gb236 hg w16 hbox hb; have n0_ := Aside0.mk (below_step (by repeat (first | (with_reducible first | exact HB.out | apply below_alloc | apply pw_below_drewN | apply below_drew1) | exact HB.out)) hb); have n1_ := Aside0.mk (hbox); have n2_ := Aside0.mk ((by rw [hg]; exact (below_size (by repeat (first | (with_reducible first | exact HB.out | apply below_alloc | apply pw_below_drewN | apply below_drew1) | exact HB.out))) : w.heap.size ≤ gb236)); have n3_ := Aside0.mk ((by rw [hg]; exact (below_size (by repeat (first | (with_reducible first | exact HB.out | apply below_alloc | apply pw_below_drewN | apply below_drew1) | exact HB.out))) : w.heap.size ≤ gb236)); clear HB; have HB := n0_; have BK236 := n1_; have GW236 := n2_; have GE236 := n3_; clear n0_ n1_ n2_ n3_; clear hb hbox hg; have hcz17_0 : w16.cell? ⟨gb236, 0, none⟩ = some (.int .i64 a0_0) := (blk_cell BK236.out 0).trans rfl; have hcz17_1 : w16.cell? ⟨gb236, 1, none⟩ = some (.int .i64 a0_1) := (blk_cell BK236.out 1).trans rfl; have hcz17_2 : w16.cell? ⟨gb236, 2, none⟩ = some (.string a0_2) := (blk_cell BK236.out 2).trans rfl; have hcz17_3 : w16.cell? ⟨gb236, 3, none⟩ = some (.slice A0_3 l0_3.length c0_3) := (blk_cell BK236.out 3).trans rfl; have hfz17_0 := blk_frozen BK236.out 0; have hfz17_1 := blk_frozen BK236.out 1; have hfz17_2 := blk_frozen BK236.out 2; have hfz17_3 := blk_frozen BK236.out 3) | ((with_reducible refine gate_callee (f := 25) rfl ?_); refine goesL_ (some 7) rfl rfl Tryd.func25 (by kernel_rfl) rfl #[.agg #[.int .i64 a0_0, .int .i64 a0_1, .string a0_2, .slice A0_3 l0_3.length c0_3]] rfl (by (try simp only [List.map_toArray, List.map_cons, List.map_nil]); first | done | rfl | (simp only [List.length_drop, List.length_take]; rfl)) ?_; (with_reducible refine (jobshellref05_Valid.calls k a0_0 a0_1 a0_2 _ _ l0_3 t237 _ ?side1 ?side2 A2.out).mono ?_); (case side1 => repeat (first | exact (Kd.C_below HR0_3.out HB.out) | (with_reducible refine Kd.C_alloc ?_ _) | (with_reducible refine Kd.C_drewN ?_ _) | (with_reducible refine Kd.C_drew ?_))); (case side2 => exact HC0_3.out); rintro e w18 ⟨rfl, hb⟩; refine ⟨_, rfl, ?_⟩; have n0_ := Aside0.mk (blk_below (g := gb236) (o := .cells #[.int .i64 a0_0, .int .i64 a0_1, .string a0_2, .slice A0_3 l0_3.length c0_3] 26 (0, 0)) (by (with_reducible repeat (first | refine blk_drewN ?_ _ | refine blk_drew ?_ | refine blk_alloc ?_ _)); exact BK236.out) hb); have n1_ := Aside0.mk (below_step (by repeat (first | (with_reducible first | exact HB.out | apply below_alloc | apply pw_below_drewN | apply below_drew1 | refine below_set ?_ GE236.out) | exact HB.out)) hb); clear BK236; clear HB; have BK236 := n0_; have HB := n1_; clear n0_ n1_; (try clear hb); (try clear hb2); (try clear hk); (try clear hi)))
  go_ret2
  exact ⟨by first | rfl | (simp [errW_none, errW_some] <;> rfl) | (simp [*, errW_none, errW_some] <;> rfl), by repeat (first | (with_reducible first | exact HB.out | apply below_alloc | apply pw_below_drewN | apply below_drew1 | refine below_set ?_ GE236.out) | exact HB.out)⟩
 rw [if_pos c3] at H
 have c3b0 : (t237 == 0) = true := beq_iff_eq.mpr c3
 have c3b1 : (t237 != 0) = false := bne_eq_false_iff_eq.mpr c3
 clear c3
 replace H := Option.bind_eq_some_iff.mp H
 obtain ⟨t238, A40, H⟩ := H
 try dsimp only at H
 have A4 := Aside0.mk A40
 clear A40
 by_cases c5 : (t238.size : Int) > 4096
 ·rw [if_pos c5] at H
  have c5b0 : decide (4096 < (t238.size : Int)) = true := decide_eq_true c5
  have c5b1 : decide (4096 < t238.size) = true := decide_eq_true (by omega)
  clear c5
  simp only [Option.some.injEq, Prod.mk.injEq] at H
  obtain ⟨rfl, rfl⟩ := H
  go_enter Tryd.func23, Tryd.ntmps23
  go_wp2_with (first | ((with_reducible refine gate_dst (N := 1) rfl ?_); refine box_event ?hg (N := 1) ?hd (cs := #[.int .i64 a0_0, .int .i64 a0_1, .string a0_2, .slice A0_3 l0_3.length c0_3]) (t := 26) ?hr ?_; (case hd => rfl); (case hg => rfl); (case hr => first | (go_simp; done) | (go_simp; rfl)); intro gb236 hg w6 hbox hb; have n0_ := Aside0.mk (below_step (by repeat (first | (with_reducible first | exact HB.out | apply below_alloc | apply pw_below_drewN | apply below_drew1) | exact HB.out)) hb); have n1_ := Aside0.mk (hbox); have n2_ := Aside0.mk ((by rw [hg]; exact (below_size (by repeat (first | (with_reducible first | exact HB.out | apply below_alloc | apply pw_below_drewN | apply below_drew1) | exact HB.out))) : w.heap.size ≤ gb236)); have n3_ := Aside0.mk ((by rw [hg]; exact (below_size (by repeat (first | (with_reducible first | exact HB.out | apply below_alloc | apply pw_below_drewN | apply below_drew1) | exact HB.out))) : w.heap.size ≤ gb236)); clear HB; have HB := n0_; have BK236 := n1_; have GW236 := n2_; have GE236 := n3_; clear n0_ n1_ n2_ n3_; clear hb hbox hg; have hcz7_0 : w6.cell? ⟨gb236, 0, none⟩ = some (.int .i64 a0_0) := (blk_cell BK236.out 0).trans rfl; have hcz7_1 : w6.cell? ⟨gb236, 1, none⟩ = some (.int .i64 a0_1) := (blk_cell BK236.out 1).trans rfl; have hcz7_2 : w6.cell? ⟨gb236, 2, none⟩ = some (.string a0_2) := (blk_cell BK236.out 2).trans rfl; have hcz7_3 : w6.cell? ⟨gb236, 3, none⟩ = some (.slice A0_3 l0_3.length c0_3) := (blk_cell BK236.out 3).trans rfl; have hfz7_0 := blk_frozen BK236.out 0; have hfz7_1 := blk_frozen BK236.out 1; have hfz7_2 := blk_frozen BK236.out 2; have hfz7_3 := blk_frozen BK236.out 3) | ((with_reducible refine gate_callee (f := 25) rfl ?_); refine goesL_ (some 7) rfl rfl Tryd.func25 (by kernel_rfl) rfl #[.agg #[.int .i64 a0_0, .int .i64 a0_1, .string a0_2, .slice A0_3 l0_3.length c0_3]] rfl (by (try simp only [List.map_toArray, List.map_cons, List.map_nil]); first | done | rfl | (simp only [List.length_drop, List.length_take]; rfl)) ?_; (with_reducible refine (jobshellref05_Valid.calls k a0_0 a0_1 a0_2 _ _ l0_3 t237 _ ?side1 ?side2 A2.out).mono ?_); (case side1 => repeat (first | exact (Kd.C_below HR0_3.out HB.out) | (with_reducible refine Kd.C_alloc ?_ _) | (with_reducible refine Kd.C_drewN ?_ _) | (with_reducible refine Kd.C_drew ?_))); (case side2 => exact HC0_3.out); rintro e w8 ⟨rfl, hb⟩; refine ⟨_, rfl, ?_⟩; have n0_ := Aside0.mk (blk_below (g := gb236) (o := .cells #[.int .i64 a0_0, .int .i64 a0_1, .string a0_2, .slice A0_3 l0_3.length c0_3] 26 (0, 0)) (by (with_reducible repeat (first | refine blk_drewN ?_ _ | refine blk_drew ?_ | refine blk_alloc ?_ _)); exact BK236.out) hb); have n1_ := Aside0.mk (below_step (by repeat (first | (with_reducible first | exact HB.out | apply below_alloc | apply pw_below_drewN | apply below_drew1 | refine below_set ?_ GE236.out) | exact HB.out)) hb); clear BK236; clear HB; have BK236 := n0_; have HB := n1_; clear n0_ n1_; (try clear hb); (try clear hb2); (try clear hk); (try clear hi); have hcz9_0 : w8.cell? ⟨gb236, 0, none⟩ = some (.int .i64 a0_0) := (blk_cell BK236.out 0).trans rfl; have hcz9_1 : w8.cell? ⟨gb236, 1, none⟩ = some (.int .i64 a0_1) := (blk_cell BK236.out 1).trans rfl; have hcz9_2 : w8.cell? ⟨gb236, 2, none⟩ = some (.string a0_2) := (blk_cell BK236.out 2).trans rfl; have hcz9_3 : w8.cell? ⟨gb236, 3, none⟩ = some (.slice A0_3 l0_3.length c0_3) := (blk_cell BK236.out 3).trans rfl; have hfz9_0 := blk_frozen BK236.out 0; have hfz9_1 := blk_frozen BK236.out 1; have hfz9_2 := blk_frozen BK236.out 2; have hfz9_3 := blk_frozen BK236.out 3) | ((with_reducible refine gate_callee (f := 53) rfl ?_); refine goesL_ (some 12) rfl rfl Tryd.func53 (by kernel_rfl) rfl #[.agg #[.int .i64 a0_0, .int .i64 a0_1, .string a0_2, .slice A0_3 l0_3.length c0_3]] rfl (by (try simp only [List.map_toArray, List.map_cons, List.map_nil]); first | done | rfl | (simp only [List.length_drop, List.length_take]; rfl)) ?_; (with_reducible refine (jobshellref05_show.calls k a0_0 a0_1 a0_2 _ _ l0_3 t238 _ ?side1 ?side2 A4.out).mono ?_); (case side1 => repeat (first | exact (Kd.C_below HR0_3.out HB.out) | (with_reducible refine Kd.C_alloc ?_ _) | (with_reducible refine Kd.C_drewN ?_ _) | (with_reducible refine Kd.C_drew ?_))); (case side2 => exact HC0_3.out); rintro e w10 ⟨rfl, hb⟩; refine ⟨_, rfl, ?_⟩; have n0_ := Aside0.mk (blk_below (g := gb236) (o := .cells #[.int .i64 a0_0, .int .i64 a0_1, .string a0_2, .slice A0_3 l0_3.length c0_3] 26 (0, 0)) (by (with_reducible repeat (first | refine blk_drewN ?_ _ | refine blk_drew ?_ | refine blk_alloc ?_ _)); exact BK236.out) hb); have n1_ := Aside0.mk (below_step (by repeat (first | (with_reducible first | exact HB.out | apply below_alloc | apply pw_below_drewN | apply below_drew1 | refine below_set ?_ GE236.out) | exact HB.out)) hb); clear BK236; clear HB; have BK236 := n0_; have HB := n1_; clear n0_ n1_; (try clear hb); (try clear hb2); (try clear hk); (try clear hi)))
  go_ret2
  exact ⟨by first | rfl | (simp [errW_none, errW_some] <;> rfl) | (simp [*, errW_none, errW_some] <;> rfl), by repeat (first | (with_reducible first | exact HB.out | apply below_alloc | apply pw_below_drewN | apply below_drew1 | refine below_set ?_ GE236.out) | exact HB.out)⟩
 rw [if_neg c5] at H
 have c5b0 : decide (4096 < (t238.size : Int)) = false := decide_eq_false c5
 have c5b1 : decide (4096 < t238.size) = false := decide_eq_false (by omega)
 clear c5
 simp only [Option.some.injEq, Prod.mk.injEq] at H
 obtain ⟨rfl, rfl⟩ := H
 go_enter Tryd.func23, Tryd.ntmps23
 go_wp2_with (first | ((with_reducible refine gate_dst (N := 1) rfl ?_); refine box_event ?hg (N := 1) ?hd (cs := #[.int .i64 a0_0, .int .i64 a0_1, .string a0_2, .slice A0_3 l0_3.length c0_3]) (t := 26) ?hr ?_; (case hd => rfl); (case hg => rfl); (case hr => first | (go_simp; done) | (go_simp; rfl)); intro gb236 hg w11 hbox hb; have n0_ := Aside0.mk (below_step (by repeat (first | (with_reducible first | exact HB.out | apply below_alloc | apply pw_below_drewN | apply below_drew1) | exact HB.out)) hb); have n1_ := Aside0.mk (hbox); have n2_ := Aside0.mk ((by rw [hg]; exact (below_size (by repeat (first | (with_reducible first | exact HB.out | apply below_alloc | apply pw_below_drewN | apply below_drew1) | exact HB.out))) : w.heap.size ≤ gb236)); have n3_ := Aside0.mk ((by rw [hg]; exact (below_size (by repeat (first | (with_reducible first | exact HB.out | apply below_alloc | apply pw_below_drewN | apply below_drew1) | exact HB.out))) : w.heap.size ≤ gb236)); clear HB; have HB := n0_; have BK236 := n1_; have GW236 := n2_; have GE236 := n3_; clear n0_ n1_ n2_ n3_; clear hb hbox hg; have hcz12_0 : w11.cell? ⟨gb236, 0, none⟩ = some (.int .i64 a0_0) := (blk_cell BK236.out 0).trans rfl; have hcz12_1 : w11.cell? ⟨gb236, 1, none⟩ = some (.int .i64 a0_1) := (blk_cell BK236.out 1).trans rfl; have hcz12_2 : w11.cell? ⟨gb236, 2, none⟩ = some (.string a0_2) := (blk_cell BK236.out 2).trans rfl; have hcz12_3 : w11.cell? ⟨gb236, 3, none⟩ = some (.slice A0_3 l0_3.length c0_3) := (blk_cell BK236.out 3).trans rfl; have hfz12_0 := blk_frozen BK236.out 0; have hfz12_1 := blk_frozen BK236.out 1; have hfz12_2 := blk_frozen BK236.out 2; have hfz12_3 := blk_frozen BK236.out 3) | ((with_reducible refine gate_callee (f := 25) rfl ?_); refine goesL_ (some 7) rfl rfl Tryd.func25 (by kernel_rfl) rfl #[.agg #[.int .i64 a0_0, .int .i64 a0_1, .string a0_2, .slice A0_3 l0_3.length c0_3]] rfl (by (try simp only [List.map_toArray, List.map_cons, List.map_nil]); first | done | rfl | (simp only [List.length_drop, List.length_take]; rfl)) ?_; (with_reducible refine (jobshellref05_Valid.calls k a0_0 a0_1 a0_2 _ _ l0_3 t237 _ ?side1 ?side2 A2.out).mono ?_); (case side1 => repeat (first | exact (Kd.C_below HR0_3.out HB.out) | (with_reducible refine Kd.C_alloc ?_ _) | (with_reducible refine Kd.C_drewN ?_ _) | (with_reducible refine Kd.C_drew ?_))); (case side2 => exact HC0_3.out); rintro e w13 ⟨rfl, hb⟩; refine ⟨_, rfl, ?_⟩; have n0_ := Aside0.mk (blk_below (g := gb236) (o := .cells #[.int .i64 a0_0, .int .i64 a0_1, .string a0_2, .slice A0_3 l0_3.length c0_3] 26 (0, 0)) (by (with_reducible repeat (first | refine blk_drewN ?_ _ | refine blk_drew ?_ | refine blk_alloc ?_ _)); exact BK236.out) hb); have n1_ := Aside0.mk (below_step (by repeat (first | (with_reducible first | exact HB.out | apply below_alloc | apply pw_below_drewN | apply below_drew1 | refine below_set ?_ GE236.out) | exact HB.out)) hb); clear BK236; clear HB; have BK236 := n0_; have HB := n1_; clear n0_ n1_; (try clear hb); (try clear hb2); (try clear hk); (try clear hi); have hcz14_0 : w13.cell? ⟨gb236, 0, none⟩ = some (.int .i64 a0_0) := (blk_cell BK236.out 0).trans rfl; have hcz14_1 : w13.cell? ⟨gb236, 1, none⟩ = some (.int .i64 a0_1) := (blk_cell BK236.out 1).trans rfl; have hcz14_2 : w13.cell? ⟨gb236, 2, none⟩ = some (.string a0_2) := (blk_cell BK236.out 2).trans rfl; have hcz14_3 : w13.cell? ⟨gb236, 3, none⟩ = some (.slice A0_3 l0_3.length c0_3) := (blk_cell BK236.out 3).trans rfl; have hfz14_0 := blk_frozen BK236.out 0; have hfz14_1 := blk_frozen BK236.out 1; have hfz14_2 := blk_frozen BK236.out 2; have hfz14_3 := blk_frozen BK236.out 3) | ((with_reducible refine gate_callee (f := 53) rfl ?_); refine goesL_ (some 12) rfl rfl Tryd.func53 (by kernel_rfl) rfl #[.agg #[.int .i64 a0_0, .int .i64 a0_1, .string a0_2, .slice A0_3 l0_3.length c0_3]] rfl (by (try simp only [List.map_toArray, List.map_cons, List.map_nil]); first | done | rfl | (simp only [List.length_drop, List.length_take]; rfl)) ?_; (with_reducible refine (jobshellref05_show.calls k a0_0 a0_1 a0_2 _ _ l0_3 t238 _ ?side1 ?side2 A4.out).mono ?_); (case side1 => repeat (first | exact (Kd.C_below HR0_3.out HB.out) | (with_reducible refine Kd.C_alloc ?_ _) | (with_reducible refine Kd.C_drewN ?_ _) | (with_reducible refine Kd.C_drew ?_))); (case side2 => exact HC0_3.out); rintro e w15 ⟨rfl, hb⟩; refine ⟨_, rfl, ?_⟩; have n0_ := Aside0.mk (blk_below (g := gb236) (o := .cells #[.int .i64 a0_0, .int .i64 a0_1, .string a0_2, .slice A0_3 l0_3.length c0_3] 26 (0, 0)) (by (with_reducible repeat (first | refine blk_drewN ?_ _ | refine blk_drew ?_ | refine blk_alloc ?_ _)); exact BK236.out) hb); have n1_ := Aside0.mk (below_step (by repeat (first | (with_reducible first | exact HB.out | apply below_alloc | apply pw_below_drewN | apply below_drew1 | refine below_set ?_ GE236.out) | exact HB.out)) hb); clear BK236; clear HB; have BK236 := n0_; have HB := n1_; clear n0_ n1_; (try clear hb); (try clear hb2); (try clear hk); (try clear hi)))
 go_ret2
 exact ⟨by first | rfl | (simp [errW_none, errW_some] <;> rfl) | (simp [*, errW_none, errW_some] <;> rfl), by repeat (first | (with_reducible first | exact HB.out | apply below_alloc | apply pw_below_drewN | apply below_drew1 | refine below_set ?_ GE236.out) | exact HB.out)⟩
def jobshelllaw05_ArithShows.f (k : Nat) (a0_0 : Int) (a0_1 : Int) (a0_2 : ByteArray) (l0_3 : List (S26)) : Option (Bool) := (jobshellref05_Small.f k a0_0 a0_1 a0_2 l0_3 60).bind fun t240 => (if t240 = true then ((arith_Show.f k a0_0 a0_1 a0_2 l0_3).bind fun bt241 => ((jobshellref05_Show.f k a0_0 a0_1 a0_2 l0_3).bind fun bt243 => (if bt241.1.toList = bt243.1.toList then (if bt241.2 = bt243.2 then ((jobshelllaw05_awake.f k).bind fun t245 => (some t245)) else (some false)) else (some false)))) else ((jobshelllaw05_awake.f k).bind fun t246 => (some t246)))
end Go.Proofs.YtglmdfddgmkmaaaDoor.Q
end

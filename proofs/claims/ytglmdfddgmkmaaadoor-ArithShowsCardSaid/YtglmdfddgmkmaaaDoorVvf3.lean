/- What the claim needs, part 4 of 6. -/
import Derived.Maps.OwnSet
import Derived.Deep.WholeRow
import Derived.Test.YtglmdfddgmkmaaaDoorVvf2
section
namespace Go.Proofs.YtglmdfddgmkmaaaDoor.Q
open Go.RowKit Go.Proofs.YtglmdfddgmkmaaaDoorW.PrintWords Go.Proofs.YtglmdfddgmkmaaaDoorW.PrintLast Go.Proofs.YtglmdfddgmkmaaaDoorW.PrintMore
attribute [local go_sem] max2_int min2_int max_two min_two max_three min_three max_four min_four
set_option linter.unusedVariables false
set_option linter.unusedSimpArgs false
set_option maxRecDepth 100000 in
set_option maxHeartbeats 4000000 in
theorem level_step (s : ByteArray) (hs : s.size ≤ 4096) (k n : Nat) (hn : n ≤ 13) (h13 : C122 s k) (hl : n < 13 → ∀ j, j ≤ k → C105 s j (n + 1)) : C105 s (k + 1) n := by
 intro m hm g p t w0 w r hr hI hB hp
 have H13 := Aside0.mk h13
 have HS := Aside0.mk hs
 have HP := Aside0.mk hp
 have HM := Aside0.mk hm
 have hm0 : (0 : Int) ≤ m := by omega
 have hm1 : m ≤ 13 := by omega
 clear h13 hs hp
 simp only [pr] at hr
 have hu26 := Tryd.underlying26
 have hu65 := Tryd.underlying65
 by_cases h13 : n = 13
 ·have q1 : (m == 13) = true := beq_iff_eq.mpr (by omega)
  rw [if_pos h13] at hr
  clear h13 hm hl hn
  have HA := Aside0.mk hr
  clear hr
  cases r with
  | error q =>
   obtain ⟨q, er⟩ := q
   have HC := Aside0.mk (Cx.start (s := s) hI hB)
   have gl := HC.out.lt
   clear hI hB
   go_enter Tryd.func105, Tryd.ntmps105
   go_wp2_with (first | ((with_reducible refine gate_dst (N := 4) rfl ?_); refine alloc26_event rfl 4 rfl rfl ?_; intro b4 wa1 hb_ ha_ hw_; have zb4 := hw_.size; have yb4 := Nat.le_of_eq hb_.symm; have nHC := Aside0.mk (HC.out.below hw_); have nVb4 := Aside0.mk (Vr.mk (w := w) ha_ (Nat.le_trans HC.out.size yb4)); clear HC; have HC := nHC; have Vb4 := nVb4; clear nHC nVb4; have kb4 := Vb4.out.ge; clear hw_ ha_ hb_) | (go_at_call 122; (with_reducible refine (H13.out g p t w0 _ _ HA.out HC.out.st HC.out.bel HP.out).mono ?_); rintro e we ⟨rfl, hb, hk⟩))
   exact ⟨rfl, Post.err hb (KeepBut.trans HC.out.keep hk (.inl rfl))⟩
  | ok xa =>
   obtain ⟨x, p1, t1⟩ := xa
   have HC := Aside0.mk (Cx.start (s := s) hI hB)
   have gl := HC.out.lt
   clear hI hB
   go_enter Tryd.func105, Tryd.ntmps105
   go_wp2_with (first | ((with_reducible refine gate_dst (N := 4) rfl ?_); refine alloc26_event rfl 4 rfl rfl ?_; intro b4 wa1 hb_ ha_ hw_; have zb4 := hw_.size; have yb4 := Nat.le_of_eq hb_.symm; have nHC := Aside0.mk (HC.out.below hw_); have nVb4 := Aside0.mk (Vr.mk (w := w) ha_ (Nat.le_trans HC.out.size yb4)); clear HC; have HC := nHC; have Vb4 := nVb4; clear nHC nVb4; have kb4 := Vb4.out.ge; clear hw_ ha_ hb_) | (go_at_call 122; have gx := Nat.lt_of_lt_of_le HC.out.lt HC.out.size; have qx := HC.out.size; have lb4_x := Vb4.out.lt; (with_reducible refine (H13.out g p t w0 _ _ HA.out HC.out.st HC.out.bel HP.out).mono ?_); rintro e wc2 ⟨Ax, cx, rfl, ht_, hi, hb, hk⟩; have zx := hk.1; have nHC := Aside0.mk (HC.out.call hi hb hk); have nVb4 := Aside0.mk (Vb4.out.call hk gl); have nTx := Aside0.mk (ht_); clear HC Vb4; have HC := nHC; have Vb4 := nVb4; have Tx := nTx; clear nHC nVb4 nTx; clear ht_ hi hb hk) | (refine store26_event rfl 4 (.tmp 11) rfl rfl rfl rfl Vb4.out.at_ ?_; intro ws3 ha_ hw_; have zws3 := hw_.kept.1; have nHC := Aside0.mk (HC.out.wrote hw_ Vb4.out.ge); have nTx := Aside0.mk (Tx.out.wrote hw_ (by omega)); have nVb4 := Aside0.mk (Vr.mk (w := w) ha_ Vb4.out.ge); clear HC Tx Vb4; have HC := nHC; have Tx := nTx; have Vb4 := nVb4; clear nHC nTx nVb4; clear hw_ ha_))
   refine bodyPost_ret (results_cell_row rfl _ _ b4 26 #[.int .i64 (x.f0), .int .i64 (x.f1), .string (x.f2), .slice Ax x.f3.length cx] (0, 0) _ rfl Vb4.out.at_ Tryd.underlying26 rfl (by kernel_rfl)) rfl ?_
   exact Post.done Tx.out HC.out (by omega) (by omega)
 have q1 : (m == 13) = false := beq_eq_false_iff_ne.mpr (by omega)
 have hm2 : m ≤ 12 := by omega
 rw [if_neg h13] at hr
 have HL := Aside0.mk (hl (by omega))
 clear h13 hm hl hn
 cases hA : pr s k (.level (n + 1)) p t with
 | none => rw [hA] at hr; simp [ebind] at hr
 | some ra =>
  rw [hA] at hr
  have HA := Aside0.mk hA
  clear hA
  cases ra with
  | error q =>
   obtain ⟨q, er⟩ := q
   simp only [ebind, Option.some.injEq] at hr
   subst hr
   have HC := Aside0.mk (Cx.start (s := s) hI hB)
   have gl := HC.out.lt
   clear hI hB
   go_enter Tryd.func105, Tryd.ntmps105
   go_wp2_with (first | ((with_reducible refine gate_dst (N := 4) rfl ?_); refine alloc26_event rfl 4 rfl rfl ?_; intro b4 wa1 hb_ ha_ hw_; have zb4 := hw_.size; have yb4 := Nat.le_of_eq hb_.symm; have nHC := Aside0.mk (HC.out.below hw_); have nVb4 := Aside0.mk (Vr.mk (w := w) ha_ (Nat.le_trans HC.out.size yb4)); clear HC; have HC := nHC; have Vb4 := nVb4; clear nHC nVb4; have kb4 := Vb4.out.ge; clear hw_ ha_ hb_) | (go_at_call 105; (with_reducible refine (HL.out k (Nat.le_refl _) (m + 1) (by have := HM.out; omega) g p t w0 _ _ HA.out HC.out.st HC.out.bel HP.out).mono ?_); rintro e we ⟨rfl, hb, hk⟩))
   exact ⟨rfl, Post.err hb (KeepBut.trans HC.out.keep hk (.inl rfl))⟩
  | ok xa =>
   obtain ⟨x, p1, t1⟩ := xa
   have HP1 := Aside0.mk (pr_fits s _ _ _ _ _ _ _ HP.out HA.out)
   simp only [ebind] at hr
   have HR := Aside0.mk hr
   clear hr
   have HC := Aside0.mk (Cx.start (s := s) hI hB)
   have gl := HC.out.lt
   clear hI hB
   go_enter Tryd.func105, Tryd.ntmps105
   go_wp2_with (first | ((with_reducible refine gate_dst (N := 4) rfl ?_); refine alloc26_event rfl 4 rfl rfl ?_; intro b4 wa1 hb_ ha_ hw_; have zb4 := hw_.size; have yb4 := Nat.le_of_eq hb_.symm; have nHC := Aside0.mk (HC.out.below hw_); have nVb4 := Aside0.mk (Vr.mk (w := w) ha_ (Nat.le_trans HC.out.size yb4)); clear HC; have HC := nHC; have Vb4 := nVb4; clear nHC nVb4; have kb4 := Vb4.out.ge; clear hw_ ha_ hb_) | (go_at_call 105; have gx := Nat.lt_of_lt_of_le HC.out.lt HC.out.size; have qx := HC.out.size; have lb4_x := Vb4.out.lt; (with_reducible refine (HL.out k (Nat.le_refl _) (m + 1) (by have := HM.out; omega) g p t w0 _ _ HA.out HC.out.st HC.out.bel HP.out).mono ?_); rintro e wc2 ⟨Ax, cx, rfl, ht_, hi, hb, hk⟩; have zx := hk.1; have nHC := Aside0.mk (HC.out.call hi hb hk); have nVb4 := Aside0.mk (Vb4.out.call hk gl); have nTx := Aside0.mk (ht_); clear HC Vb4; have HC := nHC; have Vb4 := nVb4; have Tx := nTx; clear nHC nVb4 nTx; clear ht_ hi hb hk) | ((with_reducible refine gate_dst (N := 5) rfl ?_); refine alloc26_event rfl 5 rfl rfl ?_; intro b5 wa3 hb_ ha_ hw_; have lb4_b5 := Vb4.out.lt; have zb5 := hw_.size; have yb5 := Nat.le_of_eq hb_.symm; have nHC := Aside0.mk (HC.out.below hw_); have nVb4 := Aside0.mk (Vb4.out.below hw_); have nTx := Aside0.mk (Tx.out.below hw_); have nVb5 := Aside0.mk (Vr.mk (w := w) ha_ (Nat.le_trans HC.out.size yb5)); clear HC Vb4 Tx; have HC := nHC; have Vb4 := nVb4; have Tx := nTx; have Vb5 := nVb5; clear nHC nVb4 nTx nVb5; have kb5 := Vb5.out.ge; clear hw_ ha_ hb_) | (refine store26_event rfl 5 (.tmp 15) rfl rfl rfl rfl Vb5.out.at_ ?_; intro ws4 ha_ hw_; have zws4 := hw_.kept.1; have nHC := Aside0.mk (HC.out.wrote hw_ Vb5.out.ge); have nVb4 := Aside0.mk (Vb4.out.wrote hw_ (by omega)); have nTx := Aside0.mk (Tx.out.wrote hw_ (by omega)); have nVb5 := Aside0.mk (Vr.mk (w := w) ha_ Vb5.out.ge); clear HC Vb4 Tx Vb5; have HC := nHC; have Vb4 := nVb4; have Tx := nTx; have Vb5 := nVb5; clear nHC nVb4 nTx nVb5; clear hw_ ha_))
   have TX := Aside0.mk (Tx.out.trX (X := b5) (by omega))
   clear Tx
   obtain ⟨lo, hlo⟩ : ∃ lo, wa1.heap.size = lo := ⟨_, rfl⟩
   rw [hlo] at TX
   have n1 : b4 < lo := by omega
   have n2 : g < lo := by omega
   have n3 : w.heap.size ≤ lo := by omega
   have n4 : b4 < b5 := by omega
   have HI := Aside0.mk (show wc2.heap.size ≤ ws4.heap.size by omega)
   (try simp only [Act.put, List.setIfInBounds_toArray, List.set_cons_zero, List.set_cons_succ])
   go_loopg [] k (fun kq wr => ∃ (x : S26) (p : Nat) (t : ByteArray) (A : Option Addr) (c hi : Nat), Aside0 (pr s kq (.more n x) p t = some r) ∧ Aside0 (kq ≤ k) ∧ Aside0 (p + t.size ≤ s.size) ∧ Aside0 (Cx s g w0 w wr p t) ∧ Aside0 (Vr w wr b4 0 0 ⟨#[]⟩ none 0 0) ∧ Aside0 (Vr w wr b5 x.f0 x.f1 x.f2 A x.f3.length c) ∧ Aside0 (TrX b5 wr lo hi A c x.f3) ∧ Aside0 (hi ≤ wr.heap.size))
   case atStart => exact ⟨x, p1, t1, Ax, cx, _, HR, ⟨Nat.le_refl _⟩, HP1, HC, Vb4, Vb5, TX, HI⟩
   case round =>
    clear HR HP1 HC Vb4 Vb5 TX HI HA HP
    obtain ⟨x, p, t, Ax, cx, hi, HR, HKQ, HP, HC, Vb4, Vb5, Tx, HI⟩ := hrel
    cases gk with
    | zero => exact absurd HR.out (by simp [pr])
    | succ j =>
     have hr := HR.out
     clear HR
     simp only [pr] at hr
     have HQ := Aside0.mk (next_fits s _ _ HP.out)
     cases hG : arith_binary.f t with
     | none => rw [hG] at hr; simp at hr
     | some ol =>
      obtain ⟨op, l⟩ := ol
      rw [hG] at hr
      have HG := Aside0.mk hG
      clear hG
      simp only at hr
      by_cases hln : l = (n : Int)
      rotate_left
      ·have v1 : (l == m) = false := beq_eq_false_iff_ne.mpr (by have := HM.out; omega)
       have v2 : (l != m) = true := bne_iff_ne.mpr (by have := HM.out; omega)
       rw [if_neg hln] at hr
       clear hln
       simp only [Option.some.injEq] at hr
       subst hr
       obtain ⟨HG, hg⟩ := HC.out.st
       have c0 := cellS65_0 HG
       have c1 := cellS65_1 HG
       have c2 := cellS65_2 HG
       clear HG hg
       go_upto_region 5 with (first | (go_at_call 107; (with_reducible refine (arith_binary.calls t op l _ HG.out).mono ?_); rintro e wp21 ⟨rfl, hd_⟩; have hw_ := hd_.below; have zwp21 := hw_.size; have nHC := Aside0.mk (HC.out.below hw_); have nVb4 := Aside0.mk (Vb4.out.below hw_); have nVb5 := Aside0.mk (Vb5.out.below hw_); have nTx := Aside0.mk (Tx.out.below hw_); clear HC Vb4 Vb5 Tx; have HC := nHC; have Vb4 := nVb4; have Vb5 := nVb5; have Tx := nTx; clear nHC nVb4 nVb5 nTx; clear hd_ hw_))
       clear c0 c1 c2
       obtain ⟨x0, x1, x2, x3⟩ := Vb5.out.at_.cells
       have hhi := HI.out
       go_wp2_with (first | (refine store26_event rfl 4 (.tmp 27) rfl rfl rfl rfl Vb4.out.at_ ?_; intro ws22 ha_ hw_; have zws22 := hw_.kept.1; have nHC := Aside0.mk (HC.out.wrote hw_ Vb4.out.ge); have nVb5 := Aside0.mk (Vb5.out.wrote hw_ (by omega)); have nTx := Aside0.mk (Tx.out.wrote hw_ (.inl n1)); have nVb4 := Aside0.mk (Vr.mk (w := w) ha_ Vb4.out.ge); clear HC Vb5 Tx Vb4; have HC := nHC; have Vb5 := nVb5; have Tx := nTx; have Vb4 := nVb4; clear nHC nVb5 nTx nVb4; clear hw_ ha_))
       refine bodyPost_ret (results_cell_row rfl _ _ b4 26 #[.int .i64 (x.f0), .int .i64 (x.f1), .string (x.f2), .slice Ax x.f3.length cx] (0, 0) _ rfl Vb4.out.at_ Tryd.underlying26 rfl (by kernel_rfl)) rfl ?_
       exact Post.done Tx.out.tr HC.out (by omega) (by omega)
      have v1 : (l == m) = true := beq_iff_eq.mpr (by have := HM.out; omega)
      have v2 : (l != m) = false := bne_eq_false_iff_eq.mpr (by have := HM.out; omega)
      rw [if_pos hln] at hr
      clear hln
      cases hA : pr s j (.level (n + 1)) (nextP s p t) (nextT s p t) with
      | none => rw [hA] at hr; simp [ebind] at hr
      | some ra =>
       rw [hA] at hr
       have HA := Aside0.mk hA
       clear hA
       cases ra with
       | error q =>
        obtain ⟨q, er⟩ := q
        simp only [ebind, Option.some.injEq] at hr
        subst hr
        obtain ⟨HG, hg⟩ := HC.out.st
        have c0 := cellS65_0 HG
        have c1 := cellS65_1 HG
        have c2 := cellS65_2 HG
        clear HG hg
        go_upto_region 5 with (first | (go_at_call 107; (with_reducible refine (arith_binary.calls t op l _ HG.out).mono ?_); rintro e wp21 ⟨rfl, hd_⟩; have hw_ := hd_.below; have zwp21 := hw_.size; have nHC := Aside0.mk (HC.out.below hw_); have nVb4 := Aside0.mk (Vb4.out.below hw_); have nVb5 := Aside0.mk (Vb5.out.below hw_); have nTx := Aside0.mk (Tx.out.below hw_); clear HC Vb4 Vb5 Tx; have HC := nHC; have Vb4 := nVb4; have Vb5 := nVb5; have Tx := nTx; clear nHC nVb4 nVb5 nTx; clear hd_ hw_))
        clear c0 c1 c2
        go_upto_region 8 with (first | (go_at_call 42; have gn1 := Nat.lt_of_lt_of_le HC.out.lt HC.out.size; have qn1 := HC.out.size; have lb4_n1 := Vb4.out.lt; have lb5_n1 := Vb5.out.lt; (with_reducible refine (next_calls g s t p w0 _ HC.out.st HC.out.bel HP.out HS.out).mono ?_); rintro e wn22 ⟨rfl, hi, hb, hk⟩; have zn1 := hk.1; have nHC := Aside0.mk (HC.out.call hi hb hk); have nVb4 := Aside0.mk (Vb4.out.call hk gl); have nVb5 := Aside0.mk (Vb5.out.call hk gl); have nTx := Aside0.mk (Tx.out.call hk (by omega)); clear HC Vb4 Vb5 Tx; have HC := nHC; have Vb4 := nVb4; have Vb5 := nVb5; have Tx := nTx; clear nHC nVb4 nVb5 nTx; clear hi hb hk))
        refine start_ (n := 9) (S := fun w' => At26 w' b5 x.f0 x.f1 x.f2 (.slice Ax x.f3.length cx)) (ds := [8]) #[false, false, false, false, false, false, false, false, false] (by kernel_rfl) rfl rfl Vb5.out.drew.at_ (fun hHeld => ?_)
        have nHC := Aside0.mk (HC.out.drew)
        have nVb4 := Aside0.mk (Vb4.out.drew)
        have nVb5 := Aside0.mk (Vb5.out.drew)
        have nTx := Aside0.mk (Tx.out.drew)
        clear HC Vb4 Vb5 Tx
        have HC := nHC
        have Vb4 := nVb4
        have Vb5 := nVb5
        have Tx := nTx
        clear nHC nVb4 nVb5 nTx
        have hhi := HI.out
        have zd : wn22.heap.size ≤ wn22.drew.heap.size := Nat.le_refl _
        refine pure_ (i := 0) (N := some 30) (v := ?_) (a' := ?_) #[true, false, false, false, false, false, false, false, false] rfl rfl (by kernel_rfl) (fun _ _ _ h => h) (Or.inl ⟨by rfl, ?_⟩) ?_ ?_
        rotate_left
        ·intro w'
         go_simp
         with_reducible rfl
        rotate_left
        ·simp only [Act.put, List.setIfInBounds_toArray, List.set_cons_zero, List.set_cons_succ, i64_w, i32_w]
         rfl
        refine pure_ (i := 2) (N := some 32) (v := ?_) (a' := ?_) #[true, false, true, false, false, false, false, false, false] rfl rfl (by kernel_rfl) (fun _ _ _ h => h) (Or.inl ⟨by rfl, ?_⟩) ?_ ?_
        rotate_left
        ·intro w'
         go_simp
         with_reducible rfl
        rotate_left
        ·simp only [Act.put, List.setIfInBounds_toArray, List.set_cons_zero, List.set_cons_succ, i64_w, i32_w]
         rfl
        refine pure_ (i := 3) (N := some 33) (v := ?_) (a' := ?_) #[true, false, true, true, false, false, false, false, false] rfl rfl (by kernel_rfl) (fun _ _ _ h => h) (Or.inl ⟨by rfl, ?_⟩) ?_ ?_
        rotate_left
        ·intro w'
         go_simp
         with_reducible rfl
        rotate_left
        ·simp only [Act.put, List.setIfInBounds_toArray, List.set_cons_zero, List.set_cons_succ, i64_w, i32_w]
         rfl
        refine pure_ (i := 4) (N := some 34) (v := ?_) (a' := ?_) #[true, false, true, true, true, false, false, false, false] rfl rfl (by kernel_rfl) (fun _ _ _ h => h) (Or.inl ⟨by rfl, ?_⟩) ?_ ?_
        rotate_left
        ·intro w'
         go_simp
         with_reducible rfl
        rotate_left
        ·simp only [Act.put, List.setIfInBounds_toArray, List.set_cons_zero, List.set_cons_succ, i64_w, i32_w]
         rfl
        refine take_ (i := 1) (N := some 31) (v := ?_) (a' := ?_) #[true, true, true, true, true, false, false, false, false] rfl rfl (by kernel_rfl) (fun _ _ _ h => h) (Or.inl ⟨by rfl, ?_⟩) hHeld ?_ ?_
        rotate_left
        ·rintro w' s3
         obtain ⟨e0, e1, e2, e3⟩ := s3.cells
         go_simp
         with_reducible rfl
        rotate_left
        ·simp only [Act.put, List.setIfInBounds_toArray, List.set_cons_zero, List.set_cons_succ, i64_w, i32_w]
         rfl
        refine one_ (i := 5) (N := some 35) #[true, true, true, true, true, true, false, false, false] rfl rfl (by kernel_rfl) (by decide) (fun K hK => ?_)
        refine goesP_ Tryd.func105 (by kernel_rfl) rfl #[.pointer (some ⟨g, 0, none⟩), .int .i64 (wrap64 (m + 1))] (by rfl) rfl (by simp only [List.map_toArray, List.map_cons, List.map_nil]; rfl) (faultV q er) ?_
        refine (HL.out j (by have := HKQ.out; omega) (wrap64 (m + 1)) (by have := HM.out; unfold wrap64; omega) g _ _ w0 _ _ HA.out HC.out.st HC.out.bel HQ.out).mono ?_
        rintro e we ⟨rfl, hb, hk⟩
        exact ⟨rfl, rfl, Post.err hb (KeepBut.trans HC.out.keep hk (.inl rfl))⟩
       | ok ya =>
        obtain ⟨y, p1, t1⟩ := ya
        have HP1 := Aside0.mk (pr_fits s _ _ _ _ _ _ _ HQ.out HA.out)
        simp only [ebind] at hr
        have HR := Aside0.mk hr
        clear hr
        obtain ⟨HG, hg⟩ := HC.out.st
        have c0 := cellS65_0 HG
        have c1 := cellS65_1 HG
        have c2 := cellS65_2 HG
        clear HG hg
        go_upto_region 5 with (first | (go_at_call 107; (with_reducible refine (arith_binary.calls t op l _ HG.out).mono ?_); rintro e wp21 ⟨rfl, hd_⟩; have hw_ := hd_.below; have zwp21 := hw_.size; have nHC := Aside0.mk (HC.out.below hw_); have nVb4 := Aside0.mk (Vb4.out.below hw_); have nVb5 := Aside0.mk (Vb5.out.below hw_); have nTx := Aside0.mk (Tx.out.below hw_); clear HC Vb4 Vb5 Tx; have HC := nHC; have Vb4 := nVb4; have Vb5 := nVb5; have Tx := nTx; clear nHC nVb4 nVb5 nTx; clear hd_ hw_))
        clear c0 c1 c2
        go_upto_region 8 with (first | (go_at_call 42; have gn1 := Nat.lt_of_lt_of_le HC.out.lt HC.out.size; have qn1 := HC.out.size; have lb4_n1 := Vb4.out.lt; have lb5_n1 := Vb5.out.lt; (with_reducible refine (next_calls g s t p w0 _ HC.out.st HC.out.bel HP.out HS.out).mono ?_); rintro e wn22 ⟨rfl, hi, hb, hk⟩; have zn1 := hk.1; have nHC := Aside0.mk (HC.out.call hi hb hk); have nVb4 := Aside0.mk (Vb4.out.call hk gl); have nVb5 := Aside0.mk (Vb5.out.call hk gl); have nTx := Aside0.mk (Tx.out.call hk (by omega)); clear HC Vb4 Vb5 Tx; have HC := nHC; have Vb4 := nVb4; have Vb5 := nVb5; have Tx := nTx; clear nHC nVb4 nVb5 nTx; clear hi hb hk))
        refine start_ (n := 9) (S := fun w' => At26 w' b5 x.f0 x.f1 x.f2 (.slice Ax x.f3.length cx)) (ds := [8]) #[false, false, false, false, false, false, false, false, false] (by kernel_rfl) rfl rfl Vb5.out.drew.at_ (fun hHeld => ?_)
        have nHC := Aside0.mk (HC.out.drew)
        have nVb4 := Aside0.mk (Vb4.out.drew)
        have nVb5 := Aside0.mk (Vb5.out.drew)
        have nTx := Aside0.mk (Tx.out.drew)
        clear HC Vb4 Vb5 Tx
        have HC := nHC
        have Vb4 := nVb4
        have Vb5 := nVb5
        have Tx := nTx
        clear nHC nVb4 nVb5 nTx
        have hhi := HI.out
        have zd : wn22.heap.size ≤ wn22.drew.heap.size := Nat.le_refl _
        refine pure_ (i := 0) (N := some 30) (v := ?_) (a' := ?_) #[true, false, false, false, false, false, false, false, false] rfl rfl (by kernel_rfl) (fun _ _ _ h => h) (Or.inl ⟨by rfl, ?_⟩) ?_ ?_
        rotate_left
        ·intro w'
         go_simp
         with_reducible rfl
        rotate_left
        ·simp only [Act.put, List.setIfInBounds_toArray, List.set_cons_zero, List.set_cons_succ, i64_w, i32_w]
         rfl
        refine pure_ (i := 2) (N := some 32) (v := ?_) (a' := ?_) #[true, false, true, false, false, false, false, false, false] rfl rfl (by kernel_rfl) (fun _ _ _ h => h) (Or.inl ⟨by rfl, ?_⟩) ?_ ?_
        rotate_left
        ·intro w'
         go_simp
         with_reducible rfl
        rotate_left
        ·simp only [Act.put, List.setIfInBounds_toArray, List.set_cons_zero, List.set_cons_succ, i64_w, i32_w]
         rfl
        refine pure_ (i := 3) (N := some 33) (v := ?_) (a' := ?_) #[true, false, true, true, false, false, false, false, false] rfl rfl (by kernel_rfl) (fun _ _ _ h => h) (Or.inl ⟨by rfl, ?_⟩) ?_ ?_
        rotate_left
        ·intro w'
         go_simp
         with_reducible rfl
        rotate_left
        ·simp only [Act.put, List.setIfInBounds_toArray, List.set_cons_zero, List.set_cons_succ, i64_w, i32_w]
         rfl
        refine pure_ (i := 4) (N := some 34) (v := ?_) (a' := ?_) #[true, false, true, true, true, false, false, false, false] rfl rfl (by kernel_rfl) (fun _ _ _ h => h) (Or.inl ⟨by rfl, ?_⟩) ?_ ?_
        rotate_left
        ·intro w'
         go_simp
         with_reducible rfl
        rotate_left
        ·simp only [Act.put, List.setIfInBounds_toArray, List.set_cons_zero, List.set_cons_succ, i64_w, i32_w]
         rfl
        refine take_ (i := 1) (N := some 31) (v := ?_) (a' := ?_) #[true, true, true, true, true, false, false, false, false] rfl rfl (by kernel_rfl) (fun _ _ _ h => h) (Or.inl ⟨by rfl, ?_⟩) hHeld ?_ ?_
        rotate_left
        ·rintro w' s3
         obtain ⟨e0, e1, e2, e3⟩ := s3.cells
         go_simp
         with_reducible rfl
        rotate_left
        ·simp only [Act.put, List.setIfInBounds_toArray, List.set_cons_zero, List.set_cons_succ, i64_w, i32_w]
         rfl
        refine one_ (i := 5) (N := some 35) #[true, true, true, true, true, true, false, false, false] rfl rfl (by kernel_rfl) (by decide) (fun K hK => ?_)
        refine goes_ Tryd.func105 (by kernel_rfl) rfl #[.pointer (some ⟨g, 0, none⟩), .int .i64 (wrap64 (m + 1))] (by rfl) rfl rfl (by simp only [List.map_toArray, List.map_cons, List.map_nil]; rfl) ?_
        have gy := Nat.lt_of_lt_of_le HC.out.lt HC.out.size
        have qy := HC.out.size
        have lb4_y := Vb4.out.lt
        have lb5_y := Vb5.out.lt
        with_reducible refine (HL.out j (by have := HKQ.out; omega) (wrap64 (m + 1)) (by have := HM.out; unfold wrap64; omega) g _ _ w0 _ _ HA.out HC.out.st HC.out.bel HQ.out).mono ?_
        rintro e wy ⟨Ay, cy, rfl, ht_, hi_, hb, hk⟩
        refine ⟨_, rfl, ?_⟩
        have zy := hk.1
        have nHC := Aside0.mk (HC.out.call hi_ hb hk)
        have nVb4 := Aside0.mk (Vb4.out.call hk gl)
        have nVb5 := Aside0.mk (Vb5.out.call hk gl)
        have nTx := Aside0.mk (Tx.out.call hk (by omega))
        have nTy := Aside0.mk (ht_)
        clear HC Vb4 Vb5 Tx
        have HC := nHC
        have Vb4 := nVb4
        have Vb5 := nVb5
        have Tx := nTx
        have Ty := nTy
        clear nHC nVb4 nVb5 nTx nTy
        clear ht_ hi_ hb hk
        refine hK.out _ _ Vb5.out.at_ (fun hHeld => ?_)
        clear hK K
        refine norm_ (a' := ?_) ?_ ?_
        rotate_left
        ·show Act.put _ (some 35) _ = _
         simp only [Act.put, List.setIfInBounds_toArray, List.set_cons_zero, List.set_cons_succ, i64_w, i32_w]
         rfl
        refine one_ (i := 6) (N := some 36) #[true, true, true, true, true, true, true, false, false] rfl rfl (by kernel_rfl) (by decide) (fun K hK => ?_)
        have hlt5 := Vb5.out.lt
        refine cells_stepX (X := b5) (by rfl) 36 rfl [(x, Ax, cx), (y, Ay, cy)] (lo := lo) (hi := wy.heap.size) (by go_simp; rfl) (trX_all2 (Tx.out.wide (Nat.le_refl _) (by omega)) (Ty.out.trX2 (by omega) (by omega))) (by omega) (Nat.le_refl _) (by omega) (by simp) ?_
        intro An cn wl ht_ hw_ hz_
        have zl := hw_.size
        have nHC := Aside0.mk (HC.out.below hw_)
        have nVb4 := Aside0.mk (Vb4.out.below hw_)
        have nVb5 := Aside0.mk (Vb5.out.below hw_)
        have nTn := Aside0.mk (ht_)
        clear HC Vb4 Vb5
        have HC := nHC
        have Vb4 := nVb4
        have Vb5 := nVb5
        have Tn := nTn
        clear nHC nVb4 nVb5 nTn
        clear ht_ hw_
        refine hK.out _ _ Vb5.out.at_ (fun hHeld => ?_)
        clear hK K
        refine norm_ (a' := ?_) ?_ ?_
        rotate_left
        ·show Act.put _ (some 36) _ = _
         simp only [Act.put, List.setIfInBounds_toArray, List.set_cons_zero, List.set_cons_succ, i64_w, i32_w]
         rfl
        refine pure_ (i := 7) (N := some 37) (v := ?_) (a' := ?_) #[true, true, true, true, true, true, true, true, false] rfl rfl (by kernel_rfl) (fun _ _ _ h => h) (Or.inl ⟨by rfl, ?_⟩) ?_ ?_
        rotate_left
        ·intro w'
         go_simp
         with_reducible rfl
        rotate_left
        ·simp only [Act.put, List.setIfInBounds_toArray, List.set_cons_zero, List.set_cons_succ, i64_w, i32_w]
         rfl
        refine last_ (i := 8) (N := none) #[true, true, true, true, true, true, true, true, true] rfl rfl (by kernel_rfl) (by decide) (fun K hK => ?_)
        refine store26_step (by rfl) 5 (.tmp 37) rfl rfl rfl rfl Vb5.out.at_ ?_
        intro wf ha_ hw_
        have zf := hw_.kept.1
        have nHC := Aside0.mk (HC.out.wrote hw_ Vb5.out.ge)
        have nTn := Aside0.mk (Tn.out.wrote hw_ (.inr (.inr rfl)))
        have nVb4 := Aside0.mk (Vb4.out.wrote hw_ (by omega))
        have nVb5 := Aside0.mk (Vr.mk (w := w) ha_ Vb5.out.ge)
        clear HC Tn Vb4 Vb5
        have HC := nHC
        have Tn := nTn
        have Vb4 := nVb4
        have Vb5 := nVb5
        clear nHC nTn nVb4 nVb5
        clear hw_ ha_
        refine hK.out _ _ ?_
        refine done_ (by kernel_rfl) ?_
        go_wp2_with (fail)
        go_roundg j
        case measure => omega
        case rel => exact ⟨⟨op, 0, noName, [x, y]⟩, p1, t1, An, cn, _, HR, ⟨by have := HKQ.out; omega⟩, HP1, HC, Vb4, Vb5, Tn, ⟨by omega⟩⟩
theorem pr_calls (s : ByteArray) (hs : s.size ≤ 4096) (k : Nat) : C43 s k ∧ C70 s k ∧ C122 s k ∧ ∀ n, n ≤ 13 → C105 s k n := by
 induction k using Nat.strongRecOn with
 | _ k ih =>
  cases k with
  | zero =>
   refine ⟨?_, ?_, ?_, ?_⟩
   ·intro g p t w0 w r hr; simp [pr] at hr
   ·intro g p t w0 w r hr; simp [pr] at hr
   ·intro g p t w0 w r hr; simp [pr] at hr
   ·intro n _ m _ g p t w0 w r hr; simp [pr] at hr
  | succ k =>
   obtain ⟨i1, i2, i3, i4⟩ := ih k (by omega)
   refine ⟨first_step s hs k i1 i2, second_step s hs k (i4 3 (by omega)) i1 i2, operand_step s hs k i1 i3, ?_⟩
   intro n hn
   exact level_step s hs k n hn i3 (fun hlt j hj => (ih j (by omega)).2.2.2 (n + 1) (by omega))
def At1 (W : World) (b t : Nat) (n : Int) : Prop := W.heap[b]? = some (.cells #[.int .i64 n] t (0, 0))
theorem At1.cell {W : World} {b t : Nat} {n : Int} (h : At1 W b t n) : W.cell? ⟨b, 0, none⟩ = some (.int .i64 n) := (blk_cell h 0).trans rfl
theorem wrote1 {W : World} {b t : Nat} {n n' : Int} (h : At1 W b t n) : At1 (W.setCell ⟨b, 0, none⟩ (.int .i64 n')) b t n' ∧ Wrote b W (W.setCell ⟨b, 0, none⟩ (.int .i64 n')) := by
 have e0 : (W.setCell ⟨b, 0, none⟩ (.int .i64 n')).heap[b]? = some (.cells #[.int .i64 n'] t (0, 0)) := blk_put h 0 _ rfl
 refine ⟨e0, ⟨?_, ?_⟩⟩
 ·exact Kept.setCell (Kept.refl W (fun k => k = b)) (p := ⟨b, 0, none⟩) (.inl rfl) _
 intro B w0 hb hle
 exact Below.setCell hb (p := ⟨b, 0, none⟩) hle _
theorem store1_run {W : World} {a : Act} {t : TypeId} (ht : t = 3 ∨ t = 27) {q r : Operand} {o : Oper} (ho : o.op = .store t q r) {b t0 : Nat} {n n' : Int} (hp : a.eval q = .pointer (some ⟨b, 0, none⟩)) (hq : a.eval r = .int .i64 n')
 (hb : At1 W b t0 n) : (execOp a.eval o).run Tryd.prog W = .ok .skip (W.setCell ⟨b, 0, none⟩ (.int .i64 n')) := by
 have c0 := hb.cell
 have f0 := blk_frozen hb 0
 have hu3 := Tryd.underlying3
 have hu27 := Tryd.underlying27
 unfold execOp
 simp only [ho, hp, hq]
 rcases ht with rfl | rfl
 ·go_simp
 go_simp
theorem store1_step {ops : Array Oper} {o : Oper} {a : Act} {Q : Exit → Act → World → Prop} {Kc : Act → World → Prop} {W : World} (hw : Region.wanted o (yielded ops a.tmps) = true) (t : TypeId) (ht : t = 3 ∨ t = 27) (q r : Operand) (hN : o.dst = none) (ho : o.op = .store t q r)
 {b t0 : Nat} {n n' : Int} (hp : a.eval q = .pointer (some ⟨b, 0, none⟩)) (hq : a.eval r = .int .i64 n') (hb : At1 W b t0 n) (h : ∀ W', At1 W' b t0 n' → Wrote b W W' → Kc a W') :
 if Region.wanted o (yielded ops a.tmps) = true then Oper.wp Tryd.prog o a W Kc Q else Kc (a.put none undef) W := by
 rw [if_pos hw]
 unfold Oper.wp
 rw [store1_run ht ho hp hq hb]
 show Kc (a.put o.dst undef) _
 rw [hN]
 obtain ⟨e1, e2⟩ := wrote1 (n' := n') hb
 exact h _ e1 e2
theorem At26.wrote {W W' : World} {b b' : Nat} {op n : Int} {nm : ByteArray} {v : Value} (h : At26 W b op n nm v) (hw : Wrote b' W W') (hne : b ≠ b') : At26 W' b op n nm v := blk_kept h hw.kept hne
theorem At1.wrote {W W' : World} {b t b' : Nat} {n : Int} (h : At1 W b t n) (hw : Wrote b' W W') (hne : b ≠ b') : At1 W' b t n := blk_kept h hw.kept hne
theorem At26.below {W W' : World} {b : Nat} {op n : Int} {nm : ByteArray} {v : Value} (h : At26 W b op n nm v) (hw : Below W.heap.size W W') : At26 W' b op n nm v := (hw.block b (blk_lt h)).trans h
theorem At1.below {W W' : World} {b t : Nat} {n : Int} (h : At1 W b t n) (hw : Below W.heap.size W W') : At1 W' b t n := (hw.block b (blk_lt h)).trans h
def EndIs (F : World → Prop) : Exit → Act → World → Prop
 | .normal, a, w => a.defers = [] ∧ F w
 | .ret, a, w => a.defers = [] ∧ F w
 | _, _, _ => False
theorem wpS_end {c : Code} {a : Act} {cs : List Frame} {c₀ : Frame} {w : World} {fn : Func} {R : Ending → FrameMode → World → Prop} {u' : FrameMode} {cs0 : List Frame} (hcs : cs0 = { c₀ with mode := u' } :: cs) (F : World → Prop) (hr : fn.results = #[]) (hR : ∀ w, F w → R (.returned (.tuple #[])) u' w)
 (h : c.wp Tryd.prog (EndIs F) a w) : c.wpS Tryd.prog (bodyPostS Tryd.prog fn c₀ cs R) a cs0 w := by
 subst hcs
 refine wpS_of_wp (wp_mono h ?_)
 intro e a w hq
 cases e with
 | normal => exact ⟨hq.1, u', rfl, _, results_none hr _ _ _, hR w hq.2⟩
 | ret => exact ⟨hq.1, u', rfl, _, results_none hr _ _ _, hR w hq.2⟩
 | exit id => exact hq.elim
 | goto l => exact hq.elim
 | panic ch => exact hq.elim
 | outgrown => exact hq.elim
theorem catch_idle (b2 b3 b4 : Nat) (w : World) :
 CallsD Tryd.prog 41 #[.pointer (some ⟨b2, 0, none⟩), .pointer (some ⟨b3, 0, none⟩), .pointer (some ⟨b4, 0, none⟩)] .returning w fun e u' w' => e = .returned (.tuple #[]) ∧ u' = .returning ∧ w' = w := by
 refine callsD_of_wpS Tryd.func41 rfl fun c₀ cs hu => ?_
 simp only [Tryd.ntmps41, List.size_toArray, List.length_cons, List.length_nil, Nat.reduceAdd, Nat.reduceSub, Array.replicate_succ, Array.replicate_zero, List.push_toArray, List.append_toArray, List.nil_append, List.cons_append]
 apply wpS_seq
 apply wpS_region
 simp [wpOpsS, go_sem, recoverD, hu, Exit.thenS]
 refine wpS_end (u' := .returning) (by cases c₀; simp_all) (fun w' => w' = w) Tryd.results41 (fun w' h => ⟨rfl, rfl, h⟩) ?_
 have hu20 := Tryd.underlying20
 go_wp2
 exact ⟨rfl, rfl⟩
structure Caught (w0 : World) (b2 b3 b4 : Nat) (at_ er : Int) (w w' : World) : Prop where
 x : At26 w' b2 0 0 ⟨#[]⟩ (.slice none 0 0)
 at_ : At1 w' b3 3 at_
 er : At1 w' b4 27 er
 bel : ∀ B, Below B w0 w → B ≤ b2 → B ≤ b3 → B ≤ b4 → B ≤ w.heap.size → Below B w0 w'
set_option maxRecDepth 100000 in
set_option maxHeartbeats 4000000 in
theorem catch_fault (w0 : World) (b2 b3 b4 : Nat) (at_ er : Int) (w : World) {op n : Int} {nm : ByteArray} {v : Value} {a0 e0 : Int} (h2 : At26 w b2 op n nm v) (h3 : At1 w b3 3 a0) (h4 : At1 w b4 27 e0) (n23 : b2 < b3) (n34 : b3 < b4) :
 CallsD Tryd.prog 41 #[.pointer (some ⟨b2, 0, none⟩), .pointer (some ⟨b3, 0, none⟩), .pointer (some ⟨b4, 0, none⟩)] (.panicking [{ v := .iface 62 (.agg #[.int .i64 at_, .int .i64 er]), recovered := false }]) w
  fun e u' w' => e = .returned (.tuple #[]) ∧ u' = .panicking [{ v := .iface 62 (.agg #[.int .i64 at_, .int .i64 er]), recovered := true }] ∧ Caught w0 b2 b3 b4 at_ er w w' := by
 refine callsD_of_wpS Tryd.func41 rfl fun c₀ cs hu => ?_
 simp only [Tryd.ntmps41, List.size_toArray, List.length_cons, List.length_nil, Nat.reduceAdd, Nat.reduceSub, Array.replicate_succ, Array.replicate_zero, List.push_toArray, List.append_toArray, List.nil_append, List.cons_append]
 apply wpS_seq
 apply wpS_region
 simp [wpOpsS, go_sem, recoverD, hu, Exit.thenS]
 refine wpS_end (u' := .panicking [{ v := .iface 62 (.agg #[.int .i64 at_, .int .i64 er]), recovered := true }]) rfl (fun w' => Caught w0 b2 b3 b4 at_ er w w') Tryd.results41 (fun w' h => ⟨rfl, rfl, h⟩) ?_
 have hu20 := Tryd.underlying20
 have hu62 := Tryd.underlying62
 have hu26 := Tryd.underlying26
 have hta : ∀ (v : Value) (W : World), (Instr.typeAssert (.iface 62 v) 20 62 true).run Tryd.prog W = .ok (.tuple #[v, .bool true]) W := fun v W => by rfl
 go_upto_region 7 with (fail)
 have hbel : Below w.heap.size w (w.alloc (.cells #[.int .i64 at_, .int .i64 er] 62)) := below_alloc (Below.refl _ _) _
 have E2 := Aside0.mk (h2.below hbel)
 have E3 := Aside0.mk (h3.below hbel)
 have E4 := Aside0.mk (h4.below hbel)
 have E5 := Aside0.mk (heap_alloc_new w (.cells #[.int .i64 at_, .int .i64 er] 62))
 have l2 := blk_lt h2
 have l3 := blk_lt h3
 have l4 := blk_lt h4
 have HB := Aside0.mk hbel
 clear hbel h2 h3 h4
 generalize w.alloc (.cells #[.int .i64 at_, .int .i64 er] 62) = W at *
 obtain ⟨b5, hb5⟩ : ∃ b5, w.heap.size = b5 := ⟨_, rfl⟩
 rw [hb5] at l2 l3 l4 E5 ⊢
 have Hb5 := Aside0.mk hb5
 clear hb5
 refine start_ (n := 8) (S := fun w' => w'.heap[b5]? = some (.cells #[.int .i64 at_, .int .i64 er] 62 (0, 0))) (ds := [7]) #[false, false, false, false, false, false, false, false] (by kernel_rfl) rfl rfl E5.out (fun hHeld => ?_)
 refine pure_ (i := 0) (N := some 12) (v := ?_) (a' := ?_) #[true, false, false, false, false, false, false, false] rfl rfl (by kernel_rfl) (fun _ _ _ h => h) (Or.inl ⟨by rfl, ?_⟩) ?_ ?_
 rotate_left
 ·intro w'
  go_simp
  with_reducible rfl
 rotate_left
 ·simp only [Act.put, List.setIfInBounds_toArray, List.set_cons_zero, List.set_cons_succ, i64_w, i32_w]
  rfl
 refine pure_ (i := 1) (N := some 13) (v := ?_) (a' := ?_) #[true, true, false, false, false, false, false, false] rfl rfl (by kernel_rfl) (fun _ _ _ h => h) (Or.inl ⟨by rfl, ?_⟩) ?_ ?_
 rotate_left
 ·intro w'
  go_simp
  with_reducible rfl
 rotate_left
 ·simp only [Act.put, List.setIfInBounds_toArray, List.set_cons_zero, List.set_cons_succ, i64_w, i32_w]
  rfl
 refine pure_ (i := 3) (N := some 15) (v := ?_) (a' := ?_) #[true, true, false, true, false, false, false, false] rfl rfl (by kernel_rfl) (fun _ _ _ h => h) (Or.inl ⟨by rfl, ?_⟩) ?_ ?_
 rotate_left
 ·intro w'
  go_simp
  with_reducible rfl
 rotate_left
 ·simp only [Act.put, List.setIfInBounds_toArray, List.set_cons_zero, List.set_cons_succ, i64_w, i32_w]
  rfl
 refine take_ (i := 2) (N := some 14) (v := ?_) (a' := ?_) #[true, true, true, true, false, false, false, false] rfl rfl (by kernel_rfl) (fun _ _ _ h => h) (Or.inl ⟨by rfl, ?_⟩) hHeld ?_ ?_
 rotate_left
 ·rintro w' s3
  have e0 := (blk_cell s3 0).trans rfl
  have e1 := (blk_cell s3 1).trans rfl
  simp at e0 e1
  go_simp
  with_reducible rfl
 rotate_left
 ·simp only [Act.put, List.setIfInBounds_toArray, List.set_cons_zero, List.set_cons_succ, i64_w, i32_w]
  rfl
 refine take_ (i := 4) (N := some 16) (v := ?_) (a' := ?_) #[true, true, true, true, true, false, false, false] rfl rfl (by kernel_rfl) (fun _ _ _ h => h) (Or.inl ⟨by rfl, ?_⟩) hHeld ?_ ?_
 rotate_left
 ·rintro w' s3
  have e0 := (blk_cell s3 0).trans rfl
  have e1 := (blk_cell s3 1).trans rfl
  simp at e0 e1
  go_simp
  with_reducible rfl
 rotate_left
 ·simp only [Act.put, List.setIfInBounds_toArray, List.set_cons_zero, List.set_cons_succ, i64_w, i32_w]
  rfl
 refine one_ (i := 5) (N := none) #[true, true, true, true, true, true, false, false] rfl rfl (by kernel_rfl) (by decide) (fun K hK => ?_)
 refine store26_step (by rfl) 0 (.tmp 12) rfl rfl rfl rfl (E2.out.below (below_drew (Below.refl _ _))) ?_
 intro W1 G2 R1
 have R1' := Aside0.mk R1
 have F2 := Aside0.mk G2
 have F3 := Aside0.mk ((E3.out.below (below_drew (Below.refl _ _))).wrote R1 (by omega))
 have F4 := Aside0.mk ((E4.out.below (below_drew (Below.refl _ _))).wrote R1 (by omega))
 have S1 := blk_kept hHeld R1.kept (by omega)
 clear G2 R1
 refine hK.out _ _ S1 (fun hHeld1 => ?_)
 refine one_ (i := 6) (N := none) #[true, true, true, true, true, true, true, false] rfl rfl (by kernel_rfl) (by decide) (fun K2 hK2 => ?_)
 refine store1_step (by rfl) 3 (.inl rfl) (.tmp 1) (.tmp 14) rfl rfl rfl rfl F3.out ?_
 intro W2 G3 R2
 have R2' := Aside0.mk R2
 have I2 := Aside0.mk (F2.out.wrote R2 (by omega))
 have I3 := Aside0.mk G3
 have I4 := Aside0.mk (F4.out.wrote R2 (by omega))
 have S2 := blk_kept hHeld1 R2.kept (by omega)
 clear G3 R2
 refine hK2.out _ _ S2 (fun hHeld2 => ?_)
 refine last_ (i := 7) (N := none) #[true, true, true, true, true, true, true, true] rfl rfl (by kernel_rfl) (by decide) (fun K3 hK3 => ?_)
 refine store1_step (by rfl) 27 (.inr rfl) (.tmp 2) (.tmp 16) rfl rfl rfl rfl I4.out ?_
 intro W3 G4 R3
 refine hK3.out _ _ ?_
 refine done_ (by kernel_rfl) ?_
 go_wp2_with (fail)
 refine ⟨rfl, I2.out.wrote R3 (by omega), I3.out.wrote R3 (by omega), G4, ?_⟩
 intro B h0 k2 k3 k4 k5
 refine R3.below _ _ (R2'.out.below _ _ (R1'.out.below _ _ ((h0.trans (Below.mono HB.out k5)).trans (below_drew (Below.refl _ _))) k2) k3) k4
end Go.Proofs.YtglmdfddgmkmaaaDoor.Q
end
section
namespace Go.Proofs.YtglmdfddgmkmaaaDoor.Q
open Go.RowKit Go.Proofs.YtglmdfddgmkmaaaDoorW.PrintWords Go.Proofs.YtglmdfddgmkmaaaDoorW.PrintLast Go.Proofs.YtglmdfddgmkmaaaDoorW.PrintMore
attribute [local go_sem] max2_int min2_int max_two min_two max_three min_three max_four min_four
set_option linter.unusedVariables false
set_option linter.unusedSimpArgs false
abbrev PR := Int × Int × ByteArray × List S26 × Int × Int
def PPost (w : World) (r : PR) (e : Ending) (w' : World) : Prop := ∃ v, e = .returned (.tuple #[.agg #[.int .i64 r.1, .int .i64 r.2.1, .string r.2.2.1, v], .int .i64 r.2.2.2.2.1, .int .i64 r.2.2.2.2.2]) ∧ Kd.R k26 26 w' w.heap.size (fun _ => True) v r.2.2.2.1 ∧ Below w.heap.size w w'
structure Ds (w W : World) (b2 b3 b4 : Nat) (op n : Int) (nm : ByteArray) (A : Option Addr) (l c : Nat) (a e : Int) : Prop where
 x : At26 W b2 op n nm (.slice A l c)
 at_ : At1 W b3 3 a
 er : At1 W b4 27 e
 bel : Below w.heap.size w W
 ge : w.heap.size ≤ b2
 n23 : b2 < b3
 n34 : b3 < b4
section
variable {w W W' : World} {b2 b3 b4 : Nat} {op n : Int} {nm : ByteArray} {A : Option Addr} {l c : Nat} {a e : Int}
theorem Ds.below (h : Ds w W b2 b3 b4 op n nm A l c a e) (hb : Below W.heap.size W W') : Ds w W' b2 b3 b4 op n nm A l c a e := ⟨h.x.below hb, h.at_.below hb, h.er.below hb, below_then h.bel h.bel.size hb, h.ge, h.n23, h.n34⟩
theorem Ds.lt (h : Ds w W b2 b3 b4 op n nm A l c a e) : b2 < W.heap.size ∧ b3 < W.heap.size ∧ b4 < W.heap.size := ⟨blk_lt h.x, blk_lt h.at_, blk_lt h.er⟩
theorem Ds.call {g : Nat} (h : Ds w W b2 b3 b4 op n nm A l c a e) (hb : Below w.heap.size w W') (hk : KeepBut W W' g none) (hg : b4 < g) : Ds w W' b2 b3 b4 op n nm A l c a e :=
 have n1 := h.n23
 have n2 := h.n34
 ⟨(hk.2 b2 h.lt.1 (by omega) (by simp)).trans h.x, (hk.2 b3 h.lt.2.1 (by omega) (by simp)).trans h.at_, (hk.2 b4 h.lt.2.2 (by omega) (by simp)).trans h.er, hb, h.ge, h.n23, h.n34⟩
theorem Ds.wrote {b : Nat} (h : Ds w W b2 b3 b4 op n nm A l c a e) (hw : Wrote b W W') (hg : b4 < b) : Ds w W' b2 b3 b4 op n nm A l c a e :=
 have n1 := h.n23
 have n2 := h.n34
 have n0 := h.ge
 ⟨h.x.wrote hw (by omega), h.at_.wrote hw (by omega), h.er.wrote hw (by omega), hw.below _ _ h.bel (by omega), h.ge, h.n23, h.n34⟩
theorem Ds.set2 (h : Ds w W b2 b3 b4 op n nm A l c a e) {op' n' : Int} {nm' : ByteArray} {A' : Option Addr} {l' c' : Nat} (hx : At26 W' b2 op' n' nm' (.slice A' l' c')) (hw : Wrote b2 W W') : Ds w W' b2 b3 b4 op' n' nm' A' l' c' a e :=
 have n1 := h.n23
 have n2 := h.n34
 have n0 := h.ge
 ⟨hx, h.at_.wrote hw (by omega), h.er.wrote hw (by omega), hw.below _ _ h.bel (by omega), h.ge, h.n23, h.n34⟩
theorem Ds.set3 (h : Ds w W b2 b3 b4 op n nm A l c a e) {a' : Int} (hx : At1 W' b3 3 a') (hw : Wrote b3 W W') : Ds w W' b2 b3 b4 op n nm A l c a' e :=
 have n1 := h.n23
 have n2 := h.n34
 have n0 := h.ge
 ⟨h.x.wrote hw (by omega), hx, h.er.wrote hw (by omega), hw.below _ _ h.bel (by omega), h.ge, h.n23, h.n34⟩
theorem Ds.set4 (h : Ds w W b2 b3 b4 op n nm A l c a e) {e' : Int} (hx : At1 W' b4 27 e') (hw : Wrote b4 W W') : Ds w W' b2 b3 b4 op n nm A l c a e' :=
 have n1 := h.n23
 have n2 := h.n34
 have n0 := h.ge
 ⟨h.x.wrote hw (by omega), h.at_.wrote hw (by omega), hx, hw.below _ _ h.bel (by omega), h.ge, h.n23, h.n34⟩
theorem Ds.results (h : Ds w W b2 b3 b4 op n nm A l c a e) {tmps : Array Value} (p2 : tmps.getD 2 undef = .pointer (some ⟨b2, 0, none⟩)) (p3 : tmps.getD 3 undef = .pointer (some ⟨b3, 0, none⟩)) (p4 : tmps.getD 4 undef = .pointer (some ⟨b4, 0, none⟩)) :
 (Go.results Tryd.f18 tmps).run Tryd.prog W = .ok (.tuple #[.agg #[.int .i64 op, .int .i64 n, .string nm, .slice A l c], .int .i64 a, .int .i64 e]) W := by
 have e3 := h.at_.cell
 have e4 := h.er.cell
 have hx := h.x
 unfold At26 at hx
 have q2 : tmps[2]?.getD undef = .pointer (some ⟨b2, 0, none⟩) := by simpa using p2
 have q3 : tmps[3]?.getD undef = .pointer (some ⟨b3, 0, none⟩) := by simpa using p3
 have q4 : tmps[4]?.getD undef = .pointer (some ⟨b4, 0, none⟩) := by simpa using p4
 have r2 := run_loadVar_row (P := Tryd.prog) W b2 26 26 _ (0, 0) _ hx Tryd.underlying26 rfl (by kernel_rfl)
 have u3 := Tryd.underlying3
 have u27 := Tryd.underlying27
 simp [Go.results, Tryd.results18, q2, q3, q4, asAddr, r2]
 go_simp
theorem Ds.leave (h : Ds w W b2 b3 b4 op n nm A l c a e) {tmps : Array Value} (p2 : tmps.getD 2 undef = .pointer (some ⟨b2, 0, none⟩)) (p3 : tmps.getD 3 undef = .pointer (some ⟨b3, 0, none⟩)) (p4 : tmps.getD 4 undef = .pointer (some ⟨b4, 0, none⟩))
 {xs : List S26} {hi : Nat} (hT : Tr W w.heap.size hi A c xs) (hl : l = xs.length) :
 Leaves Tryd.prog Tryd.f18 tmps (PPost w (op, n, nm, xs, a, e)) [{ target := .fn (.func 41) #[.pointer (some ⟨b2, 0, none⟩), .pointer (some ⟨b3, 0, none⟩), .pointer (some ⟨b4, 0, none⟩)], args := #[] }] .returning W := by
 subst hl
 refine leaves_cons (f := 41) (args := #[.pointer (some ⟨b2, 0, none⟩), .pointer (some ⟨b3, 0, none⟩), .pointer (some ⟨b4, 0, none⟩)]) (by simp) (by simp [go_sem]) ?_
 refine (catch_idle b2 b3 b4 W).mono ?_
 rintro e u' w'' ⟨rfl, rfl, rfl⟩
 exact ⟨_, h.results p2 p3 p4, _, rfl, Kd.R_mono hT (fun _ _ => trivial), h.bel⟩
theorem Ds.leave_fault (h : Ds w W b2 b3 b4 op n nm A l c a e) {tmps : Array Value} (p2 : tmps.getD 2 undef = .pointer (some ⟨b2, 0, none⟩)) (p3 : tmps.getD 3 undef = .pointer (some ⟨b3, 0, none⟩)) (p4 : tmps.getD 4 undef = .pointer (some ⟨b4, 0, none⟩))
 (p : Nat) (er : Int) :
 Leaves Tryd.prog Tryd.f18 tmps (PPost w (0, 0, ⟨#[]⟩, [], p, er)) [{ target := .fn (.func 41) #[.pointer (some ⟨b2, 0, none⟩), .pointer (some ⟨b3, 0, none⟩), .pointer (some ⟨b4, 0, none⟩)], args := #[] }] (.panicking (faultV p er)) W := by
 refine leaves_cons (f := 41) (args := #[.pointer (some ⟨b2, 0, none⟩), .pointer (some ⟨b3, 0, none⟩), .pointer (some ⟨b4, 0, none⟩)]) (by simp) (by simp [go_sem]) ?_
 refine (catch_fault w b2 b3 b4 p er W h.x h.at_ h.er h.n23 h.n34).mono ?_
 rintro e u' w'' ⟨rfl, rfl, hC⟩
 have n1 := h.n23
 have n2 := h.n34
 have n0 := h.ge
 have h0 : Ds w w'' b2 b3 b4 0 0 ⟨#[]⟩ none 0 0 p er := ⟨hC.x, hC.at_, hC.er, hC.bel _ h.bel (by omega) (by omega) (by omega) h.bel.size, n0, n1, n2⟩
 exact ⟨_, h0.results p2 p3 p4, _, rfl, Kd.R_nil _ _ _ _ _, h0.bel⟩
end
section
variable {ops : Array Oper} {rest : List Oper} {o : Oper} {a : Act} {Q : Exit → Act → World → Prop}
theorem store1_event {W : World} (hgd : o.guard = none) (t : TypeId) (ht : t = 3 ∨ t = 27) (q r : Operand) (hN : o.dst = none) (ho : o.op = .store t q r)
 {b t0 : Nat} {n n' : Int} (hp : a.eval q = .pointer (some ⟨b, 0, none⟩)) (hq : a.eval r = .int .i64 n') (hb : At1 W b t0 n) (h : ∀ W', At1 W' b t0 n' → Wrote b W W' → wpList Tryd.prog ops Q rest a W') :
 wpList Tryd.prog ops Q (o :: rest) a W := by
 refine wpList_plain hgd fun K hK => ?_
 unfold Oper.wp
 rw [store1_run ht ho hp hq hb]
 show K (a.put o.dst undef) _
 rw [hN]
 obtain ⟨e1, e2⟩ := wrote1 (n' := n') hb
 exact hK _ _ (h _ e1 e2)
end
def parseP (s : ByteArray) (k : Nat) : Option PR :=
 if 4096 < s.size then some (0, 0, ⟨#[]⟩, [], 0, 3)
 else if (nextT s 0 ⟨#[]⟩).toList = [] then some (1, 0, ⟨#[]⟩, [], 0, 0)
 else
  match pr s k .first (nextP s 0 ⟨#[]⟩) (nextT s 0 ⟨#[]⟩) with
  | none => none
  | some (.error (p, er)) => some (0, 0, ⟨#[]⟩, [], (p : Int), er)
  | some (.ok (x, p, t)) =>
   if ¬ t.toList = [] then some (0, 0, ⟨#[]⟩, [], (p : Int), 6)
   else
    match arith_levels.f k x.f0 x.f1 x.f2 x.f3 with
    | none => none
    | some n => if 32 < n then some (0, 0, ⟨#[]⟩, [], 0, 5) else some (x.f0, x.f1, x.f2, x.f3, 0, 0)
theorem fit0 (s : ByteArray) : 0 + (⟨#[]⟩ : ByteArray).size ≤ s.size := by
 show 0 + 0 ≤ _
 omega
set_option maxRecDepth 100000 in
set_option maxHeartbeats 4000000 in
theorem parse_walk (s : ByteArray) (k : Nat) (w : World) (r : PR) (hr : parseP s k = some r) : Calls Tryd.prog 18 #[.string s] w (PPost w r) := by
 have hmf : ∀ (fn : Fn) (first cap : Array Value) (w : World), (Instr.makeFunc fn first cap).run Tryd.prog w = .ok (.func fn first cap) w := fun _ _ _ _ => rfl
 have hu26 := Tryd.underlying26
 have hu65 := Tryd.underlying65
 have hu3 := Tryd.underlying3
 have hu27 := Tryd.underlying27
 go_enter_defers Tryd.func18, Tryd.ntmps18
 go_upto_region 1 with ((with_reducible refine gate_dst (N := 2) rfl ?_); refine alloc26_event rfl 2 rfl rfl ?_; intro b2 wa1 hb_ ha_ hw_)
 have HD : Aside0 (Ds w ((wa1.alloc (.cells #[.int .i64 0] 3)).alloc (.cells #[.int .i64 0] 27)) b2 wa1.heap.size (wa1.heap.size + 1) 0 0 ⟨#[]⟩ none 0 0 0 0) := by
  have g3 : At1 (wa1.alloc (.cells #[.int .i64 0] 3)) wa1.heap.size 3 0 := heap_alloc_new wa1 _
  have b1 : Below wa1.heap.size wa1 (wa1.alloc (.cells #[.int .i64 0] 3)) := below_alloc (Below.refl _ _) _
  have b2' : Below (wa1.alloc (.cells #[.int .i64 0] 3)).heap.size (wa1.alloc (.cells #[.int .i64 0] 3)) ((wa1.alloc (.cells #[.int .i64 0] 3)).alloc (.cells #[.int .i64 0] 27)) := below_alloc (Below.refl _ _) _
  have g4 : At1 ((wa1.alloc (.cells #[.int .i64 0] 3)).alloc (.cells #[.int .i64 0] 27)) (wa1.heap.size + 1) 27 0 := by
   have h := heap_alloc_new (wa1.alloc (.cells #[.int .i64 0] 3)) (.cells #[.int .i64 0] 27)
   have hs : (wa1.alloc (.cells #[.int .i64 0] 3)).heap.size = wa1.heap.size + 1 := by simp
   rw [hs] at h
   exact h
  exact ⟨⟨(ha_.below b1).below b2', g3.below b2', g4, below_alloc (below_alloc hw_ _) _, by omega, by have := blk_lt ha_; omega, by omega⟩⟩
 obtain ⟨b4, hb4⟩ : ∃ b4, wa1.heap.size + 1 = b4 := ⟨_, rfl⟩
 obtain ⟨b3, hb3⟩ : ∃ b3, wa1.heap.size = b3 := ⟨_, rfl⟩
 rw [hb4, hb3, ← hb_]
 rw [hb4, hb3] at HD
 have Hb := Aside0.mk (And.intro hb_ (And.intro hb3 hb4))
 generalize (wa1.alloc (.cells #[.int .i64 0] 3)).alloc (.cells #[.int .i64 0] 27) = W at *
 clear hb_ hb3 hb4 hw_ ha_
 unfold parseP at hr
 by_cases hlen : 4096 < s.size
 ·rw [if_pos hlen] at hr
  simp only [Option.some.injEq] at hr
  subst hr
  have q2 : ((4096 : Int) < (s.size : Int)) = True := eq_true (by omega)
  go_upto_region 3 with (fail)
  go_wp2_with (first | (refine store26_event rfl 2 (.tmp 11) rfl rfl rfl rfl HD.out.x ?_; intro ws2 ha_ hw_; have nHD := Aside0.mk (HD.out.set2 ha_ hw_); clear HD; have HD := nHD; clear nHD hw_ ha_) | (refine store1_event rfl 3 (.inl rfl) (.tmp 3) (.const (.int .i64 0)) rfl rfl rfl rfl HD.out.at_ ?_; intro ws3 ha_ hw_; have nHD := Aside0.mk (HD.out.set3 ha_ hw_); clear HD; have HD := nHD; clear nHD hw_ ha_) | (refine store1_event rfl 27 (.inr rfl) (.tmp 4) (.const (.int .i64 3)) rfl rfl rfl rfl HD.out.er ?_; intro ws4 ha_ hw_; have nHD := Aside0.mk (HD.out.set4 ha_ hw_); clear HD; have HD := nHD; clear nHD hw_ ha_))
  exact HD.out.leave rfl rfl rfl (Tr.nil _ _ 0) rfl
 rw [if_neg hlen] at hr
 have q2 : ((4096 : Int) < (s.size : Int)) = False := eq_false (by omega)
 have HL := Aside0.mk (show s.size ≤ 4096 by omega)
 clear hlen
 go_upto_region 5 with (fail)
 clear q2
 have HC : Aside0 (Cx s W.heap.size w (W.alloc (.cells #[.string s, .int .i64 ((0 : Nat) : Int), .string ⟨#[]⟩] 65)) (W.alloc (.cells #[.string s, .int .i64 ((0 : Nat) : Int), .string ⟨#[]⟩] 65)) ((0 : Nat) : Int) ⟨#[]⟩) :=
  ⟨Cx.start (IsS65.new w W s _ _ HD.out.bel) (below_alloc HD.out.bel _)⟩
 have nHD := Aside0.mk (HD.out.below (W' := W.alloc (.cells #[.string s, .int .i64 ((0 : Nat) : Int), .string ⟨#[]⟩] 65)) (below_alloc (Below.refl _ _) _))
 have gb := HD.out.lt.2.2
 clear HD
 have HD := nHD
 clear nHD
 obtain ⟨g, hg0⟩ : ∃ g, W.heap.size = g := ⟨_, rfl⟩
 rw [hg0] at HC gb ⊢
 have gl := HC.out.lt
 have wl := HC.out.le
 generalize hW1 : W.alloc (.cells #[.string s, .int .i64 ((0 : Nat) : Int), .string ⟨#[]⟩] 65) = W1 at *
 have hW1' : W.alloc (.cells #[.string s, .int .i64 0, .string ⟨#[]⟩] 65) = W1 := hW1
 try rw [hW1']
 clear hW1 hW1' hg0
 by_cases h0 : (nextT s 0 ⟨#[]⟩).toList = []
 ·rw [if_pos h0] at hr
  simp only [Option.some.injEq] at hr
  subst hr
  have q3 : ((nextT s 0 ⟨#[]⟩).toList == ([] : List UInt8)) = true := by simpa using h0
  go_upto_region 6 with (go_at_call 42; (with_reducible refine (next_calls g s ⟨#[]⟩ 0 w _ HC.out.st HC.out.bel (fit0 s) HL.out).mono ?_); rintro e wn1 ⟨rfl, hi, hb, hk⟩; have nHC := Aside0.mk (HC.out.call hi hb hk); have nHD := Aside0.mk (HD.out.call hb hk gb); clear HC HD; have HC := nHC; have HD := nHD; clear nHC nHD; clear hi hb hk)
  obtain ⟨HG, hg⟩ := HC.out.st
  have c0 := cellS65_0 HG
  have c1 := cellS65_1 HG
  have c2 := cellS65_2 HG
  clear HG hg
  go_upto_region 7 with (fail)
  clear c0 c1 c2
  go_wp2_with (first | (refine store26_event rfl 2 (.tmp 22) rfl rfl rfl rfl HD.out.x ?_; intro ws2 ha_ hw_; have nHD := Aside0.mk (HD.out.set2 ha_ hw_); clear HD; have HD := nHD; clear nHD hw_ ha_) | (refine store1_event rfl 3 (.inl rfl) (.tmp 3) (.const (.int .i64 0)) rfl rfl rfl rfl HD.out.at_ ?_; intro ws3 ha_ hw_; have nHD := Aside0.mk (HD.out.set3 ha_ hw_); clear HD; have HD := nHD; clear nHD hw_ ha_) | (refine store1_event rfl 27 (.inr rfl) (.tmp 4) (.const (.int .i64 0)) rfl rfl rfl rfl HD.out.er ?_; intro ws4 ha_ hw_; have nHD := Aside0.mk (HD.out.set4 ha_ hw_); clear HD; have HD := nHD; clear nHD hw_ ha_))
  exact HD.out.leave rfl rfl rfl (Tr.nil _ _ 0) rfl
 rw [if_neg h0] at hr
 have q3 : ((nextT s 0 ⟨#[]⟩).toList == ([] : List UInt8)) = false := by simpa using h0
 have HP := Aside0.mk (next_fits s 0 ⟨#[]⟩ (fit0 s))
 cases hA : pr s k .first (nextP s 0 ⟨#[]⟩) (nextT s 0 ⟨#[]⟩) with
 | none => rw [hA] at hr; simp at hr
 | some ra =>
  rw [hA] at hr
  have HA := Aside0.mk hA
  clear hA
  cases ra with
  | error q =>
   obtain ⟨q, er⟩ := q
   simp only [Option.some.injEq] at hr
   subst hr
   go_upto_region 6 with (go_at_call 42; (with_reducible refine (next_calls g s ⟨#[]⟩ 0 w _ HC.out.st HC.out.bel (fit0 s) HL.out).mono ?_); rintro e wn1 ⟨rfl, hi, hb, hk⟩; have nHC := Aside0.mk (HC.out.call hi hb hk); have nHD := Aside0.mk (HD.out.call hb hk gb); clear HC HD; have HC := nHC; have HD := nHD; clear nHC nHD; clear hi hb hk)
   obtain ⟨HG, hg⟩ := HC.out.st
   have c0 := cellS65_0 HG
   have c1 := cellS65_1 HG
   have c2 := cellS65_2 HG
   clear HG hg
   go_upto_region 8 with (fail)
   clear c0 c1 c2
   go_wp2_with (go_at_call 43; (with_reducible refine ((pr_calls s HL.out k).1 g _ _ w _ _ HA.out HC.out.st HC.out.bel HP.out).mono ?_); rintro e we ⟨rfl, hb, hk⟩)
   exact (HD.out.call hb hk gb).leave_fault rfl rfl rfl q er
  | ok xa =>
   obtain ⟨x, p1, t1⟩ := xa
   have HP1 := Aside0.mk (pr_fits s _ _ _ _ _ _ _ HP.out HA.out)
   simp only at hr
   by_cases h1 : t1.toList = []
   rotate_left
   ·rw [if_pos (by simpa using h1)] at hr
    simp only [Option.some.injEq] at hr
    subst hr
    have q4 : (t1.toList == ([] : List UInt8)) = false := by simpa using h1
    have q5 : (t1.toList != ([] : List UInt8)) = true := by simpa using h1
    go_upto_region 6 with (go_at_call 42; (with_reducible refine (next_calls g s ⟨#[]⟩ 0 w _ HC.out.st HC.out.bel (fit0 s) HL.out).mono ?_); rintro e wn1 ⟨rfl, hi, hb, hk⟩; have nHC := Aside0.mk (HC.out.call hi hb hk); have nHD := Aside0.mk (HD.out.call hb hk gb); clear HC HD; have HC := nHC; have HD := nHD; clear nHC nHD; clear hi hb hk)
    obtain ⟨HG, hg⟩ := HC.out.st
    have c0 := cellS65_0 HG
    have c1 := cellS65_1 HG
    have c2 := cellS65_2 HG
    clear HG hg
    go_upto_region 8 with (fail)
    clear c0 c1 c2
    go_upto_region 9 with (first | (go_at_call 43; have g1 := Nat.lt_of_lt_of_le HC.out.lt HC.out.size; have q1 := HC.out.size; (with_reducible refine ((pr_calls s HL.out k).1 g _ _ w _ _ HA.out HC.out.st HC.out.bel HP.out).mono ?_); rintro e wc1 ⟨Ax, cx, rfl, ht_, hi, hb, hk⟩; have zx := hk.1; have nHC := Aside0.mk (HC.out.call hi hb hk); have nHD := Aside0.mk (HD.out.call hb hk gb); have Tx := Aside0.mk ht_; clear HC HD; have HC := nHC; have HD := nHD; clear nHC nHD; clear ht_ hi hb hk) | ((with_reducible refine gate_dst (N := 6) rfl ?_); refine alloc26_event rfl 6 rfl rfl ?_; intro b6 wa6 hb_ ha_ hw_; have zb6 := hw_.size; have yb6 := Nat.le_of_eq hb_.symm; have nHC := Aside0.mk (HC.out.below hw_); have nHD := Aside0.mk (HD.out.below hw_); have nTx := Aside0.mk (Tx.out.below hw_); have Vb6 := Aside0.mk (Vr.mk (w := W1) ha_ (Nat.le_trans HC.out.size yb6)); clear Tx; have Tx := nTx; clear nTx; clear HC HD; have HC := nHC; have HD := nHD; clear nHC nHD; clear hw_ ha_ hb_) | (refine store26_event rfl 6 (.tmp 24) rfl rfl rfl rfl Vb6.out.at_ ?_; intro ws6 ha_ hw_; have zs6 := hw_.kept.1; have nHC := Aside0.mk (HC.out.wrote hw_ Vb6.out.ge); have nHD := Aside0.mk (HD.out.wrote hw_ (by have := Vb6.out.ge; omega)); have nTx := Aside0.mk (Tx.out.wrote hw_ (by omega)); have nVb6 := Aside0.mk (Vr.mk (w := W1) ha_ Vb6.out.ge); clear Tx Vb6; have Tx := nTx; have Vb6 := nVb6; clear nTx nVb6; clear HC HD; have HC := nHC; have HD := nHD; clear nHC nHD; clear hw_ ha_))
    obtain ⟨HG, hg⟩ := HC.out.st
    have c0 := cellS65_0 HG
    have c1 := cellS65_1 HG
    have c2 := cellS65_2 HG
    clear HG hg
    go_upto_region 10 with (fail)
    clear c0 c1 c2
    go_wp2_with (go_at_call 44; (with_reducible refine (fail_calls g s t1 p1 6 w _ HC.out.st).mono ?_); rintro e we ⟨rfl, rfl⟩)
    exact HD.out.leave_fault rfl rfl rfl p1 6
   rw [if_neg (by simpa using h1)] at hr
   have q4 : (t1.toList == ([] : List UInt8)) = true := by simpa using h1
   have q5 : (t1.toList != ([] : List UInt8)) = false := by simpa using h1
   cases hN : arith_levels.f k x.f0 x.f1 x.f2 x.f3 with
   | none => rw [hN] at hr; simp at hr
   | some n =>
    rw [hN] at hr
    have HN := Aside0.mk hN
    clear hN
    simp only at hr
    by_cases h32 : 32 < n
    ·rw [if_pos h32] at hr
     simp only [Option.some.injEq] at hr
     subst hr
     have q6 : (32 < n) = True := eq_true h32
     go_upto_region 6 with (go_at_call 42; (with_reducible refine (next_calls g s ⟨#[]⟩ 0 w _ HC.out.st HC.out.bel (fit0 s) HL.out).mono ?_); rintro e wn1 ⟨rfl, hi, hb, hk⟩; have nHC := Aside0.mk (HC.out.call hi hb hk); have nHD := Aside0.mk (HD.out.call hb hk gb); clear HC HD; have HC := nHC; have HD := nHD; clear nHC nHD; clear hi hb hk)
     obtain ⟨HG, hg⟩ := HC.out.st
     have c0 := cellS65_0 HG
     have c1 := cellS65_1 HG
     have c2 := cellS65_2 HG
     clear HG hg
     go_upto_region 8 with (fail)
     clear c0 c1 c2
     go_upto_region 9 with (first | (go_at_call 43; have g1 := Nat.lt_of_lt_of_le HC.out.lt HC.out.size; have q1 := HC.out.size; (with_reducible refine ((pr_calls s HL.out k).1 g _ _ w _ _ HA.out HC.out.st HC.out.bel HP.out).mono ?_); rintro e wc1 ⟨Ax, cx, rfl, ht_, hi, hb, hk⟩; have zx := hk.1; have nHC := Aside0.mk (HC.out.call hi hb hk); have nHD := Aside0.mk (HD.out.call hb hk gb); have Tx := Aside0.mk ht_; clear HC HD; have HC := nHC; have HD := nHD; clear nHC nHD; clear ht_ hi hb hk) | ((with_reducible refine gate_dst (N := 6) rfl ?_); refine alloc26_event rfl 6 rfl rfl ?_; intro b6 wa6 hb_ ha_ hw_; have zb6 := hw_.size; have yb6 := Nat.le_of_eq hb_.symm; have nHC := Aside0.mk (HC.out.below hw_); have nHD := Aside0.mk (HD.out.below hw_); have nTx := Aside0.mk (Tx.out.below hw_); have Vb6 := Aside0.mk (Vr.mk (w := W1) ha_ (Nat.le_trans HC.out.size yb6)); clear Tx; have Tx := nTx; clear nTx; clear HC HD; have HC := nHC; have HD := nHD; clear nHC nHD; clear hw_ ha_ hb_) | (refine store26_event rfl 6 (.tmp 24) rfl rfl rfl rfl Vb6.out.at_ ?_; intro ws6 ha_ hw_; have zs6 := hw_.kept.1; have nHC := Aside0.mk (HC.out.wrote hw_ Vb6.out.ge); have nHD := Aside0.mk (HD.out.wrote hw_ (by have := Vb6.out.ge; omega)); have nTx := Aside0.mk (Tx.out.wrote hw_ (by omega)); have nVb6 := Aside0.mk (Vr.mk (w := W1) ha_ Vb6.out.ge); clear Tx Vb6; have Tx := nTx; have Vb6 := nVb6; clear nTx nVb6; clear HC HD; have HC := nHC; have HD := nHD; clear nHC nHD; clear hw_ ha_))
     obtain ⟨HG, hg⟩ := HC.out.st
     have c0 := cellS65_0 HG
     have c1 := cellS65_1 HG
     have c2 := cellS65_2 HG
     clear HG hg
     go_upto_region 11 with (fail)
     clear c0 c1 c2
     obtain ⟨x0, x1, x2, x3⟩ := Vb6.out.at_.cells
     go_upto_region 12 with (go_at_call 45; have rT := Tx.out.reads; (with_reducible refine (arith_levels.calls k x.f0 x.f1 x.f2 Ax cx x.f3 n _ rT.2 rT.1 HN.out).mono ?_); rintro e wp5 ⟨rfl, hw_⟩; have zp5 := hw_.size; have nHC := Aside0.mk (HC.out.below hw_); have nHD := Aside0.mk (HD.out.below hw_); have nTx := Aside0.mk (Tx.out.below hw_); have nVb6 := Aside0.mk (Vb6.out.below hw_); clear Tx Vb6 rT; have Tx := nTx; have Vb6 := nVb6; clear nTx nVb6; clear HC HD; have HC := nHC; have HD := nHD; clear nHC nHD; clear hw_)
     clear x0 x1 x2 x3
     go_wp2_with (first | (refine store26_event rfl 2 (.tmp 35) rfl rfl rfl rfl HD.out.x ?_; intro ws2 ha_ hw_; have nHD := Aside0.mk (HD.out.set2 ha_ hw_); clear HD; have HD := nHD; clear nHD hw_ ha_) | (refine store1_event rfl 3 (.inl rfl) (.tmp 3) (.const (.int .i64 0)) rfl rfl rfl rfl HD.out.at_ ?_; intro ws3 ha_ hw_; have nHD := Aside0.mk (HD.out.set3 ha_ hw_); clear HD; have HD := nHD; clear nHD hw_ ha_) | (refine store1_event rfl 27 (.inr rfl) (.tmp 4) (.const (.int .i64 5)) rfl rfl rfl rfl HD.out.er ?_; intro ws4 ha_ hw_; have nHD := Aside0.mk (HD.out.set4 ha_ hw_); clear HD; have HD := nHD; clear nHD hw_ ha_))
     exact HD.out.leave rfl rfl rfl (Tr.nil _ _ 0) rfl
    rw [if_neg h32] at hr
    simp only [Option.some.injEq] at hr
    subst hr
    have q6 : (32 < n) = False := eq_false h32
    go_upto_region 6 with (go_at_call 42; (with_reducible refine (next_calls g s ⟨#[]⟩ 0 w _ HC.out.st HC.out.bel (fit0 s) HL.out).mono ?_); rintro e wn1 ⟨rfl, hi, hb, hk⟩; have nHC := Aside0.mk (HC.out.call hi hb hk); have nHD := Aside0.mk (HD.out.call hb hk gb); clear HC HD; have HC := nHC; have HD := nHD; clear nHC nHD; clear hi hb hk)
    obtain ⟨HG, hg⟩ := HC.out.st
    have c0 := cellS65_0 HG
    have c1 := cellS65_1 HG
    have c2 := cellS65_2 HG
    clear HG hg
    go_upto_region 8 with (fail)
    clear c0 c1 c2
    go_upto_region 9 with (first | (go_at_call 43; have g1 := Nat.lt_of_lt_of_le HC.out.lt HC.out.size; have q1 := HC.out.size; (with_reducible refine ((pr_calls s HL.out k).1 g _ _ w _ _ HA.out HC.out.st HC.out.bel HP.out).mono ?_); rintro e wc1 ⟨Ax, cx, rfl, ht_, hi, hb, hk⟩; have zx := hk.1; have nHC := Aside0.mk (HC.out.call hi hb hk); have nHD := Aside0.mk (HD.out.call hb hk gb); have Tx := Aside0.mk ht_; clear HC HD; have HC := nHC; have HD := nHD; clear nHC nHD; clear ht_ hi hb hk) | ((with_reducible refine gate_dst (N := 6) rfl ?_); refine alloc26_event rfl 6 rfl rfl ?_; intro b6 wa6 hb_ ha_ hw_; have zb6 := hw_.size; have yb6 := Nat.le_of_eq hb_.symm; have nHC := Aside0.mk (HC.out.below hw_); have nHD := Aside0.mk (HD.out.below hw_); have nTx := Aside0.mk (Tx.out.below hw_); have Vb6 := Aside0.mk (Vr.mk (w := W1) ha_ (Nat.le_trans HC.out.size yb6)); clear Tx; have Tx := nTx; clear nTx; clear HC HD; have HC := nHC; have HD := nHD; clear nHC nHD; clear hw_ ha_ hb_) | (refine store26_event rfl 6 (.tmp 24) rfl rfl rfl rfl Vb6.out.at_ ?_; intro ws6 ha_ hw_; have zs6 := hw_.kept.1; have nHC := Aside0.mk (HC.out.wrote hw_ Vb6.out.ge); have nHD := Aside0.mk (HD.out.wrote hw_ (by have := Vb6.out.ge; omega)); have nTx := Aside0.mk (Tx.out.wrote hw_ (by omega)); have nVb6 := Aside0.mk (Vr.mk (w := W1) ha_ Vb6.out.ge); clear Tx Vb6; have Tx := nTx; have Vb6 := nVb6; clear nTx nVb6; clear HC HD; have HC := nHC; have HD := nHD; clear nHC nHD; clear hw_ ha_))
    obtain ⟨HG, hg⟩ := HC.out.st
    have c0 := cellS65_0 HG
    have c1 := cellS65_1 HG
    have c2 := cellS65_2 HG
    clear HG hg
    go_upto_region 11 with (fail)
    clear c0 c1 c2
    obtain ⟨x0, x1, x2, x3⟩ := Vb6.out.at_.cells
    go_upto_region 13 with (go_at_call 45; have rT := Tx.out.reads; (with_reducible refine (arith_levels.calls k x.f0 x.f1 x.f2 Ax cx x.f3 n _ rT.2 rT.1 HN.out).mono ?_); rintro e wp5 ⟨rfl, hw_⟩; have zp5 := hw_.size; have nHC := Aside0.mk (HC.out.below hw_); have nHD := Aside0.mk (HD.out.below hw_); have nTx := Aside0.mk (Tx.out.below hw_); have nVb6 := Aside0.mk (Vb6.out.below hw_); clear Tx Vb6 rT; have Tx := nTx; have Vb6 := nVb6; clear nTx nVb6; clear HC HD; have HC := nHC; have HD := nHD; clear nHC nHD; clear hw_)
    clear x0 x1 x2 x3
    obtain ⟨x0, x1, x2, x3⟩ := Vb6.out.at_.cells
    go_wp2_with (first | (refine store26_event rfl 2 (.tmp 36) rfl rfl rfl rfl HD.out.x ?_; intro ws2 ha_ hw_; have nTx := Aside0.mk (Tx.out.wrote hw_ (.inl (by have := HD.out.n23; have := HD.out.n34; omega))); clear Tx; have Tx := nTx; clear nTx; have nHD := Aside0.mk (HD.out.set2 ha_ hw_); clear HD; have HD := nHD; clear nHD hw_ ha_) | (refine store1_event rfl 3 (.inl rfl) (.tmp 3) (.const (.int .i64 0)) rfl rfl rfl rfl HD.out.at_ ?_; intro ws3 ha_ hw_; have nTx := Aside0.mk (Tx.out.wrote hw_ (.inl (by have := HD.out.n23; have := HD.out.n34; omega))); clear Tx; have Tx := nTx; clear nTx; have nHD := Aside0.mk (HD.out.set3 ha_ hw_); clear HD; have HD := nHD; clear nHD hw_ ha_) | (refine store1_event rfl 27 (.inr rfl) (.tmp 4) (.const (.int .i64 0)) rfl rfl rfl rfl HD.out.er ?_; intro ws4 ha_ hw_; have nTx := Aside0.mk (Tx.out.wrote hw_ (.inl (by have := HD.out.n23; have := HD.out.n34; omega))); clear Tx; have Tx := nTx; clear nTx; have nHD := Aside0.mk (HD.out.set4 ha_ hw_); clear HD; have HD := nHD; clear nHD hw_ ha_))
    exact HD.out.leave rfl rfl rfl (Tx.out.wide (by omega) (Nat.le_refl _)) rfl
end Go.Proofs.YtglmdfddgmkmaaaDoor.Q
end
section
namespace Go.Proofs.YtglmdfddgmkmaaaDoor.Q
open Go.RowKit Go.Proofs.YtglmdfddgmkmaaaDoorW.PrintWords Go.Proofs.YtglmdfddgmkmaaaDoorW.PrintLast Go.Proofs.YtglmdfddgmkmaaaDoorW.PrintMore
set_option linter.unusedVariables false
set_option linter.unusedSimpArgs false
theorem ebind_mono {x x' : PRes} {f f' : S26 → Nat → ByteArray → PRes} {r : Except (Nat × Int) (S26 × Nat × ByteArray)} (hx : ∀ q, x = some q → x' = some q) (hf : ∀ a b c q, f a b c = some q → f' a b c = some q) (h : ebind x f = some r) : ebind x' f' = some r := by
 unfold ebind at h
 split at h
 ·simp at h
 ·rename_i e
  rw [hx _ rfl]
  exact h
 ·rename_i a b c
  rw [hx _ rfl]
  exact hf _ _ _ _ h
theorem pr_mono (s : ByteArray) : ∀ (k : Nat) (gl : Gl) (p : Nat) (t : ByteArray) (r : Except (Nat × Int) (S26 × Nat × ByteArray)), pr s k gl p t = some r → pr s (k + 1) gl p t = some r := by
 intro k
 induction k with
 | zero => intro gl p t r h; simp [pr] at h
 | succ k ih =>
  intro gl p t r h
  cases gl with
  | first =>
   rw [pr] at h ⊢
   refine ebind_mono (ih _ _ _) (fun a b c q hq => ?_) h
   split at hq
   ·simp at hq
   rename_i op is he
   split at hq
   ·rename_i hc
    rw [if_pos hc]
    exact ebind_mono (ih _ _ _) (fun _ _ _ _ hh => hh) hq
   rename_i hc
   rw [if_neg hc]
   exact hq
  | second =>
   rw [pr] at h ⊢
   refine ebind_mono (ih _ _ _) (fun a b c q hq => ?_) h
   split at hq
   ·rename_i hc
    rw [if_pos hc]
    refine ebind_mono (ih _ _ _) (fun a b c q hq => ?_) hq
    split at hq
    ·rename_i hc
     rw [if_pos hc]
     exact ebind_mono (ih _ _ _) (fun _ _ _ _ hh => hh) hq
    rename_i hc
    rw [if_neg hc]
    exact hq
   rename_i hc
   rw [if_neg hc]
   exact hq
  | level n =>
   rw [pr] at h ⊢
   split at h
   ·rename_i hc
    rw [if_pos hc]
    exact ih _ _ _ _ h
   rename_i hc
   rw [if_neg hc]
   exact ebind_mono (ih _ _ _) (fun _ _ _ _ hh => ih _ _ _ _ hh) h
  | more n x =>
   rw [pr] at h ⊢
   split at h
   ·simp at h
   rename_i op l he
   split at h
   ·rename_i hc
    rw [if_pos hc]
    exact ebind_mono (ih _ _ _) (fun _ _ _ _ hh => ih _ _ _ _ hh) h
   rename_i hc
   rw [if_neg hc]
   exact h
  | operand =>
   rw [pr] at h ⊢
   split at h
   ·simp at h
   rename_i op he
   split at h
   ·rename_i hc
    rw [if_pos hc]
    exact ebind_mono (ih _ _ _) (fun _ _ _ _ hh => hh) h
   rename_i hc
   rw [if_neg hc]
   split at h
   ·rename_i hc
    rw [if_pos hc]
    exact ebind_mono (ih _ _ _) (fun _ _ _ _ hh => hh) h
   rename_i hc
   rw [if_neg hc]
   exact h
theorem parseP_mono (s : ByteArray) (k : Nat) (r : PR) (h : parseP s k = some r) : parseP s (k + 1) = some r := by
 unfold parseP at h ⊢
 split at h
 ·rename_i hc
  rw [if_pos hc]
  exact h
 rename_i hc
 rw [if_neg hc]
 split at h
 ·rename_i hc
  rw [if_pos hc]
  exact h
 rename_i hc
 rw [if_neg hc]
 split at h
 ·simp at h
 ·rename_i p er he
  rw [pr_mono s _ _ _ _ _ he]
  exact h
 ·rename_i x p t he
  rw [pr_mono s _ _ _ _ _ he]
  simp only
  split at h
  ·rename_i hc
   rw [if_pos hc]
   exact h
  rename_i hc
  rw [if_neg hc]
  split at h
  ·simp at h
  rename_i n hn
  rw [arith_levels.mono _ _ _ _ _ _ hn]
  exact h
def arith_Parse.f (k : Nat) (a0 : ByteArray) : Option (Int × Int × ByteArray × List S26 × Int × Int) := parseP a0 k
theorem arith_Parse.mono (a0 : ByteArray) (k : Nat) : LeO (arith_Parse.f k a0) (arith_Parse.f (k + 1) a0) := fun r h => parseP_mono a0 k r h
theorem arith_Parse.calls (k : Nat) (a0 : ByteArray) (r1 r2 : Int) (r3 : ByteArray) (r4 : List S26) (r5 r6 : Int) (w : World) (h : arith_Parse.f k a0 = some (r1, r2, r3, r4, r5, r6)) :
 Calls Tryd.prog 18 #[.string a0] w fun e w' => ∃ v3_, e = .returned (.tuple #[.agg #[.int .i64 r1, .int .i64 r2, .string r3, v3_], .int .i64 r5, .int .i64 r6]) ∧ Kd.R k26 26 w' w.heap.size (fun _ => True) v3_ r4 ∧ Below w.heap.size w w' :=
 parse_walk a0 k w _ h
end Go.Proofs.YtglmdfddgmkmaaaDoor.Q
end
section
namespace Go.Proofs.YtglmdfddgmkmaaaDoor.Q
open Go.RowKit Go.Proofs.YtglmdfddgmkmaaaDoorW.PrintWords Go.Proofs.YtglmdfddgmkmaaaDoorW.PrintLast Go.Proofs.YtglmdfddgmkmaaaDoorW.PrintMore
open Go.ChangeMaps
attribute [local go_sem] max2_int min2_int max_two min_two max_three min_three max_four min_four
set_option linter.unusedVariables false
set_option linter.unusedSimpArgs false
def metB (x : ByteArray) (out : List ByteArray) : Bool := out.any (fun y => y.data.toList == x.data.toList)
def visitP : Nat → S26 → List ByteArray → Option (List ByteArray)
 | 0, _, _ => none
 | k + 1, x, out =>
  if x.f3.length ≤ 9223372036854775806 then
   if x.f0 = 2 ∨ x.f0 = 26 then
    if x.f2.size ≤ 9223372036854775807 then
     if metB x.f2 out = true then x.f3.foldlM (fun o y => visitP k y o) out
     else if out.length < 8796093022208 then x.f3.foldlM (fun o y => visitP k y o) (out ++ [x.f2]) else none
    else none
   else x.f3.foldlM (fun o y => visitP k y o) out
  else none
theorem foldlM_mono {f g : List ByteArray → S26 → Option (List ByteArray)} (h : ∀ o y r, f o y = some r → g o y = some r) : ∀ (xs : List S26) (o r : List ByteArray), xs.foldlM f o = some r → xs.foldlM g o = some r
 | [], o, r, hr => hr
 | x :: xs, o, r, hr => by
  simp only [List.foldlM_cons] at hr ⊢
  obtain ⟨o1, h1, h2⟩ := Option.bind_eq_some_iff.mp hr
  exact Option.bind_eq_some_iff.mpr ⟨o1, h _ _ _ h1, foldlM_mono h xs o1 r h2⟩
theorem visitP_mono : ∀ (k : Nat) (x : S26) (o r : List ByteArray), visitP k x o = some r → visitP (k + 1) x o = some r := by
 intro k
 induction k with
 | zero => intro x o r h; simp [visitP] at h
 | succ k ih =>
  intro x o r h
  rw [visitP] at h ⊢
  have hm : ∀ (xs : List S26) (o r : List ByteArray), xs.foldlM (fun o y => visitP k y o) o = some r → xs.foldlM (fun o y => visitP (k + 1) y o) o = some r := foldlM_mono (fun o y r hr => ih y o r hr)
  split at h
  ·rename_i h0
   rw [if_pos h0]
   split at h
   ·rename_i h1
    rw [if_pos h1]
    split at h
    ·rename_i h2
     rw [if_pos h2]
     split at h
     ·rename_i h3
      rw [if_pos h3]
      exact hm _ _ _ h
     rename_i h3
     rw [if_neg h3]
     split at h
     ·rename_i h4
      rw [if_pos h4]
      exact hm _ _ _ h
     simp at h
    simp at h
   rename_i h1
   rw [if_neg h1]
   exact hm _ _ _ h
  simp at h
def keyL (x : ByteArray) : Lit := .string x.data.toList
def DM (out : List ByteArray) : DataW Unit := out.foldl (fun D x => D.put (keyL x) (.lit (.bool true))) (.map [])
theorem DM_snoc (out : List ByteArray) (x : ByteArray) : DM (out ++ [x]) = (DM out).put (keyL x) (.lit (.bool true)) := by simp [DM]
theorem DM_fold (x : ByteArray) : ∀ (out : List ByteArray) (D : DataW Unit), Go.Maps.IsMap D → (out.foldl (fun D x => D.put (keyL x) (.lit (.bool true))) D).atKey (keyL x) (.lit (.bool false)) = if metB x out = true then .lit (.bool true) else D.atKey (keyL x) (.lit (.bool false))
 | [], D, _ => by simp [metB]
 | y :: out, D, hD => by
  rw [List.foldl_cons, DM_fold x out _ (hD.put _ _)]
  by_cases h : y.data = x.data
  rotate_left
  ·have e : metB x (y :: out) = metB x out := by simp [metB, h]
   rw [e, Go.Maps.atKey_put_other (by simp [keyL]; exact fun h2 => h h2.symm)]
  have e : metB x (y :: out) = true := by simp [metB, h]
  rw [if_pos e]
  have e2 : keyL x = keyL y := by simp [keyL, h]
  rw [e2, Go.Maps.atKey_put_same hD (by simp [WideAt.IsKeyLit, keyL])]
  split <;> rfl
theorem DM_at (x : ByteArray) (out : List ByteArray) : (DM out).atKey (keyL x) (.lit (.bool false)) = .lit (.bool (metB x out)) := by
 unfold DM
 rw [DM_fold x out _ Go.Maps.isMap_empty]
 cases metB x out <;> rfl
theorem keyed9 : Go.Maps.Keyed Tryd.prog 9 := Go.Maps.string_keyed Tryd.underlying9
noncomputable abbrev eB : Value → Option (DataW Unit × List MemPlace) := plainElem Tryd.prog 4
theorem eB_b (b : Bool) : eB (.bool b) = some (.lit (.bool b), []) := plainElem_bool Tryd.underlying4 b
set_option maxRecDepth 100000 in
theorem look {W : World} {m n : Nat} {out : List ByteArray} (h : W.ownsMap Tryd.prog 9 eB m n (DM out)) (x : ByteArray) (hx : x.size ≤ 9223372036854775807) : (Instr.lookup 77 (.map (some m)) (.string x) false).run Tryd.prog W = .ok (.bool (metB x out)) W := by
 obtain ⟨v, ps, hrun, hv⟩ := h.lookup keyed9 Tryd.underlying77 (z := .bool false) (by kernel_rfl) (eB_b false) (key := .string x) (kl := keyL x) (Go.WideMaps.keyOf_string_mk Tryd.underlying9 (by unfold maxLen; omega))
 rw [DM_at] at hv
 rw [hrun]
 unfold eB plainElem at hv
 rw [Tryd.underlying4] at hv
 cases v <;> simp at hv
 rw [hv.1]
structure Nm (w0 W : World) (bm bo bv m : Nat) (out : List ByteArray) (v : Value) : Prop where
 cm : W.heap[bm]? = some (.cells #[.map (some m)] 77 (0, 0))
 co : W.heap[bo]? = some (.cells #[v] 41 (0, 0))
 cv : W.heap[bv]? = some (.cells #[.func (.func 56) #[] #[.pointer (some ⟨bm, 0, none⟩), .pointer (some ⟨bo, 0, none⟩), .pointer (some ⟨bv, 0, none⟩)]] 78 (0, 0))
 mm : W.ownsMap Tryd.prog 9 eB m out.length (DM out)
 row : Kd.R Kd.string 9 W w0.heap.size (fun _ => True) v out
 bel : Below w0.heap.size w0 W
 gm : w0.heap.size ≤ bm
 go : w0.heap.size ≤ bo
 gv : w0.heap.size ≤ bv
 gg : w0.heap.size ≤ m
section
variable {w0 W W' : World} {bm bo bv m : Nat} {out : List ByteArray} {v : Value}
theorem Nm.below (h : Nm w0 W bm bo bv m out v) (hb : Below W.heap.size W W') : Nm w0 W' bm bo bv m out v :=
 ⟨(hb.block bm (blk_lt h.cm)).trans h.cm, (hb.block bo (blk_lt h.co)).trans h.co, (hb.block bv (blk_lt h.cv)).trans h.cv, h.mm.kept (grown_of_below hb none) (by simp), Kd.R_grown h.row (grown_of_below hb none) (by simp), below_then h.bel h.bel.size hb, h.gm, h.go, h.gv, h.gg⟩
theorem Nm.cells (h : Nm w0 W bm bo bv m out v) : W.cell? ⟨bm, 0, none⟩ = some (.map (some m)) ∧ W.cell? ⟨bo, 0, none⟩ = some v ∧ W.cell? ⟨bv, 0, none⟩ = some (.func (.func 56) #[] #[.pointer (some ⟨bm, 0, none⟩), .pointer (some ⟨bo, 0, none⟩), .pointer (some ⟨bv, 0, none⟩)]) ∧ W.frozen? ⟨bo, 0, none⟩ = false :=
 ⟨(blk_cell h.cm 0).trans rfl, (blk_cell h.co 0).trans rfl, (blk_cell h.cv 0).trans rfl, blk_frozen h.co 0⟩
theorem Nm.map_at (h : Nm w0 W bm bo bv m out v) : ∃ es c, W.heap[m]? = some (.map es c) := by
 obtain ⟨es, c, hb, _⟩ := h.mm
 exact ⟨es, c, hb⟩
theorem Nm.own_ne (h : Nm w0 W bm bo bv m out v) : some bm ≠ v.ownBlock ∧ some bo ≠ v.ownBlock ∧ some bv ≠ v.ownBlock ∧ some m ≠ v.ownBlock := by
 refine ⟨Kd.R_ne h.row h.cm (by decide), Kd.R_ne h.row h.co (by decide), Kd.R_ne h.row h.cv (by decide), ?_⟩
 intro he
 have hb := (Kd.R_bound h.row).1 m he.symm
 obtain ⟨_, _, _, q, _, cells, hc⟩ := hb
 obtain ⟨es, c, hm⟩ := h.map_at
 rw [hm] at hc
 simp at hc
theorem Nm.ne (h : Nm w0 W bm bo bv m out v) : bm ≠ m ∧ bo ≠ m ∧ bv ≠ m ∧ bm ≠ bo ∧ bv ≠ bo := by
 obtain ⟨es, c, hm⟩ := h.map_at
 refine ⟨?_, ?_, ?_, ?_, ?_⟩ <;> rintro rfl
 ·have := h.cm; rw [hm] at this; simp at this
 ·have := h.co; rw [hm] at this; simp at this
 ·have := h.cv; rw [hm] at this; simp at this
 ·have := h.cm; rw [h.co] at this; simp at this
 ·have := h.cv; rw [h.co] at this; simp at this
theorem Nm.wrote (h : Nm w0 W bm bo bv m out v) {b : Nat} {op n : Int} {nm : ByteArray} {u : Value} (hb : At26 W b op n nm u) (hw : Wrote b W W') (hge : w0.heap.size ≤ b) : Nm w0 W' bm bo bv m out v := by
 have e1 : bm ≠ b := by
  rintro rfl
  have := h.cm
  unfold At26 at hb
  rw [hb] at this
  simp at this
 have e2 : bo ≠ b := by
  rintro rfl
  have := h.co
  unfold At26 at hb
  rw [hb] at this
  simp at this
 have e3 : bv ≠ b := by
  rintro rfl
  have := h.cv
  unfold At26 at hb
  rw [hb] at this
  simp at this
 have e4 : m ≠ b := by
  rintro rfl
  obtain ⟨es, c, hm⟩ := h.map_at
  unfold At26 at hb
  rw [hb] at hm
  simp at hm
 have e5 : some b ≠ v.ownBlock := Kd.R_ne h.row hb (by decide)
 refine ⟨blk_kept h.cm hw.kept e1, blk_kept h.co hw.kept e2, blk_kept h.cv hw.kept e3, ?_, ?_, hw.below _ _ h.bel hge, h.gm, h.go, h.gv, h.gg⟩
 ·obtain ⟨es, c, hm, r⟩ := h.mm
  exact ⟨es, c, (hw.kept.2 m (Array.getElem?_eq_some_iff.1 hm).1 e4).trans hm, r⟩
 exact Kd.R_kept (Kd.R_reok rfl h.row (ok := fun k => k ≠ b) (fun k hk he => e5 (by rw [← he, hk]))) hw.kept (fun k h1 h2 => h1 h2) |> fun z => Kd.R_mono z (fun _ _ => trivial)
theorem Nm.mid (h : Nm w0 W bm bo bv m out v) {W1 : World} (hg : W.grownBy W1 (some m)) : Kd.R Kd.string 9 W1 w0.heap.size (fun _ => True) v out ∧ W1.heap[bo]? = some (.cells #[v] 41 (0, 0)) ∧ Below w0.heap.size w0 W1 := by
 obtain ⟨n1, n2, n3, n4, n5⟩ := h.ne
 obtain ⟨o1, o2, o3, o4⟩ := h.own_ne
 refine ⟨Kd.R_grown1 h.row rfl hg o4, (hg.block bo (blk_lt h.co) (by simpa using n2)).trans h.co, ?_⟩
 exact ⟨hg.os.trans h.bel.os, hg.tape.trans h.bel.tape, hg.output.trans h.bel.output, Nat.le_trans h.bel.size hg.size, fun k hk => (hg.block k (Nat.lt_of_lt_of_le hk h.bel.size) (by have := h.gg; intro e; injection e; omega)).trans (h.bel.block k hk)⟩
theorem Nm.put (h : Nm w0 W bm bo bv m out v) {W1 W2 : World} {x : ByteArray} {v2 : Value} (hg1 : W.grownBy W1 (some m)) (hm1 : W1.ownsMap Tryd.prog 9 eB m (out.length + 1) ((DM out).put (keyL x) (.lit (.bool true))))
 (hr2 : Kd.R Kd.string 9 W2 w0.heap.size (fun _ => True) v2 (out ++ [x])) (hb2 : Below w0.heap.size w0 W2) (hg2 : W1.grownBy W2 v.ownBlock) : Nm w0 (W2.setCell ⟨bo, 0, none⟩ v2) bm bo bv m (out ++ [x]) v2 := by
 obtain ⟨n1, n2, n3, n4, n5⟩ := h.ne
 obtain ⟨o1, o2, o3, o4⟩ := h.own_ne
 have s1 := hg1.size
 have c1 : W1.heap[bm]? = some (.cells #[.map (some m)] 77 (0, 0)) := (hg1.block bm (blk_lt h.cm) (by simpa using n1)).trans h.cm
 have c2 : W1.heap[bo]? = some (.cells #[v] 41 (0, 0)) := (hg1.block bo (blk_lt h.co) (by simpa using n2)).trans h.co
 have c3 : W1.heap[bv]? = some (.cells #[.func (.func 56) #[] #[.pointer (some ⟨bm, 0, none⟩), .pointer (some ⟨bo, 0, none⟩), .pointer (some ⟨bv, 0, none⟩)]] 78 (0, 0)) := (hg1.block bv (blk_lt h.cv) (by simpa using n3)).trans h.cv
 have d1 : W2.heap[bm]? = some (.cells #[.map (some m)] 77 (0, 0)) := (hg2.block bm (blk_lt c1) o1).trans c1
 have d2 : W2.heap[bo]? = some (.cells #[v] 41 (0, 0)) := (hg2.block bo (blk_lt c2) o2).trans c2
 have d3 : W2.heap[bv]? = some (.cells #[.func (.func 56) #[] #[.pointer (some ⟨bm, 0, none⟩), .pointer (some ⟨bo, 0, none⟩), .pointer (some ⟨bv, 0, none⟩)]] 78 (0, 0)) := (hg2.block bv (blk_lt c3) o3).trans c3
 have d4 := hm1.kept hg2 o4
 have hb3 : Below w0.heap.size w0 (W2.setCell ⟨bo, 0, none⟩ v2) := Below.setCell hb2 (p := ⟨bo, 0, none⟩) h.go v2
 have hk : Kept W2 (W2.setCell ⟨bo, 0, none⟩ v2) (fun k => k = bo) := Kept.setCell (Kept.refl W2 (fun k => k = bo)) (p := ⟨bo, 0, none⟩) (.inl rfl) _
 have e2 : some bo ≠ v2.ownBlock := Kd.R_ne hr2 d2 (by decide)
 refine ⟨blk_kept d1 hk n4, blk_put d2 0 _ rfl, blk_kept d3 hk n5, ?_, ?_, hb3, h.gm, h.go, h.gv, h.gg⟩
 ·rw [DM_snoc]
  exact (d4.setCell (a := ⟨bo, 0, none⟩) (Ne.symm n2) v2).mono (by simp)
 exact Kd.R_kept (Kd.R_reok rfl hr2 (ok := fun k => k ≠ bo) (fun k hk he => e2 (by rw [← he, hk]))) hk (fun k h1 h2 => h1 h2) |> fun z => Kd.R_mono z (fun _ _ => trivial)
end
set_option maxRecDepth 100000 in
set_option maxHeartbeats 4000000 in
theorem visit_calls (w0 : World) (bm bo bv m : Nat) : ∀ (k : Nat) (a0 a1 : Int) (a2 : ByteArray) (A : Option Addr) (c : Nat) (xs : List S26) (out r : List ByteArray) (v : Value) (w : World), visitP k ⟨a0, a1, a2, xs⟩ out = some r → Kd.C k26 w0 A xs.length xs → xs.length ≤ c → Nm w0 w bm bo bv m out v →
 Calls Tryd.prog 56 #[.agg #[.int .i64 a0, .int .i64 a1, .string a2, .slice A xs.length c], .pointer (some ⟨bm, 0, none⟩), .pointer (some ⟨bo, 0, none⟩), .pointer (some ⟨bv, 0, none⟩)] w fun e w' => e = .returned (.tuple #[]) ∧ ∃ v', Nm w0 w' bm bo bv m r v' := by
 intro k
 induction k with
 | zero => intro a0 a1 a2 A c xs out r v w h; simp [visitP] at h
 | succ k ih =>
  intro a0 a1 a2 A c xs out r v w h hx hc hn
  have hu26 := Tryd.underlying26
  have hu77 := Tryd.underlying77
  have HX := Aside0.mk hx
  have HC := Aside0.mk hc
  have HN := Aside0.mk hn
  have IH := Aside0.mk ih
  clear hx hc hn ih
  simp only [visitP] at h
  by_cases hsz : xs.length ≤ 9223372036854775806
  rotate_left
  ·rw [if_neg hsz] at h
   simp at h
  rw [if_pos hsz] at h
  have HSZ := Aside0.mk hsz
  clear hsz
  by_cases hv : a0 = 2 ∨ a0 = 26
  rotate_left
  ·rw [if_neg hv] at h
   have HR := Aside0.mk h
   clear h
   have q1 : (a0 == 2) = false := by simpa using fun e => hv (.inl e)
   have q2 : (a0 == 26) = false := by simpa using fun e => hv (.inr e)
   go_enter Tryd.func56, Tryd.ntmps56
   go_upto_region 1 with ((with_reducible refine gate_dst (N := 4) rfl ?_); refine box_event ?hg (N := 4) ?hd (cs := #[.int .i64 a0, .int .i64 a1, .string a2, .slice A xs.length c]) (t := 26) ?hr ?_; (case hd => rfl); (case hg => rfl); (case hr => first | (go_simp; done) | (go_simp; rfl)); intro g4 hg w1 hbox hb; have nHN := Aside0.mk (HN.out.below hb); have B4 := Aside0.mk hbox; have L4 := Aside0.mk hb.size; clear HN; have HN := nHN; clear nHN hb hbox hg)
   have hc4_0 : w1.cell? ⟨g4, 0, none⟩ = some (.int .i64 a0) := (blk_cell B4.out 0).trans rfl
   have hc4_1 : w1.cell? ⟨g4, 1, none⟩ = some (.int .i64 a1) := (blk_cell B4.out 1).trans rfl
   have hc4_2 : w1.cell? ⟨g4, 2, none⟩ = some (.string a2) := (blk_cell B4.out 2).trans rfl
   have hc4_3 : w1.cell? ⟨g4, 3, none⟩ = some (.slice A xs.length c) := (blk_cell B4.out 3).trans rfl
   obtain ⟨hcm, hco, hcv, hfo⟩ := HN.out.cells
   go_wp2_with (fail)
   clear hc4_0 hc4_1 hc4_2 hc4_3 hcm hco hcv hfo
   go_loopg [33] xs.length (fun kq v33 wr => ∃ (i : Int) (o : List ByteArray) (vv : Value), v33 = .int .i64 i ∧ Aside0 (0 ≤ i ∧ i ≤ xs.length) ∧ Aside0 (xs.length - i.toNat ≤ kq) ∧ Aside0 ((xs.drop i.toNat).foldlM (fun o y => visitP k y o) o = some r) ∧ Aside0 (Nm w0 wr bm bo bv m o vv))
   case atStart => exact ⟨0, _, _, rfl, ⟨by omega⟩, ⟨by simp⟩, ⟨by simpa using HR.out⟩, ⟨HN.out⟩⟩
   case round =>
    clear HR HN
    obtain ⟨i, o, vv, rfl, HI, HM, HF, HN⟩ := hrel
    by_cases hlt : i < (xs.length : Int)
    rotate_left
    ·have qlt : decide (i < (xs.length : Int)) = false := decide_eq_false hlt
     have he : xs.length ≤ i.toNat := by omega
     have HF' : o = r := by
      have h := HF.out
      rw [List.drop_eq_nil_of_le he] at h
      simpa using h
     subst HF'
     go_wp2_with (fail)
     go_end0
     exact ⟨rfl, vv, HN.out⟩
    have qlt : decide (i < (xs.length : Int)) = true := decide_eq_true hlt
    have hi0 : 0 ≤ i := HI.out.1
    obtain ⟨ad, A3, c3, e_, hx0, hx1, hx2, hx3, hl3, hi3⟩ := at_T26 HX.out i hi0 hlt
    subst e_
    obtain ⟨hcm, hco, hcv, hfo⟩ := HN.out.cells
    replace hx0 := (HN.out.bel.cell (World.block_lt_of_cell? w0 _ hx0)).trans hx0
    replace hx1 := (HN.out.bel.cell (World.block_lt_of_cell? w0 _ hx1)).trans hx1
    replace hx2 := (HN.out.bel.cell (World.block_lt_of_cell? w0 _ hx2)).trans hx2
    replace hx3 := (HN.out.bel.cell (World.block_lt_of_cell? w0 _ hx3)).trans hx3
    have HI3 := Aside0.mk hi3
    have HL3 := Aside0.mk hl3
    clear hi3 hl3
    obtain ⟨y, hy⟩ : ∃ y, rd_T26 xs i = y := ⟨_, rfl⟩
    rw [hy] at hx0 hx1 hx2 hx3 HI3 HL3
    have HF' : Aside0 (∃ o1, visitP k y o = some o1 ∧ (xs.drop (i + 1).toNat).foldlM (fun o y => visitP k y o) o1 = some r) := by
     have hn : i.toNat < xs.length := by omega
     have hd : xs.drop i.toNat = y :: xs.drop (i.toNat + 1) := by
      rw [List.drop_eq_getElem_cons hn]
      congr 1
      rw [← hy]
      simp [rd_T26, List.getD_eq_getElem?_getD, hn]
     have h := HF.out
     rw [hd, List.foldlM_cons] at h
     obtain ⟨o1, h1, h2⟩ := Option.bind_eq_some_iff.mp h
     rw [show (i + 1).toNat = i.toNat + 1 by omega]
     exact ⟨⟨o1, h1, h2⟩⟩
    clear hy HF
    obtain ⟨o1, HV, HF⟩ : ∃ o1, Aside0 (visitP k y o = some o1) ∧ Aside0 ((xs.drop (i + 1).toNat).foldlM (fun o y => visitP k y o) o1 = some r) := by
     obtain ⟨o1, h1, h2⟩ := HF'.out
     exact ⟨o1, ⟨h1⟩, ⟨h2⟩⟩
    clear HF'
    have HV2 : Aside0 (visitP k ⟨y.f0, y.f1, y.f2, y.f3⟩ o = some o1) := ⟨by have h := HV.out; cases y; exact h⟩
    have HLT := Aside0.mk hlt
    have p1 : (0 ≤ i) = True := eq_true hi0
    have p2 : (i < (xs.length : Int)) = True := eq_true hlt
    have HS := Aside0.mk HSZ.out
    have q3 : wrap64 (i + 1) = i + 1 := by
     have := HSZ.out
     simp only [wrap64, IntKind.wrap]
     omega
    clear hlt hi0
    have G6 := Aside0.mk HN.out.bel.size
    go_upto_region 7 with (first | ((with_reducible refine gate_dst (N := 6) rfl ?_); refine alloc26_event rfl 6 rfl rfl ?_; intro b6 wa6 hb_ ha_ hw_; have nHN := Aside0.mk (HN.out.below hw_); have V6 := Aside0.mk ha_; have K6 := Aside0.mk (show w0.heap.size ≤ b6 from Nat.le_trans G6.out (Nat.le_of_eq hb_.symm)); clear HN; have HN := nHN; clear nHN hb_ ha_ hw_) | (refine store26_event rfl 6 (.tmp 36) rfl rfl rfl rfl V6.out ?_; intro ws6 ha_ hw_; have nHN := Aside0.mk (HN.out.wrote V6.out hw_ K6.out); clear V6 HN; have V6 := Aside0.mk ha_; have HN := nHN; clear nHN ha_ hw_))
    clear hx0 hx1 hx2 hx3 hcm hco hcv hfo
    obtain ⟨hcm, hco, hcv, hfo⟩ := HN.out.cells
    obtain ⟨x0, x1, x2, x3⟩ := V6.out.cells
    go_wp2_with (go_at_call 56; (with_reducible refine (IH.out y.f0 y.f1 y.f2 A3 c3 y.f3 o o1 vv _ HV2.out HI3.out HL3.out HN.out).mono ?_); rintro e w' ⟨rfl, v', hN'⟩; have nHN := Aside0.mk hN'; clear HN; have HN := nHN; clear nHN hN')
    go_roundg (xs.length - (i + 1).toNat)
    case measure => have := HM.out; have := HLT.out; have := HI.out; omega
    case rel => exact ⟨i + 1, _, _, by rw [q3], ⟨by have := HI.out; have := HLT.out; omega⟩, ⟨Nat.le_refl _⟩, ⟨HF.out⟩, ⟨HN.out⟩⟩
  rw [if_pos hv] at h
  by_cases hname : a2.size ≤ 9223372036854775807
  rotate_left
  ·rw [if_neg hname] at h
   simp at h
  rw [if_pos hname] at h
  cases hmet : metB a2 out with
  | true =>
   rw [hmet, if_pos rfl] at h
   have HR := Aside0.mk h
   clear h
   have HM0 := Aside0.mk hmet
   clear hmet
   rcases hv with rfl | rfl
   ·have q1 : ((2 : Int) == 2) = true := rfl
    have q2 : ((2 : Int) == 26) = false := rfl
    go_enter Tryd.func56, Tryd.ntmps56
    go_upto_region 1 with ((with_reducible refine gate_dst (N := 4) rfl ?_); refine box_event ?hg (N := 4) ?hd (cs := #[.int .i64 2, .int .i64 a1, .string a2, .slice A xs.length c]) (t := 26) ?hr ?_; (case hd => rfl); (case hg => rfl); (case hr => first | (go_simp; done) | (go_simp; rfl)); intro g4 hg w1 hbox hb; have nHN := Aside0.mk (HN.out.below hb); have B4 := Aside0.mk hbox; have L4 := Aside0.mk hb.size; clear HN; have HN := nHN; clear nHN hb hbox hg)
    have hc4_0 : w1.cell? ⟨g4, 0, none⟩ = some (.int .i64 2) := (blk_cell B4.out 0).trans rfl
    have hc4_1 : w1.cell? ⟨g4, 1, none⟩ = some (.int .i64 a1) := (blk_cell B4.out 1).trans rfl
    have hc4_2 : w1.cell? ⟨g4, 2, none⟩ = some (.string a2) := (blk_cell B4.out 2).trans rfl
    have hc4_3 : w1.cell? ⟨g4, 3, none⟩ = some (.slice A xs.length c) := (blk_cell B4.out 3).trans rfl
    obtain ⟨hcm, hco, hcv, hfo⟩ := HN.out.cells
    have hlook := look HN.out.mm a2 hname
    rw [HM0.out] at hlook
    go_wp2_with (fail)
    clear hlook
    clear hc4_0 hc4_1 hc4_2 hc4_3 hcm hco hcv hfo
    go_loopg [33] xs.length (fun kq v33 wr => ∃ (i : Int) (o : List ByteArray) (vv : Value), v33 = .int .i64 i ∧ Aside0 (0 ≤ i ∧ i ≤ xs.length) ∧ Aside0 (xs.length - i.toNat ≤ kq) ∧ Aside0 ((xs.drop i.toNat).foldlM (fun o y => visitP k y o) o = some r) ∧ Aside0 (Nm w0 wr bm bo bv m o vv))
    case atStart => exact ⟨0, _, _, rfl, ⟨by omega⟩, ⟨by simp⟩, ⟨by simpa using HR.out⟩, ⟨HN.out⟩⟩
    case round =>
     clear HR HN
     obtain ⟨i, o, vv, rfl, HI, HM, HF, HN⟩ := hrel
     by_cases hlt : i < (xs.length : Int)
     rotate_left
     ·have qlt : decide (i < (xs.length : Int)) = false := decide_eq_false hlt
      have he : xs.length ≤ i.toNat := by omega
      have HF' : o = r := by
       have h := HF.out
       rw [List.drop_eq_nil_of_le he] at h
       simpa using h
      subst HF'
      go_wp2_with (fail)
      go_end0
      exact ⟨rfl, vv, HN.out⟩
     have qlt : decide (i < (xs.length : Int)) = true := decide_eq_true hlt
     have hi0 : 0 ≤ i := HI.out.1
     obtain ⟨ad, A3, c3, e_, hx0, hx1, hx2, hx3, hl3, hi3⟩ := at_T26 HX.out i hi0 hlt
     subst e_
     obtain ⟨hcm, hco, hcv, hfo⟩ := HN.out.cells
     replace hx0 := (HN.out.bel.cell (World.block_lt_of_cell? w0 _ hx0)).trans hx0
     replace hx1 := (HN.out.bel.cell (World.block_lt_of_cell? w0 _ hx1)).trans hx1
     replace hx2 := (HN.out.bel.cell (World.block_lt_of_cell? w0 _ hx2)).trans hx2
     replace hx3 := (HN.out.bel.cell (World.block_lt_of_cell? w0 _ hx3)).trans hx3
     have HI3 := Aside0.mk hi3
     have HL3 := Aside0.mk hl3
     clear hi3 hl3
     obtain ⟨y, hy⟩ : ∃ y, rd_T26 xs i = y := ⟨_, rfl⟩
     rw [hy] at hx0 hx1 hx2 hx3 HI3 HL3
     have HF' : Aside0 (∃ o1, visitP k y o = some o1 ∧ (xs.drop (i + 1).toNat).foldlM (fun o y => visitP k y o) o1 = some r) := by
      have hn : i.toNat < xs.length := by omega
      have hd : xs.drop i.toNat = y :: xs.drop (i.toNat + 1) := by
       rw [List.drop_eq_getElem_cons hn]
       congr 1
       rw [← hy]
       simp [rd_T26, List.getD_eq_getElem?_getD, hn]
      have h := HF.out
      rw [hd, List.foldlM_cons] at h
      obtain ⟨o1, h1, h2⟩ := Option.bind_eq_some_iff.mp h
      rw [show (i + 1).toNat = i.toNat + 1 by omega]
      exact ⟨⟨o1, h1, h2⟩⟩
     clear hy HF
     obtain ⟨o1, HV, HF⟩ : ∃ o1, Aside0 (visitP k y o = some o1) ∧ Aside0 ((xs.drop (i + 1).toNat).foldlM (fun o y => visitP k y o) o1 = some r) := by
      obtain ⟨o1, h1, h2⟩ := HF'.out
      exact ⟨o1, ⟨h1⟩, ⟨h2⟩⟩
     clear HF'
     have HV2 : Aside0 (visitP k ⟨y.f0, y.f1, y.f2, y.f3⟩ o = some o1) := ⟨by have h := HV.out; cases y; exact h⟩
     have HLT := Aside0.mk hlt
     have p1 : (0 ≤ i) = True := eq_true hi0
     have p2 : (i < (xs.length : Int)) = True := eq_true hlt
     have HS := Aside0.mk HSZ.out
     have q3 : wrap64 (i + 1) = i + 1 := by
      have := HSZ.out
      simp only [wrap64, IntKind.wrap]
      omega
     clear hlt hi0
     have G6 := Aside0.mk HN.out.bel.size
     go_upto_region 7 with (first | ((with_reducible refine gate_dst (N := 6) rfl ?_); refine alloc26_event rfl 6 rfl rfl ?_; intro b6 wa6 hb_ ha_ hw_; have nHN := Aside0.mk (HN.out.below hw_); have V6 := Aside0.mk ha_; have K6 := Aside0.mk (show w0.heap.size ≤ b6 from Nat.le_trans G6.out (Nat.le_of_eq hb_.symm)); clear HN; have HN := nHN; clear nHN hb_ ha_ hw_) | (refine store26_event rfl 6 (.tmp 36) rfl rfl rfl rfl V6.out ?_; intro ws6 ha_ hw_; have nHN := Aside0.mk (HN.out.wrote V6.out hw_ K6.out); clear V6 HN; have V6 := Aside0.mk ha_; have HN := nHN; clear nHN ha_ hw_))
     clear hx0 hx1 hx2 hx3 hcm hco hcv hfo
     obtain ⟨hcm, hco, hcv, hfo⟩ := HN.out.cells
     obtain ⟨x0, x1, x2, x3⟩ := V6.out.cells
     go_wp2_with (go_at_call 56; (with_reducible refine (IH.out y.f0 y.f1 y.f2 A3 c3 y.f3 o o1 vv _ HV2.out HI3.out HL3.out HN.out).mono ?_); rintro e w' ⟨rfl, v', hN'⟩; have nHN := Aside0.mk hN'; clear HN; have HN := nHN; clear nHN hN')
     go_roundg (xs.length - (i + 1).toNat)
     case measure => have := HM.out; have := HLT.out; have := HI.out; omega
     case rel => exact ⟨i + 1, _, _, by rw [q3], ⟨by have := HI.out; have := HLT.out; omega⟩, ⟨Nat.le_refl _⟩, ⟨HF.out⟩, ⟨HN.out⟩⟩
   have q1 : ((26 : Int) == 2) = false := rfl
   have q2 : ((26 : Int) == 26) = true := rfl
   go_enter Tryd.func56, Tryd.ntmps56
   go_upto_region 1 with ((with_reducible refine gate_dst (N := 4) rfl ?_); refine box_event ?hg (N := 4) ?hd (cs := #[.int .i64 26, .int .i64 a1, .string a2, .slice A xs.length c]) (t := 26) ?hr ?_; (case hd => rfl); (case hg => rfl); (case hr => first | (go_simp; done) | (go_simp; rfl)); intro g4 hg w1 hbox hb; have nHN := Aside0.mk (HN.out.below hb); have B4 := Aside0.mk hbox; have L4 := Aside0.mk hb.size; clear HN; have HN := nHN; clear nHN hb hbox hg)
   have hc4_0 : w1.cell? ⟨g4, 0, none⟩ = some (.int .i64 26) := (blk_cell B4.out 0).trans rfl
   have hc4_1 : w1.cell? ⟨g4, 1, none⟩ = some (.int .i64 a1) := (blk_cell B4.out 1).trans rfl
   have hc4_2 : w1.cell? ⟨g4, 2, none⟩ = some (.string a2) := (blk_cell B4.out 2).trans rfl
   have hc4_3 : w1.cell? ⟨g4, 3, none⟩ = some (.slice A xs.length c) := (blk_cell B4.out 3).trans rfl
   obtain ⟨hcm, hco, hcv, hfo⟩ := HN.out.cells
   have hlook := look HN.out.mm a2 hname
   rw [HM0.out] at hlook
   go_wp2_with (fail)
   clear hlook
   clear hc4_0 hc4_1 hc4_2 hc4_3 hcm hco hcv hfo
   go_loopg [33] xs.length (fun kq v33 wr => ∃ (i : Int) (o : List ByteArray) (vv : Value), v33 = .int .i64 i ∧ Aside0 (0 ≤ i ∧ i ≤ xs.length) ∧ Aside0 (xs.length - i.toNat ≤ kq) ∧ Aside0 ((xs.drop i.toNat).foldlM (fun o y => visitP k y o) o = some r) ∧ Aside0 (Nm w0 wr bm bo bv m o vv))
   case atStart => exact ⟨0, _, _, rfl, ⟨by omega⟩, ⟨by simp⟩, ⟨by simpa using HR.out⟩, ⟨HN.out⟩⟩
   case round =>
    clear HR HN
    obtain ⟨i, o, vv, rfl, HI, HM, HF, HN⟩ := hrel
    by_cases hlt : i < (xs.length : Int)
    rotate_left
    ·have qlt : decide (i < (xs.length : Int)) = false := decide_eq_false hlt
     have he : xs.length ≤ i.toNat := by omega
     have HF' : o = r := by
      have h := HF.out
      rw [List.drop_eq_nil_of_le he] at h
      simpa using h
     subst HF'
     go_wp2_with (fail)
     go_end0
     exact ⟨rfl, vv, HN.out⟩
    have qlt : decide (i < (xs.length : Int)) = true := decide_eq_true hlt
    have hi0 : 0 ≤ i := HI.out.1
    obtain ⟨ad, A3, c3, e_, hx0, hx1, hx2, hx3, hl3, hi3⟩ := at_T26 HX.out i hi0 hlt
    subst e_
    obtain ⟨hcm, hco, hcv, hfo⟩ := HN.out.cells
    replace hx0 := (HN.out.bel.cell (World.block_lt_of_cell? w0 _ hx0)).trans hx0
    replace hx1 := (HN.out.bel.cell (World.block_lt_of_cell? w0 _ hx1)).trans hx1
    replace hx2 := (HN.out.bel.cell (World.block_lt_of_cell? w0 _ hx2)).trans hx2
    replace hx3 := (HN.out.bel.cell (World.block_lt_of_cell? w0 _ hx3)).trans hx3
    have HI3 := Aside0.mk hi3
    have HL3 := Aside0.mk hl3
    clear hi3 hl3
    obtain ⟨y, hy⟩ : ∃ y, rd_T26 xs i = y := ⟨_, rfl⟩
    rw [hy] at hx0 hx1 hx2 hx3 HI3 HL3
    have HF' : Aside0 (∃ o1, visitP k y o = some o1 ∧ (xs.drop (i + 1).toNat).foldlM (fun o y => visitP k y o) o1 = some r) := by
     have hn : i.toNat < xs.length := by omega
     have hd : xs.drop i.toNat = y :: xs.drop (i.toNat + 1) := by
      rw [List.drop_eq_getElem_cons hn]
      congr 1
      rw [← hy]
      simp [rd_T26, List.getD_eq_getElem?_getD, hn]
     have h := HF.out
     rw [hd, List.foldlM_cons] at h
     obtain ⟨o1, h1, h2⟩ := Option.bind_eq_some_iff.mp h
     rw [show (i + 1).toNat = i.toNat + 1 by omega]
     exact ⟨⟨o1, h1, h2⟩⟩
    clear hy HF
    obtain ⟨o1, HV, HF⟩ : ∃ o1, Aside0 (visitP k y o = some o1) ∧ Aside0 ((xs.drop (i + 1).toNat).foldlM (fun o y => visitP k y o) o1 = some r) := by
     obtain ⟨o1, h1, h2⟩ := HF'.out
     exact ⟨o1, ⟨h1⟩, ⟨h2⟩⟩
    clear HF'
    have HV2 : Aside0 (visitP k ⟨y.f0, y.f1, y.f2, y.f3⟩ o = some o1) := ⟨by have h := HV.out; cases y; exact h⟩
    have HLT := Aside0.mk hlt
    have p1 : (0 ≤ i) = True := eq_true hi0
    have p2 : (i < (xs.length : Int)) = True := eq_true hlt
    have HS := Aside0.mk HSZ.out
    have q3 : wrap64 (i + 1) = i + 1 := by
     have := HSZ.out
     simp only [wrap64, IntKind.wrap]
     omega
    clear hlt hi0
    have G6 := Aside0.mk HN.out.bel.size
    go_upto_region 7 with (first | ((with_reducible refine gate_dst (N := 6) rfl ?_); refine alloc26_event rfl 6 rfl rfl ?_; intro b6 wa6 hb_ ha_ hw_; have nHN := Aside0.mk (HN.out.below hw_); have V6 := Aside0.mk ha_; have K6 := Aside0.mk (show w0.heap.size ≤ b6 from Nat.le_trans G6.out (Nat.le_of_eq hb_.symm)); clear HN; have HN := nHN; clear nHN hb_ ha_ hw_) | (refine store26_event rfl 6 (.tmp 36) rfl rfl rfl rfl V6.out ?_; intro ws6 ha_ hw_; have nHN := Aside0.mk (HN.out.wrote V6.out hw_ K6.out); clear V6 HN; have V6 := Aside0.mk ha_; have HN := nHN; clear nHN ha_ hw_))
    clear hx0 hx1 hx2 hx3 hcm hco hcv hfo
    obtain ⟨hcm, hco, hcv, hfo⟩ := HN.out.cells
    obtain ⟨x0, x1, x2, x3⟩ := V6.out.cells
    go_wp2_with (go_at_call 56; (with_reducible refine (IH.out y.f0 y.f1 y.f2 A3 c3 y.f3 o o1 vv _ HV2.out HI3.out HL3.out HN.out).mono ?_); rintro e w' ⟨rfl, v', hN'⟩; have nHN := Aside0.mk hN'; clear HN; have HN := nHN; clear nHN hN')
    go_roundg (xs.length - (i + 1).toNat)
    case measure => have := HM.out; have := HLT.out; have := HI.out; omega
    case rel => exact ⟨i + 1, _, _, by rw [q3], ⟨by have := HI.out; have := HLT.out; omega⟩, ⟨Nat.le_refl _⟩, ⟨HF.out⟩, ⟨HN.out⟩⟩
  | false =>
   rw [hmet, if_neg (by simp)] at h
   by_cases hol : out.length < 8796093022208
   rotate_left
   ·rw [if_neg hol] at h
    simp at h
   rw [if_pos hol] at h
   have HR := Aside0.mk h
   clear h
   have HM0 := Aside0.mk hmet
   have HOL := Aside0.mk hol
   clear hmet hol
   rcases hv with rfl | rfl
   ·have q1 : ((2 : Int) == 2) = true := rfl
    have q2 : ((2 : Int) == 26) = false := rfl
    go_enter Tryd.func56, Tryd.ntmps56
    go_upto_region 1 with ((with_reducible refine gate_dst (N := 4) rfl ?_); refine box_event ?hg (N := 4) ?hd (cs := #[.int .i64 2, .int .i64 a1, .string a2, .slice A xs.length c]) (t := 26) ?hr ?_; (case hd => rfl); (case hg => rfl); (case hr => first | (go_simp; done) | (go_simp; rfl)); intro g4 hg w1 hbox hb; have nHN := Aside0.mk (HN.out.below hb); have B4 := Aside0.mk hbox; have L4 := Aside0.mk hb.size; clear HN; have HN := nHN; clear nHN hb hbox hg)
    have hc4_0 : w1.cell? ⟨g4, 0, none⟩ = some (.int .i64 2) := (blk_cell B4.out 0).trans rfl
    have hc4_1 : w1.cell? ⟨g4, 1, none⟩ = some (.int .i64 a1) := (blk_cell B4.out 1).trans rfl
    have hc4_2 : w1.cell? ⟨g4, 2, none⟩ = some (.string a2) := (blk_cell B4.out 2).trans rfl
    have hc4_3 : w1.cell? ⟨g4, 3, none⟩ = some (.slice A xs.length c) := (blk_cell B4.out 3).trans rfl
    obtain ⟨hcm, hco, hcv, hfo⟩ := HN.out.cells
    have hlook := look HN.out.mm a2 hname
    rw [HM0.out] at hlook
    go_upto_region 2 with (fail)
    clear hlook
    have HN1 := HN
    go_upto_region 3 with (at_mapUpdate; refine wpList_mapUpdate_own _ rfl _ _ _ 77 rfl 9 4 keyed9 Tryd.underlying77 eB m out.length (DM out) rfl HN1.out.mm (by have := HOL.out; unfold maxLen; omega) (.string a2) (.bool true) (keyL a2) rfl rfl (Go.WideMaps.keyOf_string_mk Tryd.underlying9 (by unfold maxLen; omega)) (.lit (.bool true)) [] (eB_b true) ?_; intro w2 hm2 hg2)
    have M2 := HN.out.mid hg2
    have R2 := Aside0.mk M2.1
    have D2 := Aside0.mk M2.2.1
    have E2 := Aside0.mk M2.2.2
    have NG : g4 ≠ m := by
     obtain ⟨es, cl, hm⟩ := HN.out.map_at
     rintro rfl
     have hb := B4.out
     rw [hm] at hb
     simp at hb
    have nB4 := Aside0.mk ((hg2.block g4 (blk_lt B4.out) (by simpa using NG)).trans B4.out)
    have NR : some g4 ≠ v.ownBlock := Kd.R_ne M2.1 nB4.out (by decide)
    have NO : g4 ≠ bo := by
     rintro rfl
     have hb := nB4.out
     rw [D2.out] at hb
     simp at hb
    have oB4 := B4
    clear M2 B4
    have B4 := nB4
    clear nB4 hc4_0 hc4_1 hc4_2 hc4_3 hcm hco hcv hfo
    have hc4_0 : w2.cell? ⟨g4, 0, none⟩ = some (.int .i64 2) := (blk_cell B4.out 0).trans rfl
    have hc4_1 : w2.cell? ⟨g4, 1, none⟩ = some (.int .i64 a1) := (blk_cell B4.out 1).trans rfl
    have hc4_2 : w2.cell? ⟨g4, 2, none⟩ = some (.string a2) := (blk_cell B4.out 2).trans rfl
    have hc4_3 : w2.cell? ⟨g4, 3, none⟩ = some (.slice A xs.length c) := (blk_cell B4.out 3).trans rfl
    have hco : w2.cell? ⟨bo, 0, none⟩ = some v := (blk_cell D2.out 0).trans rfl
    have hm2' := Aside0.mk hm2
    have hg2' := Aside0.mk hg2
    clear hm2 hg2
    (try simp only [Act.put, List.setIfInBounds_toArray, List.set_cons_zero, List.set_cons_succ])
    go_upto_region 4 with ((with_reducible refine gate_builtin (b := .append) (xs := #[.tmp 25, .tmp 28]) rfl ?_); at_builtin; refine Kd.R_append Kd.string (w0 := w0) w0.heap.size rfl (.tmp 25) (.tmp 28) 41 9 (.string ⟨#[]⟩) 16 rfl Tryd.underlying41 info9 rfl (by decide) (by omega) v out a2 [.string a2] (fun _ => True) (fun _ => False) rfl rfl ?aP (fun _ hk => hk.elim) ?aF ?aO ?aB ?aS ?aL ?_; (case aP => exact rfl); (case aF => exact fun _ _ => trivial); (case aO => exact R2.out); (case aB => exact E2.out); (case aS => exact E2.out.size); (case aL => have := HOL.out; omega); intro v3 w3 ho hb hg3 hat; have HN3 := Aside0.mk (HN.out.put hg2'.out hm2'.out ho hb hg3); have D3 := (hg3.block bo (blk_lt D2.out) HN.out.own_ne.2.1).trans D2.out; have hco3 : w3.cell? ⟨bo, 0, none⟩ = some v := (blk_cell D3 0).trans rfl; have hfo3 := blk_frozen D3 0; have B3 := Aside0.mk ((hg3.block g4 (blk_lt B4.out) NR).trans B4.out); obtain ⟨A3v, c3v, rfl⟩ := Kd.R_slice ho; clear ho hb hg3 hat D3)
    have HNf := HN3
    clear HN3 HN hc4_0 hc4_1 hc4_2 hc4_3 hco hco3 hfo3
    simp only [List.length_append, List.length_cons, List.length_nil, Nat.zero_add] at HNf
    have B5 : Aside0 ((w3.setCell ⟨bo, 0, none⟩ (.slice A3v (out.length + 1) c3v)).heap[g4]? = some (.cells #[.int .i64 2, .int .i64 a1, .string a2, .slice A xs.length c] 26 (0, 0))) := ⟨blk_kept B3.out (Kept.setCell (Kept.refl w3 (fun k => k = bo)) (p := ⟨bo, 0, none⟩) (.inl rfl) _) NO⟩
    clear B3 B4
    have B4 := B5
    clear B5
    generalize w3.setCell ⟨bo, 0, none⟩ (.slice A3v (out.length + 1) c3v) = w4 at *
    have HN := HNf
    clear HNf
    have hc4_0 : w4.cell? ⟨g4, 0, none⟩ = some (.int .i64 2) := (blk_cell B4.out 0).trans rfl
    have hc4_1 : w4.cell? ⟨g4, 1, none⟩ = some (.int .i64 a1) := (blk_cell B4.out 1).trans rfl
    have hc4_2 : w4.cell? ⟨g4, 2, none⟩ = some (.string a2) := (blk_cell B4.out 2).trans rfl
    have hc4_3 : w4.cell? ⟨g4, 3, none⟩ = some (.slice A xs.length c) := (blk_cell B4.out 3).trans rfl
    obtain ⟨hcm, hco, hcv, hfo⟩ := HN.out.cells
    go_wp2_with (fail)
    clear hc4_0 hc4_1 hc4_2 hc4_3 hcm hco hcv hfo
    go_loopg [33] xs.length (fun kq v33 wr => ∃ (i : Int) (o : List ByteArray) (vv : Value), v33 = .int .i64 i ∧ Aside0 (0 ≤ i ∧ i ≤ xs.length) ∧ Aside0 (xs.length - i.toNat ≤ kq) ∧ Aside0 ((xs.drop i.toNat).foldlM (fun o y => visitP k y o) o = some r) ∧ Aside0 (Nm w0 wr bm bo bv m o vv))
    case atStart => exact ⟨0, _, _, rfl, ⟨by omega⟩, ⟨by simp⟩, ⟨by simpa using HR.out⟩, ⟨HN.out⟩⟩
    case round =>
     clear HR HN
     obtain ⟨i, o, vv, rfl, HI, HM, HF, HN⟩ := hrel
     by_cases hlt : i < (xs.length : Int)
     rotate_left
     ·have qlt : decide (i < (xs.length : Int)) = false := decide_eq_false hlt
      have he : xs.length ≤ i.toNat := by omega
      have HF' : o = r := by
       have h := HF.out
       rw [List.drop_eq_nil_of_le he] at h
       simpa using h
      subst HF'
      go_wp2_with (fail)
      go_end0
      exact ⟨rfl, vv, HN.out⟩
     have qlt : decide (i < (xs.length : Int)) = true := decide_eq_true hlt
     have hi0 : 0 ≤ i := HI.out.1
     obtain ⟨ad, A3, c3, e_, hx0, hx1, hx2, hx3, hl3, hi3⟩ := at_T26 HX.out i hi0 hlt
     subst e_
     obtain ⟨hcm, hco, hcv, hfo⟩ := HN.out.cells
     replace hx0 := (HN.out.bel.cell (World.block_lt_of_cell? w0 _ hx0)).trans hx0
     replace hx1 := (HN.out.bel.cell (World.block_lt_of_cell? w0 _ hx1)).trans hx1
     replace hx2 := (HN.out.bel.cell (World.block_lt_of_cell? w0 _ hx2)).trans hx2
     replace hx3 := (HN.out.bel.cell (World.block_lt_of_cell? w0 _ hx3)).trans hx3
     have HI3 := Aside0.mk hi3
     have HL3 := Aside0.mk hl3
     clear hi3 hl3
     obtain ⟨y, hy⟩ : ∃ y, rd_T26 xs i = y := ⟨_, rfl⟩
     rw [hy] at hx0 hx1 hx2 hx3 HI3 HL3
     have HF' : Aside0 (∃ o1, visitP k y o = some o1 ∧ (xs.drop (i + 1).toNat).foldlM (fun o y => visitP k y o) o1 = some r) := by
      have hn : i.toNat < xs.length := by omega
      have hd : xs.drop i.toNat = y :: xs.drop (i.toNat + 1) := by
       rw [List.drop_eq_getElem_cons hn]
       congr 1
       rw [← hy]
       simp [rd_T26, List.getD_eq_getElem?_getD, hn]
      have h := HF.out
      rw [hd, List.foldlM_cons] at h
      obtain ⟨o1, h1, h2⟩ := Option.bind_eq_some_iff.mp h
      rw [show (i + 1).toNat = i.toNat + 1 by omega]
      exact ⟨⟨o1, h1, h2⟩⟩
     clear hy HF
     obtain ⟨o1, HV, HF⟩ : ∃ o1, Aside0 (visitP k y o = some o1) ∧ Aside0 ((xs.drop (i + 1).toNat).foldlM (fun o y => visitP k y o) o1 = some r) := by
      obtain ⟨o1, h1, h2⟩ := HF'.out
      exact ⟨o1, ⟨h1⟩, ⟨h2⟩⟩
     clear HF'
     have HV2 : Aside0 (visitP k ⟨y.f0, y.f1, y.f2, y.f3⟩ o = some o1) := ⟨by have h := HV.out; cases y; exact h⟩
     have HLT := Aside0.mk hlt
     have p1 : (0 ≤ i) = True := eq_true hi0
     have p2 : (i < (xs.length : Int)) = True := eq_true hlt
     have HS := Aside0.mk HSZ.out
     have q3 : wrap64 (i + 1) = i + 1 := by
      have := HSZ.out
      simp only [wrap64, IntKind.wrap]
      omega
     clear hlt hi0
     have G6 := Aside0.mk HN.out.bel.size
     go_upto_region 7 with (first | ((with_reducible refine gate_dst (N := 6) rfl ?_); refine alloc26_event rfl 6 rfl rfl ?_; intro b6 wa6 hb_ ha_ hw_; have nHN := Aside0.mk (HN.out.below hw_); have V6 := Aside0.mk ha_; have K6 := Aside0.mk (show w0.heap.size ≤ b6 from Nat.le_trans G6.out (Nat.le_of_eq hb_.symm)); clear HN; have HN := nHN; clear nHN hb_ ha_ hw_) | (refine store26_event rfl 6 (.tmp 36) rfl rfl rfl rfl V6.out ?_; intro ws6 ha_ hw_; have nHN := Aside0.mk (HN.out.wrote V6.out hw_ K6.out); clear V6 HN; have V6 := Aside0.mk ha_; have HN := nHN; clear nHN ha_ hw_))
     clear hx0 hx1 hx2 hx3 hcm hco hcv hfo
     obtain ⟨hcm, hco, hcv, hfo⟩ := HN.out.cells
     obtain ⟨x0, x1, x2, x3⟩ := V6.out.cells
     go_wp2_with (go_at_call 56; (with_reducible refine (IH.out y.f0 y.f1 y.f2 A3 c3 y.f3 o o1 vv _ HV2.out HI3.out HL3.out HN.out).mono ?_); rintro e w' ⟨rfl, v', hN'⟩; have nHN := Aside0.mk hN'; clear HN; have HN := nHN; clear nHN hN')
     go_roundg (xs.length - (i + 1).toNat)
     case measure => have := HM.out; have := HLT.out; have := HI.out; omega
     case rel => exact ⟨i + 1, _, _, by rw [q3], ⟨by have := HI.out; have := HLT.out; omega⟩, ⟨Nat.le_refl _⟩, ⟨HF.out⟩, ⟨HN.out⟩⟩
   have q1 : ((26 : Int) == 2) = false := rfl
   have q2 : ((26 : Int) == 26) = true := rfl
   go_enter Tryd.func56, Tryd.ntmps56
   go_upto_region 1 with ((with_reducible refine gate_dst (N := 4) rfl ?_); refine box_event ?hg (N := 4) ?hd (cs := #[.int .i64 26, .int .i64 a1, .string a2, .slice A xs.length c]) (t := 26) ?hr ?_; (case hd => rfl); (case hg => rfl); (case hr => first | (go_simp; done) | (go_simp; rfl)); intro g4 hg w1 hbox hb; have nHN := Aside0.mk (HN.out.below hb); have B4 := Aside0.mk hbox; have L4 := Aside0.mk hb.size; clear HN; have HN := nHN; clear nHN hb hbox hg)
   have hc4_0 : w1.cell? ⟨g4, 0, none⟩ = some (.int .i64 26) := (blk_cell B4.out 0).trans rfl
   have hc4_1 : w1.cell? ⟨g4, 1, none⟩ = some (.int .i64 a1) := (blk_cell B4.out 1).trans rfl
   have hc4_2 : w1.cell? ⟨g4, 2, none⟩ = some (.string a2) := (blk_cell B4.out 2).trans rfl
   have hc4_3 : w1.cell? ⟨g4, 3, none⟩ = some (.slice A xs.length c) := (blk_cell B4.out 3).trans rfl
   obtain ⟨hcm, hco, hcv, hfo⟩ := HN.out.cells
   have hlook := look HN.out.mm a2 hname
   rw [HM0.out] at hlook
   go_upto_region 2 with (fail)
   clear hlook
   have HN1 := HN
   go_upto_region 3 with (at_mapUpdate; refine wpList_mapUpdate_own _ rfl _ _ _ 77 rfl 9 4 keyed9 Tryd.underlying77 eB m out.length (DM out) rfl HN1.out.mm (by have := HOL.out; unfold maxLen; omega) (.string a2) (.bool true) (keyL a2) rfl rfl (Go.WideMaps.keyOf_string_mk Tryd.underlying9 (by unfold maxLen; omega)) (.lit (.bool true)) [] (eB_b true) ?_; intro w2 hm2 hg2)
   have M2 := HN.out.mid hg2
   have R2 := Aside0.mk M2.1
   have D2 := Aside0.mk M2.2.1
   have E2 := Aside0.mk M2.2.2
   have NG : g4 ≠ m := by
    obtain ⟨es, cl, hm⟩ := HN.out.map_at
    rintro rfl
    have hb := B4.out
    rw [hm] at hb
    simp at hb
   have nB4 := Aside0.mk ((hg2.block g4 (blk_lt B4.out) (by simpa using NG)).trans B4.out)
   have NR : some g4 ≠ v.ownBlock := Kd.R_ne M2.1 nB4.out (by decide)
   have NO : g4 ≠ bo := by
    rintro rfl
    have hb := nB4.out
    rw [D2.out] at hb
    simp at hb
   have oB4 := B4
   clear M2 B4
   have B4 := nB4
   clear nB4 hc4_0 hc4_1 hc4_2 hc4_3 hcm hco hcv hfo
   have hc4_0 : w2.cell? ⟨g4, 0, none⟩ = some (.int .i64 26) := (blk_cell B4.out 0).trans rfl
   have hc4_1 : w2.cell? ⟨g4, 1, none⟩ = some (.int .i64 a1) := (blk_cell B4.out 1).trans rfl
   have hc4_2 : w2.cell? ⟨g4, 2, none⟩ = some (.string a2) := (blk_cell B4.out 2).trans rfl
   have hc4_3 : w2.cell? ⟨g4, 3, none⟩ = some (.slice A xs.length c) := (blk_cell B4.out 3).trans rfl
   have hco : w2.cell? ⟨bo, 0, none⟩ = some v := (blk_cell D2.out 0).trans rfl
   have hm2' := Aside0.mk hm2
   have hg2' := Aside0.mk hg2
   clear hm2 hg2
   (try simp only [Act.put, List.setIfInBounds_toArray, List.set_cons_zero, List.set_cons_succ])
   go_upto_region 4 with ((with_reducible refine gate_builtin (b := .append) (xs := #[.tmp 25, .tmp 28]) rfl ?_); at_builtin; refine Kd.R_append Kd.string (w0 := w0) w0.heap.size rfl (.tmp 25) (.tmp 28) 41 9 (.string ⟨#[]⟩) 16 rfl Tryd.underlying41 info9 rfl (by decide) (by omega) v out a2 [.string a2] (fun _ => True) (fun _ => False) rfl rfl ?aP (fun _ hk => hk.elim) ?aF ?aO ?aB ?aS ?aL ?_; (case aP => exact rfl); (case aF => exact fun _ _ => trivial); (case aO => exact R2.out); (case aB => exact E2.out); (case aS => exact E2.out.size); (case aL => have := HOL.out; omega); intro v3 w3 ho hb hg3 hat; have HN3 := Aside0.mk (HN.out.put hg2'.out hm2'.out ho hb hg3); have D3 := (hg3.block bo (blk_lt D2.out) HN.out.own_ne.2.1).trans D2.out; have hco3 : w3.cell? ⟨bo, 0, none⟩ = some v := (blk_cell D3 0).trans rfl; have hfo3 := blk_frozen D3 0; have B3 := Aside0.mk ((hg3.block g4 (blk_lt B4.out) NR).trans B4.out); obtain ⟨A3v, c3v, rfl⟩ := Kd.R_slice ho; clear ho hb hg3 hat D3)
   have HNf := HN3
   clear HN3 HN hc4_0 hc4_1 hc4_2 hc4_3 hco hco3 hfo3
   simp only [List.length_append, List.length_cons, List.length_nil, Nat.zero_add] at HNf
   have B5 : Aside0 ((w3.setCell ⟨bo, 0, none⟩ (.slice A3v (out.length + 1) c3v)).heap[g4]? = some (.cells #[.int .i64 26, .int .i64 a1, .string a2, .slice A xs.length c] 26 (0, 0))) := ⟨blk_kept B3.out (Kept.setCell (Kept.refl w3 (fun k => k = bo)) (p := ⟨bo, 0, none⟩) (.inl rfl) _) NO⟩
   clear B3 B4
   have B4 := B5
   clear B5
   generalize w3.setCell ⟨bo, 0, none⟩ (.slice A3v (out.length + 1) c3v) = w4 at *
   have HN := HNf
   clear HNf
   have hc4_0 : w4.cell? ⟨g4, 0, none⟩ = some (.int .i64 26) := (blk_cell B4.out 0).trans rfl
   have hc4_1 : w4.cell? ⟨g4, 1, none⟩ = some (.int .i64 a1) := (blk_cell B4.out 1).trans rfl
   have hc4_2 : w4.cell? ⟨g4, 2, none⟩ = some (.string a2) := (blk_cell B4.out 2).trans rfl
   have hc4_3 : w4.cell? ⟨g4, 3, none⟩ = some (.slice A xs.length c) := (blk_cell B4.out 3).trans rfl
   obtain ⟨hcm, hco, hcv, hfo⟩ := HN.out.cells
   go_wp2_with (fail)
   clear hc4_0 hc4_1 hc4_2 hc4_3 hcm hco hcv hfo
   go_loopg [33] xs.length (fun kq v33 wr => ∃ (i : Int) (o : List ByteArray) (vv : Value), v33 = .int .i64 i ∧ Aside0 (0 ≤ i ∧ i ≤ xs.length) ∧ Aside0 (xs.length - i.toNat ≤ kq) ∧ Aside0 ((xs.drop i.toNat).foldlM (fun o y => visitP k y o) o = some r) ∧ Aside0 (Nm w0 wr bm bo bv m o vv))
   case atStart => exact ⟨0, _, _, rfl, ⟨by omega⟩, ⟨by simp⟩, ⟨by simpa using HR.out⟩, ⟨HN.out⟩⟩
   case round =>
    clear HR HN
    obtain ⟨i, o, vv, rfl, HI, HM, HF, HN⟩ := hrel
    by_cases hlt : i < (xs.length : Int)
    rotate_left
    ·have qlt : decide (i < (xs.length : Int)) = false := decide_eq_false hlt
     have he : xs.length ≤ i.toNat := by omega
     have HF' : o = r := by
      have h := HF.out
      rw [List.drop_eq_nil_of_le he] at h
      simpa using h
     subst HF'
     go_wp2_with (fail)
     go_end0
     exact ⟨rfl, vv, HN.out⟩
    have qlt : decide (i < (xs.length : Int)) = true := decide_eq_true hlt
    have hi0 : 0 ≤ i := HI.out.1
    obtain ⟨ad, A3, c3, e_, hx0, hx1, hx2, hx3, hl3, hi3⟩ := at_T26 HX.out i hi0 hlt
    subst e_
    obtain ⟨hcm, hco, hcv, hfo⟩ := HN.out.cells
    replace hx0 := (HN.out.bel.cell (World.block_lt_of_cell? w0 _ hx0)).trans hx0
    replace hx1 := (HN.out.bel.cell (World.block_lt_of_cell? w0 _ hx1)).trans hx1
    replace hx2 := (HN.out.bel.cell (World.block_lt_of_cell? w0 _ hx2)).trans hx2
    replace hx3 := (HN.out.bel.cell (World.block_lt_of_cell? w0 _ hx3)).trans hx3
    have HI3 := Aside0.mk hi3
    have HL3 := Aside0.mk hl3
    clear hi3 hl3
    obtain ⟨y, hy⟩ : ∃ y, rd_T26 xs i = y := ⟨_, rfl⟩
    rw [hy] at hx0 hx1 hx2 hx3 HI3 HL3
    have HF' : Aside0 (∃ o1, visitP k y o = some o1 ∧ (xs.drop (i + 1).toNat).foldlM (fun o y => visitP k y o) o1 = some r) := by
     have hn : i.toNat < xs.length := by omega
     have hd : xs.drop i.toNat = y :: xs.drop (i.toNat + 1) := by
      rw [List.drop_eq_getElem_cons hn]
      congr 1
      rw [← hy]
      simp [rd_T26, List.getD_eq_getElem?_getD, hn]
     have h := HF.out
     rw [hd, List.foldlM_cons] at h
     obtain ⟨o1, h1, h2⟩ := Option.bind_eq_some_iff.mp h
     rw [show (i + 1).toNat = i.toNat + 1 by omega]
     exact ⟨⟨o1, h1, h2⟩⟩
    clear hy HF
    obtain ⟨o1, HV, HF⟩ : ∃ o1, Aside0 (visitP k y o = some o1) ∧ Aside0 ((xs.drop (i + 1).toNat).foldlM (fun o y => visitP k y o) o1 = some r) := by
     obtain ⟨o1, h1, h2⟩ := HF'.out
     exact ⟨o1, ⟨h1⟩, ⟨h2⟩⟩
    clear HF'
    have HV2 : Aside0 (visitP k ⟨y.f0, y.f1, y.f2, y.f3⟩ o = some o1) := ⟨by have h := HV.out; cases y; exact h⟩
    have HLT := Aside0.mk hlt
    have p1 : (0 ≤ i) = True := eq_true hi0
    have p2 : (i < (xs.length : Int)) = True := eq_true hlt
    have HS := Aside0.mk HSZ.out
    have q3 : wrap64 (i + 1) = i + 1 := by
     have := HSZ.out
     simp only [wrap64, IntKind.wrap]
     omega
    clear hlt hi0
    have G6 := Aside0.mk HN.out.bel.size
    go_upto_region 7 with (first | ((with_reducible refine gate_dst (N := 6) rfl ?_); refine alloc26_event rfl 6 rfl rfl ?_; intro b6 wa6 hb_ ha_ hw_; have nHN := Aside0.mk (HN.out.below hw_); have V6 := Aside0.mk ha_; have K6 := Aside0.mk (show w0.heap.size ≤ b6 from Nat.le_trans G6.out (Nat.le_of_eq hb_.symm)); clear HN; have HN := nHN; clear nHN hb_ ha_ hw_) | (refine store26_event rfl 6 (.tmp 36) rfl rfl rfl rfl V6.out ?_; intro ws6 ha_ hw_; have nHN := Aside0.mk (HN.out.wrote V6.out hw_ K6.out); clear V6 HN; have V6 := Aside0.mk ha_; have HN := nHN; clear nHN ha_ hw_))
    clear hx0 hx1 hx2 hx3 hcm hco hcv hfo
    obtain ⟨hcm, hco, hcv, hfo⟩ := HN.out.cells
    obtain ⟨x0, x1, x2, x3⟩ := V6.out.cells
    go_wp2_with (go_at_call 56; (with_reducible refine (IH.out y.f0 y.f1 y.f2 A3 c3 y.f3 o o1 vv _ HV2.out HI3.out HL3.out HN.out).mono ?_); rintro e w' ⟨rfl, v', hN'⟩; have nHN := Aside0.mk hN'; clear HN; have HN := nHN; clear nHN hN')
    go_roundg (xs.length - (i + 1).toNat)
    case measure => have := HM.out; have := HLT.out; have := HI.out; omega
    case rel => exact ⟨i + 1, _, _, by rw [q3], ⟨by have := HI.out; have := HLT.out; omega⟩, ⟨Nat.le_refl _⟩, ⟨HF.out⟩, ⟨HN.out⟩⟩
set_option maxRecDepth 100000 in
set_option maxHeartbeats 4000000 in
theorem names_walk (k : Nat) (a0 a1 : Int) (a2 : ByteArray) (A : Option Addr) (c : Nat) (xs : List S26) (r : List ByteArray) (w : World) (hr0 : Kd.C k26 w A xs.length xs) (hc0 : xs.length ≤ c) (h : visitP k ⟨a0, a1, a2, xs⟩ [] = some r) :
 Calls Tryd.prog 26 #[.agg #[.int .i64 a0, .int .i64 a1, .string a2, .slice A xs.length c]] w fun e w' => ∃ v0_ : Value, e = .returned (v0_) ∧ Kd.R Kd.string 9 w' w.heap.size (fun _ => True) v0_ r ∧ Below w.heap.size w w' := by
 have hmf : ∀ (fn : Fn) (first cap : Array Value) (w : World), (Instr.makeFunc fn first cap).run Tryd.prog w = .ok (.func fn first cap) w := fun _ _ _ _ => rfl
 have hmk : ∀ W : World, (Instr.makeMap 77 none).run Tryd.prog W = .ok (.map (some W.heap.size)) (W.alloc (.map #[] 0)) := fun W => by rfl
 have hu26 := Tryd.underlying26
 have hu77 := Tryd.underlying77
 have hu78 := Tryd.underlying78
 have hu41 := Tryd.underlying41
 have HX := Aside0.mk hr0
 have HC := Aside0.mk hc0
 have HV := Aside0.mk h
 clear hr0 hc0 h
 go_enter Tryd.func26, Tryd.ntmps26
 go_upto_region 4 with ((with_reducible refine gate_dst (N := 1) rfl ?_); refine box_event ?hg (N := 1) ?hd (cs := #[.int .i64 a0, .int .i64 a1, .string a2, .slice A xs.length c]) (t := 26) ?hr ?_; (case hd => rfl); (case hg => rfl); (case hr => first | (go_simp; done) | (go_simp; rfl)); intro g1 hg w1 hbox hb; have B1 := Aside0.mk hbox; have HB := Aside0.mk hb; have HG := Aside0.mk hg; clear hb hbox hg)
 obtain ⟨bo, hbo⟩ : ∃ bo, w1.heap.size = bo := ⟨_, rfl⟩
 obtain ⟨m, hm⟩ : ∃ m, bo + 1 = m := ⟨_, rfl⟩
 obtain ⟨bm, hbm⟩ : ∃ bm, m + 1 = bm := ⟨_, rfl⟩
 obtain ⟨bv, hbv⟩ : ∃ bv, bm + 1 = bv := ⟨_, rfl⟩
 rw [hbo, hm, hbm, hbv]
 have F : Aside0 (∃ W : World, W = (((w1.alloc (.cells #[.slice none 0 0] 41)).alloc (.map #[] 0)).alloc (.cells #[.map (some m)] 77)).alloc (.cells #[.nilFunc] 78) ∧ W.heap[bo]? = some (.cells #[.slice none 0 0] 41 (0, 0)) ∧ W.ownsMap Tryd.prog 9 eB m 0 (.map []) ∧ W.heap[bm]? = some (.cells #[.map (some m)] 77 (0, 0)) ∧ W.heap[bv]? = some (.cells #[.nilFunc] 78 (0, 0)) ∧ Below w1.heap.size w1 W ∧ W.heap[g1]? = some (.cells #[.int .i64 a0, .int .i64 a1, .string a2, .slice A xs.length c] 26 (0, 0))) := by
  have e1 : (w1.alloc (.cells #[.slice none 0 0] 41)).heap[bo]? = some (.cells #[.slice none 0 0] 41 (0, 0)) := by rw [← hbo]; exact heap_alloc_new w1 _
  have s1 : (w1.alloc (.cells #[.slice none 0 0] 41)).heap.size = m := by simp [hbo, hm]
  have b1 : Below w1.heap.size w1 (w1.alloc (.cells #[.slice none 0 0] 41)) := below_alloc (Below.refl _ _) _
  generalize w1.alloc (.cells #[.slice none 0 0] 41) = W1 at *
  have e2 : (W1.alloc (.map #[] 0)).ownsMap Tryd.prog 9 eB m 0 (.map []) := by rw [← s1]; exact World.ownsMap_made W1 Tryd.prog 9 eB
  have s2 : (W1.alloc (.map #[] 0)).heap.size = bm := by simp [s1, hbm]
  have b2 : Below W1.heap.size W1 (W1.alloc (.map #[] 0)) := below_alloc (Below.refl _ _) _
  generalize W1.alloc (.map #[] 0) = W2 at *
  have e3 : (W2.alloc (.cells #[.map (some m)] 77)).heap[bm]? = some (.cells #[.map (some m)] 77 (0, 0)) := by rw [← s2]; exact heap_alloc_new W2 _
  have s3 : (W2.alloc (.cells #[.map (some m)] 77)).heap.size = bv := by simp [s2, hbv]
  have b3 : Below W2.heap.size W2 (W2.alloc (.cells #[.map (some m)] 77)) := below_alloc (Below.refl _ _) _
  generalize W2.alloc (.cells #[.map (some m)] 77) = W3 at *
  have e4 : (W3.alloc (.cells #[.nilFunc] 78)).heap[bv]? = some (.cells #[.nilFunc] 78 (0, 0)) := by rw [← s3]; exact heap_alloc_new W3 _
  have b4 : Below W3.heap.size W3 (W3.alloc (.cells #[.nilFunc] 78)) := below_alloc (Below.refl _ _) _
  have b34 := below_then b3 b3.size b4
  have b24 := below_then b2 b2.size b34
  have b14 := below_then b1 b1.size b24
  exact ⟨⟨_, rfl, (b24.block bo (blk_lt e1)).trans e1, (e2.kept (grown_of_below b34 none) (by simp)), (b4.block bm (blk_lt e3)).trans e3, e4, b14, (b14.block g1 (blk_lt B1.out)).trans B1.out⟩⟩
 obtain ⟨W, hW, E1, E2, E3, E4, E5, E6⟩ := F.out
 rw [← hW]
 clear F hW B1
 have l1 := blk_lt E6
 have lw := HB.out.size
 have lg := HG.out
 have lz := E5.size
 have HBW := Aside0.mk (below_then HB.out HB.out.size E5)
 have hcv0 : W.cell? ⟨bv, 0, none⟩ = some .nilFunc := (blk_cell E4 0).trans rfl
 have hfv0 := blk_frozen E4 0
 have E1' := Aside0.mk E1
 have E2' := Aside0.mk E2
 have E3' := Aside0.mk E3
 have E4' := Aside0.mk E4
 have E6' := Aside0.mk E6
 have nums := Aside0.mk (And.intro hbo (And.intro hm (And.intro hbm (And.intro hbv (And.intro lw (And.intro lg lz))))))
 clear E1 E2 E3 E4 E5 E6 hbo hm hbm hbv l1 lw lg lz
 have hst : (store ⟨bv, 0, none⟩ (.func (.func 56) #[] #[.pointer (some ⟨bm, 0, none⟩), .pointer (some ⟨bo, 0, none⟩), .pointer (some ⟨bv, 0, none⟩)])).run Tryd.prog W = .ok () (W.setCell ⟨bv, 0, none⟩ (.func (.func 56) #[] #[.pointer (some ⟨bm, 0, none⟩), .pointer (some ⟨bo, 0, none⟩), .pointer (some ⟨bv, 0, none⟩)])) := by
  rw [run_store Tryd.prog W _ _ _ rfl, hcv0]
  simp [hfv0]
 go_upto_region 5 with (fail)
 clear hst hcv0 hfv0
 have HN : Aside0 (Nm w (W.setCell ⟨bv, 0, none⟩ (.func (.func 56) #[] #[.pointer (some ⟨bm, 0, none⟩), .pointer (some ⟨bo, 0, none⟩), .pointer (some ⟨bv, 0, none⟩)])) bm bo bv m [] (.slice none 0 0)) := by
  have hk : Kept W (W.setCell ⟨bv, 0, none⟩ (.func (.func 56) #[] #[.pointer (some ⟨bm, 0, none⟩), .pointer (some ⟨bo, 0, none⟩), .pointer (some ⟨bv, 0, none⟩)])) (fun k => k = bv) := Kept.setCell (Kept.refl W (fun k => k = bv)) (p := ⟨bv, 0, none⟩) (.inl rfl) _
  have hz := nums.out
  exact ⟨⟨blk_kept E3'.out hk (by omega), blk_kept E1'.out hk (by omega), blk_put E4'.out 0 _ rfl, E2'.out.setCell (a := ⟨bv, 0, none⟩) (by show m ≠ bv; omega) _, Kd.R_nil _ _ _ _ _, Below.setCell HBW.out (p := ⟨bv, 0, none⟩) (by show w.heap.size ≤ bv; omega) _, by omega, by omega, by omega, by omega⟩⟩
 have B1 : Aside0 ((W.setCell ⟨bv, 0, none⟩ (.func (.func 56) #[] #[.pointer (some ⟨bm, 0, none⟩), .pointer (some ⟨bo, 0, none⟩), .pointer (some ⟨bv, 0, none⟩)])).heap[g1]? = some (.cells #[.int .i64 a0, .int .i64 a1, .string a2, .slice A xs.length c] 26 (0, 0))) := by
  have hk : Kept W (W.setCell ⟨bv, 0, none⟩ (.func (.func 56) #[] #[.pointer (some ⟨bm, 0, none⟩), .pointer (some ⟨bo, 0, none⟩), .pointer (some ⟨bv, 0, none⟩)])) (fun k => k = bv) := Kept.setCell (Kept.refl W (fun k => k = bv)) (p := ⟨bv, 0, none⟩) (.inl rfl) _
  refine ⟨blk_kept E6'.out hk ?_⟩
  rintro rfl
  have h1 := E6'.out
  rw [E4'.out] at h1
  simp at h1
 generalize W.setCell ⟨bv, 0, none⟩ (.func (.func 56) #[] #[.pointer (some ⟨bm, 0, none⟩), .pointer (some ⟨bo, 0, none⟩), .pointer (some ⟨bv, 0, none⟩)]) = W5 at *
 obtain ⟨hcm, hco, hcv, hfo⟩ := HN.out.cells
 have hc1_0 : W5.cell? ⟨g1, 0, none⟩ = some (.int .i64 a0) := (blk_cell B1.out 0).trans rfl
 have hc1_1 : W5.cell? ⟨g1, 1, none⟩ = some (.int .i64 a1) := (blk_cell B1.out 1).trans rfl
 have hc1_2 : W5.cell? ⟨g1, 2, none⟩ = some (.string a2) := (blk_cell B1.out 2).trans rfl
 have hc1_3 : W5.cell? ⟨g1, 3, none⟩ = some (.slice A xs.length c) := (blk_cell B1.out 3).trans rfl
 go_upto_region 6 with (go_at_call 56; (with_reducible refine (visit_calls w bm bo bv m k a0 a1 a2 A c xs [] r _ _ HV.out HX.out HC.out HN.out).mono ?_); rintro e w' ⟨rfl, v', hN'⟩; have HN' := Aside0.mk hN'; clear hN')
 clear hcm hco hcv hfo hc1_0 hc1_1 hc1_2 hc1_3
 obtain ⟨hcm, hco, hcv, hfo⟩ := HN'.out.cells
 obtain ⟨A9, c9, rfl⟩ := Kd.R_slice HN'.out.row
 go_wp2_with (fail)
 go_ret
 exact ⟨_, rfl, HN'.out.row, HN'.out.bel⟩
def arith_Names.f (k : Nat) (a0_0 a0_1 : Int) (a0_2 : ByteArray) (l0_3 : List S26) : Option (List ByteArray) := visitP k ⟨a0_0, a0_1, a0_2, l0_3⟩ []
theorem arith_Names.mono (a0 a1 : Int) (a2 : ByteArray) (a3 : List S26) (k : Nat) : LeO (arith_Names.f k a0 a1 a2 a3) (arith_Names.f (k + 1) a0 a1 a2 a3) := fun r h => visitP_mono k _ _ r h
theorem arith_Names.calls (k : Nat) : ∀ (a0_0 : Int) (a0_1 : Int) (a0_2 : ByteArray) (A0_3 : Option Addr) (c0_3 : Nat) (l0_3 : List (S26)) (r : List ByteArray) (w : World) (hr0_3 : Kd.C k26 w A0_3 l0_3.length l0_3) (hc0_3 : l0_3.length ≤ c0_3) (h : arith_Names.f k a0_0 a0_1 a0_2 l0_3 = some r),
 Calls Tryd.prog 26 #[.agg #[.int .i64 a0_0, .int .i64 a0_1, .string a0_2, .slice A0_3 l0_3.length c0_3]] w fun e w' => ∃ v0_ : Value, e = .returned (v0_) ∧ Kd.R Kd.string 9 w' w.heap.size (fun _ => True) v0_ r ∧ Below w.heap.size w w' :=
 fun a0 a1 a2 A c l r w hr hc h => names_walk k a0 a1 a2 A c l r w hr hc h
end Go.Proofs.YtglmdfddgmkmaaaDoor.Q
end
section
namespace Go.Proofs.YtglmdfddgmkmaaaDoor.Q
open Go.RowKit Go.Proofs.YtglmdfddgmkmaaaDoorW.PrintWords Go.Proofs.YtglmdfddgmkmaaaDoorW.PrintLast Go.Proofs.YtglmdfddgmkmaaaDoorW.PrintMore
attribute [local go_sem] max2_int min2_int max_two min_two max_three min_three max_four min_four
set_option linter.unusedVariables false
set_option linter.unusedSimpArgs false
mutual
def arith_Same.j0 : Nat → Bool → Int → Int → ByteArray → List (S26) → Int → Int → ByteArray → List (S26) → Option (Bool)
 | 0, _, _, _, _, _, _, _, _, _ => none
 | k + 1, x33, x135000, x135001, x135002, x135003, x136000, x136001, x136002, x136003 => if x33 = true then (some false) else (arith_Same.l0 k (x135003.length : Int) 0 x135000 x135001 x135002 x135003 x136000 x136001 x136002 x136003)
def arith_Same.l0 : Nat → Int → Int → Int → Int → ByteArray → List (S26) → Int → Int → ByteArray → List (S26) → Option (Bool)
 | 0, _, _, _, _, _, _, _, _, _, _ => none
 | k + 1, x36, x37, x135000, x135001, x135002, x135003, x136000, x136001, x136002, x136003 => if x37 < x36 then (if 0 ≤ x37 then (if x37 < (x135003.length : Int) then (if x37 < (x136003.length : Int) then ((arith_Same.f k ((rd_T26 x135003 x37).f0) ((rd_T26 x135003 x37).f1) ((rd_T26 x135003 x37).f2) ((rd_T26 x135003 x37).f3) ((rd_T26 x136003 x37).f0) ((rd_T26 x136003 x37).f1) ((rd_T26 x136003 x37).f2) ((rd_T26 x136003 x37).f3)).bind fun t138 => (if t138 = true then (arith_Same.l0 k x36 (wrap64 (x37 + 1)) x135000 x135001 x135002 x135003 x136000 x136001 x136002 x136003) else (some false))) else (none)) else (none)) else (none)) else (some true)
def arith_Same.f : Nat → Int → Int → ByteArray → List (S26) → Int → Int → ByteArray → List (S26) → Option (Bool)
 | 0, _, _, _, _, _, _, _, _ => none
 | k + 1, a0_0, a0_1, a0_2, l0_3, a1_0, a1_1, a1_2, l1_3 => if a0_0 = a1_0 then (if a0_1 = a1_1 then (if a0_2.toList = a1_2.toList then (arith_Same.j0 k ((l0_3.length : Int) != (l1_3.length : Int)) a0_0 a0_1 a0_2 l0_3 a1_0 a1_1 a1_2 l1_3) else (arith_Same.j0 k true a0_0 a0_1 a0_2 l0_3 a1_0 a1_1 a1_2 l1_3)) else (arith_Same.j0 k true a0_0 a0_1 a0_2 l0_3 a1_0 a1_1 a1_2 l1_3)) else (arith_Same.j0 k true a0_0 a0_1 a0_2 l0_3 a1_0 a1_1 a1_2 l1_3)
end
theorem arith_Same.mono_l : ∀ k, (∀ y0 y1 y2 y3 y4 y5 y6 y7, LeO (arith_Same.f k y0 y1 y2 y3 y4 y5 y6 y7) (arith_Same.f (k + 1) y0 y1 y2 y3 y4 y5 y6 y7)) ∧ (∀ y0 y1 y2 y3 y4 y5 y6 y7 y8, LeO (arith_Same.j0 k y0 y1 y2 y3 y4 y5 y6 y7 y8) (arith_Same.j0 (k + 1) y0 y1 y2 y3 y4 y5 y6 y7 y8)) ∧ (∀ y0 y1 y2 y3 y4 y5 y6 y7 y8 y9, LeO (arith_Same.l0 k y0 y1 y2 y3 y4 y5 y6 y7 y8 y9) (arith_Same.l0 (k + 1) y0 y1 y2 y3 y4 y5 y6 y7 y8 y9))
 | 0 => ⟨fun _ _ _ _ _ _ _ _ r h => by simp [arith_Same.f] at h, fun _ _ _ _ _ _ _ _ _ r h => by simp [arith_Same.j0] at h, fun _ _ _ _ _ _ _ _ _ _ r h => by simp [arith_Same.l0] at h⟩
 | k + 1 => by
  obtain ⟨ih0, ih1, ih2⟩ := arith_Same.mono_l k
  refine ⟨?_, ?_, ?_⟩
  ·intro y0 y1 y2 y3 y4 y5 y6 y7
   unfold arith_Same.f
   repeat' first
   | (with_reducible exact ih0 _ _ _ _ _ _ _ _)
   | (with_reducible exact ih1 _ _ _ _ _ _ _ _ _)
   | (with_reducible exact ih2 _ _ _ _ _ _ _ _ _ _)
   | (with_reducible exact LeO.refl _)
   | (with_reducible exact LeO.none _)
   | (with_reducible refine LeO.ite ?_ ?_)
   | (with_reducible refine LeO.bind ?_ (fun _ => ?_))
   | exact ih0 _ _ _ _ _ _ _ _
   | exact ih1 _ _ _ _ _ _ _ _ _
   | exact ih2 _ _ _ _ _ _ _ _ _ _
   | exact LeO.none _
   | refine LeO.ite ?_ ?_
   | refine LeO.bind ?_ (fun _ => ?_)
  ·intro y0 y1 y2 y3 y4 y5 y6 y7 y8
   unfold arith_Same.j0
   repeat' first
   | (with_reducible exact ih0 _ _ _ _ _ _ _ _)
   | (with_reducible exact ih1 _ _ _ _ _ _ _ _ _)
   | (with_reducible exact ih2 _ _ _ _ _ _ _ _ _ _)
   | (with_reducible exact LeO.refl _)
   | (with_reducible exact LeO.none _)
   | (with_reducible refine LeO.ite ?_ ?_)
   | (with_reducible refine LeO.bind ?_ (fun _ => ?_))
   | exact ih0 _ _ _ _ _ _ _ _
   | exact ih1 _ _ _ _ _ _ _ _ _
   | exact ih2 _ _ _ _ _ _ _ _ _ _
   | exact LeO.none _
   | refine LeO.ite ?_ ?_
   | refine LeO.bind ?_ (fun _ => ?_)
  ·intro y0 y1 y2 y3 y4 y5 y6 y7 y8 y9
   unfold arith_Same.l0
   repeat' first
   | (with_reducible exact ih0 _ _ _ _ _ _ _ _)
   | (with_reducible exact ih1 _ _ _ _ _ _ _ _ _)
   | (with_reducible exact ih2 _ _ _ _ _ _ _ _ _ _)
   | (with_reducible exact LeO.refl _)
   | (with_reducible exact LeO.none _)
   | (with_reducible refine LeO.ite ?_ ?_)
   | (with_reducible refine LeO.bind ?_ (fun _ => ?_))
   | exact ih0 _ _ _ _ _ _ _ _
   | exact ih1 _ _ _ _ _ _ _ _ _
   | exact ih2 _ _ _ _ _ _ _ _ _ _
   | exact LeO.none _
   | refine LeO.ite ?_ ?_
   | refine LeO.bind ?_ (fun _ => ?_)
theorem arith_Same.mono : ∀ a0 a1 a2 a3 a4 a5 a6 a7 k, LeO (arith_Same.f k a0 a1 a2 a3 a4 a5 a6 a7) (arith_Same.f (k + 1) a0 a1 a2 a3 a4 a5 a6 a7) := by
 intro a0 a1 a2 a3 a4 a5 a6 a7 k
 obtain ⟨ih0, ih1, ih2⟩ := arith_Same.mono_l k
 exact ih0 a0 a1 a2 a3 a4 a5 a6 a7
def arith_Same.T6 : Bool × List (List Nat × List Nat) := (true, [([], []), ([0], [0]), ([], []), ([1, 2], [1, 2]), ([3], [3]), ([], []), ([5], [5]), ([], []), ([6, 7], [6, 7]), ([8], [8]), ([4, 9], [4, 9]), ([10], [10])])
def arith_Same.B6 : List Nat := [0, 1, 0, 7, 15, 0, 32, 0, 224, 480, 1023, 2047]
theorem arith_Same.tab6 : rtab .any (opsOf Tryd.f28 6) = arith_Same.T6 := by kernel_rfl
theorem arith_Same.bits6 : waitsOk arith_Same.T6.2 arith_Same.B6 = true := by kernel_rfl
set_option maxHeartbeats 8000000 in
set_option maxRecDepth 100000 in
theorem arith_Same.calls (k : Nat) : ∀ (a0_0 : Int) (a0_1 : Int) (a0_2 : ByteArray) (A0_3 : Option Addr) (c0_3 : Nat) (l0_3 : List (S26)) (a1_0 : Int) (a1_1 : Int) (a1_2 : ByteArray) (A1_3 : Option Addr) (c1_3 : Nat) (l1_3 : List (S26)) (r : Bool) (w : World) (hr0_3 : Kd.C k26 w A0_3 l0_3.length l0_3) (hc0_3 : l0_3.length ≤ c0_3) (hr1_3 : Kd.C k26 w A1_3 l1_3.length l1_3) (hc1_3 : l1_3.length ≤ c1_3) (h : arith_Same.f k a0_0 a0_1 a0_2 l0_3 a1_0 a1_1 a1_2 l1_3 = some r),
 Calls Tryd.prog 28 #[.agg #[.int .i64 a0_0, .int .i64 a0_1, .string a0_2, .slice A0_3 l0_3.length c0_3], .agg #[.int .i64 a1_0, .int .i64 a1_1, .string a1_2, .slice A1_3 l1_3.length c1_3]] w fun e w' => e = .returned (.bool r) ∧ Below w.heap.size w w' := by
 induction k using Nat.strongRecOn with
 | _ k ih =>
 intro a0_0 a0_1 a0_2 A0_3 c0_3 l0_3 a1_0 a1_1 a1_2 A1_3 c1_3 l1_3 r w hr0_3 hc0_3 hr1_3 hc1_3 h
 cases k with
 | zero => exact absurd h (by simp [arith_Same.f])
 | succ k =>
 simp only [arith_Same.f] at h
 have hu26 := Tryd.underlying26
 have HR0_3 := Aside0.mk hr0_3
 have HC0_3 := Aside0.mk hc0_3
 clear hr0_3 hc0_3
 have HR1_3 := Aside0.mk hr1_3
 have HC1_3 := Aside0.mk hc1_3
 clear hr1_3 hc1_3
 have HB := Aside0.mk (Below.refl w.heap.size w)
 have H : (if a0_0 = a1_0 then (if a0_1 = a1_1 then (if a0_2.toList = a1_2.toList then (arith_Same.j0 k ((l0_3.length : Int) != (l1_3.length : Int)) a0_0 a0_1 a0_2 l0_3 a1_0 a1_1 a1_2 l1_3) else (arith_Same.j0 k true a0_0 a0_1 a0_2 l0_3 a1_0 a1_1 a1_2 l1_3)) else (arith_Same.j0 k true a0_0 a0_1 a0_2 l0_3 a1_0 a1_1 a1_2 l1_3)) else (arith_Same.j0 k true a0_0 a0_1 a0_2 l0_3 a1_0 a1_1 a1_2 l1_3)) = some r := h
 clear h
 have HC3 := Aside0.mk H
 clear H
 go_enter Tryd.func28, Tryd.ntmps28
 go_upto_region 1 with (first | ((with_reducible refine gate_dst (N := 2) rfl ?_); (try (refine gate_guard (by rfl) ?_; dsimp only)); refine box_event ?hg (N := 2) ?hd (cs := #[.int .i64 a0_0, .int .i64 a0_1, .string a0_2, .slice A0_3 l0_3.length c0_3]) (t := 26) ?hr ?_; (case hd => rfl); (case hg => rfl); (case hr => first | (go_simp; done) | (go_simp; rfl)); intro gb134 hg w4 hbox hb; have n0_ := Aside0.mk (below_step (by repeat (first | (with_reducible first | exact HB.out | apply below_alloc | apply pw_below_drewN | apply below_drew1) | exact HB.out)) hb); have n1_ := Aside0.mk (hbox); have n2_ := Aside0.mk ((by rw [hg]; exact (below_size (by repeat (first | (with_reducible first | exact HB.out | apply below_alloc | apply pw_below_drewN | apply below_drew1) | exact HB.out))) : w.heap.size ≤ gb134)); have n3_ := Aside0.mk ((by rw [hg]; exact (below_size (by repeat (first | (with_reducible first | exact HB.out | apply below_alloc | apply pw_below_drewN | apply below_drew1) | exact HB.out))) : w.heap.size ≤ gb134)); clear HB; have HB := n0_; have BK134 := n1_; have GW134 := n2_; have GE134 := n3_; clear n0_ n1_ n2_ n3_; clear hb hbox hg) | ((with_reducible refine gate_dst (N := 3) rfl ?_); (try (refine gate_guard (by rfl) ?_; dsimp only)); refine box_event ?hg (N := 3) ?hd (cs := #[.int .i64 a1_0, .int .i64 a1_1, .string a1_2, .slice A1_3 l1_3.length c1_3]) (t := 26) ?hr ?_; (case hd => rfl); (case hg => rfl); (case hr => first | (go_simp; done) | (go_simp; rfl)); intro gb135 hg w5 hbox hb; have n0_ := Aside0.mk (blk_below (g := gb134) (o := .cells #[.int .i64 a0_0, .int .i64 a0_1, .string a0_2, .slice A0_3 l0_3.length c0_3] 26 (0, 0)) (by (with_reducible repeat (first | refine blk_drewN ?_ _ | refine blk_drew ?_ | refine blk_alloc ?_ _)); exact BK134.out) hb); have n1_ := Aside0.mk (below_step (by repeat (first | (with_reducible first | exact HB.out | apply below_alloc | apply pw_below_drewN | apply below_drew1 | refine below_set ?_ GE134.out) | exact HB.out)) hb); have n2_ := Aside0.mk (hbox); have n3_ := Aside0.mk ((by rw [hg]; exact (below_size (by repeat (first | (with_reducible first | exact HB.out | apply below_alloc | apply pw_below_drewN | apply below_drew1 | refine below_set ?_ GE134.out) | exact HB.out))) : w.heap.size ≤ gb135)); have n4_ := Aside0.mk ((by rw [hg]; exact (below_size (by repeat (first | (with_reducible first | exact HB.out | apply below_alloc | apply pw_below_drewN | apply below_drew1 | refine below_set ?_ GE134.out) | exact HB.out))) : w.heap.size ≤ gb135)); have n5_ := Aside0.mk ((by rw [hg]; exact Nat.ne_of_lt (blk_lt (g := gb134) (o := .cells #[.int .i64 a0_0, .int .i64 a0_1, .string a0_2, .slice A0_3 l0_3.length c0_3] 26 (0, 0)) (by (with_reducible repeat (first | refine blk_drewN ?_ _ | refine blk_drew ?_ | refine blk_alloc ?_ _)); exact BK134.out)) : gb134 ≠ gb135)); have n6_ := Aside0.mk ((by rw [hg]; exact Nat.ne_of_gt (blk_lt (g := gb134) (o := .cells #[.int .i64 a0_0, .int .i64 a0_1, .string a0_2, .slice A0_3 l0_3.length c0_3] 26 (0, 0)) (by (with_reducible repeat (first | refine blk_drewN ?_ _ | refine blk_drew ?_ | refine blk_alloc ?_ _)); exact BK134.out)) : gb135 ≠ gb134)); clear BK134; clear HB; have BK134 := n0_; have HB := n1_; have BK135 := n2_; have GW135 := n3_; have GE135 := n4_; have NB134_135 := n5_; have NB135_134 := n6_; clear n0_ n1_ n2_ n3_ n4_ n5_ n6_; clear hb hbox hg))
 (try simp only [Act.put, List.setIfInBounds_toArray, List.set_cons_zero, List.set_cons_succ])
 go_cut [33] (fun v33 wc => ∃ (kq : Nat) (x33_2 : Bool), v33 = .bool x33_2 ∧ Aside0 (arith_Same.j0 kq x33_2 a0_0 a0_1 a0_2 l0_3 a1_0 a1_1 a1_2 l1_3 = some r) ∧ Aside0 (kq ≤ k) ∧ Aside0 (wc.heap[gb134]? = some (.cells #[.int .i64 a0_0, .int .i64 a0_1, .string a0_2, (.slice A0_3 l0_3.length c0_3)] 26 (0, 0))) ∧ Aside0 (wc.heap[gb135]? = some (.cells #[.int .i64 a1_0, .int .i64 a1_1, .string a1_2, (.slice A1_3 l1_3.length c1_3)] 26 (0, 0))) ∧ Aside0 (Below w.heap.size w wc))
 case first =>
  have H := HC3.out
  clear HC3
  by_cases c6 : a0_0 = a1_0
  rotate_left
  ·rw [if_neg c6] at H
   have c6b0 : (a0_0 == a1_0) = false := beq_eq_false_iff_ne.mpr c6
   have c6b1 : (a0_0 != a1_0) = true := bne_iff_ne.mpr c6
   (first | rw [c6b0] | (simp only [i64_w, i32_w]; rw [c6b0]) | skip)
   have H' := Aside0.mk H
   clear H
   have hnb18 := NB134_135.out
   have hnc18 := NB135_134.out
   have hcz19_0 : w5.cell? ⟨gb134, 0, none⟩ = some (.int .i64 a0_0) := (blk_cell BK134.out 0).trans rfl
   have hcz19_1 : w5.cell? ⟨gb134, 1, none⟩ = some (.int .i64 a0_1) := (blk_cell BK134.out 1).trans rfl
   have hcz19_2 : w5.cell? ⟨gb134, 2, none⟩ = some (.string a0_2) := (blk_cell BK134.out 2).trans rfl
   have hcz19_3 : w5.cell? ⟨gb134, 3, none⟩ = some (.slice A0_3 l0_3.length c0_3) := (blk_cell BK134.out 3).trans rfl
   have hfz19_0 := blk_frozen BK134.out 0
   have hfz19_1 := blk_frozen BK134.out 1
   have hfz19_2 := blk_frozen BK134.out 2
   have hfz19_3 := blk_frozen BK134.out 3
   have hcz20_0 : w5.cell? ⟨gb135, 0, none⟩ = some (.int .i64 a1_0) := (blk_cell BK135.out 0).trans rfl
   have hcz20_1 : w5.cell? ⟨gb135, 1, none⟩ = some (.int .i64 a1_1) := (blk_cell BK135.out 1).trans rfl
   have hcz20_2 : w5.cell? ⟨gb135, 2, none⟩ = some (.string a1_2) := (blk_cell BK135.out 2).trans rfl
   have hcz20_3 : w5.cell? ⟨gb135, 3, none⟩ = some (.slice A1_3 l1_3.length c1_3) := (blk_cell BK135.out 3).trans rfl
   have hfz20_0 := blk_frozen BK135.out 0
   have hfz20_1 := blk_frozen BK135.out 1
   have hfz20_2 := blk_frozen BK135.out 2
   have hfz20_3 := blk_frozen BK135.out 3
   go_wp2
   go_meet
   case rel => exact ⟨_, (true), (by first | rfl | (simp; done) | (simp [*]; done)), H', ⟨by first | omega | exact Nat.le_refl _⟩, ⟨by (with_reducible repeat (first | refine blk_drewN ?_ _ | refine blk_drew ?_ | refine blk_alloc ?_ _)); exact BK134.out⟩, ⟨by (with_reducible repeat (first | refine blk_drewN ?_ _ | refine blk_drew ?_ | refine blk_alloc ?_ _)); exact BK135.out⟩, ⟨by repeat (first | (with_reducible first | exact HB.out | apply below_alloc | apply pw_below_drewN | apply below_drew1 | refine below_set ?_ GE134.out | refine below_set ?_ GE135.out) | exact HB.out)⟩⟩
  rw [if_pos c6] at H
  have c6b0 : (a0_0 == a1_0) = true := beq_iff_eq.mpr c6
  have c6b1 : (a0_0 != a1_0) = false := bne_eq_false_iff_eq.mpr c6
  clear c6
  (first | rw [c6b0] | (simp only [i64_w, i32_w]; rw [c6b0]) | skip)
  by_cases c7 : a0_1 = a1_1
  rotate_left
  ·rw [if_neg c7] at H
   have c7b0 : (a0_1 == a1_1) = false := beq_eq_false_iff_ne.mpr c7
   have c7b1 : (a0_1 != a1_1) = true := bne_iff_ne.mpr c7
   have H' := Aside0.mk H
   clear H
   have hnb15 := NB134_135.out
   have hnc15 := NB135_134.out
   have hcz16_0 : w5.cell? ⟨gb134, 0, none⟩ = some (.int .i64 a0_0) := (blk_cell BK134.out 0).trans rfl
   have hcz16_1 : w5.cell? ⟨gb134, 1, none⟩ = some (.int .i64 a0_1) := (blk_cell BK134.out 1).trans rfl
   have hcz16_2 : w5.cell? ⟨gb134, 2, none⟩ = some (.string a0_2) := (blk_cell BK134.out 2).trans rfl
   have hcz16_3 : w5.cell? ⟨gb134, 3, none⟩ = some (.slice A0_3 l0_3.length c0_3) := (blk_cell BK134.out 3).trans rfl
   have hfz16_0 := blk_frozen BK134.out 0
   have hfz16_1 := blk_frozen BK134.out 1
   have hfz16_2 := blk_frozen BK134.out 2
   have hfz16_3 := blk_frozen BK134.out 3
   have hcz17_0 : w5.cell? ⟨gb135, 0, none⟩ = some (.int .i64 a1_0) := (blk_cell BK135.out 0).trans rfl
   have hcz17_1 : w5.cell? ⟨gb135, 1, none⟩ = some (.int .i64 a1_1) := (blk_cell BK135.out 1).trans rfl
   have hcz17_2 : w5.cell? ⟨gb135, 2, none⟩ = some (.string a1_2) := (blk_cell BK135.out 2).trans rfl
   have hcz17_3 : w5.cell? ⟨gb135, 3, none⟩ = some (.slice A1_3 l1_3.length c1_3) := (blk_cell BK135.out 3).trans rfl
   have hfz17_0 := blk_frozen BK135.out 0
   have hfz17_1 := blk_frozen BK135.out 1
   have hfz17_2 := blk_frozen BK135.out 2
   have hfz17_3 := blk_frozen BK135.out 3
   go_wp2
   go_meet
   case rel => exact ⟨_, (true), (by first | rfl | (simp; done) | (simp [*]; done)), H', ⟨by first | omega | exact Nat.le_refl _⟩, ⟨by (with_reducible repeat (first | refine blk_drewN ?_ _ | refine blk_drew ?_ | refine blk_alloc ?_ _)); exact BK134.out⟩, ⟨by (with_reducible repeat (first | refine blk_drewN ?_ _ | refine blk_drew ?_ | refine blk_alloc ?_ _)); exact BK135.out⟩, ⟨by repeat (first | (with_reducible first | exact HB.out | apply below_alloc | apply pw_below_drewN | apply below_drew1 | refine below_set ?_ GE134.out | refine below_set ?_ GE135.out) | exact HB.out)⟩⟩
  rw [if_pos c7] at H
  have c7b0 : (a0_1 == a1_1) = true := beq_iff_eq.mpr c7
  have c7b1 : (a0_1 != a1_1) = false := bne_eq_false_iff_eq.mpr c7
  clear c7
  by_cases c8 : a0_2.toList = a1_2.toList
  rotate_left
  ·rw [if_neg c8] at H
   have c8b0 : (a0_2.toList == a1_2.toList) = false := beq_eq_false_iff_ne.mpr c8
   have c8b1 : (a0_2.toList != a1_2.toList) = true := bne_iff_ne.mpr c8
   have H' := Aside0.mk H
   clear H
   have hnb12 := NB134_135.out
   have hnc12 := NB135_134.out
   have hcz13_0 : w5.cell? ⟨gb134, 0, none⟩ = some (.int .i64 a0_0) := (blk_cell BK134.out 0).trans rfl
   have hcz13_1 : w5.cell? ⟨gb134, 1, none⟩ = some (.int .i64 a0_1) := (blk_cell BK134.out 1).trans rfl
   have hcz13_2 : w5.cell? ⟨gb134, 2, none⟩ = some (.string a0_2) := (blk_cell BK134.out 2).trans rfl
   have hcz13_3 : w5.cell? ⟨gb134, 3, none⟩ = some (.slice A0_3 l0_3.length c0_3) := (blk_cell BK134.out 3).trans rfl
   have hfz13_0 := blk_frozen BK134.out 0
   have hfz13_1 := blk_frozen BK134.out 1
   have hfz13_2 := blk_frozen BK134.out 2
   have hfz13_3 := blk_frozen BK134.out 3
   have hcz14_0 : w5.cell? ⟨gb135, 0, none⟩ = some (.int .i64 a1_0) := (blk_cell BK135.out 0).trans rfl
   have hcz14_1 : w5.cell? ⟨gb135, 1, none⟩ = some (.int .i64 a1_1) := (blk_cell BK135.out 1).trans rfl
   have hcz14_2 : w5.cell? ⟨gb135, 2, none⟩ = some (.string a1_2) := (blk_cell BK135.out 2).trans rfl
   have hcz14_3 : w5.cell? ⟨gb135, 3, none⟩ = some (.slice A1_3 l1_3.length c1_3) := (blk_cell BK135.out 3).trans rfl
   have hfz14_0 := blk_frozen BK135.out 0
   have hfz14_1 := blk_frozen BK135.out 1
   have hfz14_2 := blk_frozen BK135.out 2
   have hfz14_3 := blk_frozen BK135.out 3
   go_wp2
   go_meet
   case rel => exact ⟨_, (true), (by first | rfl | (simp; done) | (simp [*]; done)), H', ⟨by first | omega | exact Nat.le_refl _⟩, ⟨by (with_reducible repeat (first | refine blk_drewN ?_ _ | refine blk_drew ?_ | refine blk_alloc ?_ _)); exact BK134.out⟩, ⟨by (with_reducible repeat (first | refine blk_drewN ?_ _ | refine blk_drew ?_ | refine blk_alloc ?_ _)); exact BK135.out⟩, ⟨by repeat (first | (with_reducible first | exact HB.out | apply below_alloc | apply pw_below_drewN | apply below_drew1 | refine below_set ?_ GE134.out | refine below_set ?_ GE135.out) | exact HB.out)⟩⟩
  rw [if_pos c8] at H
  have c8b0 : (a0_2.toList == a1_2.toList) = true := beq_iff_eq.mpr c8
  have c8b1 : (a0_2.toList != a1_2.toList) = false := bne_eq_false_iff_eq.mpr c8
  clear c8
  have H' := Aside0.mk H
  clear H
  have hnb9 := NB134_135.out
  have hnc9 := NB135_134.out
  have hcz10_0 : w5.cell? ⟨gb134, 0, none⟩ = some (.int .i64 a0_0) := (blk_cell BK134.out 0).trans rfl
  have hcz10_1 : w5.cell? ⟨gb134, 1, none⟩ = some (.int .i64 a0_1) := (blk_cell BK134.out 1).trans rfl
  have hcz10_2 : w5.cell? ⟨gb134, 2, none⟩ = some (.string a0_2) := (blk_cell BK134.out 2).trans rfl
  have hcz10_3 : w5.cell? ⟨gb134, 3, none⟩ = some (.slice A0_3 l0_3.length c0_3) := (blk_cell BK134.out 3).trans rfl
  have hfz10_0 := blk_frozen BK134.out 0
  have hfz10_1 := blk_frozen BK134.out 1
  have hfz10_2 := blk_frozen BK134.out 2
  have hfz10_3 := blk_frozen BK134.out 3
  have hcz11_0 : w5.cell? ⟨gb135, 0, none⟩ = some (.int .i64 a1_0) := (blk_cell BK135.out 0).trans rfl
  have hcz11_1 : w5.cell? ⟨gb135, 1, none⟩ = some (.int .i64 a1_1) := (blk_cell BK135.out 1).trans rfl
  have hcz11_2 : w5.cell? ⟨gb135, 2, none⟩ = some (.string a1_2) := (blk_cell BK135.out 2).trans rfl
  have hcz11_3 : w5.cell? ⟨gb135, 3, none⟩ = some (.slice A1_3 l1_3.length c1_3) := (blk_cell BK135.out 3).trans rfl
  have hfz11_0 := blk_frozen BK135.out 0
  have hfz11_1 := blk_frozen BK135.out 1
  have hfz11_2 := blk_frozen BK135.out 2
  have hfz11_3 := blk_frozen BK135.out 3
  go_wp2
  go_meet
  case rel => exact ⟨_, (((l0_3.length : Int) != (l1_3.length : Int))), (by first | rfl | (simp; done) | (simp [*]; done)), H', ⟨by first | omega | exact Nat.le_refl _⟩, ⟨by (with_reducible repeat (first | refine blk_drewN ?_ _ | refine blk_drew ?_ | refine blk_alloc ?_ _)); exact BK134.out⟩, ⟨by (with_reducible repeat (first | refine blk_drewN ?_ _ | refine blk_drew ?_ | refine blk_alloc ?_ _)); exact BK135.out⟩, ⟨by repeat (first | (with_reducible first | exact HB.out | apply below_alloc | apply pw_below_drewN | apply below_drew1 | refine below_set ?_ GE134.out | refine below_set ?_ GE135.out) | exact HB.out)⟩⟩
 case rest =>
  clear HC3
  obtain ⟨kq, x33_2, rfl, HA, HJ2, BK134, BK135, HB⟩ := hcut
  cases kq with
  | zero => exact absurd HA.out (by simp [arith_Same.j0])
  | succ kj2 =>
   have H := HA.out
   clear HA
   simp only [arith_Same.j0] at H
   by_cases c21 : x33_2 = true
   ·subst c21
    have H1 : (some false) = some r := by rw [if_pos rfl] at H; exact H
    clear H
    have H := H1
    clear H1
    obtain rfl := Option.some.inj H
    go_wp2
    go_ret
    exact ⟨by first | rfl | (simp [errW_none, errW_some] <;> rfl) | (simp [*, errW_none, errW_some] <;> rfl), by repeat (first | (with_reducible first | exact HB.out | apply below_alloc | apply pw_below_drewN | apply below_drew1 | refine below_set ?_ GE134.out | refine below_set ?_ GE135.out) | exact HB.out)⟩
   replace c21 := Bool.eq_false_iff.mpr c21
   subst c21
   have H1 : (arith_Same.l0 kj2 (l0_3.length : Int) 0 a0_0 a0_1 a0_2 l0_3 a1_0 a1_1 a1_2 l1_3) = some r := by rw [if_neg (show ¬ (false = true) by decide)] at H; exact H
   clear H
   have H := H1
   clear H1
   have H' := Aside0.mk H
   clear H
   have hnb22 := NB134_135.out
   have hnc22 := NB135_134.out
   have hcz23_0 : wc.cell? ⟨gb134, 0, none⟩ = some (.int .i64 a0_0) := (blk_cell BK134.out 0).trans rfl
   have hcz23_1 : wc.cell? ⟨gb134, 1, none⟩ = some (.int .i64 a0_1) := (blk_cell BK134.out 1).trans rfl
   have hcz23_2 : wc.cell? ⟨gb134, 2, none⟩ = some (.string a0_2) := (blk_cell BK134.out 2).trans rfl
   have hcz23_3 : wc.cell? ⟨gb134, 3, none⟩ = some (.slice A0_3 l0_3.length c0_3) := (blk_cell BK134.out 3).trans rfl
   have hfz23_0 := blk_frozen BK134.out 0
   have hfz23_1 := blk_frozen BK134.out 1
   have hfz23_2 := blk_frozen BK134.out 2
   have hfz23_3 := blk_frozen BK134.out 3
   go_wp2
   go_loopg [37] kj2 (fun kq v37 w' => ∃ (x37_2 : Int), v37 = .int .i64 x37_2 ∧ Aside0 (arith_Same.l0 kq (l0_3.length : Int) x37_2 a0_0 a0_1 a0_2 l0_3 a1_0 a1_1 a1_2 l1_3 = some r) ∧ Aside0 (kq ≤ kj2) ∧ Aside0 (w'.heap[gb134]? = some (.cells #[.int .i64 a0_0, .int .i64 a0_1, .string a0_2, (.slice A0_3 l0_3.length c0_3)] 26 (0, 0))) ∧ Aside0 (w'.heap[gb135]? = some (.cells #[.int .i64 a1_0, .int .i64 a1_1, .string a1_2, (.slice A1_3 l1_3.length c1_3)] 26 (0, 0))) ∧ Aside0 (Below w.heap.size w w'))
   case atStart => exact ⟨(0), (by first | rfl | (simp; done) | (simp [*]; done)), H', ⟨Nat.le_refl _⟩, ⟨by (with_reducible repeat (first | refine blk_drewN ?_ _ | refine blk_drew ?_ | refine blk_alloc ?_ _)); exact BK134.out⟩, ⟨by (with_reducible repeat (first | refine blk_drewN ?_ _ | refine blk_drew ?_ | refine blk_alloc ?_ _)); exact BK135.out⟩, ⟨by repeat (first | (with_reducible first | exact HB.out | apply below_alloc | apply pw_below_drewN | apply below_drew1 | refine below_set ?_ GE134.out | refine below_set ?_ GE135.out) | exact HB.out)⟩⟩
   case round =>
    clear H'
    obtain ⟨x37_2, rfl, HA, HK2, BK134, BK135, HB⟩ := hrel
    cases gk with
    | zero => exact absurd HA.out (by simp [arith_Same.l0])
    | succ k2 =>
     have H := HA.out
     clear HA
     simp only [arith_Same.l0] at H
     by_cases c24 : x37_2 < (l0_3.length : Int)
     rotate_left
     ·rw [if_neg c24] at H
      have c24b0 : decide (x37_2 < (l0_3.length : Int)) = false := decide_eq_false c24
      clear c24
      obtain rfl := Option.some.inj H
      go_wp2
      go_ret
      exact ⟨by first | rfl | (simp [errW_none, errW_some] <;> rfl) | (simp [*, errW_none, errW_some] <;> rfl), by repeat (first | (with_reducible first | exact HB.out | apply below_alloc | apply pw_below_drewN | apply below_drew1 | refine below_set ?_ GE134.out | refine below_set ?_ GE135.out) | exact HB.out)⟩
     rw [if_pos c24] at H
     have c24b0 : decide (x37_2 < (l0_3.length : Int)) = true := decide_eq_true c24
     clear c24
     by_cases c25 : 0 ≤ x37_2
     rotate_left
     ·rw [if_neg c25] at H
      exact absurd H (by simp)
     rw [if_pos c25] at H
     have c25b0 : decide (0 ≤ x37_2) = true := decide_eq_true c25
     clear c25
     by_cases c26 : x37_2 < (l0_3.length : Int)
     rotate_left
     ·rw [if_neg c26] at H
      exact absurd H (by simp)
     rw [if_pos c26] at H
     have c26b0 : decide (x37_2 < (l0_3.length : Int)) = true := decide_eq_true c26
     clear c26
     by_cases c27 : x37_2 < (l1_3.length : Int)
     rotate_left
     ·rw [if_neg c27] at H
      exact absurd H (by simp)
     rw [if_pos c27] at H
     have c27b0 : decide (x37_2 < (l1_3.length : Int)) = true := decide_eq_true c27
     clear c27
     replace H := Option.bind_eq_some_iff.mp H
     obtain ⟨t138, A280, H⟩ := H
     try dsimp only at H
     have A28 := Aside0.mk A280
     clear A280
     by_cases c29 : t138 = true
     rotate_left
     ·replace c29 := Bool.eq_false_iff.mpr c29
      subst c29
      have H1 : (some false) = some r := by rw [if_neg (show ¬ (false = true) by decide)] at H; exact H
      clear H
      have H := H1
      clear H1
      obtain rfl := Option.some.inj H
      try go_wp2
      have n0_ := Aside0.mk (blk_drew BK134.out)
      have n1_ := Aside0.mk (blk_drew BK135.out)
      have n2_ := Aside0.mk (below_drew1 HB.out)
      clear BK134
      clear BK135
      clear HB
      have BK134 := n0_
      have BK135 := n1_
      have HB := n2_
      clear n0_ n1_ n2_
      have p136 : 0 ≤ (x37_2 : Int) := of_decide_eq_true (by first | (with_reducible assumption) | assumption)
      have q136 : x37_2 < (l0_3.length : Int) := of_decide_eq_true (by first | (with_reducible assumption) | assumption)
      obtain ⟨ad136, A136_3, c136_3, e136, hx136_0, hx136_1, hx136_2, hx136_3, hl136_3, hi136_3⟩ := at_T26 HR0_3.out x37_2 p136 q136
      have hw136_3 := hx136_3
      have hw136_2 := hx136_2
      have hw136_1 := hx136_1
      have hw136_0 := hx136_0
      cases e136
      replace hx136_0 := (HB.out.cell (World.block_lt_of_cell? w _ hx136_0)).trans hx136_0
      replace hx136_1 := (HB.out.cell (World.block_lt_of_cell? w _ hx136_1)).trans hx136_1
      replace hx136_2 := (HB.out.cell (World.block_lt_of_cell? w _ hx136_2)).trans hx136_2
      replace hx136_3 := (HB.out.cell (World.block_lt_of_cell? w _ hx136_3)).trans hx136_3
      have HR136_3 := Aside0.mk hi136_3
      have HC136_3 := Aside0.mk hl136_3
      clear hi136_3 hl136_3
      replace p136 := eq_true p136
      replace q136 := eq_true q136
      have p137 : 0 ≤ (x37_2 : Int) := of_decide_eq_true (by first | (with_reducible assumption) | assumption)
      have q137 : x37_2 < (l1_3.length : Int) := of_decide_eq_true (by first | (with_reducible assumption) | assumption)
      obtain ⟨ad137, A137_3, c137_3, e137, hx137_0, hx137_1, hx137_2, hx137_3, hl137_3, hi137_3⟩ := at_T26 HR1_3.out x37_2 p137 q137
      have hw137_3 := hx137_3
      have hw137_2 := hx137_2
      have hw137_1 := hx137_1
      have hw137_0 := hx137_0
      cases e137
      replace hx137_0 := (HB.out.cell (World.block_lt_of_cell? w _ hx137_0)).trans hx137_0
      replace hx137_1 := (HB.out.cell (World.block_lt_of_cell? w _ hx137_1)).trans hx137_1
      replace hx137_2 := (HB.out.cell (World.block_lt_of_cell? w _ hx137_2)).trans hx137_2
      replace hx137_3 := (HB.out.cell (World.block_lt_of_cell? w _ hx137_3)).trans hx137_3
      have HR137_3 := Aside0.mk hi137_3
      have HC137_3 := Aside0.mk hl137_3
      clear hi137_3 hl137_3
      replace p137 := eq_true p137
      replace q137 := eq_true q137
      refine start_ (n := 12) (S := fun w' => w'.cell? ⟨gb134, 0, none⟩ = some (.int .i64 a0_0) ∧ w'.cell? ⟨gb134, 1, none⟩ = some (.int .i64 a0_1) ∧ w'.cell? ⟨gb134, 2, none⟩ = some (.string a0_2) ∧ w'.cell? ⟨gb134, 3, none⟩ = some (.slice (some ad136) l0_3.length c0_3) ∧ w'.cell? ⟨gb135, 0, none⟩ = some (.int .i64 a1_0) ∧ w'.cell? ⟨gb135, 1, none⟩ = some (.int .i64 a1_1) ∧ w'.cell? ⟨gb135, 2, none⟩ = some (.string a1_2) ∧ w'.cell? ⟨gb135, 3, none⟩ = some (.slice (some ad137) l1_3.length c1_3) ∧ w'.cell? (ad136.add ((x37_2).toNat * 4)) = some (.int .i64 ((rd_T26 l0_3 x37_2).f0)) ∧ w'.cell? ⟨(ad136.add ((x37_2).toNat * 4)).block, (ad136.add ((x37_2).toNat * 4)).off + 1, none⟩ = some (.int .i64 ((rd_T26 l0_3 x37_2).f1)) ∧ w'.cell? ⟨(ad136.add ((x37_2).toNat * 4)).block, (ad136.add ((x37_2).toNat * 4)).off + 2, none⟩ = some (.string ((rd_T26 l0_3 x37_2).f2)) ∧ w'.cell? ⟨(ad136.add ((x37_2).toNat * 4)).block, (ad136.add ((x37_2).toNat * 4)).off + 3, none⟩ = some (.slice A136_3 ((rd_T26 l0_3 x37_2).f3).length c136_3) ∧ w'.cell? (ad137.add ((x37_2).toNat * 4)) = some (.int .i64 ((rd_T26 l1_3 x37_2).f0)) ∧ w'.cell? ⟨(ad137.add ((x37_2).toNat * 4)).block, (ad137.add ((x37_2).toNat * 4)).off + 1, none⟩ = some (.int .i64 ((rd_T26 l1_3 x37_2).f1)) ∧ w'.cell? ⟨(ad137.add ((x37_2).toNat * 4)).block, (ad137.add ((x37_2).toNat * 4)).off + 2, none⟩ = some (.string ((rd_T26 l1_3 x37_2).f2)) ∧ w'.cell? ⟨(ad137.add ((x37_2).toNat * 4)).block, (ad137.add ((x37_2).toNat * 4)).off + 3, none⟩ = some (.slice A137_3 ((rd_T26 l1_3 x37_2).f3).length c137_3)) (ds := []) #[false, false, false, false, false, false, false, false, false, false, false, false] (by kernel_rfl) rfl rfl ⟨(blk_cell BK134.out 0).trans rfl, (blk_cell BK134.out 1).trans rfl, (blk_cell BK134.out 2).trans rfl, (blk_cell BK134.out 3).trans rfl, (blk_cell BK135.out 0).trans rfl, (blk_cell BK135.out 1).trans rfl, (blk_cell BK135.out 2).trans rfl, (blk_cell BK135.out 3).trans rfl, ((HB.out.cell (World.block_lt_of_cell? w _ hw136_0)).trans hw136_0), ((HB.out.cell (World.block_lt_of_cell? w _ hw136_1)).trans hw136_1), ((HB.out.cell (World.block_lt_of_cell? w _ hw136_2)).trans hw136_2), ((HB.out.cell (World.block_lt_of_cell? w _ hw136_3)).trans hw136_3), ((HB.out.cell (World.block_lt_of_cell? w _ hw137_0)).trans hw137_0), ((HB.out.cell (World.block_lt_of_cell? w _ hw137_1)).trans hw137_1), ((HB.out.cell (World.block_lt_of_cell? w _ hw137_2)).trans hw137_2), ((HB.out.cell (World.block_lt_of_cell? w _ hw137_3)).trans hw137_3)⟩ (fun hHeld => ?_); refine with_tabW arith_Same.tab6 arith_Same.bits6 (fun HT_ HW_ => ?_)
      generalize wr.drew = w32 at BK134 BK135 HB HR136_3 HR137_3 hx136_0 hx136_1 hx136_2 hx136_3 hx137_0 hx137_1 hx137_2 hx137_3 hHeld ⊢
      refine pure_ (i := 0) (N := some 40) (v := ?_) (a' := ?_) #[true, false, false, false, false, false, false, false, false, false, false, false] rfl rfl (any_of HT_.out (by kernel_rfl)) (fun _ _ _ h => h) (Or.inl ⟨by rfl, ?_⟩) ?_ ?_
      rotate_left
      ·intro w'
       go_simp
       with_reducible rfl
      rotate_left
      ·simp only [Act.put, List.setIfInBounds_toArray, List.set_cons_zero, List.set_cons_succ, i64_w, i32_w]
       rfl
      refine pure_ (i := 2) (N := some 42) (v := ?_) (a' := ?_) #[true, false, true, false, false, false, false, false, false, false, false, false] rfl rfl (any_of HT_.out (by kernel_rfl)) (fun _ _ _ h => h) (Or.inl ⟨by rfl, ?_⟩) ?_ ?_
      rotate_left
      ·intro w'
       go_simp
       with_reducible rfl
      rotate_left
      ·simp only [Act.put, List.setIfInBounds_toArray, List.set_cons_zero, List.set_cons_succ, i64_w, i32_w]
       rfl
      refine pure_ (i := 5) (N := some 45) (v := ?_) (a' := ?_) #[true, false, true, false, false, true, false, false, false, false, false, false] rfl rfl (any_of HT_.out (by kernel_rfl)) (fun _ _ _ h => h) (Or.inl ⟨by rfl, ?_⟩) ?_ ?_
      rotate_left
      ·intro w'
       go_simp
       with_reducible rfl
      rotate_left
      ·simp only [Act.put, List.setIfInBounds_toArray, List.set_cons_zero, List.set_cons_succ, i64_w, i32_w]
       rfl
      refine pure_ (i := 7) (N := some 47) (v := ?_) (a' := ?_) #[true, false, true, false, false, true, false, true, false, false, false, false] rfl rfl (any_of HT_.out (by kernel_rfl)) (fun _ _ _ h => h) (Or.inl ⟨by rfl, ?_⟩) ?_ ?_
      rotate_left
      ·intro w'
       go_simp
       with_reducible rfl
      rotate_left
      ·simp only [Act.put, List.setIfInBounds_toArray, List.set_cons_zero, List.set_cons_succ, i64_w, i32_w]
       rfl
      refine take_ (i := 1) (N := some 41) (v := ?_) (a' := ?_) #[true, true, true, false, false, true, false, true, false, false, false, false] rfl rfl (take_ofW HT_.out HW_.out (by kernel_rfl)) (fun _ _ _ h => h) (Or.inl ⟨by rfl, ?_⟩) hHeld ?_ ?_
      rotate_left
      ·rintro w' ⟨s0, s1, s2, s3, s4, s5, s6, s7, s8, s9, s10, s11, s12, s13, s14, s15⟩
       go_simp
       with_reducible rfl
      rotate_left
      ·simp only [Act.put, List.setIfInBounds_toArray, List.set_cons_zero, List.set_cons_succ, i64_w, i32_w]
       rfl
      refine pure_ (i := 3) (N := some 43) (v := ?_) (a' := ?_) #[true, true, true, true, false, true, false, true, false, false, false, false] rfl rfl (any_of HT_.out (by kernel_rfl)) (fun _ _ _ h => h) (Or.inl ⟨by rfl, ?_⟩) ?_ ?_
      rotate_left
      ·intro w'
       go_simp
       with_reducible rfl
      rotate_left
      ·simp only [Act.put, List.setIfInBounds_toArray, List.set_cons_zero, List.set_cons_succ, i64_w, i32_w]
       rfl
      refine take_ (i := 4) (N := some 44) (v := ?_) (a' := ?_) #[true, true, true, true, true, true, false, true, false, false, false, false] rfl rfl (take_ofW HT_.out HW_.out (by kernel_rfl)) (fun _ _ _ h => h) (Or.inl ⟨by rfl, ?_⟩) hHeld ?_ ?_
      rotate_left
      ·rintro w' ⟨s0, s1, s2, s3, s4, s5, s6, s7, s8, s9, s10, s11, s12, s13, s14, s15⟩
       go_simp
       with_reducible rfl
      rotate_left
      ·simp only [Act.put, List.setIfInBounds_toArray, List.set_cons_zero, List.set_cons_succ, i64_w, i32_w]
       rfl
      refine take_ (i := 6) (N := some 46) (v := ?_) (a' := ?_) #[true, true, true, true, true, true, true, true, false, false, false, false] rfl rfl (take_ofW HT_.out HW_.out (by kernel_rfl)) (fun _ _ _ h => h) (Or.inl ⟨by rfl, ?_⟩) hHeld ?_ ?_
      rotate_left
      ·rintro w' ⟨s0, s1, s2, s3, s4, s5, s6, s7, s8, s9, s10, s11, s12, s13, s14, s15⟩
       go_simp
       with_reducible rfl
      rotate_left
      ·simp only [Act.put, List.setIfInBounds_toArray, List.set_cons_zero, List.set_cons_succ, i64_w, i32_w]
       rfl
      refine pure_ (i := 8) (N := some 48) (v := ?_) (a' := ?_) #[true, true, true, true, true, true, true, true, true, false, false, false] rfl rfl (any_of HT_.out (by kernel_rfl)) (fun _ _ _ h => h) (Or.inl ⟨by rfl, ?_⟩) ?_ ?_
      rotate_left
      ·intro w'
       go_simp
       with_reducible rfl
      rotate_left
      ·simp only [Act.put, List.setIfInBounds_toArray, List.set_cons_zero, List.set_cons_succ, i64_w, i32_w]
       rfl
      refine take_ (i := 9) (N := some 49) (v := ?_) (a' := ?_) #[true, true, true, true, true, true, true, true, true, true, false, false] rfl rfl (take_ofW HT_.out HW_.out (by kernel_rfl)) (fun _ _ _ h => h) (Or.inl ⟨by rfl, ?_⟩) hHeld ?_ ?_
      rotate_left
      ·rintro w' ⟨s0, s1, s2, s3, s4, s5, s6, s7, s8, s9, s10, s11, s12, s13, s14, s15⟩
       go_simp
       with_reducible rfl
      rotate_left
      ·simp only [Act.put, List.setIfInBounds_toArray, List.set_cons_zero, List.set_cons_succ, i64_w, i32_w]
       rfl
      refine one_ (i := 10) (N := some 50) #[true, true, true, true, true, true, true, true, true, true, true, false] rfl rfl (one_of HT_.out (by kernel_rfl)) (by decide) (fun K hK => ?_)
      refine goes_ Tryd.func28 (by kernel_rfl) rfl #[.agg #[.int .i64 ((rd_T26 l0_3 x37_2).f0), .int .i64 ((rd_T26 l0_3 x37_2).f1), .string ((rd_T26 l0_3 x37_2).f2), .slice A136_3 ((rd_T26 l0_3 x37_2).f3).length c136_3], .agg #[.int .i64 ((rd_T26 l1_3 x37_2).f0), .int .i64 ((rd_T26 l1_3 x37_2).f1), .string ((rd_T26 l1_3 x37_2).f2), .slice A137_3 ((rd_T26 l1_3 x37_2).f3).length c137_3]] (by rfl) rfl rfl (by (try simp only [List.map_toArray, List.map_cons, List.map_nil]); first | done | rfl | (simp only [List.length_drop, List.length_take]; rfl)) ?_
      with_reducible refine (ih k2 (by have := HJ2.out; have := HK2.out; omega) ((rd_T26 l0_3 x37_2).f0) ((rd_T26 l0_3 x37_2).f1) ((rd_T26 l0_3 x37_2).f2) _ _ ((rd_T26 l0_3 x37_2).f3) ((rd_T26 l1_3 x37_2).f0) ((rd_T26 l1_3 x37_2).f1) ((rd_T26 l1_3 x37_2).f2) _ _ ((rd_T26 l1_3 x37_2).f3) false _ ?side1 ?side2 ?side3 ?side4 A28.out).mono ?_
      (case side1 => repeat (first | exact (Kd.C_below HR136_3.out HB.out) | (with_reducible refine Kd.C_alloc ?_ _) | (with_reducible refine Kd.C_drewN ?_ _) | (with_reducible refine Kd.C_drew ?_)))
      (case side2 => exact HC136_3.out)
      (case side3 => repeat (first | exact (Kd.C_below HR137_3.out HB.out) | (with_reducible refine Kd.C_alloc ?_ _) | (with_reducible refine Kd.C_drewN ?_ _) | (with_reducible refine Kd.C_drew ?_)))
      (case side4 => exact HC137_3.out)
      rintro e w33 ⟨rfl, hb⟩
      refine ⟨_, rfl, ?_⟩
      have n0_ := Aside0.mk (blk_below (g := gb134) (o := .cells #[.int .i64 a0_0, .int .i64 a0_1, .string a0_2, .slice (some ad136) l0_3.length c0_3] 26 (0, 0)) (by (with_reducible repeat (first | refine blk_drewN ?_ _ | refine blk_drew ?_ | refine blk_alloc ?_ _)); exact BK134.out) hb)
      have n1_ := Aside0.mk (blk_below (g := gb135) (o := .cells #[.int .i64 a1_0, .int .i64 a1_1, .string a1_2, .slice (some ad137) l1_3.length c1_3] 26 (0, 0)) (by (with_reducible repeat (first | refine blk_drewN ?_ _ | refine blk_drew ?_ | refine blk_alloc ?_ _)); exact BK135.out) hb)
      have n2_ := Aside0.mk (below_step (by repeat (first | (with_reducible first | exact HB.out | apply below_alloc | apply pw_below_drewN | apply below_drew1 | refine below_set ?_ GE134.out | refine below_set ?_ GE135.out) | exact HB.out)) hb)
      clear BK134
      clear BK135
      clear HB
      have BK134 := n0_
      have BK135 := n1_
      have HB := n2_
      clear n0_ n1_ n2_
      (try clear hb)
      (try clear hb2)
      (try clear hk)
      (try clear hi)
      refine hK.out _ _ ⟨(blk_cell BK134.out 0).trans rfl, (blk_cell BK134.out 1).trans rfl, (blk_cell BK134.out 2).trans rfl, (blk_cell BK134.out 3).trans rfl, (blk_cell BK135.out 0).trans rfl, (blk_cell BK135.out 1).trans rfl, (blk_cell BK135.out 2).trans rfl, (blk_cell BK135.out 3).trans rfl, ((HB.out.cell (World.block_lt_of_cell? w _ hw136_0)).trans hw136_0), ((HB.out.cell (World.block_lt_of_cell? w _ hw136_1)).trans hw136_1), ((HB.out.cell (World.block_lt_of_cell? w _ hw136_2)).trans hw136_2), ((HB.out.cell (World.block_lt_of_cell? w _ hw136_3)).trans hw136_3), ((HB.out.cell (World.block_lt_of_cell? w _ hw137_0)).trans hw137_0), ((HB.out.cell (World.block_lt_of_cell? w _ hw137_1)).trans hw137_1), ((HB.out.cell (World.block_lt_of_cell? w _ hw137_2)).trans hw137_2), ((HB.out.cell (World.block_lt_of_cell? w _ hw137_3)).trans hw137_3)⟩ (fun hHeld => ?_)
      clear hK K
      refine norm_ (a' := ?_) ?_ ?_
      rotate_left
      ·show Act.put _ (some 50) _ = _
       simp only [Act.put, List.setIfInBounds_toArray, List.set_cons_zero, List.set_cons_succ, i64_w, i32_w]
       rfl
      refine pure_ (i := 11) (N := some 51) (v := ?_) (a' := ?_) #[true, true, true, true, true, true, true, true, true, true, true, true] rfl rfl (any_of HT_.out (by kernel_rfl)) (fun _ _ _ h => h) (Or.inl ⟨by rfl, ?_⟩) ?_ ?_
      rotate_left
      ·intro w'
       go_simp
       with_reducible rfl
      rotate_left
      ·simp only [Act.put, List.setIfInBounds_toArray, List.set_cons_zero, List.set_cons_succ, i64_w, i32_w]
       rfl
      refine done_ (done_of HT_.out (by kernel_rfl)) ?_
      try go_wp2
      go_ret
      exact ⟨by first | rfl | (simp [errW_none, errW_some] <;> rfl) | (simp [*, errW_none, errW_some] <;> rfl), by repeat (first | (with_reducible first | exact HB.out | apply below_alloc | apply pw_below_drewN | apply below_drew1 | refine below_set ?_ GE134.out | refine below_set ?_ GE135.out) | exact HB.out)⟩
     subst c29
     have H1 : (arith_Same.l0 k2 (l0_3.length : Int) (wrap64 (x37_2 + 1)) a0_0 a0_1 a0_2 l0_3 a1_0 a1_1 a1_2 l1_3) = some r := by rw [if_pos rfl] at H; exact H
     clear H
     have H := H1
     clear H1
     have H' := Aside0.mk H
     clear H
     try go_wp2
     have n0_ := Aside0.mk (blk_drew BK134.out)
     have n1_ := Aside0.mk (blk_drew BK135.out)
     have n2_ := Aside0.mk (below_drew1 HB.out)
     clear BK134
     clear BK135
     clear HB
     have BK134 := n0_
     have BK135 := n1_
     have HB := n2_
     clear n0_ n1_ n2_
     have p136 : 0 ≤ (x37_2 : Int) := of_decide_eq_true (by first | (with_reducible assumption) | assumption)
     have q136 : x37_2 < (l0_3.length : Int) := of_decide_eq_true (by first | (with_reducible assumption) | assumption)
     obtain ⟨ad136, A136_3, c136_3, e136, hx136_0, hx136_1, hx136_2, hx136_3, hl136_3, hi136_3⟩ := at_T26 HR0_3.out x37_2 p136 q136
     have hw136_3 := hx136_3
     have hw136_2 := hx136_2
     have hw136_1 := hx136_1
     have hw136_0 := hx136_0
     cases e136
     replace hx136_0 := (HB.out.cell (World.block_lt_of_cell? w _ hx136_0)).trans hx136_0
     replace hx136_1 := (HB.out.cell (World.block_lt_of_cell? w _ hx136_1)).trans hx136_1
     replace hx136_2 := (HB.out.cell (World.block_lt_of_cell? w _ hx136_2)).trans hx136_2
     replace hx136_3 := (HB.out.cell (World.block_lt_of_cell? w _ hx136_3)).trans hx136_3
     have HR136_3 := Aside0.mk hi136_3
     have HC136_3 := Aside0.mk hl136_3
     clear hi136_3 hl136_3
     replace p136 := eq_true p136
     replace q136 := eq_true q136
     have p137 : 0 ≤ (x37_2 : Int) := of_decide_eq_true (by first | (with_reducible assumption) | assumption)
     have q137 : x37_2 < (l1_3.length : Int) := of_decide_eq_true (by first | (with_reducible assumption) | assumption)
     obtain ⟨ad137, A137_3, c137_3, e137, hx137_0, hx137_1, hx137_2, hx137_3, hl137_3, hi137_3⟩ := at_T26 HR1_3.out x37_2 p137 q137
     have hw137_3 := hx137_3
     have hw137_2 := hx137_2
     have hw137_1 := hx137_1
     have hw137_0 := hx137_0
     cases e137
     replace hx137_0 := (HB.out.cell (World.block_lt_of_cell? w _ hx137_0)).trans hx137_0
     replace hx137_1 := (HB.out.cell (World.block_lt_of_cell? w _ hx137_1)).trans hx137_1
     replace hx137_2 := (HB.out.cell (World.block_lt_of_cell? w _ hx137_2)).trans hx137_2
     replace hx137_3 := (HB.out.cell (World.block_lt_of_cell? w _ hx137_3)).trans hx137_3
     have HR137_3 := Aside0.mk hi137_3
     have HC137_3 := Aside0.mk hl137_3
     clear hi137_3 hl137_3
     replace p137 := eq_true p137
     replace q137 := eq_true q137
     refine start_ (n := 12) (S := fun w' => w'.cell? ⟨gb134, 0, none⟩ = some (.int .i64 a0_0) ∧ w'.cell? ⟨gb134, 1, none⟩ = some (.int .i64 a0_1) ∧ w'.cell? ⟨gb134, 2, none⟩ = some (.string a0_2) ∧ w'.cell? ⟨gb134, 3, none⟩ = some (.slice (some ad136) l0_3.length c0_3) ∧ w'.cell? ⟨gb135, 0, none⟩ = some (.int .i64 a1_0) ∧ w'.cell? ⟨gb135, 1, none⟩ = some (.int .i64 a1_1) ∧ w'.cell? ⟨gb135, 2, none⟩ = some (.string a1_2) ∧ w'.cell? ⟨gb135, 3, none⟩ = some (.slice (some ad137) l1_3.length c1_3) ∧ w'.cell? (ad136.add ((x37_2).toNat * 4)) = some (.int .i64 ((rd_T26 l0_3 x37_2).f0)) ∧ w'.cell? ⟨(ad136.add ((x37_2).toNat * 4)).block, (ad136.add ((x37_2).toNat * 4)).off + 1, none⟩ = some (.int .i64 ((rd_T26 l0_3 x37_2).f1)) ∧ w'.cell? ⟨(ad136.add ((x37_2).toNat * 4)).block, (ad136.add ((x37_2).toNat * 4)).off + 2, none⟩ = some (.string ((rd_T26 l0_3 x37_2).f2)) ∧ w'.cell? ⟨(ad136.add ((x37_2).toNat * 4)).block, (ad136.add ((x37_2).toNat * 4)).off + 3, none⟩ = some (.slice A136_3 ((rd_T26 l0_3 x37_2).f3).length c136_3) ∧ w'.cell? (ad137.add ((x37_2).toNat * 4)) = some (.int .i64 ((rd_T26 l1_3 x37_2).f0)) ∧ w'.cell? ⟨(ad137.add ((x37_2).toNat * 4)).block, (ad137.add ((x37_2).toNat * 4)).off + 1, none⟩ = some (.int .i64 ((rd_T26 l1_3 x37_2).f1)) ∧ w'.cell? ⟨(ad137.add ((x37_2).toNat * 4)).block, (ad137.add ((x37_2).toNat * 4)).off + 2, none⟩ = some (.string ((rd_T26 l1_3 x37_2).f2)) ∧ w'.cell? ⟨(ad137.add ((x37_2).toNat * 4)).block, (ad137.add ((x37_2).toNat * 4)).off + 3, none⟩ = some (.slice A137_3 ((rd_T26 l1_3 x37_2).f3).length c137_3)) (ds := []) #[false, false, false, false, false, false, false, false, false, false, false, false] (by kernel_rfl) rfl rfl ⟨(blk_cell BK134.out 0).trans rfl, (blk_cell BK134.out 1).trans rfl, (blk_cell BK134.out 2).trans rfl, (blk_cell BK134.out 3).trans rfl, (blk_cell BK135.out 0).trans rfl, (blk_cell BK135.out 1).trans rfl, (blk_cell BK135.out 2).trans rfl, (blk_cell BK135.out 3).trans rfl, ((HB.out.cell (World.block_lt_of_cell? w _ hw136_0)).trans hw136_0), ((HB.out.cell (World.block_lt_of_cell? w _ hw136_1)).trans hw136_1), ((HB.out.cell (World.block_lt_of_cell? w _ hw136_2)).trans hw136_2), ((HB.out.cell (World.block_lt_of_cell? w _ hw136_3)).trans hw136_3), ((HB.out.cell (World.block_lt_of_cell? w _ hw137_0)).trans hw137_0), ((HB.out.cell (World.block_lt_of_cell? w _ hw137_1)).trans hw137_1), ((HB.out.cell (World.block_lt_of_cell? w _ hw137_2)).trans hw137_2), ((HB.out.cell (World.block_lt_of_cell? w _ hw137_3)).trans hw137_3)⟩ (fun hHeld => ?_); refine with_tabW arith_Same.tab6 arith_Same.bits6 (fun HT_ HW_ => ?_)
     generalize wr.drew = w30 at BK134 BK135 HB HR136_3 HR137_3 hx136_0 hx136_1 hx136_2 hx136_3 hx137_0 hx137_1 hx137_2 hx137_3 hHeld ⊢
     refine pure_ (i := 0) (N := some 40) (v := ?_) (a' := ?_) #[true, false, false, false, false, false, false, false, false, false, false, false] rfl rfl (any_of HT_.out (by kernel_rfl)) (fun _ _ _ h => h) (Or.inl ⟨by rfl, ?_⟩) ?_ ?_
     rotate_left
     ·intro w'
      go_simp
      with_reducible rfl
     rotate_left
     ·simp only [Act.put, List.setIfInBounds_toArray, List.set_cons_zero, List.set_cons_succ, i64_w, i32_w]
      rfl
     refine pure_ (i := 2) (N := some 42) (v := ?_) (a' := ?_) #[true, false, true, false, false, false, false, false, false, false, false, false] rfl rfl (any_of HT_.out (by kernel_rfl)) (fun _ _ _ h => h) (Or.inl ⟨by rfl, ?_⟩) ?_ ?_
     rotate_left
     ·intro w'
      go_simp
      with_reducible rfl
     rotate_left
     ·simp only [Act.put, List.setIfInBounds_toArray, List.set_cons_zero, List.set_cons_succ, i64_w, i32_w]
      rfl
     refine pure_ (i := 5) (N := some 45) (v := ?_) (a' := ?_) #[true, false, true, false, false, true, false, false, false, false, false, false] rfl rfl (any_of HT_.out (by kernel_rfl)) (fun _ _ _ h => h) (Or.inl ⟨by rfl, ?_⟩) ?_ ?_
     rotate_left
     ·intro w'
      go_simp
      with_reducible rfl
     rotate_left
     ·simp only [Act.put, List.setIfInBounds_toArray, List.set_cons_zero, List.set_cons_succ, i64_w, i32_w]
      rfl
     refine pure_ (i := 7) (N := some 47) (v := ?_) (a' := ?_) #[true, false, true, false, false, true, false, true, false, false, false, false] rfl rfl (any_of HT_.out (by kernel_rfl)) (fun _ _ _ h => h) (Or.inl ⟨by rfl, ?_⟩) ?_ ?_
     rotate_left
     ·intro w'
      go_simp
      with_reducible rfl
     rotate_left
     ·simp only [Act.put, List.setIfInBounds_toArray, List.set_cons_zero, List.set_cons_succ, i64_w, i32_w]
      rfl
     refine take_ (i := 1) (N := some 41) (v := ?_) (a' := ?_) #[true, true, true, false, false, true, false, true, false, false, false, false] rfl rfl (take_ofW HT_.out HW_.out (by kernel_rfl)) (fun _ _ _ h => h) (Or.inl ⟨by rfl, ?_⟩) hHeld ?_ ?_
     rotate_left
     ·rintro w' ⟨s0, s1, s2, s3, s4, s5, s6, s7, s8, s9, s10, s11, s12, s13, s14, s15⟩
      go_simp
      with_reducible rfl
     rotate_left
     ·simp only [Act.put, List.setIfInBounds_toArray, List.set_cons_zero, List.set_cons_succ, i64_w, i32_w]
      rfl
     refine pure_ (i := 3) (N := some 43) (v := ?_) (a' := ?_) #[true, true, true, true, false, true, false, true, false, false, false, false] rfl rfl (any_of HT_.out (by kernel_rfl)) (fun _ _ _ h => h) (Or.inl ⟨by rfl, ?_⟩) ?_ ?_
     rotate_left
     ·intro w'
      go_simp
      with_reducible rfl
     rotate_left
     ·simp only [Act.put, List.setIfInBounds_toArray, List.set_cons_zero, List.set_cons_succ, i64_w, i32_w]
      rfl
     refine take_ (i := 4) (N := some 44) (v := ?_) (a' := ?_) #[true, true, true, true, true, true, false, true, false, false, false, false] rfl rfl (take_ofW HT_.out HW_.out (by kernel_rfl)) (fun _ _ _ h => h) (Or.inl ⟨by rfl, ?_⟩) hHeld ?_ ?_
     rotate_left
     ·rintro w' ⟨s0, s1, s2, s3, s4, s5, s6, s7, s8, s9, s10, s11, s12, s13, s14, s15⟩
      go_simp
      with_reducible rfl
     rotate_left
     ·simp only [Act.put, List.setIfInBounds_toArray, List.set_cons_zero, List.set_cons_succ, i64_w, i32_w]
      rfl
     refine take_ (i := 6) (N := some 46) (v := ?_) (a' := ?_) #[true, true, true, true, true, true, true, true, false, false, false, false] rfl rfl (take_ofW HT_.out HW_.out (by kernel_rfl)) (fun _ _ _ h => h) (Or.inl ⟨by rfl, ?_⟩) hHeld ?_ ?_
     rotate_left
     ·rintro w' ⟨s0, s1, s2, s3, s4, s5, s6, s7, s8, s9, s10, s11, s12, s13, s14, s15⟩
      go_simp
      with_reducible rfl
     rotate_left
     ·simp only [Act.put, List.setIfInBounds_toArray, List.set_cons_zero, List.set_cons_succ, i64_w, i32_w]
      rfl
     refine pure_ (i := 8) (N := some 48) (v := ?_) (a' := ?_) #[true, true, true, true, true, true, true, true, true, false, false, false] rfl rfl (any_of HT_.out (by kernel_rfl)) (fun _ _ _ h => h) (Or.inl ⟨by rfl, ?_⟩) ?_ ?_
     rotate_left
     ·intro w'
      go_simp
      with_reducible rfl
     rotate_left
     ·simp only [Act.put, List.setIfInBounds_toArray, List.set_cons_zero, List.set_cons_succ, i64_w, i32_w]
      rfl
     refine take_ (i := 9) (N := some 49) (v := ?_) (a' := ?_) #[true, true, true, true, true, true, true, true, true, true, false, false] rfl rfl (take_ofW HT_.out HW_.out (by kernel_rfl)) (fun _ _ _ h => h) (Or.inl ⟨by rfl, ?_⟩) hHeld ?_ ?_
     rotate_left
     ·rintro w' ⟨s0, s1, s2, s3, s4, s5, s6, s7, s8, s9, s10, s11, s12, s13, s14, s15⟩
      go_simp
      with_reducible rfl
     rotate_left
     ·simp only [Act.put, List.setIfInBounds_toArray, List.set_cons_zero, List.set_cons_succ, i64_w, i32_w]
      rfl
     refine one_ (i := 10) (N := some 50) #[true, true, true, true, true, true, true, true, true, true, true, false] rfl rfl (one_of HT_.out (by kernel_rfl)) (by decide) (fun K hK => ?_)
     refine goes_ Tryd.func28 (by kernel_rfl) rfl #[.agg #[.int .i64 ((rd_T26 l0_3 x37_2).f0), .int .i64 ((rd_T26 l0_3 x37_2).f1), .string ((rd_T26 l0_3 x37_2).f2), .slice A136_3 ((rd_T26 l0_3 x37_2).f3).length c136_3], .agg #[.int .i64 ((rd_T26 l1_3 x37_2).f0), .int .i64 ((rd_T26 l1_3 x37_2).f1), .string ((rd_T26 l1_3 x37_2).f2), .slice A137_3 ((rd_T26 l1_3 x37_2).f3).length c137_3]] (by rfl) rfl rfl (by (try simp only [List.map_toArray, List.map_cons, List.map_nil]); first | done | rfl | (simp only [List.length_drop, List.length_take]; rfl)) ?_
     with_reducible refine (ih k2 (by have := HJ2.out; have := HK2.out; omega) ((rd_T26 l0_3 x37_2).f0) ((rd_T26 l0_3 x37_2).f1) ((rd_T26 l0_3 x37_2).f2) _ _ ((rd_T26 l0_3 x37_2).f3) ((rd_T26 l1_3 x37_2).f0) ((rd_T26 l1_3 x37_2).f1) ((rd_T26 l1_3 x37_2).f2) _ _ ((rd_T26 l1_3 x37_2).f3) true _ ?side1 ?side2 ?side3 ?side4 A28.out).mono ?_
     (case side1 => repeat (first | exact (Kd.C_below HR136_3.out HB.out) | (with_reducible refine Kd.C_alloc ?_ _) | (with_reducible refine Kd.C_drewN ?_ _) | (with_reducible refine Kd.C_drew ?_)))
     (case side2 => exact HC136_3.out)
     (case side3 => repeat (first | exact (Kd.C_below HR137_3.out HB.out) | (with_reducible refine Kd.C_alloc ?_ _) | (with_reducible refine Kd.C_drewN ?_ _) | (with_reducible refine Kd.C_drew ?_)))
     (case side4 => exact HC137_3.out)
     rintro e w31 ⟨rfl, hb⟩
     refine ⟨_, rfl, ?_⟩
     have n0_ := Aside0.mk (blk_below (g := gb134) (o := .cells #[.int .i64 a0_0, .int .i64 a0_1, .string a0_2, .slice (some ad136) l0_3.length c0_3] 26 (0, 0)) (by (with_reducible repeat (first | refine blk_drewN ?_ _ | refine blk_drew ?_ | refine blk_alloc ?_ _)); exact BK134.out) hb)
     have n1_ := Aside0.mk (blk_below (g := gb135) (o := .cells #[.int .i64 a1_0, .int .i64 a1_1, .string a1_2, .slice (some ad137) l1_3.length c1_3] 26 (0, 0)) (by (with_reducible repeat (first | refine blk_drewN ?_ _ | refine blk_drew ?_ | refine blk_alloc ?_ _)); exact BK135.out) hb)
     have n2_ := Aside0.mk (below_step (by repeat (first | (with_reducible first | exact HB.out | apply below_alloc | apply pw_below_drewN | apply below_drew1 | refine below_set ?_ GE134.out | refine below_set ?_ GE135.out) | exact HB.out)) hb)
     clear BK134
     clear BK135
     clear HB
     have BK134 := n0_
     have BK135 := n1_
     have HB := n2_
     clear n0_ n1_ n2_
     (try clear hb)
     (try clear hb2)
     (try clear hk)
     (try clear hi)
     refine hK.out _ _ ⟨(blk_cell BK134.out 0).trans rfl, (blk_cell BK134.out 1).trans rfl, (blk_cell BK134.out 2).trans rfl, (blk_cell BK134.out 3).trans rfl, (blk_cell BK135.out 0).trans rfl, (blk_cell BK135.out 1).trans rfl, (blk_cell BK135.out 2).trans rfl, (blk_cell BK135.out 3).trans rfl, ((HB.out.cell (World.block_lt_of_cell? w _ hw136_0)).trans hw136_0), ((HB.out.cell (World.block_lt_of_cell? w _ hw136_1)).trans hw136_1), ((HB.out.cell (World.block_lt_of_cell? w _ hw136_2)).trans hw136_2), ((HB.out.cell (World.block_lt_of_cell? w _ hw136_3)).trans hw136_3), ((HB.out.cell (World.block_lt_of_cell? w _ hw137_0)).trans hw137_0), ((HB.out.cell (World.block_lt_of_cell? w _ hw137_1)).trans hw137_1), ((HB.out.cell (World.block_lt_of_cell? w _ hw137_2)).trans hw137_2), ((HB.out.cell (World.block_lt_of_cell? w _ hw137_3)).trans hw137_3)⟩ (fun hHeld => ?_)
     clear hK K
     refine norm_ (a' := ?_) ?_ ?_
     rotate_left
     ·show Act.put _ (some 50) _ = _
      simp only [Act.put, List.setIfInBounds_toArray, List.set_cons_zero, List.set_cons_succ, i64_w, i32_w]
      rfl
     refine pure_ (i := 11) (N := some 51) (v := ?_) (a' := ?_) #[true, true, true, true, true, true, true, true, true, true, true, true] rfl rfl (any_of HT_.out (by kernel_rfl)) (fun _ _ _ h => h) (Or.inl ⟨by rfl, ?_⟩) ?_ ?_
     rotate_left
     ·intro w'
      go_simp
      with_reducible rfl
     rotate_left
     ·simp only [Act.put, List.setIfInBounds_toArray, List.set_cons_zero, List.set_cons_succ, i64_w, i32_w]
      rfl
     refine done_ (done_of HT_.out (by kernel_rfl)) ?_
     try go_wp2
     go_roundg k2
     case measure => have := HJ2.out; have := HK2.out; omega
     case rel => exact ⟨(wrap64 (x37_2 + 1)), (by first | rfl | (simp; done) | (simp [*]; done)), H', ⟨by have := HJ2.out; have := HK2.out; omega⟩, ⟨by (with_reducible repeat (first | refine blk_drewN ?_ _ | refine blk_drew ?_ | refine blk_alloc ?_ _)); exact BK134.out⟩, ⟨by (with_reducible repeat (first | refine blk_drewN ?_ _ | refine blk_drew ?_ | refine blk_alloc ?_ _)); exact BK135.out⟩, ⟨by repeat (first | (with_reducible first | exact HB.out | apply below_alloc | apply pw_below_drewN | apply below_drew1 | refine below_set ?_ GE134.out | refine below_set ?_ GE135.out) | exact HB.out)⟩⟩
end Go.Proofs.YtglmdfddgmkmaaaDoor.Q
end
section
namespace Go.Proofs.YtglmdfddgmkmaaaDoor.Q
open Go.RowKit Go.Proofs.YtglmdfddgmkmaaaDoorW.PrintWords Go.Proofs.YtglmdfddgmkmaaaDoorW.PrintLast Go.Proofs.YtglmdfddgmkmaaaDoorW.PrintMore
attribute [local go_sem] max2_int min2_int max_two min_two max_three min_three max_four min_four
set_option linter.unusedVariables false
set_option linter.unusedSimpArgs false
def signs : List ByteArray := [⟨#[]⟩, ⟨#[]⟩, ⟨#[]⟩, ⟨#[45]⟩, ⟨#[43]⟩, ⟨#[33]⟩, ⟨#[126]⟩, ⟨#[42]⟩, ⟨#[47]⟩, ⟨#[37]⟩, ⟨#[43]⟩, ⟨#[45]⟩, ⟨#[60, 60]⟩, ⟨#[62, 62]⟩, ⟨#[60]⟩, ⟨#[62]⟩, ⟨#[60, 61]⟩, ⟨#[62, 61]⟩, ⟨#[61, 61]⟩, ⟨#[33, 61]⟩, ⟨#[38]⟩, ⟨#[94]⟩, ⟨#[124]⟩, ⟨#[38, 38]⟩, ⟨#[124, 124]⟩]
def arith_sign.f (a0 : Int) : Option ByteArray := if 0 ≤ a0 then signs[a0.toNat]? else none
section
variable {P : Program} {ops : Array Oper} {rest : List Oper} {o : Oper} {a : Act} {Q : Exit → Act → World → Prop}
theorem store_new_event {W : World} (hgd : o.guard = none) (t : TypeId) (p q : Operand) (hN : o.dst = none) (ho : o.op = .store t p q) {c c' : Array Value} 
 (hp : a.eval p = .pointer (some ⟨W.heap.size, 0, none⟩)) (hq : a.eval q = .agg c') (hi : (P.info? t).map (·.size) = some c'.size) (hs : c.size = c'.size) (h1 : c'.all (·.oneCell') = true) (h : ∀ W', W'.heap[W.heap.size]? = some (.cells c' t (0, 0)) → Below W.heap.size W W' → wpList P ops Q rest a W') : wpList P ops Q (o :: rest) a (W.alloc (.cells c t)) := by
 have hrun : (execOp a.eval o).run P (W.alloc (.cells c t)) = .ok .skip (W.alloc (.cells c' t)) := by
  unfold execOp
  simp only [ho, hp, hq]
  have h := run_storeAt_new (P := P) W t c c' hi hs h1
  simp only [Instr.storeAt, Instr.sureAddr, Sem.run_bind, Sem.run_pure, Result.andThen] at h ⊢
  simp [h]
 refine wpList_plain hgd fun K hK => ?_
 unfold Oper.wp
 rw [hrun]
 show K (a.put o.dst undef) _
 rw [hN]
 exact hK _ _ (h _ (heap_alloc_new W _) (below_alloc (Below.refl _ _) _))
end
set_option maxRecDepth 100000 in
set_option maxHeartbeats 2000000 in
theorem sign_at (n : Int) (h0 : 0 ≤ n) (h1 : n < 25) (r : ByteArray) (hr : signs[n.toNat]? = some r) (w : World) : Calls Tryd.prog 80 #[.int .i64 n] w fun e w' => e = .returned (.string r) ∧ Below w.heap.size w w' := by
 have hu := Tryd.underlying114
 have hu9 := Tryd.underlying9
 go_enter Tryd.func80, Tryd.ntmps80
 go_upto_region 2 with (refine store_new_event rfl 114 (.tmp 3) (.tmp 4) rfl rfl rfl rfl (by kernel_rfl) (by rfl) (by kernel_rfl) ?_; intro W hrow hB)
 have hc : W.cell? ⟨w.heap.size, n.toNat, none⟩ = some (.string r) := by
  refine (blk_cell hrow n.toNat).trans ?_
  have he : ∀ cs : Array Value, cs = (signs.map Value.string).toArray → cs[n.toNat]? = some (.string r) := by
   intro cs hcs
   subst hcs
   simp [hr]
  exact he _ rfl
 have hB' := Aside0.mk hB
 clear hB
 have p1 : (0 ≤ n) = True := eq_true h0
 have p2 : (n < 25) = True := eq_true h1
 have p3 : (n < 0) = False := eq_false (by omega)
 have p4 : (25 ≤ n) = False := eq_false (by omega)
 clear hrow
 go_wp2
 exact bodyPost_ret (results_tmp rfl _ _ _) rfl ⟨rfl, hB'.out⟩
theorem arith_sign.calls (a0 : Int) (r : ByteArray) (w : World) (h : arith_sign.f a0 = some r) : Calls Tryd.prog 80 #[.int .i64 a0] w fun e w' => e = .returned (.string r) ∧ Below w.heap.size w w' := by
 unfold arith_sign.f at h
 split at h
 ·rename_i h0
  have hl : signs.length = 25 := rfl
  have h1 : a0.toNat < signs.length := by
   rcases Nat.lt_or_ge a0.toNat signs.length with h1 | h1
   ·exact h1
   rw [List.getElem?_eq_none h1] at h
   simp at h
  exact sign_at a0 h0 (by omega) r h w
 simp at h
end Go.Proofs.YtglmdfddgmkmaaaDoor.Q
end
section
namespace Go.Proofs.YtglmdfddgmkmaaaDoor.Q
open Go.RowKit Go.Proofs.YtglmdfddgmkmaaaDoorW.PrintWords Go.Proofs.YtglmdfddgmkmaaaDoorW.PrintLast Go.Proofs.YtglmdfddgmkmaaaDoorW.PrintMore
attribute [local go_sem] max2_int min2_int max_two min_two max_three min_three max_four min_four
set_option linter.unusedVariables false
set_option linter.unusedSimpArgs false
mutual
def arith_part.j0 : Nat → Bool → Int → Int → ByteArray → List (S26) → Option (Int)
 | 0, _, _, _, _, _ => none
 | k + 1, x3, x109000, x109001, x109002, x109003 => if x109000 = 1 then (arith_part.j1 k x3 (decide (x109001 ≥ 0)) x109000 x109001 x109002 x109003) else (if x109000 = 26 then ((arith_assigns.f x109001).bind fun t109 => (arith_part.j1 k x3 t109 x109000 x109001 x109002 x109003)) else (arith_part.j1 k x3 (x109001 == 0) x109000 x109001 x109002 x109003))
def arith_part.j1 : Nat → Bool → Bool → Int → Int → ByteArray → List (S26) → Option (Int)
 | 0, _, _, _, _, _, _ => none
 | k + 1, x3, x4, x109000, x109001, x109002, x109003 => (arith_kids.f k x109000).bind fun t110 => (if t110 = (x109003.length : Int) then (if x4 = true then (arith_part.j2 k x3 (x3 != (x109002.toList != ([] : List UInt8))) x109000 x109001 x109002 x109003) else (arith_part.j2 k x3 true x109000 x109001 x109002 x109003)) else (arith_part.j2 k x3 true x109000 x109001 x109002 x109003))
def arith_part.j2 : Nat → Bool → Bool → Int → Int → ByteArray → List (S26) → Option (Int)
 | 0, _, _, _, _, _, _ => none
 | k + 1, x3, x45, x109000, x109001, x109002, x109003 => if x45 = true then (some 1) else (if x3 = true then ((chars_Name.f x109002).bind fun t111 => (if t111 = true then (some 0) else (some 10))) else (some 0))
end
def arith_part.f (k : Nat) (a0_0 : Int) (a0_1 : Int) (a0_2 : ByteArray) (l0_3 : List (S26)) : Option (Int) := if a0_0 = 2 then (arith_part.j0 k true a0_0 a0_1 a0_2 l0_3) else (arith_part.j0 k (a0_0 == 26) a0_0 a0_1 a0_2 l0_3)
theorem arith_part.mono_l : ∀ k, (∀ y0 y1 y2 y3 y4, LeO (arith_part.j0 k y0 y1 y2 y3 y4) (arith_part.j0 (k + 1) y0 y1 y2 y3 y4)) ∧ (∀ y0 y1 y2 y3 y4 y5, LeO (arith_part.j1 k y0 y1 y2 y3 y4 y5) (arith_part.j1 (k + 1) y0 y1 y2 y3 y4 y5)) ∧ (∀ y0 y1 y2 y3 y4 y5, LeO (arith_part.j2 k y0 y1 y2 y3 y4 y5) (arith_part.j2 (k + 1) y0 y1 y2 y3 y4 y5))
 | 0 => ⟨fun _ _ _ _ _ r h => by simp [arith_part.j0] at h, fun _ _ _ _ _ _ r h => by simp [arith_part.j1] at h, fun _ _ _ _ _ _ r h => by simp [arith_part.j2] at h⟩
 | k + 1 => by
  obtain ⟨ih0, ih1, ih2⟩ := arith_part.mono_l k
  refine ⟨?_, ?_, ?_⟩
  ·intro y0 y1 y2 y3 y4
   unfold arith_part.j0
   repeat' first
   | (with_reducible exact ih0 _ _ _ _ _)
   | (with_reducible exact ih1 _ _ _ _ _ _)
   | (with_reducible exact ih2 _ _ _ _ _ _)
   | (with_reducible exact arith_kids.mono _ _)
   | (with_reducible exact LeO.refl _)
   | (with_reducible exact LeO.none _)
   | (with_reducible refine LeO.ite ?_ ?_)
   | (with_reducible refine LeO.bind ?_ (fun _ => ?_))
   | exact ih0 _ _ _ _ _
   | exact ih1 _ _ _ _ _ _
   | exact ih2 _ _ _ _ _ _
   | exact arith_kids.mono _ _
   | exact LeO.none _
   | refine LeO.ite ?_ ?_
   | refine LeO.bind ?_ (fun _ => ?_)
  ·intro y0 y1 y2 y3 y4 y5
   unfold arith_part.j1
   repeat' first
   | (with_reducible exact ih0 _ _ _ _ _)
   | (with_reducible exact ih1 _ _ _ _ _ _)
   | (with_reducible exact ih2 _ _ _ _ _ _)
   | (with_reducible exact arith_kids.mono _ _)
   | (with_reducible exact LeO.refl _)
   | (with_reducible exact LeO.none _)
   | (with_reducible refine LeO.ite ?_ ?_)
   | (with_reducible refine LeO.bind ?_ (fun _ => ?_))
   | exact ih0 _ _ _ _ _
   | exact ih1 _ _ _ _ _ _
   | exact ih2 _ _ _ _ _ _
   | exact arith_kids.mono _ _
   | exact LeO.none _
   | refine LeO.ite ?_ ?_
   | refine LeO.bind ?_ (fun _ => ?_)
  ·intro y0 y1 y2 y3 y4 y5
   unfold arith_part.j2
   repeat' first
   | (with_reducible exact ih0 _ _ _ _ _)
   | (with_reducible exact ih1 _ _ _ _ _ _)
   | (with_reducible exact ih2 _ _ _ _ _ _)
   | (with_reducible exact arith_kids.mono _ _)
   | (with_reducible exact LeO.refl _)
   | (with_reducible exact LeO.none _)
   | (with_reducible refine LeO.ite ?_ ?_)
   | (with_reducible refine LeO.bind ?_ (fun _ => ?_))
   | exact ih0 _ _ _ _ _
   | exact ih1 _ _ _ _ _ _
   | exact ih2 _ _ _ _ _ _
   | exact arith_kids.mono _ _
   | exact LeO.none _
   | refine LeO.ite ?_ ?_
   | refine LeO.bind ?_ (fun _ => ?_)
theorem arith_part.mono : ∀ a0 a1 a2 a3 k, LeO (arith_part.f k a0 a1 a2 a3) (arith_part.f (k + 1) a0 a1 a2 a3) := by
 intro a0 a1 a2 a3 k
 obtain ⟨ih0, ih1, ih2⟩ := arith_part.mono_l k
 unfold arith_part.f
 repeat' first
  | (with_reducible exact ih0 _ _ _ _ _)
  | (with_reducible exact ih1 _ _ _ _ _ _)
  | (with_reducible exact ih2 _ _ _ _ _ _)
  | (with_reducible exact arith_kids.mono _ _)
  | (with_reducible exact LeO.refl _)
  | (with_reducible exact LeO.none _)
  | (with_reducible refine LeO.ite ?_ ?_)
  | (with_reducible refine LeO.bind ?_ (fun _ => ?_))
  | exact ih0 _ _ _ _ _
  | exact ih1 _ _ _ _ _ _
  | exact ih2 _ _ _ _ _ _
  | exact arith_kids.mono _ _
  | exact LeO.none _
  | refine LeO.ite ?_ ?_
  | refine LeO.bind ?_ (fun _ => ?_)
set_option maxHeartbeats 8000000 in
set_option maxRecDepth 100000 in
theorem arith_part.calls (k : Nat) (a0_0 : Int) (a0_1 : Int) (a0_2 : ByteArray) (A0_3 : Option Addr) (c0_3 : Nat) (l0_3 : List (S26)) (r : Int) (w : World) (hr0_3 : Kd.C k26 w A0_3 l0_3.length l0_3) (hc0_3 : l0_3.length ≤ c0_3) (h : arith_part.f k a0_0 a0_1 a0_2 l0_3 = some r) :
 Calls Tryd.prog 85 #[.agg #[.int .i64 a0_0, .int .i64 a0_1, .string a0_2, .slice A0_3 l0_3.length c0_3]] w fun e w' => e = .returned (.int .i64 r) ∧ Below w.heap.size w w' := by
 have hu26 := Tryd.underlying26
 have HR0_3 := Aside0.mk hr0_3
 have HC0_3 := Aside0.mk hc0_3
 clear hr0_3 hc0_3
 have HB := Aside0.mk (Below.refl w.heap.size w)
 have H : (if a0_0 = 2 then (arith_part.j0 k true a0_0 a0_1 a0_2 l0_3) else (arith_part.j0 k (a0_0 == 26) a0_0 a0_1 a0_2 l0_3)) = some r := h
 clear h
 have HC2 := Aside0.mk H
 clear H
 go_enter Tryd.func85, Tryd.ntmps85
 go_upto_region 1 with (first | ((with_reducible refine gate_dst (N := 1) rfl ?_); refine box_event ?hg (N := 1) ?hd (cs := #[.int .i64 a0_0, .int .i64 a0_1, .string a0_2, .slice A0_3 l0_3.length c0_3]) (t := 26) ?hr ?_; (case hd => rfl); (case hg => rfl); (case hr => first | (go_simp; done) | (go_simp; rfl)); intro gb108 hg w3 hbox hb; have n0_ := Aside0.mk (below_step (by repeat (first | (with_reducible first | exact HB.out | apply below_alloc | apply pw_below_drewN | apply below_drew1) | exact HB.out)) hb); have n1_ := Aside0.mk (hbox); have n2_ := Aside0.mk ((by rw [hg]; exact (below_size (by repeat (first | (with_reducible first | exact HB.out | apply below_alloc | apply pw_below_drewN | apply below_drew1) | exact HB.out))) : w.heap.size ≤ gb108)); have n3_ := Aside0.mk ((by rw [hg]; exact (below_size (by repeat (first | (with_reducible first | exact HB.out | apply below_alloc | apply pw_below_drewN | apply below_drew1) | exact HB.out))) : w.heap.size ≤ gb108)); clear HB; have HB := n0_; have BK108 := n1_; have GW108 := n2_; have GE108 := n3_; clear n0_ n1_ n2_ n3_; clear hb hbox hg))
 repeat (go_quiet (first | ((with_reducible refine gate_dst (N := 1) rfl ?_); refine box_event ?hg (N := 1) ?hd (cs := #[.int .i64 a0_0, .int .i64 a0_1, .string a0_2, .slice A0_3 l0_3.length c0_3]) (t := 26) ?hr ?_; (case hd => rfl); (case hg => rfl); (case hr => first | (go_simp; done) | (go_simp; rfl)); intro gb108 hg w3 hbox hb; have n0_ := Aside0.mk (below_step (by repeat (first | (with_reducible first | exact HB.out | apply below_alloc | apply pw_below_drewN | apply below_drew1) | exact HB.out)) hb); have n1_ := Aside0.mk (hbox); have n2_ := Aside0.mk ((by rw [hg]; exact (below_size (by repeat (first | (with_reducible first | exact HB.out | apply below_alloc | apply pw_below_drewN | apply below_drew1) | exact HB.out))) : w.heap.size ≤ gb108)); have n3_ := Aside0.mk ((by rw [hg]; exact (below_size (by repeat (first | (with_reducible first | exact HB.out | apply below_alloc | apply pw_below_drewN | apply below_drew1) | exact HB.out))) : w.heap.size ≤ gb108)); clear HB; have HB := n0_; have BK108 := n1_; have GW108 := n2_; have GE108 := n3_; clear n0_ n1_ n2_ n3_; clear hb hbox hg)); go_upto_region 1 with (first | ((with_reducible refine gate_dst (N := 1) rfl ?_); refine box_event ?hg (N := 1) ?hd (cs := #[.int .i64 a0_0, .int .i64 a0_1, .string a0_2, .slice A0_3 l0_3.length c0_3]) (t := 26) ?hr ?_; (case hd => rfl); (case hg => rfl); (case hr => first | (go_simp; done) | (go_simp; rfl)); intro gb108 hg w3 hbox hb; have n0_ := Aside0.mk (below_step (by repeat (first | (with_reducible first | exact HB.out | apply below_alloc | apply pw_below_drewN | apply below_drew1) | exact HB.out)) hb); have n1_ := Aside0.mk (hbox); have n2_ := Aside0.mk ((by rw [hg]; exact (below_size (by repeat (first | (with_reducible first | exact HB.out | apply below_alloc | apply pw_below_drewN | apply below_drew1) | exact HB.out))) : w.heap.size ≤ gb108)); have n3_ := Aside0.mk ((by rw [hg]; exact (below_size (by repeat (first | (with_reducible first | exact HB.out | apply below_alloc | apply pw_below_drewN | apply below_drew1) | exact HB.out))) : w.heap.size ≤ gb108)); clear HB; have HB := n0_; have BK108 := n1_; have GW108 := n2_; have GE108 := n3_; clear n0_ n1_ n2_ n3_; clear hb hbox hg)))
 (try simp only [Act.put, List.setIfInBounds_toArray, List.set_cons_zero, List.set_cons_succ])
 go_cut [3] (fun v3 wc => ∃ (kq : Nat) (x3_1 : Bool), v3 = .bool x3_1 ∧ Aside0 (arith_part.j0 kq x3_1 a0_0 a0_1 a0_2 l0_3 = some r) ∧ Aside0 (kq ≤ k) ∧ Aside0 (wc.heap[gb108]? = some (.cells #[.int .i64 a0_0, .int .i64 a0_1, .string a0_2, (.slice A0_3 l0_3.length c0_3)] 26 (0, 0))) ∧ Aside0 (Below w.heap.size w wc))
 case first =>
  have H := HC2.out
  clear HC2
  by_cases c4 : a0_0 = 2
  rotate_left
  ·rw [if_neg c4] at H
   have c4b0 : (a0_0 == 2) = false := beq_eq_false_iff_ne.mpr c4
   have c4b1 : (a0_0 != 2) = true := bne_iff_ne.mpr c4
   (first | rw [c4b0] | (simp only [i64_w, i32_w]; rw [c4b0]) | skip)
   have H' := Aside0.mk H
   clear H
   have hcz6_0 : w3.cell? ⟨gb108, 0, none⟩ = some (.int .i64 a0_0) := (blk_cell BK108.out 0).trans rfl
   have hcz6_1 : w3.cell? ⟨gb108, 1, none⟩ = some (.int .i64 a0_1) := (blk_cell BK108.out 1).trans rfl
   have hcz6_2 : w3.cell? ⟨gb108, 2, none⟩ = some (.string a0_2) := (blk_cell BK108.out 2).trans rfl
   have hcz6_3 : w3.cell? ⟨gb108, 3, none⟩ = some (.slice A0_3 l0_3.length c0_3) := (blk_cell BK108.out 3).trans rfl
   have hfz6_0 := blk_frozen BK108.out 0
   have hfz6_1 := blk_frozen BK108.out 1
   have hfz6_2 := blk_frozen BK108.out 2
   have hfz6_3 := blk_frozen BK108.out 3
   go_wp2
   repeat (go_quiet (fail); try go_wp2)
   go_meet
   case rel => exact ⟨_, ((a0_0 == 26)), (by first | rfl | (simp; done) | (simp [*]; done) | (cases x3_1 <;> cases a0_2.toList <;> rfl)), H', ⟨by first | omega | exact Nat.le_refl _⟩, ⟨by (with_reducible repeat (first | refine blk_drewN ?_ _ | refine blk_drew ?_ | refine blk_alloc ?_ _)); exact BK108.out⟩, ⟨by repeat (first | (with_reducible first | exact HB.out | apply below_alloc | apply pw_below_drewN | apply below_drew1 | refine below_set ?_ GE108.out) | exact HB.out)⟩⟩
  rw [if_pos c4] at H
  have c4b0 : (a0_0 == 2) = true := beq_iff_eq.mpr c4
  have c4b1 : (a0_0 != 2) = false := bne_eq_false_iff_eq.mpr c4
  clear c4
  (first | rw [c4b0] | (simp only [i64_w, i32_w]; rw [c4b0]) | skip)
  have H' := Aside0.mk H
  clear H
  have hcz5_0 : w3.cell? ⟨gb108, 0, none⟩ = some (.int .i64 a0_0) := (blk_cell BK108.out 0).trans rfl
  have hcz5_1 : w3.cell? ⟨gb108, 1, none⟩ = some (.int .i64 a0_1) := (blk_cell BK108.out 1).trans rfl
  have hcz5_2 : w3.cell? ⟨gb108, 2, none⟩ = some (.string a0_2) := (blk_cell BK108.out 2).trans rfl
  have hcz5_3 : w3.cell? ⟨gb108, 3, none⟩ = some (.slice A0_3 l0_3.length c0_3) := (blk_cell BK108.out 3).trans rfl
  have hfz5_0 := blk_frozen BK108.out 0
  have hfz5_1 := blk_frozen BK108.out 1
  have hfz5_2 := blk_frozen BK108.out 2
  have hfz5_3 := blk_frozen BK108.out 3
  go_wp2
  repeat (go_quiet (fail); try go_wp2)
  go_meet
  case rel => exact ⟨_, (true), (by first | rfl | (simp; done) | (simp [*]; done) | (cases x3_1 <;> cases a0_2.toList <;> rfl)), H', ⟨by first | omega | exact Nat.le_refl _⟩, ⟨by (with_reducible repeat (first | refine blk_drewN ?_ _ | refine blk_drew ?_ | refine blk_alloc ?_ _)); exact BK108.out⟩, ⟨by repeat (first | (with_reducible first | exact HB.out | apply below_alloc | apply pw_below_drewN | apply below_drew1 | refine below_set ?_ GE108.out) | exact HB.out)⟩⟩
 case rest =>
  clear HC2
  obtain ⟨kq, x3_1, rfl, HA, HJ1, BK108, HB⟩ := hcut
  cases kq with
  | zero => exact absurd HA.out (by simp [arith_part.j0])
  | succ kj1 =>
   have H := HA.out
   clear HA
   simp only [arith_part.j0] at H
   have HC7 := Aside0.mk H
   clear H
   have hcz8_0 : wc.cell? ⟨gb108, 0, none⟩ = some (.int .i64 a0_0) := (blk_cell BK108.out 0).trans rfl
   have hcz8_1 : wc.cell? ⟨gb108, 1, none⟩ = some (.int .i64 a0_1) := (blk_cell BK108.out 1).trans rfl
   have hcz8_2 : wc.cell? ⟨gb108, 2, none⟩ = some (.string a0_2) := (blk_cell BK108.out 2).trans rfl
   have hcz8_3 : wc.cell? ⟨gb108, 3, none⟩ = some (.slice A0_3 l0_3.length c0_3) := (blk_cell BK108.out 3).trans rfl
   have hfz8_0 := blk_frozen BK108.out 0
   have hfz8_1 := blk_frozen BK108.out 1
   have hfz8_2 := blk_frozen BK108.out 2
   have hfz8_3 := blk_frozen BK108.out 3
   go_upto_block 0 with (fail)
   repeat (go_quiet (fail); go_upto_block 0 with (fail))
   go_cut [4] (fun v4 wc => ∃ (kq : Nat) (x4_6 : Bool), v4 = .bool x4_6 ∧ Aside0 (arith_part.j1 kq x3_1 x4_6 a0_0 a0_1 a0_2 l0_3 = some r) ∧ Aside0 (kq ≤ kj1) ∧ Aside0 (wc.heap[gb108]? = some (.cells #[.int .i64 a0_0, .int .i64 a0_1, .string a0_2, (.slice A0_3 l0_3.length c0_3)] 26 (0, 0))) ∧ Aside0 (Below w.heap.size w wc))
   case first =>
    have H := HC7.out
    clear HC7
    by_cases c9 : a0_0 = 1
    ·rw [if_pos c9] at H
     have c9b0 : (a0_0 == 1) = true := beq_iff_eq.mpr c9
     have c9b1 : (a0_0 != 1) = false := bne_eq_false_iff_eq.mpr c9
     clear c9
     (first | rw [c9b0] | (simp only [i64_w, i32_w]; rw [c9b0]) | skip)
     have H' := Aside0.mk H
     clear H
     have hcz10_0 : wc.cell? ⟨gb108, 0, none⟩ = some (.int .i64 a0_0) := (blk_cell BK108.out 0).trans rfl
     have hcz10_1 : wc.cell? ⟨gb108, 1, none⟩ = some (.int .i64 a0_1) := (blk_cell BK108.out 1).trans rfl
     have hcz10_2 : wc.cell? ⟨gb108, 2, none⟩ = some (.string a0_2) := (blk_cell BK108.out 2).trans rfl
     have hcz10_3 : wc.cell? ⟨gb108, 3, none⟩ = some (.slice A0_3 l0_3.length c0_3) := (blk_cell BK108.out 3).trans rfl
     have hfz10_0 := blk_frozen BK108.out 0
     have hfz10_1 := blk_frozen BK108.out 1
     have hfz10_2 := blk_frozen BK108.out 2
     have hfz10_3 := blk_frozen BK108.out 3
     go_wp2
     repeat (go_quiet (fail); try go_wp2)
     go_meet
     case rel => exact ⟨_, (decide (a0_1 ≥ 0)), (by first | rfl | (simp; done) | (simp [*]; done) | (cases x3_1 <;> cases a0_2.toList <;> rfl)), H', ⟨by have := HJ1.out; first | omega | exact Nat.le_refl _⟩, ⟨by (with_reducible repeat (first | refine blk_drewN ?_ _ | refine blk_drew ?_ | refine blk_alloc ?_ _)); exact BK108.out⟩, ⟨by repeat (first | (with_reducible first | exact HB.out | apply below_alloc | apply pw_below_drewN | apply below_drew1 | refine below_set ?_ GE108.out) | exact HB.out)⟩⟩
    rw [if_neg c9] at H
    have c9b0 : (a0_0 == 1) = false := beq_eq_false_iff_ne.mpr c9
    have c9b1 : (a0_0 != 1) = true := bne_iff_ne.mpr c9
    (first | rw [c9b0] | (simp only [i64_w, i32_w]; rw [c9b0]) | skip)
    by_cases c11 : a0_0 = 26
    rotate_left
    ·rw [if_neg c11] at H
     have c11b0 : (a0_0 == 26) = false := beq_eq_false_iff_ne.mpr c11
     have c11b1 : (a0_0 != 26) = true := bne_iff_ne.mpr c11
     have H' := Aside0.mk H
     clear H
     go_wp2
     repeat (go_quiet (fail); try go_wp2)
     go_meet
     case rel => exact ⟨_, ((a0_1 == 0)), (by first | rfl | (simp; done) | (simp [*]; done) | (cases x3_1 <;> cases a0_2.toList <;> rfl)), H', ⟨by have := HJ1.out; first | omega | exact Nat.le_refl _⟩, ⟨by (with_reducible repeat (first | refine blk_drewN ?_ _ | refine blk_drew ?_ | refine blk_alloc ?_ _)); exact BK108.out⟩, ⟨by repeat (first | (with_reducible first | exact HB.out | apply below_alloc | apply pw_below_drewN | apply below_drew1 | refine below_set ?_ GE108.out) | exact HB.out)⟩⟩
    rw [if_pos c11] at H
    have c11b0 : (a0_0 == 26) = true := beq_iff_eq.mpr c11
    have c11b1 : (a0_0 != 26) = false := bne_eq_false_iff_eq.mpr c11
    clear c11
    replace H := Option.bind_eq_some_iff.mp H
    obtain ⟨t109, A120, H⟩ := H
    try dsimp only at H
    have A12 := Aside0.mk A120
    clear A120
    have H' := Aside0.mk H
    clear H
    have hcz13_0 : wc.cell? ⟨gb108, 0, none⟩ = some (.int .i64 a0_0) := (blk_cell BK108.out 0).trans rfl
    have hcz13_1 : wc.cell? ⟨gb108, 1, none⟩ = some (.int .i64 a0_1) := (blk_cell BK108.out 1).trans rfl
    have hcz13_2 : wc.cell? ⟨gb108, 2, none⟩ = some (.string a0_2) := (blk_cell BK108.out 2).trans rfl
    have hcz13_3 : wc.cell? ⟨gb108, 3, none⟩ = some (.slice A0_3 l0_3.length c0_3) := (blk_cell BK108.out 3).trans rfl
    have hfz13_0 := blk_frozen BK108.out 0
    have hfz13_1 := blk_frozen BK108.out 1
    have hfz13_2 := blk_frozen BK108.out 2
    have hfz13_3 := blk_frozen BK108.out 3
    go_wp2_with (first | (go_at_call 115; (with_reducible refine (arith_assigns.calls a0_1 t109 _ A12.out).mono ?_); rintro e w' ⟨rfl, ⟨nd, rfl⟩⟩; (try first | exact ⟨rfl, _, World.drewN_drewN _ _ _⟩ | exact ⟨rfl, _, Eq.trans (World.drewN_drewN _ _ _) (congrArg (World.drewN _) (Nat.add_assoc _ _ _))⟩)))
    repeat (go_quiet (first | (go_at_call 115; (with_reducible refine (arith_assigns.calls a0_1 t109 _ A12.out).mono ?_); rintro e w' ⟨rfl, ⟨nd, rfl⟩⟩; (try first | exact ⟨rfl, _, World.drewN_drewN _ _ _⟩ | exact ⟨rfl, _, Eq.trans (World.drewN_drewN _ _ _) (congrArg (World.drewN _) (Nat.add_assoc _ _ _))⟩))); try go_wp2_with (first | (go_at_call 115; (with_reducible refine (arith_assigns.calls a0_1 t109 _ A12.out).mono ?_); rintro e w' ⟨rfl, ⟨nd, rfl⟩⟩; (try first | exact ⟨rfl, _, World.drewN_drewN _ _ _⟩ | exact ⟨rfl, _, Eq.trans (World.drewN_drewN _ _ _) (congrArg (World.drewN _) (Nat.add_assoc _ _ _))⟩))))
    go_meet
    case rel => exact ⟨_, (t109), (by first | rfl | (simp; done) | (simp [*]; done) | (cases x3_1 <;> cases a0_2.toList <;> rfl)), H', ⟨by have := HJ1.out; first | omega | exact Nat.le_refl _⟩, ⟨by (with_reducible repeat (first | refine blk_drewN ?_ _ | refine blk_drew ?_ | refine blk_alloc ?_ _)); exact BK108.out⟩, ⟨by repeat (first | (with_reducible first | exact HB.out | apply below_alloc | apply pw_below_drewN | apply below_drew1 | refine below_set ?_ GE108.out) | exact HB.out)⟩⟩
   case rest =>
    clear HC7
    obtain ⟨kq, x4_6, rfl, HA, HJ6, BK108, HB⟩ := hcut
    cases kq with
    | zero => exact absurd HA.out (by simp [arith_part.j1])
    | succ kj6 =>
     have H := HA.out
     clear HA
     simp only [arith_part.j1] at H
     have HC14 := Aside0.mk H
     clear H
     go_upto_region 8 with (fail)
     repeat (go_quiet (fail); go_upto_region 8 with (fail))
     go_cut [45] (fun v45 wc => ∃ (kq : Nat) (x45_13 : Bool), v45 = .bool x45_13 ∧ Aside0 (arith_part.j2 kq x3_1 x45_13 a0_0 a0_1 a0_2 l0_3 = some r) ∧ Aside0 (kq ≤ kj6) ∧ Aside0 (wc.heap[gb108]? = some (.cells #[.int .i64 a0_0, .int .i64 a0_1, .string a0_2, (.slice A0_3 l0_3.length c0_3)] 26 (0, 0))) ∧ Aside0 (Below w.heap.size w wc))
     case first =>
      have H := HC14.out
      clear HC14
      replace H := Option.bind_eq_some_iff.mp H
      obtain ⟨t110, A150, H⟩ := H
      try dsimp only at H
      have A15 := Aside0.mk A150
      clear A150
      by_cases c16 : t110 = (l0_3.length : Int)
      rotate_left
      ·rw [if_neg c16] at H
       have c16b0 : (t110 == (l0_3.length : Int)) = false := beq_eq_false_iff_ne.mpr c16
       have c16b1 : (t110 != (l0_3.length : Int)) = true := bne_iff_ne.mpr c16
       (first | rw [c16b0] | (simp only [i64_w, i32_w]; rw [c16b0]) | skip)
       have H' := Aside0.mk H
       clear H
       have hcz20_0 : wc.cell? ⟨gb108, 0, none⟩ = some (.int .i64 a0_0) := (blk_cell BK108.out 0).trans rfl
       have hcz20_1 : wc.cell? ⟨gb108, 1, none⟩ = some (.int .i64 a0_1) := (blk_cell BK108.out 1).trans rfl
       have hcz20_2 : wc.cell? ⟨gb108, 2, none⟩ = some (.string a0_2) := (blk_cell BK108.out 2).trans rfl
       have hcz20_3 : wc.cell? ⟨gb108, 3, none⟩ = some (.slice A0_3 l0_3.length c0_3) := (blk_cell BK108.out 3).trans rfl
       have hfz20_0 := blk_frozen BK108.out 0
       have hfz20_1 := blk_frozen BK108.out 1
       have hfz20_2 := blk_frozen BK108.out 2
       have hfz20_3 := blk_frozen BK108.out 3
       go_wp2_with (first | (go_at_call 116; (with_reducible refine (arith_kids.calls kj6 a0_0 t110 _ A15.out).mono ?_); rintro e w' ⟨rfl, ⟨nd, rfl⟩⟩; (try first | exact ⟨rfl, _, World.drewN_drewN _ _ _⟩ | exact ⟨rfl, _, Eq.trans (World.drewN_drewN _ _ _) (congrArg (World.drewN _) (Nat.add_assoc _ _ _))⟩)))
       repeat (go_quiet (first | (go_at_call 116; (with_reducible refine (arith_kids.calls kj6 a0_0 t110 _ A15.out).mono ?_); rintro e w' ⟨rfl, ⟨nd, rfl⟩⟩; (try first | exact ⟨rfl, _, World.drewN_drewN _ _ _⟩ | exact ⟨rfl, _, Eq.trans (World.drewN_drewN _ _ _) (congrArg (World.drewN _) (Nat.add_assoc _ _ _))⟩))); try go_wp2_with (first | (go_at_call 116; (with_reducible refine (arith_kids.calls kj6 a0_0 t110 _ A15.out).mono ?_); rintro e w' ⟨rfl, ⟨nd, rfl⟩⟩; (try first | exact ⟨rfl, _, World.drewN_drewN _ _ _⟩ | exact ⟨rfl, _, Eq.trans (World.drewN_drewN _ _ _) (congrArg (World.drewN _) (Nat.add_assoc _ _ _))⟩))))
       go_meet
       case rel => exact ⟨_, (true), (by first | rfl | (simp; done) | (simp [*]; done) | (cases x3_1 <;> cases a0_2.toList <;> rfl)), H', ⟨by have := HJ1.out; have := HJ6.out; first | omega | exact Nat.le_refl _⟩, ⟨by (with_reducible repeat (first | refine blk_drewN ?_ _ | refine blk_drew ?_ | refine blk_alloc ?_ _)); exact BK108.out⟩, ⟨by repeat (first | (with_reducible first | exact HB.out | apply below_alloc | apply pw_below_drewN | apply below_drew1 | refine below_set ?_ GE108.out) | exact HB.out)⟩⟩
      rw [if_pos c16] at H
      have c16b0 : (t110 == (l0_3.length : Int)) = true := beq_iff_eq.mpr c16
      have c16b1 : (t110 != (l0_3.length : Int)) = false := bne_eq_false_iff_eq.mpr c16
      clear c16
      (first | rw [c16b0] | (simp only [i64_w, i32_w]; rw [c16b0]) | skip)
      by_cases c17 : x4_6 = true
      ·subst c17
       have H1 : (arith_part.j2 kj6 x3_1 (x3_1 != (a0_2.toList != ([] : List UInt8))) a0_0 a0_1 a0_2 l0_3) = some r := by rw [if_pos rfl] at H; exact H
       clear H
       have H := H1
       clear H1
       have H' := Aside0.mk H
       clear H
       have hcz18_0 : wc.cell? ⟨gb108, 0, none⟩ = some (.int .i64 a0_0) := (blk_cell BK108.out 0).trans rfl
       have hcz18_1 : wc.cell? ⟨gb108, 1, none⟩ = some (.int .i64 a0_1) := (blk_cell BK108.out 1).trans rfl
       have hcz18_2 : wc.cell? ⟨gb108, 2, none⟩ = some (.string a0_2) := (blk_cell BK108.out 2).trans rfl
       have hcz18_3 : wc.cell? ⟨gb108, 3, none⟩ = some (.slice A0_3 l0_3.length c0_3) := (blk_cell BK108.out 3).trans rfl
       have hfz18_0 := blk_frozen BK108.out 0
       have hfz18_1 := blk_frozen BK108.out 1
       have hfz18_2 := blk_frozen BK108.out 2
       have hfz18_3 := blk_frozen BK108.out 3
       go_wp2_with (first | (go_at_call 116; (with_reducible refine (arith_kids.calls kj6 a0_0 t110 _ A15.out).mono ?_); rintro e w' ⟨rfl, ⟨nd, rfl⟩⟩; (try first | exact ⟨rfl, _, World.drewN_drewN _ _ _⟩ | exact ⟨rfl, _, Eq.trans (World.drewN_drewN _ _ _) (congrArg (World.drewN _) (Nat.add_assoc _ _ _))⟩)))
       repeat (go_quiet (first | (go_at_call 116; (with_reducible refine (arith_kids.calls kj6 a0_0 t110 _ A15.out).mono ?_); rintro e w' ⟨rfl, ⟨nd, rfl⟩⟩; (try first | exact ⟨rfl, _, World.drewN_drewN _ _ _⟩ | exact ⟨rfl, _, Eq.trans (World.drewN_drewN _ _ _) (congrArg (World.drewN _) (Nat.add_assoc _ _ _))⟩))); try go_wp2_with (first | (go_at_call 116; (with_reducible refine (arith_kids.calls kj6 a0_0 t110 _ A15.out).mono ?_); rintro e w' ⟨rfl, ⟨nd, rfl⟩⟩; (try first | exact ⟨rfl, _, World.drewN_drewN _ _ _⟩ | exact ⟨rfl, _, Eq.trans (World.drewN_drewN _ _ _) (congrArg (World.drewN _) (Nat.add_assoc _ _ _))⟩))))
       go_meet
       case rel => exact ⟨_, ((x3_1 != (a0_2.toList != ([] : List UInt8)))), (by first | rfl | (simp; done) | (simp [*]; done) | (cases x3_1 <;> cases a0_2.toList <;> rfl)), H', ⟨by have := HJ1.out; have := HJ6.out; first | omega | exact Nat.le_refl _⟩, ⟨by (with_reducible repeat (first | refine blk_drewN ?_ _ | refine blk_drew ?_ | refine blk_alloc ?_ _)); exact BK108.out⟩, ⟨by repeat (first | (with_reducible first | exact HB.out | apply below_alloc | apply pw_below_drewN | apply below_drew1 | refine below_set ?_ GE108.out) | exact HB.out)⟩⟩
      replace c17 := Bool.eq_false_iff.mpr c17
      subst c17
      have H1 : (arith_part.j2 kj6 x3_1 true a0_0 a0_1 a0_2 l0_3) = some r := by rw [if_neg (show ¬ (false = true) by decide)] at H; exact H
      clear H
      have H := H1
      clear H1
      have H' := Aside0.mk H
      clear H
      have hcz19_0 : wc.cell? ⟨gb108, 0, none⟩ = some (.int .i64 a0_0) := (blk_cell BK108.out 0).trans rfl
      have hcz19_1 : wc.cell? ⟨gb108, 1, none⟩ = some (.int .i64 a0_1) := (blk_cell BK108.out 1).trans rfl
      have hcz19_2 : wc.cell? ⟨gb108, 2, none⟩ = some (.string a0_2) := (blk_cell BK108.out 2).trans rfl
      have hcz19_3 : wc.cell? ⟨gb108, 3, none⟩ = some (.slice A0_3 l0_3.length c0_3) := (blk_cell BK108.out 3).trans rfl
      have hfz19_0 := blk_frozen BK108.out 0
      have hfz19_1 := blk_frozen BK108.out 1
      have hfz19_2 := blk_frozen BK108.out 2
      have hfz19_3 := blk_frozen BK108.out 3
      go_wp2_with (first | (go_at_call 116; (with_reducible refine (arith_kids.calls kj6 a0_0 t110 _ A15.out).mono ?_); rintro e w' ⟨rfl, ⟨nd, rfl⟩⟩; (try first | exact ⟨rfl, _, World.drewN_drewN _ _ _⟩ | exact ⟨rfl, _, Eq.trans (World.drewN_drewN _ _ _) (congrArg (World.drewN _) (Nat.add_assoc _ _ _))⟩)))
      repeat (go_quiet (first | (go_at_call 116; (with_reducible refine (arith_kids.calls kj6 a0_0 t110 _ A15.out).mono ?_); rintro e w' ⟨rfl, ⟨nd, rfl⟩⟩; (try first | exact ⟨rfl, _, World.drewN_drewN _ _ _⟩ | exact ⟨rfl, _, Eq.trans (World.drewN_drewN _ _ _) (congrArg (World.drewN _) (Nat.add_assoc _ _ _))⟩))); try go_wp2_with (first | (go_at_call 116; (with_reducible refine (arith_kids.calls kj6 a0_0 t110 _ A15.out).mono ?_); rintro e w' ⟨rfl, ⟨nd, rfl⟩⟩; (try first | exact ⟨rfl, _, World.drewN_drewN _ _ _⟩ | exact ⟨rfl, _, Eq.trans (World.drewN_drewN _ _ _) (congrArg (World.drewN _) (Nat.add_assoc _ _ _))⟩))))
      go_meet
      case rel => exact ⟨_, (true), (by first | rfl | (simp; done) | (simp [*]; done) | (cases x3_1 <;> cases a0_2.toList <;> rfl)), H', ⟨by have := HJ1.out; have := HJ6.out; first | omega | exact Nat.le_refl _⟩, ⟨by (with_reducible repeat (first | refine blk_drewN ?_ _ | refine blk_drew ?_ | refine blk_alloc ?_ _)); exact BK108.out⟩, ⟨by repeat (first | (with_reducible first | exact HB.out | apply below_alloc | apply pw_below_drewN | apply below_drew1 | refine below_set ?_ GE108.out) | exact HB.out)⟩⟩
     case rest =>
      clear HC14
      obtain ⟨kq, x45_13, rfl, HA, HJ13, BK108, HB⟩ := hcut
      cases kq with
      | zero => exact absurd HA.out (by simp [arith_part.j2])
      | succ kj13 =>
       have H := HA.out
       clear HA
       simp only [arith_part.j2] at H
       by_cases c21 : x45_13 = true
       ·subst c21
        have H1 : (some 1) = some r := by rw [if_pos rfl] at H; exact H
        clear H
        have H := H1
        clear H1
        obtain rfl := Option.some.inj H
        go_wp2
        repeat (go_quiet (fail); try go_wp2)
        go_ret
        exact ⟨by first | rfl | (simp [errW_none, errW_some] <;> rfl) | (simp [*, errW_none, errW_some] <;> rfl), by repeat (first | (with_reducible first | exact HB.out | apply below_alloc | apply pw_below_drewN | apply below_drew1 | refine below_set ?_ GE108.out) | exact HB.out)⟩
       replace c21 := Bool.eq_false_iff.mpr c21
       subst c21
       have H1 : (if x3_1 = true then ((chars_Name.f a0_2).bind fun t111 => (if t111 = true then (some 0) else (some 10))) else (some 0)) = some r := by rw [if_neg (show ¬ (false = true) by decide)] at H; exact H
       clear H
       have H := H1
       clear H1
       by_cases c22 : x3_1 = true
       rotate_left
       ·replace c22 := Bool.eq_false_iff.mpr c22
        subst c22
        have H1 : (some 0) = some r := by rw [if_neg (show ¬ (false = true) by decide)] at H; exact H
        clear H
        have H := H1
        clear H1
        obtain rfl := Option.some.inj H
        go_wp2
        repeat (go_quiet (fail); try go_wp2)
        go_ret
        exact ⟨by first | rfl | (simp [errW_none, errW_some] <;> rfl) | (simp [*, errW_none, errW_some] <;> rfl), by repeat (first | (with_reducible first | exact HB.out | apply below_alloc | apply pw_below_drewN | apply below_drew1 | refine below_set ?_ GE108.out) | exact HB.out)⟩
       subst c22
       have H1 : ((chars_Name.f a0_2).bind fun t111 => (if t111 = true then (some 0) else (some 10))) = some r := by rw [if_pos rfl] at H; exact H
       clear H
       have H := H1
       clear H1
       replace H := Option.bind_eq_some_iff.mp H
       obtain ⟨t111, A230, H⟩ := H
       try dsimp only at H
       have A23 := Aside0.mk A230
       clear A230
       by_cases c24 : t111 = true
       ·subst c24
        have H1 : (some 0) = some r := by rw [if_pos rfl] at H; exact H
        clear H
        have H := H1
        clear H1
        obtain rfl := Option.some.inj H
        have hcz25_0 : wc.cell? ⟨gb108, 0, none⟩ = some (.int .i64 a0_0) := (blk_cell BK108.out 0).trans rfl
        have hcz25_1 : wc.cell? ⟨gb108, 1, none⟩ = some (.int .i64 a0_1) := (blk_cell BK108.out 1).trans rfl
        have hcz25_2 : wc.cell? ⟨gb108, 2, none⟩ = some (.string a0_2) := (blk_cell BK108.out 2).trans rfl
        have hcz25_3 : wc.cell? ⟨gb108, 3, none⟩ = some (.slice A0_3 l0_3.length c0_3) := (blk_cell BK108.out 3).trans rfl
        have hfz25_0 := blk_frozen BK108.out 0
        have hfz25_1 := blk_frozen BK108.out 1
        have hfz25_2 := blk_frozen BK108.out 2
        have hfz25_3 := blk_frozen BK108.out 3
        go_wp2_with (first | (go_at_call 117; (with_reducible refine (chars_Name.calls a0_2 true _ A23.out).mono ?_); rintro e w26 ⟨rfl, hb⟩; have n0_ := Aside0.mk (blk_below (g := gb108) (o := .cells #[.int .i64 a0_0, .int .i64 a0_1, .string a0_2, .slice A0_3 l0_3.length c0_3] 26 (0, 0)) (by (with_reducible repeat (first | refine blk_drewN ?_ _ | refine blk_drew ?_ | refine blk_alloc ?_ _)); exact BK108.out) hb); have n1_ := Aside0.mk (below_step (by repeat (first | (with_reducible first | exact HB.out | apply below_alloc | apply pw_below_drewN | apply below_drew1 | refine below_set ?_ GE108.out) | exact HB.out)) hb); clear BK108; clear HB; have BK108 := n0_; have HB := n1_; clear n0_ n1_; (try clear hb); (try clear hb2); (try clear hk); (try clear hi)))
        repeat (go_quiet (first | (go_at_call 117; (with_reducible refine (chars_Name.calls a0_2 true _ A23.out).mono ?_); rintro e w26 ⟨rfl, hb⟩; have n0_ := Aside0.mk (blk_below (g := gb108) (o := .cells #[.int .i64 a0_0, .int .i64 a0_1, .string a0_2, .slice A0_3 l0_3.length c0_3] 26 (0, 0)) (by (with_reducible repeat (first | refine blk_drewN ?_ _ | refine blk_drew ?_ | refine blk_alloc ?_ _)); exact BK108.out) hb); have n1_ := Aside0.mk (below_step (by repeat (first | (with_reducible first | exact HB.out | apply below_alloc | apply pw_below_drewN | apply below_drew1 | refine below_set ?_ GE108.out) | exact HB.out)) hb); clear BK108; clear HB; have BK108 := n0_; have HB := n1_; clear n0_ n1_; (try clear hb); (try clear hb2); (try clear hk); (try clear hi))); try go_wp2_with (first | (go_at_call 117; (with_reducible refine (chars_Name.calls a0_2 true _ A23.out).mono ?_); rintro e w26 ⟨rfl, hb⟩; have n0_ := Aside0.mk (blk_below (g := gb108) (o := .cells #[.int .i64 a0_0, .int .i64 a0_1, .string a0_2, .slice A0_3 l0_3.length c0_3] 26 (0, 0)) (by (with_reducible repeat (first | refine blk_drewN ?_ _ | refine blk_drew ?_ | refine blk_alloc ?_ _)); exact BK108.out) hb); have n1_ := Aside0.mk (below_step (by repeat (first | (with_reducible first | exact HB.out | apply below_alloc | apply pw_below_drewN | apply below_drew1 | refine below_set ?_ GE108.out) | exact HB.out)) hb); clear BK108; clear HB; have BK108 := n0_; have HB := n1_; clear n0_ n1_; (try clear hb); (try clear hb2); (try clear hk); (try clear hi))))
        go_ret
        exact ⟨by first | rfl | (simp [errW_none, errW_some] <;> rfl) | (simp [*, errW_none, errW_some] <;> rfl), by repeat (first | (with_reducible first | exact HB.out | apply below_alloc | apply pw_below_drewN | apply below_drew1 | refine below_set ?_ GE108.out) | exact HB.out)⟩
       replace c24 := Bool.eq_false_iff.mpr c24
       subst c24
       have H1 : (some 10) = some r := by rw [if_neg (show ¬ (false = true) by decide)] at H; exact H
       clear H
       have H := H1
       clear H1
       obtain rfl := Option.some.inj H
       have hcz27_0 : wc.cell? ⟨gb108, 0, none⟩ = some (.int .i64 a0_0) := (blk_cell BK108.out 0).trans rfl
       have hcz27_1 : wc.cell? ⟨gb108, 1, none⟩ = some (.int .i64 a0_1) := (blk_cell BK108.out 1).trans rfl
       have hcz27_2 : wc.cell? ⟨gb108, 2, none⟩ = some (.string a0_2) := (blk_cell BK108.out 2).trans rfl
       have hcz27_3 : wc.cell? ⟨gb108, 3, none⟩ = some (.slice A0_3 l0_3.length c0_3) := (blk_cell BK108.out 3).trans rfl
       have hfz27_0 := blk_frozen BK108.out 0
       have hfz27_1 := blk_frozen BK108.out 1
       have hfz27_2 := blk_frozen BK108.out 2
       have hfz27_3 := blk_frozen BK108.out 3
       go_wp2_with (first | (go_at_call 117; (with_reducible refine (chars_Name.calls a0_2 false _ A23.out).mono ?_); rintro e w28 ⟨rfl, hb⟩; have n0_ := Aside0.mk (blk_below (g := gb108) (o := .cells #[.int .i64 a0_0, .int .i64 a0_1, .string a0_2, .slice A0_3 l0_3.length c0_3] 26 (0, 0)) (by (with_reducible repeat (first | refine blk_drewN ?_ _ | refine blk_drew ?_ | refine blk_alloc ?_ _)); exact BK108.out) hb); have n1_ := Aside0.mk (below_step (by repeat (first | (with_reducible first | exact HB.out | apply below_alloc | apply pw_below_drewN | apply below_drew1 | refine below_set ?_ GE108.out) | exact HB.out)) hb); clear BK108; clear HB; have BK108 := n0_; have HB := n1_; clear n0_ n1_; (try clear hb); (try clear hb2); (try clear hk); (try clear hi)))
       repeat (go_quiet (first | (go_at_call 117; (with_reducible refine (chars_Name.calls a0_2 false _ A23.out).mono ?_); rintro e w28 ⟨rfl, hb⟩; have n0_ := Aside0.mk (blk_below (g := gb108) (o := .cells #[.int .i64 a0_0, .int .i64 a0_1, .string a0_2, .slice A0_3 l0_3.length c0_3] 26 (0, 0)) (by (with_reducible repeat (first | refine blk_drewN ?_ _ | refine blk_drew ?_ | refine blk_alloc ?_ _)); exact BK108.out) hb); have n1_ := Aside0.mk (below_step (by repeat (first | (with_reducible first | exact HB.out | apply below_alloc | apply pw_below_drewN | apply below_drew1 | refine below_set ?_ GE108.out) | exact HB.out)) hb); clear BK108; clear HB; have BK108 := n0_; have HB := n1_; clear n0_ n1_; (try clear hb); (try clear hb2); (try clear hk); (try clear hi))); try go_wp2_with (first | (go_at_call 117; (with_reducible refine (chars_Name.calls a0_2 false _ A23.out).mono ?_); rintro e w28 ⟨rfl, hb⟩; have n0_ := Aside0.mk (blk_below (g := gb108) (o := .cells #[.int .i64 a0_0, .int .i64 a0_1, .string a0_2, .slice A0_3 l0_3.length c0_3] 26 (0, 0)) (by (with_reducible repeat (first | refine blk_drewN ?_ _ | refine blk_drew ?_ | refine blk_alloc ?_ _)); exact BK108.out) hb); have n1_ := Aside0.mk (below_step (by repeat (first | (with_reducible first | exact HB.out | apply below_alloc | apply pw_below_drewN | apply below_drew1 | refine below_set ?_ GE108.out) | exact HB.out)) hb); clear BK108; clear HB; have BK108 := n0_; have HB := n1_; clear n0_ n1_; (try clear hb); (try clear hb2); (try clear hk); (try clear hi))))
       go_ret
       exact ⟨by first | rfl | (simp [errW_none, errW_some] <;> rfl) | (simp [*, errW_none, errW_some] <;> rfl), by repeat (first | (with_reducible first | exact HB.out | apply below_alloc | apply pw_below_drewN | apply below_drew1 | refine below_set ?_ GE108.out) | exact HB.out)⟩
mutual
def arith_valid.l0 : Nat → Int → List (S26) → Int → Int → Option (Int)
 | 0, _, _, _, _ => none
 | k + 1, x1, x17, x18, x19 => if x19 < x18 then (if 0 ≤ x19 then (if x19 < (x17.length : Int) then ((arith_valid.f k ((rd_T26 x17 x19).f0) ((rd_T26 x17 x19).f1) ((rd_T26 x17 x19).f2) ((rd_T26 x17 x19).f3) (wrap64 (x1 + 1))).bind fun t116 => (if t116 = 0 then (arith_valid.l0 k x1 x17 x18 (wrap64 (x19 + 1))) else (some t116))) else (none)) else (none)) else (some 0)
def arith_valid.f : Nat → Int → Int → ByteArray → List (S26) → Int → Option (Int)
 | 0, _, _, _, _, _ => none
 | k + 1, a0_0, a0_1, a0_2, l0_3, a1 => if a1 ≥ 32 then (some 5) else ((arith_part.f k a0_0 a0_1 a0_2 l0_3).bind fun t113 => (if t113 = 0 then (arith_valid.l0 k a1 l0_3 (l0_3.length : Int) 0) else (some t113)))
end
theorem arith_valid.mono_l : ∀ k, (∀ y0 y1 y2 y3 y4, LeO (arith_valid.f k y0 y1 y2 y3 y4) (arith_valid.f (k + 1) y0 y1 y2 y3 y4)) ∧ (∀ y0 y1 y2 y3, LeO (arith_valid.l0 k y0 y1 y2 y3) (arith_valid.l0 (k + 1) y0 y1 y2 y3))
 | 0 => ⟨fun _ _ _ _ _ r h => by simp [arith_valid.f] at h, fun _ _ _ _ r h => by simp [arith_valid.l0] at h⟩
 | k + 1 => by
  obtain ⟨ih0, ih1⟩ := arith_valid.mono_l k
  refine ⟨?_, ?_⟩
  ·intro y0 y1 y2 y3 y4
   unfold arith_valid.f
   repeat' first
   | (with_reducible exact ih0 _ _ _ _ _)
   | (with_reducible exact ih1 _ _ _ _)
   | (with_reducible exact arith_part.mono _ _ _ _ _)
   | (with_reducible exact LeO.refl _)
   | (with_reducible exact LeO.none _)
   | (with_reducible refine LeO.ite ?_ ?_)
   | (with_reducible refine LeO.bind ?_ (fun _ => ?_))
   | exact ih0 _ _ _ _ _
   | exact ih1 _ _ _ _
   | exact arith_part.mono _ _ _ _ _
   | exact LeO.none _
   | refine LeO.ite ?_ ?_
   | refine LeO.bind ?_ (fun _ => ?_)
  intro y0 y1 y2 y3
  unfold arith_valid.l0
  repeat' first
  | (with_reducible exact ih0 _ _ _ _ _)
  | (with_reducible exact ih1 _ _ _ _)
  | (with_reducible exact arith_part.mono _ _ _ _ _)
  | (with_reducible exact LeO.refl _)
  | (with_reducible exact LeO.none _)
  | (with_reducible refine LeO.ite ?_ ?_)
  | (with_reducible refine LeO.bind ?_ (fun _ => ?_))
  | exact ih0 _ _ _ _ _
  | exact ih1 _ _ _ _
  | exact arith_part.mono _ _ _ _ _
  | exact LeO.none _
  | refine LeO.ite ?_ ?_
  | refine LeO.bind ?_ (fun _ => ?_)
theorem arith_valid.mono : ∀ a0 a1 a2 a3 a4 k, LeO (arith_valid.f k a0 a1 a2 a3 a4) (arith_valid.f (k + 1) a0 a1 a2 a3 a4) := by
 intro a0 a1 a2 a3 a4 k
 obtain ⟨ih0, ih1⟩ := arith_valid.mono_l k
 exact ih0 a0 a1 a2 a3 a4
set_option maxHeartbeats 8000000 in
set_option maxRecDepth 100000 in
theorem arith_valid.calls (k : Nat) : ∀ (a0_0 : Int) (a0_1 : Int) (a0_2 : ByteArray) (A0_3 : Option Addr) (c0_3 : Nat) (l0_3 : List (S26)) (a1 : Int) (r : Int) (w : World) (hr0_3 : Kd.C k26 w A0_3 l0_3.length l0_3) (hc0_3 : l0_3.length ≤ c0_3) (h : arith_valid.f k a0_0 a0_1 a0_2 l0_3 a1 = some r),
 Calls Tryd.prog 54 #[.agg #[.int .i64 a0_0, .int .i64 a0_1, .string a0_2, .slice A0_3 l0_3.length c0_3], .int .i64 a1] w fun e w' => e = .returned (.int .i64 r) ∧ Below w.heap.size w w' := by
 induction k using Nat.strongRecOn with
 | _ k ih =>
 intro a0_0 a0_1 a0_2 A0_3 c0_3 l0_3 a1 r w hr0_3 hc0_3 h
 cases k with
 | zero => exact absurd h (by simp [arith_valid.f])
 | succ k =>
 simp only [arith_valid.f] at h
 have hu26 := Tryd.underlying26
 have HR0_3 := Aside0.mk hr0_3
 have HC0_3 := Aside0.mk hc0_3
 clear hr0_3 hc0_3
 have HB := Aside0.mk (Below.refl w.heap.size w)
 have H : (if a1 ≥ 32 then (some 5) else ((arith_part.f k a0_0 a0_1 a0_2 l0_3).bind fun t113 => (if t113 = 0 then (arith_valid.l0 k a1 l0_3 (l0_3.length : Int) 0) else (some t113)))) = some r := h
 clear h
 by_cases c3 : a1 ≥ 32
 ·rw [if_pos c3] at H
  have c3b0 : decide (32 ≤ a1) = true := decide_eq_true c3
  clear c3
  obtain rfl := Option.some.inj H
  go_enter Tryd.func54, Tryd.ntmps54
  go_wp2_with (first | ((with_reducible refine gate_dst (N := 2) rfl ?_); refine box_event ?hg (N := 2) ?hd (cs := #[.int .i64 a0_0, .int .i64 a0_1, .string a0_2, .slice A0_3 l0_3.length c0_3]) (t := 26) ?hr ?_; (case hd => rfl); (case hg => rfl); (case hr => first | (go_simp; done) | (go_simp; rfl)); intro gb112 hg w4 hbox hb; have n0_ := Aside0.mk (below_step (by repeat (first | (with_reducible first | exact HB.out | apply below_alloc | apply pw_below_drewN | apply below_drew1) | exact HB.out)) hb); have n1_ := Aside0.mk (hbox); have n2_ := Aside0.mk ((by rw [hg]; exact (below_size (by repeat (first | (with_reducible first | exact HB.out | apply below_alloc | apply pw_below_drewN | apply below_drew1) | exact HB.out))) : w.heap.size ≤ gb112)); have n3_ := Aside0.mk ((by rw [hg]; exact (below_size (by repeat (first | (with_reducible first | exact HB.out | apply below_alloc | apply pw_below_drewN | apply below_drew1) | exact HB.out))) : w.heap.size ≤ gb112)); clear HB; have HB := n0_; have BK112 := n1_; have GW112 := n2_; have GE112 := n3_; clear n0_ n1_ n2_ n3_; clear hb hbox hg))
  go_ret
  exact ⟨by first | rfl | (simp [errW_none, errW_some] <;> rfl) | (simp [*, errW_none, errW_some] <;> rfl), by repeat (first | (with_reducible first | exact HB.out | apply below_alloc | apply pw_below_drewN | apply below_drew1 | refine below_set ?_ GE112.out) | exact HB.out)⟩
 rw [if_neg c3] at H
 have c3b0 : decide (32 ≤ a1) = false := decide_eq_false c3
 clear c3
 replace H := Option.bind_eq_some_iff.mp H
 obtain ⟨t113, A50, H⟩ := H
 try dsimp only at H
 have A5 := Aside0.mk A50
 clear A50
 by_cases c6 : t113 = 0
 rotate_left
 ·rw [if_neg c6] at H
  have c6b0 : (t113 == 0) = false := beq_eq_false_iff_ne.mpr c6
  have c6b1 : (t113 != 0) = true := bne_iff_ne.mpr c6
  obtain rfl := Option.some.inj H
  go_enter Tryd.func54, Tryd.ntmps54
  go_wp2_with (first | ((with_reducible refine gate_dst (N := 2) rfl ?_); refine box_event ?hg (N := 2) ?hd (cs := #[.int .i64 a0_0, .int .i64 a0_1, .string a0_2, .slice A0_3 l0_3.length c0_3]) (t := 26) ?hr ?_; (case hd => rfl); (case hg => rfl); (case hr => first | (go_simp; done) | (go_simp; rfl)); intro gb112 hg w24 hbox hb; have n0_ := Aside0.mk (below_step (by repeat (first | (with_reducible first | exact HB.out | apply below_alloc | apply pw_below_drewN | apply below_drew1) | exact HB.out)) hb); have n1_ := Aside0.mk (hbox); have n2_ := Aside0.mk ((by rw [hg]; exact (below_size (by repeat (first | (with_reducible first | exact HB.out | apply below_alloc | apply pw_below_drewN | apply below_drew1) | exact HB.out))) : w.heap.size ≤ gb112)); have n3_ := Aside0.mk ((by rw [hg]; exact (below_size (by repeat (first | (with_reducible first | exact HB.out | apply below_alloc | apply pw_below_drewN | apply below_drew1) | exact HB.out))) : w.heap.size ≤ gb112)); clear HB; have HB := n0_; have BK112 := n1_; have GW112 := n2_; have GE112 := n3_; clear n0_ n1_ n2_ n3_; clear hb hbox hg; have hcz25_0 : w24.cell? ⟨gb112, 0, none⟩ = some (.int .i64 a0_0) := (blk_cell BK112.out 0).trans rfl; have hcz25_1 : w24.cell? ⟨gb112, 1, none⟩ = some (.int .i64 a0_1) := (blk_cell BK112.out 1).trans rfl; have hcz25_2 : w24.cell? ⟨gb112, 2, none⟩ = some (.string a0_2) := (blk_cell BK112.out 2).trans rfl; have hcz25_3 : w24.cell? ⟨gb112, 3, none⟩ = some (.slice A0_3 l0_3.length c0_3) := (blk_cell BK112.out 3).trans rfl; have hfz25_0 := blk_frozen BK112.out 0; have hfz25_1 := blk_frozen BK112.out 1; have hfz25_2 := blk_frozen BK112.out 2; have hfz25_3 := blk_frozen BK112.out 3) | ((with_reducible refine gate_callee (f := 85) rfl ?_); refine goesL_ (some 12) rfl rfl Tryd.func85 (by kernel_rfl) rfl #[.agg #[.int .i64 a0_0, .int .i64 a0_1, .string a0_2, .slice A0_3 l0_3.length c0_3]] rfl (by (try simp only [List.map_toArray, List.map_cons, List.map_nil]); first | done | rfl | (simp only [List.length_drop, List.length_take]; rfl)) ?_; (with_reducible refine (arith_part.calls k a0_0 a0_1 a0_2 _ _ l0_3 t113 _ ?side1 ?side2 A5.out).mono ?_); (case side1 => repeat (first | exact (Kd.C_below HR0_3.out HB.out) | (with_reducible refine Kd.C_alloc ?_ _) | (with_reducible refine Kd.C_drewN ?_ _) | (with_reducible refine Kd.C_drew ?_))); (case side2 => exact HC0_3.out); rintro e w26 ⟨rfl, hb⟩; refine ⟨_, rfl, ?_⟩; have n0_ := Aside0.mk (blk_below (g := gb112) (o := .cells #[.int .i64 a0_0, .int .i64 a0_1, .string a0_2, .slice A0_3 l0_3.length c0_3] 26 (0, 0)) (by (with_reducible repeat (first | refine blk_drewN ?_ _ | refine blk_drew ?_ | refine blk_alloc ?_ _)); exact BK112.out) hb); have n1_ := Aside0.mk (below_step (by repeat (first | (with_reducible first | exact HB.out | apply below_alloc | apply pw_below_drewN | apply below_drew1 | refine below_set ?_ GE112.out) | exact HB.out)) hb); clear BK112; clear HB; have BK112 := n0_; have HB := n1_; clear n0_ n1_; (try clear hb); (try clear hb2); (try clear hk); (try clear hi)))
  go_ret
  exact ⟨by first | rfl | (simp [errW_none, errW_some] <;> rfl) | (simp [*, errW_none, errW_some] <;> rfl), by repeat (first | (with_reducible first | exact HB.out | apply below_alloc | apply pw_below_drewN | apply below_drew1 | refine below_set ?_ GE112.out) | exact HB.out)⟩
 rw [if_pos c6] at H
 have c6b0 : (t113 == 0) = true := beq_iff_eq.mpr c6
 have c6b1 : (t113 != 0) = false := bne_eq_false_iff_eq.mpr c6
 clear c6
 have H' := Aside0.mk H
 clear H
 go_enter Tryd.func54, Tryd.ntmps54
 go_wp2_with (first | ((with_reducible refine gate_dst (N := 2) rfl ?_); refine box_event ?hg (N := 2) ?hd (cs := #[.int .i64 a0_0, .int .i64 a0_1, .string a0_2, .slice A0_3 l0_3.length c0_3]) (t := 26) ?hr ?_; (case hd => rfl); (case hg => rfl); (case hr => first | (go_simp; done) | (go_simp; rfl)); intro gb112 hg w7 hbox hb; have n0_ := Aside0.mk (below_step (by repeat (first | (with_reducible first | exact HB.out | apply below_alloc | apply pw_below_drewN | apply below_drew1) | exact HB.out)) hb); have n1_ := Aside0.mk (hbox); have n2_ := Aside0.mk ((by rw [hg]; exact (below_size (by repeat (first | (with_reducible first | exact HB.out | apply below_alloc | apply pw_below_drewN | apply below_drew1) | exact HB.out))) : w.heap.size ≤ gb112)); have n3_ := Aside0.mk ((by rw [hg]; exact (below_size (by repeat (first | (with_reducible first | exact HB.out | apply below_alloc | apply pw_below_drewN | apply below_drew1) | exact HB.out))) : w.heap.size ≤ gb112)); clear HB; have HB := n0_; have BK112 := n1_; have GW112 := n2_; have GE112 := n3_; clear n0_ n1_ n2_ n3_; clear hb hbox hg; have hcz8_0 : w7.cell? ⟨gb112, 0, none⟩ = some (.int .i64 a0_0) := (blk_cell BK112.out 0).trans rfl; have hcz8_1 : w7.cell? ⟨gb112, 1, none⟩ = some (.int .i64 a0_1) := (blk_cell BK112.out 1).trans rfl; have hcz8_2 : w7.cell? ⟨gb112, 2, none⟩ = some (.string a0_2) := (blk_cell BK112.out 2).trans rfl; have hcz8_3 : w7.cell? ⟨gb112, 3, none⟩ = some (.slice A0_3 l0_3.length c0_3) := (blk_cell BK112.out 3).trans rfl; have hfz8_0 := blk_frozen BK112.out 0; have hfz8_1 := blk_frozen BK112.out 1; have hfz8_2 := blk_frozen BK112.out 2; have hfz8_3 := blk_frozen BK112.out 3) | ((with_reducible refine gate_callee (f := 85) rfl ?_); refine goesL_ (some 12) rfl rfl Tryd.func85 (by kernel_rfl) rfl #[.agg #[.int .i64 a0_0, .int .i64 a0_1, .string a0_2, .slice A0_3 l0_3.length c0_3]] rfl (by (try simp only [List.map_toArray, List.map_cons, List.map_nil]); first | done | rfl | (simp only [List.length_drop, List.length_take]; rfl)) ?_; (with_reducible refine (arith_part.calls k a0_0 a0_1 a0_2 _ _ l0_3 t113 _ ?side1 ?side2 A5.out).mono ?_); (case side1 => repeat (first | exact (Kd.C_below HR0_3.out HB.out) | (with_reducible refine Kd.C_alloc ?_ _) | (with_reducible refine Kd.C_drewN ?_ _) | (with_reducible refine Kd.C_drew ?_))); (case side2 => exact HC0_3.out); rintro e w9 ⟨rfl, hb⟩; refine ⟨_, rfl, ?_⟩; have n0_ := Aside0.mk (blk_below (g := gb112) (o := .cells #[.int .i64 a0_0, .int .i64 a0_1, .string a0_2, .slice A0_3 l0_3.length c0_3] 26 (0, 0)) (by (with_reducible repeat (first | refine blk_drewN ?_ _ | refine blk_drew ?_ | refine blk_alloc ?_ _)); exact BK112.out) hb); have n1_ := Aside0.mk (below_step (by repeat (first | (with_reducible first | exact HB.out | apply below_alloc | apply pw_below_drewN | apply below_drew1 | refine below_set ?_ GE112.out) | exact HB.out)) hb); clear BK112; clear HB; have BK112 := n0_; have HB := n1_; clear n0_ n1_; (try clear hb); (try clear hb2); (try clear hk); (try clear hi); have hcz10_0 : w9.cell? ⟨gb112, 0, none⟩ = some (.int .i64 a0_0) := (blk_cell BK112.out 0).trans rfl; have hcz10_1 : w9.cell? ⟨gb112, 1, none⟩ = some (.int .i64 a0_1) := (blk_cell BK112.out 1).trans rfl; have hcz10_2 : w9.cell? ⟨gb112, 2, none⟩ = some (.string a0_2) := (blk_cell BK112.out 2).trans rfl; have hcz10_3 : w9.cell? ⟨gb112, 3, none⟩ = some (.slice A0_3 l0_3.length c0_3) := (blk_cell BK112.out 3).trans rfl; have hfz10_0 := blk_frozen BK112.out 0; have hfz10_1 := blk_frozen BK112.out 1; have hfz10_2 := blk_frozen BK112.out 2; have hfz10_3 := blk_frozen BK112.out 3))
 go_loopg [19] k (fun kq v19 w' => ∃ (x19_1 : Int), v19 = .int .i64 x19_1 ∧ Aside0 (arith_valid.l0 kq a1 l0_3 (l0_3.length : Int) x19_1 = some r) ∧ Aside0 (kq ≤ k) ∧ Aside0 (w'.heap[gb112]? = some (.cells #[.int .i64 a0_0, .int .i64 a0_1, .string a0_2, (.slice A0_3 l0_3.length c0_3)] 26 (0, 0))) ∧ Aside0 (Below w.heap.size w w'))
 case atStart => exact ⟨(0), (by first | rfl | (simp; done) | (simp [*]; done)), H', ⟨Nat.le_refl _⟩, ⟨by (with_reducible repeat (first | refine blk_drewN ?_ _ | refine blk_drew ?_ | refine blk_alloc ?_ _)); exact BK112.out⟩, ⟨by repeat (first | (with_reducible first | exact HB.out | apply below_alloc | apply pw_below_drewN | apply below_drew1 | refine below_set ?_ GE112.out) | exact HB.out)⟩⟩
 case round =>
  clear H'
  obtain ⟨x19_1, rfl, HA, HK1, BK112, HB⟩ := hrel
  cases gk with
  | zero => exact absurd HA.out (by simp [arith_valid.l0])
  | succ k1 =>
   have H := HA.out
   clear HA
   simp only [arith_valid.l0] at H
   by_cases c11 : x19_1 < (l0_3.length : Int)
   rotate_left
   ·rw [if_neg c11] at H
    have c11b0 : decide (x19_1 < (l0_3.length : Int)) = false := decide_eq_false c11
    clear c11
    obtain rfl := Option.some.inj H
    go_wp2
    go_ret
    exact ⟨by first | rfl | (simp [errW_none, errW_some] <;> rfl) | (simp [*, errW_none, errW_some] <;> rfl), by repeat (first | (with_reducible first | exact HB.out | apply below_alloc | apply pw_below_drewN | apply below_drew1 | refine below_set ?_ GE112.out) | exact HB.out)⟩
   rw [if_pos c11] at H
   have c11b0 : decide (x19_1 < (l0_3.length : Int)) = true := decide_eq_true c11
   clear c11
   by_cases c12 : 0 ≤ x19_1
   rotate_left
   ·rw [if_neg c12] at H
    exact absurd H (by simp)
   rw [if_pos c12] at H
   have c12b0 : decide (0 ≤ x19_1) = true := decide_eq_true c12
   clear c12
   by_cases c13 : x19_1 < (l0_3.length : Int)
   rotate_left
   ·rw [if_neg c13] at H
    exact absurd H (by simp)
   rw [if_pos c13] at H
   have c13b0 : decide (x19_1 < (l0_3.length : Int)) = true := decide_eq_true c13
   clear c13
   replace H := Option.bind_eq_some_iff.mp H
   obtain ⟨t116, A140, H⟩ := H
   try dsimp only at H
   have A14 := Aside0.mk A140
   clear A140
   by_cases c15 : t116 = 0
   rotate_left
   ·rw [if_neg c15] at H
    have c15b0 : (t116 == 0) = false := beq_eq_false_iff_ne.mpr c15
    have c15b1 : (t116 != 0) = true := bne_iff_ne.mpr c15
    obtain rfl := Option.some.inj H
    have p114 : 0 ≤ (x19_1 : Int) := of_decide_eq_true (by first | (with_reducible assumption) | assumption)
    have q114 : x19_1 < (l0_3.length : Int) := of_decide_eq_true (by first | (with_reducible assumption) | assumption)
    obtain ⟨ad114, A114_3, c114_3, e114, hx114_0, hx114_1, hx114_2, hx114_3, hl114_3, hi114_3⟩ := at_T26 HR0_3.out x19_1 p114 q114
    cases e114
    replace hx114_0 := (HB.out.cell (World.block_lt_of_cell? w _ hx114_0)).trans hx114_0
    replace hx114_1 := (HB.out.cell (World.block_lt_of_cell? w _ hx114_1)).trans hx114_1
    replace hx114_2 := (HB.out.cell (World.block_lt_of_cell? w _ hx114_2)).trans hx114_2
    replace hx114_3 := (HB.out.cell (World.block_lt_of_cell? w _ hx114_3)).trans hx114_3
    have HR114_3 := Aside0.mk hi114_3
    have HC114_3 := Aside0.mk hl114_3
    clear hi114_3 hl114_3
    replace p114 := eq_true p114
    replace q114 := eq_true q114
    go_wp2_with (first | ((with_reducible refine gate_dst (N := 7) rfl ?_); refine box_event ?hg (N := 7) ?hd (cs := #[.int .i64 0, .int .i64 0, .string (⟨#[]⟩ : ByteArray), .slice none 0 0]) (t := 26) ?hr ?_; (case hd => rfl); (case hg => rfl); (case hr => first | (go_simp; done) | (go_simp; rfl)); intro gb115 hg w20 hbox hb; have n0_ := Aside0.mk (blk_below (g := gb112) (o := .cells #[.int .i64 a0_0, .int .i64 a0_1, .string a0_2, .slice (some ad114) l0_3.length c0_3] 26 (0, 0)) (by (with_reducible repeat (first | refine blk_drewN ?_ _ | refine blk_drew ?_ | refine blk_alloc ?_ _)); exact BK112.out) hb); have n1_ := Aside0.mk (below_step (by repeat (first | (with_reducible first | exact HB.out | apply below_alloc | apply pw_below_drewN | apply below_drew1 | refine below_set ?_ GE112.out) | exact HB.out)) hb); have n2_ := Aside0.mk (hbox); have n3_ := Aside0.mk ((by rw [hg]; exact (below_size (by repeat (first | (with_reducible first | exact HB.out | apply below_alloc | apply pw_below_drewN | apply below_drew1 | refine below_set ?_ GE112.out) | exact HB.out))) : w.heap.size ≤ gb115)); have n4_ := Aside0.mk ((by rw [hg]; exact (below_size (by repeat (first | (with_reducible first | exact HB.out | apply below_alloc | apply pw_below_drewN | apply below_drew1 | refine below_set ?_ GE112.out) | exact HB.out))) : w.heap.size ≤ gb115)); have n5_ := Aside0.mk ((by rw [hg]; exact Nat.ne_of_lt (blk_lt (g := gb112) (o := .cells #[.int .i64 a0_0, .int .i64 a0_1, .string a0_2, .slice (some ad114) l0_3.length c0_3] 26 (0, 0)) (by (with_reducible repeat (first | refine blk_drewN ?_ _ | refine blk_drew ?_ | refine blk_alloc ?_ _)); exact BK112.out)) : gb112 ≠ gb115)); have n6_ := Aside0.mk ((by rw [hg]; exact Nat.ne_of_gt (blk_lt (g := gb112) (o := .cells #[.int .i64 a0_0, .int .i64 a0_1, .string a0_2, .slice (some ad114) l0_3.length c0_3] 26 (0, 0)) (by (with_reducible repeat (first | refine blk_drewN ?_ _ | refine blk_drew ?_ | refine blk_alloc ?_ _)); exact BK112.out)) : gb115 ≠ gb112)); clear BK112; clear HB; have BK112 := n0_; have HB := n1_; have BK115 := n2_; have GW115 := n3_; have GE115 := n4_; have NB112_115 := n5_; have NB115_112 := n6_; clear n0_ n1_ n2_ n3_ n4_ n5_ n6_; clear hb hbox hg; have hnb21 := NB115_112.out; have hnc21 := NB112_115.out; have hcz22_0 : w20.cell? ⟨gb115, 0, none⟩ = some (.int .i64 0) := (blk_cell BK115.out 0).trans rfl; have hcz22_1 : w20.cell? ⟨gb115, 1, none⟩ = some (.int .i64 0) := (blk_cell BK115.out 1).trans rfl; have hcz22_2 : w20.cell? ⟨gb115, 2, none⟩ = some (.string (⟨#[]⟩ : ByteArray)) := (blk_cell BK115.out 2).trans rfl; have hcz22_3 : w20.cell? ⟨gb115, 3, none⟩ = some (.slice none 0 0) := (blk_cell BK115.out 3).trans rfl; have hfz22_0 := blk_frozen BK115.out 0; have hfz22_1 := blk_frozen BK115.out 1; have hfz22_2 := blk_frozen BK115.out 2; have hfz22_3 := blk_frozen BK115.out 3) | ((with_reducible refine gate_callee (f := 54) rfl ?_); refine goesL_ (some 26) rfl rfl Tryd.func54 (by kernel_rfl) rfl #[.agg #[.int .i64 ((rd_T26 l0_3 x19_1).f0), .int .i64 ((rd_T26 l0_3 x19_1).f1), .string ((rd_T26 l0_3 x19_1).f2), .slice A114_3 ((rd_T26 l0_3 x19_1).f3).length c114_3], .int .i64 (wrap64 (a1 + 1))] rfl (by (try simp only [List.map_toArray, List.map_cons, List.map_nil]); first | done | rfl | (simp only [List.length_drop, List.length_take]; rfl)) ?_; (with_reducible refine (ih k1 (by have := HK1.out; omega) ((rd_T26 l0_3 x19_1).f0) ((rd_T26 l0_3 x19_1).f1) ((rd_T26 l0_3 x19_1).f2) _ _ ((rd_T26 l0_3 x19_1).f3) (wrap64 (a1 + 1)) t116 _ ?side1 ?side2 A14.out).mono ?_); (case side1 => exact Kd.C_below HR114_3.out (by repeat (first | (with_reducible first | exact HB.out | apply below_alloc | apply pw_below_drewN | apply below_drew1 | refine below_set ?_ GE112.out | refine below_set ?_ GE115.out) | exact HB.out))); (case side2 => exact HC114_3.out); rintro e w23 ⟨rfl, hb⟩; refine ⟨_, rfl, ?_⟩; have n0_ := Aside0.mk (blk_below (g := gb112) (o := .cells #[.int .i64 a0_0, .int .i64 a0_1, .string a0_2, .slice (some ad114) l0_3.length c0_3] 26 (0, 0)) (by (with_reducible repeat (first | refine blk_drewN ?_ _ | refine blk_drew ?_ | refine blk_alloc ?_ _)); refine blk_far ?_ NB112_115.out _; (with_reducible repeat (first | refine blk_drewN ?_ _ | refine blk_drew ?_ | refine blk_alloc ?_ _)); refine blk_far ?_ NB112_115.out _; (with_reducible repeat (first | refine blk_drewN ?_ _ | refine blk_drew ?_ | refine blk_alloc ?_ _)); refine blk_far ?_ NB112_115.out _; (with_reducible repeat (first | refine blk_drewN ?_ _ | refine blk_drew ?_ | refine blk_alloc ?_ _)); refine blk_far ?_ NB112_115.out _; (with_reducible repeat (first | refine blk_drewN ?_ _ | refine blk_drew ?_ | refine blk_alloc ?_ _)); exact BK112.out) hb); have n1_ := Aside0.mk (blk_below (g := gb115) (o := .cells #[.int .i64 ((rd_T26 l0_3 x19_1).f0), .int .i64 ((rd_T26 l0_3 x19_1).f1), .string ((rd_T26 l0_3 x19_1).f2), .slice A114_3 ((rd_T26 l0_3 x19_1).f3).length c114_3] 26 (0, 0)) (by (with_reducible repeat (first | refine blk_drewN ?_ _ | refine blk_drew ?_ | refine blk_alloc ?_ _)); refine blk_put (cs := #[.int .i64 ((rd_T26 l0_3 x19_1).f0), .int .i64 ((rd_T26 l0_3 x19_1).f1), .string ((rd_T26 l0_3 x19_1).f2), .slice none 0 0]) ?_ 3 _ rfl; (with_reducible repeat (first | refine blk_drewN ?_ _ | refine blk_drew ?_ | refine blk_alloc ?_ _)); refine blk_put (cs := #[.int .i64 ((rd_T26 l0_3 x19_1).f0), .int .i64 ((rd_T26 l0_3 x19_1).f1), .string (⟨#[]⟩ : ByteArray), .slice none 0 0]) ?_ 2 _ rfl; (with_reducible repeat (first | refine blk_drewN ?_ _ | refine blk_drew ?_ | refine blk_alloc ?_ _)); refine blk_put (cs := #[.int .i64 ((rd_T26 l0_3 x19_1).f0), .int .i64 0, .string (⟨#[]⟩ : ByteArray), .slice none 0 0]) ?_ 1 _ rfl; (with_reducible repeat (first | refine blk_drewN ?_ _ | refine blk_drew ?_ | refine blk_alloc ?_ _)); refine blk_put (cs := #[.int .i64 0, .int .i64 0, .string (⟨#[]⟩ : ByteArray), .slice none 0 0]) ?_ 0 _ rfl; (with_reducible repeat (first | refine blk_drewN ?_ _ | refine blk_drew ?_ | refine blk_alloc ?_ _)); exact BK115.out) hb); have n2_ := Aside0.mk (below_step (by repeat (first | (with_reducible first | exact HB.out | apply below_alloc | apply pw_below_drewN | apply below_drew1 | refine below_set ?_ GE112.out | refine below_set ?_ GE115.out) | exact HB.out)) hb); clear BK112; clear BK115; clear HB; have BK112 := n0_; have BK115 := n1_; have HB := n2_; clear n0_ n1_ n2_; (try clear hb); (try clear hb2); (try clear hk); (try clear hi)))
    go_ret
    exact ⟨by first | rfl | (simp [errW_none, errW_some] <;> rfl) | (simp [*, errW_none, errW_some] <;> rfl), by repeat (first | (with_reducible first | exact HB.out | apply below_alloc | apply pw_below_drewN | apply below_drew1 | refine below_set ?_ GE112.out | refine below_set ?_ GE115.out) | exact HB.out)⟩
   rw [if_pos c15] at H
   have c15b0 : (t116 == 0) = true := beq_iff_eq.mpr c15
   have c15b1 : (t116 != 0) = false := bne_eq_false_iff_eq.mpr c15
   clear c15
   have H' := Aside0.mk H
   clear H
   have p114 : 0 ≤ (x19_1 : Int) := of_decide_eq_true (by first | (with_reducible assumption) | assumption)
   have q114 : x19_1 < (l0_3.length : Int) := of_decide_eq_true (by first | (with_reducible assumption) | assumption)
   obtain ⟨ad114, A114_3, c114_3, e114, hx114_0, hx114_1, hx114_2, hx114_3, hl114_3, hi114_3⟩ := at_T26 HR0_3.out x19_1 p114 q114
   cases e114
   replace hx114_0 := (HB.out.cell (World.block_lt_of_cell? w _ hx114_0)).trans hx114_0
   replace hx114_1 := (HB.out.cell (World.block_lt_of_cell? w _ hx114_1)).trans hx114_1
   replace hx114_2 := (HB.out.cell (World.block_lt_of_cell? w _ hx114_2)).trans hx114_2
   replace hx114_3 := (HB.out.cell (World.block_lt_of_cell? w _ hx114_3)).trans hx114_3
   have HR114_3 := Aside0.mk hi114_3
   have HC114_3 := Aside0.mk hl114_3
   clear hi114_3 hl114_3
   replace p114 := eq_true p114
   replace q114 := eq_true q114
   go_wp2_with (first | ((with_reducible refine gate_dst (N := 7) rfl ?_); refine box_event ?hg (N := 7) ?hd (cs := #[.int .i64 0, .int .i64 0, .string (⟨#[]⟩ : ByteArray), .slice none 0 0]) (t := 26) ?hr ?_; (case hd => rfl); (case hg => rfl); (case hr => first | (go_simp; done) | (go_simp; rfl)); intro gb115 hg w16 hbox hb; have n0_ := Aside0.mk (blk_below (g := gb112) (o := .cells #[.int .i64 a0_0, .int .i64 a0_1, .string a0_2, .slice (some ad114) l0_3.length c0_3] 26 (0, 0)) (by (with_reducible repeat (first | refine blk_drewN ?_ _ | refine blk_drew ?_ | refine blk_alloc ?_ _)); exact BK112.out) hb); have n1_ := Aside0.mk (below_step (by repeat (first | (with_reducible first | exact HB.out | apply below_alloc | apply pw_below_drewN | apply below_drew1 | refine below_set ?_ GE112.out) | exact HB.out)) hb); have n2_ := Aside0.mk (hbox); have n3_ := Aside0.mk ((by rw [hg]; exact (below_size (by repeat (first | (with_reducible first | exact HB.out | apply below_alloc | apply pw_below_drewN | apply below_drew1 | refine below_set ?_ GE112.out) | exact HB.out))) : w.heap.size ≤ gb115)); have n4_ := Aside0.mk ((by rw [hg]; exact (below_size (by repeat (first | (with_reducible first | exact HB.out | apply below_alloc | apply pw_below_drewN | apply below_drew1 | refine below_set ?_ GE112.out) | exact HB.out))) : w.heap.size ≤ gb115)); have n5_ := Aside0.mk ((by rw [hg]; exact Nat.ne_of_lt (blk_lt (g := gb112) (o := .cells #[.int .i64 a0_0, .int .i64 a0_1, .string a0_2, .slice (some ad114) l0_3.length c0_3] 26 (0, 0)) (by (with_reducible repeat (first | refine blk_drewN ?_ _ | refine blk_drew ?_ | refine blk_alloc ?_ _)); exact BK112.out)) : gb112 ≠ gb115)); have n6_ := Aside0.mk ((by rw [hg]; exact Nat.ne_of_gt (blk_lt (g := gb112) (o := .cells #[.int .i64 a0_0, .int .i64 a0_1, .string a0_2, .slice (some ad114) l0_3.length c0_3] 26 (0, 0)) (by (with_reducible repeat (first | refine blk_drewN ?_ _ | refine blk_drew ?_ | refine blk_alloc ?_ _)); exact BK112.out)) : gb115 ≠ gb112)); clear BK112; clear HB; have BK112 := n0_; have HB := n1_; have BK115 := n2_; have GW115 := n3_; have GE115 := n4_; have NB112_115 := n5_; have NB115_112 := n6_; clear n0_ n1_ n2_ n3_ n4_ n5_ n6_; clear hb hbox hg; have hnb17 := NB115_112.out; have hnc17 := NB112_115.out; have hcz18_0 : w16.cell? ⟨gb115, 0, none⟩ = some (.int .i64 0) := (blk_cell BK115.out 0).trans rfl; have hcz18_1 : w16.cell? ⟨gb115, 1, none⟩ = some (.int .i64 0) := (blk_cell BK115.out 1).trans rfl; have hcz18_2 : w16.cell? ⟨gb115, 2, none⟩ = some (.string (⟨#[]⟩ : ByteArray)) := (blk_cell BK115.out 2).trans rfl; have hcz18_3 : w16.cell? ⟨gb115, 3, none⟩ = some (.slice none 0 0) := (blk_cell BK115.out 3).trans rfl; have hfz18_0 := blk_frozen BK115.out 0; have hfz18_1 := blk_frozen BK115.out 1; have hfz18_2 := blk_frozen BK115.out 2; have hfz18_3 := blk_frozen BK115.out 3) | ((with_reducible refine gate_callee (f := 54) rfl ?_); refine goesL_ (some 26) rfl rfl Tryd.func54 (by kernel_rfl) rfl #[.agg #[.int .i64 ((rd_T26 l0_3 x19_1).f0), .int .i64 ((rd_T26 l0_3 x19_1).f1), .string ((rd_T26 l0_3 x19_1).f2), .slice A114_3 ((rd_T26 l0_3 x19_1).f3).length c114_3], .int .i64 (wrap64 (a1 + 1))] rfl (by (try simp only [List.map_toArray, List.map_cons, List.map_nil]); first | done | rfl | (simp only [List.length_drop, List.length_take]; rfl)) ?_; (with_reducible refine (ih k1 (by have := HK1.out; omega) ((rd_T26 l0_3 x19_1).f0) ((rd_T26 l0_3 x19_1).f1) ((rd_T26 l0_3 x19_1).f2) _ _ ((rd_T26 l0_3 x19_1).f3) (wrap64 (a1 + 1)) t116 _ ?side1 ?side2 A14.out).mono ?_); (case side1 => exact Kd.C_below HR114_3.out (by repeat (first | (with_reducible first | exact HB.out | apply below_alloc | apply pw_below_drewN | apply below_drew1 | refine below_set ?_ GE112.out | refine below_set ?_ GE115.out) | exact HB.out))); (case side2 => exact HC114_3.out); rintro e w19 ⟨rfl, hb⟩; refine ⟨_, rfl, ?_⟩; have n0_ := Aside0.mk (blk_below (g := gb112) (o := .cells #[.int .i64 a0_0, .int .i64 a0_1, .string a0_2, .slice (some ad114) l0_3.length c0_3] 26 (0, 0)) (by (with_reducible repeat (first | refine blk_drewN ?_ _ | refine blk_drew ?_ | refine blk_alloc ?_ _)); refine blk_far ?_ NB112_115.out _; (with_reducible repeat (first | refine blk_drewN ?_ _ | refine blk_drew ?_ | refine blk_alloc ?_ _)); refine blk_far ?_ NB112_115.out _; (with_reducible repeat (first | refine blk_drewN ?_ _ | refine blk_drew ?_ | refine blk_alloc ?_ _)); refine blk_far ?_ NB112_115.out _; (with_reducible repeat (first | refine blk_drewN ?_ _ | refine blk_drew ?_ | refine blk_alloc ?_ _)); refine blk_far ?_ NB112_115.out _; (with_reducible repeat (first | refine blk_drewN ?_ _ | refine blk_drew ?_ | refine blk_alloc ?_ _)); exact BK112.out) hb); have n1_ := Aside0.mk (blk_below (g := gb115) (o := .cells #[.int .i64 ((rd_T26 l0_3 x19_1).f0), .int .i64 ((rd_T26 l0_3 x19_1).f1), .string ((rd_T26 l0_3 x19_1).f2), .slice A114_3 ((rd_T26 l0_3 x19_1).f3).length c114_3] 26 (0, 0)) (by (with_reducible repeat (first | refine blk_drewN ?_ _ | refine blk_drew ?_ | refine blk_alloc ?_ _)); refine blk_put (cs := #[.int .i64 ((rd_T26 l0_3 x19_1).f0), .int .i64 ((rd_T26 l0_3 x19_1).f1), .string ((rd_T26 l0_3 x19_1).f2), .slice none 0 0]) ?_ 3 _ rfl; (with_reducible repeat (first | refine blk_drewN ?_ _ | refine blk_drew ?_ | refine blk_alloc ?_ _)); refine blk_put (cs := #[.int .i64 ((rd_T26 l0_3 x19_1).f0), .int .i64 ((rd_T26 l0_3 x19_1).f1), .string (⟨#[]⟩ : ByteArray), .slice none 0 0]) ?_ 2 _ rfl; (with_reducible repeat (first | refine blk_drewN ?_ _ | refine blk_drew ?_ | refine blk_alloc ?_ _)); refine blk_put (cs := #[.int .i64 ((rd_T26 l0_3 x19_1).f0), .int .i64 0, .string (⟨#[]⟩ : ByteArray), .slice none 0 0]) ?_ 1 _ rfl; (with_reducible repeat (first | refine blk_drewN ?_ _ | refine blk_drew ?_ | refine blk_alloc ?_ _)); refine blk_put (cs := #[.int .i64 0, .int .i64 0, .string (⟨#[]⟩ : ByteArray), .slice none 0 0]) ?_ 0 _ rfl; (with_reducible repeat (first | refine blk_drewN ?_ _ | refine blk_drew ?_ | refine blk_alloc ?_ _)); exact BK115.out) hb); have n2_ := Aside0.mk (below_step (by repeat (first | (with_reducible first | exact HB.out | apply below_alloc | apply pw_below_drewN | apply below_drew1 | refine below_set ?_ GE112.out | refine below_set ?_ GE115.out) | exact HB.out)) hb); clear BK112; clear BK115; clear HB; have BK112 := n0_; have BK115 := n1_; have HB := n2_; clear n0_ n1_ n2_; (try clear hb); (try clear hb2); (try clear hk); (try clear hi)))
   go_roundg k1
   case measure => have := HK1.out; omega
   case rel => exact ⟨(wrap64 (x19_1 + 1)), (by first | rfl | (simp; done) | (simp [*]; done)), H', ⟨by have := HK1.out; omega⟩, ⟨by (with_reducible repeat (first | refine blk_drewN ?_ _ | refine blk_drew ?_ | refine blk_alloc ?_ _)); exact BK112.out⟩, ⟨by repeat (first | (with_reducible first | exact HB.out | apply below_alloc | apply pw_below_drewN | apply below_drew1 | refine below_set ?_ GE112.out | refine below_set ?_ GE115.out) | exact HB.out)⟩⟩
def arith_Valid.f (k : Nat) (a0_0 : Int) (a0_1 : Int) (a0_2 : ByteArray) (l0_3 : List (S26)) : Option (Int) := (arith_valid.f k a0_0 a0_1 a0_2 l0_3 0).bind fun t118 => (some t118)
theorem arith_Valid.mono : ∀ a0 a1 a2 a3 k, LeO (arith_Valid.f k a0 a1 a2 a3) (arith_Valid.f (k + 1) a0 a1 a2 a3) := by
 intro a0 a1 a2 a3 k
 unfold arith_Valid.f
 repeat' first
  | (with_reducible exact arith_valid.mono _ _ _ _ _ _)
  | (with_reducible exact LeO.refl _)
  | (with_reducible exact LeO.none _)
  | (with_reducible refine LeO.ite ?_ ?_)
  | (with_reducible refine LeO.bind ?_ (fun _ => ?_))
  | exact arith_valid.mono _ _ _ _ _ _
  | exact LeO.none _
  | refine LeO.ite ?_ ?_
  | refine LeO.bind ?_ (fun _ => ?_)
set_option maxHeartbeats 8000000 in
set_option maxRecDepth 100000 in
theorem arith_Valid.calls (k : Nat) (a0_0 : Int) (a0_1 : Int) (a0_2 : ByteArray) (A0_3 : Option Addr) (c0_3 : Nat) (l0_3 : List (S26)) (r : Int) (w : World) (hr0_3 : Kd.C k26 w A0_3 l0_3.length l0_3) (hc0_3 : l0_3.length ≤ c0_3) (h : arith_Valid.f k a0_0 a0_1 a0_2 l0_3 = some r) :
 Calls Tryd.prog 24 #[.agg #[.int .i64 a0_0, .int .i64 a0_1, .string a0_2, .slice A0_3 l0_3.length c0_3]] w fun e w' => e = .returned (.int .i64 r) ∧ Below w.heap.size w w' := by
 have hu26 := Tryd.underlying26
 have HR0_3 := Aside0.mk hr0_3
 have HC0_3 := Aside0.mk hc0_3
 clear hr0_3 hc0_3
 have HB := Aside0.mk (Below.refl w.heap.size w)
 have H : ((arith_valid.f k a0_0 a0_1 a0_2 l0_3 0).bind fun t118 => (some t118)) = some r := h
 clear h
 replace H := Option.bind_eq_some_iff.mp H
 obtain ⟨t118, A20, H⟩ := H
 try dsimp only at H
 have A2 := Aside0.mk A20
 clear A20
 obtain rfl := Option.some.inj H
 go_enter Tryd.func24, Tryd.ntmps24
 go_wp2_with (first | ((with_reducible refine gate_dst (N := 1) rfl ?_); refine box_event ?hg (N := 1) ?hd (cs := #[.int .i64 a0_0, .int .i64 a0_1, .string a0_2, .slice A0_3 l0_3.length c0_3]) (t := 26) ?hr ?_; (case hd => rfl); (case hg => rfl); (case hr => first | (go_simp; done) | (go_simp; rfl)); intro gb117 hg w3 hbox hb; have n0_ := Aside0.mk (below_step (by repeat (first | (with_reducible first | exact HB.out | apply below_alloc | apply pw_below_drewN | apply below_drew1) | exact HB.out)) hb); have n1_ := Aside0.mk (hbox); have n2_ := Aside0.mk ((by rw [hg]; exact (below_size (by repeat (first | (with_reducible first | exact HB.out | apply below_alloc | apply pw_below_drewN | apply below_drew1) | exact HB.out))) : w.heap.size ≤ gb117)); have n3_ := Aside0.mk ((by rw [hg]; exact (below_size (by repeat (first | (with_reducible first | exact HB.out | apply below_alloc | apply pw_below_drewN | apply below_drew1) | exact HB.out))) : w.heap.size ≤ gb117)); clear HB; have HB := n0_; have BK117 := n1_; have GW117 := n2_; have GE117 := n3_; clear n0_ n1_ n2_ n3_; clear hb hbox hg; have hcz4_0 : w3.cell? ⟨gb117, 0, none⟩ = some (.int .i64 a0_0) := (blk_cell BK117.out 0).trans rfl; have hcz4_1 : w3.cell? ⟨gb117, 1, none⟩ = some (.int .i64 a0_1) := (blk_cell BK117.out 1).trans rfl; have hcz4_2 : w3.cell? ⟨gb117, 2, none⟩ = some (.string a0_2) := (blk_cell BK117.out 2).trans rfl; have hcz4_3 : w3.cell? ⟨gb117, 3, none⟩ = some (.slice A0_3 l0_3.length c0_3) := (blk_cell BK117.out 3).trans rfl; have hfz4_0 := blk_frozen BK117.out 0; have hfz4_1 := blk_frozen BK117.out 1; have hfz4_2 := blk_frozen BK117.out 2; have hfz4_3 := blk_frozen BK117.out 3) | ((with_reducible refine gate_callee (f := 54) rfl ?_); refine goesL_ (some 4) rfl rfl Tryd.func54 (by kernel_rfl) rfl #[.agg #[.int .i64 a0_0, .int .i64 a0_1, .string a0_2, .slice A0_3 l0_3.length c0_3], .int .i64 0] rfl (by (try simp only [List.map_toArray, List.map_cons, List.map_nil]); first | done | rfl | (simp only [List.length_drop, List.length_take]; rfl)) ?_; (with_reducible refine (arith_valid.calls k a0_0 a0_1 a0_2 _ _ l0_3 0 t118 _ ?side1 ?side2 A2.out).mono ?_); (case side1 => repeat (first | exact (Kd.C_below HR0_3.out HB.out) | (with_reducible refine Kd.C_alloc ?_ _) | (with_reducible refine Kd.C_drewN ?_ _) | (with_reducible refine Kd.C_drew ?_))); (case side2 => exact HC0_3.out); rintro e w5 ⟨rfl, hb⟩; refine ⟨_, rfl, ?_⟩; have n0_ := Aside0.mk (blk_below (g := gb117) (o := .cells #[.int .i64 a0_0, .int .i64 a0_1, .string a0_2, .slice A0_3 l0_3.length c0_3] 26 (0, 0)) (by (with_reducible repeat (first | refine blk_drewN ?_ _ | refine blk_drew ?_ | refine blk_alloc ?_ _)); exact BK117.out) hb); have n1_ := Aside0.mk (below_step (by repeat (first | (with_reducible first | exact HB.out | apply below_alloc | apply pw_below_drewN | apply below_drew1 | refine below_set ?_ GE117.out) | exact HB.out)) hb); clear BK117; clear HB; have BK117 := n0_; have HB := n1_; clear n0_ n1_; (try clear hb); (try clear hb2); (try clear hk); (try clear hi)))
 go_ret
 exact ⟨by first | rfl | (simp [errW_none, errW_some] <;> rfl) | (simp [*, errW_none, errW_some] <;> rfl), by repeat (first | (with_reducible first | exact HB.out | apply below_alloc | apply pw_below_drewN | apply below_drew1 | refine below_set ?_ GE117.out) | exact HB.out)⟩
mutual
def arith_height.j0 : Nat → Int → Int → Bool → Option (Int)
 | 0, _, _, _ => none
 | k + 1, x0, x5, x10 => if x10 = true then (some 14) else (if x5 = 3 then (arith_height.j1 k x0 (x5 == 3)) else (if x5 = 4 then (arith_height.j1 k x0 (x5 == 4)) else (if x5 = 5 then (arith_height.j1 k x0 (x5 == 5)) else (arith_height.j1 k x0 (x5 == 6)))))
def arith_height.j1 : Nat → Int → Bool → Option (Int)
 | 0, _, _ => none
 | k + 1, x0, x13 => if x13 = true then (some 13) else ((arith_sign.f x0).bind fun t119 => ((arith_binary.f t119).bind fun bt120 => (some bt120.2)))
end
def arith_height.f (k : Nat) (a0 : Int) : Option (Int) := if a0 = 26 then (some 1) else (if a0 = 25 then (some 2) else (if a0 = 1 then (arith_height.j0 k a0 a0 (a0 == 1)) else (arith_height.j0 k a0 a0 (a0 == 2))))
theorem arith_height.mono_l : ∀ k, (∀ y0 y1 y2, LeO (arith_height.j0 k y0 y1 y2) (arith_height.j0 (k + 1) y0 y1 y2)) ∧ (∀ y0 y1, LeO (arith_height.j1 k y0 y1) (arith_height.j1 (k + 1) y0 y1))
 | 0 => ⟨fun _ _ _ r h => by simp [arith_height.j0] at h, fun _ _ r h => by simp [arith_height.j1] at h⟩
 | k + 1 => by
  obtain ⟨ih0, ih1⟩ := arith_height.mono_l k
  refine ⟨?_, ?_⟩
  ·intro y0 y1 y2
   unfold arith_height.j0
   repeat' first
   | (with_reducible exact ih0 _ _ _)
   | (with_reducible exact ih1 _ _)
   | (with_reducible exact LeO.refl _)
   | (with_reducible exact LeO.none _)
   | (with_reducible refine LeO.ite ?_ ?_)
   | (with_reducible refine LeO.bind ?_ (fun _ => ?_))
   | exact ih0 _ _ _
   | exact ih1 _ _
   | exact LeO.none _
   | refine LeO.ite ?_ ?_
   | refine LeO.bind ?_ (fun _ => ?_)
  intro y0 y1
  unfold arith_height.j1
  repeat' first
  | (with_reducible exact ih0 _ _ _)
  | (with_reducible exact ih1 _ _)
  | (with_reducible exact LeO.refl _)
  | (with_reducible exact LeO.none _)
  | (with_reducible refine LeO.ite ?_ ?_)
  | (with_reducible refine LeO.bind ?_ (fun _ => ?_))
  | exact ih0 _ _ _
  | exact ih1 _ _
  | exact LeO.none _
  | refine LeO.ite ?_ ?_
  | refine LeO.bind ?_ (fun _ => ?_)
theorem arith_height.mono : ∀ a0 k, LeO (arith_height.f k a0) (arith_height.f (k + 1) a0) := by
 intro a0 k
 obtain ⟨ih0, ih1⟩ := arith_height.mono_l k
 unfold arith_height.f
 repeat' first
  | (with_reducible exact ih0 _ _ _)
  | (with_reducible exact ih1 _ _)
  | (with_reducible exact LeO.refl _)
  | (with_reducible exact LeO.none _)
  | (with_reducible refine LeO.ite ?_ ?_)
  | (with_reducible refine LeO.bind ?_ (fun _ => ?_))
  | exact ih0 _ _ _
  | exact ih1 _ _
  | exact LeO.none _
  | refine LeO.ite ?_ ?_
  | refine LeO.bind ?_ (fun _ => ?_)
set_option maxHeartbeats 8000000 in
set_option maxRecDepth 100000 in
theorem arith_height.calls (k : Nat) (a0 : Int) (r : Int) (w : World) (h : arith_height.f k a0 = some r) :
 Calls Tryd.prog 79 #[.int .i64 a0] w fun e w' => e = .returned (.int .i64 r) ∧ Below w.heap.size w w' := by
 have HB := Aside0.mk (Below.refl w.heap.size w)
 have H : (if a0 = 26 then (some 1) else (if a0 = 25 then (some 2) else (if a0 = 1 then (arith_height.j0 k a0 a0 (a0 == 1)) else (arith_height.j0 k a0 a0 (a0 == 2))))) = some r := h
 clear h
 by_cases c2 : a0 = 26
 ·rw [if_pos c2] at H
  have c2b0 : (a0 == 26) = true := beq_iff_eq.mpr c2
  have c2b1 : (a0 != 26) = false := bne_eq_false_iff_eq.mpr c2
  clear c2
  obtain rfl := Option.some.inj H
  go_enter Tryd.func79, Tryd.ntmps79
  go_wp2
  go_ret
  exact ⟨by first | rfl | (simp [errW_none, errW_some] <;> rfl) | (simp [*, errW_none, errW_some] <;> rfl), by repeat (first | (with_reducible first | exact HB.out | apply below_alloc | apply pw_below_drewN | apply below_drew1) | exact HB.out)⟩
 rw [if_neg c2] at H
 have c2b0 : (a0 == 26) = false := beq_eq_false_iff_ne.mpr c2
 have c2b1 : (a0 != 26) = true := bne_iff_ne.mpr c2
 by_cases c3 : a0 = 25
 ·rw [if_pos c3] at H
  have c3b0 : (a0 == 25) = true := beq_iff_eq.mpr c3
  have c3b1 : (a0 != 25) = false := bne_eq_false_iff_eq.mpr c3
  clear c3
  obtain rfl := Option.some.inj H
  go_enter Tryd.func79, Tryd.ntmps79
  go_wp2
  go_ret
  exact ⟨by first | rfl | (simp [errW_none, errW_some] <;> rfl) | (simp [*, errW_none, errW_some] <;> rfl), by repeat (first | (with_reducible first | exact HB.out | apply below_alloc | apply pw_below_drewN | apply below_drew1) | exact HB.out)⟩
 rw [if_neg c3] at H
 have c3b0 : (a0 == 25) = false := beq_eq_false_iff_ne.mpr c3
 have c3b1 : (a0 != 25) = true := bne_iff_ne.mpr c3
 have HC4 := Aside0.mk H
 clear H
 go_enter Tryd.func79, Tryd.ntmps79
 go_upto_if 10 with (fail)
 go_cut [10] (fun v10 wc => ∃ (kq : Nat) (x10_3 : Bool), v10 = .bool x10_3 ∧ Aside0 (arith_height.j0 kq a0 a0 x10_3 = some r) ∧ Aside0 (kq ≤ k) ∧ Aside0 (Below w.heap.size w wc))
 case first =>
  have H := HC4.out
  clear HC4
  by_cases c5 : a0 = 1
  rotate_left
  ·rw [if_neg c5] at H
   have c5b0 : (a0 == 1) = false := beq_eq_false_iff_ne.mpr c5
   have c5b1 : (a0 != 1) = true := bne_iff_ne.mpr c5
   (first | rw [c5b0] | (simp only [i64_w, i32_w]; rw [c5b0]) | skip)
   have H' := Aside0.mk H
   clear H
   go_wp2
   go_meet
   case rel => exact ⟨_, ((a0 == 2)), (by first | rfl | (simp; done) | (simp [*]; done)), H', ⟨by first | omega | exact Nat.le_refl _⟩, ⟨by repeat (first | (with_reducible first | exact HB.out | apply below_alloc | apply pw_below_drewN | apply below_drew1) | exact HB.out)⟩⟩
  rw [if_pos c5] at H
  have c5b0 : (a0 == 1) = true := beq_iff_eq.mpr c5
  have c5b1 : (a0 != 1) = false := bne_eq_false_iff_eq.mpr c5
  clear c5
  (first | rw [c5b0] | (simp only [i64_w, i32_w]; rw [c5b0]) | skip)
  have H' := Aside0.mk H
  clear H
  go_wp2
  go_meet
  case rel => exact ⟨_, ((a0 == 1)), (by first | rfl | (simp; done) | (simp [*]; done)), H', ⟨by first | omega | exact Nat.le_refl _⟩, ⟨by repeat (first | (with_reducible first | exact HB.out | apply below_alloc | apply pw_below_drewN | apply below_drew1) | exact HB.out)⟩⟩
 case rest =>
  clear HC4
  obtain ⟨kq, x10_3, rfl, HA, HJ3, HB⟩ := hcut
  cases kq with
  | zero => exact absurd HA.out (by simp [arith_height.j0])
  | succ kj3 =>
   have H := HA.out
   clear HA
   simp only [arith_height.j0] at H
   by_cases c6 : x10_3 = true
   ·subst c6
    have H1 : (some 14) = some r := by rw [if_pos rfl] at H; exact H
    clear H
    have H := H1
    clear H1
    obtain rfl := Option.some.inj H
    go_wp2
    go_ret
    exact ⟨by first | rfl | (simp [errW_none, errW_some] <;> rfl) | (simp [*, errW_none, errW_some] <;> rfl), by repeat (first | (with_reducible first | exact HB.out | apply below_alloc | apply pw_below_drewN | apply below_drew1) | exact HB.out)⟩
   replace c6 := Bool.eq_false_iff.mpr c6
   subst c6
   have H1 : (if a0 = 3 then (arith_height.j1 kj3 a0 (a0 == 3)) else (if a0 = 4 then (arith_height.j1 kj3 a0 (a0 == 4)) else (if a0 = 5 then (arith_height.j1 kj3 a0 (a0 == 5)) else (arith_height.j1 kj3 a0 (a0 == 6))))) = some r := by rw [if_neg (show ¬ (false = true) by decide)] at H; exact H
   clear H
   have H := H1
   clear H1
   have HC7 := Aside0.mk H
   clear H
   go_upto_if 13 with (fail)
   go_cut [13] (fun v13 wc => ∃ (kq : Nat) (x13_6 : Bool), v13 = .bool x13_6 ∧ Aside0 (arith_height.j1 kq a0 x13_6 = some r) ∧ Aside0 (kq ≤ kj3) ∧ Aside0 (Below w.heap.size w wc))
   case first =>
    have H := HC7.out
    clear HC7
    by_cases c8 : a0 = 3
    ·rw [if_pos c8] at H
     have c8b0 : (a0 == 3) = true := beq_iff_eq.mpr c8
     have c8b1 : (a0 != 3) = false := bne_eq_false_iff_eq.mpr c8
     clear c8
     (first | rw [c8b0] | (simp only [i64_w, i32_w]; rw [c8b0]) | skip)
     have H' := Aside0.mk H
     clear H
     go_wp2
     go_meet
     case rel => exact ⟨_, ((a0 == 3)), (by first | rfl | (simp; done) | (simp [*]; done)), H', ⟨by have := HJ3.out; first | omega | exact Nat.le_refl _⟩, ⟨by repeat (first | (with_reducible first | exact HB.out | apply below_alloc | apply pw_below_drewN | apply below_drew1) | exact HB.out)⟩⟩
    rw [if_neg c8] at H
    have c8b0 : (a0 == 3) = false := beq_eq_false_iff_ne.mpr c8
    have c8b1 : (a0 != 3) = true := bne_iff_ne.mpr c8
    (first | rw [c8b0] | (simp only [i64_w, i32_w]; rw [c8b0]) | skip)
    by_cases c9 : a0 = 4
    ·rw [if_pos c9] at H
     have c9b0 : (a0 == 4) = true := beq_iff_eq.mpr c9
     have c9b1 : (a0 != 4) = false := bne_eq_false_iff_eq.mpr c9
     clear c9
     have H' := Aside0.mk H
     clear H
     go_wp2
     go_meet
     case rel => exact ⟨_, ((a0 == 4)), (by first | rfl | (simp; done) | (simp [*]; done)), H', ⟨by have := HJ3.out; first | omega | exact Nat.le_refl _⟩, ⟨by repeat (first | (with_reducible first | exact HB.out | apply below_alloc | apply pw_below_drewN | apply below_drew1) | exact HB.out)⟩⟩
    rw [if_neg c9] at H
    have c9b0 : (a0 == 4) = false := beq_eq_false_iff_ne.mpr c9
    have c9b1 : (a0 != 4) = true := bne_iff_ne.mpr c9
    by_cases c10 : a0 = 5
    rotate_left
    ·rw [if_neg c10] at H
     have c10b0 : (a0 == 5) = false := beq_eq_false_iff_ne.mpr c10
     have c10b1 : (a0 != 5) = true := bne_iff_ne.mpr c10
     have H' := Aside0.mk H
     clear H
     go_wp2
     go_meet
     case rel => exact ⟨_, ((a0 == 6)), (by first | rfl | (simp; done) | (simp [*]; done)), H', ⟨by have := HJ3.out; first | omega | exact Nat.le_refl _⟩, ⟨by repeat (first | (with_reducible first | exact HB.out | apply below_alloc | apply pw_below_drewN | apply below_drew1) | exact HB.out)⟩⟩
    rw [if_pos c10] at H
    have c10b0 : (a0 == 5) = true := beq_iff_eq.mpr c10
    have c10b1 : (a0 != 5) = false := bne_eq_false_iff_eq.mpr c10
    clear c10
    have H' := Aside0.mk H
    clear H
    go_wp2
    go_meet
    case rel => exact ⟨_, ((a0 == 5)), (by first | rfl | (simp; done) | (simp [*]; done)), H', ⟨by have := HJ3.out; first | omega | exact Nat.le_refl _⟩, ⟨by repeat (first | (with_reducible first | exact HB.out | apply below_alloc | apply pw_below_drewN | apply below_drew1) | exact HB.out)⟩⟩
   case rest =>
    clear HC7
    obtain ⟨kq, x13_6, rfl, HA, HJ6, HB⟩ := hcut
    cases kq with
    | zero => exact absurd HA.out (by simp [arith_height.j1])
    | succ kj6 =>
     have H := HA.out
     clear HA
     simp only [arith_height.j1] at H
     by_cases c11 : x13_6 = true
     ·subst c11
      have H1 : (some 13) = some r := by rw [if_pos rfl] at H; exact H
      clear H
      have H := H1
      clear H1
      obtain rfl := Option.some.inj H
      go_wp2
      go_ret
      exact ⟨by first | rfl | (simp [errW_none, errW_some] <;> rfl) | (simp [*, errW_none, errW_some] <;> rfl), by repeat (first | (with_reducible first | exact HB.out | apply below_alloc | apply pw_below_drewN | apply below_drew1) | exact HB.out)⟩
     replace c11 := Bool.eq_false_iff.mpr c11
     subst c11
     have H1 : ((arith_sign.f a0).bind fun t119 => ((arith_binary.f t119).bind fun bt120 => (some bt120.2))) = some r := by rw [if_neg (show ¬ (false = true) by decide)] at H; exact H
     clear H
     have H := H1
     clear H1
     replace H := Option.bind_eq_some_iff.mp H
     obtain ⟨t119, A120, H⟩ := H
     try dsimp only at H
     have A12 := Aside0.mk A120
     clear A120
     replace H := Option.bind_eq_some_iff.mp H
     obtain ⟨⟨t120, t121⟩, A130, H⟩ := H
     try dsimp only at H
     have A13 := Aside0.mk A130
     clear A130
     obtain rfl := Option.some.inj H
     go_wp2_with (first | ((with_reducible refine gate_callee (f := 80) rfl ?_); refine goesL_ (some 20) rfl rfl Tryd.func80 (by kernel_rfl) rfl #[.int .i64 a0] rfl (by (try simp only [List.map_toArray, List.map_cons, List.map_nil]); first | done | rfl | (simp only [List.length_drop, List.length_take]; rfl)) ?_; (with_reducible refine (arith_sign.calls a0 t119 _ A12.out).mono ?_); rintro e w14 ⟨rfl, hb⟩; refine ⟨_, rfl, ?_⟩; have n0_ := Aside0.mk (below_step (by repeat (first | (with_reducible first | exact HB.out | apply below_alloc | apply pw_below_drewN | apply below_drew1) | exact HB.out)) hb); clear HB; have HB := n0_; clear n0_; (try clear hb); (try clear hb2); (try clear hk); (try clear hi)) | ((with_reducible refine gate_callee (f := 107) rfl ?_); refine goesL_ (some 21) rfl rfl Tryd.func107 (by kernel_rfl) rfl #[.string t119] rfl (by (try simp only [List.map_toArray, List.map_cons, List.map_nil]); first | done | rfl | (simp only [List.length_drop, List.length_take]; rfl)) ?_; (with_reducible refine (arith_binary.calls t119 t120 t121 _ A13.out).mono ?_); rintro e w' ⟨rfl, ⟨nd, rfl⟩⟩; refine ⟨_, rfl, ?_⟩))
     go_ret
     exact ⟨by first | rfl | (simp [errW_none, errW_some] <;> rfl) | (simp [*, errW_none, errW_some] <;> rfl), by repeat (first | (with_reducible first | exact HB.out | apply below_alloc | apply pw_below_drewN | apply below_drew1) | exact HB.out)⟩
end Go.Proofs.YtglmdfddgmkmaaaDoor.Q
end
section
namespace Go.Proofs.YtglmdfddgmkmaaaDoor.Q
open Go.RowKit Go.Proofs.YtglmdfddgmkmaaaDoorW.PrintWords Go.Proofs.YtglmdfddgmkmaaaDoorW.PrintLast Go.Proofs.YtglmdfddgmkmaaaDoorW.PrintMore
attribute [local go_sem] max2_int min2_int max_two min_two max_three min_three max_four min_four
set_option linter.unusedVariables false
set_option linter.unusedSimpArgs false
end Go.Proofs.YtglmdfddgmkmaaaDoor.Q
end

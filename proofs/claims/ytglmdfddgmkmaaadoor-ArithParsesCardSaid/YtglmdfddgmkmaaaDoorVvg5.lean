/- Parse returns the expression tree of every string, or the first error and its offset (P5.1): ArithParses answers true for every string; no condition beyond those of the statement itself (the tables that its row lays). Last part: the law, its plain law, its row and its card. -/
import Derived.ChangeOld
import Derived.SizedLaws
import Derived.SevenTiedAt
import Derived.ShutString
import Derived.Test.YtglmdfddgmkmaaaDoorTie
import Derived.Test.YtglmdfddgmkmaaaDoorCards
import Derived.Test.YtglmdfddgmkmaaaDoorVvg4
section
namespace Go.Proofs.YtglmdfddgmkmaaaDoor.Q
open Go.RowKit Go.Proofs.YtglmdfddgmkmaaaDoorW.PrintWords Go.Proofs.YtglmdfddgmkmaaaDoorW.PrintLast Go.Proofs.YtglmdfddgmkmaaaDoorW.PrintMore
attribute [local go_sem] Z0 Z2 Yd Ye Zq Zr Z1 Z3
set_option linter.unusedVariables false
set_option linter.unusedSimpArgs false
set_option maxHeartbeats 8000000 in
set_option maxRecDepth 100000 in
theorem Qq.calls (k:Nat):∀(a0_0:Int) (a0_1:Int) (a0_2:ByteArray) (A0_3:Option Addr) (c0_3:Nat) (l0_3:List (S26)) (a1_0:Int) (a1_1:Int) (a1_2:ByteArray) (A1_3:Option Addr) (c1_3:Nat) (l1_3:List (S26)) (r:Bool) (w:World) (hr0_3:Kd.C k26 w A0_3 l0_3.length l0_3) (hc0_3:l0_3.length≤c0_3) (hr1_3:Kd.C k26 w A1_3 l1_3.length l1_3) (hc1_3:l1_3.length≤c1_3) (h:Qq.f k a0_0 a0_1 a0_2 l0_3 a1_0 a1_1 a1_2 l1_3=some r),
 Calls Tryd.prog 20 #[.agg #[.int .i64 a0_0,.int .i64 a0_1,.string a0_2,.slice A0_3 l0_3.length c0_3],.agg #[.int .i64 a1_0,.int .i64 a1_1,.string a1_2,.slice A1_3 l1_3.length c1_3]] w fun e w'=>e=.returned (.bool r)∧Below w.heap.size w w':=by
 induction k using Nat.strongRecOn with
 |_ k ih=>
 intro a0_0 a0_1 a0_2 A0_3 c0_3 l0_3 a1_0 a1_1 a1_2 A1_3 c1_3 l1_3 r w hr0_3 hc0_3 hr1_3 hc1_3 h
 cases k with
 |zero=>exact absurd h (by simp [Qq.f])
 |succ k=>
 simp only [Qq.f] at h;have HR0_3:=Qa.mk hr0_3;clear hr0_3 hc0_3;have HR1_3:=Qa.mk hr1_3;clear hr1_3 hc1_3;have HB:=Qa.mk (Below.refl w.heap.size w);have H:(if a0_0=a1_0 then(if a0_1=a1_1 then(if a0_2.toList=a1_2.toList then(Qq.j0 k ((l0_3.length:Int) !=(l1_3.length:Int)) a0_0 a0_1 a0_2 l0_3 a1_0 a1_1 a1_2 l1_3) else(Qq.j0 k true a0_0 a0_1 a0_2 l0_3 a1_0 a1_1 a1_2 l1_3)) else(Qq.j0 k true a0_0 a0_1 a0_2 l0_3 a1_0 a1_1 a1_2 l1_3)) else(Qq.j0 k true a0_0 a0_1 a0_2 l0_3 a1_0 a1_1 a1_2 l1_3))=some r:=h;clear h;have HC3:=Qa.mk H;clear H;go_enter Tryd.func20,Tryd.ntmps20;go_upto_region 1 with (first|((with_reducible refine Q0 (N:=2) rfl ?_);(try(refine Vm (by rfl) ?_;dsimp only));refine Xm ?hg (N:=2) ?hd (cs:=#[.int .i64 a0_0,.int .i64 a0_1,.string a0_2,.slice A0_3 l0_3.length c0_3]) (t:=26) ?hr ?_;(case hd=>rfl);(case hg=>rfl);(case hr=>(go_simp;done));intro gb253 hg w4 hbox hb;replace HB:=Qa.mk (Qr HB.out hb);have BK253:=Qa.mk hbox;clear hb hbox hg)|((with_reducible refine Q0 (N:=3) rfl ?_);(try(refine Vm (by rfl) ?_;dsimp only));refine Xm ?hg (N:=3) ?hd (cs:=#[.int .i64 a1_0,.int .i64 a1_1,.string a1_2,.slice A1_3 l1_3.length c1_3]) (t:=26) ?hr ?_;(case hd=>rfl);(case hg=>rfl);(case hr=>(go_simp;done));intro gb254 hg w5 hbox hb;replace HB:=Qa.mk (Qr HB.out hb);have BK254:=Qa.mk hbox;have NB253_254:=Qa.mk ((by rw [hg];exact Nat.ne_of_lt (Xr (g:=gb253) (o:=.cells #[.int .i64 a0_0,.int .i64 a0_1,.string a0_2,.slice A0_3 l0_3.length c0_3] 26 (0,0)) BK253.out):gb253≠gb254));have NB254_253:=Qa.mk ((by rw [hg];exact Nat.ne_of_gt (Xr (g:=gb253) (o:=.cells #[.int .i64 a0_0,.int .i64 a0_1,.string a0_2,.slice A0_3 l0_3.length c0_3] 26 (0,0)) BK253.out):gb254≠gb253));replace BK253:=Qa.mk (Q1 (g:=gb253) (o:=.cells #[.int .i64 a0_0,.int .i64 a0_1,.string a0_2,.slice A0_3 l0_3.length c0_3] 26 (0,0)) BK253.out hb);clear hb hbox hg))
 go_cut [33] (fun v33 wc=>∃(kq:Nat) (x33_2:Bool),v33=.bool x33_2∧Qa (Qq.j0 kq x33_2 a0_0 a0_1 a0_2 l0_3 a1_0 a1_1 a1_2 l1_3=some r)∧Qa (kq≤k)∧Qa (wc.heap[gb253]? =some (.cells #[.int .i64 a0_0,.int .i64 a0_1,.string a0_2,(.slice A0_3 l0_3.length c0_3)] 26 (0,0)))∧Qa (wc.heap[gb254]? =some (.cells #[.int .i64 a1_0,.int .i64 a1_1,.string a1_2,(.slice A1_3 l1_3.length c1_3)] 26 (0,0)))∧Qa (Below w.heap.size w wc))
 case first=>
  have H:=HC3.out;clear HC3;by_cases c6:a0_0=a1_0
  rotate_left
  ·rw [if_neg c6] at H;have c6b1:(a0_0 !=a1_0)=true:=bne_iff_ne.mpr c6;have H':=Qa.mk H;clear H;have hcz19_0:w5.cell? ⟨gb253,0,none⟩=some (.int .i64 a0_0):=(Qb BK253.out 0).trans rfl;have hcz20_0:w5.cell? ⟨gb254,0,none⟩=some (.int .i64 a1_0):=(Qb BK254.out 0).trans rfl;go_wp2
   go_meet
   case rel=>exact⟨_,true,(by rfl),H',⟨by omega⟩,⟨BK253.out⟩,⟨BK254.out⟩,⟨HB.out⟩⟩
  rw [if_pos c6] at H;have c6b1:(a0_0 !=a1_0)=false:=bne_eq_false_iff_eq.mpr c6;clear c6;by_cases c7:a0_1=a1_1
  rotate_left
  ·rw [if_neg c7] at H;have c7b1:(a0_1 !=a1_1)=true:=bne_iff_ne.mpr c7;have H':=Qa.mk H;clear H;have hcz16_0:w5.cell? ⟨gb253,0,none⟩=some (.int .i64 a0_0):=(Qb BK253.out 0).trans rfl;have hcz16_1:w5.cell? ⟨gb253,1,none⟩=some (.int .i64 a0_1):=(Qb BK253.out 1).trans rfl;have hcz17_0:w5.cell? ⟨gb254,0,none⟩=some (.int .i64 a1_0):=(Qb BK254.out 0).trans rfl;have hcz17_1:w5.cell? ⟨gb254,1,none⟩=some (.int .i64 a1_1):=(Qb BK254.out 1).trans rfl;go_wp2
   go_meet
   case rel=>exact⟨_,true,(by rfl),H',⟨by omega⟩,⟨BK253.out⟩,⟨BK254.out⟩,⟨HB.out⟩⟩
  rw [if_pos c7] at H;have c7b1:(a0_1 !=a1_1)=false:=bne_eq_false_iff_eq.mpr c7;clear c7;by_cases c8:a0_2.toList=a1_2.toList
  rotate_left
  ·rw [if_neg c8] at H;have c8b0:(a0_2.toList==a1_2.toList)=false:=beq_eq_false_iff_ne.mpr c8;have H':=Qa.mk H;clear H;have hcz13_0:w5.cell? ⟨gb253,0,none⟩=some (.int .i64 a0_0):=(Qb BK253.out 0).trans rfl;have hcz13_1:w5.cell? ⟨gb253,1,none⟩=some (.int .i64 a0_1):=(Qb BK253.out 1).trans rfl;have hcz13_2:w5.cell? ⟨gb253,2,none⟩=some (.string a0_2):=(Qb BK253.out 2).trans rfl;have hcz14_0:w5.cell? ⟨gb254,0,none⟩=some (.int .i64 a1_0):=(Qb BK254.out 0).trans rfl;have hcz14_1:w5.cell? ⟨gb254,1,none⟩=some (.int .i64 a1_1):=(Qb BK254.out 1).trans rfl;have hcz14_2:w5.cell? ⟨gb254,2,none⟩=some (.string a1_2):=(Qb BK254.out 2).trans rfl;go_wp2
   go_meet
   case rel=>exact⟨_,true,(by rfl),H',⟨by omega⟩,⟨BK253.out⟩,⟨BK254.out⟩,⟨HB.out⟩⟩
  rw [if_pos c8] at H;have c8b0:(a0_2.toList==a1_2.toList)=true:=beq_iff_eq.mpr c8;clear c8;have H':=Qa.mk H;clear H;have hcz10_0:w5.cell? ⟨gb253,0,none⟩=some (.int .i64 a0_0):=(Qb BK253.out 0).trans rfl;have hcz10_1:w5.cell? ⟨gb253,1,none⟩=some (.int .i64 a0_1):=(Qb BK253.out 1).trans rfl;have hcz10_2:w5.cell? ⟨gb253,2,none⟩=some (.string a0_2):=(Qb BK253.out 2).trans rfl;have hcz10_3:w5.cell? ⟨gb253,3,none⟩=some (.slice A0_3 l0_3.length c0_3):=(Qb BK253.out 3).trans rfl;have hcz11_0:w5.cell? ⟨gb254,0,none⟩=some (.int .i64 a1_0):=(Qb BK254.out 0).trans rfl;have hcz11_1:w5.cell? ⟨gb254,1,none⟩=some (.int .i64 a1_1):=(Qb BK254.out 1).trans rfl;have hcz11_2:w5.cell? ⟨gb254,2,none⟩=some (.string a1_2):=(Qb BK254.out 2).trans rfl;have hcz11_3:w5.cell? ⟨gb254,3,none⟩=some (.slice A1_3 l1_3.length c1_3):=(Qb BK254.out 3).trans rfl;go_wp2
  go_meet
  case rel=>exact⟨_,(((l0_3.length:Int) !=(l1_3.length:Int))),(by rfl),H',⟨by omega⟩,⟨BK253.out⟩,⟨BK254.out⟩,⟨HB.out⟩⟩
 case rest=>
  clear HC3;obtain⟨kq,x33_2,rfl,HA,HJ2,BK253,BK254,HB⟩ :=hcut
  cases kq with
  |zero=>exact absurd HA.out (by simp [Qq.j0])
  |succ kj2=>
   have H:=HA.out;clear HA;simp only [Qq.j0] at H;by_cases c21:x33_2=true
   ·subst c21;have H1:(some false)=some r:=by rw [if_pos rfl] at H;exact H
    clear H;have H:=H1;clear H1;obtain rfl:=Option.some.inj H;go_wp2;go_ret;exact⟨by rfl,HB.out⟩
   replace c21:=Bool.eq_false_iff.mpr c21;subst c21;have H1:(Qq.l0 kj2 0 a0_0 a0_1 a0_2 l0_3 a1_0 a1_1 a1_2 l1_3)=some r:=by rw [if_neg (show ¬(false=true) by decide)] at H;exact H
   clear H;have H:=H1;clear H1;have H':=Qa.mk H;clear H;go_wp2
   go_loopg [5] kj2 (fun kq v5 w'=>∃(x5_2:Int),v5=.int .i64 x5_2∧Qa (Qq.l0 kq x5_2 a0_0 a0_1 a0_2 l0_3 a1_0 a1_1 a1_2 l1_3=some r)∧Qa (kq≤kj2)∧Qa (w'.heap[gb253]? =some (.cells #[.int .i64 a0_0,.int .i64 a0_1,.string a0_2,(.slice A0_3 l0_3.length c0_3)] 26 (0,0)))∧Qa (w'.heap[gb254]? =some (.cells #[.int .i64 a1_0,.int .i64 a1_1,.string a1_2,(.slice A1_3 l1_3.length c1_3)] 26 (0,0)))∧Qa (Below w.heap.size w w'))
   case atStart=>exact⟨0,(by rfl),H',⟨Nat.le_refl _⟩,⟨BK253.out⟩,⟨BK254.out⟩,⟨HB.out⟩⟩
   case round=>
    clear H';obtain⟨x5_2,rfl,HA,HK2,BK253,BK254,HB⟩ :=hrel
    cases gk with
    |zero=>exact absurd HA.out (by simp [Qq.l0])
    |succ k2=>
     have H:=HA.out;clear HA;simp only [Qq.l0] at H;by_cases c22:x5_2 < (l0_3.length:Int)
     rotate_left
     ·rw [if_neg c22] at H;have c22b0:decide (x5_2 < (l0_3.length:Int))=false:=decide_eq_false c22;clear c22;obtain rfl:=Option.some.inj H;have hcz36_3:wr.cell? ⟨gb253,3,none⟩=some (.slice A0_3 l0_3.length c0_3):=(Qb BK253.out 3).trans rfl;go_wp2;go_ret;exact⟨by rfl,HB.out⟩
     rw [if_pos c22] at H;have c22b0:decide (x5_2 < (l0_3.length:Int))=true:=decide_eq_true c22;clear c22;by_cases c23:0≤x5_2
     rotate_left
     ·rw [if_neg c23] at H;exact absurd H (by simp)
     rw [if_pos c23] at H;have c23b0:decide (0≤x5_2)=true:=decide_eq_true c23;clear c23;by_cases c24:x5_2 < (l1_3.length:Int)
     rotate_left
     ·rw [if_neg c24] at H;exact absurd H (by simp)
     rw [if_pos c24] at H;have c24b0:decide (x5_2 < (l1_3.length:Int))=true:=decide_eq_true c24;clear c24;replace H:=Option.bind_eq_some_iff.mp H;obtain⟨t257,A250,H⟩ :=H;try dsimp only at H
     have A25:=Qa.mk A250;clear A250;by_cases c26:t257=true
     rotate_left
     ·replace c26:=Bool.eq_false_iff.mpr c26;subst c26;have H1:(some false)=some r:=by rw [if_neg (show ¬(false=true) by decide)] at H;exact H
      clear H;have H:=H1;clear H1;obtain rfl:=Option.some.inj H;have hcz32_3:wr.cell? ⟨gb253,3,none⟩=some (.slice A0_3 l0_3.length c0_3):=(Qb BK253.out 3).trans rfl;(try go_wp2);replace BK253:=Qa.mk (Yg BK253.out);replace BK254:=Qa.mk (Yg BK254.out);replace HB:=Qa.mk (Zg HB.out);have p255:0≤(x5_2:Int):=of_decide_eq_true (by(with_reducible assumption));have q255:x5_2 < (l0_3.length:Int):=of_decide_eq_true (by(with_reducible assumption));obtain⟨ad255,A255_3,c255_3,e255,hx255_0,hx255_1,hx255_2,hx255_3,hl255_3,hi255_3⟩ :=Yf HR0_3.out x5_2 p255 q255;have hw255_3:=hx255_3;have hw255_2:=hx255_2;have hw255_1:=hx255_1;have hw255_0:=hx255_0
      cases e255
      replace hx255_0:=(HB.out.cell (World.block_lt_of_cell? w _ hx255_0)).trans hx255_0;replace hx255_1:=(HB.out.cell (World.block_lt_of_cell? w _ hx255_1)).trans hx255_1;replace hx255_2:=(HB.out.cell (World.block_lt_of_cell? w _ hx255_2)).trans hx255_2;replace hx255_3:=(HB.out.cell (World.block_lt_of_cell? w _ hx255_3)).trans hx255_3;have HR255_3:=Qa.mk hi255_3;have HC255_3:=Qa.mk hl255_3;clear hi255_3 hl255_3;replace p255:=eq_true p255;replace q255:=eq_true q255;have p256:0≤(x5_2:Int):=of_decide_eq_true (by(with_reducible assumption));have q256:x5_2 < (l1_3.length:Int):=of_decide_eq_true (by(with_reducible assumption));obtain⟨ad256,A256_3,c256_3,e256,hx256_0,hx256_1,hx256_2,hx256_3,hl256_3,hi256_3⟩ :=Yf HR1_3.out x5_2 p256 q256;have hw256_3:=hx256_3;have hw256_2:=hx256_2;have hw256_1:=hx256_1;have hw256_0:=hx256_0
      cases e256
      replace hx256_0:=(HB.out.cell (World.block_lt_of_cell? w _ hx256_0)).trans hx256_0;replace hx256_1:=(HB.out.cell (World.block_lt_of_cell? w _ hx256_1)).trans hx256_1;replace hx256_2:=(HB.out.cell (World.block_lt_of_cell? w _ hx256_2)).trans hx256_2;replace hx256_3:=(HB.out.cell (World.block_lt_of_cell? w _ hx256_3)).trans hx256_3;have HR256_3:=Qa.mk hi256_3;have HC256_3:=Qa.mk hl256_3;clear hi256_3 hl256_3;replace p256:=eq_true p256;replace q256:=eq_true q256;refine Y6 (n:=12) (S:=fun w'=>w'.cell? ⟨gb253,0,none⟩=some (.int .i64 a0_0)∧w'.cell? ⟨gb253,1,none⟩=some (.int .i64 a0_1)∧w'.cell? ⟨gb253,2,none⟩=some (.string a0_2)∧w'.cell? ⟨gb253,3,none⟩=some (.slice (some ad255) l0_3.length c0_3)∧w'.cell? ⟨gb254,0,none⟩=some (.int .i64 a1_0)∧w'.cell? ⟨gb254,1,none⟩=some (.int .i64 a1_1)∧w'.cell? ⟨gb254,2,none⟩=some (.string a1_2)∧w'.cell? ⟨gb254,3,none⟩=some (.slice (some ad256) l1_3.length c1_3)∧w'.cell? (ad255.add ((x5_2).toNat*4))=some (.int .i64 ((Qg l0_3 x5_2).f0))∧w'.cell? ⟨(ad255.add ((x5_2).toNat*4)).block,(ad255.add ((x5_2).toNat*4)).off+1,none⟩=some (.int .i64 ((Qg l0_3 x5_2).f1))∧w'.cell? ⟨(ad255.add ((x5_2).toNat*4)).block,(ad255.add ((x5_2).toNat*4)).off+2,none⟩=some (.string ((Qg l0_3 x5_2).f2))∧w'.cell? ⟨(ad255.add ((x5_2).toNat*4)).block,(ad255.add ((x5_2).toNat*4)).off+3,none⟩=some (.slice A255_3 ((Qg l0_3 x5_2).f3).length c255_3)∧w'.cell? (ad256.add ((x5_2).toNat*4))=some (.int .i64 ((Qg l1_3 x5_2).f0))∧w'.cell? ⟨(ad256.add ((x5_2).toNat*4)).block,(ad256.add ((x5_2).toNat*4)).off+1,none⟩=some (.int .i64 ((Qg l1_3 x5_2).f1))∧w'.cell? ⟨(ad256.add ((x5_2).toNat*4)).block,(ad256.add ((x5_2).toNat*4)).off+2,none⟩=some (.string ((Qg l1_3 x5_2).f2))∧w'.cell? ⟨(ad256.add ((x5_2).toNat*4)).block,(ad256.add ((x5_2).toNat*4)).off+3,none⟩=some (.slice A256_3 ((Qg l1_3 x5_2).f3).length c256_3)) (ds:=[]) #[false,false,false,false,false,false,false,false,false,false,false,false] (by kernel_rfl) rfl rfl ⟨(Qb BK253.out 0).trans rfl,(Qb BK253.out 1).trans rfl,(Qb BK253.out 2).trans rfl,(Qb BK253.out 3).trans rfl,(Qb BK254.out 0).trans rfl,(Qb BK254.out 1).trans rfl,(Qb BK254.out 2).trans rfl,(Qb BK254.out 3).trans rfl,((HB.out.cell (World.block_lt_of_cell? w _ hw255_0)).trans hw255_0),((HB.out.cell (World.block_lt_of_cell? w _ hw255_1)).trans hw255_1),((HB.out.cell (World.block_lt_of_cell? w _ hw255_2)).trans hw255_2),((HB.out.cell (World.block_lt_of_cell? w _ hw255_3)).trans hw255_3),((HB.out.cell (World.block_lt_of_cell? w _ hw256_0)).trans hw256_0),((HB.out.cell (World.block_lt_of_cell? w _ hw256_1)).trans hw256_1),((HB.out.cell (World.block_lt_of_cell? w _ hw256_2)).trans hw256_2),((HB.out.cell (World.block_lt_of_cell? w _ hw256_3)).trans hw256_3)⟩ (fun hHeld=>?_);refine Vh Qq.tab6 Qq.bits6 (fun HT_ HW_=>?_)
      generalize wr.drew=w33 at BK253 BK254 HB HR255_3 HR256_3 hx255_0 hx255_1 hx255_2 hx255_3 hx256_0 hx256_1 hx256_2 hx256_3 hHeld ⊢;refine Xv (i:=0) (N:=some 41) (v:=?_) (a':=?_) #[true,false,false,false,false,false,false,false,false,false,false,false] rfl rfl (X3 HT_.out (by kernel_rfl)) (fun _ _ _ h=>h) (Or.inl ⟨by rfl,?_⟩) ?_ ?_
      rotate_left
      ·intro w';go_simp;with_reducible rfl
      rotate_left
      ·simp only [Act.put,List.setIfInBounds_toArray,List.set_cons_zero,List.set_cons_succ,Xc,Xd];rfl
      refine Xv (i:=2) (N:=some 43) (v:=?_) (a':=?_) #[true,false,true,false,false,false,false,false,false,false,false,false] rfl rfl (X3 HT_.out (by kernel_rfl)) (fun _ _ _ h=>h) (Or.inl ⟨by rfl,?_⟩) ?_ ?_
      rotate_left
      ·intro w';go_simp;with_reducible rfl
      rotate_left
      ·simp only [Act.put,List.setIfInBounds_toArray,List.set_cons_zero,List.set_cons_succ,Xc,Xd];rfl
      refine Xv (i:=5) (N:=some 46) (v:=?_) (a':=?_) #[true,false,true,false,false,true,false,false,false,false,false,false] rfl rfl (X3 HT_.out (by kernel_rfl)) (fun _ _ _ h=>h) (Or.inl ⟨by rfl,?_⟩) ?_ ?_
      rotate_left
      ·intro w';go_simp;with_reducible rfl
      rotate_left
      ·simp only [Act.put,List.setIfInBounds_toArray,List.set_cons_zero,List.set_cons_succ,Xc,Xd];rfl
      refine Xv (i:=7) (N:=some 48) (v:=?_) (a':=?_) #[true,false,true,false,false,true,false,true,false,false,false,false] rfl rfl (X3 HT_.out (by kernel_rfl)) (fun _ _ _ h=>h) (Or.inl ⟨by rfl,?_⟩) ?_ ?_
      rotate_left
      ·intro w';go_simp;with_reducible rfl
      rotate_left
      ·simp only [Act.put,List.setIfInBounds_toArray,List.set_cons_zero,List.set_cons_succ,Xc,Xd];rfl
      refine Zt (i:=1) (N:=some 42) (v:=?_) (a':=?_) #[true,true,true,false,false,true,false,true,false,false,false,false] rfl rfl (Zf HT_.out HW_.out (by kernel_rfl)) (fun _ _ _ h=>h) (Or.inl ⟨by rfl,?_⟩) hHeld ?_ ?_
      rotate_left
      ·rintro w' ⟨s0,s1,s2,s3,s4,s5,s6,s7,s8,s9,s10,s11,s12,s13,s14,s15⟩;go_simp;with_reducible rfl
      rotate_left
      ·simp only [Act.put,List.setIfInBounds_toArray,List.set_cons_zero,List.set_cons_succ,Xc,Xd];rfl
      refine Xv (i:=3) (N:=some 44) (v:=?_) (a':=?_) #[true,true,true,true,false,true,false,true,false,false,false,false] rfl rfl (X3 HT_.out (by kernel_rfl)) (fun _ _ _ h=>h) (Or.inl ⟨by rfl,?_⟩) ?_ ?_
      rotate_left
      ·intro w';go_simp;with_reducible rfl
      rotate_left
      ·simp only [Act.put,List.setIfInBounds_toArray,List.set_cons_zero,List.set_cons_succ,Xc,Xd];rfl
      refine Zt (i:=4) (N:=some 45) (v:=?_) (a':=?_) #[true,true,true,true,true,true,false,true,false,false,false,false] rfl rfl (Zf HT_.out HW_.out (by kernel_rfl)) (fun _ _ _ h=>h) (Or.inl ⟨by rfl,?_⟩) hHeld ?_ ?_
      rotate_left
      ·rintro w' ⟨s0,s1,s2,s3,s4,s5,s6,s7,s8,s9,s10,s11,s12,s13,s14,s15⟩;go_simp;with_reducible rfl
      rotate_left
      ·simp only [Act.put,List.setIfInBounds_toArray,List.set_cons_zero,List.set_cons_succ,Xc,Xd];rfl
      refine Zt (i:=6) (N:=some 47) (v:=?_) (a':=?_) #[true,true,true,true,true,true,true,true,false,false,false,false] rfl rfl (Zf HT_.out HW_.out (by kernel_rfl)) (fun _ _ _ h=>h) (Or.inl ⟨by rfl,?_⟩) hHeld ?_ ?_
      rotate_left
      ·rintro w' ⟨s0,s1,s2,s3,s4,s5,s6,s7,s8,s9,s10,s11,s12,s13,s14,s15⟩;go_simp;with_reducible rfl
      rotate_left
      ·simp only [Act.put,List.setIfInBounds_toArray,List.set_cons_zero,List.set_cons_succ,Xc,Xd];rfl
      refine Xv (i:=8) (N:=some 49) (v:=?_) (a':=?_) #[true,true,true,true,true,true,true,true,true,false,false,false] rfl rfl (X3 HT_.out (by kernel_rfl)) (fun _ _ _ h=>h) (Or.inl ⟨by rfl,?_⟩) ?_ ?_
      rotate_left
      ·intro w';go_simp;with_reducible rfl
      rotate_left
      ·simp only [Act.put,List.setIfInBounds_toArray,List.set_cons_zero,List.set_cons_succ,Xc,Xd];rfl
      refine Zt (i:=9) (N:=some 50) (v:=?_) (a':=?_) #[true,true,true,true,true,true,true,true,true,true,false,false] rfl rfl (Zf HT_.out HW_.out (by kernel_rfl)) (fun _ _ _ h=>h) (Or.inl ⟨by rfl,?_⟩) hHeld ?_ ?_
      rotate_left
      ·rintro w' ⟨s0,s1,s2,s3,s4,s5,s6,s7,s8,s9,s10,s11,s12,s13,s14,s15⟩;go_simp;with_reducible rfl
      rotate_left
      ·simp only [Act.put,List.setIfInBounds_toArray,List.set_cons_zero,List.set_cons_succ,Xc,Xd];rfl
      refine Vn (i:=10) (N:=some 51) #[true,true,true,true,true,true,true,true,true,true,true,false] rfl rfl (Vk HT_.out (by kernel_rfl)) (by decide) (fun K hK=>?_);refine Vz Tryd.func20 (by kernel_rfl) rfl #[.agg #[.int .i64 ((Qg l0_3 x5_2).f0),.int .i64 ((Qg l0_3 x5_2).f1),.string ((Qg l0_3 x5_2).f2),.slice A255_3 ((Qg l0_3 x5_2).f3).length c255_3],.agg #[.int .i64 ((Qg l1_3 x5_2).f0),.int .i64 ((Qg l1_3 x5_2).f1),.string ((Qg l1_3 x5_2).f2),.slice A256_3 ((Qg l1_3 x5_2).f3).length c256_3]] (by rfl) rfl rfl (by(try simp only [List.map_toArray,List.map_cons,List.map_nil]);rfl) ?_;with_reducible refine(ih k2 (by have:=HJ2.out;have:=HK2.out;omega) ((Qg l0_3 x5_2).f0) ((Qg l0_3 x5_2).f1) ((Qg l0_3 x5_2).f2) _ _ ((Qg l0_3 x5_2).f3) ((Qg l1_3 x5_2).f0) ((Qg l1_3 x5_2).f1) ((Qg l1_3 x5_2).f2) _ _ ((Qg l1_3 x5_2).f3) false _ ?side1 ?side2 ?side3 ?side4 A25.out).mono ?_
      (case side1=>repeat(exact(Kd.C_below HR255_3.out HB.out)))
      (case side2=>exact HC255_3.out)
      (case side3=>repeat(exact(Kd.C_below HR256_3.out HB.out)))
      (case side4=>exact HC256_3.out)
      rintro e w34 ⟨rfl,hb⟩;refine⟨_,rfl,?_⟩;replace BK253:=Qa.mk (Q1 (g:=gb253) (o:=.cells #[.int .i64 a0_0,.int .i64 a0_1,.string a0_2,.slice (some ad255) l0_3.length c0_3] 26 (0,0)) BK253.out hb);replace BK254:=Qa.mk (Q1 (g:=gb254) (o:=.cells #[.int .i64 a1_0,.int .i64 a1_1,.string a1_2,.slice (some ad256) l1_3.length c1_3] 26 (0,0)) BK254.out hb);replace HB:=Qa.mk (Qr HB.out hb);(try clear hb);refine hK.out _ _ ⟨(Qb BK253.out 0).trans rfl,(Qb BK253.out 1).trans rfl,(Qb BK253.out 2).trans rfl,(Qb BK253.out 3).trans rfl,(Qb BK254.out 0).trans rfl,(Qb BK254.out 1).trans rfl,(Qb BK254.out 2).trans rfl,(Qb BK254.out 3).trans rfl,((HB.out.cell (World.block_lt_of_cell? w _ hw255_0)).trans hw255_0),((HB.out.cell (World.block_lt_of_cell? w _ hw255_1)).trans hw255_1),((HB.out.cell (World.block_lt_of_cell? w _ hw255_2)).trans hw255_2),((HB.out.cell (World.block_lt_of_cell? w _ hw255_3)).trans hw255_3),((HB.out.cell (World.block_lt_of_cell? w _ hw256_0)).trans hw256_0),((HB.out.cell (World.block_lt_of_cell? w _ hw256_1)).trans hw256_1),((HB.out.cell (World.block_lt_of_cell? w _ hw256_2)).trans hw256_2),((HB.out.cell (World.block_lt_of_cell? w _ hw256_3)).trans hw256_3)⟩ (fun hHeld=>?_);clear hK K;refine Va (a':=?_) ?_ ?_
      rotate_left
      ·show Act.put _ (some 51) _=_
       simp only [Act.put,List.setIfInBounds_toArray,List.set_cons_zero,List.set_cons_succ,Xc,Xd];rfl
      refine Xv (i:=11) (N:=some 52) (v:=?_) (a':=?_) #[true,true,true,true,true,true,true,true,true,true,true,true] rfl rfl (X3 HT_.out (by kernel_rfl)) (fun _ _ _ h=>h) (Or.inl ⟨by rfl,?_⟩) ?_ ?_
      rotate_left
      ·intro w';go_simp;with_reducible rfl
      rotate_left
      ·simp only [Act.put,List.setIfInBounds_toArray,List.set_cons_zero,List.set_cons_succ,Xc,Xd];rfl
      refine Wi (Wj HT_.out (by kernel_rfl)) ?_;(try go_wp2);go_ret;exact⟨by rfl,HB.out⟩
     subst c26;have H1:(Qq.l0 k2 (wrap64 (x5_2+1)) a0_0 a0_1 a0_2 l0_3 a1_0 a1_1 a1_2 l1_3)=some r:=by rw [if_pos rfl] at H;exact H
     clear H;have H:=H1;clear H1;have H':=Qa.mk H;clear H;have hcz28_3:wr.cell? ⟨gb253,3,none⟩=some (.slice A0_3 l0_3.length c0_3):=(Qb BK253.out 3).trans rfl;(try go_wp2);replace BK253:=Qa.mk (Yg BK253.out);replace BK254:=Qa.mk (Yg BK254.out);replace HB:=Qa.mk (Zg HB.out);have p255:0≤(x5_2:Int):=of_decide_eq_true (by(with_reducible assumption));have q255:x5_2 < (l0_3.length:Int):=of_decide_eq_true (by(with_reducible assumption));obtain⟨ad255,A255_3,c255_3,e255,hx255_0,hx255_1,hx255_2,hx255_3,hl255_3,hi255_3⟩ :=Yf HR0_3.out x5_2 p255 q255;have hw255_3:=hx255_3;have hw255_2:=hx255_2;have hw255_1:=hx255_1;have hw255_0:=hx255_0
     cases e255
     replace hx255_0:=(HB.out.cell (World.block_lt_of_cell? w _ hx255_0)).trans hx255_0;replace hx255_1:=(HB.out.cell (World.block_lt_of_cell? w _ hx255_1)).trans hx255_1;replace hx255_2:=(HB.out.cell (World.block_lt_of_cell? w _ hx255_2)).trans hx255_2;replace hx255_3:=(HB.out.cell (World.block_lt_of_cell? w _ hx255_3)).trans hx255_3;have HR255_3:=Qa.mk hi255_3;have HC255_3:=Qa.mk hl255_3;clear hi255_3 hl255_3;replace p255:=eq_true p255;replace q255:=eq_true q255;have p256:0≤(x5_2:Int):=of_decide_eq_true (by(with_reducible assumption));have q256:x5_2 < (l1_3.length:Int):=of_decide_eq_true (by(with_reducible assumption));obtain⟨ad256,A256_3,c256_3,e256,hx256_0,hx256_1,hx256_2,hx256_3,hl256_3,hi256_3⟩ :=Yf HR1_3.out x5_2 p256 q256;have hw256_3:=hx256_3;have hw256_2:=hx256_2;have hw256_1:=hx256_1;have hw256_0:=hx256_0
     cases e256
     replace hx256_0:=(HB.out.cell (World.block_lt_of_cell? w _ hx256_0)).trans hx256_0;replace hx256_1:=(HB.out.cell (World.block_lt_of_cell? w _ hx256_1)).trans hx256_1;replace hx256_2:=(HB.out.cell (World.block_lt_of_cell? w _ hx256_2)).trans hx256_2;replace hx256_3:=(HB.out.cell (World.block_lt_of_cell? w _ hx256_3)).trans hx256_3;have HR256_3:=Qa.mk hi256_3;have HC256_3:=Qa.mk hl256_3;clear hi256_3 hl256_3;replace p256:=eq_true p256;replace q256:=eq_true q256;refine Y6 (n:=12) (S:=fun w'=>w'.cell? ⟨gb253,0,none⟩=some (.int .i64 a0_0)∧w'.cell? ⟨gb253,1,none⟩=some (.int .i64 a0_1)∧w'.cell? ⟨gb253,2,none⟩=some (.string a0_2)∧w'.cell? ⟨gb253,3,none⟩=some (.slice (some ad255) l0_3.length c0_3)∧w'.cell? ⟨gb254,0,none⟩=some (.int .i64 a1_0)∧w'.cell? ⟨gb254,1,none⟩=some (.int .i64 a1_1)∧w'.cell? ⟨gb254,2,none⟩=some (.string a1_2)∧w'.cell? ⟨gb254,3,none⟩=some (.slice (some ad256) l1_3.length c1_3)∧w'.cell? (ad255.add ((x5_2).toNat*4))=some (.int .i64 ((Qg l0_3 x5_2).f0))∧w'.cell? ⟨(ad255.add ((x5_2).toNat*4)).block,(ad255.add ((x5_2).toNat*4)).off+1,none⟩=some (.int .i64 ((Qg l0_3 x5_2).f1))∧w'.cell? ⟨(ad255.add ((x5_2).toNat*4)).block,(ad255.add ((x5_2).toNat*4)).off+2,none⟩=some (.string ((Qg l0_3 x5_2).f2))∧w'.cell? ⟨(ad255.add ((x5_2).toNat*4)).block,(ad255.add ((x5_2).toNat*4)).off+3,none⟩=some (.slice A255_3 ((Qg l0_3 x5_2).f3).length c255_3)∧w'.cell? (ad256.add ((x5_2).toNat*4))=some (.int .i64 ((Qg l1_3 x5_2).f0))∧w'.cell? ⟨(ad256.add ((x5_2).toNat*4)).block,(ad256.add ((x5_2).toNat*4)).off+1,none⟩=some (.int .i64 ((Qg l1_3 x5_2).f1))∧w'.cell? ⟨(ad256.add ((x5_2).toNat*4)).block,(ad256.add ((x5_2).toNat*4)).off+2,none⟩=some (.string ((Qg l1_3 x5_2).f2))∧w'.cell? ⟨(ad256.add ((x5_2).toNat*4)).block,(ad256.add ((x5_2).toNat*4)).off+3,none⟩=some (.slice A256_3 ((Qg l1_3 x5_2).f3).length c256_3)) (ds:=[]) #[false,false,false,false,false,false,false,false,false,false,false,false] (by kernel_rfl) rfl rfl ⟨(Qb BK253.out 0).trans rfl,(Qb BK253.out 1).trans rfl,(Qb BK253.out 2).trans rfl,(Qb BK253.out 3).trans rfl,(Qb BK254.out 0).trans rfl,(Qb BK254.out 1).trans rfl,(Qb BK254.out 2).trans rfl,(Qb BK254.out 3).trans rfl,((HB.out.cell (World.block_lt_of_cell? w _ hw255_0)).trans hw255_0),((HB.out.cell (World.block_lt_of_cell? w _ hw255_1)).trans hw255_1),((HB.out.cell (World.block_lt_of_cell? w _ hw255_2)).trans hw255_2),((HB.out.cell (World.block_lt_of_cell? w _ hw255_3)).trans hw255_3),((HB.out.cell (World.block_lt_of_cell? w _ hw256_0)).trans hw256_0),((HB.out.cell (World.block_lt_of_cell? w _ hw256_1)).trans hw256_1),((HB.out.cell (World.block_lt_of_cell? w _ hw256_2)).trans hw256_2),((HB.out.cell (World.block_lt_of_cell? w _ hw256_3)).trans hw256_3)⟩ (fun hHeld=>?_);refine Vh Qq.tab6 Qq.bits6 (fun HT_ HW_=>?_)
     generalize wr.drew=w29 at BK253 BK254 HB HR255_3 HR256_3 hx255_0 hx255_1 hx255_2 hx255_3 hx256_0 hx256_1 hx256_2 hx256_3 hHeld ⊢;refine Xv (i:=0) (N:=some 41) (v:=?_) (a':=?_) #[true,false,false,false,false,false,false,false,false,false,false,false] rfl rfl (X3 HT_.out (by kernel_rfl)) (fun _ _ _ h=>h) (Or.inl ⟨by rfl,?_⟩) ?_ ?_
     rotate_left
     ·intro w';go_simp;with_reducible rfl
     rotate_left
     ·simp only [Act.put,List.setIfInBounds_toArray,List.set_cons_zero,List.set_cons_succ,Xc,Xd];rfl
     refine Xv (i:=2) (N:=some 43) (v:=?_) (a':=?_) #[true,false,true,false,false,false,false,false,false,false,false,false] rfl rfl (X3 HT_.out (by kernel_rfl)) (fun _ _ _ h=>h) (Or.inl ⟨by rfl,?_⟩) ?_ ?_
     rotate_left
     ·intro w';go_simp;with_reducible rfl
     rotate_left
     ·simp only [Act.put,List.setIfInBounds_toArray,List.set_cons_zero,List.set_cons_succ,Xc,Xd];rfl
     refine Xv (i:=5) (N:=some 46) (v:=?_) (a':=?_) #[true,false,true,false,false,true,false,false,false,false,false,false] rfl rfl (X3 HT_.out (by kernel_rfl)) (fun _ _ _ h=>h) (Or.inl ⟨by rfl,?_⟩) ?_ ?_
     rotate_left
     ·intro w';go_simp;with_reducible rfl
     rotate_left
     ·simp only [Act.put,List.setIfInBounds_toArray,List.set_cons_zero,List.set_cons_succ,Xc,Xd];rfl
     refine Xv (i:=7) (N:=some 48) (v:=?_) (a':=?_) #[true,false,true,false,false,true,false,true,false,false,false,false] rfl rfl (X3 HT_.out (by kernel_rfl)) (fun _ _ _ h=>h) (Or.inl ⟨by rfl,?_⟩) ?_ ?_
     rotate_left
     ·intro w';go_simp;with_reducible rfl
     rotate_left
     ·simp only [Act.put,List.setIfInBounds_toArray,List.set_cons_zero,List.set_cons_succ,Xc,Xd];rfl
     refine Zt (i:=1) (N:=some 42) (v:=?_) (a':=?_) #[true,true,true,false,false,true,false,true,false,false,false,false] rfl rfl (Zf HT_.out HW_.out (by kernel_rfl)) (fun _ _ _ h=>h) (Or.inl ⟨by rfl,?_⟩) hHeld ?_ ?_
     rotate_left
     ·rintro w' ⟨s0,s1,s2,s3,s4,s5,s6,s7,s8,s9,s10,s11,s12,s13,s14,s15⟩;go_simp;with_reducible rfl
     rotate_left
     ·simp only [Act.put,List.setIfInBounds_toArray,List.set_cons_zero,List.set_cons_succ,Xc,Xd];rfl
     refine Xv (i:=3) (N:=some 44) (v:=?_) (a':=?_) #[true,true,true,true,false,true,false,true,false,false,false,false] rfl rfl (X3 HT_.out (by kernel_rfl)) (fun _ _ _ h=>h) (Or.inl ⟨by rfl,?_⟩) ?_ ?_
     rotate_left
     ·intro w';go_simp;with_reducible rfl
     rotate_left
     ·simp only [Act.put,List.setIfInBounds_toArray,List.set_cons_zero,List.set_cons_succ,Xc,Xd];rfl
     refine Zt (i:=4) (N:=some 45) (v:=?_) (a':=?_) #[true,true,true,true,true,true,false,true,false,false,false,false] rfl rfl (Zf HT_.out HW_.out (by kernel_rfl)) (fun _ _ _ h=>h) (Or.inl ⟨by rfl,?_⟩) hHeld ?_ ?_
     rotate_left
     ·rintro w' ⟨s0,s1,s2,s3,s4,s5,s6,s7,s8,s9,s10,s11,s12,s13,s14,s15⟩;go_simp;with_reducible rfl
     rotate_left
     ·simp only [Act.put,List.setIfInBounds_toArray,List.set_cons_zero,List.set_cons_succ,Xc,Xd];rfl
     refine Zt (i:=6) (N:=some 47) (v:=?_) (a':=?_) #[true,true,true,true,true,true,true,true,false,false,false,false] rfl rfl (Zf HT_.out HW_.out (by kernel_rfl)) (fun _ _ _ h=>h) (Or.inl ⟨by rfl,?_⟩) hHeld ?_ ?_
     rotate_left
     ·rintro w' ⟨s0,s1,s2,s3,s4,s5,s6,s7,s8,s9,s10,s11,s12,s13,s14,s15⟩;go_simp;with_reducible rfl
     rotate_left
     ·simp only [Act.put,List.setIfInBounds_toArray,List.set_cons_zero,List.set_cons_succ,Xc,Xd];rfl
     refine Xv (i:=8) (N:=some 49) (v:=?_) (a':=?_) #[true,true,true,true,true,true,true,true,true,false,false,false] rfl rfl (X3 HT_.out (by kernel_rfl)) (fun _ _ _ h=>h) (Or.inl ⟨by rfl,?_⟩) ?_ ?_
     rotate_left
     ·intro w';go_simp;with_reducible rfl
     rotate_left
     ·simp only [Act.put,List.setIfInBounds_toArray,List.set_cons_zero,List.set_cons_succ,Xc,Xd];rfl
     refine Zt (i:=9) (N:=some 50) (v:=?_) (a':=?_) #[true,true,true,true,true,true,true,true,true,true,false,false] rfl rfl (Zf HT_.out HW_.out (by kernel_rfl)) (fun _ _ _ h=>h) (Or.inl ⟨by rfl,?_⟩) hHeld ?_ ?_
     rotate_left
     ·rintro w' ⟨s0,s1,s2,s3,s4,s5,s6,s7,s8,s9,s10,s11,s12,s13,s14,s15⟩;go_simp;with_reducible rfl
     rotate_left
     ·simp only [Act.put,List.setIfInBounds_toArray,List.set_cons_zero,List.set_cons_succ,Xc,Xd];rfl
     refine Vn (i:=10) (N:=some 51) #[true,true,true,true,true,true,true,true,true,true,true,false] rfl rfl (Vk HT_.out (by kernel_rfl)) (by decide) (fun K hK=>?_);refine Vz Tryd.func20 (by kernel_rfl) rfl #[.agg #[.int .i64 ((Qg l0_3 x5_2).f0),.int .i64 ((Qg l0_3 x5_2).f1),.string ((Qg l0_3 x5_2).f2),.slice A255_3 ((Qg l0_3 x5_2).f3).length c255_3],.agg #[.int .i64 ((Qg l1_3 x5_2).f0),.int .i64 ((Qg l1_3 x5_2).f1),.string ((Qg l1_3 x5_2).f2),.slice A256_3 ((Qg l1_3 x5_2).f3).length c256_3]] (by rfl) rfl rfl (by(try simp only [List.map_toArray,List.map_cons,List.map_nil]);rfl) ?_;with_reducible refine(ih k2 (by have:=HJ2.out;have:=HK2.out;omega) ((Qg l0_3 x5_2).f0) ((Qg l0_3 x5_2).f1) ((Qg l0_3 x5_2).f2) _ _ ((Qg l0_3 x5_2).f3) ((Qg l1_3 x5_2).f0) ((Qg l1_3 x5_2).f1) ((Qg l1_3 x5_2).f2) _ _ ((Qg l1_3 x5_2).f3) true _ ?side1 ?side2 ?side3 ?side4 A25.out).mono ?_
     (case side1=>repeat(exact(Kd.C_below HR255_3.out HB.out)))
     (case side2=>exact HC255_3.out)
     (case side3=>repeat(exact(Kd.C_below HR256_3.out HB.out)))
     (case side4=>exact HC256_3.out)
     rintro e w30 ⟨rfl,hb⟩;refine⟨_,rfl,?_⟩;replace BK253:=Qa.mk (Q1 (g:=gb253) (o:=.cells #[.int .i64 a0_0,.int .i64 a0_1,.string a0_2,.slice (some ad255) l0_3.length c0_3] 26 (0,0)) BK253.out hb);replace BK254:=Qa.mk (Q1 (g:=gb254) (o:=.cells #[.int .i64 a1_0,.int .i64 a1_1,.string a1_2,.slice (some ad256) l1_3.length c1_3] 26 (0,0)) BK254.out hb);replace HB:=Qa.mk (Qr HB.out hb);(try clear hb);refine hK.out _ _ ⟨(Qb BK253.out 0).trans rfl,(Qb BK253.out 1).trans rfl,(Qb BK253.out 2).trans rfl,(Qb BK253.out 3).trans rfl,(Qb BK254.out 0).trans rfl,(Qb BK254.out 1).trans rfl,(Qb BK254.out 2).trans rfl,(Qb BK254.out 3).trans rfl,((HB.out.cell (World.block_lt_of_cell? w _ hw255_0)).trans hw255_0),((HB.out.cell (World.block_lt_of_cell? w _ hw255_1)).trans hw255_1),((HB.out.cell (World.block_lt_of_cell? w _ hw255_2)).trans hw255_2),((HB.out.cell (World.block_lt_of_cell? w _ hw255_3)).trans hw255_3),((HB.out.cell (World.block_lt_of_cell? w _ hw256_0)).trans hw256_0),((HB.out.cell (World.block_lt_of_cell? w _ hw256_1)).trans hw256_1),((HB.out.cell (World.block_lt_of_cell? w _ hw256_2)).trans hw256_2),((HB.out.cell (World.block_lt_of_cell? w _ hw256_3)).trans hw256_3)⟩ (fun hHeld=>?_);clear hK K;refine Va (a':=?_) ?_ ?_
     rotate_left
     ·show Act.put _ (some 51) _=_
      simp only [Act.put,List.setIfInBounds_toArray,List.set_cons_zero,List.set_cons_succ,Xc,Xd];rfl
     refine Xv (i:=11) (N:=some 52) (v:=?_) (a':=?_) #[true,true,true,true,true,true,true,true,true,true,true,true] rfl rfl (X3 HT_.out (by kernel_rfl)) (fun _ _ _ h=>h) (Or.inl ⟨by rfl,?_⟩) ?_ ?_
     rotate_left
     ·intro w';go_simp;with_reducible rfl
     rotate_left
     ·simp only [Act.put,List.setIfInBounds_toArray,List.set_cons_zero,List.set_cons_succ,Xc,Xd];rfl
     refine Wi (Wj HT_.out (by kernel_rfl)) ?_;(try go_wp2)
     go_roundg k2
     case measure=>have:=HJ2.out;have:=HK2.out;omega
     case rel=>exact⟨(wrap64 (x5_2+1)),(by rfl),H',⟨by have:=HJ2.out;have:=HK2.out;omega⟩,⟨BK253.out⟩,⟨BK254.out⟩,⟨HB.out⟩⟩
def Zo.f (k:Nat) (a0:ByteArray):Option (Bool):=(Zh.f a0).bind fun t210=>(if t210=true then((Ze.f k a0).bind fun bt212=>((Xw.f k a0).bind fun bt221=>((Qq.f k bt212.1 bt212.2.1 bt212.2.2.1 bt212.2.2.2.1 bt221.1 bt221.2.1 bt221.2.2.1 bt221.2.2.2.1).bind fun t230=>(if t230=true then(if bt212.2.2.2.2.1=bt221.2.2.2.2.1 then(if bt212.2.2.2.2.2=bt221.2.2.2.2.2 then((Qx.f k).bind fun t231=>(some t231)) else(some false)) else(some false)) else(some false))))) else((Qx.f k).bind fun t211=>(some t211)))
set_option maxHeartbeats 8000000 in
set_option maxRecDepth 100000 in
theorem Zo.calls (k:Nat) (a0:ByteArray) (r:Bool) (w:World) (h:Zo.f k a0=some r) (hT:Laid w:=by first|assumption|exact HT.out|exact Laid.below HT.out (by repeat(first|(with_reducible first|exact HB.out|apply Xu|apply Q6|apply Zg|refine Xf ?_ (Qa.out (by assumption)))|exact HB.out))):
 Calls Tryd.prog 3 #[.string a0] w fun e w'=>e=.returned (.bool r)∧Below w.heap.size w w':=by
 have HB:=Qa.mk (Below.refl w.heap.size w);have HT:Qa (Laid w):=Qa.mk hT;clear hT;have H:((Zh.f a0).bind fun t210=>(if t210=true then((Ze.f k a0).bind fun bt212=>((Xw.f k a0).bind fun bt221=>((Qq.f k bt212.1 bt212.2.1 bt212.2.2.1 bt212.2.2.2.1 bt221.1 bt221.2.1 bt221.2.2.1 bt221.2.2.2.1).bind fun t230=>(if t230=true then(if bt212.2.2.2.2.1=bt221.2.2.2.2.1 then(if bt212.2.2.2.2.2=bt221.2.2.2.2.2 then((Qx.f k).bind fun t231=>(some t231)) else(some false)) else(some false)) else(some false))))) else((Qx.f k).bind fun t211=>(some t211))))=some r:=h
 clear h;replace H:=Option.bind_eq_some_iff.mp H;obtain⟨t210,A20,H⟩ :=H;try dsimp only at H
 have A2:=Qa.mk A20;clear A20;by_cases c3:t210=true
 rotate_left
 ·replace c3:=Bool.eq_false_iff.mpr c3;subst c3;have H1:((Qx.f k).bind fun t211=>(some t211))=some r:=by rw [if_neg (show ¬(false=true) by decide)] at H;exact H
  clear H;have H:=H1;clear H1;replace H:=Option.bind_eq_some_iff.mp H;obtain⟨t211,A560,H⟩ :=H;try dsimp only at H
  have A56:=Qa.mk A560;clear A560;obtain rfl:=Option.some.inj H;go_enter Tryd.func3,Tryd.ntmps3;go_wp2_with(first|((with_reducible refine Qp (f:=16) rfl ?_);refine Xh (some 10) rfl rfl Tryd.func16 (by kernel_rfl) rfl #[.string a0] rfl (by(try simp only [List.map_toArray,List.map_cons,List.map_nil]);rfl) ?_;(with_reducible refine(Zh.calls a0 false _ A2.out).mono ?_);rintro e w' ⟨rfl,⟨nd,rfl⟩⟩;refine⟨_,rfl,?_⟩)|((with_reducible refine Qp (f:=17) rfl ?_);refine Xh (some 12) rfl rfl Tryd.func17 (by kernel_rfl) rfl #[] rfl (by(try simp only [List.map_toArray,List.map_cons,List.map_nil]);done) ?_;(with_reducible refine(Qx.calls k  t211 _ A56.out).mono ?_);rintro e w57 ⟨rfl,hb⟩;refine⟨_,rfl,?_⟩;replace HB:=Qa.mk (Qr (by repeat(with_reducible first|exact HB.out|apply Q6)) hb);(try clear hb)));go_ret;exact⟨by rfl,HB.out⟩
 subst c3;have H1:((Ze.f k a0).bind fun bt212=>((Xw.f k a0).bind fun bt221=>((Qq.f k bt212.1 bt212.2.1 bt212.2.2.1 bt212.2.2.2.1 bt221.1 bt221.2.1 bt221.2.2.1 bt221.2.2.2.1).bind fun t230=>(if t230=true then(if bt212.2.2.2.2.1=bt221.2.2.2.2.1 then(if bt212.2.2.2.2.2=bt221.2.2.2.2.2 then((Qx.f k).bind fun t231=>(some t231)) else(some false)) else(some false)) else(some false)))))=some r:=by rw [if_pos rfl] at H;exact H
 clear H;have H:=H1;clear H1;replace H:=Option.bind_eq_some_iff.mp H;obtain⟨⟨t212,t213,t214,t215,t218,t219⟩,A40,H⟩ :=H;try dsimp only at H
 have A4:=Qa.mk A40;clear A40;replace H:=Option.bind_eq_some_iff.mp H;obtain⟨⟨t221,t222,t223,t224,t227,t228⟩,A50,H⟩ :=H;try dsimp only at H
 have A5:=Qa.mk A50;clear A50;replace H:=Option.bind_eq_some_iff.mp H;obtain⟨t230,A60,H⟩ :=H;try dsimp only at H
 have A6:=Qa.mk A60;clear A60;by_cases c7:t230=true
 rotate_left
 ·replace c7:=Bool.eq_false_iff.mpr c7;subst c7;have H1:(some false)=some r:=by rw [if_neg (show ¬(false=true) by decide)] at H;exact H
  clear H;have H:=H1;clear H1;obtain rfl:=Option.some.inj H;go_enter Tryd.func3,Tryd.ntmps3;go_wp2_with(first|((with_reducible refine Qp (f:=16) rfl ?_);refine Xh (some 10) rfl rfl Tryd.func16 (by kernel_rfl) rfl #[.string a0] rfl (by(try simp only [List.map_toArray,List.map_cons,List.map_nil]);rfl) ?_;(with_reducible refine(Zh.calls a0 true _ A2.out).mono ?_);rintro e w' ⟨rfl,⟨nd,rfl⟩⟩;refine⟨_,rfl,?_⟩)|((with_reducible refine Qp (f:=18) rfl ?_);refine Xh (some 15) rfl rfl Tryd.func18 (by kernel_rfl) rfl #[.string a0] rfl (by(try simp only [List.map_toArray,List.map_cons,List.map_nil]);rfl) ?_;(with_reducible refine(Ze.calls k a0 t212 t213 t214 t215 t218 t219 _ A4.out).mono ?_);rintro e w45 ⟨v216,rfl,ho0,hb⟩;refine⟨_,rfl,?_⟩;have HO217:=Qa.mk (Kd.N_lower (Kd.N_mono (ok':=fun k_=>True) (Kd.R_N (Kd.R_bound ho0)) (fun k_ hk_=>trivial)) (X4 (by repeat(with_reducible first|exact HB.out|apply Q6))));replace HB:=Qa.mk (Qr (by repeat(with_reducible first|exact HB.out|apply Q6)) hb);(try clear hb);(try clear ho0))|((with_reducible refine Q0 (N:=3) rfl ?_);refine Xm ?hg (N:=3) ?hd (cs:=#[.int .i64 0,.int .i64 0,.string (⟨#[]⟩ :ByteArray),.slice none 0 0]) (t:=26) ?hr ?_;(case hd=>rfl);(case hg=>rfl);(case hr=>(go_simp;done));intro gb220 hg w46 hbox hb;replace HO217:=Qa.mk (Kd.N_below (Kd.N_elderB HO217.out gb220 (Nat.le_of_eq hg.symm)) hb);have BK220:=Qa.mk hbox;have GE220:=Qa.mk ((by rw [hg];exact(X4 HB.out):w.heap.size≤gb220));replace HB:=Qa.mk (Qr HB.out hb);clear hb hbox hg;have hcz47_0:w46.cell? ⟨gb220,0,none⟩=some (.int .i64 0):=(Qb BK220.out 0).trans rfl;have hcz47_1:w46.cell? ⟨gb220,1,none⟩=some (.int .i64 0):=(Qb BK220.out 1).trans rfl;have hcz47_2:w46.cell? ⟨gb220,2,none⟩=some (.string (⟨#[]⟩ :ByteArray)):=(Qb BK220.out 2).trans rfl;have hcz47_3:w46.cell? ⟨gb220,3,none⟩=some (.slice none 0 0):=(Qb BK220.out 3).trans rfl;have hfz47_0:=Qd BK220.out 0;have hfz47_1:=Qd BK220.out 1;have hfz47_2:=Qd BK220.out 2;have hfz47_3:=Qd BK220.out 3;obtain⟨Ao48,co48,eo48⟩ :=Kd.N_slice HO217.out;subst eo48)|((with_reducible refine Qp (f:=19) rfl ?_);refine Xh (some 21) rfl rfl Tryd.func19 (by kernel_rfl) rfl #[.string a0] rfl (by(try simp only [List.map_toArray,List.map_cons,List.map_nil]);rfl) ?_;(with_reducible refine(Xw.calls k a0 t221 t222 t223 t224 t227 t228 _ A5.out).mono ?_);rintro e w49 ⟨v225,rfl,ho0,hb⟩;refine⟨_,rfl,?_⟩;have HO226:=Qa.mk (Kd.N_lower (Kd.N_mono (ok':=fun k_=>some k_≠(.slice Ao48 t215.length co48:Value).ownBlock∧k_≠gb220) ho0 (fun k_ hk_=>⟨(Kd.fresh' (Kd.N_lt (by exact(Kd.N_mono (Kd.N_far (p:=⟨gb220,3,none⟩) (Kd.N_far (p:=⟨gb220,2,none⟩) (Kd.N_far (p:=⟨gb220,1,none⟩) (Kd.N_far (p:=⟨gb220,0,none⟩) (Kd.N_mono HO217.out (fun k_ hk=>(⟨hk,hk.2⟩ :_∧k_≠gb220))) (fun _ hk=>hk.2) (.int .i64 t212)) (fun _ hk=>hk.2) (.int .i64 t213)) (fun _ hk=>hk.2) (.string t214)) (fun _ hk=>hk.2) (.slice Ao48 t215.length co48)) (fun _ h_=>h_.1)))) k_ hk_),(Kd.freshB (g:=gb220) (o:=.cells #[.int .i64 t212,.int .i64 t213,.string t214,.slice Ao48 t215.length co48] 26 (0,0)) (by refine Qt (cs:=#[.int .i64 t212,.int .i64 t213,.string t214,.slice none 0 0]) ?_ 3 _ rfl;refine Qt (cs:=#[.int .i64 t212,.int .i64 t213,.string (⟨#[]⟩ :ByteArray),.slice none 0 0]) ?_ 2 _ rfl;refine Qt (cs:=#[.int .i64 t212,.int .i64 0,.string (⟨#[]⟩ :ByteArray),.slice none 0 0]) ?_ 1 _ rfl;refine Qt (cs:=#[.int .i64 0,.int .i64 0,.string (⟨#[]⟩ :ByteArray),.slice none 0 0]) ?_ 0 _ rfl;exact BK220.out) k_ hk_)⟩)) (X4 (by repeat(with_reducible first|exact HB.out|refine Xf ?_ GE220.out))));replace HO217:=Qa.mk (Kd.N_elder' (by exact(Kd.N_mono (Kd.N_far (p:=⟨gb220,3,none⟩) (Kd.N_far (p:=⟨gb220,2,none⟩) (Kd.N_far (p:=⟨gb220,1,none⟩) (Kd.N_far (p:=⟨gb220,0,none⟩) (Kd.N_mono HO217.out (fun k_ hk=>(⟨hk,hk.2⟩ :_∧k_≠gb220))) (fun _ hk=>hk.2) (.int .i64 t212)) (fun _ hk=>hk.2) (.int .i64 t213)) (fun _ hk=>hk.2) (.string t214)) (fun _ hk=>hk.2) (.slice Ao48 t215.length co48)) (fun _ h_=>h_.1))) (Kd.N_base ho0) hb);replace BK220:=Qa.mk (Q1 (g:=gb220) (o:=.cells #[.int .i64 t212,.int .i64 t213,.string t214,.slice Ao48 t215.length co48] 26 (0,0)) (by refine Qt (cs:=#[.int .i64 t212,.int .i64 t213,.string t214,.slice none 0 0]) ?_ 3 _ rfl;refine Qt (cs:=#[.int .i64 t212,.int .i64 t213,.string (⟨#[]⟩ :ByteArray),.slice none 0 0]) ?_ 2 _ rfl;refine Qt (cs:=#[.int .i64 t212,.int .i64 0,.string (⟨#[]⟩ :ByteArray),.slice none 0 0]) ?_ 1 _ rfl;refine Qt (cs:=#[.int .i64 0,.int .i64 0,.string (⟨#[]⟩ :ByteArray),.slice none 0 0]) ?_ 0 _ rfl;exact BK220.out) hb);replace HB:=Qa.mk (Qr (by repeat(with_reducible first|exact HB.out|refine Xf ?_ GE220.out)) hb);(try clear hb);(try clear ho0))|((with_reducible refine Q0 (N:=6) rfl ?_);refine Xm ?hg (N:=6) ?hd (cs:=#[.int .i64 0,.int .i64 0,.string (⟨#[]⟩ :ByteArray),.slice none 0 0]) (t:=26) ?hr ?_;(case hd=>rfl);(case hg=>rfl);(case hr=>(go_simp;done));intro gb229 hg w50 hbox hb;replace HO217:=Qa.mk (Kd.N_below (Kd.N_elderB HO217.out gb229 (Nat.le_of_eq hg.symm)) hb);replace HO226:=Qa.mk (Kd.N_below (Kd.N_elderB HO226.out gb229 (Nat.le_of_eq hg.symm)) hb);have BK229:=Qa.mk hbox;have GE229:=Qa.mk ((by rw [hg];exact(X4 HB.out):w.heap.size≤gb229));replace HB:=Qa.mk (Qr HB.out hb);have NB220_229:=Qa.mk ((by rw [hg];exact Nat.ne_of_lt (Xr (g:=gb220) (o:=.cells #[.int .i64 t212,.int .i64 t213,.string t214,.slice Ao48 t215.length co48] 26 (0,0)) BK220.out):gb220≠gb229));have NB229_220:=Qa.mk ((by rw [hg];exact Nat.ne_of_gt (Xr (g:=gb220) (o:=.cells #[.int .i64 t212,.int .i64 t213,.string t214,.slice Ao48 t215.length co48] 26 (0,0)) BK220.out):gb229≠gb220));replace BK220:=Qa.mk (Q1 (g:=gb220) (o:=.cells #[.int .i64 t212,.int .i64 t213,.string t214,.slice Ao48 t215.length co48] 26 (0,0)) BK220.out hb);clear hb hbox hg;have hnc51:=NB220_229.out;have hcz52_0:w50.cell? ⟨gb229,0,none⟩=some (.int .i64 0):=(Qb BK229.out 0).trans rfl;have hcz52_1:w50.cell? ⟨gb229,1,none⟩=some (.int .i64 0):=(Qb BK229.out 1).trans rfl;have hcz52_2:w50.cell? ⟨gb229,2,none⟩=some (.string (⟨#[]⟩ :ByteArray)):=(Qb BK229.out 2).trans rfl;have hcz52_3:w50.cell? ⟨gb229,3,none⟩=some (.slice none 0 0):=(Qb BK229.out 3).trans rfl;have hfz52_0:=Qd BK229.out 0;have hfz52_1:=Qd BK229.out 1;have hfz52_2:=Qd BK229.out 2;have hfz52_3:=Qd BK229.out 3;obtain⟨Ao53,co53,eo53⟩ :=Kd.N_slice HO226.out;subst eo53;have hcz54_0:w50.cell? ⟨gb220,0,none⟩=some (.int .i64 t212):=(Qb BK220.out 0).trans rfl;have hcz54_1:w50.cell? ⟨gb220,1,none⟩=some (.int .i64 t213):=(Qb BK220.out 1).trans rfl;have hcz54_2:w50.cell? ⟨gb220,2,none⟩=some (.string t214):=(Qb BK220.out 2).trans rfl;have hcz54_3:w50.cell? ⟨gb220,3,none⟩=some (.slice Ao48 t215.length co48):=(Qb BK220.out 3).trans rfl)|((with_reducible refine Qp (f:=20) rfl ?_);refine Xh (some 27) rfl rfl Tryd.func20 (by kernel_rfl) rfl #[.agg #[.int .i64 t212,.int .i64 t213,.string t214,.slice Ao48 t215.length co48],.agg #[.int .i64 t221,.int .i64 t222,.string t223,.slice Ao53 t224.length co53]] rfl (by(try simp only [List.map_toArray,List.map_cons,List.map_nil]);rfl) ?_;(with_reducible refine(Qq.calls k t212 t213 t214 _ _ t215 t221 t222 t223 _ _ t224 false _ ?side1 ((Kd.N_reads' HO217.out).2.1) ?side3 ((Kd.N_reads' HO226.out).2.1) A6.out).mono ?_);(case side1=>refine(Kd.N_reads' (e:=26) (base:=w.heap.size) (ok:=fun k_=>(((True∧k_≠gb220)∧some k_≠(.slice Ao53 t224.length co53:Value).ownBlock)∧k_≠gb229)) (n:=t215.length) (c:=co48) ?_).2.2;exact(by exact(Kd.N_mono (Kd.N_far (p:=⟨gb229,3,none⟩) (Kd.N_far (p:=⟨gb229,2,none⟩) (Kd.N_far (p:=⟨gb229,1,none⟩) (Kd.N_far (p:=⟨gb229,0,none⟩) (Kd.N_mono HO217.out (fun k_ hk=>(⟨hk,hk.2⟩ :_∧k_≠gb229))) (fun _ hk=>hk.2) (.int .i64 t221)) (fun _ hk=>hk.2) (.int .i64 t222)) (fun _ hk=>hk.2) (.string t223)) (fun _ hk=>hk.2) (.slice Ao53 t224.length co53)) (fun _ h_=>h_.1))));(case side3=>refine(Kd.N_reads' (e:=26) (base:=w.heap.size) (ok:=fun k_=>((some k_≠(.slice Ao48 t215.length co48:Value).ownBlock∧k_≠gb220)∧k_≠gb229)) (n:=t224.length) (c:=co53) ?_).2.2;exact(by exact(Kd.N_mono (Kd.N_far (p:=⟨gb229,3,none⟩) (Kd.N_far (p:=⟨gb229,2,none⟩) (Kd.N_far (p:=⟨gb229,1,none⟩) (Kd.N_far (p:=⟨gb229,0,none⟩) (Kd.N_mono HO226.out (fun k_ hk=>(⟨hk,hk.2⟩ :_∧k_≠gb229))) (fun _ hk=>hk.2) (.int .i64 t221)) (fun _ hk=>hk.2) (.int .i64 t222)) (fun _ hk=>hk.2) (.string t223)) (fun _ hk=>hk.2) (.slice Ao53 t224.length co53)) (fun _ h_=>h_.1))));rintro e w55 ⟨rfl,hb⟩;refine⟨_,rfl,?_⟩;replace HO217:=Qa.mk (Kd.N_below (by exact(Kd.N_mono (Kd.N_far (p:=⟨gb229,3,none⟩) (Kd.N_far (p:=⟨gb229,2,none⟩) (Kd.N_far (p:=⟨gb229,1,none⟩) (Kd.N_far (p:=⟨gb229,0,none⟩) (Kd.N_mono HO217.out (fun k_ hk=>(⟨hk,hk.2⟩ :_∧k_≠gb229))) (fun _ hk=>hk.2) (.int .i64 t221)) (fun _ hk=>hk.2) (.int .i64 t222)) (fun _ hk=>hk.2) (.string t223)) (fun _ hk=>hk.2) (.slice Ao53 t224.length co53)) (fun _ h_=>h_.1))) hb);replace HO226:=Qa.mk (Kd.N_below (by exact(Kd.N_mono (Kd.N_far (p:=⟨gb229,3,none⟩) (Kd.N_far (p:=⟨gb229,2,none⟩) (Kd.N_far (p:=⟨gb229,1,none⟩) (Kd.N_far (p:=⟨gb229,0,none⟩) (Kd.N_mono HO226.out (fun k_ hk=>(⟨hk,hk.2⟩ :_∧k_≠gb229))) (fun _ hk=>hk.2) (.int .i64 t221)) (fun _ hk=>hk.2) (.int .i64 t222)) (fun _ hk=>hk.2) (.string t223)) (fun _ hk=>hk.2) (.slice Ao53 t224.length co53)) (fun _ h_=>h_.1))) hb);replace BK220:=Qa.mk (Q1 (g:=gb220) (o:=.cells #[.int .i64 t212,.int .i64 t213,.string t214,.slice Ao48 t215.length co48] 26 (0,0)) (by refine Xg ?_ NB220_229.out _;refine Xg ?_ NB220_229.out _;refine Xg ?_ NB220_229.out _;refine Xg ?_ NB220_229.out _;exact BK220.out) hb);replace BK229:=Qa.mk (Q1 (g:=gb229) (o:=.cells #[.int .i64 t221,.int .i64 t222,.string t223,.slice Ao53 t224.length co53] 26 (0,0)) (by refine Qt (cs:=#[.int .i64 t221,.int .i64 t222,.string t223,.slice none 0 0]) ?_ 3 _ rfl;refine Qt (cs:=#[.int .i64 t221,.int .i64 t222,.string (⟨#[]⟩ :ByteArray),.slice none 0 0]) ?_ 2 _ rfl;refine Qt (cs:=#[.int .i64 t221,.int .i64 0,.string (⟨#[]⟩ :ByteArray),.slice none 0 0]) ?_ 1 _ rfl;refine Qt (cs:=#[.int .i64 0,.int .i64 0,.string (⟨#[]⟩ :ByteArray),.slice none 0 0]) ?_ 0 _ rfl;exact BK229.out) hb);replace HB:=Qa.mk (Qr (by repeat(with_reducible first|exact HB.out|refine Xf ?_ GE229.out)) hb);(try clear hb)))
  go_ret
  exact⟨by rfl,HB.out⟩
 subst c7;have H1:(if t218=t227 then(if t219=t228 then((Qx.f k).bind fun t231=>(some t231)) else(some false)) else(some false))=some r:=by rw [if_pos rfl] at H;exact H
 clear H;have H:=H1;clear H1;by_cases c8:t218=t227
 rotate_left
 ·rw [if_neg c8] at H;have c8b0:(t218==t227)=false:=beq_eq_false_iff_ne.mpr c8;obtain rfl:=Option.some.inj H;go_enter Tryd.func3,Tryd.ntmps3;go_wp2_with(first|((with_reducible refine Qp (f:=16) rfl ?_);refine Xh (some 10) rfl rfl Tryd.func16 (by kernel_rfl) rfl #[.string a0] rfl (by(try simp only [List.map_toArray,List.map_cons,List.map_nil]);rfl) ?_;(with_reducible refine(Zh.calls a0 true _ A2.out).mono ?_);rintro e w' ⟨rfl,⟨nd,rfl⟩⟩;refine⟨_,rfl,?_⟩)|((with_reducible refine Qp (f:=18) rfl ?_);refine Xh (some 15) rfl rfl Tryd.func18 (by kernel_rfl) rfl #[.string a0] rfl (by(try simp only [List.map_toArray,List.map_cons,List.map_nil]);rfl) ?_;(with_reducible refine(Ze.calls k a0 t212 t213 t214 t215 t218 t219 _ A4.out).mono ?_);rintro e w34 ⟨v216,rfl,ho0,hb⟩;refine⟨_,rfl,?_⟩;have HO217:=Qa.mk (Kd.N_lower (Kd.N_mono (ok':=fun k_=>True) (Kd.R_N (Kd.R_bound ho0)) (fun k_ hk_=>trivial)) (X4 (by repeat(with_reducible first|exact HB.out|apply Q6))));replace HB:=Qa.mk (Qr (by repeat(with_reducible first|exact HB.out|apply Q6)) hb);(try clear hb);(try clear ho0))|((with_reducible refine Q0 (N:=3) rfl ?_);refine Xm ?hg (N:=3) ?hd (cs:=#[.int .i64 0,.int .i64 0,.string (⟨#[]⟩ :ByteArray),.slice none 0 0]) (t:=26) ?hr ?_;(case hd=>rfl);(case hg=>rfl);(case hr=>(go_simp;done));intro gb220 hg w35 hbox hb;replace HO217:=Qa.mk (Kd.N_below (Kd.N_elderB HO217.out gb220 (Nat.le_of_eq hg.symm)) hb);have BK220:=Qa.mk hbox;have GE220:=Qa.mk ((by rw [hg];exact(X4 HB.out):w.heap.size≤gb220));replace HB:=Qa.mk (Qr HB.out hb);clear hb hbox hg;have hcz36_0:w35.cell? ⟨gb220,0,none⟩=some (.int .i64 0):=(Qb BK220.out 0).trans rfl;have hcz36_1:w35.cell? ⟨gb220,1,none⟩=some (.int .i64 0):=(Qb BK220.out 1).trans rfl;have hcz36_2:w35.cell? ⟨gb220,2,none⟩=some (.string (⟨#[]⟩ :ByteArray)):=(Qb BK220.out 2).trans rfl;have hcz36_3:w35.cell? ⟨gb220,3,none⟩=some (.slice none 0 0):=(Qb BK220.out 3).trans rfl;have hfz36_0:=Qd BK220.out 0;have hfz36_1:=Qd BK220.out 1;have hfz36_2:=Qd BK220.out 2;have hfz36_3:=Qd BK220.out 3;obtain⟨Ao37,co37,eo37⟩ :=Kd.N_slice HO217.out;subst eo37)|((with_reducible refine Qp (f:=19) rfl ?_);refine Xh (some 21) rfl rfl Tryd.func19 (by kernel_rfl) rfl #[.string a0] rfl (by(try simp only [List.map_toArray,List.map_cons,List.map_nil]);rfl) ?_;(with_reducible refine(Xw.calls k a0 t221 t222 t223 t224 t227 t228 _ A5.out).mono ?_);rintro e w38 ⟨v225,rfl,ho0,hb⟩;refine⟨_,rfl,?_⟩;have HO226:=Qa.mk (Kd.N_lower (Kd.N_mono (ok':=fun k_=>some k_≠(.slice Ao37 t215.length co37:Value).ownBlock∧k_≠gb220) ho0 (fun k_ hk_=>⟨(Kd.fresh' (Kd.N_lt (by exact(Kd.N_mono (Kd.N_far (p:=⟨gb220,3,none⟩) (Kd.N_far (p:=⟨gb220,2,none⟩) (Kd.N_far (p:=⟨gb220,1,none⟩) (Kd.N_far (p:=⟨gb220,0,none⟩) (Kd.N_mono HO217.out (fun k_ hk=>(⟨hk,hk.2⟩ :_∧k_≠gb220))) (fun _ hk=>hk.2) (.int .i64 t212)) (fun _ hk=>hk.2) (.int .i64 t213)) (fun _ hk=>hk.2) (.string t214)) (fun _ hk=>hk.2) (.slice Ao37 t215.length co37)) (fun _ h_=>h_.1)))) k_ hk_),(Kd.freshB (g:=gb220) (o:=.cells #[.int .i64 t212,.int .i64 t213,.string t214,.slice Ao37 t215.length co37] 26 (0,0)) (by refine Qt (cs:=#[.int .i64 t212,.int .i64 t213,.string t214,.slice none 0 0]) ?_ 3 _ rfl;refine Qt (cs:=#[.int .i64 t212,.int .i64 t213,.string (⟨#[]⟩ :ByteArray),.slice none 0 0]) ?_ 2 _ rfl;refine Qt (cs:=#[.int .i64 t212,.int .i64 0,.string (⟨#[]⟩ :ByteArray),.slice none 0 0]) ?_ 1 _ rfl;refine Qt (cs:=#[.int .i64 0,.int .i64 0,.string (⟨#[]⟩ :ByteArray),.slice none 0 0]) ?_ 0 _ rfl;exact BK220.out) k_ hk_)⟩)) (X4 (by repeat(with_reducible first|exact HB.out|refine Xf ?_ GE220.out))));replace HO217:=Qa.mk (Kd.N_elder' (by exact(Kd.N_mono (Kd.N_far (p:=⟨gb220,3,none⟩) (Kd.N_far (p:=⟨gb220,2,none⟩) (Kd.N_far (p:=⟨gb220,1,none⟩) (Kd.N_far (p:=⟨gb220,0,none⟩) (Kd.N_mono HO217.out (fun k_ hk=>(⟨hk,hk.2⟩ :_∧k_≠gb220))) (fun _ hk=>hk.2) (.int .i64 t212)) (fun _ hk=>hk.2) (.int .i64 t213)) (fun _ hk=>hk.2) (.string t214)) (fun _ hk=>hk.2) (.slice Ao37 t215.length co37)) (fun _ h_=>h_.1))) (Kd.N_base ho0) hb);replace BK220:=Qa.mk (Q1 (g:=gb220) (o:=.cells #[.int .i64 t212,.int .i64 t213,.string t214,.slice Ao37 t215.length co37] 26 (0,0)) (by refine Qt (cs:=#[.int .i64 t212,.int .i64 t213,.string t214,.slice none 0 0]) ?_ 3 _ rfl;refine Qt (cs:=#[.int .i64 t212,.int .i64 t213,.string (⟨#[]⟩ :ByteArray),.slice none 0 0]) ?_ 2 _ rfl;refine Qt (cs:=#[.int .i64 t212,.int .i64 0,.string (⟨#[]⟩ :ByteArray),.slice none 0 0]) ?_ 1 _ rfl;refine Qt (cs:=#[.int .i64 0,.int .i64 0,.string (⟨#[]⟩ :ByteArray),.slice none 0 0]) ?_ 0 _ rfl;exact BK220.out) hb);replace HB:=Qa.mk (Qr (by repeat(with_reducible first|exact HB.out|refine Xf ?_ GE220.out)) hb);(try clear hb);(try clear ho0))|((with_reducible refine Q0 (N:=6) rfl ?_);refine Xm ?hg (N:=6) ?hd (cs:=#[.int .i64 0,.int .i64 0,.string (⟨#[]⟩ :ByteArray),.slice none 0 0]) (t:=26) ?hr ?_;(case hd=>rfl);(case hg=>rfl);(case hr=>(go_simp;done));intro gb229 hg w39 hbox hb;replace HO217:=Qa.mk (Kd.N_below (Kd.N_elderB HO217.out gb229 (Nat.le_of_eq hg.symm)) hb);replace HO226:=Qa.mk (Kd.N_below (Kd.N_elderB HO226.out gb229 (Nat.le_of_eq hg.symm)) hb);have BK229:=Qa.mk hbox;have GE229:=Qa.mk ((by rw [hg];exact(X4 HB.out):w.heap.size≤gb229));replace HB:=Qa.mk (Qr HB.out hb);have NB220_229:=Qa.mk ((by rw [hg];exact Nat.ne_of_lt (Xr (g:=gb220) (o:=.cells #[.int .i64 t212,.int .i64 t213,.string t214,.slice Ao37 t215.length co37] 26 (0,0)) BK220.out):gb220≠gb229));have NB229_220:=Qa.mk ((by rw [hg];exact Nat.ne_of_gt (Xr (g:=gb220) (o:=.cells #[.int .i64 t212,.int .i64 t213,.string t214,.slice Ao37 t215.length co37] 26 (0,0)) BK220.out):gb229≠gb220));replace BK220:=Qa.mk (Q1 (g:=gb220) (o:=.cells #[.int .i64 t212,.int .i64 t213,.string t214,.slice Ao37 t215.length co37] 26 (0,0)) BK220.out hb);clear hb hbox hg;have hnc40:=NB220_229.out;have hcz41_0:w39.cell? ⟨gb229,0,none⟩=some (.int .i64 0):=(Qb BK229.out 0).trans rfl;have hcz41_1:w39.cell? ⟨gb229,1,none⟩=some (.int .i64 0):=(Qb BK229.out 1).trans rfl;have hcz41_2:w39.cell? ⟨gb229,2,none⟩=some (.string (⟨#[]⟩ :ByteArray)):=(Qb BK229.out 2).trans rfl;have hcz41_3:w39.cell? ⟨gb229,3,none⟩=some (.slice none 0 0):=(Qb BK229.out 3).trans rfl;have hfz41_0:=Qd BK229.out 0;have hfz41_1:=Qd BK229.out 1;have hfz41_2:=Qd BK229.out 2;have hfz41_3:=Qd BK229.out 3;obtain⟨Ao42,co42,eo42⟩ :=Kd.N_slice HO226.out;subst eo42;have hcz43_0:w39.cell? ⟨gb220,0,none⟩=some (.int .i64 t212):=(Qb BK220.out 0).trans rfl;have hcz43_1:w39.cell? ⟨gb220,1,none⟩=some (.int .i64 t213):=(Qb BK220.out 1).trans rfl;have hcz43_2:w39.cell? ⟨gb220,2,none⟩=some (.string t214):=(Qb BK220.out 2).trans rfl;have hcz43_3:w39.cell? ⟨gb220,3,none⟩=some (.slice Ao37 t215.length co37):=(Qb BK220.out 3).trans rfl)|((with_reducible refine Qp (f:=20) rfl ?_);refine Xh (some 27) rfl rfl Tryd.func20 (by kernel_rfl) rfl #[.agg #[.int .i64 t212,.int .i64 t213,.string t214,.slice Ao37 t215.length co37],.agg #[.int .i64 t221,.int .i64 t222,.string t223,.slice Ao42 t224.length co42]] rfl (by(try simp only [List.map_toArray,List.map_cons,List.map_nil]);rfl) ?_;(with_reducible refine(Qq.calls k t212 t213 t214 _ _ t215 t221 t222 t223 _ _ t224 true _ ?side1 ((Kd.N_reads' HO217.out).2.1) ?side3 ((Kd.N_reads' HO226.out).2.1) A6.out).mono ?_);(case side1=>refine(Kd.N_reads' (e:=26) (base:=w.heap.size) (ok:=fun k_=>(((True∧k_≠gb220)∧some k_≠(.slice Ao42 t224.length co42:Value).ownBlock)∧k_≠gb229)) (n:=t215.length) (c:=co37) ?_).2.2;exact(by exact(Kd.N_mono (Kd.N_far (p:=⟨gb229,3,none⟩) (Kd.N_far (p:=⟨gb229,2,none⟩) (Kd.N_far (p:=⟨gb229,1,none⟩) (Kd.N_far (p:=⟨gb229,0,none⟩) (Kd.N_mono HO217.out (fun k_ hk=>(⟨hk,hk.2⟩ :_∧k_≠gb229))) (fun _ hk=>hk.2) (.int .i64 t221)) (fun _ hk=>hk.2) (.int .i64 t222)) (fun _ hk=>hk.2) (.string t223)) (fun _ hk=>hk.2) (.slice Ao42 t224.length co42)) (fun _ h_=>h_.1))));(case side3=>refine(Kd.N_reads' (e:=26) (base:=w.heap.size) (ok:=fun k_=>((some k_≠(.slice Ao37 t215.length co37:Value).ownBlock∧k_≠gb220)∧k_≠gb229)) (n:=t224.length) (c:=co42) ?_).2.2;exact(by exact(Kd.N_mono (Kd.N_far (p:=⟨gb229,3,none⟩) (Kd.N_far (p:=⟨gb229,2,none⟩) (Kd.N_far (p:=⟨gb229,1,none⟩) (Kd.N_far (p:=⟨gb229,0,none⟩) (Kd.N_mono HO226.out (fun k_ hk=>(⟨hk,hk.2⟩ :_∧k_≠gb229))) (fun _ hk=>hk.2) (.int .i64 t221)) (fun _ hk=>hk.2) (.int .i64 t222)) (fun _ hk=>hk.2) (.string t223)) (fun _ hk=>hk.2) (.slice Ao42 t224.length co42)) (fun _ h_=>h_.1))));rintro e w44 ⟨rfl,hb⟩;refine⟨_,rfl,?_⟩;replace HO217:=Qa.mk (Kd.N_below (by exact(Kd.N_mono (Kd.N_far (p:=⟨gb229,3,none⟩) (Kd.N_far (p:=⟨gb229,2,none⟩) (Kd.N_far (p:=⟨gb229,1,none⟩) (Kd.N_far (p:=⟨gb229,0,none⟩) (Kd.N_mono HO217.out (fun k_ hk=>(⟨hk,hk.2⟩ :_∧k_≠gb229))) (fun _ hk=>hk.2) (.int .i64 t221)) (fun _ hk=>hk.2) (.int .i64 t222)) (fun _ hk=>hk.2) (.string t223)) (fun _ hk=>hk.2) (.slice Ao42 t224.length co42)) (fun _ h_=>h_.1))) hb);replace HO226:=Qa.mk (Kd.N_below (by exact(Kd.N_mono (Kd.N_far (p:=⟨gb229,3,none⟩) (Kd.N_far (p:=⟨gb229,2,none⟩) (Kd.N_far (p:=⟨gb229,1,none⟩) (Kd.N_far (p:=⟨gb229,0,none⟩) (Kd.N_mono HO226.out (fun k_ hk=>(⟨hk,hk.2⟩ :_∧k_≠gb229))) (fun _ hk=>hk.2) (.int .i64 t221)) (fun _ hk=>hk.2) (.int .i64 t222)) (fun _ hk=>hk.2) (.string t223)) (fun _ hk=>hk.2) (.slice Ao42 t224.length co42)) (fun _ h_=>h_.1))) hb);replace BK220:=Qa.mk (Q1 (g:=gb220) (o:=.cells #[.int .i64 t212,.int .i64 t213,.string t214,.slice Ao37 t215.length co37] 26 (0,0)) (by refine Xg ?_ NB220_229.out _;refine Xg ?_ NB220_229.out _;refine Xg ?_ NB220_229.out _;refine Xg ?_ NB220_229.out _;exact BK220.out) hb);replace BK229:=Qa.mk (Q1 (g:=gb229) (o:=.cells #[.int .i64 t221,.int .i64 t222,.string t223,.slice Ao42 t224.length co42] 26 (0,0)) (by refine Qt (cs:=#[.int .i64 t221,.int .i64 t222,.string t223,.slice none 0 0]) ?_ 3 _ rfl;refine Qt (cs:=#[.int .i64 t221,.int .i64 t222,.string (⟨#[]⟩ :ByteArray),.slice none 0 0]) ?_ 2 _ rfl;refine Qt (cs:=#[.int .i64 t221,.int .i64 0,.string (⟨#[]⟩ :ByteArray),.slice none 0 0]) ?_ 1 _ rfl;refine Qt (cs:=#[.int .i64 0,.int .i64 0,.string (⟨#[]⟩ :ByteArray),.slice none 0 0]) ?_ 0 _ rfl;exact BK229.out) hb);replace HB:=Qa.mk (Qr (by repeat(with_reducible first|exact HB.out|refine Xf ?_ GE229.out)) hb);(try clear hb)))
  go_ret
  exact⟨by rfl,HB.out⟩
 rw [if_pos c8] at H;have c8b0:(t218==t227)=true:=beq_iff_eq.mpr c8;clear c8;by_cases c9:t219=t228
 rotate_left
 ·rw [if_neg c9] at H;have c9b0:(t219==t228)=false:=beq_eq_false_iff_ne.mpr c9;obtain rfl:=Option.some.inj H;go_enter Tryd.func3,Tryd.ntmps3;go_wp2_with(first|((with_reducible refine Qp (f:=16) rfl ?_);refine Xh (some 10) rfl rfl Tryd.func16 (by kernel_rfl) rfl #[.string a0] rfl (by(try simp only [List.map_toArray,List.map_cons,List.map_nil]);rfl) ?_;(with_reducible refine(Zh.calls a0 true _ A2.out).mono ?_);rintro e w' ⟨rfl,⟨nd,rfl⟩⟩;refine⟨_,rfl,?_⟩)|((with_reducible refine Qp (f:=18) rfl ?_);refine Xh (some 15) rfl rfl Tryd.func18 (by kernel_rfl) rfl #[.string a0] rfl (by(try simp only [List.map_toArray,List.map_cons,List.map_nil]);rfl) ?_;(with_reducible refine(Ze.calls k a0 t212 t213 t214 t215 t218 t219 _ A4.out).mono ?_);rintro e w23 ⟨v216,rfl,ho0,hb⟩;refine⟨_,rfl,?_⟩;have HO217:=Qa.mk (Kd.N_lower (Kd.N_mono (ok':=fun k_=>True) (Kd.R_N (Kd.R_bound ho0)) (fun k_ hk_=>trivial)) (X4 (by repeat(with_reducible first|exact HB.out|apply Q6))));replace HB:=Qa.mk (Qr (by repeat(with_reducible first|exact HB.out|apply Q6)) hb);(try clear hb);(try clear ho0))|((with_reducible refine Q0 (N:=3) rfl ?_);refine Xm ?hg (N:=3) ?hd (cs:=#[.int .i64 0,.int .i64 0,.string (⟨#[]⟩ :ByteArray),.slice none 0 0]) (t:=26) ?hr ?_;(case hd=>rfl);(case hg=>rfl);(case hr=>(go_simp;done));intro gb220 hg w24 hbox hb;replace HO217:=Qa.mk (Kd.N_below (Kd.N_elderB HO217.out gb220 (Nat.le_of_eq hg.symm)) hb);have BK220:=Qa.mk hbox;have GE220:=Qa.mk ((by rw [hg];exact(X4 HB.out):w.heap.size≤gb220));replace HB:=Qa.mk (Qr HB.out hb);clear hb hbox hg;have hcz25_0:w24.cell? ⟨gb220,0,none⟩=some (.int .i64 0):=(Qb BK220.out 0).trans rfl;have hcz25_1:w24.cell? ⟨gb220,1,none⟩=some (.int .i64 0):=(Qb BK220.out 1).trans rfl;have hcz25_2:w24.cell? ⟨gb220,2,none⟩=some (.string (⟨#[]⟩ :ByteArray)):=(Qb BK220.out 2).trans rfl;have hcz25_3:w24.cell? ⟨gb220,3,none⟩=some (.slice none 0 0):=(Qb BK220.out 3).trans rfl;have hfz25_0:=Qd BK220.out 0;have hfz25_1:=Qd BK220.out 1;have hfz25_2:=Qd BK220.out 2;have hfz25_3:=Qd BK220.out 3;obtain⟨Ao26,co26,eo26⟩ :=Kd.N_slice HO217.out;subst eo26)|((with_reducible refine Qp (f:=19) rfl ?_);refine Xh (some 21) rfl rfl Tryd.func19 (by kernel_rfl) rfl #[.string a0] rfl (by(try simp only [List.map_toArray,List.map_cons,List.map_nil]);rfl) ?_;(with_reducible refine(Xw.calls k a0 t221 t222 t223 t224 t227 t228 _ A5.out).mono ?_);rintro e w27 ⟨v225,rfl,ho0,hb⟩;refine⟨_,rfl,?_⟩;have HO226:=Qa.mk (Kd.N_lower (Kd.N_mono (ok':=fun k_=>some k_≠(.slice Ao26 t215.length co26:Value).ownBlock∧k_≠gb220) ho0 (fun k_ hk_=>⟨(Kd.fresh' (Kd.N_lt (by exact(Kd.N_mono (Kd.N_far (p:=⟨gb220,3,none⟩) (Kd.N_far (p:=⟨gb220,2,none⟩) (Kd.N_far (p:=⟨gb220,1,none⟩) (Kd.N_far (p:=⟨gb220,0,none⟩) (Kd.N_mono HO217.out (fun k_ hk=>(⟨hk,hk.2⟩ :_∧k_≠gb220))) (fun _ hk=>hk.2) (.int .i64 t212)) (fun _ hk=>hk.2) (.int .i64 t213)) (fun _ hk=>hk.2) (.string t214)) (fun _ hk=>hk.2) (.slice Ao26 t215.length co26)) (fun _ h_=>h_.1)))) k_ hk_),(Kd.freshB (g:=gb220) (o:=.cells #[.int .i64 t212,.int .i64 t213,.string t214,.slice Ao26 t215.length co26] 26 (0,0)) (by refine Qt (cs:=#[.int .i64 t212,.int .i64 t213,.string t214,.slice none 0 0]) ?_ 3 _ rfl;refine Qt (cs:=#[.int .i64 t212,.int .i64 t213,.string (⟨#[]⟩ :ByteArray),.slice none 0 0]) ?_ 2 _ rfl;refine Qt (cs:=#[.int .i64 t212,.int .i64 0,.string (⟨#[]⟩ :ByteArray),.slice none 0 0]) ?_ 1 _ rfl;refine Qt (cs:=#[.int .i64 0,.int .i64 0,.string (⟨#[]⟩ :ByteArray),.slice none 0 0]) ?_ 0 _ rfl;exact BK220.out) k_ hk_)⟩)) (X4 (by repeat(with_reducible first|exact HB.out|refine Xf ?_ GE220.out))));replace HO217:=Qa.mk (Kd.N_elder' (by exact(Kd.N_mono (Kd.N_far (p:=⟨gb220,3,none⟩) (Kd.N_far (p:=⟨gb220,2,none⟩) (Kd.N_far (p:=⟨gb220,1,none⟩) (Kd.N_far (p:=⟨gb220,0,none⟩) (Kd.N_mono HO217.out (fun k_ hk=>(⟨hk,hk.2⟩ :_∧k_≠gb220))) (fun _ hk=>hk.2) (.int .i64 t212)) (fun _ hk=>hk.2) (.int .i64 t213)) (fun _ hk=>hk.2) (.string t214)) (fun _ hk=>hk.2) (.slice Ao26 t215.length co26)) (fun _ h_=>h_.1))) (Kd.N_base ho0) hb);replace BK220:=Qa.mk (Q1 (g:=gb220) (o:=.cells #[.int .i64 t212,.int .i64 t213,.string t214,.slice Ao26 t215.length co26] 26 (0,0)) (by refine Qt (cs:=#[.int .i64 t212,.int .i64 t213,.string t214,.slice none 0 0]) ?_ 3 _ rfl;refine Qt (cs:=#[.int .i64 t212,.int .i64 t213,.string (⟨#[]⟩ :ByteArray),.slice none 0 0]) ?_ 2 _ rfl;refine Qt (cs:=#[.int .i64 t212,.int .i64 0,.string (⟨#[]⟩ :ByteArray),.slice none 0 0]) ?_ 1 _ rfl;refine Qt (cs:=#[.int .i64 0,.int .i64 0,.string (⟨#[]⟩ :ByteArray),.slice none 0 0]) ?_ 0 _ rfl;exact BK220.out) hb);replace HB:=Qa.mk (Qr (by repeat(with_reducible first|exact HB.out|refine Xf ?_ GE220.out)) hb);(try clear hb);(try clear ho0))|((with_reducible refine Q0 (N:=6) rfl ?_);refine Xm ?hg (N:=6) ?hd (cs:=#[.int .i64 0,.int .i64 0,.string (⟨#[]⟩ :ByteArray),.slice none 0 0]) (t:=26) ?hr ?_;(case hd=>rfl);(case hg=>rfl);(case hr=>(go_simp;done));intro gb229 hg w28 hbox hb;replace HO217:=Qa.mk (Kd.N_below (Kd.N_elderB HO217.out gb229 (Nat.le_of_eq hg.symm)) hb);replace HO226:=Qa.mk (Kd.N_below (Kd.N_elderB HO226.out gb229 (Nat.le_of_eq hg.symm)) hb);have BK229:=Qa.mk hbox;have GE229:=Qa.mk ((by rw [hg];exact(X4 HB.out):w.heap.size≤gb229));replace HB:=Qa.mk (Qr HB.out hb);have NB220_229:=Qa.mk ((by rw [hg];exact Nat.ne_of_lt (Xr (g:=gb220) (o:=.cells #[.int .i64 t212,.int .i64 t213,.string t214,.slice Ao26 t215.length co26] 26 (0,0)) BK220.out):gb220≠gb229));have NB229_220:=Qa.mk ((by rw [hg];exact Nat.ne_of_gt (Xr (g:=gb220) (o:=.cells #[.int .i64 t212,.int .i64 t213,.string t214,.slice Ao26 t215.length co26] 26 (0,0)) BK220.out):gb229≠gb220));replace BK220:=Qa.mk (Q1 (g:=gb220) (o:=.cells #[.int .i64 t212,.int .i64 t213,.string t214,.slice Ao26 t215.length co26] 26 (0,0)) BK220.out hb);clear hb hbox hg;have hnc29:=NB220_229.out;have hcz30_0:w28.cell? ⟨gb229,0,none⟩=some (.int .i64 0):=(Qb BK229.out 0).trans rfl;have hcz30_1:w28.cell? ⟨gb229,1,none⟩=some (.int .i64 0):=(Qb BK229.out 1).trans rfl;have hcz30_2:w28.cell? ⟨gb229,2,none⟩=some (.string (⟨#[]⟩ :ByteArray)):=(Qb BK229.out 2).trans rfl;have hcz30_3:w28.cell? ⟨gb229,3,none⟩=some (.slice none 0 0):=(Qb BK229.out 3).trans rfl;have hfz30_0:=Qd BK229.out 0;have hfz30_1:=Qd BK229.out 1;have hfz30_2:=Qd BK229.out 2;have hfz30_3:=Qd BK229.out 3;obtain⟨Ao31,co31,eo31⟩ :=Kd.N_slice HO226.out;subst eo31;have hcz32_0:w28.cell? ⟨gb220,0,none⟩=some (.int .i64 t212):=(Qb BK220.out 0).trans rfl;have hcz32_1:w28.cell? ⟨gb220,1,none⟩=some (.int .i64 t213):=(Qb BK220.out 1).trans rfl;have hcz32_2:w28.cell? ⟨gb220,2,none⟩=some (.string t214):=(Qb BK220.out 2).trans rfl;have hcz32_3:w28.cell? ⟨gb220,3,none⟩=some (.slice Ao26 t215.length co26):=(Qb BK220.out 3).trans rfl)|((with_reducible refine Qp (f:=20) rfl ?_);refine Xh (some 27) rfl rfl Tryd.func20 (by kernel_rfl) rfl #[.agg #[.int .i64 t212,.int .i64 t213,.string t214,.slice Ao26 t215.length co26],.agg #[.int .i64 t221,.int .i64 t222,.string t223,.slice Ao31 t224.length co31]] rfl (by(try simp only [List.map_toArray,List.map_cons,List.map_nil]);rfl) ?_;(with_reducible refine(Qq.calls k t212 t213 t214 _ _ t215 t221 t222 t223 _ _ t224 true _ ?side1 ((Kd.N_reads' HO217.out).2.1) ?side3 ((Kd.N_reads' HO226.out).2.1) A6.out).mono ?_);(case side1=>refine(Kd.N_reads' (e:=26) (base:=w.heap.size) (ok:=fun k_=>(((True∧k_≠gb220)∧some k_≠(.slice Ao31 t224.length co31:Value).ownBlock)∧k_≠gb229)) (n:=t215.length) (c:=co26) ?_).2.2;exact(by exact(Kd.N_mono (Kd.N_far (p:=⟨gb229,3,none⟩) (Kd.N_far (p:=⟨gb229,2,none⟩) (Kd.N_far (p:=⟨gb229,1,none⟩) (Kd.N_far (p:=⟨gb229,0,none⟩) (Kd.N_mono HO217.out (fun k_ hk=>(⟨hk,hk.2⟩ :_∧k_≠gb229))) (fun _ hk=>hk.2) (.int .i64 t221)) (fun _ hk=>hk.2) (.int .i64 t222)) (fun _ hk=>hk.2) (.string t223)) (fun _ hk=>hk.2) (.slice Ao31 t224.length co31)) (fun _ h_=>h_.1))));(case side3=>refine(Kd.N_reads' (e:=26) (base:=w.heap.size) (ok:=fun k_=>((some k_≠(.slice Ao26 t215.length co26:Value).ownBlock∧k_≠gb220)∧k_≠gb229)) (n:=t224.length) (c:=co31) ?_).2.2;exact(by exact(Kd.N_mono (Kd.N_far (p:=⟨gb229,3,none⟩) (Kd.N_far (p:=⟨gb229,2,none⟩) (Kd.N_far (p:=⟨gb229,1,none⟩) (Kd.N_far (p:=⟨gb229,0,none⟩) (Kd.N_mono HO226.out (fun k_ hk=>(⟨hk,hk.2⟩ :_∧k_≠gb229))) (fun _ hk=>hk.2) (.int .i64 t221)) (fun _ hk=>hk.2) (.int .i64 t222)) (fun _ hk=>hk.2) (.string t223)) (fun _ hk=>hk.2) (.slice Ao31 t224.length co31)) (fun _ h_=>h_.1))));rintro e w33 ⟨rfl,hb⟩;refine⟨_,rfl,?_⟩;replace HO217:=Qa.mk (Kd.N_below (by exact(Kd.N_mono (Kd.N_far (p:=⟨gb229,3,none⟩) (Kd.N_far (p:=⟨gb229,2,none⟩) (Kd.N_far (p:=⟨gb229,1,none⟩) (Kd.N_far (p:=⟨gb229,0,none⟩) (Kd.N_mono HO217.out (fun k_ hk=>(⟨hk,hk.2⟩ :_∧k_≠gb229))) (fun _ hk=>hk.2) (.int .i64 t221)) (fun _ hk=>hk.2) (.int .i64 t222)) (fun _ hk=>hk.2) (.string t223)) (fun _ hk=>hk.2) (.slice Ao31 t224.length co31)) (fun _ h_=>h_.1))) hb);replace HO226:=Qa.mk (Kd.N_below (by exact(Kd.N_mono (Kd.N_far (p:=⟨gb229,3,none⟩) (Kd.N_far (p:=⟨gb229,2,none⟩) (Kd.N_far (p:=⟨gb229,1,none⟩) (Kd.N_far (p:=⟨gb229,0,none⟩) (Kd.N_mono HO226.out (fun k_ hk=>(⟨hk,hk.2⟩ :_∧k_≠gb229))) (fun _ hk=>hk.2) (.int .i64 t221)) (fun _ hk=>hk.2) (.int .i64 t222)) (fun _ hk=>hk.2) (.string t223)) (fun _ hk=>hk.2) (.slice Ao31 t224.length co31)) (fun _ h_=>h_.1))) hb);replace BK220:=Qa.mk (Q1 (g:=gb220) (o:=.cells #[.int .i64 t212,.int .i64 t213,.string t214,.slice Ao26 t215.length co26] 26 (0,0)) (by refine Xg ?_ NB220_229.out _;refine Xg ?_ NB220_229.out _;refine Xg ?_ NB220_229.out _;refine Xg ?_ NB220_229.out _;exact BK220.out) hb);replace BK229:=Qa.mk (Q1 (g:=gb229) (o:=.cells #[.int .i64 t221,.int .i64 t222,.string t223,.slice Ao31 t224.length co31] 26 (0,0)) (by refine Qt (cs:=#[.int .i64 t221,.int .i64 t222,.string t223,.slice none 0 0]) ?_ 3 _ rfl;refine Qt (cs:=#[.int .i64 t221,.int .i64 t222,.string (⟨#[]⟩ :ByteArray),.slice none 0 0]) ?_ 2 _ rfl;refine Qt (cs:=#[.int .i64 t221,.int .i64 0,.string (⟨#[]⟩ :ByteArray),.slice none 0 0]) ?_ 1 _ rfl;refine Qt (cs:=#[.int .i64 0,.int .i64 0,.string (⟨#[]⟩ :ByteArray),.slice none 0 0]) ?_ 0 _ rfl;exact BK229.out) hb);replace HB:=Qa.mk (Qr (by repeat(with_reducible first|exact HB.out|refine Xf ?_ GE229.out)) hb);(try clear hb)))
  go_ret
  exact⟨by rfl,HB.out⟩
 rw [if_pos c9] at H;have c9b0:(t219==t228)=true:=beq_iff_eq.mpr c9;clear c9;replace H:=Option.bind_eq_some_iff.mp H;obtain⟨t231,A100,H⟩ :=H;try dsimp only at H
 have A10:=Qa.mk A100;clear A100;obtain rfl:=Option.some.inj H;go_enter Tryd.func3,Tryd.ntmps3;go_wp2_with(first|((with_reducible refine Qp (f:=16) rfl ?_);refine Xh (some 10) rfl rfl Tryd.func16 (by kernel_rfl) rfl #[.string a0] rfl (by(try simp only [List.map_toArray,List.map_cons,List.map_nil]);rfl) ?_;(with_reducible refine(Zh.calls a0 true _ A2.out).mono ?_);rintro e w' ⟨rfl,⟨nd,rfl⟩⟩;refine⟨_,rfl,?_⟩)|((with_reducible refine Qp (f:=18) rfl ?_);refine Xh (some 15) rfl rfl Tryd.func18 (by kernel_rfl) rfl #[.string a0] rfl (by(try simp only [List.map_toArray,List.map_cons,List.map_nil]);rfl) ?_;(with_reducible refine(Ze.calls k a0 t212 t213 t214 t215 t218 t219 _ A4.out).mono ?_);rintro e w11 ⟨v216,rfl,ho0,hb⟩;refine⟨_,rfl,?_⟩;have HO217:=Qa.mk (Kd.N_lower (Kd.N_mono (ok':=fun k_=>True) (Kd.R_N (Kd.R_bound ho0)) (fun k_ hk_=>trivial)) (X4 (by repeat(with_reducible first|exact HB.out|apply Q6))));replace HB:=Qa.mk (Qr (by repeat(with_reducible first|exact HB.out|apply Q6)) hb);(try clear hb);(try clear ho0))|((with_reducible refine Q0 (N:=3) rfl ?_);refine Xm ?hg (N:=3) ?hd (cs:=#[.int .i64 0,.int .i64 0,.string (⟨#[]⟩ :ByteArray),.slice none 0 0]) (t:=26) ?hr ?_;(case hd=>rfl);(case hg=>rfl);(case hr=>(go_simp;done));intro gb220 hg w12 hbox hb;replace HO217:=Qa.mk (Kd.N_below (Kd.N_elderB HO217.out gb220 (Nat.le_of_eq hg.symm)) hb);have BK220:=Qa.mk hbox;have GE220:=Qa.mk ((by rw [hg];exact(X4 HB.out):w.heap.size≤gb220));replace HB:=Qa.mk (Qr HB.out hb);clear hb hbox hg;have hcz13_0:w12.cell? ⟨gb220,0,none⟩=some (.int .i64 0):=(Qb BK220.out 0).trans rfl;have hcz13_1:w12.cell? ⟨gb220,1,none⟩=some (.int .i64 0):=(Qb BK220.out 1).trans rfl;have hcz13_2:w12.cell? ⟨gb220,2,none⟩=some (.string (⟨#[]⟩ :ByteArray)):=(Qb BK220.out 2).trans rfl;have hcz13_3:w12.cell? ⟨gb220,3,none⟩=some (.slice none 0 0):=(Qb BK220.out 3).trans rfl;have hfz13_0:=Qd BK220.out 0;have hfz13_1:=Qd BK220.out 1;have hfz13_2:=Qd BK220.out 2;have hfz13_3:=Qd BK220.out 3;obtain⟨Ao14,co14,eo14⟩ :=Kd.N_slice HO217.out;subst eo14)|((with_reducible refine Qp (f:=19) rfl ?_);refine Xh (some 21) rfl rfl Tryd.func19 (by kernel_rfl) rfl #[.string a0] rfl (by(try simp only [List.map_toArray,List.map_cons,List.map_nil]);rfl) ?_;(with_reducible refine(Xw.calls k a0 t221 t222 t223 t224 t227 t228 _ A5.out).mono ?_);rintro e w15 ⟨v225,rfl,ho0,hb⟩;refine⟨_,rfl,?_⟩;have HO226:=Qa.mk (Kd.N_lower (Kd.N_mono (ok':=fun k_=>some k_≠(.slice Ao14 t215.length co14:Value).ownBlock∧k_≠gb220) ho0 (fun k_ hk_=>⟨(Kd.fresh' (Kd.N_lt (by exact(Kd.N_mono (Kd.N_far (p:=⟨gb220,3,none⟩) (Kd.N_far (p:=⟨gb220,2,none⟩) (Kd.N_far (p:=⟨gb220,1,none⟩) (Kd.N_far (p:=⟨gb220,0,none⟩) (Kd.N_mono HO217.out (fun k_ hk=>(⟨hk,hk.2⟩ :_∧k_≠gb220))) (fun _ hk=>hk.2) (.int .i64 t212)) (fun _ hk=>hk.2) (.int .i64 t213)) (fun _ hk=>hk.2) (.string t214)) (fun _ hk=>hk.2) (.slice Ao14 t215.length co14)) (fun _ h_=>h_.1)))) k_ hk_),(Kd.freshB (g:=gb220) (o:=.cells #[.int .i64 t212,.int .i64 t213,.string t214,.slice Ao14 t215.length co14] 26 (0,0)) (by refine Qt (cs:=#[.int .i64 t212,.int .i64 t213,.string t214,.slice none 0 0]) ?_ 3 _ rfl;refine Qt (cs:=#[.int .i64 t212,.int .i64 t213,.string (⟨#[]⟩ :ByteArray),.slice none 0 0]) ?_ 2 _ rfl;refine Qt (cs:=#[.int .i64 t212,.int .i64 0,.string (⟨#[]⟩ :ByteArray),.slice none 0 0]) ?_ 1 _ rfl;refine Qt (cs:=#[.int .i64 0,.int .i64 0,.string (⟨#[]⟩ :ByteArray),.slice none 0 0]) ?_ 0 _ rfl;exact BK220.out) k_ hk_)⟩)) (X4 (by repeat(with_reducible first|exact HB.out|refine Xf ?_ GE220.out))));replace HO217:=Qa.mk (Kd.N_elder' (by exact(Kd.N_mono (Kd.N_far (p:=⟨gb220,3,none⟩) (Kd.N_far (p:=⟨gb220,2,none⟩) (Kd.N_far (p:=⟨gb220,1,none⟩) (Kd.N_far (p:=⟨gb220,0,none⟩) (Kd.N_mono HO217.out (fun k_ hk=>(⟨hk,hk.2⟩ :_∧k_≠gb220))) (fun _ hk=>hk.2) (.int .i64 t212)) (fun _ hk=>hk.2) (.int .i64 t213)) (fun _ hk=>hk.2) (.string t214)) (fun _ hk=>hk.2) (.slice Ao14 t215.length co14)) (fun _ h_=>h_.1))) (Kd.N_base ho0) hb);replace BK220:=Qa.mk (Q1 (g:=gb220) (o:=.cells #[.int .i64 t212,.int .i64 t213,.string t214,.slice Ao14 t215.length co14] 26 (0,0)) (by refine Qt (cs:=#[.int .i64 t212,.int .i64 t213,.string t214,.slice none 0 0]) ?_ 3 _ rfl;refine Qt (cs:=#[.int .i64 t212,.int .i64 t213,.string (⟨#[]⟩ :ByteArray),.slice none 0 0]) ?_ 2 _ rfl;refine Qt (cs:=#[.int .i64 t212,.int .i64 0,.string (⟨#[]⟩ :ByteArray),.slice none 0 0]) ?_ 1 _ rfl;refine Qt (cs:=#[.int .i64 0,.int .i64 0,.string (⟨#[]⟩ :ByteArray),.slice none 0 0]) ?_ 0 _ rfl;exact BK220.out) hb);replace HB:=Qa.mk (Qr (by repeat(with_reducible first|exact HB.out|refine Xf ?_ GE220.out)) hb);(try clear hb);(try clear ho0))|((with_reducible refine Q0 (N:=6) rfl ?_);refine Xm ?hg (N:=6) ?hd (cs:=#[.int .i64 0,.int .i64 0,.string (⟨#[]⟩ :ByteArray),.slice none 0 0]) (t:=26) ?hr ?_;(case hd=>rfl);(case hg=>rfl);(case hr=>(go_simp;done));intro gb229 hg w16 hbox hb;replace HO217:=Qa.mk (Kd.N_below (Kd.N_elderB HO217.out gb229 (Nat.le_of_eq hg.symm)) hb);replace HO226:=Qa.mk (Kd.N_below (Kd.N_elderB HO226.out gb229 (Nat.le_of_eq hg.symm)) hb);have BK229:=Qa.mk hbox;have GE229:=Qa.mk ((by rw [hg];exact(X4 HB.out):w.heap.size≤gb229));replace HB:=Qa.mk (Qr HB.out hb);have NB220_229:=Qa.mk ((by rw [hg];exact Nat.ne_of_lt (Xr (g:=gb220) (o:=.cells #[.int .i64 t212,.int .i64 t213,.string t214,.slice Ao14 t215.length co14] 26 (0,0)) BK220.out):gb220≠gb229));have NB229_220:=Qa.mk ((by rw [hg];exact Nat.ne_of_gt (Xr (g:=gb220) (o:=.cells #[.int .i64 t212,.int .i64 t213,.string t214,.slice Ao14 t215.length co14] 26 (0,0)) BK220.out):gb229≠gb220));replace BK220:=Qa.mk (Q1 (g:=gb220) (o:=.cells #[.int .i64 t212,.int .i64 t213,.string t214,.slice Ao14 t215.length co14] 26 (0,0)) BK220.out hb);clear hb hbox hg;have hnc17:=NB220_229.out;have hcz18_0:w16.cell? ⟨gb229,0,none⟩=some (.int .i64 0):=(Qb BK229.out 0).trans rfl;have hcz18_1:w16.cell? ⟨gb229,1,none⟩=some (.int .i64 0):=(Qb BK229.out 1).trans rfl;have hcz18_2:w16.cell? ⟨gb229,2,none⟩=some (.string (⟨#[]⟩ :ByteArray)):=(Qb BK229.out 2).trans rfl;have hcz18_3:w16.cell? ⟨gb229,3,none⟩=some (.slice none 0 0):=(Qb BK229.out 3).trans rfl;have hfz18_0:=Qd BK229.out 0;have hfz18_1:=Qd BK229.out 1;have hfz18_2:=Qd BK229.out 2;have hfz18_3:=Qd BK229.out 3;obtain⟨Ao19,co19,eo19⟩ :=Kd.N_slice HO226.out;subst eo19;have hcz20_0:w16.cell? ⟨gb220,0,none⟩=some (.int .i64 t212):=(Qb BK220.out 0).trans rfl;have hcz20_1:w16.cell? ⟨gb220,1,none⟩=some (.int .i64 t213):=(Qb BK220.out 1).trans rfl;have hcz20_2:w16.cell? ⟨gb220,2,none⟩=some (.string t214):=(Qb BK220.out 2).trans rfl;have hcz20_3:w16.cell? ⟨gb220,3,none⟩=some (.slice Ao14 t215.length co14):=(Qb BK220.out 3).trans rfl)|((with_reducible refine Qp (f:=20) rfl ?_);refine Xh (some 27) rfl rfl Tryd.func20 (by kernel_rfl) rfl #[.agg #[.int .i64 t212,.int .i64 t213,.string t214,.slice Ao14 t215.length co14],.agg #[.int .i64 t221,.int .i64 t222,.string t223,.slice Ao19 t224.length co19]] rfl (by(try simp only [List.map_toArray,List.map_cons,List.map_nil]);rfl) ?_;(with_reducible refine(Qq.calls k t212 t213 t214 _ _ t215 t221 t222 t223 _ _ t224 true _ ?side1 ((Kd.N_reads' HO217.out).2.1) ?side3 ((Kd.N_reads' HO226.out).2.1) A6.out).mono ?_);(case side1=>refine(Kd.N_reads' (e:=26) (base:=w.heap.size) (ok:=fun k_=>(((True∧k_≠gb220)∧some k_≠(.slice Ao19 t224.length co19:Value).ownBlock)∧k_≠gb229)) (n:=t215.length) (c:=co14) ?_).2.2;exact(by exact(Kd.N_mono (Kd.N_far (p:=⟨gb229,3,none⟩) (Kd.N_far (p:=⟨gb229,2,none⟩) (Kd.N_far (p:=⟨gb229,1,none⟩) (Kd.N_far (p:=⟨gb229,0,none⟩) (Kd.N_mono HO217.out (fun k_ hk=>(⟨hk,hk.2⟩ :_∧k_≠gb229))) (fun _ hk=>hk.2) (.int .i64 t221)) (fun _ hk=>hk.2) (.int .i64 t222)) (fun _ hk=>hk.2) (.string t223)) (fun _ hk=>hk.2) (.slice Ao19 t224.length co19)) (fun _ h_=>h_.1))));(case side3=>refine(Kd.N_reads' (e:=26) (base:=w.heap.size) (ok:=fun k_=>((some k_≠(.slice Ao14 t215.length co14:Value).ownBlock∧k_≠gb220)∧k_≠gb229)) (n:=t224.length) (c:=co19) ?_).2.2;exact(by exact(Kd.N_mono (Kd.N_far (p:=⟨gb229,3,none⟩) (Kd.N_far (p:=⟨gb229,2,none⟩) (Kd.N_far (p:=⟨gb229,1,none⟩) (Kd.N_far (p:=⟨gb229,0,none⟩) (Kd.N_mono HO226.out (fun k_ hk=>(⟨hk,hk.2⟩ :_∧k_≠gb229))) (fun _ hk=>hk.2) (.int .i64 t221)) (fun _ hk=>hk.2) (.int .i64 t222)) (fun _ hk=>hk.2) (.string t223)) (fun _ hk=>hk.2) (.slice Ao19 t224.length co19)) (fun _ h_=>h_.1))));rintro e w21 ⟨rfl,hb⟩;refine⟨_,rfl,?_⟩;replace HO217:=Qa.mk (Kd.N_below (by exact(Kd.N_mono (Kd.N_far (p:=⟨gb229,3,none⟩) (Kd.N_far (p:=⟨gb229,2,none⟩) (Kd.N_far (p:=⟨gb229,1,none⟩) (Kd.N_far (p:=⟨gb229,0,none⟩) (Kd.N_mono HO217.out (fun k_ hk=>(⟨hk,hk.2⟩ :_∧k_≠gb229))) (fun _ hk=>hk.2) (.int .i64 t221)) (fun _ hk=>hk.2) (.int .i64 t222)) (fun _ hk=>hk.2) (.string t223)) (fun _ hk=>hk.2) (.slice Ao19 t224.length co19)) (fun _ h_=>h_.1))) hb);replace HO226:=Qa.mk (Kd.N_below (by exact(Kd.N_mono (Kd.N_far (p:=⟨gb229,3,none⟩) (Kd.N_far (p:=⟨gb229,2,none⟩) (Kd.N_far (p:=⟨gb229,1,none⟩) (Kd.N_far (p:=⟨gb229,0,none⟩) (Kd.N_mono HO226.out (fun k_ hk=>(⟨hk,hk.2⟩ :_∧k_≠gb229))) (fun _ hk=>hk.2) (.int .i64 t221)) (fun _ hk=>hk.2) (.int .i64 t222)) (fun _ hk=>hk.2) (.string t223)) (fun _ hk=>hk.2) (.slice Ao19 t224.length co19)) (fun _ h_=>h_.1))) hb);replace BK220:=Qa.mk (Q1 (g:=gb220) (o:=.cells #[.int .i64 t212,.int .i64 t213,.string t214,.slice Ao14 t215.length co14] 26 (0,0)) (by refine Xg ?_ NB220_229.out _;refine Xg ?_ NB220_229.out _;refine Xg ?_ NB220_229.out _;refine Xg ?_ NB220_229.out _;exact BK220.out) hb);replace BK229:=Qa.mk (Q1 (g:=gb229) (o:=.cells #[.int .i64 t221,.int .i64 t222,.string t223,.slice Ao19 t224.length co19] 26 (0,0)) (by refine Qt (cs:=#[.int .i64 t221,.int .i64 t222,.string t223,.slice none 0 0]) ?_ 3 _ rfl;refine Qt (cs:=#[.int .i64 t221,.int .i64 t222,.string (⟨#[]⟩ :ByteArray),.slice none 0 0]) ?_ 2 _ rfl;refine Qt (cs:=#[.int .i64 t221,.int .i64 0,.string (⟨#[]⟩ :ByteArray),.slice none 0 0]) ?_ 1 _ rfl;refine Qt (cs:=#[.int .i64 0,.int .i64 0,.string (⟨#[]⟩ :ByteArray),.slice none 0 0]) ?_ 0 _ rfl;exact BK229.out) hb);replace HB:=Qa.mk (Qr (by repeat(with_reducible first|exact HB.out|refine Xf ?_ GE229.out)) hb);(try clear hb))|(go_at_call 17;(with_reducible refine(Qx.calls k  t231 _ A10.out).mono ?_);rintro e w22 ⟨rfl,hb⟩;replace HO217:=Qa.mk (Kd.N_below HO217.out hb);replace HO226:=Qa.mk (Kd.N_below HO226.out hb);replace BK220:=Qa.mk (Q1 (g:=gb220) (o:=.cells #[.int .i64 t212,.int .i64 t213,.string t214,.slice Ao14 t215.length co14] 26 (0,0)) BK220.out hb);replace BK229:=Qa.mk (Q1 (g:=gb229) (o:=.cells #[.int .i64 t221,.int .i64 t222,.string t223,.slice Ao19 t224.length co19] 26 (0,0)) BK229.out hb);replace HB:=Qa.mk (Qr HB.out hb);(try clear hb)))
 go_ret
 exact⟨by rfl,HB.out⟩
end Go.Proofs.YtglmdfddgmkmaaaDoor.Q
end
section
namespace Go.Proofs.YtglmdfddgmkmaaaDoor.Q
open Go.RowKit Go.Proofs.YtglmdfddgmkmaaaDoorW.PrintWords
set_option linter.unusedVariables false
set_option linter.unusedSimpArgs false
abbrev sl (s:ByteArray):List UInt8:=s.data.toList
def U8 (b:UInt8):Bool:=Wo (b.toNat:Int)
def Yy (b:UInt8):Bool:=X1.f (b.toNat:Int)==some true
def Fa (l:List UInt8):Bool:=Zw.f ⟨l.toArray⟩==some true
def opL (r:List UInt8):Nat→Nat
 |0=>0
 |k+1=>if k=0∨Fa (r.take (k+1))=true then k+1 else opL r k
def Vq (r:List UInt8):Nat:=if(r.takeWhile Yy).length=0 then opL r (min 3 r.length) else(r.takeWhile Yy).length
def tk (L:List UInt8):ByteArray:=⟨(L.take (Vq L)).toArray⟩
def nx (L:List UInt8):List UInt8:=(L.drop (Vq L)).dropWhile U8
theorem Zs (s:ByteArray):(sl s).length=s.size:=rfl
theorem Rq (s:ByteArray) (i:Nat) (h:i < s.size):bt s (i:Int)=(((sl s)[i]'h).toNat:Int):=by
 unfold bt;rw [dif_pos (show(i:Int).toNat < s.size by omega)];rfl
theorem drop_cons (s:ByteArray) (i:Nat) (h:i < s.size):∃b,(sl s).drop i=b::(sl s).drop (i+1)∧bt s (i:Int)=(b.toNat:Int):=
 ⟨_,List.drop_eq_getElem_cons h,Rq s i h⟩
theorem Uw (s:ByteArray):∀f i,i+f=s.size→V3 s f i=i+(((sl s).drop i).takeWhile U8).length
 |0,i,h=>by
  rw [List.drop_eq_nil_of_le (by rw [Zs];omega)];rfl
 |f+1,i,h=>by
  obtain⟨b,hb,hv⟩ :=drop_cons s i (by omega);rw [V3,hb,List.takeWhile_cons,hv,Uw s f (i+1) (by omega)];unfold U8
  cases Wo (b.toNat:Int)
  ·simp
  simp [show i < s.size by omega];omega
theorem Jx (s:ByteArray):∀f i,i+f=s.size→V4 s f i=i+(((sl s).drop i).takeWhile Yy).length
 |0,i,h=>by
  rw [List.drop_eq_nil_of_le (by rw [Zs];omega)];rfl
 |f+1,i,h=>by
  obtain⟨b,hb,hv⟩ :=drop_cons s i (by omega);rw [V4,hb,List.takeWhile_cons,hv,Jx s f (i+1) (by omega)];unfold Yy;by_cases hw:X1.f (b.toNat:Int)=some true
  rotate_left
  ·simp [hw]
  simp [show i < s.size by omega,hw];omega
theorem Jt (s:ByteArray) (i:Nat) (h:i≤s.size):Zn s i=i+(((sl s).drop i).takeWhile U8).length:=Uw s _ i (by omega)
theorem Yl (s:ByteArray) (i j:Nat):s.extract i j=⟨(((sl s).drop i).take (j - i)).toArray⟩ :=by
 apply ByteArray.ext;rw [ByteArray.data_extract,←Array.toArray_toList (xs:=s.data.extract i j),Array.toList_extract]
theorem G0 (r:ByteArray):∀k n,opK r k n=if n=0 then opL (sl r) k else n
 |0,n=>by
  simp only [opK,opL];split <;> simp_all
 |k+1,n=>by
  simp only [opK,opL];split
  rotate_left
  ·rfl
  rw [G0 r k,Yl];simp only [List.drop_zero,Nat.sub_zero,Fa,beq_iff_eq];by_cases hc:k=0∨Zw.f ⟨((sl r).take (k+1)).toArray⟩=some true
  ·rw [if_pos hc,if_neg (by omega),if_pos hc]
  rw [if_neg hc,if_pos rfl,if_neg hc]
theorem Kp (r:ByteArray):Nj r=Vq (sl r):=by
 unfold Nj Vq Jd;rw [G0,Jx r _ 0 (by omega)];simp only [List.drop_zero,Nat.zero_add];rfl
def At (s:ByteArray) (p:Nat) (L:List UInt8):Prop:=p≤s.size∧(sl s).drop p=L
theorem At.len {s p L} (h:At s p L):p+L.length=s.size:=by
 obtain⟨h1,rfl⟩ :=h;rw [List.length_drop,Zs];omega
theorem At.adv {s p A B} (h:At s p (A++B)):At s (p+A.length) B:=by
 obtain⟨h1,h2⟩ :=h;have hl:=At.len ⟨h1,h2⟩;rw [List.length_append] at hl;exact⟨by omega,by rw [←List.drop_drop,h2,List.drop_left]⟩
theorem Wb (L:List UInt8):Vq L≤L.length:=by
 have:=Uc ⟨L.toArray⟩;rw [Kp] at this;exact this
theorem Vv (L:List UInt8):(tk L).size=Vq L:=by
 have:=Wb L
 show(L.take (Vq L)).toArray.size=_
 simp;omega
theorem Z9 {s p L} (h:At s p L):At s (Zb s p (tk L)) (nx L)∧Yb s p (tk L)=tk (nx L):=by
 have hle:=Wb L
 have h1:At s (p+(tk L).size) (L.drop (Vq L)):=by
  have h2:=At.adv (A:=L.take (Vq L)) (B:=L.drop (Vq L)) (by rw [List.take_append_drop];exact h);rw [List.length_take,Nat.min_eq_left hle] at h2;rw [Vv];exact h2
 have h2:At s (Zb s p (tk L)) (nx L):=by
  unfold Zb;rw [Jt s _ h1.1,h1.2];have h3:=At.adv (A:=(L.drop (Vq L)).takeWhile U8) (B:=nx L) (by unfold nx;rw [List.takeWhile_append_dropWhile];exact h1);exact h3
 refine⟨h2,?_⟩;unfold Yb;rw [Kp]
 have e:s.extract (Zb s p (tk L)) s.size=⟨(nx L).toArray⟩ :=by
  rw [Yl,h2.2];have:=h2.len;rw [List.take_of_length_le (by omega)]
 rw [e,Yl];simp only [sl,List.drop_zero,Nat.sub_zero];rfl
theorem Wz {L:List UInt8} (h:L≠[]):0 < Vq L:=by
 unfold Vq;split
 rotate_left
 ·omega
 have:∃k,min 3 L.length=k+1 :=⟨min 3 L.length - 1,by have:=List.length_pos_iff.mpr h;omega⟩;obtain⟨k,hk⟩ :=this;rw [hk];clear hk
 induction k with
 |zero=>simp [opL]
 |succ k ih=>
  rw [opL];split
  ·omega
  exact ih
def Tj:List (List UInt8):=[[60,60,61],[62,62,61],[60,60],[62,62],[60,61],[62,61],[61,61],[33,61],[38,38],[124,124],[43,61],[45,61],[42,61],[47,61],[37,61],[38,61],[94,61],[124,61]]
theorem So {l:List UInt8} (h:Fa l=true):l∈Tj:=by
 refine Classical.byContradiction fun hm=>?_
 unfold Fa Zw.f at h;rw [Go.ByteArray.toList_eq] at h;simp only [Tj,List.mem_cons,List.not_mem_nil,or_false,not_or] at hm;simp [hm] at h
theorem Ni:tk []=⟨#[]⟩ :=by rfl
theorem un0:X7.f ⟨#[]⟩=some 0 :=by kernel_rfl
theorem bi0:Xy.f ⟨#[]⟩=some (0,0):=by kernel_rfl
def nb (L:List UInt8):Prop:=∀b∈L.head?,U8 b=false
theorem Wk:∀L:List UInt8,nb (L.dropWhile U8)
 |[]=>fun b hb=>by simp at hb
 |a::L=>by
  rw [List.dropWhile_cons];split
  ·exact Wk L
  rename_i h
  intro b hb;simp at hb;subst hb;simpa using h
theorem Yz (L:List UInt8):nb (nx L):=Wk _
def Nb (s:ByteArray) (p:Nat):Prop:=∃i,i < p∧Wo (bt s i)=false
theorem Nb.mono {s:ByteArray} {p q:Nat} (h:Nb s p) (hpq:p≤q):Nb s q:=by
 obtain⟨i,h1,h2⟩ :=h;exact⟨i,by omega,h2⟩
theorem At.head {s p L} (h:At s p L) (hL:L≠[]) (hn:nb L):Wo (bt s p)=false:=by
 have hl:=h.len;have:=List.length_pos_iff.mpr hL;obtain⟨b,hb,hv⟩ :=drop_cons s p (by omega);rw [h.2] at hb;have:=hn b (by rw [hb];rfl);rw [hv];exact this
def okG:Gl→Prop
 |.level n=>1≤n
 |.more n _=>1≤n
 |_=>True
end Go.Proofs.YtglmdfddgmkmaaaDoor.Q
end
section
namespace Go.Proofs.YtglmdfddgmkmaaaDoor.Q
open Go.RowKit Go.Proofs.YtglmdfddgmkmaaaDoorW.PrintWords
set_option linter.unusedVariables false
set_option linter.unusedSimpArgs false
theorem G8 (s:ByteArray) {k n:Nat} (h:k≤n) {gl p t r} (hr:pr s k gl p t=some r):pr s n gl p t=some r:=by
 induction h with
 |refl=>exact hr
 |step _ ih=>exact Ge s _ _ _ _ _ ih
def pl (s:ByteArray) (L:List UInt8):Nat:=s.size - L.length
def okL (s:ByteArray) (x:S26) (L:List UInt8):Except (Nat×Int) (S26×Nat×ByteArray):=.ok (x,pl s L,tk L)
def E (s:ByteArray) (gl:Gl) (L:List UInt8) (r:Except (Nat×Int) (S26×Nat×ByteArray)):Prop:=∃k,pr s k gl (pl s L) (tk L)=some r
theorem T0 {s L} (h:L <:+sl s):At s (pl s L) L:=by
 obtain⟨A,hA⟩ :=h;have hl:A.length+L.length=s.size:=by rw [←List.length_append,hA];rfl
 have e:pl s L=A.length:=by unfold pl;omega
 refine⟨by omega,?_⟩;rw [e,←hA,List.drop_left]
theorem Rd (L:List UInt8):nx L <:+L:=(List.dropWhile_suffix _).trans (List.drop_suffix _ _)
theorem Sn {s L} (h:L <:+sl s):Zb s (pl s L) (tk L)=pl s (nx L)∧Yb s (pl s L) (tk L)=tk (nx L):=by
 obtain⟨h1,h2⟩ :=Z9 (T0 h);refine⟨?_,h2⟩;have h3:=h1.len;unfold pl at*;omega
section
variable {s:ByteArray}
theorem E.level13 {L r} (h:E s .operand L r):E s (.level 13) L r:=by
 obtain⟨k,hk⟩ :=h;exact⟨k+1,by rw [pr,if_pos rfl];exact hk⟩
theorem E.level {n L x U r} (hn:n≠13) (h:E s (.level (n+1)) L (okL s x U)) (h2:E s (.more n x) U r):E s (.level n) L r:=by
 obtain⟨k,hk⟩ :=h;obtain⟨j,hj⟩ :=h2;refine⟨k+j+1,?_⟩;rw [pr,if_neg hn,G8 s (show k≤k+j by omega) hk];exact G8 s (show j≤k+j by omega) hj
theorem E.more_stop {n:Nat} {x L o l} (h:Xy.f (tk L)=some (o,l)) (hl:l≠(n:Int)):E s (.more n x) L (okL s x L):=
 ⟨1,by rw [pr,h];simp only;rw [if_neg hl];rfl⟩
theorem E.second_stop {L x U} (h:E s (.level 3) L (okL s x U)) (hq:¬(tk U).toList=[63]):E s .second L (okL s x U):=by
 obtain⟨k,hk⟩ :=h;refine⟨k+1,?_⟩;rw [pr,hk]
 show(if(tk U).toList=[63] then _ else _)=_
 rw [if_neg hq];rfl
theorem E.name {L} (hL:L <:+sl s) (h:X7.f (tk L)=some 0) (hp:¬(tk L).toList=[40]) (h0:(tk L).size≠0) (hw:X1.f (bt (tk L) 0)=some true) (hd:¬Xt.f (bt (tk L) 0)=some true) (hn:nameB (tk L)=true):E s .operand L (okL s ⟨2,0,tk L,[]⟩ (nx L)):=by
 obtain⟨e1,e2⟩ :=Sn hL;refine⟨1,?_⟩;rw [pr,h];simp only;rw [if_neg (by simp),if_neg hp,if_neg (by rintro(h|h);exact h0 h;exact h hw),if_neg hd,if_pos hn,e1,e2];rfl
def Lo (n:Nat) (U:List UInt8):Prop:=∃o l,Xy.f (tk U)=some (o,l)∧l < (n:Int)
theorem Lo.mono {n m U} (h:Lo n U) (hnm:n≤m):Lo m U:=by
 obtain⟨o,l,h1,h2⟩ :=h;exact⟨o,l,h1,by omega⟩
end
theorem S3 (b:UInt8):Yy b=true ↔ ((b.toNat=95∨(97≤b.toNat∧b.toNat≤122)∨(65≤b.toNat∧b.toNat≤90))∨(48≤b.toNat∧b.toNat≤57)):=by
 unfold Yy X1.f Xt.f;repeat' split
 all_goals simp <;> omega
theorem Sy {t:ByteArray} {b:UInt8} {l:List UInt8} (h:sl t=b::l) (hb:Yy b=true):X7.f t=some 0 :=by
 have hne:∀c:UInt8,Yy c=false→¬t.toList=[c]:=by
  intro c hc e;rw [Go.ByteArray.toList_eq,show t.data.toList=b::l from h] at e;simp at e;rw [e.1,hc] at hb
  cases hb
 unfold X7.f;rw [if_neg (hne _ rfl),if_neg (hne _ rfl),if_neg (hne _ rfl),if_neg (hne _ rfl)]
theorem Le {t:ByteArray} {b:UInt8} {l:List UInt8} (h:sl t=b::l) (hb:Yy b=true):¬t.toList=[40]:=by
 intro e;rw [Go.ByteArray.toList_eq,show t.data.toList=b::l from h] at e;simp at e;rw [e.1] at hb
 cases hb
theorem bt0 {t:ByteArray} {b:UInt8} {l:List UInt8} (h:sl t=b::l):bt t 0=(b.toNat:Int)∧t.size≠0 :=by
 have h1:t.size=l.length+1 :=by rw [←Zs,h];rfl
 obtain⟨c,hc,hv⟩ :=drop_cons t 0 (by omega);rw [List.drop_zero,h] at hc;simp at hc;exact⟨by rw [hc];exact hv,by omega⟩
theorem T2 {b:UInt8} (h:Yy b=true):X1.f (b.toNat:Int)=some true:=by
 unfold Yy at h;simpa using h
abbrev Vb (rest:List UInt8):List UInt8:=rest.dropWhile U8
section
variable {s:ByteArray} {x:S26} {B:List UInt8}
end
end Go.Proofs.YtglmdfddgmkmaaaDoor.Q
end
section
namespace Go.Proofs.YtglmdfddgmkmaaaDoor.Q
open Go.RowKit Go.Proofs.YtglmdfddgmkmaaaDoorW.PrintWords
set_option linter.unusedVariables false
set_option linter.unusedSimpArgs false
theorem Sk {c:Prop} [Decidable c] {x y:Option (Int×Int)} (hx:∃o l,x=some (o,l)) (hy:∃o l,y=some (o,l)):∃o l,(if c then x else y)=some (o,l):=by
 split
 ·exact hx
 exact hy
theorem Kr (t:ByteArray):∃o l,Xy.f t=some (o,l):=by
 unfold Xy.f;repeat(refine Sk ⟨_,_,rfl⟩ ?_)
 exact⟨_,_,rfl⟩
theorem Mj (t:ByteArray):∃o,X7.f t=some o:=by
 unfold X7.f;repeat' (first|exact⟨_,rfl⟩|split)
theorem Ue {z:Int} (h0: -9223372036854775808≤z) (h1:z≤9223372036854775807):wrap64 z=z:=by
 simp only [wrap64,IntKind.wrap];omega
theorem Uj (t:ByteArray) (b:Bool) (h:b=true∨1≤t.size) (h1:t.size≤9223372036854775807):∃o c,Xe.j0 1 t b=some (o,c):=by
 rw [Xe.j0];split
 ·exact⟨_,_,rfl⟩
 rename_i hb
 have h2:1≤t.size:=by
  rcases h with h|h
  ·exact absurd h hb
  exact h
 rw [Ue (by omega) (by omega),if_pos (by omega),if_pos (by omega)];split
 rotate_left
 ·exact⟨_,_,rfl⟩
 rw [if_pos (by omega)];obtain⟨o,l,ho⟩ :=Kr (t.extract 0 ((t.size:Int) - 1).toNat);rw [ho];simp only [Option.bind_some];split
 ·exact⟨_,_,rfl⟩
 exact⟨_,_,rfl⟩
theorem Ja (t:ByteArray) (h1:t.size≤9223372036854775807):∃o c,Xe.f 1 t=some (o,c):=by
 have h:∀l:List UInt8,l≠[]→t.toList=l→1≤t.size:=by
  intro l hl e;rw [Go.ByteArray.toList_eq] at e;have:t.size=l.length:=by rw [←e];rfl
  have:=List.length_pos_iff.mpr hl;omega
 unfold Xe.f;split
 ·exact⟨_,_,rfl⟩
 split
 ·exact Uj t _ (.inr (h _ (List.cons_ne_nil _ _) (by assumption))) h1
 split
 ·exact Uj t _ (.inr (h _ (List.cons_ne_nil _ _) (by assumption))) h1
 split
 ·exact Uj t _ (.inr (h _ (List.cons_ne_nil _ _) (by assumption))) h1
 split
 ·exact Uj t _ (.inr (h _ (List.cons_ne_nil _ _) (by assumption))) h1
 refine Uj t _ ?_ h1;rcases Nat.eq_zero_or_pos t.size with h0|h0
 rotate_left
 ·exact .inr h0
 left
 have:t.toList=[]:=by
  rw [Go.ByteArray.toList_eq];exact List.eq_nil_of_length_eq_zero h0
 rw [this];rfl
theorem Rw (k:Nat) (c:Int):∃d,Xx.f (k+1) c=some d:=by
 unfold Xx.f
 have hj:∀b,∃d,Xx.j0 (k+1) c b=some d:=by
  intro b;rw [Xx.j0];repeat' split
  all_goals exact⟨_,rfl⟩
 have:∃b,Xt.f c=some b:=by
  unfold Xt.f;split
  ·exact⟨_,rfl⟩
  exact⟨_,rfl⟩
 obtain⟨b,hb⟩ :=this;rw [hb];simp only [Option.bind_some];split
 ·exact⟨_,rfl⟩
 split
 ·exact hj _
 exact hj _
def okE (e:Int):Prop:=e=0∨e=6∨e=14
theorem Gy (base:Int) (t:ByteArray) (hb:base≠0) (hs:t.size≤9223372036854775807):∀(d i:Nat) (n:Int) (ov:Bool),i+d=t.size→∃r e,Qy.l0 (d+1) base t n ov (t.size:Int) (i:Int)=some (r,e)∧okE e
 |0,i,n,ov,h=>by
  rw [Qy.l0,if_neg (by omega)];split
  ·exact⟨_,_,rfl,by unfold okE;simp⟩
  exact⟨_,_,rfl,by unfold okE;simp⟩
 |d+1,i,n,ov,h=>by
  have hw:wrap64 ((i:Int)+1)=((i+1 :Nat):Int):=by rw [Ue (by omega) (by omega)];omega
  have ih:=fun n ov=>Gy base t hb hs d (i+1) n ov (by omega)
  obtain⟨v,hv⟩ :=Rw d (bt t (i:Int));rw [Qy.l0,if_pos (by omega),if_pos (by omega),if_pos (by omega),hv,hw];simp only [Option.bind_some];split
  ·exact⟨_,_,rfl,by unfold okE;simp⟩
  split
  ·exact ih _ _
  split
  ·exact ih _ _
  exact ih _ _
theorem N9 (base:Int) (t:ByteArray) (hb:base≠0) (hs:t.size≤9223372036854775807) (k:Nat) (hk:t.size+2≤k):∃r e,Qy.j1 k base t=some (r,e)∧okE e:=by
 obtain⟨k,rfl⟩ :∃j,k=j+1 :=⟨k - 1,by omega⟩;rw [Qy.j1];split
 ·exact⟨_,_,rfl,by unfold okE;simp⟩
 obtain⟨r,e,h,he⟩ :=Gy base t hb hs t.size 0 0 false (by omega);refine⟨r,e,?_,he⟩
 have up:∀n,t.size+1≤n→Qy.l0 n base t 0 false (t.size:Int) ((0 :Nat):Int)=some (r,e):=by
  intro n hn
  induction hn with
  |refl=>exact h
  |step _ ih=>exact(Qy.mono_l _).2.1 _ _ _ _ _ _ _ ih
 exact up k (by omega)
theorem Kv (t:ByteArray) (h0:t.size≠0) (hs:t.size≤9223372036854775807):∃r e,Qy.f (t.size+3) t=some (r,e)∧okE e:=by
 have hj:∀b,(b=true→2≤t.size)→∃r e,Qy.j0 (t.size+3) t 10 t b=some (r,e)∧okE e:=by
  intro b hb;rw [Qy.j0];split
  rotate_left
  ·rw [if_pos (by omega)];split
   ·exact N9 8 t (by omega) hs _ (by omega)
   exact N9 10 t (by omega) hs _ (by omega)
  rename_i h
  have h2:=hb h;rw [if_pos (by omega)];refine N9 16 _ (by omega) ?_ _ ?_
  ·rw [ByteArray.size_extract];omega
  rw [ByteArray.size_extract];omega
 unfold Qy.f;split
 rotate_left
 ·exact hj _ (fun h=>by cases h)
 rw [if_pos (by omega)];split
 rotate_left
 ·exact hj _ (fun h=>by cases h)
 split
 ·exact hj _ (fun _=>by omega)
 exact hj _ (fun _=>by omega)
structure Shut (Q:S26→Prop):Prop where
 num:∀t n,Qy.f (t.size+3) t=some (n,0)→Q ⟨1,n,Yq,[]⟩
 var:∀t,nameB t=true→Q ⟨2,0,t,[]⟩
 un:∀t op y,X7.f t=some op→op≠0→Q y→Q ⟨op,0,Yq,[y]⟩
 bin:∀t op (n:Nat) x y,Xy.f t=some (op,(n:Int))→1≤n→Q x→Q y→Q ⟨op,0,Yq,[x,y]⟩
 cond:∀x y z,Q x→Q y→Q z→Q ⟨25,0,Yq,[x,y,z]⟩
 set:∀t op x y,Xe.f 1 t=some (op,true)→x.f0=2→Q x→Q y→Q ⟨26,op,x.f2,[y]⟩
def S7 (Q:S26→Prop):Gl→Prop
 |.more _ x=>Q x
 |_=>True
def less:Gl→Nat
 |.more _ _=>0
 |_=>1
theorem F8 {L:List UInt8} (h:L≠[]):(nx L).length+1≤L.length:=by
 have hp:=Wz h;have hq:=Wb L
 have:(nx L).length≤(L.drop (Vq L)).length:=by
  unfold nx;exact(List.dropWhile_sublist _).length_le
 rw [List.length_drop] at this;omega
def Good (Q:S26→Prop) (s:ByteArray) (d:Nat) (L:List UInt8) (r:Jy):Prop:=
 match r with
 |none=>True
 |some (.error (q,e))=>e=6∨e=10∨e=14
 |some (.ok (x,p,t))=>∃M,At s p M∧t=tk M∧nb M∧M.length+d≤L.length∧Q x
theorem Good.bind {Q:S26→Prop} {s d L d' L'} {a:Jy} {f:S26→Nat→ByteArray→Jy} (h:Good Q s d L a) (hf:∀x p M,At s p M→nb M→M.length+d≤L.length→Q x→Good Q s d' L' (f x p (tk M))):Good Q s d' L' (Zu a f):=by
 match a,h with
 |none,_=>exact True.intro
 |some (.ok (x,p,t)),h=>
  obtain⟨M,h1,rfl,h2,h3,h4⟩ :=h;exact hf x p M h1 h2 h3 h4
 |some (.error (q,e)),h=>exact h
theorem Gd {Q:S26→Prop} (hQ:Shut Q) {s:ByteArray} (hs:s.size≤4096):∀(k:Nat) (gl:Gl) (p:Nat) (L:List UInt8),okG gl→S7 Q gl→At s p L→nb L→Good Q s (less gl) L (pr s k gl p (tk L)):=by
 intro k
 induction k with
 |zero=>intro gl p L _ _ _ _;exact True.intro
 |succ k ih=>
  intro gl p L hg hm hA hb;have nxt:∀{p L},At s p L→At s (Zb s p (tk L)) (nx L)∧Yb s p (tk L)=tk (nx L):=fun h=>Z9 h
  have le_nx:∀L,(nx L).length≤L.length:=fun L=>(Rd L).length_le
  cases gl with
  |first=>
   simp only [pr];refine(ih .second p L trivial trivial hA hb).bind (fun x p1 M hA1 hb1 hl hx=>?_);rcases ha:Xe.f 1 (tk M) with _|⟨op,is⟩
   ·exact True.intro
   simp only;split
   rotate_left
   ·exact⟨M,hA1,rfl,hb1,hl,hx⟩
   rename_i hc
   obtain⟨e1,e2⟩ :=nxt hA1;rw [e2];refine(ih .first _ _ trivial trivial e1 (Yz M)).bind (fun y p2 M2 hA2 hb2 hl2 hy=>?_);refine⟨M2,hA2,rfl,hb2,?_,hQ.set _ _ _ _ (by rw [ha,hc.1]) hc.2.1 hx hy⟩;have:=le_nx M;simp only [less] at*;omega
  |second=>
   simp only [pr];refine(ih (.level 3) p L (by simp [okG]) trivial hA hb).bind (fun x p1 M hA1 hb1 hl hx=>?_);split
   rotate_left
   ·exact⟨M,hA1,rfl,hb1,hl,hx⟩
   obtain⟨e1,e2⟩ :=nxt hA1;rw [e2];refine(ih .first _ _ trivial trivial e1 (Yz M)).bind (fun y p2 M2 hA2 hb2 hl2 hy=>?_);split
   rotate_left
   ·exact .inl rfl
   obtain⟨e3,e4⟩ :=nxt hA2;rw [e4];refine(ih .second _ _ trivial trivial e3 (Yz M2)).bind (fun z p3 M3 hA3 hb3 hl3 hz=>?_);refine⟨M3,hA3,rfl,hb3,?_,hQ.cond _ _ _ hx hy hz⟩;have:=le_nx M;have:=le_nx M2;simp only [less] at*;omega
  |level n=>
   simp only [pr];split
   ·exact ih .operand p L trivial trivial hA hb
   refine(ih (.level (n+1)) p L (by simp [okG]) trivial hA hb).bind (fun x p1 M hA1 hb1 hl hx=>?_);have h:=ih (.more n x) p1 M hg hx hA1 hb1;revert h
   cases pr s k (.more n x) p1 (tk M) with
   |none=>exact fun _=>True.intro
   |some r=>
    match r with
    |.error (q,e)=>exact fun h=>h
    |.ok (y,q,t)=>
     intro h;obtain⟨M2,h1,h2,h3,h4,h5⟩ :=h;refine⟨M2,h1,h2,h3,?_,h5⟩;simp only [less] at*;omega
  |more n x=>
   simp only [pr];rcases ha:Xy.f (tk L) with _|⟨op,l⟩
   ·exact True.intro
   simp only;split
   rotate_left
   ·exact⟨L,hA,rfl,hb,by simp [less],hm⟩
   rename_i hc
   obtain⟨e1,e2⟩ :=nxt hA;rw [e2];refine(ih (.level (n+1)) _ _ (by simp [okG]) trivial e1 (Yz L)).bind (fun y p1 M hA1 hb1 hl hy=>?_);have h:=ih (.more n ⟨op,0,Yq,[x,y]⟩) p1 M hg (hQ.bin _ _ n _ _ (by rw [ha,hc]) hg hm hy) hA1 hb1;revert h
   cases pr s k (.more n ⟨op,0,Yq,[x,y]⟩) p1 (tk M) with
   |none=>exact fun _=>True.intro
   |some r=>
    match r with
    |.error (q,e)=>exact fun h=>h
    |.ok (y,q,t)=>
     intro h;obtain⟨M2,h1,h2,h3,h4,h5⟩ :=h;have:=le_nx L;refine⟨M2,h1,h2,h3,?_,h5⟩;simp only [less] at*;omega
  |operand=>
   simp only [pr];obtain⟨e1,e2⟩ :=nxt hA;rw [e2];rcases Classical.em (L=[]) with rfl|hL
   ·have h0:tk []=⟨#[]⟩ :=Ni;rw [h0,un0];simp only;rw [if_neg (by simp),if_neg (by rw [Go.ByteArray.toList_eq];simp),if_pos (.inl rfl)];exact .inl rfl
   have hlt:=F8 hL;rcases ha:X7.f (tk L) with _|op
   ·exact True.intro
   simp only;split
   ·rename_i hop
    refine(ih .operand _ _ trivial trivial e1 (Yz L)).bind (fun y p1 M hA1 hb1 hl hy=>⟨M,hA1,rfl,hb1,?_,hQ.un _ _ _ ha hop hy⟩);simp only [less] at*;omega
   split
   ·refine(ih .first _ _ trivial trivial e1 (Yz L)).bind (fun y p1 M hA1 hb1 hl hy=>?_);split
    rotate_left
    ·exact .inl rfl
    obtain⟨e3,e4⟩ :=nxt hA1;have:=le_nx M;refine⟨nx M,e3,e4,Yz M,?_,hy⟩;simp only [less] at*;omega
   split
   ·exact .inl rfl
   rename_i hw
   split
   rotate_left
   ·split
    rotate_left
    ·exact .inr (.inl rfl)
    rename_i hn
    refine⟨nx L,e1,rfl,Yz L,?_,hQ.var _ hn⟩;simp only [less];omega
   rcases hn:Qy.f ((tk L).size+3) (tk L) with _|⟨n,e⟩
   ·exact True.intro
   simp only;split
   ·rename_i he
    refine⟨nx L,e1,rfl,Yz L,?_,hQ.num _ _ (by rw [hn,he])⟩;simp only [less];omega
   rename_i he
   have hsz:(tk L).size≤9223372036854775807 :=by
    have h1:=Wb L;have h2:=hA.len;rw [Vv];omega
   obtain⟨r,e',h1,h2⟩ :=Kv (tk L) (fun h=>hw (.inl h)) hsz
   rw [hn] at h1;simp only [Option.some.injEq,Prod.mk.injEq] at h1;obtain⟨rfl,rfl⟩ :=h1;rcases h2 with h2|h2|h2
   ·exact absurd h2 he
   ·exact .inl h2
   ·exact .inr (.inr h2)
def rk:Gl→Nat
 |.more _ _=>0
 |.operand=>1
 |.level n=>2+(13 - n)
 |.second=>17
 |.first=>18
def Ur:Gl→Prop
 |.level n=>1≤n∧n≤13
 |.more n _=>1≤n∧n≤12
 |_=>True
theorem Ti {gl:Gl} (h:Ur gl):okG gl:=by
 cases gl <;> simp [okG,Ur] at*<;> omega
theorem Nc:Shut (fun _=>True):=⟨fun _ _ _=>trivial,fun _ _=>trivial,fun _ _ _ _ _ _=>trivial,fun _ _ _ _ _ _ _ _ _=>trivial,fun _ _ _ _ _ _=>trivial,fun _ _ _ _ _ _ _ _=>trivial⟩
theorem Gv (gl:Gl):S7 (fun _=>True) gl:=by cases gl <;> trivial
theorem Vw {a:Jy} {f:S26→Nat→ByteArray→Jy} (h:a≠none) (hf:∀x p t,a=some (.ok (x,p,t))→f x p t≠none):Zu a f≠none:=by
 match a,h with
 |some (.ok (x,p,t)),_=>exact hf x p t rfl
 |some (.error e),_=>simp [Zu]
theorem Rk {s:ByteArray} (hs:s.size≤4096):∀(k:Nat) (gl:Gl) (p:Nat) (L:List UInt8),Ur gl→At s p L→nb L→32*L.length+rk gl < k→pr s k gl p (tk L)≠none:=by
 intro k
 induction k with
 |zero=>intro gl p L _ _ _ h;omega
 |succ k ih=>
  intro gl p L hg hA hb hk;have good:=fun gl p L (h:Ur gl) hA hb=>Gd Nc hs k gl p L (Ti h) (Gv gl) hA hb
  have nxt:∀{p L},At s p L→At s (Zb s p (tk L)) (nx L)∧Yb s p (tk L)=tk (nx L):=fun h=>Z9 h
  have le_nx:∀L,(nx L).length≤L.length:=fun L=>(Rd L).length_le
  have sz:∀{p L},At s p L→(tk L).size≤9223372036854775807 :=by
   intro p L h;have h1:=Wb L;have h2:=h.len;rw [Vv];omega
  cases gl with
  |first=>
   simp only [pr];refine Vw (ih .second p L trivial hA hb (by simp [rk] at*;omega)) (fun x p1 t1 h1=>?_);have hG:=good .second p L trivial hA hb;rw [h1] at hG;obtain⟨M,hA1,rfl,hb1,hl,_⟩ :=hG;obtain⟨op,is,ha⟩ :=Ja (tk M) (sz hA1);rw [ha];simp only;split
   rotate_left
   ·simp
   obtain⟨e1,e2⟩ :=nxt hA1;rw [e2];have:=le_nx M;refine Vw (ih .first _ _ trivial e1 (Yz M) (by simp [rk,less] at*;omega)) (fun y p2 t2 h2=>by simp)
  |second=>
   simp only [pr];refine Vw (ih (.level 3) p L (by simp [Ur]) hA hb (by simp [rk] at*;omega)) (fun x p1 t1 h1=>?_);have hG:=good (.level 3) p L (by simp [Ur]) hA hb;rw [h1] at hG;obtain⟨M,hA1,rfl,hb1,hl,_⟩ :=hG;split
   rotate_left
   ·simp
   obtain⟨e1,e2⟩ :=nxt hA1;rw [e2];have:=le_nx M;refine Vw (ih .first _ _ trivial e1 (Yz M) (by simp [rk,less] at*;omega)) (fun y p2 t2 h2=>?_);have hG:=good .first _ _ trivial e1 (Yz M)
   rw [h2] at hG;obtain⟨M2,hA2,rfl,hb2,hl2,_⟩ :=hG;split
   rotate_left
   ·simp
   obtain⟨e3,e4⟩ :=nxt hA2;rw [e4];have:=le_nx M2;refine Vw (ih .second _ _ trivial e3 (Yz M2) (by simp [rk,less] at*;omega)) (fun z p3 t3 h3=>by simp)
  |level n=>
   simp only [pr];have hg1:1≤n∧n≤13 :=hg;split
   ·exact ih .operand p L trivial hA hb (by simp [rk] at*;omega)
   have hg2:Ur (.level (n+1)):=by simp [Ur];omega
   refine Vw (ih (.level (n+1)) p L hg2 hA hb (by simp [rk] at*;omega)) (fun x p1 t1 h1=>?_);have hG:=good (.level (n+1)) p L hg2 hA hb;rw [h1] at hG;obtain⟨M,hA1,rfl,hb1,hl,_⟩ :=hG;exact ih (.more n x) p1 M (by simp [Ur];omega) hA1 hb1 (by simp [rk,less] at*;omega)
  |more n x=>
   simp only [pr];have hg1:1≤n∧n≤12 :=hg;obtain⟨op,l,ha⟩ :=Kr (tk L);rw [ha];simp only;split
   rotate_left
   ·simp
   rename_i hc
   have hL:L≠[]:=by
    rintro rfl;rw [Ni,bi0] at ha;simp only [Option.some.injEq,Prod.mk.injEq] at ha;omega
   obtain⟨e1,e2⟩ :=nxt hA;rw [e2];have:=F8 hL;have hg2:Ur (.level (n+1)):=by simp [Ur];omega
   refine Vw (ih (.level (n+1)) _ _ hg2 e1 (Yz L) (by simp [rk] at*;omega)) (fun y p1 t1 h1=>?_);have hG:=good (.level (n+1)) _ _ hg2 e1 (Yz L);rw [h1] at hG;obtain⟨M,hA1,rfl,hb1,hl,_⟩ :=hG;exact ih (.more n _) p1 M hg hA1 hb1 (by simp [rk,less] at*;omega)
  |operand=>
   simp only [pr];obtain⟨e1,e2⟩ :=nxt hA;rw [e2];rcases Classical.em (L=[]) with rfl|hL
   ·have h0:tk []=⟨#[]⟩ :=Ni;rw [h0,un0];simp only;rw [if_neg (by simp),if_neg (by rw [Go.ByteArray.toList_eq];simp),if_pos (.inl rfl)];simp
   have hlt:=F8 hL;obtain⟨op,ha⟩ :=Mj (tk L);rw [ha];simp only;split
   ·refine Vw (ih .operand _ _ trivial e1 (Yz L) (by simp [rk] at*;omega)) (fun y p1 t1 h1=>by simp)
   split
   ·refine Vw (ih .first _ _ trivial e1 (Yz L) (by simp [rk] at*;omega)) (fun y p1 t1 h1=>?_);split
    ·simp
    simp
   split
   ·simp
   rename_i hw
   split
   rotate_left
   ·split
    ·simp
    simp
   obtain⟨n,e,hn,_⟩ :=Kv (tk L) (fun h=>hw (.inl h)) (sz hA)
   rw [hn];simp only;split
   ·simp
   simp
inductive W3:S26→Prop where
 |mk (x:S26):x.f3.length≤3→(∀y∈x.f3,W3 y)→W3 x
theorem Sr:Shut W3 where
 num:=fun _ _ _=> .mk _ (Nat.zero_le _) (fun y h=>by cases h)
 var:=fun _ _=> .mk _ (Nat.zero_le _) (fun y h=>by cases h)
 un:=fun _ _ y _ _ h=> .mk _ (by simp) (fun z hz=>by simp at hz;exact hz ▸ h)
 bin:=fun _ _ _ x y _ _ h1 h2=> .mk _ (by simp) (fun z hz=>by simp at hz;rcases hz with rfl|rfl;exact h1;exact h2)
 cond:=fun x y z h1 h2 h3=> .mk _ (by simp) (fun w hw=>by simp at hw;rcases hw with rfl|rfl|rfl;exact h1;exact h2;exact h3)
 set:=fun _ _ x y _ _ _ h=> .mk _ (by simp) (fun z hz=>by simp at hz;exact hz ▸ h)
theorem Nv {P:Nat→S26→Prop} (up:∀k y,P k y→P (k+1) y):∀(l:List S26),(∀y∈l,∃k,P k y)→∃K,∀k,K≤k→∀y∈l,P k y
 |[],_=>⟨0,fun k _ y h=>by cases h⟩
 |a::l,h=>by
  obtain⟨K,hK⟩ :=Nv up l (fun y hy=>h y (List.mem_cons_of_mem _ hy))
  obtain⟨j,hj⟩ :=h a (List.mem_cons_self ..)
  have ups:∀n,j≤n→P n a:=by
   intro n hn
   induction hn with
   |refl=>exact hj
   |step _ ih=>exact up _ _ ih
  refine⟨K+j,fun k hk y hy=>?_⟩;rcases List.mem_cons.mp hy with rfl|hy
  ·exact ups k (by omega)
  exact hK k (by omega) y hy
theorem Rl {xs:List S26} {i:Nat} (h:i < xs.length):Qg xs (i:Int)∈xs:=by
 have:Qg xs (i:Int)=xs[i]:=by simp [Qg,List.getD_eq_getElem?_getD,h]
 rw [this];exact List.getElem_mem h
theorem Lj {x:S26} (h:W3 x):∃K,∀k,K≤k→Qq.f k x.f0 x.f1 x.f2 x.f3 x.f0 x.f1 x.f2 x.f3=some true:=by
 have up:∀{x y:S26} {k n b},k≤n→Qq.f k x.f0 x.f1 x.f2 x.f3 y.f0 y.f1 y.f2 y.f3=some b→Qq.f n x.f0 x.f1 x.f2 x.f3 y.f0 y.f1 y.f2 y.f3=some b:=by
  intro x y k n b hk h
  induction hk with
  |refl=>exact h
  |step _ ih=>exact Qq.mono _ _ _ _ _ _ _ _ _ _ ih
 suffices h:∃K,Qq.f K x.f0 x.f1 x.f2 x.f3 x.f0 x.f1 x.f2 x.f3=some true by
  obtain⟨K,hK⟩ :=h;exact⟨K,fun k hk=>up hk hK⟩
 induction h with
 |mk x hl _ ih=>
  obtain⟨K,hK⟩ :=Nv (P:=fun k y=>Qq.f k y.f0 y.f1 y.f2 y.f3 y.f0 y.f1 y.f2 y.f3=some true) (fun k y h=>up (Nat.le_succ k) h) x.f3 ih
  have loop:∀(d i:Nat),i+d=x.f3.length→Qq.l0 (K+d+1) (i:Int) x.f0 x.f1 x.f2 x.f3 x.f0 x.f1 x.f2 x.f3=some true:=by
   intro d
   induction d with
   |zero=>
    intro i hi;rw [Qq.l0,if_neg (by omega)]
   |succ d ihd=>
    intro i hi;have hn:=hK (K+(d+1)) (by omega) (Qg x.f3 (i:Int)) (Rl (by omega));rw [Qq.l0,if_pos (by omega),if_pos (by omega),if_pos (by omega),hn,Option.bind_some];have hw:wrap64 ((i:Int)+1)=((i+1 :Nat):Int):=by rw [Ue (by omega) (by omega)];omega
    rw [hw,if_pos rfl,show K+(d+1)=K+d+1 by omega];exact ihd (i+1) (by omega)
  refine⟨K+x.f3.length+1+1+1,?_⟩;rw [Qq.f,if_pos rfl,if_pos rfl,if_pos rfl,Qq.j0,if_neg (by simp)];have hn:=loop x.f3.length 0 (by omega);rw [show((0 :Nat):Int)=0 from rfl] at hn;exact hn
end Go.Proofs.YtglmdfddgmkmaaaDoor.Q
end
section
namespace Go.Proofs.YtglmdfddgmkmaaaDoor.Q
open Go.RowKit Go.Proofs.YtglmdfddgmkmaaaDoorW.PrintWords
set_option linter.unusedVariables false
set_option linter.unusedSimpArgs false
section
variable {s:ByteArray}
theorem Ta.level {n L e} (hn:n≤13) (h:E s .operand L (.error e)):E s (.level n) L (.error e):=by
 obtain⟨d,hd⟩ :∃d,n+d=13 :=⟨13 - n,by omega⟩;clear hn
 induction d generalizing n with
 |zero=>
  obtain rfl:n=13 :=by omega
  exact h.level13
 |succ d ih=>
  obtain⟨k,hk⟩ :=ih (n:=n+1) (by omega);refine⟨k+1,?_⟩;rw [pr,if_neg (by omega),hk];rfl
theorem Ta.first {L e} (h:E s .operand L (.error e)):E s .first L (.error e):=by
 obtain⟨k,hk⟩ :=Ta.level (n:=3) (by omega) h;refine⟨k+2,?_⟩;rw [pr,pr,hk];rfl
end
theorem Jw (s:ByteArray):At s (Zb s 0 ⟨#[]⟩) (Vb (sl s))∧Yb s 0 ⟨#[]⟩=tk (Vb (sl s)):=by
 have h0:At s 0 (sl s):=⟨Nat.zero_le _,rfl⟩
 have h2:At s (Zb s 0 ⟨#[]⟩) (Vb (sl s)):=by
  unfold Zb;rw [show 0+(⟨#[]⟩ :ByteArray).size=0 from rfl,Jt s 0 (Nat.zero_le _),List.drop_zero];exact At.adv (A:=(sl s).takeWhile U8) (B:=Vb (sl s)) (by rw [List.takeWhile_append_dropWhile];exact h0)
 refine⟨h2,?_⟩;unfold Yb;rw [Kp]
 have e:s.extract (Zb s 0 ⟨#[]⟩) s.size=⟨(Vb (sl s)).toArray⟩ :=by
  rw [Yl,h2.2];have:=h2.len;rw [List.take_of_length_le (by omega)]
 rw [e,Yl];simp only [sl,List.drop_zero,Nat.sub_zero];rfl
theorem Mu (L:List UInt8):nb (Vb L):=Wk L
theorem Fp {s p L} (h:At s p L):p=pl s L:=by
 have:=h.len;unfold pl;omega
def told (k:Nat):Except (Nat×Int) (S26×Nat×ByteArray)→Option PR
 |.error (p,er)=>some (0,0,⟨#[]⟩,[],(p:Int),er)
 |.ok (x,p,t)=>if ¬t.toList=[] then some (0,0,⟨#[]⟩,[],(p:Int),6) else
  match Xi.f k x.f0 x.f1 x.f2 x.f3 with
  |none=>none
  |some n=>if 32 < n then some (0,0,⟨#[]⟩,[],0,5) else some (x.f0,x.f1,x.f2,x.f3,0,0)
theorem Lp (k:Nat) (x:S26) (p:Nat) (t:ByteArray) (h:¬t.toList=[]):told k (.ok (x,p,t))=some (0,0,⟨#[]⟩,[],(p:Int),6):=by
 unfold told;simp only;rw [if_pos h]
theorem Ln (k:Nat) (x:S26) (p:Nat) (t:ByteArray) (h:t.toList=[]) {n:Int} (hl:Xi.f k x.f0 x.f1 x.f2 x.f3=some n) (hn:32 < n):told k (.ok (x,p,t))=some (0,0,⟨#[]⟩,[],0,5):=by
 unfold told;simp only;rw [if_neg (by simp [h]),hl];simp only;rw [if_pos hn]
theorem Mh (k:Nat) (x:S26) (p:Nat) (t:ByteArray) (h:t.toList=[]) {n:Int} (hl:Xi.f k x.f0 x.f1 x.f2 x.f3=some n) (hn:¬32 < n):told k (.ok (x,p,t))=some (x.f0,x.f1,x.f2,x.f3,0,0):=by
 unfold told;simp only;rw [if_neg (by simp [h]),hl];simp only;rw [if_neg hn]
theorem Rj {s:ByteArray} (hs:s.size≤4096) (h0:Vb (sl s)≠[]) {r} (h:E s .first (Vb (sl s)) r):∃K,∀k,K≤k→Wh s k=told k r:=by
 obtain⟨K,hK⟩ :=h;obtain⟨h1,h2⟩ :=Jw s;refine⟨K,fun k hk=>?_⟩;unfold Wh
 have ht:¬(Yb s 0 ⟨#[]⟩).toList=[]:=by
  rw [h2,Go.ByteArray.toList_eq];intro e;have h3:=Vv (Vb (sl s));have h4:=Wz h0
  have:(tk (Vb (sl s))).size=0 :=by
   show(tk (Vb (sl s))).data.toList.length=0
   rw [e];rfl
  omega
 rw [if_neg (by omega),if_neg ht,h2,Fp h1,G8 s hk hK]
 match r with
 |.error (p,er)=>rfl
 |.ok (x,p,t)=>rfl
theorem Nz {s:ByteArray} (hs:s.size≤4096):∃r,E s .first (Vb (sl s)) r∧Good W3 s 1 (Vb (sl s)) (some r):=by
 obtain⟨h1,h2⟩ :=Jw s;have ht:=Rk hs (32*(Vb (sl s)).length+19) .first _ _ trivial h1 (Mu _) (by simp [rk])
 have hg:=Gd Sr hs (32*(Vb (sl s)).length+19) .first _ _ trivial trivial h1 (Mu _)
 revert ht hg;rw [Fp h1]
 cases hr:pr s (32*(Vb (sl s)).length+19) .first (pl s (Vb (sl s))) (tk (Vb (sl s))) with
 |none=>intro h;exact absurd rfl h
 |some r=>intro _ hg;exact⟨r,⟨_,hr⟩,hg⟩
theorem Ld {x:S26} {k n r} (h:k≤n) (hr:Xi.f k x.f0 x.f1 x.f2 x.f3=some r):Xi.f n x.f0 x.f1 x.f2 x.f3=some r:=Xi.up x h hr
end Go.Proofs.YtglmdfddgmkmaaaDoor.Q
end
section
namespace Go.Proofs.YtglmdfddgmkmaaaDoor.Q
open Go.RowKit Go.Proofs.YtglmdfddgmkmaaaDoorW.PrintWords Go.Proofs.YtglmdfddgmkmaaaDoorW.PrintLast Go.Proofs.YtglmdfddgmkmaaaDoorW.PrintMore
set_option linter.unusedVariables false
theorem Vi {n:Nat} (h:n≤9000000000000000):wrap64 ((n:Int)+1)=((n+1 :Nat):Int):=by
 unfold wrap64;omega
theorem wrap_add {n m:Nat} (h:n≤9000000000000000) (h2:m≤9000000000000000):wrap64 ((n:Int)+(m:Int))=((n+m:Nat):Int):=by
 unfold wrap64;omega
theorem Ks (s:ByteArray) (hs:s.size≤4096) (e pos:Int):∀(d i k:Nat),i+d=s.size→d < k→Qf.l0 k s (i:Int) e pos=some (s,((V3 s d i:Nat):Int),e,pos)
 |0,i,k,h,hk=>by
  obtain⟨k,rfl⟩ :∃m,k=m+1 :=⟨k - 1,by omega⟩;rw [Qf.l0,if_neg (by omega)];rfl
 |d+1,i,k,h,hk=>by
  obtain⟨k,rfl⟩ :∃m,k=m+1 :=⟨k - 1,by omega⟩;rw [Qf.l0,if_pos (by omega),if_pos (by omega),Vi (by omega),Ks s hs e pos d (i+1) k (by omega) (by omega)];by_cases hb:Wo (bt s i)=true
  ·rw [show V3 s (d+1) i=V3 s d (i+1) by rw [V3,if_pos ⟨by omega,hb⟩]];simp only [Wo,Bool.or_eq_true,beq_iff_eq] at hb;rcases hb with (hb|hb)|hb <;> simp [hb]
  rw [show V3 s (d+1) i=i by rw [V3,if_neg (fun hc=>hb hc.2)]];simp only [Wo,Bool.or_eq_true,beq_iff_eq,not_or] at hb;obtain⟨⟨h1,h2⟩,h3⟩ :=hb;rw [if_neg h2,if_neg h3,if_neg h1]
theorem Vo (s:ByteArray) (hs:s.size≤4096) (i:Nat) (hi:i≤s.size) (e pos:Int) (k:Nat) (hk:4097≤k):Qf.f k s (i:Int) e pos=some (s,((Zn s i:Nat):Int),e,pos):=
 Ks s hs e pos (s.size - i) i k (by omega) (by omega)
theorem Vy (c:Int):(Q9.f c=some true∧X1.f c=some true)∨(Q9.f c=some false∧X2.f c=some true∧X1.f c=some true∧Xt.f c=some true)∨(Q9.f c=some false∧X2.f c=some false∧X1.f c=some false):=by
 unfold Q9.f X2.f X1.f Xt.f;by_cases h0:c=95
 ·subst h0;exact .inl ⟨rfl,rfl⟩
 by_cases h1:c ≥ 97 <;> by_cases h2:c≤122 <;> by_cases h3:c ≥ 65 <;> by_cases h4:c≤90 <;> by_cases h5:c ≥ 48 <;> by_cases h6:c≤57 <;> simp [h0,h1,h2,h3,h4,h5,h6] <;> omega
theorem Fu (s:ByteArray) (hs:s.size≤4096) (i0:Nat) (e pos:Int):∀(d i k:Nat),i+d=s.size→i0≤i→d < k→Qs.l0 k (i:Int) s (i0:Int) e pos=some (s.extract i0 (V4 s d i),s,(i0:Int),e,pos)
 |0,i,k,h,h0,hk=>by
  obtain⟨k,rfl⟩ :∃m,k=m+1 :=⟨k - 1,by omega⟩;rw [Qs.l0,if_neg (by omega),if_pos (by omega),if_pos (by omega),if_pos (by omega)];rfl
 |d+1,i,k,h,h0,hk=>by
  obtain⟨k,rfl⟩ :∃m,k=m+1 :=⟨k - 1,by omega⟩;rw [Qs.l0,if_pos (by omega),if_pos (by omega),Vi (by omega),Fu s hs i0 e pos d (i+1) k (by omega) (by omega) (by omega)];rcases Vy (bt s i) with ⟨h1,h2⟩|⟨h1,h2,h3,_⟩|⟨h1,h2,h3⟩
  ·rw [h1,show V4 s (d+1) i=V4 s d (i+1) by rw [V4,if_pos ⟨by omega,h2⟩]];rfl
  ·rw [h1,h2,show V4 s (d+1) i=V4 s d (i+1) by rw [V4,if_pos ⟨by omega,h3⟩]];rfl
  ·rw [h1,h2,show V4 s (d+1) i=i by rw [V4,if_neg (by rw [h3];simp)]];rw [if_pos (by omega),if_pos (by omega),if_pos (by omega)];rfl
def wd (L:List UInt8):ByteArray:=⟨(L.takeWhile Yy).toArray⟩
theorem Vu (p:UInt8→Bool):∀L:List UInt8,L.take (L.takeWhile p).length=L.takeWhile p
 |[]=>rfl
 |a::L=>by
  rw [List.takeWhile_cons];split
  ·rw [List.length_cons,List.take_succ_cons,Vu p L]
  rfl
theorem Ud {s:ByteArray} (hs:s.size≤4096) {p:Nat} {L:List UInt8} (h:At s p L) (e pos:Int) (k:Nat) (hk:4097≤k):Qs.f k s (p:Int) e pos=some (wd L,s,(p:Int),e,pos):=by
 have hp:=h.1;rw [Qs.f,Fu s hs p e pos (s.size - p) p k (by omega) (Nat.le_refl _) (by omega),Jx s (s.size - p) p (by omega),Yl,h.2,show p+(L.takeWhile Yy).length - p=(L.takeWhile Yy).length by omega,Vu];rfl
def Rf:List ByteArray:=[(⟨#[60,60,61]⟩ :ByteArray),(⟨#[62,62,61]⟩ :ByteArray),(⟨#[60,60]⟩ :ByteArray),(⟨#[62,62]⟩ :ByteArray),(⟨#[60,61]⟩ :ByteArray),(⟨#[62,61]⟩ :ByteArray),(⟨#[61,61]⟩ :ByteArray),(⟨#[33,61]⟩ :ByteArray),(⟨#[38,38]⟩ :ByteArray),(⟨#[124,124]⟩ :ByteArray),(⟨#[43,61]⟩ :ByteArray),(⟨#[45,61]⟩ :ByteArray),(⟨#[42,61]⟩ :ByteArray),(⟨#[47,61]⟩ :ByteArray),(⟨#[37,61]⟩ :ByteArray),(⟨#[38,61]⟩ :ByteArray),(⟨#[94,61]⟩ :ByteArray),(⟨#[124,61]⟩ :ByteArray),(⟨#[43]⟩ :ByteArray),(⟨#[45]⟩ :ByteArray),(⟨#[42]⟩ :ByteArray),(⟨#[47]⟩ :ByteArray),(⟨#[37]⟩ :ByteArray),(⟨#[60]⟩ :ByteArray),(⟨#[62]⟩ :ByteArray),(⟨#[38]⟩ :ByteArray),(⟨#[94]⟩ :ByteArray),(⟨#[124]⟩ :ByteArray),(⟨#[33]⟩ :ByteArray),(⟨#[126]⟩ :ByteArray),(⟨#[63]⟩ :ByteArray),(⟨#[58]⟩ :ByteArray),(⟨#[40]⟩ :ByteArray),(⟨#[41]⟩ :ByteArray),(⟨#[61]⟩ :ByteArray)]
def Wa:List (List UInt8)→List UInt8→List UInt8
 |[],_=>[]
 |o::os,L=>if L.take o.length=o then o else Wa os L
abbrev bl (l:List UInt8):ByteArray:=⟨l.toArray⟩
theorem Li {xs ys:List ByteArray} {y:ByteArray} {i:Nat} (h:xs.drop i=y::ys):Vd ByteArray.empty xs (i:Int)=y∧i < xs.length∧xs.drop (i+1)=ys:=by
 have hi:i < xs.length:=by
  rcases Nat.lt_or_ge i xs.length with h1|h1
  ·exact h1
  rw [List.drop_eq_nil_of_le h1] at h;cases h
 rw [List.drop_eq_getElem_cons hi] at h;injection h with h1 h2
 refine⟨?_,hi,h2⟩
 show xs.getD (i:Int).toNat _=y
 rw [Int.toNat_natCast,List.getD_eq_getElem?_getD,List.getElem?_eq_getElem hi,h1];rfl
theorem Mw {s:ByteArray} (hs:s.size≤4096) {p:Nat} {L:List UInt8} (h:At s p L) (xs:List ByteArray) (hx:xs.length≤100) (hz:∀o∈xs,o.size≤3) (e pos:Int):∀(ys:List ByteArray) (i k:Nat),xs.drop i=ys→i+ys.length=xs.length→ys.length < k→Qi.l0 k xs (i:Int) s (p:Int) e pos=some (bl (Wa (ys.map sl) L),s,(p:Int),e,pos)
 |[],i,k,hd,hi,hk=>by
  obtain⟨k,rfl⟩ :∃m,k=m+1 :=⟨k - 1,by omega⟩;rw [Qi.l0,if_neg (by simp at hi;omega)];rfl
 |o::ys,i,k,hd,hi,hk=>by
  obtain⟨k,rfl⟩ :∃m,k=m+1 :=⟨k - 1,by omega⟩;obtain⟨h1,h2,h3⟩ :=Li hd;have hl:=h.len;have hp:=h.1;have ho:o.size≤3 :=hz o (List.mem_of_mem_drop (by rw [hd];exact List.mem_cons_self ..));simp only [List.length_cons] at hi hk;rw [Qi.l0,if_pos (by omega),if_pos (by omega),h1,Vi (by omega),Mw hs h xs hx hz e pos ys (i+1) k h3 (by omega) (by omega)];rw [show wrap64 ((s.size:Int) - (p:Int))=(L.length:Int) by unfold wrap64;omega,wrap_add (by omega) (by omega)];by_cases hc:o.size≤L.length
  rotate_left
  ·rw [if_neg (by omega),List.map_cons,Wa,if_neg];intro he;have:=congrArg List.length he;rw [List.length_take,show(sl o).length=o.size from rfl] at this;omega
  rw [if_pos (by omega),if_pos (by omega),if_pos (by omega),if_pos (by omega)]
  have e1:(s.extract (p:Int).toNat ((p+o.size:Nat):Int).toNat).toList=L.take o.size:=by
   rw [Int.toNat_natCast,Int.toNat_natCast,Yl,h.2,Go.ByteArray.toList_eq,show p+o.size - p=o.size by omega]
  rw [e1,Go.ByteArray.toList_eq];rw [List.map_cons,Wa,show(sl o).length=o.size from rfl];by_cases he:L.take o.size=sl o
  ·rw [if_pos he,if_pos he]
  rw [if_neg he,if_neg he]
def Z6:List (List UInt8):=Rf.map sl
theorem Ga:Zv.f=some Rf:=rfl
theorem Vc {s:ByteArray} (hs:s.size≤4096) {i p:Nat} {L:List UInt8} (hi:i≤s.size) (hp:Zn s i=p) (h:At s p L) (e pos:Int) (k:Nat) (hk:4097≤k):Qi.f k s (i:Int) e pos=some (bl (Wa Z6 L),s,(p:Int),e,pos):=by
 rw [Qi.f,Vo s hs i hi e pos k hk,Ga,hp];exact Mw hs h Rf (by decide) (by decide) e pos Rf 0 k rfl (by decide) (Nat.lt_of_lt_of_le (by decide:Rf.length < 4097) hk)
theorem Wt (n:Nat) (L:List UInt8):∀(xs ys:List (List UInt8)),(∀o∈xs,o.length=n)→Wa (xs++ys) L=if L.take n∈xs then L.take n else Wa ys L
 |[],ys,_=>by simp
 |o::xs,ys,h=>by
  rw [List.cons_append,Wa,h o (List.mem_cons_self ..),Wt n L xs ys (fun q hq=>h q (List.mem_cons_of_mem _ hq))]
  by_cases he:L.take n=o
  ·rw [if_pos he,if_pos (by rw [he];exact List.mem_cons_self ..),he]
  rw [if_neg he];simp only [List.mem_cons,he,false_or]
def ops3:List (List UInt8):=[[60,60,61],[62,62,61]]
def ops2:List (List UInt8):=[[60,60],[62,62],[60,61],[62,61],[61,61],[33,61],[38,38],[124,124],[43,61],[45,61],[42,61],[47,61],[37,61],[38,61],[94,61],[124,61]]
def Gb:List (List UInt8):=[[43],[45],[42],[47],[37],[60],[62],[38],[94],[124],[33],[126],[63],[58],[40],[41],[61]]
theorem J7:Z6=ops3++(ops2++(Gb++[])):=by decide
theorem Ny (L:List UInt8):Wa Z6 L=if L.take 3∈ops3 then L.take 3 else if L.take 2∈ops2 then L.take 2 else if L.take 1∈Gb then L.take 1 else []:=by
 rw [J7,Wt 3 L ops3 _ (by decide),Wt 2 L ops2 _ (by decide),Wt 1 L Gb _ (by decide)];rfl
def rop (t:List UInt8):List UInt8:=if t∈Z6 then t else []
theorem Up {t:List UInt8}:t∈Z6 ↔ t∈ops3∨t∈ops2∨t∈Gb:=by
 rw [J7];simp only [List.mem_append,List.append_nil]
theorem J8 {b:UInt8} {l:List UInt8} (hb:Yy b=true):b::l ∉ Z6:=by
 have h:Z6.all (fun o=>o.head?.all (fun c=>!Yy c))=true:=by kernel_rfl
 intro hc;have h1:=List.all_eq_true.mp h _ hc;simp [hb] at h1
theorem J6 (l:List UInt8):Fa l=true ↔ l∈ops3∨l∈ops2:=by
 constructor
 ·intro h;have h1:=So h;have h2:Tj.all (fun l=>decide (l∈ops3∨l∈ops2))=true:=by decide
  simpa using List.all_eq_true.mp h2 _ h1
 have h3:ops3.all Fa=true:=by kernel_rfl
 have h2:ops2.all Fa=true:=by kernel_rfl
 rintro(h|h)
 ·exact List.all_eq_true.mp h3 _ h
 exact List.all_eq_true.mp h2 _ h
theorem L7 {l:List UInt8} (h:l∈ops3):l.length=3 :=by
 have:∀l∈ops3,l.length=3 :=by decide
 exact this l h
theorem Sm {l:List UInt8} (h:l∈ops2):l.length=2 :=by
 have:∀l∈ops2,l.length=2 :=by decide
 exact this l h
theorem T5 {l:List UInt8} (h:l∈Gb):l.length=1 :=by
 have:∀l∈Gb,l.length=1 :=by decide
 exact this l h
theorem Y1 (L:List UInt8):Wa Z6 L=rop (L.take (Vq L)):=by
 rw [Ny]
 cases L with
 |nil=>rfl
 |cons b l=>
  by_cases hw:Yy b=true
  ·have n3:(b::l).take 3 ∉ Z6:=J8 hw;have n2:(b::l).take 2 ∉ Z6:=J8 hw;have n1:(b::l).take 1 ∉ Z6:=J8 hw;rw [Up] at n3 n2 n1;rw [if_neg (fun h=>n3 (.inl h)),if_neg (fun h=>n2 (.inr (.inl h))),if_neg (fun h=>n1 (.inr (.inr h)))]
   have hx:Vq (b::l)=((b::l).takeWhile Yy).length:=by
    unfold Vq;rw [if_neg (by rw [List.takeWhile_cons,if_pos hw];simp)]
   rw [hx,Vu,List.takeWhile_cons,if_pos hw,rop,if_neg (J8 hw)]
  have hx:Vq (b::l)=opL (b::l) (min 3 (l.length+1)):=by
   unfold Vq;rw [if_pos (by rw [List.takeWhile_cons,if_neg hw];rfl)];rfl
  rw [hx];have no3:¬(b::l).take 1∈ops3:=fun h=>by have:=L7 h;simp at this
  have no2:¬(b::l).take 1∈ops2:=fun h=>by have:=Sm h;simp at this
  have end1:rop ((b::l).take 1)=if(b::l).take 1∈Gb then(b::l).take 1 else []:=by
   unfold rop;by_cases h:(b::l).take 1∈Gb
   ·rw [if_pos h,if_pos (Up.mpr (.inr (.inr h)))]
   rw [if_neg h,if_neg];rw [Up];rintro(h1|h1|h1)
   ·exact no3 h1
   ·exact no2 h1
   ·exact h h1
  cases l with
  |nil=>
   have a3:¬[b].take 3∈ops3:=fun h=>by have:=L7 h;simp at this
   have a2:¬[b].take 2∈ops2:=fun h=>by have:=Sm h;simp at this
   rw [if_neg a3,if_neg a2];exact end1.symm
  |cons c l=>
   have step2:∀(hn:¬(b::c::l).take 2∈ops3),(if(b::c::l).take 2∈ops2 then(b::c::l).take 2 else if(b::c::l).take 1∈Gb then(b::c::l).take 1 else [])=rop ((b::c::l).take (opL (b::c::l) 2)):=by
    intro hn;rw [opL];by_cases h2:(b::c::l).take 2∈ops2
    ·rw [if_pos h2,if_pos (.inr ((J6 _).mpr (.inr h2))),rop,if_pos (Up.mpr (.inr (.inl h2)))]
    have hf:¬(1=0∨Fa ((b::c::l).take (1+1))=true):=by
     rintro(h|h)
     ·omega
     rcases(J6 _).mp h with h|h
     ·exact hn h
     exact h2 h
    rw [if_neg h2,if_neg hf];exact end1.symm
   have no32:¬(b::c::l).take 2∈ops3:=fun h=>by have:=L7 h;simp at this
   cases l with
   |nil=>
    rw [if_neg (fun h=>by have:=L7 h;simp at this)];exact step2 no32
   |cons d l=>
    rw [show min 3 ((c::d::l).length+1)=2+1 by simp,opL];by_cases h3:(b::c::d::l).take 3∈ops3
    ·rw [if_pos h3,if_pos (.inr ((J6 _).mpr (.inl h3))),rop,if_pos (Up.mpr (.inl h3))]
    have hf:¬(2=0∨Fa ((b::c::d::l).take (2+1))=true):=by
     rintro(h|h)
     ·omega
     rcases(J6 _).mp h with h|h
     ·exact h3 h
     have:=Sm h;simp at this
    rw [if_neg h3,if_neg hf];exact step2 no32
end Go.Proofs.YtglmdfddgmkmaaaDoor.Q
end
section
namespace Go.Proofs.YtglmdfddgmkmaaaDoor.Q
open Go.RowKit Go.Proofs.YtglmdfddgmkmaaaDoorW.PrintWords
set_option linter.unusedVariables false
set_option linter.unusedSimpArgs false
def Wq (s:ByteArray):Nat→Nat→Bool
 |0,_=>true
 |f+1,i=>if(Wy (bt s i)||dgt (bt s i)||bt s i==95)=true then Wq s f (i+1) else false
theorem K4 (s:ByteArray):∀(f i:Nat),i+f=s.size→0 < i→Wq s f i=Yp s f i
 |0,i,_,_=>rfl
 |f+1,i,hi,h0=>by
  have e0:Yp s (f+1) i=(V0 (bt s i) i && Yp s f (i+1)):=by rw [Yp,if_pos (show i < s.size by omega)]
  rw [Wq,e0,K4 s f (i+1) (by omega) (by omega)]
  have e:V0 (bt s i) i=(Wy (bt s i)||dgt (bt s i)||bt s i==95):=by
   unfold V0;simp [h0]
   cases Wy (bt s i) <;> cases dgt (bt s i) <;> cases(bt s i==95) <;> rfl
  rw [e]
  cases(Wy (bt s i)||dgt (bt s i)||bt s i==95) <;> rfl
theorem letter_eq (c:Int):Zj.f c=some (Wy c):=by
 unfold Zj.f Wy;repeat' split
 all_goals first|(simp_all;done)|(simp_all;omega)
theorem digit_eq (c:Int):Za.f c=some (dgt c):=by
 unfold Za.f dgt;repeat' split
 all_goals first|(simp_all;done)|(simp_all;omega)
theorem S0 (c:Int):Z5.f c=some (Wy c||dgt c||c==95):=by
 unfold Z5.f;rw [letter_eq,digit_eq]
 cases Wy c <;> cases dgt c <;> simp
theorem Mt (s:ByteArray) (hs:s.size≤32):∀(f i:Nat),i+f=s.size→∀k,f+1≤k→Qz.l0 k s (i:Int)=some (Wq s f i)
 |0,i,hi,k,hk=>by
  obtain⟨k,rfl⟩ :∃k',k=k'+1 :=⟨k - 1,by omega⟩;rw [Qz.l0,if_neg (by omega)];rfl
 |f+1,i,hi,k,hk=>by
  obtain⟨k,rfl⟩ :∃k',k=k'+1 :=⟨k - 1,by omega⟩;rw [Qz.l0,if_pos (by omega),if_pos (by omega),S0];simp only [Option.bind_some]
  have hw:wrap64 ((i:Int)+1)=((i+1 :Nat):Int):=by
   simp only [wrap64,IntKind.wrap];omega
  rw [hw,Mt s hs f (i+1) (by omega) k (by omega)]
  show _=some (if(Wy (bt s (i:Int))||dgt (bt s (i:Int))||bt s (i:Int)==95)=true then Wq s f (i+1) else false)
  split <;> rfl
theorem Ms (s:ByteArray) (k:Nat) (hk:34≤k):Qz.f k s=some (nameB s):=by
 obtain⟨k,rfl⟩ :∃k',k=k'+1 :=⟨k - 1,by omega⟩;unfold Qz.f;have hj:Qz.j0 (k+1) s true=some false:=rfl
 have hz:s.toList=[] ↔ s.size=0 :=by
  rw [Go.ByteArray.toList_eq];constructor
  ·intro h;have:=congrArg List.length h;simpa using this
  intro h;exact List.eq_nil_of_length_eq_zero (by simpa using h)
 by_cases h0:s.size=0
 ·rw [if_pos (hz.mpr h0),hj];simp [nameB,h0]
 rw [if_neg (fun h=>h0 (hz.mp h))]
 by_cases h1:(s.size:Int) > 32
 ·rw [if_pos h1,hj];have:¬s.size≤32 :=by omega
  simp [nameB,this]
 rw [if_neg h1,if_pos (by omega),digit_eq];have h32:s.size≤32 :=by omega
 simp only [Option.bind_some,Qz.j0];have hl:=Mt s h32 s.size 0 (by omega) k (by omega);rw [show((0 :Nat):Int)=0 from rfl] at hl;rw [hl];obtain⟨f,hf⟩ :∃f,s.size=f+1 :=⟨s.size - 1,by omega⟩;have hB:nameB s=Yp s s.size 0 :=by simp [nameB,h32,show 0 < s.size by omega]
 rw [hB,hf];have e0:Yp s (f+1) 0=(V0 (bt s 0) 0 && Yp s f 1):=by rw [Yp,if_pos (show 0 < s.size by omega)];rfl
 have e1:Wq s (f+1) 0=if(Wy (bt s 0)||dgt (bt s 0)||bt s 0==95)=true then Wq s f 1 else false:=rfl
 rw [e0,e1,K4 s f 1 (by omega) (by omega)];unfold V0
 have hd:dgt (bt s 0)=true→Wy (bt s 0)=false∧(bt s 0==95)=false:=by
  unfold dgt Wy;intro h;simp at h ⊢;omega
 cases hD:dgt (bt s 0)
 ·cases Wy (bt s 0) <;> cases(bt s 0==95) <;> simp
 obtain⟨h3,h4⟩ :=hd hD;rw [h3,h4];simp
end Go.Proofs.YtglmdfddgmkmaaaDoor.Q
end
section
namespace Go.Proofs.YtglmdfddgmkmaaaDoor.Q
open Go.RowKit Go.Proofs.YtglmdfddgmkmaaaDoorW.PrintWords Go.Proofs.YtglmdfddgmkmaaaDoorW.PrintLast Go.Proofs.YtglmdfddgmkmaaaDoorW.PrintMore
set_option linter.unusedVariables false
theorem Uo {α:Type} {g:Nat→Option α} (h:∀k,LeO (g k) (g (k+1))) {m k:Nat} {r:α} (hr:g m=some r) (hk:m≤k):g k=some r:=by
 induction hk with
 |refl=>exact hr
 |step _ ih=>exact h _ _ ih
abbrev Z7 (L:List UInt8):List UInt8:=L.take (Vq L)
theorem Kf {b:UInt8} {l:List UInt8} (hb:Yy b=true):Z7 (b::l)=(b::l).takeWhile Yy:=by
 have hx:Vq (b::l)=((b::l).takeWhile Yy).length:=by
  unfold Vq;rw [if_neg (by rw [List.takeWhile_cons,if_pos hb];simp)]
 rw [Z7,hx,Vu]
theorem G1 (L:List UInt8):∀k,0 < k→L.take (opL L k)∈Z6∨opL L k=1
 |0,h=>by omega
 |k+1,_=>by
  rw [opL];by_cases hc:k=0∨Fa (L.take (k+1))=true
  rotate_left
  ·rw [if_neg hc];exact G1 L k (by omega)
  rw [if_pos hc];rcases hc with rfl|hc
  ·exact .inr rfl
  refine .inl (Up.mpr ?_);rcases(J6 _).mp hc with h|h
  ·exact .inl h
  exact .inr (.inl h)
theorem Lm {b:UInt8} {l:List UInt8} (hb:¬Yy b=true):Z7 (b::l)∈Z6∨Z7 (b::l)=[b]:=by
 have hx:Vq (b::l)=opL (b::l) (min 3 (l.length+1)):=by
  unfold Vq;rw [if_pos (by rw [List.takeWhile_cons,if_neg hb];rfl)];rfl
 rw [Z7,hx];rcases G1 (b::l) (min 3 (l.length+1)) (by omega) with h|h
 ·exact .inl h
 rw [h];exact .inr rfl
theorem Nk (L:List UInt8) (h:Z7 L ∉ Z6):∀b∈(Z7 L).getLast?,b≠61 :=by
 cases L with
 |nil=>intro b hb;simp [Z7] at hb
 |cons b l=>
  by_cases hw:Yy b=true
  ·intro c hc;rw [Kf hw] at hc;have hm:c∈(b::l).takeWhile Yy:=List.mem_of_getLast? hc;have:=List.all_eq_true.mp (List.all_takeWhile (p:=Yy) (l:=b::l)) c hm;rintro rfl;revert this;decide
  rcases Lm hw (l:=l) with h1|h1
  ·exact absurd h1 h
  intro c hc;rw [h1] at hc h;simp at hc;subst hc;rintro rfl;exact h (by decide)
def Uy (f:List UInt8→Bool):Bool:=Z6.all f
theorem Ko {f:List UInt8→Bool} (h:Uy f=true) {t:List UInt8} (ht:t∈Z6):f t=true:=List.all_eq_true.mp h t ht
theorem Sg:Uy (fun t=>(List.range 10).all fun i=>decide (Q7.f 60 (bl t) ((i+3 :Nat):Int)=(Xy.f (bl t)).map fun p=>if p.2=((i+3 :Nat):Int) then p.1 else 0))=true:=by kernel_rfl
theorem L0:(List.range 10).all (fun i=>decide (Q7.f 60 (bl []) ((i+3 :Nat):Int)=some 0))=true:=by kernel_rfl
theorem Sf:Uy (fun t=>decide (Qu.f 60 (bl t)=(Xe.f 1 (bl t)).map fun p=>if p.2=true then p.1 else -1))=true:=by kernel_rfl
theorem Ly:Qu.f 60 (bl [])=some (-1):=by kernel_rfl
theorem Se:Uy (fun t=>decide ((Xe.f 1 (bl t)).all fun p=>decide (0≤p.1)))=true:=by kernel_rfl
theorem Ki {t:List UInt8} (h:t ∉ Z6):Xy.f (bl t)=some (0,0):=by
 have hm:∀o∈Z6,t≠o:=fun o ho e=>h (e ▸ ho)
 unfold Xy.f;simp only [Go.ByteArray.toList_eq];rw [if_neg (hm _ (by decide)),if_neg (hm _ (by decide)),if_neg (hm _ (by decide)),if_neg (hm _ (by decide)),if_neg (hm _ (by decide)),if_neg (hm _ (by decide)),if_neg (hm _ (by decide)),if_neg (hm _ (by decide)),if_neg (hm _ (by decide)),if_neg (hm _ (by decide)),if_neg (hm _ (by decide)),if_neg (hm _ (by decide)),if_neg (hm _ (by decide)),if_neg (hm _ (by decide)),if_neg (hm _ (by decide)),if_neg (hm _ (by decide)),if_neg (hm _ (by decide)),if_neg (hm _ (by decide))]
theorem Fg {t:List UInt8} (h:t ∉ Z6) (hl:∀b∈t.getLast?,b≠61) (hs:t.length≤4096):Xe.f 1 (bl t)=some (0,false):=by
 have hm:∀o∈Z6,t≠o:=fun o ho e=>h (e ▸ ho)
 unfold Xe.f;simp only [Go.ByteArray.toList_eq];rw [if_neg (hm _ (by decide)),if_neg (hm _ (by decide)),if_neg (hm _ (by decide)),if_neg (hm _ (by decide)),if_neg (hm _ (by decide)),Xe.j0];have hz:(bl t).size=t.length:=rfl
 cases ht:t.getLast? with
 |none=>
  rw [List.getLast?_eq_none_iff] at ht;subst ht;rfl
 |some b=>
  have hne:t≠[]:=by rintro rfl;simp at ht
  have hpos:0 < t.length:=List.length_pos_iff.mpr hne;rw [if_neg (by simpa using hne),show wrap64 (((bl t).size:Int) - 1)=((t.length - 1 :Nat):Int) by rw [hz];unfold wrap64;omega,if_pos (by omega),if_pos (by rw [hz];omega),if_neg];rw [Rq (bl t) (t.length - 1) (by rw [hz];omega)];have hb:=hl b ht;rw [List.getLast?_eq_getElem?,List.getElem?_eq_getElem (by omega)] at ht;injection ht with ht
  intro he;apply hb;have h2:t[t.length - 1].toNat=61 :=by exact_mod_cast he
  rw [ht] at h2;exact UInt8.toNat_inj.mp (by rw [h2];rfl)
theorem Tc (L:List UInt8) {o l:Int} (h:Xy.f (tk L)=some (o,l)) (n:Nat) (h3:3≤n) (h12:n≤12) (k:Nat) (hk:60≤k):Q7.f k (bl (rop (Z7 L))) (n:Int)=some (if l=(n:Int) then o else 0):=by
 refine Uo (g:=fun k=>Q7.f k (bl (rop (Z7 L))) (n:Int)) (fun k=>Q7.mono _ _ _) (m:=60) ?_ hk
 show Q7.f 60 (bl (rop (Z7 L))) (n:Int)=_
 have hi:n - 3∈List.range 10 :=List.mem_range.mpr (by omega);have hn:n - 3+3=n:=by omega
 by_cases ht:Z7 L∈Z6
 ·rw [rop,if_pos ht];have h1:=List.all_eq_true.mp (Ko Sg ht) _ hi;rw [hn,decide_eq_true_eq] at h1;rw [h1,show bl (Z7 L)=tk L from rfl,h];rfl
 rw [rop,if_neg ht];have h1:=List.all_eq_true.mp L0 _ hi;rw [hn,decide_eq_true_eq] at h1;have h2:=Ki ht;rw [show bl (Z7 L)=tk L from rfl,h] at h2;injection h2 with h2
 injection h2 with h2 h3
 subst h2 h3;rw [h1];split <;> rfl
theorem Nt (L:List UInt8) (hL:L.length≤4096) {o:Int} {b:Bool} (h:Xe.f 1 (tk L)=some (o,b)) (k:Nat) (hk:60≤k):Qu.f k (bl (rop (Z7 L)))=some (if b=true then o else -1)∧(b=true→0≤o∧rop (Z7 L)=Z7 L):=by
 by_cases ht:Z7 L∈Z6
 rotate_left
 ·have h2:=Fg ht (Nk L ht) (by rw [List.length_take];omega);rw [show bl (Z7 L)=tk L from rfl,h] at h2;injection h2 with h2
  injection h2 with h2 h3
  subst h2 h3;refine⟨Uo (g:=fun k=>Qu.f k (bl (rop (Z7 L)))) (fun k=>Qu.mono _ _) (m:=60) ?_ hk,fun h=>by cases h⟩
  show Qu.f 60 (bl (rop (Z7 L)))=_
  rw [rop,if_neg ht,Ly];rfl
 refine⟨Uo (g:=fun k=>Qu.f k (bl (rop (Z7 L)))) (fun k=>Qu.mono _ _) (m:=60) ?_ hk,fun _=>⟨?_,by rw [rop,if_pos ht]⟩⟩
 ·show Qu.f 60 (bl (rop (Z7 L)))=_
  rw [rop,if_pos ht];have h1:=Ko Sf ht;rw [decide_eq_true_eq] at h1;rw [h1,show bl (Z7 L)=tk L from rfl,h];rfl
 have h1:=Ko Se ht;rw [show bl (Z7 L)=tk L from rfl,h] at h1;simpa using h1
theorem Rn (L:List UInt8) {o:List UInt8} (ho:o∈Z6):(rop (Z7 L)=o) ↔ (tk L).toList=o:=by
 rw [Go.ByteArray.toList_eq,show(tk L).data.toList=Z7 L from rfl,rop];split
 ·exact Iff.rfl
 rename_i h
 constructor
 ·rintro rfl;exact absurd ho (by decide)
 rintro rfl;exact absurd ho h
def hv (c:Int):Int:=if 48≤c∧c≤57 then c - 48 else if 97≤c∧c≤102 then c - 87 else if 65≤c∧c≤70 then c - 55 else 16
theorem Mo (c:Int):0≤hv c∧hv c≤16 :=by
 unfold hv;repeat' split
 all_goals omega
theorem Ry (k:Nat) (c:Int) (h0:0≤c):Xx.f (k+1) c=some (hv c):=by
 unfold Xx.f Xt.f hv;simp only [Xx.j0];by_cases h1:48≤c <;> by_cases h2:c≤57 <;> by_cases h3:97≤c <;> by_cases h4:c≤102 <;> by_cases h5:65≤c <;> by_cases h6:c≤70 <;> simp [h1,h2,h3,h4,h5,h6] <;> omega
theorem Rm (k:Nat) (c base:Int) (h0:0≤c) (hb:0 < base) (hb2:base≤16):Q2.f (k+2) c base=some (if hv c ≥ base then -1 else hv c):=by
 unfold Q2.f X2.f hv;simp only [Q2.j0,Q2.j1];by_cases h1:48≤c <;> by_cases h2:c≤57 <;> by_cases h3:97≤c <;> by_cases h4:c≤102 <;> by_cases h5:65≤c <;> by_cases h6:c≤70 <;> simp [h1,h2,h3,h4,h5,h6] <;> (try omega) <;> (repeat' split) <;> (try simp) <;> omega
def hb_ (b:UInt8):Int:=hv (b.toNat:Int)
def Wr (base:Int):List Int→Int→Bool→Int×Int
 |[],n,ov=>if ov=true then(0,14) else(n,0)
 |d::ds,n,ov=>if d ≥ base then(0,6) else if ov=true then Wr base ds n true else if n > (9223372036854775807 - d) / base then Wr base ds n true else Wr base ds (n*base+d) false
def U7 (base:Int):List Int→Int→Int×Int
 |[],n=>(n,0)
 |d::ds,n=>if n > (9223372036854775808 - d) / base then(0,14) else U7 base ds (n*base+d)
def K5 (base:Int) (ds:List Int):Int×Int:=if ds.all (fun d=>decide (d < base))=true then U7 base ds 0 else(0,6)
def Ans (a b:Int×Int):Prop:=(a.2=0∧0≤a.1∧a.1≤9223372036854775807∧b=(a.1,0))∨(a=(9223372036854775808,0)∧b.2=14)∨(a.2≠0∧b.2=a.2)
def Jc (base:Int):Prop:=base=8∨base=10∨base=16
theorem Mv (base:Int):∀(ds:List Int) (n:Int) (ov:Bool),¬ds.all (fun d=>decide (d < base))=true→(Wr base ds n ov).2=6
 |[],n,ov,h=>by simp at h
 |d::ds,n,ov,h=>by
  rw [Wr];by_cases hd:d ≥ base
  ·rw [if_pos hd]
  rw [if_neg hd]
  have h2:¬ds.all (fun d=>decide (d < base))=true:=by
   intro h3;apply h;rw [List.all_cons,h3,Bool.and_true,decide_eq_true_eq];omega
  repeat' split
  all_goals exact Mv base ds _ _ h2
theorem Gz (base:Int):∀(ds:List Int) (n:Int),ds.all (fun d=>decide (d < base))=true→Wr base ds n true=(0,14)
 |[],n,h=>rfl
 |d::ds,n,h=>by
  rw [List.all_cons,Bool.and_eq_true,decide_eq_true_eq] at h;rw [Wr,if_neg (by omega),if_pos rfl];exact Gz base ds n h.2
theorem Sb (base:Int) (hb:Jc base) (ds:List Int) (hd:∀d∈ds,0≤d):U7 base ds 9223372036854775808=(9223372036854775808,0)∨(U7 base ds 9223372036854775808).2=14 :=by
 cases ds with
 |nil=>exact .inl rfl
 |cons d ds=>
  have h0:=hd d (List.mem_cons_self ..);refine .inr ?_;rw [U7,if_pos];rcases hb with rfl|rfl|rfl <;> omega
theorem Mn (base:Int) (hb:Jc base):∀(ds:List Int) (n:Int),(∀d∈ds,0≤d)→ds.all (fun d=>decide (d < base))=true→0≤n→n≤9223372036854775807→Ans (U7 base ds n) (Wr base ds n false)
 |[],n,hd,h,h0,h1=> .inl ⟨rfl,h0,h1,rfl⟩
 |d::ds,n,hd,h,h0,h1=>by
  rw [List.all_cons,Bool.and_eq_true,decide_eq_true_eq] at h;have hd0:=hd d (List.mem_cons_self ..);have hds:∀d∈ds,0≤d:=fun q hq=>hd q (List.mem_cons_of_mem _ hq)
  rw [U7,Wr,if_neg (by omega:¬d ≥ base),if_neg Bool.false_ne_true];by_cases h2:n > (9223372036854775807 - d) / base
  rotate_left
  ·rw [if_neg h2,if_neg (by rcases hb with rfl|rfl|rfl <;> omega)];refine Mn base hb ds _ hds h.2 ?_ ?_
   ·rcases hb with rfl|rfl|rfl <;> omega
   rcases hb with rfl|rfl|rfl <;> omega
  rw [if_pos h2,Gz base ds n h.2];by_cases h3:n > (9223372036854775808 - d) / base
  ·rw [if_pos h3];exact .inr (.inr ⟨by simp,rfl⟩)
  rw [if_neg h3];have he:n*base+d=9223372036854775808 :=by rcases hb with rfl|rfl|rfl <;> omega
  rw [he];rcases Sb base hb ds hds with h4|h4
  ·exact .inr (.inl ⟨h4,rfl⟩)
  exact .inr (.inr ⟨by rw [h4];simp,h4.symm⟩)
theorem F0 (base:Int) (hb:Jc base) (ds:List Int) (hd:∀d∈ds,0≤d):Ans (K5 base ds) (Wr base ds 0 false):=by
 unfold K5;split
 ·rename_i h
  exact Mn base hb ds 0 hd h (by omega) (by omega)
 rename_i h
 exact .inr (.inr ⟨by simp,Mv base ds 0 false h⟩)
theorem Uz {x:Int} (h0:0≤x) (h1:x < 18446744073709551616):IntKind.u64.wrap x=x:=by
 unfold IntKind.wrap;simp [IntKind.signed,IntKind.bits];omega
theorem Nh {a b:Int} (h:0≤a):Int.tdiv a b=a / b:=by
 rw [Int.tdiv_eq_ediv_of_nonneg h]
theorem Fy {t:ByteArray} {i:Nat} {b:UInt8} {l:List UInt8} (h:(sl t).drop i=b::l):bt t (i:Int)=(b.toNat:Int)∧i < t.size∧(sl t).drop (i+1)=l:=by
 have hi:i < t.size:=by
  rcases Nat.lt_or_ge i t.size with h1|h1
  ·exact h1
  rw [List.drop_eq_nil_of_le (by rw [Zs];exact h1)] at h;cases h
 obtain⟨c,hc,hv⟩ :=drop_cons t i hi;rw [hc] at h;injection h with h1 h2
 exact⟨by rw [hv,h1],hi,h2⟩
theorem J4 (base:Int) (hb:Jc base) (t:ByteArray) (hs:t.size≤4096):∀(l:List UInt8) (i k:Nat) (n:Int) (ov:Bool),(sl t).drop i=l→i+l.length=t.size→l.length+1≤k→0≤n→n≤9223372036854775807→Qy.l0 k base t n ov (t.size:Int) (i:Int)=some (Wr base (l.map hb_) n ov)
 |[],i,k,n,ov,hd,hi,hk,h0,h1=>by
  obtain⟨k,rfl⟩ :∃m,k=m+1 :=⟨k - 1,by omega⟩;rw [Qy.l0,if_neg (by simp at hi;omega),List.map_nil,Wr];split <;> rfl
 |b::l,i,k,n,ov,hd,hi,hk,h0,h1=>by
  obtain⟨e1,e2,e3⟩ :=Fy hd;rw [List.length_cons] at hi hk;obtain⟨k,rfl⟩ :∃m,k=m+2 :=⟨k - 2,by omega⟩;have hvb:=Mo (b.toNat:Int);rw [Qy.l0,if_pos (by omega),if_pos (by omega),if_pos (by omega),e1,Ry k _ (by omega),List.map_cons,Wr];have hq:hb_ b=hv (b.toNat:Int):=rfl;rw [←hq]
  show(if hb_ b ≥ base then _ else _)=_
  by_cases hd2:hb_ b ≥ base
  ·rw [if_pos hd2,if_pos hd2]
  rw [if_neg hd2,if_neg hd2,Vi (by omega)];have w1:wrap64 (9223372036854775807 - hb_ b)=9223372036854775807 - hb_ b:=by unfold wrap64;omega
  rw [w1,Nh (by omega)];have w2:wrap64 ((9223372036854775807 - hb_ b) / base)=(9223372036854775807 - hb_ b) / base:=by rcases hb with rfl|rfl|rfl <;> unfold wrap64 <;> omega
  rw [w2];by_cases ho:ov=true
  ·rw [if_pos ho,if_pos ho];exact J4 base hb t hs l (i+1) (k+1) n true e3 (by omega) (by omega) h0 h1
  rw [if_neg ho,if_neg ho,if_neg (by rcases hb with rfl|rfl|rfl <;> omega)];by_cases h4:n > (9223372036854775807 - hb_ b) / base
  ·rw [if_pos h4,if_pos h4,show decide (n > (9223372036854775807 - hb_ b) / base)=true from decide_eq_true h4];exact J4 base hb t hs l (i+1) (k+1) n true e3 (by omega) (by omega) h0 h1
  rw [if_neg h4,if_neg h4,show decide (n > (9223372036854775807 - hb_ b) / base)=false from decide_eq_false h4];have w3:wrap64 (wrap64 (n*base)+hb_ b)=n*base+hb_ b:=by rcases hb with rfl|rfl|rfl <;> unfold wrap64 <;> omega
  rw [w3];refine J4 base hb t hs l (i+1) (k+1) _ false e3 (by omega) (by omega) ?_ ?_
  ·rcases hb with rfl|rfl|rfl <;> omega
  rcases hb with rfl|rfl|rfl <;> omega
theorem Gj (base:Int) (hb:Jc base) (t:ByteArray) (hs:t.size≤4096):∀(l:List UInt8) (i k:Nat) (n:Int),(sl t).drop i=l→i+l.length=t.size→l.length+3≤k→0≤n→n≤9223372036854775808→(l.map hb_).all (fun d=>decide (d < base))=true→Qc.l1 k t base n (i:Int)=some (U7 base (l.map hb_) n)
 |[],i,k,n,hd,hi,hk,h0,h1,ha=>by
  obtain⟨k,rfl⟩ :∃m,k=m+1 :=⟨k - 1,by omega⟩;rw [Qc.l1,if_neg (by simp at hi;omega)];rfl
 |b::l,i,k,n,hd,hi,hk,h0,h1,ha=>by
  obtain⟨e1,e2,e3⟩ :=Fy hd;rw [List.length_cons] at hi hk;rw [List.map_cons,List.all_cons,Bool.and_eq_true,decide_eq_true_eq] at ha;obtain⟨k,rfl⟩ :∃m,k=m+3 :=⟨k - 3,by omega⟩;have hvb:=Mo (b.toNat:Int);have hq:hb_ b=hv (b.toNat:Int):=rfl;rw [Qc.l1,if_pos (by omega),if_pos (by omega),e1,Rm k _ base (by omega) (by rcases hb with rfl|rfl|rfl <;> omega) (by rcases hb with rfl|rfl|rfl <;> omega),List.map_cons,U7,←hq,if_neg (by omega:¬hb_ b ≥ base)]
  show(if IntKind.u64.wrap base=0 then _ else _)=_
  have b1:IntKind.u64.wrap base=base:=by rcases hb with rfl|rfl|rfl <;> rfl
  rw [b1,if_neg (by rcases hb with rfl|rfl|rfl <;> omega),Uz (x:=hb_ b) (by omega) (by omega),Uz (x:=9223372036854775808 - hb_ b) (by omega) (by omega),Nh (by omega)];have w2:IntKind.u64.wrap ((9223372036854775808 - hb_ b) / base)=(9223372036854775808 - hb_ b) / base:=by rcases hb with rfl|rfl|rfl <;> refine Uz ?_ ?_ <;> omega
  rw [w2];by_cases h4:n > (9223372036854775808 - hb_ b) / base
  ·rw [if_pos h4,if_pos h4]
  rw [if_neg h4,if_neg h4,Vi (by omega)];have w3:IntKind.u64.wrap (n*base)=n*base:=by rcases hb with rfl|rfl|rfl <;> refine Uz ?_ ?_ <;> omega
  have w4:IntKind.u64.wrap (n*base+hb_ b)=n*base+hb_ b:=by rcases hb with rfl|rfl|rfl <;> refine Uz ?_ ?_ <;> omega
  rw [w3,w4];refine Gj base hb t hs l (i+1) (k+2) _ e3 (by omega) (by omega) ?_ ?_ ha.2
  ·rcases hb with rfl|rfl|rfl <;> omega
  rcases hb with rfl|rfl|rfl <;> omega
theorem Gp (base:Int) (hb:Jc base) (t:ByteArray) (hs:t.size≤4096):∀(l:List UInt8) (i k:Nat),(sl t).drop i=l→i+l.length=t.size→l.length+t.size+5≤k→((sl t).take i|>.map hb_).all (fun d=>decide (d < base))=true→Qc.l0 k t base (i:Int)=some (K5 base ((sl t).map hb_))
 |[],i,k,hd,hi,hk,ha=>by
  obtain⟨k,rfl⟩ :∃m,k=m+1 :=⟨k - 1,by omega⟩;simp only [List.length_nil,Nat.add_zero] at hi;rw [List.take_of_length_le (by rw [Zs];omega)] at ha
  have hc:K5 base ((sl t).map hb_)=U7 base ((sl t).map hb_) 0 :=by
   unfold K5;rw [if_pos ha]
  rw [Qc.l0,if_neg (by omega),hc];exact Gj base hb t hs (sl t) 0 k 0 rfl (by rw [Zs];omega) (by rw [Zs];simp at hk;omega) (by omega) (by omega) ha
 |b::l,i,k,hd,hi,hk,ha=>by
  obtain⟨e1,e2,e3⟩ :=Fy hd;rw [List.length_cons] at hi hk;obtain⟨k,rfl⟩ :∃m,k=m+3 :=⟨k - 3,by omega⟩;have hvb:=Mo (b.toNat:Int);have hq:hb_ b=hv (b.toNat:Int):=rfl
  have hT:(sl t).take (i+1)=(sl t).take i++[b]:=by
   have h1:=List.take_append_drop i (sl t);rw [hd] at h1;have hlen:((sl t).take i).length=i:=by rw [List.length_take,Zs];omega
   rw [←h1,List.take_append,hlen];simp [List.take_take,hlen]
  rw [Qc.l0,if_pos (by omega),if_pos (by omega),e1,Rm k _ base (by omega) (by rcases hb with rfl|rfl|rfl <;> omega) (by rcases hb with rfl|rfl|rfl <;> omega),←hq];by_cases h4:hb_ b ≥ base
  ·rw [if_pos h4];rw [Option.bind_some,if_pos (by omega:(-1 :Int) < 0),K5,if_neg];intro h;have hm:b∈sl t:=List.mem_of_mem_drop (by rw [hd];exact List.mem_cons_self ..);have h5:=List.all_eq_true.mp h (hb_ b) (List.mem_map_of_mem hm);rw [decide_eq_true_eq] at h5;omega
  rw [if_neg h4]
  show(if hb_ b < 0 then _ else _)=_
  rw [if_neg (by omega),Vi (by omega)];refine Gp base hb t hs l (i+1) (k+2) e3 (by omega) (by omega) ?_;rw [hT,List.map_append,List.all_append,ha,Bool.true_and];simp;omega
theorem F7 (base:Int) (hb:Jc base) (t:ByteArray) (hs:t.size≤4096) (k:Nat) (hk:t.size+2≤k):Qy.j1 k base t=some (if t.size=0 then(0,6) else Wr base ((sl t).map hb_) 0 false):=by
 obtain⟨k,rfl⟩ :∃m,k=m+1 :=⟨k - 1,by omega⟩;rw [Qy.j1,Go.ByteArray.toList_eq];by_cases h:t.size=0
 ·rw [if_pos h,if_pos (List.length_eq_zero_iff.mp h)]
 rw [if_neg h,if_neg (fun e=>h (by show(sl t).length=0;rw [show sl t=[] from e];rfl))]
 exact J4 base hb t hs (sl t) 0 k 0 false rfl (by rw [Zs];omega) (by rw [Zs];omega) (by omega) (by omega)
theorem Nw (base:Int) (hb:Jc base) (t:ByteArray) (hs:t.size≤4096) (k:Nat) (hk:9000≤k):Qc.j1 k t base=some (if t.size=0 then(0,6) else K5 base ((sl t).map hb_)):=by
 obtain⟨k,rfl⟩ :∃m,k=m+1 :=⟨k - 1,by omega⟩;rw [Qc.j1,Go.ByteArray.toList_eq];by_cases h:t.size=0
 ·rw [if_pos h,if_pos (List.length_eq_zero_iff.mp h)]
 rw [if_neg h,if_neg (fun e=>h (by show(sl t).length=0;rw [show sl t=[] from e];rfl))]
 exact Gp base hb t hs (sl t) 0 k rfl (by rw [Zs];omega) (by rw [Zs];omega) rfl
theorem L3 (l:List UInt8):∀d∈l.map hb_,0≤d:=by
 intro d hd;obtain⟨b,_,rfl⟩ :=List.mem_map.mp hd;exact(Mo _).1
theorem Ans.same (a:Int×Int) (h:a=(0,6)):Ans a a:=.inr (.inr ⟨by rw [h];simp,rfl⟩)
theorem Lb {t:ByteArray} (h0:1≤t.size) (hs:t.size≤4096) (k:Nat) (hk:9010≤k):∃a b,Qc.f k t=some a∧Qy.f (t.size+3) t=some b∧Ans a b:=by
 have e2:sl (t.extract 2 t.size)=(sl t).drop 2 :=by
  rw [Yl]
  show((sl t).drop 2).take (t.size - 2)=_
  exact List.take_of_length_le (by rw [List.length_drop,Zs];omega)
 have e1:sl (t.extract 1 t.size)=(sl t).drop 1 :=by
  rw [Yl]
  show((sl t).drop 1).take (t.size - 1)=_
  exact List.take_of_length_le (by rw [List.length_drop,Zs];omega)
 have z2:(t.extract 2 t.size).size=t.size - 2 :=by rw [←Zs,e2,List.length_drop,Zs]
 have z1:(t.extract 1 t.size).size=t.size - 1 :=by rw [←Zs,e1,List.length_drop,Zs]
 obtain⟨k,rfl⟩ :∃m,k=m+1 :=⟨k - 1,by omega⟩;-- the leading 0
 have lead:∀l:List UInt8,∀b:UInt8,(b.toNat:Int)=48→Wr 8 ((b::l).map hb_) 0 false=Wr 8 (l.map hb_) 0 false:=by
  intro l b hb;have:hb_ b=0 :=by unfold hb_ hv;rw [if_pos (by omega)];omega
  rw [List.map_cons,Wr,this,if_neg (by omega),if_neg Bool.false_ne_true,if_neg (by omega)];rfl
 have N10:∀k,t.size+3≤k+1→¬bt t 0=48→Qy.j0 (k+1) t 10 t false=some (Wr 10 ((sl t).map hb_) 0 false):=by
  intro k hk h48;rw [Qy.j0,if_neg Bool.false_ne_true,if_pos (by omega),if_neg h48,F7 10 (.inr (.inl rfl)) t hs k (by omega),if_neg (by omega)]
 have N8:∀k,t.size+3≤k+1→bt t 0=48→Qy.j0 (k+1) t 10 t false=some (Wr 8 ((sl t).map hb_) 0 false):=by
  intro k hk h48;rw [Qy.j0,if_neg Bool.false_ne_true,if_pos (by omega),if_pos h48,F7 8 (.inl rfl) t hs k (by omega),if_neg (by omega)]
 have N16:∀k,t.size+3≤k+1→2≤t.size→Qy.j0 (k+1) t 10 t true=some (if t.size=2 then(0,6) else Wr 16 (((sl t).drop 2).map hb_) 0 false):=by
  intro k hk h2;rw [Qy.j0,if_pos rfl,if_pos (by omega),F7 16 (.inr (.inr rfl)) _ (by omega) k (by omega),z2,e2];by_cases h:t.size=2
  ·rw [if_pos h,if_pos (by omega)]
  rw [if_neg h,if_neg (by omega)]
 have C10:¬(1 < t.size∧bt t 0=48)→Qc.j0 (k+1) t 10 false=some (K5 10 ((sl t).map hb_)):=by
  intro h;rw [Qc.j0,if_neg Bool.false_ne_true,Nw 10 (.inr (.inl rfl)) t hs k (by omega),if_neg (by omega:¬t.size=0)];by_cases h1:1 < t.size
  ·rw [if_pos (by omega),if_pos (by omega),if_neg (fun h2=>h ⟨h1,h2⟩)]
  rw [if_neg (by omega)]
 have C8:1 < t.size→bt t 0=48→Qc.j0 (k+1) t 10 false=some (K5 8 (((sl t).drop 1).map hb_)):=by
  intro h1 h48;rw [Qc.j0,if_neg Bool.false_ne_true,if_pos (by omega),if_pos (by omega),if_pos h48,if_pos (by omega),Nw 8 (.inl rfl) _ (by omega) k (by omega),z1,e1,if_neg (by omega)]
 have C16:2 < t.size→Qc.j0 (k+1) t 10 true=some (K5 16 (((sl t).drop 2).map hb_)):=by
  intro h2;rw [Qc.j0,if_pos rfl,if_pos (by omega),Nw 16 (.inr (.inr rfl)) _ (by omega) k (by omega),z2,e2,if_neg (by omega)]
 obtain⟨b,hb1,hb2⟩ :=drop_cons t 0 (by omega);rw [List.drop_zero] at hb1;have hb2:bt t 0=(b.toNat:Int):=hb2
 have CS:¬2 < t.size→Qc.f (k+1) t=Qc.j0 (k+1) t 10 false:=by
  intro h;unfold Qc.f;rw [if_neg (by omega)]
 have CN:¬bt t 0=48→Qc.f (k+1) t=Qc.j0 (k+1) t 10 false:=by
  intro h;unfold Qc.f;split
  ·rw [if_pos (show(0 :Int) < t.size by omega)]
  rfl
 have CX:2 < t.size→bt t 0=48→Qc.f (k+1) t=Qc.j0 (k+1) t 10 (decide (bt t 1=120∨bt t 1=88)):=by
  intro h h48;unfold Qc.f;rw [if_pos (show(t.size:Int) > 2 by omega),if_pos (show(0 :Int) < t.size by omega),if_pos h48,if_pos (show(1 :Int) < t.size by omega)];by_cases h1:bt t 1=120
  ·rw [if_pos h1,decide_eq_true (.inl h1)]
  rw [if_neg h1];by_cases h2:bt t 1=88
  ·rw [h2];rfl
  rw [decide_eq_false (by simp [h1,h2]),beq_eq_false_iff_ne.mpr h2]
 have NS:¬1 < t.size→Qy.f (t.size+3) t=Qy.j0 (t.size+2+1) t 10 t false:=by
  intro h;unfold Qy.f;rw [if_neg (by omega)]
 have NN:¬bt t 0=48→Qy.f (t.size+3) t=Qy.j0 (t.size+2+1) t 10 t false:=by
  intro h;unfold Qy.f;split
  ·rw [if_pos (show(0 :Int) < t.size by omega)]
  rfl
 have NX:1 < t.size→bt t 0=48→Qy.f (t.size+3) t=Qy.j0 (t.size+2+1) t 10 t (decide (bt t 1=120∨bt t 1=88)):=by
  intro h h48;unfold Qy.f;rw [if_pos (show(t.size:Int) > 1 by omega),if_pos (show(0 :Int) < t.size by omega),if_pos h48,if_pos (show(1 :Int) < t.size by omega)];by_cases h1:bt t 1=120
  ·rw [if_pos h1,decide_eq_true (.inl h1)]
  rw [if_neg h1];by_cases h2:bt t 1=88
  ·rw [h2];rfl
  rw [decide_eq_false (by simp [h1,h2]),beq_eq_false_iff_ne.mpr h2]
 by_cases h48:bt t 0=48
 rotate_left
 ·exact⟨_,_,(CN h48).trans (C10 (fun h=>h48 h.2)),(NN h48).trans (N10 _ (by omega) h48),F0 10 (.inr (.inl rfl)) _ (L3 _)⟩
 have L8:Wr 8 ((sl t).map hb_) 0 false=Wr 8 (((sl t).drop 1).map hb_) 0 false:=by
  have:=lead ((sl t).drop 1) b (by omega);rw [←hb1] at this;exact this
 by_cases h1:1 < t.size
 rotate_left
 ·refine⟨_,_,(CS (by omega)).trans (C10 (fun h=>h1 h.1)),(NS h1).trans (N8 _ (by omega) h48),?_⟩;have hd:(sl t).drop 1=[]:=List.drop_eq_nil_of_le (by rw [Zs];omega);have hs1:sl t=[b]:=by rw [hb1];exact congrArg (b::·) hd
  have h16:hb_ b=0 :=by unfold hb_ hv;rw [if_pos (by omega)];omega
  rw [hs1,List.map_cons,List.map_nil,h16];exact .inl ⟨by decide,by decide,by decide,by decide⟩
 by_cases hx:bt t 1=120∨bt t 1=88
 rotate_left
 ·have hf:decide (bt t 1=120∨bt t 1=88)=false:=decide_eq_false hx;refine⟨_,_,?_,(NX h1 h48).trans (by rw [hf];exact N8 _ (by omega) h48),by rw [L8];exact F0 8 (.inl rfl) _ (L3 _)⟩;by_cases h2:2 < t.size
  ·exact(CX h2 h48).trans (by rw [hf];exact C8 h1 h48)
  exact(CS h2).trans (C8 h1 h48)
 by_cases h2:2 < t.size
 ·exact⟨_,_,(CX h2 h48).trans (by rw [decide_eq_true hx];exact C16 h2),(NX h1 h48).trans (by rw [decide_eq_true hx];exact N16 _ (by omega) (by omega)),by rw [if_neg (by omega)];exact F0 16 (.inr (.inr rfl)) _ (L3 _)⟩
 refine⟨_,_,(CS h2).trans (C8 h1 h48),(NX h1 h48).trans (by rw [decide_eq_true hx];exact N16 _ (by omega) (by omega)),?_⟩;rw [if_pos (by omega)];obtain⟨c,hc1,hc2⟩ :=drop_cons t 1 (by omega);have hc2:bt t 1=(c.toNat:Int):=hc2
 have:K5 8 (((sl t).drop 1).map hb_)=(0,6):=by
  unfold K5;rw [if_neg];rw [hc1,List.map_cons,List.all_cons]
  have:hb_ c=16 :=by
   unfold hb_ hv;rw [if_neg (by omega),if_neg (by omega),if_neg (by omega)]
  rw [this];simp
 rw [this];exact Ans.same _ rfl
def Ev2 {α:Type} (g:Nat→Nat→Option α) (r:α):Prop:=∃K,∀n k,K≤n→K≤k→g n k=some r
theorem Ev2.bind {α β:Type} {g:Nat→Nat→Option α} {f:Nat→Nat→α→Option β} {a:α} {r:β} (h:Ev2 g a) (hf:Ev2 (fun n k=>f n k a) r):Ev2 (fun n k=>(g n k).bind (f n k)) r:=by
 obtain⟨K,hK⟩ :=h;obtain⟨M,hM⟩ :=hf;refine⟨max K M,fun n k hn hk=>?_⟩
 show(g n k).bind (f n k)=_
 rw [hK n k (by omega) (by omega)];exact hM n k (by omega) (by omega)
theorem Ev2.shift {α:Type} {g g':Nat→Nat→Option α} {r:α} (a c K0:Nat) (h:Ev2 g' r) (e:∀n k,K0≤k→g (n+a) (k+c)=g' n k):Ev2 g r:=by
 obtain⟨K,hK⟩ :=h;refine⟨K+K0+a+c,fun n k hn hk=>?_⟩;obtain⟨k,rfl⟩ :∃m,k=m+c:=⟨k - c,by omega⟩;obtain⟨n,rfl⟩ :∃m,n=m+a:=⟨n - a,by omega⟩;rw [e n k (by omega)];exact hK n k (by omega) (by omega)
theorem Ev2.low {α:Type} {g:Nat→Nat→Option α} {r:α} (a c:Nat) (h:Ev2 g r):Ev2 (fun n k=>g (n+a) (k+c)) r:=by
 obtain⟨K,hK⟩ :=h;exact⟨K,fun n k hn hk=>hK _ _ (by omega) (by omega)⟩
theorem Ev2.of {α:Type} {g:Nat→Nat→Option α} {r:α} (K0:Nat) (e:∀n k,K0≤k→g n k=some r):Ev2 g r:=⟨K0,fun n k _ hk=>e n k hk⟩
abbrev RR:=Int×Int×ByteArray×(List (S26))×ByteArray×Int×Int×Int
def W9 (n k:Nat) (s:ByteArray) (a e p:Int):Option RR:=@V1.f (Yi n).s k s a e p
def prR (n k:Nat) (s:ByteArray) (a e p:Int):Option RR:=@Qo.f (Yi n).s k s a e p
def unR (n k:Nat) (s:ByteArray) (a e p:Int):Option RR:=@Qj.f (Ya (Yi n).s) k s a e p
def unL (n k:Nat) (t:ByteArray) (m:Int) (s:ByteArray) (a e p:Int):Option RR:=@Qj.l0 (Ya (Yi n).s) k t m s a e p
def lvR (n k:Nat) (s:ByteArray) (a e p m:Int):Option RR:=@Qm.f (Wd (Ya (Yi n).s)) k s a e p m
def lvL (n k:Nat) (m:Int) (s:ByteArray) (a e p:Int) (x:S26):Option RR:=@Qm.l0 (Wd (Ya (Yi n).s)) k m s a e p x.f0 x.f1 x.f2 x.f3
def cdR (n k:Nat) (s:ByteArray) (a e p:Int):Option RR:=@Xa.f (Ub (Wd (Ya (Yi n).s))) (Yi n).s k s a e p
def out (x:S26) (s:ByteArray) (a:Nat) (e p:Int):RR:=(x.f0,x.f1,x.f2,x.f3,s,(a:Int),e,p)
theorem J1 (x:Option RR):(x.bind fun b=>some (b.1,b.2.1,b.2.2.1,b.2.2.2.1,b.2.2.2.2.1,b.2.2.2.2.2.1,b.2.2.2.2.2.2.1,b.2.2.2.2.2.2.2))=x:=by cases x <;> rfl
theorem Mi (n k:Nat) (s:ByteArray) (a e p:Int):unR n (k+1) s a e p=(Qi.f k s a e p).bind fun b=>unL n k b.1 3 b.2.1 b.2.2.1 b.2.2.2.1 b.2.2.2.2:=by
 letI:Zx:=Ya (Yi n).s
 show Qj.f (k+1) s a e p=_
 rw [Qj.f];rfl
theorem Sw (n k:Nat) (t:ByteArray) (s:ByteArray) (a e p:Int) (he:e≠0):unL n (k+2) t 3 s a e p=prR n k s a e p:=by
 letI:Zx:=Ya (Yi n).s
 show Qj.l0 (k+1+1) t 3 s a e p=_
 rw [Qj.l0,if_pos (by omega),Qj.j1,if_neg (by simpa using he),J1];rfl
theorem Sv (n k:Nat) (t:ByteArray) (s:ByteArray) (a e p:Int):unL n (k+2) t 7 s a e p=prR n k s a e p:=by
 letI:Zx:=Ya (Yi n).s
 show Qj.l0 (k+1+1) t 7 s a e p=_
 rw [Qj.l0,if_neg (by omega),Qj.j1,if_neg Bool.false_ne_true,J1];rfl
theorem Nl (n k:Nat) (t:ByteArray) (m:Nat) (hm:m≤6) (s:ByteArray) (a p:Int) {u:ByteArray} (hu:Xs.f (m:Int)=some u):unL n (k+2) t (m:Int) s a 0 p=if t.toList=u.toList then(unR n k s (wrap64 (a+(t.size:Int))) 0 p).bind fun b=>some ((m:Int),0,(⟨#[]⟩ :ByteArray),[(⟨b.1,b.2.1,b.2.2.1,b.2.2.2.1⟩ :S26)],b.2.2.2.2.1,b.2.2.2.2.2.1,b.2.2.2.2.2.2.1,b.2.2.2.2.2.2.2) else unL n k t ((m+1 :Nat):Int) s a 0 p:=by
 letI:Zx:=Ya (Yi n).s
 show Qj.l0 (k+1+1) t m s a 0 p=_
 rw [Qj.l0,if_pos (by omega),Qj.j1,if_pos (show((0 :Int)==0)=true from rfl),hu,Option.bind_some,Vi (by omega)];rfl
theorem Mr (n k:Nat) (s:ByteArray) (a e p m:Int) (hm:m > 12):lvR n (k+1) s a e p m=unR n k s a e p:=by
 letI:Yt:=Wd (Ya (Yi n).s)
 show Qm.f (k+1) s a e p m=_
 rw [Qm.f,if_pos hm,J1];rfl
theorem N5 (n k:Nat) (s:ByteArray) (a e p:Int) (m:Nat) (hm:m≤12):lvR n (k+1) s a e p m=(lvR n k s a e p ((m+1 :Nat):Int)).bind fun b=>lvL n k m b.2.2.2.2.1 b.2.2.2.2.2.1 b.2.2.2.2.2.2.1 b.2.2.2.2.2.2.2 ⟨b.1,b.2.1,b.2.2.1,b.2.2.2.1⟩ :=by
 letI:Yt:=Wd (Ya (Yi n).s)
 show Qm.f (k+1) s a e p m=_
 rw [Qm.f,if_neg (by omega),Vi (by omega)];rfl
theorem F5 (n k:Nat) (m:Int) (s:ByteArray) (a e p:Int) (x:S26) (he:e≠0):lvL n (k+1) m s a e p x=some (x.f0,x.f1,x.f2,x.f3,s,a,e,p):=by
 letI:Yt:=Wd (Ya (Yi n).s)
 show Qm.l0 (k+1) m s a e p x.f0 x.f1 x.f2 x.f3=_
 rw [Qm.l0,if_neg he]
theorem L9 (n k:Nat) (m:Nat) (hm:m≤12) (s:ByteArray) (a p:Int) (x:S26):lvL n (k+1) m s a 0 p x=(Qi.f k s a 0 p).bind fun b=>(Q7.f k b.1 m).bind fun o=>if o=0 then some (x.f0,x.f1,x.f2,x.f3,b.2.1,b.2.2.1,b.2.2.2.1,b.2.2.2.2) else(lvR n k b.2.1 (wrap64 (b.2.2.1+(b.1.size:Int))) b.2.2.2.1 b.2.2.2.2 ((m+1 :Nat):Int)).bind fun c=>lvL n k m c.2.2.2.2.1 c.2.2.2.2.2.1 c.2.2.2.2.2.2.1 c.2.2.2.2.2.2.2 ⟨o,0,⟨#[]⟩,[x,⟨c.1,c.2.1,c.2.2.1,c.2.2.2.1⟩]⟩ :=by
 letI:Yt:=Wd (Ya (Yi n).s)
 obtain⟨x0,x1,x2,x3⟩ :=x
 show Qm.l0 (k+1) m s a 0 p x0 x1 x2 x3=_
 rw [Qm.l0,if_pos rfl,Vi (by omega)];rfl
theorem Kj (n k:Nat) (s:ByteArray) (a e p:Int):cdR n (k+1) s a e p=(lvR n k s a e p 3).bind fun x=>(Qv.f k x.2.2.2.2.1 x.2.2.2.2.2.1 x.2.2.2.2.2.2.1 x.2.2.2.2.2.2.2 (bl [63])).bind fun q=>if q.1=true then(W9 n k q.2.1 q.2.2.1 q.2.2.2.1 q.2.2.2.2).bind fun y=>(Qv.f k y.2.2.2.2.1 y.2.2.2.2.2.1 y.2.2.2.2.2.2.1 y.2.2.2.2.2.2.2 (bl [58])).bind fun c=>if c.1=true then(cdR n k c.2.1 c.2.2.1 c.2.2.2.1 c.2.2.2.2).bind fun z=>some (25,0,⟨#[]⟩,[⟨x.1,x.2.1,x.2.2.1,x.2.2.2.1⟩,⟨y.1,y.2.1,y.2.2.1,y.2.2.2.1⟩,⟨z.1,z.2.1,z.2.2.1,z.2.2.2.1⟩],z.2.2.2.2.1,z.2.2.2.2.2.1,z.2.2.2.2.2.2.1,z.2.2.2.2.2.2.2)
 else(Qn.f c.2.1 c.2.2.1 c.2.2.2.1 c.2.2.2.2 6 c.2.2.1).bind fun d=>some (x.1,x.2.1,x.2.2.1,x.2.2.2.1,d.1,d.2.1,d.2.2.1,d.2.2.2) else some (x.1,x.2.1,x.2.2.1,x.2.2.2.1,q.2.1,q.2.2.1,q.2.2.2.1,q.2.2.2.2):=by
 letI:Ve:=Ub (Wd (Ya (Yi n).s))
 letI:Y0:=(Yi n).s
 show Xa.f (k+1) s a e p=_
 rw [Xa.f];rfl
theorem My (n k:Nat) (s:ByteArray) (a e p:Int):W9 (n+1) (k+3) s a e p=(Qf.f (k+2) s a e p).bind fun b=>(Qs.f (k+2) b.1 b.2.1 b.2.2.1 b.2.2.2).bind fun w=>if w.1.toList=([]:List UInt8) then cdR n k w.2.1 w.2.2.1 w.2.2.2.1 w.2.2.2.2 else if 0 < (w.1.size:Int) then(Q9.f (bt w.1 0)).bind fun l=>if l=true then(Qi.f (k+1) w.2.1 (wrap64 (w.2.2.1+(w.1.size:Int))) w.2.2.2.1 w.2.2.2.2).bind fun o=>(Qu.f (k+1) o.1).bind fun g=>if g ≥ 0 then(Qz.f (k+1) w.1).bind fun nm=>(if nm=true then some (o.2.1,o.2.2.1,o.2.2.2.1,o.2.2.2.2) else Qn.f o.2.1 o.2.2.1 o.2.2.2.1 o.2.2.2.2 10 b.2.1).bind fun d=>(Qu.f k o.1).bind fun g2=>(W9 (n+1) k d.1 (wrap64 (d.2.1+(o.1.size:Int))) d.2.2.1 d.2.2.2).bind fun y=>some (26,g2,w.1,[(⟨y.1,y.2.1,y.2.2.1,y.2.2.2.1⟩ :S26)],y.2.2.2.2.1,y.2.2.2.2.2.1,y.2.2.2.2.2.2.1,y.2.2.2.2.2.2.2)
 else cdR n k o.2.1 b.2.1 o.2.2.2.1 o.2.2.2.2 else cdR n k w.2.1 w.2.2.1 w.2.2.2.1 w.2.2.2.2 else none:=by
 letI:Vj:=L2 (Ub (Wd (Ya (Yi n).s))) (Yi n).s
 show Qh.f (k+2+1) s a e p=_
 rw [Qh.f];congr 1;funext b;congr 1;funext w
 have j2:∀(s:ByteArray) (a e p:Int) k,Qh.j2 (k+1) s a e p=Ww.f k s a e p:=by
  intro s a e p k;rw [Qh.j2,J1]
 have j0f:∀(x3:Int) (x4 s:ByteArray) (a e p:Int),Qh.j0 (k+1+1) x3 x4 false s a e p=Ww.f k s a e p:=by
  intro x3 x4 s a e p;rw [Qh.j0,if_neg Bool.false_ne_true,j2]
 by_cases h1:w.1.toList=[]
 ·rw [if_pos h1,if_pos h1,j0f];rfl
 rw [if_neg h1,if_neg h1];by_cases h2:0 < (w.1.size:Int)
 rotate_left
 ·rw [if_neg h2,if_neg h2]
 rw [if_pos h2,if_pos h2];congr 1;funext l
 cases l with
 |false=>
  rw [j0f,if_neg Bool.false_ne_true];rfl
 |true=>
  rw [Qh.j0,if_pos rfl,if_pos rfl];congr 1;funext o;congr 1;funext g;by_cases h3:g ≥ 0
  rotate_left
  ·rw [if_neg h3,if_neg h3,j2];rfl
  rw [if_pos h3,if_pos h3];congr 1;funext nm
  cases nm with
  |true=>
   rw [if_pos rfl,if_pos rfl,Option.bind_some,Qh.j1];rfl
  |false=>
   rw [if_neg Bool.false_ne_true,if_neg Bool.false_ne_true];rfl
theorem Ky (s:ByteArray):∀f i,i+f=s.size→∀j,i≤j→j < V3 s f i→Wo (bt s j)=true
 |0,i,hi,j,h1,h2=>by
  rw [V3] at h2;omega
 |f+1,i,hi,j,h1,h2=>by
  rw [V3] at h2;split at h2
  ·rename_i hc
   rcases Nat.lt_or_ge i j with h3|h3
   ·exact Ky s f (i+1) (by omega) j (by omega) h2
   obtain rfl:i=j:=by omega
   exact hc.2
  omega
theorem Nf {s:ByteArray} {i j:Nat} (hi:i≤s.size) (h1:i≤j) (h2:j < Zn s i):Wo (bt s j)=true:=Ky s (s.size - i) i (by omega) j h1 h2
theorem Wp {s:ByteArray} {p:Nat} {L:List UInt8} (h:At s p L) (hn:nb L):Zn s p=p:=by
 have hp:=h.1;refine Jv (fun hc=>?_)
 have hL:L≠[]:=by
  rintro rfl;have:=h.len;simp at this;omega
 rw [h.head hL hn] at hc;simp at hc
theorem At.of_skip {s:ByteArray} {i:Nat} (hi:i≤s.size):At s (Zn s i) ((sl s).drop (Zn s i))∧nb ((sl s).drop (Zn s i)):=by
 refine⟨⟨(Wg s i hi).2,rfl⟩,?_⟩;have h:=Jt s i hi
 have h2:(sl s).drop (Zn s i)=((sl s).drop i).dropWhile U8:=by
  rw [h,←List.drop_drop];generalize (sl s).drop i=M
  induction M with
  |nil=>rfl
  |cons a M ih=>
   rw [List.takeWhile_cons,List.dropWhile_cons];split
   ·rw [List.length_cons,List.drop_succ_cons,ih]
   rfl
 rw [h2];exact Wk _
theorem Um (k:Nat) (s:ByteArray) (a e p:Int) (o:ByteArray) (he:e≠0):Qv.f k s a e p o=some (false,s,a,e,p):=by
 unfold Qv.f;rw [if_neg he]
theorem Un {s:ByteArray} (hs:s.size≤4096) {i p:Nat} {L:List UInt8} (hi:i≤s.size) (hp:Zn s i=p) (h:At s p L) (pos:Int) (o:List UInt8) (ho:o∈Z6) (k:Nat) (hk:4097≤k):
 Qv.f k s (i:Int) 0 pos (bl o)=some (if(tk L).toList=o then(true,s,((p+o.length:Nat):Int),0,pos) else(false,s,(p:Int),0,pos)):=by
 unfold Qv.f;rw [if_pos rfl,Vc hs hi hp h 0 pos k hk,Option.bind_some,Y1,Go.ByteArray.toList_eq (bl o),Go.ByteArray.toList_eq (bl (rop (Z7 L)))]
 have hl:o.length≤3 :=by
  rcases Up.mp ho with h|h|h
  ·exact Nat.le_of_eq (L7 h)
  ·have:=Sm h;omega
  ·have:=T5 h;omega
 have hp2:=h.1;by_cases hc:(tk L).toList=o
 rotate_left
 ·rw [if_neg hc,if_neg (fun h2=>hc ((Rn L ho).mp h2))]
 rw [if_pos hc,if_pos (show rop (Z7 L)=o from(Rn L ho).mpr hc),wrap_add (by omega) (by show o.length≤_;omega)];rfl
theorem Ws (s:ByteArray) (a p q e:Int):Qn.f s a 0 p e q=some (s,a,e,q):=by
 unfold Qn.f;rw [if_pos rfl]
theorem J2 (s:ByteArray) (a e p q e2:Int) (he:e≠0):Qn.f s a e p e2 q=some (s,a,e,p):=by
 unfold Qn.f;rw [if_neg he]
def Gi (F:Nat→Nat→Option RR) (s:ByteArray) (e p:Int):Prop:=∃y,∃a:Nat,a≤s.size∧Ev2 F (out y s a e p)
def Uq:S26:=⟨0,0,⟨#[]⟩,[]⟩
theorem Tl {s:ByteArray} (hs:s.size≤4096) {e:Int} (he:e≠0) (pos:Int) {i:Nat} (hi:i≤s.size):Gi (fun n k=>prR n k s i e pos) s e pos:=by
 obtain⟨h1,h2⟩ :=At.of_skip hi;refine⟨Uq,Zn s i,(Wg s i hi).2,Ev2.of 4097 fun n k hk=>?_⟩
 show @Qo.f (Yi n).s k s i e pos=_
 unfold Qo.f;rw [Um k s i e pos _ he,Option.bind_some,if_neg Bool.false_ne_true,Vo s hs i hi e pos k hk,Option.bind_some,Ud hs h1 e pos k hk,Option.bind_some,if_neg he];rfl
theorem Tp {s:ByteArray} (hs:s.size≤4096) {e:Int} (he:e≠0) (pos:Int) {i:Nat} (hi:i≤s.size):Gi (fun n k=>unR n k s i e pos) s e pos:=by
 obtain⟨h1,h2⟩ :=At.of_skip hi;obtain⟨y,a,ha,hE⟩ :=Tl hs he pos (Wg s i hi).2;refine⟨y,a,ha,Ev2.shift 0 3 4097 hE fun n k hk=>?_⟩;rw [Nat.add_zero,Mi,Vc hs hi rfl h1 e pos (k+2) (by omega),Option.bind_some];exact Sw n k _ s _ e pos he
theorem Ra {s:ByteArray} (hs:s.size≤4096) {e:Int} (he:e≠0) (pos:Int):∀(d m:Nat) (i:Nat),m+d=13→i≤s.size→Gi (fun n k=>lvR n k s i e pos m) s e pos
 |0,m,i,hm,hi=>by
  obtain⟨y,a,ha,hE⟩ :=Tp hs he pos hi;exact⟨y,a,ha,Ev2.shift 0 1 0 hE fun n k hk=>Mr n k s i e pos m (by omega)⟩
 |d+1,m,i,hm,hi=>by
  obtain⟨y,a,ha,hE⟩ :=Ra hs he pos d (m+1) i (by omega) hi;refine⟨y,a,ha,Ev2.shift 0 2 0 (Ev2.bind (Ev2.low 0 1 hE) (Ev2.of 0 fun n k _=>?_)) fun n k hk=>N5 n (k+1) s i e pos m (by omega)⟩;exact F5 n k m s _ e pos y he
theorem Td {s:ByteArray} (hs:s.size≤4096) {e:Int} (he:e≠0) (pos:Int) {i:Nat} (hi:i≤s.size):Gi (fun n k=>cdR n k s i e pos) s e pos:=by
 obtain⟨y,a,ha,hE⟩ :=Ra hs he pos 10 3 i rfl hi;refine⟨y,a,ha,Ev2.shift 0 1 0 (Ev2.bind hE (Ev2.of 0 fun n k _=>?_)) fun n k hk=>Kj n k s i e pos⟩
 show(Qv.f k s a e pos (bl [63])).bind _=_
 rw [Um k s a e pos _ he,Option.bind_some,if_neg Bool.false_ne_true];rfl
theorem Vp {b:UInt8} (h:Q9.f (b.toNat:Int)=some true):Yy b=true∧Xt.f (b.toNat:Int)=some false:=by
 have h1:=Vy (b.toNat:Int);rw [h] at h1;simp at h1;refine⟨by unfold Yy;rw [h1];rfl,?_⟩;unfold Q9.f at h;unfold Xt.f;by_cases h2:(b.toNat:Int) ≥ 48
 rotate_left
 ·rw [if_neg h2]
 rw [if_pos h2];by_cases h3:(b.toNat:Int)≤57
 rotate_left
 ·rw [decide_eq_false h3]
 rw [if_neg (by omega),if_neg (by omega)] at h;simp at h;omega
theorem Kg {b:UInt8} {l:List UInt8} (hb:Yy b=true):wd (b::l)=tk (b::l)∧¬(wd (b::l)).toList=[]∧bt (wd (b::l)) 0=(b.toNat:Int)∧0 < (wd (b::l)).size:=by
 have e:(b::l).takeWhile Yy=b::l.takeWhile Yy:=by rw [List.takeWhile_cons,if_pos hb]
 have hw:wd (b::l)=bl (b::l.takeWhile Yy):=by unfold wd;rw [e]
 refine⟨?_,?_,?_,?_⟩
 ·rw [hw,←e,←Kf hb];rfl
 ·rw [hw,Go.ByteArray.toList_eq];simp
 ·rw [hw];exact(bt0 (t:=bl (b::l.takeWhile Yy)) rfl).1
 ·rw [hw]
  show 0 < (b::l.takeWhile Yy).length
  simp
theorem Np {b:UInt8} {l:List UInt8} (hb:¬Yy b=true):wd (b::l)=bl []:=by
 unfold wd;rw [List.takeWhile_cons,if_neg hb]
def Fo (op n:Int) (t:ByteArray) (y:RR):Option RR:=some (op,n,t,[(⟨y.1,y.2.1,y.2.2.1,y.2.2.2.1⟩ :S26)],y.2.2.2.2.1,y.2.2.2.2.2.1,y.2.2.2.2.2.2.1,y.2.2.2.2.2.2.2)
theorem W0 (op n:Int) (t:ByteArray) (y:S26) (s:ByteArray) (a:Nat) (e p:Int):Fo op n t (out y s a e p)=some (out ⟨op,n,t,[y]⟩ s a e p):=by
 cases y
 rfl
def Lq (L:List UInt8):Prop:=∃b l o,L=b::l∧Q9.f (b.toNat:Int)=some true∧Xe.f 1 (tk (nx L))=some (o,true)
theorem Wc {s:ByteArray} {p:Nat} {L:List UInt8} (h:At s p L):p+(tk L).size≤s.size:=by
 have:=h.len;rw [Vv];have:=Wb L;omega
theorem Na {s:ByteArray} (hs:s.size≤4096) {i p:Nat} {L:List UInt8} (hi:i≤s.size) (hp:Zn s i=p) (h:At s p L) (hc:¬Lq L) (e pos:Int) (n k:Nat) (hk:9000≤k):W9 (n+1) (k+3) s i e pos=cdR n k s p e pos:=by
 rw [My,Vo s hs i hi e pos (k+2) (by omega),Option.bind_some,hp]
 show(Qs.f (k+2) s p e pos).bind _=_
 rw [Ud hs h e pos (k+2) (by omega),Option.bind_some]
 show(if(wd L).toList=[] then cdR n k s p e pos else _)=_
 cases L with
 |nil=>
  rw [if_pos];rw [Go.ByteArray.toList_eq];rfl
 |cons b l=>
  by_cases hb:Yy b=true
  rotate_left
  ·rw [Np hb,if_pos];rw [Go.ByteArray.toList_eq]
  obtain⟨w1,w2,w3,w4⟩ :=Kg (l:=l) hb;rw [if_neg w2]
  show(if 0 < ((wd (b::l)).size:Int) then(Q9.f (bt (wd (b::l)) 0)).bind _ else _)=_
  rw [if_pos (by omega),w3];rcases Vy (b.toNat:Int) with ⟨h1,h2⟩|⟨h1,h2,h3,_⟩|⟨h1,h2,h3⟩
  ·rw [h1,Option.bind_some,if_pos rfl];have hlen:=h.len;have hfit:=Wc h
   show(Qi.f (k+1) s (wrap64 ((p:Int)+((wd (b::l)).size:Int))) e pos).bind _=_
   have⟨hA,_⟩ :=Z9 h;have hp2:=h.1;have hwt:(wd (b::l)).size=(tk (b::l)).size:=by rw [w1]
   rw [wrap_add (by omega) (by omega),hwt,Vc hs hfit rfl hA e pos (k+1) (by omega),Option.bind_some,Y1]
   obtain⟨o,bb,ho⟩ :=Ja (tk (nx (b::l))) (by
    rw [Vv];have:=Wb (nx (b::l));have:=hA.len;omega)
   have hnl:(nx (b::l)).length≤4096 :=by have:=hA.len;omega
   show(Qu.f (k+1) (bl (rop (Z7 (nx (b::l)))))).bind _=_
   rw [(Nt _ hnl ho (k+1) (by omega)).1,Option.bind_some]
   cases bb with
   |true=>exact absurd ⟨b,l,o,rfl,h1,ho⟩ hc
   |false=>
    rw [if_neg Bool.false_ne_true,if_neg (by omega:¬(-1 :Int) ≥ 0)]
  ·rw [h1,Option.bind_some,if_neg Bool.false_ne_true]
  ·rw [h1,Option.bind_some,if_neg Bool.false_ne_true]
theorem Gg {s:ByteArray} (hs:s.size≤4096) {i p:Nat} {L:List UInt8} (hi:i≤s.size) (hp:Zn s i=p) (h:At s p L) {b:UInt8} {l:List UInt8} {o:Int} (hL:L=b::l) (hb:Q9.f (b.toNat:Int)=some true) (ho:Xe.f 1 (tk (nx L))=some (o,true)) (e pos:Int) (n k:Nat) (hk:9000≤k):
 W9 (n+1) (k+3) s i e pos=(W9 (n+1) k s ((Zb s p (tk L)+(tk (nx L)).size:Nat):Int) (if e=0∧¬nameB (tk L)=true then 10 else e) (if e=0∧¬nameB (tk L)=true then(p:Int) else pos)).bind (Fo 26 o (tk L)):=by
 subst hL;have hwb:=(Vp hb).1;obtain⟨w1,w2,w3,w4⟩ :=Kg (l:=l) hwb;have hlen:=h.len;have hfit:=Wc h;have⟨hA,_⟩ :=Z9 h;have hp2:=h.1;have hwt:(wd (b::l)).size=(tk (b::l)).size:=by rw [w1]
 have hnl:(nx (b::l)).length≤4096 :=by have:=hA.len;omega
 have hfit2:=hA.1;have htk:(tk (nx (b::l))).size≤4096 :=by rw [Vv];have:=Wb (nx (b::l));omega
 rw [My,Vo s hs i hi e pos (k+2) (by omega),Option.bind_some,hp]
 show(Qs.f (k+2) s p e pos).bind _=_
 rw [Ud hs h e pos (k+2) (by omega),Option.bind_some]
 show(if(wd (b::l)).toList=[] then _ else _)=_
 rw [if_neg w2]
 show(if 0 < ((wd (b::l)).size:Int) then(Q9.f (bt (wd (b::l)) 0)).bind _ else _)=_
 rw [if_pos (by omega),w3,hb,Option.bind_some,if_pos rfl]
 show(Qi.f (k+1) s (wrap64 ((p:Int)+((wd (b::l)).size:Int))) e pos).bind _=_
 rw [wrap_add (by omega) (by omega),hwt,Vc hs hfit rfl hA e pos (k+1) (by omega),Option.bind_some,Y1]
 show(Qu.f (k+1) (bl (rop (Z7 (nx (b::l)))))).bind _=_
 obtain⟨h1,h2⟩ :=Nt _ hnl ho (k+1) (by omega);obtain⟨h3,h4⟩ :=h2 rfl;rw [h1,Option.bind_some,if_pos rfl,if_pos (show o ≥ 0 from h3),Ms _ _ (by omega),Option.bind_some,w1];have hq:bl (rop (Z7 (nx (b::l))))=tk (nx (b::l)):=congrArg bl h4;have hg2:=(Nt _ hnl ho k (by omega)).1;rw [if_pos rfl] at hg2;by_cases hnm:nameB (tk (b::l))=true
 ·rw [hnm,if_pos rfl,Option.bind_some,if_neg (fun hc=>hc.2 rfl),if_neg (fun hc=>hc.2 rfl)]
  show(Qu.f k (bl (rop (Z7 (nx (b::l)))))).bind _=_
  rw [hg2,Option.bind_some]
  show(W9 (n+1) k s (wrap64 ((Zb s p (tk (b::l)):Int)+((bl (rop (Z7 (nx (b::l))))).size:Int))) e pos).bind _=_
  rw [hq,wrap_add (by omega) (by omega)];rfl
 rw [if_neg hnm]
 show(Qn.f s (Zb s p (tk (b::l)):Int) e pos 10 (p:Int)).bind _=_
 by_cases he:e=0
 rotate_left
 ·rw [J2 _ _ _ _ _ _ he,Option.bind_some,if_neg (fun hc=>he hc.1),if_neg (fun hc=>he hc.1)]
  show(Qu.f k (bl (rop (Z7 (nx (b::l)))))).bind _=_
  rw [hg2,Option.bind_some]
  show(W9 (n+1) k s (wrap64 ((Zb s p (tk (b::l)):Int)+((bl (rop (Z7 (nx (b::l))))).size:Int))) e pos).bind _=_
  rw [hq,wrap_add (by omega) (by omega)];rfl
 subst he;rw [Ws,Option.bind_some,if_pos ⟨rfl,hnm⟩,if_pos ⟨rfl,hnm⟩]
 show(Qu.f k (bl (rop (Z7 (nx (b::l)))))).bind _=_
 rw [hg2,Option.bind_some]
 show(W9 (n+1) k s (wrap64 ((Zb s p (tk (b::l)):Int)+((bl (rop (Z7 (nx (b::l))))).size:Int))) 10 p).bind _=_
 rw [hq,wrap_add (by omega) (by omega)];rfl
theorem Rc {s:ByteArray} {p:Nat} {L:List UInt8} (h:At s p L) (hL:L≠[]):p < Zb s p (tk L):=by
 have h1:=Vv L;have h2:=Wz hL;have h3:=Wb L;have h4:=h.len;have:=(Wg s (p+(tk L).size) (by omega)).1;unfold Zb;omega
theorem Mz {s:ByteArray} (hs:s.size≤4096) {e:Int} (he:e≠0) (pos:Int):∀(d i:Nat),i≤s.size→s.size - i≤d→Gi (fun n k=>W9 n k s i e pos) s e pos
 |d,i,hi,hd=>by
  obtain⟨h1,h2⟩ :=At.of_skip hi;have hle:=Wg s i hi;by_cases hc:Lq ((sl s).drop (Zn s i))
  rotate_left
  ·obtain⟨y,a,ha,hE⟩ :=Td hs he pos hle.2;exact⟨y,a,ha,Ev2.shift 1 3 9000 hE fun n k hk=>Na hs hi rfl h1 hc e pos n k hk⟩
  obtain⟨b,l,o,hL,hb,ho⟩ :=hc;have⟨hA,_⟩ :=Z9 h1;have hlt:=Rc h1 (by rw [hL];simp)
  have hf2:Zb s (Zn s i) (tk ((sl s).drop (Zn s i)))+(tk (nx ((sl s).drop (Zn s i)))).size≤s.size:=by
   have:=hA.len;rw [Vv];have:=Wb (nx ((sl s).drop (Zn s i)));omega
  match d,hd with
  |0,hd=>omega
  |d+1,hd=>
   obtain⟨y,a,ha,hE⟩ :=Mz hs he pos d _ hf2 (by omega);refine⟨⟨26,o,tk ((sl s).drop (Zn s i)),[y]⟩,a,ha,Ev2.shift 1 3 9000 (g':=fun n k=>(W9 (n+1) (k+0) s ((Zb s (Zn s i) (tk ((sl s).drop (Zn s i)))+(tk (nx ((sl s).drop (Zn s i)))).size:Nat):Int) e pos).bind (Fo 26 o (tk ((sl s).drop (Zn s i))))) (Ev2.bind (Ev2.low 1 0 hE) (Ev2.of 0 fun n k _=>W0 26 o _ y s a e pos)) fun n k hk=>?_⟩
   rw [Gg hs hi rfl h1 hL hb ho e pos n k hk,if_neg (fun hc=>he hc.1),if_neg (fun hc=>he hc.1)];rfl
def Res (F:Nat→Nat→Option RR) (s:ByteArray):Except (Nat×Int) (S26×Nat×ByteArray)→Prop
 |.ok (x,p,t)=>∃a:Nat,a≤s.size∧Zn s a=p∧Ev2 F (out x s a 0 0)
 |.error (q,e)=>e≠0∧∃y,∃a:Nat,a≤s.size∧Ev2 F (out y s a e q)
theorem Ka {s:ByteArray} (hs:s.size≤4096) {k:Nat} {gl:Gl} {p p1:Nat} {L:List UInt8} {x:S26} {t1:ByteArray} (hg:okG gl) (hA:At s p L) (hn:nb L) (h:pr s k gl p (tk L)=some (.ok (x,p1,t1))):∃M,At s p1 M∧t1=tk M∧nb M:=by
 have h1:=Gd Nc hs k gl p L hg (Gv gl) hA hn;rw [h] at h1;obtain⟨M,h2,h3,h4,_⟩ :=h1;exact⟨M,h2,h3,h4⟩
theorem Ke (b:UInt8) (l:List UInt8):bt (tk (b::l)) 0=(b.toNat:Int)∧(tk (b::l)).size≠0 :=by
 have h1:=Wz (L:=b::l) (by simp);obtain⟨m,hm⟩ :∃m,Vq (b::l)=m+1 :=⟨Vq (b::l) - 1,by omega⟩;exact bt0 (t:=tk (b::l)) (b:=b) (l:=l.take m) (by show(b::l).take (Vq (b::l))=_;rw [hm];rfl)
theorem Rg (x0 x1:Int) (x2:ByteArray) (x3:List S26) (s:ByteArray) (a:Nat) (e p:Int):(some (x0,x1,x2,x3,s,(a:Int),e,p):Option RR)=some (out ⟨x0,x1,x2,x3⟩ s a e p):=rfl
theorem Kq {t:List UInt8} {o:Int} (h:X7.f (bl t)=some o):(∃m:Nat,o=(m:Int)∧3≤m∧m≤6∧∃b:UInt8,Xs.f (m:Int)=some (bl [b])∧t=[b]∧(∀m2:Nat,3≤m2→m2 < m→∃c:UInt8,Xs.f (m2:Int)=some (bl [c])∧t≠[c]))∨(o=0∧t≠[45]∧t≠[43]∧t≠[33]∧t≠[126]):=by
 unfold X7.f at h;rw [Go.ByteArray.toList_eq] at h;have s3:Xs.f ((3 :Nat):Int)=some (bl [45]):=by kernel_rfl
 have s4:Xs.f ((4 :Nat):Int)=some (bl [43]):=by kernel_rfl
 have s5:Xs.f ((5 :Nat):Int)=some (bl [33]):=by kernel_rfl
 have s6:Xs.f ((6 :Nat):Int)=some (bl [126]):=by kernel_rfl
 by_cases h3:t=[45]
 ·rw [if_pos h3] at h;injection h with h
  exact .inl ⟨3,h.symm,by omega,by omega,45,s3,h3,fun m2 a b=>by omega⟩
 rw [if_neg h3] at h;by_cases h4:t=[43]
 ·rw [if_pos h4] at h;injection h with h
  refine .inl ⟨4,h.symm,by omega,by omega,43,s4,h4,fun m2 a b=>?_⟩;obtain rfl:m2=3 :=by omega
  exact⟨45,s3,h3⟩
 rw [if_neg h4] at h;by_cases h5:t=[33]
 ·rw [if_pos h5] at h;injection h with h
  refine .inl ⟨5,h.symm,by omega,by omega,33,s5,h5,fun m2 a b=>?_⟩;rcases(by omega:m2=3∨m2=4) with rfl|rfl
  ·exact⟨45,s3,h3⟩
  exact⟨43,s4,h4⟩
 rw [if_neg h5] at h;by_cases h6:t=[126]
 ·rw [if_pos h6] at h;injection h with h
  refine .inl ⟨6,h.symm,by omega,by omega,126,s6,h6,fun m2 a b=>?_⟩;rcases(by omega:m2=3∨m2=4∨m2=5) with rfl|rfl|rfl
  ·exact⟨45,s3,h3⟩
  ·exact⟨43,s4,h4⟩
  ·exact⟨33,s5,h5⟩
 rw [if_neg h6] at h;injection h with h
 exact .inr ⟨h.symm,h3,h4,h5,h6⟩
theorem U0 (n k:Nat) (t:List UInt8) (s:ByteArray) (a p:Int):∀(d m:Nat),3≤m→m+d≤7→(∀m2:Nat,m≤m2→m2 < m+d→∃c:UInt8,Xs.f (m2:Int)=some (bl [c])∧t≠[c])→unL n (k+2*d) (bl t) (m:Int) s a 0 p=unL n k (bl t) ((m+d:Nat):Int) s a 0 p
 |0,m,_,_,_=>rfl
 |d+1,m,h3,h7,h=>by
  obtain⟨c,hc,hne⟩ :=h m (Nat.le_refl _) (by omega);rw [show k+2*(d+1)=(k+2*d)+2 by omega,Nl n (k+2*d) (bl t) m (by omega) s a p hc,if_neg (by rw [Go.ByteArray.toList_eq,Go.ByteArray.toList_eq];exact hne),U0 n k t s a p d (m+1) (by omega) (by omega) (fun m2 h1 h2=>h m2 (by omega) (by omega)),show m+1+d=m+(d+1) by omega]
theorem Mx {t:List UInt8} {b:UInt8} (hb:[b]∈Z6):rop t=[b] ↔ t=[b]:=by
 unfold rop;split
 ·exact Iff.rfl
 rename_i h
 constructor
 ·intro h2;cases h2
 intro h2;exact absurd (h2 ▸ hb) h
theorem M4 {s:ByteArray} (hs:s.size≤4096) {i p:Nat} {L:List UInt8} (hi:i≤s.size) (hp:Zn s i=p) (h:At s p L) {o:Int} (ho:X7.f (tk L)=some o) (h0:o≠0) {y:S26} {a:Nat} {e q:Int} (hE:Ev2 (fun n k=>unR n k s ((p+(tk L).size:Nat):Int) 0 0) (out y s a e q)):Ev2 (fun n k=>unR n k s i 0 0) (out ⟨o,0,Yq,[y]⟩ s a e q):=by
 rcases Kq (t:=Z7 L) ho with ⟨m,rfl,h3,h6,b,hsg,ht,hbef⟩|⟨h1,_⟩
 rotate_left
 ·exact absurd h1 h0
 have hmem:∀c:UInt8,∀m2:Nat,3≤m2→m2≤6→Xs.f (m2:Int)=some (bl [c])→[c]∈Z6:=by
  intro c m2 a1 a2 hc;rcases(by omega:m2=3∨m2=4∨m2=5∨m2=6) with rfl|rfl|rfl|rfl
  ·have:Xs.f ((3 :Nat):Int)=some (bl [45]):=by kernel_rfl
   rw [this] at hc;injection hc with hc;have:=congrArg sl hc;injection this with h1 h2;subst h1;decide
  ·have:Xs.f ((4 :Nat):Int)=some (bl [43]):=by kernel_rfl
   rw [this] at hc;injection hc with hc;have:=congrArg sl hc;injection this with h1 h2;subst h1;decide
  ·have:Xs.f ((5 :Nat):Int)=some (bl [33]):=by kernel_rfl
   rw [this] at hc;injection hc with hc;have:=congrArg sl hc;injection this with h1 h2;subst h1;decide
  ·have:Xs.f ((6 :Nat):Int)=some (bl [126]):=by kernel_rfl
   rw [this] at hc;injection hc with hc;have:=congrArg sl hc;injection this with h1 h2;subst h1;decide
 have hb:=hmem b m h3 h6 hsg;have hr:rop (Z7 L)=[b]:=(Mx hb).mpr ht;have hz:(tk L).size=1 :=by show(Z7 L).length=1;rw [ht];rfl
 have hlen:=h.len;have hp2:=h.1;refine Ev2.shift 0 (1+2+2*(m - 3)) 4097 (g':=fun n k=>(unR n k s ((p+(tk L).size:Nat):Int) 0 0).bind (Fo m 0 ⟨#[]⟩)) (Ev2.bind hE (Ev2.of 0 fun n k _=>W0 m 0 _ y s a e q)) fun n k hk=>?_
 rw [Nat.add_zero,show k+(1+2+2*(m - 3))=(k+2+2*(m - 3))+1 by omega,Mi,Vc hs hi hp h 0 0 _ (by omega),Option.bind_some,Y1,hr]
 show unL n (k+2+2*(m - 3)) (bl [b]) ((3 :Nat):Int) s p 0 0=_
 rw [U0 n (k+2) [b] s p 0 (m - 3) 3 (by omega) (by omega) (fun m2 a1 a2=>by
  obtain⟨c,h1,h2⟩ :=hbef m2 a1 (by omega);exact⟨c,h1,fun he=>h2 (ht.trans he)⟩),show 3+(m - 3)=m by omega,Nl n k (bl [b]) m h6 s p 0 hsg,if_pos rfl,wrap_add (by omega) (by show 1≤_;omega),hz]
 rfl
theorem Sx {s:ByteArray} (hs:s.size≤4096) {i p:Nat} {L:List UInt8} (hi:i≤s.size) (hp:Zn s i=p) (h:At s p L) (ho:X7.f (tk L)=some 0) {r:RR} (hE:Ev2 (fun n k=>prR n k s p 0 0) r):Ev2 (fun n k=>unR n k s i 0 0) r:=by
 rcases Kq (t:=Z7 L) ho with ⟨m,h1,h3,_⟩|⟨_,h3,h4,h5,h6⟩
 ·omega
 refine Ev2.shift 0 (1+2+2*4) 4097 hE fun n k hk=>?_
 rw [Nat.add_zero,show k+(1+2+2*4)=(k+2+2*4)+1 by omega,Mi,Vc hs hi hp h 0 0 _ (by omega),Option.bind_some,Y1]
 show unL n (k+2+2*4) (bl (rop (Z7 L))) ((3 :Nat):Int) s p 0 0=_
 have ne:∀c:UInt8,[c]∈Z6→Z7 L≠[c]→rop (Z7 L)≠[c]:=fun c hc h1 h2=>h1 ((Mx hc).mp h2)
 rw [U0 n (k+2) _ s p 0 4 3 (by omega) (by omega) (fun m2 a1 a2=>by
  rcases(by omega:m2=3∨m2=4∨m2=5∨m2=6) with rfl|rfl|rfl|rfl
  ·exact⟨45,by kernel_rfl,ne _ (by decide) h3⟩
  ·exact⟨43,by kernel_rfl,ne _ (by decide) h4⟩
  ·exact⟨33,by kernel_rfl,ne _ (by decide) h5⟩
  ·exact⟨126,by kernel_rfl,ne _ (by decide) h6⟩)]
 exact Sv n k _ s p 0 0
theorem Kl {s:ByteArray} (hs:s.size≤4096) {i p:Nat} {L:List UInt8} (hi:i≤s.size) (hp:Zn s i=p) (h:At s p L) (hpar:(tk L).toList=[40]) (n k:Nat) (hk:4097≤k):prR n k s i 0 0=(W9 n k s ((p+1 :Nat):Int) 0 0).bind fun y=>(Qv.f k y.2.2.2.2.1 y.2.2.2.2.2.1 y.2.2.2.2.2.2.1 y.2.2.2.2.2.2.2 (bl [41])).bind fun c=>if c.1=true then some (y.1,y.2.1,y.2.2.1,y.2.2.2.1,c.2.1,c.2.2.1,c.2.2.2.1,c.2.2.2.2) else(Qn.f c.2.1 c.2.2.1 c.2.2.2.1 c.2.2.2.2 6 c.2.2.1).bind fun d=>some (y.1,y.2.1,y.2.2.1,y.2.2.2.1,d.1,d.2.1,d.2.2.1,d.2.2.2):=by
 letI:Y0:=(Yi n).s
 show Qo.f k s i 0 0=_
 unfold Qo.f;rw [show(⟨#[40]⟩ :ByteArray)=bl [40] from rfl,Un hs hi hp h 0 [40] (by decide) k hk,if_pos hpar,Option.bind_some,if_pos rfl];rfl
theorem J9 {s:ByteArray} (hs:s.size≤4096) {i p:Nat} {L:List UInt8} (hi:i≤s.size) (hp:Zn s i=p) (h:At s p L) (hn:nb L) (hpar:¬(tk L).toList=[40]) (n k:Nat) (hk:4097≤k):prR n k s i 0 0=if(wd L).toList=[] then some (0,0,⟨#[]⟩,[],s,(p:Int),6,(p:Int)) else if 0 < ((wd L).size:Int) then(Q9.f (bt (wd L) 0)).bind fun l=>if l=true then(if nameB (wd L)=true then some (2,0,wd L,[],s,wrap64 ((p:Int)+((wd L).size:Int)),0,0) else some (2,0,wd L,[],s,wrap64 ((p:Int)+((wd L).size:Int)),10,(p:Int)))
 else(Qc.f k (wd L)).bind fun c=>@Qo.j0 (Yi n).s k (wd L) c.1 c.2 (if c.2=0 then decide (c.1 > 9223372036854775807) else false) s (p:Int) 0 0 else none:=by
 letI:Y0:=(Yi n).s
 show Qo.f k s i 0 0=_
 unfold Qo.f;rw [show(⟨#[40]⟩ :ByteArray)=bl [40] from rfl,Un hs hi hp h 0 [40] (by decide) k hk,if_neg hpar,Option.bind_some,if_neg Bool.false_ne_true]
 show(Qf.f k s (p:Int) 0 0).bind _=_
 rw [Vo s hs p h.1 0 0 k hk,Option.bind_some,Wp h hn]
 show(Qs.f k s (p:Int) 0 0).bind _=_
 rw [Ud hs h 0 0 k hk,Option.bind_some,if_pos rfl]
 show(if(wd L).toList=[] then _ else if 0 < ((wd L).size:Int) then _ else _)=_
 by_cases h1:(wd L).toList=[]
 ·rw [if_pos h1,if_pos h1]
  show(Qn.f s (p:Int) 0 0 6 (p:Int)).bind _=_
  rw [Ws,Option.bind_some]
 rw [if_neg h1,if_neg h1];by_cases h2:0 < ((wd L).size:Int)
 rotate_left
 ·rw [if_neg h2,if_neg h2]
 rw [if_pos h2,if_pos h2];congr 1;funext l
 cases l with
 |true=>
  rw [if_pos rfl,if_pos rfl,Ms _ _ (by omega),Option.bind_some];by_cases h3:nameB (wd L)=true
  ·rw [if_pos h3,if_pos h3]
  rw [if_neg h3,if_neg h3]
  show(Qn.f s (p:Int) 0 0 10 (p:Int)).bind _=_
  rw [Ws,Option.bind_some]
 |false=>
  rw [if_neg Bool.false_ne_true,if_neg Bool.false_ne_true];congr 1;funext c;by_cases h3:c.2=0
  ·rw [if_pos h3,if_pos h3]
  rw [if_neg h3,if_neg h3]
theorem Tw (n k:Nat) (w:ByteArray) (c p:Int) (hc:0≤c) (hm:c≤9223372036854775807) (s:ByteArray):@Qo.j0 (Yi n).s (k+1) w c 0 false s p 0 0=some (1,c,⟨#[]⟩,[],s,wrap64 (p+(w.size:Int)),0,0):=by
 letI:Y0:=(Yi n).s
 show Qo.j0 (k+1) w c 0 false s p 0 0=_
 rw [Qo.j0,if_neg Bool.false_ne_true,if_pos rfl,show wrap64 c=c by unfold wrap64;omega]
theorem Tf (n k:Nat) (w:ByteArray) (c p:Int) (s:ByteArray):@Qo.j0 (Yi n).s (k+1) w c 0 true s p 0 0=some (0,0,⟨#[]⟩,[],s,p,14,p):=by
 letI:Y0:=(Yi n).s
 show Qo.j0 (k+1) w c 0 true s p 0 0=_
 rw [Qo.j0,if_pos rfl,if_neg (by decide)]
 show(Qn.f s p 0 0 14 p).bind _=_
 rw [Ws,Option.bind_some]
theorem Tg (n k:Nat) (w:ByteArray) (c p f:Int) (hf:f≠0) (s:ByteArray):@Qo.j0 (Yi n).s (k+1) w c f false s p 0 0=some (0,0,⟨#[]⟩,[],s,p,f,p):=by
 letI:Y0:=(Yi n).s
 show Qo.j0 (k+1) w c f false s p 0 0=_
 rw [Qo.j0,if_neg Bool.false_ne_true,if_neg hf]
 show(Qn.f s p 0 0 f p).bind _=_
 rw [Ws,Option.bind_some]
theorem Ui {b:UInt8} {l:List UInt8} (hL:Q9.f (b.toNat:Int)=some true):¬Xt.f (bt (tk (b::l)) 0)=some true:=by
 rw [(Ke b l).1,(Vp hL).2];simp
theorem Rp {s:ByteArray} (hs:s.size≤4096) {i p:Nat} {L:List UInt8} (hi:i≤s.size) (hp:Zn s i=p) (h:At s p L) (hn:nb L) (hpar:¬(tk L).toList=[40]) {r:Except (Nat×Int) (S26×Nat×ByteArray)}
 (hr:(if(tk L).size=0∨¬X1.f (bt (tk L) 0)=some true then some (.error (p,6))
  else if Xt.f (bt (tk L) 0)=some true then
   match Qy.f ((tk L).size+3) (tk L) with
   |none=>none
   |some (n,e)=>if e=0 then some (.ok (⟨1,n,Yq,[]⟩,Zb s p (tk L),Yb s p (tk L))) else some (.error (p,e))
  else if nameB (tk L)=true then some (.ok (⟨2,0,tk L,[]⟩,Zb s p (tk L),Yb s p (tk L))) else some (.error (p,10)):Jy)=some r):Res (fun n k=>prR n k s i 0 0) s r:=by
 have hp2:=h.1;have hlen:=h.len;have hfit:=Wc h;have z2:(tk L).size≤4096 :=Nat.le_trans (Nat.le_trans (Nat.le_add_left _ _) hfit) hs
 cases L with
 |nil=>
  rw [if_pos (.inl (by rw [Vv];rfl))] at hr;injection hr with hr
  subst hr;refine⟨by decide,Uq,p,hp2,Ev2.of 4097 fun n k hk=>?_⟩;rw [J9 hs hi hp h hn hpar n k hk,if_pos (by rw [Go.ByteArray.toList_eq];rfl)];rfl
 |cons b l=>
  obtain⟨hb0,hz0⟩ :=Ke b l;rw [hb0] at hr;rcases Vy (b.toNat:Int) with ⟨h1,h2⟩|⟨h1,h2,h3,h4⟩|⟨h1,h2,h3⟩
  ·-- a letter
   have hw:=(Vp h1).1;obtain⟨w1,w2,w3,w4⟩ :=Kg (l:=l) hw;rw [if_neg (by rintro(hc|hc);exact hz0 hc;exact hc h2),(Vp h1).2,if_neg (by simp)] at hr;have hwr:wrap64 ((p:Int)+((tk (b::l)).size:Int))=((p+(tk (b::l)).size:Nat):Int):=wrap_add (by omega) (by omega)
   have hE:∀n k,4097≤k→prR n k s i 0 0=if nameB (tk (b::l))=true then some (2,0,tk (b::l),[],s,((p+(tk (b::l)).size:Nat):Int),0,0) else some (2,0,tk (b::l),[],s,((p+(tk (b::l)).size:Nat):Int),10,(p:Int)):=by
    intro n k hk;rw [J9 hs hi hp h hn hpar n k hk,if_neg w2,if_pos (by omega),w3,h1,Option.bind_some,if_pos rfl,w1,hwr]
   by_cases hnm:nameB (tk (b::l))=true
   ·rw [if_pos hnm] at hr;injection hr with hr
    subst hr;exact⟨p+(tk (b::l)).size,hfit,rfl,Ev2.of 4097 fun n k hk=>by rw [hE n k hk,if_pos hnm];exact Rg 2 0 (tk (b::l)) [] s _ 0 0⟩
   rw [if_neg hnm] at hr;injection hr with hr
   subst hr;exact⟨by decide,⟨2,0,tk (b::l),[]⟩,p+(tk (b::l)).size,hfit,Ev2.of 4097 fun n k hk=>by rw [hE n k hk,if_neg hnm];exact Rg 2 0 (tk (b::l)) [] s _ 10 p⟩
  ·-- a digit
   have hw:Yy b=true:=by unfold Yy;rw [h3];rfl
   obtain⟨w1,w2,w3,w4⟩ :=Kg (l:=l) hw;rw [if_neg (by rintro(hc|hc);exact hz0 hc;exact hc h3),if_pos h4] at hr;have hwr:wrap64 ((p:Int)+((tk (b::l)).size:Int))=((p+(tk (b::l)).size:Nat):Int):=wrap_add (by omega) (by omega);obtain⟨a0,nb0,hc0,hn0,hA0⟩ :=Lb (t:=tk (b::l)) (Nat.one_le_iff_ne_zero.mpr hz0) z2 9010 (Nat.le_refl _)
   have hcon:∀k,9010≤k→Qc.f k (tk (b::l))=some a0:=fun k hk=>by
    exact Uo (g:=fun k=>Qc.f k (tk (b::l))) (fun k=>Qc.mono _ _) hc0 hk
   rw [hn0] at hr
   have hE:∀n k,9010≤k→prR n k s i 0 0=@Qo.j0 (Yi n).s k (tk (b::l)) a0.1 a0.2 (if a0.2=0 then decide (a0.1 > 9223372036854775807) else false) s (p:Int) 0 0 :=by
    intro n k hk;rw [J9 hs hi hp h hn hpar n k (by omega),if_neg w2,if_pos (by omega),w3,h1,Option.bind_some,if_neg Bool.false_ne_true,w1,hcon k hk,Option.bind_some]
   rcases hA0 with ⟨x1,x2,x3,x4⟩|⟨x1,x2⟩|⟨x1,x2⟩
   ·subst x4;simp only [if_pos] at hr;injection hr with hr
    subst hr;refine⟨p+(tk (b::l)).size,hfit,rfl,Ev2.of 9011 fun n k hk=>?_⟩;obtain⟨k,rfl⟩ :∃m,k=m+1 :=⟨k - 1,by omega⟩;rw [hE n (k+1) (by omega),x1,if_pos rfl,decide_eq_false (by omega),Tw n k _ _ _ x2 x3,hwr];rfl
   ·obtain⟨n0,e0⟩ :=nb0;simp only at x2;subst x2;simp only [show ¬(14 :Int)=0 from by decide,if_false] at hr;injection hr with hr
    subst hr;refine⟨by decide,Uq,p,hp2,Ev2.of 9011 fun n k hk=>?_⟩;obtain⟨k,rfl⟩ :∃m,k=m+1 :=⟨k - 1,by omega⟩;rw [hE n (k+1) (by omega),x1,if_pos rfl,decide_eq_true (by decide),Tf];rfl
   ·obtain⟨n0,e0⟩ :=nb0;simp only at x2;subst x2;simp only [x1,if_false] at hr;injection hr with hr
    subst hr;refine⟨x1,Uq,p,hp2,Ev2.of 9011 fun n k hk=>?_⟩;obtain⟨k,rfl⟩ :∃m,k=m+1 :=⟨k - 1,by omega⟩;rw [hE n (k+1) (by omega),if_neg x1,Tg n k _ _ _ _ x1];rfl
  ·-- another byte
   have hw:¬Yy b=true:=by unfold Yy;rw [h3];simp
   rw [if_pos (.inr (by rw [h3];simp))] at hr;injection hr with hr
   subst hr;refine⟨by decide,Uq,p,hp2,Ev2.of 4097 fun n k hk=>?_⟩;rw [J9 hs hi hp h hn hpar n k hk,if_pos (by rw [Np hw,Go.ByteArray.toList_eq])];rfl
theorem Fj (s:ByteArray) (j:Nat):∀d,(∀x:Nat,j≤x→x < j+d→Wo (bt s x)=true)→Wf s (j+d)=Wf s j
 |0,_=>rfl
 |d+1,h=>by
  rw [←Nat.add_assoc,Wf,if_pos (h (j+d) (by omega) (by omega))];exact Fj s j d (fun x h1 h2=>h x h1 (by omega))
theorem Fi {s:ByteArray} {p:Nat} {L:List UInt8} (h:At s p L):Wf s (Zb s p (tk L))=Wf s (p+(tk L).size):=by
 have hf:=Wc h;have hle:=(Wg s _ hf).1;have e:Zb s p (tk L)=p+(tk L).size+(Zb s p (tk L) - (p+(tk L).size)):=by unfold Zb at*;omega
 rw [e];refine Fj s _ _ (fun x h1 h2=>Nf hf h1 ?_);rw [←e] at h2;exact h2
theorem Zp {s:ByteArray} {p j:Nat} {L:List UInt8} (h:At s p L) (hj:j < L.length):bt s ((p+j:Nat):Int)=((L[j]).toNat:Int):=by
 have hlen:=h.len;rw [Rq s (p+j) (by omega)]
 have:(sl s)[p+j]'(by rw [Zs];omega)=L[j]:=by
  have h2:=h.2;subst h2;rw [List.getElem_drop]
 rw [this]
theorem Nu {s:ByteArray} {p:Nat} {L:List UInt8} (h:At s p L) (ht:(tk L).toList=[41]):Wf s (Zb s p (tk L))=false:=by
 rw [Go.ByteArray.toList_eq] at ht;have ht:Z7 L=[41]:=ht;have hz:(tk L).size=1 :=by show(Z7 L).length=1;rw [ht];rfl
 cases L with
 |nil=>cases ht
 |cons b l=>
  have hb:b=41 :=by
   have h1:=congrArg List.head? ht;have h2:=Wz (L:=b::l) (by simp);obtain⟨m,hm⟩ :∃m,Vq (b::l)=m+1 :=⟨Vq (b::l) - 1,by omega⟩;rw [Z7,hm,List.take_succ_cons] at h1;simpa using h1
  subst hb;have h3:=Zp h (j:=0) (by simp);rw [Fi h,hz,Wf];have h3:bt s (p:Int)=41 :=h3;rw [h3];rfl
theorem M7 {s:ByteArray} {p:Nat} {b:UInt8} {l:List UInt8} (h:At s p (b::l)) (hb:Yy b=true):Wf s (Zb s p (tk (b::l)))=true:=by
 obtain⟨_,hz⟩ :=Ke b l;rw [Fi h];have hw:=Kf (l:=l) hb;have hsz:(tk (b::l)).size=(Z7 (b::l)).length:=rfl;have hle:(Z7 (b::l)).length≤(b::l).length:=by rw [List.length_take];omega
 obtain⟨m,hm⟩ :∃m,(tk (b::l)).size=m+1 :=⟨(tk (b::l)).size - 1,by omega⟩
 have hmem:(b::l)[m]'(by omega)∈(b::l).takeWhile Yy:=by
  rw [←hw];have:(Z7 (b::l))[m]'(by omega)=(b::l)[m]'(by omega):=List.getElem_take;rw [←this];exact List.getElem_mem _
 have hwm:=List.all_eq_true.mp (List.all_takeWhile (p:=Yy) (l:=b::l)) _ hmem;have hbt:=Zp h (j:=m) (by omega);rw [hm,←Nat.add_assoc,Wf,hbt];have h1:=(S3 _).mp hwm;rw [if_neg,Bool.not_eq_true',beq_eq_false_iff_ne]
 ·omega
 unfold Wo;simp only [Bool.or_eq_true,beq_iff_eq];omega
theorem At.suf {s:ByteArray} {p:Nat} {L:List UInt8} (h:At s p L):L <:+sl s:=by
 rw [←h.2];exact List.drop_suffix _ _
theorem E.det {s:ByteArray} {gl:Gl} {p:Nat} {L:List UInt8} {r r':Except (Nat×Int) (S26×Nat×ByteArray)} (h:At s p L) (hE:E s gl L r) {k:Nat} (hr:pr s k gl p (tk L)=some r'):r'=r:=by
 obtain⟨m,hm⟩ :=hE;rw [←Fp h] at hm;have h1:=G8 s (Nat.le_max_left m k) hm;have h2:=G8 s (Nat.le_max_right m k) hr;rw [h1] at h2;injection h2 with h2
 exact h2.symm
theorem Ku {s:ByteArray} {L U:List UInt8} {x:S26} (h:E s .operand L (okL s x U)) (hU:Xy.f (tk U)=some (0,0)):∀d n,n+d=13→3≤n→E s (.level n) L (okL s x U)
 |0,n,hn,h3=>by
  obtain rfl:n=13 :=by omega
  exact E.level13 h
 |d+1,n,hn,h3=>E.level (by omega) (Ku h hU d (n+1) (by omega) (by omega)) (E.more_stop hU (by omega))
theorem Sd:Uy (fun t=>decide ((Xe.f 1 (bl t)).all fun p=>!p.2||(decide (Xy.f (bl t)=some (0,0)) && decide (t≠[63]))))=true:=by kernel_rfl
theorem Gx {s:ByteArray} {p:Nat} {b:UInt8} {l:List UInt8} {o:Int} (h:At s p (b::l)) (hb:Q9.f (b.toNat:Int)=some true) (ho:Xe.f 1 (tk (nx (b::l)))=some (o,true)) (hs:s.size≤4096):
 (nameB (tk (b::l))=true→E s .second (b::l) (okL s ⟨2,0,tk (b::l),[]⟩ (nx (b::l))))∧(¬nameB (tk (b::l))=true→E s .first (b::l) (.error (p,10))):=by
 obtain⟨hw,hd⟩ :=Vp hb;obtain⟨hb0,hz⟩ :=Ke b l;obtain⟨w1,w2,w3,w4⟩ :=Kg (l:=l) hw
 have hsl:sl (tk (b::l))=b::l.takeWhile Yy:=by
  show Z7 (b::l)=_
  rw [Kf hw,List.takeWhile_cons,if_pos hw]
 have hu:=Sy hsl hw;have h40:=Le hsl hw;have hd':¬Xt.f (bt (tk (b::l)) 0)=some true:=Ui hb;have hwb:X1.f (bt (tk (b::l)) 0)=some true:=by rw [hb0];exact T2 hw
 have hin:Z7 (nx (b::l))∈Z6:=by
  refine Classical.byContradiction fun hc=>?_
  have h1:=Fg hc (Nk _ hc) (by
   rw [List.length_take];have:=(Z9 h).1.len;omega)
  rw [show bl (Z7 (nx (b::l)))=tk (nx (b::l)) from rfl,ho] at h1;injection h1 with h1
  injection h1 with _ h1
  cases h1
 have htab:=Ko Sd hin;rw [show bl (Z7 (nx (b::l)))=tk (nx (b::l)) from rfl,ho] at htab;simp at htab;refine⟨fun hn=>?_,fun hn=>?_⟩
 ·have h1:=E.name h.suf hu h40 hz hwb hd' hn;refine E.second_stop (Ku h1 htab.1 10 3 rfl (by omega)) ?_;rw [Go.ByteArray.toList_eq];exact htab.2
 refine Ta.first ⟨1,?_⟩;rw [pr,hu]
 show(if ¬(0 :Int)=0 then _ else _)=_
 rw [if_neg (by simp),if_neg h40,if_neg (by rintro(hc|hc);exact hz hc;exact hc hwb),if_neg hd',if_neg hn,←Fp h]
theorem Sz {t:ByteArray} {o:Int} (h:X7.f t=some o):o≠2 :=by
 rcases Kq (t:=sl t) h with ⟨m,h1,h3,_⟩|⟨h1,_⟩ <;> omega
theorem Sh {t:List UInt8} {o l:Int} (h:Xy.f (bl t)=some (o,l)):o≠2 :=by
 by_cases ht:t∈Z6
 ·have htab:Uy (fun t=>decide ((Xy.f (bl t)).all fun p=>decide (p.1≠2)))=true:=by kernel_rfl
  have:=Ko htab ht;rw [h] at this;simpa using this
 have:=Ki ht;rw [this] at h;injection h with h
 injection h with h _
 omega
theorem Ji {s:ByteArray} (hs:s.size≤4096):∀(k:Nat) (gl:Gl) (p:Nat) (L:List UInt8) (x:S26) (p1:Nat) (t1:ByteArray),gl≠ .first→okG gl→At s p L→nb L→pr s k gl p (tk L)=some (.ok (x,p1,t1))→x.f0=2→Wf s p1=true→
 (match gl with
 |.more _ y=>x=y∧p1=p∧t1=tk L
 |_=>∃b l,L=b::l∧Q9.f (b.toNat:Int)=some true∧t1=tk (nx L))
 |0,gl,p,L,x,p1,t1,hg,hok,hA,hn,h,hx,hb=>by simp [pr] at h
 |k+1,.first,p,L,x,p1,t1,hg,hok,hA,hn,h,hx,hb=>absurd rfl hg
 |k+1,.second,p,L,x,p1,t1,hg,hok,hA,hn,h,hx,hb=>by
  rw [pr] at h;obtain⟨y,q,t,h1,h2⟩ :=Yk h;split at h2
  ·obtain⟨y2,q2,t2,h3,h4⟩ :=Yk h2;split at h4
   ·obtain⟨y3,q3,t3,h5,h6⟩ :=Yk h4;injection h6 with h6
    injection h6 with h6
    injection h6 with h6 _
    rw [←h6] at hx
    cases hx
   cases h4
  injection h2 with h2
  injection h2 with h2
  injection h2 with h2 h3
  injection h3 with h3 h4
  subst h2 h3 h4;exact Ji hs k (.level 3) p L _ _ _ (by simp) (show 1≤3 by omega) hA hn h1 hx hb
 |k+1,.level n,p,L,x,p1,t1,hg,hok,hA,hn,h,hx,hb=>by
  rw [pr] at h;split at h
  ·exact Ji hs k .operand p L _ _ _ (by simp) trivial hA hn h hx hb
  obtain⟨y,q,t,h1,h2⟩ :=Yk h;obtain⟨M,hM,ht,hnM⟩ :=Ka hs (gl:=.level (n+1)) (show 1≤n+1 by omega) hA hn h1;subst ht;have h3:=Ji hs k (.more n y) q M x p1 t1 (by simp) hok hM hnM h2 hx hb;obtain⟨rfl,rfl,rfl⟩ :=h3;exact Ji hs k (.level (n+1)) p L _ _ _ (by simp) (show 1≤n+1 by omega) hA hn h1 hx hb
 |k+1,.more n y0,p,L,x,p1,t1,hg,hok,hA,hn,h,hx,hb=>by
  rw [pr] at h;split at h
  ·cases h
  rename_i op l he
  split at h
  ·obtain⟨y,q,t,h1,h2⟩ :=Yk h;have⟨hA2,ht2⟩ :=Z9 hA;rw [ht2] at h1;obtain⟨M,hM,ht,hnM⟩ :=Ka hs (gl:=.level (n+1)) (show 1≤n+1 by omega) hA2 (Yz L) h1;subst ht;obtain⟨rfl,_,_⟩ :=Ji hs k (.more n ⟨op,0,Yq,[y0,y]⟩) q M x p1 t1 (by simp) hok hM hnM h2 hx hb;exact absurd hx (Sh (t:=Z7 L) he)
  injection h with h
  injection h with h
  injection h with h h3
  injection h3 with h3 h4
  exact⟨h.symm,h3.symm,h4.symm⟩
 |k+1,.operand,p,L,x,p1,t1,hg,hok,hA,hn,h,hx,hb=>by
  rw [pr] at h;have⟨hA2,ht2⟩ :=Z9 hA;split at h
  ·cases h
  rename_i op he
  split at h
  ·obtain⟨y,q,t,h1,h2⟩ :=Yk h;injection h2 with h2
   injection h2 with h2
   injection h2 with h2 _
   rw [←h2] at hx;exact absurd hx (Sz he)
  split at h
  ·obtain⟨y,q,t,h1,h2⟩ :=Yk h;rw [ht2] at h1;obtain⟨M,hM,ht,hnM⟩ :=Ka hs (gl:=.first) trivial hA2 (Yz L) h1;subst ht;split at h2
   ·rename_i h41
    injection h2 with h2
    injection h2 with h2
    injection h2 with h2 h3
    injection h3 with h3 h4
    rw [←h3,Nu hM h41] at hb
    cases hb
   cases h2
  split at h
  ·cases h
  rename_i hnw
  split at h
  ·split at h
   ·cases h
   split at h
   ·injection h with h
    injection h with h
    injection h with h _
    rw [←h] at hx
    cases hx
   cases h
  rename_i hnd
  split at h
  ·injection h with h
   injection h with h
   injection h with h h3
   injection h3 with h3 h4
   rw [ht2] at h4;simp only [not_or,Classical.not_not] at hnw
   cases L with
   |nil=>exact absurd (show(tk []).size=0 from rfl) hnw.1
   |cons b l=>
    refine⟨b,l,rfl,?_,h4.symm⟩;rw [(Ke b l).1] at hnw hnd;rcases Vy (b.toNat:Int) with ⟨e1,e2⟩|⟨e1,e2,e3,e4⟩|⟨e1,e2,e3⟩
    ·exact e1
    ·exact absurd e4 hnd
    ·rw [e3] at hnw;exact absurd hnw.2 (by simp)
  cases h
def Lw (s:ByteArray) (k:Nat):Prop:=∀(p:Nat) (L:List UInt8) (i:Nat) r,At s p L→nb L→i≤s.size→Zn s i=p→pr s k .first p (tk L)=some r→Res (fun n k=>W9 n k s i 0 0) s r
def Sa (s:ByteArray) (k:Nat):Prop:=∀(p:Nat) (L:List UInt8) (i:Nat) r,At s p L→nb L→i≤s.size→Zn s i=p→pr s k .second p (tk L)=some r→Res (fun n k=>cdR n k s i 0 0) s r
def Lx (s:ByteArray) (k:Nat):Prop:=∀(m p:Nat) (L:List UInt8) (i:Nat) r,3≤m→m≤13→At s p L→nb L→i≤s.size→Zn s i=p→pr s k (.level m) p (tk L)=some r→Res (fun n k=>lvR n k s i 0 0 m) s r
def R9 (s:ByteArray) (k:Nat):Prop:=∀(p:Nat) (L:List UInt8) (i:Nat) r,At s p L→nb L→i≤s.size→Zn s i=p→pr s k .operand p (tk L)=some r→Res (fun n k=>unR n k s i 0 0) s r
def R8 (s:ByteArray) (k:Nat):Prop:=∀(m:Nat) (x:S26) (p:Nat) (L:List UInt8) (i:Nat) r,3≤m→m≤12→At s p L→nb L→i≤s.size→Zn s i=p→pr s k (.more m x) p (tk L)=some r→Res (fun n k=>lvL n k m s i 0 0 x) s r
theorem J5 {L:List UInt8} {c:UInt8} (h:(tk L).toList=[c]):(tk L).size=1 :=by
 rw [Go.ByteArray.toList_eq] at h
 show(tk L).data.toList.length=1
 rw [h];rfl
theorem Res.err {F:Nat→Nat→Option RR} {s:ByteArray} {q:Nat} {e:Int} (he:e≠0) {y:S26} {a:Nat} (ha:a≤s.size) (h:Ev2 F (out y s a e q)):Res F s (.error (q,e)):=⟨he,y,a,ha,h⟩
theorem Res.ok {F:Nat→Nat→Option RR} {s:ByteArray} {x:S26} {p a:Nat} {t:ByteArray} (ha:a≤s.size) (hp:Zn s a=p) (h:Ev2 F (out x s a 0 0)):Res F s (.ok (x,p,t)):=⟨a,ha,hp,h⟩
theorem Lk {s:ByteArray} {k:Nat} (hs:s.size≤4096) (hF:Lw s k) (hS:Sa s k):Lw s (k+1):=by
 intro p L i r hA hn hi hp hr;by_cases hc:Lq L
 rotate_left
 ·have hset:=Na hs hi hp hA hc 0 0;rw [pr] at hr
  cases h2:pr s k .second p (tk L) with
  |none=>rw [h2] at hr;cases hr
  |some r2=>
   rw [h2] at hr;have h4:=hS p L p r2 hA hn hA.1 (Wp hA hn) h2
   cases r2 with
   |error q=>
    obtain⟨q,e⟩ :=q;obtain⟨he,y,a,ha,hE⟩ :=h4;simp only [Zu,Option.some.injEq] at hr;subst hr;exact Res.err he ha (Ev2.shift 1 3 9000 hE hset)
   |ok q=>
    obtain⟨x,p1,t1⟩ :=q;obtain⟨a,ha,hq,hE⟩ :=h4;simp only [Zu] at hr;obtain⟨M,hM,hMt,hMn⟩ :=Ka hs (gl:=.second) trivial hA hn h2;subst hMt;split at hr
    ·cases hr
    rename_i op is hop
    split at hr
    ·rename_i hcc
     obtain⟨c1,c2,c3⟩ :=hcc;obtain⟨b,l,e1,e2,e3⟩ :=Ji hs k .second p L x p1 _ (by simp) trivial hA hn h2 c2 c3;subst c1;refine absurd ⟨b,l,op,e1,e2,?_⟩ hc;rw [←e3];exact hop
    simp only [Option.some.injEq] at hr;subst hr;exact Res.ok ha hq (Ev2.shift 1 3 9000 hE hset)
 obtain⟨b,l,o,rfl,hb,ho⟩ :=hc;obtain⟨n1,n2⟩ :=Gx hA hb ho hs;have⟨hA2,ht2⟩ :=Z9 hA;have⟨hA3,ht3⟩ :=Z9 hA2;have hf2:=Wc hA2;by_cases hnm:nameB (tk (b::l))=true
 rotate_left
 ·have hd:=(n2 hnm).det hA hr;subst hd;obtain⟨y,a,ha,hE⟩ :=Mz hs (e:=10) (by decide) p s.size _ hf2 (by omega);refine Res.err (by decide) ha (Ev2.shift 1 3 9000 (g':=fun n k=>(W9 (n+1) (k+0) s ((Zb s p (tk (b::l))+(tk (nx (b::l))).size:Nat):Int) 10 p).bind (Fo 26 o (tk (b::l)))) (Ev2.bind (Ev2.low 1 0 hE) (Ev2.of 0 fun n k _=>W0 26 o (tk (b::l)) y s a 10 p)) fun n k hk=>?_)
  rw [Gg hs hi hp hA rfl hb ho 0 0 n k hk,if_pos ⟨rfl,hnm⟩,if_pos ⟨rfl,hnm⟩];rfl
 rw [pr] at hr
 cases h2:pr s k .second p (tk (b::l)) with
 |none=>rw [h2] at hr;cases hr
 |some r2=>
  have hd:=(n1 hnm).det hA h2;rw [h2,hd] at hr;have hbw:=M7 hA (Vp hb).1;simp only [okL,Zu,←Fp hA2,ho,hbw] at hr;simp only [and_self,if_true] at hr;rw [ht3] at hr
  have hset:∀n k,9000≤k→W9 (n+1) (k+3) s i 0 0=(W9 (n+1) (k+0) s ((Zb s p (tk (b::l))+(tk (nx (b::l))).size:Nat):Int) 0 0).bind (Fo 26 o (tk (b::l))):=by
   intro n k hk;rw [Gg hs hi hp hA rfl hb ho 0 0 n k hk,if_neg (fun hc=>hc.2 hnm),if_neg (fun hc=>hc.2 hnm)];rfl
  cases h3:pr s k .first (Zb s (Zb s p (tk (b::l))) (tk (nx (b::l)))) (tk (nx (nx (b::l)))) with
  |none=>rw [h3] at hr;cases hr
  |some r3=>
   rw [h3] at hr;have h4:=hF _ _ (Zb s p (tk (b::l))+(tk (nx (b::l))).size) _ hA3 (Yz _) hf2 rfl h3
   cases r3 with
   |error q=>
    obtain⟨q,e⟩ :=q;obtain⟨he,y,a,ha,hE⟩ :=h4;simp only [Option.some.injEq] at hr;subst hr;exact Res.err he ha (Ev2.shift 1 3 9000 (Ev2.bind (Ev2.low 1 0 hE) (Ev2.of 0 fun n k _=>W0 26 o (tk (b::l)) y s a e q)) hset)
   |ok q=>
    obtain⟨y,q,t⟩ :=q;obtain⟨a,ha,hq,hE⟩ :=h4;simp only [Option.some.injEq] at hr;subst hr;exact Res.ok ha hq (Ev2.shift 1 3 9000 (Ev2.bind (Ev2.low 1 0 hE) (Ev2.of 0 fun n k _=>W0 26 o (tk (b::l)) y s a 0 0)) hset)
theorem Mg {s:ByteArray} {k:Nat} (hs:s.size≤4096) (hF:Lw s k) (hS:Sa s k) (hL:Lx s k):Sa s (k+1):=by
 intro p L i r hA hn hi hp hr;rw [pr] at hr
 cases h2:pr s k (.level 3) p (tk L) with
 |none=>rw [h2] at hr;cases hr
 |some r2=>
  rw [h2] at hr;have h4:=hL 3 p L i r2 (by omega) (by omega) hA hn hi hp h2
  cases r2 with
  |error q=>
   obtain⟨q,e⟩ :=q;obtain⟨he,y,a,ha,hE⟩ :=h4;simp only [Zu,Option.some.injEq] at hr;subst hr;refine Res.err he ha (Ev2.shift 0 1 0 (Ev2.bind hE (Ev2.of 0 fun n k _=>?_)) fun n k _=>Kj n k s i 0 0) (y:=y)
   show(Qv.f k s a e q (bl [63])).bind _=_
   rw [Um k s a e q _ he,Option.bind_some,if_neg Bool.false_ne_true];rfl
  |ok q=>
   obtain⟨x,p1,t1⟩ :=q;obtain⟨a,ha,hq,hE⟩ :=h4;obtain⟨M,hM,hMt,hMn⟩ :=Ka hs (gl:=.level 3) (show 1≤3 by omega) hA hn h2;subst hMt;have⟨hM2,hMt2⟩ :=Z9 hM;simp only [Zu] at hr;have his:∀n k,4097≤k→Qv.f k s a 0 0 (bl [63])=_:=fun (n k:Nat) hk=>Un hs ha hq hM 0 [63] (by decide) k hk
   by_cases h63:(tk M).toList=[63]
   rotate_left
   ·rw [if_neg h63] at hr;simp only [Option.some.injEq] at hr;subst hr;refine Res.ok hM.1 (Wp hM hMn) (Ev2.shift 0 1 0 (Ev2.bind hE (Ev2.bind (Ev2.of 4097 his) ?_)) fun n k _=>Kj n k s i 0 0)
    simp only [h63,if_false];refine Ev2.of 0 fun n k _=>?_
    rw [if_neg Bool.false_ne_true];rfl
   have hz:=J5 h63;have hfit:=Wc hM;rw [if_pos h63,hMt2] at hr
   cases h5:pr s k .first (Zb s p1 (tk M)) (tk (nx M)) with
   |none=>rw [h5] at hr;cases hr
   |some r5=>
    rw [h5] at hr;have h6:=hF _ _ (p1+1) _ hM2 (Yz M) (by omega) (by rw [←hz];rfl) h5
    cases r5 with
    |error q=>
     obtain⟨q,e⟩ :=q;obtain⟨he,y,a2,ha2,hE2⟩ :=h6;simp only [Option.some.injEq] at hr;subst hr;refine Res.err he ha2 (Ev2.shift 0 1 0 (Ev2.bind hE (Ev2.bind (Ev2.of 4097 his) ?_)) fun n k _=>Kj n k s i 0 0) (y:=x)
     simp only [h63,if_true];refine Ev2.bind hE2 (Ev2.of 0 fun n k _=>?_)
     show(Qv.f k s a2 e q (bl [58])).bind _=_
     rw [Um k s a2 e q _ he,Option.bind_some,if_neg Bool.false_ne_true]
     show(Qn.f s a2 e q 6 a2).bind _=_
     rw [J2 _ _ _ _ _ _ he];rfl
    |ok q=>
     obtain⟨y,p2,t2⟩ :=q;obtain⟨a2,ha2,hq2,hE2⟩ :=h6;obtain⟨N,hN,hNt,hNn⟩ :=Ka hs (gl:=.first) trivial hM2 (Yz M) h5;subst hNt;have⟨hN2,hNt2⟩ :=Z9 hN;have his2:∀n k,4097≤k→Qv.f k s a2 0 0 (bl [58])=_:=fun (n k:Nat) hk=>Un hs ha2 hq2 hN 0 [58] (by decide) k hk
     simp only at hr;by_cases h58:(tk N).toList=[58]
     rotate_left
     ·rw [if_neg h58] at hr;simp only [Option.some.injEq] at hr;subst hr;refine Res.err (by decide) hN.1 (Ev2.shift 0 1 0 (Ev2.bind hE (Ev2.bind (Ev2.of 4097 his) ?_)) fun n k _=>Kj n k s i 0 0) (y:=x)
      simp only [h63,if_true];refine Ev2.bind hE2 (Ev2.bind (Ev2.of 4097 his2) ?_);simp only [h58,if_false];refine Ev2.of 0 fun n k _=>?_
      rw [if_neg Bool.false_ne_true];rw [Ws];rfl
     have hz2:=J5 h58;have hfit2:=Wc hN;rw [if_pos h58,hNt2] at hr
     cases h7:pr s k .second (Zb s p2 (tk N)) (tk (nx N)) with
     |none=>rw [h7] at hr;cases hr
     |some r7=>
      rw [h7] at hr;have h8:=hS _ _ (p2+1) _ hN2 (Yz N) (by omega) (by rw [←hz2];rfl) h7
      have hfin:∀(z:S26) (a3:Nat) (e q:Int),Ev2 (fun n k=>cdR n k s ((p2+1 :Nat):Int) 0 0) (out z s a3 e q)→Ev2 (fun n k=>cdR n k s i 0 0) (out ⟨25,0,Yq,[x,y,z]⟩ s a3 e q):=by
       intro z a3 e q hE3;refine Ev2.shift 0 1 0 (Ev2.bind hE (Ev2.bind (Ev2.of 4097 his) ?_)) fun n k _=>Kj n k s i 0 0
       simp only [h63,if_true];refine Ev2.bind hE2 (Ev2.bind (Ev2.of 4097 his2) ?_);simp only [h58,if_true];refine Ev2.bind hE3 (Ev2.of 0 fun n k _=>?_)
       cases x
       cases y
       cases z
       rfl
      cases r7 with
      |error q=>
       obtain⟨q,e⟩ :=q;obtain⟨he,z,a3,ha3,hE3⟩ :=h8;simp only [Option.some.injEq] at hr;subst hr;exact Res.err he ha3 (hfin z a3 e q hE3)
      |ok q=>
       obtain⟨z,p3,t3⟩ :=q;obtain⟨a3,ha3,hq3,hE3⟩ :=h8;simp only [Option.some.injEq] at hr;subst hr;exact Res.ok ha3 hq3 (hfin z a3 0 0 hE3)
theorem Ll {s:ByteArray} {k:Nat} (hs:s.size≤4096) (hL:Lx s k) (hO:R9 s k) (hM:R8 s k):Lx s (k+1):=by
 intro m p L i r h3 h13 hA hn hi hp hr;rw [pr] at hr;by_cases hm:m=13
 ·rw [if_pos hm] at hr;subst hm;have h4:=hO p L i r hA hn hi hp hr;have hsh:∀x:RR,Ev2 (fun n k=>unR n k s i 0 0) x→Ev2 (fun n k=>lvR n k s i 0 0 ((13 :Nat):Int)) x:=fun x h=>Ev2.shift 0 1 0 h fun n k _=>Mr n k s i 0 0 _ (by decide)
  cases r with
  |error q=>obtain⟨he,y,a,ha,hE⟩ :=h4;exact Res.err he ha (hsh _ hE)
  |ok q=>obtain⟨a,ha,hq,hE⟩ :=h4;exact Res.ok ha hq (hsh _ hE)
 rw [if_neg hm] at hr
 cases h2:pr s k (.level (m+1)) p (tk L) with
 |none=>rw [h2] at hr;cases hr
 |some r2=>
  rw [h2] at hr;have h4:=hL (m+1) p L i r2 (by omega) (by omega) hA hn hi hp h2
  cases r2 with
  |error q=>
   obtain⟨q,e⟩ :=q;obtain⟨he,y,a,ha,hE⟩ :=h4;simp only [Zu,Option.some.injEq] at hr;subst hr;refine Res.err he ha (Ev2.shift 0 2 0 (Ev2.bind (Ev2.low 0 1 hE) (Ev2.of 0 fun n k _=>?_)) fun n k _=>N5 n (k+1) s i 0 0 m (by omega)) (y:=y)
   exact F5 n k m s _ e q y he
  |ok q=>
   obtain⟨x,p1,t1⟩ :=q;obtain⟨a,ha,hq,hE⟩ :=h4;obtain⟨M,hM1,hMt,hMn⟩ :=Ka hs (gl:=.level (m+1)) (show 1≤m+1 by omega) hA hn h2;subst hMt;simp only [Zu] at hr;have h6:=hM m x p1 M a r h3 (by omega) hM1 hMn ha hq hr
   have hsh:∀y:RR,Ev2 (fun n k=>lvL n k m s a 0 0 x) y→Ev2 (fun n k=>lvR n k s i 0 0 (m:Int)) y:=by
    intro y h;refine Ev2.shift 0 1 0 (Ev2.bind hE ?_) fun n k _=>N5 n k s i 0 0 m (by omega)
    cases x
    exact h
   cases r with
   |error q=>obtain⟨he,y,a,ha,hE⟩ :=h6;exact Res.err he ha (hsh _ hE)
   |ok q=>obtain⟨a,ha,hq,hE⟩ :=h6;exact Res.ok ha hq (hsh _ hE)
theorem L1 {t:List UInt8} {o l:Int} (h:Xy.f (bl t)=some (o,l)) (hl:3≤l):o≠0∧t∈Z6:=by
 by_cases ht:t∈Z6
 ·have htab:Uy (fun t=>decide ((Xy.f (bl t)).all fun p=>decide (p.2 < 3)||decide (p.1≠0)))=true:=by kernel_rfl
  have:=Ko htab ht;rw [h] at this;simp at this;exact⟨by omega,ht⟩
 have:=Ki ht;rw [this] at h;injection h with h
 injection h with _ h
 omega
theorem Ro {s:ByteArray} {k:Nat} (hs:s.size≤4096) (hL:Lx s k) (hM:R8 s k):R8 s (k+1):=by
 intro m x p L i r h3 h12 hA hn hi hp hr;rw [pr] at hr;have hlen:=hA.len;split at hr
 ·cases hr
 rename_i op l hop
 have hbin:∀k,60≤k→Q7.f k (bl (rop (Z7 L))) (m:Int)=_:=fun k hk=>Tc L hop m h3 h12 k hk
 have hop1:∀n k,4097≤k→Qi.f k s i 0 0=_:=fun (n k:Nat) hk=>Vc hs hi hp hA 0 0 k hk
 by_cases hl:l=(m:Int)
 rotate_left
 ·rw [if_neg hl] at hr;simp only [Option.some.injEq] at hr;subst hr;refine Res.ok hA.1 (Wp hA hn) (Ev2.shift 0 1 0 (Ev2.bind (Ev2.of 4097 hop1) (Ev2.bind (a:=(0 :Int)) (Ev2.of 60 fun n k hk=>?_) ?_)) fun n k _=>L9 n k m h12 s i 0 x)
  ·rw [Y1]
   show Q7.f k (bl (rop (Z7 L))) (m:Int)=_
   rw [hbin k hk,if_neg hl]
  exact Ev2.of 0 fun n k _=>rfl
 rw [if_pos hl] at hr;have hbz:=L1 (t:=Z7 L) hop (by omega);have hrop:rop (Z7 L)=Z7 L:=by rw [rop,if_pos hbz.2]
 have⟨hA2,ht2⟩ :=Z9 hA;have hfit:=Wc hA;rw [ht2] at hr
 cases h2:pr s k (.level (m+1)) (Zb s p (tk L)) (tk (nx L)) with
 |none=>rw [h2] at hr;cases hr
 |some r2=>
  rw [h2] at hr;have h4:=hL (m+1) _ _ (p+(tk L).size) r2 (by omega) (by omega) hA2 (Yz L) hfit rfl h2
  have hgo:∀(y:S26) (a:Nat) (e q:Int) (z:RR),Ev2 (fun n k=>lvR n k s ((p+(tk L).size:Nat):Int) 0 0 ((m+1 :Nat):Int)) (out y s a e q)→Ev2 (fun n k=>lvL n k m s a e q ⟨op,0,Yq,[x,y]⟩) z→Ev2 (fun n k=>lvL n k m s i 0 0 x) z:=by
   intro y a e q z hE hz;refine Ev2.shift 0 1 0 (Ev2.bind (Ev2.of 4097 hop1) (Ev2.bind (a:=op) (Ev2.of 60 fun n k hk=>?_) ?_)) fun n k _=>L9 n k m h12 s i 0 x
   ·rw [Y1]
    show Q7.f k (bl (rop (Z7 L))) (m:Int)=_
    rw [hbin k hk,if_pos hl]
   rw [Y1,hrop];simp only [hbz.1,if_false]
   show Ev2 (fun n k=>(lvR n k s (wrap64 ((p:Int)+((tk L).size:Int))) 0 0 ((m+1 :Nat):Int)).bind _) z
   rw [wrap_add (by omega) (by omega)];refine Ev2.bind hE ?_
   cases y
   exact hz
  cases r2 with
  |error q=>
   obtain⟨q,e⟩ :=q;obtain⟨he,y,a,ha,hE⟩ :=h4;simp only [Zu,Option.some.injEq] at hr;subst hr;exact Res.err he ha (hgo y a e q _ hE (Ev2.shift 0 1 0 (Ev2.of 0 fun n k _=>rfl) fun n k _=>F5 n k m s a e q ⟨op,0,Yq,[x,y]⟩ he)) (y:=⟨op,0,Yq,[x,y]⟩)
  |ok q=>
   obtain⟨y,p1,t1⟩ :=q;obtain⟨a,ha,hq,hE⟩ :=h4;obtain⟨M,hM1,hMt,hMn⟩ :=Ka hs (gl:=.level (m+1)) (show 1≤m+1 by omega) hA2 (Yz L) h2;subst hMt;simp only [Zu] at hr;have h6:=hM m ⟨op,0,Yq,[x,y]⟩ p1 M a r h3 h12 hM1 hMn ha hq hr
   cases r with
   |error q=>obtain⟨he,z,a3,ha3,hE3⟩ :=h6;exact Res.err he ha3 (hgo y a 0 0 _ hE hE3)
   |ok q=>obtain⟨a3,ha3,hq3,hE3⟩ :=h6;exact Res.ok ha3 hq3 (hgo y a 0 0 _ hE hE3)
theorem Nd {s:ByteArray} {k:Nat} (hs:s.size≤4096) (hF:Lw s k) (hO:R9 s k):R9 s (k+1):=by
 intro p L i r hA hn hi hp hr;rw [pr] at hr;have⟨hA2,ht2⟩ :=Z9 hA;have hfit:=Wc hA;split at hr
 ·cases hr
 rename_i op hop
 by_cases h0:op=0
 rotate_left
 ·rw [if_pos h0,ht2] at hr
  cases h2:pr s k .operand (Zb s p (tk L)) (tk (nx L)) with
  |none=>rw [h2] at hr;cases hr
  |some r2=>
   rw [h2] at hr;have h4:=hO _ _ (p+(tk L).size) _ hA2 (Yz L) hfit rfl h2
   cases r2 with
   |error q=>
    obtain⟨q,e⟩ :=q;obtain⟨he,y,a,ha,hE⟩ :=h4;simp only [Zu,Option.some.injEq] at hr;subst hr;exact Res.err he ha (M4 hs hi hp hA hop h0 hE)
   |ok q=>
    obtain⟨y,p1,t1⟩ :=q;obtain⟨a,ha,hq,hE⟩ :=h4;simp only [Zu,Option.some.injEq] at hr;subst hr;exact Res.ok ha hq (M4 hs hi hp hA hop h0 hE)
 rw [if_neg (fun h=>h h0)] at hr;subst h0;have hsh:∀z:RR,Ev2 (fun n k=>prR n k s p 0 0) z→Ev2 (fun n k=>unR n k s i 0 0) z:=fun z h=>Sx hs hi hp hA hop h
 by_cases hpar:(tk L).toList=[40]
 rotate_left
 ·rw [if_neg hpar] at hr;have h4:=Rp hs hA.1 (Wp hA hn) hA hn hpar hr
  cases r with
  |error q=>obtain⟨he,y,a,ha,hE⟩ :=h4;exact Res.err he ha (hsh _ hE)
  |ok q=>obtain⟨a,ha,hq,hE⟩ :=h4;exact Res.ok ha hq (hsh _ hE)
 rw [if_pos hpar,ht2] at hr;have hz:=J5 hpar;have hpp:=Wp hA hn
 cases h2:pr s k .first (Zb s p (tk L)) (tk (nx L)) with
 |none=>rw [h2] at hr;cases hr
 |some r2=>
  rw [h2] at hr;have h4:=hF _ _ (p+1) _ hA2 (Yz L) (by omega) (by rw [←hz];rfl) h2
  cases r2 with
  |error q=>
   obtain⟨q,e⟩ :=q;obtain⟨he,y,a,ha,hE⟩ :=h4;simp only [Zu,Option.some.injEq] at hr;subst hr;refine Res.err he ha (hsh _ (Ev2.shift 0 0 4097 (Ev2.bind hE (Ev2.of 0 fun n k _=>?_)) fun n k hk=>Kl hs hA.1 hpp hA hpar n k hk)) (y:=y)
   show(Qv.f k s a e q (bl [41])).bind _=_
   rw [Um k s a e q _ he,Option.bind_some,if_neg Bool.false_ne_true]
   show(Qn.f s a e q 6 a).bind _=_
   rw [J2 _ _ _ _ _ _ he];rfl
  |ok q=>
   obtain⟨y,p1,t1⟩ :=q;obtain⟨a,ha,hq,hE⟩ :=h4;obtain⟨M,hM,hMt,hMn⟩ :=Ka hs (gl:=.first) trivial hA2 (Yz L) h2;subst hMt;have⟨hM2,hMt2⟩ :=Z9 hM;have hfit2:=Wc hM;simp only [Zu] at hr;have his:∀n k,4097≤k→Qv.f k s a 0 0 (bl [41])=_:=fun (n k:Nat) hk=>Un hs ha hq hM 0 [41] (by decide) k hk
   by_cases h41:(tk M).toList=[41]
   ·rw [if_pos h41] at hr;simp only [Option.some.injEq] at hr;subst hr;have hz1:=J5 h41;refine Res.ok (a:=p1+1) (by omega) (by rw [←hz1];rfl) (hsh _ (Ev2.shift 0 0 4097 (Ev2.bind hE (Ev2.bind (Ev2.of 4097 his) ?_)) fun n k hk=>Kl hs hA.1 hpp hA hpar n k hk))
    simp only [h41,if_true];exact Ev2.of 0 fun n k _=>rfl
   rw [if_neg h41] at hr;simp only [Option.some.injEq] at hr;subst hr;refine Res.err (by decide) hM.1 (hsh _ (Ev2.shift 0 0 4097 (Ev2.bind hE (Ev2.bind (Ev2.of 4097 his) ?_)) fun n k hk=>Kl hs hA.1 hpp hA hpar n k hk)) (y:=y)
   simp only [h41,if_false];refine Ev2.of 0 fun n k _=>?_
   rw [if_neg Bool.false_ne_true,Ws];rfl
theorem M0 {s:ByteArray} (hs:s.size≤4096):∀k,Lw s k∧Sa s k∧Lx s k∧R9 s k∧R8 s k
 |0=>⟨fun _ _ _ _ _ _ _ _ h=>by simp [pr] at h,fun _ _ _ _ _ _ _ _ h=>by simp [pr] at h,fun _ _ _ _ _ _ _ _ _ _ _ h=>by simp [pr] at h,fun _ _ _ _ _ _ _ _ h=>by simp [pr] at h,fun _ _ _ _ _ _ _ _ _ _ _ _ h=>by simp [pr] at h⟩
 |k+1=>by
  obtain⟨hF,hS,hL,hO,hM⟩ :=M0 hs k;exact⟨Lk hs hF hS,Mg hs hF hS hL,Ll hs hL hO hM,Nd hs hF hO,Ro hs hL hM⟩
end Go.Proofs.YtglmdfddgmkmaaaDoor.Q
end
section
namespace Go.Proofs.YtglmdfddgmkmaaaDoor.Q
open Go.RowKit Go.Proofs.YtglmdfddgmkmaaaDoorW.PrintWords
set_option linter.unusedVariables false
set_option linter.unusedSimpArgs false
theorem Fh (k:Nat) (hk:60≤k):Qx.f k=some true:=Ul 60 k true Uk hk
end Go.Proofs.YtglmdfddgmkmaaaDoor.Q
end
section
namespace Go.Proofs.YtglmdfddgmkmaaaDoor.Q
open Go.RowKit Go.Proofs.YtglmdfddgmkmaaaDoorW.PrintWords Go.Proofs.YtglmdfddgmkmaaaDoorW.PrintLast Go.Proofs.YtglmdfddgmkmaaaDoorW.PrintMore
set_option linter.unusedVariables false
theorem Gu {x:S26} (h:W3 x):∃K n,∀k,K≤k→Xi.f k x.f0 x.f1 x.f2 x.f3=some n∧Q3.f k x.f0 x.f1 x.f2 x.f3=some n:=by
 suffices h:∃K n,Xi.f K x.f0 x.f1 x.f2 x.f3=some n∧Q3.f K x.f0 x.f1 x.f2 x.f3=some n by
  obtain⟨K,n,h1,h2⟩ :=h;exact⟨K,n,fun k hk=>⟨Ld hk h1,Uo (g:=fun k=>Q3.f k x.f0 x.f1 x.f2 x.f3) (fun k=>Q3.mono _ _ _ _ _) h2 hk⟩⟩
 induction h with
 |mk x hl _ ih=>
  obtain⟨K,hK⟩ :=Nv (P:=fun k y=>∃n,Xi.f k y.f0 y.f1 y.f2 y.f3=some n∧Q3.f k y.f0 y.f1 y.f2 y.f3=some n) (fun k y ⟨n,h,h2⟩=>⟨n,Xi.mono _ _ _ _ _ _ h,Q3.mono _ _ _ _ _ _ h2⟩) x.f3 ih
  have loop:∀(d i:Nat) (a:Int),i+d=x.f3.length→∃n,Xi.l0 (K+d+1) a x.f3 (x.f3.length:Int) (i:Int)=some n∧Q3.l0 (K+d+1) a (i:Int) x.f0 x.f1 x.f2 x.f3=some n:=by
   intro d
   induction d with
   |zero=>
    intro i a hi;rw [Xi.l0,if_neg (by omega),Q3.l0,if_neg (by omega)];exact⟨_,rfl,rfl⟩
   |succ d ihd=>
    intro i a hi;obtain⟨n,hn,hn2⟩ :=hK (K+(d+1)) (by omega) (Qg x.f3 (i:Int)) (Rl (by omega));rw [Xi.l0,if_pos (by omega),if_pos (by omega),if_pos (by omega),hn,Option.bind_some,Q3.l0,if_pos (by omega),if_pos (by omega),hn2,Option.bind_some];have hw:wrap64 ((i:Int)+1)=((i+1 :Nat):Int):=by rw [Ue (by omega) (by omega)];omega
    rw [hw,show K+(d+1)=K+d+1 by omega];exact ihd (i+1) _ (by omega)
  obtain⟨n,hn,hn2⟩ :=loop x.f3.length 0 0 (by omega);rw [show((0 :Nat):Int)=0 from rfl] at hn hn2;exact⟨K+x.f3.length+1+1,n,by rw [Xi.f];exact hn,by rw [Q3.f];exact hn2⟩
theorem Mb (s:ByteArray) (hs:s.size≤4096):∃K r,(W3 ⟨r.1,r.2.1,r.2.2.1,r.2.2.2.1⟩)∧∀k,K≤k→Wh s k=some r∧Xw.f k s=some r:=by
 have hst:=Jw s;have w0:W3 ⟨0,0,⟨#[]⟩,[]⟩ :=.mk _ (Nat.zero_le _) (fun y h=>by cases h);have w1:W3 ⟨1,0,⟨#[]⟩,[]⟩ :=.mk _ (Nat.zero_le _) (fun y h=>by cases h);have hlong:¬(4096 :Int) < (s.size:Int):=by omega
 have hp0:Zb s 0 ⟨#[]⟩=Zn s 0 :=rfl;have hA:=hst.1;rw [hp0] at hA;have hlen:=hA.len;have hle:=hA.1;have hbl:∀k,4097≤k→Qf.f k s 0 0 0=some (s,((Zn s 0 :Nat):Int),0,0):=fun k hk=>Vo s hs 0 (Nat.zero_le _) 0 0 k hk
 by_cases h0:Vb (sl s)=[]
 ·refine⟨4097,(1,0,⟨#[]⟩,[],0,0),w1,fun k hk=>⟨?_,?_⟩⟩
  ·unfold Wh;rw [if_neg (by omega),if_pos];rw [hst.2,h0,Ni,Go.ByteArray.toList_eq]
  unfold Xw.f;rw [if_neg hlong,hbl k hk,Option.bind_some,if_pos];rw [h0] at hlen;simp only [List.length_nil] at hlen
  show((Zn s 0 :Nat):Int)=_
  omega
 obtain⟨r,hE,hG⟩ :=Nz hs;obtain⟨K,hK⟩ :=Rj hs h0 hE;obtain⟨kk,hkk⟩ :=hE;have hsz:0 < (Vb (sl s)).length:=List.length_pos_iff.mpr h0;rw [←Fp hA] at hkk;have hR:=(M0 hs kk).1 _ _ (Zn s 0) r hA (Mu _) hle (Wp hA (Mu _)) hkk
 have hPar:∀k,4097≤k→Xw.f k s=(W9 k k s ((Zn s 0 :Nat):Int) 0 0).bind fun x=>(Qf.f k x.2.2.2.2.1 x.2.2.2.2.2.1 x.2.2.2.2.2.2.1 x.2.2.2.2.2.2.2).bind fun c=>
  (if c.2.1 < (s.size:Int) then Qn.f c.1 c.2.1 c.2.2.1 c.2.2.2 6 c.2.1 else some c).bind fun d=>
   if d.2.2.1≠0 then some (0,0,⟨#[]⟩,[],d.2.2.2,d.2.2.1)
   else(Q3.f k x.1 x.2.1 x.2.2.1 x.2.2.2.1).bind fun n=>if 32 < n then some (0,0,⟨#[]⟩,[],0,5) else some (x.1,x.2.1,x.2.2.1,x.2.2.2.1,0,0):=by
  intro k hk;unfold Xw.f;rw [if_neg hlong,hbl k hk,Option.bind_some,if_neg]
  ·rfl
  show ¬((Zn s 0 :Nat):Int)=_
  omega
 cases r with
 |error q=>
  obtain⟨q,e⟩ :=q;obtain⟨he,y,a,ha,M,hM⟩ :=hR;have hM:∀n k,M≤n→M≤k→W9 n k s ((Zn s 0 :Nat):Int) 0 0=_:=hM;refine⟨K+M+4097,(0,0,⟨#[]⟩,[],(q:Int),e),w0,fun k hk=>⟨hK k (by omega),?_⟩⟩
  rw [hPar k (by omega),hM k k (by omega) (by omega),Option.bind_some]
  show(Qf.f k s a e q).bind _=_
  rw [Vo s hs a ha e q k (by omega),Option.bind_some]
  show(if((Zn s a:Nat):Int) < (s.size:Int) then Qn.f s ((Zn s a:Nat):Int) e q 6 ((Zn s a:Nat):Int) else some (s,((Zn s a:Nat):Int),e,(q:Int))).bind _=_
  rw [J2 _ _ _ _ _ _ he,ite_self,Option.bind_some,if_pos he]
 |ok q=>
  obtain⟨x,q,t⟩ :=q;obtain⟨a,ha,hq,M,hM⟩ :=hR;have hM:∀n k,M≤n→M≤k→W9 n k s ((Zn s 0 :Nat):Int) 0 0=_:=hM;obtain⟨N,hN,rfl,hNn,_,hW⟩ :=hG;have hNlen:=hN.len
  have hr1:∀k,4097+M≤k→Xw.f k s=(if(q:Int) < (s.size:Int) then Qn.f s (q:Int) 0 0 6 (q:Int) else some (s,(q:Int),0,0)).bind fun d=>
   if d.2.2.1≠0 then some (0,0,⟨#[]⟩,[],d.2.2.2,d.2.2.1)
   else(Q3.f k x.f0 x.f1 x.f2 x.f3).bind fun n=>if 32 < n then some (0,0,⟨#[]⟩,[],0,5) else some (x.f0,x.f1,x.f2,x.f3,0,0):=by
   intro k hk;rw [hPar k (by omega),hM k k (by omega) (by omega),Option.bind_some]
   show(Qf.f k s a 0 0).bind _=_
   rw [Vo s hs a ha 0 0 k (by omega),Option.bind_some,hq];rfl
  by_cases ht:N=[]
  rotate_left
  ·have hNl:0 < N.length:=List.length_pos_iff.mpr ht;have hqs:(q:Int) < (s.size:Int):=by omega
   have htl:¬(tk N).toList=[]:=by
    rw [Go.ByteArray.toList_eq];intro h;have h1:=Vv N;have h2:=Wz ht;have h3:(tk N).size=0 :=by show(tk N).data.toList.length=0;rw [h];rfl
    omega
   refine⟨K+M+4097,(0,0,⟨#[]⟩,[],(q:Int),6),w0,fun k hk=>⟨?_,?_⟩⟩
   ·rw [hK k (by omega)];exact Lp k x q _ htl
   rw [hr1 k (by omega),if_pos hqs,Ws,Option.bind_some,if_pos (show(6 :Int)≠0 by decide)]
  subst ht;have hqs:¬(q:Int) < (s.size:Int):=by simp at hNlen;omega
  have htl:(tk []).toList=[]:=by rw [Ni,Go.ByteArray.toList_eq]
  obtain⟨K2,n,hn⟩ :=Gu hW
  have hr2:∀k,4097+M+K2≤k→Xw.f k s=if 32 < n then some (0,0,⟨#[]⟩,[],0,5) else some (x.f0,x.f1,x.f2,x.f3,0,0):=by
   intro k hk;rw [hr1 k (by omega),if_neg hqs,Option.bind_some,if_neg (fun h=>h rfl),(hn k (by omega)).2,Option.bind_some]
  by_cases h32:32 < n
  ·refine⟨K+M+K2+4097,(0,0,⟨#[]⟩,[],0,5),w0,fun k hk=>⟨?_,?_⟩⟩
   ·rw [hK k (by omega)];exact Ln k x q _ htl (hn k (by omega)).1 h32
   rw [hr2 k (by omega),if_pos h32]
  refine⟨K+M+K2+4097,(x.f0,x.f1,x.f2,x.f3,0,0),by cases x;exact hW,fun k hk=>⟨?_,?_⟩⟩
  ·rw [hK k (by omega)];exact Mh k x q _ htl (hn k (by omega)).1 h32
  rw [hr2 k (by omega),if_neg h32]
theorem G7 (s:ByteArray):∃k,Zo.f k s=some true:=by
 have hshort:Zh.f s=some (decide (s.size≤120∨s.size > 4096)):=by
  unfold Zh.f;by_cases h:s.size≤120
  ·rw [if_pos (by omega),decide_eq_true (show s.size≤120∨s.size > 4096 from .inl h)]
  rw [if_neg (by omega)];by_cases h2:s.size > 4096
  ·rw [decide_eq_true (show s.size≤120∨s.size > 4096 from .inr h2),decide_eq_true (show(s.size:Int) > 4096 by omega)]
  rw [decide_eq_false (show ¬(s.size≤120∨s.size > 4096) by omega),decide_eq_false (show ¬(s.size:Int) > 4096 by omega)]
 by_cases hc:s.size≤120∨s.size > 4096
 rotate_left
 ·refine⟨60,?_⟩;unfold Zo.f;rw [hshort,Option.bind_some,if_neg (by simpa using hc),Fh _ (by omega),Option.bind_some]
 have hboth:∃K r,(W3 ⟨r.1,r.2.1,r.2.2.1,r.2.2.2.1⟩)∧∀k,K≤k→Wh s k=some r∧Xw.f k s=some r:=by
  rcases hc with hc|hc
  ·exact Mb s (by omega)
  refine⟨0,(0,0,⟨#[]⟩,[],0,3),.mk _ (Nat.zero_le _) (fun y h=>by cases h),fun k _=>⟨?_,?_⟩⟩
  ·unfold Wh;rw [if_pos (by omega)]
  unfold Xw.f;rw [if_pos (by omega)]
 obtain⟨K,r,hW,hK⟩ :=hboth;obtain⟨K2,hS⟩ :=Lj hW;refine⟨K+K2+60,?_⟩;obtain⟨h1,h2⟩ :=hK (K+K2+60) (by omega);unfold Zo.f;rw [hshort,Option.bind_some,if_pos (decide_eq_true hc),Ze.f,h1,Option.bind_some,h2,Option.bind_some];have h3:=hS (K+K2+60) (by omega);simp only at h3;rw [h3,Option.bind_some,if_pos rfl,if_pos rfl,if_pos rfl,Fh _ (by omega),Option.bind_some]
end Go.Proofs.YtglmdfddgmkmaaaDoor.Q
end
section
namespace Go.Proofs.YtglmdfddgmkmaaaDoor.Q
open Go.ChangeShapes Go.WideShapes Go.ChangeAt Go.RowKit
open Go.ChangeMaps (open_string shut_string)
set_option maxRecDepth 100000
set_option linter.unusedVariables false
theorem laidOut:laidOutB Tryd.prog=true:=by kernel_rfl
theorem Fc (os:Os) (started:os.Started) (H:Type) (enc:TypeId×Value→H):
 ReturnsInHanded {} Tryd.checked os 3 .any (fun w args=>(Rows.arithParsesSpec.pre enc Tryd.prog Tryd.f3 [] false w args∧laidMetH Tryd.prog Gs w)∧sizedMet enc Tryd.prog Tryd.f3 (OpenSpec.ofChange Rows.arithParsesSpec) false w args)
  (Rows.arithParsesSpec.post enc Tryd.prog Tryd.f3 false true false false):=by
 refine returnsInHanded_of_change_and (C:=Tryd.checked) (X:=fun w _=>laidMetH Tryd.prog Gs w) (fun _ _ _ hh h=>h.of_heap hh) own started (by kernel_rfl) Tryd.func3
  (ChangeSpec.witness_shaped (enc:=enc) (C:=Tryd.checked) (os:=os) (X:=fun w _=>laidMetH Tryd.prog Gs w) false (World.doorLaid Tryd.prog 400 os) #[.string ⟨#[]⟩] 8 rfl (World.shaped_of_RefB (by kernel_rfl) (by kernel_rfl)) (by kernel_rfl) (by kernel_rfl) (by kernel_rfl) (door_met os _)) ?_
 intro W base args ds gs before hval0 hW _ _ hL _;have hval:∀(j:Nat) t v,Tryd.f3.params[j]? =some t→args[j]? =some v→Value.okWide Tryd.prog W .any base t v:=hval0;have hW':=hW;obtain⟨p,q,hA0,hV,rfl,hfz,hnd⟩ :=hW;have hA:DataW.TrodAll enc Tryd.prog W 0 (fun _=>true) true Tryd.f3.params.toList args.toList ds p:=hA0;rw [Tryd.params3] at hA hval;obtain⟨v0,vs0,d0,ds0,p0,q0,hargs,rfl,rfl,h0,r0⟩ :=trodAll_cons hA;obtain⟨rfl,rfl,rfl⟩ :=trodAll_nil r0;obtain rfl:args=#[v0]:=by cases args;simp_all
 obtain⟨rfl,rfl⟩ :=trodVars_none hV;obtain⟨a0,rfl,rfl,rfl,y0⟩ :=open_string Tryd.underlying9 (hval 0 9 v0 rfl rfl) h0;obtain⟨k,hk⟩ :=G7 a0;refine(Zo.calls k a0 true W  hk (of_laid hL)).mono fun e W' ⟨he,bel⟩=>?_
 subst he;exact⟨_,rfl,_,_,_,[],_,[],hW',trodAll_mk1 (shut_bool Tryd.underlying4 _),(trodAll_cons_mk (shut_string Tryd.underlying9 y0) trodAll_mk0),rfl,bel.frame _,fun h=>by cases h⟩
theorem J0:Rows.ArithParsesSaid:=
 OpenClaim.holds_of_wide 3 Tryd.f3 rfl rfl rfl rfl rfl rfl rfl ⟨rfl,rfl,rfl,rfl,rfl⟩ rfl rfl rfl rfl rfl (by kernel_rfl) Tryd.func3 (by kernel_rfl)
  (of_decide_eq_true (by kernel_rfl)) (by unfold Func.isWrapper;first|(rw [if_pos (by decide+kernel)];kernel_rfl)|(rw [if_neg (by decide+kernel)];exact⟨rfl,rfl⟩))
  (fun os started H enc _=>Fc os started H enc)
end Go.Proofs.YtglmdfddgmkmaaaDoor.Q
namespace Go.Proofs.YtglmdfddgmkmaaaDoor
open Q
set_option maxRecDepth 100000
theorem arithParses_card:Rows.ArithParsesCardSaid:=
 Claim7.holds_tied_plain_at .later [] [.data,.data,.data] true (true,"74cc2cd4b784e984c7617e824861adf5041c4fd5a2cf63fd298402107294065b") true
  J0 (fun _ h=>by cases h) (by kernel_rfl) (fun _ h=>by cases h) arithParses_row_tie rfl ⟨rfl,rfl⟩ (by kernel_rfl) rfl
  (fun f fn hf hfn=>by
   obtain rfl:f=3 :=Option.some.inj ((show Tryd.prog.funcNamed "jobshell/jobshelllaw05.ArithParses" =some 3 by kernel_rfl).symm.trans hf)|>.symm
   obtain rfl:fn=Tryd.f3:=(Option.some.inj (Tryd.func3.symm.trans hfn)).symm
   exact⟨by kernel_rfl,fun j t ht=>by
    rw [Tryd.params3] at ht;have hm:t∈[9]:=by simpa using Array.mem_of_getElem? ht
    have hall:([9].all fun u=>!Tryd.prog.wantsStandIn u)=true:=by kernel_rfl
    exact(show Tryd.prog.wantsStandIn t=false by simpa using List.all_eq_true.1 hall t hm)⟩)
  (by kernel_rfl)
end Go.Proofs.YtglmdfddgmkmaaaDoor
end

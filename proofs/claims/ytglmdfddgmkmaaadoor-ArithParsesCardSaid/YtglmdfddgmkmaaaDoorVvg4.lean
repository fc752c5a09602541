/- What the claim needs, part 5 of 6. -/
import Derived.Deep.WholeRow
import Derived.Test.YtglmdfddgmkmaaaDoorVvg3
section
namespace Go.Proofs.YtglmdfddgmkmaaaDoor.Q
open Go.RowKit Go.Proofs.YtglmdfddgmkmaaaDoorW.PrintWords Go.Proofs.YtglmdfddgmkmaaaDoorW.PrintLast Go.Proofs.YtglmdfddgmkmaaaDoorW.PrintMore
open Go.ChangeMaps
attribute [local go_sem] Z0 Z2 Yd Ye Zq Zr Z1 Z3
set_option linter.unusedVariables false
set_option linter.unusedSimpArgs false
set_option maxRecDepth 100000 in
set_option maxHeartbeats 4000000 in
theorem N6 (k:Nat) (a0 a1:Int) (a2:ByteArray) (A:Option Addr) (c:Nat) (xs:List S26) (r:List ByteArray) (w:World) (hr0:Kd.C k26 w A xs.length xs) (hc0:xs.length≤c) (h:Zk k ⟨a0,a1,a2,xs⟩ []=some r):
 Calls Tryd.prog 26 #[.agg #[.int .i64 a0,.int .i64 a1,.string a2,.slice A xs.length c]] w fun e w'=>∃v0_:Value,e=.returned (v0_)∧Kd.R Kd.string 9 w' w.heap.size (fun _=>True) v0_ r∧Below w.heap.size w w':=by
 have hmf:∀(fn:Fn) (first cap:Array Value) (w:World),(Instr.makeFunc fn first cap).run Tryd.prog w=.ok (.func fn first cap) w:=fun _ _ _ _=>rfl
 have hmk:∀W:World,(Instr.makeMap 77 none).run Tryd.prog W=.ok (.map (some W.heap.size)) (W.alloc (.map #[] 0)):=fun W=>by rfl
 have hu26:=Tryd.underlying26;have hu77:=Tryd.underlying77;have hu78:=Tryd.underlying78;have hu41:=Tryd.underlying41;have HX:=Qa.mk hr0;have HC:=Qa.mk hc0;have HV:=Qa.mk h;clear hr0 hc0 h;go_enter Tryd.func26,Tryd.ntmps26;go_upto_region 4 with ((with_reducible refine Q0 (N:=1) rfl ?_);refine Xm ?hg (N:=1) ?hd (cs:=#[.int .i64 a0,.int .i64 a1,.string a2,.slice A xs.length c]) (t:=26) ?hr ?_;(case hd=>rfl);(case hg=>rfl);(case hr=>(go_simp;done));intro g1 hg w1 hbox hb;have B1:=Qa.mk hbox;have HB:=Qa.mk hb;have HG:=Qa.mk hg;clear hb hbox hg)
 obtain⟨bo,hbo⟩ :∃bo,w1.heap.size=bo:=⟨_,rfl⟩;obtain⟨m,hm⟩ :∃m,bo+1=m:=⟨_,rfl⟩;obtain⟨bm,hbm⟩ :∃bm,m+1=bm:=⟨_,rfl⟩;obtain⟨bv,hbv⟩ :∃bv,bm+1=bv:=⟨_,rfl⟩;rw [hbo,hm,hbm,hbv]
 have F:Qa (∃W:World,W=(((w1.alloc (.cells #[.slice none 0 0] 41)).alloc (.map #[] 0)).alloc (.cells #[.map (some m)] 77)).alloc (.cells #[.nilFunc] 78)∧W.heap[bo]? =some (.cells #[.slice none 0 0] 41 (0,0))∧W.ownsMap Tryd.prog 9 eB m 0 (.map [])∧W.heap[bm]? =some (.cells #[.map (some m)] 77 (0,0))∧W.heap[bv]? =some (.cells #[.nilFunc] 78 (0,0))∧Below w1.heap.size w1 W∧W.heap[g1]? =some (.cells #[.int .i64 a0,.int .i64 a1,.string a2,.slice A xs.length c] 26 (0,0))):=by
  have e1:(w1.alloc (.cells #[.slice none 0 0] 41)).heap[bo]? =some (.cells #[.slice none 0 0] 41 (0,0)):=by rw [←hbo];exact heap_alloc_new w1 _
  have s1:(w1.alloc (.cells #[.slice none 0 0] 41)).heap.size=m:=by simp [hbo,hm]
  have b1:Below w1.heap.size w1 (w1.alloc (.cells #[.slice none 0 0] 41)):=Xu (Below.refl _ _) _;generalize w1.alloc (.cells #[.slice none 0 0] 41)=W1 at*;have e2:(W1.alloc (.map #[] 0)).ownsMap Tryd.prog 9 eB m 0 (.map []):=by rw [←s1];exact World.ownsMap_made W1 Tryd.prog 9 eB
  have s2:(W1.alloc (.map #[] 0)).heap.size=bm:=by simp [s1,hbm]
  have b2:Below W1.heap.size W1 (W1.alloc (.map #[] 0)):=Xu (Below.refl _ _) _;generalize W1.alloc (.map #[] 0)=W2 at*;have e3:(W2.alloc (.cells #[.map (some m)] 77)).heap[bm]? =some (.cells #[.map (some m)] 77 (0,0)):=by rw [←s2];exact heap_alloc_new W2 _
  have s3:(W2.alloc (.cells #[.map (some m)] 77)).heap.size=bv:=by simp [s2,hbv]
  have b3:Below W2.heap.size W2 (W2.alloc (.cells #[.map (some m)] 77)):=Xu (Below.refl _ _) _;generalize W2.alloc (.cells #[.map (some m)] 77)=W3 at*;have e4:(W3.alloc (.cells #[.nilFunc] 78)).heap[bv]? =some (.cells #[.nilFunc] 78 (0,0)):=by rw [←s3];exact heap_alloc_new W3 _
  have b4:Below W3.heap.size W3 (W3.alloc (.cells #[.nilFunc] 78)):=Xu (Below.refl _ _) _;have b34:=Y4 b3 b3.size b4;have b24:=Y4 b2 b2.size b34;have b14:=Y4 b1 b1.size b24;exact⟨⟨_,rfl,(b24.block bo (Xr e1)).trans e1,(e2.kept (Y9 b34 none) (by simp)),(b4.block bm (Xr e3)).trans e3,e4,b14,(b14.block g1 (Xr B1.out)).trans B1.out⟩⟩
 obtain⟨W,hW,E1,E2,E3,E4,E5,E6⟩ :=F.out;rw [←hW];clear F hW B1;have l1:=Xr E6;have lw:=HB.out.size;have lg:=HG.out;have lz:=E5.size;have HBW:=Qa.mk (Y4 HB.out HB.out.size E5);have hcv0:W.cell? ⟨bv,0,none⟩=some .nilFunc:=(Qb E4 0).trans rfl;have hfv0:=Qd E4 0;have E1':=Qa.mk E1;have E2':=Qa.mk E2;have E3':=Qa.mk E3;have E4':=Qa.mk E4;have E6':=Qa.mk E6;have nums:=Qa.mk (And.intro hbo (And.intro hm (And.intro hbm (And.intro hbv (And.intro lw (And.intro lg lz))))));clear E1 E2 E3 E4 E5 E6 hbo hm hbm hbv l1 lw lg lz
 have hst:(store ⟨bv,0,none⟩ (.func (.func 56) #[] #[.pointer (some ⟨bm,0,none⟩),.pointer (some ⟨bo,0,none⟩),.pointer (some ⟨bv,0,none⟩)])).run Tryd.prog W=.ok () (W.setCell ⟨bv,0,none⟩ (.func (.func 56) #[] #[.pointer (some ⟨bm,0,none⟩),.pointer (some ⟨bo,0,none⟩),.pointer (some ⟨bv,0,none⟩)])):=by
  rw [run_store Tryd.prog W _ _ _ rfl,hcv0];simp [hfv0]
 go_upto_region 5 with (fail)
 clear hst hcv0 hfv0
 have HN:Qa (Nm w (W.setCell ⟨bv,0,none⟩ (.func (.func 56) #[] #[.pointer (some ⟨bm,0,none⟩),.pointer (some ⟨bo,0,none⟩),.pointer (some ⟨bv,0,none⟩)])) bm bo bv m [] (.slice none 0 0)):=by
  have hk:Kept W (W.setCell ⟨bv,0,none⟩ (.func (.func 56) #[] #[.pointer (some ⟨bm,0,none⟩),.pointer (some ⟨bo,0,none⟩),.pointer (some ⟨bv,0,none⟩)])) (fun k=>k=bv):=Kept.setCell (Kept.refl W (fun k=>k=bv)) (p:=⟨bv,0,none⟩) (.inl rfl) _;have hz:=nums.out;exact⟨⟨Yh E3'.out hk (by omega),Yh E1'.out hk (by omega),Qt E4'.out 0 _ rfl,E2'.out.setCell (a:=⟨bv,0,none⟩) (by show m≠bv;omega) _,Kd.R_nil _ _ _ _ _,Below.setCell HBW.out (p:=⟨bv,0,none⟩) (by show w.heap.size≤bv;omega) _,by omega,by omega,by omega,by omega⟩⟩
 have B1:Qa ((W.setCell ⟨bv,0,none⟩ (.func (.func 56) #[] #[.pointer (some ⟨bm,0,none⟩),.pointer (some ⟨bo,0,none⟩),.pointer (some ⟨bv,0,none⟩)])).heap[g1]? =some (.cells #[.int .i64 a0,.int .i64 a1,.string a2,.slice A xs.length c] 26 (0,0))):=by
  have hk:Kept W (W.setCell ⟨bv,0,none⟩ (.func (.func 56) #[] #[.pointer (some ⟨bm,0,none⟩),.pointer (some ⟨bo,0,none⟩),.pointer (some ⟨bv,0,none⟩)])) (fun k=>k=bv):=Kept.setCell (Kept.refl W (fun k=>k=bv)) (p:=⟨bv,0,none⟩) (.inl rfl) _;refine⟨Yh E6'.out hk ?_⟩;rintro rfl;have h1:=E6'.out;rw [E4'.out] at h1;simp at h1
 generalize W.setCell ⟨bv,0,none⟩ (.func (.func 56) #[] #[.pointer (some ⟨bm,0,none⟩),.pointer (some ⟨bo,0,none⟩),.pointer (some ⟨bv,0,none⟩)])=W5 at*;obtain⟨hcm,hco,hcv,hfo⟩ :=HN.out.cells;have hc1_0:W5.cell? ⟨g1,0,none⟩=some (.int .i64 a0):=(Qb B1.out 0).trans rfl;have hc1_1:W5.cell? ⟨g1,1,none⟩=some (.int .i64 a1):=(Qb B1.out 1).trans rfl;have hc1_2:W5.cell? ⟨g1,2,none⟩=some (.string a2):=(Qb B1.out 2).trans rfl;have hc1_3:W5.cell? ⟨g1,3,none⟩=some (.slice A xs.length c):=(Qb B1.out 3).trans rfl;go_upto_region 6 with (go_at_call 56;(with_reducible refine(No w bm bo bv m k a0 a1 a2 A c xs [] r _ _ HV.out HX.out HC.out HN.out).mono ?_);rintro e w' ⟨rfl,v',hN'⟩;have HN':=Qa.mk hN';clear hN')
 clear hcm hco hcv hfo hc1_0 hc1_1 hc1_2 hc1_3;obtain⟨hcm,hco,hcv,hfo⟩ :=HN'.out.cells;obtain⟨A9,c9,rfl⟩ :=Kd.R_slice HN'.out.row;go_wp2_with(fail);go_ret;exact⟨_,rfl,HN'.out.row,HN'.out.bel⟩
def Yu.f (k:Nat) (a0_0 a0_1:Int) (a0_2:ByteArray) (l0_3:List S26):Option (List ByteArray):=Zk k ⟨a0_0,a0_1,a0_2,l0_3⟩ []
theorem Yu.mono (a0 a1:Int) (a2:ByteArray) (a3:List S26) (k:Nat):LeO (Yu.f k a0 a1 a2 a3) (Yu.f (k+1) a0 a1 a2 a3):=fun r h=>Nn k _ _ r h
theorem Yu.calls (k:Nat):∀(a0_0:Int) (a0_1:Int) (a0_2:ByteArray) (A0_3:Option Addr) (c0_3:Nat) (l0_3:List (S26)) (r:List ByteArray) (w:World) (hr0_3:Kd.C k26 w A0_3 l0_3.length l0_3) (hc0_3:l0_3.length≤c0_3) (h:Yu.f k a0_0 a0_1 a0_2 l0_3=some r),
 Calls Tryd.prog 26 #[.agg #[.int .i64 a0_0,.int .i64 a0_1,.string a0_2,.slice A0_3 l0_3.length c0_3]] w fun e w'=>∃v0_:Value,e=.returned (v0_)∧Kd.R Kd.string 9 w' w.heap.size (fun _=>True) v0_ r∧Below w.heap.size w w':=
 fun a0 a1 a2 A c l r w hr hc h=>N6 k a0 a1 a2 A c l r w hr hc h
end Go.Proofs.YtglmdfddgmkmaaaDoor.Q
end
section
namespace Go.Proofs.YtglmdfddgmkmaaaDoor.Q
open Go.RowKit Go.Proofs.YtglmdfddgmkmaaaDoorW.PrintWords Go.Proofs.YtglmdfddgmkmaaaDoorW.PrintLast Go.Proofs.YtglmdfddgmkmaaaDoorW.PrintMore
attribute [local go_sem] Z0 Z2 Yd Ye Zq Zr Z1 Z3
set_option linter.unusedVariables false
set_option linter.unusedSimpArgs false
mutual
def Xj.j0:Nat→Bool→Int→Int→ByteArray→List (S26)→Int→Int→ByteArray→List (S26)→Option (Bool)
 |0,_,_,_,_,_,_,_,_,_=>none
 |k+1,x33,x135000,x135001,x135002,x135003,x136000,x136001,x136002,x136003=>if x33=true then(some false) else(Xj.l0 k (x135003.length:Int) 0 x135000 x135001 x135002 x135003 x136000 x136001 x136002 x136003)
def Xj.l0:Nat→Int→Int→Int→Int→ByteArray→List (S26)→Int→Int→ByteArray→List (S26)→Option (Bool)
 |0,_,_,_,_,_,_,_,_,_,_=>none
 |k+1,x36,x37,x135000,x135001,x135002,x135003,x136000,x136001,x136002,x136003=>if x37 < x36 then(if 0≤x37 then(if x37 < (x135003.length:Int) then(if x37 < (x136003.length:Int) then((Xj.f k ((Qg x135003 x37).f0) ((Qg x135003 x37).f1) ((Qg x135003 x37).f2) ((Qg x135003 x37).f3) ((Qg x136003 x37).f0) ((Qg x136003 x37).f1) ((Qg x136003 x37).f2) ((Qg x136003 x37).f3)).bind fun t138=>(if t138=true then(Xj.l0 k x36 (wrap64 (x37+1)) x135000 x135001 x135002 x135003 x136000 x136001 x136002 x136003) else(some false))) else(none)) else(none)) else(none)) else(some true)
def Xj.f:Nat→Int→Int→ByteArray→List (S26)→Int→Int→ByteArray→List (S26)→Option (Bool)
 |0,_,_,_,_,_,_,_,_=>none
 |k+1,a0_0,a0_1,a0_2,l0_3,a1_0,a1_1,a1_2,l1_3=>if a0_0=a1_0 then(if a0_1=a1_1 then(if a0_2.toList=a1_2.toList then(Xj.j0 k ((l0_3.length:Int) !=(l1_3.length:Int)) a0_0 a0_1 a0_2 l0_3 a1_0 a1_1 a1_2 l1_3) else(Xj.j0 k true a0_0 a0_1 a0_2 l0_3 a1_0 a1_1 a1_2 l1_3)) else(Xj.j0 k true a0_0 a0_1 a0_2 l0_3 a1_0 a1_1 a1_2 l1_3)) else(Xj.j0 k true a0_0 a0_1 a0_2 l0_3 a1_0 a1_1 a1_2 l1_3)
end
theorem Xj.mono_l:∀k,(∀y0 y1 y2 y3 y4 y5 y6 y7,LeO (Xj.f k y0 y1 y2 y3 y4 y5 y6 y7) (Xj.f (k+1) y0 y1 y2 y3 y4 y5 y6 y7))∧(∀y0 y1 y2 y3 y4 y5 y6 y7 y8,LeO (Xj.j0 k y0 y1 y2 y3 y4 y5 y6 y7 y8) (Xj.j0 (k+1) y0 y1 y2 y3 y4 y5 y6 y7 y8))∧(∀y0 y1 y2 y3 y4 y5 y6 y7 y8 y9,LeO (Xj.l0 k y0 y1 y2 y3 y4 y5 y6 y7 y8 y9) (Xj.l0 (k+1) y0 y1 y2 y3 y4 y5 y6 y7 y8 y9))
 |0=>⟨fun _ _ _ _ _ _ _ _ r h=>by simp [Xj.f] at h,fun _ _ _ _ _ _ _ _ _ r h=>by simp [Xj.j0] at h,fun _ _ _ _ _ _ _ _ _ _ r h=>by simp [Xj.l0] at h⟩
 |k+1=>by
  obtain⟨ih0,ih1,ih2⟩ :=Xj.mono_l k;refine⟨?_,?_,?_⟩
  ·intro y0 y1 y2 y3 y4 y5 y6 y7;unfold Xj.f;repeat' first
   |(with_reducible exact ih1 _ _ _ _ _ _ _ _ _)
   |(with_reducible refine LeO.ite ?_ ?_)
  ·intro y0 y1 y2 y3 y4 y5 y6 y7 y8;unfold Xj.j0;repeat' first
   |(with_reducible exact ih2 _ _ _ _ _ _ _ _ _ _)
   |(with_reducible exact LeO.refl _)
   |(with_reducible refine LeO.ite ?_ ?_)
  ·intro y0 y1 y2 y3 y4 y5 y6 y7 y8 y9;unfold Xj.l0;repeat' first
   |(with_reducible exact ih0 _ _ _ _ _ _ _ _)
   |(with_reducible exact ih2 _ _ _ _ _ _ _ _ _ _)
   |(with_reducible exact LeO.refl _)
   |(with_reducible refine LeO.ite ?_ ?_)
   |(with_reducible refine LeO.bind ?_ (fun _=>?_))
theorem Xj.mono:∀a0 a1 a2 a3 a4 a5 a6 a7 k,LeO (Xj.f k a0 a1 a2 a3 a4 a5 a6 a7) (Xj.f (k+1) a0 a1 a2 a3 a4 a5 a6 a7):=by
 intro a0 a1 a2 a3 a4 a5 a6 a7 k;obtain⟨ih0,ih1,ih2⟩ :=Xj.mono_l k;exact ih0 a0 a1 a2 a3 a4 a5 a6 a7
def Xj.T6:Bool×List (List Nat×List Nat):=(true,[([],[]),([0],[0]),([],[]),([1,2],[1,2]),([3],[3]),([],[]),([5],[5]),([],[]),([6,7],[6,7]),([8],[8]),([4,9],[4,9]),([10],[10])])
def Xj.B6:List Nat:=[0,1,0,7,15,0,32,0,224,480,1023,2047]
theorem Xj.tab6:V8 .any (opsOf Tryd.f28 6)=Xj.T6:=by kernel_rfl
theorem Xj.bits6:Vx Xj.T6.2 Xj.B6=true:=by kernel_rfl
set_option maxHeartbeats 8000000 in
set_option maxRecDepth 100000 in
theorem Xj.calls (k:Nat):∀(a0_0:Int) (a0_1:Int) (a0_2:ByteArray) (A0_3:Option Addr) (c0_3:Nat) (l0_3:List (S26)) (a1_0:Int) (a1_1:Int) (a1_2:ByteArray) (A1_3:Option Addr) (c1_3:Nat) (l1_3:List (S26)) (r:Bool) (w:World) (hr0_3:Kd.C k26 w A0_3 l0_3.length l0_3) (hc0_3:l0_3.length≤c0_3) (hr1_3:Kd.C k26 w A1_3 l1_3.length l1_3) (hc1_3:l1_3.length≤c1_3) (h:Xj.f k a0_0 a0_1 a0_2 l0_3 a1_0 a1_1 a1_2 l1_3=some r),
 Calls Tryd.prog 28 #[.agg #[.int .i64 a0_0,.int .i64 a0_1,.string a0_2,.slice A0_3 l0_3.length c0_3],.agg #[.int .i64 a1_0,.int .i64 a1_1,.string a1_2,.slice A1_3 l1_3.length c1_3]] w fun e w'=>e=.returned (.bool r)∧Below w.heap.size w w':=by
 induction k using Nat.strongRecOn with
 |_ k ih=>
 intro a0_0 a0_1 a0_2 A0_3 c0_3 l0_3 a1_0 a1_1 a1_2 A1_3 c1_3 l1_3 r w hr0_3 hc0_3 hr1_3 hc1_3 h
 cases k with
 |zero=>exact absurd h (by simp [Xj.f])
 |succ k=>
 simp only [Xj.f] at h;have HR0_3:=Qa.mk hr0_3;clear hr0_3 hc0_3;have HR1_3:=Qa.mk hr1_3;clear hr1_3 hc1_3;have HB:=Qa.mk (Below.refl w.heap.size w);have H:(if a0_0=a1_0 then(if a0_1=a1_1 then(if a0_2.toList=a1_2.toList then(Xj.j0 k ((l0_3.length:Int) !=(l1_3.length:Int)) a0_0 a0_1 a0_2 l0_3 a1_0 a1_1 a1_2 l1_3) else(Xj.j0 k true a0_0 a0_1 a0_2 l0_3 a1_0 a1_1 a1_2 l1_3)) else(Xj.j0 k true a0_0 a0_1 a0_2 l0_3 a1_0 a1_1 a1_2 l1_3)) else(Xj.j0 k true a0_0 a0_1 a0_2 l0_3 a1_0 a1_1 a1_2 l1_3))=some r:=h;clear h;have HC3:=Qa.mk H;clear H;go_enter Tryd.func28,Tryd.ntmps28;go_upto_region 1 with (first|((with_reducible refine Q0 (N:=2) rfl ?_);(try(refine Vm (by rfl) ?_;dsimp only));refine Xm ?hg (N:=2) ?hd (cs:=#[.int .i64 a0_0,.int .i64 a0_1,.string a0_2,.slice A0_3 l0_3.length c0_3]) (t:=26) ?hr ?_;(case hd=>rfl);(case hg=>rfl);(case hr=>(go_simp;done));intro gb134 hg w4 hbox hb;replace HB:=Qa.mk (Qr HB.out hb);have BK134:=Qa.mk hbox;clear hb hbox hg)|((with_reducible refine Q0 (N:=3) rfl ?_);(try(refine Vm (by rfl) ?_;dsimp only));refine Xm ?hg (N:=3) ?hd (cs:=#[.int .i64 a1_0,.int .i64 a1_1,.string a1_2,.slice A1_3 l1_3.length c1_3]) (t:=26) ?hr ?_;(case hd=>rfl);(case hg=>rfl);(case hr=>(go_simp;done));intro gb135 hg w5 hbox hb;replace HB:=Qa.mk (Qr HB.out hb);have BK135:=Qa.mk hbox;have NB134_135:=Qa.mk ((by rw [hg];exact Nat.ne_of_lt (Xr (g:=gb134) (o:=.cells #[.int .i64 a0_0,.int .i64 a0_1,.string a0_2,.slice A0_3 l0_3.length c0_3] 26 (0,0)) BK134.out):gb134≠gb135));have NB135_134:=Qa.mk ((by rw [hg];exact Nat.ne_of_gt (Xr (g:=gb134) (o:=.cells #[.int .i64 a0_0,.int .i64 a0_1,.string a0_2,.slice A0_3 l0_3.length c0_3] 26 (0,0)) BK134.out):gb135≠gb134));replace BK134:=Qa.mk (Q1 (g:=gb134) (o:=.cells #[.int .i64 a0_0,.int .i64 a0_1,.string a0_2,.slice A0_3 l0_3.length c0_3] 26 (0,0)) BK134.out hb);clear hb hbox hg))
 go_cut [33] (fun v33 wc=>∃(kq:Nat) (x33_2:Bool),v33=.bool x33_2∧Qa (Xj.j0 kq x33_2 a0_0 a0_1 a0_2 l0_3 a1_0 a1_1 a1_2 l1_3=some r)∧Qa (kq≤k)∧Qa (wc.heap[gb134]? =some (.cells #[.int .i64 a0_0,.int .i64 a0_1,.string a0_2,(.slice A0_3 l0_3.length c0_3)] 26 (0,0)))∧Qa (wc.heap[gb135]? =some (.cells #[.int .i64 a1_0,.int .i64 a1_1,.string a1_2,(.slice A1_3 l1_3.length c1_3)] 26 (0,0)))∧Qa (Below w.heap.size w wc))
 case first=>
  have H:=HC3.out;clear HC3;by_cases c6:a0_0=a1_0
  rotate_left
  ·rw [if_neg c6] at H;have c6b1:(a0_0 !=a1_0)=true:=bne_iff_ne.mpr c6;have H':=Qa.mk H;clear H;have hcz19_0:w5.cell? ⟨gb134,0,none⟩=some (.int .i64 a0_0):=(Qb BK134.out 0).trans rfl;have hcz20_0:w5.cell? ⟨gb135,0,none⟩=some (.int .i64 a1_0):=(Qb BK135.out 0).trans rfl;go_wp2
   go_meet
   case rel=>exact⟨_,true,(by rfl),H',⟨by omega⟩,⟨BK134.out⟩,⟨BK135.out⟩,⟨HB.out⟩⟩
  rw [if_pos c6] at H;have c6b1:(a0_0 !=a1_0)=false:=bne_eq_false_iff_eq.mpr c6;clear c6;by_cases c7:a0_1=a1_1
  rotate_left
  ·rw [if_neg c7] at H;have c7b1:(a0_1 !=a1_1)=true:=bne_iff_ne.mpr c7;have H':=Qa.mk H;clear H;have hcz16_0:w5.cell? ⟨gb134,0,none⟩=some (.int .i64 a0_0):=(Qb BK134.out 0).trans rfl;have hcz16_1:w5.cell? ⟨gb134,1,none⟩=some (.int .i64 a0_1):=(Qb BK134.out 1).trans rfl;have hcz17_0:w5.cell? ⟨gb135,0,none⟩=some (.int .i64 a1_0):=(Qb BK135.out 0).trans rfl;have hcz17_1:w5.cell? ⟨gb135,1,none⟩=some (.int .i64 a1_1):=(Qb BK135.out 1).trans rfl;go_wp2
   go_meet
   case rel=>exact⟨_,true,(by rfl),H',⟨by omega⟩,⟨BK134.out⟩,⟨BK135.out⟩,⟨HB.out⟩⟩
  rw [if_pos c7] at H;have c7b1:(a0_1 !=a1_1)=false:=bne_eq_false_iff_eq.mpr c7;clear c7;by_cases c8:a0_2.toList=a1_2.toList
  rotate_left
  ·rw [if_neg c8] at H;have c8b0:(a0_2.toList==a1_2.toList)=false:=beq_eq_false_iff_ne.mpr c8;have H':=Qa.mk H;clear H;have hcz13_0:w5.cell? ⟨gb134,0,none⟩=some (.int .i64 a0_0):=(Qb BK134.out 0).trans rfl;have hcz13_1:w5.cell? ⟨gb134,1,none⟩=some (.int .i64 a0_1):=(Qb BK134.out 1).trans rfl;have hcz13_2:w5.cell? ⟨gb134,2,none⟩=some (.string a0_2):=(Qb BK134.out 2).trans rfl;have hcz14_0:w5.cell? ⟨gb135,0,none⟩=some (.int .i64 a1_0):=(Qb BK135.out 0).trans rfl;have hcz14_1:w5.cell? ⟨gb135,1,none⟩=some (.int .i64 a1_1):=(Qb BK135.out 1).trans rfl;have hcz14_2:w5.cell? ⟨gb135,2,none⟩=some (.string a1_2):=(Qb BK135.out 2).trans rfl;go_wp2
   go_meet
   case rel=>exact⟨_,true,(by rfl),H',⟨by omega⟩,⟨BK134.out⟩,⟨BK135.out⟩,⟨HB.out⟩⟩
  rw [if_pos c8] at H;have c8b0:(a0_2.toList==a1_2.toList)=true:=beq_iff_eq.mpr c8;clear c8;have H':=Qa.mk H;clear H;have hcz10_0:w5.cell? ⟨gb134,0,none⟩=some (.int .i64 a0_0):=(Qb BK134.out 0).trans rfl;have hcz10_1:w5.cell? ⟨gb134,1,none⟩=some (.int .i64 a0_1):=(Qb BK134.out 1).trans rfl;have hcz10_2:w5.cell? ⟨gb134,2,none⟩=some (.string a0_2):=(Qb BK134.out 2).trans rfl;have hcz10_3:w5.cell? ⟨gb134,3,none⟩=some (.slice A0_3 l0_3.length c0_3):=(Qb BK134.out 3).trans rfl;have hcz11_0:w5.cell? ⟨gb135,0,none⟩=some (.int .i64 a1_0):=(Qb BK135.out 0).trans rfl;have hcz11_1:w5.cell? ⟨gb135,1,none⟩=some (.int .i64 a1_1):=(Qb BK135.out 1).trans rfl;have hcz11_2:w5.cell? ⟨gb135,2,none⟩=some (.string a1_2):=(Qb BK135.out 2).trans rfl;have hcz11_3:w5.cell? ⟨gb135,3,none⟩=some (.slice A1_3 l1_3.length c1_3):=(Qb BK135.out 3).trans rfl;go_wp2
  go_meet
  case rel=>exact⟨_,(((l0_3.length:Int) !=(l1_3.length:Int))),(by rfl),H',⟨by omega⟩,⟨BK134.out⟩,⟨BK135.out⟩,⟨HB.out⟩⟩
 case rest=>
  clear HC3;obtain⟨kq,x33_2,rfl,HA,HJ2,BK134,BK135,HB⟩ :=hcut
  cases kq with
  |zero=>exact absurd HA.out (by simp [Xj.j0])
  |succ kj2=>
   have H:=HA.out;clear HA;simp only [Xj.j0] at H;by_cases c21:x33_2=true
   ·subst c21;have H1:(some false)=some r:=by rw [if_pos rfl] at H;exact H
    clear H;have H:=H1;clear H1;obtain rfl:=Option.some.inj H;go_wp2;go_ret;exact⟨by rfl,HB.out⟩
   replace c21:=Bool.eq_false_iff.mpr c21;subst c21;have H1:(Xj.l0 kj2 (l0_3.length:Int) 0 a0_0 a0_1 a0_2 l0_3 a1_0 a1_1 a1_2 l1_3)=some r:=by rw [if_neg (show ¬(false=true) by decide)] at H;exact H
   clear H;have H:=H1;clear H1;have H':=Qa.mk H;clear H;have hcz23_3:wc.cell? ⟨gb134,3,none⟩=some (.slice A0_3 l0_3.length c0_3):=(Qb BK134.out 3).trans rfl;go_wp2
   go_loopg [37] kj2 (fun kq v37 w'=>∃(x37_2:Int),v37=.int .i64 x37_2∧Qa (Xj.l0 kq (l0_3.length:Int) x37_2 a0_0 a0_1 a0_2 l0_3 a1_0 a1_1 a1_2 l1_3=some r)∧Qa (kq≤kj2)∧Qa (w'.heap[gb134]? =some (.cells #[.int .i64 a0_0,.int .i64 a0_1,.string a0_2,(.slice A0_3 l0_3.length c0_3)] 26 (0,0)))∧Qa (w'.heap[gb135]? =some (.cells #[.int .i64 a1_0,.int .i64 a1_1,.string a1_2,(.slice A1_3 l1_3.length c1_3)] 26 (0,0)))∧Qa (Below w.heap.size w w'))
   case atStart=>exact⟨0,(by rfl),H',⟨Nat.le_refl _⟩,⟨BK134.out⟩,⟨BK135.out⟩,⟨HB.out⟩⟩
   case round=>
    clear H';(try clear hcz23_3);obtain⟨x37_2,rfl,HA,HK2,BK134,BK135,HB⟩ :=hrel
    cases gk with
    |zero=>exact absurd HA.out (by simp [Xj.l0])
    |succ k2=>
     have H:=HA.out;clear HA;simp only [Xj.l0] at H;by_cases c24:x37_2 < (l0_3.length:Int)
     rotate_left
     ·rw [if_neg c24] at H;have c24b0:decide (x37_2 < (l0_3.length:Int))=false:=decide_eq_false c24;clear c24;obtain rfl:=Option.some.inj H;go_wp2;go_ret;exact⟨by rfl,HB.out⟩
     rw [if_pos c24] at H;have c24b0:decide (x37_2 < (l0_3.length:Int))=true:=decide_eq_true c24;clear c24;by_cases c25:0≤x37_2
     rotate_left
     ·rw [if_neg c25] at H;exact absurd H (by simp)
     rw [if_pos c25] at H;have c25b0:decide (0≤x37_2)=true:=decide_eq_true c25;clear c25;by_cases c26:x37_2 < (l0_3.length:Int)
     rotate_left
     ·rw [if_neg c26] at H;exact absurd H (by simp)
     rw [if_pos c26] at H;have c26b0:decide (x37_2 < (l0_3.length:Int))=true:=decide_eq_true c26;clear c26;by_cases c27:x37_2 < (l1_3.length:Int)
     rotate_left
     ·rw [if_neg c27] at H;exact absurd H (by simp)
     rw [if_pos c27] at H;have c27b0:decide (x37_2 < (l1_3.length:Int))=true:=decide_eq_true c27;clear c27;replace H:=Option.bind_eq_some_iff.mp H;obtain⟨t138,A280,H⟩ :=H;try dsimp only at H
     have A28:=Qa.mk A280;clear A280;by_cases c29:t138=true
     rotate_left
     ·replace c29:=Bool.eq_false_iff.mpr c29;subst c29;have H1:(some false)=some r:=by rw [if_neg (show ¬(false=true) by decide)] at H;exact H
      clear H;have H:=H1;clear H1;obtain rfl:=Option.some.inj H;(try go_wp2);replace BK134:=Qa.mk (Yg BK134.out);replace BK135:=Qa.mk (Yg BK135.out);replace HB:=Qa.mk (Zg HB.out);have p136:0≤(x37_2:Int):=of_decide_eq_true (by(with_reducible assumption));have q136:x37_2 < (l0_3.length:Int):=of_decide_eq_true (by(with_reducible assumption));obtain⟨ad136,A136_3,c136_3,e136,hx136_0,hx136_1,hx136_2,hx136_3,hl136_3,hi136_3⟩ :=Yf HR0_3.out x37_2 p136 q136;have hw136_3:=hx136_3;have hw136_2:=hx136_2;have hw136_1:=hx136_1;have hw136_0:=hx136_0
      cases e136
      replace hx136_0:=(HB.out.cell (World.block_lt_of_cell? w _ hx136_0)).trans hx136_0;replace hx136_1:=(HB.out.cell (World.block_lt_of_cell? w _ hx136_1)).trans hx136_1;replace hx136_2:=(HB.out.cell (World.block_lt_of_cell? w _ hx136_2)).trans hx136_2;replace hx136_3:=(HB.out.cell (World.block_lt_of_cell? w _ hx136_3)).trans hx136_3;have HR136_3:=Qa.mk hi136_3;have HC136_3:=Qa.mk hl136_3;clear hi136_3 hl136_3;replace p136:=eq_true p136;replace q136:=eq_true q136;have p137:0≤(x37_2:Int):=of_decide_eq_true (by(with_reducible assumption));have q137:x37_2 < (l1_3.length:Int):=of_decide_eq_true (by(with_reducible assumption));obtain⟨ad137,A137_3,c137_3,e137,hx137_0,hx137_1,hx137_2,hx137_3,hl137_3,hi137_3⟩ :=Yf HR1_3.out x37_2 p137 q137;have hw137_3:=hx137_3;have hw137_2:=hx137_2;have hw137_1:=hx137_1;have hw137_0:=hx137_0
      cases e137
      replace hx137_0:=(HB.out.cell (World.block_lt_of_cell? w _ hx137_0)).trans hx137_0;replace hx137_1:=(HB.out.cell (World.block_lt_of_cell? w _ hx137_1)).trans hx137_1;replace hx137_2:=(HB.out.cell (World.block_lt_of_cell? w _ hx137_2)).trans hx137_2;replace hx137_3:=(HB.out.cell (World.block_lt_of_cell? w _ hx137_3)).trans hx137_3;have HR137_3:=Qa.mk hi137_3;have HC137_3:=Qa.mk hl137_3;clear hi137_3 hl137_3;replace p137:=eq_true p137;replace q137:=eq_true q137;refine Y6 (n:=12) (S:=fun w'=>w'.cell? ⟨gb134,0,none⟩=some (.int .i64 a0_0)∧w'.cell? ⟨gb134,1,none⟩=some (.int .i64 a0_1)∧w'.cell? ⟨gb134,2,none⟩=some (.string a0_2)∧w'.cell? ⟨gb134,3,none⟩=some (.slice (some ad136) l0_3.length c0_3)∧w'.cell? ⟨gb135,0,none⟩=some (.int .i64 a1_0)∧w'.cell? ⟨gb135,1,none⟩=some (.int .i64 a1_1)∧w'.cell? ⟨gb135,2,none⟩=some (.string a1_2)∧w'.cell? ⟨gb135,3,none⟩=some (.slice (some ad137) l1_3.length c1_3)∧w'.cell? (ad136.add ((x37_2).toNat*4))=some (.int .i64 ((Qg l0_3 x37_2).f0))∧w'.cell? ⟨(ad136.add ((x37_2).toNat*4)).block,(ad136.add ((x37_2).toNat*4)).off+1,none⟩=some (.int .i64 ((Qg l0_3 x37_2).f1))∧w'.cell? ⟨(ad136.add ((x37_2).toNat*4)).block,(ad136.add ((x37_2).toNat*4)).off+2,none⟩=some (.string ((Qg l0_3 x37_2).f2))∧w'.cell? ⟨(ad136.add ((x37_2).toNat*4)).block,(ad136.add ((x37_2).toNat*4)).off+3,none⟩=some (.slice A136_3 ((Qg l0_3 x37_2).f3).length c136_3)∧w'.cell? (ad137.add ((x37_2).toNat*4))=some (.int .i64 ((Qg l1_3 x37_2).f0))∧w'.cell? ⟨(ad137.add ((x37_2).toNat*4)).block,(ad137.add ((x37_2).toNat*4)).off+1,none⟩=some (.int .i64 ((Qg l1_3 x37_2).f1))∧w'.cell? ⟨(ad137.add ((x37_2).toNat*4)).block,(ad137.add ((x37_2).toNat*4)).off+2,none⟩=some (.string ((Qg l1_3 x37_2).f2))∧w'.cell? ⟨(ad137.add ((x37_2).toNat*4)).block,(ad137.add ((x37_2).toNat*4)).off+3,none⟩=some (.slice A137_3 ((Qg l1_3 x37_2).f3).length c137_3)) (ds:=[]) #[false,false,false,false,false,false,false,false,false,false,false,false] (by kernel_rfl) rfl rfl ⟨(Qb BK134.out 0).trans rfl,(Qb BK134.out 1).trans rfl,(Qb BK134.out 2).trans rfl,(Qb BK134.out 3).trans rfl,(Qb BK135.out 0).trans rfl,(Qb BK135.out 1).trans rfl,(Qb BK135.out 2).trans rfl,(Qb BK135.out 3).trans rfl,((HB.out.cell (World.block_lt_of_cell? w _ hw136_0)).trans hw136_0),((HB.out.cell (World.block_lt_of_cell? w _ hw136_1)).trans hw136_1),((HB.out.cell (World.block_lt_of_cell? w _ hw136_2)).trans hw136_2),((HB.out.cell (World.block_lt_of_cell? w _ hw136_3)).trans hw136_3),((HB.out.cell (World.block_lt_of_cell? w _ hw137_0)).trans hw137_0),((HB.out.cell (World.block_lt_of_cell? w _ hw137_1)).trans hw137_1),((HB.out.cell (World.block_lt_of_cell? w _ hw137_2)).trans hw137_2),((HB.out.cell (World.block_lt_of_cell? w _ hw137_3)).trans hw137_3)⟩ (fun hHeld=>?_);refine Vh Xj.tab6 Xj.bits6 (fun HT_ HW_=>?_)
      generalize wr.drew=w32 at BK134 BK135 HB HR136_3 HR137_3 hx136_0 hx136_1 hx136_2 hx136_3 hx137_0 hx137_1 hx137_2 hx137_3 hHeld ⊢;refine Xv (i:=0) (N:=some 40) (v:=?_) (a':=?_) #[true,false,false,false,false,false,false,false,false,false,false,false] rfl rfl (X3 HT_.out (by kernel_rfl)) (fun _ _ _ h=>h) (Or.inl ⟨by rfl,?_⟩) ?_ ?_
      rotate_left
      ·intro w';go_simp;with_reducible rfl
      rotate_left
      ·simp only [Act.put,List.setIfInBounds_toArray,List.set_cons_zero,List.set_cons_succ,Xc,Xd];rfl
      refine Xv (i:=2) (N:=some 42) (v:=?_) (a':=?_) #[true,false,true,false,false,false,false,false,false,false,false,false] rfl rfl (X3 HT_.out (by kernel_rfl)) (fun _ _ _ h=>h) (Or.inl ⟨by rfl,?_⟩) ?_ ?_
      rotate_left
      ·intro w';go_simp;with_reducible rfl
      rotate_left
      ·simp only [Act.put,List.setIfInBounds_toArray,List.set_cons_zero,List.set_cons_succ,Xc,Xd];rfl
      refine Xv (i:=5) (N:=some 45) (v:=?_) (a':=?_) #[true,false,true,false,false,true,false,false,false,false,false,false] rfl rfl (X3 HT_.out (by kernel_rfl)) (fun _ _ _ h=>h) (Or.inl ⟨by rfl,?_⟩) ?_ ?_
      rotate_left
      ·intro w';go_simp;with_reducible rfl
      rotate_left
      ·simp only [Act.put,List.setIfInBounds_toArray,List.set_cons_zero,List.set_cons_succ,Xc,Xd];rfl
      refine Xv (i:=7) (N:=some 47) (v:=?_) (a':=?_) #[true,false,true,false,false,true,false,true,false,false,false,false] rfl rfl (X3 HT_.out (by kernel_rfl)) (fun _ _ _ h=>h) (Or.inl ⟨by rfl,?_⟩) ?_ ?_
      rotate_left
      ·intro w';go_simp;with_reducible rfl
      rotate_left
      ·simp only [Act.put,List.setIfInBounds_toArray,List.set_cons_zero,List.set_cons_succ,Xc,Xd];rfl
      refine Zt (i:=1) (N:=some 41) (v:=?_) (a':=?_) #[true,true,true,false,false,true,false,true,false,false,false,false] rfl rfl (Zf HT_.out HW_.out (by kernel_rfl)) (fun _ _ _ h=>h) (Or.inl ⟨by rfl,?_⟩) hHeld ?_ ?_
      rotate_left
      ·rintro w' ⟨s0,s1,s2,s3,s4,s5,s6,s7,s8,s9,s10,s11,s12,s13,s14,s15⟩;go_simp;with_reducible rfl
      rotate_left
      ·simp only [Act.put,List.setIfInBounds_toArray,List.set_cons_zero,List.set_cons_succ,Xc,Xd];rfl
      refine Xv (i:=3) (N:=some 43) (v:=?_) (a':=?_) #[true,true,true,true,false,true,false,true,false,false,false,false] rfl rfl (X3 HT_.out (by kernel_rfl)) (fun _ _ _ h=>h) (Or.inl ⟨by rfl,?_⟩) ?_ ?_
      rotate_left
      ·intro w';go_simp;with_reducible rfl
      rotate_left
      ·simp only [Act.put,List.setIfInBounds_toArray,List.set_cons_zero,List.set_cons_succ,Xc,Xd];rfl
      refine Zt (i:=4) (N:=some 44) (v:=?_) (a':=?_) #[true,true,true,true,true,true,false,true,false,false,false,false] rfl rfl (Zf HT_.out HW_.out (by kernel_rfl)) (fun _ _ _ h=>h) (Or.inl ⟨by rfl,?_⟩) hHeld ?_ ?_
      rotate_left
      ·rintro w' ⟨s0,s1,s2,s3,s4,s5,s6,s7,s8,s9,s10,s11,s12,s13,s14,s15⟩;go_simp;with_reducible rfl
      rotate_left
      ·simp only [Act.put,List.setIfInBounds_toArray,List.set_cons_zero,List.set_cons_succ,Xc,Xd];rfl
      refine Zt (i:=6) (N:=some 46) (v:=?_) (a':=?_) #[true,true,true,true,true,true,true,true,false,false,false,false] rfl rfl (Zf HT_.out HW_.out (by kernel_rfl)) (fun _ _ _ h=>h) (Or.inl ⟨by rfl,?_⟩) hHeld ?_ ?_
      rotate_left
      ·rintro w' ⟨s0,s1,s2,s3,s4,s5,s6,s7,s8,s9,s10,s11,s12,s13,s14,s15⟩;go_simp;with_reducible rfl
      rotate_left
      ·simp only [Act.put,List.setIfInBounds_toArray,List.set_cons_zero,List.set_cons_succ,Xc,Xd];rfl
      refine Xv (i:=8) (N:=some 48) (v:=?_) (a':=?_) #[true,true,true,true,true,true,true,true,true,false,false,false] rfl rfl (X3 HT_.out (by kernel_rfl)) (fun _ _ _ h=>h) (Or.inl ⟨by rfl,?_⟩) ?_ ?_
      rotate_left
      ·intro w';go_simp;with_reducible rfl
      rotate_left
      ·simp only [Act.put,List.setIfInBounds_toArray,List.set_cons_zero,List.set_cons_succ,Xc,Xd];rfl
      refine Zt (i:=9) (N:=some 49) (v:=?_) (a':=?_) #[true,true,true,true,true,true,true,true,true,true,false,false] rfl rfl (Zf HT_.out HW_.out (by kernel_rfl)) (fun _ _ _ h=>h) (Or.inl ⟨by rfl,?_⟩) hHeld ?_ ?_
      rotate_left
      ·rintro w' ⟨s0,s1,s2,s3,s4,s5,s6,s7,s8,s9,s10,s11,s12,s13,s14,s15⟩;go_simp;with_reducible rfl
      rotate_left
      ·simp only [Act.put,List.setIfInBounds_toArray,List.set_cons_zero,List.set_cons_succ,Xc,Xd];rfl
      refine Vn (i:=10) (N:=some 50) #[true,true,true,true,true,true,true,true,true,true,true,false] rfl rfl (Vk HT_.out (by kernel_rfl)) (by decide) (fun K hK=>?_);refine Vz Tryd.func28 (by kernel_rfl) rfl #[.agg #[.int .i64 ((Qg l0_3 x37_2).f0),.int .i64 ((Qg l0_3 x37_2).f1),.string ((Qg l0_3 x37_2).f2),.slice A136_3 ((Qg l0_3 x37_2).f3).length c136_3],.agg #[.int .i64 ((Qg l1_3 x37_2).f0),.int .i64 ((Qg l1_3 x37_2).f1),.string ((Qg l1_3 x37_2).f2),.slice A137_3 ((Qg l1_3 x37_2).f3).length c137_3]] (by rfl) rfl rfl (by(try simp only [List.map_toArray,List.map_cons,List.map_nil]);rfl) ?_;with_reducible refine(ih k2 (by have:=HJ2.out;have:=HK2.out;omega) ((Qg l0_3 x37_2).f0) ((Qg l0_3 x37_2).f1) ((Qg l0_3 x37_2).f2) _ _ ((Qg l0_3 x37_2).f3) ((Qg l1_3 x37_2).f0) ((Qg l1_3 x37_2).f1) ((Qg l1_3 x37_2).f2) _ _ ((Qg l1_3 x37_2).f3) false _ ?side1 ?side2 ?side3 ?side4 A28.out).mono ?_
      (case side1=>repeat(exact(Kd.C_below HR136_3.out HB.out)))
      (case side2=>exact HC136_3.out)
      (case side3=>repeat(exact(Kd.C_below HR137_3.out HB.out)))
      (case side4=>exact HC137_3.out)
      rintro e w33 ⟨rfl,hb⟩;refine⟨_,rfl,?_⟩;replace BK134:=Qa.mk (Q1 (g:=gb134) (o:=.cells #[.int .i64 a0_0,.int .i64 a0_1,.string a0_2,.slice (some ad136) l0_3.length c0_3] 26 (0,0)) BK134.out hb);replace BK135:=Qa.mk (Q1 (g:=gb135) (o:=.cells #[.int .i64 a1_0,.int .i64 a1_1,.string a1_2,.slice (some ad137) l1_3.length c1_3] 26 (0,0)) BK135.out hb);replace HB:=Qa.mk (Qr HB.out hb);(try clear hb);refine hK.out _ _ ⟨(Qb BK134.out 0).trans rfl,(Qb BK134.out 1).trans rfl,(Qb BK134.out 2).trans rfl,(Qb BK134.out 3).trans rfl,(Qb BK135.out 0).trans rfl,(Qb BK135.out 1).trans rfl,(Qb BK135.out 2).trans rfl,(Qb BK135.out 3).trans rfl,((HB.out.cell (World.block_lt_of_cell? w _ hw136_0)).trans hw136_0),((HB.out.cell (World.block_lt_of_cell? w _ hw136_1)).trans hw136_1),((HB.out.cell (World.block_lt_of_cell? w _ hw136_2)).trans hw136_2),((HB.out.cell (World.block_lt_of_cell? w _ hw136_3)).trans hw136_3),((HB.out.cell (World.block_lt_of_cell? w _ hw137_0)).trans hw137_0),((HB.out.cell (World.block_lt_of_cell? w _ hw137_1)).trans hw137_1),((HB.out.cell (World.block_lt_of_cell? w _ hw137_2)).trans hw137_2),((HB.out.cell (World.block_lt_of_cell? w _ hw137_3)).trans hw137_3)⟩ (fun hHeld=>?_);clear hK K;refine Va (a':=?_) ?_ ?_
      rotate_left
      ·show Act.put _ (some 50) _=_
       simp only [Act.put,List.setIfInBounds_toArray,List.set_cons_zero,List.set_cons_succ,Xc,Xd];rfl
      refine Xv (i:=11) (N:=some 51) (v:=?_) (a':=?_) #[true,true,true,true,true,true,true,true,true,true,true,true] rfl rfl (X3 HT_.out (by kernel_rfl)) (fun _ _ _ h=>h) (Or.inl ⟨by rfl,?_⟩) ?_ ?_
      rotate_left
      ·intro w';go_simp;with_reducible rfl
      rotate_left
      ·simp only [Act.put,List.setIfInBounds_toArray,List.set_cons_zero,List.set_cons_succ,Xc,Xd];rfl
      refine Wi (Wj HT_.out (by kernel_rfl)) ?_;(try go_wp2);go_ret;exact⟨by rfl,HB.out⟩
     subst c29;have H1:(Xj.l0 k2 (l0_3.length:Int) (wrap64 (x37_2+1)) a0_0 a0_1 a0_2 l0_3 a1_0 a1_1 a1_2 l1_3)=some r:=by rw [if_pos rfl] at H;exact H
     clear H;have H:=H1;clear H1;have H':=Qa.mk H;clear H;(try go_wp2);replace BK134:=Qa.mk (Yg BK134.out);replace BK135:=Qa.mk (Yg BK135.out);replace HB:=Qa.mk (Zg HB.out);have p136:0≤(x37_2:Int):=of_decide_eq_true (by(with_reducible assumption));have q136:x37_2 < (l0_3.length:Int):=of_decide_eq_true (by(with_reducible assumption));obtain⟨ad136,A136_3,c136_3,e136,hx136_0,hx136_1,hx136_2,hx136_3,hl136_3,hi136_3⟩ :=Yf HR0_3.out x37_2 p136 q136;have hw136_3:=hx136_3;have hw136_2:=hx136_2;have hw136_1:=hx136_1;have hw136_0:=hx136_0
     cases e136
     replace hx136_0:=(HB.out.cell (World.block_lt_of_cell? w _ hx136_0)).trans hx136_0;replace hx136_1:=(HB.out.cell (World.block_lt_of_cell? w _ hx136_1)).trans hx136_1;replace hx136_2:=(HB.out.cell (World.block_lt_of_cell? w _ hx136_2)).trans hx136_2;replace hx136_3:=(HB.out.cell (World.block_lt_of_cell? w _ hx136_3)).trans hx136_3;have HR136_3:=Qa.mk hi136_3;have HC136_3:=Qa.mk hl136_3;clear hi136_3 hl136_3;replace p136:=eq_true p136;replace q136:=eq_true q136;have p137:0≤(x37_2:Int):=of_decide_eq_true (by(with_reducible assumption));have q137:x37_2 < (l1_3.length:Int):=of_decide_eq_true (by(with_reducible assumption));obtain⟨ad137,A137_3,c137_3,e137,hx137_0,hx137_1,hx137_2,hx137_3,hl137_3,hi137_3⟩ :=Yf HR1_3.out x37_2 p137 q137;have hw137_3:=hx137_3;have hw137_2:=hx137_2;have hw137_1:=hx137_1;have hw137_0:=hx137_0
     cases e137
     replace hx137_0:=(HB.out.cell (World.block_lt_of_cell? w _ hx137_0)).trans hx137_0;replace hx137_1:=(HB.out.cell (World.block_lt_of_cell? w _ hx137_1)).trans hx137_1;replace hx137_2:=(HB.out.cell (World.block_lt_of_cell? w _ hx137_2)).trans hx137_2;replace hx137_3:=(HB.out.cell (World.block_lt_of_cell? w _ hx137_3)).trans hx137_3;have HR137_3:=Qa.mk hi137_3;have HC137_3:=Qa.mk hl137_3;clear hi137_3 hl137_3;replace p137:=eq_true p137;replace q137:=eq_true q137;refine Y6 (n:=12) (S:=fun w'=>w'.cell? ⟨gb134,0,none⟩=some (.int .i64 a0_0)∧w'.cell? ⟨gb134,1,none⟩=some (.int .i64 a0_1)∧w'.cell? ⟨gb134,2,none⟩=some (.string a0_2)∧w'.cell? ⟨gb134,3,none⟩=some (.slice (some ad136) l0_3.length c0_3)∧w'.cell? ⟨gb135,0,none⟩=some (.int .i64 a1_0)∧w'.cell? ⟨gb135,1,none⟩=some (.int .i64 a1_1)∧w'.cell? ⟨gb135,2,none⟩=some (.string a1_2)∧w'.cell? ⟨gb135,3,none⟩=some (.slice (some ad137) l1_3.length c1_3)∧w'.cell? (ad136.add ((x37_2).toNat*4))=some (.int .i64 ((Qg l0_3 x37_2).f0))∧w'.cell? ⟨(ad136.add ((x37_2).toNat*4)).block,(ad136.add ((x37_2).toNat*4)).off+1,none⟩=some (.int .i64 ((Qg l0_3 x37_2).f1))∧w'.cell? ⟨(ad136.add ((x37_2).toNat*4)).block,(ad136.add ((x37_2).toNat*4)).off+2,none⟩=some (.string ((Qg l0_3 x37_2).f2))∧w'.cell? ⟨(ad136.add ((x37_2).toNat*4)).block,(ad136.add ((x37_2).toNat*4)).off+3,none⟩=some (.slice A136_3 ((Qg l0_3 x37_2).f3).length c136_3)∧w'.cell? (ad137.add ((x37_2).toNat*4))=some (.int .i64 ((Qg l1_3 x37_2).f0))∧w'.cell? ⟨(ad137.add ((x37_2).toNat*4)).block,(ad137.add ((x37_2).toNat*4)).off+1,none⟩=some (.int .i64 ((Qg l1_3 x37_2).f1))∧w'.cell? ⟨(ad137.add ((x37_2).toNat*4)).block,(ad137.add ((x37_2).toNat*4)).off+2,none⟩=some (.string ((Qg l1_3 x37_2).f2))∧w'.cell? ⟨(ad137.add ((x37_2).toNat*4)).block,(ad137.add ((x37_2).toNat*4)).off+3,none⟩=some (.slice A137_3 ((Qg l1_3 x37_2).f3).length c137_3)) (ds:=[]) #[false,false,false,false,false,false,false,false,false,false,false,false] (by kernel_rfl) rfl rfl ⟨(Qb BK134.out 0).trans rfl,(Qb BK134.out 1).trans rfl,(Qb BK134.out 2).trans rfl,(Qb BK134.out 3).trans rfl,(Qb BK135.out 0).trans rfl,(Qb BK135.out 1).trans rfl,(Qb BK135.out 2).trans rfl,(Qb BK135.out 3).trans rfl,((HB.out.cell (World.block_lt_of_cell? w _ hw136_0)).trans hw136_0),((HB.out.cell (World.block_lt_of_cell? w _ hw136_1)).trans hw136_1),((HB.out.cell (World.block_lt_of_cell? w _ hw136_2)).trans hw136_2),((HB.out.cell (World.block_lt_of_cell? w _ hw136_3)).trans hw136_3),((HB.out.cell (World.block_lt_of_cell? w _ hw137_0)).trans hw137_0),((HB.out.cell (World.block_lt_of_cell? w _ hw137_1)).trans hw137_1),((HB.out.cell (World.block_lt_of_cell? w _ hw137_2)).trans hw137_2),((HB.out.cell (World.block_lt_of_cell? w _ hw137_3)).trans hw137_3)⟩ (fun hHeld=>?_);refine Vh Xj.tab6 Xj.bits6 (fun HT_ HW_=>?_)
     generalize wr.drew=w30 at BK134 BK135 HB HR136_3 HR137_3 hx136_0 hx136_1 hx136_2 hx136_3 hx137_0 hx137_1 hx137_2 hx137_3 hHeld ⊢;refine Xv (i:=0) (N:=some 40) (v:=?_) (a':=?_) #[true,false,false,false,false,false,false,false,false,false,false,false] rfl rfl (X3 HT_.out (by kernel_rfl)) (fun _ _ _ h=>h) (Or.inl ⟨by rfl,?_⟩) ?_ ?_
     rotate_left
     ·intro w';go_simp;with_reducible rfl
     rotate_left
     ·simp only [Act.put,List.setIfInBounds_toArray,List.set_cons_zero,List.set_cons_succ,Xc,Xd];rfl
     refine Xv (i:=2) (N:=some 42) (v:=?_) (a':=?_) #[true,false,true,false,false,false,false,false,false,false,false,false] rfl rfl (X3 HT_.out (by kernel_rfl)) (fun _ _ _ h=>h) (Or.inl ⟨by rfl,?_⟩) ?_ ?_
     rotate_left
     ·intro w';go_simp;with_reducible rfl
     rotate_left
     ·simp only [Act.put,List.setIfInBounds_toArray,List.set_cons_zero,List.set_cons_succ,Xc,Xd];rfl
     refine Xv (i:=5) (N:=some 45) (v:=?_) (a':=?_) #[true,false,true,false,false,true,false,false,false,false,false,false] rfl rfl (X3 HT_.out (by kernel_rfl)) (fun _ _ _ h=>h) (Or.inl ⟨by rfl,?_⟩) ?_ ?_
     rotate_left
     ·intro w';go_simp;with_reducible rfl
     rotate_left
     ·simp only [Act.put,List.setIfInBounds_toArray,List.set_cons_zero,List.set_cons_succ,Xc,Xd];rfl
     refine Xv (i:=7) (N:=some 47) (v:=?_) (a':=?_) #[true,false,true,false,false,true,false,true,false,false,false,false] rfl rfl (X3 HT_.out (by kernel_rfl)) (fun _ _ _ h=>h) (Or.inl ⟨by rfl,?_⟩) ?_ ?_
     rotate_left
     ·intro w';go_simp;with_reducible rfl
     rotate_left
     ·simp only [Act.put,List.setIfInBounds_toArray,List.set_cons_zero,List.set_cons_succ,Xc,Xd];rfl
     refine Zt (i:=1) (N:=some 41) (v:=?_) (a':=?_) #[true,true,true,false,false,true,false,true,false,false,false,false] rfl rfl (Zf HT_.out HW_.out (by kernel_rfl)) (fun _ _ _ h=>h) (Or.inl ⟨by rfl,?_⟩) hHeld ?_ ?_
     rotate_left
     ·rintro w' ⟨s0,s1,s2,s3,s4,s5,s6,s7,s8,s9,s10,s11,s12,s13,s14,s15⟩;go_simp;with_reducible rfl
     rotate_left
     ·simp only [Act.put,List.setIfInBounds_toArray,List.set_cons_zero,List.set_cons_succ,Xc,Xd];rfl
     refine Xv (i:=3) (N:=some 43) (v:=?_) (a':=?_) #[true,true,true,true,false,true,false,true,false,false,false,false] rfl rfl (X3 HT_.out (by kernel_rfl)) (fun _ _ _ h=>h) (Or.inl ⟨by rfl,?_⟩) ?_ ?_
     rotate_left
     ·intro w';go_simp;with_reducible rfl
     rotate_left
     ·simp only [Act.put,List.setIfInBounds_toArray,List.set_cons_zero,List.set_cons_succ,Xc,Xd];rfl
     refine Zt (i:=4) (N:=some 44) (v:=?_) (a':=?_) #[true,true,true,true,true,true,false,true,false,false,false,false] rfl rfl (Zf HT_.out HW_.out (by kernel_rfl)) (fun _ _ _ h=>h) (Or.inl ⟨by rfl,?_⟩) hHeld ?_ ?_
     rotate_left
     ·rintro w' ⟨s0,s1,s2,s3,s4,s5,s6,s7,s8,s9,s10,s11,s12,s13,s14,s15⟩;go_simp;with_reducible rfl
     rotate_left
     ·simp only [Act.put,List.setIfInBounds_toArray,List.set_cons_zero,List.set_cons_succ,Xc,Xd];rfl
     refine Zt (i:=6) (N:=some 46) (v:=?_) (a':=?_) #[true,true,true,true,true,true,true,true,false,false,false,false] rfl rfl (Zf HT_.out HW_.out (by kernel_rfl)) (fun _ _ _ h=>h) (Or.inl ⟨by rfl,?_⟩) hHeld ?_ ?_
     rotate_left
     ·rintro w' ⟨s0,s1,s2,s3,s4,s5,s6,s7,s8,s9,s10,s11,s12,s13,s14,s15⟩;go_simp;with_reducible rfl
     rotate_left
     ·simp only [Act.put,List.setIfInBounds_toArray,List.set_cons_zero,List.set_cons_succ,Xc,Xd];rfl
     refine Xv (i:=8) (N:=some 48) (v:=?_) (a':=?_) #[true,true,true,true,true,true,true,true,true,false,false,false] rfl rfl (X3 HT_.out (by kernel_rfl)) (fun _ _ _ h=>h) (Or.inl ⟨by rfl,?_⟩) ?_ ?_
     rotate_left
     ·intro w';go_simp;with_reducible rfl
     rotate_left
     ·simp only [Act.put,List.setIfInBounds_toArray,List.set_cons_zero,List.set_cons_succ,Xc,Xd];rfl
     refine Zt (i:=9) (N:=some 49) (v:=?_) (a':=?_) #[true,true,true,true,true,true,true,true,true,true,false,false] rfl rfl (Zf HT_.out HW_.out (by kernel_rfl)) (fun _ _ _ h=>h) (Or.inl ⟨by rfl,?_⟩) hHeld ?_ ?_
     rotate_left
     ·rintro w' ⟨s0,s1,s2,s3,s4,s5,s6,s7,s8,s9,s10,s11,s12,s13,s14,s15⟩;go_simp;with_reducible rfl
     rotate_left
     ·simp only [Act.put,List.setIfInBounds_toArray,List.set_cons_zero,List.set_cons_succ,Xc,Xd];rfl
     refine Vn (i:=10) (N:=some 50) #[true,true,true,true,true,true,true,true,true,true,true,false] rfl rfl (Vk HT_.out (by kernel_rfl)) (by decide) (fun K hK=>?_);refine Vz Tryd.func28 (by kernel_rfl) rfl #[.agg #[.int .i64 ((Qg l0_3 x37_2).f0),.int .i64 ((Qg l0_3 x37_2).f1),.string ((Qg l0_3 x37_2).f2),.slice A136_3 ((Qg l0_3 x37_2).f3).length c136_3],.agg #[.int .i64 ((Qg l1_3 x37_2).f0),.int .i64 ((Qg l1_3 x37_2).f1),.string ((Qg l1_3 x37_2).f2),.slice A137_3 ((Qg l1_3 x37_2).f3).length c137_3]] (by rfl) rfl rfl (by(try simp only [List.map_toArray,List.map_cons,List.map_nil]);rfl) ?_;with_reducible refine(ih k2 (by have:=HJ2.out;have:=HK2.out;omega) ((Qg l0_3 x37_2).f0) ((Qg l0_3 x37_2).f1) ((Qg l0_3 x37_2).f2) _ _ ((Qg l0_3 x37_2).f3) ((Qg l1_3 x37_2).f0) ((Qg l1_3 x37_2).f1) ((Qg l1_3 x37_2).f2) _ _ ((Qg l1_3 x37_2).f3) true _ ?side1 ?side2 ?side3 ?side4 A28.out).mono ?_
     (case side1=>repeat(exact(Kd.C_below HR136_3.out HB.out)))
     (case side2=>exact HC136_3.out)
     (case side3=>repeat(exact(Kd.C_below HR137_3.out HB.out)))
     (case side4=>exact HC137_3.out)
     rintro e w31 ⟨rfl,hb⟩;refine⟨_,rfl,?_⟩;replace BK134:=Qa.mk (Q1 (g:=gb134) (o:=.cells #[.int .i64 a0_0,.int .i64 a0_1,.string a0_2,.slice (some ad136) l0_3.length c0_3] 26 (0,0)) BK134.out hb);replace BK135:=Qa.mk (Q1 (g:=gb135) (o:=.cells #[.int .i64 a1_0,.int .i64 a1_1,.string a1_2,.slice (some ad137) l1_3.length c1_3] 26 (0,0)) BK135.out hb);replace HB:=Qa.mk (Qr HB.out hb);(try clear hb);refine hK.out _ _ ⟨(Qb BK134.out 0).trans rfl,(Qb BK134.out 1).trans rfl,(Qb BK134.out 2).trans rfl,(Qb BK134.out 3).trans rfl,(Qb BK135.out 0).trans rfl,(Qb BK135.out 1).trans rfl,(Qb BK135.out 2).trans rfl,(Qb BK135.out 3).trans rfl,((HB.out.cell (World.block_lt_of_cell? w _ hw136_0)).trans hw136_0),((HB.out.cell (World.block_lt_of_cell? w _ hw136_1)).trans hw136_1),((HB.out.cell (World.block_lt_of_cell? w _ hw136_2)).trans hw136_2),((HB.out.cell (World.block_lt_of_cell? w _ hw136_3)).trans hw136_3),((HB.out.cell (World.block_lt_of_cell? w _ hw137_0)).trans hw137_0),((HB.out.cell (World.block_lt_of_cell? w _ hw137_1)).trans hw137_1),((HB.out.cell (World.block_lt_of_cell? w _ hw137_2)).trans hw137_2),((HB.out.cell (World.block_lt_of_cell? w _ hw137_3)).trans hw137_3)⟩ (fun hHeld=>?_);clear hK K;refine Va (a':=?_) ?_ ?_
     rotate_left
     ·show Act.put _ (some 50) _=_
      simp only [Act.put,List.setIfInBounds_toArray,List.set_cons_zero,List.set_cons_succ,Xc,Xd];rfl
     refine Xv (i:=11) (N:=some 51) (v:=?_) (a':=?_) #[true,true,true,true,true,true,true,true,true,true,true,true] rfl rfl (X3 HT_.out (by kernel_rfl)) (fun _ _ _ h=>h) (Or.inl ⟨by rfl,?_⟩) ?_ ?_
     rotate_left
     ·intro w';go_simp;with_reducible rfl
     rotate_left
     ·simp only [Act.put,List.setIfInBounds_toArray,List.set_cons_zero,List.set_cons_succ,Xc,Xd];rfl
     refine Wi (Wj HT_.out (by kernel_rfl)) ?_;(try go_wp2)
     go_roundg k2
     case measure=>have:=HJ2.out;have:=HK2.out;omega
     case rel=>exact⟨(wrap64 (x37_2+1)),(by rfl),H',⟨by have:=HJ2.out;have:=HK2.out;omega⟩,⟨BK134.out⟩,⟨BK135.out⟩,⟨HB.out⟩⟩
end Go.Proofs.YtglmdfddgmkmaaaDoor.Q
end
section
namespace Go.Proofs.YtglmdfddgmkmaaaDoor.Q
open Go.RowKit Go.Proofs.YtglmdfddgmkmaaaDoorW.PrintWords Go.Proofs.YtglmdfddgmkmaaaDoorW.PrintLast Go.Proofs.YtglmdfddgmkmaaaDoorW.PrintMore
attribute [local go_sem] Z0 Z2 Yd Ye Zq Zr Z1 Z3
set_option linter.unusedVariables false
set_option linter.unusedSimpArgs false
def Fr:List ByteArray:=[⟨#[]⟩,⟨#[]⟩,⟨#[]⟩,⟨#[45]⟩,⟨#[43]⟩,⟨#[33]⟩,⟨#[126]⟩,⟨#[42]⟩,⟨#[47]⟩,⟨#[37]⟩,⟨#[43]⟩,⟨#[45]⟩,⟨#[60,60]⟩,⟨#[62,62]⟩,⟨#[60]⟩,⟨#[62]⟩,⟨#[60,61]⟩,⟨#[62,61]⟩,⟨#[61,61]⟩,⟨#[33,61]⟩,⟨#[38]⟩,⟨#[94]⟩,⟨#[124]⟩,⟨#[38,38]⟩,⟨#[124,124]⟩]
def Z4.f (a0:Int):Option ByteArray:=if 0≤a0 then Fr[a0.toNat]? else none
section
variable {P:Program} {ops:Array Oper} {rest:List Oper} {o:Oper} {a:Act} {Q:Exit→Act→World→Prop}
theorem K8 {W:World} (hgd:o.guard=none) (t:TypeId) (p q:Operand) (hN:o.dst=none) (ho:o.op=.store t p q) {c c':Array Value} 
 (hp:a.eval p=.pointer (some ⟨W.heap.size,0,none⟩)) (hq:a.eval q=.agg c') (hi:(P.info? t).map (·.size)=some c'.size) (hs:c.size=c'.size) (h1:c'.all (·.oneCell')=true) (h:∀W',W'.heap[W.heap.size]? =some (.cells c' t (0,0))→Below W.heap.size W W'→wpList P ops Q rest a W'):wpList P ops Q (o::rest) a (W.alloc (.cells c t)):=by
 have hrun:(execOp a.eval o).run P (W.alloc (.cells c t))=.ok .skip (W.alloc (.cells c' t)):=by
  unfold execOp;simp only [ho,hp,hq];have h:=run_storeAt_new (P:=P) W t c c' hi hs h1;simp only [Instr.storeAt,Instr.sureAddr,Sem.run_bind,Sem.run_pure,Result.andThen] at h ⊢;simp [h]
 refine wpList_plain hgd fun K hK=>?_
 unfold Oper.wp;rw [hrun]
 show K (a.put o.dst undef) _
 rw [hN];exact hK _ _ (h _ (heap_alloc_new W _) (Xu (Below.refl _ _) _))
end
set_option maxRecDepth 100000 in
set_option maxHeartbeats 2000000 in
theorem Ss (n:Int) (h0:0≤n) (h1:n < 25) (r:ByteArray) (hr:Fr[n.toNat]? =some r) (w:World):Calls Tryd.prog 80 #[.int .i64 n] w fun e w'=>e=.returned (.string r)∧Below w.heap.size w w':=by
 have hu:=Tryd.underlying114;have hu9:=Tryd.underlying9;go_enter Tryd.func80,Tryd.ntmps80;go_upto_region 2 with (refine K8 rfl 114 (.tmp 3) (.tmp 4) rfl rfl rfl rfl (by kernel_rfl) (by rfl) (by kernel_rfl) ?_;intro W hrow hB)
 have hc:W.cell? ⟨w.heap.size,n.toNat,none⟩=some (.string r):=by
  refine(Qb hrow n.toNat).trans ?_
  have he:∀cs:Array Value,cs=(Fr.map Value.string).toArray→cs[n.toNat]? =some (.string r):=by
   intro cs hcs;subst hcs;simp [hr]
  exact he _ rfl
 have hB':=Qa.mk hB;clear hB;have p1:(0≤n)=True:=eq_true h0;have p2:(n < 25)=True:=eq_true h1;have p3:(n < 0)=False:=eq_false (by omega);have p4:(25≤n)=False:=eq_false (by omega);clear hrow;go_wp2;exact bodyPost_ret (results_tmp rfl _ _ _) rfl ⟨rfl,hB'.out⟩
theorem Z4.calls (a0:Int) (r:ByteArray) (w:World) (h:Z4.f a0=some r):Calls Tryd.prog 80 #[.int .i64 a0] w fun e w'=>e=.returned (.string r)∧Below w.heap.size w w':=by
 unfold Z4.f at h;split at h
 ·rename_i h0
  have hl:Fr.length=25 :=rfl
  have h1:a0.toNat < Fr.length:=by
   rcases Nat.lt_or_ge a0.toNat Fr.length with h1|h1
   ·exact h1
   rw [List.getElem?_eq_none h1] at h;simp at h
  exact Ss a0 h0 (by omega) r h w
 simp at h
end Go.Proofs.YtglmdfddgmkmaaaDoor.Q
end
section
namespace Go.Proofs.YtglmdfddgmkmaaaDoor.Q
open Go.RowKit Go.Proofs.YtglmdfddgmkmaaaDoorW.PrintWords Go.Proofs.YtglmdfddgmkmaaaDoorW.PrintLast Go.Proofs.YtglmdfddgmkmaaaDoorW.PrintMore
attribute [local go_sem] Z0 Z2 Yd Ye Zq Zr Z1 Z3
set_option linter.unusedVariables false
set_option linter.unusedSimpArgs false
mutual
def Xq.j0:Nat→Bool→Int→Int→ByteArray→List (S26)→Option (Int)
 |0,_,_,_,_,_=>none
 |k+1,x3,x109000,x109001,x109002,x109003=>if x109000=1 then(Xq.j1 k x3 (decide (x109001 ≥ 0)) x109000 x109001 x109002 x109003) else(if x109000=26 then((V9.f x109001).bind fun t109=>(Xq.j1 k x3 t109 x109000 x109001 x109002 x109003)) else(Xq.j1 k x3 (x109001==0) x109000 x109001 x109002 x109003))
def Xq.j1:Nat→Bool→Bool→Int→Int→ByteArray→List (S26)→Option (Int)
 |0,_,_,_,_,_,_=>none
 |k+1,x3,x4,x109000,x109001,x109002,x109003=>(X0.f k x109000).bind fun t110=>(if t110=(x109003.length:Int) then(if x4=true then(Xq.j2 k x3 (x3 !=(x109002.toList !=([]:List UInt8))) x109000 x109001 x109002 x109003) else(Xq.j2 k x3 true x109000 x109001 x109002 x109003)) else(Xq.j2 k x3 true x109000 x109001 x109002 x109003))
def Xq.j2:Nat→Bool→Bool→Int→Int→ByteArray→List (S26)→Option (Int)
 |0,_,_,_,_,_,_=>none
 |k+1,x3,x45,x109000,x109001,x109002,x109003=>if x45=true then(some 1) else(if x3=true then((Yo.f x109002).bind fun t111=>(if t111=true then(some 0) else(some 10))) else(some 0))
end
def Xq.f (k:Nat) (a0_0:Int) (a0_1:Int) (a0_2:ByteArray) (l0_3:List (S26)):Option (Int):=if a0_0=2 then(Xq.j0 k true a0_0 a0_1 a0_2 l0_3) else(Xq.j0 k (a0_0==26) a0_0 a0_1 a0_2 l0_3)
theorem Xq.mono_l:∀k,(∀y0 y1 y2 y3 y4,LeO (Xq.j0 k y0 y1 y2 y3 y4) (Xq.j0 (k+1) y0 y1 y2 y3 y4))∧(∀y0 y1 y2 y3 y4 y5,LeO (Xq.j1 k y0 y1 y2 y3 y4 y5) (Xq.j1 (k+1) y0 y1 y2 y3 y4 y5))∧(∀y0 y1 y2 y3 y4 y5,LeO (Xq.j2 k y0 y1 y2 y3 y4 y5) (Xq.j2 (k+1) y0 y1 y2 y3 y4 y5))
 |0=>⟨fun _ _ _ _ _ r h=>by simp [Xq.j0] at h,fun _ _ _ _ _ _ r h=>by simp [Xq.j1] at h,fun _ _ _ _ _ _ r h=>by simp [Xq.j2] at h⟩
 |k+1=>by
  obtain⟨ih0,ih1,ih2⟩ :=Xq.mono_l k;refine⟨?_,?_,?_⟩
  ·intro y0 y1 y2 y3 y4;unfold Xq.j0;repeat' first
   |(with_reducible exact ih1 _ _ _ _ _ _)
   |(with_reducible exact LeO.refl _)
   |(with_reducible refine LeO.ite ?_ ?_)
   |(with_reducible refine LeO.bind ?_ (fun _=>?_))
  ·intro y0 y1 y2 y3 y4 y5;unfold Xq.j1;repeat' first
   |(with_reducible exact ih2 _ _ _ _ _ _)
   |(with_reducible exact X0.mono _ _)
   |(with_reducible refine LeO.ite ?_ ?_)
   |(with_reducible refine LeO.bind ?_ (fun _=>?_))
  ·intro y0 y1 y2 y3 y4 y5;unfold Xq.j2;repeat' (with_reducible exact LeO.refl _)
theorem Xq.mono:∀a0 a1 a2 a3 k,LeO (Xq.f k a0 a1 a2 a3) (Xq.f (k+1) a0 a1 a2 a3):=by
 intro a0 a1 a2 a3 k;obtain⟨ih0,ih1,ih2⟩ :=Xq.mono_l k;unfold Xq.f
 repeat' first
  |(with_reducible exact ih0 _ _ _ _ _)
  |(with_reducible refine LeO.ite ?_ ?_)
set_option maxHeartbeats 8000000 in
set_option maxRecDepth 100000 in
theorem Xq.calls (k:Nat) (a0_0:Int) (a0_1:Int) (a0_2:ByteArray) (A0_3:Option Addr) (c0_3:Nat) (l0_3:List (S26)) (r:Int) (w:World) (hr0_3:Kd.C k26 w A0_3 l0_3.length l0_3) (hc0_3:l0_3.length≤c0_3) (h:Xq.f k a0_0 a0_1 a0_2 l0_3=some r):
 Calls Tryd.prog 85 #[.agg #[.int .i64 a0_0,.int .i64 a0_1,.string a0_2,.slice A0_3 l0_3.length c0_3]] w fun e w'=>e=.returned (.int .i64 r)∧Below w.heap.size w w':=by
 clear hr0_3 hc0_3;have HB:=Qa.mk (Below.refl w.heap.size w);have H:(if a0_0=2 then(Xq.j0 k true a0_0 a0_1 a0_2 l0_3) else(Xq.j0 k (a0_0==26) a0_0 a0_1 a0_2 l0_3))=some r:=h;clear h;have HC2:=Qa.mk H;clear H;go_enter Tryd.func85,Tryd.ntmps85;go_upto_region 1 with (((with_reducible refine Q0 (N:=1) rfl ?_);refine Xm ?hg (N:=1) ?hd (cs:=#[.int .i64 a0_0,.int .i64 a0_1,.string a0_2,.slice A0_3 l0_3.length c0_3]) (t:=26) ?hr ?_;(case hd=>rfl);(case hg=>rfl);(case hr=>(go_simp;done));intro gb108 hg w3 hbox hb;replace HB:=Qa.mk (Qr HB.out hb);have BK108:=Qa.mk hbox;clear hb hbox hg))
 go_cut [3] (fun v3 wc=>∃(kq:Nat) (x3_1:Bool),v3=.bool x3_1∧Qa (Xq.j0 kq x3_1 a0_0 a0_1 a0_2 l0_3=some r)∧Qa (kq≤k)∧Qa (wc.heap[gb108]? =some (.cells #[.int .i64 a0_0,.int .i64 a0_1,.string a0_2,(.slice A0_3 l0_3.length c0_3)] 26 (0,0)))∧Qa (Below w.heap.size w wc))
 case first=>
  have H:=HC2.out;clear HC2;by_cases c4:a0_0=2
  rotate_left
  ·rw [if_neg c4] at H;have c4b0:(a0_0==2)=false:=beq_eq_false_iff_ne.mpr c4;have H':=Qa.mk H;clear H;have hcz6_0:w3.cell? ⟨gb108,0,none⟩=some (.int .i64 a0_0):=(Qb BK108.out 0).trans rfl;go_wp2
   go_meet
   case rel=>exact⟨_,((a0_0==26)),(by rfl),H',⟨by omega⟩,⟨BK108.out⟩,⟨HB.out⟩⟩
  rw [if_pos c4] at H;have c4b0:(a0_0==2)=true:=beq_iff_eq.mpr c4;clear c4;have H':=Qa.mk H;clear H;have hcz5_0:w3.cell? ⟨gb108,0,none⟩=some (.int .i64 a0_0):=(Qb BK108.out 0).trans rfl;go_wp2
  go_meet
  case rel=>exact⟨_,true,(by rfl),H',⟨by omega⟩,⟨BK108.out⟩,⟨HB.out⟩⟩
 case rest=>
  clear HC2;obtain⟨kq,x3_1,rfl,HA,HJ1,BK108,HB⟩ :=hcut
  cases kq with
  |zero=>exact absurd HA.out (by simp [Xq.j0])
  |succ kj1=>
   have H:=HA.out;clear HA;simp only [Xq.j0] at H;have HC7:=Qa.mk H;clear H;have hcz8_0:wc.cell? ⟨gb108,0,none⟩=some (.int .i64 a0_0):=(Qb BK108.out 0).trans rfl;have hcz8_1:wc.cell? ⟨gb108,1,none⟩=some (.int .i64 a0_1):=(Qb BK108.out 1).trans rfl;go_upto_block 0 with (fail)
   go_cut [4] (fun v4 wc=>∃(kq:Nat) (x4_6:Bool),v4=.bool x4_6∧Qa (Xq.j1 kq x3_1 x4_6 a0_0 a0_1 a0_2 l0_3=some r)∧Qa (kq≤kj1)∧Qa (wc.heap[gb108]? =some (.cells #[.int .i64 a0_0,.int .i64 a0_1,.string a0_2,(.slice A0_3 l0_3.length c0_3)] 26 (0,0)))∧Qa (Below w.heap.size w wc))
   case first=>
    have H:=HC7.out;clear HC7;by_cases c9:a0_0=1
    ·rw [if_pos c9] at H;have c9b0:(a0_0==1)=true:=beq_iff_eq.mpr c9;clear c9;have H':=Qa.mk H;clear H;go_wp2
     go_meet
     case rel=>exact⟨_,(decide (a0_1 ≥ 0)),(by rfl),H',⟨by have:=HJ1.out;omega⟩,⟨BK108.out⟩,⟨HB.out⟩⟩
    rw [if_neg c9] at H;have c9b0:(a0_0==1)=false:=beq_eq_false_iff_ne.mpr c9;by_cases c11:a0_0=26
    rotate_left
    ·rw [if_neg c11] at H;have c11b0:(a0_0==26)=false:=beq_eq_false_iff_ne.mpr c11;have H':=Qa.mk H;clear H;go_wp2
     go_meet
     case rel=>exact⟨_,((a0_1==0)),(by rfl),H',⟨by have:=HJ1.out;omega⟩,⟨BK108.out⟩,⟨HB.out⟩⟩
    rw [if_pos c11] at H;have c11b0:(a0_0==26)=true:=beq_iff_eq.mpr c11;clear c11;replace H:=Option.bind_eq_some_iff.mp H;obtain⟨t109,A120,H⟩ :=H;try dsimp only at H
    have A12:=Qa.mk A120;clear A120;have H':=Qa.mk H;clear H;go_wp2_with((go_at_call 115;(with_reducible refine(V9.calls a0_1 t109 _ A12.out).mono ?_);rintro e w' ⟨rfl,⟨nd,rfl⟩⟩))
    go_meet
    case rel=>exact⟨_,t109,(by rfl),H',⟨by have:=HJ1.out;omega⟩,⟨by(with_reducible repeat(refine Yn ?_ _));exact BK108.out⟩,⟨by repeat(with_reducible first|exact HB.out|apply Q6)⟩⟩
   case rest=>
    clear HC7;(try clear hcz8_0);(try clear hcz8_1);obtain⟨kq,x4_6,rfl,HA,HJ6,BK108,HB⟩ :=hcut
    cases kq with
    |zero=>exact absurd HA.out (by simp [Xq.j1])
    |succ kj6=>
     have H:=HA.out;clear HA;simp only [Xq.j1] at H;have HC14:=Qa.mk H;clear H;go_upto_region 8 with (fail)
     go_cut [45] (fun v45 wc=>∃(kq:Nat) (x45_13:Bool),v45=.bool x45_13∧Qa (Xq.j2 kq x3_1 x45_13 a0_0 a0_1 a0_2 l0_3=some r)∧Qa (kq≤kj6)∧Qa (wc.heap[gb108]? =some (.cells #[.int .i64 a0_0,.int .i64 a0_1,.string a0_2,(.slice A0_3 l0_3.length c0_3)] 26 (0,0)))∧Qa (Below w.heap.size w wc))
     case first=>
      have H:=HC14.out;clear HC14;replace H:=Option.bind_eq_some_iff.mp H;obtain⟨t110,A150,H⟩ :=H;try dsimp only at H
      have A15:=Qa.mk A150;clear A150;by_cases c16:t110=(l0_3.length:Int)
      rotate_left
      ·rw [if_neg c16] at H;have c16b1:(t110 !=(l0_3.length:Int))=true:=bne_iff_ne.mpr c16;have H':=Qa.mk H;clear H;have hcz20_0:wc.cell? ⟨gb108,0,none⟩=some (.int .i64 a0_0):=(Qb BK108.out 0).trans rfl;have hcz20_3:wc.cell? ⟨gb108,3,none⟩=some (.slice A0_3 l0_3.length c0_3):=(Qb BK108.out 3).trans rfl;go_wp2_with fail;repeat(go_quiet (first|(go_at_call 116;(with_reducible refine(X0.calls kj6 a0_0 t110 _ A15.out).mono ?_);rintro e w' ⟨rfl,⟨nd,rfl⟩⟩;(try first|exact⟨rfl,_,World.drewN_drewN _ _ _⟩|exact⟨rfl,_,Eq.trans (World.drewN_drewN _ _ _) (congrArg (World.drewN _) (Nat.add_assoc _ _ _))⟩)));try go_wp2_with fail)
       go_meet
       case rel=>exact⟨_,true,(by rfl),H',⟨by have:=HJ1.out;have:=HJ6.out;omega⟩,⟨by(with_reducible repeat(refine Yn ?_ _));exact BK108.out⟩,⟨by repeat(with_reducible first|exact HB.out|apply Q6)⟩⟩
      rw [if_pos c16] at H;have c16b1:(t110 !=(l0_3.length:Int))=false:=bne_eq_false_iff_eq.mpr c16;clear c16;by_cases c17:x4_6=true
      ·subst c17;have H1:(Xq.j2 kj6 x3_1 (x3_1 !=(a0_2.toList !=([]:List UInt8))) a0_0 a0_1 a0_2 l0_3)=some r:=by rw [if_pos rfl] at H;exact H
       clear H;have H:=H1;clear H1;have H':=Qa.mk H;clear H;have hcz18_0:wc.cell? ⟨gb108,0,none⟩=some (.int .i64 a0_0):=(Qb BK108.out 0).trans rfl;have hcz18_2:wc.cell? ⟨gb108,2,none⟩=some (.string a0_2):=(Qb BK108.out 2).trans rfl;have hcz18_3:wc.cell? ⟨gb108,3,none⟩=some (.slice A0_3 l0_3.length c0_3):=(Qb BK108.out 3).trans rfl;go_wp2_with fail;repeat(go_quiet (first|(go_at_call 116;(with_reducible refine(X0.calls kj6 a0_0 t110 _ A15.out).mono ?_);rintro e w' ⟨rfl,⟨nd,rfl⟩⟩;(try first|exact⟨rfl,_,World.drewN_drewN _ _ _⟩|exact⟨rfl,_,Eq.trans (World.drewN_drewN _ _ _) (congrArg (World.drewN _) (Nat.add_assoc _ _ _))⟩)));try go_wp2_with fail)
       go_meet
       case rel=>exact⟨_,((x3_1 !=(a0_2.toList !=([]:List UInt8)))),(by(cases x3_1 <;> cases a0_2.toList <;> rfl)),H',⟨by have:=HJ1.out;have:=HJ6.out;omega⟩,⟨by(with_reducible repeat(refine Yn ?_ _));exact BK108.out⟩,⟨by repeat(with_reducible first|exact HB.out|apply Q6)⟩⟩
      replace c17:=Bool.eq_false_iff.mpr c17;subst c17;have H1:(Xq.j2 kj6 x3_1 true a0_0 a0_1 a0_2 l0_3)=some r:=by rw [if_neg (show ¬(false=true) by decide)] at H;exact H
      clear H;have H:=H1;clear H1;have H':=Qa.mk H;clear H;have hcz19_0:wc.cell? ⟨gb108,0,none⟩=some (.int .i64 a0_0):=(Qb BK108.out 0).trans rfl;have hcz19_3:wc.cell? ⟨gb108,3,none⟩=some (.slice A0_3 l0_3.length c0_3):=(Qb BK108.out 3).trans rfl;go_wp2_with fail;repeat(go_quiet (first|(go_at_call 116;(with_reducible refine(X0.calls kj6 a0_0 t110 _ A15.out).mono ?_);rintro e w' ⟨rfl,⟨nd,rfl⟩⟩;(try first|exact⟨rfl,_,World.drewN_drewN _ _ _⟩|exact⟨rfl,_,Eq.trans (World.drewN_drewN _ _ _) (congrArg (World.drewN _) (Nat.add_assoc _ _ _))⟩)));try go_wp2_with fail)
      go_meet
      case rel=>exact⟨_,true,(by rfl),H',⟨by have:=HJ1.out;have:=HJ6.out;omega⟩,⟨by(with_reducible repeat(refine Yn ?_ _));exact BK108.out⟩,⟨by repeat(with_reducible first|exact HB.out|apply Q6)⟩⟩
     case rest=>
      clear HC14;obtain⟨kq,x45_13,rfl,HA,HJ13,BK108,HB⟩ :=hcut
      cases kq with
      |zero=>exact absurd HA.out (by simp [Xq.j2])
      |succ kj13=>
       have H:=HA.out;clear HA;simp only [Xq.j2] at H;by_cases c21:x45_13=true
       ·subst c21;have H1:(some 1)=some r:=by rw [if_pos rfl] at H;exact H
        clear H;have H:=H1;clear H1;obtain rfl:=Option.some.inj H;go_wp2;go_ret;exact⟨by rfl,HB.out⟩
       replace c21:=Bool.eq_false_iff.mpr c21;subst c21;have H1:(if x3_1=true then((Yo.f a0_2).bind fun t111=>(if t111=true then(some 0) else(some 10))) else(some 0))=some r:=by rw [if_neg (show ¬(false=true) by decide)] at H;exact H
       clear H;have H:=H1;clear H1;by_cases c22:x3_1=true
       rotate_left
       ·replace c22:=Bool.eq_false_iff.mpr c22;subst c22;have H1:(some 0)=some r:=by rw [if_neg (show ¬(false=true) by decide)] at H;exact H
        clear H;have H:=H1;clear H1;obtain rfl:=Option.some.inj H;go_wp2;go_ret;exact⟨by rfl,HB.out⟩
       subst c22;have H1:((Yo.f a0_2).bind fun t111=>(if t111=true then(some 0) else(some 10)))=some r:=by rw [if_pos rfl] at H;exact H
       clear H;have H:=H1;clear H1;replace H:=Option.bind_eq_some_iff.mp H;obtain⟨t111,A230,H⟩ :=H;try dsimp only at H
       have A23:=Qa.mk A230;clear A230;by_cases c24:t111=true
       ·subst c24;have H1:(some 0)=some r:=by rw [if_pos rfl] at H;exact H
        clear H;have H:=H1;clear H1;obtain rfl:=Option.some.inj H;have hcz25_2:wc.cell? ⟨gb108,2,none⟩=some (.string a0_2):=(Qb BK108.out 2).trans rfl;go_wp2_with((go_at_call 117;(with_reducible refine(Yo.calls a0_2 true _ A23.out).mono ?_);rintro e w26 ⟨rfl,hb⟩;replace BK108:=Qa.mk (Q1 (g:=gb108) (o:=.cells #[.int .i64 a0_0,.int .i64 a0_1,.string a0_2,.slice A0_3 l0_3.length c0_3] 26 (0,0)) BK108.out hb);replace HB:=Qa.mk (Qr HB.out hb);(try clear hb)));go_ret;exact⟨by rfl,HB.out⟩
       replace c24:=Bool.eq_false_iff.mpr c24;subst c24;have H1:(some 10)=some r:=by rw [if_neg (show ¬(false=true) by decide)] at H;exact H
       clear H;have H:=H1;clear H1;obtain rfl:=Option.some.inj H;have hcz27_2:wc.cell? ⟨gb108,2,none⟩=some (.string a0_2):=(Qb BK108.out 2).trans rfl;go_wp2_with((go_at_call 117;(with_reducible refine(Yo.calls a0_2 false _ A23.out).mono ?_);rintro e w28 ⟨rfl,hb⟩;replace BK108:=Qa.mk (Q1 (g:=gb108) (o:=.cells #[.int .i64 a0_0,.int .i64 a0_1,.string a0_2,.slice A0_3 l0_3.length c0_3] 26 (0,0)) BK108.out hb);replace HB:=Qa.mk (Qr HB.out hb);(try clear hb)));go_ret;exact⟨by rfl,HB.out⟩
mutual
def X5.l0:Nat→Int→List (S26)→Int→Int→Option (Int)
 |0,_,_,_,_=>none
 |k+1,x1,x17,x18,x19=>if x19 < x18 then(if 0≤x19 then(if x19 < (x17.length:Int) then((X5.f k ((Qg x17 x19).f0) ((Qg x17 x19).f1) ((Qg x17 x19).f2) ((Qg x17 x19).f3) (wrap64 (x1+1))).bind fun t116=>(if t116=0 then(X5.l0 k x1 x17 x18 (wrap64 (x19+1))) else(some t116))) else(none)) else(none)) else(some 0)
def X5.f:Nat→Int→Int→ByteArray→List (S26)→Int→Option (Int)
 |0,_,_,_,_,_=>none
 |k+1,a0_0,a0_1,a0_2,l0_3,a1=>if a1 ≥ 32 then(some 5) else((Xq.f k a0_0 a0_1 a0_2 l0_3).bind fun t113=>(if t113=0 then(X5.l0 k a1 l0_3 (l0_3.length:Int) 0) else(some t113)))
end
theorem X5.mono_l:∀k,(∀y0 y1 y2 y3 y4,LeO (X5.f k y0 y1 y2 y3 y4) (X5.f (k+1) y0 y1 y2 y3 y4))∧(∀y0 y1 y2 y3,LeO (X5.l0 k y0 y1 y2 y3) (X5.l0 (k+1) y0 y1 y2 y3))
 |0=>⟨fun _ _ _ _ _ r h=>by simp [X5.f] at h,fun _ _ _ _ r h=>by simp [X5.l0] at h⟩
 |k+1=>by
  obtain⟨ih0,ih1⟩ :=X5.mono_l k;refine⟨?_,?_⟩
  ·intro y0 y1 y2 y3 y4;unfold X5.f;repeat' first
   |(with_reducible exact ih1 _ _ _ _)
   |(with_reducible exact Xq.mono _ _ _ _ _)
   |(with_reducible exact LeO.refl _)
   |(with_reducible refine LeO.ite ?_ ?_)
   |(with_reducible refine LeO.bind ?_ (fun _=>?_))
  intro y0 y1 y2 y3;unfold X5.l0;repeat' first
  |(with_reducible exact ih0 _ _ _ _ _)
  |(with_reducible exact ih1 _ _ _ _)
  |(with_reducible exact LeO.refl _)
  |(with_reducible refine LeO.ite ?_ ?_)
  |(with_reducible refine LeO.bind ?_ (fun _=>?_))
theorem X5.mono:∀a0 a1 a2 a3 a4 k,LeO (X5.f k a0 a1 a2 a3 a4) (X5.f (k+1) a0 a1 a2 a3 a4):=by
 intro a0 a1 a2 a3 a4 k;obtain⟨ih0,ih1⟩ :=X5.mono_l k;exact ih0 a0 a1 a2 a3 a4
set_option maxHeartbeats 8000000 in
set_option maxRecDepth 100000 in
theorem X5.calls (k:Nat):∀(a0_0:Int) (a0_1:Int) (a0_2:ByteArray) (A0_3:Option Addr) (c0_3:Nat) (l0_3:List (S26)) (a1:Int) (r:Int) (w:World) (hr0_3:Kd.C k26 w A0_3 l0_3.length l0_3) (hc0_3:l0_3.length≤c0_3) (h:X5.f k a0_0 a0_1 a0_2 l0_3 a1=some r),
 Calls Tryd.prog 54 #[.agg #[.int .i64 a0_0,.int .i64 a0_1,.string a0_2,.slice A0_3 l0_3.length c0_3],.int .i64 a1] w fun e w'=>e=.returned (.int .i64 r)∧Below w.heap.size w w':=by
 induction k using Nat.strongRecOn with
 |_ k ih=>
 intro a0_0 a0_1 a0_2 A0_3 c0_3 l0_3 a1 r w hr0_3 hc0_3 h
 cases k with
 |zero=>exact absurd h (by simp [X5.f])
 |succ k=>
 simp only [X5.f] at h;have HR0_3:=Qa.mk hr0_3;have HC0_3:=Qa.mk hc0_3;clear hr0_3 hc0_3;have HB:=Qa.mk (Below.refl w.heap.size w);have H:(if a1 ≥ 32 then(some 5) else((Xq.f k a0_0 a0_1 a0_2 l0_3).bind fun t113=>(if t113=0 then(X5.l0 k a1 l0_3 (l0_3.length:Int) 0) else(some t113))))=some r:=h
 clear h;by_cases c3:a1 ≥ 32
 ·rw [if_pos c3] at H;have c3b0:decide (32≤a1)=true:=decide_eq_true c3;clear c3;obtain rfl:=Option.some.inj H;go_enter Tryd.func54,Tryd.ntmps54;go_wp2_with(((with_reducible refine Q0 (N:=2) rfl ?_);refine Xm ?hg (N:=2) ?hd (cs:=#[.int .i64 a0_0,.int .i64 a0_1,.string a0_2,.slice A0_3 l0_3.length c0_3]) (t:=26) ?hr ?_;(case hd=>rfl);(case hg=>rfl);(case hr=>(go_simp;done));intro gb112 hg w4 hbox hb;replace HB:=Qa.mk (Qr HB.out hb);have BK112:=Qa.mk hbox;clear hb hbox hg))
  go_ret
  exact⟨by rfl,HB.out⟩
 rw [if_neg c3] at H;have c3b0:decide (32≤a1)=false:=decide_eq_false c3;clear c3;replace H:=Option.bind_eq_some_iff.mp H;obtain⟨t113,A50,H⟩ :=H;try dsimp only at H
 have A5:=Qa.mk A50;clear A50;by_cases c6:t113=0
 rotate_left
 ·rw [if_neg c6] at H;have c6b1:(t113 !=0)=true:=bne_iff_ne.mpr c6;obtain rfl:=Option.some.inj H;go_enter Tryd.func54,Tryd.ntmps54;go_wp2_with(first|((with_reducible refine Q0 (N:=2) rfl ?_);refine Xm ?hg (N:=2) ?hd (cs:=#[.int .i64 a0_0,.int .i64 a0_1,.string a0_2,.slice A0_3 l0_3.length c0_3]) (t:=26) ?hr ?_;(case hd=>rfl);(case hg=>rfl);(case hr=>(go_simp;done));intro gb112 hg w24 hbox hb;replace HB:=Qa.mk (Qr HB.out hb);have BK112:=Qa.mk hbox;clear hb hbox hg;have hcz25_0:w24.cell? ⟨gb112,0,none⟩=some (.int .i64 a0_0):=(Qb BK112.out 0).trans rfl;have hcz25_1:w24.cell? ⟨gb112,1,none⟩=some (.int .i64 a0_1):=(Qb BK112.out 1).trans rfl;have hcz25_2:w24.cell? ⟨gb112,2,none⟩=some (.string a0_2):=(Qb BK112.out 2).trans rfl;have hcz25_3:w24.cell? ⟨gb112,3,none⟩=some (.slice A0_3 l0_3.length c0_3):=(Qb BK112.out 3).trans rfl)|((with_reducible refine Qp (f:=85) rfl ?_);refine Xh (some 12) rfl rfl Tryd.func85 (by kernel_rfl) rfl #[.agg #[.int .i64 a0_0,.int .i64 a0_1,.string a0_2,.slice A0_3 l0_3.length c0_3]] rfl (by(try simp only [List.map_toArray,List.map_cons,List.map_nil]);rfl) ?_;(with_reducible refine(Xq.calls k a0_0 a0_1 a0_2 _ _ l0_3 t113 _ ?side1 HC0_3.out A5.out).mono ?_);(case side1=>repeat(exact(Kd.C_below HR0_3.out HB.out)));rintro e w26 ⟨rfl,hb⟩;refine⟨_,rfl,?_⟩;replace BK112:=Qa.mk (Q1 (g:=gb112) (o:=.cells #[.int .i64 a0_0,.int .i64 a0_1,.string a0_2,.slice A0_3 l0_3.length c0_3] 26 (0,0)) BK112.out hb);replace HB:=Qa.mk (Qr HB.out hb);(try clear hb)))
  go_ret
  exact⟨by rfl,HB.out⟩
 rw [if_pos c6] at H;have c6b1:(t113 !=0)=false:=bne_eq_false_iff_eq.mpr c6;clear c6;have H':=Qa.mk H;clear H;go_enter Tryd.func54,Tryd.ntmps54;go_wp2_with(first|((with_reducible refine Q0 (N:=2) rfl ?_);refine Xm ?hg (N:=2) ?hd (cs:=#[.int .i64 a0_0,.int .i64 a0_1,.string a0_2,.slice A0_3 l0_3.length c0_3]) (t:=26) ?hr ?_;(case hd=>rfl);(case hg=>rfl);(case hr=>(go_simp;done));intro gb112 hg w7 hbox hb;replace HB:=Qa.mk (Qr HB.out hb);have BK112:=Qa.mk hbox;clear hb hbox hg;have hcz8_0:w7.cell? ⟨gb112,0,none⟩=some (.int .i64 a0_0):=(Qb BK112.out 0).trans rfl;have hcz8_1:w7.cell? ⟨gb112,1,none⟩=some (.int .i64 a0_1):=(Qb BK112.out 1).trans rfl;have hcz8_2:w7.cell? ⟨gb112,2,none⟩=some (.string a0_2):=(Qb BK112.out 2).trans rfl;have hcz8_3:w7.cell? ⟨gb112,3,none⟩=some (.slice A0_3 l0_3.length c0_3):=(Qb BK112.out 3).trans rfl)|((with_reducible refine Qp (f:=85) rfl ?_);refine Xh (some 12) rfl rfl Tryd.func85 (by kernel_rfl) rfl #[.agg #[.int .i64 a0_0,.int .i64 a0_1,.string a0_2,.slice A0_3 l0_3.length c0_3]] rfl (by(try simp only [List.map_toArray,List.map_cons,List.map_nil]);rfl) ?_;(with_reducible refine(Xq.calls k a0_0 a0_1 a0_2 _ _ l0_3 t113 _ ?side1 HC0_3.out A5.out).mono ?_);(case side1=>repeat(exact(Kd.C_below HR0_3.out HB.out)));rintro e w9 ⟨rfl,hb⟩;refine⟨_,rfl,?_⟩;replace BK112:=Qa.mk (Q1 (g:=gb112) (o:=.cells #[.int .i64 a0_0,.int .i64 a0_1,.string a0_2,.slice A0_3 l0_3.length c0_3] 26 (0,0)) BK112.out hb);replace HB:=Qa.mk (Qr HB.out hb);(try clear hb);have hcz10_3:w9.cell? ⟨gb112,3,none⟩=some (.slice A0_3 l0_3.length c0_3):=(Qb BK112.out 3).trans rfl))
 go_loopg [19] k (fun kq v19 w'=>∃(x19_1:Int),v19=.int .i64 x19_1∧Qa (X5.l0 kq a1 l0_3 (l0_3.length:Int) x19_1=some r)∧Qa (kq≤k)∧Qa (w'.heap[gb112]? =some (.cells #[.int .i64 a0_0,.int .i64 a0_1,.string a0_2,(.slice A0_3 l0_3.length c0_3)] 26 (0,0)))∧Qa (Below w.heap.size w w'))
 case atStart=>exact⟨0,(by rfl),H',⟨Nat.le_refl _⟩,⟨BK112.out⟩,⟨HB.out⟩⟩
 case round=>
  clear H';(try clear c3b0);(try clear c6b1);(try clear hcz10_3);(try clear hcz8_0);(try clear hcz8_1);(try clear hcz8_2);(try clear hcz8_3);obtain⟨x19_1,rfl,HA,HK1,BK112,HB⟩ :=hrel
  cases gk with
  |zero=>exact absurd HA.out (by simp [X5.l0])
  |succ k1=>
   have H:=HA.out;clear HA;simp only [X5.l0] at H;by_cases c11:x19_1 < (l0_3.length:Int)
   rotate_left
   ·rw [if_neg c11] at H;have c11b0:decide (x19_1 < (l0_3.length:Int))=false:=decide_eq_false c11;clear c11;obtain rfl:=Option.some.inj H;go_wp2;go_ret;exact⟨by rfl,HB.out⟩
   rw [if_pos c11] at H;have c11b0:decide (x19_1 < (l0_3.length:Int))=true:=decide_eq_true c11;clear c11;by_cases c12:0≤x19_1
   rotate_left
   ·rw [if_neg c12] at H;exact absurd H (by simp)
   rw [if_pos c12] at H;have c12b0:decide (0≤x19_1)=true:=decide_eq_true c12;clear c12;by_cases c13:x19_1 < (l0_3.length:Int)
   rotate_left
   ·rw [if_neg c13] at H;exact absurd H (by simp)
   rw [if_pos c13] at H;have c13b0:decide (x19_1 < (l0_3.length:Int))=true:=decide_eq_true c13;clear c13;replace H:=Option.bind_eq_some_iff.mp H;obtain⟨t116,A140,H⟩ :=H;try dsimp only at H
   have A14:=Qa.mk A140;clear A140;by_cases c15:t116=0
   rotate_left
   ·rw [if_neg c15] at H;have c15b1:(t116 !=0)=true:=bne_iff_ne.mpr c15;obtain rfl:=Option.some.inj H;have p114:0≤(x19_1:Int):=of_decide_eq_true (by(with_reducible assumption));have q114:x19_1 < (l0_3.length:Int):=of_decide_eq_true (by(with_reducible assumption));obtain⟨ad114,A114_3,c114_3,e114,hx114_0,hx114_1,hx114_2,hx114_3,hl114_3,hi114_3⟩ :=Yf HR0_3.out x19_1 p114 q114
    cases e114
    replace hx114_0:=(HB.out.cell (World.block_lt_of_cell? w _ hx114_0)).trans hx114_0;replace hx114_1:=(HB.out.cell (World.block_lt_of_cell? w _ hx114_1)).trans hx114_1;replace hx114_2:=(HB.out.cell (World.block_lt_of_cell? w _ hx114_2)).trans hx114_2;replace hx114_3:=(HB.out.cell (World.block_lt_of_cell? w _ hx114_3)).trans hx114_3;have HR114_3:=Qa.mk hi114_3;have HC114_3:=Qa.mk hl114_3;clear hi114_3 hl114_3;replace p114:=eq_true p114;replace q114:=eq_true q114;go_wp2_with(first|((with_reducible refine Q0 (N:=7) rfl ?_);refine Xm ?hg (N:=7) ?hd (cs:=#[.int .i64 0,.int .i64 0,.string (⟨#[]⟩ :ByteArray),.slice none 0 0]) (t:=26) ?hr ?_;(case hd=>rfl);(case hg=>rfl);(case hr=>(go_simp;done));intro gb115 hg w20 hbox hb;have BK115:=Qa.mk hbox;have GE115:=Qa.mk ((by rw [hg];exact(X4 HB.out):w.heap.size≤gb115));replace HB:=Qa.mk (Qr HB.out hb);have NB112_115:=Qa.mk ((by rw [hg];exact Nat.ne_of_lt (Xr (g:=gb112) (o:=.cells #[.int .i64 a0_0,.int .i64 a0_1,.string a0_2,.slice (some ad114) l0_3.length c0_3] 26 (0,0)) BK112.out):gb112≠gb115));have NB115_112:=Qa.mk ((by rw [hg];exact Nat.ne_of_gt (Xr (g:=gb112) (o:=.cells #[.int .i64 a0_0,.int .i64 a0_1,.string a0_2,.slice (some ad114) l0_3.length c0_3] 26 (0,0)) BK112.out):gb115≠gb112));replace BK112:=Qa.mk (Q1 (g:=gb112) (o:=.cells #[.int .i64 a0_0,.int .i64 a0_1,.string a0_2,.slice (some ad114) l0_3.length c0_3] 26 (0,0)) BK112.out hb);clear hb hbox hg;have hcz22_0:w20.cell? ⟨gb115,0,none⟩=some (.int .i64 0):=(Qb BK115.out 0).trans rfl;have hcz22_1:w20.cell? ⟨gb115,1,none⟩=some (.int .i64 0):=(Qb BK115.out 1).trans rfl;have hcz22_2:w20.cell? ⟨gb115,2,none⟩=some (.string (⟨#[]⟩ :ByteArray)):=(Qb BK115.out 2).trans rfl;have hcz22_3:w20.cell? ⟨gb115,3,none⟩=some (.slice none 0 0):=(Qb BK115.out 3).trans rfl;have hfz22_0:=Qd BK115.out 0;have hfz22_1:=Qd BK115.out 1;have hfz22_2:=Qd BK115.out 2;have hfz22_3:=Qd BK115.out 3)|((with_reducible refine Qp (f:=54) rfl ?_);refine Xh (some 26) rfl rfl Tryd.func54 (by kernel_rfl) rfl #[.agg #[.int .i64 ((Qg l0_3 x19_1).f0),.int .i64 ((Qg l0_3 x19_1).f1),.string ((Qg l0_3 x19_1).f2),.slice A114_3 ((Qg l0_3 x19_1).f3).length c114_3],.int .i64 (wrap64 (a1+1))] rfl (by(try simp only [List.map_toArray,List.map_cons,List.map_nil]);rfl) ?_;(with_reducible refine(ih k1 (by have:=HK1.out;omega) ((Qg l0_3 x19_1).f0) ((Qg l0_3 x19_1).f1) ((Qg l0_3 x19_1).f2) _ _ ((Qg l0_3 x19_1).f3) (wrap64 (a1+1)) t116 _ (Kd.C_below HR114_3.out (by repeat(with_reducible first|exact HB.out|refine Xf ?_ GE115.out))) HC114_3.out A14.out).mono ?_);rintro e w23 ⟨rfl,hb⟩;refine⟨_,rfl,?_⟩;replace BK112:=Qa.mk (Q1 (g:=gb112) (o:=.cells #[.int .i64 a0_0,.int .i64 a0_1,.string a0_2,.slice (some ad114) l0_3.length c0_3] 26 (0,0)) (by refine Xg ?_ NB112_115.out _;refine Xg ?_ NB112_115.out _;refine Xg ?_ NB112_115.out _;refine Xg ?_ NB112_115.out _;exact BK112.out) hb);replace BK115:=Qa.mk (Q1 (g:=gb115) (o:=.cells #[.int .i64 ((Qg l0_3 x19_1).f0),.int .i64 ((Qg l0_3 x19_1).f1),.string ((Qg l0_3 x19_1).f2),.slice A114_3 ((Qg l0_3 x19_1).f3).length c114_3] 26 (0,0)) (by refine Qt (cs:=#[.int .i64 ((Qg l0_3 x19_1).f0),.int .i64 ((Qg l0_3 x19_1).f1),.string ((Qg l0_3 x19_1).f2),.slice none 0 0]) ?_ 3 _ rfl;refine Qt (cs:=#[.int .i64 ((Qg l0_3 x19_1).f0),.int .i64 ((Qg l0_3 x19_1).f1),.string (⟨#[]⟩ :ByteArray),.slice none 0 0]) ?_ 2 _ rfl;refine Qt (cs:=#[.int .i64 ((Qg l0_3 x19_1).f0),.int .i64 0,.string (⟨#[]⟩ :ByteArray),.slice none 0 0]) ?_ 1 _ rfl;refine Qt (cs:=#[.int .i64 0,.int .i64 0,.string (⟨#[]⟩ :ByteArray),.slice none 0 0]) ?_ 0 _ rfl;exact BK115.out) hb);replace HB:=Qa.mk (Qr (by repeat(with_reducible first|exact HB.out|refine Xf ?_ GE115.out)) hb);(try clear hb)))
    go_ret
    exact⟨by rfl,HB.out⟩
   rw [if_pos c15] at H;have c15b1:(t116 !=0)=false:=bne_eq_false_iff_eq.mpr c15;clear c15;have H':=Qa.mk H;clear H;have p114:0≤(x19_1:Int):=of_decide_eq_true (by(with_reducible assumption));have q114:x19_1 < (l0_3.length:Int):=of_decide_eq_true (by(with_reducible assumption));obtain⟨ad114,A114_3,c114_3,e114,hx114_0,hx114_1,hx114_2,hx114_3,hl114_3,hi114_3⟩ :=Yf HR0_3.out x19_1 p114 q114
   cases e114
   replace hx114_0:=(HB.out.cell (World.block_lt_of_cell? w _ hx114_0)).trans hx114_0;replace hx114_1:=(HB.out.cell (World.block_lt_of_cell? w _ hx114_1)).trans hx114_1;replace hx114_2:=(HB.out.cell (World.block_lt_of_cell? w _ hx114_2)).trans hx114_2;replace hx114_3:=(HB.out.cell (World.block_lt_of_cell? w _ hx114_3)).trans hx114_3;have HR114_3:=Qa.mk hi114_3;have HC114_3:=Qa.mk hl114_3;clear hi114_3 hl114_3;replace p114:=eq_true p114;replace q114:=eq_true q114;go_wp2_with(first|((with_reducible refine Q0 (N:=7) rfl ?_);refine Xm ?hg (N:=7) ?hd (cs:=#[.int .i64 0,.int .i64 0,.string (⟨#[]⟩ :ByteArray),.slice none 0 0]) (t:=26) ?hr ?_;(case hd=>rfl);(case hg=>rfl);(case hr=>(go_simp;done));intro gb115 hg w16 hbox hb;have BK115:=Qa.mk hbox;have GE115:=Qa.mk ((by rw [hg];exact(X4 HB.out):w.heap.size≤gb115));replace HB:=Qa.mk (Qr HB.out hb);have NB112_115:=Qa.mk ((by rw [hg];exact Nat.ne_of_lt (Xr (g:=gb112) (o:=.cells #[.int .i64 a0_0,.int .i64 a0_1,.string a0_2,.slice (some ad114) l0_3.length c0_3] 26 (0,0)) BK112.out):gb112≠gb115));have NB115_112:=Qa.mk ((by rw [hg];exact Nat.ne_of_gt (Xr (g:=gb112) (o:=.cells #[.int .i64 a0_0,.int .i64 a0_1,.string a0_2,.slice (some ad114) l0_3.length c0_3] 26 (0,0)) BK112.out):gb115≠gb112));replace BK112:=Qa.mk (Q1 (g:=gb112) (o:=.cells #[.int .i64 a0_0,.int .i64 a0_1,.string a0_2,.slice (some ad114) l0_3.length c0_3] 26 (0,0)) BK112.out hb);clear hb hbox hg;have hcz18_0:w16.cell? ⟨gb115,0,none⟩=some (.int .i64 0):=(Qb BK115.out 0).trans rfl;have hcz18_1:w16.cell? ⟨gb115,1,none⟩=some (.int .i64 0):=(Qb BK115.out 1).trans rfl;have hcz18_2:w16.cell? ⟨gb115,2,none⟩=some (.string (⟨#[]⟩ :ByteArray)):=(Qb BK115.out 2).trans rfl;have hcz18_3:w16.cell? ⟨gb115,3,none⟩=some (.slice none 0 0):=(Qb BK115.out 3).trans rfl;have hfz18_0:=Qd BK115.out 0;have hfz18_1:=Qd BK115.out 1;have hfz18_2:=Qd BK115.out 2;have hfz18_3:=Qd BK115.out 3)|((with_reducible refine Qp (f:=54) rfl ?_);refine Xh (some 26) rfl rfl Tryd.func54 (by kernel_rfl) rfl #[.agg #[.int .i64 ((Qg l0_3 x19_1).f0),.int .i64 ((Qg l0_3 x19_1).f1),.string ((Qg l0_3 x19_1).f2),.slice A114_3 ((Qg l0_3 x19_1).f3).length c114_3],.int .i64 (wrap64 (a1+1))] rfl (by(try simp only [List.map_toArray,List.map_cons,List.map_nil]);rfl) ?_;(with_reducible refine(ih k1 (by have:=HK1.out;omega) ((Qg l0_3 x19_1).f0) ((Qg l0_3 x19_1).f1) ((Qg l0_3 x19_1).f2) _ _ ((Qg l0_3 x19_1).f3) (wrap64 (a1+1)) t116 _ (Kd.C_below HR114_3.out (by repeat(with_reducible first|exact HB.out|refine Xf ?_ GE115.out))) HC114_3.out A14.out).mono ?_);rintro e w19 ⟨rfl,hb⟩;refine⟨_,rfl,?_⟩;replace BK112:=Qa.mk (Q1 (g:=gb112) (o:=.cells #[.int .i64 a0_0,.int .i64 a0_1,.string a0_2,.slice (some ad114) l0_3.length c0_3] 26 (0,0)) (by refine Xg ?_ NB112_115.out _;refine Xg ?_ NB112_115.out _;refine Xg ?_ NB112_115.out _;refine Xg ?_ NB112_115.out _;exact BK112.out) hb);replace BK115:=Qa.mk (Q1 (g:=gb115) (o:=.cells #[.int .i64 ((Qg l0_3 x19_1).f0),.int .i64 ((Qg l0_3 x19_1).f1),.string ((Qg l0_3 x19_1).f2),.slice A114_3 ((Qg l0_3 x19_1).f3).length c114_3] 26 (0,0)) (by refine Qt (cs:=#[.int .i64 ((Qg l0_3 x19_1).f0),.int .i64 ((Qg l0_3 x19_1).f1),.string ((Qg l0_3 x19_1).f2),.slice none 0 0]) ?_ 3 _ rfl;refine Qt (cs:=#[.int .i64 ((Qg l0_3 x19_1).f0),.int .i64 ((Qg l0_3 x19_1).f1),.string (⟨#[]⟩ :ByteArray),.slice none 0 0]) ?_ 2 _ rfl;refine Qt (cs:=#[.int .i64 ((Qg l0_3 x19_1).f0),.int .i64 0,.string (⟨#[]⟩ :ByteArray),.slice none 0 0]) ?_ 1 _ rfl;refine Qt (cs:=#[.int .i64 0,.int .i64 0,.string (⟨#[]⟩ :ByteArray),.slice none 0 0]) ?_ 0 _ rfl;exact BK115.out) hb);replace HB:=Qa.mk (Qr (by repeat(with_reducible first|exact HB.out|refine Xf ?_ GE115.out)) hb);(try clear hb)))
   go_roundg k1
   case measure=>have:=HK1.out;omega
   case rel=>exact⟨(wrap64 (x19_1+1)),(by rfl),H',⟨by have:=HK1.out;omega⟩,⟨BK112.out⟩,⟨HB.out⟩⟩
def X9.f (k:Nat) (a0_0:Int) (a0_1:Int) (a0_2:ByteArray) (l0_3:List (S26)):Option (Int):=(X5.f k a0_0 a0_1 a0_2 l0_3 0).bind fun t118=>(some t118)
theorem X9.mono:∀a0 a1 a2 a3 k,LeO (X9.f k a0 a1 a2 a3) (X9.f (k+1) a0 a1 a2 a3):=by
 intro a0 a1 a2 a3 k;unfold X9.f
 repeat' first
  |(with_reducible exact X5.mono _ _ _ _ _ _)
  |(with_reducible exact LeO.refl _)
  |(with_reducible refine LeO.bind ?_ (fun _=>?_))
set_option maxHeartbeats 8000000 in
set_option maxRecDepth 100000 in
theorem X9.calls (k:Nat) (a0_0:Int) (a0_1:Int) (a0_2:ByteArray) (A0_3:Option Addr) (c0_3:Nat) (l0_3:List (S26)) (r:Int) (w:World) (hr0_3:Kd.C k26 w A0_3 l0_3.length l0_3) (hc0_3:l0_3.length≤c0_3) (h:X9.f k a0_0 a0_1 a0_2 l0_3=some r):
 Calls Tryd.prog 24 #[.agg #[.int .i64 a0_0,.int .i64 a0_1,.string a0_2,.slice A0_3 l0_3.length c0_3]] w fun e w'=>e=.returned (.int .i64 r)∧Below w.heap.size w w':=by
 have HR0_3:=Qa.mk hr0_3;have HC0_3:=Qa.mk hc0_3;clear hr0_3 hc0_3;have HB:=Qa.mk (Below.refl w.heap.size w);have H:((X5.f k a0_0 a0_1 a0_2 l0_3 0).bind fun t118=>(some t118))=some r:=h
 clear h;replace H:=Option.bind_eq_some_iff.mp H;obtain⟨t118,A20,H⟩ :=H;try dsimp only at H
 have A2:=Qa.mk A20;clear A20;obtain rfl:=Option.some.inj H;go_enter Tryd.func24,Tryd.ntmps24;go_wp2_with(first|((with_reducible refine Q0 (N:=1) rfl ?_);refine Xm ?hg (N:=1) ?hd (cs:=#[.int .i64 a0_0,.int .i64 a0_1,.string a0_2,.slice A0_3 l0_3.length c0_3]) (t:=26) ?hr ?_;(case hd=>rfl);(case hg=>rfl);(case hr=>(go_simp;done));intro gb117 hg w3 hbox hb;replace HB:=Qa.mk (Qr HB.out hb);have BK117:=Qa.mk hbox;clear hb hbox hg;have hcz4_0:w3.cell? ⟨gb117,0,none⟩=some (.int .i64 a0_0):=(Qb BK117.out 0).trans rfl;have hcz4_1:w3.cell? ⟨gb117,1,none⟩=some (.int .i64 a0_1):=(Qb BK117.out 1).trans rfl;have hcz4_2:w3.cell? ⟨gb117,2,none⟩=some (.string a0_2):=(Qb BK117.out 2).trans rfl;have hcz4_3:w3.cell? ⟨gb117,3,none⟩=some (.slice A0_3 l0_3.length c0_3):=(Qb BK117.out 3).trans rfl)|((with_reducible refine Qp (f:=54) rfl ?_);refine Xh (some 4) rfl rfl Tryd.func54 (by kernel_rfl) rfl #[.agg #[.int .i64 a0_0,.int .i64 a0_1,.string a0_2,.slice A0_3 l0_3.length c0_3],.int .i64 0] rfl (by(try simp only [List.map_toArray,List.map_cons,List.map_nil]);rfl) ?_;(with_reducible refine(X5.calls k a0_0 a0_1 a0_2 _ _ l0_3 0 t118 _ ?side1 HC0_3.out A2.out).mono ?_);(case side1=>repeat(exact(Kd.C_below HR0_3.out HB.out)));rintro e w5 ⟨rfl,hb⟩;refine⟨_,rfl,?_⟩;replace BK117:=Qa.mk (Q1 (g:=gb117) (o:=.cells #[.int .i64 a0_0,.int .i64 a0_1,.string a0_2,.slice A0_3 l0_3.length c0_3] 26 (0,0)) BK117.out hb);replace HB:=Qa.mk (Qr HB.out hb);(try clear hb)))
 go_ret
 exact⟨by rfl,HB.out⟩
mutual
def Xo.j0:Nat→Int→Int→Bool→Option (Int)
 |0,_,_,_=>none
 |k+1,x0,x5,x10=>if x10=true then(some 14) else(if x5=3 then(Xo.j1 k x0 (x5==3)) else(if x5=4 then(Xo.j1 k x0 (x5==4)) else(if x5=5 then(Xo.j1 k x0 (x5==5)) else(Xo.j1 k x0 (x5==6)))))
def Xo.j1:Nat→Int→Bool→Option (Int)
 |0,_,_=>none
 |k+1,x0,x13=>if x13=true then(some 13) else((Z4.f x0).bind fun t119=>((Xy.f t119).bind fun bt120=>(some bt120.2)))
end
def Xo.f (k:Nat) (a0:Int):Option (Int):=if a0=26 then(some 1) else(if a0=25 then(some 2) else(if a0=1 then(Xo.j0 k a0 a0 (a0==1)) else(Xo.j0 k a0 a0 (a0==2))))
theorem Xo.mono_l:∀k,(∀y0 y1 y2,LeO (Xo.j0 k y0 y1 y2) (Xo.j0 (k+1) y0 y1 y2))∧(∀y0 y1,LeO (Xo.j1 k y0 y1) (Xo.j1 (k+1) y0 y1))
 |0=>⟨fun _ _ _ r h=>by simp [Xo.j0] at h,fun _ _ r h=>by simp [Xo.j1] at h⟩
 |k+1=>by
  obtain⟨ih0,ih1⟩ :=Xo.mono_l k;refine⟨?_,?_⟩
  ·intro y0 y1 y2;unfold Xo.j0;repeat' first
   |(with_reducible exact ih1 _ _)
   |(with_reducible exact LeO.refl _)
   |(with_reducible refine LeO.ite ?_ ?_)
  intro y0 y1;unfold Xo.j1;repeat' (with_reducible exact LeO.refl _)
theorem Xo.mono:∀a0 k,LeO (Xo.f k a0) (Xo.f (k+1) a0):=by
 intro a0 k;obtain⟨ih0,ih1⟩ :=Xo.mono_l k;unfold Xo.f
 repeat' first
  |(with_reducible exact ih0 _ _ _)
  |(with_reducible exact LeO.refl _)
  |(with_reducible refine LeO.ite ?_ ?_)
set_option maxHeartbeats 8000000 in
set_option maxRecDepth 100000 in
theorem Xo.calls (k:Nat) (a0:Int) (r:Int) (w:World) (h:Xo.f k a0=some r):
 Calls Tryd.prog 79 #[.int .i64 a0] w fun e w'=>e=.returned (.int .i64 r)∧Below w.heap.size w w':=by
 have HB:=Qa.mk (Below.refl w.heap.size w);have H:(if a0=26 then(some 1) else(if a0=25 then(some 2) else(if a0=1 then(Xo.j0 k a0 a0 (a0==1)) else(Xo.j0 k a0 a0 (a0==2)))))=some r:=h;clear h;by_cases c2:a0=26
 ·rw [if_pos c2] at H;have c2b0:(a0==26)=true:=beq_iff_eq.mpr c2;clear c2;obtain rfl:=Option.some.inj H;go_enter Tryd.func79,Tryd.ntmps79;go_wp2;go_ret;exact⟨by rfl,HB.out⟩
 rw [if_neg c2] at H;have c2b0:(a0==26)=false:=beq_eq_false_iff_ne.mpr c2;by_cases c3:a0=25
 ·rw [if_pos c3] at H;have c3b0:(a0==25)=true:=beq_iff_eq.mpr c3;clear c3;obtain rfl:=Option.some.inj H;go_enter Tryd.func79,Tryd.ntmps79;go_wp2;go_ret;exact⟨by rfl,HB.out⟩
 rw [if_neg c3] at H;have c3b0:(a0==25)=false:=beq_eq_false_iff_ne.mpr c3;have HC4:=Qa.mk H;clear H;go_enter Tryd.func79,Tryd.ntmps79;go_upto_if 10 with (fail)
 go_cut [10] (fun v10 wc=>∃(kq:Nat) (x10_3:Bool),v10=.bool x10_3∧Qa (Xo.j0 kq a0 a0 x10_3=some r)∧Qa (kq≤k)∧Qa (Below w.heap.size w wc))
 case first=>
  have H:=HC4.out;clear HC4;by_cases c5:a0=1
  rotate_left
  ·rw [if_neg c5] at H;have c5b0:(a0==1)=false:=beq_eq_false_iff_ne.mpr c5;(rw [c5b0]);have H':=Qa.mk H;clear H;go_wp2
   go_meet
   case rel=>exact⟨_,((a0==2)),(by rfl),H',⟨by omega⟩,⟨HB.out⟩⟩
  rw [if_pos c5] at H;have c5b0:(a0==1)=true:=beq_iff_eq.mpr c5;clear c5;(rw [c5b0]);have H':=Qa.mk H;clear H;go_wp2
  go_meet
  case rel=>exact⟨_,((a0==1)),(by(simp [*];done)),H',⟨by omega⟩,⟨HB.out⟩⟩
 case rest=>
  clear HC4;(try clear c2);(try clear c2b0);(try clear c3);(try clear c3b0);obtain⟨kq,x10_3,rfl,HA,HJ3,HB⟩ :=hcut
  cases kq with
  |zero=>exact absurd HA.out (by simp [Xo.j0])
  |succ kj3=>
   have H:=HA.out;clear HA;simp only [Xo.j0] at H;by_cases c6:x10_3=true
   ·subst c6;have H1:(some 14)=some r:=by rw [if_pos rfl] at H;exact H
    clear H;have H:=H1;clear H1;obtain rfl:=Option.some.inj H;go_wp2;go_ret;exact⟨by rfl,HB.out⟩
   replace c6:=Bool.eq_false_iff.mpr c6;subst c6;have H1:(if a0=3 then(Xo.j1 kj3 a0 (a0==3)) else(if a0=4 then(Xo.j1 kj3 a0 (a0==4)) else(if a0=5 then(Xo.j1 kj3 a0 (a0==5)) else(Xo.j1 kj3 a0 (a0==6)))))=some r:=by rw [if_neg (show ¬(false=true) by decide)] at H;exact H
   clear H;have H:=H1;clear H1;have HC7:=Qa.mk H;clear H;go_upto_if 13 with (fail)
   go_cut [13] (fun v13 wc=>∃(kq:Nat) (x13_6:Bool),v13=.bool x13_6∧Qa (Xo.j1 kq a0 x13_6=some r)∧Qa (kq≤kj3)∧Qa (Below w.heap.size w wc))
   case first=>
    have H:=HC7.out;clear HC7;by_cases c8:a0=3
    ·rw [if_pos c8] at H;have c8b0:(a0==3)=true:=beq_iff_eq.mpr c8;clear c8;(rw [c8b0]);have H':=Qa.mk H;clear H;go_wp2
     go_meet
     case rel=>exact⟨_,((a0==3)),(by(simp [*];done)),H',⟨by have:=HJ3.out;omega⟩,⟨HB.out⟩⟩
    rw [if_neg c8] at H;have c8b0:(a0==3)=false:=beq_eq_false_iff_ne.mpr c8;(rw [c8b0]);by_cases c9:a0=4
    ·rw [if_pos c9] at H;have c9b0:(a0==4)=true:=beq_iff_eq.mpr c9;clear c9;have H':=Qa.mk H;clear H;go_wp2
     go_meet
     case rel=>exact⟨_,((a0==4)),(by(simp [*];done)),H',⟨by have:=HJ3.out;omega⟩,⟨HB.out⟩⟩
    rw [if_neg c9] at H;have c9b0:(a0==4)=false:=beq_eq_false_iff_ne.mpr c9;by_cases c10:a0=5
    rotate_left
    ·rw [if_neg c10] at H;have c10b0:(a0==5)=false:=beq_eq_false_iff_ne.mpr c10;have H':=Qa.mk H;clear H;go_wp2
     go_meet
     case rel=>exact⟨_,((a0==6)),(by rfl),H',⟨by have:=HJ3.out;omega⟩,⟨HB.out⟩⟩
    rw [if_pos c10] at H;have c10b0:(a0==5)=true:=beq_iff_eq.mpr c10;clear c10;have H':=Qa.mk H;clear H;go_wp2
    go_meet
    case rel=>exact⟨_,((a0==5)),(by(simp [*];done)),H',⟨by have:=HJ3.out;omega⟩,⟨HB.out⟩⟩
   case rest=>
    clear HC7;obtain⟨kq,x13_6,rfl,HA,HJ6,HB⟩ :=hcut
    cases kq with
    |zero=>exact absurd HA.out (by simp [Xo.j1])
    |succ kj6=>
     have H:=HA.out;clear HA;simp only [Xo.j1] at H;by_cases c11:x13_6=true
     ·subst c11;have H1:(some 13)=some r:=by rw [if_pos rfl] at H;exact H
      clear H;have H:=H1;clear H1;obtain rfl:=Option.some.inj H;go_wp2;go_ret;exact⟨by rfl,HB.out⟩
     replace c11:=Bool.eq_false_iff.mpr c11;subst c11;have H1:((Z4.f a0).bind fun t119=>((Xy.f t119).bind fun bt120=>(some bt120.2)))=some r:=by rw [if_neg (show ¬(false=true) by decide)] at H;exact H
     clear H;have H:=H1;clear H1;replace H:=Option.bind_eq_some_iff.mp H;obtain⟨t119,A120,H⟩ :=H;try dsimp only at H
     have A12:=Qa.mk A120;clear A120;replace H:=Option.bind_eq_some_iff.mp H;obtain⟨⟨t120,t121⟩,A130,H⟩ :=H;try dsimp only at H
     have A13:=Qa.mk A130;clear A130;obtain rfl:=Option.some.inj H;go_wp2_with(first|((with_reducible refine Qp (f:=80) rfl ?_);refine Xh (some 20) rfl rfl Tryd.func80 (by kernel_rfl) rfl #[.int .i64 a0] rfl (by(try simp only [List.map_toArray,List.map_cons,List.map_nil]);rfl) ?_;(with_reducible refine(Z4.calls a0 t119 _ A12.out).mono ?_);rintro e w14 ⟨rfl,hb⟩;refine⟨_,rfl,?_⟩;replace HB:=Qa.mk (Qr HB.out hb);(try clear hb))|((with_reducible refine Qp (f:=107) rfl ?_);refine Xh (some 21) rfl rfl Tryd.func107 (by kernel_rfl) rfl #[.string t119] rfl (by(try simp only [List.map_toArray,List.map_cons,List.map_nil]);rfl) ?_;(with_reducible refine(Xy.calls t119 t120 t121 _ A13.out).mono ?_);rintro e w' ⟨rfl,⟨nd,rfl⟩⟩;refine⟨_,rfl,?_⟩));go_ret;exact⟨by rfl,by repeat(with_reducible first|exact HB.out|apply Q6)⟩
mutual
def Q4.j1:Nat→Int→Int→ByteArray→Option (ByteArray)
 |0,_,_,_=>none
 |k+1,x1,x5,x6=>if x5 < x1 then(if 1+x6.size≤9223372036854775807 then(if((⟨#[40]⟩ :ByteArray)++x6).size+1≤9223372036854775807 then(some (((⟨#[40]⟩ :ByteArray)++x6)++(⟨#[41]⟩ :ByteArray))) else(none)) else(none)) else(some x6)
def Q4.j0:Nat→Int→Int→ByteArray→Int→Int→ByteArray→List (S26)→Option (ByteArray)
 |0,_,_,_,_,_,_,_=>none
 |k+1,x1,x5,x7,x123000,x123001,x123002,x123003=>if x123002.size+1≤9223372036854775807 then(if(x123002++(⟨#[32]⟩ :ByteArray)).size+x7.size≤9223372036854775807 then(if((x123002++(⟨#[32]⟩ :ByteArray))++x7).size+2≤9223372036854775807 then(if 0 < (x123003.length:Int) then((Q4.f k ((Qg x123003 0).f0) ((Qg x123003 0).f1) ((Qg x123003 0).f2) ((Qg x123003 0).f3) 1).bind fun t126=>(if(((x123002++(⟨#[32]⟩ :ByteArray))++x7)++(⟨#[61,32]⟩ :ByteArray)).size+t126.size≤9223372036854775807 then(Q4.j1 k x1 x5 ((((x123002++(⟨#[32]⟩ :ByteArray))++x7)++(⟨#[61,32]⟩ :ByteArray))++t126)) else(none))) else(none)) else(none)) else(none)) else(none)
def Q4.f:Nat→Int→Int→ByteArray→List (S26)→Int→Option (ByteArray)
 |0,_,_,_,_,_=>none
 |k+1,a0_0,a0_1,a0_2,l0_3,a1=>(Xo.f k a0_0).bind fun t123=>(if t123=1 then(if a0_1=0 then(Q4.j0 k a1 t123 (⟨#[]⟩ :ByteArray) a0_0 a0_1 a0_2 l0_3) else((Z4.f a0_1).bind fun t124=>(Q4.j0 k a1 t123 t124 a0_0 a0_1 a0_2 l0_3))) else(if t123=2 then(if 0 < (l0_3.length:Int) then((Q4.f k ((Qg l0_3 0).f0) ((Qg l0_3 0).f1) ((Qg l0_3 0).f2) ((Qg l0_3 0).f3) 3).bind fun t128=>(if t128.size+3≤9223372036854775807 then(if 1 < (l0_3.length:Int) then((Q4.f k ((Qg l0_3 1).f0) ((Qg l0_3 1).f1) ((Qg l0_3 1).f2) ((Qg l0_3 1).f3) 1).bind fun t130=>(if(t128++(⟨#[32,63,32]⟩ :ByteArray)).size+t130.size≤9223372036854775807 then(if((t128++(⟨#[32,63,32]⟩ :ByteArray))++t130).size+3≤9223372036854775807 then(if 2 < (l0_3.length:Int) then((Q4.f k ((Qg l0_3 2).f0) ((Qg l0_3 2).f1) ((Qg l0_3 2).f2) ((Qg l0_3 2).f3) 2).bind fun t132=>(if(((t128++(⟨#[32,63,32]⟩ :ByteArray))++t130)++(⟨#[32,58,32]⟩ :ByteArray)).size+t132.size≤9223372036854775807 then(Q4.j1 k a1 t123 ((((t128++(⟨#[32,63,32]⟩ :ByteArray))++t130)++(⟨#[32,58,32]⟩ :ByteArray))++t132)) else(none))) else(none)) else(none)) else(none))) else(none)) else(none))) else(none)) else(if t123=13 then((Z4.f a0_0).bind fun t133=>(if 0 < (l0_3.length:Int) then((Q4.f k ((Qg l0_3 0).f0) ((Qg l0_3 0).f1) ((Qg l0_3 0).f2) ((Qg l0_3 0).f3) 13).bind fun t135=>(if t133.size+t135.size≤9223372036854775807 then(Q4.j1 k a1 t123 (t133++t135)) else(none))) else(none))) else(if t123=14 then(if a0_0=1 then((Ys.f a0_1).bind fun t136=>(Q4.j1 k a1 t123 t136)) else(Q4.j1 k a1 t123 a0_2)) else(if 0 < (l0_3.length:Int) then((Q4.f k ((Qg l0_3 0).f0) ((Qg l0_3 0).f1) ((Qg l0_3 0).f2) ((Qg l0_3 0).f3) t123).bind fun t138=>(if t138.size+1≤9223372036854775807 then((Z4.f a0_0).bind fun t139=>(if(t138++(⟨#[32]⟩ :ByteArray)).size+t139.size≤9223372036854775807 then(if((t138++(⟨#[32]⟩ :ByteArray))++t139).size+1≤9223372036854775807 then(if 1 < (l0_3.length:Int) then((Q4.f k ((Qg l0_3 1).f0) ((Qg l0_3 1).f1) ((Qg l0_3 1).f2) ((Qg l0_3 1).f3) (wrap64 (t123+1))).bind fun t141=>(if(((t138++(⟨#[32]⟩ :ByteArray))++t139)++(⟨#[32]⟩ :ByteArray)).size+t141.size≤9223372036854775807 then(Q4.j1 k a1 t123 ((((t138++(⟨#[32]⟩ :ByteArray))++t139)++(⟨#[32]⟩ :ByteArray))++t141)) else(none))) else(none)) else(none)) else(none))) else(none))) else(none))))))
end
theorem Q4.mono_l:∀k,(∀y0 y1 y2 y3 y4,LeO (Q4.f k y0 y1 y2 y3 y4) (Q4.f (k+1) y0 y1 y2 y3 y4))∧(∀y0 y1 y2,LeO (Q4.j1 k y0 y1 y2) (Q4.j1 (k+1) y0 y1 y2))∧(∀y0 y1 y2 y3 y4 y5 y6,LeO (Q4.j0 k y0 y1 y2 y3 y4 y5 y6) (Q4.j0 (k+1) y0 y1 y2 y3 y4 y5 y6))
 |0=>⟨fun _ _ _ _ _ r h=>by simp [Q4.f] at h,fun _ _ _ r h=>by simp [Q4.j1] at h,fun _ _ _ _ _ _ _ r h=>by simp [Q4.j0] at h⟩
 |k+1=>by
  obtain⟨ih0,ih1,ih2⟩ :=Q4.mono_l k;refine⟨?_,?_,?_⟩
  ·intro y0 y1 y2 y3 y4;unfold Q4.f;repeat' first
   |(with_reducible exact ih0 _ _ _ _ _)
   |(with_reducible exact ih1 _ _ _)
   |(with_reducible exact ih2 _ _ _ _ _ _ _)
   |(with_reducible exact Xo.mono _ _)
   |(with_reducible exact LeO.refl _)
   |(with_reducible refine LeO.ite ?_ ?_)
   |(with_reducible refine LeO.bind ?_ (fun _=>?_))
  ·intro y0 y1 y2;unfold Q4.j1;repeat' (with_reducible exact LeO.refl _)
  ·intro y0 y1 y2 y3 y4 y5 y6;unfold Q4.j0;repeat' first
   |(with_reducible exact ih0 _ _ _ _ _)
   |(with_reducible exact ih1 _ _ _)
   |(with_reducible exact LeO.refl _)
   |(with_reducible refine LeO.ite ?_ ?_)
   |(with_reducible refine LeO.bind ?_ (fun _=>?_))
theorem Q4.mono:∀a0 a1 a2 a3 a4 k,LeO (Q4.f k a0 a1 a2 a3 a4) (Q4.f (k+1) a0 a1 a2 a3 a4):=by
 intro a0 a1 a2 a3 a4 k;obtain⟨ih0,ih1,ih2⟩ :=Q4.mono_l k;exact ih0 a0 a1 a2 a3 a4
def Q4.T4:Bool×List (List Nat×List Nat):=(true,[([],[]),([0],[0]),([1],[1]),([2],[2]),([],[]),([3,4],[3,4]),([5],[5]),([],[]),([7],[7]),([8,5],[8]),([6,9],[6,9]),([10],[10]),([],[]),([12],[12]),([13],[13]),([14],[14]),([],[]),([16],[16]),([15,17,9],[15,17]),([11,18],[11,18]),([19,18,0,1,2,3,4,5,6,7,8,9,10,11,12,13,14,15,16,17,18,19],[19])])
def Q4.B4:List Nat:=[0,1,3,7,0,31,63,0,128,447,1023,2047,0,4096,12288,28672,0,65536,259007,524287,1048575]
theorem Q4.tab4:V8 .any (opsOf Tryd.f52 4)=Q4.T4:=by kernel_rfl
theorem Q4.bits4:Vx Q4.T4.2 Q4.B4=true:=by kernel_rfl
def Q4.T9:Bool×List (List Nat×List Nat):=(true,[([],[]),([0],[0]),([1],[1]),([],[]),([2,3],[2,3]),([4],[4]),([],[]),([6],[6]),([7],[7]),([8],[8]),([9],[9]),([5,10],[5,10]),([11,10,0,1,2,3,4,5,6,7,8,9,10,11],[11])])
def Q4.B9:List Nat:=[0,1,3,0,15,31,0,64,192,448,960,2047,4095]
theorem Q4.tab9:V8 .any (opsOf Tryd.f52 9)=Q4.T9:=by kernel_rfl
theorem Q4.bits9:Vx Q4.T9.2 Q4.B9=true:=by kernel_rfl
def Q4.T11:Bool×List (List Nat×List Nat):=(true,[([],[]),([0],[0]),([1],[1]),([2],[2]),([3],[3]),([4],[4]),([],[]),([6],[6]),([7],[7]),([8],[8]),([9,4],[9]),([5,10],[5,10]),([11],[11]),([],[]),([13],[13]),([14],[14]),([15],[15]),([16,10],[16]),([12,17],[12,17]),([18,17,0,1,2,3,4,5,6,7,8,9,10,11,12,13,14,15,16,17,18],[18])])
def Q4.B11:List Nat:=[0,1,3,7,15,31,0,64,192,448,991,2047,4095,0,8192,24576,57344,124895,262143,524287]
theorem Q4.tab11:V8 .any (opsOf Tryd.f52 11)=Q4.T11:=by kernel_rfl
theorem Q4.bits11:Vx Q4.T11.2 Q4.B11=true:=by kernel_rfl
def Q4.T13:Bool×List (List Nat×List Nat):=(true,[([],[]),([0],[0]),([1],[1]),([],[]),([3],[3]),([4],[4]),([5],[5]),([6,2],[6]),([2,7],[2,7]),([8,7,0,1,2,3,4,5,6,7,8],[8])])
def Q4.B13:List Nat:=[0,1,3,0,8,24,56,127,255,511]
theorem Q4.tab13:V8 .any (opsOf Tryd.f52 13)=Q4.T13:=by kernel_rfl
theorem Q4.bits13:Vx Q4.T13.2 Q4.B13=true:=by kernel_rfl
set_option maxHeartbeats 8000000 in
set_option maxRecDepth 100000 in
theorem Q4.calls (k:Nat):∀(a0_0:Int) (a0_1:Int) (a0_2:ByteArray) (A0_3:Option Addr) (c0_3:Nat) (l0_3:List (S26)) (a1:Int) (r:ByteArray) (w:World) (hr0_3:Kd.C k26 w A0_3 l0_3.length l0_3) (hc0_3:l0_3.length≤c0_3) (h:Q4.f k a0_0 a0_1 a0_2 l0_3 a1=some r) (hT:Laid w:=by first|assumption|exact HT.out|exact Laid.below HT.out (by repeat(first|(with_reducible first|exact HB.out|apply Xu|apply Q6|apply Zg|refine Xf ?_ (Qa.out (by assumption)))|exact HB.out))),
 Calls Tryd.prog 52 #[.agg #[.int .i64 a0_0,.int .i64 a0_1,.string a0_2,.slice A0_3 l0_3.length c0_3],.int .i64 a1] w fun e w'=>e=.returned (.string r)∧Below w.heap.size w w':=by
 induction k using Nat.strongRecOn with
 |_ k ih=>
 intro a0_0 a0_1 a0_2 A0_3 c0_3 l0_3 a1 r w hr0_3 hc0_3 h hT
 cases k with
 |zero=>exact absurd h (by simp [Q4.f])
 |succ k=>
 simp only [Q4.f] at h;have HR0_3:=Qa.mk hr0_3;clear hr0_3 hc0_3;have HB:=Qa.mk (Below.refl w.heap.size w);have HT:Qa (Laid w):=Qa.mk hT;clear hT;have H:((Xo.f k a0_0).bind fun t123=>(if t123=1 then(if a0_1=0 then(Q4.j0 k a1 t123 (⟨#[]⟩ :ByteArray) a0_0 a0_1 a0_2 l0_3) else((Z4.f a0_1).bind fun t124=>(Q4.j0 k a1 t123 t124 a0_0 a0_1 a0_2 l0_3))) else(if t123=2 then(if 0 < (l0_3.length:Int) then((Q4.f k ((Qg l0_3 0).f0) ((Qg l0_3 0).f1) ((Qg l0_3 0).f2) ((Qg l0_3 0).f3) 3).bind fun t128=>(if t128.size+3≤9223372036854775807 then(if 1 < (l0_3.length:Int) then((Q4.f k ((Qg l0_3 1).f0) ((Qg l0_3 1).f1) ((Qg l0_3 1).f2) ((Qg l0_3 1).f3) 1).bind fun t130=>(if(t128++(⟨#[32,63,32]⟩ :ByteArray)).size+t130.size≤9223372036854775807 then(if((t128++(⟨#[32,63,32]⟩ :ByteArray))++t130).size+3≤9223372036854775807 then(if 2 < (l0_3.length:Int) then((Q4.f k ((Qg l0_3 2).f0) ((Qg l0_3 2).f1) ((Qg l0_3 2).f2) ((Qg l0_3 2).f3) 2).bind fun t132=>(if(((t128++(⟨#[32,63,32]⟩ :ByteArray))++t130)++(⟨#[32,58,32]⟩ :ByteArray)).size+t132.size≤9223372036854775807 then(Q4.j1 k a1 t123 ((((t128++(⟨#[32,63,32]⟩ :ByteArray))++t130)++(⟨#[32,58,32]⟩ :ByteArray))++t132)) else(none))) else(none)) else(none)) else(none))) else(none)) else(none))) else(none)) else(if t123=13 then((Z4.f a0_0).bind fun t133=>(if 0 < (l0_3.length:Int) then((Q4.f k ((Qg l0_3 0).f0) ((Qg l0_3 0).f1) ((Qg l0_3 0).f2) ((Qg l0_3 0).f3) 13).bind fun t135=>(if t133.size+t135.size≤9223372036854775807 then(Q4.j1 k a1 t123 (t133++t135)) else(none))) else(none))) else(if t123=14 then(if a0_0=1 then((Ys.f a0_1).bind fun t136=>(Q4.j1 k a1 t123 t136)) else(Q4.j1 k a1 t123 a0_2)) else(if 0 < (l0_3.length:Int) then((Q4.f k ((Qg l0_3 0).f0) ((Qg l0_3 0).f1) ((Qg l0_3 0).f2) ((Qg l0_3 0).f3) t123).bind fun t138=>(if t138.size+1≤9223372036854775807 then((Z4.f a0_0).bind fun t139=>(if(t138++(⟨#[32]⟩ :ByteArray)).size+t139.size≤9223372036854775807 then(if((t138++(⟨#[32]⟩ :ByteArray))++t139).size+1≤9223372036854775807 then(if 1 < (l0_3.length:Int) then((Q4.f k ((Qg l0_3 1).f0) ((Qg l0_3 1).f1) ((Qg l0_3 1).f2) ((Qg l0_3 1).f3) (wrap64 (t123+1))).bind fun t141=>(if(((t138++(⟨#[32]⟩ :ByteArray))++t139)++(⟨#[32]⟩ :ByteArray)).size+t141.size≤9223372036854775807 then(Q4.j1 k a1 t123 ((((t138++(⟨#[32]⟩ :ByteArray))++t139)++(⟨#[32]⟩ :ByteArray))++t141)) else(none))) else(none)) else(none)) else(none))) else(none))) else(none)))))))=some r:=h
 clear h;replace H:=Option.bind_eq_some_iff.mp H;obtain⟨t123,A30,H⟩ :=H;try dsimp only at H
 have A3:=Qa.mk A30;clear A30;have HC4:=Qa.mk H;clear H;go_enter Tryd.func52,Tryd.ntmps52;go_upto_block 0 with (first|((with_reducible refine Q0 (N:=2) rfl ?_);refine Xm ?hg (N:=2) ?hd (cs:=#[.int .i64 a0_0,.int .i64 a0_1,.string a0_2,.slice A0_3 l0_3.length c0_3]) (t:=26) ?hr ?_;(case hd=>rfl);(case hg=>rfl);(case hr=>(go_simp;done));intro gb122 hg w5 hbox hb;replace HB:=Qa.mk (Qr HB.out hb);have BK122:=Qa.mk hbox;clear hb hbox hg;have hcz6_0:w5.cell? ⟨gb122,0,none⟩=some (.int .i64 a0_0):=(Qb BK122.out 0).trans rfl;have hcz6_3:w5.cell? ⟨gb122,3,none⟩=some (.slice A0_3 l0_3.length c0_3):=(Qb BK122.out 3).trans rfl)|((with_reducible refine Qp (f:=79) rfl ?_);refine Xh (some 10) rfl rfl Tryd.func79 (by kernel_rfl) rfl #[.int .i64 a0_0] rfl (by(try simp only [List.map_toArray,List.map_cons,List.map_nil]);rfl) ?_;(with_reducible refine(Xo.calls k a0_0 t123 _ A3.out).mono ?_);rintro e w7 ⟨rfl,hb⟩;refine⟨_,rfl,?_⟩;replace BK122:=Qa.mk (Q1 (g:=gb122) (o:=.cells #[.int .i64 a0_0,.int .i64 a0_1,.string a0_2,.slice A0_3 l0_3.length c0_3] 26 (0,0)) BK122.out hb);replace HB:=Qa.mk (Qr HB.out hb);(try clear hb)))
 go_cut [6] (fun v6 wc=>∃(kq:Nat) (x6_3:ByteArray),v6=.string x6_3∧Qa (Q4.j1 kq a1 t123 x6_3=some r)∧Qa (kq≤k)∧Qa (Below w.heap.size w wc))
 case first=>
  have H:=HC4.out;clear HC4;by_cases c8:t123=1
  ·rw [if_pos c8] at H;have c8b0:(t123==1)=true:=beq_iff_eq.mpr c8;clear c8;have HC9:=Qa.mk H;clear H;have hcz10_1:w7.cell? ⟨gb122,1,none⟩=some (.int .i64 a0_1):=(Qb BK122.out 1).trans rfl;go_upto_if 36 with (fail)
   go_cut [7] (fun v7 wc=>∃(kq:Nat) (x7_8:ByteArray),v7=.string x7_8∧Qa (Q4.j0 kq a1 t123 x7_8 a0_0 a0_1 a0_2 l0_3=some r)∧Qa (kq≤k)∧Qa (wc.heap[gb122]? =some (.cells #[.int .i64 a0_0,.int .i64 a0_1,.string a0_2,(.slice A0_3 l0_3.length c0_3)] 26 (0,0)))∧Qa (Below w.heap.size w wc))
   case first=>
    have H:=HC9.out;clear HC9;by_cases c11:a0_1=0
    ·rw [if_pos c11] at H;have c11b0:(a0_1==0)=true:=beq_iff_eq.mpr c11;have c11b1:(a0_1 !=0)=false:=bne_eq_false_iff_eq.mpr c11;clear c11;have H':=Qa.mk H;clear H;go_wp2
     go_meet
     case rel=>exact⟨_,((⟨#[]⟩ :ByteArray)),(by rfl),H',⟨by omega⟩,⟨BK122.out⟩,⟨HB.out⟩⟩
    rw [if_neg c11] at H;have c11b0:(a0_1==0)=false:=beq_eq_false_iff_ne.mpr c11;have c11b1:(a0_1 !=0)=true:=bne_iff_ne.mpr c11;replace H:=Option.bind_eq_some_iff.mp H;obtain⟨t124,A120,H⟩ :=H;try dsimp only at H
    have A12:=Qa.mk A120;clear A120;have H':=Qa.mk H;clear H;go_wp2_with(((with_reducible refine Qp (f:=80) rfl ?_);refine Xh (some 39) rfl rfl Tryd.func80 (by kernel_rfl) rfl #[.int .i64 a0_1] rfl (by(try simp only [List.map_toArray,List.map_cons,List.map_nil]);rfl) ?_;(with_reducible refine(Z4.calls a0_1 t124 _ A12.out).mono ?_);rintro e w14 ⟨rfl,hb⟩;refine⟨_,rfl,?_⟩;replace BK122:=Qa.mk (Q1 (g:=gb122) (o:=.cells #[.int .i64 a0_0,.int .i64 a0_1,.string a0_2,.slice A0_3 l0_3.length c0_3] 26 (0,0)) BK122.out hb);replace HB:=Qa.mk (Qr HB.out hb);(try clear hb)))
    go_meet
    case rel=>exact⟨_,t124,(by rfl),H',⟨by omega⟩,⟨BK122.out⟩,⟨HB.out⟩⟩
   case rest=>
    clear HC9;(try clear c8b0);(try clear hcz10_1);(try clear hcz6_0);(try clear hcz6_3);obtain⟨kq,x7_8,rfl,HA,HJ8,BK122,HB⟩ :=hcut
    cases kq with
    |zero=>exact absurd HA.out (by simp [Q4.j0])
    |succ kj8=>
     have H:=HA.out;clear HA;simp only [Q4.j0] at H;by_cases c15:a0_2.size+1≤9223372036854775807
     rotate_left
     ·rw [if_neg c15] at H;exact absurd H (by simp)
     rw [if_pos c15] at H;(try have c15b2:(9223372036854775807 < a0_2.size+1)=False:=eq_false (Nat.not_lt.2 c15));by_cases c16:(a0_2++(⟨#[32]⟩ :ByteArray)).size+x7_8.size≤9223372036854775807
     rotate_left
     ·rw [if_neg c16] at H;exact absurd H (by simp)
     rw [if_pos c16] at H;(try have c16b2:(9223372036854775807 < (a0_2++(⟨#[32]⟩ :ByteArray)).size+x7_8.size)=False:=eq_false (Nat.not_lt.2 c16));(try have c16b3:=c16b2);(try simp only [ByteArray.size_append,show(⟨#[32]⟩ :ByteArray).size=1 from rfl,Nat.zero_add,Nat.add_zero] at c16b3);by_cases c17:((a0_2++(⟨#[32]⟩ :ByteArray))++x7_8).size+2≤9223372036854775807
     rotate_left
     ·rw [if_neg c17] at H;exact absurd H (by simp)
     rw [if_pos c17] at H;(try have c17b2:(9223372036854775807 < ((a0_2++(⟨#[32]⟩ :ByteArray))++x7_8).size+2)=False:=eq_false (Nat.not_lt.2 c17));(try have c17b3:=c17b2);(try simp only [ByteArray.size_append,show(⟨#[32]⟩ :ByteArray).size=1 from rfl,Nat.zero_add,Nat.add_zero] at c17b3);by_cases c18:0 < (l0_3.length:Int)
     rotate_left
     ·rw [if_neg c18] at H;exact absurd H (by simp)
     rw [if_pos c18] at H;have c18b0:decide (0 < (l0_3.length:Int))=true:=decide_eq_true c18;clear c18;replace H:=Option.bind_eq_some_iff.mp H;obtain⟨t126,A190,H⟩ :=H;try dsimp only at H
     have A19:=Qa.mk A190;clear A190;by_cases c20:(((a0_2++(⟨#[32]⟩ :ByteArray))++x7_8)++(⟨#[61,32]⟩ :ByteArray)).size+t126.size≤9223372036854775807
     rotate_left
     ·rw [if_neg c20] at H;exact absurd H (by simp)
     rw [if_pos c20] at H;(try have c20b2:(9223372036854775807 < (((a0_2++(⟨#[32]⟩ :ByteArray))++x7_8)++(⟨#[61,32]⟩ :ByteArray)).size+t126.size)=False:=eq_false (Nat.not_lt.2 c20));(try have c20b3:=c20b2);(try simp only [ByteArray.size_append,show(⟨#[32]⟩ :ByteArray).size=1 from rfl,show(⟨#[61,32]⟩ :ByteArray).size=2 from rfl,Nat.zero_add,Nat.add_zero] at c20b3);have H':=Qa.mk H;clear H;(try go_wp2);replace BK122:=Qa.mk (Yg BK122.out);replace HB:=Qa.mk (Zg HB.out);have p125:0≤(0 :Int):=(by omega);have q125:0 < (l0_3.length:Int):=of_decide_eq_true (by(with_reducible assumption));obtain⟨ad125,A125_3,c125_3,e125,hx125_0,hx125_1,hx125_2,hx125_3,hl125_3,hi125_3⟩ :=Yf HR0_3.out 0 p125 q125;have hw125_3:=hx125_3;(try rw [show((0 :Int)).toNat=0 from rfl] at hw125_3);(try rw [show 0*4=0 from rfl] at hw125_3);(try rw [Addr.add_zero'] at hw125_3);have hw125_2:=hx125_2;(try rw [show((0 :Int)).toNat=0 from rfl] at hw125_2);(try rw [show 0*4=0 from rfl] at hw125_2);(try rw [Addr.add_zero'] at hw125_2);have hw125_1:=hx125_1;(try rw [show((0 :Int)).toNat=0 from rfl] at hw125_1);(try rw [show 0*4=0 from rfl] at hw125_1);(try rw [Addr.add_zero'] at hw125_1);have hw125_0:=hx125_0;(try rw [show((0 :Int)).toNat=0 from rfl] at hw125_0);(try rw [show 0*4=0 from rfl] at hw125_0);(try rw [Addr.add_zero'] at hw125_0)
     cases e125
     have qi125:(0 < l0_3.length)=True:=eq_true (by omega);(try rw [show((0 :Int)).toNat=0 from rfl] at hx125_0);(try rw [show 0*4=0 from rfl] at hx125_0);(try rw [Addr.add_zero'] at hx125_0);(try rw [show((0 :Int)).toNat=0 from rfl] at hx125_1);(try rw [show 0*4=0 from rfl] at hx125_1);(try rw [Addr.add_zero'] at hx125_1);(try rw [show((0 :Int)).toNat=0 from rfl] at hx125_2);(try rw [show 0*4=0 from rfl] at hx125_2);(try rw [Addr.add_zero'] at hx125_2);(try rw [show((0 :Int)).toNat=0 from rfl] at hx125_3);(try rw [show 0*4=0 from rfl] at hx125_3);(try rw [Addr.add_zero'] at hx125_3);replace hx125_0:=(HB.out.cell (World.block_lt_of_cell? w _ hx125_0)).trans hx125_0;replace hx125_1:=(HB.out.cell (World.block_lt_of_cell? w _ hx125_1)).trans hx125_1;replace hx125_2:=(HB.out.cell (World.block_lt_of_cell? w _ hx125_2)).trans hx125_2;replace hx125_3:=(HB.out.cell (World.block_lt_of_cell? w _ hx125_3)).trans hx125_3;have HR125_3:=Qa.mk hi125_3;have HC125_3:=Qa.mk hl125_3;clear hi125_3 hl125_3;replace p125:=eq_true p125;replace q125:=eq_true q125;refine Y6 (n:=13) (S:=fun w'=>w'.cell? ⟨gb122,0,none⟩=some (.int .i64 a0_0)∧w'.cell? ⟨gb122,1,none⟩=some (.int .i64 a0_1)∧w'.cell? ⟨gb122,2,none⟩=some (.string a0_2)∧w'.cell? ⟨gb122,3,none⟩=some (.slice (some ad125) l0_3.length c0_3)∧w'.cell? ad125=some (.int .i64 ((Qg l0_3 0).f0))∧w'.cell? ⟨ad125.block,ad125.off+1,none⟩=some (.int .i64 ((Qg l0_3 0).f1))∧w'.cell? ⟨ad125.block,ad125.off+2,none⟩=some (.string ((Qg l0_3 0).f2))∧w'.cell? ⟨ad125.block,ad125.off+3,none⟩=some (.slice A125_3 ((Qg l0_3 0).f3).length c125_3)) (ds:=[]) #[false,false,false,false,false,false,false,false,false,false,false,false,false] (by kernel_rfl) rfl rfl ⟨(Qb BK122.out 0).trans rfl,(Qb BK122.out 1).trans rfl,(Qb BK122.out 2).trans rfl,(Qb BK122.out 3).trans rfl,((HB.out.cell (World.block_lt_of_cell? w _ hw125_0)).trans hw125_0),((HB.out.cell (World.block_lt_of_cell? w _ hw125_1)).trans hw125_1),((HB.out.cell (World.block_lt_of_cell? w _ hw125_2)).trans hw125_2),((HB.out.cell (World.block_lt_of_cell? w _ hw125_3)).trans hw125_3)⟩ (fun hHeld=>?_);refine Vh Q4.tab9 Q4.bits9 (fun HT_ HW_=>?_)
     generalize wc.drew=w21 at BK122 HB HR125_3 hx125_0 hx125_1 hx125_2 hx125_3 hHeld ⊢;refine Xv (i:=0) (N:=some 40) (v:=?_) (a':=?_) #[true,false,false,false,false,false,false,false,false,false,false,false,false] rfl rfl (X3 HT_.out (by kernel_rfl)) (fun _ _ _ h=>h) (Or.inl ⟨by rfl,?_⟩) ?_ ?_
     rotate_left
     ·intro w';go_simp;with_reducible rfl
     rotate_left
     ·simp only [Act.put,List.setIfInBounds_toArray,List.set_cons_zero,List.set_cons_succ,Xc,Xd];rfl
     refine Xv (i:=3) (N:=some 43) (v:=?_) (a':=?_) #[true,false,false,true,false,false,false,false,false,false,false,false,false] rfl rfl (X3 HT_.out (by kernel_rfl)) (fun _ _ _ h=>h) (Or.inl ⟨by rfl,?_⟩) ?_ ?_
     rotate_left
     ·intro w';go_simp;with_reducible rfl
     rotate_left
     ·simp only [Act.put,List.setIfInBounds_toArray,List.set_cons_zero,List.set_cons_succ,Xc,Xd];rfl
     refine Xv (i:=6) (N:=some 46) (v:=?_) (a':=?_) #[true,false,false,true,false,false,true,false,false,false,false,false,false] rfl rfl (X3 HT_.out (by kernel_rfl)) (fun _ _ _ h=>h) (Or.inl ⟨by rfl,?_⟩) ?_ ?_
     rotate_left
     ·intro w';go_simp;with_reducible rfl
     rotate_left
     ·simp only [Act.put,List.setIfInBounds_toArray,List.set_cons_zero,List.set_cons_succ,Xc,Xd];rfl
     refine Zt (i:=1) (N:=some 41) (v:=?_) (a':=?_) #[true,true,false,true,false,false,true,false,false,false,false,false,false] rfl rfl (Zf HT_.out HW_.out (by kernel_rfl)) (fun _ _ _ h=>h) (Or.inl ⟨by rfl,?_⟩) hHeld ?_ ?_
     rotate_left
     ·rintro w' ⟨s0,s1,s2,s3,s4,s5,s6,s7⟩;go_simp;with_reducible rfl
     rotate_left
     ·simp only [Act.put,List.setIfInBounds_toArray,List.set_cons_zero,List.set_cons_succ,Xc,Xd];rfl
     refine Xv (i:=2) (N:=some 42) (v:=?_) (a':=?_) #[true,true,true,true,false,false,true,false,false,false,false,false,false] rfl rfl (X3 HT_.out (by kernel_rfl)) (fun _ _ _ h=>h) (Or.inl ⟨by rfl,?_⟩) ?_ ?_
     rotate_left
     ·intro w';go_simp;with_reducible rfl
     rotate_left
     ·simp only [Act.put,List.setIfInBounds_toArray,List.set_cons_zero,List.set_cons_succ,Xc,Xd];rfl
     refine Xv (i:=4) (N:=some 44) (v:=?_) (a':=?_) #[true,true,true,true,true,false,true,false,false,false,false,false,false] rfl rfl (X3 HT_.out (by kernel_rfl)) (fun _ _ _ h=>h) (Or.inl ⟨by rfl,?_⟩) ?_ ?_
     rotate_left
     ·intro w';go_simp;with_reducible rfl
     rotate_left
     ·simp only [Act.put,List.setIfInBounds_toArray,List.set_cons_zero,List.set_cons_succ,Xc,Xd];rfl
     refine Xv (i:=5) (N:=some 45) (v:=?_) (a':=?_) #[true,true,true,true,true,true,true,false,false,false,false,false,false] rfl rfl (X3 HT_.out (by kernel_rfl)) (fun _ _ _ h=>h) (Or.inl ⟨by rfl,?_⟩) ?_ ?_
     rotate_left
     ·intro w';go_simp;with_reducible rfl
     rotate_left
     ·simp only [Act.put,List.setIfInBounds_toArray,List.set_cons_zero,List.set_cons_succ,Xc,Xd];rfl
     refine Zt (i:=7) (N:=some 47) (v:=?_) (a':=?_) #[true,true,true,true,true,true,true,true,false,false,false,false,false] rfl rfl (Zf HT_.out HW_.out (by kernel_rfl)) (fun _ _ _ h=>h) (Or.inl ⟨by rfl,?_⟩) hHeld ?_ ?_
     rotate_left
     ·rintro w' ⟨s0,s1,s2,s3,s4,s5,s6,s7⟩;go_simp;with_reducible rfl
     rotate_left
     ·simp only [Act.put,List.setIfInBounds_toArray,List.set_cons_zero,List.set_cons_succ,Xc,Xd];rfl
     refine Xv (i:=8) (N:=some 48) (v:=?_) (a':=?_) #[true,true,true,true,true,true,true,true,true,false,false,false,false] rfl rfl (X3 HT_.out (by kernel_rfl)) (fun _ _ _ h=>h) (Or.inl ⟨by rfl,?_⟩) ?_ ?_
     rotate_left
     ·intro w';go_simp;with_reducible rfl
     rotate_left
     ·simp only [Act.put,List.setIfInBounds_toArray,List.set_cons_zero,List.set_cons_succ,Xc,Xd];rfl
     refine Zt (i:=9) (N:=some 49) (v:=?_) (a':=?_) #[true,true,true,true,true,true,true,true,true,true,false,false,false] rfl rfl (Zf HT_.out HW_.out (by kernel_rfl)) (fun _ _ _ h=>h) (Or.inl ⟨by rfl,?_⟩) hHeld ?_ ?_
     rotate_left
     ·rintro w' ⟨s0,s1,s2,s3,s4,s5,s6,s7⟩;go_simp;with_reducible rfl
     rotate_left
     ·simp only [Act.put,List.setIfInBounds_toArray,List.set_cons_zero,List.set_cons_succ,Xc,Xd];rfl
     refine Vn (i:=10) (N:=some 50) #[true,true,true,true,true,true,true,true,true,true,true,false,false] rfl rfl (Vk HT_.out (by kernel_rfl)) (by decide) (fun K hK=>?_);refine Vz Tryd.func52 (by kernel_rfl) rfl #[.agg #[.int .i64 ((Qg l0_3 0).f0),.int .i64 ((Qg l0_3 0).f1),.string ((Qg l0_3 0).f2),.slice A125_3 ((Qg l0_3 0).f3).length c125_3],.int .i64 1] (by rfl) rfl rfl (by(try simp only [List.map_toArray,List.map_cons,List.map_nil]);rfl) ?_;with_reducible refine(ih kj8 (by have:=HJ8.out;omega) ((Qg l0_3 0).f0) ((Qg l0_3 0).f1) ((Qg l0_3 0).f2) _ _ ((Qg l0_3 0).f3) 1 t126 _ ?side1 ?side2 A19.out).mono ?_
     (case side1=>repeat(exact(Kd.C_below HR125_3.out HB.out)))
     (case side2=>exact HC125_3.out)
     rintro e w22 ⟨rfl,hb⟩;refine⟨_,rfl,?_⟩;replace BK122:=Qa.mk (Q1 (g:=gb122) (o:=.cells #[.int .i64 a0_0,.int .i64 a0_1,.string a0_2,.slice (some ad125) l0_3.length c0_3] 26 (0,0)) BK122.out hb);replace HB:=Qa.mk (Qr HB.out hb);(try clear hb);refine hK.out _ _ ⟨(Qb BK122.out 0).trans rfl,(Qb BK122.out 1).trans rfl,(Qb BK122.out 2).trans rfl,(Qb BK122.out 3).trans rfl,((HB.out.cell (World.block_lt_of_cell? w _ hw125_0)).trans hw125_0),((HB.out.cell (World.block_lt_of_cell? w _ hw125_1)).trans hw125_1),((HB.out.cell (World.block_lt_of_cell? w _ hw125_2)).trans hw125_2),((HB.out.cell (World.block_lt_of_cell? w _ hw125_3)).trans hw125_3)⟩ (fun hHeld=>?_);clear hK K;refine Va (a':=?_) ?_ ?_
     rotate_left
     ·show Act.put _ (some 50) _=_
      simp only [Act.put,List.setIfInBounds_toArray,List.set_cons_zero,List.set_cons_succ,Xc,Xd];rfl
     refine Xv (i:=11) (N:=some 51) (v:=?_) (a':=?_) #[true,true,true,true,true,true,true,true,true,true,true,true,false] rfl rfl (X3 HT_.out (by kernel_rfl)) (fun _ _ _ h=>h) (Or.inl ⟨by rfl,?_⟩) ?_ ?_
     rotate_left
     ·intro w';go_simp;with_reducible rfl
     rotate_left
     ·simp only [Act.put,List.setIfInBounds_toArray,List.set_cons_zero,List.set_cons_succ,Xc,Xd];rfl
     refine Xv (i:=12) (N:=some 6) (v:=?_) (a':=?_) #[true,true,true,true,true,true,true,true,true,true,true,true,true] rfl rfl (X3 HT_.out (by kernel_rfl)) (fun _ _ _ h=>h) (Or.inl ⟨by rfl,?_⟩) ?_ ?_
     rotate_left
     ·intro w';go_simp;with_reducible rfl
     rotate_left
     ·simp only [Act.put,List.setIfInBounds_toArray,List.set_cons_zero,List.set_cons_succ,Xc,Xd];rfl
     refine Wi (Wj HT_.out (by kernel_rfl)) ?_;(try go_wp2)
     go_meet
     case rel=>exact⟨_,((((a0_2++(⟨#[32]⟩ :ByteArray))++x7_8)++(⟨#[61,32]⟩ :ByteArray))++t126),(by rfl),H',⟨by have:=HJ8.out;omega⟩,⟨HB.out⟩⟩
  rw [if_neg c8] at H;have c8b0:(t123==1)=false:=beq_eq_false_iff_ne.mpr c8;by_cases c23:t123=2
  ·rw [if_pos c23] at H;have c23b0:(t123==2)=true:=beq_iff_eq.mpr c23;clear c23;by_cases c24:0 < (l0_3.length:Int)
   rotate_left
   ·rw [if_neg c24] at H;exact absurd H (by simp)
   rw [if_pos c24] at H;have c24b0:decide (0 < (l0_3.length:Int))=true:=decide_eq_true c24;clear c24;replace H:=Option.bind_eq_some_iff.mp H;obtain⟨t128,A250,H⟩ :=H;try dsimp only at H
   have A25:=Qa.mk A250;clear A250;by_cases c26:t128.size+3≤9223372036854775807
   rotate_left
   ·rw [if_neg c26] at H;exact absurd H (by simp)
   rw [if_pos c26] at H;(try have c26b2:(9223372036854775807 < t128.size+3)=False:=eq_false (Nat.not_lt.2 c26));by_cases c27:1 < (l0_3.length:Int)
   rotate_left
   ·rw [if_neg c27] at H;exact absurd H (by simp)
   rw [if_pos c27] at H;have c27b0:decide (1 < (l0_3.length:Int))=true:=decide_eq_true c27;clear c27;replace H:=Option.bind_eq_some_iff.mp H;obtain⟨t130,A280,H⟩ :=H;try dsimp only at H
   have A28:=Qa.mk A280;clear A280;by_cases c29:(t128++(⟨#[32,63,32]⟩ :ByteArray)).size+t130.size≤9223372036854775807
   rotate_left
   ·rw [if_neg c29] at H;exact absurd H (by simp)
   rw [if_pos c29] at H;(try have c29b2:(9223372036854775807 < (t128++(⟨#[32,63,32]⟩ :ByteArray)).size+t130.size)=False:=eq_false (Nat.not_lt.2 c29));(try have c29b3:=c29b2);(try simp only [ByteArray.size_append,show(⟨#[32,63,32]⟩ :ByteArray).size=3 from rfl,Nat.zero_add,Nat.add_zero] at c29b3);by_cases c30:((t128++(⟨#[32,63,32]⟩ :ByteArray))++t130).size+3≤9223372036854775807
   rotate_left
   ·rw [if_neg c30] at H;exact absurd H (by simp)
   rw [if_pos c30] at H;(try have c30b2:(9223372036854775807 < ((t128++(⟨#[32,63,32]⟩ :ByteArray))++t130).size+3)=False:=eq_false (Nat.not_lt.2 c30));(try have c30b3:=c30b2);(try simp only [ByteArray.size_append,show(⟨#[32,63,32]⟩ :ByteArray).size=3 from rfl,Nat.zero_add,Nat.add_zero] at c30b3);by_cases c31:2 < (l0_3.length:Int)
   rotate_left
   ·rw [if_neg c31] at H;exact absurd H (by simp)
   rw [if_pos c31] at H;have c31b0:decide (2 < (l0_3.length:Int))=true:=decide_eq_true c31;clear c31;replace H:=Option.bind_eq_some_iff.mp H;obtain⟨t132,A320,H⟩ :=H;try dsimp only at H
   have A32:=Qa.mk A320;clear A320;by_cases c33:(((t128++(⟨#[32,63,32]⟩ :ByteArray))++t130)++(⟨#[32,58,32]⟩ :ByteArray)).size+t132.size≤9223372036854775807
   rotate_left
   ·rw [if_neg c33] at H;exact absurd H (by simp)
   rw [if_pos c33] at H;(try have c33b2:(9223372036854775807 < (((t128++(⟨#[32,63,32]⟩ :ByteArray))++t130)++(⟨#[32,58,32]⟩ :ByteArray)).size+t132.size)=False:=eq_false (Nat.not_lt.2 c33));(try have c33b3:=c33b2);(try simp only [ByteArray.size_append,show(⟨#[32,63,32]⟩ :ByteArray).size=3 from rfl,show(⟨#[32,58,32]⟩ :ByteArray).size=3 from rfl,Nat.zero_add,Nat.add_zero] at c33b3);have H':=Qa.mk H;clear H;(try go_wp2);replace BK122:=Qa.mk (Yg BK122.out);replace HB:=Qa.mk (Zg HB.out);have p127:0≤(0 :Int):=(by omega);have q127:0 < (l0_3.length:Int):=of_decide_eq_true (by(with_reducible assumption));obtain⟨ad127,A127_3,c127_3,e127,hx127_0,hx127_1,hx127_2,hx127_3,hl127_3,hi127_3⟩ :=Yf HR0_3.out 0 p127 q127;have hw127_3:=hx127_3;(try rw [show((0 :Int)).toNat=0 from rfl] at hw127_3);(try rw [show 0*4=0 from rfl] at hw127_3);(try rw [Addr.add_zero'] at hw127_3);have hw127_2:=hx127_2;(try rw [show((0 :Int)).toNat=0 from rfl] at hw127_2);(try rw [show 0*4=0 from rfl] at hw127_2);(try rw [Addr.add_zero'] at hw127_2);have hw127_1:=hx127_1;(try rw [show((0 :Int)).toNat=0 from rfl] at hw127_1);(try rw [show 0*4=0 from rfl] at hw127_1);(try rw [Addr.add_zero'] at hw127_1);have hw127_0:=hx127_0;(try rw [show((0 :Int)).toNat=0 from rfl] at hw127_0);(try rw [show 0*4=0 from rfl] at hw127_0);(try rw [Addr.add_zero'] at hw127_0)
   cases e127
   have qi127:(0 < l0_3.length)=True:=eq_true (by omega);(try rw [show((0 :Int)).toNat=0 from rfl] at hx127_0);(try rw [show 0*4=0 from rfl] at hx127_0);(try rw [Addr.add_zero'] at hx127_0);(try rw [show((0 :Int)).toNat=0 from rfl] at hx127_1);(try rw [show 0*4=0 from rfl] at hx127_1);(try rw [Addr.add_zero'] at hx127_1);(try rw [show((0 :Int)).toNat=0 from rfl] at hx127_2);(try rw [show 0*4=0 from rfl] at hx127_2);(try rw [Addr.add_zero'] at hx127_2);(try rw [show((0 :Int)).toNat=0 from rfl] at hx127_3);(try rw [show 0*4=0 from rfl] at hx127_3);(try rw [Addr.add_zero'] at hx127_3);replace hx127_0:=(HB.out.cell (World.block_lt_of_cell? w _ hx127_0)).trans hx127_0;replace hx127_1:=(HB.out.cell (World.block_lt_of_cell? w _ hx127_1)).trans hx127_1;replace hx127_2:=(HB.out.cell (World.block_lt_of_cell? w _ hx127_2)).trans hx127_2;replace hx127_3:=(HB.out.cell (World.block_lt_of_cell? w _ hx127_3)).trans hx127_3;have HR127_3:=Qa.mk hi127_3;have HC127_3:=Qa.mk hl127_3;clear hi127_3 hl127_3;replace p127:=eq_true p127;replace q127:=eq_true q127;have p129:0≤(1 :Int):=(by omega);have q129:1 < (l0_3.length:Int):=of_decide_eq_true (by(with_reducible assumption));obtain⟨ad129,A129_3,c129_3,e129,hx129_0,hx129_1,hx129_2,hx129_3,hl129_3,hi129_3⟩ :=Yf HR0_3.out 1 p129 q129;have hw129_3:=hx129_3;(try rw [show((1 :Int)).toNat=1 from rfl] at hw129_3);(try rw [show 1*4=4 from rfl] at hw129_3);(try simp only [Nat.reduceMul,Nat.reduceEqDiff,Go.Addr.add,↓reduceIte] at hw129_3);have hw129_2:=hx129_2;(try rw [show((1 :Int)).toNat=1 from rfl] at hw129_2);(try rw [show 1*4=4 from rfl] at hw129_2);(try simp only [Nat.reduceMul,Nat.reduceEqDiff,Go.Addr.add,↓reduceIte] at hw129_2);have hw129_1:=hx129_1;(try rw [show((1 :Int)).toNat=1 from rfl] at hw129_1);(try rw [show 1*4=4 from rfl] at hw129_1);(try simp only [Nat.reduceMul,Nat.reduceEqDiff,Go.Addr.add,↓reduceIte] at hw129_1);have hw129_0:=hx129_0;(try rw [show((1 :Int)).toNat=1 from rfl] at hw129_0);(try rw [show 1*4=4 from rfl] at hw129_0);(try simp only [Nat.reduceMul,Nat.reduceEqDiff,Go.Addr.add,↓reduceIte] at hw129_0);obtain rfl:ad127=ad129:=(by injection e129);(try simp only [show(1 :Int).toNat=1 from rfl,Nat.reduceMul,Nat.reduceEqDiff,Go.Addr.add,↓reduceIte] at hx129_0);(try simp only [show(1 :Int).toNat=1 from rfl,Nat.reduceMul,Nat.reduceEqDiff,Go.Addr.add,↓reduceIte] at hx129_1);(try simp only [show(1 :Int).toNat=1 from rfl,Nat.reduceMul,Nat.reduceEqDiff,Go.Addr.add,↓reduceIte] at hx129_2);(try simp only [show(1 :Int).toNat=1 from rfl,Nat.reduceMul,Nat.reduceEqDiff,Go.Addr.add,↓reduceIte] at hx129_3);replace hx129_0:=(HB.out.cell (World.block_lt_of_cell? w _ hx129_0)).trans hx129_0;replace hx129_1:=(HB.out.cell (World.block_lt_of_cell? w _ hx129_1)).trans hx129_1;replace hx129_2:=(HB.out.cell (World.block_lt_of_cell? w _ hx129_2)).trans hx129_2;replace hx129_3:=(HB.out.cell (World.block_lt_of_cell? w _ hx129_3)).trans hx129_3;have HR129_3:=Qa.mk hi129_3;have HC129_3:=Qa.mk hl129_3;clear hi129_3 hl129_3;replace p129:=eq_true p129;replace q129:=eq_true q129;have p131:0≤(2 :Int):=(by omega);have q131:2 < (l0_3.length:Int):=of_decide_eq_true (by(with_reducible assumption));obtain⟨ad131,A131_3,c131_3,e131,hx131_0,hx131_1,hx131_2,hx131_3,hl131_3,hi131_3⟩ :=Yf HR0_3.out 2 p131 q131;have hw131_3:=hx131_3;(try rw [show((2 :Int)).toNat=2 from rfl] at hw131_3);(try rw [show 2*4=8 from rfl] at hw131_3);(try simp only [Nat.reduceMul,Nat.reduceEqDiff,Go.Addr.add,↓reduceIte] at hw131_3);have hw131_2:=hx131_2;(try rw [show((2 :Int)).toNat=2 from rfl] at hw131_2);(try rw [show 2*4=8 from rfl] at hw131_2);(try simp only [Nat.reduceMul,Nat.reduceEqDiff,Go.Addr.add,↓reduceIte] at hw131_2);have hw131_1:=hx131_1;(try rw [show((2 :Int)).toNat=2 from rfl] at hw131_1);(try rw [show 2*4=8 from rfl] at hw131_1);(try simp only [Nat.reduceMul,Nat.reduceEqDiff,Go.Addr.add,↓reduceIte] at hw131_1);have hw131_0:=hx131_0;(try rw [show((2 :Int)).toNat=2 from rfl] at hw131_0);(try rw [show 2*4=8 from rfl] at hw131_0);(try simp only [Nat.reduceMul,Nat.reduceEqDiff,Go.Addr.add,↓reduceIte] at hw131_0);obtain rfl:ad127=ad131:=(by injection e131);(try simp only [show(2 :Int).toNat=2 from rfl,Nat.reduceMul,Nat.reduceEqDiff,Go.Addr.add,↓reduceIte] at hx131_0);(try simp only [show(2 :Int).toNat=2 from rfl,Nat.reduceMul,Nat.reduceEqDiff,Go.Addr.add,↓reduceIte] at hx131_1);(try simp only [show(2 :Int).toNat=2 from rfl,Nat.reduceMul,Nat.reduceEqDiff,Go.Addr.add,↓reduceIte] at hx131_2);(try simp only [show(2 :Int).toNat=2 from rfl,Nat.reduceMul,Nat.reduceEqDiff,Go.Addr.add,↓reduceIte] at hx131_3);replace hx131_0:=(HB.out.cell (World.block_lt_of_cell? w _ hx131_0)).trans hx131_0;replace hx131_1:=(HB.out.cell (World.block_lt_of_cell? w _ hx131_1)).trans hx131_1;replace hx131_2:=(HB.out.cell (World.block_lt_of_cell? w _ hx131_2)).trans hx131_2;replace hx131_3:=(HB.out.cell (World.block_lt_of_cell? w _ hx131_3)).trans hx131_3;have HR131_3:=Qa.mk hi131_3;have HC131_3:=Qa.mk hl131_3;clear hi131_3 hl131_3;replace p131:=eq_true p131;replace q131:=eq_true q131;refine Y6 (n:=20) (S:=fun w'=>w'.cell? ⟨gb122,0,none⟩=some (.int .i64 a0_0)∧w'.cell? ⟨gb122,1,none⟩=some (.int .i64 a0_1)∧w'.cell? ⟨gb122,2,none⟩=some (.string a0_2)∧w'.cell? ⟨gb122,3,none⟩=some (.slice (some ad127) l0_3.length c0_3)∧w'.cell? ad127=some (.int .i64 ((Qg l0_3 0).f0))∧w'.cell? ⟨ad127.block,ad127.off+1,none⟩=some (.int .i64 ((Qg l0_3 0).f1))∧w'.cell? ⟨ad127.block,ad127.off+2,none⟩=some (.string ((Qg l0_3 0).f2))∧w'.cell? ⟨ad127.block,ad127.off+3,none⟩=some (.slice A127_3 ((Qg l0_3 0).f3).length c127_3)∧w'.cell? ⟨ad127.block,ad127.off+4,none⟩=some (.int .i64 ((Qg l0_3 1).f0))∧w'.cell? ⟨ad127.block,ad127.off+4+1,none⟩=some (.int .i64 ((Qg l0_3 1).f1))∧w'.cell? ⟨ad127.block,ad127.off+4+2,none⟩=some (.string ((Qg l0_3 1).f2))∧w'.cell? ⟨ad127.block,ad127.off+4+3,none⟩=some (.slice A129_3 ((Qg l0_3 1).f3).length c129_3)∧w'.cell? ⟨ad127.block,ad127.off+8,none⟩=some (.int .i64 ((Qg l0_3 2).f0))∧w'.cell? ⟨ad127.block,ad127.off+8+1,none⟩=some (.int .i64 ((Qg l0_3 2).f1))∧w'.cell? ⟨ad127.block,ad127.off+8+2,none⟩=some (.string ((Qg l0_3 2).f2))∧w'.cell? ⟨ad127.block,ad127.off+8+3,none⟩=some (.slice A131_3 ((Qg l0_3 2).f3).length c131_3)) (ds:=[]) #[false,false,false,false,false,false,false,false,false,false,false,false,false,false,false,false,false,false,false,false] (by kernel_rfl) rfl rfl ⟨(Qb BK122.out 0).trans rfl,(Qb BK122.out 1).trans rfl,(Qb BK122.out 2).trans rfl,(Qb BK122.out 3).trans rfl,((HB.out.cell (World.block_lt_of_cell? w _ hw127_0)).trans hw127_0),((HB.out.cell (World.block_lt_of_cell? w _ hw127_1)).trans hw127_1),((HB.out.cell (World.block_lt_of_cell? w _ hw127_2)).trans hw127_2),((HB.out.cell (World.block_lt_of_cell? w _ hw127_3)).trans hw127_3),((HB.out.cell (World.block_lt_of_cell? w _ hw129_0)).trans hw129_0),((HB.out.cell (World.block_lt_of_cell? w _ hw129_1)).trans hw129_1),((HB.out.cell (World.block_lt_of_cell? w _ hw129_2)).trans hw129_2),((HB.out.cell (World.block_lt_of_cell? w _ hw129_3)).trans hw129_3),((HB.out.cell (World.block_lt_of_cell? w _ hw131_0)).trans hw131_0),((HB.out.cell (World.block_lt_of_cell? w _ hw131_1)).trans hw131_1),((HB.out.cell (World.block_lt_of_cell? w _ hw131_2)).trans hw131_2),((HB.out.cell (World.block_lt_of_cell? w _ hw131_3)).trans hw131_3)⟩ (fun hHeld=>?_);refine Vh Q4.tab11 Q4.bits11 (fun HT_ HW_=>?_)
   generalize w7.drew=w34 at BK122 HB HR127_3 HR129_3 HR131_3 hx127_0 hx127_1 hx127_2 hx127_3 hx129_0 hx129_1 hx129_2 hx129_3 hx131_0 hx131_1 hx131_2 hx131_3 hHeld ⊢;refine Xv (i:=0) (N:=some 54) (v:=?_) (a':=?_) #[true,false,false,false,false,false,false,false,false,false,false,false,false,false,false,false,false,false,false,false] rfl rfl (X3 HT_.out (by kernel_rfl)) (fun _ _ _ h=>h) (Or.inl ⟨by rfl,?_⟩) ?_ ?_
   rotate_left
   ·intro w';go_simp;with_reducible rfl
   rotate_left
   ·simp only [Act.put,List.setIfInBounds_toArray,List.set_cons_zero,List.set_cons_succ,Xc,Xd];rfl
   refine Xv (i:=6) (N:=some 60) (v:=?_) (a':=?_) #[true,false,false,false,false,false,true,false,false,false,false,false,false,false,false,false,false,false,false,false] rfl rfl (X3 HT_.out (by kernel_rfl)) (fun _ _ _ h=>h) (Or.inl ⟨by rfl,?_⟩) ?_ ?_
   rotate_left
   ·intro w';go_simp;with_reducible rfl
   rotate_left
   ·simp only [Act.put,List.setIfInBounds_toArray,List.set_cons_zero,List.set_cons_succ,Xc,Xd];rfl
   refine Xv (i:=13) (N:=some 67) (v:=?_) (a':=?_) #[true,false,false,false,false,false,true,false,false,false,false,false,false,true,false,false,false,false,false,false] rfl rfl (X3 HT_.out (by kernel_rfl)) (fun _ _ _ h=>h) (Or.inl ⟨by rfl,?_⟩) ?_ ?_
   rotate_left
   ·intro w';go_simp;with_reducible rfl
   rotate_left
   ·simp only [Act.put,List.setIfInBounds_toArray,List.set_cons_zero,List.set_cons_succ,Xc,Xd];rfl
   refine Zt (i:=1) (N:=some 55) (v:=?_) (a':=?_) #[true,true,false,false,false,false,true,false,false,false,false,false,false,true,false,false,false,false,false,false] rfl rfl (Zf HT_.out HW_.out (by kernel_rfl)) (fun _ _ _ h=>h) (Or.inl ⟨by rfl,?_⟩) hHeld ?_ ?_
   rotate_left
   ·rintro w' ⟨s0,s1,s2,s3,s4,s5,s6,s7,s8,s9,s10,s11,s12,s13,s14,s15⟩;go_simp;with_reducible rfl
   rotate_left
   ·simp only [Act.put,List.setIfInBounds_toArray,List.set_cons_zero,List.set_cons_succ,Xc,Xd];rfl
   refine Xv (i:=2) (N:=some 56) (v:=?_) (a':=?_) #[true,true,true,false,false,false,true,false,false,false,false,false,false,true,false,false,false,false,false,false] rfl rfl (X3 HT_.out (by kernel_rfl)) (fun _ _ _ h=>h) (Or.inl ⟨by rfl,?_⟩) ?_ ?_
   rotate_left
   ·intro w';go_simp;with_reducible rfl
   rotate_left
   ·simp only [Act.put,List.setIfInBounds_toArray,List.set_cons_zero,List.set_cons_succ,Xc,Xd];rfl
   refine Zt (i:=3) (N:=some 57) (v:=?_) (a':=?_) #[true,true,true,true,false,false,true,false,false,false,false,false,false,true,false,false,false,false,false,false] rfl rfl (Zf HT_.out HW_.out (by kernel_rfl)) (fun _ _ _ h=>h) (Or.inl ⟨by rfl,?_⟩) hHeld ?_ ?_
   rotate_left
   ·rintro w' ⟨s0,s1,s2,s3,s4,s5,s6,s7,s8,s9,s10,s11,s12,s13,s14,s15⟩;go_simp;with_reducible rfl
   rotate_left
   ·simp only [Act.put,List.setIfInBounds_toArray,List.set_cons_zero,List.set_cons_succ,Xc,Xd];rfl
   refine Zt (i:=7) (N:=some 61) (v:=?_) (a':=?_) #[true,true,true,true,false,false,true,true,false,false,false,false,false,true,false,false,false,false,false,false] rfl rfl (Zf HT_.out HW_.out (by kernel_rfl)) (fun _ _ _ h=>h) (Or.inl ⟨by rfl,?_⟩) hHeld ?_ ?_
   rotate_left
   ·rintro w' ⟨s0,s1,s2,s3,s4,s5,s6,s7,s8,s9,s10,s11,s12,s13,s14,s15⟩;go_simp;with_reducible rfl
   rotate_left
   ·simp only [Act.put,List.setIfInBounds_toArray,List.set_cons_zero,List.set_cons_succ,Xc,Xd];rfl
   refine Xv (i:=8) (N:=some 62) (v:=?_) (a':=?_) #[true,true,true,true,false,false,true,true,true,false,false,false,false,true,false,false,false,false,false,false] rfl rfl (X3 HT_.out (by kernel_rfl)) (fun _ _ _ h=>h) (Or.inl ⟨by rfl,?_⟩) ?_ ?_
   rotate_left
   ·intro w';go_simp;with_reducible rfl
   rotate_left
   ·simp only [Act.put,List.setIfInBounds_toArray,List.set_cons_zero,List.set_cons_succ,Xc,Xd];rfl
   refine Zt (i:=9) (N:=some 63) (v:=?_) (a':=?_) #[true,true,true,true,false,false,true,true,true,true,false,false,false,true,false,false,false,false,false,false] rfl rfl (Zf HT_.out HW_.out (by kernel_rfl)) (fun _ _ _ h=>h) (Or.inl ⟨by rfl,?_⟩) hHeld ?_ ?_
   rotate_left
   ·rintro w' ⟨s0,s1,s2,s3,s4,s5,s6,s7,s8,s9,s10,s11,s12,s13,s14,s15⟩;go_simp;with_reducible rfl
   rotate_left
   ·simp only [Act.put,List.setIfInBounds_toArray,List.set_cons_zero,List.set_cons_succ,Xc,Xd];rfl
   refine Zt (i:=14) (N:=some 68) (v:=?_) (a':=?_) #[true,true,true,true,false,false,true,true,true,true,false,false,false,true,true,false,false,false,false,false] rfl rfl (Zf HT_.out HW_.out (by kernel_rfl)) (fun _ _ _ h=>h) (Or.inl ⟨by rfl,?_⟩) hHeld ?_ ?_
   rotate_left
   ·rintro w' ⟨s0,s1,s2,s3,s4,s5,s6,s7,s8,s9,s10,s11,s12,s13,s14,s15⟩;go_simp;with_reducible rfl
   rotate_left
   ·simp only [Act.put,List.setIfInBounds_toArray,List.set_cons_zero,List.set_cons_succ,Xc,Xd];rfl
   refine Xv (i:=15) (N:=some 69) (v:=?_) (a':=?_) #[true,true,true,true,false,false,true,true,true,true,false,false,false,true,true,true,false,false,false,false] rfl rfl (X3 HT_.out (by kernel_rfl)) (fun _ _ _ h=>h) (Or.inl ⟨by rfl,?_⟩) ?_ ?_
   rotate_left
   ·intro w';go_simp;with_reducible rfl
   rotate_left
   ·simp only [Act.put,List.setIfInBounds_toArray,List.set_cons_zero,List.set_cons_succ,Xc,Xd];rfl
   refine Zt (i:=16) (N:=some 70) (v:=?_) (a':=?_) #[true,true,true,true,false,false,true,true,true,true,false,false,false,true,true,true,true,false,false,false] rfl rfl (Zf HT_.out HW_.out (by kernel_rfl)) (fun _ _ _ h=>h) (Or.inl ⟨by rfl,?_⟩) hHeld ?_ ?_
   rotate_left
   ·rintro w' ⟨s0,s1,s2,s3,s4,s5,s6,s7,s8,s9,s10,s11,s12,s13,s14,s15⟩;go_simp;with_reducible rfl
   rotate_left
   ·simp only [Act.put,List.setIfInBounds_toArray,List.set_cons_zero,List.set_cons_succ,Xc,Xd];rfl
   refine Vn (i:=4) (N:=some 58) #[true,true,true,true,true,false,true,true,true,true,false,false,false,true,true,true,true,false,false,false] rfl rfl (Vk HT_.out (by kernel_rfl)) (by decide) (fun K hK=>?_);refine Vz Tryd.func52 (by kernel_rfl) rfl #[.agg #[.int .i64 ((Qg l0_3 0).f0),.int .i64 ((Qg l0_3 0).f1),.string ((Qg l0_3 0).f2),.slice A127_3 ((Qg l0_3 0).f3).length c127_3],.int .i64 3] (by rfl) rfl rfl (by(try simp only [List.map_toArray,List.map_cons,List.map_nil]);rfl) ?_;with_reducible refine(ih k (by omega) ((Qg l0_3 0).f0) ((Qg l0_3 0).f1) ((Qg l0_3 0).f2) _ _ ((Qg l0_3 0).f3) 3 t128 _ ?side1 ?side2 A25.out).mono ?_
   (case side1=>repeat(exact(Kd.C_below HR127_3.out HB.out)))
   (case side2=>exact HC127_3.out)
   rintro e w35 ⟨rfl,hb⟩;refine⟨_,rfl,?_⟩;replace BK122:=Qa.mk (Q1 (g:=gb122) (o:=.cells #[.int .i64 a0_0,.int .i64 a0_1,.string a0_2,.slice (some ad127) l0_3.length c0_3] 26 (0,0)) BK122.out hb);replace HB:=Qa.mk (Qr HB.out hb);(try clear hb);refine hK.out _ _ ⟨(Qb BK122.out 0).trans rfl,(Qb BK122.out 1).trans rfl,(Qb BK122.out 2).trans rfl,(Qb BK122.out 3).trans rfl,((HB.out.cell (World.block_lt_of_cell? w _ hw127_0)).trans hw127_0),((HB.out.cell (World.block_lt_of_cell? w _ hw127_1)).trans hw127_1),((HB.out.cell (World.block_lt_of_cell? w _ hw127_2)).trans hw127_2),((HB.out.cell (World.block_lt_of_cell? w _ hw127_3)).trans hw127_3),((HB.out.cell (World.block_lt_of_cell? w _ hw129_0)).trans hw129_0),((HB.out.cell (World.block_lt_of_cell? w _ hw129_1)).trans hw129_1),((HB.out.cell (World.block_lt_of_cell? w _ hw129_2)).trans hw129_2),((HB.out.cell (World.block_lt_of_cell? w _ hw129_3)).trans hw129_3),((HB.out.cell (World.block_lt_of_cell? w _ hw131_0)).trans hw131_0),((HB.out.cell (World.block_lt_of_cell? w _ hw131_1)).trans hw131_1),((HB.out.cell (World.block_lt_of_cell? w _ hw131_2)).trans hw131_2),((HB.out.cell (World.block_lt_of_cell? w _ hw131_3)).trans hw131_3)⟩ (fun hHeld=>?_);clear hK K;refine Va (a':=?_) ?_ ?_
   rotate_left
   ·show Act.put _ (some 58) _=_
    simp only [Act.put,List.setIfInBounds_toArray,List.set_cons_zero,List.set_cons_succ,Xc,Xd];rfl
   refine Xv (i:=5) (N:=some 59) (v:=?_) (a':=?_) #[true,true,true,true,true,true,true,true,true,true,false,false,false,true,true,true,true,false,false,false] rfl rfl (X3 HT_.out (by kernel_rfl)) (fun _ _ _ h=>h) (Or.inl ⟨by rfl,?_⟩) ?_ ?_
   rotate_left
   ·intro w';go_simp;with_reducible rfl
   rotate_left
   ·simp only [Act.put,List.setIfInBounds_toArray,List.set_cons_zero,List.set_cons_succ,Xc,Xd];rfl
   refine Vn (i:=10) (N:=some 64) #[true,true,true,true,true,true,true,true,true,true,true,false,false,true,true,true,true,false,false,false] rfl rfl (Vk HT_.out (by kernel_rfl)) (by decide) (fun K hK=>?_);refine Vz Tryd.func52 (by kernel_rfl) rfl #[.agg #[.int .i64 ((Qg l0_3 1).f0),.int .i64 ((Qg l0_3 1).f1),.string ((Qg l0_3 1).f2),.slice A129_3 ((Qg l0_3 1).f3).length c129_3],.int .i64 1] (by rfl) rfl rfl (by(try simp only [List.map_toArray,List.map_cons,List.map_nil]);rfl) ?_;with_reducible refine(ih k (by omega) ((Qg l0_3 1).f0) ((Qg l0_3 1).f1) ((Qg l0_3 1).f2) _ _ ((Qg l0_3 1).f3) 1 t130 _ ?side1 ?side2 A28.out).mono ?_
   (case side1=>repeat(exact(Kd.C_below HR129_3.out HB.out)))
   (case side2=>exact HC129_3.out)
   rintro e w36 ⟨rfl,hb⟩;refine⟨_,rfl,?_⟩;replace BK122:=Qa.mk (Q1 (g:=gb122) (o:=.cells #[.int .i64 a0_0,.int .i64 a0_1,.string a0_2,.slice (some ad127) l0_3.length c0_3] 26 (0,0)) BK122.out hb);replace HB:=Qa.mk (Qr HB.out hb);(try clear hb);refine hK.out _ _ ⟨(Qb BK122.out 0).trans rfl,(Qb BK122.out 1).trans rfl,(Qb BK122.out 2).trans rfl,(Qb BK122.out 3).trans rfl,((HB.out.cell (World.block_lt_of_cell? w _ hw127_0)).trans hw127_0),((HB.out.cell (World.block_lt_of_cell? w _ hw127_1)).trans hw127_1),((HB.out.cell (World.block_lt_of_cell? w _ hw127_2)).trans hw127_2),((HB.out.cell (World.block_lt_of_cell? w _ hw127_3)).trans hw127_3),((HB.out.cell (World.block_lt_of_cell? w _ hw129_0)).trans hw129_0),((HB.out.cell (World.block_lt_of_cell? w _ hw129_1)).trans hw129_1),((HB.out.cell (World.block_lt_of_cell? w _ hw129_2)).trans hw129_2),((HB.out.cell (World.block_lt_of_cell? w _ hw129_3)).trans hw129_3),((HB.out.cell (World.block_lt_of_cell? w _ hw131_0)).trans hw131_0),((HB.out.cell (World.block_lt_of_cell? w _ hw131_1)).trans hw131_1),((HB.out.cell (World.block_lt_of_cell? w _ hw131_2)).trans hw131_2),((HB.out.cell (World.block_lt_of_cell? w _ hw131_3)).trans hw131_3)⟩ (fun hHeld=>?_);clear hK K;refine Va (a':=?_) ?_ ?_
   rotate_left
   ·show Act.put _ (some 64) _=_
    simp only [Act.put,List.setIfInBounds_toArray,List.set_cons_zero,List.set_cons_succ,Xc,Xd];rfl
   refine Xv (i:=11) (N:=some 65) (v:=?_) (a':=?_) #[true,true,true,true,true,true,true,true,true,true,true,true,false,true,true,true,true,false,false,false] rfl rfl (X3 HT_.out (by kernel_rfl)) (fun _ _ _ h=>h) (Or.inl ⟨by rfl,?_⟩) ?_ ?_
   rotate_left
   ·intro w';go_simp;with_reducible rfl
   rotate_left
   ·simp only [Act.put,List.setIfInBounds_toArray,List.set_cons_zero,List.set_cons_succ,Xc,Xd];rfl
   refine Xv (i:=12) (N:=some 66) (v:=?_) (a':=?_) #[true,true,true,true,true,true,true,true,true,true,true,true,true,true,true,true,true,false,false,false] rfl rfl (X3 HT_.out (by kernel_rfl)) (fun _ _ _ h=>h) (Or.inl ⟨by rfl,?_⟩) ?_ ?_
   rotate_left
   ·intro w';go_simp;with_reducible rfl
   rotate_left
   ·simp only [Act.put,List.setIfInBounds_toArray,List.set_cons_zero,List.set_cons_succ,Xc,Xd];rfl
   refine Vn (i:=17) (N:=some 71) #[true,true,true,true,true,true,true,true,true,true,true,true,true,true,true,true,true,true,false,false] rfl rfl (Vk HT_.out (by kernel_rfl)) (by decide) (fun K hK=>?_);refine Vz Tryd.func52 (by kernel_rfl) rfl #[.agg #[.int .i64 ((Qg l0_3 2).f0),.int .i64 ((Qg l0_3 2).f1),.string ((Qg l0_3 2).f2),.slice A131_3 ((Qg l0_3 2).f3).length c131_3],.int .i64 2] (by rfl) rfl rfl (by(try simp only [List.map_toArray,List.map_cons,List.map_nil]);rfl) ?_;with_reducible refine(ih k (by omega) ((Qg l0_3 2).f0) ((Qg l0_3 2).f1) ((Qg l0_3 2).f2) _ _ ((Qg l0_3 2).f3) 2 t132 _ ?side1 ?side2 A32.out).mono ?_
   (case side1=>repeat(exact(Kd.C_below HR131_3.out HB.out)))
   (case side2=>exact HC131_3.out)
   rintro e w37 ⟨rfl,hb⟩;refine⟨_,rfl,?_⟩;replace BK122:=Qa.mk (Q1 (g:=gb122) (o:=.cells #[.int .i64 a0_0,.int .i64 a0_1,.string a0_2,.slice (some ad127) l0_3.length c0_3] 26 (0,0)) BK122.out hb);replace HB:=Qa.mk (Qr HB.out hb);(try clear hb);refine hK.out _ _ ⟨(Qb BK122.out 0).trans rfl,(Qb BK122.out 1).trans rfl,(Qb BK122.out 2).trans rfl,(Qb BK122.out 3).trans rfl,((HB.out.cell (World.block_lt_of_cell? w _ hw127_0)).trans hw127_0),((HB.out.cell (World.block_lt_of_cell? w _ hw127_1)).trans hw127_1),((HB.out.cell (World.block_lt_of_cell? w _ hw127_2)).trans hw127_2),((HB.out.cell (World.block_lt_of_cell? w _ hw127_3)).trans hw127_3),((HB.out.cell (World.block_lt_of_cell? w _ hw129_0)).trans hw129_0),((HB.out.cell (World.block_lt_of_cell? w _ hw129_1)).trans hw129_1),((HB.out.cell (World.block_lt_of_cell? w _ hw129_2)).trans hw129_2),((HB.out.cell (World.block_lt_of_cell? w _ hw129_3)).trans hw129_3),((HB.out.cell (World.block_lt_of_cell? w _ hw131_0)).trans hw131_0),((HB.out.cell (World.block_lt_of_cell? w _ hw131_1)).trans hw131_1),((HB.out.cell (World.block_lt_of_cell? w _ hw131_2)).trans hw131_2),((HB.out.cell (World.block_lt_of_cell? w _ hw131_3)).trans hw131_3)⟩ (fun hHeld=>?_);clear hK K;refine Va (a':=?_) ?_ ?_
   rotate_left
   ·show Act.put _ (some 71) _=_
    simp only [Act.put,List.setIfInBounds_toArray,List.set_cons_zero,List.set_cons_succ,Xc,Xd];rfl
   refine Xv (i:=18) (N:=some 72) (v:=?_) (a':=?_) #[true,true,true,true,true,true,true,true,true,true,true,true,true,true,true,true,true,true,true,false] rfl rfl (X3 HT_.out (by kernel_rfl)) (fun _ _ _ h=>h) (Or.inl ⟨by rfl,?_⟩) ?_ ?_
   rotate_left
   ·intro w';go_simp;with_reducible rfl
   rotate_left
   ·simp only [Act.put,List.setIfInBounds_toArray,List.set_cons_zero,List.set_cons_succ,Xc,Xd];rfl
   refine Xv (i:=19) (N:=some 6) (v:=?_) (a':=?_) #[true,true,true,true,true,true,true,true,true,true,true,true,true,true,true,true,true,true,true,true] rfl rfl (X3 HT_.out (by kernel_rfl)) (fun _ _ _ h=>h) (Or.inl ⟨by rfl,?_⟩) ?_ ?_
   rotate_left
   ·intro w';go_simp;with_reducible rfl
   rotate_left
   ·simp only [Act.put,List.setIfInBounds_toArray,List.set_cons_zero,List.set_cons_succ,Xc,Xd];rfl
   refine Wi (Wj HT_.out (by kernel_rfl)) ?_;(try go_wp2)
   go_meet
   case rel=>exact⟨_,((((t128++(⟨#[32,63,32]⟩ :ByteArray))++t130)++(⟨#[32,58,32]⟩ :ByteArray))++t132),(by rfl),H',⟨by omega⟩,⟨HB.out⟩⟩
  rw [if_neg c23] at H;have c23b0:(t123==2)=false:=beq_eq_false_iff_ne.mpr c23;by_cases c38:t123=13
  ·rw [if_pos c38] at H;have c38b0:(t123==13)=true:=beq_iff_eq.mpr c38;clear c38;replace H:=Option.bind_eq_some_iff.mp H;obtain⟨t133,A390,H⟩ :=H;try dsimp only at H
   have A39:=Qa.mk A390;clear A390;by_cases c40:0 < (l0_3.length:Int)
   rotate_left
   ·rw [if_neg c40] at H;exact absurd H (by simp)
   rw [if_pos c40] at H;have c40b0:decide (0 < (l0_3.length:Int))=true:=decide_eq_true c40;clear c40;replace H:=Option.bind_eq_some_iff.mp H;obtain⟨t135,A410,H⟩ :=H;try dsimp only at H
   have A41:=Qa.mk A410;clear A410;by_cases c42:t133.size+t135.size≤9223372036854775807
   rotate_left
   ·rw [if_neg c42] at H;exact absurd H (by simp)
   rw [if_pos c42] at H;(try have c42b2:(9223372036854775807 < t133.size+t135.size)=False:=eq_false (Nat.not_lt.2 c42));have H':=Qa.mk H;clear H;(try go_wp2);replace BK122:=Qa.mk (Yg BK122.out);replace HB:=Qa.mk (Zg HB.out);have p134:0≤(0 :Int):=(by omega);have q134:0 < (l0_3.length:Int):=of_decide_eq_true (by(with_reducible assumption));obtain⟨ad134,A134_3,c134_3,e134,hx134_0,hx134_1,hx134_2,hx134_3,hl134_3,hi134_3⟩ :=Yf HR0_3.out 0 p134 q134;have hw134_3:=hx134_3;(try rw [show((0 :Int)).toNat=0 from rfl] at hw134_3);(try rw [show 0*4=0 from rfl] at hw134_3);(try rw [Addr.add_zero'] at hw134_3);have hw134_2:=hx134_2;(try rw [show((0 :Int)).toNat=0 from rfl] at hw134_2);(try rw [show 0*4=0 from rfl] at hw134_2);(try rw [Addr.add_zero'] at hw134_2);have hw134_1:=hx134_1;(try rw [show((0 :Int)).toNat=0 from rfl] at hw134_1);(try rw [show 0*4=0 from rfl] at hw134_1);(try rw [Addr.add_zero'] at hw134_1);have hw134_0:=hx134_0;(try rw [show((0 :Int)).toNat=0 from rfl] at hw134_0);(try rw [show 0*4=0 from rfl] at hw134_0);(try rw [Addr.add_zero'] at hw134_0)
   cases e134
   have qi134:(0 < l0_3.length)=True:=eq_true (by omega);(try rw [show((0 :Int)).toNat=0 from rfl] at hx134_0);(try rw [show 0*4=0 from rfl] at hx134_0);(try rw [Addr.add_zero'] at hx134_0);(try rw [show((0 :Int)).toNat=0 from rfl] at hx134_1);(try rw [show 0*4=0 from rfl] at hx134_1);(try rw [Addr.add_zero'] at hx134_1);(try rw [show((0 :Int)).toNat=0 from rfl] at hx134_2);(try rw [show 0*4=0 from rfl] at hx134_2);(try rw [Addr.add_zero'] at hx134_2);(try rw [show((0 :Int)).toNat=0 from rfl] at hx134_3);(try rw [show 0*4=0 from rfl] at hx134_3);(try rw [Addr.add_zero'] at hx134_3);replace hx134_0:=(HB.out.cell (World.block_lt_of_cell? w _ hx134_0)).trans hx134_0;replace hx134_1:=(HB.out.cell (World.block_lt_of_cell? w _ hx134_1)).trans hx134_1;replace hx134_2:=(HB.out.cell (World.block_lt_of_cell? w _ hx134_2)).trans hx134_2;replace hx134_3:=(HB.out.cell (World.block_lt_of_cell? w _ hx134_3)).trans hx134_3;have HR134_3:=Qa.mk hi134_3;have HC134_3:=Qa.mk hl134_3;clear hi134_3 hl134_3;replace p134:=eq_true p134;replace q134:=eq_true q134;refine Y6 (n:=10) (S:=fun w'=>w'.cell? ⟨gb122,0,none⟩=some (.int .i64 a0_0)∧w'.cell? ⟨gb122,1,none⟩=some (.int .i64 a0_1)∧w'.cell? ⟨gb122,2,none⟩=some (.string a0_2)∧w'.cell? ⟨gb122,3,none⟩=some (.slice (some ad134) l0_3.length c0_3)∧w'.cell? ad134=some (.int .i64 ((Qg l0_3 0).f0))∧w'.cell? ⟨ad134.block,ad134.off+1,none⟩=some (.int .i64 ((Qg l0_3 0).f1))∧w'.cell? ⟨ad134.block,ad134.off+2,none⟩=some (.string ((Qg l0_3 0).f2))∧w'.cell? ⟨ad134.block,ad134.off+3,none⟩=some (.slice A134_3 ((Qg l0_3 0).f3).length c134_3)) (ds:=[]) #[false,false,false,false,false,false,false,false,false,false] (by kernel_rfl) rfl rfl ⟨(Qb BK122.out 0).trans rfl,(Qb BK122.out 1).trans rfl,(Qb BK122.out 2).trans rfl,(Qb BK122.out 3).trans rfl,((HB.out.cell (World.block_lt_of_cell? w _ hw134_0)).trans hw134_0),((HB.out.cell (World.block_lt_of_cell? w _ hw134_1)).trans hw134_1),((HB.out.cell (World.block_lt_of_cell? w _ hw134_2)).trans hw134_2),((HB.out.cell (World.block_lt_of_cell? w _ hw134_3)).trans hw134_3)⟩ (fun hHeld=>?_);refine Vh Q4.tab13 Q4.bits13 (fun HT_ HW_=>?_)
   generalize w7.drew=w43 at BK122 HB HR134_3 hx134_0 hx134_1 hx134_2 hx134_3 hHeld ⊢;refine Xv (i:=0) (N:=some 75) (v:=?_) (a':=?_) #[true,false,false,false,false,false,false,false,false,false] rfl rfl (X3 HT_.out (by kernel_rfl)) (fun _ _ _ h=>h) (Or.inl ⟨by rfl,?_⟩) ?_ ?_
   rotate_left
   ·intro w';go_simp;with_reducible rfl
   rotate_left
   ·simp only [Act.put,List.setIfInBounds_toArray,List.set_cons_zero,List.set_cons_succ,Xc,Xd];rfl
   refine Xv (i:=3) (N:=some 78) (v:=?_) (a':=?_) #[true,false,false,true,false,false,false,false,false,false] rfl rfl (X3 HT_.out (by kernel_rfl)) (fun _ _ _ h=>h) (Or.inl ⟨by rfl,?_⟩) ?_ ?_
   rotate_left
   ·intro w';go_simp;with_reducible rfl
   rotate_left
   ·simp only [Act.put,List.setIfInBounds_toArray,List.set_cons_zero,List.set_cons_succ,Xc,Xd];rfl
   refine Zt (i:=1) (N:=some 76) (v:=?_) (a':=?_) #[true,true,false,true,false,false,false,false,false,false] rfl rfl (Zf HT_.out HW_.out (by kernel_rfl)) (fun _ _ _ h=>h) (Or.inl ⟨by rfl,?_⟩) hHeld ?_ ?_
   rotate_left
   ·rintro w' ⟨s0,s1,s2,s3,s4,s5,s6,s7⟩;go_simp;with_reducible rfl
   rotate_left
   ·simp only [Act.put,List.setIfInBounds_toArray,List.set_cons_zero,List.set_cons_succ,Xc,Xd];rfl
   refine Zt (i:=4) (N:=some 79) (v:=?_) (a':=?_) #[true,true,false,true,true,false,false,false,false,false] rfl rfl (Zf HT_.out HW_.out (by kernel_rfl)) (fun _ _ _ h=>h) (Or.inl ⟨by rfl,?_⟩) hHeld ?_ ?_
   rotate_left
   ·rintro w' ⟨s0,s1,s2,s3,s4,s5,s6,s7⟩;go_simp;with_reducible rfl
   rotate_left
   ·simp only [Act.put,List.setIfInBounds_toArray,List.set_cons_zero,List.set_cons_succ,Xc,Xd];rfl
   refine Xv (i:=5) (N:=some 80) (v:=?_) (a':=?_) #[true,true,false,true,true,true,false,false,false,false] rfl rfl (X3 HT_.out (by kernel_rfl)) (fun _ _ _ h=>h) (Or.inl ⟨by rfl,?_⟩) ?_ ?_
   rotate_left
   ·intro w';go_simp;with_reducible rfl
   rotate_left
   ·simp only [Act.put,List.setIfInBounds_toArray,List.set_cons_zero,List.set_cons_succ,Xc,Xd];rfl
   refine Zt (i:=6) (N:=some 81) (v:=?_) (a':=?_) #[true,true,false,true,true,true,true,false,false,false] rfl rfl (Zf HT_.out HW_.out (by kernel_rfl)) (fun _ _ _ h=>h) (Or.inl ⟨by rfl,?_⟩) hHeld ?_ ?_
   rotate_left
   ·rintro w' ⟨s0,s1,s2,s3,s4,s5,s6,s7⟩;go_simp;with_reducible rfl
   rotate_left
   ·simp only [Act.put,List.setIfInBounds_toArray,List.set_cons_zero,List.set_cons_succ,Xc,Xd];rfl
   refine Vn (i:=2) (N:=some 77) #[true,true,true,true,true,true,true,false,false,false] rfl rfl (Vk HT_.out (by kernel_rfl)) (by decide) (fun K hK=>?_);refine Vz Tryd.func80 (by kernel_rfl) rfl #[.int .i64 a0_0] (by rfl) rfl rfl (by(try simp only [List.map_toArray,List.map_cons,List.map_nil]);rfl) ?_;with_reducible refine(Z4.calls a0_0 t133 _ A39.out).mono ?_
   rintro e w44 ⟨rfl,hb⟩;refine⟨_,rfl,?_⟩;replace BK122:=Qa.mk (Q1 (g:=gb122) (o:=.cells #[.int .i64 a0_0,.int .i64 a0_1,.string a0_2,.slice (some ad134) l0_3.length c0_3] 26 (0,0)) BK122.out hb);replace HB:=Qa.mk (Qr HB.out hb);(try clear hb);refine hK.out _ _ ⟨(Qb BK122.out 0).trans rfl,(Qb BK122.out 1).trans rfl,(Qb BK122.out 2).trans rfl,(Qb BK122.out 3).trans rfl,((HB.out.cell (World.block_lt_of_cell? w _ hw134_0)).trans hw134_0),((HB.out.cell (World.block_lt_of_cell? w _ hw134_1)).trans hw134_1),((HB.out.cell (World.block_lt_of_cell? w _ hw134_2)).trans hw134_2),((HB.out.cell (World.block_lt_of_cell? w _ hw134_3)).trans hw134_3)⟩ (fun hHeld=>?_);clear hK K;refine Va (a':=?_) ?_ ?_
   rotate_left
   ·show Act.put _ (some 77) _=_
    simp only [Act.put,List.setIfInBounds_toArray,List.set_cons_zero,List.set_cons_succ,Xc,Xd];rfl
   refine Vn (i:=7) (N:=some 82) #[true,true,true,true,true,true,true,true,false,false] rfl rfl (Vk HT_.out (by kernel_rfl)) (by decide) (fun K hK=>?_);refine Vz Tryd.func52 (by kernel_rfl) rfl #[.agg #[.int .i64 ((Qg l0_3 0).f0),.int .i64 ((Qg l0_3 0).f1),.string ((Qg l0_3 0).f2),.slice A134_3 ((Qg l0_3 0).f3).length c134_3],.int .i64 13] (by rfl) rfl rfl (by(try simp only [List.map_toArray,List.map_cons,List.map_nil]);rfl) ?_;with_reducible refine(ih k (by omega) ((Qg l0_3 0).f0) ((Qg l0_3 0).f1) ((Qg l0_3 0).f2) _ _ ((Qg l0_3 0).f3) 13 t135 _ ?side1 ?side2 A41.out).mono ?_
   (case side1=>repeat(exact(Kd.C_below HR134_3.out HB.out)))
   (case side2=>exact HC134_3.out)
   rintro e w45 ⟨rfl,hb⟩;refine⟨_,rfl,?_⟩;replace BK122:=Qa.mk (Q1 (g:=gb122) (o:=.cells #[.int .i64 a0_0,.int .i64 a0_1,.string a0_2,.slice (some ad134) l0_3.length c0_3] 26 (0,0)) BK122.out hb);replace HB:=Qa.mk (Qr HB.out hb);(try clear hb);refine hK.out _ _ ⟨(Qb BK122.out 0).trans rfl,(Qb BK122.out 1).trans rfl,(Qb BK122.out 2).trans rfl,(Qb BK122.out 3).trans rfl,((HB.out.cell (World.block_lt_of_cell? w _ hw134_0)).trans hw134_0),((HB.out.cell (World.block_lt_of_cell? w _ hw134_1)).trans hw134_1),((HB.out.cell (World.block_lt_of_cell? w _ hw134_2)).trans hw134_2),((HB.out.cell (World.block_lt_of_cell? w _ hw134_3)).trans hw134_3)⟩ (fun hHeld=>?_);clear hK K;refine Va (a':=?_) ?_ ?_
   rotate_left
   ·show Act.put _ (some 82) _=_
    simp only [Act.put,List.setIfInBounds_toArray,List.set_cons_zero,List.set_cons_succ,Xc,Xd];rfl
   refine Xv (i:=8) (N:=some 83) (v:=?_) (a':=?_) #[true,true,true,true,true,true,true,true,true,false] rfl rfl (X3 HT_.out (by kernel_rfl)) (fun _ _ _ h=>h) (Or.inl ⟨by rfl,?_⟩) ?_ ?_
   rotate_left
   ·intro w';go_simp;with_reducible rfl
   rotate_left
   ·simp only [Act.put,List.setIfInBounds_toArray,List.set_cons_zero,List.set_cons_succ,Xc,Xd];rfl
   refine Xv (i:=9) (N:=some 6) (v:=?_) (a':=?_) #[true,true,true,true,true,true,true,true,true,true] rfl rfl (X3 HT_.out (by kernel_rfl)) (fun _ _ _ h=>h) (Or.inl ⟨by rfl,?_⟩) ?_ ?_
   rotate_left
   ·intro w';go_simp;with_reducible rfl
   rotate_left
   ·simp only [Act.put,List.setIfInBounds_toArray,List.set_cons_zero,List.set_cons_succ,Xc,Xd];rfl
   refine Wi (Wj HT_.out (by kernel_rfl)) ?_;(try go_wp2)
   go_meet
   case rel=>exact⟨_,(t133++t135),(by rfl),H',⟨by omega⟩,⟨HB.out⟩⟩
  rw [if_neg c38] at H;have c38b0:(t123==13)=false:=beq_eq_false_iff_ne.mpr c38;by_cases c46:t123=14
  ·rw [if_pos c46] at H;have c46b0:(t123==14)=true:=beq_iff_eq.mpr c46;clear c46;by_cases c47:a0_0=1
   rotate_left
   ·rw [if_neg c47] at H;have c47b0:(a0_0==1)=false:=beq_eq_false_iff_ne.mpr c47;have H':=Qa.mk H;clear H;have hcz51_0:w7.cell? ⟨gb122,0,none⟩=some (.int .i64 a0_0):=(Qb BK122.out 0).trans rfl;have hcz51_2:w7.cell? ⟨gb122,2,none⟩=some (.string a0_2):=(Qb BK122.out 2).trans rfl;go_wp2
    go_meet
    case rel=>exact⟨_,a0_2,(by rfl),H',⟨by omega⟩,⟨HB.out⟩⟩
   rw [if_pos c47] at H;have c47b0:(a0_0==1)=true:=beq_iff_eq.mpr c47;clear c47;replace H:=Option.bind_eq_some_iff.mp H;obtain⟨t136,A480,H⟩ :=H;try dsimp only at H
   have A48:=Qa.mk A480;clear A480;have H':=Qa.mk H;clear H;have hcz49_0:w7.cell? ⟨gb122,0,none⟩=some (.int .i64 a0_0):=(Qb BK122.out 0).trans rfl;have hcz49_1:w7.cell? ⟨gb122,1,none⟩=some (.int .i64 a0_1):=(Qb BK122.out 1).trans rfl;have hcz49_2:w7.cell? ⟨gb122,2,none⟩=some (.string a0_2):=(Qb BK122.out 2).trans rfl;go_wp2_with(((with_reducible refine Qp (f:=81) rfl ?_);refine Xh (some 93) rfl rfl Tryd.func81 (by kernel_rfl) rfl #[.int .i64 a0_1] rfl (by(try simp only [List.map_toArray,List.map_cons,List.map_nil]);rfl) ?_;(with_reducible refine(Ys.calls a0_1 t136 _ A48.out).mono ?_);rintro e w50 ⟨rfl,hb⟩;refine⟨_,rfl,?_⟩;replace BK122:=Qa.mk (Q1 (g:=gb122) (o:=.cells #[.int .i64 a0_0,.int .i64 a0_1,.string a0_2,.slice A0_3 l0_3.length c0_3] 26 (0,0)) BK122.out hb);replace HB:=Qa.mk (Qr HB.out hb);(try clear hb)))
   go_meet
   case rel=>exact⟨_,t136,(by rfl),H',⟨by omega⟩,⟨HB.out⟩⟩
  rw [if_neg c46] at H;have c46b0:(t123==14)=false:=beq_eq_false_iff_ne.mpr c46;by_cases c52:0 < (l0_3.length:Int)
  rotate_left
  ·rw [if_neg c52] at H;exact absurd H (by simp)
  rw [if_pos c52] at H;have c52b0:decide (0 < (l0_3.length:Int))=true:=decide_eq_true c52;clear c52;replace H:=Option.bind_eq_some_iff.mp H;obtain⟨t138,A530,H⟩ :=H;try dsimp only at H
  have A53:=Qa.mk A530;clear A530;by_cases c54:t138.size+1≤9223372036854775807
  rotate_left
  ·rw [if_neg c54] at H;exact absurd H (by simp)
  rw [if_pos c54] at H;(try have c54b2:(9223372036854775807 < t138.size+1)=False:=eq_false (Nat.not_lt.2 c54));replace H:=Option.bind_eq_some_iff.mp H;obtain⟨t139,A550,H⟩ :=H;try dsimp only at H
  have A55:=Qa.mk A550;clear A550;by_cases c56:(t138++(⟨#[32]⟩ :ByteArray)).size+t139.size≤9223372036854775807
  rotate_left
  ·rw [if_neg c56] at H;exact absurd H (by simp)
  rw [if_pos c56] at H;(try have c56b2:(9223372036854775807 < (t138++(⟨#[32]⟩ :ByteArray)).size+t139.size)=False:=eq_false (Nat.not_lt.2 c56));(try have c56b3:=c56b2);(try simp only [ByteArray.size_append,show(⟨#[32]⟩ :ByteArray).size=1 from rfl,Nat.zero_add,Nat.add_zero] at c56b3);by_cases c57:((t138++(⟨#[32]⟩ :ByteArray))++t139).size+1≤9223372036854775807
  rotate_left
  ·rw [if_neg c57] at H;exact absurd H (by simp)
  rw [if_pos c57] at H;(try have c57b2:(9223372036854775807 < ((t138++(⟨#[32]⟩ :ByteArray))++t139).size+1)=False:=eq_false (Nat.not_lt.2 c57));(try have c57b3:=c57b2);(try simp only [ByteArray.size_append,show(⟨#[32]⟩ :ByteArray).size=1 from rfl,Nat.zero_add,Nat.add_zero] at c57b3);by_cases c58:1 < (l0_3.length:Int)
  rotate_left
  ·rw [if_neg c58] at H;exact absurd H (by simp)
  rw [if_pos c58] at H;have c58b0:decide (1 < (l0_3.length:Int))=true:=decide_eq_true c58;clear c58;replace H:=Option.bind_eq_some_iff.mp H;obtain⟨t141,A590,H⟩ :=H;try dsimp only at H
  have A59:=Qa.mk A590;clear A590;by_cases c60:(((t138++(⟨#[32]⟩ :ByteArray))++t139)++(⟨#[32]⟩ :ByteArray)).size+t141.size≤9223372036854775807
  rotate_left
  ·rw [if_neg c60] at H;exact absurd H (by simp)
  rw [if_pos c60] at H;(try have c60b2:(9223372036854775807 < (((t138++(⟨#[32]⟩ :ByteArray))++t139)++(⟨#[32]⟩ :ByteArray)).size+t141.size)=False:=eq_false (Nat.not_lt.2 c60));(try have c60b3:=c60b2);(try simp only [ByteArray.size_append,show(⟨#[32]⟩ :ByteArray).size=1 from rfl,Nat.zero_add,Nat.add_zero] at c60b3);have H':=Qa.mk H;clear H;(try go_wp2);replace BK122:=Qa.mk (Yg BK122.out);replace HB:=Qa.mk (Zg HB.out);have p137:0≤(0 :Int):=(by omega);have q137:0 < (l0_3.length:Int):=of_decide_eq_true (by(with_reducible assumption));obtain⟨ad137,A137_3,c137_3,e137,hx137_0,hx137_1,hx137_2,hx137_3,hl137_3,hi137_3⟩ :=Yf HR0_3.out 0 p137 q137;have hw137_3:=hx137_3;(try rw [show((0 :Int)).toNat=0 from rfl] at hw137_3);(try rw [show 0*4=0 from rfl] at hw137_3);(try rw [Addr.add_zero'] at hw137_3);have hw137_2:=hx137_2;(try rw [show((0 :Int)).toNat=0 from rfl] at hw137_2);(try rw [show 0*4=0 from rfl] at hw137_2);(try rw [Addr.add_zero'] at hw137_2);have hw137_1:=hx137_1;(try rw [show((0 :Int)).toNat=0 from rfl] at hw137_1);(try rw [show 0*4=0 from rfl] at hw137_1);(try rw [Addr.add_zero'] at hw137_1);have hw137_0:=hx137_0;(try rw [show((0 :Int)).toNat=0 from rfl] at hw137_0);(try rw [show 0*4=0 from rfl] at hw137_0);(try rw [Addr.add_zero'] at hw137_0)
  cases e137
  have qi137:(0 < l0_3.length)=True:=eq_true (by omega);(try rw [show((0 :Int)).toNat=0 from rfl] at hx137_0);(try rw [show 0*4=0 from rfl] at hx137_0);(try rw [Addr.add_zero'] at hx137_0);(try rw [show((0 :Int)).toNat=0 from rfl] at hx137_1);(try rw [show 0*4=0 from rfl] at hx137_1);(try rw [Addr.add_zero'] at hx137_1);(try rw [show((0 :Int)).toNat=0 from rfl] at hx137_2);(try rw [show 0*4=0 from rfl] at hx137_2);(try rw [Addr.add_zero'] at hx137_2);(try rw [show((0 :Int)).toNat=0 from rfl] at hx137_3);(try rw [show 0*4=0 from rfl] at hx137_3);(try rw [Addr.add_zero'] at hx137_3);replace hx137_0:=(HB.out.cell (World.block_lt_of_cell? w _ hx137_0)).trans hx137_0;replace hx137_1:=(HB.out.cell (World.block_lt_of_cell? w _ hx137_1)).trans hx137_1;replace hx137_2:=(HB.out.cell (World.block_lt_of_cell? w _ hx137_2)).trans hx137_2;replace hx137_3:=(HB.out.cell (World.block_lt_of_cell? w _ hx137_3)).trans hx137_3;have HR137_3:=Qa.mk hi137_3;have HC137_3:=Qa.mk hl137_3;clear hi137_3 hl137_3;replace p137:=eq_true p137;replace q137:=eq_true q137;have p140:0≤(1 :Int):=(by omega);have q140:1 < (l0_3.length:Int):=of_decide_eq_true (by(with_reducible assumption));obtain⟨ad140,A140_3,c140_3,e140,hx140_0,hx140_1,hx140_2,hx140_3,hl140_3,hi140_3⟩ :=Yf HR0_3.out 1 p140 q140;have hw140_3:=hx140_3;(try rw [show((1 :Int)).toNat=1 from rfl] at hw140_3);(try rw [show 1*4=4 from rfl] at hw140_3);(try simp only [Nat.reduceMul,Nat.reduceEqDiff,Go.Addr.add,↓reduceIte] at hw140_3);have hw140_2:=hx140_2;(try rw [show((1 :Int)).toNat=1 from rfl] at hw140_2);(try rw [show 1*4=4 from rfl] at hw140_2);(try simp only [Nat.reduceMul,Nat.reduceEqDiff,Go.Addr.add,↓reduceIte] at hw140_2);have hw140_1:=hx140_1;(try rw [show((1 :Int)).toNat=1 from rfl] at hw140_1);(try rw [show 1*4=4 from rfl] at hw140_1);(try simp only [Nat.reduceMul,Nat.reduceEqDiff,Go.Addr.add,↓reduceIte] at hw140_1);have hw140_0:=hx140_0;(try rw [show((1 :Int)).toNat=1 from rfl] at hw140_0);(try rw [show 1*4=4 from rfl] at hw140_0);(try simp only [Nat.reduceMul,Nat.reduceEqDiff,Go.Addr.add,↓reduceIte] at hw140_0);obtain rfl:ad137=ad140:=(by injection e140);(try simp only [show(1 :Int).toNat=1 from rfl,Nat.reduceMul,Nat.reduceEqDiff,Go.Addr.add,↓reduceIte] at hx140_0);(try simp only [show(1 :Int).toNat=1 from rfl,Nat.reduceMul,Nat.reduceEqDiff,Go.Addr.add,↓reduceIte] at hx140_1);(try simp only [show(1 :Int).toNat=1 from rfl,Nat.reduceMul,Nat.reduceEqDiff,Go.Addr.add,↓reduceIte] at hx140_2);(try simp only [show(1 :Int).toNat=1 from rfl,Nat.reduceMul,Nat.reduceEqDiff,Go.Addr.add,↓reduceIte] at hx140_3);replace hx140_0:=(HB.out.cell (World.block_lt_of_cell? w _ hx140_0)).trans hx140_0;replace hx140_1:=(HB.out.cell (World.block_lt_of_cell? w _ hx140_1)).trans hx140_1;replace hx140_2:=(HB.out.cell (World.block_lt_of_cell? w _ hx140_2)).trans hx140_2;replace hx140_3:=(HB.out.cell (World.block_lt_of_cell? w _ hx140_3)).trans hx140_3;have HR140_3:=Qa.mk hi140_3;have HC140_3:=Qa.mk hl140_3;clear hi140_3 hl140_3;replace p140:=eq_true p140;replace q140:=eq_true q140;refine Y6 (n:=21) (S:=fun w'=>w'.cell? ⟨gb122,0,none⟩=some (.int .i64 a0_0)∧w'.cell? ⟨gb122,1,none⟩=some (.int .i64 a0_1)∧w'.cell? ⟨gb122,2,none⟩=some (.string a0_2)∧w'.cell? ⟨gb122,3,none⟩=some (.slice (some ad137) l0_3.length c0_3)∧w'.cell? ad137=some (.int .i64 ((Qg l0_3 0).f0))∧w'.cell? ⟨ad137.block,ad137.off+1,none⟩=some (.int .i64 ((Qg l0_3 0).f1))∧w'.cell? ⟨ad137.block,ad137.off+2,none⟩=some (.string ((Qg l0_3 0).f2))∧w'.cell? ⟨ad137.block,ad137.off+3,none⟩=some (.slice A137_3 ((Qg l0_3 0).f3).length c137_3)∧w'.cell? ⟨ad137.block,ad137.off+4,none⟩=some (.int .i64 ((Qg l0_3 1).f0))∧w'.cell? ⟨ad137.block,ad137.off+4+1,none⟩=some (.int .i64 ((Qg l0_3 1).f1))∧w'.cell? ⟨ad137.block,ad137.off+4+2,none⟩=some (.string ((Qg l0_3 1).f2))∧w'.cell? ⟨ad137.block,ad137.off+4+3,none⟩=some (.slice A140_3 ((Qg l0_3 1).f3).length c140_3)) (ds:=[]) #[false,false,false,false,false,false,false,false,false,false,false,false,false,false,false,false,false,false,false,false,false] (by kernel_rfl) rfl rfl ⟨(Qb BK122.out 0).trans rfl,(Qb BK122.out 1).trans rfl,(Qb BK122.out 2).trans rfl,(Qb BK122.out 3).trans rfl,((HB.out.cell (World.block_lt_of_cell? w _ hw137_0)).trans hw137_0),((HB.out.cell (World.block_lt_of_cell? w _ hw137_1)).trans hw137_1),((HB.out.cell (World.block_lt_of_cell? w _ hw137_2)).trans hw137_2),((HB.out.cell (World.block_lt_of_cell? w _ hw137_3)).trans hw137_3),((HB.out.cell (World.block_lt_of_cell? w _ hw140_0)).trans hw140_0),((HB.out.cell (World.block_lt_of_cell? w _ hw140_1)).trans hw140_1),((HB.out.cell (World.block_lt_of_cell? w _ hw140_2)).trans hw140_2),((HB.out.cell (World.block_lt_of_cell? w _ hw140_3)).trans hw140_3)⟩ (fun hHeld=>?_);refine Vh Q4.tab4 Q4.bits4 (fun HT_ HW_=>?_)
  generalize w7.drew=w61 at BK122 HB HR137_3 HR140_3 hx137_0 hx137_1 hx137_2 hx137_3 hx140_0 hx140_1 hx140_2 hx140_3 hHeld ⊢;refine Xv (i:=0) (N:=some 12) (v:=?_) (a':=?_) #[true,false,false,false,false,false,false,false,false,false,false,false,false,false,false,false,false,false,false,false,false] rfl rfl (X3 HT_.out (by kernel_rfl)) (fun _ _ _ h=>h) (Or.inl ⟨by rfl,?_⟩) ?_ ?_
  rotate_left
  ·intro w';go_simp;with_reducible rfl
  rotate_left
  ·simp only [Act.put,List.setIfInBounds_toArray,List.set_cons_zero,List.set_cons_succ,Xc,Xd];rfl
  refine Xv (i:=4) (N:=some 16) (v:=?_) (a':=?_) #[true,false,false,false,true,false,false,false,false,false,false,false,false,false,false,false,false,false,false,false,false] rfl rfl (X3 HT_.out (by kernel_rfl)) (fun _ _ _ h=>h) (Or.inl ⟨by rfl,?_⟩) ?_ ?_
  rotate_left
  ·intro w';go_simp;with_reducible rfl
  rotate_left
  ·simp only [Act.put,List.setIfInBounds_toArray,List.set_cons_zero,List.set_cons_succ,Xc,Xd];rfl
  refine Xv (i:=7) (N:=some 19) (v:=?_) (a':=?_) #[true,false,false,false,true,false,false,true,false,false,false,false,false,false,false,false,false,false,false,false,false] rfl rfl (X3 HT_.out (by kernel_rfl)) (fun _ _ _ h=>h) (Or.inl ⟨by rfl,?_⟩) ?_ ?_
  rotate_left
  ·intro w';go_simp;with_reducible rfl
  rotate_left
  ·simp only [Act.put,List.setIfInBounds_toArray,List.set_cons_zero,List.set_cons_succ,Xc,Xd];rfl
  refine Xv (i:=12) (N:=some 24) (v:=?_) (a':=?_) #[true,false,false,false,true,false,false,true,false,false,false,false,true,false,false,false,false,false,false,false,false] rfl rfl (X3 HT_.out (by kernel_rfl)) (fun _ _ _ h=>h) (Or.inl ⟨by rfl,?_⟩) ?_ ?_
  rotate_left
  ·intro w';go_simp;with_reducible rfl
  rotate_left
  ·simp only [Act.put,List.setIfInBounds_toArray,List.set_cons_zero,List.set_cons_succ,Xc,Xd];rfl
  refine Xv (i:=16) (N:=some 28) (v:=?_) (a':=?_) #[true,false,false,false,true,false,false,true,false,false,false,false,true,false,false,false,true,false,false,false,false] rfl rfl (X3 HT_.out (by kernel_rfl)) (fun _ _ _ h=>h) (Or.inl ⟨by rfl,?_⟩) ?_ ?_
  rotate_left
  ·intro w';go_simp;with_reducible rfl
  rotate_left
  ·simp only [Act.put,List.setIfInBounds_toArray,List.set_cons_zero,List.set_cons_succ,Xc,Xd];rfl
  refine Xv (i:=17) (N:=some 29) (v:=?_) (a':=?_) #[true,false,false,false,true,false,false,true,false,false,false,false,true,false,false,false,true,true,false,false,false] rfl rfl (X3 HT_.out (by kernel_rfl)) (fun _ _ _ h=>h) (Or.inl ⟨by rfl,?_⟩) ?_ ?_
  rotate_left
  ·intro w';go_simp;with_reducible rfl
  rotate_left
  ·simp only [Act.put,List.setIfInBounds_toArray,List.set_cons_zero,List.set_cons_succ,Xc,Xd];rfl
  refine Zt (i:=1) (N:=some 13) (v:=?_) (a':=?_) #[true,true,false,false,true,false,false,true,false,false,false,false,true,false,false,false,true,true,false,false,false] rfl rfl (Zf HT_.out HW_.out (by kernel_rfl)) (fun _ _ _ h=>h) (Or.inl ⟨by rfl,?_⟩) hHeld ?_ ?_
  rotate_left
  ·rintro w' ⟨s0,s1,s2,s3,s4,s5,s6,s7,s8,s9,s10,s11⟩;go_simp;with_reducible rfl
  rotate_left
  ·simp only [Act.put,List.setIfInBounds_toArray,List.set_cons_zero,List.set_cons_succ,Xc,Xd];rfl
  refine Xv (i:=2) (N:=some 14) (v:=?_) (a':=?_) #[true,true,true,false,true,false,false,true,false,false,false,false,true,false,false,false,true,true,false,false,false] rfl rfl (X3 HT_.out (by kernel_rfl)) (fun _ _ _ h=>h) (Or.inl ⟨by rfl,?_⟩) ?_ ?_
  rotate_left
  ·intro w';go_simp;with_reducible rfl
  rotate_left
  ·simp only [Act.put,List.setIfInBounds_toArray,List.set_cons_zero,List.set_cons_succ,Xc,Xd];rfl
  refine Zt (i:=3) (N:=some 15) (v:=?_) (a':=?_) #[true,true,true,true,true,false,false,true,false,false,false,false,true,false,false,false,true,true,false,false,false] rfl rfl (Zf HT_.out HW_.out (by kernel_rfl)) (fun _ _ _ h=>h) (Or.inl ⟨by rfl,?_⟩) hHeld ?_ ?_
  rotate_left
  ·rintro w' ⟨s0,s1,s2,s3,s4,s5,s6,s7,s8,s9,s10,s11⟩;go_simp;with_reducible rfl
  rotate_left
  ·simp only [Act.put,List.setIfInBounds_toArray,List.set_cons_zero,List.set_cons_succ,Xc,Xd];rfl
  refine Zt (i:=8) (N:=some 20) (v:=?_) (a':=?_) #[true,true,true,true,true,false,false,true,true,false,false,false,true,false,false,false,true,true,false,false,false] rfl rfl (Zf HT_.out HW_.out (by kernel_rfl)) (fun _ _ _ h=>h) (Or.inl ⟨by rfl,?_⟩) hHeld ?_ ?_
  rotate_left
  ·rintro w' ⟨s0,s1,s2,s3,s4,s5,s6,s7,s8,s9,s10,s11⟩;go_simp;with_reducible rfl
  rotate_left
  ·simp only [Act.put,List.setIfInBounds_toArray,List.set_cons_zero,List.set_cons_succ,Xc,Xd];rfl
  refine Zt (i:=13) (N:=some 25) (v:=?_) (a':=?_) #[true,true,true,true,true,false,false,true,true,false,false,false,true,true,false,false,true,true,false,false,false] rfl rfl (Zf HT_.out HW_.out (by kernel_rfl)) (fun _ _ _ h=>h) (Or.inl ⟨by rfl,?_⟩) hHeld ?_ ?_
  rotate_left
  ·rintro w' ⟨s0,s1,s2,s3,s4,s5,s6,s7,s8,s9,s10,s11⟩;go_simp;with_reducible rfl
  rotate_left
  ·simp only [Act.put,List.setIfInBounds_toArray,List.set_cons_zero,List.set_cons_succ,Xc,Xd];rfl
  refine Xv (i:=14) (N:=some 26) (v:=?_) (a':=?_) #[true,true,true,true,true,false,false,true,true,false,false,false,true,true,true,false,true,true,false,false,false] rfl rfl (X3 HT_.out (by kernel_rfl)) (fun _ _ _ h=>h) (Or.inl ⟨by rfl,?_⟩) ?_ ?_
  rotate_left
  ·intro w';go_simp;with_reducible rfl
  rotate_left
  ·simp only [Act.put,List.setIfInBounds_toArray,List.set_cons_zero,List.set_cons_succ,Xc,Xd];rfl
  refine Zt (i:=15) (N:=some 27) (v:=?_) (a':=?_) #[true,true,true,true,true,false,false,true,true,false,false,false,true,true,true,true,true,true,false,false,false] rfl rfl (Zf HT_.out HW_.out (by kernel_rfl)) (fun _ _ _ h=>h) (Or.inl ⟨by rfl,?_⟩) hHeld ?_ ?_
  rotate_left
  ·rintro w' ⟨s0,s1,s2,s3,s4,s5,s6,s7,s8,s9,s10,s11⟩;go_simp;with_reducible rfl
  rotate_left
  ·simp only [Act.put,List.setIfInBounds_toArray,List.set_cons_zero,List.set_cons_succ,Xc,Xd];rfl
  refine Vn (i:=5) (N:=some 17) #[true,true,true,true,true,true,false,true,true,false,false,false,true,true,true,true,true,true,false,false,false] rfl rfl (Vk HT_.out (by kernel_rfl)) (by decide) (fun K hK=>?_);refine Vz Tryd.func52 (by kernel_rfl) rfl #[.agg #[.int .i64 ((Qg l0_3 0).f0),.int .i64 ((Qg l0_3 0).f1),.string ((Qg l0_3 0).f2),.slice A137_3 ((Qg l0_3 0).f3).length c137_3],.int .i64 t123] (by rfl) rfl rfl (by(try simp only [List.map_toArray,List.map_cons,List.map_nil]);rfl) ?_;with_reducible refine(ih k (by omega) ((Qg l0_3 0).f0) ((Qg l0_3 0).f1) ((Qg l0_3 0).f2) _ _ ((Qg l0_3 0).f3) t123 t138 _ ?side1 ?side2 A53.out).mono ?_
  (case side1=>repeat(exact(Kd.C_below HR137_3.out HB.out)))
  (case side2=>exact HC137_3.out)
  rintro e w62 ⟨rfl,hb⟩;refine⟨_,rfl,?_⟩;replace BK122:=Qa.mk (Q1 (g:=gb122) (o:=.cells #[.int .i64 a0_0,.int .i64 a0_1,.string a0_2,.slice (some ad137) l0_3.length c0_3] 26 (0,0)) BK122.out hb);replace HB:=Qa.mk (Qr HB.out hb);(try clear hb);refine hK.out _ _ ⟨(Qb BK122.out 0).trans rfl,(Qb BK122.out 1).trans rfl,(Qb BK122.out 2).trans rfl,(Qb BK122.out 3).trans rfl,((HB.out.cell (World.block_lt_of_cell? w _ hw137_0)).trans hw137_0),((HB.out.cell (World.block_lt_of_cell? w _ hw137_1)).trans hw137_1),((HB.out.cell (World.block_lt_of_cell? w _ hw137_2)).trans hw137_2),((HB.out.cell (World.block_lt_of_cell? w _ hw137_3)).trans hw137_3),((HB.out.cell (World.block_lt_of_cell? w _ hw140_0)).trans hw140_0),((HB.out.cell (World.block_lt_of_cell? w _ hw140_1)).trans hw140_1),((HB.out.cell (World.block_lt_of_cell? w _ hw140_2)).trans hw140_2),((HB.out.cell (World.block_lt_of_cell? w _ hw140_3)).trans hw140_3)⟩ (fun hHeld=>?_);clear hK K;refine Va (a':=?_) ?_ ?_
  rotate_left
  ·show Act.put _ (some 17) _=_
   simp only [Act.put,List.setIfInBounds_toArray,List.set_cons_zero,List.set_cons_succ,Xc,Xd];rfl
  refine Xv (i:=6) (N:=some 18) (v:=?_) (a':=?_) #[true,true,true,true,true,true,true,true,true,false,false,false,true,true,true,true,true,true,false,false,false] rfl rfl (X3 HT_.out (by kernel_rfl)) (fun _ _ _ h=>h) (Or.inl ⟨by rfl,?_⟩) ?_ ?_
  rotate_left
  ·intro w';go_simp;with_reducible rfl
  rotate_left
  ·simp only [Act.put,List.setIfInBounds_toArray,List.set_cons_zero,List.set_cons_succ,Xc,Xd];rfl
  refine Vn (i:=9) (N:=some 21) #[true,true,true,true,true,true,true,true,true,true,false,false,true,true,true,true,true,true,false,false,false] rfl rfl (Vk HT_.out (by kernel_rfl)) (by decide) (fun K hK=>?_);refine Vz Tryd.func80 (by kernel_rfl) rfl #[.int .i64 a0_0] (by rfl) rfl rfl (by(try simp only [List.map_toArray,List.map_cons,List.map_nil]);rfl) ?_;with_reducible refine(Z4.calls a0_0 t139 _ A55.out).mono ?_
  rintro e w63 ⟨rfl,hb⟩;refine⟨_,rfl,?_⟩;replace BK122:=Qa.mk (Q1 (g:=gb122) (o:=.cells #[.int .i64 a0_0,.int .i64 a0_1,.string a0_2,.slice (some ad137) l0_3.length c0_3] 26 (0,0)) BK122.out hb);replace HB:=Qa.mk (Qr HB.out hb);(try clear hb);refine hK.out _ _ ⟨(Qb BK122.out 0).trans rfl,(Qb BK122.out 1).trans rfl,(Qb BK122.out 2).trans rfl,(Qb BK122.out 3).trans rfl,((HB.out.cell (World.block_lt_of_cell? w _ hw137_0)).trans hw137_0),((HB.out.cell (World.block_lt_of_cell? w _ hw137_1)).trans hw137_1),((HB.out.cell (World.block_lt_of_cell? w _ hw137_2)).trans hw137_2),((HB.out.cell (World.block_lt_of_cell? w _ hw137_3)).trans hw137_3),((HB.out.cell (World.block_lt_of_cell? w _ hw140_0)).trans hw140_0),((HB.out.cell (World.block_lt_of_cell? w _ hw140_1)).trans hw140_1),((HB.out.cell (World.block_lt_of_cell? w _ hw140_2)).trans hw140_2),((HB.out.cell (World.block_lt_of_cell? w _ hw140_3)).trans hw140_3)⟩ (fun hHeld=>?_);clear hK K;refine Va (a':=?_) ?_ ?_
  rotate_left
  ·show Act.put _ (some 21) _=_
   simp only [Act.put,List.setIfInBounds_toArray,List.set_cons_zero,List.set_cons_succ,Xc,Xd];rfl
  refine Xv (i:=10) (N:=some 22) (v:=?_) (a':=?_) #[true,true,true,true,true,true,true,true,true,true,true,false,true,true,true,true,true,true,false,false,false] rfl rfl (X3 HT_.out (by kernel_rfl)) (fun _ _ _ h=>h) (Or.inl ⟨by rfl,?_⟩) ?_ ?_
  rotate_left
  ·intro w';go_simp;with_reducible rfl
  rotate_left
  ·simp only [Act.put,List.setIfInBounds_toArray,List.set_cons_zero,List.set_cons_succ,Xc,Xd];rfl
  refine Xv (i:=11) (N:=some 23) (v:=?_) (a':=?_) #[true,true,true,true,true,true,true,true,true,true,true,true,true,true,true,true,true,true,false,false,false] rfl rfl (X3 HT_.out (by kernel_rfl)) (fun _ _ _ h=>h) (Or.inl ⟨by rfl,?_⟩) ?_ ?_
  rotate_left
  ·intro w';go_simp;with_reducible rfl
  rotate_left
  ·simp only [Act.put,List.setIfInBounds_toArray,List.set_cons_zero,List.set_cons_succ,Xc,Xd];rfl
  refine Vn (i:=18) (N:=some 30) #[true,true,true,true,true,true,true,true,true,true,true,true,true,true,true,true,true,true,true,false,false] rfl rfl (Vk HT_.out (by kernel_rfl)) (by decide) (fun K hK=>?_);refine Vz Tryd.func52 (by kernel_rfl) rfl #[.agg #[.int .i64 ((Qg l0_3 1).f0),.int .i64 ((Qg l0_3 1).f1),.string ((Qg l0_3 1).f2),.slice A140_3 ((Qg l0_3 1).f3).length c140_3],.int .i64 (wrap64 (t123+1))] (by rfl) rfl rfl (by(try simp only [List.map_toArray,List.map_cons,List.map_nil]);rfl) ?_;with_reducible refine(ih k (by omega) ((Qg l0_3 1).f0) ((Qg l0_3 1).f1) ((Qg l0_3 1).f2) _ _ ((Qg l0_3 1).f3) (wrap64 (t123+1)) t141 _ ?side1 ?side2 A59.out).mono ?_
  (case side1=>repeat(exact(Kd.C_below HR140_3.out HB.out)))
  (case side2=>exact HC140_3.out)
  rintro e w64 ⟨rfl,hb⟩;refine⟨_,rfl,?_⟩;replace BK122:=Qa.mk (Q1 (g:=gb122) (o:=.cells #[.int .i64 a0_0,.int .i64 a0_1,.string a0_2,.slice (some ad137) l0_3.length c0_3] 26 (0,0)) BK122.out hb);replace HB:=Qa.mk (Qr HB.out hb);(try clear hb);refine hK.out _ _ ⟨(Qb BK122.out 0).trans rfl,(Qb BK122.out 1).trans rfl,(Qb BK122.out 2).trans rfl,(Qb BK122.out 3).trans rfl,((HB.out.cell (World.block_lt_of_cell? w _ hw137_0)).trans hw137_0),((HB.out.cell (World.block_lt_of_cell? w _ hw137_1)).trans hw137_1),((HB.out.cell (World.block_lt_of_cell? w _ hw137_2)).trans hw137_2),((HB.out.cell (World.block_lt_of_cell? w _ hw137_3)).trans hw137_3),((HB.out.cell (World.block_lt_of_cell? w _ hw140_0)).trans hw140_0),((HB.out.cell (World.block_lt_of_cell? w _ hw140_1)).trans hw140_1),((HB.out.cell (World.block_lt_of_cell? w _ hw140_2)).trans hw140_2),((HB.out.cell (World.block_lt_of_cell? w _ hw140_3)).trans hw140_3)⟩ (fun hHeld=>?_);clear hK K;refine Va (a':=?_) ?_ ?_
  rotate_left
  ·show Act.put _ (some 30) _=_
   simp only [Act.put,List.setIfInBounds_toArray,List.set_cons_zero,List.set_cons_succ,Xc,Xd];rfl
  refine Xv (i:=19) (N:=some 31) (v:=?_) (a':=?_) #[true,true,true,true,true,true,true,true,true,true,true,true,true,true,true,true,true,true,true,true,false] rfl rfl (X3 HT_.out (by kernel_rfl)) (fun _ _ _ h=>h) (Or.inl ⟨by rfl,?_⟩) ?_ ?_
  rotate_left
  ·intro w';go_simp;with_reducible rfl
  rotate_left
  ·simp only [Act.put,List.setIfInBounds_toArray,List.set_cons_zero,List.set_cons_succ,Xc,Xd];rfl
  refine Xv (i:=20) (N:=some 6) (v:=?_) (a':=?_) #[true,true,true,true,true,true,true,true,true,true,true,true,true,true,true,true,true,true,true,true,true] rfl rfl (X3 HT_.out (by kernel_rfl)) (fun _ _ _ h=>h) (Or.inl ⟨by rfl,?_⟩) ?_ ?_
  rotate_left
  ·intro w';go_simp;with_reducible rfl
  rotate_left
  ·simp only [Act.put,List.setIfInBounds_toArray,List.set_cons_zero,List.set_cons_succ,Xc,Xd];rfl
  refine Wi (Wj HT_.out (by kernel_rfl)) ?_;(try go_wp2)
  go_meet
  case rel=>exact⟨_,((((t138++(⟨#[32]⟩ :ByteArray))++t139)++(⟨#[32]⟩ :ByteArray))++t141),(by rfl),H',⟨by omega⟩,⟨HB.out⟩⟩
 case rest=>
  clear HC4;obtain⟨kq,x6_3,rfl,HA,HJ3,HB⟩ :=hcut
  cases kq with
  |zero=>exact absurd HA.out (by simp [Q4.j1])
  |succ kj3=>
   have H:=HA.out;clear HA;simp only [Q4.j1] at H;by_cases c65:t123 < a1
   rotate_left
   ·rw [if_neg c65] at H;have c65b0:decide (t123 < a1)=false:=decide_eq_false c65;clear c65;obtain rfl:=Option.some.inj H;go_wp2;go_ret;exact⟨by rfl,HB.out⟩
   rw [if_pos c65] at H;have c65b0:decide (t123 < a1)=true:=decide_eq_true c65;clear c65;by_cases c66:1+x6_3.size≤9223372036854775807
   rotate_left
   ·rw [if_neg c66] at H;exact absurd H (by simp)
   rw [if_pos c66] at H;(try have c66b2:(9223372036854775807 < 1+x6_3.size)=False:=eq_false (Nat.not_lt.2 c66));by_cases c67:((⟨#[40]⟩ :ByteArray)++x6_3).size+1≤9223372036854775807
   rotate_left
   ·rw [if_neg c67] at H;exact absurd H (by simp)
   rw [if_pos c67] at H;(try have c67b2:(9223372036854775807 < ((⟨#[40]⟩ :ByteArray)++x6_3).size+1)=False:=eq_false (Nat.not_lt.2 c67));(try have c67b3:=c67b2);(try simp only [ByteArray.size_append,show(⟨#[40]⟩ :ByteArray).size=1 from rfl,Nat.zero_add,Nat.add_zero] at c67b3);obtain rfl:=Option.some.inj H;go_wp2;go_ret;exact⟨by rfl,HB.out⟩
def Yw.f (k:Nat) (a0_0:Int) (a0_1:Int) (a0_2:ByteArray) (l0_3:List (S26)):Option (ByteArray×Int):=(X9.f k a0_0 a0_1 a0_2 l0_3).bind fun t145=>(if t145=0 then((X6.f k a0_0 a0_1 a0_2 l0_3).bind fun t146=>(if t146 > 4096 then(some ((⟨#[]⟩ :ByteArray),3)) else((Q4.f k a0_0 a0_1 a0_2 l0_3 1).bind fun t147=>(if(t147.size:Int) > 4096 then(some ((⟨#[]⟩ :ByteArray),3)) else(some (t147,0)))))) else(some ((⟨#[]⟩ :ByteArray),t145)))
theorem Yw.mono:∀a0 a1 a2 a3 k,LeO (Yw.f k a0 a1 a2 a3) (Yw.f (k+1) a0 a1 a2 a3):=by
 intro a0 a1 a2 a3 k;unfold Yw.f
 repeat' first
  |(with_reducible exact X9.mono _ _ _ _ _)
  |(with_reducible exact Q4.mono _ _ _ _ _ _)
  |(with_reducible exact X6.mono _ _ _ _ _)
  |(with_reducible exact LeO.refl _)
  |(with_reducible refine LeO.ite ?_ ?_)
  |(with_reducible refine LeO.bind ?_ (fun _=>?_))
set_option maxHeartbeats 8000000 in
set_option maxRecDepth 100000 in
theorem Yw.calls (k:Nat) (a0_0:Int) (a0_1:Int) (a0_2:ByteArray) (A0_3:Option Addr) (c0_3:Nat) (l0_3:List (S26)) (r1:ByteArray) (r2:Int) (w:World) (hr0_3:Kd.C k26 w A0_3 l0_3.length l0_3) (hc0_3:l0_3.length≤c0_3) (h:Yw.f k a0_0 a0_1 a0_2 l0_3=some (r1,r2)) (hT:Laid w:=by first|assumption|exact HT.out|exact Laid.below HT.out (by repeat(first|(with_reducible first|exact HB.out|apply Xu|apply Q6|apply Zg|refine Xf ?_ (Qa.out (by assumption)))|exact HB.out))):
 Calls Tryd.prog 22 #[.agg #[.int .i64 a0_0,.int .i64 a0_1,.string a0_2,.slice A0_3 l0_3.length c0_3]] w fun e w'=>e=.returned (.tuple #[.string r1,.int .i64 r2])∧Below w.heap.size w w':=by
 have HR0_3:=Qa.mk hr0_3;have HC0_3:=Qa.mk hc0_3;clear hr0_3 hc0_3;have HB:=Qa.mk (Below.refl w.heap.size w);have HT:Qa (Laid w):=Qa.mk hT;clear hT;have H:((X9.f k a0_0 a0_1 a0_2 l0_3).bind fun t145=>(if t145=0 then((X6.f k a0_0 a0_1 a0_2 l0_3).bind fun t146=>(if t146 > 4096 then(some ((⟨#[]⟩ :ByteArray),3)) else((Q4.f k a0_0 a0_1 a0_2 l0_3 1).bind fun t147=>(if(t147.size:Int) > 4096 then(some ((⟨#[]⟩ :ByteArray),3)) else(some (t147,0)))))) else(some ((⟨#[]⟩ :ByteArray),t145))))=some (r1,r2):=h
 clear h;replace H:=Option.bind_eq_some_iff.mp H;obtain⟨t145,A20,H⟩ :=H;try dsimp only at H
 have A2:=Qa.mk A20;clear A20;by_cases c3:t145=0
 rotate_left
 ·rw [if_neg c3] at H;have c3b1:(t145 !=0)=true:=bne_iff_ne.mpr c3;simp only [Option.some.injEq,Prod.mk.injEq] at H;obtain⟨rfl,rfl⟩ :=H;go_enter Tryd.func22,Tryd.ntmps22;go_wp2_with(first|((with_reducible refine Q0 (N:=1) rfl ?_);refine Xm ?hg (N:=1) ?hd (cs:=#[.int .i64 a0_0,.int .i64 a0_1,.string a0_2,.slice A0_3 l0_3.length c0_3]) (t:=26) ?hr ?_;(case hd=>rfl);(case hg=>rfl);(case hr=>(go_simp;done));intro gb144 hg w27 hbox hb;replace HB:=Qa.mk (Qr HB.out hb);have BK144:=Qa.mk hbox;clear hb hbox hg;have hcz28_0:w27.cell? ⟨gb144,0,none⟩=some (.int .i64 a0_0):=(Qb BK144.out 0).trans rfl;have hcz28_1:w27.cell? ⟨gb144,1,none⟩=some (.int .i64 a0_1):=(Qb BK144.out 1).trans rfl;have hcz28_2:w27.cell? ⟨gb144,2,none⟩=some (.string a0_2):=(Qb BK144.out 2).trans rfl;have hcz28_3:w27.cell? ⟨gb144,3,none⟩=some (.slice A0_3 l0_3.length c0_3):=(Qb BK144.out 3).trans rfl)|((with_reducible refine Qp (f:=24) rfl ?_);refine Xh (some 7) rfl rfl Tryd.func24 (by kernel_rfl) rfl #[.agg #[.int .i64 a0_0,.int .i64 a0_1,.string a0_2,.slice A0_3 l0_3.length c0_3]] rfl (by(try simp only [List.map_toArray,List.map_cons,List.map_nil]);rfl) ?_;(with_reducible refine(X9.calls k a0_0 a0_1 a0_2 _ _ l0_3 t145 _ ?side1 HC0_3.out A2.out).mono ?_);(case side1=>repeat(exact(Kd.C_below HR0_3.out HB.out)));rintro e w29 ⟨rfl,hb⟩;refine⟨_,rfl,?_⟩;replace BK144:=Qa.mk (Q1 (g:=gb144) (o:=.cells #[.int .i64 a0_0,.int .i64 a0_1,.string a0_2,.slice A0_3 l0_3.length c0_3] 26 (0,0)) BK144.out hb);replace HB:=Qa.mk (Qr HB.out hb);(try clear hb)))
  go_ret2
  exact⟨by rfl,HB.out⟩
 rw [if_pos c3] at H;have c3b1:(t145 !=0)=false:=bne_eq_false_iff_eq.mpr c3;clear c3;replace H:=Option.bind_eq_some_iff.mp H;obtain⟨t146,A40,H⟩ :=H;try dsimp only at H
 have A4:=Qa.mk A40;clear A40;by_cases c5:t146 > 4096
 ·rw [if_pos c5] at H;have c5b0:decide (4096 < t146)=true:=decide_eq_true c5;clear c5;simp only [Option.some.injEq,Prod.mk.injEq] at H;obtain⟨rfl,rfl⟩ :=H;go_enter Tryd.func22,Tryd.ntmps22;go_wp2_with(first|((with_reducible refine Q0 (N:=1) rfl ?_);refine Xm ?hg (N:=1) ?hd (cs:=#[.int .i64 a0_0,.int .i64 a0_1,.string a0_2,.slice A0_3 l0_3.length c0_3]) (t:=26) ?hr ?_;(case hd=>rfl);(case hg=>rfl);(case hr=>(go_simp;done));intro gb144 hg w6 hbox hb;replace HB:=Qa.mk (Qr HB.out hb);have BK144:=Qa.mk hbox;clear hb hbox hg;have hcz7_0:w6.cell? ⟨gb144,0,none⟩=some (.int .i64 a0_0):=(Qb BK144.out 0).trans rfl;have hcz7_1:w6.cell? ⟨gb144,1,none⟩=some (.int .i64 a0_1):=(Qb BK144.out 1).trans rfl;have hcz7_2:w6.cell? ⟨gb144,2,none⟩=some (.string a0_2):=(Qb BK144.out 2).trans rfl;have hcz7_3:w6.cell? ⟨gb144,3,none⟩=some (.slice A0_3 l0_3.length c0_3):=(Qb BK144.out 3).trans rfl)|((with_reducible refine Qp (f:=24) rfl ?_);refine Xh (some 7) rfl rfl Tryd.func24 (by kernel_rfl) rfl #[.agg #[.int .i64 a0_0,.int .i64 a0_1,.string a0_2,.slice A0_3 l0_3.length c0_3]] rfl (by(try simp only [List.map_toArray,List.map_cons,List.map_nil]);rfl) ?_;(with_reducible refine(X9.calls k a0_0 a0_1 a0_2 _ _ l0_3 t145 _ ?side1 HC0_3.out A2.out).mono ?_);(case side1=>repeat(exact(Kd.C_below HR0_3.out HB.out)));rintro e w8 ⟨rfl,hb⟩;refine⟨_,rfl,?_⟩;replace BK144:=Qa.mk (Q1 (g:=gb144) (o:=.cells #[.int .i64 a0_0,.int .i64 a0_1,.string a0_2,.slice A0_3 l0_3.length c0_3] 26 (0,0)) BK144.out hb);replace HB:=Qa.mk (Qr HB.out hb);(try clear hb);have hcz9_0:w8.cell? ⟨gb144,0,none⟩=some (.int .i64 a0_0):=(Qb BK144.out 0).trans rfl;have hcz9_1:w8.cell? ⟨gb144,1,none⟩=some (.int .i64 a0_1):=(Qb BK144.out 1).trans rfl;have hcz9_2:w8.cell? ⟨gb144,2,none⟩=some (.string a0_2):=(Qb BK144.out 2).trans rfl;have hcz9_3:w8.cell? ⟨gb144,3,none⟩=some (.slice A0_3 l0_3.length c0_3):=(Qb BK144.out 3).trans rfl)|((with_reducible refine Qp (f:=51) rfl ?_);refine Xh (some 12) rfl rfl Tryd.func51 (by kernel_rfl) rfl #[.agg #[.int .i64 a0_0,.int .i64 a0_1,.string a0_2,.slice A0_3 l0_3.length c0_3]] rfl (by(try simp only [List.map_toArray,List.map_cons,List.map_nil]);rfl) ?_;(with_reducible refine(X6.calls k a0_0 a0_1 a0_2 _ _ l0_3 t146 _ ?side1 HC0_3.out A4.out).mono ?_);(case side1=>repeat(exact(Kd.C_below HR0_3.out HB.out)));rintro e w10 ⟨rfl,hb⟩;refine⟨_,rfl,?_⟩;replace BK144:=Qa.mk (Q1 (g:=gb144) (o:=.cells #[.int .i64 a0_0,.int .i64 a0_1,.string a0_2,.slice A0_3 l0_3.length c0_3] 26 (0,0)) BK144.out hb);replace HB:=Qa.mk (Qr HB.out hb);(try clear hb)))
  go_ret2
  exact⟨by rfl,HB.out⟩
 rw [if_neg c5] at H;have c5b0:decide (4096 < t146)=false:=decide_eq_false c5;clear c5;replace H:=Option.bind_eq_some_iff.mp H;obtain⟨t147,A110,H⟩ :=H;try dsimp only at H
 have A11:=Qa.mk A110;clear A110;by_cases c12:(t147.size:Int) > 4096
 ·rw [if_pos c12] at H;have c12b0:decide (4096 < (t147.size:Int))=true:=decide_eq_true c12;clear c12;simp only [Option.some.injEq,Prod.mk.injEq] at H;obtain⟨rfl,rfl⟩ :=H;go_enter Tryd.func22,Tryd.ntmps22;go_wp2_with(first|((with_reducible refine Q0 (N:=1) rfl ?_);refine Xm ?hg (N:=1) ?hd (cs:=#[.int .i64 a0_0,.int .i64 a0_1,.string a0_2,.slice A0_3 l0_3.length c0_3]) (t:=26) ?hr ?_;(case hd=>rfl);(case hg=>rfl);(case hr=>(go_simp;done));intro gb144 hg w13 hbox hb;replace HB:=Qa.mk (Qr HB.out hb);have BK144:=Qa.mk hbox;clear hb hbox hg;have hcz14_0:w13.cell? ⟨gb144,0,none⟩=some (.int .i64 a0_0):=(Qb BK144.out 0).trans rfl;have hcz14_1:w13.cell? ⟨gb144,1,none⟩=some (.int .i64 a0_1):=(Qb BK144.out 1).trans rfl;have hcz14_2:w13.cell? ⟨gb144,2,none⟩=some (.string a0_2):=(Qb BK144.out 2).trans rfl;have hcz14_3:w13.cell? ⟨gb144,3,none⟩=some (.slice A0_3 l0_3.length c0_3):=(Qb BK144.out 3).trans rfl)|((with_reducible refine Qp (f:=24) rfl ?_);refine Xh (some 7) rfl rfl Tryd.func24 (by kernel_rfl) rfl #[.agg #[.int .i64 a0_0,.int .i64 a0_1,.string a0_2,.slice A0_3 l0_3.length c0_3]] rfl (by(try simp only [List.map_toArray,List.map_cons,List.map_nil]);rfl) ?_;(with_reducible refine(X9.calls k a0_0 a0_1 a0_2 _ _ l0_3 t145 _ ?side1 HC0_3.out A2.out).mono ?_);(case side1=>repeat(exact(Kd.C_below HR0_3.out HB.out)));rintro e w15 ⟨rfl,hb⟩;refine⟨_,rfl,?_⟩;replace BK144:=Qa.mk (Q1 (g:=gb144) (o:=.cells #[.int .i64 a0_0,.int .i64 a0_1,.string a0_2,.slice A0_3 l0_3.length c0_3] 26 (0,0)) BK144.out hb);replace HB:=Qa.mk (Qr HB.out hb);(try clear hb);have hcz16_0:w15.cell? ⟨gb144,0,none⟩=some (.int .i64 a0_0):=(Qb BK144.out 0).trans rfl;have hcz16_1:w15.cell? ⟨gb144,1,none⟩=some (.int .i64 a0_1):=(Qb BK144.out 1).trans rfl;have hcz16_2:w15.cell? ⟨gb144,2,none⟩=some (.string a0_2):=(Qb BK144.out 2).trans rfl;have hcz16_3:w15.cell? ⟨gb144,3,none⟩=some (.slice A0_3 l0_3.length c0_3):=(Qb BK144.out 3).trans rfl)|((with_reducible refine Qp (f:=51) rfl ?_);refine Xh (some 12) rfl rfl Tryd.func51 (by kernel_rfl) rfl #[.agg #[.int .i64 a0_0,.int .i64 a0_1,.string a0_2,.slice A0_3 l0_3.length c0_3]] rfl (by(try simp only [List.map_toArray,List.map_cons,List.map_nil]);rfl) ?_;(with_reducible refine(X6.calls k a0_0 a0_1 a0_2 _ _ l0_3 t146 _ ?side1 HC0_3.out A4.out).mono ?_);(case side1=>repeat(exact(Kd.C_below HR0_3.out HB.out)));rintro e w17 ⟨rfl,hb⟩;refine⟨_,rfl,?_⟩;replace BK144:=Qa.mk (Q1 (g:=gb144) (o:=.cells #[.int .i64 a0_0,.int .i64 a0_1,.string a0_2,.slice A0_3 l0_3.length c0_3] 26 (0,0)) BK144.out hb);replace HB:=Qa.mk (Qr HB.out hb);(try clear hb);have hcz18_0:w17.cell? ⟨gb144,0,none⟩=some (.int .i64 a0_0):=(Qb BK144.out 0).trans rfl;have hcz18_1:w17.cell? ⟨gb144,1,none⟩=some (.int .i64 a0_1):=(Qb BK144.out 1).trans rfl;have hcz18_2:w17.cell? ⟨gb144,2,none⟩=some (.string a0_2):=(Qb BK144.out 2).trans rfl;have hcz18_3:w17.cell? ⟨gb144,3,none⟩=some (.slice A0_3 l0_3.length c0_3):=(Qb BK144.out 3).trans rfl)|((with_reducible refine Qp (f:=52) rfl ?_);refine Xh (some 15) rfl rfl Tryd.func52 (by kernel_rfl) rfl #[.agg #[.int .i64 a0_0,.int .i64 a0_1,.string a0_2,.slice A0_3 l0_3.length c0_3],.int .i64 1] rfl (by(try simp only [List.map_toArray,List.map_cons,List.map_nil]);rfl) ?_;(with_reducible refine(Q4.calls k a0_0 a0_1 a0_2 _ _ l0_3 1 t147 _ ?side1 HC0_3.out A11.out).mono ?_);(case side1=>repeat(exact(Kd.C_below HR0_3.out HB.out)));rintro e w19 ⟨rfl,hb⟩;refine⟨_,rfl,?_⟩;replace BK144:=Qa.mk (Q1 (g:=gb144) (o:=.cells #[.int .i64 a0_0,.int .i64 a0_1,.string a0_2,.slice A0_3 l0_3.length c0_3] 26 (0,0)) BK144.out hb);replace HB:=Qa.mk (Qr HB.out hb);(try clear hb)))
  go_ret2
  exact⟨by rfl,HB.out⟩
 rw [if_neg c12] at H;have c12b0:decide (4096 < (t147.size:Int))=false:=decide_eq_false c12;clear c12;simp only [Option.some.injEq,Prod.mk.injEq] at H;obtain⟨rfl,rfl⟩ :=H;go_enter Tryd.func22,Tryd.ntmps22;go_wp2_with(first|((with_reducible refine Q0 (N:=1) rfl ?_);refine Xm ?hg (N:=1) ?hd (cs:=#[.int .i64 a0_0,.int .i64 a0_1,.string a0_2,.slice A0_3 l0_3.length c0_3]) (t:=26) ?hr ?_;(case hd=>rfl);(case hg=>rfl);(case hr=>(go_simp;done));intro gb144 hg w20 hbox hb;replace HB:=Qa.mk (Qr HB.out hb);have BK144:=Qa.mk hbox;clear hb hbox hg;have hcz21_0:w20.cell? ⟨gb144,0,none⟩=some (.int .i64 a0_0):=(Qb BK144.out 0).trans rfl;have hcz21_1:w20.cell? ⟨gb144,1,none⟩=some (.int .i64 a0_1):=(Qb BK144.out 1).trans rfl;have hcz21_2:w20.cell? ⟨gb144,2,none⟩=some (.string a0_2):=(Qb BK144.out 2).trans rfl;have hcz21_3:w20.cell? ⟨gb144,3,none⟩=some (.slice A0_3 l0_3.length c0_3):=(Qb BK144.out 3).trans rfl)|((with_reducible refine Qp (f:=24) rfl ?_);refine Xh (some 7) rfl rfl Tryd.func24 (by kernel_rfl) rfl #[.agg #[.int .i64 a0_0,.int .i64 a0_1,.string a0_2,.slice A0_3 l0_3.length c0_3]] rfl (by(try simp only [List.map_toArray,List.map_cons,List.map_nil]);rfl) ?_;(with_reducible refine(X9.calls k a0_0 a0_1 a0_2 _ _ l0_3 t145 _ ?side1 HC0_3.out A2.out).mono ?_);(case side1=>repeat(exact(Kd.C_below HR0_3.out HB.out)));rintro e w22 ⟨rfl,hb⟩;refine⟨_,rfl,?_⟩;replace BK144:=Qa.mk (Q1 (g:=gb144) (o:=.cells #[.int .i64 a0_0,.int .i64 a0_1,.string a0_2,.slice A0_3 l0_3.length c0_3] 26 (0,0)) BK144.out hb);replace HB:=Qa.mk (Qr HB.out hb);(try clear hb);have hcz23_0:w22.cell? ⟨gb144,0,none⟩=some (.int .i64 a0_0):=(Qb BK144.out 0).trans rfl;have hcz23_1:w22.cell? ⟨gb144,1,none⟩=some (.int .i64 a0_1):=(Qb BK144.out 1).trans rfl;have hcz23_2:w22.cell? ⟨gb144,2,none⟩=some (.string a0_2):=(Qb BK144.out 2).trans rfl;have hcz23_3:w22.cell? ⟨gb144,3,none⟩=some (.slice A0_3 l0_3.length c0_3):=(Qb BK144.out 3).trans rfl)|((with_reducible refine Qp (f:=51) rfl ?_);refine Xh (some 12) rfl rfl Tryd.func51 (by kernel_rfl) rfl #[.agg #[.int .i64 a0_0,.int .i64 a0_1,.string a0_2,.slice A0_3 l0_3.length c0_3]] rfl (by(try simp only [List.map_toArray,List.map_cons,List.map_nil]);rfl) ?_;(with_reducible refine(X6.calls k a0_0 a0_1 a0_2 _ _ l0_3 t146 _ ?side1 HC0_3.out A4.out).mono ?_);(case side1=>repeat(exact(Kd.C_below HR0_3.out HB.out)));rintro e w24 ⟨rfl,hb⟩;refine⟨_,rfl,?_⟩;replace BK144:=Qa.mk (Q1 (g:=gb144) (o:=.cells #[.int .i64 a0_0,.int .i64 a0_1,.string a0_2,.slice A0_3 l0_3.length c0_3] 26 (0,0)) BK144.out hb);replace HB:=Qa.mk (Qr HB.out hb);(try clear hb);have hcz25_0:w24.cell? ⟨gb144,0,none⟩=some (.int .i64 a0_0):=(Qb BK144.out 0).trans rfl;have hcz25_1:w24.cell? ⟨gb144,1,none⟩=some (.int .i64 a0_1):=(Qb BK144.out 1).trans rfl;have hcz25_2:w24.cell? ⟨gb144,2,none⟩=some (.string a0_2):=(Qb BK144.out 2).trans rfl;have hcz25_3:w24.cell? ⟨gb144,3,none⟩=some (.slice A0_3 l0_3.length c0_3):=(Qb BK144.out 3).trans rfl)|((with_reducible refine Qp (f:=52) rfl ?_);refine Xh (some 15) rfl rfl Tryd.func52 (by kernel_rfl) rfl #[.agg #[.int .i64 a0_0,.int .i64 a0_1,.string a0_2,.slice A0_3 l0_3.length c0_3],.int .i64 1] rfl (by(try simp only [List.map_toArray,List.map_cons,List.map_nil]);rfl) ?_;(with_reducible refine(Q4.calls k a0_0 a0_1 a0_2 _ _ l0_3 1 t147 _ ?side1 HC0_3.out A11.out).mono ?_);(case side1=>repeat(exact(Kd.C_below HR0_3.out HB.out)));rintro e w26 ⟨rfl,hb⟩;refine⟨_,rfl,?_⟩;replace BK144:=Qa.mk (Q1 (g:=gb144) (o:=.cells #[.int .i64 a0_0,.int .i64 a0_1,.string a0_2,.slice A0_3 l0_3.length c0_3] 26 (0,0)) BK144.out hb);replace HB:=Qa.mk (Qr HB.out hb);(try clear hb)))
 go_ret2
 exact⟨by rfl,HB.out⟩
def Qx.j0:Nat→Bool→Int→Int→ByteArray→List (S26)→Int→Int→ByteArray→List (S26)→Option (Bool)
 |0,_,_,_,_,_,_,_,_,_=>none
 |k+1,x73,x157000,x157001,x157002,x157003,x177000,x177001,x177002,x177003=>if x73=true then(some false) else(if x157000=7 then(if x177000=26 then((Xj.f k x157000 x157001 x157002 x157003 x157000 x157001 x157002 x157003).bind fun t182=>(if t182=true then((Xj.f k x157000 x157001 x157002 x157003 x177000 x177001 x177002 x177003).bind fun t183=>(if t183=true then(some false) else((X9.f k 0 0 (⟨#[]⟩ :ByteArray) ([]:List (S26))).bind fun t184=>(if t184=1 then((X9.f k x157000 x157001 x157002 x157003).bind fun t185=>(some (t185==0))) else(some false))))) else(some false))) else(some false)) else(some false))
def Qx.f (k:Nat):Option (Bool):=(Ze.f k (⟨#[40,49,43,50,41,42,51]⟩ :ByteArray)).bind fun bt148=>((Yw.f k bt148.1 bt148.2.1 bt148.2.2.1 bt148.2.2.2.1).bind fun bt157=>((Ze.f k (⟨#[97,43,98,61,50]⟩ :ByteArray)).bind fun bt159=>((Ze.f k (⟨#[97,61,98,43,61,50]⟩ :ByteArray)).bind fun bt168=>((Yu.f k bt168.1 bt168.2.1 bt168.2.2.1 bt168.2.2.2.1).bind fun t177=>(if bt148.2.2.2.2.2=0 then(if bt157.2=0 then(if bt157.1.toList=([40,49,32,43,32,50,41,32,42,32,51]:List UInt8) then(if bt159.2.2.2.2.1=3 then(if bt159.2.2.2.2.2=6 then(if bt168.2.2.2.2.2=0 then(if(t177.length:Int)=2 then(if 0 < (t177.length:Int) then(if(Vd ByteArray.empty t177 0).toList=([97]:List UInt8) then(if 1 < (t177.length:Int) then(Qx.j0 k ((Vd ByteArray.empty t177 1).toList !=([98]:List UInt8)) bt148.1 bt148.2.1 bt148.2.2.1 bt148.2.2.2.1 bt168.1 bt168.2.1 bt168.2.2.1 bt168.2.2.2.1) else(none)) else(Qx.j0 k true bt148.1 bt148.2.1 bt148.2.2.1 bt148.2.2.2.1 bt168.1 bt168.2.1 bt168.2.2.1 bt168.2.2.2.1)) else(none)) else(Qx.j0 k true bt148.1 bt148.2.1 bt148.2.2.1 bt148.2.2.2.1 bt168.1 bt168.2.1 bt168.2.2.1 bt168.2.2.2.1)) else(Qx.j0 k true bt148.1 bt148.2.1 bt148.2.2.1 bt148.2.2.2.1 bt168.1 bt168.2.1 bt168.2.2.1 bt168.2.2.2.1)) else(Qx.j0 k true bt148.1 bt148.2.1 bt148.2.2.1 bt148.2.2.2.1 bt168.1 bt168.2.1 bt168.2.2.1 bt168.2.2.2.1)) else(Qx.j0 k true bt148.1 bt148.2.1 bt148.2.2.1 bt148.2.2.2.1 bt168.1 bt168.2.1 bt168.2.2.1 bt168.2.2.2.1)) else(Qx.j0 k true bt148.1 bt148.2.1 bt148.2.2.1 bt148.2.2.2.1 bt168.1 bt168.2.1 bt168.2.2.1 bt168.2.2.2.1)) else(Qx.j0 k true bt148.1 bt148.2.1 bt148.2.2.1 bt148.2.2.2.1 bt168.1 bt168.2.1 bt168.2.2.1 bt168.2.2.2.1)) else(Qx.j0 k true bt148.1 bt148.2.1 bt148.2.2.1 bt148.2.2.2.1 bt168.1 bt168.2.1 bt168.2.2.1 bt168.2.2.2.1))))))
theorem Qx.mono_l:∀k,(∀y0 y1 y2 y3 y4 y5 y6 y7 y8,LeO (Qx.j0 k y0 y1 y2 y3 y4 y5 y6 y7 y8) (Qx.j0 (k+1) y0 y1 y2 y3 y4 y5 y6 y7 y8))
 |0=>fun _ _ _ _ _ _ _ _ _ r h=>by simp [Qx.j0] at h
 |k+1=>by
  have ih0:=Qx.mono_l k
  ·intro y0 y1 y2 y3 y4 y5 y6 y7 y8;unfold Qx.j0;repeat' first
   |(with_reducible exact Xj.mono _ _ _ _ _ _ _ _ _)
   |(with_reducible exact X9.mono _ _ _ _ _)
   |(with_reducible exact LeO.refl _)
   |(with_reducible refine LeO.ite ?_ ?_)
   |(with_reducible refine LeO.bind ?_ (fun _=>?_))
theorem Qx.mono:∀k,LeO (Qx.f k) (Qx.f (k+1)):=by
 intro  k;have ih0:=Qx.mono_l k;unfold Qx.f
 repeat' first
  |(with_reducible exact ih0 _ _ _ _ _ _ _ _ _)
  |(with_reducible exact Yu.mono _ _ _ _ _)
  |(with_reducible exact Ze.mono _ _)
  |(with_reducible exact Yw.mono _ _ _ _ _)
  |(with_reducible exact LeO.refl _)
  |(with_reducible refine LeO.ite ?_ ?_)
  |(with_reducible refine LeO.bind ?_ (fun _=>?_))
theorem We (k:Nat) (x0 x1:Int) (x2:ByteArray) (x3:List S26) (y0 y1:Int) (y2:ByteArray) (y3:List S26):¬Qx.j0 k true x0 x1 x2 x3 y0 y1 y2 y3=some true:=by
 cases k <;> simp [Qx.j0]
set_option maxHeartbeats 40000000 in
set_option maxRecDepth 100000 in
theorem Qx.calls_true (k:Nat) (w:World) (h:Qx.f k=some true) (hT:Laid w:=by first|assumption|exact HT.out|exact Laid.below HT.out (by repeat(first|(with_reducible first|exact HB.out|apply Xu|apply Q6|apply Zg|refine Xf ?_ (Qa.out (by assumption)))|exact HB.out))):
 Calls Tryd.prog 17 #[] w fun e w'=>e=.returned (.bool true)∧Below w.heap.size w w':=by
 have HB:=Qa.mk (Below.refl w.heap.size w);have HT:Qa (Laid w):=Qa.mk hT;clear hT;have H:((Ze.f k (⟨#[40,49,43,50,41,42,51]⟩ :ByteArray)).bind fun bt148=>((Yw.f k bt148.1 bt148.2.1 bt148.2.2.1 bt148.2.2.2.1).bind fun bt157=>((Ze.f k (⟨#[97,43,98,61,50]⟩ :ByteArray)).bind fun bt159=>((Ze.f k (⟨#[97,61,98,43,61,50]⟩ :ByteArray)).bind fun bt168=>((Yu.f k bt168.1 bt168.2.1 bt168.2.2.1 bt168.2.2.2.1).bind fun t177=>(if bt148.2.2.2.2.2=0 then(if bt157.2=0 then(if bt157.1.toList=([40,49,32,43,32,50,41,32,42,32,51]:List UInt8) then(if bt159.2.2.2.2.1=3 then(if bt159.2.2.2.2.2=6 then(if bt168.2.2.2.2.2=0 then(if(t177.length:Int)=2 then(if 0 < (t177.length:Int) then(if(Vd ByteArray.empty t177 0).toList=([97]:List UInt8) then(if 1 < (t177.length:Int) then(Qx.j0 k ((Vd ByteArray.empty t177 1).toList !=([98]:List UInt8)) bt148.1 bt148.2.1 bt148.2.2.1 bt148.2.2.2.1 bt168.1 bt168.2.1 bt168.2.2.1 bt168.2.2.2.1) else(none)) else(Qx.j0 k true bt148.1 bt148.2.1 bt148.2.2.1 bt148.2.2.2.1 bt168.1 bt168.2.1 bt168.2.2.1 bt168.2.2.2.1)) else(none)) else(Qx.j0 k true bt148.1 bt148.2.1 bt148.2.2.1 bt148.2.2.2.1 bt168.1 bt168.2.1 bt168.2.2.1 bt168.2.2.2.1)) else(Qx.j0 k true bt148.1 bt148.2.1 bt148.2.2.1 bt148.2.2.2.1 bt168.1 bt168.2.1 bt168.2.2.1 bt168.2.2.2.1)) else(Qx.j0 k true bt148.1 bt148.2.1 bt148.2.2.1 bt148.2.2.2.1 bt168.1 bt168.2.1 bt168.2.2.1 bt168.2.2.2.1)) else(Qx.j0 k true bt148.1 bt148.2.1 bt148.2.2.1 bt148.2.2.2.1 bt168.1 bt168.2.1 bt168.2.2.1 bt168.2.2.2.1)) else(Qx.j0 k true bt148.1 bt148.2.1 bt148.2.2.1 bt148.2.2.2.1 bt168.1 bt168.2.1 bt168.2.2.1 bt168.2.2.2.1)) else(Qx.j0 k true bt148.1 bt148.2.1 bt148.2.2.1 bt148.2.2.2.1 bt168.1 bt168.2.1 bt168.2.2.1 bt168.2.2.2.1)) else(Qx.j0 k true bt148.1 bt148.2.1 bt148.2.2.1 bt148.2.2.2.1 bt168.1 bt168.2.1 bt168.2.2.1 bt168.2.2.2.1)))))))=some true:=h
 clear h;replace H:=Option.bind_eq_some_iff.mp H;obtain⟨⟨t148,t149,t150,t151,t154,t155⟩,A10,H⟩ :=H;try dsimp only at H
 have A1:=Qa.mk A10;clear A10;replace H:=Option.bind_eq_some_iff.mp H;obtain⟨⟨t157,t158⟩,A20,H⟩ :=H;try dsimp only at H
 have A2:=Qa.mk A20;clear A20;replace H:=Option.bind_eq_some_iff.mp H;obtain⟨⟨t159,t160,t161,t162,t165,t166⟩,A30,H⟩ :=H;try dsimp only at H
 have A3:=Qa.mk A30;clear A30;replace H:=Option.bind_eq_some_iff.mp H;obtain⟨⟨t168,t169,t170,t171,t174,t175⟩,A40,H⟩ :=H;try dsimp only at H
 have A4:=Qa.mk A40;clear A40;replace H:=Option.bind_eq_some_iff.mp H;obtain⟨t177,A50,H⟩ :=H;try dsimp only at H
 have A5:=Qa.mk A50;clear A50;have HC6:=Qa.mk H;clear H;go_enter Tryd.func17,Tryd.ntmps17;go_upto_region 6 with (first|((with_reducible refine Qp (f:=18) rfl ?_);refine Xh (some 14) rfl rfl Tryd.func18 (by kernel_rfl) rfl #[.string (⟨#[40,49,43,50,41,42,51]⟩ :ByteArray)] rfl (by(try simp only [List.map_toArray,List.map_cons,List.map_nil]);rfl) ?_;(with_reducible refine(Ze.calls k (⟨#[40,49,43,50,41,42,51]⟩ :ByteArray) t148 t149 t150 t151 t154 t155 _ A1.out).mono ?_);rintro e w7 ⟨v152,rfl,ho0,hb⟩;refine⟨_,rfl,?_⟩;have HO153:=Qa.mk (Kd.R_lower ho0 (X4 HB.out));replace HB:=Qa.mk (Qr HB.out hb);(try clear hb);(try clear ho0))|((with_reducible refine Q0 (N:=1) rfl ?_);(try(refine Vm (by rfl) ?_;dsimp only));refine Xm ?hg (N:=1) ?hd (cs:=#[.int .i64 0,.int .i64 0,.string (⟨#[]⟩ :ByteArray),.slice none 0 0]) (t:=26) ?hr ?_;(case hd=>rfl);(case hg=>rfl);(case hr=>(go_simp;done));intro gb156 hg w8 hbox hb;replace HO153:=Qa.mk (Kd.R_below (Kd.R_elderB HO153.out gb156 (Nat.le_of_eq hg.symm)) hb);have BK156:=Qa.mk hbox;have GE156:=Qa.mk ((by rw [hg];exact(X4 HB.out):w.heap.size≤gb156));replace HB:=Qa.mk (Qr HB.out hb);clear hb hbox hg;have hcz9_0:w8.cell? ⟨gb156,0,none⟩=some (.int .i64 0):=(Qb BK156.out 0).trans rfl;have hcz9_1:w8.cell? ⟨gb156,1,none⟩=some (.int .i64 0):=(Qb BK156.out 1).trans rfl;have hcz9_2:w8.cell? ⟨gb156,2,none⟩=some (.string (⟨#[]⟩ :ByteArray)):=(Qb BK156.out 2).trans rfl;have hcz9_3:w8.cell? ⟨gb156,3,none⟩=some (.slice none 0 0):=(Qb BK156.out 3).trans rfl;have hfz9_0:=Qd BK156.out 0;have hfz9_1:=Qd BK156.out 1;have hfz9_2:=Qd BK156.out 2;have hfz9_3:=Qd BK156.out 3;obtain⟨Ao10,co10,eo10⟩ :=Kd.R_slice HO153.out;subst eo10)|((with_reducible refine Qp (f:=22) rfl ?_);refine Xh (some 20) rfl rfl Tryd.func22 (by kernel_rfl) rfl #[.agg #[.int .i64 t148,.int .i64 t149,.string t150,.slice Ao10 t151.length co10]] rfl (by(try simp only [List.map_toArray,List.map_cons,List.map_nil]);rfl) ?_;(with_reducible refine(Yw.calls k t148 t149 t150 _ _ t151 t157 t158 _ ?side1 ((Kd.R_reads' HO153.out).2.1) A2.out).mono ?_);(case side1=>refine(Kd.R_reads' (e:=26) (base:=w.heap.size) (ok:=fun k_=>(True∧k_≠gb156)) (n:=t151.length) (c:=co10) ?_).2.2;exact(by exact(Kd.R_mono (Kd.R_far (p:=⟨gb156,3,none⟩) (Kd.R_far (p:=⟨gb156,2,none⟩) (Kd.R_far (p:=⟨gb156,1,none⟩) (Kd.R_far (p:=⟨gb156,0,none⟩) (Kd.R_mono HO153.out (fun k_ hk=>(⟨hk,hk.2⟩ :_∧k_≠gb156))) (fun _ hk=>hk.2) (.int .i64 t148)) (fun _ hk=>hk.2) (.int .i64 t149)) (fun _ hk=>hk.2) (.string t150)) (fun _ hk=>hk.2) (.slice Ao10 t151.length co10)) (fun _ h_=>h_.1))));rintro e w11 ⟨rfl,hb⟩;refine⟨_,rfl,?_⟩;replace HO153:=Qa.mk (Kd.R_below (by exact(Kd.R_mono (Kd.R_far (p:=⟨gb156,3,none⟩) (Kd.R_far (p:=⟨gb156,2,none⟩) (Kd.R_far (p:=⟨gb156,1,none⟩) (Kd.R_far (p:=⟨gb156,0,none⟩) (Kd.R_mono HO153.out (fun k_ hk=>(⟨hk,hk.2⟩ :_∧k_≠gb156))) (fun _ hk=>hk.2) (.int .i64 t148)) (fun _ hk=>hk.2) (.int .i64 t149)) (fun _ hk=>hk.2) (.string t150)) (fun _ hk=>hk.2) (.slice Ao10 t151.length co10)) (fun _ h_=>h_.1))) hb);replace BK156:=Qa.mk (Q1 (g:=gb156) (o:=.cells #[.int .i64 t148,.int .i64 t149,.string t150,.slice Ao10 t151.length co10] 26 (0,0)) (by refine Qt (cs:=#[.int .i64 t148,.int .i64 t149,.string t150,.slice none 0 0]) ?_ 3 _ rfl;refine Qt (cs:=#[.int .i64 t148,.int .i64 t149,.string (⟨#[]⟩ :ByteArray),.slice none 0 0]) ?_ 2 _ rfl;refine Qt (cs:=#[.int .i64 t148,.int .i64 0,.string (⟨#[]⟩ :ByteArray),.slice none 0 0]) ?_ 1 _ rfl;refine Qt (cs:=#[.int .i64 0,.int .i64 0,.string (⟨#[]⟩ :ByteArray),.slice none 0 0]) ?_ 0 _ rfl;exact BK156.out) hb);replace HB:=Qa.mk (Qr (by repeat(with_reducible first|exact HB.out|refine Xf ?_ GE156.out)) hb);(try clear hb))|((with_reducible refine Qp (f:=18) rfl ?_);refine Xh (some 24) rfl rfl Tryd.func18 (by kernel_rfl) rfl #[.string (⟨#[97,43,98,61,50]⟩ :ByteArray)] rfl (by(try simp only [List.map_toArray,List.map_cons,List.map_nil]);rfl) ?_;(with_reducible refine(Ze.calls k (⟨#[97,43,98,61,50]⟩ :ByteArray) t159 t160 t161 t162 t165 t166 _ A3.out).mono ?_);rintro e w12 ⟨v163,rfl,ho0,hb⟩;refine⟨_,rfl,?_⟩;have HO164:=Qa.mk (Kd.R_lower (Kd.R_newB (Kd.R_new' ho0 (Kd.R_lt HO153.out)) (g:=gb156) (o:=.cells #[.int .i64 t148,.int .i64 t149,.string t150,.slice Ao10 t151.length co10] 26 (0,0)) BK156.out) (X4 HB.out));replace HO153:=Qa.mk (Kd.R_elder' HO153.out (Kd.R_base ho0) hb);replace BK156:=Qa.mk (Q1 (g:=gb156) (o:=.cells #[.int .i64 t148,.int .i64 t149,.string t150,.slice Ao10 t151.length co10] 26 (0,0)) BK156.out hb);replace HB:=Qa.mk (Qr HB.out hb);(try clear hb);(try clear ho0))|((with_reducible refine Q0 (N:=6) rfl ?_);(try(refine Vm (by rfl) ?_;dsimp only));refine Xm ?hg (N:=6) ?hd (cs:=#[.int .i64 0,.int .i64 0,.string (⟨#[]⟩ :ByteArray),.slice none 0 0]) (t:=26) ?hr ?_;(case hd=>rfl);(case hg=>rfl);(case hr=>(go_simp;done));intro gb167 hg w13 hbox hb;replace HO153:=Qa.mk (Kd.R_below (Kd.R_elderB HO153.out gb167 (Nat.le_of_eq hg.symm)) hb);replace HO164:=Qa.mk (Kd.R_below (Kd.R_elderB HO164.out gb167 (Nat.le_of_eq hg.symm)) hb);have BK167:=Qa.mk hbox;have GE167:=Qa.mk ((by rw [hg];exact(X4 HB.out):w.heap.size≤gb167));replace HB:=Qa.mk (Qr HB.out hb);have NB156_167:=Qa.mk ((by rw [hg];exact Nat.ne_of_lt (Xr (g:=gb156) (o:=.cells #[.int .i64 t148,.int .i64 t149,.string t150,.slice Ao10 t151.length co10] 26 (0,0)) BK156.out):gb156≠gb167));have NB167_156:=Qa.mk ((by rw [hg];exact Nat.ne_of_gt (Xr (g:=gb156) (o:=.cells #[.int .i64 t148,.int .i64 t149,.string t150,.slice Ao10 t151.length co10] 26 (0,0)) BK156.out):gb167≠gb156));replace BK156:=Qa.mk (Q1 (g:=gb156) (o:=.cells #[.int .i64 t148,.int .i64 t149,.string t150,.slice Ao10 t151.length co10] 26 (0,0)) BK156.out hb);clear hb hbox hg;have hcz15_0:w13.cell? ⟨gb167,0,none⟩=some (.int .i64 0):=(Qb BK167.out 0).trans rfl;have hcz15_1:w13.cell? ⟨gb167,1,none⟩=some (.int .i64 0):=(Qb BK167.out 1).trans rfl;have hcz15_2:w13.cell? ⟨gb167,2,none⟩=some (.string (⟨#[]⟩ :ByteArray)):=(Qb BK167.out 2).trans rfl;have hcz15_3:w13.cell? ⟨gb167,3,none⟩=some (.slice none 0 0):=(Qb BK167.out 3).trans rfl;have hfz15_0:=Qd BK167.out 0;have hfz15_1:=Qd BK167.out 1;have hfz15_2:=Qd BK167.out 2;have hfz15_3:=Qd BK167.out 3;obtain⟨Ao16,co16,eo16⟩ :=Kd.R_slice HO164.out;subst eo16)|((with_reducible refine Qp (f:=18) rfl ?_);refine Xh (some 29) rfl rfl Tryd.func18 (by kernel_rfl) rfl #[.string (⟨#[97,61,98,43,61,50]⟩ :ByteArray)] rfl (by(try simp only [List.map_toArray,List.map_cons,List.map_nil]);rfl) ?_;(with_reducible refine(Ze.calls k (⟨#[97,61,98,43,61,50]⟩ :ByteArray) t168 t169 t170 t171 t174 t175 _ A4.out).mono ?_);rintro e w17 ⟨v172,rfl,ho0,hb⟩;refine⟨_,rfl,?_⟩;have HO173:=Qa.mk (Kd.R_lower (Kd.R_newB (Kd.R_newB (Kd.R_new' (Kd.R_new' ho0 (Kd.R_lt (by exact(Kd.R_mono (Kd.R_far (p:=⟨gb167,3,none⟩) (Kd.R_far (p:=⟨gb167,2,none⟩) (Kd.R_far (p:=⟨gb167,1,none⟩) (Kd.R_far (p:=⟨gb167,0,none⟩) (Kd.R_mono HO153.out (fun k_ hk=>(⟨hk,hk.2⟩ :_∧k_≠gb167))) (fun _ hk=>hk.2) (.int .i64 t159)) (fun _ hk=>hk.2) (.int .i64 t160)) (fun _ hk=>hk.2) (.string t161)) (fun _ hk=>hk.2) (.slice Ao16 t162.length co16)) (fun _ h_=>h_.1))))) (Kd.R_lt (by exact(Kd.R_mono (Kd.R_far (p:=⟨gb167,3,none⟩) (Kd.R_far (p:=⟨gb167,2,none⟩) (Kd.R_far (p:=⟨gb167,1,none⟩) (Kd.R_far (p:=⟨gb167,0,none⟩) (Kd.R_mono HO164.out (fun k_ hk=>(⟨hk,hk.2⟩ :_∧k_≠gb167))) (fun _ hk=>hk.2) (.int .i64 t159)) (fun _ hk=>hk.2) (.int .i64 t160)) (fun _ hk=>hk.2) (.string t161)) (fun _ hk=>hk.2) (.slice Ao16 t162.length co16)) (fun _ h_=>h_.1))))) (g:=gb156) (o:=.cells #[.int .i64 t148,.int .i64 t149,.string t150,.slice Ao10 t151.length co10] 26 (0,0)) (by refine Xg ?_ NB156_167.out _;refine Xg ?_ NB156_167.out _;refine Xg ?_ NB156_167.out _;refine Xg ?_ NB156_167.out _;exact BK156.out)) (g:=gb167) (o:=.cells #[.int .i64 t159,.int .i64 t160,.string t161,.slice Ao16 t162.length co16] 26 (0,0)) (by refine Qt (cs:=#[.int .i64 t159,.int .i64 t160,.string t161,.slice none 0 0]) ?_ 3 _ rfl;refine Qt (cs:=#[.int .i64 t159,.int .i64 t160,.string (⟨#[]⟩ :ByteArray),.slice none 0 0]) ?_ 2 _ rfl;refine Qt (cs:=#[.int .i64 t159,.int .i64 0,.string (⟨#[]⟩ :ByteArray),.slice none 0 0]) ?_ 1 _ rfl;refine Qt (cs:=#[.int .i64 0,.int .i64 0,.string (⟨#[]⟩ :ByteArray),.slice none 0 0]) ?_ 0 _ rfl;exact BK167.out)) (X4 (by repeat(with_reducible first|exact HB.out|refine Xf ?_ GE167.out))));replace HO153:=Qa.mk (Kd.R_elder' (by exact(Kd.R_mono (Kd.R_far (p:=⟨gb167,3,none⟩) (Kd.R_far (p:=⟨gb167,2,none⟩) (Kd.R_far (p:=⟨gb167,1,none⟩) (Kd.R_far (p:=⟨gb167,0,none⟩) (Kd.R_mono HO153.out (fun k_ hk=>(⟨hk,hk.2⟩ :_∧k_≠gb167))) (fun _ hk=>hk.2) (.int .i64 t159)) (fun _ hk=>hk.2) (.int .i64 t160)) (fun _ hk=>hk.2) (.string t161)) (fun _ hk=>hk.2) (.slice Ao16 t162.length co16)) (fun _ h_=>h_.1))) (Kd.R_base ho0) hb);replace HO164:=Qa.mk (Kd.R_elder' (by exact(Kd.R_mono (Kd.R_far (p:=⟨gb167,3,none⟩) (Kd.R_far (p:=⟨gb167,2,none⟩) (Kd.R_far (p:=⟨gb167,1,none⟩) (Kd.R_far (p:=⟨gb167,0,none⟩) (Kd.R_mono HO164.out (fun k_ hk=>(⟨hk,hk.2⟩ :_∧k_≠gb167))) (fun _ hk=>hk.2) (.int .i64 t159)) (fun _ hk=>hk.2) (.int .i64 t160)) (fun _ hk=>hk.2) (.string t161)) (fun _ hk=>hk.2) (.slice Ao16 t162.length co16)) (fun _ h_=>h_.1))) (Kd.R_base ho0) hb);replace BK156:=Qa.mk (Q1 (g:=gb156) (o:=.cells #[.int .i64 t148,.int .i64 t149,.string t150,.slice Ao10 t151.length co10] 26 (0,0)) (by refine Xg ?_ NB156_167.out _;refine Xg ?_ NB156_167.out _;refine Xg ?_ NB156_167.out _;refine Xg ?_ NB156_167.out _;exact BK156.out) hb);replace BK167:=Qa.mk (Q1 (g:=gb167) (o:=.cells #[.int .i64 t159,.int .i64 t160,.string t161,.slice Ao16 t162.length co16] 26 (0,0)) (by refine Qt (cs:=#[.int .i64 t159,.int .i64 t160,.string t161,.slice none 0 0]) ?_ 3 _ rfl;refine Qt (cs:=#[.int .i64 t159,.int .i64 t160,.string (⟨#[]⟩ :ByteArray),.slice none 0 0]) ?_ 2 _ rfl;refine Qt (cs:=#[.int .i64 t159,.int .i64 0,.string (⟨#[]⟩ :ByteArray),.slice none 0 0]) ?_ 1 _ rfl;refine Qt (cs:=#[.int .i64 0,.int .i64 0,.string (⟨#[]⟩ :ByteArray),.slice none 0 0]) ?_ 0 _ rfl;exact BK167.out) hb);replace HB:=Qa.mk (Qr (by repeat(with_reducible first|exact HB.out|refine Xf ?_ GE167.out)) hb);(try clear hb);(try clear ho0))|((with_reducible refine Q0 (N:=9) rfl ?_);(try(refine Vm (by rfl) ?_;dsimp only));refine Xm ?hg (N:=9) ?hd (cs:=#[.int .i64 0,.int .i64 0,.string (⟨#[]⟩ :ByteArray),.slice none 0 0]) (t:=26) ?hr ?_;(case hd=>rfl);(case hg=>rfl);(case hr=>(go_simp;done));intro gb176 hg w18 hbox hb;replace HO153:=Qa.mk (Kd.R_below (Kd.R_elderB HO153.out gb176 (Nat.le_of_eq hg.symm)) hb);replace HO164:=Qa.mk (Kd.R_below (Kd.R_elderB HO164.out gb176 (Nat.le_of_eq hg.symm)) hb);replace HO173:=Qa.mk (Kd.R_below (Kd.R_elderB HO173.out gb176 (Nat.le_of_eq hg.symm)) hb);have BK176:=Qa.mk hbox;have GE176:=Qa.mk ((by rw [hg];exact(X4 HB.out):w.heap.size≤gb176));replace HB:=Qa.mk (Qr HB.out hb);have NB156_176:=Qa.mk ((by rw [hg];exact Nat.ne_of_lt (Xr (g:=gb156) (o:=.cells #[.int .i64 t148,.int .i64 t149,.string t150,.slice Ao10 t151.length co10] 26 (0,0)) BK156.out):gb156≠gb176));have NB176_156:=Qa.mk ((by rw [hg];exact Nat.ne_of_gt (Xr (g:=gb156) (o:=.cells #[.int .i64 t148,.int .i64 t149,.string t150,.slice Ao10 t151.length co10] 26 (0,0)) BK156.out):gb176≠gb156));replace BK156:=Qa.mk (Q1 (g:=gb156) (o:=.cells #[.int .i64 t148,.int .i64 t149,.string t150,.slice Ao10 t151.length co10] 26 (0,0)) BK156.out hb);have NB167_176:=Qa.mk ((by rw [hg];exact Nat.ne_of_lt (Xr (g:=gb167) (o:=.cells #[.int .i64 t159,.int .i64 t160,.string t161,.slice Ao16 t162.length co16] 26 (0,0)) BK167.out):gb167≠gb176));have NB176_167:=Qa.mk ((by rw [hg];exact Nat.ne_of_gt (Xr (g:=gb167) (o:=.cells #[.int .i64 t159,.int .i64 t160,.string t161,.slice Ao16 t162.length co16] 26 (0,0)) BK167.out):gb176≠gb167));replace BK167:=Qa.mk (Q1 (g:=gb167) (o:=.cells #[.int .i64 t159,.int .i64 t160,.string t161,.slice Ao16 t162.length co16] 26 (0,0)) BK167.out hb);clear hb hbox hg;have hcz21_0:w18.cell? ⟨gb176,0,none⟩=some (.int .i64 0):=(Qb BK176.out 0).trans rfl;have hcz21_1:w18.cell? ⟨gb176,1,none⟩=some (.int .i64 0):=(Qb BK176.out 1).trans rfl;have hcz21_2:w18.cell? ⟨gb176,2,none⟩=some (.string (⟨#[]⟩ :ByteArray)):=(Qb BK176.out 2).trans rfl;have hcz21_3:w18.cell? ⟨gb176,3,none⟩=some (.slice none 0 0):=(Qb BK176.out 3).trans rfl;have hfz21_0:=Qd BK176.out 0;have hfz21_1:=Qd BK176.out 1;have hfz21_2:=Qd BK176.out 2;have hfz21_3:=Qd BK176.out 3;obtain⟨Ao22,co22,eo22⟩ :=Kd.R_slice HO173.out;subst eo22)|((with_reducible refine Qp (f:=26) rfl ?_);refine Xh (some 34) rfl rfl Tryd.func26 (by kernel_rfl) rfl #[.agg #[.int .i64 t168,.int .i64 t169,.string t170,.slice Ao22 t171.length co22]] rfl (by(try simp only [List.map_toArray,List.map_cons,List.map_nil]);rfl) ?_;(with_reducible refine(Yu.calls k t168 t169 t170 _ _ t171 t177 _ ?side1 ((Kd.R_reads' HO173.out).2.1) A5.out).mono ?_);(case side1=>refine(Kd.R_reads' (e:=26) (base:=w.heap.size) (ok:=fun k_=>(((((True∧some k_≠(.slice Ao10 t151.length co10:Value).ownBlock)∧some k_≠(.slice Ao16 t162.length co16:Value).ownBlock)∧k_≠gb156)∧k_≠gb167)∧k_≠gb176)) (n:=t171.length) (c:=co22) ?_).2.2;exact(by exact(Kd.R_mono (Kd.R_far (p:=⟨gb176,3,none⟩) (Kd.R_far (p:=⟨gb176,2,none⟩) (Kd.R_far (p:=⟨gb176,1,none⟩) (Kd.R_far (p:=⟨gb176,0,none⟩) (Kd.R_mono HO173.out (fun k_ hk=>(⟨hk,hk.2⟩ :_∧k_≠gb176))) (fun _ hk=>hk.2) (.int .i64 t168)) (fun _ hk=>hk.2) (.int .i64 t169)) (fun _ hk=>hk.2) (.string t170)) (fun _ hk=>hk.2) (.slice Ao22 t171.length co22)) (fun _ h_=>h_.1))));rintro e w23 ⟨v178,rfl,ho0,hb⟩;refine⟨_,rfl,?_⟩;replace HO153:=Qa.mk (Kd.R_below (by exact(Kd.R_mono (Kd.R_far (p:=⟨gb176,3,none⟩) (Kd.R_far (p:=⟨gb176,2,none⟩) (Kd.R_far (p:=⟨gb176,1,none⟩) (Kd.R_far (p:=⟨gb176,0,none⟩) (Kd.R_mono HO153.out (fun k_ hk=>(⟨hk,hk.2⟩ :_∧k_≠gb176))) (fun _ hk=>hk.2) (.int .i64 t168)) (fun _ hk=>hk.2) (.int .i64 t169)) (fun _ hk=>hk.2) (.string t170)) (fun _ hk=>hk.2) (.slice Ao22 t171.length co22)) (fun _ h_=>h_.1))) hb);replace HO164:=Qa.mk (Kd.R_below (by exact(Kd.R_mono (Kd.R_far (p:=⟨gb176,3,none⟩) (Kd.R_far (p:=⟨gb176,2,none⟩) (Kd.R_far (p:=⟨gb176,1,none⟩) (Kd.R_far (p:=⟨gb176,0,none⟩) (Kd.R_mono HO164.out (fun k_ hk=>(⟨hk,hk.2⟩ :_∧k_≠gb176))) (fun _ hk=>hk.2) (.int .i64 t168)) (fun _ hk=>hk.2) (.int .i64 t169)) (fun _ hk=>hk.2) (.string t170)) (fun _ hk=>hk.2) (.slice Ao22 t171.length co22)) (fun _ h_=>h_.1))) hb);replace HO173:=Qa.mk (Kd.R_below (by exact(Kd.R_mono (Kd.R_far (p:=⟨gb176,3,none⟩) (Kd.R_far (p:=⟨gb176,2,none⟩) (Kd.R_far (p:=⟨gb176,1,none⟩) (Kd.R_far (p:=⟨gb176,0,none⟩) (Kd.R_mono HO173.out (fun k_ hk=>(⟨hk,hk.2⟩ :_∧k_≠gb176))) (fun _ hk=>hk.2) (.int .i64 t168)) (fun _ hk=>hk.2) (.int .i64 t169)) (fun _ hk=>hk.2) (.string t170)) (fun _ hk=>hk.2) (.slice Ao22 t171.length co22)) (fun _ h_=>h_.1))) hb);have HO179:=Qa.mk (Kd.R_lower ho0 (X4 (by repeat(with_reducible first|exact HB.out|refine Xf ?_ GE176.out))));replace BK156:=Qa.mk (Q1 (g:=gb156) (o:=.cells #[.int .i64 t148,.int .i64 t149,.string t150,.slice Ao10 t151.length co10] 26 (0,0)) (by refine Xg ?_ NB156_176.out _;refine Xg ?_ NB156_176.out _;refine Xg ?_ NB156_176.out _;refine Xg ?_ NB156_176.out _;exact BK156.out) hb);replace BK167:=Qa.mk (Q1 (g:=gb167) (o:=.cells #[.int .i64 t159,.int .i64 t160,.string t161,.slice Ao16 t162.length co16] 26 (0,0)) (by refine Xg ?_ NB167_176.out _;refine Xg ?_ NB167_176.out _;refine Xg ?_ NB167_176.out _;refine Xg ?_ NB167_176.out _;exact BK167.out) hb);replace BK176:=Qa.mk (Q1 (g:=gb176) (o:=.cells #[.int .i64 t168,.int .i64 t169,.string t170,.slice Ao22 t171.length co22] 26 (0,0)) (by refine Qt (cs:=#[.int .i64 t168,.int .i64 t169,.string t170,.slice none 0 0]) ?_ 3 _ rfl;refine Qt (cs:=#[.int .i64 t168,.int .i64 t169,.string (⟨#[]⟩ :ByteArray),.slice none 0 0]) ?_ 2 _ rfl;refine Qt (cs:=#[.int .i64 t168,.int .i64 0,.string (⟨#[]⟩ :ByteArray),.slice none 0 0]) ?_ 1 _ rfl;refine Qt (cs:=#[.int .i64 0,.int .i64 0,.string (⟨#[]⟩ :ByteArray),.slice none 0 0]) ?_ 0 _ rfl;exact BK176.out) hb);replace HB:=Qa.mk (Qr (by repeat(with_reducible first|exact HB.out|refine Xf ?_ GE176.out)) hb);(try clear hb);(try clear ho0)))
 go_cut [73] (fun v73 wc=>∃(kq:Nat) (x73_5:Bool),v73=.bool x73_5∧Qa (Qx.j0 kq x73_5 t148 t149 t150 t151 t168 t169 t170 t171=some true)∧Qa (kq≤k)∧Qa (Kd.R k26 26 wc w.heap.size (fun k_=>some k_≠((.slice Ao16 t162.length co16):Value).ownBlock∧some k_≠((.slice Ao22 t171.length co22):Value).ownBlock∧k_≠gb156∧k_≠gb167∧k_≠gb176) (.slice Ao10 t151.length co10) t151)∧Qa (Kd.R k26 26 wc w.heap.size (fun k_=>some k_≠((.slice Ao10 t151.length co10):Value).ownBlock∧some k_≠((.slice Ao22 t171.length co22):Value).ownBlock∧k_≠gb156∧k_≠gb167∧k_≠gb176) (.slice Ao16 t162.length co16) t162)∧Qa (Kd.R k26 26 wc w.heap.size (fun k_=>some k_≠((.slice Ao10 t151.length co10):Value).ownBlock∧some k_≠((.slice Ao16 t162.length co16):Value).ownBlock∧k_≠gb156∧k_≠gb167∧k_≠gb176) (.slice Ao22 t171.length co22) t171)∧Qa (wc.heap[gb156]? =some (.cells #[.int .i64 t148,.int .i64 t149,.string t150,(.slice Ao10 t151.length co10)] 26 (0,0)))∧Qa (wc.heap[gb167]? =some (.cells #[.int .i64 t159,.int .i64 t160,.string t161,(.slice Ao16 t162.length co16)] 26 (0,0)))∧Qa (wc.heap[gb176]? =some (.cells #[.int .i64 t168,.int .i64 t169,.string t170,(.slice Ao22 t171.length co22)] 26 (0,0)))∧Qa (Below w.heap.size w wc))
 case first=>
  have H:=HC6.out;clear HC6;by_cases c24:t155=0
  rotate_left
  ·rw [if_neg c24] at H;exact absurd H (by exact We _ _ _ _ _ _ _ _ _)
  rw [if_pos c24] at H;have c24b1:(t155 !=0)=false:=bne_eq_false_iff_eq.mpr c24;clear c24;by_cases c25:t158=0
  rotate_left
  ·rw [if_neg c25] at H;exact absurd H (by exact We _ _ _ _ _ _ _ _ _)
  rw [if_pos c25] at H;have c25b1:(t158 !=0)=false:=bne_eq_false_iff_eq.mpr c25;clear c25;by_cases c26:t157.toList=([40,49,32,43,32,50,41,32,42,32,51]:List UInt8)
  rotate_left
  ·rw [if_neg c26] at H;exact absurd H (by exact We _ _ _ _ _ _ _ _ _)
  rw [if_pos c26] at H;have c26b0:(t157.toList==([40,49,32,43,32,50,41,32,42,32,51]:List UInt8))=true:=beq_iff_eq.mpr c26;clear c26;by_cases c27:t165=3
  rotate_left
  ·rw [if_neg c27] at H;exact absurd H (by exact We _ _ _ _ _ _ _ _ _)
  rw [if_pos c27] at H;have c27b1:(t165 !=3)=false:=bne_eq_false_iff_eq.mpr c27;clear c27;by_cases c28:t166=6
  rotate_left
  ·rw [if_neg c28] at H;exact absurd H (by exact We _ _ _ _ _ _ _ _ _)
  rw [if_pos c28] at H;have c28b1:(t166 !=6)=false:=bne_eq_false_iff_eq.mpr c28;clear c28;by_cases c29:t175=0
  rotate_left
  ·rw [if_neg c29] at H;exact absurd H (by exact We _ _ _ _ _ _ _ _ _)
  rw [if_pos c29] at H;have c29b1:(t175 !=0)=false:=bne_eq_false_iff_eq.mpr c29;clear c29;by_cases c30:(t177.length:Int)=2
  rotate_left
  ·rw [if_neg c30] at H;exact absurd H (by exact We _ _ _ _ _ _ _ _ _)
  rw [if_pos c30] at H;have c30b1:((t177.length:Int) !=2)=false:=bne_eq_false_iff_eq.mpr c30;clear c30;by_cases c31:0 < (t177.length:Int)
  rotate_left
  ·rw [if_neg c31] at H;exact absurd H (by simp)
  rw [if_pos c31] at H;have c31b0:decide (0 < (t177.length:Int))=true:=decide_eq_true c31;clear c31;by_cases c32:(Vd ByteArray.empty t177 0).toList=([97]:List UInt8)
  rotate_left
  ·rw [if_neg c32] at H;exact absurd H (by exact We _ _ _ _ _ _ _ _ _)
  rw [if_pos c32] at H;have c32b0:((Vd ByteArray.empty t177 0).toList==([97]:List UInt8))=true:=beq_iff_eq.mpr c32;clear c32;by_cases c33:1 < (t177.length:Int)
  rotate_left
  ·rw [if_neg c33] at H;exact absurd H (by simp)
  rw [if_pos c33] at H;have c33b0:decide (1 < (t177.length:Int))=true:=decide_eq_true c33;clear c33;have H':=Qa.mk H;clear H;obtain⟨Ao34,co34,eo34⟩ :=Kd.R_slice HO179.out;subst eo34;have p180:0≤(0 :Int):=(by omega);have q180:0 < (t177.length:Int):=of_decide_eq_true (by(with_reducible assumption));obtain⟨ad180,e180,hx180_0⟩ :=Kd.at_string (Kd.R_reads' HO179.out).2.2 0 p180 q180
  cases e180
  have qi180:(0 < t177.length)=True:=eq_true (by omega);(try rw [show((0 :Int)).toNat=0 from rfl] at hx180_0);(try rw [Addr.add_zero'] at hx180_0);replace p180:=eq_true p180;replace q180:=eq_true q180;have p181:0≤(1 :Int):=(by omega);have q181:1 < (t177.length:Int):=of_decide_eq_true (by(with_reducible assumption));obtain⟨ad181,e181,hx181_0⟩ :=Kd.at_string (Kd.R_reads' HO179.out).2.2 1 p181 q181;obtain rfl:ad180=ad181:=(by injection e181);(try simp only [show(1 :Int).toNat=1 from rfl,Nat.reduceMul,Nat.reduceEqDiff,Go.Addr.add,↓reduceIte] at hx181_0);replace p181:=eq_true p181;replace q181:=eq_true q181;go_wp2
  go_meet
  case rel=>exact⟨_,(((Vd ByteArray.empty t177 1).toList !=([98]:List UInt8))),(by rfl),H',⟨by omega⟩,⟨by exact Kd.R_mono HO153.out (fun _ hk=>⟨hk.1.1.1.2,⟨hk.1.2,⟨hk.1.1.1.1.2,⟨hk.1.1.2,hk.2⟩⟩⟩⟩)⟩,⟨by exact Kd.R_mono HO164.out (fun _ hk=>⟨hk.1.1.1.1.2,⟨hk.1.2,⟨hk.1.1.1.2,⟨hk.1.1.2,hk.2⟩⟩⟩⟩)⟩,⟨by exact Kd.R_mono HO173.out (fun _ hk=>⟨hk.1.1.1.1.2,⟨hk.1.1.1.2,⟨hk.1.1.2,⟨hk.1.2,hk.2⟩⟩⟩⟩)⟩,⟨BK156.out⟩,⟨BK167.out⟩,⟨BK176.out⟩,⟨HB.out⟩⟩
 case rest=>
  clear HC6;(try clear hcz15_0);(try clear hcz15_1);(try clear hcz15_2);(try clear hcz15_3);(try clear hcz21_0);(try clear hcz21_1);(try clear hcz21_2);(try clear hcz21_3);(try clear hcz9_0);(try clear hcz9_1);(try clear hcz9_2);(try clear hcz9_3);(try clear hfz15_0);(try clear hfz15_1);(try clear hfz15_2);(try clear hfz15_3);(try clear hfz21_0);(try clear hfz21_1);(try clear hfz21_2);(try clear hfz21_3);(try clear hfz9_0);(try clear hfz9_1);(try clear hfz9_2);(try clear hfz9_3);obtain⟨kq,x73_5,rfl,HA,HJ5,HO_157003,HO_168003,HO_177003,BK156,BK167,BK176,HB⟩ :=hcut
  cases kq with
  |zero=>exact absurd HA.out (by simp [Qx.j0])
  |succ kj5=>
   have H:=HA.out;clear HA;simp only [Qx.j0] at H;by_cases c37:x73_5=true
   ·subst c37;exact absurd H (by simp)
   replace c37:=Bool.eq_false_iff.mpr c37;subst c37;have H1:(if t148=7 then(if t168=26 then((Xj.f kj5 t148 t149 t150 t151 t148 t149 t150 t151).bind fun t182=>(if t182=true then((Xj.f kj5 t148 t149 t150 t151 t168 t169 t170 t171).bind fun t183=>(if t183=true then(some false) else((X9.f kj5 0 0 (⟨#[]⟩ :ByteArray) ([]:List (S26))).bind fun t184=>(if t184=1 then((X9.f kj5 t148 t149 t150 t151).bind fun t185=>(some (t185==0))) else(some false))))) else(some false))) else(some false)) else(some false))=some true:=by rw [if_neg (show ¬(false=true) by decide)] at H;exact H
   clear H;have H:=H1;clear H1;by_cases c38:t148=7
   rotate_left
   ·rw [if_neg c38] at H;exact absurd H (by simp)
   rw [if_pos c38] at H;have c38b0:(t148==7)=true:=beq_iff_eq.mpr c38;clear c38;by_cases c39:t168=26
   rotate_left
   ·rw [if_neg c39] at H;exact absurd H (by simp)
   rw [if_pos c39] at H;have c39b0:(t168==26)=true:=beq_iff_eq.mpr c39;clear c39;replace H:=Option.bind_eq_some_iff.mp H;obtain⟨t182,A400,H⟩ :=H;try dsimp only at H
   have A40:=Qa.mk A400;clear A400;by_cases c41:t182=true
   rotate_left
   ·replace c41:=Bool.eq_false_iff.mpr c41;subst c41;exact absurd H (by simp)
   subst c41;have H1:((Xj.f kj5 t148 t149 t150 t151 t168 t169 t170 t171).bind fun t183=>(if t183=true then(some false) else((X9.f kj5 0 0 (⟨#[]⟩ :ByteArray) ([]:List (S26))).bind fun t184=>(if t184=1 then((X9.f kj5 t148 t149 t150 t151).bind fun t185=>(some (t185==0))) else(some false)))))=some true:=by rw [if_pos rfl] at H;exact H
   clear H;have H:=H1;clear H1;replace H:=Option.bind_eq_some_iff.mp H;obtain⟨t183,A420,H⟩ :=H;try dsimp only at H
   have A42:=Qa.mk A420;clear A420;by_cases c43:t183=true
   ·subst c43;exact absurd H (by simp)
   replace c43:=Bool.eq_false_iff.mpr c43;subst c43;have H1:((X9.f kj5 0 0 (⟨#[]⟩ :ByteArray) ([]:List (S26))).bind fun t184=>(if t184=1 then((X9.f kj5 t148 t149 t150 t151).bind fun t185=>(some (t185==0))) else(some false)))=some true:=by rw [if_neg (show ¬(false=true) by decide)] at H;exact H
   clear H;have H:=H1;clear H1;replace H:=Option.bind_eq_some_iff.mp H;obtain⟨t184,A530,H⟩ :=H;try dsimp only at H
   have A53:=Qa.mk A530;clear A530;by_cases c54:t184=1
   rotate_left
   ·rw [if_neg c54] at H;exact absurd H (by simp)
   rw [if_pos c54] at H;have c54b0:(t184==1)=true:=beq_iff_eq.mpr c54;clear c54;replace H:=Option.bind_eq_some_iff.mp H;obtain⟨t185,A550,H⟩ :=H;try dsimp only at H
   have A55:=Qa.mk A550;clear A550;have H185:=Option.some.inj H;clear H;have hcz58_0:wc.cell? ⟨gb156,0,none⟩=some (.int .i64 t148):=(Qb BK156.out 0).trans rfl;have hcz58_1:wc.cell? ⟨gb156,1,none⟩=some (.int .i64 t149):=(Qb BK156.out 1).trans rfl;have hcz58_2:wc.cell? ⟨gb156,2,none⟩=some (.string t150):=(Qb BK156.out 2).trans rfl;have hcz58_3:wc.cell? ⟨gb156,3,none⟩=some (.slice Ao10 t151.length co10):=(Qb BK156.out 3).trans rfl;have hcz60_0:wc.cell? ⟨gb176,0,none⟩=some (.int .i64 t168):=(Qb BK176.out 0).trans rfl;go_wp2_with(first|(go_at_call 28;(with_reducible refine(Xj.calls kj5 t148 t149 t150 _ _ t151 t148 t149 t150 _ _ t151 true _ ?side1 ((Kd.R_reads' HO_157003.out).2.1) ?side3 ((Kd.R_reads' HO_157003.out).2.1) A40.out).mono ?_);(case side1=>repeat((with_reducible exact(Kd.R_reads' HO_157003.out).2.2)));(case side3=>repeat((with_reducible exact(Kd.R_reads' HO_157003.out).2.2)));rintro e w61 ⟨rfl,hb⟩;replace HO_157003:=Qa.mk (Kd.R_below HO_157003.out hb);replace HO_168003:=Qa.mk (Kd.R_below HO_168003.out hb);replace HO_177003:=Qa.mk (Kd.R_below HO_177003.out hb);replace BK156:=Qa.mk (Q1 (g:=gb156) (o:=.cells #[.int .i64 t148,.int .i64 t149,.string t150,.slice Ao10 t151.length co10] 26 (0,0)) BK156.out hb);replace BK167:=Qa.mk (Q1 (g:=gb167) (o:=.cells #[.int .i64 t159,.int .i64 t160,.string t161,.slice Ao16 t162.length co16] 26 (0,0)) BK167.out hb);replace BK176:=Qa.mk (Q1 (g:=gb176) (o:=.cells #[.int .i64 t168,.int .i64 t169,.string t170,.slice Ao22 t171.length co22] 26 (0,0)) BK176.out hb);replace HB:=Qa.mk (Qr HB.out hb);(try clear hb);have hcz62_0:w61.cell? ⟨gb156,0,none⟩=some (.int .i64 t148):=(Qb BK156.out 0).trans rfl;have hcz62_1:w61.cell? ⟨gb156,1,none⟩=some (.int .i64 t149):=(Qb BK156.out 1).trans rfl;have hcz62_2:w61.cell? ⟨gb156,2,none⟩=some (.string t150):=(Qb BK156.out 2).trans rfl;have hcz62_3:w61.cell? ⟨gb156,3,none⟩=some (.slice Ao10 t151.length co10):=(Qb BK156.out 3).trans rfl;have hcz63_0:w61.cell? ⟨gb176,0,none⟩=some (.int .i64 t168):=(Qb BK176.out 0).trans rfl;have hcz63_1:w61.cell? ⟨gb176,1,none⟩=some (.int .i64 t169):=(Qb BK176.out 1).trans rfl;have hcz63_2:w61.cell? ⟨gb176,2,none⟩=some (.string t170):=(Qb BK176.out 2).trans rfl;have hcz63_3:w61.cell? ⟨gb176,3,none⟩=some (.slice Ao22 t171.length co22):=(Qb BK176.out 3).trans rfl)|(go_at_call 28;(with_reducible refine(Xj.calls kj5 t148 t149 t150 _ _ t151 t168 t169 t170 _ _ t171 false _ ?side1 ((Kd.R_reads' HO_157003.out).2.1) ?side3 ((Kd.R_reads' HO_177003.out).2.1) A42.out).mono ?_);(case side1=>repeat((with_reducible exact(Kd.R_reads' HO_157003.out).2.2)));(case side3=>repeat((with_reducible exact(Kd.R_reads' HO_177003.out).2.2)));rintro e w64 ⟨rfl,hb⟩;replace HO_157003:=Qa.mk (Kd.R_below HO_157003.out hb);replace HO_168003:=Qa.mk (Kd.R_below HO_168003.out hb);replace HO_177003:=Qa.mk (Kd.R_below HO_177003.out hb);replace BK156:=Qa.mk (Q1 (g:=gb156) (o:=.cells #[.int .i64 t148,.int .i64 t149,.string t150,.slice Ao10 t151.length co10] 26 (0,0)) BK156.out hb);replace BK167:=Qa.mk (Q1 (g:=gb167) (o:=.cells #[.int .i64 t159,.int .i64 t160,.string t161,.slice Ao16 t162.length co16] 26 (0,0)) BK167.out hb);replace BK176:=Qa.mk (Q1 (g:=gb176) (o:=.cells #[.int .i64 t168,.int .i64 t169,.string t170,.slice Ao22 t171.length co22] 26 (0,0)) BK176.out hb);replace HB:=Qa.mk (Qr HB.out hb);(try clear hb))|(go_at_call 24;(with_reducible refine(X9.calls kj5 t148 t149 t150 _ _ t151 t185 _ ?side1 ((Kd.R_reads' HO_157003.out).2.1) A55.out).mono ?_);(case side1=>repeat((with_reducible exact(Kd.R_reads' HO_157003.out).2.2)));rintro e w67 ⟨rfl,hb⟩;replace HO_157003:=Qa.mk (Kd.R_below HO_157003.out hb);replace HO_168003:=Qa.mk (Kd.R_below HO_168003.out hb);replace HO_177003:=Qa.mk (Kd.R_below HO_177003.out hb);replace BK156:=Qa.mk (Q1 (g:=gb156) (o:=.cells #[.int .i64 t148,.int .i64 t149,.string t150,.slice Ao10 t151.length co10] 26 (0,0)) BK156.out hb);replace BK167:=Qa.mk (Q1 (g:=gb167) (o:=.cells #[.int .i64 t159,.int .i64 t160,.string t161,.slice Ao16 t162.length co16] 26 (0,0)) BK167.out hb);replace BK176:=Qa.mk (Q1 (g:=gb176) (o:=.cells #[.int .i64 t168,.int .i64 t169,.string t170,.slice Ao22 t171.length co22] 26 (0,0)) BK176.out hb);replace HB:=Qa.mk (Qr HB.out hb);(try clear hb))|(go_at_call 24;(refine(X9.calls kj5 0 0 (⟨#[]⟩ :ByteArray) _ _ ([]:List (S26)) t184 _ (Kd.C_nil _ _) (Nat.le_refl _) A53.out).mono ?_);rintro e w65 ⟨rfl,hb⟩;replace HO_157003:=Qa.mk (Kd.R_below HO_157003.out hb);replace HO_168003:=Qa.mk (Kd.R_below HO_168003.out hb);replace HO_177003:=Qa.mk (Kd.R_below HO_177003.out hb);replace BK156:=Qa.mk (Q1 (g:=gb156) (o:=.cells #[.int .i64 t148,.int .i64 t149,.string t150,.slice Ao10 t151.length co10] 26 (0,0)) BK156.out hb);replace BK167:=Qa.mk (Q1 (g:=gb167) (o:=.cells #[.int .i64 t159,.int .i64 t160,.string t161,.slice Ao16 t162.length co16] 26 (0,0)) BK167.out hb);replace BK176:=Qa.mk (Q1 (g:=gb176) (o:=.cells #[.int .i64 t168,.int .i64 t169,.string t170,.slice Ao22 t171.length co22] 26 (0,0)) BK176.out hb);replace HB:=Qa.mk (Qr HB.out hb);(try clear hb);have hcz66_0:w65.cell? ⟨gb156,0,none⟩=some (.int .i64 t148):=(Qb BK156.out 0).trans rfl;have hcz66_1:w65.cell? ⟨gb156,1,none⟩=some (.int .i64 t149):=(Qb BK156.out 1).trans rfl;have hcz66_2:w65.cell? ⟨gb156,2,none⟩=some (.string t150):=(Qb BK156.out 2).trans rfl;have hcz66_3:w65.cell? ⟨gb156,3,none⟩=some (.slice Ao10 t151.length co10):=(Qb BK156.out 3).trans rfl))
   go_ret
   exact⟨by rfl,HB.out⟩
theorem Uk:Qx.f 60=some true:=by kernel_rfl
theorem Ul (k n:Nat) (r:Bool) (h:Qx.f k=some r):k≤n→Qx.f n=some r:=by
 intro hn
 induction hn with
 |refl=>exact h
 |step _ ih=>exact Qx.mono _ _ ih
theorem Lz (k:Nat) (r:Bool) (h:Qx.f k=some r):r=true:=by
 have h1:=Ul k (max k 60) r h (Nat.le_max_left _ _);have h2:=Ul 60 (max k 60) true Uk (Nat.le_max_right _ _);rw [h1] at h2;exact Option.some.inj h2
theorem Qx.calls (k:Nat) (r:Bool) (w:World) (h:Qx.f k=some r) (hT:Laid w:=by first|assumption|exact HT.out|exact Laid.below HT.out (by repeat(first|(with_reducible first|exact HB.out|apply Xu|apply Q6|apply Zg|refine Xf ?_ (Qa.out (by assumption)))|exact HB.out))):Calls Tryd.prog 17 #[] w fun e w'=>e=.returned (.bool r)∧Below w.heap.size w w':=by
 obtain rfl:=Lz k r h;exact Qx.calls_true k w h hT
end Go.Proofs.YtglmdfddgmkmaaaDoor.Q
end
section
namespace Go.Proofs.YtglmdfddgmkmaaaDoor.Q
open Go.RowKit Go.Proofs.YtglmdfddgmkmaaaDoorW.PrintWords Go.Proofs.YtglmdfddgmkmaaaDoorW.PrintLast Go.Proofs.YtglmdfddgmkmaaaDoorW.PrintMore
attribute [local go_sem] Z0 Z2 Yd Ye Zq Zr Z1 Z3
set_option linter.unusedVariables false
set_option linter.unusedSimpArgs false
mutual
def Qq.j0:Nat→Bool→Int→Int→ByteArray→List (S26)→Int→Int→ByteArray→List (S26)→Option (Bool)
 |0,_,_,_,_,_,_,_,_,_=>none
 |k+1,x33,x254000,x254001,x254002,x254003,x255000,x255001,x255002,x255003=>if x33=true then(some false) else(Qq.l0 k 0 x254000 x254001 x254002 x254003 x255000 x255001 x255002 x255003)
def Qq.l0:Nat→Int→Int→Int→ByteArray→List (S26)→Int→Int→ByteArray→List (S26)→Option (Bool)
 |0,_,_,_,_,_,_,_,_,_=>none
 |k+1,x5,x254000,x254001,x254002,x254003,x255000,x255001,x255002,x255003=>if x5 < (x254003.length:Int) then(if 0≤x5 then(if x5 < (x255003.length:Int) then((Qq.f k ((Qg x254003 x5).f0) ((Qg x254003 x5).f1) ((Qg x254003 x5).f2) ((Qg x254003 x5).f3) ((Qg x255003 x5).f0) ((Qg x255003 x5).f1) ((Qg x255003 x5).f2) ((Qg x255003 x5).f3)).bind fun t257=>(if t257=true then(Qq.l0 k (wrap64 (x5+1)) x254000 x254001 x254002 x254003 x255000 x255001 x255002 x255003) else(some false))) else(none)) else(none)) else(some true)
def Qq.f:Nat→Int→Int→ByteArray→List (S26)→Int→Int→ByteArray→List (S26)→Option (Bool)
 |0,_,_,_,_,_,_,_,_=>none
 |k+1,a0_0,a0_1,a0_2,l0_3,a1_0,a1_1,a1_2,l1_3=>if a0_0=a1_0 then(if a0_1=a1_1 then(if a0_2.toList=a1_2.toList then(Qq.j0 k ((l0_3.length:Int) !=(l1_3.length:Int)) a0_0 a0_1 a0_2 l0_3 a1_0 a1_1 a1_2 l1_3) else(Qq.j0 k true a0_0 a0_1 a0_2 l0_3 a1_0 a1_1 a1_2 l1_3)) else(Qq.j0 k true a0_0 a0_1 a0_2 l0_3 a1_0 a1_1 a1_2 l1_3)) else(Qq.j0 k true a0_0 a0_1 a0_2 l0_3 a1_0 a1_1 a1_2 l1_3)
end
theorem Qq.mono_l:∀k,(∀y0 y1 y2 y3 y4 y5 y6 y7,LeO (Qq.f k y0 y1 y2 y3 y4 y5 y6 y7) (Qq.f (k+1) y0 y1 y2 y3 y4 y5 y6 y7))∧(∀y0 y1 y2 y3 y4 y5 y6 y7 y8,LeO (Qq.j0 k y0 y1 y2 y3 y4 y5 y6 y7 y8) (Qq.j0 (k+1) y0 y1 y2 y3 y4 y5 y6 y7 y8))∧(∀y0 y1 y2 y3 y4 y5 y6 y7 y8,LeO (Qq.l0 k y0 y1 y2 y3 y4 y5 y6 y7 y8) (Qq.l0 (k+1) y0 y1 y2 y3 y4 y5 y6 y7 y8))
 |0=>⟨fun _ _ _ _ _ _ _ _ r h=>by simp [Qq.f] at h,fun _ _ _ _ _ _ _ _ _ r h=>by simp [Qq.j0] at h,fun _ _ _ _ _ _ _ _ _ r h=>by simp [Qq.l0] at h⟩
 |k+1=>by
  obtain⟨ih0,ih1,ih2⟩ :=Qq.mono_l k;refine⟨?_,?_,?_⟩
  ·intro y0 y1 y2 y3 y4 y5 y6 y7;unfold Qq.f;repeat' first
   |(with_reducible exact ih1 _ _ _ _ _ _ _ _ _)
   |(with_reducible refine LeO.ite ?_ ?_)
  ·intro y0 y1 y2 y3 y4 y5 y6 y7 y8;unfold Qq.j0;repeat' first
   |(with_reducible exact ih2 _ _ _ _ _ _ _ _ _)
   |(with_reducible exact LeO.refl _)
   |(with_reducible refine LeO.ite ?_ ?_)
  ·intro y0 y1 y2 y3 y4 y5 y6 y7 y8;unfold Qq.l0;repeat' first
   |(with_reducible exact ih0 _ _ _ _ _ _ _ _)
   |(with_reducible exact ih2 _ _ _ _ _ _ _ _ _)
   |(with_reducible exact LeO.refl _)
   |(with_reducible refine LeO.ite ?_ ?_)
   |(with_reducible refine LeO.bind ?_ (fun _=>?_))
theorem Qq.mono:∀a0 a1 a2 a3 a4 a5 a6 a7 k,LeO (Qq.f k a0 a1 a2 a3 a4 a5 a6 a7) (Qq.f (k+1) a0 a1 a2 a3 a4 a5 a6 a7):=by
 intro a0 a1 a2 a3 a4 a5 a6 a7 k;obtain⟨ih0,ih1,ih2⟩ :=Qq.mono_l k;exact ih0 a0 a1 a2 a3 a4 a5 a6 a7
def Qq.T6:Bool×List (List Nat×List Nat):=(true,[([],[]),([0],[0]),([],[]),([1,2],[1,2]),([3],[3]),([],[]),([5],[5]),([],[]),([6,7],[6,7]),([8],[8]),([4,9],[4,9]),([10],[10])])
def Qq.B6:List Nat:=[0,1,0,7,15,0,32,0,224,480,1023,2047]
theorem Qq.tab6:V8 .any (opsOf Tryd.f20 6)=Qq.T6:=by kernel_rfl
theorem Qq.bits6:Vx Qq.T6.2 Qq.B6=true:=by kernel_rfl
end Go.Proofs.YtglmdfddgmkmaaaDoor.Q
end

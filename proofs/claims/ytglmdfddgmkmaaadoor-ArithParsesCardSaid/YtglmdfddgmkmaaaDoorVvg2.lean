/- What the claim needs, part 3 of 6. -/
import Derived.Test.YtglmdfddgmkmaaaDoorVvg1
section
namespace Go.Proofs.YtglmdfddgmkmaaaDoor.Q
open Go.RowKit Go.Proofs.YtglmdfddgmkmaaaDoorW.PrintWords Go.Proofs.YtglmdfddgmkmaaaDoorW.PrintLast Go.Proofs.YtglmdfddgmkmaaaDoorW.PrintMore
set_option linter.unusedVariables false
theorem Ww.mono [Vj]:∀a0 a1 a2 a3 k,LeO (Ww.f k a0 a1 a2 a3) (Ww.f (k+1) a0 a1 a2 a3):=Vj.mono
theorem Ww.calls [Vj] (k:Nat) (g:Nat) (s0_0:ByteArray) (s0_1:Int) (s0_2:Int) (s0_3:Int) (r1:Int) (r2:Int) (r3:ByteArray) (r4:List (S26)) (r5:ByteArray) (r6:Int) (r7:Int) (r8:Int) (w0 w:World) (hI:Qw w0 w g s0_0 s0_1 s0_2 s0_3) (hB:Below w0.heap.size w0 w) (h:Ww.f k s0_0 s0_1 s0_2 s0_3=some (r1,r2,r3,r4,r5,r6,r7,r8)):
 Calls Tryd.prog 78 #[.pointer (some ⟨g,0,none⟩)] w fun e w'=>∃v3_:Value,e=.returned (.agg #[.int .i64 r1,.int .i64 r2,.string r3,v3_])∧Kd.N k26 26 w' w.heap.size (fun k_=>(w.heap.size≤k_)) v3_ r4∧Qw w0 w' g r5 r6 r7 r8∧Below w0.heap.size w0 w'∧Qe w w' g none:=Vj.calls k g s0_0 s0_1 s0_2 s0_3 r1 r2 r3 r4 r5 r6 r7 r8 w0 w hI hB h
class Y0 where
 f:Nat→ByteArray→Int→Int→Int→Option (Int×Int×ByteArray×(List (S26))×ByteArray×Int×Int×Int)
 mono:∀a0 a1 a2 a3 k,LeO (f k a0 a1 a2 a3) (f (k+1) a0 a1 a2 a3)
 calls:∀(k:Nat) (g:Nat) (s0_0:ByteArray) (s0_1:Int) (s0_2:Int) (s0_3:Int) (r1:Int) (r2:Int) (r3:ByteArray) (r4:List (S26)) (r5:ByteArray) (r6:Int) (r7:Int) (r8:Int) (w0 w:World) (hI:Qw w0 w g s0_0 s0_1 s0_2 s0_3) (hB:Below w0.heap.size w0 w) (h:f k s0_0 s0_1 s0_2 s0_3=some (r1,r2,r3,r4,r5,r6,r7,r8)),
  Calls Tryd.prog 47 #[.pointer (some ⟨g,0,none⟩)] w fun e w'=>∃v3_:Value,e=.returned (.agg #[.int .i64 r1,.int .i64 r2,.string r3,v3_])∧Kd.N k26 26 w' w.heap.size (fun k_=>(w.heap.size≤k_)) v3_ r4∧Qw w0 w' g r5 r6 r7 r8∧Below w0.heap.size w0 w'∧Qe w w' g none
def V1.f [Y0] (k:Nat) (a0:ByteArray) (a1 a2 a3:Int):Option (Int×Int×ByteArray×(List (S26))×ByteArray×Int×Int×Int):=Y0.f k a0 a1 a2 a3
theorem V1.mono [Y0]:∀a0 a1 a2 a3 k,LeO (V1.f k a0 a1 a2 a3) (V1.f (k+1) a0 a1 a2 a3):=Y0.mono
theorem V1.calls [Y0] (k:Nat) (g:Nat) (s0_0:ByteArray) (s0_1:Int) (s0_2:Int) (s0_3:Int) (r1:Int) (r2:Int) (r3:ByteArray) (r4:List (S26)) (r5:ByteArray) (r6:Int) (r7:Int) (r8:Int) (w0 w:World) (hI:Qw w0 w g s0_0 s0_1 s0_2 s0_3) (hB:Below w0.heap.size w0 w) (h:V1.f k s0_0 s0_1 s0_2 s0_3=some (r1,r2,r3,r4,r5,r6,r7,r8)):
 Calls Tryd.prog 47 #[.pointer (some ⟨g,0,none⟩)] w fun e w'=>∃v3_:Value,e=.returned (.agg #[.int .i64 r1,.int .i64 r2,.string r3,v3_])∧Kd.N k26 26 w' w.heap.size (fun k_=>(w.heap.size≤k_)) v3_ r4∧Qw w0 w' g r5 r6 r7 r8∧Below w0.heap.size w0 w'∧Qe w w' g none:=Y0.calls k g s0_0 s0_1 s0_2 s0_3 r1 r2 r3 r4 r5 r6 r7 r8 w0 w hI hB h
end Go.Proofs.YtglmdfddgmkmaaaDoor.Q
end
section
namespace Go.Proofs.YtglmdfddgmkmaaaDoor.Q
open Go.RowKit Go.Proofs.YtglmdfddgmkmaaaDoorW.PrintWords Go.Proofs.YtglmdfddgmkmaaaDoorW.PrintLast Go.Proofs.YtglmdfddgmkmaaaDoorW.PrintMore
attribute [local go_sem] Z0 Z2 Yd Ye Zq Zr Z1 Z3
set_option linter.unusedVariables false
set_option linter.unusedSimpArgs false
def Zv.f:Option (List ByteArray):=some (([(⟨#[60,60,61]⟩ :ByteArray),(⟨#[62,62,61]⟩ :ByteArray),(⟨#[60,60]⟩ :ByteArray),(⟨#[62,62]⟩ :ByteArray),(⟨#[60,61]⟩ :ByteArray),(⟨#[62,61]⟩ :ByteArray),(⟨#[61,61]⟩ :ByteArray),(⟨#[33,61]⟩ :ByteArray),(⟨#[38,38]⟩ :ByteArray),(⟨#[124,124]⟩ :ByteArray),(⟨#[43,61]⟩ :ByteArray),(⟨#[45,61]⟩ :ByteArray),(⟨#[42,61]⟩ :ByteArray),(⟨#[47,61]⟩ :ByteArray),(⟨#[37,61]⟩ :ByteArray),(⟨#[38,61]⟩ :ByteArray),(⟨#[94,61]⟩ :ByteArray),(⟨#[124,61]⟩ :ByteArray),(⟨#[43]⟩ :ByteArray),(⟨#[45]⟩ :ByteArray),(⟨#[42]⟩ :ByteArray),(⟨#[47]⟩ :ByteArray),(⟨#[37]⟩ :ByteArray),(⟨#[60]⟩ :ByteArray),(⟨#[62]⟩ :ByteArray),(⟨#[38]⟩ :ByteArray),(⟨#[94]⟩ :ByteArray),(⟨#[124]⟩ :ByteArray),(⟨#[33]⟩ :ByteArray),(⟨#[126]⟩ :ByteArray),(⟨#[63]⟩ :ByteArray),(⟨#[58]⟩ :ByteArray),(⟨#[40]⟩ :ByteArray),(⟨#[41]⟩ :ByteArray),(⟨#[61]⟩ :ByteArray)]:List ByteArray))
set_option maxHeartbeats 8000000 in
set_option maxRecDepth 100000 in
theorem Zv.calls  (r:List ByteArray) (w:World) (h:Zv.f=some r):
 Calls Tryd.prog 109 #[] w fun e w'=>∃v0_:Value,e=.returned (v0_)∧Kd.R Kd.string 9 w' w.heap.size (fun _=>True) v0_ r∧Below w.heap.size w w':=by
 have HB:=Qa.mk (Below.refl w.heap.size w);have H:(some (([(⟨#[60,60,61]⟩ :ByteArray),(⟨#[62,62,61]⟩ :ByteArray),(⟨#[60,60]⟩ :ByteArray),(⟨#[62,62]⟩ :ByteArray),(⟨#[60,61]⟩ :ByteArray),(⟨#[62,61]⟩ :ByteArray),(⟨#[61,61]⟩ :ByteArray),(⟨#[33,61]⟩ :ByteArray),(⟨#[38,38]⟩ :ByteArray),(⟨#[124,124]⟩ :ByteArray),(⟨#[43,61]⟩ :ByteArray),(⟨#[45,61]⟩ :ByteArray),(⟨#[42,61]⟩ :ByteArray),(⟨#[47,61]⟩ :ByteArray),(⟨#[37,61]⟩ :ByteArray),(⟨#[38,61]⟩ :ByteArray),(⟨#[94,61]⟩ :ByteArray),(⟨#[124,61]⟩ :ByteArray),(⟨#[43]⟩ :ByteArray),(⟨#[45]⟩ :ByteArray),(⟨#[42]⟩ :ByteArray),(⟨#[47]⟩ :ByteArray),(⟨#[37]⟩ :ByteArray),(⟨#[60]⟩ :ByteArray),(⟨#[62]⟩ :ByteArray),(⟨#[38]⟩ :ByteArray),(⟨#[94]⟩ :ByteArray),(⟨#[124]⟩ :ByteArray),(⟨#[33]⟩ :ByteArray),(⟨#[126]⟩ :ByteArray),(⟨#[63]⟩ :ByteArray),(⟨#[58]⟩ :ByteArray),(⟨#[40]⟩ :ByteArray),(⟨#[41]⟩ :ByteArray),(⟨#[61]⟩ :ByteArray)]:List ByteArray)))=some r:=h;clear h;obtain⟨y141,hy141⟩ :∃y_:List ByteArray,y_=(([(⟨#[60,60,61]⟩ :ByteArray),(⟨#[62,62,61]⟩ :ByteArray),(⟨#[60,60]⟩ :ByteArray),(⟨#[62,62]⟩ :ByteArray),(⟨#[60,61]⟩ :ByteArray),(⟨#[62,61]⟩ :ByteArray),(⟨#[61,61]⟩ :ByteArray),(⟨#[33,61]⟩ :ByteArray),(⟨#[38,38]⟩ :ByteArray),(⟨#[124,124]⟩ :ByteArray),(⟨#[43,61]⟩ :ByteArray),(⟨#[45,61]⟩ :ByteArray),(⟨#[42,61]⟩ :ByteArray),(⟨#[47,61]⟩ :ByteArray),(⟨#[37,61]⟩ :ByteArray),(⟨#[38,61]⟩ :ByteArray),(⟨#[94,61]⟩ :ByteArray),(⟨#[124,61]⟩ :ByteArray),(⟨#[43]⟩ :ByteArray),(⟨#[45]⟩ :ByteArray),(⟨#[42]⟩ :ByteArray),(⟨#[47]⟩ :ByteArray),(⟨#[37]⟩ :ByteArray),(⟨#[60]⟩ :ByteArray),(⟨#[62]⟩ :ByteArray),(⟨#[38]⟩ :ByteArray),(⟨#[94]⟩ :ByteArray),(⟨#[124]⟩ :ByteArray),(⟨#[33]⟩ :ByteArray),(⟨#[126]⟩ :ByteArray),(⟨#[63]⟩ :ByteArray),(⟨#[58]⟩ :ByteArray),(⟨#[40]⟩ :ByteArray),(⟨#[41]⟩ :ByteArray),(⟨#[61]⟩ :ByteArray)]:List ByteArray)):=⟨_,rfl⟩;replace H:(some y141)=some r:=by(rw [hy141];with_reducible exact H)
 have Ny141:=Qa.mk hy141;clear hy141;obtain rfl:=Option.some.inj H;go_enter Tryd.func109,Tryd.ntmps109;go_wp2_with(((with_reducible refine Q0 (N:=1) rfl ?_);refine Kd.R_lit Kd.string _ 9 ?hg (N:=1) ?hd (xs:=([(⟨#[60,60,61]⟩ :ByteArray),(⟨#[62,62,61]⟩ :ByteArray),(⟨#[60,60]⟩ :ByteArray),(⟨#[62,62]⟩ :ByteArray),(⟨#[60,61]⟩ :ByteArray),(⟨#[62,61]⟩ :ByteArray),(⟨#[61,61]⟩ :ByteArray),(⟨#[33,61]⟩ :ByteArray),(⟨#[38,38]⟩ :ByteArray),(⟨#[124,124]⟩ :ByteArray),(⟨#[43,61]⟩ :ByteArray),(⟨#[45,61]⟩ :ByteArray),(⟨#[42,61]⟩ :ByteArray),(⟨#[47,61]⟩ :ByteArray),(⟨#[37,61]⟩ :ByteArray),(⟨#[38,61]⟩ :ByteArray),(⟨#[94,61]⟩ :ByteArray),(⟨#[124,61]⟩ :ByteArray),(⟨#[43]⟩ :ByteArray),(⟨#[45]⟩ :ByteArray),(⟨#[42]⟩ :ByteArray),(⟨#[47]⟩ :ByteArray),(⟨#[37]⟩ :ByteArray),(⟨#[60]⟩ :ByteArray),(⟨#[62]⟩ :ByteArray),(⟨#[38]⟩ :ByteArray),(⟨#[94]⟩ :ByteArray),(⟨#[124]⟩ :ByteArray),(⟨#[33]⟩ :ByteArray),(⟨#[126]⟩ :ByteArray),(⟨#[63]⟩ :ByteArray),(⟨#[58]⟩ :ByteArray),(⟨#[40]⟩ :ByteArray),(⟨#[41]⟩ :ByteArray),(⟨#[61]⟩ :ByteArray)]:List ByteArray)) (inner:=[.string (⟨#[60,60,61]⟩ :ByteArray),.string (⟨#[62,62,61]⟩ :ByteArray),.string (⟨#[60,60]⟩ :ByteArray),.string (⟨#[62,62]⟩ :ByteArray),.string (⟨#[60,61]⟩ :ByteArray),.string (⟨#[62,61]⟩ :ByteArray),.string (⟨#[61,61]⟩ :ByteArray),.string (⟨#[33,61]⟩ :ByteArray),.string (⟨#[38,38]⟩ :ByteArray),.string (⟨#[124,124]⟩ :ByteArray),.string (⟨#[43,61]⟩ :ByteArray),.string (⟨#[45,61]⟩ :ByteArray),.string (⟨#[42,61]⟩ :ByteArray),.string (⟨#[47,61]⟩ :ByteArray),.string (⟨#[37,61]⟩ :ByteArray),.string (⟨#[38,61]⟩ :ByteArray),.string (⟨#[94,61]⟩ :ByteArray),.string (⟨#[124,61]⟩ :ByteArray),.string (⟨#[43]⟩ :ByteArray),.string (⟨#[45]⟩ :ByteArray),.string (⟨#[42]⟩ :ByteArray),.string (⟨#[47]⟩ :ByteArray),.string (⟨#[37]⟩ :ByteArray),.string (⟨#[60]⟩ :ByteArray),.string (⟨#[62]⟩ :ByteArray),.string (⟨#[38]⟩ :ByteArray),.string (⟨#[94]⟩ :ByteArray),.string (⟨#[124]⟩ :ByteArray),.string (⟨#[33]⟩ :ByteArray),.string (⟨#[126]⟩ :ByteArray),.string (⟨#[63]⟩ :ByteArray),.string (⟨#[58]⟩ :ByteArray),.string (⟨#[40]⟩ :ByteArray),.string (⟨#[41]⟩ :ByteArray),.string (⟨#[61]⟩ :ByteArray)]) (ok:=fun _=>True) (okp:=fun _=>True) ?hr ?hp (fun _ hk=>hk) trivial (Below.refl _ _) (Nat.le_refl _) (by simp) ?_;(case hd=>rfl);(case hg=>rfl);(case hr=>(go_simp;done));(case hp=>exact(Xp.one (show Kd.M Kd.string _ _ _ (⟨#[60,60,61]⟩ :ByteArray) [.string (⟨#[60,60,61]⟩ :ByteArray)] from rfl) (Xp.one (show Kd.M Kd.string _ _ _ (⟨#[62,62,61]⟩ :ByteArray) [.string (⟨#[62,62,61]⟩ :ByteArray)] from rfl) (Xp.one (show Kd.M Kd.string _ _ _ (⟨#[60,60]⟩ :ByteArray) [.string (⟨#[60,60]⟩ :ByteArray)] from rfl) (Xp.one (show Kd.M Kd.string _ _ _ (⟨#[62,62]⟩ :ByteArray) [.string (⟨#[62,62]⟩ :ByteArray)] from rfl) (Xp.one (show Kd.M Kd.string _ _ _ (⟨#[60,61]⟩ :ByteArray) [.string (⟨#[60,61]⟩ :ByteArray)] from rfl) (Xp.one (show Kd.M Kd.string _ _ _ (⟨#[62,61]⟩ :ByteArray) [.string (⟨#[62,61]⟩ :ByteArray)] from rfl) (Xp.one (show Kd.M Kd.string _ _ _ (⟨#[61,61]⟩ :ByteArray) [.string (⟨#[61,61]⟩ :ByteArray)] from rfl) (Xp.one (show Kd.M Kd.string _ _ _ (⟨#[33,61]⟩ :ByteArray) [.string (⟨#[33,61]⟩ :ByteArray)] from rfl) (Xp.one (show Kd.M Kd.string _ _ _ (⟨#[38,38]⟩ :ByteArray) [.string (⟨#[38,38]⟩ :ByteArray)] from rfl) (Xp.one (show Kd.M Kd.string _ _ _ (⟨#[124,124]⟩ :ByteArray) [.string (⟨#[124,124]⟩ :ByteArray)] from rfl) (Xp.one (show Kd.M Kd.string _ _ _ (⟨#[43,61]⟩ :ByteArray) [.string (⟨#[43,61]⟩ :ByteArray)] from rfl) (Xp.one (show Kd.M Kd.string _ _ _ (⟨#[45,61]⟩ :ByteArray) [.string (⟨#[45,61]⟩ :ByteArray)] from rfl) (Xp.one (show Kd.M Kd.string _ _ _ (⟨#[42,61]⟩ :ByteArray) [.string (⟨#[42,61]⟩ :ByteArray)] from rfl) (Xp.one (show Kd.M Kd.string _ _ _ (⟨#[47,61]⟩ :ByteArray) [.string (⟨#[47,61]⟩ :ByteArray)] from rfl) (Xp.one (show Kd.M Kd.string _ _ _ (⟨#[37,61]⟩ :ByteArray) [.string (⟨#[37,61]⟩ :ByteArray)] from rfl) (Xp.one (show Kd.M Kd.string _ _ _ (⟨#[38,61]⟩ :ByteArray) [.string (⟨#[38,61]⟩ :ByteArray)] from rfl) (Xp.one (show Kd.M Kd.string _ _ _ (⟨#[94,61]⟩ :ByteArray) [.string (⟨#[94,61]⟩ :ByteArray)] from rfl) (Xp.one (show Kd.M Kd.string _ _ _ (⟨#[124,61]⟩ :ByteArray) [.string (⟨#[124,61]⟩ :ByteArray)] from rfl) (Xp.one (show Kd.M Kd.string _ _ _ (⟨#[43]⟩ :ByteArray) [.string (⟨#[43]⟩ :ByteArray)] from rfl) (Xp.one (show Kd.M Kd.string _ _ _ (⟨#[45]⟩ :ByteArray) [.string (⟨#[45]⟩ :ByteArray)] from rfl) (Xp.one (show Kd.M Kd.string _ _ _ (⟨#[42]⟩ :ByteArray) [.string (⟨#[42]⟩ :ByteArray)] from rfl) (Xp.one (show Kd.M Kd.string _ _ _ (⟨#[47]⟩ :ByteArray) [.string (⟨#[47]⟩ :ByteArray)] from rfl) (Xp.one (show Kd.M Kd.string _ _ _ (⟨#[37]⟩ :ByteArray) [.string (⟨#[37]⟩ :ByteArray)] from rfl) (Xp.one (show Kd.M Kd.string _ _ _ (⟨#[60]⟩ :ByteArray) [.string (⟨#[60]⟩ :ByteArray)] from rfl) (Xp.one (show Kd.M Kd.string _ _ _ (⟨#[62]⟩ :ByteArray) [.string (⟨#[62]⟩ :ByteArray)] from rfl) (Xp.one (show Kd.M Kd.string _ _ _ (⟨#[38]⟩ :ByteArray) [.string (⟨#[38]⟩ :ByteArray)] from rfl) (Xp.one (show Kd.M Kd.string _ _ _ (⟨#[94]⟩ :ByteArray) [.string (⟨#[94]⟩ :ByteArray)] from rfl) (Xp.one (show Kd.M Kd.string _ _ _ (⟨#[124]⟩ :ByteArray) [.string (⟨#[124]⟩ :ByteArray)] from rfl) (Xp.one (show Kd.M Kd.string _ _ _ (⟨#[33]⟩ :ByteArray) [.string (⟨#[33]⟩ :ByteArray)] from rfl) (Xp.one (show Kd.M Kd.string _ _ _ (⟨#[126]⟩ :ByteArray) [.string (⟨#[126]⟩ :ByteArray)] from rfl) (Xp.one (show Kd.M Kd.string _ _ _ (⟨#[63]⟩ :ByteArray) [.string (⟨#[63]⟩ :ByteArray)] from rfl) (Xp.one (show Kd.M Kd.string _ _ _ (⟨#[58]⟩ :ByteArray) [.string (⟨#[58]⟩ :ByteArray)] from rfl) (Xp.one (show Kd.M Kd.string _ _ _ (⟨#[40]⟩ :ByteArray) [.string (⟨#[40]⟩ :ByteArray)] from rfl) (Xp.one (show Kd.M Kd.string _ _ _ (⟨#[41]⟩ :ByteArray) [.string (⟨#[41]⟩ :ByteArray)] from rfl) (Xp.one (show Kd.M Kd.string _ _ _ (⟨#[61]⟩ :ByteArray) [.string (⟨#[61]⟩ :ByteArray)] from rfl) (Xp.none _ _)))))))))))))))))))))))))))))))))))));intro v142 w1 ho2 hb hg_ hnew_;clear hg_ hnew_;(rw [←Ny141.out] at ho2);have HO143:=Qa.mk (Kd.R_lower ho2 (X4 HB.out));replace HB:=Qa.mk (Qr HB.out hb);clear hb ho2))
 go_ret
 exact⟨_,by rfl,HO143.out,HB.out⟩
def Qi.l0:Nat→List ByteArray→Int→ByteArray→Int→Int→Int→Option (ByteArray×ByteArray×Int×Int×Int)
 |0,_,_,_,_,_,_=>none
 |k+1,x3,x4,x1000,x1001,x1002,x1003=>if x4 < (x3.length:Int) then(if 0≤x4 then(if((Vd ByteArray.empty x3 x4).size:Int)≤(wrap64 ((x1000.size:Int) - x1001)) then(if 0≤x1001 then(if x1001≤(wrap64 (x1001+((Vd ByteArray.empty x3 x4).size:Int))) then(if(wrap64 (x1001+((Vd ByteArray.empty x3 x4).size:Int)))≤(x1000.size:Int) then(if(x1000.extract (x1001:Int).toNat ((wrap64 (x1001+((Vd ByteArray.empty x3 x4).size:Int))):Int).toNat).toList=(Vd ByteArray.empty x3 x4).toList then(some (Vd ByteArray.empty x3 x4,x1000,x1001,x1002,x1003)) else(Qi.l0 k x3 (wrap64 (x4+1)) x1000 x1001 x1002 x1003)) else(none)) else(none)) else(none)) else(Qi.l0 k x3 (wrap64 (x4+1)) x1000 x1001 x1002 x1003)) else(none)) else(some ((⟨#[]⟩ :ByteArray),x1000,x1001,x1002,x1003))
def Qi.f (k:Nat) (s0_0:ByteArray) (s0_1:Int) (s0_2:Int) (s0_3:Int):Option (ByteArray×ByteArray×Int×Int×Int):=(Qf.f k s0_0 s0_1 s0_2 s0_3).bind fun bt144=>((Zv.f).bind fun t148=>(Qi.l0 k t148 0 bt144.1 bt144.2.1 bt144.2.2.1 bt144.2.2.2))
theorem Qi.mono_l:∀k,(∀y0 y1 y2 y3 y4 y5,LeO (Qi.l0 k y0 y1 y2 y3 y4 y5) (Qi.l0 (k+1) y0 y1 y2 y3 y4 y5))
 |0=>fun _ _ _ _ _ _ r h=>by simp [Qi.l0] at h
 |k+1=>by
  have ih0:=Qi.mono_l k
  ·intro y0 y1 y2 y3 y4 y5;unfold Qi.l0;repeat' first
   |(with_reducible exact ih0 _ _ _ _ _ _)
   |(with_reducible exact LeO.refl _)
   |(with_reducible refine LeO.ite ?_ ?_)
theorem Qi.mono:∀a0 a1 a2 a3 k,LeO (Qi.f k a0 a1 a2 a3) (Qi.f (k+1) a0 a1 a2 a3):=by
 intro a0 a1 a2 a3 k;have ih0:=Qi.mono_l k;unfold Qi.f
 repeat' first
  |(with_reducible exact ih0 _ _ _ _ _ _)
  |(with_reducible exact Qf.mono _ _ _ _ _)
  |(with_reducible exact LeO.refl _)
  |(with_reducible refine LeO.bind ?_ (fun _=>?_))
set_option maxHeartbeats 8000000 in
set_option maxRecDepth 100000 in
theorem Qi.calls (k:Nat) (g:Nat) (s0_0:ByteArray) (s0_1:Int) (s0_2:Int) (s0_3:Int) (r1:ByteArray) (r2:ByteArray) (r3:Int) (r4:Int) (r5:Int) (w0 w:World) (hI:Qw w0 w g s0_0 s0_1 s0_2 s0_3) (hB:Below w0.heap.size w0 w) (h:Qi.f k s0_0 s0_1 s0_2 s0_3=some (r1,r2,r3,r4,r5)):
 Calls Tryd.prog 75 #[.pointer (some ⟨g,0,none⟩)] w fun e w'=>e=.returned (.string r1)∧Qw w0 w' g r2 r3 r4 r5∧Below w0.heap.size w0 w'∧Qe w w' g none:=by
 have HI0:=Qa.mk hI;have HK:=Qa.mk (Qe.refl w g none);clear hI;have HB:=Qa.mk hB;clear hB;have H:((Qf.f k s0_0 s0_1 s0_2 s0_3).bind fun bt144=>((Zv.f).bind fun t148=>(Qi.l0 k t148 0 bt144.1 bt144.2.1 bt144.2.2.1 bt144.2.2.2)))=some (r1,r2,r3,r4,r5):=h
 clear h;replace H:=Option.bind_eq_some_iff.mp H;obtain⟨⟨t144,t145,t146,t147⟩,A20,H⟩ :=H;try dsimp only at H
 have A2:=Qa.mk A20;clear A20;replace H:=Option.bind_eq_some_iff.mp H;obtain⟨t148,A30,H⟩ :=H;try dsimp only at H
 have A3:=Qa.mk A30;clear A30;have H':=Qa.mk H;clear H;go_enter Tryd.func75,Tryd.ntmps75;go_wp2_with(first|(go_at_call 46;(with_reducible refine(Qf.calls k g s0_0 s0_1 s0_2 s0_3 t144 t145 t146 t147 w0 _ HI0.out HB.out A2.out).mono ?_);rintro e w4 ⟨rfl,hi,hb,hk⟩;replace HK:=Qa.mk (Qe.trans HK.out hk (.inl rfl));replace HB:=Qa.mk hb;replace HI0:=Qa.mk hi;(try clear hb);(try clear hk);(try clear hi))|(go_at_call 109;(with_reducible refine(Zv.calls  t148 _ A3.out).mono ?_);rintro e w5 ⟨v149,rfl,ho0,hb⟩;have HO150:=Qa.mk (Kd.R_lower ho0 (Q8 (w:=w) (g:=g) (row:=none) HK.out));replace HI0:=Qa.mk (Qw.below HI0.out hb);replace HK:=Qa.mk (Qe.trans HK.out (Qe.of_below hb g none) (.inl rfl));replace HB:=Qa.mk (Qr HB.out hb);(try clear hb);(try clear ho0)))
 go_loopg [4] k (fun kq v4 w'=>∃(x4_1:Int),v4=.int .i64 x4_1∧Qa (Qi.l0 kq t148 x4_1 t144 t145 t146 t147=some (r1,r2,r3,r4,r5))∧Qa (kq≤k)∧Qa (Kd.R Kd.string 9 w' w.heap.size (fun _=>True) v149 t148)∧Qa (Qw w0 w' g t144 t145 t146 t147)∧Qa (Qe w w' g none)∧Qa (Below w0.heap.size w0 w'))
 case atStart=>exact⟨0,(by rfl),H',⟨Nat.le_refl _⟩,⟨HO150.out⟩,⟨HI0.out⟩,⟨HK.out⟩,⟨HB.out⟩⟩
 case round=>
  clear H';obtain⟨x4_1,rfl,HA,HK1,HO_3,HI0,HK,HB⟩ :=hrel
  cases gk with
  |zero=>exact absurd HA.out (by simp [Qi.l0])
  |succ k1=>
   have H:=HA.out;clear HA;simp only [Qi.l0] at H;by_cases c6:x4_1 < (t148.length:Int)
   rotate_left
   ·rw [if_neg c6] at H;have c6b0:decide (x4_1 < (t148.length:Int))=false:=decide_eq_false c6;clear c6;simp only [Option.some.injEq,Prod.mk.injEq] at H;obtain⟨rfl,rfl,rfl,rfl,rfl⟩ :=H;obtain⟨Ao19,co19,eo19⟩ :=Kd.R_slice HO_3.out;subst eo19;go_wp2;go_ret;exact⟨by rfl,HI0.out,HB.out,HK.out⟩
   rw [if_pos c6] at H;have c6b0:decide (x4_1 < (t148.length:Int))=true:=decide_eq_true c6;clear c6;by_cases c7:0≤x4_1
   rotate_left
   ·rw [if_neg c7] at H;exact absurd H (by simp)
   rw [if_pos c7] at H;have c7b0:decide (0≤x4_1)=true:=decide_eq_true c7;clear c7;by_cases c8:((Vd ByteArray.empty t148 x4_1).size:Int)≤(wrap64 ((t144.size:Int) - t145))
   rotate_left
   ·rw [if_neg c8] at H;have c8b0:decide (((Vd ByteArray.empty t148 x4_1).size:Int)≤(wrap64 ((t144.size:Int) - t145)))=false:=decide_eq_false c8;clear c8;have H':=Qa.mk H;clear H;obtain⟨Ao17,co17,eo17⟩ :=Kd.R_slice HO_3.out;subst eo17;have p151:0≤(x4_1:Int):=of_decide_eq_true (by(with_reducible assumption));have q151:x4_1 < (t148.length:Int):=of_decide_eq_true (by(with_reducible assumption));obtain⟨ad151,e151,hx151_0⟩ :=Kd.at_string (Kd.R_reads' HO_3.out).2.2 x4_1 p151 q151
    cases e151
    replace p151:=eq_true p151;replace q151:=eq_true q151;obtain⟨HGz18,hgz18⟩ :=HI0.out;have hcz18_0:=Yr HGz18;have hcz18_1:=Zi HGz18;clear HGz18 hgz18;go_wp2;repeat(go_quiet (fail);try go_wp2)
    go_roundg k1
    case measure=>have:=HK1.out;omega
    case rel=>exact⟨(wrap64 (x4_1+1)),(by rfl),H',⟨by have:=HK1.out;omega⟩,⟨by(with_reducible repeat(apply Kd.R_drewN));exact HO_3.out⟩,⟨by repeat(with_reducible first|exact HI0.out|apply Qw.drewN)⟩,⟨by repeat(with_reducible first|exact HK.out|apply X8)⟩,⟨by repeat(with_reducible first|exact HB.out|apply Q6)⟩⟩
   rw [if_pos c8] at H;have c8b0:decide (((Vd ByteArray.empty t148 x4_1).size:Int)≤(wrap64 ((t144.size:Int) - t145)))=true:=decide_eq_true c8;clear c8;by_cases c9:0≤t145
   rotate_left
   ·rw [if_neg c9] at H;exact absurd H (by simp)
   rw [if_pos c9] at H;have c9b0:=eq_true c9;clear c9;by_cases c10:t145≤(wrap64 (t145+((Vd ByteArray.empty t148 x4_1).size:Int)))
   rotate_left
   ·rw [if_neg c10] at H;exact absurd H (by simp)
   rw [if_pos c10] at H;by_cases c11:(wrap64 (t145+((Vd ByteArray.empty t148 x4_1).size:Int)))≤(t144.size:Int)
   rotate_left
   ·rw [if_neg c11] at H;exact absurd H (by simp)
   rw [if_pos c11] at H;by_cases c12:(t144.extract (t145:Int).toNat ((wrap64 (t145+((Vd ByteArray.empty t148 x4_1).size:Int))):Int).toNat).toList=(Vd ByteArray.empty t148 x4_1).toList
   rotate_left
   ·rw [if_neg c12] at H;have c12b0:((t144.extract (t145:Int).toNat ((wrap64 (t145+((Vd ByteArray.empty t148 x4_1).size:Int))):Int).toNat).toList==(Vd ByteArray.empty t148 x4_1).toList)=false:=beq_eq_false_iff_ne.mpr c12;have H':=Qa.mk H;clear H;obtain⟨Ao15,co15,eo15⟩ :=Kd.R_slice HO_3.out;subst eo15;have p151:0≤(x4_1:Int):=of_decide_eq_true (by(with_reducible assumption));have q151:x4_1 < (t148.length:Int):=of_decide_eq_true (by(with_reducible assumption));obtain⟨ad151,e151,hx151_0⟩ :=Kd.at_string (Kd.R_reads' HO_3.out).2.2 x4_1 p151 q151
    cases e151
    replace p151:=eq_true p151;replace q151:=eq_true q151;obtain⟨HGz16,hgz16⟩ :=HI0.out;have hcz16_0:=Yr HGz16;have hcz16_1:=Zi HGz16;clear HGz16 hgz16;have p152:0≤(x4_1:Int):=of_decide_eq_true (by(with_reducible assumption));have q152:x4_1 < (t148.length:Int):=of_decide_eq_true (by(with_reducible assumption));obtain⟨ad152,e152,hx152_0⟩ :=Kd.at_string (Kd.R_reads' HO_3.out).2.2 x4_1 p152 q152;obtain rfl:ad151=ad152:=(by injection e152);replace p152:=eq_true p152;replace q152:=eq_true q152;go_wp2;repeat(go_quiet (fail);try go_wp2)
    go_roundg k1
    case measure=>have:=HK1.out;omega
    case rel=>exact⟨(wrap64 (x4_1+1)),(by rfl),H',⟨by have:=HK1.out;omega⟩,⟨by(with_reducible repeat(apply Kd.R_drewN));exact HO_3.out⟩,⟨by repeat(with_reducible first|exact HI0.out|apply Qw.drewN)⟩,⟨by repeat(with_reducible first|exact HK.out|apply X8)⟩,⟨by repeat(with_reducible first|exact HB.out|apply Q6)⟩⟩
   rw [if_pos c12] at H;have c12b0:((t144.extract (t145:Int).toNat ((wrap64 (t145+((Vd ByteArray.empty t148 x4_1).size:Int))):Int).toNat).toList==(Vd ByteArray.empty t148 x4_1).toList)=true:=beq_iff_eq.mpr c12;clear c12;simp only [Option.some.injEq,Prod.mk.injEq] at H;obtain⟨rfl,rfl,rfl,rfl,rfl⟩ :=H;obtain⟨Ao13,co13,eo13⟩ :=Kd.R_slice HO_3.out;subst eo13;have p151:0≤(x4_1:Int):=of_decide_eq_true (by(with_reducible assumption));have q151:x4_1 < (t148.length:Int):=of_decide_eq_true (by(with_reducible assumption));obtain⟨ad151,e151,hx151_0⟩ :=Kd.at_string (Kd.R_reads' HO_3.out).2.2 x4_1 p151 q151
   cases e151
   replace p151:=eq_true p151;replace q151:=eq_true q151;obtain⟨HGz14,hgz14⟩ :=HI0.out;have hcz14_0:=Yr HGz14;have hcz14_1:=Zi HGz14;clear HGz14 hgz14;have p152:0≤(x4_1:Int):=of_decide_eq_true (by(with_reducible assumption));have q152:x4_1 < (t148.length:Int):=of_decide_eq_true (by(with_reducible assumption));obtain⟨ad152,e152,hx152_0⟩ :=Kd.at_string (Kd.R_reads' HO_3.out).2.2 x4_1 p152 q152;obtain rfl:ad151=ad152:=(by injection e152);replace p152:=eq_true p152;replace q152:=eq_true q152;have p153:0≤(x4_1:Int):=of_decide_eq_true (by(with_reducible assumption));have q153:x4_1 < (t148.length:Int):=of_decide_eq_true (by(with_reducible assumption));obtain⟨ad153,e153,hx153_0⟩ :=Kd.at_string (Kd.R_reads' HO_3.out).2.2 x4_1 p153 q153;obtain rfl:ad151=ad153:=(by injection e153);replace p153:=eq_true p153;replace q153:=eq_true q153;go_wp2;repeat(go_quiet (fail);try go_wp2)
   go_ret
   exact⟨by rfl,by repeat(with_reducible first|exact HI0.out|apply Qw.drewN),by repeat(with_reducible first|exact HB.out|apply Q6),by repeat(with_reducible first|exact HK.out|apply X8)⟩
def Qu.l0:Nat→ByteArray→List ByteArray→List Int→Int→Option (Int)
 |0,_,_,_,_=>none
 |k+1,x0,x3,x4,x5=>if x5 < (x3.length:Int) then(if 0≤x5 then(if(Vd ByteArray.empty x3 x5).toList=x0.toList then(if x5 < (x4.length:Int) then(some (rd x4 x5)) else(none)) else(Qu.l0 k x0 x3 x4 (wrap64 (x5+1)))) else(none)) else(some (-1))
def Qu.f (k:Nat) (a0:ByteArray):Option (Int):=Qu.l0 k a0 (([(⟨#[61]⟩ :ByteArray),(⟨#[43,61]⟩ :ByteArray),(⟨#[45,61]⟩ :ByteArray),(⟨#[42,61]⟩ :ByteArray),(⟨#[47,61]⟩ :ByteArray),(⟨#[37,61]⟩ :ByteArray),(⟨#[60,60,61]⟩ :ByteArray),(⟨#[62,62,61]⟩ :ByteArray),(⟨#[38,61]⟩ :ByteArray),(⟨#[94,61]⟩ :ByteArray),(⟨#[124,61]⟩ :ByteArray)]:List ByteArray)) (([0,10,11,7,8,9,12,13,20,21,22]:List Int)) 0
theorem Qu.mono_l:∀k,(∀y0 y1 y2 y3,LeO (Qu.l0 k y0 y1 y2 y3) (Qu.l0 (k+1) y0 y1 y2 y3))
 |0=>fun _ _ _ _ r h=>by simp [Qu.l0] at h
 |k+1=>by
  have ih0:=Qu.mono_l k
  ·intro y0 y1 y2 y3;unfold Qu.l0;repeat' first
   |(with_reducible exact ih0 _ _ _ _)
   |(with_reducible exact LeO.refl _)
   |(with_reducible refine LeO.ite ?_ ?_)
theorem Qu.mono:∀a0 k,LeO (Qu.f k a0) (Qu.f (k+1) a0):=by
 intro a0 k;have ih0:=Qu.mono_l k;unfold Qu.f;repeat' (with_reducible exact ih0 _ _ _ _)
set_option maxHeartbeats 8000000 in
set_option maxRecDepth 100000 in
theorem Qu.calls (k:Nat) (a0:ByteArray) (r:Int) (w:World) (h:Qu.f k a0=some r):
 Calls Tryd.prog 76 #[.string a0] w fun e w'=>e=.returned (.int .i64 r)∧Below w.heap.size w w':=by
 have HB:=Qa.mk (Below.refl w.heap.size w);have H:(Qu.l0 k a0 (([(⟨#[61]⟩ :ByteArray),(⟨#[43,61]⟩ :ByteArray),(⟨#[45,61]⟩ :ByteArray),(⟨#[42,61]⟩ :ByteArray),(⟨#[47,61]⟩ :ByteArray),(⟨#[37,61]⟩ :ByteArray),(⟨#[60,60,61]⟩ :ByteArray),(⟨#[62,62,61]⟩ :ByteArray),(⟨#[38,61]⟩ :ByteArray),(⟨#[94,61]⟩ :ByteArray),(⟨#[124,61]⟩ :ByteArray)]:List ByteArray)) (([0,10,11,7,8,9,12,13,20,21,22]:List Int)) 0)=some r:=h;clear h;obtain⟨y154,hy154⟩ :∃y_:List ByteArray,y_=(([(⟨#[61]⟩ :ByteArray),(⟨#[43,61]⟩ :ByteArray),(⟨#[45,61]⟩ :ByteArray),(⟨#[42,61]⟩ :ByteArray),(⟨#[47,61]⟩ :ByteArray),(⟨#[37,61]⟩ :ByteArray),(⟨#[60,60,61]⟩ :ByteArray),(⟨#[62,62,61]⟩ :ByteArray),(⟨#[38,61]⟩ :ByteArray),(⟨#[94,61]⟩ :ByteArray),(⟨#[124,61]⟩ :ByteArray)]:List ByteArray)):=⟨_,rfl⟩;replace H:(Qu.l0 k a0 y154 (([0,10,11,7,8,9,12,13,20,21,22]:List Int)) 0)=some r:=by(rw [hy154];with_reducible exact H)
 have Ny154:=Qa.mk hy154;clear hy154;obtain⟨y157,hy157⟩ :∃y_:List Int,y_=(([0,10,11,7,8,9,12,13,20,21,22]:List Int)):=⟨_,rfl⟩;replace H:(Qu.l0 k a0 y154 y157 0)=some r:=by(rw [hy157];with_reducible exact H)
 have Ny157:=Qa.mk hy157;clear hy157;have H':=Qa.mk H;clear H;go_enter Tryd.func76,Tryd.ntmps76;go_wp2_with(first|((with_reducible refine Q0 (N:=6) rfl ?_);refine Kd.R_lit Kd.string _ 9 ?hg (N:=6) ?hd (xs:=([(⟨#[61]⟩ :ByteArray),(⟨#[43,61]⟩ :ByteArray),(⟨#[45,61]⟩ :ByteArray),(⟨#[42,61]⟩ :ByteArray),(⟨#[47,61]⟩ :ByteArray),(⟨#[37,61]⟩ :ByteArray),(⟨#[60,60,61]⟩ :ByteArray),(⟨#[62,62,61]⟩ :ByteArray),(⟨#[38,61]⟩ :ByteArray),(⟨#[94,61]⟩ :ByteArray),(⟨#[124,61]⟩ :ByteArray)]:List ByteArray)) (inner:=[.string (⟨#[61]⟩ :ByteArray),.string (⟨#[43,61]⟩ :ByteArray),.string (⟨#[45,61]⟩ :ByteArray),.string (⟨#[42,61]⟩ :ByteArray),.string (⟨#[47,61]⟩ :ByteArray),.string (⟨#[37,61]⟩ :ByteArray),.string (⟨#[60,60,61]⟩ :ByteArray),.string (⟨#[62,62,61]⟩ :ByteArray),.string (⟨#[38,61]⟩ :ByteArray),.string (⟨#[94,61]⟩ :ByteArray),.string (⟨#[124,61]⟩ :ByteArray)]) (ok:=fun _=>True) (okp:=fun _=>True) ?hr ?hp (fun _ hk=>hk) trivial (Below.refl _ _) (Nat.le_refl _) (by simp) ?_;(case hd=>rfl);(case hg=>rfl);(case hr=>(go_simp;done));(case hp=>exact(Xp.one (show Kd.M Kd.string _ _ _ (⟨#[61]⟩ :ByteArray) [.string (⟨#[61]⟩ :ByteArray)] from rfl) (Xp.one (show Kd.M Kd.string _ _ _ (⟨#[43,61]⟩ :ByteArray) [.string (⟨#[43,61]⟩ :ByteArray)] from rfl) (Xp.one (show Kd.M Kd.string _ _ _ (⟨#[45,61]⟩ :ByteArray) [.string (⟨#[45,61]⟩ :ByteArray)] from rfl) (Xp.one (show Kd.M Kd.string _ _ _ (⟨#[42,61]⟩ :ByteArray) [.string (⟨#[42,61]⟩ :ByteArray)] from rfl) (Xp.one (show Kd.M Kd.string _ _ _ (⟨#[47,61]⟩ :ByteArray) [.string (⟨#[47,61]⟩ :ByteArray)] from rfl) (Xp.one (show Kd.M Kd.string _ _ _ (⟨#[37,61]⟩ :ByteArray) [.string (⟨#[37,61]⟩ :ByteArray)] from rfl) (Xp.one (show Kd.M Kd.string _ _ _ (⟨#[60,60,61]⟩ :ByteArray) [.string (⟨#[60,60,61]⟩ :ByteArray)] from rfl) (Xp.one (show Kd.M Kd.string _ _ _ (⟨#[62,62,61]⟩ :ByteArray) [.string (⟨#[62,62,61]⟩ :ByteArray)] from rfl) (Xp.one (show Kd.M Kd.string _ _ _ (⟨#[38,61]⟩ :ByteArray) [.string (⟨#[38,61]⟩ :ByteArray)] from rfl) (Xp.one (show Kd.M Kd.string _ _ _ (⟨#[94,61]⟩ :ByteArray) [.string (⟨#[94,61]⟩ :ByteArray)] from rfl) (Xp.one (show Kd.M Kd.string _ _ _ (⟨#[124,61]⟩ :ByteArray) [.string (⟨#[124,61]⟩ :ByteArray)] from rfl) (Xp.none _ _)))))))))))));intro v155 w2 ho3 hb hg_ hnew_;clear hg_ hnew_;(rw [←Ny154.out] at ho3);have HO156:=Qa.mk (Kd.R_lower ho3 (X4 HB.out));replace HB:=Qa.mk (Qr HB.out hb);clear hb ho3)|((with_reducible refine Q0 (N:=7) rfl ?_);refine Kd.R_lit (Kd.int .i64) _ 3 ?hg (N:=7) ?hd (xs:=([0,10,11,7,8,9,12,13,20,21,22]:List Int)) (inner:=[.int .i64 0,.int .i64 10,.int .i64 11,.int .i64 7,.int .i64 8,.int .i64 9,.int .i64 12,.int .i64 13,.int .i64 20,.int .i64 21,.int .i64 22]) (ok:=fun _=>True) (okp:=fun _=>True) ?hr ?hp (fun _ hk=>hk) trivial (Below.refl _ _) (Nat.le_refl _) (by simp) ?_;(case hd=>rfl);(case hg=>rfl);(case hr=>(go_simp;done));(case hp=>exact(Xp.one (show Kd.M (Kd.int .i64) _ _ _ 0 [.int .i64 0] from rfl) (Xp.one (show Kd.M (Kd.int .i64) _ _ _ 10 [.int .i64 10] from rfl) (Xp.one (show Kd.M (Kd.int .i64) _ _ _ 11 [.int .i64 11] from rfl) (Xp.one (show Kd.M (Kd.int .i64) _ _ _ 7 [.int .i64 7] from rfl) (Xp.one (show Kd.M (Kd.int .i64) _ _ _ 8 [.int .i64 8] from rfl) (Xp.one (show Kd.M (Kd.int .i64) _ _ _ 9 [.int .i64 9] from rfl) (Xp.one (show Kd.M (Kd.int .i64) _ _ _ 12 [.int .i64 12] from rfl) (Xp.one (show Kd.M (Kd.int .i64) _ _ _ 13 [.int .i64 13] from rfl) (Xp.one (show Kd.M (Kd.int .i64) _ _ _ 20 [.int .i64 20] from rfl) (Xp.one (show Kd.M (Kd.int .i64) _ _ _ 21 [.int .i64 21] from rfl) (Xp.one (show Kd.M (Kd.int .i64) _ _ _ 22 [.int .i64 22] from rfl) (Xp.none _ _)))))))))))));intro v158 w4 ho5 hb hg_ hnew_;clear hg_ hnew_;(rw [←Ny157.out] at ho5);replace HO156:=Qa.mk (Kd.R_below HO156.out hb);have HO159:=Qa.mk (Kd.R_lower ho5 (X4 HB.out));replace HB:=Qa.mk (Qr HB.out hb);clear hb ho5))
 go_loopg [5] k (fun kq v5 w'=>∃(x5_1:Int),v5=.int .i64 x5_1∧Qa (Qu.l0 kq a0 y154 y157 x5_1=some r)∧Qa (kq≤k)∧Qa (Kd.R Kd.string 9 w' w.heap.size (fun _=>True) v155 y154)∧Qa (Kd.R (Kd.int .i64) 3 w' w.heap.size (fun _=>True) v158 y157)∧Qa (Below w.heap.size w w'))
 case atStart=>exact⟨0,(by rfl),H',⟨Nat.le_refl _⟩,⟨HO156.out⟩,⟨HO159.out⟩,⟨HB.out⟩⟩
 case round=>
  clear H';obtain⟨x5_1,rfl,HA,HK1,HO_3,HO_4,HB⟩ :=hrel
  cases gk with
  |zero=>exact absurd HA.out (by simp [Qu.l0])
  |succ k1=>
   have H:=HA.out;clear HA;simp only [Qu.l0] at H;by_cases c6:x5_1 < (y154.length:Int)
   rotate_left
   ·rw [if_neg c6] at H;have c6b0:decide (x5_1 < (y154.length:Int))=false:=decide_eq_false c6;clear c6;obtain rfl:=Option.some.inj H;obtain⟨Ao13,co13,eo13⟩ :=Kd.R_slice HO_3.out;subst eo13;go_wp2;go_ret;exact⟨by rfl,HB.out⟩
   rw [if_pos c6] at H;have c6b0:decide (x5_1 < (y154.length:Int))=true:=decide_eq_true c6;clear c6;by_cases c7:0≤x5_1
   rotate_left
   ·rw [if_neg c7] at H;exact absurd H (by simp)
   rw [if_pos c7] at H;have c7b0:decide (0≤x5_1)=true:=decide_eq_true c7;clear c7;by_cases c8:(Vd ByteArray.empty y154 x5_1).toList=a0.toList
   rotate_left
   ·rw [if_neg c8] at H;have c8b0:((Vd ByteArray.empty y154 x5_1).toList==a0.toList)=false:=beq_eq_false_iff_ne.mpr c8;have H':=Qa.mk H;clear H;obtain⟨Ao12,co12,eo12⟩ :=Kd.R_slice HO_3.out;subst eo12;have p160:0≤(x5_1:Int):=of_decide_eq_true (by(with_reducible assumption));have q160:x5_1 < (y154.length:Int):=of_decide_eq_true (by(with_reducible assumption));obtain⟨ad160,e160,hx160_0⟩ :=Kd.at_string (Kd.R_reads' HO_3.out).2.2 x5_1 p160 q160
    cases e160
    replace p160:=eq_true p160;replace q160:=eq_true q160;go_wp2
    go_roundg k1
    case measure=>have:=HK1.out;omega
    case rel=>exact⟨(wrap64 (x5_1+1)),(by rfl),H',⟨by have:=HK1.out;omega⟩,⟨HO_3.out⟩,⟨HO_4.out⟩,⟨HB.out⟩⟩
   rw [if_pos c8] at H;have c8b0:((Vd ByteArray.empty y154 x5_1).toList==a0.toList)=true:=beq_iff_eq.mpr c8;clear c8;by_cases c9:x5_1 < (y157.length:Int)
   rotate_left
   ·rw [if_neg c9] at H;exact absurd H (by simp)
   rw [if_pos c9] at H;have c9b0:decide (x5_1 < (y157.length:Int))=true:=decide_eq_true c9;clear c9;obtain rfl:=Option.some.inj H;obtain⟨Ao10,co10,eo10⟩ :=Kd.R_slice HO_3.out;subst eo10;have p160:0≤(x5_1:Int):=of_decide_eq_true (by(with_reducible assumption));have q160:x5_1 < (y154.length:Int):=of_decide_eq_true (by(with_reducible assumption));obtain⟨ad160,e160,hx160_0⟩ :=Kd.at_string (Kd.R_reads' HO_3.out).2.2 x5_1 p160 q160
   cases e160
   replace p160:=eq_true p160;replace q160:=eq_true q160;obtain⟨Ao11,co11,eo11⟩ :=Kd.R_slice HO_4.out;subst eo11;have p161:0≤(x5_1:Int):=of_decide_eq_true (by(with_reducible assumption));have q161:x5_1 < (y157.length:Int):=of_decide_eq_true (by(with_reducible assumption));obtain⟨ad161,e161,hx161_0⟩ :=Kd.at_int (Kd.R_reads' HO_4.out).2.2 x5_1 p161 q161
   cases e161
   replace p161:=eq_true p161;replace q161:=eq_true q161;go_wp2;go_ret;exact⟨by rfl,HB.out⟩
def Za.f (a0:Int):Option (Bool):=if a0 ≥ 48 then(some (decide (a0≤57))) else(some false)
set_option maxHeartbeats 8000000 in
set_option maxRecDepth 100000 in
theorem Za.calls (a0:Int) (r:Bool) (w:World) (h:Za.f a0=some r):
 Calls Tryd.prog 110 #[.int .u8 a0] w fun e w'=>e=.returned (.bool r)∧Qk w w':=by
 have H:(if a0 ≥ 48 then(some (decide (a0≤57))) else(some false))=some r:=h;clear h;by_cases c2:a0 ≥ 48
 ·rw [if_pos c2] at H;have c2b0:decide (48≤a0)=true:=decide_eq_true c2;clear c2;obtain rfl:=Option.some.inj H;go_enter Tryd.func110,Tryd.ntmps110;go_wp2;go_ret;exact⟨by rfl,by repeat(exact Qk.refl _)⟩
 rw [if_neg c2] at H;have c2b0:decide (48≤a0)=false:=decide_eq_false c2;clear c2;obtain rfl:=Option.some.inj H;go_enter Tryd.func110,Tryd.ntmps110;go_wp2;go_ret;exact⟨by rfl,by repeat(exact Qk.refl _)⟩
def Zj.f (a0:Int):Option (Bool):=if a0 ≥ 97 then(if a0≤122 then(some true) else(if a0 ≥ 65 then(some (decide (a0≤90))) else(some false))) else(if a0 ≥ 65 then(some (decide (a0≤90))) else(some false))
set_option maxHeartbeats 8000000 in
set_option maxRecDepth 100000 in
theorem Zj.calls (a0:Int) (r:Bool) (w:World) (h:Zj.f a0=some r):
 Calls Tryd.prog 123 #[.int .u8 a0] w fun e w'=>e=.returned (.bool r)∧Qk w w':=by
 have H:(if a0 ≥ 97 then(if a0≤122 then(some true) else(if a0 ≥ 65 then(some (decide (a0≤90))) else(some false))) else(if a0 ≥ 65 then(some (decide (a0≤90))) else(some false)))=some r:=h;clear h;by_cases c2:a0 ≥ 97
 rotate_left
 ·rw [if_neg c2] at H;have c2b0:decide (97≤a0)=false:=decide_eq_false c2;clear c2;by_cases c5:a0 ≥ 65
  ·rw [if_pos c5] at H;have c5b0:decide (65≤a0)=true:=decide_eq_true c5;clear c5;obtain rfl:=Option.some.inj H;go_enter Tryd.func123,Tryd.ntmps123;go_wp2;go_ret;exact⟨by rfl,by repeat(exact Qk.refl _)⟩
  rw [if_neg c5] at H;have c5b0:decide (65≤a0)=false:=decide_eq_false c5;clear c5;obtain rfl:=Option.some.inj H;go_enter Tryd.func123,Tryd.ntmps123;go_wp2;go_ret;exact⟨by rfl,by repeat(exact Qk.refl _)⟩
 rw [if_pos c2] at H;have c2b0:decide (97≤a0)=true:=decide_eq_true c2;clear c2;by_cases c3:a0≤122
 ·rw [if_pos c3] at H;have c3b0:decide (a0≤122)=true:=decide_eq_true c3;clear c3;obtain rfl:=Option.some.inj H;go_enter Tryd.func123,Tryd.ntmps123;go_wp2;go_ret;exact⟨by rfl,by repeat(exact Qk.refl _)⟩
 rw [if_neg c3] at H;have c3b0:decide (a0≤122)=false:=decide_eq_false c3;clear c3;by_cases c4:a0 ≥ 65
 ·rw [if_pos c4] at H;have c4b0:decide (65≤a0)=true:=decide_eq_true c4;clear c4;obtain rfl:=Option.some.inj H;go_enter Tryd.func123,Tryd.ntmps123;go_wp2;go_ret;exact⟨by rfl,by repeat(exact Qk.refl _)⟩
 rw [if_neg c4] at H;have c4b0:decide (65≤a0)=false:=decide_eq_false c4;clear c4;obtain rfl:=Option.some.inj H;go_enter Tryd.func123,Tryd.ntmps123;go_wp2;go_ret;exact⟨by rfl,by repeat(exact Qk.refl _)⟩
def Z5.f (a0:Int):Option (Bool):=(Zj.f a0).bind fun t162=>(if t162=true then(some true) else((Za.f a0).bind fun t163=>(if t163=true then(some true) else(some (a0==95)))))
set_option maxHeartbeats 8000000 in
set_option maxRecDepth 100000 in
theorem Z5.calls (a0:Int) (r:Bool) (w:World) (h:Z5.f a0=some r):
 Calls Tryd.prog 111 #[.int .u8 a0] w fun e w'=>e=.returned (.bool r)∧Qk w w':=by
 have H:((Zj.f a0).bind fun t162=>(if t162=true then(some true) else((Za.f a0).bind fun t163=>(if t163=true then(some true) else(some (a0==95))))))=some r:=h
 clear h;replace H:=Option.bind_eq_some_iff.mp H;obtain⟨t162,A20,H⟩ :=H;try dsimp only at H
 have A2:=Qa.mk A20;clear A20;by_cases c3:t162=true
 ·subst c3;have H1:(some true)=some r:=by rw [if_pos rfl] at H;exact H
  clear H;have H:=H1;clear H1;obtain rfl:=Option.some.inj H;go_enter Tryd.func111,Tryd.ntmps111;go_wp2_with(((with_reducible refine Qp (f:=123) rfl ?_);refine Xh (some 4) rfl rfl Tryd.func123 (by kernel_rfl) rfl #[.int .u8 a0] rfl (by(try simp only [List.map_toArray,List.map_cons,List.map_nil]);rfl) ?_;(with_reducible refine(Zj.calls a0 true _ A2.out).mono ?_);rintro e w' ⟨rfl,⟨nd,rfl⟩⟩;refine⟨_,rfl,?_⟩));go_ret;exact⟨by rfl,by repeat(first|exact Qk.refl _|apply Qk.step)⟩
 replace c3:=Bool.eq_false_iff.mpr c3;subst c3;have H1:((Za.f a0).bind fun t163=>(if t163=true then(some true) else(some (a0==95))))=some r:=by rw [if_neg (show ¬(false=true) by decide)] at H;exact H
 clear H;have H:=H1;clear H1;replace H:=Option.bind_eq_some_iff.mp H;obtain⟨t163,A40,H⟩ :=H;try dsimp only at H
 have A4:=Qa.mk A40;clear A40;by_cases c5:t163=true
 ·subst c5;have H1:(some true)=some r:=by rw [if_pos rfl] at H;exact H
  clear H;have H:=H1;clear H1;obtain rfl:=Option.some.inj H;go_enter Tryd.func111,Tryd.ntmps111;go_wp2_with(first|((with_reducible refine Qp (f:=123) rfl ?_);refine Xh (some 4) rfl rfl Tryd.func123 (by kernel_rfl) rfl #[.int .u8 a0] rfl (by(try simp only [List.map_toArray,List.map_cons,List.map_nil]);rfl) ?_;(with_reducible refine(Zj.calls a0 false _ A2.out).mono ?_);rintro e w' ⟨rfl,⟨nd,rfl⟩⟩;refine⟨_,rfl,?_⟩)|(go_at_call 110;(with_reducible refine(Za.calls a0 true _ A4.out).mono ?_);rintro e w' ⟨rfl,⟨nd,rfl⟩⟩));go_ret;exact⟨by rfl,by repeat(first|exact Qk.refl _|apply Qk.step)⟩
 replace c5:=Bool.eq_false_iff.mpr c5;subst c5;have H1:(some (a0==95))=some r:=by rw [if_neg (show ¬(false=true) by decide)] at H;exact H
 clear H;have H:=H1;clear H1;obtain rfl:=Option.some.inj H;go_enter Tryd.func111,Tryd.ntmps111;go_wp2_with(first|((with_reducible refine Qp (f:=123) rfl ?_);refine Xh (some 4) rfl rfl Tryd.func123 (by kernel_rfl) rfl #[.int .u8 a0] rfl (by(try simp only [List.map_toArray,List.map_cons,List.map_nil]);rfl) ?_;(with_reducible refine(Zj.calls a0 false _ A2.out).mono ?_);rintro e w' ⟨rfl,⟨nd,rfl⟩⟩;refine⟨_,rfl,?_⟩)|(go_at_call 110;(with_reducible refine(Za.calls a0 false _ A4.out).mono ?_);rintro e w' ⟨rfl,⟨nd,rfl⟩⟩));go_ret;exact⟨by rfl,by repeat(first|exact Qk.refl _|apply Qk.step)⟩
mutual
def Qz.j0:Nat→ByteArray→Bool→Option (Bool)
 |0,_,_=>none
 |k+1,x0,x15=>if x15=true then(some false) else(Qz.l0 k x0 0)
def Qz.l0:Nat→ByteArray→Int→Option (Bool)
 |0,_,_=>none
 |k+1,x0,x3=>if x3 < (x0.size:Int) then(if 0≤x3 then((Z5.f (bt x0 x3)).bind fun t165=>(if t165=true then(Qz.l0 k x0 (wrap64 (x3+1))) else(some false))) else(none)) else(some true)
end
def Qz.f (k:Nat) (a0:ByteArray):Option (Bool):=if a0.toList=([]:List UInt8) then(Qz.j0 k a0 true) else(if(a0.size:Int) > 32 then(Qz.j0 k a0 true) else(if 0 < (a0.size:Int) then((Za.f (bt a0 0)).bind fun t164=>(Qz.j0 k a0 t164)) else(none)))
theorem Qz.mono_l:∀k,(∀y0 y1,LeO (Qz.j0 k y0 y1) (Qz.j0 (k+1) y0 y1))∧(∀y0 y1,LeO (Qz.l0 k y0 y1) (Qz.l0 (k+1) y0 y1))
 |0=>⟨fun _ _ r h=>by simp [Qz.j0] at h,fun _ _ r h=>by simp [Qz.l0] at h⟩
 |k+1=>by
  obtain⟨ih0,ih1⟩ :=Qz.mono_l k;refine⟨?_,?_⟩
  ·intro y0 y1;unfold Qz.j0;repeat' first
   |(with_reducible exact ih1 _ _)
   |(with_reducible exact LeO.refl _)
   |(with_reducible refine LeO.ite ?_ ?_)
  intro y0 y1;unfold Qz.l0;repeat' first
  |(with_reducible exact ih1 _ _)
  |(with_reducible exact LeO.refl _)
  |(with_reducible refine LeO.ite ?_ ?_)
  |(with_reducible refine LeO.bind ?_ (fun _=>?_))
theorem Qz.mono:∀a0 k,LeO (Qz.f k a0) (Qz.f (k+1) a0):=by
 intro a0 k;obtain⟨ih0,ih1⟩ :=Qz.mono_l k;unfold Qz.f
 repeat' first
  |(with_reducible exact ih0 _ _)
  |(with_reducible exact LeO.refl _)
  |(with_reducible refine LeO.ite ?_ ?_)
  |(with_reducible refine LeO.bind ?_ (fun _=>?_))
set_option maxHeartbeats 8000000 in
set_option maxRecDepth 100000 in
theorem Qz.calls (k:Nat) (a0:ByteArray) (r:Bool) (w:World) (h:Qz.f k a0=some r):
 Calls Tryd.prog 77 #[.string a0] w fun e w'=>e=.returned (.bool r)∧Qk w w':=by
 have H:(if a0.toList=([]:List UInt8) then(Qz.j0 k a0 true) else(if(a0.size:Int) > 32 then(Qz.j0 k a0 true) else(if 0 < (a0.size:Int) then((Za.f (bt a0 0)).bind fun t164=>(Qz.j0 k a0 t164)) else(none))))=some r:=h
 clear h;have HC2:=Qa.mk H;clear H;go_enter Tryd.func77,Tryd.ntmps77;go_upto_region 1 with (fail)
 go_cut [15] (fun v15 wc=>∃(kq:Nat) (x15_1:Bool),v15=.bool x15_1∧Qa (Qz.j0 kq a0 x15_1=some r)∧Qa (kq≤k)∧Qk w wc)
 case first=>
  have H:=HC2.out;clear HC2;by_cases c3:a0.toList=([]:List UInt8)
  ·rw [if_pos c3] at H;have c3b0:(a0.toList==([]:List UInt8))=true:=beq_iff_eq.mpr c3;clear c3;have H':=Qa.mk H;clear H;go_wp2
   go_meet
   case rel=>exact⟨_,true,(by rfl),H',⟨by omega⟩,by repeat(exact Qk.refl _)⟩
  rw [if_neg c3] at H;have c3b0:(a0.toList==([]:List UInt8))=false:=beq_eq_false_iff_ne.mpr c3;by_cases c4:(a0.size:Int) > 32
  ·rw [if_pos c4] at H;have c4b0:decide (32 < (a0.size:Int))=true:=decide_eq_true c4;clear c4;have H':=Qa.mk H;clear H;go_wp2
   go_meet
   case rel=>exact⟨_,true,(by rfl),H',⟨by omega⟩,by repeat(exact Qk.refl _)⟩
  rw [if_neg c4] at H;have c4b0:decide (32 < (a0.size:Int))=false:=decide_eq_false c4;clear c4;by_cases c5:0 < (a0.size:Int)
  rotate_left
  ·rw [if_neg c5] at H;exact absurd H (by simp)
  rw [if_pos c5] at H;have c5b0:decide (0 < (a0.size:Int))=true:=decide_eq_true c5;clear c5;replace H:=Option.bind_eq_some_iff.mp H;obtain⟨t164,A70,H⟩ :=H;try dsimp only at H
  have A7:=Qa.mk A70;clear A70;have H':=Qa.mk H;clear H;have q6:0 < a0.size:=(by have:(0 :Int) < (a0.size:Int):=of_decide_eq_true (by(with_reducible assumption));omega);have hx6:∀h:0 < a0.size,((a0[0]'h).toNat:Int)=bt a0 0 :=Zp a0 0;replace q6:=eq_true q6;go_wp2_with((go_at_call 110;(with_reducible refine(Za.calls (bt a0 0) t164 _ A7.out).mono ?_);rintro e w' ⟨rfl,⟨nd,rfl⟩⟩))
  go_meet
  case rel=>exact⟨_,t164,(by rfl),H',⟨by omega⟩,by repeat(first|exact Qk.refl _|apply Qk.step)⟩
 case rest=>
  clear HC2;obtain⟨kq,x15_1,rfl,HA,HJ1,⟨mc1,rfl⟩⟩ :=hcut
  cases kq with
  |zero=>exact absurd HA.out (by simp [Qz.j0])
  |succ kj1=>
   have H:=HA.out;clear HA;simp only [Qz.j0] at H;by_cases c8:x15_1=true
   ·subst c8;have H1:(some false)=some r:=by rw [if_pos rfl] at H;exact H
    clear H;have H:=H1;clear H1;obtain rfl:=Option.some.inj H;go_wp2;go_ret;exact⟨by rfl,by repeat(first|exact Qk.refl _|apply Qk.step)⟩
   replace c8:=Bool.eq_false_iff.mpr c8;subst c8;have H1:(Qz.l0 kj1 a0 0)=some r:=by rw [if_neg (show ¬(false=true) by decide)] at H;exact H
   clear H;have H:=H1;clear H1;have H':=Qa.mk H;clear H;go_wp2
   go_loopg [3] kj1 (fun kq v3 w'=>∃(x3_2:Int),v3=.int .i64 x3_2∧Qa (Qz.l0 kq a0 x3_2=some r)∧Qa (kq≤kj1)∧Qk w w')
   case atStart=>exact⟨0,(by rfl),H',⟨Nat.le_refl _⟩,by repeat(first|exact Qk.refl _|apply Qk.step)⟩
   case round=>
    clear H';obtain⟨x3_2,rfl,HA,HK2,⟨m2,rfl⟩⟩ :=hrel
    cases gk with
    |zero=>exact absurd HA.out (by simp [Qz.l0])
    |succ k2=>
     have H:=HA.out;clear HA;simp only [Qz.l0] at H;by_cases c9:x3_2 < (a0.size:Int)
     rotate_left
     ·rw [if_neg c9] at H;have c9b0:decide (x3_2 < (a0.size:Int))=false:=decide_eq_false c9;clear c9;obtain rfl:=Option.some.inj H;go_wp2;go_ret;exact⟨by rfl,by repeat(first|exact Qk.refl _|apply Qk.step)⟩
     rw [if_pos c9] at H;have c9b0:decide (x3_2 < (a0.size:Int))=true:=decide_eq_true c9;clear c9;by_cases c10:0≤x3_2
     rotate_left
     ·rw [if_neg c10] at H;exact absurd H (by simp)
     rw [if_pos c10] at H;have c10b0:decide (0≤x3_2)=true:=decide_eq_true c10;clear c10;replace H:=Option.bind_eq_some_iff.mp H;obtain⟨t165,A120,H⟩ :=H;try dsimp only at H
     have A12:=Qa.mk A120;clear A120;by_cases c13:t165=true
     rotate_left
     ·replace c13:=Bool.eq_false_iff.mpr c13;subst c13;have H1:(some false)=some r:=by rw [if_neg (show ¬(false=true) by decide)] at H;exact H
      clear H;have H:=H1;clear H1;obtain rfl:=Option.some.inj H;have p11:0≤(x3_2:Int):=of_decide_eq_true (by(with_reducible assumption));have q11:x3_2 < (a0.size:Int):=of_decide_eq_true (by(with_reducible assumption));have hx11:=Zp a0 x3_2;replace p11:=eq_true p11;replace q11:=eq_true q11;go_wp2_with(((with_reducible refine Qp (f:=111) rfl ?_);refine Xh (some 25) rfl rfl Tryd.func111 (by kernel_rfl) rfl #[.int .u8 (bt a0 x3_2)] rfl (by(try simp only [List.map_toArray,List.map_cons,List.map_nil]);rfl) ?_;(with_reducible refine(Z5.calls (bt a0 x3_2) false _ A12.out).mono ?_);rintro e w' ⟨rfl,⟨nd,rfl⟩⟩;refine⟨_,rfl,?_⟩));go_ret;exact⟨by rfl,by repeat(first|exact Qk.refl _|apply Qk.step)⟩
     subst c13;have H1:(Qz.l0 k2 a0 (wrap64 (x3_2+1)))=some r:=by rw [if_pos rfl] at H;exact H
     clear H;have H:=H1;clear H1;have H':=Qa.mk H;clear H;have p11:0≤(x3_2:Int):=of_decide_eq_true (by(with_reducible assumption));have q11:x3_2 < (a0.size:Int):=of_decide_eq_true (by(with_reducible assumption));have hx11:=Zp a0 x3_2;replace p11:=eq_true p11;replace q11:=eq_true q11;go_wp2_with(((with_reducible refine Qp (f:=111) rfl ?_);refine Xh (some 25) rfl rfl Tryd.func111 (by kernel_rfl) rfl #[.int .u8 (bt a0 x3_2)] rfl (by(try simp only [List.map_toArray,List.map_cons,List.map_nil]);rfl) ?_;(with_reducible refine(Z5.calls (bt a0 x3_2) true _ A12.out).mono ?_);rintro e w' ⟨rfl,⟨nd,rfl⟩⟩;refine⟨_,rfl,?_⟩))
     go_roundg k2
     case measure=>have:=HJ1.out;have:=HK2.out;omega
     case rel=>exact⟨(wrap64 (x3_2+1)),(by rfl),H',⟨by have:=HJ1.out;have:=HK2.out;omega⟩,by repeat(first|exact Qk.refl _|apply Qk.step)⟩
def Xs.f (a0:Int):Option (ByteArray):=(some (([(⟨#[45]⟩ :ByteArray),(⟨#[43]⟩ :ByteArray),(⟨#[33]⟩ :ByteArray),(⟨#[126]⟩ :ByteArray),(⟨#[42]⟩ :ByteArray),(⟨#[47]⟩ :ByteArray),(⟨#[37]⟩ :ByteArray),(⟨#[43]⟩ :ByteArray),(⟨#[45]⟩ :ByteArray),(⟨#[60,60]⟩ :ByteArray),(⟨#[62,62]⟩ :ByteArray),(⟨#[60]⟩ :ByteArray),(⟨#[62]⟩ :ByteArray),(⟨#[60,61]⟩ :ByteArray),(⟨#[62,61]⟩ :ByteArray),(⟨#[61,61]⟩ :ByteArray),(⟨#[33,61]⟩ :ByteArray),(⟨#[38]⟩ :ByteArray),(⟨#[94]⟩ :ByteArray),(⟨#[124]⟩ :ByteArray),(⟨#[38,38]⟩ :ByteArray),(⟨#[124,124]⟩ :ByteArray)]:List ByteArray):List ByteArray)).bind fun y166=>(if a0 < 3 then(some (⟨#[]⟩ :ByteArray)) else(if a0 > 24 then(some (⟨#[]⟩ :ByteArray)) else(if 0≤(wrap64 (a0 - 3)) then(if(wrap64 (a0 - 3)) < (y166.length:Int) then(some (Vd ByteArray.empty y166 (wrap64 (a0 - 3)))) else(none)) else(none))))
set_option maxHeartbeats 8000000 in
set_option maxRecDepth 100000 in
theorem Xs.calls (a0:Int) (r:ByteArray) (w:World) (h:Xs.f a0=some r):
 Calls Tryd.prog 83 #[.int .i64 a0] w fun e w'=>e=.returned (.string r)∧Below w.heap.size w w':=by
 have HB:=Qa.mk (Below.refl w.heap.size w);have H:((some (([(⟨#[45]⟩ :ByteArray),(⟨#[43]⟩ :ByteArray),(⟨#[33]⟩ :ByteArray),(⟨#[126]⟩ :ByteArray),(⟨#[42]⟩ :ByteArray),(⟨#[47]⟩ :ByteArray),(⟨#[37]⟩ :ByteArray),(⟨#[43]⟩ :ByteArray),(⟨#[45]⟩ :ByteArray),(⟨#[60,60]⟩ :ByteArray),(⟨#[62,62]⟩ :ByteArray),(⟨#[60]⟩ :ByteArray),(⟨#[62]⟩ :ByteArray),(⟨#[60,61]⟩ :ByteArray),(⟨#[62,61]⟩ :ByteArray),(⟨#[61,61]⟩ :ByteArray),(⟨#[33,61]⟩ :ByteArray),(⟨#[38]⟩ :ByteArray),(⟨#[94]⟩ :ByteArray),(⟨#[124]⟩ :ByteArray),(⟨#[38,38]⟩ :ByteArray),(⟨#[124,124]⟩ :ByteArray)]:List ByteArray):List ByteArray)).bind fun y166=>(if a0 < 3 then(some (⟨#[]⟩ :ByteArray)) else(if a0 > 24 then(some (⟨#[]⟩ :ByteArray)) else(if 0≤(wrap64 (a0 - 3)) then(if(wrap64 (a0 - 3)) < (y166.length:Int) then(some (Vd ByteArray.empty y166 (wrap64 (a0 - 3)))) else(none)) else(none)))))=some r:=h
 clear h;obtain⟨y166,hy166⟩ :∃y_:List ByteArray,y_=(([(⟨#[45]⟩ :ByteArray),(⟨#[43]⟩ :ByteArray),(⟨#[33]⟩ :ByteArray),(⟨#[126]⟩ :ByteArray),(⟨#[42]⟩ :ByteArray),(⟨#[47]⟩ :ByteArray),(⟨#[37]⟩ :ByteArray),(⟨#[43]⟩ :ByteArray),(⟨#[45]⟩ :ByteArray),(⟨#[60,60]⟩ :ByteArray),(⟨#[62,62]⟩ :ByteArray),(⟨#[60]⟩ :ByteArray),(⟨#[62]⟩ :ByteArray),(⟨#[60,61]⟩ :ByteArray),(⟨#[62,61]⟩ :ByteArray),(⟨#[61,61]⟩ :ByteArray),(⟨#[33,61]⟩ :ByteArray),(⟨#[38]⟩ :ByteArray),(⟨#[94]⟩ :ByteArray),(⟨#[124]⟩ :ByteArray),(⟨#[38,38]⟩ :ByteArray),(⟨#[124,124]⟩ :ByteArray)]:List ByteArray)):=⟨_,rfl⟩;replace H:(if a0 < 3 then(some (⟨#[]⟩ :ByteArray)) else(if a0 > 24 then(some (⟨#[]⟩ :ByteArray)) else(if 0≤(wrap64 (a0 - 3)) then(if(wrap64 (a0 - 3)) < (y166.length:Int) then(some (Vd ByteArray.empty y166 (wrap64 (a0 - 3)))) else(none)) else(none))))=some r:=by(have H2_:=(Option.bind_some _ _).symm.trans H;rw [hy166];with_reducible exact H2_)
 have Ny166:=Qa.mk hy166;clear hy166;by_cases c2:a0 < 3
 ·rw [if_pos c2] at H;have c2b0:decide (a0 < 3)=true:=decide_eq_true c2;clear c2;obtain rfl:=Option.some.inj H;go_enter Tryd.func83,Tryd.ntmps83;go_wp2_with(((with_reducible refine Q0 (N:=4) rfl ?_);refine Kd.R_lit Kd.string _ 9 ?hg (N:=4) ?hd (xs:=([(⟨#[45]⟩ :ByteArray),(⟨#[43]⟩ :ByteArray),(⟨#[33]⟩ :ByteArray),(⟨#[126]⟩ :ByteArray),(⟨#[42]⟩ :ByteArray),(⟨#[47]⟩ :ByteArray),(⟨#[37]⟩ :ByteArray),(⟨#[43]⟩ :ByteArray),(⟨#[45]⟩ :ByteArray),(⟨#[60,60]⟩ :ByteArray),(⟨#[62,62]⟩ :ByteArray),(⟨#[60]⟩ :ByteArray),(⟨#[62]⟩ :ByteArray),(⟨#[60,61]⟩ :ByteArray),(⟨#[62,61]⟩ :ByteArray),(⟨#[61,61]⟩ :ByteArray),(⟨#[33,61]⟩ :ByteArray),(⟨#[38]⟩ :ByteArray),(⟨#[94]⟩ :ByteArray),(⟨#[124]⟩ :ByteArray),(⟨#[38,38]⟩ :ByteArray),(⟨#[124,124]⟩ :ByteArray)]:List ByteArray)) (inner:=[.string (⟨#[45]⟩ :ByteArray),.string (⟨#[43]⟩ :ByteArray),.string (⟨#[33]⟩ :ByteArray),.string (⟨#[126]⟩ :ByteArray),.string (⟨#[42]⟩ :ByteArray),.string (⟨#[47]⟩ :ByteArray),.string (⟨#[37]⟩ :ByteArray),.string (⟨#[43]⟩ :ByteArray),.string (⟨#[45]⟩ :ByteArray),.string (⟨#[60,60]⟩ :ByteArray),.string (⟨#[62,62]⟩ :ByteArray),.string (⟨#[60]⟩ :ByteArray),.string (⟨#[62]⟩ :ByteArray),.string (⟨#[60,61]⟩ :ByteArray),.string (⟨#[62,61]⟩ :ByteArray),.string (⟨#[61,61]⟩ :ByteArray),.string (⟨#[33,61]⟩ :ByteArray),.string (⟨#[38]⟩ :ByteArray),.string (⟨#[94]⟩ :ByteArray),.string (⟨#[124]⟩ :ByteArray),.string (⟨#[38,38]⟩ :ByteArray),.string (⟨#[124,124]⟩ :ByteArray)]) (ok:=fun _=>True) (okp:=fun _=>True) ?hr ?hp (fun _ hk=>hk) trivial (Below.refl _ _) (Nat.le_refl _) (by simp) ?_;(case hd=>rfl);(case hg=>rfl);(case hr=>(go_simp;done));(case hp=>exact(Xp.one (show Kd.M Kd.string _ _ _ (⟨#[45]⟩ :ByteArray) [.string (⟨#[45]⟩ :ByteArray)] from rfl) (Xp.one (show Kd.M Kd.string _ _ _ (⟨#[43]⟩ :ByteArray) [.string (⟨#[43]⟩ :ByteArray)] from rfl) (Xp.one (show Kd.M Kd.string _ _ _ (⟨#[33]⟩ :ByteArray) [.string (⟨#[33]⟩ :ByteArray)] from rfl) (Xp.one (show Kd.M Kd.string _ _ _ (⟨#[126]⟩ :ByteArray) [.string (⟨#[126]⟩ :ByteArray)] from rfl) (Xp.one (show Kd.M Kd.string _ _ _ (⟨#[42]⟩ :ByteArray) [.string (⟨#[42]⟩ :ByteArray)] from rfl) (Xp.one (show Kd.M Kd.string _ _ _ (⟨#[47]⟩ :ByteArray) [.string (⟨#[47]⟩ :ByteArray)] from rfl) (Xp.one (show Kd.M Kd.string _ _ _ (⟨#[37]⟩ :ByteArray) [.string (⟨#[37]⟩ :ByteArray)] from rfl) (Xp.one (show Kd.M Kd.string _ _ _ (⟨#[43]⟩ :ByteArray) [.string (⟨#[43]⟩ :ByteArray)] from rfl) (Xp.one (show Kd.M Kd.string _ _ _ (⟨#[45]⟩ :ByteArray) [.string (⟨#[45]⟩ :ByteArray)] from rfl) (Xp.one (show Kd.M Kd.string _ _ _ (⟨#[60,60]⟩ :ByteArray) [.string (⟨#[60,60]⟩ :ByteArray)] from rfl) (Xp.one (show Kd.M Kd.string _ _ _ (⟨#[62,62]⟩ :ByteArray) [.string (⟨#[62,62]⟩ :ByteArray)] from rfl) (Xp.one (show Kd.M Kd.string _ _ _ (⟨#[60]⟩ :ByteArray) [.string (⟨#[60]⟩ :ByteArray)] from rfl) (Xp.one (show Kd.M Kd.string _ _ _ (⟨#[62]⟩ :ByteArray) [.string (⟨#[62]⟩ :ByteArray)] from rfl) (Xp.one (show Kd.M Kd.string _ _ _ (⟨#[60,61]⟩ :ByteArray) [.string (⟨#[60,61]⟩ :ByteArray)] from rfl) (Xp.one (show Kd.M Kd.string _ _ _ (⟨#[62,61]⟩ :ByteArray) [.string (⟨#[62,61]⟩ :ByteArray)] from rfl) (Xp.one (show Kd.M Kd.string _ _ _ (⟨#[61,61]⟩ :ByteArray) [.string (⟨#[61,61]⟩ :ByteArray)] from rfl) (Xp.one (show Kd.M Kd.string _ _ _ (⟨#[33,61]⟩ :ByteArray) [.string (⟨#[33,61]⟩ :ByteArray)] from rfl) (Xp.one (show Kd.M Kd.string _ _ _ (⟨#[38]⟩ :ByteArray) [.string (⟨#[38]⟩ :ByteArray)] from rfl) (Xp.one (show Kd.M Kd.string _ _ _ (⟨#[94]⟩ :ByteArray) [.string (⟨#[94]⟩ :ByteArray)] from rfl) (Xp.one (show Kd.M Kd.string _ _ _ (⟨#[124]⟩ :ByteArray) [.string (⟨#[124]⟩ :ByteArray)] from rfl) (Xp.one (show Kd.M Kd.string _ _ _ (⟨#[38,38]⟩ :ByteArray) [.string (⟨#[38,38]⟩ :ByteArray)] from rfl) (Xp.one (show Kd.M Kd.string _ _ _ (⟨#[124,124]⟩ :ByteArray) [.string (⟨#[124,124]⟩ :ByteArray)] from rfl) (Xp.none _ _))))))))))))))))))))))));intro v167 w3 ho4 hb hg_ hnew_;clear hg_ hnew_;(rw [←Ny166.out] at ho4);have HO168:=Qa.mk (Kd.R_lower ho4 (X4 HB.out));replace HB:=Qa.mk (Qr HB.out hb);clear hb ho4))
  go_ret
  exact⟨by rfl,HB.out⟩
 rw [if_neg c2] at H;have c2b0:decide (a0 < 3)=false:=decide_eq_false c2;clear c2;by_cases c5:a0 > 24
 ·rw [if_pos c5] at H;have c5b0:decide (24 < a0)=true:=decide_eq_true c5;clear c5;obtain rfl:=Option.some.inj H;go_enter Tryd.func83,Tryd.ntmps83;go_wp2_with(((with_reducible refine Q0 (N:=4) rfl ?_);refine Kd.R_lit Kd.string _ 9 ?hg (N:=4) ?hd (xs:=([(⟨#[45]⟩ :ByteArray),(⟨#[43]⟩ :ByteArray),(⟨#[33]⟩ :ByteArray),(⟨#[126]⟩ :ByteArray),(⟨#[42]⟩ :ByteArray),(⟨#[47]⟩ :ByteArray),(⟨#[37]⟩ :ByteArray),(⟨#[43]⟩ :ByteArray),(⟨#[45]⟩ :ByteArray),(⟨#[60,60]⟩ :ByteArray),(⟨#[62,62]⟩ :ByteArray),(⟨#[60]⟩ :ByteArray),(⟨#[62]⟩ :ByteArray),(⟨#[60,61]⟩ :ByteArray),(⟨#[62,61]⟩ :ByteArray),(⟨#[61,61]⟩ :ByteArray),(⟨#[33,61]⟩ :ByteArray),(⟨#[38]⟩ :ByteArray),(⟨#[94]⟩ :ByteArray),(⟨#[124]⟩ :ByteArray),(⟨#[38,38]⟩ :ByteArray),(⟨#[124,124]⟩ :ByteArray)]:List ByteArray)) (inner:=[.string (⟨#[45]⟩ :ByteArray),.string (⟨#[43]⟩ :ByteArray),.string (⟨#[33]⟩ :ByteArray),.string (⟨#[126]⟩ :ByteArray),.string (⟨#[42]⟩ :ByteArray),.string (⟨#[47]⟩ :ByteArray),.string (⟨#[37]⟩ :ByteArray),.string (⟨#[43]⟩ :ByteArray),.string (⟨#[45]⟩ :ByteArray),.string (⟨#[60,60]⟩ :ByteArray),.string (⟨#[62,62]⟩ :ByteArray),.string (⟨#[60]⟩ :ByteArray),.string (⟨#[62]⟩ :ByteArray),.string (⟨#[60,61]⟩ :ByteArray),.string (⟨#[62,61]⟩ :ByteArray),.string (⟨#[61,61]⟩ :ByteArray),.string (⟨#[33,61]⟩ :ByteArray),.string (⟨#[38]⟩ :ByteArray),.string (⟨#[94]⟩ :ByteArray),.string (⟨#[124]⟩ :ByteArray),.string (⟨#[38,38]⟩ :ByteArray),.string (⟨#[124,124]⟩ :ByteArray)]) (ok:=fun _=>True) (okp:=fun _=>True) ?hr ?hp (fun _ hk=>hk) trivial (Below.refl _ _) (Nat.le_refl _) (by simp) ?_;(case hd=>rfl);(case hg=>rfl);(case hr=>(go_simp;done));(case hp=>exact(Xp.one (show Kd.M Kd.string _ _ _ (⟨#[45]⟩ :ByteArray) [.string (⟨#[45]⟩ :ByteArray)] from rfl) (Xp.one (show Kd.M Kd.string _ _ _ (⟨#[43]⟩ :ByteArray) [.string (⟨#[43]⟩ :ByteArray)] from rfl) (Xp.one (show Kd.M Kd.string _ _ _ (⟨#[33]⟩ :ByteArray) [.string (⟨#[33]⟩ :ByteArray)] from rfl) (Xp.one (show Kd.M Kd.string _ _ _ (⟨#[126]⟩ :ByteArray) [.string (⟨#[126]⟩ :ByteArray)] from rfl) (Xp.one (show Kd.M Kd.string _ _ _ (⟨#[42]⟩ :ByteArray) [.string (⟨#[42]⟩ :ByteArray)] from rfl) (Xp.one (show Kd.M Kd.string _ _ _ (⟨#[47]⟩ :ByteArray) [.string (⟨#[47]⟩ :ByteArray)] from rfl) (Xp.one (show Kd.M Kd.string _ _ _ (⟨#[37]⟩ :ByteArray) [.string (⟨#[37]⟩ :ByteArray)] from rfl) (Xp.one (show Kd.M Kd.string _ _ _ (⟨#[43]⟩ :ByteArray) [.string (⟨#[43]⟩ :ByteArray)] from rfl) (Xp.one (show Kd.M Kd.string _ _ _ (⟨#[45]⟩ :ByteArray) [.string (⟨#[45]⟩ :ByteArray)] from rfl) (Xp.one (show Kd.M Kd.string _ _ _ (⟨#[60,60]⟩ :ByteArray) [.string (⟨#[60,60]⟩ :ByteArray)] from rfl) (Xp.one (show Kd.M Kd.string _ _ _ (⟨#[62,62]⟩ :ByteArray) [.string (⟨#[62,62]⟩ :ByteArray)] from rfl) (Xp.one (show Kd.M Kd.string _ _ _ (⟨#[60]⟩ :ByteArray) [.string (⟨#[60]⟩ :ByteArray)] from rfl) (Xp.one (show Kd.M Kd.string _ _ _ (⟨#[62]⟩ :ByteArray) [.string (⟨#[62]⟩ :ByteArray)] from rfl) (Xp.one (show Kd.M Kd.string _ _ _ (⟨#[60,61]⟩ :ByteArray) [.string (⟨#[60,61]⟩ :ByteArray)] from rfl) (Xp.one (show Kd.M Kd.string _ _ _ (⟨#[62,61]⟩ :ByteArray) [.string (⟨#[62,61]⟩ :ByteArray)] from rfl) (Xp.one (show Kd.M Kd.string _ _ _ (⟨#[61,61]⟩ :ByteArray) [.string (⟨#[61,61]⟩ :ByteArray)] from rfl) (Xp.one (show Kd.M Kd.string _ _ _ (⟨#[33,61]⟩ :ByteArray) [.string (⟨#[33,61]⟩ :ByteArray)] from rfl) (Xp.one (show Kd.M Kd.string _ _ _ (⟨#[38]⟩ :ByteArray) [.string (⟨#[38]⟩ :ByteArray)] from rfl) (Xp.one (show Kd.M Kd.string _ _ _ (⟨#[94]⟩ :ByteArray) [.string (⟨#[94]⟩ :ByteArray)] from rfl) (Xp.one (show Kd.M Kd.string _ _ _ (⟨#[124]⟩ :ByteArray) [.string (⟨#[124]⟩ :ByteArray)] from rfl) (Xp.one (show Kd.M Kd.string _ _ _ (⟨#[38,38]⟩ :ByteArray) [.string (⟨#[38,38]⟩ :ByteArray)] from rfl) (Xp.one (show Kd.M Kd.string _ _ _ (⟨#[124,124]⟩ :ByteArray) [.string (⟨#[124,124]⟩ :ByteArray)] from rfl) (Xp.none _ _))))))))))))))))))))))));intro v167 w6 ho7 hb hg_ hnew_;clear hg_ hnew_;(rw [←Ny166.out] at ho7);have HO168:=Qa.mk (Kd.R_lower ho7 (X4 HB.out));replace HB:=Qa.mk (Qr HB.out hb);clear hb ho7))
  go_ret
  exact⟨by rfl,HB.out⟩
 rw [if_neg c5] at H;have c5b0:decide (24 < a0)=false:=decide_eq_false c5;clear c5;obtain⟨ji8,hji8⟩ :∃j_:Int,(wrap64 (a0 - 3))=j_:=⟨_,rfl⟩;replace H:(if 0≤(ji8) then(if(ji8) < (y166.length:Int) then(some (Vd ByteArray.empty y166 (ji8))) else(none)) else(none))=some r:=by(rw [hji8] at H;exact H)
 have hji8w:(IntKind.i64.wrap (a0 - 3))=ji8:=(Xc _).trans hji8;by_cases c9:0≤(ji8)
 rotate_left
 ·rw [if_neg c9] at H;exact absurd H (by simp)
 rw [if_pos c9] at H;have c9b0:decide (0≤(ji8))=true:=decide_eq_true c9;clear c9;by_cases c10:(ji8) < (y166.length:Int)
 rotate_left
 ·rw [if_neg c10] at H;exact absurd H (by simp)
 rw [if_pos c10] at H;have c10b0:decide ((ji8) < (y166.length:Int))=true:=decide_eq_true c10;clear c10;obtain rfl:=Option.some.inj H;go_enter Tryd.func83,Tryd.ntmps83;go_wp2_with(((with_reducible refine Q0 (N:=4) rfl ?_);refine Kd.R_lit Kd.string _ 9 ?hg (N:=4) ?hd (xs:=([(⟨#[45]⟩ :ByteArray),(⟨#[43]⟩ :ByteArray),(⟨#[33]⟩ :ByteArray),(⟨#[126]⟩ :ByteArray),(⟨#[42]⟩ :ByteArray),(⟨#[47]⟩ :ByteArray),(⟨#[37]⟩ :ByteArray),(⟨#[43]⟩ :ByteArray),(⟨#[45]⟩ :ByteArray),(⟨#[60,60]⟩ :ByteArray),(⟨#[62,62]⟩ :ByteArray),(⟨#[60]⟩ :ByteArray),(⟨#[62]⟩ :ByteArray),(⟨#[60,61]⟩ :ByteArray),(⟨#[62,61]⟩ :ByteArray),(⟨#[61,61]⟩ :ByteArray),(⟨#[33,61]⟩ :ByteArray),(⟨#[38]⟩ :ByteArray),(⟨#[94]⟩ :ByteArray),(⟨#[124]⟩ :ByteArray),(⟨#[38,38]⟩ :ByteArray),(⟨#[124,124]⟩ :ByteArray)]:List ByteArray)) (inner:=[.string (⟨#[45]⟩ :ByteArray),.string (⟨#[43]⟩ :ByteArray),.string (⟨#[33]⟩ :ByteArray),.string (⟨#[126]⟩ :ByteArray),.string (⟨#[42]⟩ :ByteArray),.string (⟨#[47]⟩ :ByteArray),.string (⟨#[37]⟩ :ByteArray),.string (⟨#[43]⟩ :ByteArray),.string (⟨#[45]⟩ :ByteArray),.string (⟨#[60,60]⟩ :ByteArray),.string (⟨#[62,62]⟩ :ByteArray),.string (⟨#[60]⟩ :ByteArray),.string (⟨#[62]⟩ :ByteArray),.string (⟨#[60,61]⟩ :ByteArray),.string (⟨#[62,61]⟩ :ByteArray),.string (⟨#[61,61]⟩ :ByteArray),.string (⟨#[33,61]⟩ :ByteArray),.string (⟨#[38]⟩ :ByteArray),.string (⟨#[94]⟩ :ByteArray),.string (⟨#[124]⟩ :ByteArray),.string (⟨#[38,38]⟩ :ByteArray),.string (⟨#[124,124]⟩ :ByteArray)]) (ok:=fun _=>True) (okp:=fun _=>True) ?hr ?hp (fun _ hk=>hk) trivial (Below.refl _ _) (Nat.le_refl _) (by simp) ?_;(case hd=>rfl);(case hg=>rfl);(case hr=>(go_simp;done));(case hp=>exact(Xp.one (show Kd.M Kd.string _ _ _ (⟨#[45]⟩ :ByteArray) [.string (⟨#[45]⟩ :ByteArray)] from rfl) (Xp.one (show Kd.M Kd.string _ _ _ (⟨#[43]⟩ :ByteArray) [.string (⟨#[43]⟩ :ByteArray)] from rfl) (Xp.one (show Kd.M Kd.string _ _ _ (⟨#[33]⟩ :ByteArray) [.string (⟨#[33]⟩ :ByteArray)] from rfl) (Xp.one (show Kd.M Kd.string _ _ _ (⟨#[126]⟩ :ByteArray) [.string (⟨#[126]⟩ :ByteArray)] from rfl) (Xp.one (show Kd.M Kd.string _ _ _ (⟨#[42]⟩ :ByteArray) [.string (⟨#[42]⟩ :ByteArray)] from rfl) (Xp.one (show Kd.M Kd.string _ _ _ (⟨#[47]⟩ :ByteArray) [.string (⟨#[47]⟩ :ByteArray)] from rfl) (Xp.one (show Kd.M Kd.string _ _ _ (⟨#[37]⟩ :ByteArray) [.string (⟨#[37]⟩ :ByteArray)] from rfl) (Xp.one (show Kd.M Kd.string _ _ _ (⟨#[43]⟩ :ByteArray) [.string (⟨#[43]⟩ :ByteArray)] from rfl) (Xp.one (show Kd.M Kd.string _ _ _ (⟨#[45]⟩ :ByteArray) [.string (⟨#[45]⟩ :ByteArray)] from rfl) (Xp.one (show Kd.M Kd.string _ _ _ (⟨#[60,60]⟩ :ByteArray) [.string (⟨#[60,60]⟩ :ByteArray)] from rfl) (Xp.one (show Kd.M Kd.string _ _ _ (⟨#[62,62]⟩ :ByteArray) [.string (⟨#[62,62]⟩ :ByteArray)] from rfl) (Xp.one (show Kd.M Kd.string _ _ _ (⟨#[60]⟩ :ByteArray) [.string (⟨#[60]⟩ :ByteArray)] from rfl) (Xp.one (show Kd.M Kd.string _ _ _ (⟨#[62]⟩ :ByteArray) [.string (⟨#[62]⟩ :ByteArray)] from rfl) (Xp.one (show Kd.M Kd.string _ _ _ (⟨#[60,61]⟩ :ByteArray) [.string (⟨#[60,61]⟩ :ByteArray)] from rfl) (Xp.one (show Kd.M Kd.string _ _ _ (⟨#[62,61]⟩ :ByteArray) [.string (⟨#[62,61]⟩ :ByteArray)] from rfl) (Xp.one (show Kd.M Kd.string _ _ _ (⟨#[61,61]⟩ :ByteArray) [.string (⟨#[61,61]⟩ :ByteArray)] from rfl) (Xp.one (show Kd.M Kd.string _ _ _ (⟨#[33,61]⟩ :ByteArray) [.string (⟨#[33,61]⟩ :ByteArray)] from rfl) (Xp.one (show Kd.M Kd.string _ _ _ (⟨#[38]⟩ :ByteArray) [.string (⟨#[38]⟩ :ByteArray)] from rfl) (Xp.one (show Kd.M Kd.string _ _ _ (⟨#[94]⟩ :ByteArray) [.string (⟨#[94]⟩ :ByteArray)] from rfl) (Xp.one (show Kd.M Kd.string _ _ _ (⟨#[124]⟩ :ByteArray) [.string (⟨#[124]⟩ :ByteArray)] from rfl) (Xp.one (show Kd.M Kd.string _ _ _ (⟨#[38,38]⟩ :ByteArray) [.string (⟨#[38,38]⟩ :ByteArray)] from rfl) (Xp.one (show Kd.M Kd.string _ _ _ (⟨#[124,124]⟩ :ByteArray) [.string (⟨#[124,124]⟩ :ByteArray)] from rfl) (Xp.none _ _))))))))))))))))))))))));intro v167 w11 ho12 hb hg_ hnew_;clear hg_ hnew_;(rw [←Ny166.out] at ho12);have HO168:=Qa.mk (Kd.R_lower ho12 (X4 HB.out));replace HB:=Qa.mk (Qr HB.out hb);clear hb ho12;obtain⟨Ao13,co13,eo13⟩ :=Kd.R_slice HO168.out;subst eo13;have p169:0≤((ji8):Int):=of_decide_eq_true (by(with_reducible assumption));have q169:(ji8) < (y166.length:Int):=of_decide_eq_true (by(with_reducible assumption));obtain⟨ad169,e169,hx169_0⟩ :=Kd.at_string (Kd.R_reads' HO168.out).2.2 (ji8) p169 q169;cases e169;replace p169:=eq_true p169;replace q169:=eq_true q169))
 go_ret
 exact⟨by rfl,HB.out⟩
mutual
def Q2.j0:Nat→Int→Int→Int→Bool→Option (Int)
 |0,_,_,_,_=>none
 |k+1,x0,x1,x5,x12=>if x12=true then(if(((x0 - 97) % 256)+10) ≥ x1 then(some (-1)) else(some (((x0 - 97) % 256)+10))) else(if x0 ≥ 65 then(Q2.j1 k x0 x1 x5 (decide (x0≤70))) else(Q2.j1 k x0 x1 x5 false))
def Q2.j1:Nat→Int→Int→Int→Bool→Option (Int)
 |0,_,_,_,_=>none
 |k+1,x0,x1,x5,x23=>if x23=true then(if(((x0 - 65) % 256)+10) ≥ x1 then(some (-1)) else(some (((x0 - 65) % 256)+10))) else(if x5 ≥ x1 then(some (-1)) else(some x5))
end
def Q2.f (k:Nat) (a0:Int) (a1:Int):Option (Int):=(X2.f a0).bind fun t170=>(if t170=true then(if((a0 - 48) % 256) ≥ a1 then(some (-1)) else(some ((a0 - 48) % 256))) else(if a0 ≥ 97 then(Q2.j0 k a0 a1 (-1) (decide (a0≤102))) else(Q2.j0 k a0 a1 (-1) false)))
theorem Q2.mono_l:∀k,(∀y0 y1 y2 y3,LeO (Q2.j0 k y0 y1 y2 y3) (Q2.j0 (k+1) y0 y1 y2 y3))∧(∀y0 y1 y2 y3,LeO (Q2.j1 k y0 y1 y2 y3) (Q2.j1 (k+1) y0 y1 y2 y3))
 |0=>⟨fun _ _ _ _ r h=>by simp [Q2.j0] at h,fun _ _ _ _ r h=>by simp [Q2.j1] at h⟩
 |k+1=>by
  obtain⟨ih0,ih1⟩ :=Q2.mono_l k;refine⟨?_,?_⟩
  ·intro y0 y1 y2 y3;unfold Q2.j0;repeat' first
   |(with_reducible exact ih1 _ _ _ _)
   |(with_reducible exact LeO.refl _)
   |(with_reducible refine LeO.ite ?_ ?_)
  intro y0 y1 y2 y3;unfold Q2.j1;repeat' (with_reducible exact LeO.refl _)
theorem Q2.mono:∀a0 a1 k,LeO (Q2.f k a0 a1) (Q2.f (k+1) a0 a1):=by
 intro a0 a1 k;obtain⟨ih0,ih1⟩ :=Q2.mono_l k;unfold Q2.f
 repeat' first
  |(with_reducible exact ih0 _ _ _ _)
  |(with_reducible exact LeO.refl _)
  |(with_reducible refine LeO.ite ?_ ?_)
  |(with_reducible refine LeO.bind ?_ (fun _=>?_))
set_option maxHeartbeats 8000000 in
set_option maxRecDepth 100000 in
theorem Q2.calls (k:Nat) (a0:Int) (a1:Int) (r:Int) (w:World) (h:Q2.f k a0 a1=some r):
 Calls Tryd.prog 120 #[.int .u8 a0,.int .i64 a1] w fun e w'=>e=.returned (.int .i64 r)∧Qk w w':=by
 have H:((X2.f a0).bind fun t170=>(if t170=true then(if((a0 - 48) % 256) ≥ a1 then(some (-1)) else(some ((a0 - 48) % 256))) else(if a0 ≥ 97 then(Q2.j0 k a0 a1 (-1) (decide (a0≤102))) else(Q2.j0 k a0 a1 (-1) false))))=some r:=h
 clear h;replace H:=Option.bind_eq_some_iff.mp H;obtain⟨t170,A30,H⟩ :=H;try dsimp only at H
 have A3:=Qa.mk A30;clear A30;by_cases c4:t170=true
 ·subst c4;have H1:(if((a0 - 48) % 256) ≥ a1 then(some (-1)) else(some ((a0 - 48) % 256)))=some r:=by rw [if_pos rfl] at H;exact H
  clear H;have H:=H1;clear H1;by_cases c5:((a0 - 48) % 256) ≥ a1
  ·rw [if_pos c5] at H;have c5b0:decide (a1≤((a0 - 48) % 256))=true:=decide_eq_true c5;clear c5;obtain rfl:=Option.some.inj H;go_enter Tryd.func120,Tryd.ntmps120;go_wp2_with(((with_reducible refine Qp (f:=108) rfl ?_);refine Xh (some 8) rfl rfl Tryd.func108 (by kernel_rfl) rfl #[.int .u8 a0] rfl (by(try simp only [List.map_toArray,List.map_cons,List.map_nil]);rfl) ?_;(with_reducible refine(X2.calls a0 true _ A3.out).mono ?_);rintro e w' ⟨rfl,⟨nd,rfl⟩⟩;refine⟨_,rfl,?_⟩));go_ret;exact⟨by rfl,by repeat(first|exact Qk.refl _|apply Qk.step)⟩
  rw [if_neg c5] at H;have c5b0:decide (a1≤((a0 - 48) % 256))=false:=decide_eq_false c5;clear c5;obtain rfl:=Option.some.inj H;go_enter Tryd.func120,Tryd.ntmps120;go_wp2_with(((with_reducible refine Qp (f:=108) rfl ?_);refine Xh (some 8) rfl rfl Tryd.func108 (by kernel_rfl) rfl #[.int .u8 a0] rfl (by(try simp only [List.map_toArray,List.map_cons,List.map_nil]);rfl) ?_;(with_reducible refine(X2.calls a0 true _ A3.out).mono ?_);rintro e w' ⟨rfl,⟨nd,rfl⟩⟩;refine⟨_,rfl,?_⟩));go_ret;exact⟨by rfl,by repeat(first|exact Qk.refl _|apply Qk.step)⟩
 replace c4:=Bool.eq_false_iff.mpr c4;subst c4;have H1:(if a0 ≥ 97 then(Q2.j0 k a0 a1 (-1) (decide (a0≤102))) else(Q2.j0 k a0 a1 (-1) false))=some r:=by rw [if_neg (show ¬(false=true) by decide)] at H;exact H
 clear H;have H:=H1;clear H1;have HC6:=Qa.mk H;clear H;go_enter Tryd.func120,Tryd.ntmps120;go_upto_region 4 with (((with_reducible refine Qp (f:=108) rfl ?_);refine Xh (some 8) rfl rfl Tryd.func108 (by kernel_rfl) rfl #[.int .u8 a0] rfl (by(try simp only [List.map_toArray,List.map_cons,List.map_nil]);rfl) ?_;(with_reducible refine(X2.calls a0 false _ A3.out).mono ?_);rintro e w' ⟨rfl,⟨nd,rfl⟩⟩;refine⟨_,rfl,?_⟩))
 go_cut [12] (fun v12 wc=>∃(kq:Nat) (x12_5:Bool),v12=.bool x12_5∧Qa (Q2.j0 kq a0 a1 (-1) x12_5=some r)∧Qa (kq≤k)∧Qk w wc)
 case first=>
  have H:=HC6.out;clear HC6;by_cases c7:a0 ≥ 97
  ·rw [if_pos c7] at H;have c7b0:decide (97≤a0)=true:=decide_eq_true c7;clear c7;have H':=Qa.mk H;clear H;go_wp2
   go_meet
   case rel=>exact⟨_,(decide (a0≤102)),(by rfl),H',⟨by omega⟩,by repeat(first|exact Qk.refl _|apply Qk.step)⟩
  rw [if_neg c7] at H;have c7b0:decide (97≤a0)=false:=decide_eq_false c7;clear c7;have H':=Qa.mk H;clear H;go_wp2
  go_meet
  case rel=>exact⟨_,false,(by rfl),H',⟨by omega⟩,by repeat(first|exact Qk.refl _|apply Qk.step)⟩
 case rest=>
  clear HC6;obtain⟨kq,x12_5,rfl,HA,HJ5,⟨mc5,rfl⟩⟩ :=hcut
  cases kq with
  |zero=>exact absurd HA.out (by simp [Q2.j0])
  |succ kj5=>
   have H:=HA.out;clear HA;simp only [Q2.j0] at H;by_cases c8:x12_5=true
   ·subst c8;have H1:(if(((a0 - 97) % 256)+10) ≥ a1 then(some (-1)) else(some (((a0 - 97) % 256)+10)))=some r:=by rw [if_pos rfl] at H;exact H
    clear H;have H:=H1;clear H1;by_cases c9:(((a0 - 97) % 256)+10) ≥ a1
    ·rw [if_pos c9] at H;have c9b0:decide (a1≤(((a0 - 97) % 256)+10))=true:=decide_eq_true c9;clear c9;obtain rfl:=Option.some.inj H;go_wp2;go_ret;exact⟨by rfl,by repeat(first|exact Qk.refl _|apply Qk.step)⟩
    rw [if_neg c9] at H;have c9b0:decide (a1≤(((a0 - 97) % 256)+10))=false:=decide_eq_false c9;clear c9;obtain rfl:=Option.some.inj H;go_wp2;go_ret;exact⟨by rfl,by repeat(first|exact Qk.refl _|apply Qk.step)⟩
   replace c8:=Bool.eq_false_iff.mpr c8;subst c8;have H1:(if a0 ≥ 65 then(Q2.j1 kj5 a0 a1 (-1) (decide (a0≤70))) else(Q2.j1 kj5 a0 a1 (-1) false))=some r:=by rw [if_neg (show ¬(false=true) by decide)] at H;exact H
   clear H;have H:=H1;clear H1;have HC10:=Qa.mk H;clear H;go_upto_region 6 with (fail)
   go_cut [23] (fun v23 wc=>∃(kq:Nat) (x23_9:Bool),v23=.bool x23_9∧Qa (Q2.j1 kq a0 a1 (-1) x23_9=some r)∧Qa (kq≤kj5)∧Qk w wc)
   case first=>
    have H:=HC10.out;clear HC10;by_cases c11:a0 ≥ 65
    ·rw [if_pos c11] at H;have c11b0:decide (65≤a0)=true:=decide_eq_true c11;clear c11;have H':=Qa.mk H;clear H;go_wp2
     go_meet
     case rel=>exact⟨_,(decide (a0≤70)),(by rfl),H',⟨by have:=HJ5.out;omega⟩,by repeat(first|exact Qk.refl _|apply Qk.step)⟩
    rw [if_neg c11] at H;have c11b0:decide (65≤a0)=false:=decide_eq_false c11;clear c11;have H':=Qa.mk H;clear H;go_wp2
    go_meet
    case rel=>exact⟨_,false,(by rfl),H',⟨by have:=HJ5.out;omega⟩,by repeat(first|exact Qk.refl _|apply Qk.step)⟩
   case rest=>
    clear HC10;obtain⟨kq,x23_9,rfl,HA,HJ9,⟨mc9,rfl⟩⟩ :=hcut
    cases kq with
    |zero=>exact absurd HA.out (by simp [Q2.j1])
    |succ kj9=>
     have H:=HA.out;clear HA;simp only [Q2.j1] at H;by_cases c12:x23_9=true
     ·subst c12;have H1:(if(((a0 - 65) % 256)+10) ≥ a1 then(some (-1)) else(some (((a0 - 65) % 256)+10)))=some r:=by rw [if_pos rfl] at H;exact H
      clear H;have H:=H1;clear H1;by_cases c13:(((a0 - 65) % 256)+10) ≥ a1
      ·rw [if_pos c13] at H;have c13b0:decide (a1≤(((a0 - 65) % 256)+10))=true:=decide_eq_true c13;clear c13;obtain rfl:=Option.some.inj H;go_wp2;go_ret;exact⟨by rfl,by repeat(first|exact Qk.refl _|apply Qk.step)⟩
      rw [if_neg c13] at H;have c13b0:decide (a1≤(((a0 - 65) % 256)+10))=false:=decide_eq_false c13;clear c13;obtain rfl:=Option.some.inj H;go_wp2;go_ret;exact⟨by rfl,by repeat(first|exact Qk.refl _|apply Qk.step)⟩
     replace c12:=Bool.eq_false_iff.mpr c12;subst c12;have H1:(if(-1) ≥ a1 then(some (-1)) else(some (-1)))=some r:=by rw [if_neg (show ¬(false=true) by decide)] at H;exact H
     clear H;have H:=H1;clear H1;by_cases c14:(-1) ≥ a1
     ·rw [if_pos c14] at H;have c14b0:decide (a1≤(-1))=true:=decide_eq_true c14;clear c14;obtain rfl:=Option.some.inj H;go_wp2;go_ret;exact⟨by rfl,by repeat(first|exact Qk.refl _|apply Qk.step)⟩
     rw [if_neg c14] at H;have c14b0:decide (a1≤(-1))=false:=decide_eq_false c14;clear c14;obtain rfl:=Option.some.inj H;go_wp2;go_ret;exact⟨by rfl,by repeat(first|exact Qk.refl _|apply Qk.step)⟩
mutual
def Qc.j0:Nat→ByteArray→Int→Bool→Option (Int×Int)
 |0,_,_,_=>none
 |k+1,x0,x4,x26=>if x26=true then(if 2≤(x0.size:Int) then(Qc.j1 k (x0.extract 2 x0.size) 16) else(none)) else(if(x0.size:Int) > 1 then(if 0 < (x0.size:Int) then(if(bt x0 0)=48 then(if 1≤(x0.size:Int) then(Qc.j1 k (x0.extract 1 x0.size) 8) else(none)) else(Qc.j1 k x0 x4)) else(none)) else(Qc.j1 k x0 x4))
def Qc.j1:Nat→ByteArray→Int→Option (Int×Int)
 |0,_,_=>none
 |k+1,x0,x4=>if x0.toList=([]:List UInt8) then(some (0,6)) else(Qc.l0 k x0 x4 0)
def Qc.l0:Nat→ByteArray→Int→Int→Option (Int×Int)
 |0,_,_,_=>none
 |k+1,x0,x4,x5=>if x5 < (x0.size:Int) then(if 0≤x5 then((Q2.f k (bt x0 x5) x4).bind fun t171=>(if t171 < 0 then(some (0,6)) else(Qc.l0 k x0 x4 (wrap64 (x5+1))))) else(none)) else(Qc.l1 k x0 x4 0 0)
def Qc.l1:Nat→ByteArray→Int→Int→Int→Option (Int×Int)
 |0,_,_,_,_=>none
 |k+1,x0,x4,x6,x7=>if x7 < (x0.size:Int) then(if 0≤x7 then((Q2.f k (bt x0 x7) x4).bind fun t172=>(if(IntKind.u64.wrap (x4))=0 then(none) else(if x6 > (IntKind.u64.wrap (Int.tdiv (IntKind.u64.wrap (9223372036854775808 - (IntKind.u64.wrap (t172)))) (IntKind.u64.wrap (x4)))) then(some (0,14)) else(Qc.l1 k x0 x4 (IntKind.u64.wrap ((IntKind.u64.wrap (x6*(IntKind.u64.wrap (x4))))+(IntKind.u64.wrap (t172)))) (wrap64 (x7+1)))))) else(none)) else(some (x6,0))
end
def Qc.f (k:Nat) (a0:ByteArray):Option (Int×Int):=if(a0.size:Int) > 2 then(if 0 < (a0.size:Int) then(if(bt a0 0)=48 then(if 1 < (a0.size:Int) then(if(bt a0 1)=120 then(Qc.j0 k a0 10 true) else(Qc.j0 k a0 10 ((bt a0 1)==88))) else(none)) else(Qc.j0 k a0 10 false)) else(none)) else(Qc.j0 k a0 10 false)
theorem Qc.mono_l:∀k,(∀y0 y1 y2,LeO (Qc.j0 k y0 y1 y2) (Qc.j0 (k+1) y0 y1 y2))∧(∀y0 y1,LeO (Qc.j1 k y0 y1) (Qc.j1 (k+1) y0 y1))∧(∀y0 y1 y2,LeO (Qc.l0 k y0 y1 y2) (Qc.l0 (k+1) y0 y1 y2))∧(∀y0 y1 y2 y3,LeO (Qc.l1 k y0 y1 y2 y3) (Qc.l1 (k+1) y0 y1 y2 y3))
 |0=>⟨fun _ _ _ r h=>by simp [Qc.j0] at h,fun _ _ r h=>by simp [Qc.j1] at h,fun _ _ _ r h=>by simp [Qc.l0] at h,fun _ _ _ _ r h=>by simp [Qc.l1] at h⟩
 |k+1=>by
  obtain⟨ih0,ih1,ih2,ih3⟩ :=Qc.mono_l k;refine⟨?_,?_,?_,?_⟩
  ·intro y0 y1 y2;unfold Qc.j0;repeat' first
   |(with_reducible exact ih1 _ _)
   |(with_reducible exact LeO.refl _)
   |(with_reducible refine LeO.ite ?_ ?_)
  ·intro y0 y1;unfold Qc.j1;repeat' first
   |(with_reducible exact ih2 _ _ _)
   |(with_reducible exact LeO.refl _)
   |(with_reducible refine LeO.ite ?_ ?_)
  ·intro y0 y1 y2;unfold Qc.l0;repeat' first
   |(with_reducible exact ih2 _ _ _)
   |(with_reducible exact ih3 _ _ _ _)
   |(with_reducible exact Q2.mono _ _ _)
   |(with_reducible exact LeO.refl _)
   |(with_reducible refine LeO.ite ?_ ?_)
   |(with_reducible refine LeO.bind ?_ (fun _=>?_))
  ·intro y0 y1 y2 y3;unfold Qc.l1;repeat' first
   |(with_reducible exact ih3 _ _ _ _)
   |(with_reducible exact Q2.mono _ _ _)
   |(with_reducible exact LeO.refl _)
   |(with_reducible refine LeO.ite ?_ ?_)
   |(with_reducible refine LeO.bind ?_ (fun _=>?_))
theorem Qc.mono:∀a0 k,LeO (Qc.f k a0) (Qc.f (k+1) a0):=by
 intro a0 k;obtain⟨ih0,ih1,ih2,ih3⟩ :=Qc.mono_l k;unfold Qc.f
 repeat' first
  |(with_reducible exact ih0 _ _ _)
  |(with_reducible exact LeO.refl _)
  |(with_reducible refine LeO.ite ?_ ?_)
set_option maxHeartbeats 8000000 in
set_option maxRecDepth 100000 in
theorem Qc.calls (k:Nat) (a0:ByteArray) (r1:Int) (r2:Int) (w:World) (h:Qc.f k a0=some (r1,r2)):
 Calls Tryd.prog 90 #[.string a0] w fun e w'=>e=.returned (.tuple #[.int .u64 r1,.int .i64 r2])∧Qk w w':=by
 have H:(if(a0.size:Int) > 2 then(if 0 < (a0.size:Int) then(if(bt a0 0)=48 then(if 1 < (a0.size:Int) then(if(bt a0 1)=120 then(Qc.j0 k a0 10 true) else(Qc.j0 k a0 10 ((bt a0 1)==88))) else(none)) else(Qc.j0 k a0 10 false)) else(none)) else(Qc.j0 k a0 10 false))=some (r1,r2):=h;clear h;have HC2:=Qa.mk H;clear H;go_enter Tryd.func90,Tryd.ntmps90;go_upto_region 2 with (fail)
 go_cut [26] (fun v26 wc=>∃(kq:Nat) (x26_1:Bool),v26=.bool x26_1∧Qa (Qc.j0 kq a0 10 x26_1=some (r1,r2))∧Qa (kq≤k)∧Qk w wc)
 case first=>
  have H:=HC2.out;clear HC2;by_cases c3:(a0.size:Int) > 2
  rotate_left
  ·rw [if_neg c3] at H;have c3b0:decide (2 < (a0.size:Int))=false:=decide_eq_false c3;clear c3;have H':=Qa.mk H;clear H;go_wp2
   go_meet
   case rel=>exact⟨_,false,(by rfl),H',⟨by omega⟩,by repeat(exact Qk.refl _)⟩
  rw [if_pos c3] at H;have c3b0:decide (2 < (a0.size:Int))=true:=decide_eq_true c3;clear c3;by_cases c4:0 < (a0.size:Int)
  rotate_left
  ·rw [if_neg c4] at H;exact absurd H (by simp)
  rw [if_pos c4] at H;have c4b0:decide (0 < (a0.size:Int))=true:=decide_eq_true c4;clear c4;by_cases c6:(bt a0 0)=48
  rotate_left
  ·rw [if_neg c6] at H;have c6b0:((bt a0 0)==48)=false:=beq_eq_false_iff_ne.mpr c6;have H':=Qa.mk H;clear H;have q5:0 < a0.size:=(by have:(0 :Int) < (a0.size:Int):=of_decide_eq_true (by(with_reducible assumption));omega);have hx5:∀h:0 < a0.size,((a0[0]'h).toNat:Int)=bt a0 0 :=Zp a0 0;replace q5:=eq_true q5;go_wp2
   go_meet
   case rel=>exact⟨_,false,(by rfl),H',⟨by omega⟩,by repeat(exact Qk.refl _)⟩
  rw [if_pos c6] at H;have c6b0:((bt a0 0)==48)=true:=beq_iff_eq.mpr c6;clear c6;by_cases c7:1 < (a0.size:Int)
  rotate_left
  ·rw [if_neg c7] at H;exact absurd H (by simp)
  rw [if_pos c7] at H;have c7b0:decide (1 < (a0.size:Int))=true:=decide_eq_true c7;clear c7;by_cases c9:(bt a0 1)=120
  ·rw [if_pos c9] at H;have c9b0:((bt a0 1)==120)=true:=beq_iff_eq.mpr c9;clear c9;have H':=Qa.mk H;clear H;have q5:0 < a0.size:=(by have:(0 :Int) < (a0.size:Int):=of_decide_eq_true (by(with_reducible assumption));omega);have hx5:∀h:0 < a0.size,((a0[0]'h).toNat:Int)=bt a0 0 :=Zp a0 0;replace q5:=eq_true q5;have q8:1 < a0.size:=(by have:(1 :Int) < (a0.size:Int):=of_decide_eq_true (by(with_reducible assumption));omega);have hx8:∀h:1 < a0.size,((a0[1]'h).toNat:Int)=bt a0 1 :=Zp a0 1;have qi8:(1 < (a0.size:Int))=True:=eq_true (of_decide_eq_true (by(with_reducible assumption)));replace q8:=eq_true q8;go_wp2
   go_meet
   case rel=>exact⟨_,true,(by rfl),H',⟨by omega⟩,by repeat(exact Qk.refl _)⟩
  rw [if_neg c9] at H;have c9b0:((bt a0 1)==120)=false:=beq_eq_false_iff_ne.mpr c9;have H':=Qa.mk H;clear H;have q5:0 < a0.size:=(by have:(0 :Int) < (a0.size:Int):=of_decide_eq_true (by(with_reducible assumption));omega);have hx5:∀h:0 < a0.size,((a0[0]'h).toNat:Int)=bt a0 0 :=Zp a0 0;replace q5:=eq_true q5;have q8:1 < a0.size:=(by have:(1 :Int) < (a0.size:Int):=of_decide_eq_true (by(with_reducible assumption));omega);have hx8:∀h:1 < a0.size,((a0[1]'h).toNat:Int)=bt a0 1 :=Zp a0 1;have qi8:(1 < (a0.size:Int))=True:=eq_true (of_decide_eq_true (by(with_reducible assumption)));replace q8:=eq_true q8;have q10:1 < a0.size:=(by have:(1 :Int) < (a0.size:Int):=of_decide_eq_true (by(with_reducible assumption));omega);replace q10:=eq_true q10;go_wp2
  go_meet
  case rel=>exact⟨_,(((bt a0 1)==88)),(by rfl),H',⟨by omega⟩,by repeat(exact Qk.refl _)⟩
 case rest=>
  clear HC2;obtain⟨kq,x26_1,rfl,HA,HJ1,⟨mc1,rfl⟩⟩ :=hcut
  cases kq with
  |zero=>exact absurd HA.out (by simp [Qc.j0])
  |succ kj1=>
   have H:=HA.out;clear HA;simp only [Qc.j0] at H;have HC11:=Qa.mk H;clear H;go_upto_if 26 with (fail)
   go_cut [0,4] (fun v0 v4 wc=>∃(kq:Nat) (x0_10:ByteArray) (x4_10:Int),v0=.string x0_10∧v4=.int .i64 x4_10∧Qa (Qc.j1 kq x0_10 x4_10=some (r1,r2))∧Qa (kq≤kj1)∧Qk w wc)
   case first=>
    have H:=HC11.out;clear HC11;by_cases c12:x26_1=true
    ·subst c12;have H1:(if 2≤(a0.size:Int) then(Qc.j1 kj1 (a0.extract 2 a0.size) 16) else(none))=some (r1,r2):=by rw [if_pos rfl] at H;exact H
     clear H;have H:=H1;clear H1;by_cases c13:2≤(a0.size:Int)
     rotate_left
     ·rw [if_neg c13] at H;exact absurd H (by simp)
     rw [if_pos c13] at H;have c13b0:=eq_true c13;clear c13;have H':=Qa.mk H;clear H;go_wp2
     go_meet
     case rel=>exact⟨_,(a0.extract 2 a0.size),16,(by rfl),(by rfl),H',⟨by have:=HJ1.out;omega⟩,by repeat(first|exact Qk.refl _|apply Qk.step)⟩
    replace c12:=Bool.eq_false_iff.mpr c12;subst c12;have H1:(if(a0.size:Int) > 1 then(if 0 < (a0.size:Int) then(if(bt a0 0)=48 then(if 1≤(a0.size:Int) then(Qc.j1 kj1 (a0.extract 1 a0.size) 8) else(none)) else(Qc.j1 kj1 a0 10)) else(none)) else(Qc.j1 kj1 a0 10))=some (r1,r2):=by rw [if_neg (show ¬(false=true) by decide)] at H;exact H
    clear H;have H:=H1;clear H1;by_cases c14:(a0.size:Int) > 1
    rotate_left
    ·rw [if_neg c14] at H;have c14b0:decide (1 < (a0.size:Int))=false:=decide_eq_false c14;clear c14;have H':=Qa.mk H;clear H;go_wp2
     go_meet
     case rel=>exact⟨_,a0,10,(by rfl),(by rfl),H',⟨by have:=HJ1.out;omega⟩,by repeat(first|exact Qk.refl _|apply Qk.step)⟩
    rw [if_pos c14] at H;have c14b0:decide (1 < (a0.size:Int))=true:=decide_eq_true c14;clear c14;by_cases c15:0 < (a0.size:Int)
    rotate_left
    ·rw [if_neg c15] at H;exact absurd H (by simp)
    rw [if_pos c15] at H;have c15b0:decide (0 < (a0.size:Int))=true:=decide_eq_true c15;clear c15;by_cases c17:(bt a0 0)=48
    rotate_left
    ·rw [if_neg c17] at H;have c17b0:((bt a0 0)==48)=false:=beq_eq_false_iff_ne.mpr c17;have H':=Qa.mk H;clear H;have q16:0 < a0.size:=(by have:(0 :Int) < (a0.size:Int):=of_decide_eq_true (by(with_reducible assumption));omega);have hx16:∀h:0 < a0.size,((a0[0]'h).toNat:Int)=bt a0 0 :=Zp a0 0;replace q16:=eq_true q16;go_wp2
     go_meet
     case rel=>exact⟨_,a0,10,(by rfl),(by rfl),H',⟨by have:=HJ1.out;omega⟩,by repeat(first|exact Qk.refl _|apply Qk.step)⟩
    rw [if_pos c17] at H;have c17b0:((bt a0 0)==48)=true:=beq_iff_eq.mpr c17;clear c17;by_cases c18:1≤(a0.size:Int)
    rotate_left
    ·rw [if_neg c18] at H;exact absurd H (by simp)
    rw [if_pos c18] at H;have c18b0:=eq_true c18;clear c18;have H':=Qa.mk H;clear H;have q16:0 < a0.size:=(by have:(0 :Int) < (a0.size:Int):=of_decide_eq_true (by(with_reducible assumption));omega);have hx16:∀h:0 < a0.size,((a0[0]'h).toNat:Int)=bt a0 0 :=Zp a0 0;replace q16:=eq_true q16;go_wp2
    go_meet
    case rel=>exact⟨_,(a0.extract 1 a0.size),8,(by rfl),(by rfl),H',⟨by have:=HJ1.out;omega⟩,by repeat(first|exact Qk.refl _|apply Qk.step)⟩
   case rest=>
    clear HC11;obtain⟨kq,x0_10,x4_10,rfl,rfl,HA,HJ10,⟨mc10,rfl⟩⟩ :=hcut
    cases kq with
    |zero=>exact absurd HA.out (by simp [Qc.j1])
    |succ kj10=>
     have H:=HA.out;clear HA;simp only [Qc.j1] at H;by_cases c19:x0_10.toList=([]:List UInt8)
     ·rw [if_pos c19] at H;have c19b0:(x0_10.toList==([]:List UInt8))=true:=beq_iff_eq.mpr c19;clear c19;simp only [Option.some.injEq,Prod.mk.injEq] at H;obtain⟨rfl,rfl⟩ :=H;go_wp2;go_ret2;exact⟨by rfl,by repeat(first|exact Qk.refl _|apply Qk.step)⟩
     rw [if_neg c19] at H;have c19b0:(x0_10.toList==([]:List UInt8))=false:=beq_eq_false_iff_ne.mpr c19;have H':=Qa.mk H;clear H;go_wp2
     go_loopg [5] kj10 (fun kq v5 w'=>∃(x5_3:Int),v5=.int .i64 x5_3∧Qa (Qc.l0 kq x0_10 x4_10 x5_3=some (r1,r2))∧Qa (kq≤kj10)∧Qk w w')
     case atStart=>exact⟨0,(by rfl),H',⟨Nat.le_refl _⟩,by repeat(first|exact Qk.refl _|apply Qk.step)⟩
     case round=>
      clear H';(try clear c19);(try clear c19b0);obtain⟨x5_3,rfl,HA,HK3,⟨m3,rfl⟩⟩ :=hrel
      cases gk with
      |zero=>exact absurd HA.out (by simp [Qc.l0])
      |succ k3=>
       have H:=HA.out;clear HA;simp only [Qc.l0] at H;by_cases c20:x5_3 < (x0_10.size:Int)
       ·rw [if_pos c20] at H;have c20b0:decide (x5_3 < (x0_10.size:Int))=true:=decide_eq_true c20;clear c20;by_cases c21:0≤x5_3
        rotate_left
        ·rw [if_neg c21] at H;exact absurd H (by simp)
        rw [if_pos c21] at H;have c21b0:decide (0≤x5_3)=true:=decide_eq_true c21;clear c21;replace H:=Option.bind_eq_some_iff.mp H;obtain⟨t171,A230,H⟩ :=H;try dsimp only at H
        have A23:=Qa.mk A230;clear A230;by_cases c24:t171 < 0
        ·rw [if_pos c24] at H;have c24b0:decide (t171 < 0)=true:=decide_eq_true c24;clear c24;simp only [Option.some.injEq,Prod.mk.injEq] at H;obtain⟨rfl,rfl⟩ :=H;have p22:0≤(x5_3:Int):=of_decide_eq_true (by(with_reducible assumption));have q22:x5_3 < (x0_10.size:Int):=of_decide_eq_true (by(with_reducible assumption));have hx22:=Zp x0_10 x5_3;replace p22:=eq_true p22;replace q22:=eq_true q22;go_wp2_with(((with_reducible refine Qp (f:=120) rfl ?_);refine Xh (some 51) rfl rfl Tryd.func120 (by kernel_rfl) rfl #[.int .u8 (bt x0_10 x5_3),.int .i64 x4_10] rfl (by(try simp only [List.map_toArray,List.map_cons,List.map_nil]);rfl) ?_;(with_reducible refine(Q2.calls k3 (bt x0_10 x5_3) x4_10 t171 _ A23.out).mono ?_);rintro e w' ⟨rfl,⟨nd,rfl⟩⟩;refine⟨_,rfl,?_⟩));go_ret2;exact⟨by rfl,by repeat(first|exact Qk.refl _|apply Qk.step)⟩
        rw [if_neg c24] at H;have c24b0:decide (t171 < 0)=false:=decide_eq_false c24;clear c24;have H':=Qa.mk H;clear H;have p22:0≤(x5_3:Int):=of_decide_eq_true (by(with_reducible assumption));have q22:x5_3 < (x0_10.size:Int):=of_decide_eq_true (by(with_reducible assumption));have hx22:=Zp x0_10 x5_3;replace p22:=eq_true p22;replace q22:=eq_true q22;go_wp2_with(((with_reducible refine Qp (f:=120) rfl ?_);refine Xh (some 51) rfl rfl Tryd.func120 (by kernel_rfl) rfl #[.int .u8 (bt x0_10 x5_3),.int .i64 x4_10] rfl (by(try simp only [List.map_toArray,List.map_cons,List.map_nil]);rfl) ?_;(with_reducible refine(Q2.calls k3 (bt x0_10 x5_3) x4_10 t171 _ A23.out).mono ?_);rintro e w' ⟨rfl,⟨nd,rfl⟩⟩;refine⟨_,rfl,?_⟩))
        go_roundg k3
        case measure=>have:=HJ1.out;have:=HJ10.out;have:=HK3.out;omega
        case rel=>exact⟨(wrap64 (x5_3+1)),(by rfl),H',⟨by have:=HJ1.out;have:=HJ10.out;have:=HK3.out;omega⟩,by repeat(first|exact Qk.refl _|apply Qk.step)⟩
       rw [if_neg c20] at H;have c20b0:decide (x5_3 < (x0_10.size:Int))=false:=decide_eq_false c20;clear c20;have H':=Qa.mk H;clear H;go_wp2
       go_loopg [6,7] k3 (fun kq v6 v7 w'=>∃(x6_4:Int) (x7_4:Int),v6=.int .u64 x6_4∧v7=.int .i64 x7_4∧Qa (Qc.l1 kq x0_10 x4_10 x6_4 x7_4=some (r1,r2))∧Qa (kq≤k3)∧Qk w w')
       case atStart=>exact⟨0,0,(by rfl),(by rfl),H',⟨Nat.le_refl _⟩,by repeat(first|exact Qk.refl _|apply Qk.step)⟩
       case round=>
        clear H';(try clear c20b0);obtain⟨x6_4,x7_4,rfl,rfl,HA,HK4,⟨m4,rfl⟩⟩ :=hrel
        cases gk with
        |zero=>exact absurd HA.out (by simp [Qc.l1])
        |succ k4=>
         have H:=HA.out;clear HA;simp only [Qc.l1] at H;by_cases c25:x7_4 < (x0_10.size:Int)
         rotate_left
         ·rw [if_neg c25] at H;have c25b0:decide (x7_4 < (x0_10.size:Int))=false:=decide_eq_false c25;clear c25;simp only [Option.some.injEq,Prod.mk.injEq] at H;obtain⟨rfl,rfl⟩ :=H;go_wp2;go_ret2;exact⟨by rfl,by repeat(first|exact Qk.refl _|apply Qk.step)⟩
         rw [if_pos c25] at H;have c25b0:decide (x7_4 < (x0_10.size:Int))=true:=decide_eq_true c25;clear c25;by_cases c26:0≤x7_4
         rotate_left
         ·rw [if_neg c26] at H;exact absurd H (by simp)
         rw [if_pos c26] at H;have c26b0:decide (0≤x7_4)=true:=decide_eq_true c26;clear c26;replace H:=Option.bind_eq_some_iff.mp H;obtain⟨t172,A280,H⟩ :=H;try dsimp only at H
         have A28:=Qa.mk A280;clear A280;by_cases c29:(IntKind.u64.wrap (x4_10))=0
         ·rw [if_pos c29] at H;exact absurd H (by simp)
         rw [if_neg c29] at H;by_cases c30:x6_4 > (IntKind.u64.wrap (Int.tdiv (IntKind.u64.wrap (9223372036854775808 - (IntKind.u64.wrap (t172)))) (IntKind.u64.wrap (x4_10))))
         ·rw [if_pos c30] at H;have c30b0:decide ((IntKind.u64.wrap (Int.tdiv (IntKind.u64.wrap (9223372036854775808 - (IntKind.u64.wrap (t172)))) (IntKind.u64.wrap (x4_10)))) < x6_4)=true:=decide_eq_true c30;clear c30;simp only [Option.some.injEq,Prod.mk.injEq] at H;obtain⟨rfl,rfl⟩ :=H;have p27:0≤(x7_4:Int):=of_decide_eq_true (by(with_reducible assumption));have q27:x7_4 < (x0_10.size:Int):=of_decide_eq_true (by(with_reducible assumption));have hx27:=Zp x0_10 x7_4;replace p27:=eq_true p27;replace q27:=eq_true q27;go_wp2_with(((with_reducible refine Qp (f:=120) rfl ?_);refine Xh (some 63) rfl rfl Tryd.func120 (by kernel_rfl) rfl #[.int .u8 (bt x0_10 x7_4),.int .i64 x4_10] rfl (by(try simp only [List.map_toArray,List.map_cons,List.map_nil]);rfl) ?_;(with_reducible refine(Q2.calls k4 (bt x0_10 x7_4) x4_10 t172 _ A28.out).mono ?_);rintro e w' ⟨rfl,⟨nd,rfl⟩⟩;refine⟨_,rfl,?_⟩));go_ret2;exact⟨by rfl,by repeat(first|exact Qk.refl _|apply Qk.step)⟩
         rw [if_neg c30] at H;have c30b0:decide ((IntKind.u64.wrap (Int.tdiv (IntKind.u64.wrap (9223372036854775808 - (IntKind.u64.wrap (t172)))) (IntKind.u64.wrap (x4_10)))) < x6_4)=false:=decide_eq_false c30;clear c30;have H':=Qa.mk H;clear H;have p27:0≤(x7_4:Int):=of_decide_eq_true (by(with_reducible assumption));have q27:x7_4 < (x0_10.size:Int):=of_decide_eq_true (by(with_reducible assumption));have hx27:=Zp x0_10 x7_4;replace p27:=eq_true p27;replace q27:=eq_true q27;go_wp2_with(((with_reducible refine Qp (f:=120) rfl ?_);refine Xh (some 63) rfl rfl Tryd.func120 (by kernel_rfl) rfl #[.int .u8 (bt x0_10 x7_4),.int .i64 x4_10] rfl (by(try simp only [List.map_toArray,List.map_cons,List.map_nil]);rfl) ?_;(with_reducible refine(Q2.calls k4 (bt x0_10 x7_4) x4_10 t172 _ A28.out).mono ?_);rintro e w' ⟨rfl,⟨nd,rfl⟩⟩;refine⟨_,rfl,?_⟩))
         go_roundg k4
         case measure=>have:=HJ1.out;have:=HJ10.out;have:=HK3.out;have:=HK4.out;omega
         case rel=>exact⟨(IntKind.u64.wrap ((IntKind.u64.wrap (x6_4*(IntKind.u64.wrap (x4_10))))+(IntKind.u64.wrap (t172)))),(wrap64 (x7_4+1)),(by rfl),(by rfl),H',⟨by have:=HJ1.out;have:=HJ10.out;have:=HK3.out;have:=HK4.out;omega⟩,by repeat(first|exact Qk.refl _|apply Qk.step)⟩
def Qv.f (k:Nat) (s0_0:ByteArray) (s0_1:Int) (s0_2:Int) (s0_3:Int) (a1:ByteArray):Option (Bool×ByteArray×Int×Int×Int):=if s0_2=0 then((Qi.f k s0_0 s0_1 s0_2 s0_3).bind fun bt173=>(if bt173.1.toList=a1.toList then(some (true,bt173.2.1,wrap64 (bt173.2.2.1+(a1.size:Int)),bt173.2.2.2.1,bt173.2.2.2.2)) else(some (false,bt173.2.1,bt173.2.2.1,bt173.2.2.2.1,bt173.2.2.2.2)))) else(some (false,s0_0,s0_1,s0_2,s0_3))
theorem Qv.mono:∀a0 a1 a2 a3 a4 k,LeO (Qv.f k a0 a1 a2 a3 a4) (Qv.f (k+1) a0 a1 a2 a3 a4):=by
 intro a0 a1 a2 a3 a4 k;unfold Qv.f
 repeat' first
  |(with_reducible exact Qi.mono _ _ _ _ _)
  |(with_reducible exact LeO.refl _)
  |(with_reducible refine LeO.ite ?_ ?_)
  |(with_reducible refine LeO.bind ?_ (fun _=>?_))
set_option maxHeartbeats 8000000 in
set_option maxRecDepth 100000 in
theorem Qv.calls (k:Nat) (g:Nat) (s0_0:ByteArray) (s0_1:Int) (s0_2:Int) (s0_3:Int) (a1:ByteArray) (r1:Bool) (r2:ByteArray) (r3:Int) (r4:Int) (r5:Int) (w0 w:World) (hI:Qw w0 w g s0_0 s0_1 s0_2 s0_3) (hB:Below w0.heap.size w0 w) (h:Qv.f k s0_0 s0_1 s0_2 s0_3 a1=some (r1,r2,r3,r4,r5)):
 Calls Tryd.prog 113 #[.pointer (some ⟨g,0,none⟩),.string a1] w fun e w'=>e=.returned (.bool r1)∧Qw w0 w' g r2 r3 r4 r5∧Below w0.heap.size w0 w'∧Qe w w' g none:=by
 have HI0:=Qa.mk hI;have HK:=Qa.mk (Qe.refl w g none);clear hI;have HB:=Qa.mk hB;clear hB;have H:(if s0_2=0 then((Qi.f k s0_0 s0_1 s0_2 s0_3).bind fun bt173=>(if bt173.1.toList=a1.toList then(some (true,bt173.2.1,wrap64 (bt173.2.2.1+(a1.size:Int)),bt173.2.2.2.1,bt173.2.2.2.2)) else(some (false,bt173.2.1,bt173.2.2.1,bt173.2.2.2.1,bt173.2.2.2.2)))) else(some (false,s0_0,s0_1,s0_2,s0_3)))=some (r1,r2,r3,r4,r5):=h
 clear h;by_cases c3:s0_2=0
 rotate_left
 ·rw [if_neg c3] at H;have c3b1:(s0_2 !=0)=true:=bne_iff_ne.mpr c3;simp only [Option.some.injEq,Prod.mk.injEq] at H;obtain⟨rfl,rfl,rfl,rfl,rfl⟩ :=H;obtain⟨HGz11,hgz11⟩ :=HI0.out;have hcz11_2:=Yj HGz11;clear HGz11 hgz11;go_enter Tryd.func113,Tryd.ntmps113;go_wp2;go_ret;exact⟨by rfl,HI0.out,HB.out,HK.out⟩
 rw [if_pos c3] at H;have c3b1:(s0_2 !=0)=false:=bne_eq_false_iff_eq.mpr c3;clear c3;replace H:=Option.bind_eq_some_iff.mp H;obtain⟨⟨t173,t174,t175,t176,t177⟩,A40,H⟩ :=H;try dsimp only at H
 have A4:=Qa.mk A40;clear A40;by_cases c5:t173.toList=a1.toList
 rotate_left
 ·rw [if_neg c5] at H;have c5b0:(t173.toList==a1.toList)=false:=beq_eq_false_iff_ne.mpr c5;simp only [Option.some.injEq,Prod.mk.injEq] at H;obtain⟨rfl,rfl,rfl,rfl,rfl⟩ :=H;obtain⟨HGz9,hgz9⟩ :=HI0.out;have hcz9_2:=Yj HGz9;clear HGz9 hgz9;go_enter Tryd.func113,Tryd.ntmps113;go_wp2_with((go_at_call 75;(with_reducible refine(Qi.calls k g s0_0 s0_1 s0_2 s0_3 t173 t174 t175 t176 t177 w0 _ HI0.out HB.out A4.out).mono ?_);rintro e w10 ⟨rfl,hi,hb,hk⟩;replace HK:=Qa.mk (Qe.trans HK.out hk (.inl rfl));replace HB:=Qa.mk hb;replace HI0:=Qa.mk hi;(try clear hb);(try clear hk);(try clear hi)));go_ret;exact⟨by rfl,HI0.out,HB.out,HK.out⟩
 rw [if_pos c5] at H;have c5b0:(t173.toList==a1.toList)=true:=beq_iff_eq.mpr c5;clear c5;simp only [Option.some.injEq,Prod.mk.injEq] at H;obtain⟨rfl,rfl,rfl,rfl,rfl⟩ :=H;obtain⟨HGz6,hgz6⟩ :=HI0.out;have hcz6_2:=Yj HGz6;clear HGz6 hgz6;go_enter Tryd.func113,Tryd.ntmps113;go_wp2_with((go_at_call 75;(with_reducible refine(Qi.calls k g s0_0 s0_1 s0_2 s0_3 t173 t174 t175 t176 t177 w0 _ HI0.out HB.out A4.out).mono ?_);rintro e w7 ⟨rfl,hi,hb,hk⟩;replace HK:=Qa.mk (Qe.trans HK.out hk (.inl rfl));replace HB:=Qa.mk hb;replace HI0:=Qa.mk hi;(try clear hb);(try clear hk);(try clear hi);obtain⟨HGz8,hgz8⟩ :=HI0.out;have hcz8_1:=Zi HGz8;have hfz8_1:=Qd HGz8 1;clear HGz8 hgz8));go_ret;exact⟨by rfl,by repeat(with_reducible first|exact HI0.out|apply Qw.set_1),by repeat((with_reducible first|exact HB.out|refine Xf ?_ (Qw.ge HI0.out))),by repeat(with_reducible first|exact HK.out|apply Qe.set_)⟩
def Qo.j0 [Y0]:Nat→ByteArray→Int→Int→Bool→ByteArray→Int→Int→Int→Option (Int×Int×ByteArray×(List (S26))×ByteArray×Int×Int×Int)
 |0,_,_,_,_,_,_,_,_=>none
 |k+1,x4,x5,x6,x74,x1000,x1001,x1002,x1003=>if x74=true then(if 14=0 then(some (1,wrap64 (x5),(⟨#[]⟩ :ByteArray),([]:List (S26)),x1000,wrap64 (x1001+(x4.size:Int)),x1002,x1003)) else((Qn.f x1000 x1001 x1002 x1003 14 x1001).bind fun bt148=>(some (0,0,(⟨#[]⟩ :ByteArray),([]:List (S26)),bt148.1,bt148.2.1,bt148.2.2.1,bt148.2.2.2)))) else(if x6=0 then(some (1,wrap64 (x5),(⟨#[]⟩ :ByteArray),([]:List (S26)),x1000,wrap64 (x1001+(x4.size:Int)),x1002,x1003)) else((Qn.f x1000 x1001 x1002 x1003 x6 x1001).bind fun bt152=>(some (0,0,(⟨#[]⟩ :ByteArray),([]:List (S26)),bt152.1,bt152.2.1,bt152.2.2.1,bt152.2.2.2))))
def Qo.f [Y0] (k:Nat) (s0_0:ByteArray) (s0_1:Int) (s0_2:Int) (s0_3:Int):Option (Int×Int×ByteArray×(List (S26))×ByteArray×Int×Int×Int):=(Qv.f k s0_0 s0_1 s0_2 s0_3 (⟨#[40]⟩ :ByteArray)).bind fun bt102=>(if bt102.1=true then((V1.f k bt102.2.1 bt102.2.2.1 bt102.2.2.2.1 bt102.2.2.2.2).bind fun bt107=>((Qv.f k bt107.2.2.2.2.1 bt107.2.2.2.2.2.1 bt107.2.2.2.2.2.2.1 bt107.2.2.2.2.2.2.2 (⟨#[41]⟩ :ByteArray)).bind fun bt118=>(if bt118.1=true then(some (bt107.1,bt107.2.1,bt107.2.2.1,bt107.2.2.2.1,bt118.2.1,bt118.2.2.1,bt118.2.2.2.1,bt118.2.2.2.2)) else((Qn.f bt118.2.1 bt118.2.2.1 bt118.2.2.2.1 bt118.2.2.2.2 6 bt118.2.2.1).bind fun bt123=>(some (bt107.1,bt107.2.1,bt107.2.2.1,bt107.2.2.2.1,bt123.1,bt123.2.1,bt123.2.2.1,bt123.2.2.2)))))) else((Qf.f k bt102.2.1 bt102.2.2.1 bt102.2.2.2.1 bt102.2.2.2.2).bind fun bt127=>((Qs.f k bt127.1 bt127.2.1 bt127.2.2.1 bt127.2.2.2).bind fun bt131=>(if bt131.2.2.2.1=0 then(if bt131.1.toList=([]:List UInt8) then((Qn.f bt131.2.1 bt131.2.2.1 bt131.2.2.2.1 bt131.2.2.2.2 6 bt131.2.2.1).bind fun bt136=>(some (0,0,(⟨#[]⟩ :ByteArray),([]:List (S26)),bt136.1,bt136.2.1,bt136.2.2.1,bt136.2.2.2))) else(if 0 < (bt131.1.size:Int) then((Q9.f (bt bt131.1 0)).bind fun t140=>(if t140=true then((Qz.f k bt131.1).bind fun t141=>(if t141=true then(some (2,0,bt131.1,([]:List (S26)),bt131.2.1,wrap64 (bt131.2.2.1+(bt131.1.size:Int)),bt131.2.2.2.1,bt131.2.2.2.2)) else((Qn.f bt131.2.1 bt131.2.2.1 bt131.2.2.2.1 bt131.2.2.2.2 10 bt131.2.2.1).bind fun bt142=>(some (2,0,bt131.1,([]:List (S26)),bt142.1,wrap64 (bt142.2.1+(bt131.1.size:Int)),bt142.2.2.1,bt142.2.2.2))))) else((Qc.f k bt131.1).bind fun bt146=>(if bt146.2=0 then(Qo.j0 k bt131.1 bt146.1 bt146.2 (decide (bt146.1 > 9223372036854775807)) bt131.2.1 bt131.2.2.1 bt131.2.2.2.1 bt131.2.2.2.2) else(Qo.j0 k bt131.1 bt146.1 bt146.2 false bt131.2.1 bt131.2.2.1 bt131.2.2.2.1 bt131.2.2.2.2))))) else(none))) else(some (0,0,(⟨#[]⟩ :ByteArray),([]:List (S26)),bt131.2.1,bt131.2.2.1,bt131.2.2.2.1,bt131.2.2.2.2))))))
theorem Qo.mono_l [Y0]:∀k,(∀y0 y1 y2 y3 y4 y5 y6 y7,LeO (Qo.j0 k y0 y1 y2 y3 y4 y5 y6 y7) (Qo.j0 (k+1) y0 y1 y2 y3 y4 y5 y6 y7))
 |0=>fun _ _ _ _ _ _ _ _ r h=>by simp [Qo.j0] at h
 |k+1=>by
  have ih0:=Qo.mono_l k
  ·intro y0 y1 y2 y3 y4 y5 y6 y7;unfold Qo.j0;repeat' (with_reducible exact LeO.refl _)
theorem Qo.mono [Y0]:∀a0 a1 a2 a3 k,LeO (Qo.f k a0 a1 a2 a3) (Qo.f (k+1) a0 a1 a2 a3):=by
 intro a0 a1 a2 a3 k;have ih0:=Qo.mono_l k;unfold Qo.f
 repeat' first
  |(with_reducible exact ih0 _ _ _ _ _ _ _ _)
  |(with_reducible exact Qz.mono _ _)
  |(with_reducible exact Qc.mono _ _)
  |(with_reducible exact Qf.mono _ _ _ _ _)
  |(with_reducible exact Qv.mono _ _ _ _ _ _)
  |(with_reducible exact V1.mono _ _ _ _ _)
  |(with_reducible exact Qs.mono _ _ _ _ _)
  |(with_reducible exact LeO.refl _)
  |(with_reducible refine LeO.ite ?_ ?_)
  |(with_reducible refine LeO.bind ?_ (fun _=>?_))
set_option maxHeartbeats 8000000 in
set_option maxRecDepth 100000 in
theorem Qo.calls [Y0] (k:Nat) (g:Nat) (s0_0:ByteArray) (s0_1:Int) (s0_2:Int) (s0_3:Int) (r1:Int) (r2:Int) (r3:ByteArray) (r4:List (S26)) (r5:ByteArray) (r6:Int) (r7:Int) (r8:Int) (w0 w:World) (hI:Qw w0 w g s0_0 s0_1 s0_2 s0_3) (hB:Below w0.heap.size w0 w) (h:Qo.f k s0_0 s0_1 s0_2 s0_3=some (r1,r2,r3,r4,r5,r6,r7,r8)):
 Calls Tryd.prog 137 #[.pointer (some ⟨g,0,none⟩)] w fun e w'=>∃v3_:Value,e=.returned (.agg #[.int .i64 r1,.int .i64 r2,.string r3,v3_])∧Kd.N k26 26 w' w.heap.size (fun k_=>(w.heap.size≤k_)) v3_ r4∧Qw w0 w' g r5 r6 r7 r8∧Below w0.heap.size w0 w'∧Qe w w' g none:=by
 have HI0:=Qa.mk hI;have HK:=Qa.mk (Qe.refl w g none);clear hI;have HW0:=Qa.mk hB.size;have HB:=Qa.mk hB;clear hB;have H:((Qv.f k s0_0 s0_1 s0_2 s0_3 (⟨#[40]⟩ :ByteArray)).bind fun bt102=>(if bt102.1=true then((V1.f k bt102.2.1 bt102.2.2.1 bt102.2.2.2.1 bt102.2.2.2.2).bind fun bt107=>((Qv.f k bt107.2.2.2.2.1 bt107.2.2.2.2.2.1 bt107.2.2.2.2.2.2.1 bt107.2.2.2.2.2.2.2 (⟨#[41]⟩ :ByteArray)).bind fun bt118=>(if bt118.1=true then(some (bt107.1,bt107.2.1,bt107.2.2.1,bt107.2.2.2.1,bt118.2.1,bt118.2.2.1,bt118.2.2.2.1,bt118.2.2.2.2)) else((Qn.f bt118.2.1 bt118.2.2.1 bt118.2.2.2.1 bt118.2.2.2.2 6 bt118.2.2.1).bind fun bt123=>(some (bt107.1,bt107.2.1,bt107.2.2.1,bt107.2.2.2.1,bt123.1,bt123.2.1,bt123.2.2.1,bt123.2.2.2)))))) else((Qf.f k bt102.2.1 bt102.2.2.1 bt102.2.2.2.1 bt102.2.2.2.2).bind fun bt127=>((Qs.f k bt127.1 bt127.2.1 bt127.2.2.1 bt127.2.2.2).bind fun bt131=>(if bt131.2.2.2.1=0 then(if bt131.1.toList=([]:List UInt8) then((Qn.f bt131.2.1 bt131.2.2.1 bt131.2.2.2.1 bt131.2.2.2.2 6 bt131.2.2.1).bind fun bt136=>(some (0,0,(⟨#[]⟩ :ByteArray),([]:List (S26)),bt136.1,bt136.2.1,bt136.2.2.1,bt136.2.2.2))) else(if 0 < (bt131.1.size:Int) then((Q9.f (bt bt131.1 0)).bind fun t140=>(if t140=true then((Qz.f k bt131.1).bind fun t141=>(if t141=true then(some (2,0,bt131.1,([]:List (S26)),bt131.2.1,wrap64 (bt131.2.2.1+(bt131.1.size:Int)),bt131.2.2.2.1,bt131.2.2.2.2)) else((Qn.f bt131.2.1 bt131.2.2.1 bt131.2.2.2.1 bt131.2.2.2.2 10 bt131.2.2.1).bind fun bt142=>(some (2,0,bt131.1,([]:List (S26)),bt142.1,wrap64 (bt142.2.1+(bt131.1.size:Int)),bt142.2.2.1,bt142.2.2.2))))) else((Qc.f k bt131.1).bind fun bt146=>(if bt146.2=0 then(Qo.j0 k bt131.1 bt146.1 bt146.2 (decide (bt146.1 > 9223372036854775807)) bt131.2.1 bt131.2.2.1 bt131.2.2.2.1 bt131.2.2.2.2) else(Qo.j0 k bt131.1 bt146.1 bt146.2 false bt131.2.1 bt131.2.2.1 bt131.2.2.2.1 bt131.2.2.2.2))))) else(none))) else(some (0,0,(⟨#[]⟩ :ByteArray),([]:List (S26)),bt131.2.1,bt131.2.2.1,bt131.2.2.2.1,bt131.2.2.2.2)))))))=some (r1,r2,r3,r4,r5,r6,r7,r8):=h
 clear h;replace H:=Option.bind_eq_some_iff.mp H;obtain⟨⟨t102,t103,t104,t105,t106⟩,A20,H⟩ :=H;try dsimp only at H
 have A2:=Qa.mk A20;clear A20;by_cases c3:t102=true
 ·subst c3;have H1:((V1.f k t103 t104 t105 t106).bind fun bt107=>((Qv.f k bt107.2.2.2.2.1 bt107.2.2.2.2.2.1 bt107.2.2.2.2.2.2.1 bt107.2.2.2.2.2.2.2 (⟨#[41]⟩ :ByteArray)).bind fun bt118=>(if bt118.1=true then(some (bt107.1,bt107.2.1,bt107.2.2.1,bt107.2.2.2.1,bt118.2.1,bt118.2.2.1,bt118.2.2.2.1,bt118.2.2.2.2)) else((Qn.f bt118.2.1 bt118.2.2.1 bt118.2.2.2.1 bt118.2.2.2.2 6 bt118.2.2.1).bind fun bt123=>(some (bt107.1,bt107.2.1,bt107.2.2.1,bt107.2.2.2.1,bt123.1,bt123.2.1,bt123.2.2.1,bt123.2.2.2))))))=some (r1,r2,r3,r4,r5,r6,r7,r8):=by rw [if_pos rfl] at H;exact H
  clear H;have H:=H1;clear H1;replace H:=Option.bind_eq_some_iff.mp H;obtain⟨⟨t107,t108,t109,t110,t113,t114,t115,t116⟩,A40,H⟩ :=H;try dsimp only at H
  have A4:=Qa.mk A40;clear A40;replace H:=Option.bind_eq_some_iff.mp H;obtain⟨⟨t118,t119,t120,t121,t122⟩,A50,H⟩ :=H;try dsimp only at H
  have A5:=Qa.mk A50;clear A50;by_cases c6:t118=true
  ·subst c6;have H1:(some (t107,t108,t109,t110,t119,t120,t121,t122))=some (r1,r2,r3,r4,r5,r6,r7,r8):=by rw [if_pos rfl] at H;exact H
   clear H;have H:=H1;clear H1;simp only [Option.some.injEq,Prod.mk.injEq] at H;obtain⟨rfl,rfl,rfl,rfl,rfl,rfl,rfl,rfl⟩ :=H;go_enter Tryd.func137,Tryd.ntmps137;go_wp2_with(first|((with_reducible refine Q0 (N:=2) rfl ?_);refine Xm ?hg (N:=2) ?hd (cs:=#[.int .i64 0,.int .i64 0,.string (⟨#[]⟩ :ByteArray),.slice none 0 0]) (t:=26) ?hr ?_;(case hd=>rfl);(case hg=>rfl);(case hr=>(go_simp;done));intro gb101 hg w7 hbox hb;replace HB:=Qa.mk (Qr HB.out hb);have BK101:=Qa.mk hbox;have GW101:=Qa.mk ((by rw [hg];exact(Q8 (w:=w) (g:=g) (row:=none) HK.out):w.heap.size≤gb101));have GE101:=Qa.mk ((Nat.le_trans HW0.out (by rw [hg];exact(Q8 (w:=w) (g:=g) (row:=none) HK.out):w.heap.size≤gb101):w0.heap.size≤gb101));replace HK:=Qa.mk (Qe.trans HK.out (Qe.of_below hb g none) (.inl rfl));have NB0_101:=Qa.mk ((by rw [hg];exact Nat.ne_of_lt (Qw.lt (show Qw w0 _ g s0_0 s0_1 s0_2 s0_3 from HI0.out)):g≠gb101));have NB101_0:=Qa.mk ((by rw [hg];exact Nat.ne_of_gt (Qw.lt (show Qw w0 _ g s0_0 s0_1 s0_2 s0_3 from HI0.out)):gb101≠g));replace HI0:=Qa.mk (Qw.below HI0.out hb);clear hb hbox hg)|((with_reducible refine Qp (f:=113) rfl ?_);refine Xh (some 8) rfl rfl Tryd.func113 (by kernel_rfl) rfl #[.pointer (some ⟨g,0,none⟩),.string (⟨#[40]⟩ :ByteArray)] rfl (by(try simp only [List.map_toArray,List.map_cons,List.map_nil]);rfl) ?_;(with_reducible refine(Qv.calls k g s0_0 s0_1 s0_2 s0_3 (⟨#[40]⟩ :ByteArray) true t103 t104 t105 t106 w0 _ HI0.out HB.out A2.out).mono ?_);rintro e w8 ⟨rfl,hi,hb,hk⟩;refine⟨_,rfl,?_⟩;replace BK101:=Qa.mk (Qe.blk hk (g':=gb101) (o:=.cells #[.int .i64 0,.int .i64 0,.string (⟨#[]⟩ :ByteArray),.slice none 0 0] 26 (0,0)) BK101.out NB101_0.out (by simp));replace HK:=Qa.mk (Qe.trans HK.out hk (.inl rfl));replace HB:=Qa.mk hb;replace HI0:=Qa.mk hi;(try clear hb);(try clear hk);(try clear hi))|((with_reducible refine Qp (f:=47) rfl ?_);refine Xh (some 10) rfl rfl Tryd.func47 (by kernel_rfl) rfl #[.pointer (some ⟨g,0,none⟩)] rfl (by(try simp only [List.map_toArray,List.map_cons,List.map_nil]);rfl) ?_;(with_reducible refine(V1.calls k g t103 t104 t105 t106 t107 t108 t109 t110 t113 t114 t115 t116 w0 _ HI0.out HB.out A4.out).mono ?_);rintro e w9 ⟨v111,rfl,ho0,hi,hb,hk⟩;refine⟨_,rfl,?_⟩;have HO112:=Qa.mk (Kd.N_lower (Kd.N_mono (ok':=fun k_=>(w.heap.size≤k_)∧k_≠gb101∧k_≠g) ho0 (fun k_ hk_=>⟨(Nat.le_trans (Q8 (w:=w) (g:=g) (row:=none) HK.out) hk_),(Kd.freshB (g:=gb101) (o:=.cells #[.int .i64 0,.int .i64 0,.string (⟨#[]⟩ :ByteArray),.slice none 0 0] 26 (0,0)) BK101.out k_ hk_),(Qw.fresh HI0.out k_ hk_)⟩)) (Q8 (w:=w) (g:=g) (row:=none) HK.out));replace BK101:=Qa.mk (Qe.blk hk (g':=gb101) (o:=.cells #[.int .i64 0,.int .i64 0,.string (⟨#[]⟩ :ByteArray),.slice none 0 0] 26 (0,0)) BK101.out NB101_0.out (by simp));replace HK:=Qa.mk (Qe.trans HK.out hk (.inl rfl));replace HB:=Qa.mk hb;replace HI0:=Qa.mk hi;(try clear hb);(try clear hk);(try clear hi);(try clear ho0))|((with_reducible refine Q0 (N:=3) rfl ?_);refine Xm ?hg (N:=3) ?hd (cs:=#[.int .i64 0,.int .i64 0,.string (⟨#[]⟩ :ByteArray),.slice none 0 0]) (t:=26) ?hr ?_;(case hd=>rfl);(case hg=>rfl);(case hr=>(go_simp;done));intro gb117 hg w10 hbox hb;replace HO112:=Qa.mk (Kd.N_below (Kd.N_elderB HO112.out gb117 (Nat.le_of_eq hg.symm)) hb);replace HB:=Qa.mk (Qr HB.out hb);have BK117:=Qa.mk hbox;have GW117:=Qa.mk ((by rw [hg];exact(Q8 (w:=w) (g:=g) (row:=none) HK.out):w.heap.size≤gb117));have GE117:=Qa.mk ((Nat.le_trans HW0.out (by rw [hg];exact(Q8 (w:=w) (g:=g) (row:=none) HK.out):w.heap.size≤gb117):w0.heap.size≤gb117));replace HK:=Qa.mk (Qe.trans HK.out (Qe.of_below hb g none) (.inl rfl));have NB101_117:=Qa.mk ((by rw [hg];exact Nat.ne_of_lt (Xr (g:=gb101) (o:=.cells #[.int .i64 0,.int .i64 0,.string (⟨#[]⟩ :ByteArray),.slice none 0 0] 26 (0,0)) BK101.out):gb101≠gb117));have NB117_101:=Qa.mk ((by rw [hg];exact Nat.ne_of_gt (Xr (g:=gb101) (o:=.cells #[.int .i64 0,.int .i64 0,.string (⟨#[]⟩ :ByteArray),.slice none 0 0] 26 (0,0)) BK101.out):gb117≠gb101));replace BK101:=Qa.mk (Q1 (g:=gb101) (o:=.cells #[.int .i64 0,.int .i64 0,.string (⟨#[]⟩ :ByteArray),.slice none 0 0] 26 (0,0)) BK101.out hb);have NB0_117:=Qa.mk ((by rw [hg];exact Nat.ne_of_lt (Qw.lt (show Qw w0 _ g t113 t114 t115 t116 from HI0.out)):g≠gb117));have NB117_0:=Qa.mk ((by rw [hg];exact Nat.ne_of_gt (Qw.lt (show Qw w0 _ g t113 t114 t115 t116 from HI0.out)):gb117≠g));replace HI0:=Qa.mk (Qw.below HI0.out hb);clear hb hbox hg;have hcz13_0:w10.cell? ⟨gb117,0,none⟩=some (.int .i64 0):=(Qb BK117.out 0).trans rfl;have hcz13_1:w10.cell? ⟨gb117,1,none⟩=some (.int .i64 0):=(Qb BK117.out 1).trans rfl;have hcz13_2:w10.cell? ⟨gb117,2,none⟩=some (.string (⟨#[]⟩ :ByteArray)):=(Qb BK117.out 2).trans rfl;have hcz13_3:w10.cell? ⟨gb117,3,none⟩=some (.slice none 0 0):=(Qb BK117.out 3).trans rfl;have hfz13_0:=Qd BK117.out 0;have hfz13_1:=Qd BK117.out 1;have hfz13_2:=Qd BK117.out 2;have hfz13_3:=Qd BK117.out 3;obtain⟨Ao14,co14,eo14⟩ :=Kd.N_slice HO112.out;subst eo14)|((with_reducible refine Qp (f:=113) rfl ?_);refine Xh (some 12) rfl rfl Tryd.func113 (by kernel_rfl) rfl #[.pointer (some ⟨g,0,none⟩),.string (⟨#[41]⟩ :ByteArray)] rfl (by(try simp only [List.map_toArray,List.map_cons,List.map_nil]);rfl) ?_;(with_reducible refine(Qv.calls k g t113 t114 t115 t116 (⟨#[41]⟩ :ByteArray) true t119 t120 t121 t122 w0 _ ?side1 ?side2 A5.out).mono ?_);(case side1=>repeat(with_reducible first|exact HI0.out|refine Qw.far ?_ NB0_117.out _));(case side2=>repeat(with_reducible first|exact HB.out|refine Xf ?_ GE117.out));rintro e w15 ⟨rfl,hi,hb,hk⟩;refine⟨_,rfl,?_⟩;replace BK101:=Qa.mk (Qe.blk hk (g':=gb101) (o:=.cells #[.int .i64 0,.int .i64 0,.string (⟨#[]⟩ :ByteArray),.slice none 0 0] 26 (0,0)) (by refine Xg ?_ NB101_117.out _;refine Xg ?_ NB101_117.out _;refine Xg ?_ NB101_117.out _;refine Xg ?_ NB101_117.out _;exact BK101.out) NB101_0.out (by simp));replace HO112:=Qa.mk (Kd.N_mono (Kd.N_keep (Kd.N_mono (ok:=fun k_=>((((w.heap.size≤k_))∧(k_≠gb101∧k_≠g))∧k_≠gb117)) (by exact(Kd.N_mono (Kd.N_far (p:=⟨gb117,3,none⟩) (Kd.N_far (p:=⟨gb117,2,none⟩) (Kd.N_far (p:=⟨gb117,1,none⟩) (Kd.N_far (p:=⟨gb117,0,none⟩) (Kd.N_mono HO112.out (fun k_ hk=>(⟨hk,hk.2⟩ :_∧k_≠gb117))) (fun _ hk=>hk.2) (.int .i64 t107)) (fun _ hk=>hk.2) (.int .i64 t108)) (fun _ hk=>hk.2) (.string t109)) (fun _ hk=>hk.2) (.slice Ao14 t110.length co14)) (fun _ h_=>h_.1))) (fun k_ hk_=>(⟨hk_,hk_.1.2.2⟩ :_∧k_≠g))) hk (fun _ h=>h.2)) (fun _ h=>h.1));replace BK117:=Qa.mk (Qe.blk hk (g':=gb117) (o:=.cells #[.int .i64 t107,.int .i64 t108,.string t109,.slice Ao14 t110.length co14] 26 (0,0)) (by refine Qt (cs:=#[.int .i64 t107,.int .i64 t108,.string t109,.slice none 0 0]) ?_ 3 _ rfl;refine Qt (cs:=#[.int .i64 t107,.int .i64 t108,.string (⟨#[]⟩ :ByteArray),.slice none 0 0]) ?_ 2 _ rfl;refine Qt (cs:=#[.int .i64 t107,.int .i64 0,.string (⟨#[]⟩ :ByteArray),.slice none 0 0]) ?_ 1 _ rfl;refine Qt (cs:=#[.int .i64 0,.int .i64 0,.string (⟨#[]⟩ :ByteArray),.slice none 0 0]) ?_ 0 _ rfl;exact BK117.out) NB117_0.out (by simp));replace HK:=Qa.mk (Qe.trans (by repeat(with_reducible first|exact HK.out|refine Zm ?_ GW117.out _)) hk (.inl rfl));replace HB:=Qa.mk hb;replace HI0:=Qa.mk hi;(try clear hb);(try clear hk);(try clear hi);have hcz16_0:w15.cell? ⟨gb117,0,none⟩=some (.int .i64 t107):=(Qb BK117.out 0).trans rfl;have hcz16_1:w15.cell? ⟨gb117,1,none⟩=some (.int .i64 t108):=(Qb BK117.out 1).trans rfl;have hcz16_2:w15.cell? ⟨gb117,2,none⟩=some (.string t109):=(Qb BK117.out 2).trans rfl;have hcz16_3:w15.cell? ⟨gb117,3,none⟩=some (.slice Ao14 t110.length co14):=(Qb BK117.out 3).trans rfl;have hcz18_0:w15.cell? ⟨gb101,0,none⟩=some (.int .i64 0):=(Qb BK101.out 0).trans rfl;have hcz18_1:w15.cell? ⟨gb101,1,none⟩=some (.int .i64 0):=(Qb BK101.out 1).trans rfl;have hcz18_2:w15.cell? ⟨gb101,2,none⟩=some (.string (⟨#[]⟩ :ByteArray)):=(Qb BK101.out 2).trans rfl;have hcz18_3:w15.cell? ⟨gb101,3,none⟩=some (.slice none 0 0):=(Qb BK101.out 3).trans rfl;have hfz18_0:=Qd BK101.out 0;have hfz18_1:=Qd BK101.out 1;have hfz18_2:=Qd BK101.out 2;have hfz18_3:=Qd BK101.out 3))
   refine bodyPost_ret (results_cell_row rfl _ _ gb101 26 #[.int .i64 t107,.int .i64 t108,.string t109,.slice Ao14 t110.length co14] (0,0) _ rfl (by refine Qt (cs:=#[.int .i64 t107,.int .i64 t108,.string t109,.slice none 0 0]) ?_ 3 _ rfl;refine Qt (cs:=#[.int .i64 t107,.int .i64 t108,.string (⟨#[]⟩ :ByteArray),.slice none 0 0]) ?_ 2 _ rfl;refine Qt (cs:=#[.int .i64 t107,.int .i64 0,.string (⟨#[]⟩ :ByteArray),.slice none 0 0]) ?_ 1 _ rfl;refine Qt (cs:=#[.int .i64 0,.int .i64 0,.string (⟨#[]⟩ :ByteArray),.slice none 0 0]) ?_ 0 _ rfl;exact BK101.out) Tryd.underlying26 rfl (by kernel_rfl)) rfl ?_;exact⟨_,by rfl,by exact Kd.N_mono (Kd.N_far (p:=⟨gb101,3,none⟩) (Kd.N_far (p:=⟨gb101,2,none⟩) (Kd.N_far (p:=⟨gb101,1,none⟩) (Kd.N_far (p:=⟨gb101,0,none⟩) (Kd.N_mono HO112.out (fun k_ hk=>(⟨hk,hk.1.2.1⟩ :_∧k_≠gb101))) (fun _ hk=>hk.2) (.int .i64 t107)) (fun _ hk=>hk.2) (.int .i64 t108)) (fun _ hk=>hk.2) (.string t109)) (fun _ hk=>hk.2) (.slice Ao14 t110.length co14)) (fun _ hk=>hk.1.1.1),by repeat(with_reducible first|exact HI0.out|refine Qw.far ?_ NB0_101.out _),by repeat(with_reducible first|exact HB.out|refine Xf ?_ GE101.out),by repeat(with_reducible first|exact HK.out|refine Zm ?_ GW101.out _)⟩
  replace c6:=Bool.eq_false_iff.mpr c6;subst c6;have H1:((Qn.f t119 t120 t121 t122 6 t120).bind fun bt123=>(some (t107,t108,t109,t110,bt123.1,bt123.2.1,bt123.2.2.1,bt123.2.2.2)))=some (r1,r2,r3,r4,r5,r6,r7,r8):=by rw [if_neg (show ¬(false=true) by decide)] at H;exact H
  clear H;have H:=H1;clear H1;replace H:=Option.bind_eq_some_iff.mp H;obtain⟨⟨t123,t124,t125,t126⟩,A190,H⟩ :=H;try dsimp only at H
  have A19:=Qa.mk A190;clear A190;simp only [Option.some.injEq,Prod.mk.injEq] at H;obtain⟨rfl,rfl,rfl,rfl,rfl,rfl,rfl,rfl⟩ :=H;go_enter Tryd.func137,Tryd.ntmps137;go_wp2_with(first|((with_reducible refine Q0 (N:=2) rfl ?_);refine Xm ?hg (N:=2) ?hd (cs:=#[.int .i64 0,.int .i64 0,.string (⟨#[]⟩ :ByteArray),.slice none 0 0]) (t:=26) ?hr ?_;(case hd=>rfl);(case hg=>rfl);(case hr=>(go_simp;done));intro gb101 hg w20 hbox hb;replace HB:=Qa.mk (Qr HB.out hb);have BK101:=Qa.mk hbox;have GW101:=Qa.mk ((by rw [hg];exact(Q8 (w:=w) (g:=g) (row:=none) HK.out):w.heap.size≤gb101));have GE101:=Qa.mk ((Nat.le_trans HW0.out (by rw [hg];exact(Q8 (w:=w) (g:=g) (row:=none) HK.out):w.heap.size≤gb101):w0.heap.size≤gb101));replace HK:=Qa.mk (Qe.trans HK.out (Qe.of_below hb g none) (.inl rfl));have NB0_101:=Qa.mk ((by rw [hg];exact Nat.ne_of_lt (Qw.lt (show Qw w0 _ g s0_0 s0_1 s0_2 s0_3 from HI0.out)):g≠gb101));have NB101_0:=Qa.mk ((by rw [hg];exact Nat.ne_of_gt (Qw.lt (show Qw w0 _ g s0_0 s0_1 s0_2 s0_3 from HI0.out)):gb101≠g));replace HI0:=Qa.mk (Qw.below HI0.out hb);clear hb hbox hg)|((with_reducible refine Qp (f:=113) rfl ?_);refine Xh (some 8) rfl rfl Tryd.func113 (by kernel_rfl) rfl #[.pointer (some ⟨g,0,none⟩),.string (⟨#[40]⟩ :ByteArray)] rfl (by(try simp only [List.map_toArray,List.map_cons,List.map_nil]);rfl) ?_;(with_reducible refine(Qv.calls k g s0_0 s0_1 s0_2 s0_3 (⟨#[40]⟩ :ByteArray) true t103 t104 t105 t106 w0 _ HI0.out HB.out A2.out).mono ?_);rintro e w21 ⟨rfl,hi,hb,hk⟩;refine⟨_,rfl,?_⟩;replace BK101:=Qa.mk (Qe.blk hk (g':=gb101) (o:=.cells #[.int .i64 0,.int .i64 0,.string (⟨#[]⟩ :ByteArray),.slice none 0 0] 26 (0,0)) BK101.out NB101_0.out (by simp));replace HK:=Qa.mk (Qe.trans HK.out hk (.inl rfl));replace HB:=Qa.mk hb;replace HI0:=Qa.mk hi;(try clear hb);(try clear hk);(try clear hi))|((with_reducible refine Qp (f:=47) rfl ?_);refine Xh (some 10) rfl rfl Tryd.func47 (by kernel_rfl) rfl #[.pointer (some ⟨g,0,none⟩)] rfl (by(try simp only [List.map_toArray,List.map_cons,List.map_nil]);rfl) ?_;(with_reducible refine(V1.calls k g t103 t104 t105 t106 t107 t108 t109 t110 t113 t114 t115 t116 w0 _ HI0.out HB.out A4.out).mono ?_);rintro e w22 ⟨v111,rfl,ho0,hi,hb,hk⟩;refine⟨_,rfl,?_⟩;have HO112:=Qa.mk (Kd.N_lower (Kd.N_mono (ok':=fun k_=>(w.heap.size≤k_)∧k_≠gb101∧k_≠g) ho0 (fun k_ hk_=>⟨(Nat.le_trans (Q8 (w:=w) (g:=g) (row:=none) HK.out) hk_),(Kd.freshB (g:=gb101) (o:=.cells #[.int .i64 0,.int .i64 0,.string (⟨#[]⟩ :ByteArray),.slice none 0 0] 26 (0,0)) BK101.out k_ hk_),(Qw.fresh HI0.out k_ hk_)⟩)) (Q8 (w:=w) (g:=g) (row:=none) HK.out));replace BK101:=Qa.mk (Qe.blk hk (g':=gb101) (o:=.cells #[.int .i64 0,.int .i64 0,.string (⟨#[]⟩ :ByteArray),.slice none 0 0] 26 (0,0)) BK101.out NB101_0.out (by simp));replace HK:=Qa.mk (Qe.trans HK.out hk (.inl rfl));replace HB:=Qa.mk hb;replace HI0:=Qa.mk hi;(try clear hb);(try clear hk);(try clear hi);(try clear ho0))|((with_reducible refine Q0 (N:=3) rfl ?_);refine Xm ?hg (N:=3) ?hd (cs:=#[.int .i64 0,.int .i64 0,.string (⟨#[]⟩ :ByteArray),.slice none 0 0]) (t:=26) ?hr ?_;(case hd=>rfl);(case hg=>rfl);(case hr=>(go_simp;done));intro gb117 hg w23 hbox hb;replace HO112:=Qa.mk (Kd.N_below (Kd.N_elderB HO112.out gb117 (Nat.le_of_eq hg.symm)) hb);replace HB:=Qa.mk (Qr HB.out hb);have BK117:=Qa.mk hbox;have GW117:=Qa.mk ((by rw [hg];exact(Q8 (w:=w) (g:=g) (row:=none) HK.out):w.heap.size≤gb117));have GE117:=Qa.mk ((Nat.le_trans HW0.out (by rw [hg];exact(Q8 (w:=w) (g:=g) (row:=none) HK.out):w.heap.size≤gb117):w0.heap.size≤gb117));replace HK:=Qa.mk (Qe.trans HK.out (Qe.of_below hb g none) (.inl rfl));have NB101_117:=Qa.mk ((by rw [hg];exact Nat.ne_of_lt (Xr (g:=gb101) (o:=.cells #[.int .i64 0,.int .i64 0,.string (⟨#[]⟩ :ByteArray),.slice none 0 0] 26 (0,0)) BK101.out):gb101≠gb117));have NB117_101:=Qa.mk ((by rw [hg];exact Nat.ne_of_gt (Xr (g:=gb101) (o:=.cells #[.int .i64 0,.int .i64 0,.string (⟨#[]⟩ :ByteArray),.slice none 0 0] 26 (0,0)) BK101.out):gb117≠gb101));replace BK101:=Qa.mk (Q1 (g:=gb101) (o:=.cells #[.int .i64 0,.int .i64 0,.string (⟨#[]⟩ :ByteArray),.slice none 0 0] 26 (0,0)) BK101.out hb);have NB0_117:=Qa.mk ((by rw [hg];exact Nat.ne_of_lt (Qw.lt (show Qw w0 _ g t113 t114 t115 t116 from HI0.out)):g≠gb117));have NB117_0:=Qa.mk ((by rw [hg];exact Nat.ne_of_gt (Qw.lt (show Qw w0 _ g t113 t114 t115 t116 from HI0.out)):gb117≠g));replace HI0:=Qa.mk (Qw.below HI0.out hb);clear hb hbox hg;have hcz26_0:w23.cell? ⟨gb117,0,none⟩=some (.int .i64 0):=(Qb BK117.out 0).trans rfl;have hcz26_1:w23.cell? ⟨gb117,1,none⟩=some (.int .i64 0):=(Qb BK117.out 1).trans rfl;have hcz26_2:w23.cell? ⟨gb117,2,none⟩=some (.string (⟨#[]⟩ :ByteArray)):=(Qb BK117.out 2).trans rfl;have hcz26_3:w23.cell? ⟨gb117,3,none⟩=some (.slice none 0 0):=(Qb BK117.out 3).trans rfl;have hfz26_0:=Qd BK117.out 0;have hfz26_1:=Qd BK117.out 1;have hfz26_2:=Qd BK117.out 2;have hfz26_3:=Qd BK117.out 3;obtain⟨Ao27,co27,eo27⟩ :=Kd.N_slice HO112.out;subst eo27)|((with_reducible refine Qp (f:=113) rfl ?_);refine Xh (some 12) rfl rfl Tryd.func113 (by kernel_rfl) rfl #[.pointer (some ⟨g,0,none⟩),.string (⟨#[41]⟩ :ByteArray)] rfl (by(try simp only [List.map_toArray,List.map_cons,List.map_nil]);rfl) ?_;(with_reducible refine(Qv.calls k g t113 t114 t115 t116 (⟨#[41]⟩ :ByteArray) false t119 t120 t121 t122 w0 _ ?side1 ?side2 A5.out).mono ?_);(case side1=>repeat(with_reducible first|exact HI0.out|refine Qw.far ?_ NB0_117.out _));(case side2=>repeat(with_reducible first|exact HB.out|refine Xf ?_ GE117.out));rintro e w28 ⟨rfl,hi,hb,hk⟩;refine⟨_,rfl,?_⟩;replace BK101:=Qa.mk (Qe.blk hk (g':=gb101) (o:=.cells #[.int .i64 0,.int .i64 0,.string (⟨#[]⟩ :ByteArray),.slice none 0 0] 26 (0,0)) (by refine Xg ?_ NB101_117.out _;refine Xg ?_ NB101_117.out _;refine Xg ?_ NB101_117.out _;refine Xg ?_ NB101_117.out _;exact BK101.out) NB101_0.out (by simp));replace HO112:=Qa.mk (Kd.N_mono (Kd.N_keep (Kd.N_mono (ok:=fun k_=>((((w.heap.size≤k_))∧(k_≠gb101∧k_≠g))∧k_≠gb117)) (by exact(Kd.N_mono (Kd.N_far (p:=⟨gb117,3,none⟩) (Kd.N_far (p:=⟨gb117,2,none⟩) (Kd.N_far (p:=⟨gb117,1,none⟩) (Kd.N_far (p:=⟨gb117,0,none⟩) (Kd.N_mono HO112.out (fun k_ hk=>(⟨hk,hk.2⟩ :_∧k_≠gb117))) (fun _ hk=>hk.2) (.int .i64 t107)) (fun _ hk=>hk.2) (.int .i64 t108)) (fun _ hk=>hk.2) (.string t109)) (fun _ hk=>hk.2) (.slice Ao27 t110.length co27)) (fun _ h_=>h_.1))) (fun k_ hk_=>(⟨hk_,hk_.1.2.2⟩ :_∧k_≠g))) hk (fun _ h=>h.2)) (fun _ h=>h.1));replace BK117:=Qa.mk (Qe.blk hk (g':=gb117) (o:=.cells #[.int .i64 t107,.int .i64 t108,.string t109,.slice Ao27 t110.length co27] 26 (0,0)) (by refine Qt (cs:=#[.int .i64 t107,.int .i64 t108,.string t109,.slice none 0 0]) ?_ 3 _ rfl;refine Qt (cs:=#[.int .i64 t107,.int .i64 t108,.string (⟨#[]⟩ :ByteArray),.slice none 0 0]) ?_ 2 _ rfl;refine Qt (cs:=#[.int .i64 t107,.int .i64 0,.string (⟨#[]⟩ :ByteArray),.slice none 0 0]) ?_ 1 _ rfl;refine Qt (cs:=#[.int .i64 0,.int .i64 0,.string (⟨#[]⟩ :ByteArray),.slice none 0 0]) ?_ 0 _ rfl;exact BK117.out) NB117_0.out (by simp));replace HK:=Qa.mk (Qe.trans (by repeat(with_reducible first|exact HK.out|refine Zm ?_ GW117.out _)) hk (.inl rfl));replace HB:=Qa.mk hb;replace HI0:=Qa.mk hi;(try clear hb);(try clear hk);(try clear hi);obtain⟨HGz29,hgz29⟩ :=HI0.out;have hcz29_1:=Zi HGz29;clear HGz29 hgz29)|((with_reducible refine Qp (f:=48) rfl ?_);refine Xh (some 19) rfl rfl Tryd.func48 (by kernel_rfl) rfl #[.pointer (some ⟨g,0,none⟩),.int .i64 6,.int .i64 t120] rfl (by(try simp only [List.map_toArray,List.map_cons,List.map_nil]);rfl) ?_;(with_reducible refine(Qn.calls g t119 t120 t121 t122 6 t120 t123 t124 t125 t126 w0 _ HI0.out HB.out A19.out).mono ?_);rintro e w30 ⟨rfl,hi,hb,hk⟩;refine⟨_,rfl,?_⟩;replace BK101:=Qa.mk (Qe.blk hk (g':=gb101) (o:=.cells #[.int .i64 0,.int .i64 0,.string (⟨#[]⟩ :ByteArray),.slice none 0 0] 26 (0,0)) BK101.out NB101_0.out (by simp));replace HO112:=Qa.mk (Kd.N_mono (Kd.N_keep (Kd.N_mono (ok:=fun k_=>((((w.heap.size≤k_))∧(k_≠gb101∧k_≠g))∧k_≠gb117)) HO112.out (fun k_ hk_=>(⟨hk_,hk_.1.2.2⟩ :_∧k_≠g))) hk (fun _ h=>h.2)) (fun _ h=>h.1));replace BK117:=Qa.mk (Qe.blk hk (g':=gb117) (o:=.cells #[.int .i64 t107,.int .i64 t108,.string t109,.slice Ao27 t110.length co27] 26 (0,0)) BK117.out NB117_0.out (by simp));replace HK:=Qa.mk (Qe.trans HK.out hk (.inl rfl));replace HB:=Qa.mk hb;replace HI0:=Qa.mk hi;(try clear hb);(try clear hk);(try clear hi);have hcz31_0:w30.cell? ⟨gb117,0,none⟩=some (.int .i64 t107):=(Qb BK117.out 0).trans rfl;have hcz31_1:w30.cell? ⟨gb117,1,none⟩=some (.int .i64 t108):=(Qb BK117.out 1).trans rfl;have hcz31_2:w30.cell? ⟨gb117,2,none⟩=some (.string t109):=(Qb BK117.out 2).trans rfl;have hcz31_3:w30.cell? ⟨gb117,3,none⟩=some (.slice Ao27 t110.length co27):=(Qb BK117.out 3).trans rfl;have hcz33_0:w30.cell? ⟨gb101,0,none⟩=some (.int .i64 0):=(Qb BK101.out 0).trans rfl;have hcz33_1:w30.cell? ⟨gb101,1,none⟩=some (.int .i64 0):=(Qb BK101.out 1).trans rfl;have hcz33_2:w30.cell? ⟨gb101,2,none⟩=some (.string (⟨#[]⟩ :ByteArray)):=(Qb BK101.out 2).trans rfl;have hcz33_3:w30.cell? ⟨gb101,3,none⟩=some (.slice none 0 0):=(Qb BK101.out 3).trans rfl;have hfz33_0:=Qd BK101.out 0;have hfz33_1:=Qd BK101.out 1;have hfz33_2:=Qd BK101.out 2;have hfz33_3:=Qd BK101.out 3))
  refine bodyPost_ret (results_cell_row rfl _ _ gb101 26 #[.int .i64 t107,.int .i64 t108,.string t109,.slice Ao27 t110.length co27] (0,0) _ rfl (by refine Qt (cs:=#[.int .i64 t107,.int .i64 t108,.string t109,.slice none 0 0]) ?_ 3 _ rfl;refine Qt (cs:=#[.int .i64 t107,.int .i64 t108,.string (⟨#[]⟩ :ByteArray),.slice none 0 0]) ?_ 2 _ rfl;refine Qt (cs:=#[.int .i64 t107,.int .i64 0,.string (⟨#[]⟩ :ByteArray),.slice none 0 0]) ?_ 1 _ rfl;refine Qt (cs:=#[.int .i64 0,.int .i64 0,.string (⟨#[]⟩ :ByteArray),.slice none 0 0]) ?_ 0 _ rfl;exact BK101.out) Tryd.underlying26 rfl (by kernel_rfl)) rfl ?_;exact⟨_,by rfl,by exact Kd.N_mono (Kd.N_far (p:=⟨gb101,3,none⟩) (Kd.N_far (p:=⟨gb101,2,none⟩) (Kd.N_far (p:=⟨gb101,1,none⟩) (Kd.N_far (p:=⟨gb101,0,none⟩) (Kd.N_mono HO112.out (fun k_ hk=>(⟨hk,hk.1.2.1⟩ :_∧k_≠gb101))) (fun _ hk=>hk.2) (.int .i64 t107)) (fun _ hk=>hk.2) (.int .i64 t108)) (fun _ hk=>hk.2) (.string t109)) (fun _ hk=>hk.2) (.slice Ao27 t110.length co27)) (fun _ hk=>hk.1.1.1),by repeat(with_reducible first|exact HI0.out|refine Qw.far ?_ NB0_101.out _),by repeat(with_reducible first|exact HB.out|refine Xf ?_ GE101.out),by repeat(with_reducible first|exact HK.out|refine Zm ?_ GW101.out _)⟩
 replace c3:=Bool.eq_false_iff.mpr c3;subst c3;have H1:((Qf.f k t103 t104 t105 t106).bind fun bt127=>((Qs.f k bt127.1 bt127.2.1 bt127.2.2.1 bt127.2.2.2).bind fun bt131=>(if bt131.2.2.2.1=0 then(if bt131.1.toList=([]:List UInt8) then((Qn.f bt131.2.1 bt131.2.2.1 bt131.2.2.2.1 bt131.2.2.2.2 6 bt131.2.2.1).bind fun bt136=>(some (0,0,(⟨#[]⟩ :ByteArray),([]:List (S26)),bt136.1,bt136.2.1,bt136.2.2.1,bt136.2.2.2))) else(if 0 < (bt131.1.size:Int) then((Q9.f (bt bt131.1 0)).bind fun t140=>(if t140=true then((Qz.f k bt131.1).bind fun t141=>(if t141=true then(some (2,0,bt131.1,([]:List (S26)),bt131.2.1,wrap64 (bt131.2.2.1+(bt131.1.size:Int)),bt131.2.2.2.1,bt131.2.2.2.2)) else((Qn.f bt131.2.1 bt131.2.2.1 bt131.2.2.2.1 bt131.2.2.2.2 10 bt131.2.2.1).bind fun bt142=>(some (2,0,bt131.1,([]:List (S26)),bt142.1,wrap64 (bt142.2.1+(bt131.1.size:Int)),bt142.2.2.1,bt142.2.2.2))))) else((Qc.f k bt131.1).bind fun bt146=>(if bt146.2=0 then(Qo.j0 k bt131.1 bt146.1 bt146.2 (decide (bt146.1 > 9223372036854775807)) bt131.2.1 bt131.2.2.1 bt131.2.2.2.1 bt131.2.2.2.2) else(Qo.j0 k bt131.1 bt146.1 bt146.2 false bt131.2.1 bt131.2.2.1 bt131.2.2.2.1 bt131.2.2.2.2))))) else(none))) else(some (0,0,(⟨#[]⟩ :ByteArray),([]:List (S26)),bt131.2.1,bt131.2.2.1,bt131.2.2.2.1,bt131.2.2.2.2)))))=some (r1,r2,r3,r4,r5,r6,r7,r8):=by rw [if_neg (show ¬(false=true) by decide)] at H;exact H
 clear H;have H:=H1;clear H1;replace H:=Option.bind_eq_some_iff.mp H;obtain⟨⟨t127,t128,t129,t130⟩,A340,H⟩ :=H;try dsimp only at H
 have A34:=Qa.mk A340;clear A340;replace H:=Option.bind_eq_some_iff.mp H;obtain⟨⟨t131,t132,t133,t134,t135⟩,A350,H⟩ :=H;try dsimp only at H
 have A35:=Qa.mk A350;clear A350;by_cases c36:t134=0
 rotate_left
 ·rw [if_neg c36] at H;have c36b1:(t134 !=0)=true:=bne_iff_ne.mpr c36;simp only [Option.some.injEq,Prod.mk.injEq] at H;obtain⟨rfl,rfl,rfl,rfl,rfl,rfl,rfl,rfl⟩ :=H;go_enter Tryd.func137,Tryd.ntmps137;go_wp2_with(first|((with_reducible refine Q0 (N:=2) rfl ?_);refine Xm ?hg (N:=2) ?hd (cs:=#[.int .i64 0,.int .i64 0,.string (⟨#[]⟩ :ByteArray),.slice none 0 0]) (t:=26) ?hr ?_;(case hd=>rfl);(case hg=>rfl);(case hr=>(go_simp;done));intro gb101 hg w97 hbox hb;replace HB:=Qa.mk (Qr HB.out hb);have BK101:=Qa.mk hbox;have GW101:=Qa.mk ((by rw [hg];exact(Q8 (w:=w) (g:=g) (row:=none) HK.out):w.heap.size≤gb101));have GE101:=Qa.mk ((Nat.le_trans HW0.out (by rw [hg];exact(Q8 (w:=w) (g:=g) (row:=none) HK.out):w.heap.size≤gb101):w0.heap.size≤gb101));replace HK:=Qa.mk (Qe.trans HK.out (Qe.of_below hb g none) (.inl rfl));have NB0_101:=Qa.mk ((by rw [hg];exact Nat.ne_of_lt (Qw.lt (show Qw w0 _ g s0_0 s0_1 s0_2 s0_3 from HI0.out)):g≠gb101));have NB101_0:=Qa.mk ((by rw [hg];exact Nat.ne_of_gt (Qw.lt (show Qw w0 _ g s0_0 s0_1 s0_2 s0_3 from HI0.out)):gb101≠g));replace HI0:=Qa.mk (Qw.below HI0.out hb);clear hb hbox hg)|((with_reducible refine Qp (f:=113) rfl ?_);refine Xh (some 8) rfl rfl Tryd.func113 (by kernel_rfl) rfl #[.pointer (some ⟨g,0,none⟩),.string (⟨#[40]⟩ :ByteArray)] rfl (by(try simp only [List.map_toArray,List.map_cons,List.map_nil]);rfl) ?_;(with_reducible refine(Qv.calls k g s0_0 s0_1 s0_2 s0_3 (⟨#[40]⟩ :ByteArray) false t103 t104 t105 t106 w0 _ HI0.out HB.out A2.out).mono ?_);rintro e w98 ⟨rfl,hi,hb,hk⟩;refine⟨_,rfl,?_⟩;replace BK101:=Qa.mk (Qe.blk hk (g':=gb101) (o:=.cells #[.int .i64 0,.int .i64 0,.string (⟨#[]⟩ :ByteArray),.slice none 0 0] 26 (0,0)) BK101.out NB101_0.out (by simp));replace HK:=Qa.mk (Qe.trans HK.out hk (.inl rfl));replace HB:=Qa.mk hb;replace HI0:=Qa.mk hi;(try clear hb);(try clear hk);(try clear hi))|((with_reducible refine Qp (f:=46) rfl ?_);refine Xh (some 22) rfl rfl Tryd.func46 (by kernel_rfl) rfl #[.pointer (some ⟨g,0,none⟩)] rfl (by(try simp only [List.map_toArray,List.map_cons,List.map_nil]);rfl) ?_;(with_reducible refine(Qf.calls k g t103 t104 t105 t106 t127 t128 t129 t130 w0 _ HI0.out HB.out A34.out).mono ?_);rintro e w99 ⟨rfl,hi,hb,hk⟩;refine⟨_,rfl,?_⟩;replace BK101:=Qa.mk (Qe.blk hk (g':=gb101) (o:=.cells #[.int .i64 0,.int .i64 0,.string (⟨#[]⟩ :ByteArray),.slice none 0 0] 26 (0,0)) BK101.out NB101_0.out (by simp));replace HK:=Qa.mk (Qe.trans HK.out hk (.inl rfl));replace HB:=Qa.mk hb;replace HI0:=Qa.mk hi;(try clear hb);(try clear hk);(try clear hi))|((with_reducible refine Qp (f:=73) rfl ?_);refine Xh (some 24) rfl rfl Tryd.func73 (by kernel_rfl) rfl #[.pointer (some ⟨g,0,none⟩)] rfl (by(try simp only [List.map_toArray,List.map_cons,List.map_nil]);rfl) ?_;(with_reducible refine(Qs.calls k g t127 t128 t129 t130 t131 t132 t133 t134 t135 w0 _ HI0.out HB.out A35.out).mono ?_);rintro e w100 ⟨rfl,hi,hb,hk⟩;refine⟨_,rfl,?_⟩;replace BK101:=Qa.mk (Qe.blk hk (g':=gb101) (o:=.cells #[.int .i64 0,.int .i64 0,.string (⟨#[]⟩ :ByteArray),.slice none 0 0] 26 (0,0)) BK101.out NB101_0.out (by simp));replace HK:=Qa.mk (Qe.trans HK.out hk (.inl rfl));replace HB:=Qa.mk hb;replace HI0:=Qa.mk hi;(try clear hb);(try clear hk);(try clear hi);obtain⟨HGz101,hgz101⟩ :=HI0.out;have hcz101_2:=Yj HGz101;clear HGz101 hgz101;have hcz103_0:w100.cell? ⟨gb101,0,none⟩=some (.int .i64 0):=(Qb BK101.out 0).trans rfl;have hcz103_1:w100.cell? ⟨gb101,1,none⟩=some (.int .i64 0):=(Qb BK101.out 1).trans rfl;have hcz103_2:w100.cell? ⟨gb101,2,none⟩=some (.string (⟨#[]⟩ :ByteArray)):=(Qb BK101.out 2).trans rfl;have hcz103_3:w100.cell? ⟨gb101,3,none⟩=some (.slice none 0 0):=(Qb BK101.out 3).trans rfl;have hfz103_0:=Qd BK101.out 0;have hfz103_1:=Qd BK101.out 1;have hfz103_2:=Qd BK101.out 2;have hfz103_3:=Qd BK101.out 3))
  refine bodyPost_ret (results_cell_row rfl _ _ gb101 26 #[.int .i64 0,.int .i64 0,.string (⟨#[]⟩ :ByteArray),.slice none 0 0] (0,0) _ rfl (by refine Qt (cs:=#[.int .i64 0,.int .i64 0,.string (⟨#[]⟩ :ByteArray),.slice none 0 0]) ?_ 3 _ rfl;refine Qt (cs:=#[.int .i64 0,.int .i64 0,.string (⟨#[]⟩ :ByteArray),.slice none 0 0]) ?_ 2 _ rfl;refine Qt (cs:=#[.int .i64 0,.int .i64 0,.string (⟨#[]⟩ :ByteArray),.slice none 0 0]) ?_ 1 _ rfl;refine Qt (cs:=#[.int .i64 0,.int .i64 0,.string (⟨#[]⟩ :ByteArray),.slice none 0 0]) ?_ 0 _ rfl;exact BK101.out) Tryd.underlying26 rfl (by kernel_rfl)) rfl ?_;exact⟨_,by rfl,by exact Kd.N_nil _ _ _ _ _,by repeat(with_reducible first|exact HI0.out|refine Qw.far ?_ NB0_101.out _),by repeat(with_reducible first|exact HB.out|refine Xf ?_ GE101.out),by repeat(with_reducible first|exact HK.out|refine Zm ?_ GW101.out _)⟩
 rw [if_pos c36] at H;have c36b1:(t134 !=0)=false:=bne_eq_false_iff_eq.mpr c36;clear c36;by_cases c37:t131.toList=([]:List UInt8)
 ·rw [if_pos c37] at H;have c37b0:(t131.toList==([]:List UInt8))=true:=beq_iff_eq.mpr c37;clear c37;replace H:=Option.bind_eq_some_iff.mp H;obtain⟨⟨t136,t137,t138,t139⟩,A380,H⟩ :=H;try dsimp only at H
  have A38:=Qa.mk A380;clear A380;simp only [Option.some.injEq,Prod.mk.injEq] at H;obtain⟨rfl,rfl,rfl,rfl,rfl,rfl,rfl,rfl⟩ :=H;go_enter Tryd.func137,Tryd.ntmps137;go_wp2_with(first|((with_reducible refine Q0 (N:=2) rfl ?_);refine Xm ?hg (N:=2) ?hd (cs:=#[.int .i64 0,.int .i64 0,.string (⟨#[]⟩ :ByteArray),.slice none 0 0]) (t:=26) ?hr ?_;(case hd=>rfl);(case hg=>rfl);(case hr=>(go_simp;done));intro gb101 hg w39 hbox hb;replace HB:=Qa.mk (Qr HB.out hb);have BK101:=Qa.mk hbox;have GW101:=Qa.mk ((by rw [hg];exact(Q8 (w:=w) (g:=g) (row:=none) HK.out):w.heap.size≤gb101));have GE101:=Qa.mk ((Nat.le_trans HW0.out (by rw [hg];exact(Q8 (w:=w) (g:=g) (row:=none) HK.out):w.heap.size≤gb101):w0.heap.size≤gb101));replace HK:=Qa.mk (Qe.trans HK.out (Qe.of_below hb g none) (.inl rfl));have NB0_101:=Qa.mk ((by rw [hg];exact Nat.ne_of_lt (Qw.lt (show Qw w0 _ g s0_0 s0_1 s0_2 s0_3 from HI0.out)):g≠gb101));have NB101_0:=Qa.mk ((by rw [hg];exact Nat.ne_of_gt (Qw.lt (show Qw w0 _ g s0_0 s0_1 s0_2 s0_3 from HI0.out)):gb101≠g));replace HI0:=Qa.mk (Qw.below HI0.out hb);clear hb hbox hg)|((with_reducible refine Qp (f:=113) rfl ?_);refine Xh (some 8) rfl rfl Tryd.func113 (by kernel_rfl) rfl #[.pointer (some ⟨g,0,none⟩),.string (⟨#[40]⟩ :ByteArray)] rfl (by(try simp only [List.map_toArray,List.map_cons,List.map_nil]);rfl) ?_;(with_reducible refine(Qv.calls k g s0_0 s0_1 s0_2 s0_3 (⟨#[40]⟩ :ByteArray) false t103 t104 t105 t106 w0 _ HI0.out HB.out A2.out).mono ?_);rintro e w40 ⟨rfl,hi,hb,hk⟩;refine⟨_,rfl,?_⟩;replace BK101:=Qa.mk (Qe.blk hk (g':=gb101) (o:=.cells #[.int .i64 0,.int .i64 0,.string (⟨#[]⟩ :ByteArray),.slice none 0 0] 26 (0,0)) BK101.out NB101_0.out (by simp));replace HK:=Qa.mk (Qe.trans HK.out hk (.inl rfl));replace HB:=Qa.mk hb;replace HI0:=Qa.mk hi;(try clear hb);(try clear hk);(try clear hi))|((with_reducible refine Qp (f:=46) rfl ?_);refine Xh (some 22) rfl rfl Tryd.func46 (by kernel_rfl) rfl #[.pointer (some ⟨g,0,none⟩)] rfl (by(try simp only [List.map_toArray,List.map_cons,List.map_nil]);rfl) ?_;(with_reducible refine(Qf.calls k g t103 t104 t105 t106 t127 t128 t129 t130 w0 _ HI0.out HB.out A34.out).mono ?_);rintro e w41 ⟨rfl,hi,hb,hk⟩;refine⟨_,rfl,?_⟩;replace BK101:=Qa.mk (Qe.blk hk (g':=gb101) (o:=.cells #[.int .i64 0,.int .i64 0,.string (⟨#[]⟩ :ByteArray),.slice none 0 0] 26 (0,0)) BK101.out NB101_0.out (by simp));replace HK:=Qa.mk (Qe.trans HK.out hk (.inl rfl));replace HB:=Qa.mk hb;replace HI0:=Qa.mk hi;(try clear hb);(try clear hk);(try clear hi))|((with_reducible refine Qp (f:=73) rfl ?_);refine Xh (some 24) rfl rfl Tryd.func73 (by kernel_rfl) rfl #[.pointer (some ⟨g,0,none⟩)] rfl (by(try simp only [List.map_toArray,List.map_cons,List.map_nil]);rfl) ?_;(with_reducible refine(Qs.calls k g t127 t128 t129 t130 t131 t132 t133 t134 t135 w0 _ HI0.out HB.out A35.out).mono ?_);rintro e w42 ⟨rfl,hi,hb,hk⟩;refine⟨_,rfl,?_⟩;replace BK101:=Qa.mk (Qe.blk hk (g':=gb101) (o:=.cells #[.int .i64 0,.int .i64 0,.string (⟨#[]⟩ :ByteArray),.slice none 0 0] 26 (0,0)) BK101.out NB101_0.out (by simp));replace HK:=Qa.mk (Qe.trans HK.out hk (.inl rfl));replace HB:=Qa.mk hb;replace HI0:=Qa.mk hi;(try clear hb);(try clear hk);(try clear hi);obtain⟨HGz43,hgz43⟩ :=HI0.out;have hcz43_1:=Zi HGz43;have hcz43_2:=Yj HGz43;clear HGz43 hgz43)|((with_reducible refine Qp (f:=48) rfl ?_);refine Xh (some 38) rfl rfl Tryd.func48 (by kernel_rfl) rfl #[.pointer (some ⟨g,0,none⟩),.int .i64 6,.int .i64 t133] rfl (by(try simp only [List.map_toArray,List.map_cons,List.map_nil]);rfl) ?_;(with_reducible refine(Qn.calls g t132 t133 t134 t135 6 t133 t136 t137 t138 t139 w0 _ HI0.out HB.out A38.out).mono ?_);rintro e w44 ⟨rfl,hi,hb,hk⟩;refine⟨_,rfl,?_⟩;replace BK101:=Qa.mk (Qe.blk hk (g':=gb101) (o:=.cells #[.int .i64 0,.int .i64 0,.string (⟨#[]⟩ :ByteArray),.slice none 0 0] 26 (0,0)) BK101.out NB101_0.out (by simp));replace HK:=Qa.mk (Qe.trans HK.out hk (.inl rfl));replace HB:=Qa.mk hb;replace HI0:=Qa.mk hi;(try clear hb);(try clear hk);(try clear hi);have hcz46_0:w44.cell? ⟨gb101,0,none⟩=some (.int .i64 0):=(Qb BK101.out 0).trans rfl;have hcz46_1:w44.cell? ⟨gb101,1,none⟩=some (.int .i64 0):=(Qb BK101.out 1).trans rfl;have hcz46_2:w44.cell? ⟨gb101,2,none⟩=some (.string (⟨#[]⟩ :ByteArray)):=(Qb BK101.out 2).trans rfl;have hcz46_3:w44.cell? ⟨gb101,3,none⟩=some (.slice none 0 0):=(Qb BK101.out 3).trans rfl;have hfz46_0:=Qd BK101.out 0;have hfz46_1:=Qd BK101.out 1;have hfz46_2:=Qd BK101.out 2;have hfz46_3:=Qd BK101.out 3))
  refine bodyPost_ret (results_cell_row rfl _ _ gb101 26 #[.int .i64 0,.int .i64 0,.string (⟨#[]⟩ :ByteArray),.slice none 0 0] (0,0) _ rfl (by refine Qt (cs:=#[.int .i64 0,.int .i64 0,.string (⟨#[]⟩ :ByteArray),.slice none 0 0]) ?_ 3 _ rfl;refine Qt (cs:=#[.int .i64 0,.int .i64 0,.string (⟨#[]⟩ :ByteArray),.slice none 0 0]) ?_ 2 _ rfl;refine Qt (cs:=#[.int .i64 0,.int .i64 0,.string (⟨#[]⟩ :ByteArray),.slice none 0 0]) ?_ 1 _ rfl;refine Qt (cs:=#[.int .i64 0,.int .i64 0,.string (⟨#[]⟩ :ByteArray),.slice none 0 0]) ?_ 0 _ rfl;exact BK101.out) Tryd.underlying26 rfl (by kernel_rfl)) rfl ?_;exact⟨_,by rfl,by exact Kd.N_nil _ _ _ _ _,by repeat(with_reducible first|exact HI0.out|refine Qw.far ?_ NB0_101.out _),by repeat(with_reducible first|exact HB.out|refine Xf ?_ GE101.out),by repeat(with_reducible first|exact HK.out|refine Zm ?_ GW101.out _)⟩
 rw [if_neg c37] at H;have c37b0:(t131.toList==([]:List UInt8))=false:=beq_eq_false_iff_ne.mpr c37;by_cases c47:0 < (t131.size:Int)
 rotate_left
 ·rw [if_neg c47] at H;exact absurd H (by simp)
 rw [if_pos c47] at H;have c47b0:decide (0 < (t131.size:Int))=true:=decide_eq_true c47;clear c47;replace H:=Option.bind_eq_some_iff.mp H;obtain⟨t140,A490,H⟩ :=H;try dsimp only at H
 have A49:=Qa.mk A490;clear A490;by_cases c50:t140=true
 ·subst c50;have H1:((Qz.f k t131).bind fun t141=>(if t141=true then(some (2,0,t131,([]:List (S26)),t132,wrap64 (t133+(t131.size:Int)),t134,t135)) else((Qn.f t132 t133 t134 t135 10 t133).bind fun bt142=>(some (2,0,t131,([]:List (S26)),bt142.1,wrap64 (bt142.2.1+(t131.size:Int)),bt142.2.2.1,bt142.2.2.2)))))=some (r1,r2,r3,r4,r5,r6,r7,r8):=by rw [if_pos rfl] at H;exact H
  clear H;have H:=H1;clear H1;replace H:=Option.bind_eq_some_iff.mp H;obtain⟨t141,A510,H⟩ :=H;try dsimp only at H
  have A51:=Qa.mk A510;clear A510;by_cases c52:t141=true
  ·subst c52;have H1:(some (2,0,t131,([]:List (S26)),t132,wrap64 (t133+(t131.size:Int)),t134,t135))=some (r1,r2,r3,r4,r5,r6,r7,r8):=by rw [if_pos rfl] at H;exact H
   clear H;have H:=H1;clear H1;simp only [Option.some.injEq,Prod.mk.injEq] at H;obtain⟨rfl,rfl,rfl,rfl,rfl,rfl,rfl,rfl⟩ :=H;go_enter Tryd.func137,Tryd.ntmps137;go_wp2_with(first|((with_reducible refine Q0 (N:=2) rfl ?_);refine Xm ?hg (N:=2) ?hd (cs:=#[.int .i64 0,.int .i64 0,.string (⟨#[]⟩ :ByteArray),.slice none 0 0]) (t:=26) ?hr ?_;(case hd=>rfl);(case hg=>rfl);(case hr=>(go_simp;done));intro gb101 hg w53 hbox hb;replace HB:=Qa.mk (Qr HB.out hb);have BK101:=Qa.mk hbox;have GW101:=Qa.mk ((by rw [hg];exact(Q8 (w:=w) (g:=g) (row:=none) HK.out):w.heap.size≤gb101));have GE101:=Qa.mk ((Nat.le_trans HW0.out (by rw [hg];exact(Q8 (w:=w) (g:=g) (row:=none) HK.out):w.heap.size≤gb101):w0.heap.size≤gb101));replace HK:=Qa.mk (Qe.trans HK.out (Qe.of_below hb g none) (.inl rfl));have NB0_101:=Qa.mk ((by rw [hg];exact Nat.ne_of_lt (Qw.lt (show Qw w0 _ g s0_0 s0_1 s0_2 s0_3 from HI0.out)):g≠gb101));have NB101_0:=Qa.mk ((by rw [hg];exact Nat.ne_of_gt (Qw.lt (show Qw w0 _ g s0_0 s0_1 s0_2 s0_3 from HI0.out)):gb101≠g));replace HI0:=Qa.mk (Qw.below HI0.out hb);clear hb hbox hg)|((with_reducible refine Qp (f:=113) rfl ?_);refine Xh (some 8) rfl rfl Tryd.func113 (by kernel_rfl) rfl #[.pointer (some ⟨g,0,none⟩),.string (⟨#[40]⟩ :ByteArray)] rfl (by(try simp only [List.map_toArray,List.map_cons,List.map_nil]);rfl) ?_;(with_reducible refine(Qv.calls k g s0_0 s0_1 s0_2 s0_3 (⟨#[40]⟩ :ByteArray) false t103 t104 t105 t106 w0 _ HI0.out HB.out A2.out).mono ?_);rintro e w54 ⟨rfl,hi,hb,hk⟩;refine⟨_,rfl,?_⟩;replace BK101:=Qa.mk (Qe.blk hk (g':=gb101) (o:=.cells #[.int .i64 0,.int .i64 0,.string (⟨#[]⟩ :ByteArray),.slice none 0 0] 26 (0,0)) BK101.out NB101_0.out (by simp));replace HK:=Qa.mk (Qe.trans HK.out hk (.inl rfl));replace HB:=Qa.mk hb;replace HI0:=Qa.mk hi;(try clear hb);(try clear hk);(try clear hi))|((with_reducible refine Qp (f:=46) rfl ?_);refine Xh (some 22) rfl rfl Tryd.func46 (by kernel_rfl) rfl #[.pointer (some ⟨g,0,none⟩)] rfl (by(try simp only [List.map_toArray,List.map_cons,List.map_nil]);rfl) ?_;(with_reducible refine(Qf.calls k g t103 t104 t105 t106 t127 t128 t129 t130 w0 _ HI0.out HB.out A34.out).mono ?_);rintro e w55 ⟨rfl,hi,hb,hk⟩;refine⟨_,rfl,?_⟩;replace BK101:=Qa.mk (Qe.blk hk (g':=gb101) (o:=.cells #[.int .i64 0,.int .i64 0,.string (⟨#[]⟩ :ByteArray),.slice none 0 0] 26 (0,0)) BK101.out NB101_0.out (by simp));replace HK:=Qa.mk (Qe.trans HK.out hk (.inl rfl));replace HB:=Qa.mk hb;replace HI0:=Qa.mk hi;(try clear hb);(try clear hk);(try clear hi))|((with_reducible refine Qp (f:=73) rfl ?_);refine Xh (some 24) rfl rfl Tryd.func73 (by kernel_rfl) rfl #[.pointer (some ⟨g,0,none⟩)] rfl (by(try simp only [List.map_toArray,List.map_cons,List.map_nil]);rfl) ?_;(with_reducible refine(Qs.calls k g t127 t128 t129 t130 t131 t132 t133 t134 t135 w0 _ HI0.out HB.out A35.out).mono ?_);rintro e w56 ⟨rfl,hi,hb,hk⟩;refine⟨_,rfl,?_⟩;replace BK101:=Qa.mk (Qe.blk hk (g':=gb101) (o:=.cells #[.int .i64 0,.int .i64 0,.string (⟨#[]⟩ :ByteArray),.slice none 0 0] 26 (0,0)) BK101.out NB101_0.out (by simp));replace HK:=Qa.mk (Qe.trans HK.out hk (.inl rfl));replace HB:=Qa.mk hb;replace HI0:=Qa.mk hi;(try clear hb);(try clear hk);(try clear hi);obtain⟨HGz57,hgz57⟩ :=HI0.out;have hcz57_2:=Yj HGz57;clear HGz57 hgz57;have q48:0 < t131.size:=(by have:(0 :Int) < (t131.size:Int):=of_decide_eq_true (by(with_reducible assumption));omega);have hx48:∀h:0 < t131.size,((t131[0]'h).toNat:Int)=bt t131 0 :=Zp t131 0;replace q48:=eq_true q48)|((with_reducible refine Qp (f:=74) rfl ?_);refine Xh (some 42) rfl rfl Tryd.func74 (by kernel_rfl) rfl #[.int .u8 (bt t131 0)] rfl (by(try simp only [List.map_toArray,List.map_cons,List.map_nil]);rfl) ?_;(with_reducible refine(Q9.calls (bt t131 0) true _ A49.out).mono ?_);rintro e w' ⟨rfl,⟨nd,rfl⟩⟩;refine⟨_,rfl,?_⟩;(try(rw [W6 w56];generalize hq_:World.drewN w56 _=w56;have n0_:Qa (w56.heap[gb101]? =some (.cells #[.int .i64 0,.int .i64 0,.string (⟨#[]⟩ :ByteArray),.slice none 0 0] 26 (0,0))):=⟨by rw [←hq_];exact(by(with_reducible repeat(refine Yn ?_ _));exact BK101.out)⟩;have n1_:Qa (Qw w0 w56 g t132 t133 t134 t135):=⟨by rw [←hq_];exact(by repeat(with_reducible first|exact HI0.out|apply Qw.drewN))⟩;have n2_:Qa (Qe w w56 g none):=⟨by rw [←hq_];exact(by repeat(with_reducible first|exact HK.out|apply X8))⟩;have n3_:Qa (Below w0.heap.size w0 w56):=⟨by rw [←hq_];exact(by repeat(with_reducible first|exact HB.out|apply Q6))⟩;clear BK101 HI0 HK HB hq_;have BK101:=n0_;have HI0:=n1_;have HK:=n2_;have HB:=n3_;clear n0_ n1_ n2_ n3_)))|((with_reducible refine Qp (f:=77) rfl ?_);refine Xh (some 44) rfl rfl Tryd.func77 (by kernel_rfl) rfl #[.string t131] rfl (by(try simp only [List.map_toArray,List.map_cons,List.map_nil]);rfl) ?_;(with_reducible refine(Qz.calls k t131 true _ A51.out).mono ?_);rintro e w' ⟨rfl,⟨nd,rfl⟩⟩;refine⟨_,rfl,?_⟩;(try(rw [W6 w56];generalize hq_:World.drewN w56 _=w56;have n0_:Qa (w56.heap[gb101]? =some (.cells #[.int .i64 0,.int .i64 0,.string (⟨#[]⟩ :ByteArray),.slice none 0 0] 26 (0,0))):=⟨by rw [←hq_];exact(by(with_reducible repeat(refine Yn ?_ _));exact BK101.out)⟩;have n1_:Qa (Qw w0 w56 g t132 t133 t134 t135):=⟨by rw [←hq_];exact(by repeat(with_reducible first|exact HI0.out|apply Qw.drewN))⟩;have n2_:Qa (Qe w w56 g none):=⟨by rw [←hq_];exact(by repeat(with_reducible first|exact HK.out|apply X8))⟩;have n3_:Qa (Below w0.heap.size w0 w56):=⟨by rw [←hq_];exact(by repeat(with_reducible first|exact HB.out|apply Q6))⟩;clear BK101 HI0 HK HB hq_;have BK101:=n0_;have HI0:=n1_;have HK:=n2_;have HB:=n3_;clear n0_ n1_ n2_ n3_));obtain⟨HGz901,hgz901⟩ :=HI0.out;have hcz901_1:=Zi HGz901;have hfz901_1:=Qd HGz901 1;clear HGz901 hgz901;have hnc58:=NB0_101.out;have hcz59_0:w56.cell? ⟨gb101,0,none⟩=some (.int .i64 0):=(Qb BK101.out 0).trans rfl;have hcz59_1:w56.cell? ⟨gb101,1,none⟩=some (.int .i64 0):=(Qb BK101.out 1).trans rfl;have hcz59_2:w56.cell? ⟨gb101,2,none⟩=some (.string (⟨#[]⟩ :ByteArray)):=(Qb BK101.out 2).trans rfl;have hcz59_3:w56.cell? ⟨gb101,3,none⟩=some (.slice none 0 0):=(Qb BK101.out 3).trans rfl;have hfz59_0:=Qd BK101.out 0;have hfz59_1:=Qd BK101.out 1;have hfz59_2:=Qd BK101.out 2;have hfz59_3:=Qd BK101.out 3))
   refine bodyPost_ret (results_cell_row rfl _ _ gb101 26 #[.int .i64 2,.int .i64 0,.string t131,.slice none 0 0] (0,0) _ rfl (by refine Qt (cs:=#[.int .i64 2,.int .i64 0,.string t131,.slice none 0 0]) ?_ 3 _ rfl;refine Qt (cs:=#[.int .i64 2,.int .i64 0,.string (⟨#[]⟩ :ByteArray),.slice none 0 0]) ?_ 2 _ rfl;refine Qt (cs:=#[.int .i64 2,.int .i64 0,.string (⟨#[]⟩ :ByteArray),.slice none 0 0]) ?_ 1 _ rfl;refine Qt (cs:=#[.int .i64 0,.int .i64 0,.string (⟨#[]⟩ :ByteArray),.slice none 0 0]) ?_ 0 _ rfl;refine Xg ?_ NB101_0.out _;exact BK101.out) Tryd.underlying26 rfl (by kernel_rfl)) rfl ?_;exact⟨_,by rfl,by exact Kd.N_nil _ _ _ _ _,by repeat(with_reducible first|exact HI0.out|apply Qw.set_1|refine Qw.far ?_ NB0_101.out _),by repeat((with_reducible first|exact HB.out|refine Xf ?_ (Qw.ge HI0.out)|refine Xf ?_ GE101.out)),by repeat(with_reducible first|exact HK.out|apply Qe.set_|refine Zm ?_ GW101.out _)⟩
  replace c52:=Bool.eq_false_iff.mpr c52;subst c52;have H1:((Qn.f t132 t133 t134 t135 10 t133).bind fun bt142=>(some (2,0,t131,([]:List (S26)),bt142.1,wrap64 (bt142.2.1+(t131.size:Int)),bt142.2.2.1,bt142.2.2.2)))=some (r1,r2,r3,r4,r5,r6,r7,r8):=by rw [if_neg (show ¬(false=true) by decide)] at H;exact H
  clear H;have H:=H1;clear H1;replace H:=Option.bind_eq_some_iff.mp H;obtain⟨⟨t142,t143,t144,t145⟩,A600,H⟩ :=H;try dsimp only at H
  have A60:=Qa.mk A600;clear A600;simp only [Option.some.injEq,Prod.mk.injEq] at H;obtain⟨rfl,rfl,rfl,rfl,rfl,rfl,rfl,rfl⟩ :=H;go_enter Tryd.func137,Tryd.ntmps137;go_wp2_with(first|((with_reducible refine Q0 (N:=2) rfl ?_);refine Xm ?hg (N:=2) ?hd (cs:=#[.int .i64 0,.int .i64 0,.string (⟨#[]⟩ :ByteArray),.slice none 0 0]) (t:=26) ?hr ?_;(case hd=>rfl);(case hg=>rfl);(case hr=>(go_simp;done));intro gb101 hg w61 hbox hb;replace HB:=Qa.mk (Qr HB.out hb);have BK101:=Qa.mk hbox;have GW101:=Qa.mk ((by rw [hg];exact(Q8 (w:=w) (g:=g) (row:=none) HK.out):w.heap.size≤gb101));have GE101:=Qa.mk ((Nat.le_trans HW0.out (by rw [hg];exact(Q8 (w:=w) (g:=g) (row:=none) HK.out):w.heap.size≤gb101):w0.heap.size≤gb101));replace HK:=Qa.mk (Qe.trans HK.out (Qe.of_below hb g none) (.inl rfl));have NB0_101:=Qa.mk ((by rw [hg];exact Nat.ne_of_lt (Qw.lt (show Qw w0 _ g s0_0 s0_1 s0_2 s0_3 from HI0.out)):g≠gb101));have NB101_0:=Qa.mk ((by rw [hg];exact Nat.ne_of_gt (Qw.lt (show Qw w0 _ g s0_0 s0_1 s0_2 s0_3 from HI0.out)):gb101≠g));replace HI0:=Qa.mk (Qw.below HI0.out hb);clear hb hbox hg)|((with_reducible refine Qp (f:=113) rfl ?_);refine Xh (some 8) rfl rfl Tryd.func113 (by kernel_rfl) rfl #[.pointer (some ⟨g,0,none⟩),.string (⟨#[40]⟩ :ByteArray)] rfl (by(try simp only [List.map_toArray,List.map_cons,List.map_nil]);rfl) ?_;(with_reducible refine(Qv.calls k g s0_0 s0_1 s0_2 s0_3 (⟨#[40]⟩ :ByteArray) false t103 t104 t105 t106 w0 _ HI0.out HB.out A2.out).mono ?_);rintro e w62 ⟨rfl,hi,hb,hk⟩;refine⟨_,rfl,?_⟩;replace BK101:=Qa.mk (Qe.blk hk (g':=gb101) (o:=.cells #[.int .i64 0,.int .i64 0,.string (⟨#[]⟩ :ByteArray),.slice none 0 0] 26 (0,0)) BK101.out NB101_0.out (by simp));replace HK:=Qa.mk (Qe.trans HK.out hk (.inl rfl));replace HB:=Qa.mk hb;replace HI0:=Qa.mk hi;(try clear hb);(try clear hk);(try clear hi))|((with_reducible refine Qp (f:=46) rfl ?_);refine Xh (some 22) rfl rfl Tryd.func46 (by kernel_rfl) rfl #[.pointer (some ⟨g,0,none⟩)] rfl (by(try simp only [List.map_toArray,List.map_cons,List.map_nil]);rfl) ?_;(with_reducible refine(Qf.calls k g t103 t104 t105 t106 t127 t128 t129 t130 w0 _ HI0.out HB.out A34.out).mono ?_);rintro e w63 ⟨rfl,hi,hb,hk⟩;refine⟨_,rfl,?_⟩;replace BK101:=Qa.mk (Qe.blk hk (g':=gb101) (o:=.cells #[.int .i64 0,.int .i64 0,.string (⟨#[]⟩ :ByteArray),.slice none 0 0] 26 (0,0)) BK101.out NB101_0.out (by simp));replace HK:=Qa.mk (Qe.trans HK.out hk (.inl rfl));replace HB:=Qa.mk hb;replace HI0:=Qa.mk hi;(try clear hb);(try clear hk);(try clear hi))|((with_reducible refine Qp (f:=73) rfl ?_);refine Xh (some 24) rfl rfl Tryd.func73 (by kernel_rfl) rfl #[.pointer (some ⟨g,0,none⟩)] rfl (by(try simp only [List.map_toArray,List.map_cons,List.map_nil]);rfl) ?_;(with_reducible refine(Qs.calls k g t127 t128 t129 t130 t131 t132 t133 t134 t135 w0 _ HI0.out HB.out A35.out).mono ?_);rintro e w64 ⟨rfl,hi,hb,hk⟩;refine⟨_,rfl,?_⟩;replace BK101:=Qa.mk (Qe.blk hk (g':=gb101) (o:=.cells #[.int .i64 0,.int .i64 0,.string (⟨#[]⟩ :ByteArray),.slice none 0 0] 26 (0,0)) BK101.out NB101_0.out (by simp));replace HK:=Qa.mk (Qe.trans HK.out hk (.inl rfl));replace HB:=Qa.mk hb;replace HI0:=Qa.mk hi;(try clear hb);(try clear hk);(try clear hi);obtain⟨HGz65,hgz65⟩ :=HI0.out;have hcz65_2:=Yj HGz65;clear HGz65 hgz65;have q48:0 < t131.size:=(by have:(0 :Int) < (t131.size:Int):=of_decide_eq_true (by(with_reducible assumption));omega);have hx48:∀h:0 < t131.size,((t131[0]'h).toNat:Int)=bt t131 0 :=Zp t131 0;replace q48:=eq_true q48)|((with_reducible refine Qp (f:=74) rfl ?_);refine Xh (some 42) rfl rfl Tryd.func74 (by kernel_rfl) rfl #[.int .u8 (bt t131 0)] rfl (by(try simp only [List.map_toArray,List.map_cons,List.map_nil]);rfl) ?_;(with_reducible refine(Q9.calls (bt t131 0) true _ A49.out).mono ?_);rintro e w' ⟨rfl,⟨nd,rfl⟩⟩;refine⟨_,rfl,?_⟩;(try(rw [W6 w64];generalize hq_:World.drewN w64 _=w64;have n0_:Qa (w64.heap[gb101]? =some (.cells #[.int .i64 0,.int .i64 0,.string (⟨#[]⟩ :ByteArray),.slice none 0 0] 26 (0,0))):=⟨by rw [←hq_];exact(by(with_reducible repeat(refine Yn ?_ _));exact BK101.out)⟩;have n1_:Qa (Qw w0 w64 g t132 t133 t134 t135):=⟨by rw [←hq_];exact(by repeat(with_reducible first|exact HI0.out|apply Qw.drewN))⟩;have n2_:Qa (Qe w w64 g none):=⟨by rw [←hq_];exact(by repeat(with_reducible first|exact HK.out|apply X8))⟩;have n3_:Qa (Below w0.heap.size w0 w64):=⟨by rw [←hq_];exact(by repeat(with_reducible first|exact HB.out|apply Q6))⟩;clear BK101 HI0 HK HB hq_;have BK101:=n0_;have HI0:=n1_;have HK:=n2_;have HB:=n3_;clear n0_ n1_ n2_ n3_)))|((with_reducible refine Qp (f:=77) rfl ?_);refine Xh (some 44) rfl rfl Tryd.func77 (by kernel_rfl) rfl #[.string t131] rfl (by(try simp only [List.map_toArray,List.map_cons,List.map_nil]);rfl) ?_;(with_reducible refine(Qz.calls k t131 false _ A51.out).mono ?_);rintro e w' ⟨rfl,⟨nd,rfl⟩⟩;refine⟨_,rfl,?_⟩;(try(rw [W6 w64];generalize hq_:World.drewN w64 _=w64;have n0_:Qa (w64.heap[gb101]? =some (.cells #[.int .i64 0,.int .i64 0,.string (⟨#[]⟩ :ByteArray),.slice none 0 0] 26 (0,0))):=⟨by rw [←hq_];exact(by(with_reducible repeat(refine Yn ?_ _));exact BK101.out)⟩;have n1_:Qa (Qw w0 w64 g t132 t133 t134 t135):=⟨by rw [←hq_];exact(by repeat(with_reducible first|exact HI0.out|apply Qw.drewN))⟩;have n2_:Qa (Qe w w64 g none):=⟨by rw [←hq_];exact(by repeat(with_reducible first|exact HK.out|apply X8))⟩;have n3_:Qa (Below w0.heap.size w0 w64):=⟨by rw [←hq_];exact(by repeat(with_reducible first|exact HB.out|apply Q6))⟩;clear BK101 HI0 HK HB hq_;have BK101:=n0_;have HI0:=n1_;have HK:=n2_;have HB:=n3_;clear n0_ n1_ n2_ n3_));obtain⟨HGz902,hgz902⟩ :=HI0.out;have hcz902_1:=Zi HGz902;clear HGz902 hgz902)|((with_reducible refine Qp (f:=48) rfl ?_);refine Xh (some 51) rfl rfl Tryd.func48 (by kernel_rfl) rfl #[.pointer (some ⟨g,0,none⟩),.int .i64 10,.int .i64 t133] rfl (by(try simp only [List.map_toArray,List.map_cons,List.map_nil]);rfl) ?_;(with_reducible refine(Qn.calls g t132 t133 t134 t135 10 t133 t142 t143 t144 t145 w0 _ HI0.out HB.out A60.out).mono ?_);rintro e w66 ⟨rfl,hi,hb,hk⟩;refine⟨_,rfl,?_⟩;replace BK101:=Qa.mk (Qe.blk hk (g':=gb101) (o:=.cells #[.int .i64 0,.int .i64 0,.string (⟨#[]⟩ :ByteArray),.slice none 0 0] 26 (0,0)) BK101.out NB101_0.out (by simp));replace HK:=Qa.mk (Qe.trans HK.out hk (.inl rfl));replace HB:=Qa.mk hb;replace HI0:=Qa.mk hi;(try clear hb);(try clear hk);(try clear hi);obtain⟨HGz67,hgz67⟩ :=HI0.out;have hcz67_1:=Zi HGz67;have hfz67_1:=Qd HGz67 1;clear HGz67 hgz67;have hnc68:=NB0_101.out;have hcz69_0:w66.cell? ⟨gb101,0,none⟩=some (.int .i64 0):=(Qb BK101.out 0).trans rfl;have hcz69_1:w66.cell? ⟨gb101,1,none⟩=some (.int .i64 0):=(Qb BK101.out 1).trans rfl;have hcz69_2:w66.cell? ⟨gb101,2,none⟩=some (.string (⟨#[]⟩ :ByteArray)):=(Qb BK101.out 2).trans rfl;have hcz69_3:w66.cell? ⟨gb101,3,none⟩=some (.slice none 0 0):=(Qb BK101.out 3).trans rfl;have hfz69_0:=Qd BK101.out 0;have hfz69_1:=Qd BK101.out 1;have hfz69_2:=Qd BK101.out 2;have hfz69_3:=Qd BK101.out 3))
  refine bodyPost_ret (results_cell_row rfl _ _ gb101 26 #[.int .i64 2,.int .i64 0,.string t131,.slice none 0 0] (0,0) _ rfl (by refine Qt (cs:=#[.int .i64 2,.int .i64 0,.string t131,.slice none 0 0]) ?_ 3 _ rfl;refine Qt (cs:=#[.int .i64 2,.int .i64 0,.string (⟨#[]⟩ :ByteArray),.slice none 0 0]) ?_ 2 _ rfl;refine Qt (cs:=#[.int .i64 2,.int .i64 0,.string (⟨#[]⟩ :ByteArray),.slice none 0 0]) ?_ 1 _ rfl;refine Qt (cs:=#[.int .i64 0,.int .i64 0,.string (⟨#[]⟩ :ByteArray),.slice none 0 0]) ?_ 0 _ rfl;refine Xg ?_ NB101_0.out _;exact BK101.out) Tryd.underlying26 rfl (by kernel_rfl)) rfl ?_;exact⟨_,by rfl,by exact Kd.N_nil _ _ _ _ _,by repeat(with_reducible first|exact HI0.out|apply Qw.set_1|refine Qw.far ?_ NB0_101.out _),by repeat((with_reducible first|exact HB.out|refine Xf ?_ (Qw.ge HI0.out)|refine Xf ?_ GE101.out)),by repeat(with_reducible first|exact HK.out|apply Qe.set_|refine Zm ?_ GW101.out _)⟩
 replace c50:=Bool.eq_false_iff.mpr c50;subst c50;have H1:((Qc.f k t131).bind fun bt146=>(if bt146.2=0 then(Qo.j0 k t131 bt146.1 bt146.2 (decide (bt146.1 > 9223372036854775807)) t132 t133 t134 t135) else(Qo.j0 k t131 bt146.1 bt146.2 false t132 t133 t134 t135)))=some (r1,r2,r3,r4,r5,r6,r7,r8):=by rw [if_neg (show ¬(false=true) by decide)] at H;exact H
 clear H;have H:=H1;clear H1;replace H:=Option.bind_eq_some_iff.mp H;obtain⟨⟨t146,t147⟩,A700,H⟩ :=H;try dsimp only at H
 have A70:=Qa.mk A700;clear A700;have HC71:=Qa.mk H;clear H;go_enter Tryd.func137,Tryd.ntmps137;go_upto_region 19 with (first|((with_reducible refine Q0 (N:=2) rfl ?_);refine Xm ?hg (N:=2) ?hd (cs:=#[.int .i64 0,.int .i64 0,.string (⟨#[]⟩ :ByteArray),.slice none 0 0]) (t:=26) ?hr ?_;(case hd=>rfl);(case hg=>rfl);(case hr=>(go_simp;done));intro gb101 hg w72 hbox hb;replace HB:=Qa.mk (Qr HB.out hb);have BK101:=Qa.mk hbox;have GW101:=Qa.mk ((by rw [hg];exact(Q8 (w:=w) (g:=g) (row:=none) HK.out):w.heap.size≤gb101));have GE101:=Qa.mk ((Nat.le_trans HW0.out (by rw [hg];exact(Q8 (w:=w) (g:=g) (row:=none) HK.out):w.heap.size≤gb101):w0.heap.size≤gb101));replace HK:=Qa.mk (Qe.trans HK.out (Qe.of_below hb g none) (.inl rfl));have NB0_101:=Qa.mk ((by rw [hg];exact Nat.ne_of_lt (Qw.lt (show Qw w0 _ g s0_0 s0_1 s0_2 s0_3 from HI0.out)):g≠gb101));have NB101_0:=Qa.mk ((by rw [hg];exact Nat.ne_of_gt (Qw.lt (show Qw w0 _ g s0_0 s0_1 s0_2 s0_3 from HI0.out)):gb101≠g));replace HI0:=Qa.mk (Qw.below HI0.out hb);clear hb hbox hg)|((with_reducible refine Qp (f:=113) rfl ?_);refine Xh (some 8) rfl rfl Tryd.func113 (by kernel_rfl) rfl #[.pointer (some ⟨g,0,none⟩),.string (⟨#[40]⟩ :ByteArray)] rfl (by(try simp only [List.map_toArray,List.map_cons,List.map_nil]);rfl) ?_;(with_reducible refine(Qv.calls k g s0_0 s0_1 s0_2 s0_3 (⟨#[40]⟩ :ByteArray) false t103 t104 t105 t106 w0 _ HI0.out HB.out A2.out).mono ?_);rintro e w73 ⟨rfl,hi,hb,hk⟩;refine⟨_,rfl,?_⟩;replace BK101:=Qa.mk (Qe.blk hk (g':=gb101) (o:=.cells #[.int .i64 0,.int .i64 0,.string (⟨#[]⟩ :ByteArray),.slice none 0 0] 26 (0,0)) BK101.out NB101_0.out (by simp));replace HK:=Qa.mk (Qe.trans HK.out hk (.inl rfl));replace HB:=Qa.mk hb;replace HI0:=Qa.mk hi;(try clear hb);(try clear hk);(try clear hi))|((with_reducible refine Qp (f:=46) rfl ?_);refine Xh (some 22) rfl rfl Tryd.func46 (by kernel_rfl) rfl #[.pointer (some ⟨g,0,none⟩)] rfl (by(try simp only [List.map_toArray,List.map_cons,List.map_nil]);rfl) ?_;(with_reducible refine(Qf.calls k g t103 t104 t105 t106 t127 t128 t129 t130 w0 _ HI0.out HB.out A34.out).mono ?_);rintro e w74 ⟨rfl,hi,hb,hk⟩;refine⟨_,rfl,?_⟩;replace BK101:=Qa.mk (Qe.blk hk (g':=gb101) (o:=.cells #[.int .i64 0,.int .i64 0,.string (⟨#[]⟩ :ByteArray),.slice none 0 0] 26 (0,0)) BK101.out NB101_0.out (by simp));replace HK:=Qa.mk (Qe.trans HK.out hk (.inl rfl));replace HB:=Qa.mk hb;replace HI0:=Qa.mk hi;(try clear hb);(try clear hk);(try clear hi))|((with_reducible refine Qp (f:=73) rfl ?_);refine Xh (some 24) rfl rfl Tryd.func73 (by kernel_rfl) rfl #[.pointer (some ⟨g,0,none⟩)] rfl (by(try simp only [List.map_toArray,List.map_cons,List.map_nil]);rfl) ?_;(with_reducible refine(Qs.calls k g t127 t128 t129 t130 t131 t132 t133 t134 t135 w0 _ HI0.out HB.out A35.out).mono ?_);rintro e w75 ⟨rfl,hi,hb,hk⟩;refine⟨_,rfl,?_⟩;replace BK101:=Qa.mk (Qe.blk hk (g':=gb101) (o:=.cells #[.int .i64 0,.int .i64 0,.string (⟨#[]⟩ :ByteArray),.slice none 0 0] 26 (0,0)) BK101.out NB101_0.out (by simp));replace HK:=Qa.mk (Qe.trans HK.out hk (.inl rfl));replace HB:=Qa.mk hb;replace HI0:=Qa.mk hi;(try clear hb);(try clear hk);(try clear hi);obtain⟨HGz76,hgz76⟩ :=HI0.out;have hcz76_2:=Yj HGz76;clear HGz76 hgz76;have q48:0 < t131.size:=(by have:(0 :Int) < (t131.size:Int):=of_decide_eq_true (by(with_reducible assumption));omega);have hx48:∀h:0 < t131.size,((t131[0]'h).toNat:Int)=bt t131 0 :=Zp t131 0;replace q48:=eq_true q48)|((with_reducible refine Qp (f:=74) rfl ?_);refine Xh (some 42) rfl rfl Tryd.func74 (by kernel_rfl) rfl #[.int .u8 (bt t131 0)] rfl (by(try simp only [List.map_toArray,List.map_cons,List.map_nil]);rfl) ?_;(with_reducible refine(Q9.calls (bt t131 0) false _ A49.out).mono ?_);rintro e w' ⟨rfl,⟨nd,rfl⟩⟩;refine⟨_,rfl,?_⟩)|((with_reducible refine Qp (f:=90) rfl ?_);refine Xh (some 66) rfl rfl Tryd.func90 (by kernel_rfl) rfl #[.string t131] rfl (by(try simp only [List.map_toArray,List.map_cons,List.map_nil]);rfl) ?_;(with_reducible refine(Qc.calls k t131 t146 t147 _ A70.out).mono ?_);rintro e w' ⟨rfl,⟨nd,rfl⟩⟩;refine⟨_,rfl,?_⟩))
 go_cut [74] (fun v74 wc=>∃(kq:Nat) (x74_70:Bool),v74=.bool x74_70∧Qa (Qo.j0 kq t131 t146 t147 x74_70 t132 t133 t134 t135=some (r1,r2,r3,r4,r5,r6,r7,r8))∧Qa (kq≤k)∧Qa (wc.heap[gb101]? =some (.cells #[.int .i64 0,.int .i64 0,.string (⟨#[]⟩ :ByteArray),(.slice none 0 0)] 26 (0,0)))∧Qa (Qw w0 wc g t132 t133 t134 t135)∧Qa (Qe w wc g none)∧Qa (Below w0.heap.size w0 wc))
 case first=>
  have H:=HC71.out;clear HC71;by_cases c77:t147=0
  rotate_left
  ·rw [if_neg c77] at H;have c77b0:(t147==0)=false:=beq_eq_false_iff_ne.mpr c77;have H':=Qa.mk H;clear H;go_wp2
   go_meet
   case rel=>exact⟨_,false,(by rfl),H',⟨by omega⟩,⟨by(with_reducible repeat(refine Yn ?_ _));exact BK101.out⟩,⟨by repeat(with_reducible first|exact HI0.out|apply Qw.drewN)⟩,⟨by repeat(with_reducible first|exact HK.out|apply X8)⟩,⟨by repeat(with_reducible first|exact HB.out|apply Q6)⟩⟩
  rw [if_pos c77] at H;have c77b0:(t147==0)=true:=beq_iff_eq.mpr c77;clear c77;have H':=Qa.mk H;clear H;go_wp2
  go_meet
  case rel=>exact⟨_,(decide (t146 > 9223372036854775807)),(by rfl),H',⟨by omega⟩,⟨by(with_reducible repeat(refine Yn ?_ _));exact BK101.out⟩,⟨by repeat(with_reducible first|exact HI0.out|apply Qw.drewN)⟩,⟨by repeat(with_reducible first|exact HK.out|apply X8)⟩,⟨by repeat(with_reducible first|exact HB.out|apply Q6)⟩⟩
 case rest=>
  clear HC71;(try clear c36b1);(try clear c37);(try clear c37b0);(try clear c47b0);(try clear q48);(try clear hx48);(try clear hcz76_2);obtain⟨kq,x74_70,rfl,HA,HJ70,BK101,HI0,HK,HB⟩ :=hcut
  cases kq with
  |zero=>exact absurd HA.out (by simp [Qo.j0])
  |succ kj70=>
   have H:=HA.out;clear HA;simp only [Qo.j0] at H;by_cases c78:x74_70=true
   ·subst c78;have H1:(if 14=0 then(some (1,wrap64 (t146),(⟨#[]⟩ :ByteArray),([]:List (S26)),t132,wrap64 (t133+(t131.size:Int)),t134,t135)) else((Qn.f t132 t133 t134 t135 14 t133).bind fun bt148=>(some (0,0,(⟨#[]⟩ :ByteArray),([]:List (S26)),bt148.1,bt148.2.1,bt148.2.2.1,bt148.2.2.2))))=some (r1,r2,r3,r4,r5,r6,r7,r8):=by rw [if_pos rfl] at H;exact H
    clear H;have H:=H1;clear H1;by_cases c79:14=0
    ·exact absurd c79 (by decide)
    rw [if_neg c79] at H;replace H:=Option.bind_eq_some_iff.mp H;obtain⟨⟨t148,t149,t150,t151⟩,A830,H⟩ :=H;try dsimp only at H
    have A83:=Qa.mk A830;clear A830;simp only [Option.some.injEq,Prod.mk.injEq] at H;obtain⟨rfl,rfl,rfl,rfl,rfl,rfl,rfl,rfl⟩ :=H;obtain⟨HGz84,hgz84⟩ :=HI0.out;have hcz84_1:=Zi HGz84;clear HGz84 hgz84;go_wp2_with(((with_reducible refine Qp (f:=48) rfl ?_);refine Xh (some 83) rfl rfl Tryd.func48 (by kernel_rfl) rfl #[.pointer (some ⟨g,0,none⟩),.int .i64 14,.int .i64 t133] rfl (by(try simp only [List.map_toArray,List.map_cons,List.map_nil]);rfl) ?_;(with_reducible refine(Qn.calls g t132 t133 t134 t135 14 t133 t148 t149 t150 t151 w0 _ HI0.out HB.out A83.out).mono ?_);rintro e w85 ⟨rfl,hi,hb,hk⟩;refine⟨_,rfl,?_⟩;replace BK101:=Qa.mk (Qe.blk hk (g':=gb101) (o:=.cells #[.int .i64 0,.int .i64 0,.string (⟨#[]⟩ :ByteArray),.slice none 0 0] 26 (0,0)) BK101.out NB101_0.out (by simp));replace HK:=Qa.mk (Qe.trans HK.out hk (.inl rfl));replace HB:=Qa.mk hb;replace HI0:=Qa.mk hi;(try clear hb);(try clear hk);(try clear hi);have hcz87_0:w85.cell? ⟨gb101,0,none⟩=some (.int .i64 0):=(Qb BK101.out 0).trans rfl;have hcz87_1:w85.cell? ⟨gb101,1,none⟩=some (.int .i64 0):=(Qb BK101.out 1).trans rfl;have hcz87_2:w85.cell? ⟨gb101,2,none⟩=some (.string (⟨#[]⟩ :ByteArray)):=(Qb BK101.out 2).trans rfl;have hcz87_3:w85.cell? ⟨gb101,3,none⟩=some (.slice none 0 0):=(Qb BK101.out 3).trans rfl;have hfz87_0:=Qd BK101.out 0;have hfz87_1:=Qd BK101.out 1;have hfz87_2:=Qd BK101.out 2;have hfz87_3:=Qd BK101.out 3));refine bodyPost_ret (results_cell_row rfl _ _ gb101 26 #[.int .i64 0,.int .i64 0,.string (⟨#[]⟩ :ByteArray),.slice none 0 0] (0,0) _ rfl (by refine Qt (cs:=#[.int .i64 0,.int .i64 0,.string (⟨#[]⟩ :ByteArray),.slice none 0 0]) ?_ 3 _ rfl;refine Qt (cs:=#[.int .i64 0,.int .i64 0,.string (⟨#[]⟩ :ByteArray),.slice none 0 0]) ?_ 2 _ rfl;refine Qt (cs:=#[.int .i64 0,.int .i64 0,.string (⟨#[]⟩ :ByteArray),.slice none 0 0]) ?_ 1 _ rfl;refine Qt (cs:=#[.int .i64 0,.int .i64 0,.string (⟨#[]⟩ :ByteArray),.slice none 0 0]) ?_ 0 _ rfl;exact BK101.out) Tryd.underlying26 rfl (by kernel_rfl)) rfl ?_;exact⟨_,by rfl,by exact Kd.N_nil _ _ _ _ _,by repeat(with_reducible first|exact HI0.out|refine Qw.far ?_ NB0_101.out _),by repeat(with_reducible first|exact HB.out|refine Xf ?_ GE101.out),by repeat(with_reducible first|exact HK.out|refine Zm ?_ GW101.out _)⟩
   replace c78:=Bool.eq_false_iff.mpr c78;subst c78;have H1:(if t147=0 then(some (1,wrap64 (t146),(⟨#[]⟩ :ByteArray),([]:List (S26)),t132,wrap64 (t133+(t131.size:Int)),t134,t135)) else((Qn.f t132 t133 t134 t135 t147 t133).bind fun bt152=>(some (0,0,(⟨#[]⟩ :ByteArray),([]:List (S26)),bt152.1,bt152.2.1,bt152.2.2.1,bt152.2.2.2))))=some (r1,r2,r3,r4,r5,r6,r7,r8):=by rw [if_neg (show ¬(false=true) by decide)] at H;exact H
   clear H;have H:=H1;clear H1;by_cases c88:t147=0
   rotate_left
   ·rw [if_neg c88] at H;have c88b1:(t147 !=0)=true:=bne_iff_ne.mpr c88;replace H:=Option.bind_eq_some_iff.mp H;obtain⟨⟨t152,t153,t154,t155⟩,A920,H⟩ :=H;try dsimp only at H
    have A92:=Qa.mk A920;clear A920;simp only [Option.some.injEq,Prod.mk.injEq] at H;obtain⟨rfl,rfl,rfl,rfl,rfl,rfl,rfl,rfl⟩ :=H;obtain⟨HGz93,hgz93⟩ :=HI0.out;have hcz93_1:=Zi HGz93;clear HGz93 hgz93;go_wp2_with(((with_reducible refine Qp (f:=48) rfl ?_);refine Xh (some 83) rfl rfl Tryd.func48 (by kernel_rfl) rfl #[.pointer (some ⟨g,0,none⟩),.int .i64 t147,.int .i64 t133] rfl (by(try simp only [List.map_toArray,List.map_cons,List.map_nil]);rfl) ?_;(with_reducible refine(Qn.calls g t132 t133 t134 t135 t147 t133 t152 t153 t154 t155 w0 _ HI0.out HB.out A92.out).mono ?_);rintro e w94 ⟨rfl,hi,hb,hk⟩;refine⟨_,rfl,?_⟩;replace BK101:=Qa.mk (Qe.blk hk (g':=gb101) (o:=.cells #[.int .i64 0,.int .i64 0,.string (⟨#[]⟩ :ByteArray),.slice none 0 0] 26 (0,0)) BK101.out NB101_0.out (by simp));replace HK:=Qa.mk (Qe.trans HK.out hk (.inl rfl));replace HB:=Qa.mk hb;replace HI0:=Qa.mk hi;(try clear hb);(try clear hk);(try clear hi);have hcz96_0:w94.cell? ⟨gb101,0,none⟩=some (.int .i64 0):=(Qb BK101.out 0).trans rfl;have hcz96_1:w94.cell? ⟨gb101,1,none⟩=some (.int .i64 0):=(Qb BK101.out 1).trans rfl;have hcz96_2:w94.cell? ⟨gb101,2,none⟩=some (.string (⟨#[]⟩ :ByteArray)):=(Qb BK101.out 2).trans rfl;have hcz96_3:w94.cell? ⟨gb101,3,none⟩=some (.slice none 0 0):=(Qb BK101.out 3).trans rfl;have hfz96_0:=Qd BK101.out 0;have hfz96_1:=Qd BK101.out 1;have hfz96_2:=Qd BK101.out 2;have hfz96_3:=Qd BK101.out 3));refine bodyPost_ret (results_cell_row rfl _ _ gb101 26 #[.int .i64 0,.int .i64 0,.string (⟨#[]⟩ :ByteArray),.slice none 0 0] (0,0) _ rfl (by refine Qt (cs:=#[.int .i64 0,.int .i64 0,.string (⟨#[]⟩ :ByteArray),.slice none 0 0]) ?_ 3 _ rfl;refine Qt (cs:=#[.int .i64 0,.int .i64 0,.string (⟨#[]⟩ :ByteArray),.slice none 0 0]) ?_ 2 _ rfl;refine Qt (cs:=#[.int .i64 0,.int .i64 0,.string (⟨#[]⟩ :ByteArray),.slice none 0 0]) ?_ 1 _ rfl;refine Qt (cs:=#[.int .i64 0,.int .i64 0,.string (⟨#[]⟩ :ByteArray),.slice none 0 0]) ?_ 0 _ rfl;exact BK101.out) Tryd.underlying26 rfl (by kernel_rfl)) rfl ?_;exact⟨_,by rfl,by exact Kd.N_nil _ _ _ _ _,by repeat(with_reducible first|exact HI0.out|refine Qw.far ?_ NB0_101.out _),by repeat(with_reducible first|exact HB.out|refine Xf ?_ GE101.out),by repeat(with_reducible first|exact HK.out|refine Zm ?_ GW101.out _)⟩
   rw [if_pos c88] at H;have c88b1:(t147 !=0)=false:=bne_eq_false_iff_eq.mpr c88;clear c88;simp only [Option.some.injEq,Prod.mk.injEq] at H;obtain⟨rfl,rfl,rfl,rfl,rfl,rfl,rfl,rfl⟩ :=H;obtain⟨HGz89,hgz89⟩ :=HI0.out;have hcz89_1:=Zi HGz89;have hfz89_1:=Qd HGz89 1;clear HGz89 hgz89;have hnc90:=NB0_101.out;have hcz91_0:wc.cell? ⟨gb101,0,none⟩=some (.int .i64 0):=(Qb BK101.out 0).trans rfl;have hcz91_1:wc.cell? ⟨gb101,1,none⟩=some (.int .i64 0):=(Qb BK101.out 1).trans rfl;have hcz91_2:wc.cell? ⟨gb101,2,none⟩=some (.string (⟨#[]⟩ :ByteArray)):=(Qb BK101.out 2).trans rfl;have hcz91_3:wc.cell? ⟨gb101,3,none⟩=some (.slice none 0 0):=(Qb BK101.out 3).trans rfl;have hfz91_0:=Qd BK101.out 0;have hfz91_1:=Qd BK101.out 1;have hfz91_2:=Qd BK101.out 2;have hfz91_3:=Qd BK101.out 3;go_wp2;refine bodyPost_ret (results_cell_row rfl _ _ gb101 26 #[.int .i64 1,.int .i64 (wrap64 (t146)),.string (⟨#[]⟩ :ByteArray),.slice none 0 0] (0,0) _ rfl (by refine Qt (cs:=#[.int .i64 1,.int .i64 (wrap64 (t146)),.string (⟨#[]⟩ :ByteArray),.slice none 0 0]) ?_ 3 _ rfl;refine Qt (cs:=#[.int .i64 1,.int .i64 (wrap64 (t146)),.string (⟨#[]⟩ :ByteArray),.slice none 0 0]) ?_ 2 _ rfl;refine Qt (cs:=#[.int .i64 1,.int .i64 0,.string (⟨#[]⟩ :ByteArray),.slice none 0 0]) ?_ 1 _ rfl;refine Qt (cs:=#[.int .i64 0,.int .i64 0,.string (⟨#[]⟩ :ByteArray),.slice none 0 0]) ?_ 0 _ rfl;refine Xg ?_ NB101_0.out _;exact BK101.out) Tryd.underlying26 rfl (by kernel_rfl)) rfl ?_;exact⟨_,by rfl,by exact Kd.N_nil _ _ _ _ _,by repeat(with_reducible first|exact HI0.out|apply Qw.set_1|refine Qw.far ?_ NB0_101.out _),by repeat((with_reducible first|exact HB.out|refine Xf ?_ (Qw.ge HI0.out)|refine Xf ?_ GE101.out)),by repeat(with_reducible first|exact HK.out|apply Qe.set_|refine Zm ?_ GW101.out _)⟩
mutual
def Qj.l0 [Zx]:Nat→ByteArray→Int→ByteArray→Int→Int→Int→Option (Int×Int×ByteArray×(List (S26))×ByteArray×Int×Int×Int)
 |0,_,_,_,_,_,_=>none
 |k+1,x3,x4,x1000,x1001,x1002,x1003=>if x4≤6 then(Qj.j1 k x3 x4 (x1002==0) x1000 x1001 x1002 x1003) else(Qj.j1 k x3 x4 false x1000 x1001 x1002 x1003)
def Qj.j1 [Zx]:Nat→ByteArray→Int→Bool→ByteArray→Int→Int→Int→Option (Int×Int×ByteArray×(List (S26))×ByteArray×Int×Int×Int)
 |0,_,_,_,_,_,_,_=>none
 |k+1,x3,x4,x15,x1000,x1001,x1002,x1003=>if x15=true then((Xs.f x4).bind fun t107=>(if x3.toList=t107.toList then((Qj.f k x1000 (wrap64 (x1001+(x3.size:Int))) x1002 x1003).bind fun bt108=>(some (x4,0,(⟨#[]⟩ :ByteArray),(([(⟨bt108.1,bt108.2.1,bt108.2.2.1,bt108.2.2.2.1⟩ :S26)]:List (S26))),bt108.2.2.2.2.1,bt108.2.2.2.2.2.1,bt108.2.2.2.2.2.2.1,bt108.2.2.2.2.2.2.2))) else(Qj.l0 k x3 (wrap64 (x4+1)) x1000 x1001 x1002 x1003))) else((Vf.f k x1000 x1001 x1002 x1003).bind fun bt121=>(some (bt121.1,bt121.2.1,bt121.2.2.1,bt121.2.2.2.1,bt121.2.2.2.2.1,bt121.2.2.2.2.2.1,bt121.2.2.2.2.2.2.1,bt121.2.2.2.2.2.2.2)))
def Qj.f [Zx]:Nat→ByteArray→Int→Int→Int→Option (Int×Int×ByteArray×(List (S26))×ByteArray×Int×Int×Int)
 |0,_,_,_,_=>none
 |k+1,s0_0,s0_1,s0_2,s0_3=>(Qi.f k s0_0 s0_1 s0_2 s0_3).bind fun bt102=>(Qj.l0 k bt102.1 3 bt102.2.1 bt102.2.2.1 bt102.2.2.2.1 bt102.2.2.2.2)
end
theorem Qj.mono_l [Zx]:∀k,(∀y0 y1 y2 y3,LeO (Qj.f k y0 y1 y2 y3) (Qj.f (k+1) y0 y1 y2 y3))∧(∀y0 y1 y2 y3 y4 y5,LeO (Qj.l0 k y0 y1 y2 y3 y4 y5) (Qj.l0 (k+1) y0 y1 y2 y3 y4 y5))∧(∀y0 y1 y2 y3 y4 y5 y6,LeO (Qj.j1 k y0 y1 y2 y3 y4 y5 y6) (Qj.j1 (k+1) y0 y1 y2 y3 y4 y5 y6))
 |0=>⟨fun _ _ _ _ r h=>by simp [Qj.f] at h,fun _ _ _ _ _ _ r h=>by simp [Qj.l0] at h,fun _ _ _ _ _ _ _ r h=>by simp [Qj.j1] at h⟩
 |k+1=>by
  obtain⟨ih0,ih1,ih2⟩ :=Qj.mono_l k;refine⟨?_,?_,?_⟩
  ·intro y0 y1 y2 y3;unfold Qj.f;repeat' first
   |(with_reducible exact ih1 _ _ _ _ _ _)
   |(with_reducible exact Qi.mono _ _ _ _ _)
   |(with_reducible refine LeO.bind ?_ (fun _=>?_))
  ·intro y0 y1 y2 y3 y4 y5;unfold Qj.l0;repeat' first
   |(with_reducible exact ih2 _ _ _ _ _ _ _)
   |(with_reducible refine LeO.ite ?_ ?_)
  ·intro y0 y1 y2 y3 y4 y5 y6;unfold Qj.j1;repeat' first
   |(with_reducible exact ih0 _ _ _ _)
   |(with_reducible exact ih1 _ _ _ _ _ _)
   |(with_reducible exact Vf.mono _ _ _ _ _)
   |(with_reducible exact LeO.refl _)
   |(with_reducible refine LeO.ite ?_ ?_)
   |(with_reducible refine LeO.bind ?_ (fun _=>?_))
theorem Qj.mono [Zx]:∀a0 a1 a2 a3 k,LeO (Qj.f k a0 a1 a2 a3) (Qj.f (k+1) a0 a1 a2 a3):=by
 intro a0 a1 a2 a3 k;obtain⟨ih0,ih1,ih2⟩ :=Qj.mono_l k;exact ih0 a0 a1 a2 a3
set_option maxHeartbeats 8000000 in
set_option maxRecDepth 100000 in
theorem Qj.calls [Zx] (k:Nat):∀(g:Nat) (s0_0:ByteArray) (s0_1:Int) (s0_2:Int) (s0_3:Int) (r1:Int) (r2:Int) (r3:ByteArray) (r4:List (S26)) (r5:ByteArray) (r6:Int) (r7:Int) (r8:Int) (w0 w:World) (hI:Qw w0 w g s0_0 s0_1 s0_2 s0_3) (hB:Below w0.heap.size w0 w) (h:Qj.f k s0_0 s0_1 s0_2 s0_3=some (r1,r2,r3,r4,r5,r6,r7,r8)),
 Calls Tryd.prog 124 #[.pointer (some ⟨g,0,none⟩)] w fun e w'=>∃v3_:Value,e=.returned (.agg #[.int .i64 r1,.int .i64 r2,.string r3,v3_])∧Kd.N k26 26 w' w.heap.size (fun k_=>(w.heap.size≤k_)) v3_ r4∧Qw w0 w' g r5 r6 r7 r8∧Below w0.heap.size w0 w'∧Qe w w' g none:=by
 induction k using Nat.strongRecOn with
 |_ k ih=>
 intro g s0_0 s0_1 s0_2 s0_3 r1 r2 r3 r4 r5 r6 r7 r8 w0 w hI hB h
 cases k with
 |zero=>exact absurd h (by simp [Qj.f])
 |succ k=>
 simp only [Qj.f] at h;have HI0:=Qa.mk hI;have HK:=Qa.mk (Qe.refl w g none);clear hI;have HW0:=Qa.mk hB.size;have HB:=Qa.mk hB;clear hB;have H:((Qi.f k s0_0 s0_1 s0_2 s0_3).bind fun bt102=>(Qj.l0 k bt102.1 3 bt102.2.1 bt102.2.2.1 bt102.2.2.2.1 bt102.2.2.2.2))=some (r1,r2,r3,r4,r5,r6,r7,r8):=h
 clear h;replace H:=Option.bind_eq_some_iff.mp H;obtain⟨⟨t102,t103,t104,t105,t106⟩,A20,H⟩ :=H;try dsimp only at H
 have A2:=Qa.mk A20;clear A20;have H':=Qa.mk H;clear H;go_enter Tryd.func124,Tryd.ntmps124;go_wp2_with(first|((with_reducible refine Q0 (N:=2) rfl ?_);refine Xm ?hg (N:=2) ?hd (cs:=#[.int .i64 0,.int .i64 0,.string (⟨#[]⟩ :ByteArray),.slice none 0 0]) (t:=26) ?hr ?_;(case hd=>rfl);(case hg=>rfl);(case hr=>(go_simp;done));intro gb101 hg w3 hbox hb;replace HB:=Qa.mk (Qr HB.out hb);have BK101:=Qa.mk hbox;have GW101:=Qa.mk ((by rw [hg];exact(Q8 (w:=w) (g:=g) (row:=none) HK.out):w.heap.size≤gb101));have GE101:=Qa.mk ((Nat.le_trans HW0.out (by rw [hg];exact(Q8 (w:=w) (g:=g) (row:=none) HK.out):w.heap.size≤gb101):w0.heap.size≤gb101));replace HK:=Qa.mk (Qe.trans HK.out (Qe.of_below hb g none) (.inl rfl));have NB0_101:=Qa.mk ((by rw [hg];exact Nat.ne_of_lt (Qw.lt (show Qw w0 _ g s0_0 s0_1 s0_2 s0_3 from HI0.out)):g≠gb101));have NB101_0:=Qa.mk ((by rw [hg];exact Nat.ne_of_gt (Qw.lt (show Qw w0 _ g s0_0 s0_1 s0_2 s0_3 from HI0.out)):gb101≠g));replace HI0:=Qa.mk (Qw.below HI0.out hb);clear hb hbox hg)|((with_reducible refine Qp (f:=75) rfl ?_);refine Xh (some 6) rfl rfl Tryd.func75 (by kernel_rfl) rfl #[.pointer (some ⟨g,0,none⟩)] rfl (by(try simp only [List.map_toArray,List.map_cons,List.map_nil]);rfl) ?_;(with_reducible refine(Qi.calls k g s0_0 s0_1 s0_2 s0_3 t102 t103 t104 t105 t106 w0 _ HI0.out HB.out A2.out).mono ?_);rintro e w4 ⟨rfl,hi,hb,hk⟩;refine⟨_,rfl,?_⟩;replace BK101:=Qa.mk (Qe.blk hk (g':=gb101) (o:=.cells #[.int .i64 0,.int .i64 0,.string (⟨#[]⟩ :ByteArray),.slice none 0 0] 26 (0,0)) BK101.out NB101_0.out (by simp));replace HK:=Qa.mk (Qe.trans HK.out hk (.inl rfl));replace HB:=Qa.mk hb;replace HI0:=Qa.mk hi;(try clear hb);(try clear hk);(try clear hi)))
 go_loopg [4] k (fun kq v4 w'=>∃(x4_1:Int) (x1000_1:ByteArray) (x1001_1:Int) (x1002_1:Int) (x1003_1:Int) (x102000_1:Int) (x102001_1:Int) (x102002_1:ByteArray),v4=.int .i64 x4_1∧Qa (Qj.l0 kq t102 x4_1 x1000_1 x1001_1 x1002_1 x1003_1=some (r1,r2,r3,r4,r5,r6,r7,r8))∧Qa (kq≤k)∧Qa (w'.heap[gb101]? =some (.cells #[.int .i64 x102000_1,.int .i64 x102001_1,.string x102002_1,(.slice none 0 0)] 26 (0,0)))∧Qa (Qw w0 w' g x1000_1 x1001_1 x1002_1 x1003_1)∧Qa (Qe w w' g none)∧Qa (Below w0.heap.size w0 w'))
 case atStart=>exact⟨3,t103,t104,t105,t106,0,0,((⟨#[]⟩ :ByteArray)),(by rfl),H',⟨Nat.le_refl _⟩,⟨BK101.out⟩,⟨HI0.out⟩,⟨HK.out⟩,⟨HB.out⟩⟩
 case round=>
  clear H';obtain⟨x4_1,x1000_1,x1001_1,x1002_1,x1003_1,x102000_1,x102001_1,x102002_1,rfl,HA,HK1,BK101,HI0,HK,HB⟩ :=hrel
  cases gk with
  |zero=>exact absurd HA.out (by simp [Qj.l0])
  |succ k1=>
   have H:=HA.out;clear HA;simp only [Qj.l0] at H;have HC5:=Qa.mk H;clear H;go_upto_region 3 with (fail)
   go_cut [15] (fun v15 wc=>∃(kq:Nat) (x15_4:Bool),v15=.bool x15_4∧Qa (Qj.j1 kq t102 x4_1 x15_4 x1000_1 x1001_1 x1002_1 x1003_1=some (r1,r2,r3,r4,r5,r6,r7,r8))∧Qa (kq≤k1)∧Qa (wc.heap[gb101]? =some (.cells #[.int .i64 x102000_1,.int .i64 x102001_1,.string x102002_1,(.slice none 0 0)] 26 (0,0)))∧Qa (Qw w0 wc g x1000_1 x1001_1 x1002_1 x1003_1)∧Qa (Qe w wc g none)∧Qa (Below w0.heap.size w0 wc))
   case first=>
    have H:=HC5.out;clear HC5;by_cases c6:x4_1≤6
    rotate_left
    ·rw [if_neg c6] at H;have c6b0:decide (x4_1≤6)=false:=decide_eq_false c6;clear c6;have H':=Qa.mk H;clear H;go_wp2
     go_meet
     case rel=>exact⟨_,false,(by rfl),H',⟨by have:=HK1.out;omega⟩,⟨BK101.out⟩,⟨HI0.out⟩,⟨HK.out⟩,⟨HB.out⟩⟩
    rw [if_pos c6] at H;have c6b0:decide (x4_1≤6)=true:=decide_eq_true c6;clear c6;have H':=Qa.mk H;clear H;obtain⟨HGz7,hgz7⟩ :=HI0.out;have hcz7_2:=Yj HGz7;clear HGz7 hgz7;go_wp2
    go_meet
    case rel=>exact⟨_,((x1002_1==0)),(by rfl),H',⟨by have:=HK1.out;omega⟩,⟨BK101.out⟩,⟨HI0.out⟩,⟨HK.out⟩,⟨HB.out⟩⟩
   case rest=>
    clear HC5;obtain⟨kq,x15_4,rfl,HA,HJ4,BK101,HI0,HK,HB⟩ :=hcut
    cases kq with
    |zero=>exact absurd HA.out (by simp [Qj.j1])
    |succ kj4=>
     have H:=HA.out;clear HA;simp only [Qj.j1] at H;by_cases c8:x15_4=true
     rotate_left
     ·replace c8:=Bool.eq_false_iff.mpr c8;subst c8;have H1:((Vf.f kj4 x1000_1 x1001_1 x1002_1 x1003_1).bind fun bt121=>(some (bt121.1,bt121.2.1,bt121.2.2.1,bt121.2.2.2.1,bt121.2.2.2.2.1,bt121.2.2.2.2.2.1,bt121.2.2.2.2.2.2.1,bt121.2.2.2.2.2.2.2)))=some (r1,r2,r3,r4,r5,r6,r7,r8):=by rw [if_neg (show ¬(false=true) by decide)] at H;exact H
      clear H;have H:=H1;clear H1;replace H:=Option.bind_eq_some_iff.mp H;obtain⟨⟨t121,t122,t123,t124,t127,t128,t129,t130⟩,A220,H⟩ :=H;try dsimp only at H
      have A22:=Qa.mk A220;clear A220;simp only [Option.some.injEq,Prod.mk.injEq] at H;obtain⟨rfl,rfl,rfl,rfl,rfl,rfl,rfl,rfl⟩ :=H;go_wp2_with(((with_reducible refine Qp (f:=137) rfl ?_);refine Xh (some 38) rfl rfl Tryd.func137 (by kernel_rfl) rfl #[.pointer (some ⟨g,0,none⟩)] rfl (by(try simp only [List.map_toArray,List.map_cons,List.map_nil]);rfl) ?_;(with_reducible refine(Vf.calls kj4 g x1000_1 x1001_1 x1002_1 x1003_1 t121 t122 t123 t124 t127 t128 t129 t130 w0 _ HI0.out HB.out A22.out).mono ?_);rintro e w23 ⟨v125,rfl,ho0,hi,hb,hk⟩;refine⟨_,rfl,?_⟩;have HO126:=Qa.mk (Kd.N_lower (Kd.N_mono (ok':=fun k_=>(w.heap.size≤k_)∧k_≠gb101∧k_≠g) ho0 (fun k_ hk_=>⟨(Nat.le_trans (Q8 (w:=w) (g:=g) (row:=none) HK.out) hk_),(Kd.freshB (g:=gb101) (o:=.cells #[.int .i64 x102000_1,.int .i64 x102001_1,.string x102002_1,.slice none 0 0] 26 (0,0)) BK101.out k_ hk_),(Qw.fresh HI0.out k_ hk_)⟩)) (Q8 (w:=w) (g:=g) (row:=none) HK.out));replace BK101:=Qa.mk (Qe.blk hk (g':=gb101) (o:=.cells #[.int .i64 x102000_1,.int .i64 x102001_1,.string x102002_1,.slice none 0 0] 26 (0,0)) BK101.out NB101_0.out (by simp));replace HK:=Qa.mk (Qe.trans HK.out hk (.inl rfl));replace HB:=Qa.mk hb;replace HI0:=Qa.mk hi;(try clear hb);(try clear hk);(try clear hi);(try clear ho0);have hcz25_0:w23.cell? ⟨gb101,0,none⟩=some (.int .i64 x102000_1):=(Qb BK101.out 0).trans rfl;have hcz25_1:w23.cell? ⟨gb101,1,none⟩=some (.int .i64 x102001_1):=(Qb BK101.out 1).trans rfl;have hcz25_2:w23.cell? ⟨gb101,2,none⟩=some (.string x102002_1):=(Qb BK101.out 2).trans rfl;have hcz25_3:w23.cell? ⟨gb101,3,none⟩=some (.slice none 0 0):=(Qb BK101.out 3).trans rfl;have hfz25_0:=Qd BK101.out 0;have hfz25_1:=Qd BK101.out 1;have hfz25_2:=Qd BK101.out 2;have hfz25_3:=Qd BK101.out 3;obtain⟨Ao26,co26,eo26⟩ :=Kd.N_slice HO126.out;subst eo26))
      refine bodyPost_ret (results_cell_row rfl _ _ gb101 26 #[.int .i64 t121,.int .i64 t122,.string t123,.slice Ao26 t124.length co26] (0,0) _ rfl (by refine Qt (cs:=#[.int .i64 t121,.int .i64 t122,.string t123,.slice none 0 0]) ?_ 3 _ rfl;refine Qt (cs:=#[.int .i64 t121,.int .i64 t122,.string x102002_1,.slice none 0 0]) ?_ 2 _ rfl;refine Qt (cs:=#[.int .i64 t121,.int .i64 x102001_1,.string x102002_1,.slice none 0 0]) ?_ 1 _ rfl;refine Qt (cs:=#[.int .i64 x102000_1,.int .i64 x102001_1,.string x102002_1,.slice none 0 0]) ?_ 0 _ rfl;exact BK101.out) Tryd.underlying26 rfl (by kernel_rfl)) rfl ?_;exact⟨_,by rfl,by exact Kd.N_mono (Kd.N_far (p:=⟨gb101,3,none⟩) (Kd.N_far (p:=⟨gb101,2,none⟩) (Kd.N_far (p:=⟨gb101,1,none⟩) (Kd.N_far (p:=⟨gb101,0,none⟩) (Kd.N_mono HO126.out (fun k_ hk=>(⟨hk,hk.2.1⟩ :_∧k_≠gb101))) (fun _ hk=>hk.2) (.int .i64 t121)) (fun _ hk=>hk.2) (.int .i64 t122)) (fun _ hk=>hk.2) (.string t123)) (fun _ hk=>hk.2) (.slice Ao26 t124.length co26)) (fun _ hk=>hk.1.1),by repeat(with_reducible first|exact HI0.out|refine Qw.far ?_ NB0_101.out _),by repeat(with_reducible first|exact HB.out|refine Xf ?_ GE101.out),by repeat(with_reducible first|exact HK.out|refine Zm ?_ GW101.out _)⟩
     subst c8;have H1:((Xs.f x4_1).bind fun t107=>(if t102.toList=t107.toList then((Qj.f kj4 x1000_1 (wrap64 (x1001_1+(t102.size:Int))) x1002_1 x1003_1).bind fun bt108=>(some (x4_1,0,(⟨#[]⟩ :ByteArray),(([(⟨bt108.1,bt108.2.1,bt108.2.2.1,bt108.2.2.2.1⟩ :S26)]:List (S26))),bt108.2.2.2.2.1,bt108.2.2.2.2.2.1,bt108.2.2.2.2.2.2.1,bt108.2.2.2.2.2.2.2))) else(Qj.l0 kj4 t102 (wrap64 (x4_1+1)) x1000_1 x1001_1 x1002_1 x1003_1)))=some (r1,r2,r3,r4,r5,r6,r7,r8):=by rw [if_pos rfl] at H;exact H
     clear H;have H:=H1;clear H1;replace H:=Option.bind_eq_some_iff.mp H;obtain⟨t107,A90,H⟩ :=H;try dsimp only at H
     have A9:=Qa.mk A90;clear A90;by_cases c10:t102.toList=t107.toList
     rotate_left
     ·rw [if_neg c10] at H;have c10b0:(t102.toList==t107.toList)=false:=beq_eq_false_iff_ne.mpr c10;have H':=Qa.mk H;clear H;go_wp2_with(((with_reducible refine Qp (f:=83) rfl ?_);refine Xh (some 20) rfl rfl Tryd.func83 (by kernel_rfl) rfl #[.int .i64 x4_1] rfl (by(try simp only [List.map_toArray,List.map_cons,List.map_nil]);rfl) ?_;(with_reducible refine(Xs.calls x4_1 t107 _ A9.out).mono ?_);rintro e w21 ⟨rfl,hb⟩;refine⟨_,rfl,?_⟩;replace BK101:=Qa.mk (Q1 (g:=gb101) (o:=.cells #[.int .i64 x102000_1,.int .i64 x102001_1,.string x102002_1,.slice none 0 0] 26 (0,0)) BK101.out hb);replace HI0:=Qa.mk (Qw.below HI0.out hb);replace HK:=Qa.mk (Qe.trans HK.out (Qe.of_below hb g none) (.inl rfl));replace HB:=Qa.mk (Qr HB.out hb);(try clear hb)))
      go_roundg kj4
      case measure=>have:=HK1.out;have:=HJ4.out;omega
      case rel=>exact⟨(wrap64 (x4_1+1)),x1000_1,x1001_1,x1002_1,x1003_1,x102000_1,x102001_1,x102002_1,(by rfl),H',⟨by have:=HK1.out;have:=HJ4.out;omega⟩,⟨BK101.out⟩,⟨HI0.out⟩,⟨HK.out⟩,⟨HB.out⟩⟩
     rw [if_pos c10] at H;have c10b0:(t102.toList==t107.toList)=true:=beq_iff_eq.mpr c10;clear c10;replace H:=Option.bind_eq_some_iff.mp H;obtain⟨⟨t108,t109,t110,t111,t114,t115,t116,t117⟩,A110,H⟩ :=H;try dsimp only at H
     have A11:=Qa.mk A110;clear A110;obtain⟨y118,hy118⟩ :∃y_:List (S26),y_=(([(⟨t108,t109,t110,t111⟩ :S26)]:List (S26))):=⟨_,rfl⟩;replace H:(some (x4_1,0,(⟨#[]⟩ :ByteArray),y118,t114,t115,t116,t117))=some (r1,r2,r3,r4,r5,r6,r7,r8):=by(rw [hy118];with_reducible exact H)
     have Ny118:=Qa.mk hy118;clear hy118;simp only [Option.some.injEq,Prod.mk.injEq] at H;obtain⟨rfl,rfl,rfl,rfl,rfl,rfl,rfl,rfl⟩ :=H;go_wp2_with(first|((with_reducible refine Qp (f:=83) rfl ?_);refine Xh (some 20) rfl rfl Tryd.func83 (by kernel_rfl) rfl #[.int .i64 x4_1] rfl (by(try simp only [List.map_toArray,List.map_cons,List.map_nil]);rfl) ?_;(with_reducible refine(Xs.calls x4_1 t107 _ A9.out).mono ?_);rintro e w12 ⟨rfl,hb⟩;refine⟨_,rfl,?_⟩;replace BK101:=Qa.mk (Q1 (g:=gb101) (o:=.cells #[.int .i64 x102000_1,.int .i64 x102001_1,.string x102002_1,.slice none 0 0] 26 (0,0)) BK101.out hb);replace HI0:=Qa.mk (Qw.below HI0.out hb);replace HK:=Qa.mk (Qe.trans HK.out (Qe.of_below hb g none) (.inl rfl));replace HB:=Qa.mk (Qr HB.out hb);(try clear hb);obtain⟨HGz13,hgz13⟩ :=HI0.out;have hcz13_1:=Zi HGz13;have hfz13_1:=Qd HGz13 1;clear HGz13 hgz13)|((with_reducible refine Qp (f:=124) rfl ?_);refine Xh (some 34) rfl rfl Tryd.func124 (by kernel_rfl) rfl #[.pointer (some ⟨g,0,none⟩)] rfl (by(try simp only [List.map_toArray,List.map_cons,List.map_nil]);rfl) ?_;(with_reducible refine(ih kj4 (by have:=HK1.out;have:=HJ4.out;omega) g x1000_1 (wrap64 (x1001_1+(t102.size:Int))) x1002_1 x1003_1 t108 t109 t110 t111 t114 t115 t116 t117 w0 _ ?side1 ?side2 A11.out).mono ?_);(case side1=>repeat(with_reducible first|exact HI0.out|apply Qw.set_1));(case side2=>repeat((with_reducible first|exact HB.out|refine Xf ?_ (Qw.ge HI0.out))));rintro e w14 ⟨v112,rfl,ho0,hi,hb,hk⟩;refine⟨_,rfl,?_⟩;have HO113:=Qa.mk (Kd.N_lower (Kd.N_mono (ok':=fun k_=>(w.heap.size≤k_)∧k_≠gb101∧k_≠g) ho0 (fun k_ hk_=>⟨(Nat.le_trans (Q8 (w:=w) (g:=g) (row:=none) (by repeat(with_reducible first|exact HK.out|apply Qe.set_))) hk_),(Kd.freshB (g:=gb101) (o:=.cells #[.int .i64 x102000_1,.int .i64 x102001_1,.string x102002_1,.slice none 0 0] 26 (0,0)) (by refine Xg ?_ NB101_0.out _;exact BK101.out) k_ hk_),(Qw.fresh (by repeat(with_reducible first|exact HI0.out|apply Qw.set_1)) k_ hk_)⟩)) (Q8 (w:=w) (g:=g) (row:=none) (by repeat(with_reducible first|exact HK.out|apply Qe.set_))));replace BK101:=Qa.mk (Qe.blk hk (g':=gb101) (o:=.cells #[.int .i64 x102000_1,.int .i64 x102001_1,.string x102002_1,.slice none 0 0] 26 (0,0)) (by refine Xg ?_ NB101_0.out _;exact BK101.out) NB101_0.out (by simp));replace HK:=Qa.mk (Qe.trans (by repeat(with_reducible first|exact HK.out|apply Qe.set_)) hk (.inl rfl));replace HB:=Qa.mk hb;replace HI0:=Qa.mk hi;(try clear hb);(try clear hk);(try clear hi);(try clear ho0);obtain⟨Ao15,co15,eo15⟩ :=Kd.N_slice HO113.out;subst eo15)|((with_reducible refine Q0 (N:=35) rfl ?_);refine Kd.N_lit k26 _ 26 ?hg (N':=35) ?hd (xs:=([(⟨t108,t109,t110,t111⟩ :S26)]:List (S26))) (inner:=[.int .i64 t108,.int .i64 t109,.string t110,.slice Ao15 t111.length co15]) (ok:=(fun k_=>(w.heap.size≤k_)∧k_≠gb101∧k_≠g)) (okp:=(fun k_=>(w.heap.size≤k_)∧k_≠gb101∧k_≠g)) ?hr ?hp (fun _ hk=>hk) ((show ∀k_,w14.heap.size≤k_→(fun k_=>(w.heap.size≤k_)∧k_≠gb101∧k_≠g) k_ from fun k_ hk=>⟨(Nat.le_trans (Q8 (w:=w) (g:=g) (row:=none) HK.out) hk),Kd.freshB (g:=gb101) (o:=.cells #[.int .i64 x102000_1,.int .i64 x102001_1,.string x102002_1,.slice none 0 0] 26 (0,0)) BK101.out k_ hk,Qw.fresh HI0.out k_ hk⟩) _ (Nat.le_refl _)) (Below.refl _ _) (Nat.le_refl _) (by simp) ?_;(case hd=>rfl);(case hg=>rfl);(case hr=>(go_simp;done));(case hp=>exact(Xp.c4 (show Kd.FK k26 _ _ (⟨t108,t109,t110,t111⟩ :S26) [.int .i64 t108,.int .i64 t109,.string t110,.slice Ao15 t111.length co15] from(W7 _ _ (⟨t108,t109,t110,t111⟩ :S26) (Kd.N_reads' (Kd.N_mono (ok':=(fun k_=>(w.heap.size≤k_)∧k_≠gb101∧k_≠g)) (HO113.out) (fun k_ hk=>⟨hk.1,⟨hk.2.1,hk.2.2⟩⟩))).2.1 (Kd.N_F (Kd.N_mono (ok':=(fun k_=>(w.heap.size≤k_)∧k_≠gb101∧k_≠g)) (HO113.out) (fun k_ hk=>⟨hk.1,⟨hk.2.1,hk.2.2⟩⟩))))) (Xp.none _ _)));intro v119 w16 ho17 hb hg_ hnew_;clear hg_ hnew_;(rw [←Ny118.out] at ho17);have HO120:=Qa.mk (Kd.N_lower ho17 (Q8 (w:=w) (g:=g) (row:=none) HK.out));replace BK101:=Qa.mk (Q1 (g:=gb101) (o:=.cells #[.int .i64 x102000_1,.int .i64 x102001_1,.string x102002_1,.slice none 0 0] 26 (0,0)) BK101.out hb);replace HI0:=Qa.mk (Qw.below HI0.out hb);replace HK:=Qa.mk (Qe.trans HK.out (Qe.of_below hb g none) (.inl rfl));replace HB:=Qa.mk (Qr HB.out hb);clear HO113;clear hb ho17;obtain⟨Ao18,co18,eo18⟩ :=Kd.N_slice HO120.out;subst eo18;have hcz20_0:w16.cell? ⟨gb101,0,none⟩=some (.int .i64 x102000_1):=(Qb BK101.out 0).trans rfl;have hcz20_1:w16.cell? ⟨gb101,1,none⟩=some (.int .i64 x102001_1):=(Qb BK101.out 1).trans rfl;have hcz20_2:w16.cell? ⟨gb101,2,none⟩=some (.string x102002_1):=(Qb BK101.out 2).trans rfl;have hcz20_3:w16.cell? ⟨gb101,3,none⟩=some (.slice none 0 0):=(Qb BK101.out 3).trans rfl;have hfz20_0:=Qd BK101.out 0;have hfz20_1:=Qd BK101.out 1;have hfz20_2:=Qd BK101.out 2;have hfz20_3:=Qd BK101.out 3))
     refine bodyPost_ret (results_cell_row rfl _ _ gb101 26 #[.int .i64 x4_1,.int .i64 0,.string (⟨#[]⟩ :ByteArray),.slice Ao18 y118.length co18] (0,0) _ rfl (by refine Qt (cs:=#[.int .i64 x4_1,.int .i64 0,.string (⟨#[]⟩ :ByteArray),.slice none 0 0]) ?_ 3 _ rfl;refine Qt (cs:=#[.int .i64 x4_1,.int .i64 0,.string x102002_1,.slice none 0 0]) ?_ 2 _ rfl;refine Qt (cs:=#[.int .i64 x4_1,.int .i64 x102001_1,.string x102002_1,.slice none 0 0]) ?_ 1 _ rfl;refine Qt (cs:=#[.int .i64 x102000_1,.int .i64 x102001_1,.string x102002_1,.slice none 0 0]) ?_ 0 _ rfl;exact BK101.out) Tryd.underlying26 rfl (by kernel_rfl)) rfl ?_;exact⟨_,by rfl,by exact Kd.N_mono (Kd.N_far (p:=⟨gb101,3,none⟩) (Kd.N_far (p:=⟨gb101,2,none⟩) (Kd.N_far (p:=⟨gb101,1,none⟩) (Kd.N_far (p:=⟨gb101,0,none⟩) (Kd.N_mono HO120.out (fun k_ hk=>(⟨hk,hk.2.1⟩ :_∧k_≠gb101))) (fun _ hk=>hk.2) (.int .i64 x4_1)) (fun _ hk=>hk.2) (.int .i64 0)) (fun _ hk=>hk.2) (.string (⟨#[]⟩ :ByteArray))) (fun _ hk=>hk.2) (.slice Ao18 y118.length co18)) (fun _ hk=>hk.1.1),by repeat(with_reducible first|exact HI0.out|refine Qw.far ?_ NB0_101.out _),by repeat(with_reducible first|exact HB.out|refine Xf ?_ GE101.out),by repeat(with_reducible first|exact HK.out|refine Zm ?_ GW101.out _)⟩
mutual
def Ql.j0:Nat→Int→Bool→Option (Int)
 |0,_,_=>none
 |k+1,x0,x24=>if x24=true then(some 8) else(if x0 ≥ 14 then(Ql.j1 k x0 (decide (x0≤17))) else(Ql.j1 k x0 false))
def Ql.j1:Nat→Int→Bool→Option (Int)
 |0,_,_=>none
 |k+1,x0,x31=>if x31=true then(some 9) else(if x0=12 then(Ql.j2 k x0 true) else(Ql.j2 k x0 (x0==13)))
def Ql.j2:Nat→Int→Bool→Option (Int)
 |0,_,_=>none
 |k+1,x0,x38=>if x38=true then(some 10) else(if x0=10 then(Ql.j3 k x0 true) else(Ql.j3 k x0 (x0==11)))
def Ql.j3:Nat→Int→Bool→Option (Int)
 |0,_,_=>none
 |k+1,x0,x45=>if x45=true then(some 11) else(if x0 ≥ 7 then(Ql.j4 k x0 (decide (x0≤9))) else(Ql.j4 k x0 false))
def Ql.j4:Nat→Int→Bool→Option (Int)
 |0,_,_=>none
 |k+1,x0,x52=>if x52=true then(some 12) else(if x0 ≥ 3 then(if x0≤6 then(some 13) else(some 14)) else(some 14))
end
def Ql.f (k:Nat) (a0:Int):Option (Int):=if a0=26 then(some 1) else(if a0=25 then(some 2) else(if a0=24 then(some 3) else(if a0=23 then(some 4) else(if a0=22 then(some 5) else(if a0=21 then(some 6) else(if a0=20 then(some 7) else(if a0=18 then(Ql.j0 k a0 true) else(Ql.j0 k a0 (a0==19)))))))))
theorem Ql.mono_l:∀k,(∀y0 y1,LeO (Ql.j0 k y0 y1) (Ql.j0 (k+1) y0 y1))∧(∀y0 y1,LeO (Ql.j1 k y0 y1) (Ql.j1 (k+1) y0 y1))∧(∀y0 y1,LeO (Ql.j2 k y0 y1) (Ql.j2 (k+1) y0 y1))∧(∀y0 y1,LeO (Ql.j3 k y0 y1) (Ql.j3 (k+1) y0 y1))∧(∀y0 y1,LeO (Ql.j4 k y0 y1) (Ql.j4 (k+1) y0 y1))
 |0=>⟨fun _ _ r h=>by simp [Ql.j0] at h,fun _ _ r h=>by simp [Ql.j1] at h,fun _ _ r h=>by simp [Ql.j2] at h,fun _ _ r h=>by simp [Ql.j3] at h,fun _ _ r h=>by simp [Ql.j4] at h⟩
 |k+1=>by
  obtain⟨ih0,ih1,ih2,ih3,ih4⟩ :=Ql.mono_l k;refine⟨?_,?_,?_,?_,?_⟩
  ·intro y0 y1;unfold Ql.j0;repeat' first
   |(with_reducible exact ih1 _ _)
   |(with_reducible exact LeO.refl _)
   |(with_reducible refine LeO.ite ?_ ?_)
  ·intro y0 y1;unfold Ql.j1;repeat' first
   |(with_reducible exact ih2 _ _)
   |(with_reducible exact LeO.refl _)
   |(with_reducible refine LeO.ite ?_ ?_)
  ·intro y0 y1;unfold Ql.j2;repeat' first
   |(with_reducible exact ih3 _ _)
   |(with_reducible exact LeO.refl _)
   |(with_reducible refine LeO.ite ?_ ?_)
  ·intro y0 y1;unfold Ql.j3;repeat' first
   |(with_reducible exact ih4 _ _)
   |(with_reducible exact LeO.refl _)
   |(with_reducible refine LeO.ite ?_ ?_)
  ·intro y0 y1;unfold Ql.j4;repeat' (with_reducible exact LeO.refl _)
theorem Ql.mono:∀a0 k,LeO (Ql.f k a0) (Ql.f (k+1) a0):=by
 intro a0 k;obtain⟨ih0,ih1,ih2,ih3,ih4⟩ :=Ql.mono_l k;unfold Ql.f
 repeat' first
  |(with_reducible exact ih0 _ _)
  |(with_reducible exact LeO.refl _)
  |(with_reducible refine LeO.ite ?_ ?_)
set_option maxHeartbeats 8000000 in
set_option maxRecDepth 100000 in
theorem Ql.calls (k:Nat) (a0:Int) (r:Int) (w:World) (h:Ql.f k a0=some r):
 Calls Tryd.prog 82 #[.int .i64 a0] w fun e w'=>e=.returned (.int .i64 r)∧Qk w w':=by
 have H:(if a0=26 then(some 1) else(if a0=25 then(some 2) else(if a0=24 then(some 3) else(if a0=23 then(some 4) else(if a0=22 then(some 5) else(if a0=21 then(some 6) else(if a0=20 then(some 7) else(if a0=18 then(Ql.j0 k a0 true) else(Ql.j0 k a0 (a0==19))))))))))=some r:=h;clear h;by_cases c2:a0=26
 ·rw [if_pos c2] at H;have c2b0:(a0==26)=true:=beq_iff_eq.mpr c2;clear c2;obtain rfl:=Option.some.inj H;go_enter Tryd.func82,Tryd.ntmps82;go_wp2;go_ret;exact⟨by rfl,by repeat(exact Qk.refl _)⟩
 rw [if_neg c2] at H;have c2b0:(a0==26)=false:=beq_eq_false_iff_ne.mpr c2;by_cases c3:a0=25
 ·rw [if_pos c3] at H;have c3b0:(a0==25)=true:=beq_iff_eq.mpr c3;clear c3;obtain rfl:=Option.some.inj H;go_enter Tryd.func82,Tryd.ntmps82;go_wp2;go_ret;exact⟨by rfl,by repeat(exact Qk.refl _)⟩
 rw [if_neg c3] at H;have c3b0:(a0==25)=false:=beq_eq_false_iff_ne.mpr c3;by_cases c4:a0=24
 ·rw [if_pos c4] at H;have c4b0:(a0==24)=true:=beq_iff_eq.mpr c4;clear c4;obtain rfl:=Option.some.inj H;go_enter Tryd.func82,Tryd.ntmps82;go_wp2;go_ret;exact⟨by rfl,by repeat(exact Qk.refl _)⟩
 rw [if_neg c4] at H;have c4b0:(a0==24)=false:=beq_eq_false_iff_ne.mpr c4;by_cases c5:a0=23
 ·rw [if_pos c5] at H;have c5b0:(a0==23)=true:=beq_iff_eq.mpr c5;clear c5;obtain rfl:=Option.some.inj H;go_enter Tryd.func82,Tryd.ntmps82;go_wp2;go_ret;exact⟨by rfl,by repeat(exact Qk.refl _)⟩
 rw [if_neg c5] at H;have c5b0:(a0==23)=false:=beq_eq_false_iff_ne.mpr c5;by_cases c6:a0=22
 ·rw [if_pos c6] at H;have c6b0:(a0==22)=true:=beq_iff_eq.mpr c6;clear c6;obtain rfl:=Option.some.inj H;go_enter Tryd.func82,Tryd.ntmps82;go_wp2;go_ret;exact⟨by rfl,by repeat(exact Qk.refl _)⟩
 rw [if_neg c6] at H;have c6b0:(a0==22)=false:=beq_eq_false_iff_ne.mpr c6;by_cases c7:a0=21
 ·rw [if_pos c7] at H;have c7b0:(a0==21)=true:=beq_iff_eq.mpr c7;clear c7;obtain rfl:=Option.some.inj H;go_enter Tryd.func82,Tryd.ntmps82;go_wp2;go_ret;exact⟨by rfl,by repeat(exact Qk.refl _)⟩
 rw [if_neg c7] at H;have c7b0:(a0==21)=false:=beq_eq_false_iff_ne.mpr c7;by_cases c8:a0=20
 ·rw [if_pos c8] at H;have c8b0:(a0==20)=true:=beq_iff_eq.mpr c8;clear c8;obtain rfl:=Option.some.inj H;go_enter Tryd.func82,Tryd.ntmps82;go_wp2;go_ret;exact⟨by rfl,by repeat(exact Qk.refl _)⟩
 rw [if_neg c8] at H;have c8b0:(a0==20)=false:=beq_eq_false_iff_ne.mpr c8;have HC9:=Qa.mk H;clear H;go_enter Tryd.func82,Tryd.ntmps82;go_upto_region 15 with (fail)
 go_cut [24] (fun v24 wc=>∃(kq:Nat) (x24_8:Bool),v24=.bool x24_8∧Qa (Ql.j0 kq a0 x24_8=some r)∧Qa (kq≤k)∧Qk w wc)
 case first=>
  have H:=HC9.out;clear HC9;by_cases c10:a0=18
  rotate_left
  ·rw [if_neg c10] at H;have c10b0:(a0==18)=false:=beq_eq_false_iff_ne.mpr c10;have H':=Qa.mk H;clear H;go_wp2
   go_meet
   case rel=>exact⟨_,((a0==19)),(by rfl),H',⟨by omega⟩,by repeat(exact Qk.refl _)⟩
  rw [if_pos c10] at H;have c10b0:(a0==18)=true:=beq_iff_eq.mpr c10;clear c10;have H':=Qa.mk H;clear H;go_wp2
  go_meet
  case rel=>exact⟨_,true,(by rfl),H',⟨by omega⟩,by repeat(exact Qk.refl _)⟩
 case rest=>
  clear HC9;(try clear c2);(try clear c2b0);(try clear c3);(try clear c3b0);(try clear c4);(try clear c4b0);(try clear c5);(try clear c5b0);(try clear c6);(try clear c6b0);(try clear c7);(try clear c7b0);(try clear c8);(try clear c8b0);obtain⟨kq,x24_8,rfl,HA,HJ8,⟨mc8,rfl⟩⟩ :=hcut
  cases kq with
  |zero=>exact absurd HA.out (by simp [Ql.j0])
  |succ kj8=>
   have H:=HA.out;clear HA;simp only [Ql.j0] at H;by_cases c11:x24_8=true
   ·subst c11;have H1:(some 8)=some r:=by rw [if_pos rfl] at H;exact H
    clear H;have H:=H1;clear H1;obtain rfl:=Option.some.inj H;go_wp2;go_ret;exact⟨by rfl,by repeat(first|exact Qk.refl _|apply Qk.step)⟩
   replace c11:=Bool.eq_false_iff.mpr c11;subst c11;have H1:(if a0 ≥ 14 then(Ql.j1 kj8 a0 (decide (a0≤17))) else(Ql.j1 kj8 a0 false))=some r:=by rw [if_neg (show ¬(false=true) by decide)] at H;exact H
   clear H;have H:=H1;clear H1;have HC12:=Qa.mk H;clear H;go_upto_region 17 with (fail)
   go_cut [31] (fun v31 wc=>∃(kq:Nat) (x31_11:Bool),v31=.bool x31_11∧Qa (Ql.j1 kq a0 x31_11=some r)∧Qa (kq≤kj8)∧Qk w wc)
   case first=>
    have H:=HC12.out;clear HC12;by_cases c13:a0 ≥ 14
    ·rw [if_pos c13] at H;have c13b0:decide (14≤a0)=true:=decide_eq_true c13;clear c13;have H':=Qa.mk H;clear H;go_wp2
     go_meet
     case rel=>exact⟨_,(decide (a0≤17)),(by rfl),H',⟨by have:=HJ8.out;omega⟩,by repeat(first|exact Qk.refl _|apply Qk.step)⟩
    rw [if_neg c13] at H;have c13b0:decide (14≤a0)=false:=decide_eq_false c13;clear c13;have H':=Qa.mk H;clear H;go_wp2
    go_meet
    case rel=>exact⟨_,false,(by rfl),H',⟨by have:=HJ8.out;omega⟩,by repeat(first|exact Qk.refl _|apply Qk.step)⟩
   case rest=>
    clear HC12;obtain⟨kq,x31_11,rfl,HA,HJ11,⟨mc11,rfl⟩⟩ :=hcut
    cases kq with
    |zero=>exact absurd HA.out (by simp [Ql.j1])
    |succ kj11=>
     have H:=HA.out;clear HA;simp only [Ql.j1] at H;by_cases c14:x31_11=true
     ·subst c14;have H1:(some 9)=some r:=by rw [if_pos rfl] at H;exact H
      clear H;have H:=H1;clear H1;obtain rfl:=Option.some.inj H;go_wp2;go_ret;exact⟨by rfl,by repeat(first|exact Qk.refl _|apply Qk.step)⟩
     replace c14:=Bool.eq_false_iff.mpr c14;subst c14;have H1:(if a0=12 then(Ql.j2 kj11 a0 true) else(Ql.j2 kj11 a0 (a0==13)))=some r:=by rw [if_neg (show ¬(false=true) by decide)] at H;exact H
     clear H;have H:=H1;clear H1;have HC15:=Qa.mk H;clear H;go_upto_region 19 with (fail)
     go_cut [38] (fun v38 wc=>∃(kq:Nat) (x38_14:Bool),v38=.bool x38_14∧Qa (Ql.j2 kq a0 x38_14=some r)∧Qa (kq≤kj11)∧Qk w wc)
     case first=>
      have H:=HC15.out;clear HC15;by_cases c16:a0=12
      rotate_left
      ·rw [if_neg c16] at H;have c16b0:(a0==12)=false:=beq_eq_false_iff_ne.mpr c16;have H':=Qa.mk H;clear H;go_wp2
       go_meet
       case rel=>exact⟨_,((a0==13)),(by rfl),H',⟨by have:=HJ8.out;have:=HJ11.out;omega⟩,by repeat(first|exact Qk.refl _|apply Qk.step)⟩
      rw [if_pos c16] at H;have c16b0:(a0==12)=true:=beq_iff_eq.mpr c16;clear c16;have H':=Qa.mk H;clear H;go_wp2
      go_meet
      case rel=>exact⟨_,true,(by rfl),H',⟨by have:=HJ8.out;have:=HJ11.out;omega⟩,by repeat(first|exact Qk.refl _|apply Qk.step)⟩
     case rest=>
      clear HC15;obtain⟨kq,x38_14,rfl,HA,HJ14,⟨mc14,rfl⟩⟩ :=hcut
      cases kq with
      |zero=>exact absurd HA.out (by simp [Ql.j2])
      |succ kj14=>
       have H:=HA.out;clear HA;simp only [Ql.j2] at H;by_cases c17:x38_14=true
       ·subst c17;have H1:(some 10)=some r:=by rw [if_pos rfl] at H;exact H
        clear H;have H:=H1;clear H1;obtain rfl:=Option.some.inj H;go_wp2;go_ret;exact⟨by rfl,by repeat(first|exact Qk.refl _|apply Qk.step)⟩
       replace c17:=Bool.eq_false_iff.mpr c17;subst c17;have H1:(if a0=10 then(Ql.j3 kj14 a0 true) else(Ql.j3 kj14 a0 (a0==11)))=some r:=by rw [if_neg (show ¬(false=true) by decide)] at H;exact H
       clear H;have H:=H1;clear H1;have HC18:=Qa.mk H;clear H;go_upto_region 21 with (fail)
       go_cut [45] (fun v45 wc=>∃(kq:Nat) (x45_17:Bool),v45=.bool x45_17∧Qa (Ql.j3 kq a0 x45_17=some r)∧Qa (kq≤kj14)∧Qk w wc)
       case first=>
        have H:=HC18.out;clear HC18;by_cases c19:a0=10
        rotate_left
        ·rw [if_neg c19] at H;have c19b0:(a0==10)=false:=beq_eq_false_iff_ne.mpr c19;have H':=Qa.mk H;clear H;go_wp2
         go_meet
         case rel=>exact⟨_,((a0==11)),(by rfl),H',⟨by have:=HJ8.out;have:=HJ11.out;have:=HJ14.out;omega⟩,by repeat(first|exact Qk.refl _|apply Qk.step)⟩
        rw [if_pos c19] at H;have c19b0:(a0==10)=true:=beq_iff_eq.mpr c19;clear c19;have H':=Qa.mk H;clear H;go_wp2
        go_meet
        case rel=>exact⟨_,true,(by rfl),H',⟨by have:=HJ8.out;have:=HJ11.out;have:=HJ14.out;omega⟩,by repeat(first|exact Qk.refl _|apply Qk.step)⟩
       case rest=>
        clear HC18;obtain⟨kq,x45_17,rfl,HA,HJ17,⟨mc17,rfl⟩⟩ :=hcut
        cases kq with
        |zero=>exact absurd HA.out (by simp [Ql.j3])
        |succ kj17=>
         have H:=HA.out;clear HA;simp only [Ql.j3] at H;by_cases c20:x45_17=true
         ·subst c20;have H1:(some 11)=some r:=by rw [if_pos rfl] at H;exact H
          clear H;have H:=H1;clear H1;obtain rfl:=Option.some.inj H;go_wp2;go_ret;exact⟨by rfl,by repeat(first|exact Qk.refl _|apply Qk.step)⟩
         replace c20:=Bool.eq_false_iff.mpr c20;subst c20;have H1:(if a0 ≥ 7 then(Ql.j4 kj17 a0 (decide (a0≤9))) else(Ql.j4 kj17 a0 false))=some r:=by rw [if_neg (show ¬(false=true) by decide)] at H;exact H
         clear H;have H:=H1;clear H1;have HC21:=Qa.mk H;clear H;go_upto_region 23 with (fail)
         go_cut [52] (fun v52 wc=>∃(kq:Nat) (x52_20:Bool),v52=.bool x52_20∧Qa (Ql.j4 kq a0 x52_20=some r)∧Qa (kq≤kj17)∧Qk w wc)
         case first=>
          have H:=HC21.out;clear HC21;by_cases c22:a0 ≥ 7
          ·rw [if_pos c22] at H;have c22b0:decide (7≤a0)=true:=decide_eq_true c22;clear c22;have H':=Qa.mk H;clear H;go_wp2
           go_meet
           case rel=>exact⟨_,(decide (a0≤9)),(by rfl),H',⟨by have:=HJ8.out;have:=HJ11.out;have:=HJ14.out;have:=HJ17.out;omega⟩,by repeat(first|exact Qk.refl _|apply Qk.step)⟩
          rw [if_neg c22] at H;have c22b0:decide (7≤a0)=false:=decide_eq_false c22;clear c22;have H':=Qa.mk H;clear H;go_wp2
          go_meet
          case rel=>exact⟨_,false,(by rfl),H',⟨by have:=HJ8.out;have:=HJ11.out;have:=HJ14.out;have:=HJ17.out;omega⟩,by repeat(first|exact Qk.refl _|apply Qk.step)⟩
         case rest=>
          clear HC21;obtain⟨kq,x52_20,rfl,HA,HJ20,⟨mc20,rfl⟩⟩ :=hcut
          cases kq with
          |zero=>exact absurd HA.out (by simp [Ql.j4])
          |succ kj20=>
           have H:=HA.out;clear HA;simp only [Ql.j4] at H;by_cases c23:x52_20=true
           ·subst c23;have H1:(some 12)=some r:=by rw [if_pos rfl] at H;exact H
            clear H;have H:=H1;clear H1;obtain rfl:=Option.some.inj H;go_wp2;go_ret;exact⟨by rfl,by repeat(first|exact Qk.refl _|apply Qk.step)⟩
           replace c23:=Bool.eq_false_iff.mpr c23;subst c23;have H1:(if a0 ≥ 3 then(if a0≤6 then(some 13) else(some 14)) else(some 14))=some r:=by rw [if_neg (show ¬(false=true) by decide)] at H;exact H
           clear H;have H:=H1;clear H1;by_cases c24:a0 ≥ 3
           rotate_left
           ·rw [if_neg c24] at H;have c24b0:decide (3≤a0)=false:=decide_eq_false c24;clear c24;obtain rfl:=Option.some.inj H;go_wp2;go_ret;exact⟨by rfl,by repeat(first|exact Qk.refl _|apply Qk.step)⟩
           rw [if_pos c24] at H;have c24b0:decide (3≤a0)=true:=decide_eq_true c24;clear c24;by_cases c25:a0≤6
           ·rw [if_pos c25] at H;have c25b0:decide (a0≤6)=true:=decide_eq_true c25;clear c25;obtain rfl:=Option.some.inj H;go_wp2;go_ret;exact⟨by rfl,by repeat(first|exact Qk.refl _|apply Qk.step)⟩
           rw [if_neg c25] at H;have c25b0:decide (a0≤6)=false:=decide_eq_false c25;clear c25;obtain rfl:=Option.some.inj H;go_wp2;go_ret;exact⟨by rfl,by repeat(first|exact Qk.refl _|apply Qk.step)⟩
def Q7.l0:Nat→ByteArray→Int→Int→Option (Int)
 |0,_,_,_=>none
 |k+1,x0,x1,x5=>if x5≤24 then((Xs.f x5).bind fun t190=>(if t190.toList=x0.toList then((Ql.f k x5).bind fun t191=>(if t191=x1 then(some x5) else(Q7.l0 k x0 x1 (wrap64 (x5+1))))) else(Q7.l0 k x0 x1 (wrap64 (x5+1))))) else(some 0)
def Q7.f (k:Nat) (a0:ByteArray) (a1:Int):Option (Int):=Q7.l0 k a0 a1 7
theorem Q7.mono_l:∀k,(∀y0 y1 y2,LeO (Q7.l0 k y0 y1 y2) (Q7.l0 (k+1) y0 y1 y2))
 |0=>fun _ _ _ r h=>by simp [Q7.l0] at h
 |k+1=>by
  have ih0:=Q7.mono_l k
  ·intro y0 y1 y2;unfold Q7.l0;repeat' first
   |(with_reducible exact ih0 _ _ _)
   |(with_reducible exact Ql.mono _ _)
   |(with_reducible exact LeO.refl _)
   |(with_reducible refine LeO.ite ?_ ?_)
   |(with_reducible refine LeO.bind ?_ (fun _=>?_))
theorem Q7.mono:∀a0 a1 k,LeO (Q7.f k a0 a1) (Q7.f (k+1) a0 a1):=by
 intro a0 a1 k;have ih0:=Q7.mono_l k;unfold Q7.f;repeat' (with_reducible exact ih0 _ _ _)
set_option maxHeartbeats 8000000 in
set_option maxRecDepth 100000 in
theorem Q7.calls (k:Nat) (a0:ByteArray) (a1:Int) (r:Int) (w:World) (h:Q7.f k a0 a1=some r):
 Calls Tryd.prog 125 #[.string a0,.int .i64 a1] w fun e w'=>e=.returned (.int .i64 r)∧Below w.heap.size w w':=by
 have HB:=Qa.mk (Below.refl w.heap.size w);have H:(Q7.l0 k a0 a1 7)=some r:=h;clear h;have H':=Qa.mk H;clear H;go_enter Tryd.func125,Tryd.ntmps125;go_wp2
 go_loopg [5] k (fun kq v5 w'=>∃(x5_1:Int),v5=.int .i64 x5_1∧Qa (Q7.l0 kq a0 a1 x5_1=some r)∧Qa (kq≤k)∧Qa (Below w.heap.size w w'))
 case atStart=>exact⟨7,(by rfl),H',⟨Nat.le_refl _⟩,⟨HB.out⟩⟩
 case round=>
  clear H';obtain⟨x5_1,rfl,HA,HK1,HB⟩ :=hrel
  cases gk with
  |zero=>exact absurd HA.out (by simp [Q7.l0])
  |succ k1=>
   have H:=HA.out;clear HA;simp only [Q7.l0] at H;by_cases c3:x5_1≤24
   rotate_left
   ·rw [if_neg c3] at H;have c3b0:decide (x5_1≤24)=false:=decide_eq_false c3;clear c3;obtain rfl:=Option.some.inj H;go_wp2;go_ret;exact⟨by rfl,HB.out⟩
   rw [if_pos c3] at H;have c3b0:decide (x5_1≤24)=true:=decide_eq_true c3;clear c3;replace H:=Option.bind_eq_some_iff.mp H;obtain⟨t190,A40,H⟩ :=H;try dsimp only at H
   have A4:=Qa.mk A40;clear A40;by_cases c5:t190.toList=a0.toList
   rotate_left
   ·rw [if_neg c5] at H;have c5b0:(t190.toList==a0.toList)=false:=beq_eq_false_iff_ne.mpr c5;have H':=Qa.mk H;clear H;go_wp2_with(((with_reducible refine Qp (f:=83) rfl ?_);refine Xh (some 11) rfl rfl Tryd.func83 (by kernel_rfl) rfl #[.int .i64 x5_1] rfl (by(try simp only [List.map_toArray,List.map_cons,List.map_nil]);rfl) ?_;(with_reducible refine(Xs.calls x5_1 t190 _ A4.out).mono ?_);rintro e w10 ⟨rfl,hb⟩;refine⟨_,rfl,?_⟩;replace HB:=Qa.mk (Qr HB.out hb);(try clear hb)))
    go_roundg k1
    case measure=>have:=HK1.out;omega
    case rel=>exact⟨(wrap64 (x5_1+1)),(by rfl),H',⟨by have:=HK1.out;omega⟩,⟨HB.out⟩⟩
   rw [if_pos c5] at H;have c5b0:(t190.toList==a0.toList)=true:=beq_iff_eq.mpr c5;clear c5;replace H:=Option.bind_eq_some_iff.mp H;obtain⟨t191,A60,H⟩ :=H;try dsimp only at H
   have A6:=Qa.mk A60;clear A60;by_cases c7:t191=a1
   ·rw [if_pos c7] at H;have c7b0:(t191==a1)=true:=beq_iff_eq.mpr c7;clear c7;obtain rfl:=Option.some.inj H;go_wp2_with(first|((with_reducible refine Qp (f:=83) rfl ?_);refine Xh (some 11) rfl rfl Tryd.func83 (by kernel_rfl) rfl #[.int .i64 x5_1] rfl (by(try simp only [List.map_toArray,List.map_cons,List.map_nil]);rfl) ?_;(with_reducible refine(Xs.calls x5_1 t190 _ A4.out).mono ?_);rintro e w8 ⟨rfl,hb⟩;refine⟨_,rfl,?_⟩;replace HB:=Qa.mk (Qr HB.out hb);(try clear hb))|(go_at_call 82;(with_reducible refine(Ql.calls k1 x5_1 t191 _ A6.out).mono ?_);rintro e w' ⟨rfl,⟨nd,rfl⟩⟩));go_ret;exact⟨by rfl,by repeat(with_reducible first|exact HB.out|apply Q6)⟩
   rw [if_neg c7] at H;have c7b0:(t191==a1)=false:=beq_eq_false_iff_ne.mpr c7;have H':=Qa.mk H;clear H;go_wp2_with(first|((with_reducible refine Qp (f:=83) rfl ?_);refine Xh (some 11) rfl rfl Tryd.func83 (by kernel_rfl) rfl #[.int .i64 x5_1] rfl (by(try simp only [List.map_toArray,List.map_cons,List.map_nil]);rfl) ?_;(with_reducible refine(Xs.calls x5_1 t190 _ A4.out).mono ?_);rintro e w9 ⟨rfl,hb⟩;refine⟨_,rfl,?_⟩;replace HB:=Qa.mk (Qr HB.out hb);(try clear hb))|(go_at_call 82;(with_reducible refine(Ql.calls k1 x5_1 t191 _ A6.out).mono ?_);rintro e w' ⟨rfl,⟨nd,rfl⟩⟩))
   go_roundg k1
   case measure=>have:=HK1.out;omega
   case rel=>exact⟨(wrap64 (x5_1+1)),(by rfl),H',⟨by have:=HK1.out;omega⟩,⟨by repeat(with_reducible first|exact HB.out|apply Q6)⟩⟩
end Go.Proofs.YtglmdfddgmkmaaaDoor.Q
end
section
namespace Go.Proofs.YtglmdfddgmkmaaaDoor.Q
open Go.RowKit Go.Proofs.YtglmdfddgmkmaaaDoorW.PrintWords Go.Proofs.YtglmdfddgmkmaaaDoorW.PrintLast Go.Proofs.YtglmdfddgmkmaaaDoorW.PrintMore
attribute [local go_sem] Z0 Z2 Yd Ye Zq Zr Z1 Z3
set_option linter.unusedVariables false
set_option linter.unusedSimpArgs false
mutual
def Qm.l0 [Yt]:Nat→Int→ByteArray→Int→Int→Int→Int→Int→ByteArray→List (S26)→Option (Int×Int×ByteArray×(List (S26))×ByteArray×Int×Int×Int)
 |0,_,_,_,_,_,_,_,_,_=>none
 |k+1,x1,x1000,x1001,x1002,x1003,x123000,x123001,x123002,x123003=>if x1002=0 then((Qi.f k x1000 x1001 x1002 x1003).bind fun bt123=>((Q7.f k bt123.1 x1).bind fun t128=>(if t128=0 then(some (x123000,x123001,x123002,x123003,bt123.2.1,bt123.2.2.1,bt123.2.2.2.1,bt123.2.2.2.2)) else((Qm.f k bt123.2.1 (wrap64 (bt123.2.2.1+(bt123.1.size:Int))) bt123.2.2.2.1 bt123.2.2.2.2 (wrap64 (x1+1))).bind fun bt129=>(Qm.l0 k x1 bt129.2.2.2.2.1 bt129.2.2.2.2.2.1 bt129.2.2.2.2.2.2.1 bt129.2.2.2.2.2.2.2 t128 0 (⟨#[]⟩ :ByteArray) (([(⟨x123000,x123001,x123002,x123003⟩ :S26),(⟨bt129.1,bt129.2.1,bt129.2.2.1,bt129.2.2.2.1⟩ :S26)]:List (S26)))))))) else(some (x123000,x123001,x123002,x123003,x1000,x1001,x1002,x1003))
def Qm.f [Yt]:Nat→ByteArray→Int→Int→Int→Int→Option (Int×Int×ByteArray×(List (S26))×ByteArray×Int×Int×Int)
 |0,_,_,_,_,_=>none
 |k+1,s0_0,s0_1,s0_2,s0_3,a1=>if a1 > 12 then((Wl.f k s0_0 s0_1 s0_2 s0_3).bind fun bt102=>(some (bt102.1,bt102.2.1,bt102.2.2.1,bt102.2.2.2.1,bt102.2.2.2.2.1,bt102.2.2.2.2.2.1,bt102.2.2.2.2.2.2.1,bt102.2.2.2.2.2.2.2))) else((Qm.f k s0_0 s0_1 s0_2 s0_3 (wrap64 (a1+1))).bind fun bt112=>(Qm.l0 k a1 bt112.2.2.2.2.1 bt112.2.2.2.2.2.1 bt112.2.2.2.2.2.2.1 bt112.2.2.2.2.2.2.2 bt112.1 bt112.2.1 bt112.2.2.1 bt112.2.2.2.1))
end
theorem Qm.mono_l [Yt]:∀k,(∀y0 y1 y2 y3 y4,LeO (Qm.f k y0 y1 y2 y3 y4) (Qm.f (k+1) y0 y1 y2 y3 y4))∧(∀y0 y1 y2 y3 y4 y5 y6 y7 y8,LeO (Qm.l0 k y0 y1 y2 y3 y4 y5 y6 y7 y8) (Qm.l0 (k+1) y0 y1 y2 y3 y4 y5 y6 y7 y8))
 |0=>⟨fun _ _ _ _ _ r h=>by simp [Qm.f] at h,fun _ _ _ _ _ _ _ _ _ r h=>by simp [Qm.l0] at h⟩
 |k+1=>by
  obtain⟨ih0,ih1⟩ :=Qm.mono_l k;refine⟨?_,?_⟩
  ·intro y0 y1 y2 y3 y4;unfold Qm.f;repeat' first
   |(with_reducible exact ih0 _ _ _ _ _)
   |(with_reducible exact ih1 _ _ _ _ _ _ _ _ _)
   |(with_reducible exact Wl.mono _ _ _ _ _)
   |(with_reducible exact LeO.refl _)
   |(with_reducible refine LeO.ite ?_ ?_)
   |(with_reducible refine LeO.bind ?_ (fun _=>?_))
  intro y0 y1 y2 y3 y4 y5 y6 y7 y8;unfold Qm.l0;repeat' first
  |(with_reducible exact ih0 _ _ _ _ _)
  |(with_reducible exact ih1 _ _ _ _ _ _ _ _ _)
  |(with_reducible exact Q7.mono _ _ _)
  |(with_reducible exact Qi.mono _ _ _ _ _)
  |(with_reducible exact LeO.refl _)
  |(with_reducible refine LeO.ite ?_ ?_)
  |(with_reducible refine LeO.bind ?_ (fun _=>?_))
theorem Qm.mono [Yt]:∀a0 a1 a2 a3 a4 k,LeO (Qm.f k a0 a1 a2 a3 a4) (Qm.f (k+1) a0 a1 a2 a3 a4):=by
 intro a0 a1 a2 a3 a4 k;obtain⟨ih0,ih1⟩ :=Qm.mono_l k;exact ih0 a0 a1 a2 a3 a4
def Qm.T9:Bool×List (List Nat×List Nat):=(true,[([],[]),([],[]),([],[]),([],[]),([3],[3]),([2,4],[2,4]),([1,5],[1,5]),([0,6],[0,6]),([7,5,0,1,2,3,4,5,6,7],[7])])
def Qm.B9:List Nat:=[0,0,0,0,8,28,62,127,255]
theorem Qm.tab9:V8 .any (opsOf Tryd.f112 9)=Qm.T9:=by kernel_rfl
theorem Qm.bits9:Vx Qm.T9.2 Qm.B9=true:=by kernel_rfl
end Go.Proofs.YtglmdfddgmkmaaaDoor.Q
end

/- What the claim needs, part 2 of 6. -/
import Derived.Lib.OthersKept
import Derived.Laws.RangeAny
import Derived.Test.YtglmdfddgmkmaaaDoorVvg0
section
namespace Go.Proofs.YtglmdfddgmkmaaaDoor.Q
open Go.RowKit Go.Proofs.YtglmdfddgmkmaaaDoorW.PrintWords Go.Proofs.YtglmdfddgmkmaaaDoorW.PrintLast Go.Proofs.YtglmdfddgmkmaaaDoorW.PrintMore
attribute [local go_sem] Z0 Z2 Yd Ye Zq Zr Z1 Z3
set_option linter.unusedVariables false
set_option linter.unusedSimpArgs false
set_option maxHeartbeats 8000000 in
set_option maxRecDepth 100000 in
theorem X6.calls (k:Nat):∀(a0_0:Int) (a0_1:Int) (a0_2:ByteArray) (A0_3:Option Addr) (c0_3:Nat) (l0_3:List (S26)) (r:Int) (w:World) (hr0_3:Kd.C k26 w A0_3 l0_3.length l0_3) (hc0_3:l0_3.length≤c0_3) (h:X6.f k a0_0 a0_1 a0_2 l0_3=some r),
 Calls Tryd.prog 51 #[.agg #[.int .i64 a0_0,.int .i64 a0_1,.string a0_2,.slice A0_3 l0_3.length c0_3]] w fun e w'=>e=.returned (.int .i64 r)∧Below w.heap.size w w':=by
 induction k using Nat.strongRecOn with
 |_ k ih=>
 intro a0_0 a0_1 a0_2 A0_3 c0_3 l0_3 r w hr0_3 hc0_3 h
 cases k with
 |zero=>exact absurd h (by simp [X6.f])
 |succ k=>
 simp only [X6.f] at h;have HR0_3:=Qa.mk hr0_3;clear hr0_3 hc0_3;have HB:=Qa.mk (Below.refl w.heap.size w);have H:(X6.l0 k 1 l0_3 (l0_3.length:Int) 0)=some r:=h;clear h;have H':=Qa.mk H;clear H;go_enter Tryd.func51,Tryd.ntmps51;go_wp2_with(((with_reducible refine Q0 (N:=1) rfl ?_);refine Xm ?hg (N:=1) ?hd (cs:=#[.int .i64 a0_0,.int .i64 a0_1,.string a0_2,.slice A0_3 l0_3.length c0_3]) (t:=26) ?hr ?_;(case hd=>rfl);(case hg=>rfl);(case hr=>(go_simp;done));intro gb127 hg w2 hbox hb;replace HB:=Qa.mk (Qr HB.out hb);have BK127:=Qa.mk hbox;clear hb hbox hg;have hcz3_3:w2.cell? ⟨gb127,3,none⟩=some (.slice A0_3 l0_3.length c0_3):=(Qb BK127.out 3).trans rfl))
 go_loopg [3,9] k (fun kq v3 v9 w'=>∃(x3_1:Int) (x9_1:Int),v3=.int .i64 x3_1∧v9=.int .i64 x9_1∧Qa (X6.l0 kq x3_1 l0_3 (l0_3.length:Int) x9_1=some r)∧Qa (kq≤k)∧Qa (w'.heap[gb127]? =some (.cells #[.int .i64 a0_0,.int .i64 a0_1,.string a0_2,(.slice A0_3 l0_3.length c0_3)] 26 (0,0)))∧Qa (Below w.heap.size w w'))
 case atStart=>exact⟨1,0,(by rfl),(by rfl),H',⟨Nat.le_refl _⟩,⟨BK127.out⟩,⟨HB.out⟩⟩
 case round=>
  clear H';(try clear hcz3_3);obtain⟨x3_1,x9_1,rfl,rfl,HA,HK1,BK127,HB⟩ :=hrel
  cases gk with
  |zero=>exact absurd HA.out (by simp [X6.l0])
  |succ k1=>
   have H:=HA.out;clear HA;simp only [X6.l0] at H;by_cases c4:x9_1 < (l0_3.length:Int)
   rotate_left
   ·rw [if_neg c4] at H;have c4b0:decide (x9_1 < (l0_3.length:Int))=false:=decide_eq_false c4;clear c4;obtain rfl:=Option.some.inj H;go_wp2;go_ret;exact⟨by rfl,HB.out⟩
   rw [if_pos c4] at H;have c4b0:decide (x9_1 < (l0_3.length:Int))=true:=decide_eq_true c4;clear c4;by_cases c5:0≤x9_1
   rotate_left
   ·rw [if_neg c5] at H;exact absurd H (by simp)
   rw [if_pos c5] at H;have c5b0:decide (0≤x9_1)=true:=decide_eq_true c5;clear c5;by_cases c6:x9_1 < (l0_3.length:Int)
   rotate_left
   ·rw [if_neg c6] at H;exact absurd H (by simp)
   rw [if_pos c6] at H;have c6b0:decide (x9_1 < (l0_3.length:Int))=true:=decide_eq_true c6;clear c6;by_cases c7:x3_1 > 4096
   ·rw [if_pos c7] at H;have c7b0:decide (4096 < x3_1)=true:=decide_eq_true c7;clear c7;obtain rfl:=Option.some.inj H;have p128:0≤(x9_1:Int):=of_decide_eq_true (by(with_reducible assumption));have q128:x9_1 < (l0_3.length:Int):=of_decide_eq_true (by(with_reducible assumption));obtain⟨ad128,A128_3,c128_3,e128,hx128_0,hx128_1,hx128_2,hx128_3,hl128_3,hi128_3⟩ :=Yf HR0_3.out x9_1 p128 q128
    cases e128
    replace hx128_0:=(HB.out.cell (World.block_lt_of_cell? w _ hx128_0)).trans hx128_0;replace hx128_1:=(HB.out.cell (World.block_lt_of_cell? w _ hx128_1)).trans hx128_1;replace hx128_2:=(HB.out.cell (World.block_lt_of_cell? w _ hx128_2)).trans hx128_2;replace hx128_3:=(HB.out.cell (World.block_lt_of_cell? w _ hx128_3)).trans hx128_3;have HR128_3:=Qa.mk hi128_3;have HC128_3:=Qa.mk hl128_3;clear hi128_3 hl128_3;replace p128:=eq_true p128;replace q128:=eq_true q128;go_wp2_with(((with_reducible refine Q0 (N:=5) rfl ?_);refine Xm ?hg (N:=5) ?hd (cs:=#[.int .i64 0,.int .i64 0,.string (⟨#[]⟩ :ByteArray),.slice none 0 0]) (t:=26) ?hr ?_;(case hd=>rfl);(case hg=>rfl);(case hr=>(go_simp;done));intro gb129 hg w8 hbox hb;have BK129:=Qa.mk hbox;have GE129:=Qa.mk ((by rw [hg];exact(X4 HB.out):w.heap.size≤gb129));replace HB:=Qa.mk (Qr HB.out hb);have NB127_129:=Qa.mk ((by rw [hg];exact Nat.ne_of_lt (Xr (g:=gb127) (o:=.cells #[.int .i64 a0_0,.int .i64 a0_1,.string a0_2,.slice (some ad128) l0_3.length c0_3] 26 (0,0)) BK127.out):gb127≠gb129));have NB129_127:=Qa.mk ((by rw [hg];exact Nat.ne_of_gt (Xr (g:=gb127) (o:=.cells #[.int .i64 a0_0,.int .i64 a0_1,.string a0_2,.slice (some ad128) l0_3.length c0_3] 26 (0,0)) BK127.out):gb129≠gb127));replace BK127:=Qa.mk (Q1 (g:=gb127) (o:=.cells #[.int .i64 a0_0,.int .i64 a0_1,.string a0_2,.slice (some ad128) l0_3.length c0_3] 26 (0,0)) BK127.out hb);clear hb hbox hg;have hcz10_0:w8.cell? ⟨gb129,0,none⟩=some (.int .i64 0):=(Qb BK129.out 0).trans rfl;have hcz10_1:w8.cell? ⟨gb129,1,none⟩=some (.int .i64 0):=(Qb BK129.out 1).trans rfl;have hcz10_2:w8.cell? ⟨gb129,2,none⟩=some (.string (⟨#[]⟩ :ByteArray)):=(Qb BK129.out 2).trans rfl;have hcz10_3:w8.cell? ⟨gb129,3,none⟩=some (.slice none 0 0):=(Qb BK129.out 3).trans rfl;have hfz10_0:=Qd BK129.out 0;have hfz10_1:=Qd BK129.out 1;have hfz10_2:=Qd BK129.out 2;have hfz10_3:=Qd BK129.out 3))
    go_ret
    exact⟨by rfl,by repeat(with_reducible first|exact HB.out|refine Xf ?_ GE129.out)⟩
   rw [if_neg c7] at H;have c7b0:decide (4096 < x3_1)=false:=decide_eq_false c7;clear c7;replace H:=Option.bind_eq_some_iff.mp H;obtain⟨t130,A110,H⟩ :=H;try dsimp only at H
   have A11:=Qa.mk A110;clear A110;have H':=Qa.mk H;clear H;have p128:0≤(x9_1:Int):=of_decide_eq_true (by(with_reducible assumption));have q128:x9_1 < (l0_3.length:Int):=of_decide_eq_true (by(with_reducible assumption));obtain⟨ad128,A128_3,c128_3,e128,hx128_0,hx128_1,hx128_2,hx128_3,hl128_3,hi128_3⟩ :=Yf HR0_3.out x9_1 p128 q128
   cases e128
   replace hx128_0:=(HB.out.cell (World.block_lt_of_cell? w _ hx128_0)).trans hx128_0;replace hx128_1:=(HB.out.cell (World.block_lt_of_cell? w _ hx128_1)).trans hx128_1;replace hx128_2:=(HB.out.cell (World.block_lt_of_cell? w _ hx128_2)).trans hx128_2;replace hx128_3:=(HB.out.cell (World.block_lt_of_cell? w _ hx128_3)).trans hx128_3;have HR128_3:=Qa.mk hi128_3;have HC128_3:=Qa.mk hl128_3;clear hi128_3 hl128_3;replace p128:=eq_true p128;replace q128:=eq_true q128;go_wp2_with(first|((with_reducible refine Q0 (N:=5) rfl ?_);refine Xm ?hg (N:=5) ?hd (cs:=#[.int .i64 0,.int .i64 0,.string (⟨#[]⟩ :ByteArray),.slice none 0 0]) (t:=26) ?hr ?_;(case hd=>rfl);(case hg=>rfl);(case hr=>(go_simp;done));intro gb129 hg w12 hbox hb;have BK129:=Qa.mk hbox;have GE129:=Qa.mk ((by rw [hg];exact(X4 HB.out):w.heap.size≤gb129));replace HB:=Qa.mk (Qr HB.out hb);have NB127_129:=Qa.mk ((by rw [hg];exact Nat.ne_of_lt (Xr (g:=gb127) (o:=.cells #[.int .i64 a0_0,.int .i64 a0_1,.string a0_2,.slice (some ad128) l0_3.length c0_3] 26 (0,0)) BK127.out):gb127≠gb129));have NB129_127:=Qa.mk ((by rw [hg];exact Nat.ne_of_gt (Xr (g:=gb127) (o:=.cells #[.int .i64 a0_0,.int .i64 a0_1,.string a0_2,.slice (some ad128) l0_3.length c0_3] 26 (0,0)) BK127.out):gb129≠gb127));replace BK127:=Qa.mk (Q1 (g:=gb127) (o:=.cells #[.int .i64 a0_0,.int .i64 a0_1,.string a0_2,.slice (some ad128) l0_3.length c0_3] 26 (0,0)) BK127.out hb);clear hb hbox hg;have hcz14_0:w12.cell? ⟨gb129,0,none⟩=some (.int .i64 0):=(Qb BK129.out 0).trans rfl;have hcz14_1:w12.cell? ⟨gb129,1,none⟩=some (.int .i64 0):=(Qb BK129.out 1).trans rfl;have hcz14_2:w12.cell? ⟨gb129,2,none⟩=some (.string (⟨#[]⟩ :ByteArray)):=(Qb BK129.out 2).trans rfl;have hcz14_3:w12.cell? ⟨gb129,3,none⟩=some (.slice none 0 0):=(Qb BK129.out 3).trans rfl;have hfz14_0:=Qd BK129.out 0;have hfz14_1:=Qd BK129.out 1;have hfz14_2:=Qd BK129.out 2;have hfz14_3:=Qd BK129.out 3)|((with_reducible refine Qp (f:=51) rfl ?_);refine Xh (some 18) rfl rfl Tryd.func51 (by kernel_rfl) rfl #[.agg #[.int .i64 ((Qg l0_3 x9_1).f0),.int .i64 ((Qg l0_3 x9_1).f1),.string ((Qg l0_3 x9_1).f2),.slice A128_3 ((Qg l0_3 x9_1).f3).length c128_3]] rfl (by(try simp only [List.map_toArray,List.map_cons,List.map_nil]);rfl) ?_;(with_reducible refine(ih k1 (by have:=HK1.out;omega) ((Qg l0_3 x9_1).f0) ((Qg l0_3 x9_1).f1) ((Qg l0_3 x9_1).f2) _ _ ((Qg l0_3 x9_1).f3) t130 _ (Kd.C_below HR128_3.out (by repeat(with_reducible first|exact HB.out|refine Xf ?_ GE129.out))) HC128_3.out A11.out).mono ?_);rintro e w15 ⟨rfl,hb⟩;refine⟨_,rfl,?_⟩;replace BK127:=Qa.mk (Q1 (g:=gb127) (o:=.cells #[.int .i64 a0_0,.int .i64 a0_1,.string a0_2,.slice (some ad128) l0_3.length c0_3] 26 (0,0)) (by refine Xg ?_ NB127_129.out _;refine Xg ?_ NB127_129.out _;refine Xg ?_ NB127_129.out _;refine Xg ?_ NB127_129.out _;exact BK127.out) hb);replace BK129:=Qa.mk (Q1 (g:=gb129) (o:=.cells #[.int .i64 ((Qg l0_3 x9_1).f0),.int .i64 ((Qg l0_3 x9_1).f1),.string ((Qg l0_3 x9_1).f2),.slice A128_3 ((Qg l0_3 x9_1).f3).length c128_3] 26 (0,0)) (by refine Qt (cs:=#[.int .i64 ((Qg l0_3 x9_1).f0),.int .i64 ((Qg l0_3 x9_1).f1),.string ((Qg l0_3 x9_1).f2),.slice none 0 0]) ?_ 3 _ rfl;refine Qt (cs:=#[.int .i64 ((Qg l0_3 x9_1).f0),.int .i64 ((Qg l0_3 x9_1).f1),.string (⟨#[]⟩ :ByteArray),.slice none 0 0]) ?_ 2 _ rfl;refine Qt (cs:=#[.int .i64 ((Qg l0_3 x9_1).f0),.int .i64 0,.string (⟨#[]⟩ :ByteArray),.slice none 0 0]) ?_ 1 _ rfl;refine Qt (cs:=#[.int .i64 0,.int .i64 0,.string (⟨#[]⟩ :ByteArray),.slice none 0 0]) ?_ 0 _ rfl;exact BK129.out) hb);replace HB:=Qa.mk (Qr (by repeat(with_reducible first|exact HB.out|refine Xf ?_ GE129.out)) hb);(try clear hb)))
   go_roundg k1
   case measure=>have:=HK1.out;omega
   case rel=>exact⟨(wrap64 (x3_1+t130)),(wrap64 (x9_1+1)),(by rfl),(by rfl),H',⟨by have:=HK1.out;omega⟩,⟨BK127.out⟩,⟨HB.out⟩⟩
theorem Rb (s:ByteArray) (p:Nat) (t:ByteArray) (h:p+t.size≤s.size):p+t.size≤Zb s p t∧Zb s p t≤s.size:=Wg s _ h
theorem N7 (s:ByteArray) (p:Nat) (t:ByteArray):(Yb s p t).size=Nj (s.extract (Zb s p t) s.size):=by
 have:=Uc (s.extract (Zb s p t) s.size);unfold Yb;simp only [ByteArray.size_extract] at*;omega
theorem Yc (s:ByteArray) (p:Nat) (t:ByteArray) (h:p+t.size≤s.size):Zb s p t+(Yb s p t).size≤s.size:=by
 have h1:=Rb s p t h;have h2:=Uc (s.extract (Zb s p t) s.size);rw [N7];simp only [ByteArray.size_extract] at h2;omega
def Wf (s:ByteArray):Nat→Bool
 |0=>false
 |n+1=>if Wo (bt s n)=true then Wf s n else !(bt s n==41)
def Wy (c:Int):Bool:=(decide (97≤c) && decide (c≤122))||(decide (65≤c) && decide (c≤90))
def dgt (c:Int):Bool:=decide (48≤c) && decide (c≤57)
def V0 (c:Int) (i:Nat):Bool:=c==95 ||Wy c||(decide (0 < i) && dgt c)
def Yp (t:ByteArray):Nat→Nat→Bool
 |0,_=>true
 |f+1,i=>if i < t.size then(V0 (bt t i) i && Yp t f (i+1)) else true
def nameB (t:ByteArray):Bool:=decide (0 < t.size) && decide (t.size≤32) && Yp t t.size 0
abbrev Jy:=Option (Except (Nat×Int) (S26×Nat×ByteArray))
def Zu (x:Jy) (f:S26→Nat→ByteArray→Jy):Jy:=
 match x with
 |none=>none
 |some (.error e)=>some (.error e)
 |some (.ok (a,b,c))=>f a b c
inductive Gl where
 |first
 |second
 |level (n:Nat)
 |more (n:Nat) (x:S26)
 |operand
def Yq:ByteArray:=⟨#[]⟩
def pr (s:ByteArray):Nat→Gl→Nat→ByteArray→Jy
 |0,_,_,_=>none
 |k+1,.first,p,t=>Zu (pr s k .second p t) fun x p1 t1=>
  match Xe.f 1 t1 with
  |none=>none
  |some (op,is)=>
   if is=true∧x.f0=2∧Wf s p1=true then Zu (pr s k .first (Zb s p1 t1) (Yb s p1 t1)) fun y p2 t2=>some (.ok (⟨26,op,x.f2,[y]⟩,p2,t2))
   else some (.ok (x,p1,t1))
 |k+1,.second,p,t=>Zu (pr s k (.level 3) p t) fun x p1 t1=>
  if t1.toList=[63] then Zu (pr s k .first (Zb s p1 t1) (Yb s p1 t1)) fun y p2 t2=>
   if t2.toList=[58] then Zu (pr s k .second (Zb s p2 t2) (Yb s p2 t2)) fun z p3 t3=>some (.ok (⟨25,0,Yq,[x,y,z]⟩,p3,t3))
   else some (.error (p2,6))
  else some (.ok (x,p1,t1))
 |k+1,.level n,p,t=>if n=13 then pr s k .operand p t else Zu (pr s k (.level (n+1)) p t) fun x p1 t1=>pr s k (.more n x) p1 t1
 |k+1,.more n x,p,t=>
  match Xy.f t with
  |none=>none
  |some (op,l)=>if l=(n:Int) then Zu (pr s k (.level (n+1)) (Zb s p t) (Yb s p t)) fun y p1 t1=>pr s k (.more n ⟨op,0,Yq,[x,y]⟩) p1 t1 else some (.ok (x,p,t))
 |k+1,.operand,p,t=>
  match X7.f t with
  |none=>none
  |some op=>
   if ¬op=0 then Zu (pr s k .operand (Zb s p t) (Yb s p t)) fun y p1 t1=>some (.ok (⟨op,0,Yq,[y]⟩,p1,t1))
   else if t.toList=[40] then Zu (pr s k .first (Zb s p t) (Yb s p t)) fun y p1 t1=>if t1.toList=[41] then some (.ok (y,Zb s p1 t1,Yb s p1 t1)) else some (.error (p1,6))
   else if t.size=0∨¬X1.f (bt t 0)=some true then some (.error (p,6))
   else if Xt.f (bt t 0)=some true then
    match Qy.f (t.size+3) t with
    |none=>none
    |some (n,e)=>if e=0 then some (.ok (⟨1,n,Yq,[]⟩,Zb s p t,Yb s p t)) else some (.error (p,e))
   else if nameB t=true then some (.ok (⟨2,0,t,[]⟩,Zb s p t,Yb s p t)) else some (.error (p,10))
theorem Yk {x:Jy} {f:S26→Nat→ByteArray→Jy} {r:S26×Nat×ByteArray} (h:Zu x f=some (.ok r)):∃a b c,x=some (.ok (a,b,c))∧f a b c=some (.ok r):=by
 unfold Zu at h;split at h
 ·simp at h
 ·simp at h
 ·exact⟨_,_,_,rfl,h⟩
theorem W8 (s:ByteArray):∀(k:Nat) (gl:Gl) (p:Nat) (t:ByteArray) (x:S26) (p':Nat) (t':ByteArray),p+t.size≤s.size→pr s k gl p t=some (.ok (x,p',t'))→p'+t'.size≤s.size:=by
 intro k
 induction k with
 |zero=>intro gl p t x p' t' _ h;simp [pr] at h
 |succ k ih=>
  intro gl p t x p' t' hp h
  cases gl with
  |first=>
   simp only [pr] at h;obtain⟨a,b,c,h1,h2⟩ :=Yk h;have i1:=ih _ _ _ _ _ _ hp h1;split at h2
   ·simp at h2
   split at h2
   ·obtain⟨a2,b2,c2,h3,h4⟩ :=Yk h2;have i2:=ih _ _ _ _ _ _ (Yc s _ _ i1) h3;simp at h4;obtain⟨_,rfl,rfl⟩ :=h4;exact i2
   simp at h2;obtain⟨_,rfl,rfl⟩ :=h2;exact i1
  |second=>
   simp only [pr] at h;obtain⟨a,b,c,h1,h2⟩ :=Yk h;have i1:=ih _ _ _ _ _ _ hp h1;split at h2
   ·obtain⟨a2,b2,c2,h3,h4⟩ :=Yk h2;have i2:=ih _ _ _ _ _ _ (Yc s _ _ i1) h3;split at h4
    ·obtain⟨a3,b3,c3,h5,h6⟩ :=Yk h4;have i3:=ih _ _ _ _ _ _ (Yc s _ _ i2) h5;simp at h6;obtain⟨_,rfl,rfl⟩ :=h6;exact i3
    simp at h4
   simp at h2;obtain⟨_,rfl,rfl⟩ :=h2;exact i1
  |level n=>
   simp only [pr] at h;split at h
   ·exact ih _ _ _ _ _ _ hp h
   obtain⟨a,b,c,h1,h2⟩ :=Yk h;exact ih _ _ _ _ _ _ (ih _ _ _ _ _ _ hp h1) h2
  |more n x0=>
   simp only [pr] at h;split at h
   ·simp at h
   split at h
   ·obtain⟨a,b,c,h1,h2⟩ :=Yk h;exact ih _ _ _ _ _ _ (ih _ _ _ _ _ _ (Yc s _ _ hp) h1) h2
   simp at h;obtain⟨_,rfl,rfl⟩ :=h;exact hp
  |operand=>
   simp only [pr] at h;split at h
   ·simp at h
   split at h
   ·obtain⟨a,b,c,h1,h2⟩ :=Yk h;simp at h2;obtain⟨_,rfl,rfl⟩ :=h2;exact ih _ _ _ _ _ _ (Yc s _ _ hp) h1
   split at h
   ·obtain⟨a,b,c,h1,h2⟩ :=Yk h;have i1:=ih _ _ _ _ _ _ (Yc s _ _ hp) h1;split at h2
    ·simp at h2;obtain⟨_,rfl,rfl⟩ :=h2;exact Yc s _ _ i1
    simp at h2
   split at h
   ·simp at h
   split at h
   ·split at h
    ·simp at h
    split at h
    ·simp at h;obtain⟨_,rfl,rfl⟩ :=h;exact Yc s _ _ hp
    simp at h
   split at h
   ·simp at h;obtain⟨_,rfl,rfl⟩ :=h;exact Yc s _ _ hp
   simp at h
def Jq (p:Nat) (e:Int):List PanicEntry:=[{v:=.iface 62 (.agg #[.int .i64 p,.int .i64 e]),recovered:=false}]
set_option maxRecDepth 100000 in
theorem Jp (g:Nat) (s tok u:ByteArray) (p:Nat) (w0 w:World) (hI:Zd w0 w g s p tok) (hB:Below w0.heap.size w0 w) (h1:p+tok.size≤s.size) (h2:s.size≤4096) (hu:tok.toList=u.toList):
 Calls Tryd.prog 106 #[.pointer (some ⟨g,0,none⟩),.string u] w fun en w'=>en=.returned (.tuple #[])∧Zd w0 w' g s (Zb s p tok) (Yb s p tok)∧Below w0.heap.size w0 w'∧Qe w w' g none:=by
 have q:(tok.toList==u.toList)=true:=by simpa using hu
 have Hh:=Qa.mk (And.intro h1 h2);have HI:=Qa.mk hI;have HB:=Qa.mk hB;clear hu h1 h2;obtain⟨HG,hg⟩ :=hI;have c0:=Xk HG;have c1:=Xl HG;have c2:=Xn HG;clear HG hg hB;have hu65:=Tryd.underlying65;go_enter Tryd.func106,Tryd.ntmps106;go_wp2_with(first|(go_at_call 42;(with_reducible refine(Zl g s tok p w0 _ HI.out HB.out Hh.out.1 Hh.out.2).mono ?_);rintro e w' ⟨rfl,hi,hb,hk⟩));go_end0;exact⟨rfl,hi,hb,hk⟩
set_option maxRecDepth 100000 in
theorem Fl (g:Nat) (s tok u:ByteArray) (p:Nat) (w0 w:World) (hI:Zd w0 w g s p tok) (hu:¬tok.toList=u.toList):
 Calls Tryd.prog 106 #[.pointer (some ⟨g,0,none⟩),.string u] w fun en w'=>en=.panicked (Jq p 6)∧w'=w:=by
 have q:(tok.toList==u.toList)=false:=by simpa using hu
 have HI:=Qa.mk hI;clear hu;obtain⟨HG,hg⟩ :=hI;have c0:=Xk HG;have c1:=Xl HG;have c2:=Xn HG;clear HG hg;have hu65:=Tryd.underlying65;go_enter Tryd.func106,Tryd.ntmps106;go_wp2_with(first|(go_at_call 44;(with_reducible refine(V7 g s tok p 6 w0 _ HI.out).mono ?_);rintro e w' ⟨rfl,rfl⟩));exact⟨rfl,rfl,rfl⟩
end Go.Proofs.YtglmdfddgmkmaaaDoor.Q
end
section
namespace Go.Proofs.YtglmdfddgmkmaaaDoor.Q
open Go.RowKit Go.Lib Go.Proofs.YtglmdfddgmkmaaaDoorW.PrintWords Go.Proofs.YtglmdfddgmkmaaaDoorW.PrintLast Go.Proofs.YtglmdfddgmkmaaaDoorW.PrintMore
attribute [local go_sem] Z0 Z2 Yd Ye Zq Zr Z1 Z3
set_option linter.unusedVariables false
set_option linter.unusedSimpArgs false
theorem Gr (c:Int):Zy.f c=some (Wy c):=by
 unfold Zy.f Wy;repeat' split
 all_goals simp [*]
 all_goals omega
theorem N2 (c:Int):Z8.f c=some (dgt c):=by
 unfold Z8.f dgt;repeat' split
 all_goals simp [*]
 all_goals omega
theorem Vs {t:ByteArray} {i:Nat} (h:i < t.size):Yp t (t.size - i) i=(V0 (bt t i) i && Yp t (t.size - (i+1)) (i+1)):=by
 obtain⟨f,hf⟩ :∃f,t.size - i=f+1 :=⟨t.size - i - 1,by omega⟩;rw [hf,show t.size - (i+1)=f by omega];simp only [Yp];rw [if_pos h]
theorem Gw {t:ByteArray} {i:Nat} (h:¬i < t.size):Yp t (t.size - i) i=true:=by
 cases t.size - i with
 |zero=>rfl
 |succ f=>simp only [Yp];rw [if_neg h]
theorem Sq (w:World) (k:Nat) (s:ByteArray) (i:Nat) (hk:w.heap[k]? =some (.stringIter s i)) (h:i < s.size):
 ∃(c:Int) (np:Nat),(∀ty,(Instr.next (.pointer (some ⟨k,0,none⟩)) true ty).run Tryd.prog w=.ok (.tuple #[.bool true,.int .i64 i,.int .i32 c]) (w.iterAt k s np))∧
  V0 c i=V0 (bt s i) i∧(V0 c i=true→np=i+1):=by
 have hb:bt s i=((s[i]'h).toNat:Int):=by simp [bt,h]
 by_cases ha:(s[i]'h).toNat < 128
 ·exact⟨((s[i]'h).toNat:Int),i+1,fun ty=>run_next_ascii_at w k s i ty hk h ha,by rw [hb],fun _=>rfl⟩
 have h1:=(decode_high s i h (by omega)).1
 have no:∀c:Int,128≤c→V0 c i=false:=by
  intro c hc;simp [V0,Wy,dgt];omega
 refine⟨((Utf8.decode s i).1 :Int),_,fun ty=>run_next_any_at w k s i ty hk h,?_,?_⟩
 ·rw [no _ (by omega),no _ (by rw [hb];omega)]
 rw [no _ (by omega)];simp
theorem Wn {B:Nat} {w W:World} (h:Below B w W) {k:Nat} {s:ByteArray} {p:Nat} (hk:B≤k):Below B w (W.iterAt k s p):=
 ⟨h.os,h.tape,h.output,by rw [iterAt_size];exact h.size,fun i hi=>by rw [iterAt_other _ _ _ _ _ (by omega)];exact h.block i hi⟩
def Yo.f (s:ByteArray):Option Bool:=some (nameB s)
set_option maxRecDepth 100000 in
set_option maxHeartbeats 2000000 in
theorem Yo.calls (s:ByteArray) (r:Bool) (w:World) (h:Yo.f s=some r):
 Calls Tryd.prog 117 #[.string s] w fun e w'=>e=.returned (.bool r)∧Below w.heap.size w w':=by
 obtain rfl:=Option.some.inj h;clear h;have hu9:=Tryd.underlying9;by_cases h0:s.size=0
 ·have q:(s.toList==([]:List UInt8))=true:=by
   rw [Go.ByteArray.toList_eq];have:s.data.toList=[]:=List.eq_nil_of_length_eq_zero (by simpa using h0);simp [this]
  have q3:nameB s=false:=by simp [nameB,h0]
  rw [q3];clear q3 h0;go_enter Tryd.func117,Tryd.ntmps117;go_wp2_with(fail);go_ret;exact⟨rfl,Below.refl _ _⟩
 have q:(s.toList==([]:List UInt8))=false:=by
  rw [Go.ByteArray.toList_eq]
  cases hd:s.data.toList with
  |nil=>exact absurd (by simpa using congrArg List.length hd) h0
  |cons a l=>rfl
 by_cases h1:s.size≤32
 rotate_left
 ·have q1:decide ((32 :Int) < s.size)=true:=by simp;omega
  have q3:nameB s=false:=by simp [nameB,h1]
  rw [q3];clear q3 h0 h1;go_enter Tryd.func117,Tryd.ntmps117;go_wp2_with(fail);go_ret;exact⟨rfl,Below.refl _ _⟩
 have q1:decide ((32 :Int) < s.size)=false:=by simp;omega
 have Hs:Qa (nameB s=Yp s s.size 0):=⟨by simp [nameB,h1];omega⟩;have hs:s.size≤32 :=h1;clear h0 h1;go_enter Tryd.func117,Tryd.ntmps117;go_wp2_with(fail)
 go_loopg [] s.size (fun kq wr=>∃i:Nat,Qa (i≤s.size)∧Qa (s.size - i≤kq)∧Qa (Yp s (s.size - i) i=Yp s s.size 0)∧Qa (wr.heap[w.heap.size]? =some (.stringIter s i))∧Qa (Below w.heap.size w wr))
 case atStart=>exact⟨0,⟨Nat.zero_le _⟩,⟨Nat.le_refl _⟩,⟨rfl⟩,⟨World.iter_heap _ _ _⟩,⟨Xu (Below.refl _ _) _⟩⟩
 case round=>
  obtain⟨i,Hi0,Hk,HN,HK,HB⟩ :=hrel;by_cases hlt:i < s.size
  rotate_left
  ·have Hi:=Qa.mk hlt;have hnx:=fun ty=>run_next_end_at (P:=Tryd.prog) wr w.heap.size s i ty HK.out hlt
   clear hlt;go_wp2_with(fail);go_ret;exact⟨by have h:=HN.out;rw [Gw Hi.out] at h;rw [Hs.out,←h];rfl,HB.out⟩
  have Hi:=Qa.mk hlt;obtain⟨c,np,hnx,hc,hnp⟩ :=Sq wr w.heap.size s i HK.out hlt;have Hc:=Qa.mk hc;have Hnp:=Qa.mk hnp;clear hc hnp hlt;have hi:i≤4096 :=by have:=Hi.out;omega
  have Hl:Qa (Zy.f c=some (Wy c)):=⟨Gr c⟩;have Hd:Qa (Z8.f c=some (dgt c)):=⟨N2 c⟩;have Hx:Qa (V0 c i=(c==95 ||Wy c||(decide (0 < i) && dgt c))):=⟨rfl⟩;generalize Wy c=l at*;generalize dgt c=d at*;by_cases hc9:c=95
  ·have t1:(c==95)=true:=beq_iff_eq.mpr hc9;have t2:(c !=95)=false:=bne_eq_false_iff_eq.mpr hc9;have Hok:Qa (V0 c i=true):=⟨by rw [Hx.out,t1];rfl⟩;clear hc9;go_wp2_with(first|(go_at_call 127;(with_reducible refine(Zy.calls c l _ Hl.out).mono ?_);rintro e w' ⟨rfl,⟨nd,rfl⟩⟩)|(go_at_call 128;(with_reducible refine(Z8.calls c d _ Hd.out).mono ?_);rintro e w' ⟨rfl,⟨nd,rfl⟩⟩))
   go_roundg (s.size - (i+1))
   case measure=>have:=Hi.out;have:=Hk.out;omega
   case rel=>exact⟨i+1,⟨by have:=Hi.out;omega⟩,⟨Nat.le_refl _⟩,⟨by have h:=HN.out;rw [Vs Hi.out,←Hc.out,Hok.out,Bool.true_and] at h;exact h⟩,⟨by rw [←Hnp.out Hok.out];exact(iterAt_heap _ _ _ _ _ HK.out)⟩,⟨by repeat(first|apply Q6|apply Zg|exact Wn HB.out (Nat.le_refl _))⟩⟩
  have t1:(c==95)=false:=beq_eq_false_iff_ne.mpr hc9;have t2:(c !=95)=true:=bne_iff_ne.mpr hc9;clear hc9
  cases l with
  |true=>
   have Hok:Qa (V0 c i=true):=⟨by rw [Hx.out,t1];rfl⟩;go_wp2_with(first|(go_at_call 127;(with_reducible refine(Zy.calls c true _ Hl.out).mono ?_);rintro e w' ⟨rfl,⟨nd,rfl⟩⟩)|(go_at_call 128;(with_reducible refine(Z8.calls c d _ Hd.out).mono ?_);rintro e w' ⟨rfl,⟨nd,rfl⟩⟩))
   go_roundg (s.size - (i+1))
   case measure=>have:=Hi.out;have:=Hk.out;omega
   case rel=>exact⟨i+1,⟨by have:=Hi.out;omega⟩,⟨Nat.le_refl _⟩,⟨by have h:=HN.out;rw [Vs Hi.out,←Hc.out,Hok.out,Bool.true_and] at h;exact h⟩,⟨by rw [←Hnp.out Hok.out];exact(iterAt_heap _ _ _ _ _ HK.out)⟩,⟨by repeat(first|apply Q6|apply Zg|exact Wn HB.out (Nat.le_refl _))⟩⟩
  |false=>
   by_cases hi0:i=0
   ·have Hok:Qa (V0 c i=false):=⟨by rw [Hx.out,t1,hi0];rfl⟩;have t3:((i:Int)==0)=true:=beq_iff_eq.mpr (by omega);have t4:(i==0)=true:=beq_iff_eq.mpr (by omega);clear hi0;go_wp2_with(first|(go_at_call 127;(with_reducible refine(Zy.calls c false _ Hl.out).mono ?_);rintro e w' ⟨rfl,⟨nd,rfl⟩⟩)|(go_at_call 128;(with_reducible refine(Z8.calls c d _ Hd.out).mono ?_);rintro e w' ⟨rfl,⟨nd,rfl⟩⟩));go_ret;exact⟨by have h:=HN.out;rw [Vs Hi.out,←Hc.out,Hok.out,Bool.false_and] at h;rw [Hs.out,←h];rfl,by repeat(first|apply Q6|apply Zg|exact Wn HB.out (Nat.le_refl _))⟩
   have t3:((i:Int)==0)=false:=beq_eq_false_iff_ne.mpr (by omega);have t4:(i==0)=false:=beq_eq_false_iff_ne.mpr (by omega);have t5:decide (0 < i)=true:=by simp;omega
   cases d with
   |true=>
    have Hok:Qa (V0 c i=true):=⟨by rw [Hx.out,t1,t5];rfl⟩;clear hi0 t5;go_wp2_with(first|(go_at_call 127;(with_reducible refine(Zy.calls c false _ Hl.out).mono ?_);rintro e w' ⟨rfl,⟨nd,rfl⟩⟩)|(go_at_call 128;(with_reducible refine(Z8.calls c true _ Hd.out).mono ?_);rintro e w' ⟨rfl,⟨nd,rfl⟩⟩))
    go_roundg (s.size - (i+1))
    case measure=>have:=Hi.out;have:=Hk.out;omega
    case rel=>exact⟨i+1,⟨by have:=Hi.out;omega⟩,⟨Nat.le_refl _⟩,⟨by have h:=HN.out;rw [Vs Hi.out,←Hc.out,Hok.out,Bool.true_and] at h;exact h⟩,⟨by rw [←Hnp.out Hok.out];exact(iterAt_heap _ _ _ _ _ HK.out)⟩,⟨by repeat(first|apply Q6|apply Zg|exact Wn HB.out (Nat.le_refl _))⟩⟩
   |false=>
    have Hok:Qa (V0 c i=false):=⟨by rw [Hx.out,t1,t5];rfl⟩;clear hi0 t5;go_wp2_with(first|(go_at_call 127;(with_reducible refine(Zy.calls c false _ Hl.out).mono ?_);rintro e w' ⟨rfl,⟨nd,rfl⟩⟩)|(go_at_call 128;(with_reducible refine(Z8.calls c false _ Hd.out).mono ?_);rintro e w' ⟨rfl,⟨nd,rfl⟩⟩));go_ret;exact⟨by have h:=HN.out;rw [Vs Hi.out,←Hc.out,Hok.out,Bool.false_and] at h;rw [Hs.out,←h];rfl,by repeat(first|apply Q6|apply Zg|exact Wn HB.out (Nat.le_refl _))⟩
end Go.Proofs.YtglmdfddgmkmaaaDoor.Q
end
section
namespace Go.Proofs.YtglmdfddgmkmaaaDoor.Q
open Go.RowKit Go.Proofs.YtglmdfddgmkmaaaDoorW.PrintWords Go.Proofs.YtglmdfddgmkmaaaDoorW.PrintLast Go.Proofs.YtglmdfddgmkmaaaDoorW.PrintMore
attribute [local go_sem] Z0 Z2 Yd Ye Zq Zr Z1 Z3
set_option linter.unusedVariables false
set_option linter.unusedSimpArgs false
def Y8 (W:World) (b:Nat) (op n:Int) (nm:ByteArray) (v:Value):Prop:=W.heap[b]? =some (.cells #[.int .i64 op,.int .i64 n,.string nm,v] 26 (0,0))
theorem Y8.cells {W:World} {b:Nat} {op n:Int} {nm:ByteArray} {v:Value} (h:Y8 W b op n nm v):
 W.cell? ⟨b,0,none⟩=some (.int .i64 op)∧W.cell? ⟨b,1,none⟩=some (.int .i64 n)∧W.cell? ⟨b,2,none⟩=some (.string nm)∧W.cell? ⟨b,3,none⟩=some v:=
 ⟨(Qb h 0).trans rfl,(Qb h 1).trans rfl,(Qb h 2).trans rfl,(Qb h 3).trans rfl⟩
structure Wrote (b:Nat) (W W':World):Prop where
 kept:Kept W W' (fun k=>k=b)
 below:∀B w0,Below B w0 W→B≤b→Below B w0 W'
theorem R0 {W:World} {b:Nat} {op n op' n':Int} {nm nm':ByteArray} {v v':Value} (h:Y8 W b op n nm v):
 Y8 ((((W.setCell ⟨b,0,none⟩ (.int .i64 op')).setCell ⟨b,1,none⟩ (.int .i64 n')).setCell ⟨b,2,none⟩ (.string nm')).setCell ⟨b,3,none⟩ v') b op' n' nm' v'∧
 Wrote b W ((((W.setCell ⟨b,0,none⟩ (.int .i64 op')).setCell ⟨b,1,none⟩ (.int .i64 n')).setCell ⟨b,2,none⟩ (.string nm')).setCell ⟨b,3,none⟩ v'):=by
 have e0:(W.setCell ⟨b,0,none⟩ (.int .i64 op')).heap[b]? =some (.cells #[.int .i64 op',.int .i64 n,.string nm,v] 26 (0,0)):=Qt h 0 _ rfl;have e1:((W.setCell ⟨b,0,none⟩ (.int .i64 op')).setCell ⟨b,1,none⟩ (.int .i64 n')).heap[b]? =some (.cells #[.int .i64 op',.int .i64 n',.string nm,v] 26 (0,0)):=Qt e0 1 _ rfl;have e2:(((W.setCell ⟨b,0,none⟩ (.int .i64 op')).setCell ⟨b,1,none⟩ (.int .i64 n')).setCell ⟨b,2,none⟩ (.string nm')).heap[b]? =some (.cells #[.int .i64 op',.int .i64 n',.string nm',v] 26 (0,0)):=Qt e1 2 _ rfl;have e3:((((W.setCell ⟨b,0,none⟩ (.int .i64 op')).setCell ⟨b,1,none⟩ (.int .i64 n')).setCell ⟨b,2,none⟩ (.string nm')).setCell ⟨b,3,none⟩ v').heap[b]? =some (.cells #[.int .i64 op',.int .i64 n',.string nm',v'] 26 (0,0)):=Qt e2 3 _ rfl;refine⟨e3,⟨?_,?_⟩⟩
 ·exact Kept.setCell (Kept.setCell (Kept.setCell (Kept.setCell (Kept.refl W (fun k=>k=b)) (p:=⟨b,0,none⟩) (.inl rfl) _) (p:=⟨b,1,none⟩) (.inl rfl) _) (p:=⟨b,2,none⟩) (.inl rfl) _) (p:=⟨b,3,none⟩) (.inl rfl) _
 intro B w0 hb hle;exact Below.setCell (Below.setCell (Below.setCell (Below.setCell hb (p:=⟨b,0,none⟩) hle _) (p:=⟨b,1,none⟩) hle _) (p:=⟨b,2,none⟩) hle _) (p:=⟨b,3,none⟩) hle _
theorem Tm (W:World):(sizeOf 26).run Tryd.prog W=.ok 4 W:=by kernel_rfl
section
variable {ops:Array Oper} {rest:List Oper} {o:Oper} {a:Act} {Q:Exit→Act→World→Prop}
theorem K1 {W:World} {t:Operand} {q:Operand} {o:Oper} (ho:o.op=.store 26 t q)
 {b:Nat} {op n op' n':Int} {nm nm':ByteArray} {v:Value} {A':Option Addr} {l' c':Nat} (hp:a.eval t=.pointer (some ⟨b,0,none⟩)) (hq:a.eval q=.agg #[.int .i64 op',.int .i64 n',.string nm',.slice A' l' c'])
 (hb:Y8 W b op n nm v):(execOp a.eval o).run Tryd.prog W=.ok .skip ((((W.setCell ⟨b,0,none⟩ (.int .i64 op')).setCell ⟨b,1,none⟩ (.int .i64 n')).setCell ⟨b,2,none⟩ (.string nm')).setCell ⟨b,3,none⟩ (.slice A' l' c')):=by
 obtain⟨c0,c1,c2,c3⟩ :=hb.cells;have f0:=Qd hb 0;have f1:=Qd hb 1;have f2:=Qd hb 2;have f3:=Qd hb 3;have hs:=Tm;have hu:=Tryd.underlying26;unfold execOp;simp only [ho,hp,hq];go_simp
theorem Xb {W:World} (hgd:o.guard=none) (p:Tmp) (q:Operand) (hN:o.dst=none) (ho:o.op=.store 26 (.tmp p) q)
 {b:Nat} {op n op' n':Int} {nm nm':ByteArray} {v:Value} {A':Option Addr} {l' c':Nat} (hp:a.eval (.tmp p)=.pointer (some ⟨b,0,none⟩)) (hq:a.eval q=.agg #[.int .i64 op',.int .i64 n',.string nm',.slice A' l' c'])
 (hb:Y8 W b op n nm v) (h:∀W',Y8 W' b op' n' nm' (.slice A' l' c')→Wrote b W W'→wpList Tryd.prog ops Q rest a W'):wpList Tryd.prog ops Q (o::rest) a W:=by
 refine wpList_plain hgd fun K hK=>?_
 unfold Oper.wp;rw [K1 ho hp hq hb]
 show K (a.put o.dst undef) _
 rw [hN];obtain⟨e1,e2⟩ :=R0 (op':=op') (n':=n') (nm':=nm') (v':=.slice A' l' c') hb;exact hK _ _ (h _ e1 e2)
theorem Q5 {W:World} (hgd:o.guard=none) (N:Tmp) (hN:o.dst=some N) (ho:o.op=.alloc 26)
 (h:∀b W',b=W.heap.size→Y8 W' b 0 0 ⟨#[]⟩ (.slice none 0 0)→Below W.heap.size W W'→wpList Tryd.prog ops Q rest (a.put (some N) (.pointer (some ⟨b,0,none⟩))) W'):wpList Tryd.prog ops Q (o::rest) a W:=by
 have hu:=Tryd.underlying26;refine Xm hgd hN (cs:=#[.int .i64 0,.int .i64 0,.string ⟨#[]⟩,.slice none 0 0]) (t:=26) ?_ ?_
 ·unfold execOp;simp only [ho];go_simp
 intro g hg w1 h1 h2;rw [hN];exact h g w1 hg h1 h2
end
structure Cx (s:ByteArray) (g:Nat) (w0 w W:World) (p:Int) (t:ByteArray):Prop where
 st:Zd w0 W g s p t
 bel:Below w0.heap.size w0 W
 keep:Qe w W g none
 lt:g < w.heap.size
 le:w0.heap.size≤w.heap.size
section
variable {s:ByteArray} {g:Nat} {w0 w W W':World} {p p':Int} {t t':ByteArray}
theorem Cx.start (hI:Zd w0 w g s p t) (hB:Below w0.heap.size w0 w):Cx s g w0 w w p t:=⟨hI,hB,Qe.refl w g none,hI.lt,hB.size⟩
theorem Cx.size (h:Cx s g w0 w W p t):w.heap.size≤W.heap.size:=h.keep.1
theorem Cx.below (h:Cx s g w0 w W p t) (hb:Below W.heap.size W W'):Cx s g w0 w W' p t:=
 ⟨h.st.below hb,Y4 h.bel h.bel.size hb,Kept.keep h.keep (Kept.of_below hb (fun _=>False)) (fun _ hk=>hk.elim),h.lt,h.le⟩
theorem Cx.wrote {b:Nat} (h:Cx s g w0 w W p t) (hw:Wrote b W W') (hb:w.heap.size≤b):Cx s g w0 w W' p t:=
 ⟨h.st.kept hw.kept (by have:=h.lt;omega),hw.below _ _ h.bel (by have:=h.le;omega),Kept.keep h.keep hw.kept (fun k hk=>by omega),h.lt,h.le⟩
theorem Cx.call (h:Cx s g w0 w W p t) (hi:Zd w0 W' g s p' t') (hb:Below w0.heap.size w0 W') (hk:Qe W W' g none):Cx s g w0 w W' p' t':=
 ⟨hi,hb,Qe.trans h.keep hk (.inl rfl),h.lt,h.le⟩
theorem Cx.drew (h:Cx s g w0 w W p t):Cx s g w0 w W.drew p t:=h.below (Yx (Below.refl _ _))
end
structure Vr (w W:World) (b:Nat) (op n:Int) (nm:ByteArray) (A:Option Addr) (l c:Nat):Prop where
 at_:Y8 W b op n nm (.slice A l c)
 ge:w.heap.size≤b
section
variable {w W W':World} {b:Nat} {op n:Int} {nm:ByteArray} {A:Option Addr} {l c:Nat}
theorem Vr.lt (h:Vr w W b op n nm A l c):b < W.heap.size:=Xr h.at_
theorem Vr.below (h:Vr w W b op n nm A l c) (hb:Below W.heap.size W W'):Vr w W' b op n nm A l c:=⟨(hb.block b h.lt).trans h.at_,h.ge⟩
theorem Vr.wrote {b':Nat} (h:Vr w W b op n nm A l c) (hw:Wrote b' W W') (hne:b≠b'):Vr w W' b op n nm A l c:=⟨Yh h.at_ hw.kept hne,h.ge⟩
theorem Vr.call {g:Nat} (h:Vr w W b op n nm A l c) (hk:Qe W W' g none) (hg:g < w.heap.size):Vr w W' b op n nm A l c:=⟨(hk.2 b h.lt (by have:=h.ge;omega) (by simp)).trans h.at_,h.ge⟩
theorem Vr.drew (h:Vr w W b op n nm A l c):Vr w W.drew b op n nm A l c:=h.below (Yx (Below.refl _ _))
end
def Tr (W:World) (lo hi:Nat) (A:Option Addr) (c:Nat) (xs:List S26):Prop:=Kd.R k26 26 W lo (fun k=>k < hi) (.slice A xs.length c) xs
section
variable {W W':World} {lo hi lo' hi':Nat} {A:Option Addr} {c:Nat} {xs:List S26}
theorem Tr.kept {S:Nat→Prop} (h:Tr W lo hi A c xs) (hk:Kept W W' S) (hne:∀k,lo≤k→k < hi→¬S k):Tr W' lo hi A c xs:=
 Kd.R_mono (Kd.R_kept (Kd.R_bound h) hk (fun k hk=>hne k hk.2.1 hk.1)) (fun k hk=>hk.1)
theorem Tr.below (h:Tr W lo hi A c xs) (hb:Below W.heap.size W W'):Tr W' lo hi A c xs:=h.kept (Kept.of_below hb (fun _=>False)) (fun _ _ _ hk=>hk)
theorem Tr.wrote {b:Nat} (h:Tr W lo hi A c xs) (hw:Wrote b W W') (hb:b < lo∨hi≤b):Tr W' lo hi A c xs:=h.kept hw.kept (fun k h1 h2 h3=>by omega)
theorem Tr.call {g:Nat} (h:Tr W lo hi A c xs) (hk:Qe W W' g none) (hg:g < lo):Tr W' lo hi A c xs:=
 h.kept (S:=fun k=>k=g) ⟨hk.1,fun i hi hn=>hk.2 i hi hn (by simp)⟩ (fun k h1 h2 h3=>by omega)
theorem Tr.drew (h:Tr W lo hi A c xs):Tr W.drew lo hi A c xs:=h.below (Yx (Below.refl _ _))
theorem Tr.wide (h:Tr W lo hi A c xs) (h1:lo'≤lo) (h2:hi≤hi'):Tr W lo' hi' A c xs:=Kd.R_lower (Kd.R_mono h (fun k hk=>Nat.lt_of_lt_of_le hk h2)) h1
theorem Tr.nil (W:World) (lo hi:Nat):Tr W lo hi none 0 []:=Kd.R_nil _ _ _ _ _
theorem Tr.reads (h:Tr W lo hi A c xs):xs.length≤c∧Kd.C k26 W A xs.length xs:=by
 have h2:=Kd.R_reads' h;exact⟨h2.2.1,h2.2.2⟩
theorem Tr.reads_keep {g:Nat} (h:Tr W lo hi A c xs) (hg:g < lo):∀W_,Qe W W_ g none→Kd.C k26 W_ A xs.length xs:=fun W_ hk=>(h.call hk hg).reads.2
end
def Y7 (s:ByteArray) (g:Nat) (w0 w:World):Except (Nat×Int) (S26×Nat×ByteArray)→Ending→World→Prop
 |.error (p,er),e,w'=>e=.panicked (Jq p er)∧Below w0.heap.size w0 w'∧Qe w w' g none
 |.ok (x,p,t),e,w'=>∃A c,e=.returned (.agg #[.int .i64 x.f0,.int .i64 x.f1,.string x.f2,.slice A x.f3.length c])∧Tr w' w.heap.size w'.heap.size A c x.f3∧Zd w0 w' g s p t∧Below w0.heap.size w0 w'∧Qe w w' g none
theorem Y7.err {s:ByteArray} {g:Nat} {w0 w w':World} {p:Nat} {er:Int} (hb:Below w0.heap.size w0 w') (hk:Qe w w' g none):Y7 s g w0 w (.error (p,er)) (.panicked (Jq p er)) w':=⟨rfl,hb,hk⟩
theorem Y7.done {s:ByteArray} {g:Nat} {w0 w w':World} {x:S26} {p:Nat} {t:ByteArray} {A:Option Addr} {c lo hi:Nat} (hT:Tr w' lo hi A c x.f3) (hC:Cx s g w0 w w' p t) (h1:w.heap.size≤lo) (h2:hi≤w'.heap.size):
 Y7 s g w0 w (.ok (x,p,t)) (.returned (.agg #[.int .i64 x.f0,.int .i64 x.f1,.string x.f2,.slice A x.f3.length c])) w':=
 ⟨A,c,rfl,hT.wide h1 h2,hC.st,hC.bel,hC.keep⟩
abbrev C43 (s:ByteArray) (k:Nat):Prop:=∀(g p:Nat) (t:ByteArray) (w0 w:World) (r:Except (Nat×Int) (S26×Nat×ByteArray)),pr s k .first p t=some r→Zd w0 w g s p t→Below w0.heap.size w0 w→p+t.size≤s.size→Calls Tryd.prog 43 #[.pointer (some ⟨g,0,none⟩)] w (Y7 s g w0 w r)
abbrev C70 (s:ByteArray) (k:Nat):Prop:=∀(g p:Nat) (t:ByteArray) (w0 w:World) (r:Except (Nat×Int) (S26×Nat×ByteArray)),pr s k .second p t=some r→Zd w0 w g s p t→Below w0.heap.size w0 w→p+t.size≤s.size→Calls Tryd.prog 70 #[.pointer (some ⟨g,0,none⟩)] w (Y7 s g w0 w r)
abbrev R4 (s:ByteArray) (k n:Nat):Prop:=∀(m:Int),m=(n:Int)→∀(g p:Nat) (t:ByteArray) (w0 w:World) (r:Except (Nat×Int) (S26×Nat×ByteArray)),pr s k (.level n) p t=some r→Zd w0 w g s p t→Below w0.heap.size w0 w→p+t.size≤s.size→Calls Tryd.prog 105 #[.pointer (some ⟨g,0,none⟩),.int .i64 m] w (Y7 s g w0 w r)
abbrev R5 (s:ByteArray) (k:Nat):Prop:=∀(g p:Nat) (t:ByteArray) (w0 w:World) (r:Except (Nat×Int) (S26×Nat×ByteArray)),pr s k .operand p t=some r→Zd w0 w g s p t→Below w0.heap.size w0 w→p+t.size≤s.size→Calls Tryd.prog 122 #[.pointer (some ⟨g,0,none⟩)] w (Y7 s g w0 w r)
section
variable {ops:Array Oper} {o:Oper} {a:Act} {Q:Exit→Act→World→Prop} {Kc:Act→World→Prop}
theorem N1 {oi:Oper} {N:Option Tmp} {w:World} {K:Act→World→Prop} {f:FuncId} {fn:Func} {ags:Array Operand} {ts:Array TypeId} (hf:Tryd.prog.funcs[f]? =some fn) (hname:(fn.name=="runtime.NumGoroutine")=false) (hb:fn.body.isSome=true) (args:Array Value)
 (hw:Region.wanted oi (yielded ops a.tmps)=true) (hop:oi.op=.call {callee:=.value (.func f),args:=ags,argTypes:=ts}) (hargs:ags.map a.eval=args) (chain:List PanicEntry)
 (h:Calls Tryd.prog f args w fun e w'=>e=.panicked chain∧Q (.panic chain) a w'):if Region.wanted oi (yielded ops a.tmps)=true then Oper.wp Tryd.prog oi a w K Q else K (a.put N undef) w:=by
 rw [if_pos hw];have he:=F1 hf hname hb args w
 have hrun:(execOp a.eval oi).run Tryd.prog w=.ok (.enter f args) w:=by
  unfold execOp;simp [hop,resolve,Deferred.ofValue,invoke,Act.eval,hargs,he]
 unfold Oper.wp;rw [hrun,Oper.upon_enter];refine h.mono fun e w'' hh=>?_
 obtain⟨rfl,hq⟩ :=hh;exact hq
theorem Vg {W:World} (hw:Region.wanted o (yielded ops a.tmps)=true) (p:Tmp) (q:Operand) (hN:o.dst=none) (ho:o.op=.store 26 (.tmp p) q)
 {b:Nat} {op n op' n':Int} {nm nm':ByteArray} {v:Value} {A':Option Addr} {l' c':Nat} (hp:a.eval (.tmp p)=.pointer (some ⟨b,0,none⟩)) (hq:a.eval q=.agg #[.int .i64 op',.int .i64 n',.string nm',.slice A' l' c'])
 (hb:Y8 W b op n nm v) (h:∀W',Y8 W' b op' n' nm' (.slice A' l' c')→Wrote b W W'→Kc a W'):if Region.wanted o (yielded ops a.tmps)=true then Oper.wp Tryd.prog o a W Kc Q else Kc (a.put none undef) W:=by
 rw [if_pos hw];unfold Oper.wp;rw [K1 ho hp hq hb]
 show Kc (a.put o.dst undef) _
 rw [hN];obtain⟨e1,e2⟩ :=R0 (op':=op') (n':=n') (nm':=nm') (v':=.slice A' l' c') hb;exact h _ e1 e2
def cellsOf:List (S26×Option Addr×Nat)→List Value
 |[]=>[]
 |(x,A,c)::r=> .int .i64 x.f0::.int .i64 x.f1::.string x.f2::.slice A x.f3.length c::cellsOf r
theorem Uu {W:World} {lo hi:Nat}:∀l:List (S26×Option Addr×Nat),(∀z∈l,Tr W lo hi z.2.1 z.2.2 z.1.f3)→Xp (k26.M W lo (fun k=>k < hi)) k26.sz (l.map (·.1)) (cellsOf l)
 |[],_=>Xp.none _ _
 |(x,A,c)::r,h=>by
  have h1:Tr W lo hi A c x.f3:=h (x,A,c) (by simp);exact Xp.front (R:=k26.M W lo (fun k=>k < hi)) (Mp W lo (fun k=>k < hi) x h1) rfl (Uu r (fun z hz=>h z (by simp [hz]))) rfl
theorem Jn {W:World} (hw:Region.wanted o (yielded ops a.tmps)=true) (N:Tmp) (hN:o.dst=some N) (l:List (S26×Option Addr×Nat)) {lo hi:Nat}
 (hrun:(execOp a.eval o).run Tryd.prog W=.ok (.value (.slice (some ⟨W.heap.size,0,none⟩) l.length l.length)) (W.alloc (.cells (cellsOf l).toArray 26)))
 (hl:∀z∈l,Tr W lo hi z.2.1 z.2.2 z.1.f3) (hlo:lo≤W.heap.size) (hhi:hi≤W.heap.size) (hm:l.length≤100)
 (h:∀(A:Option Addr) (c:Nat) (W':World),Tr W' lo (W.heap.size+1) A c (l.map (·.1))→Below W.heap.size W W'→W.heap.size+1≤W'.heap.size→Kc (a.put (some N) (.slice A l.length c)) W'):
 if Region.wanted o (yielded ops a.tmps)=true then Oper.wp Tryd.prog o a W Kc Q else Kc (a.put (some N) undef) W:=by
 rw [←hN] at h ⊢;have hr:=Uu l hl;refine Jo hw hrun ?_;have hb:Below W.heap.size W (W.alloc (.cells (cellsOf l).toArray 26)):=Xu (Below.refl _ _) _;refine h _ _ _ ?_ hb (by simp);have hlen:(cellsOf l).length=l.length*4 :=by have h9:=hr.1;rw [show k26.sz=4 from rfl] at h9;simpa using h9
 have e:Tr (W.alloc (.cells (cellsOf l).toArray 26)) lo (W.heap.size+1) (some ⟨W.heap.size,0,none⟩) l.length (l.map (·.1)):=by
  refine⟨fun k hk=>?_,cellsOf l,?_,?_⟩
  ·have:W.heap.size=k:=by simpa [Value.ownBlock] using hk
   omega
  ·have h2:=World.ownsRow_lit (base:=lo) (e:=26) (size:=4) W (cellsOf l).toArray l.length hlo (by simp only [maxLen];omega) (by simpa using hlen);rw [show k26.sz=4 from rfl];simpa using h2
  ·refine hr.imp_ (fun p c hp=>k26.M_mono (fun k hk=>⟨?_,fun he=>?_⟩) (Kd.M_below (k26.M_bound hp) hb))
   ·have:=hk.1;omega
   have h3:k=W.heap.size:=by simpa [Value.ownBlock] using he
   have:=hk.1;omega
 exact e
end
theorem M1 {W:World} {lo hi:Nat} {x:S26} {A:Option Addr} {c:Nat} (h:Tr W lo hi A c x.f3):∀z∈[(x,A,c)],Tr W lo hi z.2.1 z.2.2 z.1.f3:=by
 intro z hz;simp only [List.mem_cons,List.not_mem_nil,or_false] at hz;subst hz;exact h
theorem Su {W:World} {lo hi:Nat} {x y u:S26} {A B C:Option Addr} {c d e:Nat} (h:Tr W lo hi A c x.f3) (h2:Tr W lo hi B d y.f3) (h3:Tr W lo hi C e u.f3):∀z∈[(x,A,c),(y,B,d),(u,C,e)],Tr W lo hi z.2.1 z.2.2 z.1.f3:=by
 intro z hz;simp only [List.mem_cons,List.not_mem_nil,or_false] at hz;rcases hz with rfl|rfl|rfl
 ·exact h
 ·exact h2
 ·exact h3
section
variable {ops:Array Oper} {rest:List Oper} {o:Oper} {a:Act} {Q:Exit→Act→World→Prop}
theorem Gm {W:World} (hgd:o.guard=none) (N:Tmp) (hN:o.dst=some N) (l:List (S26×Option Addr×Nat)) {lo hi:Nat}
 (hrun:(execOp a.eval o).run Tryd.prog W=.ok (.value (.slice (some ⟨W.heap.size,0,none⟩) l.length l.length)) (W.alloc (.cells (cellsOf l).toArray 26)))
 (hl:∀z∈l,Tr W lo hi z.2.1 z.2.2 z.1.f3) (hlo:lo≤W.heap.size) (hhi:hi≤W.heap.size) (hm:l.length≤100)
 (h:∀(A:Option Addr) (c:Nat) (W':World),Tr W' lo (W.heap.size+1) A c (l.map (·.1))→Below W.heap.size W W'→W.heap.size+1≤W'.heap.size→wpList Tryd.prog ops Q rest (a.put (some N) (.slice A l.length c)) W'):
 wpList Tryd.prog ops Q (o::rest) a W:=by
 refine wpList_plain hgd fun K hK=>?_
 have h0:Region.wanted o (yielded ops a.tmps)=true:=by simp [Region.wanted,hgd]
 have h1:=Jn (ops:=ops) (Q:=Q) (Kc:=K) h0 N hN l hrun hl hlo hhi hm (fun A c W' e1 e2 e3=>hK _ _ (h A c W' e1 e2 e3))
 rw [if_pos h0] at h1;exact h1
end
def TrX (X:Nat) (W:World) (lo hi:Nat) (A:Option Addr) (c:Nat) (xs:List S26):Prop:=Kd.R k26 26 W lo (fun k=>k < hi∧k≠X) (.slice A xs.length c) xs
section
variable {X:Nat} {W W':World} {lo hi lo' hi':Nat} {A:Option Addr} {c:Nat} {xs:List S26}
theorem TrX.kept {S:Nat→Prop} (h:TrX X W lo hi A c xs) (hk:Kept W W' S) (hne:∀k,lo≤k→k < hi→k≠X→¬S k):TrX X W' lo hi A c xs:=
 Kd.R_mono (Kd.R_kept (Kd.R_bound h) hk (fun k hk=>hne k hk.2.1 hk.1.1 hk.1.2)) (fun k hk=>hk.1)
theorem TrX.below (h:TrX X W lo hi A c xs) (hb:Below W.heap.size W W'):TrX X W' lo hi A c xs:=h.kept (Kept.of_below hb (fun _=>False)) (fun _ _ _ _ hk=>hk)
theorem TrX.wrote {b:Nat} (h:TrX X W lo hi A c xs) (hw:Wrote b W W') (hb:b < lo∨hi≤b∨b=X):TrX X W' lo hi A c xs:=h.kept hw.kept (fun k h1 h2 h3 h4=>by omega)
theorem TrX.call {g:Nat} (h:TrX X W lo hi A c xs) (hk:Qe W W' g none) (hg:g < lo):TrX X W' lo hi A c xs:=
 h.kept (S:=fun k=>k=g) ⟨hk.1,fun i hi hn=>hk.2 i hi hn (by simp)⟩ (fun k h1 h2 h3 h4=>by omega)
theorem TrX.drew (h:TrX X W lo hi A c xs):TrX X W.drew lo hi A c xs:=h.below (Yx (Below.refl _ _))
theorem TrX.wide (h:TrX X W lo hi A c xs) (h1:lo'≤lo) (h2:hi≤hi'):TrX X W lo' hi' A c xs:=Kd.R_lower (Kd.R_mono h (fun k hk=>⟨Nat.lt_of_lt_of_le hk.1 h2,hk.2⟩)) h1
theorem TrX.tr (h:TrX X W lo hi A c xs):Tr W lo hi A c xs:=Kd.R_mono h (fun k hk=>hk.1)
theorem Tr.trX (h:Tr W lo hi A c xs) (hX:X < lo∨hi≤X):TrX X W lo hi A c xs:=Kd.R_mono (Kd.R_bound h) (fun k hk=>⟨hk.1,by have:=hk.2.1;have:=hk.1;omega⟩)
end
theorem Tr.trX2 {X lo1:Nat} {W:World} {lo hi:Nat} {A:Option Addr} {c:Nat} {xs:List S26} (h:Tr W lo1 hi A c xs) (h1:lo≤lo1) (hX:X < lo1∨hi≤X):TrX X W lo hi A c xs:=Kd.R_lower (h.trX hX) h1
theorem Kx {X:Nat} {W:World} {lo hi:Nat}:∀l:List (S26×Option Addr×Nat),(∀z∈l,TrX X W lo hi z.2.1 z.2.2 z.1.f3)→Xp (k26.M W lo (fun k=>k < hi∧k≠X)) k26.sz (l.map (·.1)) (cellsOf l)
 |[],_=>Xp.none _ _
 |(x,A,c)::r,h=>by
  have h1:TrX X W lo hi A c x.f3:=h (x,A,c) (by simp);exact Xp.front (R:=k26.M W lo (fun k=>k < hi∧k≠X)) (Mp W lo (fun k=>k < hi∧k≠X) x h1) rfl (Kx r (fun z hz=>h z (by simp [hz]))) rfl
theorem Rt {X:Nat} {W:World} {lo hi:Nat} {x y:S26} {A B:Option Addr} {c d:Nat} (h:TrX X W lo hi A c x.f3) (h2:TrX X W lo hi B d y.f3):∀z∈[(x,A,c),(y,B,d)],TrX X W lo hi z.2.1 z.2.2 z.1.f3:=by
 intro z hz;simp only [List.mem_cons,List.not_mem_nil,or_false] at hz;rcases hz with rfl|rfl
 ·exact h
 exact h2
section
variable {ops:Array Oper} {o:Oper} {a:Act} {Q:Exit→Act→World→Prop} {Kc:Act→World→Prop}
theorem Gn {X:Nat} {W:World} (hw:Region.wanted o (yielded ops a.tmps)=true) (N:Tmp) (hN:o.dst=some N) (l:List (S26×Option Addr×Nat)) {lo hi:Nat}
 (hrun:(execOp a.eval o).run Tryd.prog W=.ok (.value (.slice (some ⟨W.heap.size,0,none⟩) l.length l.length)) (W.alloc (.cells (cellsOf l).toArray 26)))
 (hl:∀z∈l,TrX X W lo hi z.2.1 z.2.2 z.1.f3) (hlo:lo≤W.heap.size) (hhi:hi≤W.heap.size) (hX:X < W.heap.size) (hm:l.length≤100)
 (h:∀(A:Option Addr) (c:Nat) (W':World),TrX X W' lo (W.heap.size+1) A c (l.map (·.1))→Below W.heap.size W W'→W.heap.size+1≤W'.heap.size→Kc (a.put (some N) (.slice A l.length c)) W'):
 if Region.wanted o (yielded ops a.tmps)=true then Oper.wp Tryd.prog o a W Kc Q else Kc (a.put (some N) undef) W:=by
 rw [←hN] at h ⊢;have hr:=Kx l hl;refine Jo hw hrun ?_;have hb:Below W.heap.size W (W.alloc (.cells (cellsOf l).toArray 26)):=Xu (Below.refl _ _) _;refine h _ _ _ ?_ hb (by simp);have hlen:(cellsOf l).length=l.length*4 :=by have h9:=hr.1;rw [show k26.sz=4 from rfl] at h9;simpa using h9
 have e:TrX X (W.alloc (.cells (cellsOf l).toArray 26)) lo (W.heap.size+1) (some ⟨W.heap.size,0,none⟩) l.length (l.map (·.1)):=by
  refine⟨fun k hk=>?_,cellsOf l,?_,?_⟩
  ·have:W.heap.size=k:=by simpa [Value.ownBlock] using hk
   omega
  ·have h2:=World.ownsRow_lit (base:=lo) (e:=26) (size:=4) W (cellsOf l).toArray l.length hlo (by simp only [maxLen];omega) (by simpa using hlen);rw [show k26.sz=4 from rfl];simpa using h2
  ·refine hr.imp_ (fun p c hp=>k26.M_mono (fun k hk=>⟨?_,fun he=>?_⟩) (Kd.M_below (k26.M_bound hp) hb))
   ·have h5:=hk.1;have h6:=h5.1;have h7:=h5.2;omega
   have h3:k=W.heap.size:=by simpa [Value.ownBlock] using he
   have h5:=hk.1;have h6:=h5.1;omega
 exact e
end
end Go.Proofs.YtglmdfddgmkmaaaDoor.Q
end
section
namespace Go.Proofs.YtglmdfddgmkmaaaDoor.Q
open Go.RowKit Go.Proofs.YtglmdfddgmkmaaaDoorW.PrintWords Go.Proofs.YtglmdfddgmkmaaaDoorW.PrintLast Go.Proofs.YtglmdfddgmkmaaaDoorW.PrintMore
attribute [local go_sem] Z0 Z2 Yd Ye Zq Zr Z1 Z3
set_option linter.unusedVariables false
set_option linter.unusedSimpArgs false
set_option maxRecDepth 100000 in
set_option maxHeartbeats 2000000 in
theorem G9 (s:ByteArray) (hs:s.size≤4096) (k:Nat) (h3:R4 s k 3) (h1:C43 s k) (h2:C70 s k):C70 s (k+1):=by
 intro g p t w0 w r hr hI hB hp;have H3:=Qa.mk h3;have H1:=Qa.mk h1;have H2:=Qa.mk h2;have HS:=Qa.mk hs;have HP:=Qa.mk hp;clear h3 h1 h2 hs hp;simp only [pr] at hr;have hu26:=Tryd.underlying26;have hu65:=Tryd.underlying65
 cases hA:pr s k (.level 3) p t with
 |none=>rw [hA] at hr;simp [Zu] at hr
 |some ra=>
  rw [hA] at hr;have HA:=Qa.mk hA;clear hA
  cases ra with
  |error q=>
   obtain⟨q,er⟩ :=q;simp only [Zu,Option.some.injEq] at hr;subst hr;have HC:=Qa.mk (Cx.start (s:=s) hI hB);have gl:=HC.out.lt;clear hI hB;go_enter Tryd.func70,Tryd.ntmps70;go_wp2_with(first|((with_reducible refine Q0 (N:=2) rfl ?_);refine Q5 rfl 2 rfl rfl ?_;intro b2 wa1 hb_ ha_ hw_;have zb2:=hw_.size;have yb2:=Nat.le_of_eq hb_.symm;have nHC:=Qa.mk (HC.out.below hw_);have nVb2:=Qa.mk (Vr.mk (w:=w) ha_ (Nat.le_trans HC.out.size yb2));clear HC;have HC:=nHC;have Vb2:=nVb2;clear nHC nVb2;have kb2:=Vb2.out.ge;clear hw_ ha_ hb_)|(go_at_call 105;(with_reducible refine(H3.out 3 rfl g p t w0 _ _ HA.out HC.out.st HC.out.bel HP.out).mono ?_);rintro e we ⟨rfl,hb,hk⟩));exact⟨rfl,Y7.err hb (Qe.trans HC.out.keep hk (.inl rfl))⟩
  |ok xa=>
   obtain⟨x,p1,t1⟩ :=xa;have HP1:=Qa.mk (W8 s _ _ _ _ _ _ _ HP.out HA.out);have HQ1:=Qa.mk (Yc s _ _ HP1.out);simp only [Zu] at hr;by_cases ht1:t1.toList=[63]
   rotate_left
   ·rw [if_neg ht1] at hr;have u1:(t1.toList==([63]:List UInt8))=false:=by simpa using ht1
    clear ht1;simp only [Option.some.injEq] at hr;subst hr;have HC:=Qa.mk (Cx.start (s:=s) hI hB);have gl:=HC.out.lt;clear hI hB;go_enter Tryd.func70,Tryd.ntmps70;go_upto_region 2 with (first|((with_reducible refine Q0 (N:=2) rfl ?_);refine Q5 rfl 2 rfl rfl ?_;intro b2 wa1 hb_ ha_ hw_;have zb2:=hw_.size;have yb2:=Nat.le_of_eq hb_.symm;have nHC:=Qa.mk (HC.out.below hw_);have nVb2:=Qa.mk (Vr.mk (w:=w) ha_ (Nat.le_trans HC.out.size yb2));clear HC;have HC:=nHC;have Vb2:=nVb2;clear nHC nVb2;have kb2:=Vb2.out.ge;clear hw_ ha_ hb_)|(go_at_call 105;have gx:=Nat.lt_of_lt_of_le HC.out.lt HC.out.size;have qx:=HC.out.size;have lb2_x:=Vb2.out.lt;(with_reducible refine(H3.out 3 rfl g p t w0 _ _ HA.out HC.out.st HC.out.bel HP.out).mono ?_);rintro e wc2 ⟨Ax,cx,rfl,ht_,hi,hb,hk⟩;have zx:=hk.1;have nHC:=Qa.mk (HC.out.call hi hb hk);have nVb2:=Qa.mk (Vb2.out.call hk gl);have nTx:=Qa.mk (ht_);clear HC Vb2;have HC:=nHC;have Vb2:=nVb2;have Tx:=nTx;clear nHC nVb2 nTx;clear ht_ hi hb hk)|((with_reducible refine Q0 (N:=3) rfl ?_);refine Q5 rfl 3 rfl rfl ?_;intro b3 wa3 hb_ ha_ hw_;have lb2_b3:=Vb2.out.lt;have zb3:=hw_.size;have yb3:=Nat.le_of_eq hb_.symm;have nHC:=Qa.mk (HC.out.below hw_);have nVb2:=Qa.mk (Vb2.out.below hw_);have nTx:=Qa.mk (Tx.out.below hw_);have nVb3:=Qa.mk (Vr.mk (w:=w) ha_ (Nat.le_trans HC.out.size yb3));clear HC Vb2 Tx;have HC:=nHC;have Vb2:=nVb2;have Tx:=nTx;have Vb3:=nVb3;clear nHC nVb2 nTx nVb3;have kb3:=Vb3.out.ge;clear hw_ ha_ hb_)|(refine Xb rfl 3 (.tmp 6) rfl rfl rfl rfl Vb3.out.at_ ?_;intro ws4 ha_ hw_;have zws4:=hw_.kept.1;have nHC:=Qa.mk (HC.out.wrote hw_ Vb3.out.ge);have nVb2:=Qa.mk (Vb2.out.wrote hw_ (by omega));have nTx:=Qa.mk (Tx.out.wrote hw_ (by omega));have nVb3:=Qa.mk (Vr.mk (w:=w) ha_ Vb3.out.ge);clear HC Vb2 Tx Vb3;have HC:=nHC;have Vb2:=nVb2;have Tx:=nTx;have Vb3:=nVb3;clear nHC nVb2 nTx nVb3;clear hw_ ha_))
    obtain⟨HG,hg⟩ :=HC.out.st;have c0:=Xk HG;have c1:=Xl HG;have c2:=Xn HG;clear HG hg;obtain⟨x0,x1,x2,x3⟩ :=Vb3.out.at_.cells;go_upto_region 3 with (fail)
    go_wp2_with(first|(refine Xb rfl 2 (.tmp 12) rfl rfl rfl rfl Vb2.out.at_ ?_;intro ws5 ha_ hw_;have zws5:=hw_.kept.1;have nHC:=Qa.mk (HC.out.wrote hw_ Vb2.out.ge);have nVb3:=Qa.mk (Vb3.out.wrote hw_ (by omega));have nTx:=Qa.mk (Tx.out.wrote hw_ (by omega));have nVb2:=Qa.mk (Vr.mk (w:=w) ha_ Vb2.out.ge);clear HC Vb3 Tx Vb2;have HC:=nHC;have Vb3:=nVb3;have Tx:=nTx;have Vb2:=nVb2;clear nHC nVb3 nTx nVb2;clear hw_ ha_));refine bodyPost_ret (results_cell_row rfl _ _ b2 26 #[.int .i64 (x.f0),.int .i64 (x.f1),.string (x.f2),.slice Ax x.f3.length cx] (0,0) _ rfl Vb2.out.at_ Tryd.underlying26 rfl (by kernel_rfl)) rfl ?_;exact Y7.done Tx.out HC.out (by omega) (by omega)
   rw [if_pos ht1] at hr;have u1:(t1.toList==([63]:List UInt8))=true:=by simpa using ht1
   clear ht1
   cases hA:pr s k .first (Zb s p1 t1) (Yb s p1 t1) with
   |none=>rw [hA] at hr;simp at hr
   |some rb=>
    rw [hA] at hr;have HA1:=Qa.mk hA;clear hA
    cases rb with
    |error q=>
     obtain⟨q,er⟩ :=q;simp only [Option.some.injEq] at hr;subst hr;have HC:=Qa.mk (Cx.start (s:=s) hI hB);have gl:=HC.out.lt;clear hI hB;go_enter Tryd.func70,Tryd.ntmps70;go_upto_region 2 with (first|((with_reducible refine Q0 (N:=2) rfl ?_);refine Q5 rfl 2 rfl rfl ?_;intro b2 wa1 hb_ ha_ hw_;have zb2:=hw_.size;have yb2:=Nat.le_of_eq hb_.symm;have nHC:=Qa.mk (HC.out.below hw_);have nVb2:=Qa.mk (Vr.mk (w:=w) ha_ (Nat.le_trans HC.out.size yb2));clear HC;have HC:=nHC;have Vb2:=nVb2;clear nHC nVb2;have kb2:=Vb2.out.ge;clear hw_ ha_ hb_)|(go_at_call 105;have gx:=Nat.lt_of_lt_of_le HC.out.lt HC.out.size;have qx:=HC.out.size;have lb2_x:=Vb2.out.lt;(with_reducible refine(H3.out 3 rfl g p t w0 _ _ HA.out HC.out.st HC.out.bel HP.out).mono ?_);rintro e wc2 ⟨Ax,cx,rfl,ht_,hi,hb,hk⟩;have zx:=hk.1;have nHC:=Qa.mk (HC.out.call hi hb hk);have nVb2:=Qa.mk (Vb2.out.call hk gl);have nTx:=Qa.mk (ht_);clear HC Vb2;have HC:=nHC;have Vb2:=nVb2;have Tx:=nTx;clear nHC nVb2 nTx;clear ht_ hi hb hk)|((with_reducible refine Q0 (N:=3) rfl ?_);refine Q5 rfl 3 rfl rfl ?_;intro b3 wa3 hb_ ha_ hw_;have lb2_b3:=Vb2.out.lt;have zb3:=hw_.size;have yb3:=Nat.le_of_eq hb_.symm;have nHC:=Qa.mk (HC.out.below hw_);have nVb2:=Qa.mk (Vb2.out.below hw_);have nTx:=Qa.mk (Tx.out.below hw_);have nVb3:=Qa.mk (Vr.mk (w:=w) ha_ (Nat.le_trans HC.out.size yb3));clear HC Vb2 Tx;have HC:=nHC;have Vb2:=nVb2;have Tx:=nTx;have Vb3:=nVb3;clear nHC nVb2 nTx nVb3;have kb3:=Vb3.out.ge;clear hw_ ha_ hb_)|(refine Xb rfl 3 (.tmp 6) rfl rfl rfl rfl Vb3.out.at_ ?_;intro ws4 ha_ hw_;have zws4:=hw_.kept.1;have nHC:=Qa.mk (HC.out.wrote hw_ Vb3.out.ge);have nVb2:=Qa.mk (Vb2.out.wrote hw_ (by omega));have nTx:=Qa.mk (Tx.out.wrote hw_ (by omega));have nVb3:=Qa.mk (Vr.mk (w:=w) ha_ Vb3.out.ge);clear HC Vb2 Tx Vb3;have HC:=nHC;have Vb2:=nVb2;have Tx:=nTx;have Vb3:=nVb3;clear nHC nVb2 nTx nVb3;clear hw_ ha_))
     obtain⟨HG,hg⟩ :=HC.out.st;have c0:=Xk HG;have c1:=Xl HG;have c2:=Xn HG;clear HG hg;go_upto_region 4 with (fail)
     clear c0 c1 c2;go_wp2_with(first|(go_at_call 42;have gn1:=Nat.lt_of_lt_of_le HC.out.lt HC.out.size;have qn1:=HC.out.size;have lb2_n1:=Vb2.out.lt;have lb3_n1:=Vb3.out.lt;(with_reducible refine(Zl g s t1 p1 w0 _ HC.out.st HC.out.bel HP1.out HS.out).mono ?_);rintro e wn5 ⟨rfl,hi,hb,hk⟩;have zn1:=hk.1;have nHC:=Qa.mk (HC.out.call hi hb hk);have nVb2:=Qa.mk (Vb2.out.call hk gl);have nVb3:=Qa.mk (Vb3.out.call hk gl);have nTx:=Qa.mk (Tx.out.call hk (by omega));clear HC Vb2 Vb3 Tx;have HC:=nHC;have Vb2:=nVb2;have Vb3:=nVb3;have Tx:=nTx;clear nHC nVb2 nVb3 nTx;clear hi hb hk)|(go_at_call 43;(with_reducible refine(H1.out g _ _ w0 _ _ HA1.out HC.out.st HC.out.bel HQ1.out).mono ?_);rintro e we ⟨rfl,hb,hk⟩));exact⟨rfl,Y7.err hb (Qe.trans HC.out.keep hk (.inl rfl))⟩
    |ok ya=>
     obtain⟨y,p2,t2⟩ :=ya;have HP2:=Qa.mk (W8 s _ _ _ _ _ _ _ HQ1.out HA1.out);have HQ2:=Qa.mk (Yc s _ _ HP2.out);simp only at hr;by_cases ht2:t2.toList=[58]
     rotate_left
     ·rw [if_neg ht2] at hr;have U2:=Qa.mk (show ¬t2.toList=(⟨#[58]⟩ :ByteArray).toList by simpa using ht2);clear ht2;simp only [Option.some.injEq] at hr;subst hr;have HC:=Qa.mk (Cx.start (s:=s) hI hB);have gl:=HC.out.lt;clear hI hB;go_enter Tryd.func70,Tryd.ntmps70;go_upto_region 2 with (first|((with_reducible refine Q0 (N:=2) rfl ?_);refine Q5 rfl 2 rfl rfl ?_;intro b2 wa1 hb_ ha_ hw_;have zb2:=hw_.size;have yb2:=Nat.le_of_eq hb_.symm;have nHC:=Qa.mk (HC.out.below hw_);have nVb2:=Qa.mk (Vr.mk (w:=w) ha_ (Nat.le_trans HC.out.size yb2));clear HC;have HC:=nHC;have Vb2:=nVb2;clear nHC nVb2;have kb2:=Vb2.out.ge;clear hw_ ha_ hb_)|(go_at_call 105;have gx:=Nat.lt_of_lt_of_le HC.out.lt HC.out.size;have qx:=HC.out.size;have lb2_x:=Vb2.out.lt;(with_reducible refine(H3.out 3 rfl g p t w0 _ _ HA.out HC.out.st HC.out.bel HP.out).mono ?_);rintro e wc2 ⟨Ax,cx,rfl,ht_,hi,hb,hk⟩;have zx:=hk.1;have nHC:=Qa.mk (HC.out.call hi hb hk);have nVb2:=Qa.mk (Vb2.out.call hk gl);have nTx:=Qa.mk (ht_);clear HC Vb2;have HC:=nHC;have Vb2:=nVb2;have Tx:=nTx;clear nHC nVb2 nTx;clear ht_ hi hb hk)|((with_reducible refine Q0 (N:=3) rfl ?_);refine Q5 rfl 3 rfl rfl ?_;intro b3 wa3 hb_ ha_ hw_;have lb2_b3:=Vb2.out.lt;have zb3:=hw_.size;have yb3:=Nat.le_of_eq hb_.symm;have nHC:=Qa.mk (HC.out.below hw_);have nVb2:=Qa.mk (Vb2.out.below hw_);have nTx:=Qa.mk (Tx.out.below hw_);have nVb3:=Qa.mk (Vr.mk (w:=w) ha_ (Nat.le_trans HC.out.size yb3));clear HC Vb2 Tx;have HC:=nHC;have Vb2:=nVb2;have Tx:=nTx;have Vb3:=nVb3;clear nHC nVb2 nTx nVb3;have kb3:=Vb3.out.ge;clear hw_ ha_ hb_)|(refine Xb rfl 3 (.tmp 6) rfl rfl rfl rfl Vb3.out.at_ ?_;intro ws4 ha_ hw_;have zws4:=hw_.kept.1;have nHC:=Qa.mk (HC.out.wrote hw_ Vb3.out.ge);have nVb2:=Qa.mk (Vb2.out.wrote hw_ (by omega));have nTx:=Qa.mk (Tx.out.wrote hw_ (by omega));have nVb3:=Qa.mk (Vr.mk (w:=w) ha_ Vb3.out.ge);clear HC Vb2 Tx Vb3;have HC:=nHC;have Vb2:=nVb2;have Tx:=nTx;have Vb3:=nVb3;clear nHC nVb2 nTx nVb3;clear hw_ ha_))
      obtain⟨HG,hg⟩ :=HC.out.st;have c0:=Xk HG;have c1:=Xl HG;have c2:=Xn HG;clear HG hg;go_upto_region 4 with (fail)
      clear c0 c1 c2;go_upto_region 6 with (first|(go_at_call 42;have gn1:=Nat.lt_of_lt_of_le HC.out.lt HC.out.size;have qn1:=HC.out.size;have lb2_n1:=Vb2.out.lt;have lb3_n1:=Vb3.out.lt;(with_reducible refine(Zl g s t1 p1 w0 _ HC.out.st HC.out.bel HP1.out HS.out).mono ?_);rintro e wn5 ⟨rfl,hi,hb,hk⟩;have zn1:=hk.1;have nHC:=Qa.mk (HC.out.call hi hb hk);have nVb2:=Qa.mk (Vb2.out.call hk gl);have nVb3:=Qa.mk (Vb3.out.call hk gl);have nTx:=Qa.mk (Tx.out.call hk (by omega));clear HC Vb2 Vb3 Tx;have HC:=nHC;have Vb2:=nVb2;have Vb3:=nVb3;have Tx:=nTx;clear nHC nVb2 nVb3 nTx;clear hi hb hk)|(go_at_call 43;have gy:=Nat.lt_of_lt_of_le HC.out.lt HC.out.size;have qy:=HC.out.size;have lb2_y:=Vb2.out.lt;have lb3_y:=Vb3.out.lt;(with_reducible refine(H1.out g _ _ w0 _ _ HA1.out HC.out.st HC.out.bel HQ1.out).mono ?_);rintro e wc6 ⟨Ay,cy,rfl,ht_,hi,hb,hk⟩;have zy:=hk.1;have nHC:=Qa.mk (HC.out.call hi hb hk);have nVb2:=Qa.mk (Vb2.out.call hk gl);have nVb3:=Qa.mk (Vb3.out.call hk gl);have nTx:=Qa.mk (Tx.out.call hk (by omega));have nTy:=Qa.mk (ht_);clear HC Vb2 Vb3 Tx;have HC:=nHC;have Vb2:=nVb2;have Vb3:=nVb3;have Tx:=nTx;have Ty:=nTy;clear nHC nVb2 nVb3 nTx nTy;clear ht_ hi hb hk)|((with_reducible refine Q0 (N:=4) rfl ?_);refine Q5 rfl 4 rfl rfl ?_;intro b4 wa7 hb_ ha_ hw_;have lb2_b4:=Vb2.out.lt;have lb3_b4:=Vb3.out.lt;have zb4:=hw_.size;have yb4:=Nat.le_of_eq hb_.symm;have nHC:=Qa.mk (HC.out.below hw_);have nVb2:=Qa.mk (Vb2.out.below hw_);have nVb3:=Qa.mk (Vb3.out.below hw_);have nTx:=Qa.mk (Tx.out.below hw_);have nTy:=Qa.mk (Ty.out.below hw_);have nVb4:=Qa.mk (Vr.mk (w:=w) ha_ (Nat.le_trans HC.out.size yb4));clear HC Vb2 Vb3 Tx Ty;have HC:=nHC;have Vb2:=nVb2;have Vb3:=nVb3;have Tx:=nTx;have Ty:=nTy;have Vb4:=nVb4;clear nHC nVb2 nVb3 nTx nTy nVb4;have kb4:=Vb4.out.ge;clear hw_ ha_ hb_)|(refine Xb rfl 4 (.tmp 16) rfl rfl rfl rfl Vb4.out.at_ ?_;intro ws8 ha_ hw_;have zws8:=hw_.kept.1;have nHC:=Qa.mk (HC.out.wrote hw_ Vb4.out.ge);have nVb2:=Qa.mk (Vb2.out.wrote hw_ (by omega));have nVb3:=Qa.mk (Vb3.out.wrote hw_ (by omega));have nTx:=Qa.mk (Tx.out.wrote hw_ (by omega));have nTy:=Qa.mk (Ty.out.wrote hw_ (by omega));have nVb4:=Qa.mk (Vr.mk (w:=w) ha_ Vb4.out.ge);clear HC Vb2 Vb3 Tx Ty Vb4;have HC:=nHC;have Vb2:=nVb2;have Vb3:=nVb3;have Tx:=nTx;have Ty:=nTy;have Vb4:=nVb4;clear nHC nVb2 nVb3 nTx nTy nVb4;clear hw_ ha_))
      go_wp2_with(first|(go_at_call 106;(with_reducible refine(Fl g s t2 _ p2 w0 _ HC.out.st U2.out).mono ?_);rintro e we ⟨rfl,rfl⟩));exact⟨rfl,Y7.err HC.out.bel HC.out.keep⟩
     rw [if_pos ht2] at hr;have U2:=Qa.mk (show t2.toList=(⟨#[58]⟩ :ByteArray).toList by rw [ht2];simp);clear ht2
     cases hA:pr s k .second (Zb s p2 t2) (Yb s p2 t2) with
     |none=>rw [hA] at hr;simp at hr
     |some rc=>
      rw [hA] at hr;have HA2:=Qa.mk hA;clear hA
      cases rc with
      |error q=>
       obtain⟨q,er⟩ :=q;simp only [Option.some.injEq] at hr;subst hr;have HC:=Qa.mk (Cx.start (s:=s) hI hB);have gl:=HC.out.lt;clear hI hB;go_enter Tryd.func70,Tryd.ntmps70;go_upto_region 2 with (first|((with_reducible refine Q0 (N:=2) rfl ?_);refine Q5 rfl 2 rfl rfl ?_;intro b2 wa1 hb_ ha_ hw_;have zb2:=hw_.size;have yb2:=Nat.le_of_eq hb_.symm;have nHC:=Qa.mk (HC.out.below hw_);have nVb2:=Qa.mk (Vr.mk (w:=w) ha_ (Nat.le_trans HC.out.size yb2));clear HC;have HC:=nHC;have Vb2:=nVb2;clear nHC nVb2;have kb2:=Vb2.out.ge;clear hw_ ha_ hb_)|(go_at_call 105;have gx:=Nat.lt_of_lt_of_le HC.out.lt HC.out.size;have qx:=HC.out.size;have lb2_x:=Vb2.out.lt;(with_reducible refine(H3.out 3 rfl g p t w0 _ _ HA.out HC.out.st HC.out.bel HP.out).mono ?_);rintro e wc2 ⟨Ax,cx,rfl,ht_,hi,hb,hk⟩;have zx:=hk.1;have nHC:=Qa.mk (HC.out.call hi hb hk);have nVb2:=Qa.mk (Vb2.out.call hk gl);have nTx:=Qa.mk (ht_);clear HC Vb2;have HC:=nHC;have Vb2:=nVb2;have Tx:=nTx;clear nHC nVb2 nTx;clear ht_ hi hb hk)|((with_reducible refine Q0 (N:=3) rfl ?_);refine Q5 rfl 3 rfl rfl ?_;intro b3 wa3 hb_ ha_ hw_;have lb2_b3:=Vb2.out.lt;have zb3:=hw_.size;have yb3:=Nat.le_of_eq hb_.symm;have nHC:=Qa.mk (HC.out.below hw_);have nVb2:=Qa.mk (Vb2.out.below hw_);have nTx:=Qa.mk (Tx.out.below hw_);have nVb3:=Qa.mk (Vr.mk (w:=w) ha_ (Nat.le_trans HC.out.size yb3));clear HC Vb2 Tx;have HC:=nHC;have Vb2:=nVb2;have Tx:=nTx;have Vb3:=nVb3;clear nHC nVb2 nTx nVb3;have kb3:=Vb3.out.ge;clear hw_ ha_ hb_)|(refine Xb rfl 3 (.tmp 6) rfl rfl rfl rfl Vb3.out.at_ ?_;intro ws4 ha_ hw_;have zws4:=hw_.kept.1;have nHC:=Qa.mk (HC.out.wrote hw_ Vb3.out.ge);have nVb2:=Qa.mk (Vb2.out.wrote hw_ (by omega));have nTx:=Qa.mk (Tx.out.wrote hw_ (by omega));have nVb3:=Qa.mk (Vr.mk (w:=w) ha_ Vb3.out.ge);clear HC Vb2 Tx Vb3;have HC:=nHC;have Vb2:=nVb2;have Tx:=nTx;have Vb3:=nVb3;clear nHC nVb2 nTx nVb3;clear hw_ ha_))
       obtain⟨HG,hg⟩ :=HC.out.st;have c0:=Xk HG;have c1:=Xl HG;have c2:=Xn HG;clear HG hg;go_upto_region 4 with (fail)
       clear c0 c1 c2;go_upto_region 6 with (first|(go_at_call 42;have gn1:=Nat.lt_of_lt_of_le HC.out.lt HC.out.size;have qn1:=HC.out.size;have lb2_n1:=Vb2.out.lt;have lb3_n1:=Vb3.out.lt;(with_reducible refine(Zl g s t1 p1 w0 _ HC.out.st HC.out.bel HP1.out HS.out).mono ?_);rintro e wn5 ⟨rfl,hi,hb,hk⟩;have zn1:=hk.1;have nHC:=Qa.mk (HC.out.call hi hb hk);have nVb2:=Qa.mk (Vb2.out.call hk gl);have nVb3:=Qa.mk (Vb3.out.call hk gl);have nTx:=Qa.mk (Tx.out.call hk (by omega));clear HC Vb2 Vb3 Tx;have HC:=nHC;have Vb2:=nVb2;have Vb3:=nVb3;have Tx:=nTx;clear nHC nVb2 nVb3 nTx;clear hi hb hk)|(go_at_call 43;have gy:=Nat.lt_of_lt_of_le HC.out.lt HC.out.size;have qy:=HC.out.size;have lb2_y:=Vb2.out.lt;have lb3_y:=Vb3.out.lt;(with_reducible refine(H1.out g _ _ w0 _ _ HA1.out HC.out.st HC.out.bel HQ1.out).mono ?_);rintro e wc6 ⟨Ay,cy,rfl,ht_,hi,hb,hk⟩;have zy:=hk.1;have nHC:=Qa.mk (HC.out.call hi hb hk);have nVb2:=Qa.mk (Vb2.out.call hk gl);have nVb3:=Qa.mk (Vb3.out.call hk gl);have nTx:=Qa.mk (Tx.out.call hk (by omega));have nTy:=Qa.mk (ht_);clear HC Vb2 Vb3 Tx;have HC:=nHC;have Vb2:=nVb2;have Vb3:=nVb3;have Tx:=nTx;have Ty:=nTy;clear nHC nVb2 nVb3 nTx nTy;clear ht_ hi hb hk)|((with_reducible refine Q0 (N:=4) rfl ?_);refine Q5 rfl 4 rfl rfl ?_;intro b4 wa7 hb_ ha_ hw_;have lb2_b4:=Vb2.out.lt;have lb3_b4:=Vb3.out.lt;have zb4:=hw_.size;have yb4:=Nat.le_of_eq hb_.symm;have nHC:=Qa.mk (HC.out.below hw_);have nVb2:=Qa.mk (Vb2.out.below hw_);have nVb3:=Qa.mk (Vb3.out.below hw_);have nTx:=Qa.mk (Tx.out.below hw_);have nTy:=Qa.mk (Ty.out.below hw_);have nVb4:=Qa.mk (Vr.mk (w:=w) ha_ (Nat.le_trans HC.out.size yb4));clear HC Vb2 Vb3 Tx Ty;have HC:=nHC;have Vb2:=nVb2;have Vb3:=nVb3;have Tx:=nTx;have Ty:=nTy;have Vb4:=nVb4;clear nHC nVb2 nVb3 nTx nTy nVb4;have kb4:=Vb4.out.ge;clear hw_ ha_ hb_)|(refine Xb rfl 4 (.tmp 16) rfl rfl rfl rfl Vb4.out.at_ ?_;intro ws8 ha_ hw_;have zws8:=hw_.kept.1;have nHC:=Qa.mk (HC.out.wrote hw_ Vb4.out.ge);have nVb2:=Qa.mk (Vb2.out.wrote hw_ (by omega));have nVb3:=Qa.mk (Vb3.out.wrote hw_ (by omega));have nTx:=Qa.mk (Tx.out.wrote hw_ (by omega));have nTy:=Qa.mk (Ty.out.wrote hw_ (by omega));have nVb4:=Qa.mk (Vr.mk (w:=w) ha_ Vb4.out.ge);clear HC Vb2 Vb3 Tx Ty Vb4;have HC:=nHC;have Vb2:=nVb2;have Vb3:=nVb3;have Tx:=nTx;have Ty:=nTy;have Vb4:=nVb4;clear nHC nVb2 nVb3 nTx nTy nVb4;clear hw_ ha_))
       go_upto_region 7 with (first|(go_at_call 106;have ge2:=Nat.lt_of_lt_of_le HC.out.lt HC.out.size;have qe2:=HC.out.size;have lb2_e2:=Vb2.out.lt;have lb3_e2:=Vb3.out.lt;have lb4_e2:=Vb4.out.lt;(with_reducible refine(Jp g s t2 _ p2 w0 _ HC.out.st HC.out.bel HP2.out HS.out U2.out).mono ?_);rintro e wn9 ⟨rfl,hi,hb,hk⟩;have ze2:=hk.1;have nHC:=Qa.mk (HC.out.call hi hb hk);have nVb2:=Qa.mk (Vb2.out.call hk gl);have nVb3:=Qa.mk (Vb3.out.call hk gl);have nVb4:=Qa.mk (Vb4.out.call hk gl);have nTx:=Qa.mk (Tx.out.call hk (by omega));have nTy:=Qa.mk (Ty.out.call hk (by omega));clear HC Vb2 Vb3 Vb4 Tx Ty;have HC:=nHC;have Vb2:=nVb2;have Vb3:=nVb3;have Vb4:=nVb4;have Tx:=nTx;have Ty:=nTy;clear nHC nVb2 nVb3 nVb4 nTx nTy;clear hi hb hk))
       refine Y6 (n:=7) (S:=fun w'=>Y8 w' b3 x.f0 x.f1 x.f2 (.slice Ax x.f3.length cx)∧Y8 w' b4 y.f0 y.f1 y.f2 (.slice Ay y.f3.length cy)) (ds:=[6]) #[false,false,false,false,false,false,false] (by kernel_rfl) rfl rfl ⟨Vb3.out.drew.at_,Vb4.out.drew.at_⟩ (fun hHeld=>?_)
       have nHC:=Qa.mk (HC.out.drew);have nVb2:=Qa.mk (Vb2.out.drew);have nVb3:=Qa.mk (Vb3.out.drew);have nVb4:=Qa.mk (Vb4.out.drew);have nTx:=Qa.mk (Tx.out.drew);have nTy:=Qa.mk (Ty.out.drew);clear HC Vb2 Vb3 Vb4 Tx Ty;have HC:=nHC;have Vb2:=nVb2;have Vb3:=nVb3;have Vb4:=nVb4;have Tx:=nTx;have Ty:=nTy;clear nHC nVb2 nVb3 nVb4 nTx nTy;have zd:wn9.heap.size≤wn9.drew.heap.size:=Nat.le_refl _;refine Xv (i:=2) (N:=some 21) (v:=?_) (a':=?_) #[false,false,true,false,false,false,false] rfl rfl (by kernel_rfl) (fun _ _ _ h=>h) (Or.inl ⟨by rfl,?_⟩) ?_ ?_
       rotate_left
       ·intro w';go_simp;with_reducible rfl
       rotate_left
       ·simp only [Act.put,List.setIfInBounds_toArray,List.set_cons_zero,List.set_cons_succ,Xc,Xd];rfl
       refine Zt (i:=0) (N:=some 19) (v:=?_) (a':=?_) #[true,false,true,false,false,false,false] rfl rfl (by kernel_rfl) (fun _ _ _ h=>h) (Or.inl ⟨by rfl,?_⟩) hHeld ?_ ?_
       rotate_left
       ·rintro w' ⟨s3,s4⟩;obtain⟨e0,e1,e2,e3⟩ :=s3.cells;go_simp;with_reducible rfl
       rotate_left
       ·simp only [Act.put,List.setIfInBounds_toArray,List.set_cons_zero,List.set_cons_succ,Xc,Xd];rfl
       refine Zt (i:=1) (N:=some 20) (v:=?_) (a':=?_) #[true,true,true,false,false,false,false] rfl rfl (by kernel_rfl) (fun _ _ _ h=>h) (Or.inl ⟨by rfl,?_⟩) hHeld ?_ ?_
       rotate_left
       ·rintro w' ⟨s3,s4⟩;obtain⟨e0,e1,e2,e3⟩ :=s4.cells;go_simp;with_reducible rfl
       rotate_left
       ·simp only [Act.put,List.setIfInBounds_toArray,List.set_cons_zero,List.set_cons_succ,Xc,Xd];rfl
       refine Vn (i:=3) (N:=some 22) #[true,true,true,true,false,false,false] rfl rfl (by kernel_rfl) (by decide) (fun K hK=>?_);refine N1 Tryd.func70 (by kernel_rfl) rfl #[.pointer (some ⟨g,0,none⟩)] (by rfl) rfl (by simp only [List.map_toArray,List.map_cons,List.map_nil];rfl) (Jq q er) ?_;refine(H2.out g _ _ w0 _ _ HA2.out HC.out.st HC.out.bel HQ2.out).mono ?_;rintro e we ⟨rfl,hb,hk⟩;exact⟨rfl,rfl,Y7.err hb (Qe.trans HC.out.keep hk (.inl rfl))⟩
      |ok za=>
       obtain⟨z,p3,t3⟩ :=za;simp only [Option.some.injEq] at hr;subst hr;have HC:=Qa.mk (Cx.start (s:=s) hI hB);have gl:=HC.out.lt;clear hI hB;go_enter Tryd.func70,Tryd.ntmps70;go_upto_region 2 with (first|((with_reducible refine Q0 (N:=2) rfl ?_);refine Q5 rfl 2 rfl rfl ?_;intro b2 wa1 hb_ ha_ hw_;have zb2:=hw_.size;have yb2:=Nat.le_of_eq hb_.symm;have nHC:=Qa.mk (HC.out.below hw_);have nVb2:=Qa.mk (Vr.mk (w:=w) ha_ (Nat.le_trans HC.out.size yb2));clear HC;have HC:=nHC;have Vb2:=nVb2;clear nHC nVb2;have kb2:=Vb2.out.ge;clear hw_ ha_ hb_)|(go_at_call 105;have gx:=Nat.lt_of_lt_of_le HC.out.lt HC.out.size;have qx:=HC.out.size;have lb2_x:=Vb2.out.lt;(with_reducible refine(H3.out 3 rfl g p t w0 _ _ HA.out HC.out.st HC.out.bel HP.out).mono ?_);rintro e wc2 ⟨Ax,cx,rfl,ht_,hi,hb,hk⟩;have zx:=hk.1;have nHC:=Qa.mk (HC.out.call hi hb hk);have nVb2:=Qa.mk (Vb2.out.call hk gl);have nTx:=Qa.mk (ht_);clear HC Vb2;have HC:=nHC;have Vb2:=nVb2;have Tx:=nTx;clear nHC nVb2 nTx;clear ht_ hi hb hk)|((with_reducible refine Q0 (N:=3) rfl ?_);refine Q5 rfl 3 rfl rfl ?_;intro b3 wa3 hb_ ha_ hw_;have lb2_b3:=Vb2.out.lt;have zb3:=hw_.size;have yb3:=Nat.le_of_eq hb_.symm;have nHC:=Qa.mk (HC.out.below hw_);have nVb2:=Qa.mk (Vb2.out.below hw_);have nTx:=Qa.mk (Tx.out.below hw_);have nVb3:=Qa.mk (Vr.mk (w:=w) ha_ (Nat.le_trans HC.out.size yb3));clear HC Vb2 Tx;have HC:=nHC;have Vb2:=nVb2;have Tx:=nTx;have Vb3:=nVb3;clear nHC nVb2 nTx nVb3;have kb3:=Vb3.out.ge;clear hw_ ha_ hb_)|(refine Xb rfl 3 (.tmp 6) rfl rfl rfl rfl Vb3.out.at_ ?_;intro ws4 ha_ hw_;have zws4:=hw_.kept.1;have nHC:=Qa.mk (HC.out.wrote hw_ Vb3.out.ge);have nVb2:=Qa.mk (Vb2.out.wrote hw_ (by omega));have nTx:=Qa.mk (Tx.out.wrote hw_ (by omega));have nVb3:=Qa.mk (Vr.mk (w:=w) ha_ Vb3.out.ge);clear HC Vb2 Tx Vb3;have HC:=nHC;have Vb2:=nVb2;have Tx:=nTx;have Vb3:=nVb3;clear nHC nVb2 nTx nVb3;clear hw_ ha_))
       obtain⟨HG,hg⟩ :=HC.out.st;have c0:=Xk HG;have c1:=Xl HG;have c2:=Xn HG;clear HG hg;go_upto_region 4 with (fail)
       clear c0 c1 c2;go_upto_region 6 with (first|(go_at_call 42;have gn1:=Nat.lt_of_lt_of_le HC.out.lt HC.out.size;have qn1:=HC.out.size;have lb2_n1:=Vb2.out.lt;have lb3_n1:=Vb3.out.lt;(with_reducible refine(Zl g s t1 p1 w0 _ HC.out.st HC.out.bel HP1.out HS.out).mono ?_);rintro e wn5 ⟨rfl,hi,hb,hk⟩;have zn1:=hk.1;have nHC:=Qa.mk (HC.out.call hi hb hk);have nVb2:=Qa.mk (Vb2.out.call hk gl);have nVb3:=Qa.mk (Vb3.out.call hk gl);have nTx:=Qa.mk (Tx.out.call hk (by omega));clear HC Vb2 Vb3 Tx;have HC:=nHC;have Vb2:=nVb2;have Vb3:=nVb3;have Tx:=nTx;clear nHC nVb2 nVb3 nTx;clear hi hb hk)|(go_at_call 43;have gy:=Nat.lt_of_lt_of_le HC.out.lt HC.out.size;have qy:=HC.out.size;have lb2_y:=Vb2.out.lt;have lb3_y:=Vb3.out.lt;(with_reducible refine(H1.out g _ _ w0 _ _ HA1.out HC.out.st HC.out.bel HQ1.out).mono ?_);rintro e wc6 ⟨Ay,cy,rfl,ht_,hi,hb,hk⟩;have zy:=hk.1;have nHC:=Qa.mk (HC.out.call hi hb hk);have nVb2:=Qa.mk (Vb2.out.call hk gl);have nVb3:=Qa.mk (Vb3.out.call hk gl);have nTx:=Qa.mk (Tx.out.call hk (by omega));have nTy:=Qa.mk (ht_);clear HC Vb2 Vb3 Tx;have HC:=nHC;have Vb2:=nVb2;have Vb3:=nVb3;have Tx:=nTx;have Ty:=nTy;clear nHC nVb2 nVb3 nTx nTy;clear ht_ hi hb hk)|((with_reducible refine Q0 (N:=4) rfl ?_);refine Q5 rfl 4 rfl rfl ?_;intro b4 wa7 hb_ ha_ hw_;have lb2_b4:=Vb2.out.lt;have lb3_b4:=Vb3.out.lt;have zb4:=hw_.size;have yb4:=Nat.le_of_eq hb_.symm;have nHC:=Qa.mk (HC.out.below hw_);have nVb2:=Qa.mk (Vb2.out.below hw_);have nVb3:=Qa.mk (Vb3.out.below hw_);have nTx:=Qa.mk (Tx.out.below hw_);have nTy:=Qa.mk (Ty.out.below hw_);have nVb4:=Qa.mk (Vr.mk (w:=w) ha_ (Nat.le_trans HC.out.size yb4));clear HC Vb2 Vb3 Tx Ty;have HC:=nHC;have Vb2:=nVb2;have Vb3:=nVb3;have Tx:=nTx;have Ty:=nTy;have Vb4:=nVb4;clear nHC nVb2 nVb3 nTx nTy nVb4;have kb4:=Vb4.out.ge;clear hw_ ha_ hb_)|(refine Xb rfl 4 (.tmp 16) rfl rfl rfl rfl Vb4.out.at_ ?_;intro ws8 ha_ hw_;have zws8:=hw_.kept.1;have nHC:=Qa.mk (HC.out.wrote hw_ Vb4.out.ge);have nVb2:=Qa.mk (Vb2.out.wrote hw_ (by omega));have nVb3:=Qa.mk (Vb3.out.wrote hw_ (by omega));have nTx:=Qa.mk (Tx.out.wrote hw_ (by omega));have nTy:=Qa.mk (Ty.out.wrote hw_ (by omega));have nVb4:=Qa.mk (Vr.mk (w:=w) ha_ Vb4.out.ge);clear HC Vb2 Vb3 Tx Ty Vb4;have HC:=nHC;have Vb2:=nVb2;have Vb3:=nVb3;have Tx:=nTx;have Ty:=nTy;have Vb4:=nVb4;clear nHC nVb2 nVb3 nTx nTy nVb4;clear hw_ ha_))
       go_upto_region 7 with (first|(go_at_call 106;have ge2:=Nat.lt_of_lt_of_le HC.out.lt HC.out.size;have qe2:=HC.out.size;have lb2_e2:=Vb2.out.lt;have lb3_e2:=Vb3.out.lt;have lb4_e2:=Vb4.out.lt;(with_reducible refine(Jp g s t2 _ p2 w0 _ HC.out.st HC.out.bel HP2.out HS.out U2.out).mono ?_);rintro e wn9 ⟨rfl,hi,hb,hk⟩;have ze2:=hk.1;have nHC:=Qa.mk (HC.out.call hi hb hk);have nVb2:=Qa.mk (Vb2.out.call hk gl);have nVb3:=Qa.mk (Vb3.out.call hk gl);have nVb4:=Qa.mk (Vb4.out.call hk gl);have nTx:=Qa.mk (Tx.out.call hk (by omega));have nTy:=Qa.mk (Ty.out.call hk (by omega));clear HC Vb2 Vb3 Vb4 Tx Ty;have HC:=nHC;have Vb2:=nVb2;have Vb3:=nVb3;have Vb4:=nVb4;have Tx:=nTx;have Ty:=nTy;clear nHC nVb2 nVb3 nVb4 nTx nTy;clear hi hb hk))
       refine Y6 (n:=7) (S:=fun w'=>Y8 w' b3 x.f0 x.f1 x.f2 (.slice Ax x.f3.length cx)∧Y8 w' b4 y.f0 y.f1 y.f2 (.slice Ay y.f3.length cy)) (ds:=[6]) #[false,false,false,false,false,false,false] (by kernel_rfl) rfl rfl ⟨Vb3.out.drew.at_,Vb4.out.drew.at_⟩ (fun hHeld=>?_)
       have nHC:=Qa.mk (HC.out.drew);have nVb2:=Qa.mk (Vb2.out.drew);have nVb3:=Qa.mk (Vb3.out.drew);have nVb4:=Qa.mk (Vb4.out.drew);have nTx:=Qa.mk (Tx.out.drew);have nTy:=Qa.mk (Ty.out.drew);clear HC Vb2 Vb3 Vb4 Tx Ty;have HC:=nHC;have Vb2:=nVb2;have Vb3:=nVb3;have Vb4:=nVb4;have Tx:=nTx;have Ty:=nTy;clear nHC nVb2 nVb3 nVb4 nTx nTy;have zd:wn9.heap.size≤wn9.drew.heap.size:=Nat.le_refl _;refine Xv (i:=2) (N:=some 21) (v:=?_) (a':=?_) #[false,false,true,false,false,false,false] rfl rfl (by kernel_rfl) (fun _ _ _ h=>h) (Or.inl ⟨by rfl,?_⟩) ?_ ?_
       rotate_left
       ·intro w';go_simp;with_reducible rfl
       rotate_left
       ·simp only [Act.put,List.setIfInBounds_toArray,List.set_cons_zero,List.set_cons_succ,Xc,Xd];rfl
       refine Zt (i:=0) (N:=some 19) (v:=?_) (a':=?_) #[true,false,true,false,false,false,false] rfl rfl (by kernel_rfl) (fun _ _ _ h=>h) (Or.inl ⟨by rfl,?_⟩) hHeld ?_ ?_
       rotate_left
       ·rintro w' ⟨s3,s4⟩;obtain⟨e0,e1,e2,e3⟩ :=s3.cells;go_simp;with_reducible rfl
       rotate_left
       ·simp only [Act.put,List.setIfInBounds_toArray,List.set_cons_zero,List.set_cons_succ,Xc,Xd];rfl
       refine Zt (i:=1) (N:=some 20) (v:=?_) (a':=?_) #[true,true,true,false,false,false,false] rfl rfl (by kernel_rfl) (fun _ _ _ h=>h) (Or.inl ⟨by rfl,?_⟩) hHeld ?_ ?_
       rotate_left
       ·rintro w' ⟨s3,s4⟩;obtain⟨e0,e1,e2,e3⟩ :=s4.cells;go_simp;with_reducible rfl
       rotate_left
       ·simp only [Act.put,List.setIfInBounds_toArray,List.set_cons_zero,List.set_cons_succ,Xc,Xd];rfl
       refine Vn (i:=3) (N:=some 22) #[true,true,true,true,false,false,false] rfl rfl (by kernel_rfl) (by decide) (fun K hK=>?_);refine Vz Tryd.func70 (by kernel_rfl) rfl #[.pointer (some ⟨g,0,none⟩)] (by rfl) rfl rfl (by simp only [List.map_toArray,List.map_cons,List.map_nil];rfl) ?_;have gz:=Nat.lt_of_lt_of_le HC.out.lt HC.out.size;have qz:=HC.out.size;have lb2_z:=Vb2.out.lt;have lb3_z:=Vb3.out.lt;have lb4_z:=Vb4.out.lt;with_reducible refine(H2.out g _ _ w0 _ _ HA2.out HC.out.st HC.out.bel HQ2.out).mono ?_
       rintro e wz ⟨Az,cz,rfl,ht_,hi,hb,hk⟩;refine⟨_,rfl,?_⟩;have zz:=hk.1;have nHC:=Qa.mk (HC.out.call hi hb hk);have nVb2:=Qa.mk (Vb2.out.call hk gl);have nVb3:=Qa.mk (Vb3.out.call hk gl);have nVb4:=Qa.mk (Vb4.out.call hk gl);have nTx:=Qa.mk (Tx.out.call hk (by omega));have nTy:=Qa.mk (Ty.out.call hk (by omega));have nTz:=Qa.mk (ht_);clear HC Vb2 Vb3 Vb4 Tx Ty;have HC:=nHC;have Vb2:=nVb2;have Vb3:=nVb3;have Vb4:=nVb4;have Tx:=nTx;have Ty:=nTy;have Tz:=nTz;clear nHC nVb2 nVb3 nVb4 nTx nTy nTz;clear ht_ hi hb hk;refine hK.out _ _ ⟨Vb3.out.at_,Vb4.out.at_⟩ (fun hHeld=>?_);clear hK K;refine Va (a':=?_) ?_ ?_
       rotate_left
       ·show Act.put _ (some 22) _=_
        simp only [Act.put,List.setIfInBounds_toArray,List.set_cons_zero,List.set_cons_succ,Xc,Xd];rfl
       refine Vn (i:=4) (N:=some 23) #[true,true,true,true,true,false,false] rfl rfl (by kernel_rfl) (by decide) (fun K hK=>?_);refine Jn (by rfl) 23 rfl [(x,Ax,cx),(y,Ay,cy),(z,Az,cz)] (lo:=wa1.heap.size) (hi:=wz.heap.size) (by go_simp;rfl) ?hl (by omega) (Nat.le_refl _) (by simp) ?_
       case hl=>exact Su (Tx.out.wide (by omega) (by omega)) (Ty.out.wide (by omega) (by omega)) (Tz.out.wide (by omega) (by omega))
       intro An cn wl ht_ hw_ hz_;have zl:=hw_.size;have nHC:=Qa.mk (HC.out.below hw_);have nVb2:=Qa.mk (Vb2.out.below hw_);have nVb3:=Qa.mk (Vb3.out.below hw_);have nVb4:=Qa.mk (Vb4.out.below hw_);have nTx:=Qa.mk (Tx.out.below hw_);have nTy:=Qa.mk (Ty.out.below hw_);have nTz:=Qa.mk (Tz.out.below hw_);have nTn:=Qa.mk (ht_);clear HC Vb2 Vb3 Vb4 Tx Ty Tz;have HC:=nHC;have Vb2:=nVb2;have Vb3:=nVb3;have Vb4:=nVb4;have Tx:=nTx;have Ty:=nTy;have Tz:=nTz;have Tn:=nTn;clear nHC nVb2 nVb3 nVb4 nTx nTy nTz nTn;clear ht_ hw_;refine hK.out _ _ ⟨Vb3.out.at_,Vb4.out.at_⟩ (fun hHeld=>?_);clear hK K;refine Va (a':=?_) ?_ ?_
       rotate_left
       ·show Act.put _ (some 23) _=_
        simp only [Act.put,List.setIfInBounds_toArray,List.set_cons_zero,List.set_cons_succ,Xc,Xd];rfl
       refine Xv (i:=5) (N:=some 24) (v:=?_) (a':=?_) #[true,true,true,true,true,true,false] rfl rfl (by kernel_rfl) (fun _ _ _ h=>h) (Or.inl ⟨by rfl,?_⟩) ?_ ?_
       rotate_left
       ·intro w';go_simp;with_reducible rfl
       rotate_left
       ·simp only [Act.put,List.setIfInBounds_toArray,List.set_cons_zero,List.set_cons_succ,Xc,Xd];rfl
       refine Gt (i:=6) (N:=none) #[true,true,true,true,true,true,true] rfl rfl (by kernel_rfl) (by decide) (fun K hK=>?_);refine Vg (by rfl) 2 (.tmp 24) rfl rfl rfl rfl Vb2.out.at_ ?_;intro wf ha_ hw_;have zf:=hw_.kept.1;have nHC:=Qa.mk (HC.out.wrote hw_ Vb2.out.ge);have nTn:=Qa.mk (Tn.out.wrote hw_ (by omega));have nVb2:=Qa.mk (Vr.mk (w:=w) ha_ Vb2.out.ge);clear HC Tn Vb2;have HC:=nHC;have Tn:=nTn;have Vb2:=nVb2;clear nHC nTn nVb2;clear hw_ ha_;refine hK.out _ _ ?_;refine Wi (by kernel_rfl) ?_;go_wp2_with(fail);refine bodyPost_ret (results_cell_row rfl _ _ b2 26 #[.int .i64 (25),.int .i64 (0),.string (⟨#[]⟩),.slice An 3 cn] (0,0) _ rfl Vb2.out.at_ Tryd.underlying26 rfl (by kernel_rfl)) rfl ?_;exact Y7.done (x:=⟨25,0,Yq,[x,y,z]⟩) Tn.out HC.out (by omega) (by omega)
theorem bare_eq (s:ByteArray) (hs:s.size≤4096) (x:Int) (t:ByteArray):∀p:Nat,p≤s.size→Xz.l0 (p+1) p s x t=some (Wf s p,s,x,t)
 |0,_=>by simp [Xz.l0,Wf]
 |n+1,h=>by
  have ih:=bare_eq s hs x t n (by omega);have e:wrap64 (((n+1 :Nat):Int) - 1)=(n:Int):=by unfold wrap64;omega
  rw [Xz.l0,if_pos (by omega),e,if_pos (by omega),if_pos (by omega)];simp only [Wf,Wo];by_cases h1:bt s n=32
  ·rw [if_pos h1,ih];simp [h1]
  rw [if_neg h1];by_cases h2:bt s n=9
  ·rw [if_pos h2,ih];simp [h2]
  rw [if_neg h2];by_cases h3:bt s n=10
  ·rw [if_pos h3,ih];simp [h3]
  rw [if_neg h3];have b1:(bt s n==32)=false:=beq_eq_false_iff_ne.mpr h1;have b2:(bt s n==9)=false:=beq_eq_false_iff_ne.mpr h2;have b3:(bt s n==10)=false:=beq_eq_false_iff_ne.mpr h3;simp [b1,b2,b3];rfl
theorem Tb (s:ByteArray) (hs:s.size≤4096) (p:Nat) (hp:p≤s.size) (t:ByteArray) (x:S26):Xz.f (p+1) s p t x.f0 x.f1 x.f2 x.f3=some (Wf s p,s,(p:Int),t):=bare_eq s hs p t p hp
set_option maxRecDepth 100000 in
set_option maxHeartbeats 2000000 in
theorem N0 (s:ByteArray) (hs:s.size≤4096) (k:Nat) (h1:C43 s k) (h2:C70 s k):C43 s (k+1):=by
 intro g p t w0 w r hr hI hB hp;have H1:=Qa.mk h1;have H2:=Qa.mk h2;have HS:=Qa.mk hs;have HP:=Qa.mk hp;clear h1 h2 hs hp;simp only [pr] at hr;have hu26:=Tryd.underlying26;have hu65:=Tryd.underlying65
 cases hA:pr s k .second p t with
 |none=>rw [hA] at hr;simp [Zu] at hr
 |some ra=>
  rw [hA] at hr;have HA:=Qa.mk hA;clear hA
  cases ra with
  |error q=>
   obtain⟨q,er⟩ :=q;simp only [Zu,Option.some.injEq] at hr;subst hr;have HC:=Qa.mk (Cx.start (s:=s) hI hB);have gl:=HC.out.lt;clear hI hB;go_enter Tryd.func43,Tryd.ntmps43;go_wp2_with(first|((with_reducible refine Q0 (N:=2) rfl ?_);refine Q5 rfl 2 rfl rfl ?_;intro b2 wa1 hb_ ha_ hw_;have zb2:=hw_.size;have yb2:=Nat.le_of_eq hb_.symm;have nHC:=Qa.mk (HC.out.below hw_);have nVb2:=Qa.mk (Vr.mk (w:=w) ha_ (Nat.le_trans HC.out.size yb2));clear HC;have HC:=nHC;have Vb2:=nVb2;clear nHC nVb2;have kb2:=Vb2.out.ge;clear hw_ ha_ hb_)|(go_at_call 70;(with_reducible refine(H2.out g p t w0 _ _ HA.out HC.out.st HC.out.bel HP.out).mono ?_);rintro e we ⟨rfl,hb,hk⟩));exact⟨rfl,Y7.err hb (Qe.trans HC.out.keep hk (.inl rfl))⟩
  |ok xa=>
   obtain⟨x,p1,t1⟩ :=xa;have HP1:=Qa.mk (W8 s _ _ _ _ _ _ _ HP.out HA.out);have HQ1:=Qa.mk (Yc s _ _ HP1.out);have HBR:=Qa.mk (Tb s HS.out p1 (by have:=HP1.out;omega) t1 x);simp only [Zu] at hr
   cases hG:Xe.f 1 t1 with
   |none=>rw [hG] at hr;simp at hr
   |some oi=>
    obtain⟨op,is⟩ :=oi;rw [hG] at hr;have HG1:=Qa.mk hG;clear hG;simp only at hr
    cases is with
    |false=>
     rw [if_neg (by simp)] at hr;simp only [Option.some.injEq] at hr;subst hr;have HC:=Qa.mk (Cx.start (s:=s) hI hB);have gl:=HC.out.lt;clear hI hB;go_enter Tryd.func43,Tryd.ntmps43;go_upto_region 2 with (first|((with_reducible refine Q0 (N:=2) rfl ?_);refine Q5 rfl 2 rfl rfl ?_;intro b2 wa1 hb_ ha_ hw_;have zb2:=hw_.size;have yb2:=Nat.le_of_eq hb_.symm;have nHC:=Qa.mk (HC.out.below hw_);have nVb2:=Qa.mk (Vr.mk (w:=w) ha_ (Nat.le_trans HC.out.size yb2));clear HC;have HC:=nHC;have Vb2:=nVb2;clear nHC nVb2;have kb2:=Vb2.out.ge;clear hw_ ha_ hb_)|(go_at_call 70;have gx:=Nat.lt_of_lt_of_le HC.out.lt HC.out.size;have qx:=HC.out.size;have lb2_x:=Vb2.out.lt;(with_reducible refine(H2.out g p t w0 _ _ HA.out HC.out.st HC.out.bel HP.out).mono ?_);rintro e wc2 ⟨Ax,cx,rfl,ht_,hi,hb,hk⟩;have zx:=hk.1;have nHC:=Qa.mk (HC.out.call hi hb hk);have nVb2:=Qa.mk (Vb2.out.call hk gl);have nTx:=Qa.mk (ht_);clear HC Vb2;have HC:=nHC;have Vb2:=nVb2;have Tx:=nTx;clear nHC nVb2 nTx;clear ht_ hi hb hk)|((with_reducible refine Q0 (N:=3) rfl ?_);refine Q5 rfl 3 rfl rfl ?_;intro b3 wa3 hb_ ha_ hw_;have lb2_b3:=Vb2.out.lt;have zb3:=hw_.size;have yb3:=Nat.le_of_eq hb_.symm;have nHC:=Qa.mk (HC.out.below hw_);have nVb2:=Qa.mk (Vb2.out.below hw_);have nTx:=Qa.mk (Tx.out.below hw_);have nVb3:=Qa.mk (Vr.mk (w:=w) ha_ (Nat.le_trans HC.out.size yb3));clear HC Vb2 Tx;have HC:=nHC;have Vb2:=nVb2;have Tx:=nTx;have Vb3:=nVb3;clear nHC nVb2 nTx nVb3;have kb3:=Vb3.out.ge;clear hw_ ha_ hb_)|(refine Xb rfl 3 (.tmp 7) rfl rfl rfl rfl Vb3.out.at_ ?_;intro ws4 ha_ hw_;have zws4:=hw_.kept.1;have nHC:=Qa.mk (HC.out.wrote hw_ Vb3.out.ge);have nVb2:=Qa.mk (Vb2.out.wrote hw_ (by omega));have nTx:=Qa.mk (Tx.out.wrote hw_ (by omega));have nVb3:=Qa.mk (Vr.mk (w:=w) ha_ Vb3.out.ge);clear HC Vb2 Tx Vb3;have HC:=nHC;have Vb2:=nVb2;have Tx:=nTx;have Vb3:=nVb3;clear nHC nVb2 nTx nVb3;clear hw_ ha_))
     obtain⟨HG,hg⟩ :=HC.out.st;have c0:=Xk HG;have c1:=Xl HG;have c2:=Xn HG;clear HG hg;go_upto_region 3 with (first|(go_at_call 71;(with_reducible refine(Xe.calls 1 t1 op false _ HG1.out).mono ?_);rintro e wp5 ⟨rfl,hd_⟩;have hw_:=hd_.below;have zwp5:=hw_.size;have nHC:=Qa.mk (HC.out.below hw_);have nVb2:=Qa.mk (Vb2.out.below hw_);have nVb3:=Qa.mk (Vb3.out.below hw_);have nTx:=Qa.mk (Tx.out.below hw_);clear HC Vb2 Vb3 Tx;have HC:=nHC;have Vb2:=nVb2;have Vb3:=nVb3;have Tx:=nTx;clear nHC nVb2 nVb3 nTx;clear hd_ hw_))
     clear c0 c1 c2;obtain⟨x0,x1,x2,x3⟩ :=Vb3.out.at_.cells;go_upto_region 4 with (fail)
     go_wp2_with(first|(refine Xb rfl 2 (.tmp 29) rfl rfl rfl rfl Vb2.out.at_ ?_;intro ws6 ha_ hw_;have zws6:=hw_.kept.1;have nHC:=Qa.mk (HC.out.wrote hw_ Vb2.out.ge);have nVb3:=Qa.mk (Vb3.out.wrote hw_ (by omega));have nTx:=Qa.mk (Tx.out.wrote hw_ (by omega));have nVb2:=Qa.mk (Vr.mk (w:=w) ha_ Vb2.out.ge);clear HC Vb3 Tx Vb2;have HC:=nHC;have Vb3:=nVb3;have Tx:=nTx;have Vb2:=nVb2;clear nHC nVb3 nTx nVb2;clear hw_ ha_));refine bodyPost_ret (results_cell_row rfl _ _ b2 26 #[.int .i64 (x.f0),.int .i64 (x.f1),.string (x.f2),.slice Ax x.f3.length cx] (0,0) _ rfl Vb2.out.at_ Tryd.underlying26 rfl (by kernel_rfl)) rfl ?_;exact Y7.done Tx.out HC.out (by omega) (by omega)
    |true=>
     by_cases hx2:x.f0=2
     rotate_left
     ·have q1:(x.f0==2)=false:=beq_eq_false_iff_ne.mpr hx2;have q2:(x.f0 !=2)=true:=bne_iff_ne.mpr hx2;rw [if_neg (fun h=>hx2 h.2.1)] at hr;clear hx2;simp only [Option.some.injEq] at hr;subst hr;have HC:=Qa.mk (Cx.start (s:=s) hI hB);have gl:=HC.out.lt;clear hI hB;go_enter Tryd.func43,Tryd.ntmps43;go_upto_region 2 with (first|((with_reducible refine Q0 (N:=2) rfl ?_);refine Q5 rfl 2 rfl rfl ?_;intro b2 wa1 hb_ ha_ hw_;have zb2:=hw_.size;have yb2:=Nat.le_of_eq hb_.symm;have nHC:=Qa.mk (HC.out.below hw_);have nVb2:=Qa.mk (Vr.mk (w:=w) ha_ (Nat.le_trans HC.out.size yb2));clear HC;have HC:=nHC;have Vb2:=nVb2;clear nHC nVb2;have kb2:=Vb2.out.ge;clear hw_ ha_ hb_)|(go_at_call 70;have gx:=Nat.lt_of_lt_of_le HC.out.lt HC.out.size;have qx:=HC.out.size;have lb2_x:=Vb2.out.lt;(with_reducible refine(H2.out g p t w0 _ _ HA.out HC.out.st HC.out.bel HP.out).mono ?_);rintro e wc2 ⟨Ax,cx,rfl,ht_,hi,hb,hk⟩;have zx:=hk.1;have nHC:=Qa.mk (HC.out.call hi hb hk);have nVb2:=Qa.mk (Vb2.out.call hk gl);have nTx:=Qa.mk (ht_);clear HC Vb2;have HC:=nHC;have Vb2:=nVb2;have Tx:=nTx;clear nHC nVb2 nTx;clear ht_ hi hb hk)|((with_reducible refine Q0 (N:=3) rfl ?_);refine Q5 rfl 3 rfl rfl ?_;intro b3 wa3 hb_ ha_ hw_;have lb2_b3:=Vb2.out.lt;have zb3:=hw_.size;have yb3:=Nat.le_of_eq hb_.symm;have nHC:=Qa.mk (HC.out.below hw_);have nVb2:=Qa.mk (Vb2.out.below hw_);have nTx:=Qa.mk (Tx.out.below hw_);have nVb3:=Qa.mk (Vr.mk (w:=w) ha_ (Nat.le_trans HC.out.size yb3));clear HC Vb2 Tx;have HC:=nHC;have Vb2:=nVb2;have Tx:=nTx;have Vb3:=nVb3;clear nHC nVb2 nTx nVb3;have kb3:=Vb3.out.ge;clear hw_ ha_ hb_)|(refine Xb rfl 3 (.tmp 7) rfl rfl rfl rfl Vb3.out.at_ ?_;intro ws4 ha_ hw_;have zws4:=hw_.kept.1;have nHC:=Qa.mk (HC.out.wrote hw_ Vb3.out.ge);have nVb2:=Qa.mk (Vb2.out.wrote hw_ (by omega));have nTx:=Qa.mk (Tx.out.wrote hw_ (by omega));have nVb3:=Qa.mk (Vr.mk (w:=w) ha_ Vb3.out.ge);clear HC Vb2 Tx Vb3;have HC:=nHC;have Vb2:=nVb2;have Tx:=nTx;have Vb3:=nVb3;clear nHC nVb2 nTx nVb3;clear hw_ ha_))
      obtain⟨HG,hg⟩ :=HC.out.st;have c0:=Xk HG;have c1:=Xl HG;have c2:=Xn HG;clear HG hg;go_upto_region 3 with (first|(go_at_call 71;(with_reducible refine(Xe.calls 1 t1 op true _ HG1.out).mono ?_);rintro e wp5 ⟨rfl,hd_⟩;have hw_:=hd_.below;have zwp5:=hw_.size;have nHC:=Qa.mk (HC.out.below hw_);have nVb2:=Qa.mk (Vb2.out.below hw_);have nVb3:=Qa.mk (Vb3.out.below hw_);have nTx:=Qa.mk (Tx.out.below hw_);clear HC Vb2 Vb3 Tx;have HC:=nHC;have Vb2:=nVb2;have Vb3:=nVb3;have Tx:=nTx;clear nHC nVb2 nVb3 nTx;clear hd_ hw_))
      clear c0 c1 c2;obtain⟨x0,x1,x2,x3⟩ :=Vb3.out.at_.cells;go_upto_region 4 with (fail)
      go_wp2_with(first|(refine Xb rfl 2 (.tmp 29) rfl rfl rfl rfl Vb2.out.at_ ?_;intro ws6 ha_ hw_;have zws6:=hw_.kept.1;have nHC:=Qa.mk (HC.out.wrote hw_ Vb2.out.ge);have nVb3:=Qa.mk (Vb3.out.wrote hw_ (by omega));have nTx:=Qa.mk (Tx.out.wrote hw_ (by omega));have nVb2:=Qa.mk (Vr.mk (w:=w) ha_ Vb2.out.ge);clear HC Vb3 Tx Vb2;have HC:=nHC;have Vb3:=nVb3;have Tx:=nTx;have Vb2:=nVb2;clear nHC nVb3 nTx nVb2;clear hw_ ha_));refine bodyPost_ret (results_cell_row rfl _ _ b2 26 #[.int .i64 (x.f0),.int .i64 (x.f1),.string (x.f2),.slice Ax x.f3.length cx] (0,0) _ rfl Vb2.out.at_ Tryd.underlying26 rfl (by kernel_rfl)) rfl ?_;exact Y7.done Tx.out HC.out (by omega) (by omega)
     have q1:(x.f0==2)=true:=beq_iff_eq.mpr hx2;have q2:(x.f0 !=2)=false:=bne_eq_false_iff_eq.mpr hx2;have HX2:=Qa.mk hx2;clear hx2
     cases hb:Wf s p1 with
     |false=>
      rw [hb] at HBR hr;clear hb;rw [if_neg (by simp)] at hr;simp only [Option.some.injEq] at hr;subst hr;have HC:=Qa.mk (Cx.start (s:=s) hI hB);have gl:=HC.out.lt;clear hI hB;go_enter Tryd.func43,Tryd.ntmps43;go_upto_region 2 with (first|((with_reducible refine Q0 (N:=2) rfl ?_);refine Q5 rfl 2 rfl rfl ?_;intro b2 wa1 hb_ ha_ hw_;have zb2:=hw_.size;have yb2:=Nat.le_of_eq hb_.symm;have nHC:=Qa.mk (HC.out.below hw_);have nVb2:=Qa.mk (Vr.mk (w:=w) ha_ (Nat.le_trans HC.out.size yb2));clear HC;have HC:=nHC;have Vb2:=nVb2;clear nHC nVb2;have kb2:=Vb2.out.ge;clear hw_ ha_ hb_)|(go_at_call 70;have gx:=Nat.lt_of_lt_of_le HC.out.lt HC.out.size;have qx:=HC.out.size;have lb2_x:=Vb2.out.lt;(with_reducible refine(H2.out g p t w0 _ _ HA.out HC.out.st HC.out.bel HP.out).mono ?_);rintro e wc2 ⟨Ax,cx,rfl,ht_,hi,hb,hk⟩;have zx:=hk.1;have nHC:=Qa.mk (HC.out.call hi hb hk);have nVb2:=Qa.mk (Vb2.out.call hk gl);have nTx:=Qa.mk (ht_);clear HC Vb2;have HC:=nHC;have Vb2:=nVb2;have Tx:=nTx;clear nHC nVb2 nTx;clear ht_ hi hb hk)|((with_reducible refine Q0 (N:=3) rfl ?_);refine Q5 rfl 3 rfl rfl ?_;intro b3 wa3 hb_ ha_ hw_;have lb2_b3:=Vb2.out.lt;have zb3:=hw_.size;have yb3:=Nat.le_of_eq hb_.symm;have nHC:=Qa.mk (HC.out.below hw_);have nVb2:=Qa.mk (Vb2.out.below hw_);have nTx:=Qa.mk (Tx.out.below hw_);have nVb3:=Qa.mk (Vr.mk (w:=w) ha_ (Nat.le_trans HC.out.size yb3));clear HC Vb2 Tx;have HC:=nHC;have Vb2:=nVb2;have Tx:=nTx;have Vb3:=nVb3;clear nHC nVb2 nTx nVb3;have kb3:=Vb3.out.ge;clear hw_ ha_ hb_)|(refine Xb rfl 3 (.tmp 7) rfl rfl rfl rfl Vb3.out.at_ ?_;intro ws4 ha_ hw_;have zws4:=hw_.kept.1;have nHC:=Qa.mk (HC.out.wrote hw_ Vb3.out.ge);have nVb2:=Qa.mk (Vb2.out.wrote hw_ (by omega));have nTx:=Qa.mk (Tx.out.wrote hw_ (by omega));have nVb3:=Qa.mk (Vr.mk (w:=w) ha_ Vb3.out.ge);clear HC Vb2 Tx Vb3;have HC:=nHC;have Vb2:=nVb2;have Tx:=nTx;have Vb3:=nVb3;clear nHC nVb2 nTx nVb3;clear hw_ ha_))
      obtain⟨HG,hg⟩ :=HC.out.st;have c0:=Xk HG;have c1:=Xl HG;have c2:=Xn HG;clear HG hg;go_upto_region 3 with (first|(go_at_call 71;(with_reducible refine(Xe.calls 1 t1 op true _ HG1.out).mono ?_);rintro e wp5 ⟨rfl,hd_⟩;have hw_:=hd_.below;have zwp5:=hw_.size;have nHC:=Qa.mk (HC.out.below hw_);have nVb2:=Qa.mk (Vb2.out.below hw_);have nVb3:=Qa.mk (Vb3.out.below hw_);have nTx:=Qa.mk (Tx.out.below hw_);clear HC Vb2 Vb3 Tx;have HC:=nHC;have Vb2:=nVb2;have Vb3:=nVb3;have Tx:=nTx;clear nHC nVb2 nVb3 nTx;clear hd_ hw_))
      clear c0 c1 c2;obtain⟨x0,x1,x2,x3⟩ :=Vb3.out.at_.cells;go_upto_region 4 with (first|(go_at_call 72;have gbr:=Nat.lt_of_lt_of_le HC.out.lt HC.out.size;have qbr:=HC.out.size;have lb2_br:=Vb2.out.lt;have lb3_br:=Vb3.out.lt;(with_reducible refine(Xz.calls (p1+1) g s p1 t1 x.f0 x.f1 x.f2 Ax cx x.f3 false s p1 t1 w0 _ HC.out.st HC.out.bel (Tx.out.reads_keep (by omega)) Tx.out.reads.1 HBR.out).mono ?_);rintro e wn6 ⟨rfl,hi,hb,hk⟩;have zbr:=hk.1;have nHC:=Qa.mk (HC.out.call hi hb hk);have nVb2:=Qa.mk (Vb2.out.call hk gl);have nVb3:=Qa.mk (Vb3.out.call hk gl);have nTx:=Qa.mk (Tx.out.call hk (by omega));clear HC Vb2 Vb3 Tx;have HC:=nHC;have Vb2:=nVb2;have Vb3:=nVb3;have Tx:=nTx;clear nHC nVb2 nVb3 nTx;clear hi hb hk))
      clear x0 x1 x2 x3;obtain⟨x0,x1,x2,x3⟩ :=Vb3.out.at_.cells;go_wp2_with(first|(refine Xb rfl 2 (.tmp 29) rfl rfl rfl rfl Vb2.out.at_ ?_;intro ws7 ha_ hw_;have zws7:=hw_.kept.1;have nHC:=Qa.mk (HC.out.wrote hw_ Vb2.out.ge);have nVb3:=Qa.mk (Vb3.out.wrote hw_ (by omega));have nTx:=Qa.mk (Tx.out.wrote hw_ (by omega));have nVb2:=Qa.mk (Vr.mk (w:=w) ha_ Vb2.out.ge);clear HC Vb3 Tx Vb2;have HC:=nHC;have Vb3:=nVb3;have Tx:=nTx;have Vb2:=nVb2;clear nHC nVb3 nTx nVb2;clear hw_ ha_));refine bodyPost_ret (results_cell_row rfl _ _ b2 26 #[.int .i64 (x.f0),.int .i64 (x.f1),.string (x.f2),.slice Ax x.f3.length cx] (0,0) _ rfl Vb2.out.at_ Tryd.underlying26 rfl (by kernel_rfl)) rfl ?_;exact Y7.done Tx.out HC.out (by omega) (by omega)
     |true=>
      rw [hb] at HBR hr;clear hb;rw [if_pos ⟨rfl,HX2.out,rfl⟩] at hr
      cases hA:pr s k .first (Zb s p1 t1) (Yb s p1 t1) with
      |none=>rw [hA] at hr;simp at hr
      |some rb=>
       rw [hA] at hr;have HA1:=Qa.mk hA;clear hA
       cases rb with
       |error q=>
        obtain⟨q,er⟩ :=q;simp only [Option.some.injEq] at hr;subst hr;have HC:=Qa.mk (Cx.start (s:=s) hI hB);have gl:=HC.out.lt;clear hI hB;go_enter Tryd.func43,Tryd.ntmps43;go_upto_region 2 with (first|((with_reducible refine Q0 (N:=2) rfl ?_);refine Q5 rfl 2 rfl rfl ?_;intro b2 wa1 hb_ ha_ hw_;have zb2:=hw_.size;have yb2:=Nat.le_of_eq hb_.symm;have nHC:=Qa.mk (HC.out.below hw_);have nVb2:=Qa.mk (Vr.mk (w:=w) ha_ (Nat.le_trans HC.out.size yb2));clear HC;have HC:=nHC;have Vb2:=nVb2;clear nHC nVb2;have kb2:=Vb2.out.ge;clear hw_ ha_ hb_)|(go_at_call 70;have gx:=Nat.lt_of_lt_of_le HC.out.lt HC.out.size;have qx:=HC.out.size;have lb2_x:=Vb2.out.lt;(with_reducible refine(H2.out g p t w0 _ _ HA.out HC.out.st HC.out.bel HP.out).mono ?_);rintro e wc2 ⟨Ax,cx,rfl,ht_,hi,hb,hk⟩;have zx:=hk.1;have nHC:=Qa.mk (HC.out.call hi hb hk);have nVb2:=Qa.mk (Vb2.out.call hk gl);have nTx:=Qa.mk (ht_);clear HC Vb2;have HC:=nHC;have Vb2:=nVb2;have Tx:=nTx;clear nHC nVb2 nTx;clear ht_ hi hb hk)|((with_reducible refine Q0 (N:=3) rfl ?_);refine Q5 rfl 3 rfl rfl ?_;intro b3 wa3 hb_ ha_ hw_;have lb2_b3:=Vb2.out.lt;have zb3:=hw_.size;have yb3:=Nat.le_of_eq hb_.symm;have nHC:=Qa.mk (HC.out.below hw_);have nVb2:=Qa.mk (Vb2.out.below hw_);have nTx:=Qa.mk (Tx.out.below hw_);have nVb3:=Qa.mk (Vr.mk (w:=w) ha_ (Nat.le_trans HC.out.size yb3));clear HC Vb2 Tx;have HC:=nHC;have Vb2:=nVb2;have Tx:=nTx;have Vb3:=nVb3;clear nHC nVb2 nTx nVb3;have kb3:=Vb3.out.ge;clear hw_ ha_ hb_)|(refine Xb rfl 3 (.tmp 7) rfl rfl rfl rfl Vb3.out.at_ ?_;intro ws4 ha_ hw_;have zws4:=hw_.kept.1;have nHC:=Qa.mk (HC.out.wrote hw_ Vb3.out.ge);have nVb2:=Qa.mk (Vb2.out.wrote hw_ (by omega));have nTx:=Qa.mk (Tx.out.wrote hw_ (by omega));have nVb3:=Qa.mk (Vr.mk (w:=w) ha_ Vb3.out.ge);clear HC Vb2 Tx Vb3;have HC:=nHC;have Vb2:=nVb2;have Tx:=nTx;have Vb3:=nVb3;clear nHC nVb2 nTx nVb3;clear hw_ ha_))
        obtain⟨HG,hg⟩ :=HC.out.st;have c0:=Xk HG;have c1:=Xl HG;have c2:=Xn HG;clear HG hg;go_upto_region 3 with (first|(go_at_call 71;(with_reducible refine(Xe.calls 1 t1 op true _ HG1.out).mono ?_);rintro e wp5 ⟨rfl,hd_⟩;have hw_:=hd_.below;have zwp5:=hw_.size;have nHC:=Qa.mk (HC.out.below hw_);have nVb2:=Qa.mk (Vb2.out.below hw_);have nVb3:=Qa.mk (Vb3.out.below hw_);have nTx:=Qa.mk (Tx.out.below hw_);clear HC Vb2 Vb3 Tx;have HC:=nHC;have Vb2:=nVb2;have Vb3:=nVb3;have Tx:=nTx;clear nHC nVb2 nVb3 nTx;clear hd_ hw_))
        clear c0 c1 c2;obtain⟨x0,x1,x2,x3⟩ :=Vb3.out.at_.cells;go_upto_region 5 with (first|(go_at_call 72;have gbr:=Nat.lt_of_lt_of_le HC.out.lt HC.out.size;have qbr:=HC.out.size;have lb2_br:=Vb2.out.lt;have lb3_br:=Vb3.out.lt;(with_reducible refine(Xz.calls (p1+1) g s p1 t1 x.f0 x.f1 x.f2 Ax cx x.f3 true s p1 t1 w0 _ HC.out.st HC.out.bel (Tx.out.reads_keep (by omega)) Tx.out.reads.1 HBR.out).mono ?_);rintro e wn6 ⟨rfl,hi,hb,hk⟩;have zbr:=hk.1;have nHC:=Qa.mk (HC.out.call hi hb hk);have nVb2:=Qa.mk (Vb2.out.call hk gl);have nVb3:=Qa.mk (Vb3.out.call hk gl);have nTx:=Qa.mk (Tx.out.call hk (by omega));clear HC Vb2 Vb3 Tx;have HC:=nHC;have Vb2:=nVb2;have Vb3:=nVb3;have Tx:=nTx;clear nHC nVb2 nVb3 nTx;clear hi hb hk))
        clear x0 x1 x2 x3;go_upto_region 6 with (first|(go_at_call 42;have gn1:=Nat.lt_of_lt_of_le HC.out.lt HC.out.size;have qn1:=HC.out.size;have lb2_n1:=Vb2.out.lt;have lb3_n1:=Vb3.out.lt;(with_reducible refine(Zl g s t1 p1 w0 _ HC.out.st HC.out.bel HP1.out HS.out).mono ?_);rintro e wn7 ⟨rfl,hi,hb,hk⟩;have zn1:=hk.1;have nHC:=Qa.mk (HC.out.call hi hb hk);have nVb2:=Qa.mk (Vb2.out.call hk gl);have nVb3:=Qa.mk (Vb3.out.call hk gl);have nTx:=Qa.mk (Tx.out.call hk (by omega));clear HC Vb2 Vb3 Tx;have HC:=nHC;have Vb2:=nVb2;have Vb3:=nVb3;have Tx:=nTx;clear nHC nVb2 nVb3 nTx;clear hi hb hk))
        refine Y6 (n:=8) (S:=fun w'=>Y8 w' b3 x.f0 x.f1 x.f2 (.slice Ax x.f3.length cx)) (ds:=[7]) #[false,false,false,false,false,false,false,false] (by kernel_rfl) rfl rfl Vb3.out.drew.at_ (fun hHeld=>?_)
        have nHC:=Qa.mk (HC.out.drew);have nVb2:=Qa.mk (Vb2.out.drew);have nVb3:=Qa.mk (Vb3.out.drew);have nTx:=Qa.mk (Tx.out.drew);clear HC Vb2 Vb3 Tx;have HC:=nHC;have Vb2:=nVb2;have Vb3:=nVb3;have Tx:=nTx;clear nHC nVb2 nVb3 nTx;have zd:wn7.heap.size≤wn7.drew.heap.size:=Nat.le_refl _;refine Xv (i:=0) (N:=some 32) (v:=?_) (a':=?_) #[true,false,false,false,false,false,false,false] rfl rfl (by kernel_rfl) (fun _ _ _ h=>h) (Or.inl ⟨by rfl,?_⟩) ?_ ?_
        rotate_left
        ·intro w';go_simp;with_reducible rfl
        rotate_left
        ·simp only [Act.put,List.setIfInBounds_toArray,List.set_cons_zero,List.set_cons_succ,Xc,Xd];rfl
        refine Xv (i:=1) (N:=some 33) (v:=?_) (a':=?_) #[true,true,false,false,false,false,false,false] rfl rfl (by kernel_rfl) (fun _ _ _ h=>h) (Or.inl ⟨by rfl,?_⟩) ?_ ?_
        rotate_left
        ·intro w';go_simp;with_reducible rfl
        rotate_left
        ·simp only [Act.put,List.setIfInBounds_toArray,List.set_cons_zero,List.set_cons_succ,Xc,Xd];rfl
        refine Xv (i:=3) (N:=some 35) (v:=?_) (a':=?_) #[true,true,false,true,false,false,false,false] rfl rfl (by kernel_rfl) (fun _ _ _ h=>h) (Or.inl ⟨by rfl,?_⟩) ?_ ?_
        rotate_left
        ·intro w';go_simp;with_reducible rfl
        rotate_left
        ·simp only [Act.put,List.setIfInBounds_toArray,List.set_cons_zero,List.set_cons_succ,Xc,Xd];rfl
        refine Zt (i:=2) (N:=some 34) (v:=?_) (a':=?_) #[true,true,true,true,false,false,false,false] rfl rfl (by kernel_rfl) (fun _ _ _ h=>h) (Or.inl ⟨by rfl,?_⟩) hHeld ?_ ?_
        rotate_left
        ·rintro w' s3;obtain⟨e0,e1,e2,e3⟩ :=s3.cells;go_simp;with_reducible rfl
        rotate_left
        ·simp only [Act.put,List.setIfInBounds_toArray,List.set_cons_zero,List.set_cons_succ,Xc,Xd];rfl
        refine Vn (i:=4) (N:=some 36) #[true,true,true,true,true,false,false,false] rfl rfl (by kernel_rfl) (by decide) (fun K hK=>?_);refine N1 Tryd.func43 (by kernel_rfl) rfl #[.pointer (some ⟨g,0,none⟩)] (by rfl) rfl (by simp only [List.map_toArray,List.map_cons,List.map_nil];rfl) (Jq q er) ?_;refine(H1.out g _ _ w0 _ _ HA1.out HC.out.st HC.out.bel HQ1.out).mono ?_;rintro e we ⟨rfl,hb,hk⟩;exact⟨rfl,rfl,Y7.err hb (Qe.trans HC.out.keep hk (.inl rfl))⟩
       |ok ya=>
        obtain⟨y,p2,t2⟩ :=ya;simp only [Option.some.injEq] at hr;subst hr;have HC:=Qa.mk (Cx.start (s:=s) hI hB);have gl:=HC.out.lt;clear hI hB;go_enter Tryd.func43,Tryd.ntmps43;go_upto_region 2 with (first|((with_reducible refine Q0 (N:=2) rfl ?_);refine Q5 rfl 2 rfl rfl ?_;intro b2 wa1 hb_ ha_ hw_;have zb2:=hw_.size;have yb2:=Nat.le_of_eq hb_.symm;have nHC:=Qa.mk (HC.out.below hw_);have nVb2:=Qa.mk (Vr.mk (w:=w) ha_ (Nat.le_trans HC.out.size yb2));clear HC;have HC:=nHC;have Vb2:=nVb2;clear nHC nVb2;have kb2:=Vb2.out.ge;clear hw_ ha_ hb_)|(go_at_call 70;have gx:=Nat.lt_of_lt_of_le HC.out.lt HC.out.size;have qx:=HC.out.size;have lb2_x:=Vb2.out.lt;(with_reducible refine(H2.out g p t w0 _ _ HA.out HC.out.st HC.out.bel HP.out).mono ?_);rintro e wc2 ⟨Ax,cx,rfl,ht_,hi,hb,hk⟩;have zx:=hk.1;have nHC:=Qa.mk (HC.out.call hi hb hk);have nVb2:=Qa.mk (Vb2.out.call hk gl);have nTx:=Qa.mk (ht_);clear HC Vb2;have HC:=nHC;have Vb2:=nVb2;have Tx:=nTx;clear nHC nVb2 nTx;clear ht_ hi hb hk)|((with_reducible refine Q0 (N:=3) rfl ?_);refine Q5 rfl 3 rfl rfl ?_;intro b3 wa3 hb_ ha_ hw_;have lb2_b3:=Vb2.out.lt;have zb3:=hw_.size;have yb3:=Nat.le_of_eq hb_.symm;have nHC:=Qa.mk (HC.out.below hw_);have nVb2:=Qa.mk (Vb2.out.below hw_);have nTx:=Qa.mk (Tx.out.below hw_);have nVb3:=Qa.mk (Vr.mk (w:=w) ha_ (Nat.le_trans HC.out.size yb3));clear HC Vb2 Tx;have HC:=nHC;have Vb2:=nVb2;have Tx:=nTx;have Vb3:=nVb3;clear nHC nVb2 nTx nVb3;have kb3:=Vb3.out.ge;clear hw_ ha_ hb_)|(refine Xb rfl 3 (.tmp 7) rfl rfl rfl rfl Vb3.out.at_ ?_;intro ws4 ha_ hw_;have zws4:=hw_.kept.1;have nHC:=Qa.mk (HC.out.wrote hw_ Vb3.out.ge);have nVb2:=Qa.mk (Vb2.out.wrote hw_ (by omega));have nTx:=Qa.mk (Tx.out.wrote hw_ (by omega));have nVb3:=Qa.mk (Vr.mk (w:=w) ha_ Vb3.out.ge);clear HC Vb2 Tx Vb3;have HC:=nHC;have Vb2:=nVb2;have Tx:=nTx;have Vb3:=nVb3;clear nHC nVb2 nTx nVb3;clear hw_ ha_))
        obtain⟨HG,hg⟩ :=HC.out.st;have c0:=Xk HG;have c1:=Xl HG;have c2:=Xn HG;clear HG hg;go_upto_region 3 with (first|(go_at_call 71;(with_reducible refine(Xe.calls 1 t1 op true _ HG1.out).mono ?_);rintro e wp5 ⟨rfl,hd_⟩;have hw_:=hd_.below;have zwp5:=hw_.size;have nHC:=Qa.mk (HC.out.below hw_);have nVb2:=Qa.mk (Vb2.out.below hw_);have nVb3:=Qa.mk (Vb3.out.below hw_);have nTx:=Qa.mk (Tx.out.below hw_);clear HC Vb2 Vb3 Tx;have HC:=nHC;have Vb2:=nVb2;have Vb3:=nVb3;have Tx:=nTx;clear nHC nVb2 nVb3 nTx;clear hd_ hw_))
        clear c0 c1 c2;obtain⟨x0,x1,x2,x3⟩ :=Vb3.out.at_.cells;go_upto_region 5 with (first|(go_at_call 72;have gbr:=Nat.lt_of_lt_of_le HC.out.lt HC.out.size;have qbr:=HC.out.size;have lb2_br:=Vb2.out.lt;have lb3_br:=Vb3.out.lt;(with_reducible refine(Xz.calls (p1+1) g s p1 t1 x.f0 x.f1 x.f2 Ax cx x.f3 true s p1 t1 w0 _ HC.out.st HC.out.bel (Tx.out.reads_keep (by omega)) Tx.out.reads.1 HBR.out).mono ?_);rintro e wn6 ⟨rfl,hi,hb,hk⟩;have zbr:=hk.1;have nHC:=Qa.mk (HC.out.call hi hb hk);have nVb2:=Qa.mk (Vb2.out.call hk gl);have nVb3:=Qa.mk (Vb3.out.call hk gl);have nTx:=Qa.mk (Tx.out.call hk (by omega));clear HC Vb2 Vb3 Tx;have HC:=nHC;have Vb2:=nVb2;have Vb3:=nVb3;have Tx:=nTx;clear nHC nVb2 nVb3 nTx;clear hi hb hk))
        clear x0 x1 x2 x3;go_upto_region 6 with (first|(go_at_call 42;have gn1:=Nat.lt_of_lt_of_le HC.out.lt HC.out.size;have qn1:=HC.out.size;have lb2_n1:=Vb2.out.lt;have lb3_n1:=Vb3.out.lt;(with_reducible refine(Zl g s t1 p1 w0 _ HC.out.st HC.out.bel HP1.out HS.out).mono ?_);rintro e wn7 ⟨rfl,hi,hb,hk⟩;have zn1:=hk.1;have nHC:=Qa.mk (HC.out.call hi hb hk);have nVb2:=Qa.mk (Vb2.out.call hk gl);have nVb3:=Qa.mk (Vb3.out.call hk gl);have nTx:=Qa.mk (Tx.out.call hk (by omega));clear HC Vb2 Vb3 Tx;have HC:=nHC;have Vb2:=nVb2;have Vb3:=nVb3;have Tx:=nTx;clear nHC nVb2 nVb3 nTx;clear hi hb hk))
        refine Y6 (n:=8) (S:=fun w'=>Y8 w' b3 x.f0 x.f1 x.f2 (.slice Ax x.f3.length cx)) (ds:=[7]) #[false,false,false,false,false,false,false,false] (by kernel_rfl) rfl rfl Vb3.out.drew.at_ (fun hHeld=>?_)
        have nHC:=Qa.mk (HC.out.drew);have nVb2:=Qa.mk (Vb2.out.drew);have nVb3:=Qa.mk (Vb3.out.drew);have nTx:=Qa.mk (Tx.out.drew);clear HC Vb2 Vb3 Tx;have HC:=nHC;have Vb2:=nVb2;have Vb3:=nVb3;have Tx:=nTx;clear nHC nVb2 nVb3 nTx;have zd:wn7.heap.size≤wn7.drew.heap.size:=Nat.le_refl _;refine Xv (i:=0) (N:=some 32) (v:=?_) (a':=?_) #[true,false,false,false,false,false,false,false] rfl rfl (by kernel_rfl) (fun _ _ _ h=>h) (Or.inl ⟨by rfl,?_⟩) ?_ ?_
        rotate_left
        ·intro w';go_simp;with_reducible rfl
        rotate_left
        ·simp only [Act.put,List.setIfInBounds_toArray,List.set_cons_zero,List.set_cons_succ,Xc,Xd];rfl
        refine Xv (i:=1) (N:=some 33) (v:=?_) (a':=?_) #[true,true,false,false,false,false,false,false] rfl rfl (by kernel_rfl) (fun _ _ _ h=>h) (Or.inl ⟨by rfl,?_⟩) ?_ ?_
        rotate_left
        ·intro w';go_simp;with_reducible rfl
        rotate_left
        ·simp only [Act.put,List.setIfInBounds_toArray,List.set_cons_zero,List.set_cons_succ,Xc,Xd];rfl
        refine Xv (i:=3) (N:=some 35) (v:=?_) (a':=?_) #[true,true,false,true,false,false,false,false] rfl rfl (by kernel_rfl) (fun _ _ _ h=>h) (Or.inl ⟨by rfl,?_⟩) ?_ ?_
        rotate_left
        ·intro w';go_simp;with_reducible rfl
        rotate_left
        ·simp only [Act.put,List.setIfInBounds_toArray,List.set_cons_zero,List.set_cons_succ,Xc,Xd];rfl
        refine Zt (i:=2) (N:=some 34) (v:=?_) (a':=?_) #[true,true,true,true,false,false,false,false] rfl rfl (by kernel_rfl) (fun _ _ _ h=>h) (Or.inl ⟨by rfl,?_⟩) hHeld ?_ ?_
        rotate_left
        ·rintro w' s3;obtain⟨e0,e1,e2,e3⟩ :=s3.cells;go_simp;with_reducible rfl
        rotate_left
        ·simp only [Act.put,List.setIfInBounds_toArray,List.set_cons_zero,List.set_cons_succ,Xc,Xd];rfl
        refine Vn (i:=4) (N:=some 36) #[true,true,true,true,true,false,false,false] rfl rfl (by kernel_rfl) (by decide) (fun K hK=>?_);refine Vz Tryd.func43 (by kernel_rfl) rfl #[.pointer (some ⟨g,0,none⟩)] (by rfl) rfl rfl (by simp only [List.map_toArray,List.map_cons,List.map_nil];rfl) ?_;have gy:=Nat.lt_of_lt_of_le HC.out.lt HC.out.size;have qy:=HC.out.size;have lb2_y:=Vb2.out.lt;have lb3_y:=Vb3.out.lt;with_reducible refine(H1.out g _ _ w0 _ _ HA1.out HC.out.st HC.out.bel HQ1.out).mono ?_
        rintro e wy ⟨Ay,cy,rfl,ht_,hi,hb,hk⟩;refine⟨_,rfl,?_⟩;have zy:=hk.1;have nHC:=Qa.mk (HC.out.call hi hb hk);have nVb2:=Qa.mk (Vb2.out.call hk gl);have nVb3:=Qa.mk (Vb3.out.call hk gl);have nTx:=Qa.mk (Tx.out.call hk (by omega));have nTy:=Qa.mk (ht_);clear HC Vb2 Vb3 Tx;have HC:=nHC;have Vb2:=nVb2;have Vb3:=nVb3;have Tx:=nTx;have Ty:=nTy;clear nHC nVb2 nVb3 nTx nTy;clear ht_ hi hb hk;refine hK.out _ _ Vb3.out.at_ (fun hHeld=>?_);clear hK K;refine Va (a':=?_) ?_ ?_
        rotate_left
        ·show Act.put _ (some 36) _=_
         simp only [Act.put,List.setIfInBounds_toArray,List.set_cons_zero,List.set_cons_succ,Xc,Xd];rfl
        refine Vn (i:=5) (N:=some 37) #[true,true,true,true,true,true,false,false] rfl rfl (by kernel_rfl) (by decide) (fun K hK=>?_);refine Jn (by rfl) 37 rfl [(y,Ay,cy)] (lo:=wa1.heap.size) (hi:=wy.heap.size) (by go_simp;rfl) (M1 (Ty.out.wide (by omega) (by omega))) (by omega) (Nat.le_refl _) (by simp) ?_;intro An cn wl ht_ hw_ hz_;have zl:=hw_.size;have nHC:=Qa.mk (HC.out.below hw_);have nVb2:=Qa.mk (Vb2.out.below hw_);have nVb3:=Qa.mk (Vb3.out.below hw_);have nTn:=Qa.mk (ht_);clear HC Vb2 Vb3;have HC:=nHC;have Vb2:=nVb2;have Vb3:=nVb3;have Tn:=nTn;clear nHC nVb2 nVb3 nTn;clear ht_ hw_;refine hK.out _ _ Vb3.out.at_ (fun hHeld=>?_);clear hK K;refine Va (a':=?_) ?_ ?_
        rotate_left
        ·show Act.put _ (some 37) _=_
         simp only [Act.put,List.setIfInBounds_toArray,List.set_cons_zero,List.set_cons_succ,Xc,Xd];rfl
        refine Xv (i:=6) (N:=some 38) (v:=?_) (a':=?_) #[true,true,true,true,true,true,true,false] rfl rfl (by kernel_rfl) (fun _ _ _ h=>h) (Or.inl ⟨by rfl,?_⟩) ?_ ?_
        rotate_left
        ·intro w';go_simp;with_reducible rfl
        rotate_left
        ·simp only [Act.put,List.setIfInBounds_toArray,List.set_cons_zero,List.set_cons_succ,Xc,Xd];rfl
        refine Gt (i:=7) (N:=none) #[true,true,true,true,true,true,true,true] rfl rfl (by kernel_rfl) (by decide) (fun K hK=>?_);refine Vg (by rfl) 2 (.tmp 38) rfl rfl rfl rfl Vb2.out.at_ ?_;intro wf ha_ hw_;have zf:=hw_.kept.1;have nHC:=Qa.mk (HC.out.wrote hw_ Vb2.out.ge);have nTn:=Qa.mk (Tn.out.wrote hw_ (by omega));have nVb2:=Qa.mk (Vr.mk (w:=w) ha_ Vb2.out.ge);clear HC Tn Vb2;have HC:=nHC;have Tn:=nTn;have Vb2:=nVb2;clear nHC nTn nVb2;clear hw_ ha_;refine hK.out _ _ ?_;refine Wi (by kernel_rfl) ?_;go_wp2_with(fail);refine bodyPost_ret (results_cell_row rfl _ _ b2 26 #[.int .i64 (26),.int .i64 (op),.string (x.f2),.slice An 1 cn] (0,0) _ rfl Vb2.out.at_ Tryd.underlying26 rfl (by kernel_rfl)) rfl ?_;exact Y7.done (x:=⟨26,op,x.f2,[y]⟩) Tn.out HC.out (by omega) (by omega)
theorem Nx (c:Int):∃b,Xt.f c=some b:=by
 unfold Xt.f;split
 ·exact⟨_,rfl⟩
 exact⟨_,rfl⟩
set_option maxRecDepth 100000 in
set_option maxHeartbeats 2000000 in
theorem F9 (s:ByteArray) (hs:s.size≤4096) (k:Nat) (h1:C43 s k) (h2:R5 s k):R5 s (k+1):=by
 intro g p t w0 w r hr hI hB hp;have H1:=Qa.mk h1;have H2:=Qa.mk h2;have HS:=Qa.mk hs;have HP:=Qa.mk hp;have HQ:=Qa.mk (Yc s _ _ hp);clear h1 h2 hs hp;simp only [pr] at hr;have hu26:=Tryd.underlying26;have hu65:=Tryd.underlying65
 cases hG:X7.f t with
 |none=>rw [hG] at hr;simp at hr
 |some op=>
  rw [hG] at hr;have HG:=Qa.mk hG;clear hG;simp only at hr;by_cases hop:op=0
  rotate_left
  ·have o1:(op==0)=false:=beq_eq_false_iff_ne.mpr hop;have o2:(op !=0)=true:=bne_iff_ne.mpr hop;rw [if_pos hop] at hr;clear hop
   cases hA:pr s k .operand (Zb s p t) (Yb s p t) with
   |none=>rw [hA] at hr;simp [Zu] at hr
   |some ra=>
    rw [hA] at hr;have HA:=Qa.mk hA;clear hA
    cases ra with
    |error q=>
     obtain⟨q,er⟩ :=q;simp only [Zu,Option.some.injEq] at hr;subst hr;have HC:=Qa.mk (Cx.start (s:=s) hI hB);have gl:=HC.out.lt;clear hI hB;go_enter Tryd.func122,Tryd.ntmps122;go_upto_region 1 with (((with_reducible refine Q0 (N:=2) rfl ?_);refine Q5 rfl 2 rfl rfl ?_;intro b2 wa1 hb_ ha_ hw_;have zb2:=hw_.size;have yb2:=Nat.le_of_eq hb_.symm;have nHC:=Qa.mk (HC.out.below hw_);have nVb2:=Qa.mk (Vr.mk (w:=w) ha_ (Nat.le_trans HC.out.size yb2));clear HC;have HC:=nHC;have Vb2:=nVb2;clear nHC nVb2;have kb2:=Vb2.out.ge;clear hw_ ha_ hb_))
     obtain⟨HG,hg⟩ :=HC.out.st;have c0:=Xk HG;have c1:=Xl HG;have c2:=Xn HG;clear HG hg;go_upto_region 2 with ((go_at_call 135;(with_reducible refine(X7.calls t op _ HG.out).mono ?_);rintro e wp2 ⟨rfl,hd_⟩;have hw_:=hd_.below;have zwp2:=hw_.size;have nHC:=Qa.mk (HC.out.below hw_);have nVb2:=Qa.mk (Vb2.out.below hw_);clear HC Vb2;have HC:=nHC;have Vb2:=nVb2;clear nHC nVb2;clear hd_ hw_))
     clear c0 c1 c2;obtain⟨HG,hg⟩ :=HC.out.st;have c0:=Xk HG;have c1:=Xl HG;have c2:=Xn HG;clear HG hg;go_upto_region 3 with (fail)
     clear c0 c1 c2;go_wp2_with(first|(go_at_call 42;have gn1:=Nat.lt_of_lt_of_le HC.out.lt HC.out.size;have qn1:=HC.out.size;have lb2_n1:=Vb2.out.lt;(with_reducible refine(Zl g s t p w0 _ HC.out.st HC.out.bel HP.out HS.out).mono ?_);rintro e wn3 ⟨rfl,hi,hb,hk⟩;have zn1:=hk.1;have nHC:=Qa.mk (HC.out.call hi hb hk);have nVb2:=Qa.mk (Vb2.out.call hk gl);clear HC Vb2;have HC:=nHC;have Vb2:=nVb2;clear nHC nVb2;clear hi hb hk)|(go_at_call 122;(with_reducible refine(H2.out g _ _ w0 _ _ HA.out HC.out.st HC.out.bel HQ.out).mono ?_);rintro e we ⟨rfl,hb,hk⟩));exact⟨rfl,Y7.err hb (Qe.trans HC.out.keep hk (.inl rfl))⟩
    |ok xa=>
     obtain⟨y,p1,t1⟩ :=xa;simp only [Zu,Option.some.injEq] at hr;subst hr;have HC:=Qa.mk (Cx.start (s:=s) hI hB);have gl:=HC.out.lt;clear hI hB;go_enter Tryd.func122,Tryd.ntmps122;go_upto_region 1 with (((with_reducible refine Q0 (N:=2) rfl ?_);refine Q5 rfl 2 rfl rfl ?_;intro b2 wa1 hb_ ha_ hw_;have zb2:=hw_.size;have yb2:=Nat.le_of_eq hb_.symm;have nHC:=Qa.mk (HC.out.below hw_);have nVb2:=Qa.mk (Vr.mk (w:=w) ha_ (Nat.le_trans HC.out.size yb2));clear HC;have HC:=nHC;have Vb2:=nVb2;clear nHC nVb2;have kb2:=Vb2.out.ge;clear hw_ ha_ hb_))
     obtain⟨HG,hg⟩ :=HC.out.st;have c0:=Xk HG;have c1:=Xl HG;have c2:=Xn HG;clear HG hg;go_upto_region 2 with ((go_at_call 135;(with_reducible refine(X7.calls t op _ HG.out).mono ?_);rintro e wp2 ⟨rfl,hd_⟩;have hw_:=hd_.below;have zwp2:=hw_.size;have nHC:=Qa.mk (HC.out.below hw_);have nVb2:=Qa.mk (Vb2.out.below hw_);clear HC Vb2;have HC:=nHC;have Vb2:=nVb2;clear nHC nVb2;clear hd_ hw_))
     clear c0 c1 c2;obtain⟨HG,hg⟩ :=HC.out.st;have c0:=Xk HG;have c1:=Xl HG;have c2:=Xn HG;clear HG hg;go_upto_region 3 with (fail)
     clear c0 c1 c2;go_wp2_with(first|(go_at_call 42;have gn1:=Nat.lt_of_lt_of_le HC.out.lt HC.out.size;have qn1:=HC.out.size;have lb2_n1:=Vb2.out.lt;(with_reducible refine(Zl g s t p w0 _ HC.out.st HC.out.bel HP.out HS.out).mono ?_);rintro e wn3 ⟨rfl,hi,hb,hk⟩;have zn1:=hk.1;have nHC:=Qa.mk (HC.out.call hi hb hk);have nVb2:=Qa.mk (Vb2.out.call hk gl);clear HC Vb2;have HC:=nHC;have Vb2:=nVb2;clear nHC nVb2;clear hi hb hk)|(go_at_call 122;have gy:=Nat.lt_of_lt_of_le HC.out.lt HC.out.size;have qy:=HC.out.size;have lb2_y:=Vb2.out.lt;(with_reducible refine(H2.out g _ _ w0 _ _ HA.out HC.out.st HC.out.bel HQ.out).mono ?_);rintro e wc4 ⟨Ay,cy,rfl,ht_,hi,hb,hk⟩;have zy:=hk.1;have nHC:=Qa.mk (HC.out.call hi hb hk);have nVb2:=Qa.mk (Vb2.out.call hk gl);have nTy:=Qa.mk ht_;clear HC Vb2;have HC:=nHC;have Vb2:=nVb2;have Ty:=nTy;clear nHC nVb2 nTy;clear ht_ hi hb hk)|((with_reducible refine Q0 (N:=20) rfl ?_);refine Gm rfl 20 rfl [(y,Ay,cy)] (lo:=wn3.heap.size) (hi:=wc4.heap.size) (by go_simp;rfl) (M1 (Ty.out.wide (by omega) (by omega))) (by omega) (Nat.le_refl _) (by simp) ?_;intro An cn wl ht_ hw_ hz_;have zl:=hw_.size;have nHC:=Qa.mk (HC.out.below hw_);have nVb2:=Qa.mk (Vb2.out.below hw_);have nTn:=Qa.mk ht_;clear HC Vb2;have HC:=nHC;have Vb2:=nVb2;have Tn:=nTn;clear nHC nVb2 nTn;clear ht_ hw_)|(refine Xb rfl 2 (.tmp 21) rfl rfl rfl rfl Vb2.out.at_ ?_;intro ws5 ha_ hw_;have zws5:=hw_.kept.1;have nHC:=Qa.mk (HC.out.wrote hw_ Vb2.out.ge);have nTn:=Qa.mk (Tn.out.wrote hw_ (by omega));have nVb2:=Qa.mk (Vr.mk (w:=w) ha_ Vb2.out.ge);clear HC Tn Vb2;have HC:=nHC;have Tn:=nTn;have Vb2:=nVb2;clear nHC nTn nVb2;clear hw_ ha_));refine bodyPost_ret (results_cell_row rfl _ _ b2 26 #[.int .i64 (op),.int .i64 (0),.string (⟨#[]⟩),.slice An 1 cn] (0,0) _ rfl Vb2.out.at_ Tryd.underlying26 rfl (by kernel_rfl)) rfl ?_;exact Y7.done (x:=⟨op,0,Yq,[y]⟩) Tn.out HC.out (by omega) (by omega)
  have o1:(op==0)=true:=beq_iff_eq.mpr hop;have o2:(op !=0)=false:=bne_eq_false_iff_eq.mpr hop;rw [if_neg (fun h=>h hop)] at hr;clear hop;by_cases hpar:t.toList=[40]
  ·rw [if_pos hpar] at hr;have u1:(t.toList==([40]:List UInt8))=true:=by simpa using hpar
   clear hpar
   cases hA:pr s k .first (Zb s p t) (Yb s p t) with
   |none=>rw [hA] at hr;simp [Zu] at hr
   |some ra=>
    rw [hA] at hr;have HA:=Qa.mk hA;clear hA
    cases ra with
    |error q=>
     obtain⟨q,er⟩ :=q;simp only [Zu,Option.some.injEq] at hr;subst hr;have HC:=Qa.mk (Cx.start (s:=s) hI hB);have gl:=HC.out.lt;clear hI hB;go_enter Tryd.func122,Tryd.ntmps122;go_upto_region 1 with (((with_reducible refine Q0 (N:=2) rfl ?_);refine Q5 rfl 2 rfl rfl ?_;intro b2 wa1 hb_ ha_ hw_;have zb2:=hw_.size;have yb2:=Nat.le_of_eq hb_.symm;have nHC:=Qa.mk (HC.out.below hw_);have nVb2:=Qa.mk (Vr.mk (w:=w) ha_ (Nat.le_trans HC.out.size yb2));clear HC;have HC:=nHC;have Vb2:=nVb2;clear nHC nVb2;have kb2:=Vb2.out.ge;clear hw_ ha_ hb_))
     obtain⟨HG,hg⟩ :=HC.out.st;have c0:=Xk HG;have c1:=Xl HG;have c2:=Xn HG;clear HG hg;go_upto_region 2 with ((go_at_call 135;(with_reducible refine(X7.calls t op _ HG.out).mono ?_);rintro e wp2 ⟨rfl,hd_⟩;have hw_:=hd_.below;have zwp2:=hw_.size;have nHC:=Qa.mk (HC.out.below hw_);have nVb2:=Qa.mk (Vb2.out.below hw_);clear HC Vb2;have HC:=nHC;have Vb2:=nVb2;clear nHC nVb2;clear hd_ hw_))
     clear c0 c1 c2;obtain⟨HG,hg⟩ :=HC.out.st;have c0:=Xk HG;have c1:=Xl HG;have c2:=Xn HG;clear HG hg;go_upto_region 6 with (fail)
     clear c0 c1 c2;go_wp2_with(first|(go_at_call 42;have gn1:=Nat.lt_of_lt_of_le HC.out.lt HC.out.size;have qn1:=HC.out.size;have lb2_n1:=Vb2.out.lt;(with_reducible refine(Zl g s t p w0 _ HC.out.st HC.out.bel HP.out HS.out).mono ?_);rintro e wn3 ⟨rfl,hi,hb,hk⟩;have zn1:=hk.1;have nHC:=Qa.mk (HC.out.call hi hb hk);have nVb2:=Qa.mk (Vb2.out.call hk gl);clear HC Vb2;have HC:=nHC;have Vb2:=nVb2;clear nHC nVb2;clear hi hb hk)|(go_at_call 43;(with_reducible refine(H1.out g _ _ w0 _ _ HA.out HC.out.st HC.out.bel HQ.out).mono ?_);rintro e we ⟨rfl,hb,hk⟩));exact⟨rfl,Y7.err hb (Qe.trans HC.out.keep hk (.inl rfl))⟩
    |ok xa=>
     obtain⟨y,p1,t1⟩ :=xa;have HP1:=Qa.mk (W8 s _ _ _ _ _ _ _ HQ.out HA.out);simp only [Zu] at hr;by_cases ht1:t1.toList=[41]
     rotate_left
     ·rw [if_neg ht1] at hr;have U2:=Qa.mk (show ¬t1.toList=(⟨#[41]⟩ :ByteArray).toList by simpa using ht1);clear ht1;simp only [Option.some.injEq] at hr;subst hr;have HC:=Qa.mk (Cx.start (s:=s) hI hB);have gl:=HC.out.lt;clear hI hB;go_enter Tryd.func122,Tryd.ntmps122;go_upto_region 1 with (((with_reducible refine Q0 (N:=2) rfl ?_);refine Q5 rfl 2 rfl rfl ?_;intro b2 wa1 hb_ ha_ hw_;have zb2:=hw_.size;have yb2:=Nat.le_of_eq hb_.symm;have nHC:=Qa.mk (HC.out.below hw_);have nVb2:=Qa.mk (Vr.mk (w:=w) ha_ (Nat.le_trans HC.out.size yb2));clear HC;have HC:=nHC;have Vb2:=nVb2;clear nHC nVb2;have kb2:=Vb2.out.ge;clear hw_ ha_ hb_))
      obtain⟨HG,hg⟩ :=HC.out.st;have c0:=Xk HG;have c1:=Xl HG;have c2:=Xn HG;clear HG hg;go_upto_region 2 with ((go_at_call 135;(with_reducible refine(X7.calls t op _ HG.out).mono ?_);rintro e wp2 ⟨rfl,hd_⟩;have hw_:=hd_.below;have zwp2:=hw_.size;have nHC:=Qa.mk (HC.out.below hw_);have nVb2:=Qa.mk (Vb2.out.below hw_);clear HC Vb2;have HC:=nHC;have Vb2:=nVb2;clear nHC nVb2;clear hd_ hw_))
      clear c0 c1 c2;obtain⟨HG,hg⟩ :=HC.out.st;have c0:=Xk HG;have c1:=Xl HG;have c2:=Xn HG;clear HG hg;go_upto_region 6 with (fail)
      clear c0 c1 c2;go_wp2_with(first|(go_at_call 42;have gn1:=Nat.lt_of_lt_of_le HC.out.lt HC.out.size;have qn1:=HC.out.size;have lb2_n1:=Vb2.out.lt;(with_reducible refine(Zl g s t p w0 _ HC.out.st HC.out.bel HP.out HS.out).mono ?_);rintro e wn3 ⟨rfl,hi,hb,hk⟩;have zn1:=hk.1;have nHC:=Qa.mk (HC.out.call hi hb hk);have nVb2:=Qa.mk (Vb2.out.call hk gl);clear HC Vb2;have HC:=nHC;have Vb2:=nVb2;clear nHC nVb2;clear hi hb hk)|(go_at_call 43;have gy:=Nat.lt_of_lt_of_le HC.out.lt HC.out.size;have qy:=HC.out.size;have lb2_y:=Vb2.out.lt;(with_reducible refine(H1.out g _ _ w0 _ _ HA.out HC.out.st HC.out.bel HQ.out).mono ?_);rintro e wc4 ⟨Ay,cy,rfl,ht_,hi,hb,hk⟩;have zy:=hk.1;have nHC:=Qa.mk (HC.out.call hi hb hk);have nVb2:=Qa.mk (Vb2.out.call hk gl);have nTy:=Qa.mk ht_;clear HC Vb2;have HC:=nHC;have Vb2:=nVb2;have Ty:=nTy;clear nHC nVb2 nTy;clear ht_ hi hb hk)|((with_reducible refine Q0 (N:=4) rfl ?_);refine Q5 rfl 4 rfl rfl ?_;intro b4 wa5 hb_ ha_ hw_;have lb2_b4:=Vb2.out.lt;have zb4:=hw_.size;have yb4:=Nat.le_of_eq hb_.symm;have nHC:=Qa.mk (HC.out.below hw_);have nVb2:=Qa.mk (Vb2.out.below hw_);have nTy:=Qa.mk (Ty.out.below hw_);have nVb4:=Qa.mk (Vr.mk (w:=w) ha_ (Nat.le_trans HC.out.size yb4));clear HC Vb2 Ty;have HC:=nHC;have Vb2:=nVb2;have Ty:=nTy;have Vb4:=nVb4;clear nHC nVb2 nTy nVb4;have kb4:=Vb4.out.ge;clear hw_ ha_ hb_)|(refine Xb rfl 4 (.tmp 30) rfl rfl rfl rfl Vb4.out.at_ ?_;intro ws6 ha_ hw_;have zws6:=hw_.kept.1;have nHC:=Qa.mk (HC.out.wrote hw_ Vb4.out.ge);have nVb2:=Qa.mk (Vb2.out.wrote hw_ (by omega));have nTy:=Qa.mk (Ty.out.wrote hw_ (by omega));have nVb4:=Qa.mk (Vr.mk (w:=w) ha_ Vb4.out.ge);clear HC Vb2 Ty Vb4;have HC:=nHC;have Vb2:=nVb2;have Ty:=nTy;have Vb4:=nVb4;clear nHC nVb2 nTy nVb4;clear hw_ ha_)|(go_at_call 106;(with_reducible refine(Fl g s t1 _ p1 w0 _ HC.out.st U2.out).mono ?_);rintro e we ⟨rfl,rfl⟩));exact⟨rfl,Y7.err HC.out.bel HC.out.keep⟩
     rw [if_pos ht1] at hr;have U2:=Qa.mk (show t1.toList=(⟨#[41]⟩ :ByteArray).toList by rw [ht1];simp);clear ht1;simp only [Option.some.injEq] at hr;subst hr;have HC:=Qa.mk (Cx.start (s:=s) hI hB);have gl:=HC.out.lt;clear hI hB;go_enter Tryd.func122,Tryd.ntmps122;go_upto_region 1 with (((with_reducible refine Q0 (N:=2) rfl ?_);refine Q5 rfl 2 rfl rfl ?_;intro b2 wa1 hb_ ha_ hw_;have zb2:=hw_.size;have yb2:=Nat.le_of_eq hb_.symm;have nHC:=Qa.mk (HC.out.below hw_);have nVb2:=Qa.mk (Vr.mk (w:=w) ha_ (Nat.le_trans HC.out.size yb2));clear HC;have HC:=nHC;have Vb2:=nVb2;clear nHC nVb2;have kb2:=Vb2.out.ge;clear hw_ ha_ hb_))
     obtain⟨HG,hg⟩ :=HC.out.st;have c0:=Xk HG;have c1:=Xl HG;have c2:=Xn HG;clear HG hg;go_upto_region 2 with ((go_at_call 135;(with_reducible refine(X7.calls t op _ HG.out).mono ?_);rintro e wp2 ⟨rfl,hd_⟩;have hw_:=hd_.below;have zwp2:=hw_.size;have nHC:=Qa.mk (HC.out.below hw_);have nVb2:=Qa.mk (Vb2.out.below hw_);clear HC Vb2;have HC:=nHC;have Vb2:=nVb2;clear nHC nVb2;clear hd_ hw_))
     clear c0 c1 c2;obtain⟨HG,hg⟩ :=HC.out.st;have c0:=Xk HG;have c1:=Xl HG;have c2:=Xn HG;clear HG hg;go_upto_region 6 with (fail)
     clear c0 c1 c2;go_upto_region 9 with (first|(go_at_call 42;have gn1:=Nat.lt_of_lt_of_le HC.out.lt HC.out.size;have qn1:=HC.out.size;have lb2_n1:=Vb2.out.lt;(with_reducible refine(Zl g s t p w0 _ HC.out.st HC.out.bel HP.out HS.out).mono ?_);rintro e wn3 ⟨rfl,hi,hb,hk⟩;have zn1:=hk.1;have nHC:=Qa.mk (HC.out.call hi hb hk);have nVb2:=Qa.mk (Vb2.out.call hk gl);clear HC Vb2;have HC:=nHC;have Vb2:=nVb2;clear nHC nVb2;clear hi hb hk)|(go_at_call 43;have gy:=Nat.lt_of_lt_of_le HC.out.lt HC.out.size;have qy:=HC.out.size;have lb2_y:=Vb2.out.lt;(with_reducible refine(H1.out g _ _ w0 _ _ HA.out HC.out.st HC.out.bel HQ.out).mono ?_);rintro e wc4 ⟨Ay,cy,rfl,ht_,hi,hb,hk⟩;have zy:=hk.1;have nHC:=Qa.mk (HC.out.call hi hb hk);have nVb2:=Qa.mk (Vb2.out.call hk gl);have nTy:=Qa.mk ht_;clear HC Vb2;have HC:=nHC;have Vb2:=nVb2;have Ty:=nTy;clear nHC nVb2 nTy;clear ht_ hi hb hk)|((with_reducible refine Q0 (N:=4) rfl ?_);refine Q5 rfl 4 rfl rfl ?_;intro b4 wa5 hb_ ha_ hw_;have lb2_b4:=Vb2.out.lt;have zb4:=hw_.size;have yb4:=Nat.le_of_eq hb_.symm;have nHC:=Qa.mk (HC.out.below hw_);have nVb2:=Qa.mk (Vb2.out.below hw_);have nTy:=Qa.mk (Ty.out.below hw_);have nVb4:=Qa.mk (Vr.mk (w:=w) ha_ (Nat.le_trans HC.out.size yb4));clear HC Vb2 Ty;have HC:=nHC;have Vb2:=nVb2;have Ty:=nTy;have Vb4:=nVb4;clear nHC nVb2 nTy nVb4;have kb4:=Vb4.out.ge;clear hw_ ha_ hb_)|(refine Xb rfl 4 (.tmp 30) rfl rfl rfl rfl Vb4.out.at_ ?_;intro ws6 ha_ hw_;have zws6:=hw_.kept.1;have nHC:=Qa.mk (HC.out.wrote hw_ Vb4.out.ge);have nVb2:=Qa.mk (Vb2.out.wrote hw_ (by omega));have nTy:=Qa.mk (Ty.out.wrote hw_ (by omega));have nVb4:=Qa.mk (Vr.mk (w:=w) ha_ Vb4.out.ge);clear HC Vb2 Ty Vb4;have HC:=nHC;have Vb2:=nVb2;have Ty:=nTy;have Vb4:=nVb4;clear nHC nVb2 nTy nVb4;clear hw_ ha_)|(go_at_call 106;have ge2:=Nat.lt_of_lt_of_le HC.out.lt HC.out.size;have qe2:=HC.out.size;have lb2_e2:=Vb2.out.lt;have lb4_e2:=Vb4.out.lt;(with_reducible refine(Jp g s t1 _ p1 w0 _ HC.out.st HC.out.bel HP1.out HS.out U2.out).mono ?_);rintro e wn7 ⟨rfl,hi,hb,hk⟩;have ze2:=hk.1;have nHC:=Qa.mk (HC.out.call hi hb hk);have nVb2:=Qa.mk (Vb2.out.call hk gl);have nVb4:=Qa.mk (Vb4.out.call hk gl);have nTy:=Qa.mk (Ty.out.call hk (by omega));clear HC Vb2 Vb4 Ty;have HC:=nHC;have Vb2:=nVb2;have Vb4:=nVb4;have Ty:=nTy;clear nHC nVb2 nVb4 nTy;clear hi hb hk))
     obtain⟨x0,x1,x2,x3⟩ :=Vb4.out.at_.cells;go_wp2_with((refine Xb rfl 2 (.tmp 33) rfl rfl rfl rfl Vb2.out.at_ ?_;intro ws8 ha_ hw_;have zws8:=hw_.kept.1;have nHC:=Qa.mk (HC.out.wrote hw_ Vb2.out.ge);have nVb4:=Qa.mk (Vb4.out.wrote hw_ (by omega));have nTy:=Qa.mk (Ty.out.wrote hw_ (by omega));have nVb2:=Qa.mk (Vr.mk (w:=w) ha_ Vb2.out.ge);clear HC Vb4 Ty Vb2;have HC:=nHC;have Vb4:=nVb4;have Ty:=nTy;have Vb2:=nVb2;clear nHC nVb4 nTy nVb2;clear hw_ ha_));refine bodyPost_ret (results_cell_row rfl _ _ b2 26 #[.int .i64 (y.f0),.int .i64 (y.f1),.string (y.f2),.slice Ay y.f3.length cy] (0,0) _ rfl Vb2.out.at_ Tryd.underlying26 rfl (by kernel_rfl)) rfl ?_;exact Y7.done Ty.out HC.out (by omega) (by omega)
  rw [if_neg hpar] at hr;have u1:(t.toList==([40]:List UInt8))=false:=by simpa using hpar
  clear hpar;obtain⟨wb,hwb⟩ :=Jk (bt t 0);obtain⟨db,hdb⟩ :=Nx (bt t 0);have HWB:=Qa.mk hwb;have HDB:=Qa.mk hdb;rw [hwb] at hr;rw [hdb] at hr;clear hwb hdb;by_cases ht0:t.size=0
  ·have u2:(t.toList==([]:List UInt8))=true:=by
    rw [Go.ByteArray.toList_eq];have:t.data.toList=[]:=List.eq_nil_of_length_eq_zero (by simpa using ht0);simp [this]
   rw [if_pos (.inl ht0)] at hr;clear ht0;simp only [Option.some.injEq] at hr;subst hr;have HC:=Qa.mk (Cx.start (s:=s) hI hB);have gl:=HC.out.lt;clear hI hB;go_enter Tryd.func122,Tryd.ntmps122;go_upto_region 1 with (((with_reducible refine Q0 (N:=2) rfl ?_);refine Q5 rfl 2 rfl rfl ?_;intro b2 wa1 hb_ ha_ hw_;have zb2:=hw_.size;have yb2:=Nat.le_of_eq hb_.symm;have nHC:=Qa.mk (HC.out.below hw_);have nVb2:=Qa.mk (Vr.mk (w:=w) ha_ (Nat.le_trans HC.out.size yb2));clear HC;have HC:=nHC;have Vb2:=nVb2;clear nHC nVb2;have kb2:=Vb2.out.ge;clear hw_ ha_ hb_))
   obtain⟨HG,hg⟩ :=HC.out.st;have c0:=Xk HG;have c1:=Xl HG;have c2:=Xn HG;clear HG hg;go_upto_region 2 with ((go_at_call 135;(with_reducible refine(X7.calls t op _ HG.out).mono ?_);rintro e wp2 ⟨rfl,hd_⟩;have hw_:=hd_.below;have zwp2:=hw_.size;have nHC:=Qa.mk (HC.out.below hw_);have nVb2:=Qa.mk (Vb2.out.below hw_);clear HC Vb2;have HC:=nHC;have Vb2:=nVb2;clear nHC nVb2;clear hd_ hw_))
   clear c0 c1 c2;obtain⟨HG,hg⟩ :=HC.out.st;have c0:=Xk HG;have c1:=Xl HG;have c2:=Xn HG;clear HG hg;go_upto_region 10 with (fail)
   go_wp2_with((go_at_call 44;(with_reducible refine(V7 g s t p 6 w0 _ HC.out.st).mono ?_);rintro e we ⟨rfl,rfl⟩));exact⟨rfl,Y7.err HC.out.bel HC.out.keep⟩
  have u2:(t.toList==([]:List UInt8))=false:=by
   rw [Go.ByteArray.toList_eq]
   cases hd:t.data.toList with
   |nil=>exact absurd (by simpa using congrArg List.length hd) ht0
   |cons a l=>rfl
  have hts:(0 :Int) < (t.size:Int):=by omega
  have HT0:=Qa.mk ht0;have qi4:(0 < (t.size:Int))=True:=eq_true hts;have q4:(0 < t.size)=True:=eq_true (by omega);have hx4:∀h:0 < t.size,((t[0]'h).toNat:Int)=bt t 0 :=Zp t 0;clear ht0 hts
  cases wb with
  |false=>
   rw [if_pos (.inr (by simp))] at hr;simp only [Option.some.injEq] at hr;subst hr;have HC:=Qa.mk (Cx.start (s:=s) hI hB);have gl:=HC.out.lt;clear hI hB;go_enter Tryd.func122,Tryd.ntmps122;go_upto_region 1 with (((with_reducible refine Q0 (N:=2) rfl ?_);refine Q5 rfl 2 rfl rfl ?_;intro b2 wa1 hb_ ha_ hw_;have zb2:=hw_.size;have yb2:=Nat.le_of_eq hb_.symm;have nHC:=Qa.mk (HC.out.below hw_);have nVb2:=Qa.mk (Vr.mk (w:=w) ha_ (Nat.le_trans HC.out.size yb2));clear HC;have HC:=nHC;have Vb2:=nVb2;clear nHC nVb2;have kb2:=Vb2.out.ge;clear hw_ ha_ hb_))
   obtain⟨HG,hg⟩ :=HC.out.st;have c0:=Xk HG;have c1:=Xl HG;have c2:=Xn HG;clear HG hg;go_upto_region 2 with ((go_at_call 135;(with_reducible refine(X7.calls t op _ HG.out).mono ?_);rintro e wp2 ⟨rfl,hd_⟩;have hw_:=hd_.below;have zwp2:=hw_.size;have nHC:=Qa.mk (HC.out.below hw_);have nVb2:=Qa.mk (Vb2.out.below hw_);clear HC Vb2;have HC:=nHC;have Vb2:=nVb2;clear nHC nVb2;clear hd_ hw_))
   clear c0 c1 c2;obtain⟨HG,hg⟩ :=HC.out.st;have c0:=Xk HG;have c1:=Xl HG;have c2:=Xn HG;clear HG hg;go_upto_region 10 with (fail)
   go_upto_region 11 with ((go_at_call 68;(with_reducible refine(X1.calls (bt t 0) false _ HWB.out).mono ?_);rintro e wp3 ⟨rfl,hd_⟩;have hw_:=hd_.below;have zwp3:=hw_.size;have nHC:=Qa.mk (HC.out.below hw_);have nVb2:=Qa.mk (Vb2.out.below hw_);clear HC Vb2;have HC:=nHC;have Vb2:=nVb2;clear nHC nVb2;clear hd_ hw_))
   clear c0 c1 c2;go_wp2_with((go_at_call 44;(with_reducible refine(V7 g s t p 6 w0 _ HC.out.st).mono ?_);rintro e we ⟨rfl,rfl⟩));exact⟨rfl,Y7.err HC.out.bel HC.out.keep⟩
  |true=>
   rw [if_neg (by simp [HT0.out])] at hr
   cases db with
   |true=>
    rw [if_pos rfl] at hr
    cases hN:Qy.f (t.size+3) t with
    |none=>rw [hN] at hr;simp at hr
    |some ne=>
     obtain⟨n,e⟩ :=ne;rw [hN] at hr;have HN:=Qa.mk hN;clear hN;simp only at hr;by_cases he:e=0
     rotate_left
     ·have v1:(e==0)=false:=beq_eq_false_iff_ne.mpr he;have v2:(e !=0)=true:=bne_iff_ne.mpr he;rw [if_neg he] at hr;clear he;simp only [Option.some.injEq] at hr;subst hr;have HC:=Qa.mk (Cx.start (s:=s) hI hB);have gl:=HC.out.lt;clear hI hB;go_enter Tryd.func122,Tryd.ntmps122;go_upto_region 1 with (((with_reducible refine Q0 (N:=2) rfl ?_);refine Q5 rfl 2 rfl rfl ?_;intro b2 wa1 hb_ ha_ hw_;have zb2:=hw_.size;have yb2:=Nat.le_of_eq hb_.symm;have nHC:=Qa.mk (HC.out.below hw_);have nVb2:=Qa.mk (Vr.mk (w:=w) ha_ (Nat.le_trans HC.out.size yb2));clear HC;have HC:=nHC;have Vb2:=nVb2;clear nHC nVb2;have kb2:=Vb2.out.ge;clear hw_ ha_ hb_))
      obtain⟨HG,hg⟩ :=HC.out.st;have c0:=Xk HG;have c1:=Xl HG;have c2:=Xn HG;clear HG hg;go_upto_region 2 with ((go_at_call 135;(with_reducible refine(X7.calls t op _ HG.out).mono ?_);rintro e wp2 ⟨rfl,hd_⟩;have hw_:=hd_.below;have zwp2:=hw_.size;have nHC:=Qa.mk (HC.out.below hw_);have nVb2:=Qa.mk (Vb2.out.below hw_);clear HC Vb2;have HC:=nHC;have Vb2:=nVb2;clear nHC nVb2;clear hd_ hw_))
      clear c0 c1 c2;obtain⟨HG,hg⟩ :=HC.out.st;have c0:=Xk HG;have c1:=Xl HG;have c2:=Xn HG;clear HG hg;go_upto_region 10 with (fail)
      go_upto_region 12 with ((go_at_call 68;(with_reducible refine(X1.calls (bt t 0) true _ HWB.out).mono ?_);rintro e wp3 ⟨rfl,hd_⟩;have hw_:=hd_.below;have zwp3:=hw_.size;have nHC:=Qa.mk (HC.out.below hw_);have nVb2:=Qa.mk (Vb2.out.below hw_);clear HC Vb2;have HC:=nHC;have Vb2:=nVb2;clear nHC nVb2;clear hd_ hw_))
      clear c0 c1 c2;obtain⟨HG,hg⟩ :=HC.out.st;have c0:=Xk HG;have c1:=Xl HG;have c2:=Xn HG;clear HG hg;go_upto_region 13 with ((go_at_call 104;(with_reducible refine(Xt.calls (bt t 0) true _ HDB.out).mono ?_);rintro e wp4 ⟨rfl,hd_⟩;have hw_:=hd_.below;have zwp4:=hw_.size;have nHC:=Qa.mk (HC.out.below hw_);have nVb2:=Qa.mk (Vb2.out.below hw_);clear HC Vb2;have HC:=nHC;have Vb2:=nVb2;clear nHC nVb2;clear hd_ hw_))
      clear c0 c1 c2;obtain⟨HG,hg⟩ :=HC.out.st;have c0:=Xk HG;have c1:=Xl HG;have c2:=Xn HG;clear HG hg;go_upto_region 14 with ((go_at_call 136;(with_reducible refine(Qy.calls (t.size+3) t n e _ HN.out).mono ?_);rintro e wp5 ⟨rfl,hd_⟩;have hw_:=hd_.below;have zwp5:=hw_.size;have nHC:=Qa.mk (HC.out.below hw_);have nVb2:=Qa.mk (Vb2.out.below hw_);clear HC Vb2;have HC:=nHC;have Vb2:=nVb2;clear nHC nVb2;clear hd_ hw_))
      clear c0 c1 c2;go_wp2_with((go_at_call 44;(with_reducible refine(V7 g s t p e w0 _ HC.out.st).mono ?_);rintro e we ⟨rfl,rfl⟩));exact⟨rfl,Y7.err HC.out.bel HC.out.keep⟩
     have v1:(e==0)=true:=beq_iff_eq.mpr he;have v2:(e !=0)=false:=bne_eq_false_iff_eq.mpr he;rw [if_pos he] at hr;clear he;simp only [Option.some.injEq] at hr;subst hr;have HC:=Qa.mk (Cx.start (s:=s) hI hB);have gl:=HC.out.lt;clear hI hB;go_enter Tryd.func122,Tryd.ntmps122;go_upto_region 1 with (((with_reducible refine Q0 (N:=2) rfl ?_);refine Q5 rfl 2 rfl rfl ?_;intro b2 wa1 hb_ ha_ hw_;have zb2:=hw_.size;have yb2:=Nat.le_of_eq hb_.symm;have nHC:=Qa.mk (HC.out.below hw_);have nVb2:=Qa.mk (Vr.mk (w:=w) ha_ (Nat.le_trans HC.out.size yb2));clear HC;have HC:=nHC;have Vb2:=nVb2;clear nHC nVb2;have kb2:=Vb2.out.ge;clear hw_ ha_ hb_))
     obtain⟨HG,hg⟩ :=HC.out.st;have c0:=Xk HG;have c1:=Xl HG;have c2:=Xn HG;clear HG hg;go_upto_region 2 with ((go_at_call 135;(with_reducible refine(X7.calls t op _ HG.out).mono ?_);rintro e wp2 ⟨rfl,hd_⟩;have hw_:=hd_.below;have zwp2:=hw_.size;have nHC:=Qa.mk (HC.out.below hw_);have nVb2:=Qa.mk (Vb2.out.below hw_);clear HC Vb2;have HC:=nHC;have Vb2:=nVb2;clear nHC nVb2;clear hd_ hw_))
     clear c0 c1 c2;obtain⟨HG,hg⟩ :=HC.out.st;have c0:=Xk HG;have c1:=Xl HG;have c2:=Xn HG;clear HG hg;go_upto_region 10 with (fail)
     go_upto_region 12 with ((go_at_call 68;(with_reducible refine(X1.calls (bt t 0) true _ HWB.out).mono ?_);rintro e wp3 ⟨rfl,hd_⟩;have hw_:=hd_.below;have zwp3:=hw_.size;have nHC:=Qa.mk (HC.out.below hw_);have nVb2:=Qa.mk (Vb2.out.below hw_);clear HC Vb2;have HC:=nHC;have Vb2:=nVb2;clear nHC nVb2;clear hd_ hw_))
     clear c0 c1 c2;obtain⟨HG,hg⟩ :=HC.out.st;have c0:=Xk HG;have c1:=Xl HG;have c2:=Xn HG;clear HG hg;go_upto_region 13 with ((go_at_call 104;(with_reducible refine(Xt.calls (bt t 0) true _ HDB.out).mono ?_);rintro e wp4 ⟨rfl,hd_⟩;have hw_:=hd_.below;have zwp4:=hw_.size;have nHC:=Qa.mk (HC.out.below hw_);have nVb2:=Qa.mk (Vb2.out.below hw_);clear HC Vb2;have HC:=nHC;have Vb2:=nVb2;clear nHC nVb2;clear hd_ hw_))
     clear c0 c1 c2;obtain⟨HG,hg⟩ :=HC.out.st;have c0:=Xk HG;have c1:=Xl HG;have c2:=Xn HG;clear HG hg;go_upto_region 14 with ((go_at_call 136;(with_reducible refine(Qy.calls (t.size+3) t n e _ HN.out).mono ?_);rintro e wp5 ⟨rfl,hd_⟩;have hw_:=hd_.below;have zwp5:=hw_.size;have nHC:=Qa.mk (HC.out.below hw_);have nVb2:=Qa.mk (Vb2.out.below hw_);clear HC Vb2;have HC:=nHC;have Vb2:=nVb2;clear nHC nVb2;clear hd_ hw_))
     clear c0 c1 c2;go_wp2_with(first|(go_at_call 42;have gn1:=Nat.lt_of_lt_of_le HC.out.lt HC.out.size;have qn1:=HC.out.size;have lb2_n1:=Vb2.out.lt;(with_reducible refine(Zl g s t p w0 _ HC.out.st HC.out.bel HP.out HS.out).mono ?_);rintro e wn6 ⟨rfl,hi,hb,hk⟩;have zn1:=hk.1;have nHC:=Qa.mk (HC.out.call hi hb hk);have nVb2:=Qa.mk (Vb2.out.call hk gl);clear HC Vb2;have HC:=nHC;have Vb2:=nVb2;clear nHC nVb2;clear hi hb hk)|(refine Xb rfl 2 (.tmp 72) rfl rfl rfl rfl Vb2.out.at_ ?_;intro ws7 ha_ hw_;have zws7:=hw_.kept.1;have nHC:=Qa.mk (HC.out.wrote hw_ Vb2.out.ge);have nVb2:=Qa.mk (Vr.mk (w:=w) ha_ Vb2.out.ge);clear HC Vb2;have HC:=nHC;have Vb2:=nVb2;clear nHC nVb2;clear hw_ ha_));refine bodyPost_ret (results_cell_row rfl _ _ b2 26 #[.int .i64 (1),.int .i64 (n),.string (⟨#[]⟩),.slice none 0 0] (0,0) _ rfl Vb2.out.at_ Tryd.underlying26 rfl (by kernel_rfl)) rfl ?_;exact Y7.done (x:=⟨1,n,Yq,[]⟩) (Tr.nil _ w.heap.size w.heap.size) HC.out (Nat.le_refl _) HC.out.size
   |false=>
    rw [if_neg (by simp)] at hr
    cases hn:nameB t with
    |true=>
     rw [hn] at hr;have HNM:=Qa.mk (show Yo.f t=some true from congrArg some hn);clear hn;simp only [if_true,Option.some.injEq] at hr;subst hr;have HC:=Qa.mk (Cx.start (s:=s) hI hB);have gl:=HC.out.lt;clear hI hB;go_enter Tryd.func122,Tryd.ntmps122;go_upto_region 1 with (((with_reducible refine Q0 (N:=2) rfl ?_);refine Q5 rfl 2 rfl rfl ?_;intro b2 wa1 hb_ ha_ hw_;have zb2:=hw_.size;have yb2:=Nat.le_of_eq hb_.symm;have nHC:=Qa.mk (HC.out.below hw_);have nVb2:=Qa.mk (Vr.mk (w:=w) ha_ (Nat.le_trans HC.out.size yb2));clear HC;have HC:=nHC;have Vb2:=nVb2;clear nHC nVb2;have kb2:=Vb2.out.ge;clear hw_ ha_ hb_))
     obtain⟨HG,hg⟩ :=HC.out.st;have c0:=Xk HG;have c1:=Xl HG;have c2:=Xn HG;clear HG hg;go_upto_region 2 with ((go_at_call 135;(with_reducible refine(X7.calls t op _ HG.out).mono ?_);rintro e wp2 ⟨rfl,hd_⟩;have hw_:=hd_.below;have zwp2:=hw_.size;have nHC:=Qa.mk (HC.out.below hw_);have nVb2:=Qa.mk (Vb2.out.below hw_);clear HC Vb2;have HC:=nHC;have Vb2:=nVb2;clear nHC nVb2;clear hd_ hw_))
     clear c0 c1 c2;obtain⟨HG,hg⟩ :=HC.out.st;have c0:=Xk HG;have c1:=Xl HG;have c2:=Xn HG;clear HG hg;go_upto_region 10 with (fail)
     go_upto_region 12 with ((go_at_call 68;(with_reducible refine(X1.calls (bt t 0) true _ HWB.out).mono ?_);rintro e wp3 ⟨rfl,hd_⟩;have hw_:=hd_.below;have zwp3:=hw_.size;have nHC:=Qa.mk (HC.out.below hw_);have nVb2:=Qa.mk (Vb2.out.below hw_);clear HC Vb2;have HC:=nHC;have Vb2:=nVb2;clear nHC nVb2;clear hd_ hw_))
     clear c0 c1 c2;obtain⟨HG,hg⟩ :=HC.out.st;have c0:=Xk HG;have c1:=Xl HG;have c2:=Xn HG;clear HG hg;go_upto_region 18 with ((go_at_call 104;(with_reducible refine(Xt.calls (bt t 0) false _ HDB.out).mono ?_);rintro e wp4 ⟨rfl,hd_⟩;have hw_:=hd_.below;have zwp4:=hw_.size;have nHC:=Qa.mk (HC.out.below hw_);have nVb2:=Qa.mk (Vb2.out.below hw_);clear HC Vb2;have HC:=nHC;have Vb2:=nVb2;clear nHC nVb2;clear hd_ hw_))
     clear c0 c1 c2;obtain⟨HG,hg⟩ :=HC.out.st;have c0:=Xk HG;have c1:=Xl HG;have c2:=Xn HG;clear HG hg;go_upto_region 20 with ((go_at_call 117;(with_reducible refine(Yo.calls t true _ HNM.out).mono ?_);rintro e wp5 ⟨rfl,hw_⟩;have zwp5:=hw_.size;have nHC:=Qa.mk (HC.out.below hw_);have nVb2:=Qa.mk (Vb2.out.below hw_);clear HC Vb2;have HC:=nHC;have Vb2:=nVb2;clear nHC nVb2;clear hw_))
     clear c0 c1 c2;obtain⟨HG,hg⟩ :=HC.out.st;have c0:=Xk HG;have c1:=Xl HG;have c2:=Xn HG;clear HG hg;go_upto_region 21 with (first|((with_reducible refine Q0 (N:=7) rfl ?_);refine Q5 rfl 7 rfl rfl ?_;intro b7 wa6 hb_ ha_ hw_;have lb2_b7:=Vb2.out.lt;have zb7:=hw_.size;have yb7:=Nat.le_of_eq hb_.symm;have nHC:=Qa.mk (HC.out.below hw_);have nVb2:=Qa.mk (Vb2.out.below hw_);have nVb7:=Qa.mk (Vr.mk (w:=w) ha_ (Nat.le_trans HC.out.size yb7));clear HC Vb2;have HC:=nHC;have Vb2:=nVb2;have Vb7:=nVb7;clear nHC nVb2 nVb7;have kb7:=Vb7.out.ge;clear hw_ ha_ hb_)|(refine Xb rfl 7 (.tmp 85) rfl rfl rfl rfl Vb7.out.at_ ?_;intro ws7 ha_ hw_;have zws7:=hw_.kept.1;have nHC:=Qa.mk (HC.out.wrote hw_ Vb7.out.ge);have nVb2:=Qa.mk (Vb2.out.wrote hw_ (by omega));have nVb7:=Qa.mk (Vr.mk (w:=w) ha_ Vb7.out.ge);clear HC Vb2 Vb7;have HC:=nHC;have Vb2:=nVb2;have Vb7:=nVb7;clear nHC nVb2 nVb7;clear hw_ ha_))
     clear c0 c1 c2;go_upto_region 22 with ((go_at_call 42;have gn1:=Nat.lt_of_lt_of_le HC.out.lt HC.out.size;have qn1:=HC.out.size;have lb2_n1:=Vb2.out.lt;have lb7_n1:=Vb7.out.lt;(with_reducible refine(Zl g s t p w0 _ HC.out.st HC.out.bel HP.out HS.out).mono ?_);rintro e wn8 ⟨rfl,hi,hb,hk⟩;have zn1:=hk.1;have nHC:=Qa.mk (HC.out.call hi hb hk);have nVb2:=Qa.mk (Vb2.out.call hk gl);have nVb7:=Qa.mk (Vb7.out.call hk gl);clear HC Vb2 Vb7;have HC:=nHC;have Vb2:=nVb2;have Vb7:=nVb7;clear nHC nVb2 nVb7;clear hi hb hk))
     obtain⟨x0,x1,x2,x3⟩ :=Vb7.out.at_.cells;go_wp2_with((refine Xb rfl 2 (.tmp 88) rfl rfl rfl rfl Vb2.out.at_ ?_;intro ws9 ha_ hw_;have zws9:=hw_.kept.1;have nHC:=Qa.mk (HC.out.wrote hw_ Vb2.out.ge);have nVb7:=Qa.mk (Vb7.out.wrote hw_ (by omega));have nVb2:=Qa.mk (Vr.mk (w:=w) ha_ Vb2.out.ge);clear HC Vb7 Vb2;have HC:=nHC;have Vb7:=nVb7;have Vb2:=nVb2;clear nHC nVb7 nVb2;clear hw_ ha_));refine bodyPost_ret (results_cell_row rfl _ _ b2 26 #[.int .i64 (2),.int .i64 (0),.string (t),.slice none 0 0] (0,0) _ rfl Vb2.out.at_ Tryd.underlying26 rfl (by kernel_rfl)) rfl ?_;exact Y7.done (x:=⟨2,0,t,[]⟩) (Tr.nil _ w.heap.size w.heap.size) HC.out (Nat.le_refl _) HC.out.size
    |false=>
     rw [hn] at hr;have HNM:=Qa.mk (show Yo.f t=some false from congrArg some hn);clear hn;simp only [Bool.false_eq_true,if_false,Option.some.injEq] at hr;subst hr;have HC:=Qa.mk (Cx.start (s:=s) hI hB);have gl:=HC.out.lt;clear hI hB;go_enter Tryd.func122,Tryd.ntmps122;go_upto_region 1 with (((with_reducible refine Q0 (N:=2) rfl ?_);refine Q5 rfl 2 rfl rfl ?_;intro b2 wa1 hb_ ha_ hw_;have zb2:=hw_.size;have yb2:=Nat.le_of_eq hb_.symm;have nHC:=Qa.mk (HC.out.below hw_);have nVb2:=Qa.mk (Vr.mk (w:=w) ha_ (Nat.le_trans HC.out.size yb2));clear HC;have HC:=nHC;have Vb2:=nVb2;clear nHC nVb2;have kb2:=Vb2.out.ge;clear hw_ ha_ hb_))
     obtain⟨HG,hg⟩ :=HC.out.st;have c0:=Xk HG;have c1:=Xl HG;have c2:=Xn HG;clear HG hg;go_upto_region 2 with ((go_at_call 135;(with_reducible refine(X7.calls t op _ HG.out).mono ?_);rintro e wp2 ⟨rfl,hd_⟩;have hw_:=hd_.below;have zwp2:=hw_.size;have nHC:=Qa.mk (HC.out.below hw_);have nVb2:=Qa.mk (Vb2.out.below hw_);clear HC Vb2;have HC:=nHC;have Vb2:=nVb2;clear nHC nVb2;clear hd_ hw_))
     clear c0 c1 c2;obtain⟨HG,hg⟩ :=HC.out.st;have c0:=Xk HG;have c1:=Xl HG;have c2:=Xn HG;clear HG hg;go_upto_region 10 with (fail)
     go_upto_region 12 with ((go_at_call 68;(with_reducible refine(X1.calls (bt t 0) true _ HWB.out).mono ?_);rintro e wp3 ⟨rfl,hd_⟩;have hw_:=hd_.below;have zwp3:=hw_.size;have nHC:=Qa.mk (HC.out.below hw_);have nVb2:=Qa.mk (Vb2.out.below hw_);clear HC Vb2;have HC:=nHC;have Vb2:=nVb2;clear nHC nVb2;clear hd_ hw_))
     clear c0 c1 c2;obtain⟨HG,hg⟩ :=HC.out.st;have c0:=Xk HG;have c1:=Xl HG;have c2:=Xn HG;clear HG hg;go_upto_region 18 with ((go_at_call 104;(with_reducible refine(Xt.calls (bt t 0) false _ HDB.out).mono ?_);rintro e wp4 ⟨rfl,hd_⟩;have hw_:=hd_.below;have zwp4:=hw_.size;have nHC:=Qa.mk (HC.out.below hw_);have nVb2:=Qa.mk (Vb2.out.below hw_);clear HC Vb2;have HC:=nHC;have Vb2:=nVb2;clear nHC nVb2;clear hd_ hw_))
     clear c0 c1 c2;obtain⟨HG,hg⟩ :=HC.out.st;have c0:=Xk HG;have c1:=Xl HG;have c2:=Xn HG;clear HG hg;go_upto_region 19 with ((go_at_call 117;(with_reducible refine(Yo.calls t false _ HNM.out).mono ?_);rintro e wp5 ⟨rfl,hw_⟩;have zwp5:=hw_.size;have nHC:=Qa.mk (HC.out.below hw_);have nVb2:=Qa.mk (Vb2.out.below hw_);clear HC Vb2;have HC:=nHC;have Vb2:=nVb2;clear nHC nVb2;clear hw_))
     clear c0 c1 c2;go_wp2_with((go_at_call 44;(with_reducible refine(V7 g s t p 10 w0 _ HC.out.st).mono ?_);rintro e we ⟨rfl,rfl⟩));exact⟨rfl,Y7.err HC.out.bel HC.out.keep⟩
set_option maxRecDepth 100000 in
set_option maxHeartbeats 4000000 in
theorem N4 (s:ByteArray) (hs:s.size≤4096) (k n:Nat) (hn:n≤13) (h13:R5 s k) (hl:n < 13→∀j,j≤k→R4 s j (n+1)):R4 s (k+1) n:=by
 intro m hm g p t w0 w r hr hI hB hp;have H13:=Qa.mk h13;have HS:=Qa.mk hs;have HP:=Qa.mk hp;have HM:=Qa.mk hm;have hm0:(0 :Int)≤m:=by omega
 have hm1:m≤13 :=by omega
 clear h13 hs hp;simp only [pr] at hr;have hu26:=Tryd.underlying26;have hu65:=Tryd.underlying65;by_cases h13:n=13
 ·have q1:(m==13)=true:=beq_iff_eq.mpr (by omega);rw [if_pos h13] at hr;clear h13 hm hl hn;have HA:=Qa.mk hr;clear hr
  cases r with
  |error q=>
   obtain⟨q,er⟩ :=q;have HC:=Qa.mk (Cx.start (s:=s) hI hB);have gl:=HC.out.lt;clear hI hB;go_enter Tryd.func105,Tryd.ntmps105;go_wp2_with(first|((with_reducible refine Q0 (N:=4) rfl ?_);refine Q5 rfl 4 rfl rfl ?_;intro b4 wa1 hb_ ha_ hw_;have zb4:=hw_.size;have yb4:=Nat.le_of_eq hb_.symm;have nHC:=Qa.mk (HC.out.below hw_);have nVb4:=Qa.mk (Vr.mk (w:=w) ha_ (Nat.le_trans HC.out.size yb4));clear HC;have HC:=nHC;have Vb4:=nVb4;clear nHC nVb4;have kb4:=Vb4.out.ge;clear hw_ ha_ hb_)|(go_at_call 122;(with_reducible refine(H13.out g p t w0 _ _ HA.out HC.out.st HC.out.bel HP.out).mono ?_);rintro e we ⟨rfl,hb,hk⟩));exact⟨rfl,Y7.err hb (Qe.trans HC.out.keep hk (.inl rfl))⟩
  |ok xa=>
   obtain⟨x,p1,t1⟩ :=xa;have HC:=Qa.mk (Cx.start (s:=s) hI hB);have gl:=HC.out.lt;clear hI hB;go_enter Tryd.func105,Tryd.ntmps105;go_wp2_with(first|((with_reducible refine Q0 (N:=4) rfl ?_);refine Q5 rfl 4 rfl rfl ?_;intro b4 wa1 hb_ ha_ hw_;have zb4:=hw_.size;have yb4:=Nat.le_of_eq hb_.symm;have nHC:=Qa.mk (HC.out.below hw_);have nVb4:=Qa.mk (Vr.mk (w:=w) ha_ (Nat.le_trans HC.out.size yb4));clear HC;have HC:=nHC;have Vb4:=nVb4;clear nHC nVb4;have kb4:=Vb4.out.ge;clear hw_ ha_ hb_)|(go_at_call 122;have gx:=Nat.lt_of_lt_of_le HC.out.lt HC.out.size;have qx:=HC.out.size;have lb4_x:=Vb4.out.lt;(with_reducible refine(H13.out g p t w0 _ _ HA.out HC.out.st HC.out.bel HP.out).mono ?_);rintro e wc2 ⟨Ax,cx,rfl,ht_,hi,hb,hk⟩;have zx:=hk.1;have nHC:=Qa.mk (HC.out.call hi hb hk);have nVb4:=Qa.mk (Vb4.out.call hk gl);have nTx:=Qa.mk (ht_);clear HC Vb4;have HC:=nHC;have Vb4:=nVb4;have Tx:=nTx;clear nHC nVb4 nTx;clear ht_ hi hb hk)|(refine Xb rfl 4 (.tmp 11) rfl rfl rfl rfl Vb4.out.at_ ?_;intro ws3 ha_ hw_;have zws3:=hw_.kept.1;have nHC:=Qa.mk (HC.out.wrote hw_ Vb4.out.ge);have nTx:=Qa.mk (Tx.out.wrote hw_ (by omega));have nVb4:=Qa.mk (Vr.mk (w:=w) ha_ Vb4.out.ge);clear HC Tx Vb4;have HC:=nHC;have Tx:=nTx;have Vb4:=nVb4;clear nHC nTx nVb4;clear hw_ ha_));refine bodyPost_ret (results_cell_row rfl _ _ b4 26 #[.int .i64 (x.f0),.int .i64 (x.f1),.string (x.f2),.slice Ax x.f3.length cx] (0,0) _ rfl Vb4.out.at_ Tryd.underlying26 rfl (by kernel_rfl)) rfl ?_;exact Y7.done Tx.out HC.out (by omega) (by omega)
 have q1:(m==13)=false:=beq_eq_false_iff_ne.mpr (by omega);have hm2:m≤12 :=by omega
 rw [if_neg h13] at hr;have HL:=Qa.mk (hl (by omega));clear h13 hm hl hn
 cases hA:pr s k (.level (n+1)) p t with
 |none=>rw [hA] at hr;simp [Zu] at hr
 |some ra=>
  rw [hA] at hr;have HA:=Qa.mk hA;clear hA
  cases ra with
  |error q=>
   obtain⟨q,er⟩ :=q;simp only [Zu,Option.some.injEq] at hr;subst hr;have HC:=Qa.mk (Cx.start (s:=s) hI hB);have gl:=HC.out.lt;clear hI hB;go_enter Tryd.func105,Tryd.ntmps105;go_wp2_with(first|((with_reducible refine Q0 (N:=4) rfl ?_);refine Q5 rfl 4 rfl rfl ?_;intro b4 wa1 hb_ ha_ hw_;have zb4:=hw_.size;have yb4:=Nat.le_of_eq hb_.symm;have nHC:=Qa.mk (HC.out.below hw_);have nVb4:=Qa.mk (Vr.mk (w:=w) ha_ (Nat.le_trans HC.out.size yb4));clear HC;have HC:=nHC;have Vb4:=nVb4;clear nHC nVb4;have kb4:=Vb4.out.ge;clear hw_ ha_ hb_)|(go_at_call 105;(with_reducible refine(HL.out k (Nat.le_refl _) (m+1) (by have:=HM.out;omega) g p t w0 _ _ HA.out HC.out.st HC.out.bel HP.out).mono ?_);rintro e we ⟨rfl,hb,hk⟩));exact⟨rfl,Y7.err hb (Qe.trans HC.out.keep hk (.inl rfl))⟩
  |ok xa=>
   obtain⟨x,p1,t1⟩ :=xa;have HP1:=Qa.mk (W8 s _ _ _ _ _ _ _ HP.out HA.out);simp only [Zu] at hr;have HR:=Qa.mk hr;clear hr;have HC:=Qa.mk (Cx.start (s:=s) hI hB);have gl:=HC.out.lt;clear hI hB;go_enter Tryd.func105,Tryd.ntmps105;go_wp2_with(first|((with_reducible refine Q0 (N:=4) rfl ?_);refine Q5 rfl 4 rfl rfl ?_;intro b4 wa1 hb_ ha_ hw_;have zb4:=hw_.size;have yb4:=Nat.le_of_eq hb_.symm;have nHC:=Qa.mk (HC.out.below hw_);have nVb4:=Qa.mk (Vr.mk (w:=w) ha_ (Nat.le_trans HC.out.size yb4));clear HC;have HC:=nHC;have Vb4:=nVb4;clear nHC nVb4;have kb4:=Vb4.out.ge;clear hw_ ha_ hb_)|(go_at_call 105;have gx:=Nat.lt_of_lt_of_le HC.out.lt HC.out.size;have qx:=HC.out.size;have lb4_x:=Vb4.out.lt;(with_reducible refine(HL.out k (Nat.le_refl _) (m+1) (by have:=HM.out;omega) g p t w0 _ _ HA.out HC.out.st HC.out.bel HP.out).mono ?_);rintro e wc2 ⟨Ax,cx,rfl,ht_,hi,hb,hk⟩;have zx:=hk.1;have nHC:=Qa.mk (HC.out.call hi hb hk);have nVb4:=Qa.mk (Vb4.out.call hk gl);have nTx:=Qa.mk (ht_);clear HC Vb4;have HC:=nHC;have Vb4:=nVb4;have Tx:=nTx;clear nHC nVb4 nTx;clear ht_ hi hb hk)|((with_reducible refine Q0 (N:=5) rfl ?_);refine Q5 rfl 5 rfl rfl ?_;intro b5 wa3 hb_ ha_ hw_;have lb4_b5:=Vb4.out.lt;have zb5:=hw_.size;have yb5:=Nat.le_of_eq hb_.symm;have nHC:=Qa.mk (HC.out.below hw_);have nVb4:=Qa.mk (Vb4.out.below hw_);have nTx:=Qa.mk (Tx.out.below hw_);have nVb5:=Qa.mk (Vr.mk (w:=w) ha_ (Nat.le_trans HC.out.size yb5));clear HC Vb4 Tx;have HC:=nHC;have Vb4:=nVb4;have Tx:=nTx;have Vb5:=nVb5;clear nHC nVb4 nTx nVb5;have kb5:=Vb5.out.ge;clear hw_ ha_ hb_)|(refine Xb rfl 5 (.tmp 15) rfl rfl rfl rfl Vb5.out.at_ ?_;intro ws4 ha_ hw_;have zws4:=hw_.kept.1;have nHC:=Qa.mk (HC.out.wrote hw_ Vb5.out.ge);have nVb4:=Qa.mk (Vb4.out.wrote hw_ (by omega));have nTx:=Qa.mk (Tx.out.wrote hw_ (by omega));have nVb5:=Qa.mk (Vr.mk (w:=w) ha_ Vb5.out.ge);clear HC Vb4 Tx Vb5;have HC:=nHC;have Vb4:=nVb4;have Tx:=nTx;have Vb5:=nVb5;clear nHC nVb4 nTx nVb5;clear hw_ ha_));have TX:=Qa.mk (Tx.out.trX (X:=b5) (by omega));clear Tx;obtain⟨lo,hlo⟩ :∃lo,wa1.heap.size=lo:=⟨_,rfl⟩;rw [hlo] at TX;have n1:b4 < lo:=by omega
   have n2:g < lo:=by omega
   have n3:w.heap.size≤lo:=by omega
   have n4:b4 < b5:=by omega
   have HI:=Qa.mk (show wc2.heap.size≤ws4.heap.size by omega);(try simp only [Act.put,List.setIfInBounds_toArray,List.set_cons_zero,List.set_cons_succ])
   go_loopg [] k (fun kq wr=>∃(x:S26) (p:Nat) (t:ByteArray) (A:Option Addr) (c hi:Nat),Qa (pr s kq (.more n x) p t=some r)∧Qa (kq≤k)∧Qa (p+t.size≤s.size)∧Qa (Cx s g w0 w wr p t)∧Qa (Vr w wr b4 0 0 ⟨#[]⟩ none 0 0)∧Qa (Vr w wr b5 x.f0 x.f1 x.f2 A x.f3.length c)∧Qa (TrX b5 wr lo hi A c x.f3)∧Qa (hi≤wr.heap.size))
   case atStart=>exact⟨x,p1,t1,Ax,cx,_,HR,⟨Nat.le_refl _⟩,HP1,HC,Vb4,Vb5,TX,HI⟩
   case round=>
    clear HR HP1 HC Vb4 Vb5 TX HI HA HP;obtain⟨x,p,t,Ax,cx,hi,HR,HKQ,HP,HC,Vb4,Vb5,Tx,HI⟩ :=hrel
    cases gk with
    |zero=>exact absurd HR.out (by simp [pr])
    |succ j=>
     have hr:=HR.out;clear HR;simp only [pr] at hr;have HQ:=Qa.mk (Yc s _ _ HP.out)
     cases hG:Xy.f t with
     |none=>rw [hG] at hr;simp at hr
     |some ol=>
      obtain⟨op,l⟩ :=ol;rw [hG] at hr;have HG:=Qa.mk hG;clear hG;simp only at hr;by_cases hln:l=(n:Int)
      rotate_left
      ·have v1:(l==m)=false:=beq_eq_false_iff_ne.mpr (by have:=HM.out;omega);have v2:(l !=m)=true:=bne_iff_ne.mpr (by have:=HM.out;omega);rw [if_neg hln] at hr;clear hln;simp only [Option.some.injEq] at hr;subst hr;obtain⟨HG,hg⟩ :=HC.out.st;have c0:=Xk HG;have c1:=Xl HG;have c2:=Xn HG;clear HG hg;go_upto_region 5 with (first|(go_at_call 107;(with_reducible refine(Xy.calls t op l _ HG.out).mono ?_);rintro e wp21 ⟨rfl,hd_⟩;have hw_:=hd_.below;have zwp21:=hw_.size;have nHC:=Qa.mk (HC.out.below hw_);have nVb4:=Qa.mk (Vb4.out.below hw_);have nVb5:=Qa.mk (Vb5.out.below hw_);have nTx:=Qa.mk (Tx.out.below hw_);clear HC Vb4 Vb5 Tx;have HC:=nHC;have Vb4:=nVb4;have Vb5:=nVb5;have Tx:=nTx;clear nHC nVb4 nVb5 nTx;clear hd_ hw_))
       clear c0 c1 c2;obtain⟨x0,x1,x2,x3⟩ :=Vb5.out.at_.cells;have hhi:=HI.out;go_wp2_with(first|(refine Xb rfl 4 (.tmp 27) rfl rfl rfl rfl Vb4.out.at_ ?_;intro ws22 ha_ hw_;have zws22:=hw_.kept.1;have nHC:=Qa.mk (HC.out.wrote hw_ Vb4.out.ge);have nVb5:=Qa.mk (Vb5.out.wrote hw_ (by omega));have nTx:=Qa.mk (Tx.out.wrote hw_ (.inl n1));have nVb4:=Qa.mk (Vr.mk (w:=w) ha_ Vb4.out.ge);clear HC Vb5 Tx Vb4;have HC:=nHC;have Vb5:=nVb5;have Tx:=nTx;have Vb4:=nVb4;clear nHC nVb5 nTx nVb4;clear hw_ ha_));refine bodyPost_ret (results_cell_row rfl _ _ b4 26 #[.int .i64 (x.f0),.int .i64 (x.f1),.string (x.f2),.slice Ax x.f3.length cx] (0,0) _ rfl Vb4.out.at_ Tryd.underlying26 rfl (by kernel_rfl)) rfl ?_;exact Y7.done Tx.out.tr HC.out (by omega) (by omega)
      have v1:(l==m)=true:=beq_iff_eq.mpr (by have:=HM.out;omega);have v2:(l !=m)=false:=bne_eq_false_iff_eq.mpr (by have:=HM.out;omega);rw [if_pos hln] at hr;clear hln
      cases hA:pr s j (.level (n+1)) (Zb s p t) (Yb s p t) with
      |none=>rw [hA] at hr;simp [Zu] at hr
      |some ra=>
       rw [hA] at hr;have HA:=Qa.mk hA;clear hA
       cases ra with
       |error q=>
        obtain⟨q,er⟩ :=q;simp only [Zu,Option.some.injEq] at hr;subst hr;obtain⟨HG,hg⟩ :=HC.out.st;have c0:=Xk HG;have c1:=Xl HG;have c2:=Xn HG;clear HG hg;go_upto_region 5 with (first|(go_at_call 107;(with_reducible refine(Xy.calls t op l _ HG.out).mono ?_);rintro e wp21 ⟨rfl,hd_⟩;have hw_:=hd_.below;have zwp21:=hw_.size;have nHC:=Qa.mk (HC.out.below hw_);have nVb4:=Qa.mk (Vb4.out.below hw_);have nVb5:=Qa.mk (Vb5.out.below hw_);have nTx:=Qa.mk (Tx.out.below hw_);clear HC Vb4 Vb5 Tx;have HC:=nHC;have Vb4:=nVb4;have Vb5:=nVb5;have Tx:=nTx;clear nHC nVb4 nVb5 nTx;clear hd_ hw_))
        clear c0 c1 c2;go_upto_region 8 with (first|(go_at_call 42;have gn1:=Nat.lt_of_lt_of_le HC.out.lt HC.out.size;have qn1:=HC.out.size;have lb4_n1:=Vb4.out.lt;have lb5_n1:=Vb5.out.lt;(with_reducible refine(Zl g s t p w0 _ HC.out.st HC.out.bel HP.out HS.out).mono ?_);rintro e wn22 ⟨rfl,hi,hb,hk⟩;have zn1:=hk.1;have nHC:=Qa.mk (HC.out.call hi hb hk);have nVb4:=Qa.mk (Vb4.out.call hk gl);have nVb5:=Qa.mk (Vb5.out.call hk gl);have nTx:=Qa.mk (Tx.out.call hk (by omega));clear HC Vb4 Vb5 Tx;have HC:=nHC;have Vb4:=nVb4;have Vb5:=nVb5;have Tx:=nTx;clear nHC nVb4 nVb5 nTx;clear hi hb hk))
        refine Y6 (n:=9) (S:=fun w'=>Y8 w' b5 x.f0 x.f1 x.f2 (.slice Ax x.f3.length cx)) (ds:=[8]) #[false,false,false,false,false,false,false,false,false] (by kernel_rfl) rfl rfl Vb5.out.drew.at_ (fun hHeld=>?_)
        have nHC:=Qa.mk (HC.out.drew);have nVb4:=Qa.mk (Vb4.out.drew);have nVb5:=Qa.mk (Vb5.out.drew);have nTx:=Qa.mk (Tx.out.drew);clear HC Vb4 Vb5 Tx;have HC:=nHC;have Vb4:=nVb4;have Vb5:=nVb5;have Tx:=nTx;clear nHC nVb4 nVb5 nTx;have hhi:=HI.out;have zd:wn22.heap.size≤wn22.drew.heap.size:=Nat.le_refl _;refine Xv (i:=0) (N:=some 30) (v:=?_) (a':=?_) #[true,false,false,false,false,false,false,false,false] rfl rfl (by kernel_rfl) (fun _ _ _ h=>h) (Or.inl ⟨by rfl,?_⟩) ?_ ?_
        rotate_left
        ·intro w';go_simp;with_reducible rfl
        rotate_left
        ·simp only [Act.put,List.setIfInBounds_toArray,List.set_cons_zero,List.set_cons_succ,Xc,Xd];rfl
        refine Xv (i:=2) (N:=some 32) (v:=?_) (a':=?_) #[true,false,true,false,false,false,false,false,false] rfl rfl (by kernel_rfl) (fun _ _ _ h=>h) (Or.inl ⟨by rfl,?_⟩) ?_ ?_
        rotate_left
        ·intro w';go_simp;with_reducible rfl
        rotate_left
        ·simp only [Act.put,List.setIfInBounds_toArray,List.set_cons_zero,List.set_cons_succ,Xc,Xd];rfl
        refine Xv (i:=3) (N:=some 33) (v:=?_) (a':=?_) #[true,false,true,true,false,false,false,false,false] rfl rfl (by kernel_rfl) (fun _ _ _ h=>h) (Or.inl ⟨by rfl,?_⟩) ?_ ?_
        rotate_left
        ·intro w';go_simp;with_reducible rfl
        rotate_left
        ·simp only [Act.put,List.setIfInBounds_toArray,List.set_cons_zero,List.set_cons_succ,Xc,Xd];rfl
        refine Xv (i:=4) (N:=some 34) (v:=?_) (a':=?_) #[true,false,true,true,true,false,false,false,false] rfl rfl (by kernel_rfl) (fun _ _ _ h=>h) (Or.inl ⟨by rfl,?_⟩) ?_ ?_
        rotate_left
        ·intro w';go_simp;with_reducible rfl
        rotate_left
        ·simp only [Act.put,List.setIfInBounds_toArray,List.set_cons_zero,List.set_cons_succ,Xc,Xd];rfl
        refine Zt (i:=1) (N:=some 31) (v:=?_) (a':=?_) #[true,true,true,true,true,false,false,false,false] rfl rfl (by kernel_rfl) (fun _ _ _ h=>h) (Or.inl ⟨by rfl,?_⟩) hHeld ?_ ?_
        rotate_left
        ·rintro w' s3;obtain⟨e0,e1,e2,e3⟩ :=s3.cells;go_simp;with_reducible rfl
        rotate_left
        ·simp only [Act.put,List.setIfInBounds_toArray,List.set_cons_zero,List.set_cons_succ,Xc,Xd];rfl
        refine Vn (i:=5) (N:=some 35) #[true,true,true,true,true,true,false,false,false] rfl rfl (by kernel_rfl) (by decide) (fun K hK=>?_);refine N1 Tryd.func105 (by kernel_rfl) rfl #[.pointer (some ⟨g,0,none⟩),.int .i64 (wrap64 (m+1))] (by rfl) rfl (by simp only [List.map_toArray,List.map_cons,List.map_nil];rfl) (Jq q er) ?_;refine(HL.out j (by have:=HKQ.out;omega) (wrap64 (m+1)) (by have:=HM.out;unfold wrap64;omega) g _ _ w0 _ _ HA.out HC.out.st HC.out.bel HQ.out).mono ?_;rintro e we ⟨rfl,hb,hk⟩;exact⟨rfl,rfl,Y7.err hb (Qe.trans HC.out.keep hk (.inl rfl))⟩
       |ok ya=>
        obtain⟨y,p1,t1⟩ :=ya;have HP1:=Qa.mk (W8 s _ _ _ _ _ _ _ HQ.out HA.out);simp only [Zu] at hr;have HR:=Qa.mk hr;clear hr;obtain⟨HG,hg⟩ :=HC.out.st;have c0:=Xk HG;have c1:=Xl HG;have c2:=Xn HG;clear HG hg;go_upto_region 5 with (first|(go_at_call 107;(with_reducible refine(Xy.calls t op l _ HG.out).mono ?_);rintro e wp21 ⟨rfl,hd_⟩;have hw_:=hd_.below;have zwp21:=hw_.size;have nHC:=Qa.mk (HC.out.below hw_);have nVb4:=Qa.mk (Vb4.out.below hw_);have nVb5:=Qa.mk (Vb5.out.below hw_);have nTx:=Qa.mk (Tx.out.below hw_);clear HC Vb4 Vb5 Tx;have HC:=nHC;have Vb4:=nVb4;have Vb5:=nVb5;have Tx:=nTx;clear nHC nVb4 nVb5 nTx;clear hd_ hw_))
        clear c0 c1 c2;go_upto_region 8 with (first|(go_at_call 42;have gn1:=Nat.lt_of_lt_of_le HC.out.lt HC.out.size;have qn1:=HC.out.size;have lb4_n1:=Vb4.out.lt;have lb5_n1:=Vb5.out.lt;(with_reducible refine(Zl g s t p w0 _ HC.out.st HC.out.bel HP.out HS.out).mono ?_);rintro e wn22 ⟨rfl,hi,hb,hk⟩;have zn1:=hk.1;have nHC:=Qa.mk (HC.out.call hi hb hk);have nVb4:=Qa.mk (Vb4.out.call hk gl);have nVb5:=Qa.mk (Vb5.out.call hk gl);have nTx:=Qa.mk (Tx.out.call hk (by omega));clear HC Vb4 Vb5 Tx;have HC:=nHC;have Vb4:=nVb4;have Vb5:=nVb5;have Tx:=nTx;clear nHC nVb4 nVb5 nTx;clear hi hb hk))
        refine Y6 (n:=9) (S:=fun w'=>Y8 w' b5 x.f0 x.f1 x.f2 (.slice Ax x.f3.length cx)) (ds:=[8]) #[false,false,false,false,false,false,false,false,false] (by kernel_rfl) rfl rfl Vb5.out.drew.at_ (fun hHeld=>?_)
        have nHC:=Qa.mk (HC.out.drew);have nVb4:=Qa.mk (Vb4.out.drew);have nVb5:=Qa.mk (Vb5.out.drew);have nTx:=Qa.mk (Tx.out.drew);clear HC Vb4 Vb5 Tx;have HC:=nHC;have Vb4:=nVb4;have Vb5:=nVb5;have Tx:=nTx;clear nHC nVb4 nVb5 nTx;have hhi:=HI.out;have zd:wn22.heap.size≤wn22.drew.heap.size:=Nat.le_refl _;refine Xv (i:=0) (N:=some 30) (v:=?_) (a':=?_) #[true,false,false,false,false,false,false,false,false] rfl rfl (by kernel_rfl) (fun _ _ _ h=>h) (Or.inl ⟨by rfl,?_⟩) ?_ ?_
        rotate_left
        ·intro w';go_simp;with_reducible rfl
        rotate_left
        ·simp only [Act.put,List.setIfInBounds_toArray,List.set_cons_zero,List.set_cons_succ,Xc,Xd];rfl
        refine Xv (i:=2) (N:=some 32) (v:=?_) (a':=?_) #[true,false,true,false,false,false,false,false,false] rfl rfl (by kernel_rfl) (fun _ _ _ h=>h) (Or.inl ⟨by rfl,?_⟩) ?_ ?_
        rotate_left
        ·intro w';go_simp;with_reducible rfl
        rotate_left
        ·simp only [Act.put,List.setIfInBounds_toArray,List.set_cons_zero,List.set_cons_succ,Xc,Xd];rfl
        refine Xv (i:=3) (N:=some 33) (v:=?_) (a':=?_) #[true,false,true,true,false,false,false,false,false] rfl rfl (by kernel_rfl) (fun _ _ _ h=>h) (Or.inl ⟨by rfl,?_⟩) ?_ ?_
        rotate_left
        ·intro w';go_simp;with_reducible rfl
        rotate_left
        ·simp only [Act.put,List.setIfInBounds_toArray,List.set_cons_zero,List.set_cons_succ,Xc,Xd];rfl
        refine Xv (i:=4) (N:=some 34) (v:=?_) (a':=?_) #[true,false,true,true,true,false,false,false,false] rfl rfl (by kernel_rfl) (fun _ _ _ h=>h) (Or.inl ⟨by rfl,?_⟩) ?_ ?_
        rotate_left
        ·intro w';go_simp;with_reducible rfl
        rotate_left
        ·simp only [Act.put,List.setIfInBounds_toArray,List.set_cons_zero,List.set_cons_succ,Xc,Xd];rfl
        refine Zt (i:=1) (N:=some 31) (v:=?_) (a':=?_) #[true,true,true,true,true,false,false,false,false] rfl rfl (by kernel_rfl) (fun _ _ _ h=>h) (Or.inl ⟨by rfl,?_⟩) hHeld ?_ ?_
        rotate_left
        ·rintro w' s3;obtain⟨e0,e1,e2,e3⟩ :=s3.cells;go_simp;with_reducible rfl
        rotate_left
        ·simp only [Act.put,List.setIfInBounds_toArray,List.set_cons_zero,List.set_cons_succ,Xc,Xd];rfl
        refine Vn (i:=5) (N:=some 35) #[true,true,true,true,true,true,false,false,false] rfl rfl (by kernel_rfl) (by decide) (fun K hK=>?_);refine Vz Tryd.func105 (by kernel_rfl) rfl #[.pointer (some ⟨g,0,none⟩),.int .i64 (wrap64 (m+1))] (by rfl) rfl rfl (by simp only [List.map_toArray,List.map_cons,List.map_nil];rfl) ?_;have gy:=Nat.lt_of_lt_of_le HC.out.lt HC.out.size;have qy:=HC.out.size;have lb4_y:=Vb4.out.lt;have lb5_y:=Vb5.out.lt;with_reducible refine(HL.out j (by have:=HKQ.out;omega) (wrap64 (m+1)) (by have:=HM.out;unfold wrap64;omega) g _ _ w0 _ _ HA.out HC.out.st HC.out.bel HQ.out).mono ?_
        rintro e wy ⟨Ay,cy,rfl,ht_,hi_,hb,hk⟩;refine⟨_,rfl,?_⟩;have zy:=hk.1;have nHC:=Qa.mk (HC.out.call hi_ hb hk);have nVb4:=Qa.mk (Vb4.out.call hk gl);have nVb5:=Qa.mk (Vb5.out.call hk gl);have nTx:=Qa.mk (Tx.out.call hk (by omega));have nTy:=Qa.mk (ht_);clear HC Vb4 Vb5 Tx;have HC:=nHC;have Vb4:=nVb4;have Vb5:=nVb5;have Tx:=nTx;have Ty:=nTy;clear nHC nVb4 nVb5 nTx nTy;clear ht_ hi_ hb hk;refine hK.out _ _ Vb5.out.at_ (fun hHeld=>?_);clear hK K;refine Va (a':=?_) ?_ ?_
        rotate_left
        ·show Act.put _ (some 35) _=_
         simp only [Act.put,List.setIfInBounds_toArray,List.set_cons_zero,List.set_cons_succ,Xc,Xd];rfl
        refine Vn (i:=6) (N:=some 36) #[true,true,true,true,true,true,true,false,false] rfl rfl (by kernel_rfl) (by decide) (fun K hK=>?_);have hlt5:=Vb5.out.lt;refine Gn (X:=b5) (by rfl) 36 rfl [(x,Ax,cx),(y,Ay,cy)] (lo:=lo) (hi:=wy.heap.size) (by go_simp;rfl) (Rt (Tx.out.wide (Nat.le_refl _) (by omega)) (Ty.out.trX2 (by omega) (by omega))) (by omega) (Nat.le_refl _) (by omega) (by simp) ?_;intro An cn wl ht_ hw_ hz_;have zl:=hw_.size;have nHC:=Qa.mk (HC.out.below hw_);have nVb4:=Qa.mk (Vb4.out.below hw_);have nVb5:=Qa.mk (Vb5.out.below hw_);have nTn:=Qa.mk (ht_);clear HC Vb4 Vb5;have HC:=nHC;have Vb4:=nVb4;have Vb5:=nVb5;have Tn:=nTn;clear nHC nVb4 nVb5 nTn;clear ht_ hw_;refine hK.out _ _ Vb5.out.at_ (fun hHeld=>?_);clear hK K;refine Va (a':=?_) ?_ ?_
        rotate_left
        ·show Act.put _ (some 36) _=_
         simp only [Act.put,List.setIfInBounds_toArray,List.set_cons_zero,List.set_cons_succ,Xc,Xd];rfl
        refine Xv (i:=7) (N:=some 37) (v:=?_) (a':=?_) #[true,true,true,true,true,true,true,true,false] rfl rfl (by kernel_rfl) (fun _ _ _ h=>h) (Or.inl ⟨by rfl,?_⟩) ?_ ?_
        rotate_left
        ·intro w';go_simp;with_reducible rfl
        rotate_left
        ·simp only [Act.put,List.setIfInBounds_toArray,List.set_cons_zero,List.set_cons_succ,Xc,Xd];rfl
        refine Gt (i:=8) (N:=none) #[true,true,true,true,true,true,true,true,true] rfl rfl (by kernel_rfl) (by decide) (fun K hK=>?_);refine Vg (by rfl) 5 (.tmp 37) rfl rfl rfl rfl Vb5.out.at_ ?_;intro wf ha_ hw_;have zf:=hw_.kept.1;have nHC:=Qa.mk (HC.out.wrote hw_ Vb5.out.ge);have nTn:=Qa.mk (Tn.out.wrote hw_ (.inr (.inr rfl)));have nVb4:=Qa.mk (Vb4.out.wrote hw_ (by omega));have nVb5:=Qa.mk (Vr.mk (w:=w) ha_ Vb5.out.ge);clear HC Tn Vb4 Vb5;have HC:=nHC;have Tn:=nTn;have Vb4:=nVb4;have Vb5:=nVb5;clear nHC nTn nVb4 nVb5;clear hw_ ha_;refine hK.out _ _ ?_;refine Wi (by kernel_rfl) ?_;go_wp2_with(fail)
        go_roundg j
        case measure=>omega
        case rel=>exact⟨⟨op,0,Yq,[x,y]⟩,p1,t1,An,cn,_,HR,⟨by have:=HKQ.out;omega⟩,HP1,HC,Vb4,Vb5,Tn,⟨by omega⟩⟩
theorem Kb (s:ByteArray) (hs:s.size≤4096) (k:Nat):C43 s k∧C70 s k∧R5 s k∧∀n,n≤13→R4 s k n:=by
 induction k using Nat.strongRecOn with
 |_ k ih=>
  cases k with
  |zero=>
   refine⟨?_,?_,?_,?_⟩
   ·intro g p t w0 w r hr;simp [pr] at hr
   ·intro g p t w0 w r hr;simp [pr] at hr
   ·intro g p t w0 w r hr;simp [pr] at hr
   ·intro n _ m _ g p t w0 w r hr;simp [pr] at hr
  |succ k=>
   obtain⟨i1,i2,i3,i4⟩ :=ih k (by omega);refine⟨N0 s hs k i1 i2,G9 s hs k (i4 3 (by omega)) i1 i2,F9 s hs k i1 i3,?_⟩;intro n hn;exact N4 s hs k n hn i3 (fun hlt j hj=>(ih j (by omega)).2.2.2 (n+1) (by omega))
def At1 (W:World) (b t:Nat) (n:Int):Prop:=W.heap[b]? =some (.cells #[.int .i64 n] t (0,0))
theorem At1.cell {W:World} {b t:Nat} {n:Int} (h:At1 W b t n):W.cell? ⟨b,0,none⟩=some (.int .i64 n):=(Qb h 0).trans rfl
theorem Rz {W:World} {b t:Nat} {n n':Int} (h:At1 W b t n):At1 (W.setCell ⟨b,0,none⟩ (.int .i64 n')) b t n'∧Wrote b W (W.setCell ⟨b,0,none⟩ (.int .i64 n')):=by
 have e0:(W.setCell ⟨b,0,none⟩ (.int .i64 n')).heap[b]? =some (.cells #[.int .i64 n'] t (0,0)):=Qt h 0 _ rfl;refine⟨e0,⟨?_,?_⟩⟩
 ·exact Kept.setCell (Kept.refl W (fun k=>k=b)) (p:=⟨b,0,none⟩) (.inl rfl) _
 intro B w0 hb hle;exact Below.setCell hb (p:=⟨b,0,none⟩) hle _
theorem Ux {W:World} {a:Act} {t:TypeId} (ht:t=3∨t=27) {q r:Operand} {o:Oper} (ho:o.op=.store t q r) {b t0:Nat} {n n':Int} (hp:a.eval q=.pointer (some ⟨b,0,none⟩)) (hq:a.eval r=.int .i64 n')
 (hb:At1 W b t0 n):(execOp a.eval o).run Tryd.prog W=.ok .skip (W.setCell ⟨b,0,none⟩ (.int .i64 n')):=by
 have c0:=hb.cell;have f0:=Qd hb 0;have hu3:=Tryd.underlying3;have hu27:=Tryd.underlying27;unfold execOp;simp only [ho,hp,hq];rcases ht with rfl|rfl
 ·go_simp
 go_simp
theorem Kz {ops:Array Oper} {o:Oper} {a:Act} {Q:Exit→Act→World→Prop} {Kc:Act→World→Prop} {W:World} (hw:Region.wanted o (yielded ops a.tmps)=true) (t:TypeId) (ht:t=3∨t=27) (q r:Operand) (hN:o.dst=none) (ho:o.op=.store t q r)
 {b t0:Nat} {n n':Int} (hp:a.eval q=.pointer (some ⟨b,0,none⟩)) (hq:a.eval r=.int .i64 n') (hb:At1 W b t0 n) (h:∀W',At1 W' b t0 n'→Wrote b W W'→Kc a W'):
 if Region.wanted o (yielded ops a.tmps)=true then Oper.wp Tryd.prog o a W Kc Q else Kc (a.put none undef) W:=by
 rw [if_pos hw];unfold Oper.wp;rw [Ux ht ho hp hq hb]
 show Kc (a.put o.dst undef) _
 rw [hN];obtain⟨e1,e2⟩ :=Rz (n':=n') hb;exact h _ e1 e2
theorem Y8.wrote {W W':World} {b b':Nat} {op n:Int} {nm:ByteArray} {v:Value} (h:Y8 W b op n nm v) (hw:Wrote b' W W') (hne:b≠b'):Y8 W' b op n nm v:=Yh h hw.kept hne
theorem At1.wrote {W W':World} {b t b':Nat} {n:Int} (h:At1 W b t n) (hw:Wrote b' W W') (hne:b≠b'):At1 W' b t n:=Yh h hw.kept hne
theorem Y8.below {W W':World} {b:Nat} {op n:Int} {nm:ByteArray} {v:Value} (h:Y8 W b op n nm v) (hw:Below W.heap.size W W'):Y8 W' b op n nm v:=(hw.block b (Xr h)).trans h
theorem At1.below {W W':World} {b t:Nat} {n:Int} (h:At1 W b t n) (hw:Below W.heap.size W W'):At1 W' b t n:=(hw.block b (Xr h)).trans h
def Tt (F:World→Prop):Exit→Act→World→Prop
 |.normal,a,w=>a.defers=[]∧F w
 |.ret,a,w=>a.defers=[]∧F w
 |_,_,_=>False
theorem M6 {c:Code} {a:Act} {cs:List Frame} {c₀:Frame} {w:World} {fn:Func} {R:Ending→FrameMode→World→Prop} {u':FrameMode} {cs0:List Frame} (hcs:cs0={c₀ with mode:=u'}::cs) (F:World→Prop) (hr:fn.results=#[]) (hR:∀w,F w→R (.returned (.tuple #[])) u' w)
 (h:c.wp Tryd.prog (Tt F) a w):c.wpS Tryd.prog (bodyPostS Tryd.prog fn c₀ cs R) a cs0 w:=by
 subst hcs;refine wpS_of_wp (wp_mono h ?_);intro e a w hq
 cases e with
 |normal=>exact⟨hq.1,u',rfl,_,results_none hr _ _ _,hR w hq.2⟩
 |ret=>exact⟨hq.1,u',rfl,_,results_none hr _ _ _,hR w hq.2⟩
 |exit id=>exact hq.elim
 |goto l=>exact hq.elim
 |panic ch=>exact hq.elim
 |outgrown=>exact hq.elim
theorem catch_idle (b2 b3 b4:Nat) (w:World):
 CallsD Tryd.prog 41 #[.pointer (some ⟨b2,0,none⟩),.pointer (some ⟨b3,0,none⟩),.pointer (some ⟨b4,0,none⟩)] .returning w fun e u' w'=>e=.returned (.tuple #[])∧u'=.returning∧w'=w:=by
 refine callsD_of_wpS Tryd.func41 rfl fun c₀ cs hu=>?_
 simp only [Tryd.ntmps41,List.size_toArray,List.length_cons,List.length_nil,Nat.reduceAdd,Nat.reduceSub,Array.replicate_succ,Array.replicate_zero,List.push_toArray,List.append_toArray,List.nil_append,List.cons_append];apply wpS_seq;apply wpS_region;simp [wpOpsS,go_sem,recoverD,hu,Exit.thenS];refine M6 (u':=.returning) (by cases c₀;simp_all) (fun w'=>w'=w) Tryd.results41 (fun w' h=>⟨rfl,rfl,h⟩) ?_;have hu20:=Tryd.underlying20;go_wp2;exact⟨rfl,rfl⟩
structure Ls (w0:World) (b2 b3 b4:Nat) (at_ er:Int) (w w':World):Prop where
 x:Y8 w' b2 0 0 ⟨#[]⟩ (.slice none 0 0)
 at_:At1 w' b3 3 at_
 er:At1 w' b4 27 er
 bel:∀B,Below B w0 w→B≤b2→B≤b3→B≤b4→B≤w.heap.size→Below B w0 w'
set_option maxRecDepth 100000 in
set_option maxHeartbeats 4000000 in
theorem Gk (w0:World) (b2 b3 b4:Nat) (at_ er:Int) (w:World) {op n:Int} {nm:ByteArray} {v:Value} {a0 e0:Int} (h2:Y8 w b2 op n nm v) (h3:At1 w b3 3 a0) (h4:At1 w b4 27 e0) (n23:b2 < b3) (n34:b3 < b4):
 CallsD Tryd.prog 41 #[.pointer (some ⟨b2,0,none⟩),.pointer (some ⟨b3,0,none⟩),.pointer (some ⟨b4,0,none⟩)] (.panicking [{v:=.iface 62 (.agg #[.int .i64 at_,.int .i64 er]),recovered:=false}]) w
  fun e u' w'=>e=.returned (.tuple #[])∧u'=.panicking [{v:=.iface 62 (.agg #[.int .i64 at_,.int .i64 er]),recovered:=true}]∧Ls w0 b2 b3 b4 at_ er w w':=by
 refine callsD_of_wpS Tryd.func41 rfl fun c₀ cs hu=>?_
 simp only [Tryd.ntmps41,List.size_toArray,List.length_cons,List.length_nil,Nat.reduceAdd,Nat.reduceSub,Array.replicate_succ,Array.replicate_zero,List.push_toArray,List.append_toArray,List.nil_append,List.cons_append];apply wpS_seq;apply wpS_region;simp [wpOpsS,go_sem,recoverD,hu,Exit.thenS];refine M6 (u':=.panicking [{v:=.iface 62 (.agg #[.int .i64 at_,.int .i64 er]),recovered:=true}]) rfl (fun w'=>Ls w0 b2 b3 b4 at_ er w w') Tryd.results41 (fun w' h=>⟨rfl,rfl,h⟩) ?_;have hu20:=Tryd.underlying20;have hu62:=Tryd.underlying62;have hu26:=Tryd.underlying26;have hta:∀(v:Value) (W:World),(Instr.typeAssert (.iface 62 v) 20 62 true).run Tryd.prog W=.ok (.tuple #[v,.bool true]) W:=fun v W=>by rfl
 go_upto_region 7 with (fail)
 have hbel:Below w.heap.size w (w.alloc (.cells #[.int .i64 at_,.int .i64 er] 62)):=Xu (Below.refl _ _) _;have E2:=Qa.mk (h2.below hbel);have E3:=Qa.mk (h3.below hbel);have E4:=Qa.mk (h4.below hbel);have E5:=Qa.mk (heap_alloc_new w (.cells #[.int .i64 at_,.int .i64 er] 62));have l2:=Xr h2;have l3:=Xr h3;have l4:=Xr h4;have HB:=Qa.mk hbel;clear hbel h2 h3 h4;generalize w.alloc (.cells #[.int .i64 at_,.int .i64 er] 62)=W at*;obtain⟨b5,hb5⟩ :∃b5,w.heap.size=b5:=⟨_,rfl⟩;rw [hb5] at l2 l3 l4 E5 ⊢;have Hb5:=Qa.mk hb5;clear hb5;refine Y6 (n:=8) (S:=fun w'=>w'.heap[b5]? =some (.cells #[.int .i64 at_,.int .i64 er] 62 (0,0))) (ds:=[7]) #[false,false,false,false,false,false,false,false] (by kernel_rfl) rfl rfl E5.out (fun hHeld=>?_)
 refine Xv (i:=0) (N:=some 12) (v:=?_) (a':=?_) #[true,false,false,false,false,false,false,false] rfl rfl (by kernel_rfl) (fun _ _ _ h=>h) (Or.inl ⟨by rfl,?_⟩) ?_ ?_
 rotate_left
 ·intro w';go_simp;with_reducible rfl
 rotate_left
 ·simp only [Act.put,List.setIfInBounds_toArray,List.set_cons_zero,List.set_cons_succ,Xc,Xd];rfl
 refine Xv (i:=1) (N:=some 13) (v:=?_) (a':=?_) #[true,true,false,false,false,false,false,false] rfl rfl (by kernel_rfl) (fun _ _ _ h=>h) (Or.inl ⟨by rfl,?_⟩) ?_ ?_
 rotate_left
 ·intro w';go_simp;with_reducible rfl
 rotate_left
 ·simp only [Act.put,List.setIfInBounds_toArray,List.set_cons_zero,List.set_cons_succ,Xc,Xd];rfl
 refine Xv (i:=3) (N:=some 15) (v:=?_) (a':=?_) #[true,true,false,true,false,false,false,false] rfl rfl (by kernel_rfl) (fun _ _ _ h=>h) (Or.inl ⟨by rfl,?_⟩) ?_ ?_
 rotate_left
 ·intro w';go_simp;with_reducible rfl
 rotate_left
 ·simp only [Act.put,List.setIfInBounds_toArray,List.set_cons_zero,List.set_cons_succ,Xc,Xd];rfl
 refine Zt (i:=2) (N:=some 14) (v:=?_) (a':=?_) #[true,true,true,true,false,false,false,false] rfl rfl (by kernel_rfl) (fun _ _ _ h=>h) (Or.inl ⟨by rfl,?_⟩) hHeld ?_ ?_
 rotate_left
 ·rintro w' s3;have e0:=(Qb s3 0).trans rfl;have e1:=(Qb s3 1).trans rfl;simp at e0 e1;go_simp;with_reducible rfl
 rotate_left
 ·simp only [Act.put,List.setIfInBounds_toArray,List.set_cons_zero,List.set_cons_succ,Xc,Xd];rfl
 refine Zt (i:=4) (N:=some 16) (v:=?_) (a':=?_) #[true,true,true,true,true,false,false,false] rfl rfl (by kernel_rfl) (fun _ _ _ h=>h) (Or.inl ⟨by rfl,?_⟩) hHeld ?_ ?_
 rotate_left
 ·rintro w' s3;have e0:=(Qb s3 0).trans rfl;have e1:=(Qb s3 1).trans rfl;simp at e0 e1;go_simp;with_reducible rfl
 rotate_left
 ·simp only [Act.put,List.setIfInBounds_toArray,List.set_cons_zero,List.set_cons_succ,Xc,Xd];rfl
 refine Vn (i:=5) (N:=none) #[true,true,true,true,true,true,false,false] rfl rfl (by kernel_rfl) (by decide) (fun K hK=>?_);refine Vg (by rfl) 0 (.tmp 12) rfl rfl rfl rfl (E2.out.below (Yx (Below.refl _ _))) ?_;intro W1 G2 R1;have R1':=Qa.mk R1;have F2:=Qa.mk G2;have F3:=Qa.mk ((E3.out.below (Yx (Below.refl _ _))).wrote R1 (by omega));have F4:=Qa.mk ((E4.out.below (Yx (Below.refl _ _))).wrote R1 (by omega));have S1:=Yh hHeld R1.kept (by omega);clear G2 R1;refine hK.out _ _ S1 (fun hHeld1=>?_);refine Vn (i:=6) (N:=none) #[true,true,true,true,true,true,true,false] rfl rfl (by kernel_rfl) (by decide) (fun K2 hK2=>?_);refine Kz (by rfl) 3 (.inl rfl) (.tmp 1) (.tmp 14) rfl rfl rfl rfl F3.out ?_;intro W2 G3 R2;have R2':=Qa.mk R2;have I2:=Qa.mk (F2.out.wrote R2 (by omega));have I3:=Qa.mk G3;have I4:=Qa.mk (F4.out.wrote R2 (by omega));have S2:=Yh hHeld1 R2.kept (by omega);clear G3 R2;refine hK2.out _ _ S2 (fun hHeld2=>?_);refine Gt (i:=7) (N:=none) #[true,true,true,true,true,true,true,true] rfl rfl (by kernel_rfl) (by decide) (fun K3 hK3=>?_);refine Kz (by rfl) 27 (.inr rfl) (.tmp 2) (.tmp 16) rfl rfl rfl rfl I4.out ?_;intro W3 G4 R3;refine hK3.out _ _ ?_;refine Wi (by kernel_rfl) ?_;go_wp2_with(fail);refine⟨rfl,I2.out.wrote R3 (by omega),I3.out.wrote R3 (by omega),G4,?_⟩;intro B h0 k2 k3 k4 k5;refine R3.below _ _ (R2'.out.below _ _ (R1'.out.below _ _ ((h0.trans (Below.mono HB.out k5)).trans (Yx (Below.refl _ _))) k2) k3) k4
end Go.Proofs.YtglmdfddgmkmaaaDoor.Q
end
section
namespace Go.Proofs.YtglmdfddgmkmaaaDoor.Q
open Go.RowKit Go.Proofs.YtglmdfddgmkmaaaDoorW.PrintWords Go.Proofs.YtglmdfddgmkmaaaDoorW.PrintLast Go.Proofs.YtglmdfddgmkmaaaDoorW.PrintMore
attribute [local go_sem] Z0 Z2 Yd Ye Zq Zr Z1 Z3
set_option linter.unusedVariables false
set_option linter.unusedSimpArgs false
abbrev PR:=Int×Int×ByteArray×List S26×Int×Int
def Lv (w:World) (r:PR) (e:Ending) (w':World):Prop:=∃v,e=.returned (.tuple #[.agg #[.int .i64 r.1,.int .i64 r.2.1,.string r.2.2.1,v],.int .i64 r.2.2.2.2.1,.int .i64 r.2.2.2.2.2])∧Kd.R k26 26 w' w.heap.size (fun _=>True) v r.2.2.2.1∧Below w.heap.size w w'
structure Ds (w W:World) (b2 b3 b4:Nat) (op n:Int) (nm:ByteArray) (A:Option Addr) (l c:Nat) (a e:Int):Prop where
 x:Y8 W b2 op n nm (.slice A l c)
 at_:At1 W b3 3 a
 er:At1 W b4 27 e
 bel:Below w.heap.size w W
 ge:w.heap.size≤b2
 n23:b2 < b3
 n34:b3 < b4
section
variable {w W W':World} {b2 b3 b4:Nat} {op n:Int} {nm:ByteArray} {A:Option Addr} {l c:Nat} {a e:Int}
theorem Ds.below (h:Ds w W b2 b3 b4 op n nm A l c a e) (hb:Below W.heap.size W W'):Ds w W' b2 b3 b4 op n nm A l c a e:=⟨h.x.below hb,h.at_.below hb,h.er.below hb,Y4 h.bel h.bel.size hb,h.ge,h.n23,h.n34⟩
theorem Ds.lt (h:Ds w W b2 b3 b4 op n nm A l c a e):b2 < W.heap.size∧b3 < W.heap.size∧b4 < W.heap.size:=⟨Xr h.x,Xr h.at_,Xr h.er⟩
theorem Ds.call {g:Nat} (h:Ds w W b2 b3 b4 op n nm A l c a e) (hb:Below w.heap.size w W') (hk:Qe W W' g none) (hg:b4 < g):Ds w W' b2 b3 b4 op n nm A l c a e:=
 have n1:=h.n23;have n2:=h.n34;⟨(hk.2 b2 h.lt.1 (by omega) (by simp)).trans h.x,(hk.2 b3 h.lt.2.1 (by omega) (by simp)).trans h.at_,(hk.2 b4 h.lt.2.2 (by omega) (by simp)).trans h.er,hb,h.ge,h.n23,h.n34⟩
theorem Ds.wrote {b:Nat} (h:Ds w W b2 b3 b4 op n nm A l c a e) (hw:Wrote b W W') (hg:b4 < b):Ds w W' b2 b3 b4 op n nm A l c a e:=
 have n1:=h.n23;have n2:=h.n34;have n0:=h.ge;⟨h.x.wrote hw (by omega),h.at_.wrote hw (by omega),h.er.wrote hw (by omega),hw.below _ _ h.bel (by omega),h.ge,h.n23,h.n34⟩
theorem Ds.set2 (h:Ds w W b2 b3 b4 op n nm A l c a e) {op' n':Int} {nm':ByteArray} {A':Option Addr} {l' c':Nat} (hx:Y8 W' b2 op' n' nm' (.slice A' l' c')) (hw:Wrote b2 W W'):Ds w W' b2 b3 b4 op' n' nm' A' l' c' a e:=
 have n1:=h.n23;have n2:=h.n34;have n0:=h.ge;⟨hx,h.at_.wrote hw (by omega),h.er.wrote hw (by omega),hw.below _ _ h.bel (by omega),h.ge,h.n23,h.n34⟩
theorem Ds.set3 (h:Ds w W b2 b3 b4 op n nm A l c a e) {a':Int} (hx:At1 W' b3 3 a') (hw:Wrote b3 W W'):Ds w W' b2 b3 b4 op n nm A l c a' e:=
 have n1:=h.n23;have n2:=h.n34;have n0:=h.ge;⟨h.x.wrote hw (by omega),hx,h.er.wrote hw (by omega),hw.below _ _ h.bel (by omega),h.ge,h.n23,h.n34⟩
theorem Ds.set4 (h:Ds w W b2 b3 b4 op n nm A l c a e) {e':Int} (hx:At1 W' b4 27 e') (hw:Wrote b4 W W'):Ds w W' b2 b3 b4 op n nm A l c a e':=
 have n1:=h.n23;have n2:=h.n34;have n0:=h.ge;⟨h.x.wrote hw (by omega),h.at_.wrote hw (by omega),hx,hw.below _ _ h.bel (by omega),h.ge,h.n23,h.n34⟩
theorem Ds.results (h:Ds w W b2 b3 b4 op n nm A l c a e) {tmps:Array Value} (p2:tmps.getD 2 undef=.pointer (some ⟨b2,0,none⟩)) (p3:tmps.getD 3 undef=.pointer (some ⟨b3,0,none⟩)) (p4:tmps.getD 4 undef=.pointer (some ⟨b4,0,none⟩)):
 (Go.results Tryd.f18 tmps).run Tryd.prog W=.ok (.tuple #[.agg #[.int .i64 op,.int .i64 n,.string nm,.slice A l c],.int .i64 a,.int .i64 e]) W:=by
 have e3:=h.at_.cell;have e4:=h.er.cell;have hx:=h.x;unfold Y8 at hx;have q2:tmps[2]?.getD undef=.pointer (some ⟨b2,0,none⟩):=by simpa using p2
 have q3:tmps[3]?.getD undef=.pointer (some ⟨b3,0,none⟩):=by simpa using p3
 have q4:tmps[4]?.getD undef=.pointer (some ⟨b4,0,none⟩):=by simpa using p4
 have r2:=run_loadVar_row (P:=Tryd.prog) W b2 26 26 _ (0,0) _ hx Tryd.underlying26 rfl (by kernel_rfl);have u3:=Tryd.underlying3;have u27:=Tryd.underlying27;simp [Go.results,Tryd.results18,q2,q3,q4,asAddr,r2];go_simp
theorem Ds.leave (h:Ds w W b2 b3 b4 op n nm A l c a e) {tmps:Array Value} (p2:tmps.getD 2 undef=.pointer (some ⟨b2,0,none⟩)) (p3:tmps.getD 3 undef=.pointer (some ⟨b3,0,none⟩)) (p4:tmps.getD 4 undef=.pointer (some ⟨b4,0,none⟩))
 {xs:List S26} {hi:Nat} (hT:Tr W w.heap.size hi A c xs) (hl:l=xs.length):
 Leaves Tryd.prog Tryd.f18 tmps (Lv w (op,n,nm,xs,a,e)) [{target:=.fn (.func 41) #[.pointer (some ⟨b2,0,none⟩),.pointer (some ⟨b3,0,none⟩),.pointer (some ⟨b4,0,none⟩)],args:=#[]}] .returning W:=by
 subst hl;refine leaves_cons (f:=41) (args:=#[.pointer (some ⟨b2,0,none⟩),.pointer (some ⟨b3,0,none⟩),.pointer (some ⟨b4,0,none⟩)]) (by simp) (by simp [go_sem]) ?_;refine(catch_idle b2 b3 b4 W).mono ?_;rintro e u' w'' ⟨rfl,rfl,rfl⟩;exact⟨_,h.results p2 p3 p4,_,rfl,Kd.R_mono hT (fun _ _=>trivial),h.bel⟩
theorem Ds.leave_fault (h:Ds w W b2 b3 b4 op n nm A l c a e) {tmps:Array Value} (p2:tmps.getD 2 undef=.pointer (some ⟨b2,0,none⟩)) (p3:tmps.getD 3 undef=.pointer (some ⟨b3,0,none⟩)) (p4:tmps.getD 4 undef=.pointer (some ⟨b4,0,none⟩))
 (p:Nat) (er:Int):
 Leaves Tryd.prog Tryd.f18 tmps (Lv w (0,0,⟨#[]⟩,[],p,er)) [{target:=.fn (.func 41) #[.pointer (some ⟨b2,0,none⟩),.pointer (some ⟨b3,0,none⟩),.pointer (some ⟨b4,0,none⟩)],args:=#[]}] (.panicking (Jq p er)) W:=by
 refine leaves_cons (f:=41) (args:=#[.pointer (some ⟨b2,0,none⟩),.pointer (some ⟨b3,0,none⟩),.pointer (some ⟨b4,0,none⟩)]) (by simp) (by simp [go_sem]) ?_;refine(Gk w b2 b3 b4 p er W h.x h.at_ h.er h.n23 h.n34).mono ?_;rintro e u' w'' ⟨rfl,rfl,hC⟩;have n1:=h.n23;have n2:=h.n34;have n0:=h.ge;have h0:Ds w w'' b2 b3 b4 0 0 ⟨#[]⟩ none 0 0 p er:=⟨hC.x,hC.at_,hC.er,hC.bel _ h.bel (by omega) (by omega) (by omega) h.bel.size,n0,n1,n2⟩;exact⟨_,h0.results p2 p3 p4,_,rfl,Kd.R_nil _ _ _ _ _,h0.bel⟩
end
section
variable {ops:Array Oper} {rest:List Oper} {o:Oper} {a:Act} {Q:Exit→Act→World→Prop}
theorem Yv {W:World} (hgd:o.guard=none) (t:TypeId) (ht:t=3∨t=27) (q r:Operand) (hN:o.dst=none) (ho:o.op=.store t q r)
 {b t0:Nat} {n n':Int} (hp:a.eval q=.pointer (some ⟨b,0,none⟩)) (hq:a.eval r=.int .i64 n') (hb:At1 W b t0 n) (h:∀W',At1 W' b t0 n'→Wrote b W W'→wpList Tryd.prog ops Q rest a W'):
 wpList Tryd.prog ops Q (o::rest) a W:=by
 refine wpList_plain hgd fun K hK=>?_
 unfold Oper.wp;rw [Ux ht ho hp hq hb]
 show K (a.put o.dst undef) _
 rw [hN];obtain⟨e1,e2⟩ :=Rz (n':=n') hb;exact hK _ _ (h _ e1 e2)
end
def Wh (s:ByteArray) (k:Nat):Option PR:=
 if 4096 < s.size then some (0,0,⟨#[]⟩,[],0,3)
 else if(Yb s 0 ⟨#[]⟩).toList=[] then some (1,0,⟨#[]⟩,[],0,0)
 else
  match pr s k .first (Zb s 0 ⟨#[]⟩) (Yb s 0 ⟨#[]⟩) with
  |none=>none
  |some (.error (p,er))=>some (0,0,⟨#[]⟩,[],(p:Int),er)
  |some (.ok (x,p,t))=>
   if ¬t.toList=[] then some (0,0,⟨#[]⟩,[],(p:Int),6)
   else
    match Xi.f k x.f0 x.f1 x.f2 x.f3 with
    |none=>none
    |some n=>if 32 < n then some (0,0,⟨#[]⟩,[],0,5) else some (x.f0,x.f1,x.f2,x.f3,0,0)
theorem Lc (s:ByteArray):0+(⟨#[]⟩ :ByteArray).size≤s.size:=by
 show 0+0≤_
 omega
set_option maxRecDepth 100000 in
set_option maxHeartbeats 4000000 in
theorem Mc (s:ByteArray) (k:Nat) (w:World) (r:PR) (hr:Wh s k=some r):Calls Tryd.prog 18 #[.string s] w (Lv w r):=by
 have hmf:∀(fn:Fn) (first cap:Array Value) (w:World),(Instr.makeFunc fn first cap).run Tryd.prog w=.ok (.func fn first cap) w:=fun _ _ _ _=>rfl
 have hu26:=Tryd.underlying26;have hu65:=Tryd.underlying65;have hu3:=Tryd.underlying3;have hu27:=Tryd.underlying27;go_enter_defers Tryd.func18,Tryd.ntmps18;go_upto_region 1 with ((with_reducible refine Q0 (N:=2) rfl ?_);refine Q5 rfl 2 rfl rfl ?_;intro b2 wa1 hb_ ha_ hw_)
 have HD:Qa (Ds w ((wa1.alloc (.cells #[.int .i64 0] 3)).alloc (.cells #[.int .i64 0] 27)) b2 wa1.heap.size (wa1.heap.size+1) 0 0 ⟨#[]⟩ none 0 0 0 0):=by
  have g3:At1 (wa1.alloc (.cells #[.int .i64 0] 3)) wa1.heap.size 3 0 :=heap_alloc_new wa1 _;have b1:Below wa1.heap.size wa1 (wa1.alloc (.cells #[.int .i64 0] 3)):=Xu (Below.refl _ _) _;have b2':Below (wa1.alloc (.cells #[.int .i64 0] 3)).heap.size (wa1.alloc (.cells #[.int .i64 0] 3)) ((wa1.alloc (.cells #[.int .i64 0] 3)).alloc (.cells #[.int .i64 0] 27)):=Xu (Below.refl _ _) _
  have g4:At1 ((wa1.alloc (.cells #[.int .i64 0] 3)).alloc (.cells #[.int .i64 0] 27)) (wa1.heap.size+1) 27 0 :=by
   have h:=heap_alloc_new (wa1.alloc (.cells #[.int .i64 0] 3)) (.cells #[.int .i64 0] 27);have hs:(wa1.alloc (.cells #[.int .i64 0] 3)).heap.size=wa1.heap.size+1 :=by simp
   rw [hs] at h;exact h
  exact⟨⟨(ha_.below b1).below b2',g3.below b2',g4,Xu (Xu hw_ _) _,by omega,by have:=Xr ha_;omega,by omega⟩⟩
 obtain⟨b4,hb4⟩ :∃b4,wa1.heap.size+1=b4:=⟨_,rfl⟩;obtain⟨b3,hb3⟩ :∃b3,wa1.heap.size=b3:=⟨_,rfl⟩;rw [hb4,hb3,←hb_];rw [hb4,hb3] at HD;have Hb:=Qa.mk (And.intro hb_ (And.intro hb3 hb4));generalize (wa1.alloc (.cells #[.int .i64 0] 3)).alloc (.cells #[.int .i64 0] 27)=W at*;clear hb_ hb3 hb4 hw_ ha_;unfold Wh at hr;by_cases hlen:4096 < s.size
 ·rw [if_pos hlen] at hr;simp only [Option.some.injEq] at hr;subst hr;have q2:((4096 :Int) < (s.size:Int))=True:=eq_true (by omega);go_upto_region 3 with (fail)
  go_wp2_with(first|(refine Xb rfl 2 (.tmp 11) rfl rfl rfl rfl HD.out.x ?_;intro ws2 ha_ hw_;have nHD:=Qa.mk (HD.out.set2 ha_ hw_);clear HD;have HD:=nHD;clear nHD hw_ ha_)|(refine Yv rfl 3 (.inl rfl) (.tmp 3) (.const (.int .i64 0)) rfl rfl rfl rfl HD.out.at_ ?_;intro ws3 ha_ hw_;have nHD:=Qa.mk (HD.out.set3 ha_ hw_);clear HD;have HD:=nHD;clear nHD hw_ ha_)|(refine Yv rfl 27 (.inr rfl) (.tmp 4) (.const (.int .i64 3)) rfl rfl rfl rfl HD.out.er ?_;intro ws4 ha_ hw_;have nHD:=Qa.mk (HD.out.set4 ha_ hw_);clear HD;have HD:=nHD;clear nHD hw_ ha_));exact HD.out.leave rfl rfl rfl (Tr.nil _ _ 0) rfl
 rw [if_neg hlen] at hr;have q2:((4096 :Int) < (s.size:Int))=False:=eq_false (by omega);have HL:=Qa.mk (show s.size≤4096 by omega);clear hlen;go_upto_region 5 with (fail)
 clear q2
 have HC:Qa (Cx s W.heap.size w (W.alloc (.cells #[.string s,.int .i64 ((0 :Nat):Int),.string ⟨#[]⟩] 65)) (W.alloc (.cells #[.string s,.int .i64 ((0 :Nat):Int),.string ⟨#[]⟩] 65)) ((0 :Nat):Int) ⟨#[]⟩):=
  ⟨Cx.start (Zd.new w W s _ _ HD.out.bel) (Xu HD.out.bel _)⟩
 have nHD:=Qa.mk (HD.out.below (W':=W.alloc (.cells #[.string s,.int .i64 ((0 :Nat):Int),.string ⟨#[]⟩] 65)) (Xu (Below.refl _ _) _));have gb:=HD.out.lt.2.2;clear HD;have HD:=nHD;clear nHD;obtain⟨g,hg0⟩ :∃g,W.heap.size=g:=⟨_,rfl⟩;rw [hg0] at HC gb ⊢;have gl:=HC.out.lt;have wl:=HC.out.le;generalize hW1:W.alloc (.cells #[.string s,.int .i64 ((0 :Nat):Int),.string ⟨#[]⟩] 65)=W1 at*;have hW1':W.alloc (.cells #[.string s,.int .i64 0,.string ⟨#[]⟩] 65)=W1:=hW1;try rw [hW1']
 clear hW1 hW1' hg0;by_cases h0:(Yb s 0 ⟨#[]⟩).toList=[]
 ·rw [if_pos h0] at hr;simp only [Option.some.injEq] at hr;subst hr;have q3:((Yb s 0 ⟨#[]⟩).toList==([]:List UInt8))=true:=by simpa using h0
  go_upto_region 6 with (go_at_call 42;(with_reducible refine(Zl g s ⟨#[]⟩ 0 w _ HC.out.st HC.out.bel (Lc s) HL.out).mono ?_);rintro e wn1 ⟨rfl,hi,hb,hk⟩;have nHC:=Qa.mk (HC.out.call hi hb hk);have nHD:=Qa.mk (HD.out.call hb hk gb);clear HC HD;have HC:=nHC;have HD:=nHD;clear nHC nHD;clear hi hb hk)
  obtain⟨HG,hg⟩ :=HC.out.st;have c0:=Xk HG;have c1:=Xl HG;have c2:=Xn HG;clear HG hg;go_upto_region 7 with (fail)
  clear c0 c1 c2;go_wp2_with(first|(refine Xb rfl 2 (.tmp 22) rfl rfl rfl rfl HD.out.x ?_;intro ws2 ha_ hw_;have nHD:=Qa.mk (HD.out.set2 ha_ hw_);clear HD;have HD:=nHD;clear nHD hw_ ha_)|(refine Yv rfl 3 (.inl rfl) (.tmp 3) (.const (.int .i64 0)) rfl rfl rfl rfl HD.out.at_ ?_;intro ws3 ha_ hw_;have nHD:=Qa.mk (HD.out.set3 ha_ hw_);clear HD;have HD:=nHD;clear nHD hw_ ha_)|(refine Yv rfl 27 (.inr rfl) (.tmp 4) (.const (.int .i64 0)) rfl rfl rfl rfl HD.out.er ?_;intro ws4 ha_ hw_;have nHD:=Qa.mk (HD.out.set4 ha_ hw_);clear HD;have HD:=nHD;clear nHD hw_ ha_));exact HD.out.leave rfl rfl rfl (Tr.nil _ _ 0) rfl
 rw [if_neg h0] at hr;have q3:((Yb s 0 ⟨#[]⟩).toList==([]:List UInt8))=false:=by simpa using h0
 have HP:=Qa.mk (Yc s 0 ⟨#[]⟩ (Lc s))
 cases hA:pr s k .first (Zb s 0 ⟨#[]⟩) (Yb s 0 ⟨#[]⟩) with
 |none=>rw [hA] at hr;simp at hr
 |some ra=>
  rw [hA] at hr;have HA:=Qa.mk hA;clear hA
  cases ra with
  |error q=>
   obtain⟨q,er⟩ :=q;simp only [Option.some.injEq] at hr;subst hr;go_upto_region 6 with (go_at_call 42;(with_reducible refine(Zl g s ⟨#[]⟩ 0 w _ HC.out.st HC.out.bel (Lc s) HL.out).mono ?_);rintro e wn1 ⟨rfl,hi,hb,hk⟩;have nHC:=Qa.mk (HC.out.call hi hb hk);have nHD:=Qa.mk (HD.out.call hb hk gb);clear HC HD;have HC:=nHC;have HD:=nHD;clear nHC nHD;clear hi hb hk)
   obtain⟨HG,hg⟩ :=HC.out.st;have c0:=Xk HG;have c1:=Xl HG;have c2:=Xn HG;clear HG hg;go_upto_region 8 with (fail)
   clear c0 c1 c2;go_wp2_with(go_at_call 43;(with_reducible refine((Kb s HL.out k).1 g _ _ w _ _ HA.out HC.out.st HC.out.bel HP.out).mono ?_);rintro e we ⟨rfl,hb,hk⟩);exact(HD.out.call hb hk gb).leave_fault rfl rfl rfl q er
  |ok xa=>
   obtain⟨x,p1,t1⟩ :=xa;have HP1:=Qa.mk (W8 s _ _ _ _ _ _ _ HP.out HA.out);simp only at hr;by_cases h1:t1.toList=[]
   rotate_left
   ·rw [if_pos (by simpa using h1)] at hr;simp only [Option.some.injEq] at hr;subst hr;have q4:(t1.toList==([]:List UInt8))=false:=by simpa using h1
    have q5:(t1.toList !=([]:List UInt8))=true:=by simpa using h1
    go_upto_region 6 with (go_at_call 42;(with_reducible refine(Zl g s ⟨#[]⟩ 0 w _ HC.out.st HC.out.bel (Lc s) HL.out).mono ?_);rintro e wn1 ⟨rfl,hi,hb,hk⟩;have nHC:=Qa.mk (HC.out.call hi hb hk);have nHD:=Qa.mk (HD.out.call hb hk gb);clear HC HD;have HC:=nHC;have HD:=nHD;clear nHC nHD;clear hi hb hk)
    obtain⟨HG,hg⟩ :=HC.out.st;have c0:=Xk HG;have c1:=Xl HG;have c2:=Xn HG;clear HG hg;go_upto_region 8 with (fail)
    clear c0 c1 c2;go_upto_region 9 with (first|(go_at_call 43;have g1:=Nat.lt_of_lt_of_le HC.out.lt HC.out.size;have q1:=HC.out.size;(with_reducible refine((Kb s HL.out k).1 g _ _ w _ _ HA.out HC.out.st HC.out.bel HP.out).mono ?_);rintro e wc1 ⟨Ax,cx,rfl,ht_,hi,hb,hk⟩;have zx:=hk.1;have nHC:=Qa.mk (HC.out.call hi hb hk);have nHD:=Qa.mk (HD.out.call hb hk gb);have Tx:=Qa.mk ht_;clear HC HD;have HC:=nHC;have HD:=nHD;clear nHC nHD;clear ht_ hi hb hk)|((with_reducible refine Q0 (N:=6) rfl ?_);refine Q5 rfl 6 rfl rfl ?_;intro b6 wa6 hb_ ha_ hw_;have zb6:=hw_.size;have yb6:=Nat.le_of_eq hb_.symm;have nHC:=Qa.mk (HC.out.below hw_);have nHD:=Qa.mk (HD.out.below hw_);have nTx:=Qa.mk (Tx.out.below hw_);have Vb6:=Qa.mk (Vr.mk (w:=W1) ha_ (Nat.le_trans HC.out.size yb6));clear Tx;have Tx:=nTx;clear nTx;clear HC HD;have HC:=nHC;have HD:=nHD;clear nHC nHD;clear hw_ ha_ hb_)|(refine Xb rfl 6 (.tmp 24) rfl rfl rfl rfl Vb6.out.at_ ?_;intro ws6 ha_ hw_;have zs6:=hw_.kept.1;have nHC:=Qa.mk (HC.out.wrote hw_ Vb6.out.ge);have nHD:=Qa.mk (HD.out.wrote hw_ (by have:=Vb6.out.ge;omega));have nTx:=Qa.mk (Tx.out.wrote hw_ (by omega));have nVb6:=Qa.mk (Vr.mk (w:=W1) ha_ Vb6.out.ge);clear Tx Vb6;have Tx:=nTx;have Vb6:=nVb6;clear nTx nVb6;clear HC HD;have HC:=nHC;have HD:=nHD;clear nHC nHD;clear hw_ ha_))
    obtain⟨HG,hg⟩ :=HC.out.st;have c0:=Xk HG;have c1:=Xl HG;have c2:=Xn HG;clear HG hg;go_upto_region 10 with (fail)
    clear c0 c1 c2;go_wp2_with(go_at_call 44;(with_reducible refine(V7 g s t1 p1 6 w _ HC.out.st).mono ?_);rintro e we ⟨rfl,rfl⟩);exact HD.out.leave_fault rfl rfl rfl p1 6
   rw [if_neg (by simpa using h1)] at hr;have q4:(t1.toList==([]:List UInt8))=true:=by simpa using h1
   have q5:(t1.toList !=([]:List UInt8))=false:=by simpa using h1
   cases hN:Xi.f k x.f0 x.f1 x.f2 x.f3 with
   |none=>rw [hN] at hr;simp at hr
   |some n=>
    rw [hN] at hr;have HN:=Qa.mk hN;clear hN;simp only at hr;by_cases h32:32 < n
    ·rw [if_pos h32] at hr;simp only [Option.some.injEq] at hr;subst hr;have q6:(32 < n)=True:=eq_true h32;go_upto_region 6 with (go_at_call 42;(with_reducible refine(Zl g s ⟨#[]⟩ 0 w _ HC.out.st HC.out.bel (Lc s) HL.out).mono ?_);rintro e wn1 ⟨rfl,hi,hb,hk⟩;have nHC:=Qa.mk (HC.out.call hi hb hk);have nHD:=Qa.mk (HD.out.call hb hk gb);clear HC HD;have HC:=nHC;have HD:=nHD;clear nHC nHD;clear hi hb hk)
     obtain⟨HG,hg⟩ :=HC.out.st;have c0:=Xk HG;have c1:=Xl HG;have c2:=Xn HG;clear HG hg;go_upto_region 8 with (fail)
     clear c0 c1 c2;go_upto_region 9 with (first|(go_at_call 43;have g1:=Nat.lt_of_lt_of_le HC.out.lt HC.out.size;have q1:=HC.out.size;(with_reducible refine((Kb s HL.out k).1 g _ _ w _ _ HA.out HC.out.st HC.out.bel HP.out).mono ?_);rintro e wc1 ⟨Ax,cx,rfl,ht_,hi,hb,hk⟩;have zx:=hk.1;have nHC:=Qa.mk (HC.out.call hi hb hk);have nHD:=Qa.mk (HD.out.call hb hk gb);have Tx:=Qa.mk ht_;clear HC HD;have HC:=nHC;have HD:=nHD;clear nHC nHD;clear ht_ hi hb hk)|((with_reducible refine Q0 (N:=6) rfl ?_);refine Q5 rfl 6 rfl rfl ?_;intro b6 wa6 hb_ ha_ hw_;have zb6:=hw_.size;have yb6:=Nat.le_of_eq hb_.symm;have nHC:=Qa.mk (HC.out.below hw_);have nHD:=Qa.mk (HD.out.below hw_);have nTx:=Qa.mk (Tx.out.below hw_);have Vb6:=Qa.mk (Vr.mk (w:=W1) ha_ (Nat.le_trans HC.out.size yb6));clear Tx;have Tx:=nTx;clear nTx;clear HC HD;have HC:=nHC;have HD:=nHD;clear nHC nHD;clear hw_ ha_ hb_)|(refine Xb rfl 6 (.tmp 24) rfl rfl rfl rfl Vb6.out.at_ ?_;intro ws6 ha_ hw_;have zs6:=hw_.kept.1;have nHC:=Qa.mk (HC.out.wrote hw_ Vb6.out.ge);have nHD:=Qa.mk (HD.out.wrote hw_ (by have:=Vb6.out.ge;omega));have nTx:=Qa.mk (Tx.out.wrote hw_ (by omega));have nVb6:=Qa.mk (Vr.mk (w:=W1) ha_ Vb6.out.ge);clear Tx Vb6;have Tx:=nTx;have Vb6:=nVb6;clear nTx nVb6;clear HC HD;have HC:=nHC;have HD:=nHD;clear nHC nHD;clear hw_ ha_))
     obtain⟨HG,hg⟩ :=HC.out.st;have c0:=Xk HG;have c1:=Xl HG;have c2:=Xn HG;clear HG hg;go_upto_region 11 with (fail)
     clear c0 c1 c2;obtain⟨x0,x1,x2,x3⟩ :=Vb6.out.at_.cells;go_upto_region 12 with (go_at_call 45;have rT:=Tx.out.reads;(with_reducible refine(Xi.calls k x.f0 x.f1 x.f2 Ax cx x.f3 n _ rT.2 rT.1 HN.out).mono ?_);rintro e wp5 ⟨rfl,hw_⟩;have zp5:=hw_.size;have nHC:=Qa.mk (HC.out.below hw_);have nHD:=Qa.mk (HD.out.below hw_);have nTx:=Qa.mk (Tx.out.below hw_);have nVb6:=Qa.mk (Vb6.out.below hw_);clear Tx Vb6 rT;have Tx:=nTx;have Vb6:=nVb6;clear nTx nVb6;clear HC HD;have HC:=nHC;have HD:=nHD;clear nHC nHD;clear hw_)
     clear x0 x1 x2 x3;go_wp2_with(first|(refine Xb rfl 2 (.tmp 35) rfl rfl rfl rfl HD.out.x ?_;intro ws2 ha_ hw_;have nHD:=Qa.mk (HD.out.set2 ha_ hw_);clear HD;have HD:=nHD;clear nHD hw_ ha_)|(refine Yv rfl 3 (.inl rfl) (.tmp 3) (.const (.int .i64 0)) rfl rfl rfl rfl HD.out.at_ ?_;intro ws3 ha_ hw_;have nHD:=Qa.mk (HD.out.set3 ha_ hw_);clear HD;have HD:=nHD;clear nHD hw_ ha_)|(refine Yv rfl 27 (.inr rfl) (.tmp 4) (.const (.int .i64 5)) rfl rfl rfl rfl HD.out.er ?_;intro ws4 ha_ hw_;have nHD:=Qa.mk (HD.out.set4 ha_ hw_);clear HD;have HD:=nHD;clear nHD hw_ ha_));exact HD.out.leave rfl rfl rfl (Tr.nil _ _ 0) rfl
    rw [if_neg h32] at hr;simp only [Option.some.injEq] at hr;subst hr;have q6:(32 < n)=False:=eq_false h32;go_upto_region 6 with (go_at_call 42;(with_reducible refine(Zl g s ⟨#[]⟩ 0 w _ HC.out.st HC.out.bel (Lc s) HL.out).mono ?_);rintro e wn1 ⟨rfl,hi,hb,hk⟩;have nHC:=Qa.mk (HC.out.call hi hb hk);have nHD:=Qa.mk (HD.out.call hb hk gb);clear HC HD;have HC:=nHC;have HD:=nHD;clear nHC nHD;clear hi hb hk)
    obtain⟨HG,hg⟩ :=HC.out.st;have c0:=Xk HG;have c1:=Xl HG;have c2:=Xn HG;clear HG hg;go_upto_region 8 with (fail)
    clear c0 c1 c2;go_upto_region 9 with (first|(go_at_call 43;have g1:=Nat.lt_of_lt_of_le HC.out.lt HC.out.size;have q1:=HC.out.size;(with_reducible refine((Kb s HL.out k).1 g _ _ w _ _ HA.out HC.out.st HC.out.bel HP.out).mono ?_);rintro e wc1 ⟨Ax,cx,rfl,ht_,hi,hb,hk⟩;have zx:=hk.1;have nHC:=Qa.mk (HC.out.call hi hb hk);have nHD:=Qa.mk (HD.out.call hb hk gb);have Tx:=Qa.mk ht_;clear HC HD;have HC:=nHC;have HD:=nHD;clear nHC nHD;clear ht_ hi hb hk)|((with_reducible refine Q0 (N:=6) rfl ?_);refine Q5 rfl 6 rfl rfl ?_;intro b6 wa6 hb_ ha_ hw_;have zb6:=hw_.size;have yb6:=Nat.le_of_eq hb_.symm;have nHC:=Qa.mk (HC.out.below hw_);have nHD:=Qa.mk (HD.out.below hw_);have nTx:=Qa.mk (Tx.out.below hw_);have Vb6:=Qa.mk (Vr.mk (w:=W1) ha_ (Nat.le_trans HC.out.size yb6));clear Tx;have Tx:=nTx;clear nTx;clear HC HD;have HC:=nHC;have HD:=nHD;clear nHC nHD;clear hw_ ha_ hb_)|(refine Xb rfl 6 (.tmp 24) rfl rfl rfl rfl Vb6.out.at_ ?_;intro ws6 ha_ hw_;have zs6:=hw_.kept.1;have nHC:=Qa.mk (HC.out.wrote hw_ Vb6.out.ge);have nHD:=Qa.mk (HD.out.wrote hw_ (by have:=Vb6.out.ge;omega));have nTx:=Qa.mk (Tx.out.wrote hw_ (by omega));have nVb6:=Qa.mk (Vr.mk (w:=W1) ha_ Vb6.out.ge);clear Tx Vb6;have Tx:=nTx;have Vb6:=nVb6;clear nTx nVb6;clear HC HD;have HC:=nHC;have HD:=nHD;clear nHC nHD;clear hw_ ha_))
    obtain⟨HG,hg⟩ :=HC.out.st;have c0:=Xk HG;have c1:=Xl HG;have c2:=Xn HG;clear HG hg;go_upto_region 11 with (fail)
    clear c0 c1 c2;obtain⟨x0,x1,x2,x3⟩ :=Vb6.out.at_.cells;go_upto_region 13 with (go_at_call 45;have rT:=Tx.out.reads;(with_reducible refine(Xi.calls k x.f0 x.f1 x.f2 Ax cx x.f3 n _ rT.2 rT.1 HN.out).mono ?_);rintro e wp5 ⟨rfl,hw_⟩;have zp5:=hw_.size;have nHC:=Qa.mk (HC.out.below hw_);have nHD:=Qa.mk (HD.out.below hw_);have nTx:=Qa.mk (Tx.out.below hw_);have nVb6:=Qa.mk (Vb6.out.below hw_);clear Tx Vb6 rT;have Tx:=nTx;have Vb6:=nVb6;clear nTx nVb6;clear HC HD;have HC:=nHC;have HD:=nHD;clear nHC nHD;clear hw_)
    clear x0 x1 x2 x3;obtain⟨x0,x1,x2,x3⟩ :=Vb6.out.at_.cells;go_wp2_with(first|(refine Xb rfl 2 (.tmp 36) rfl rfl rfl rfl HD.out.x ?_;intro ws2 ha_ hw_;have nTx:=Qa.mk (Tx.out.wrote hw_ (.inl (by have:=HD.out.n23;have:=HD.out.n34;omega)));clear Tx;have Tx:=nTx;clear nTx;have nHD:=Qa.mk (HD.out.set2 ha_ hw_);clear HD;have HD:=nHD;clear nHD hw_ ha_)|(refine Yv rfl 3 (.inl rfl) (.tmp 3) (.const (.int .i64 0)) rfl rfl rfl rfl HD.out.at_ ?_;intro ws3 ha_ hw_;have nTx:=Qa.mk (Tx.out.wrote hw_ (.inl (by have:=HD.out.n23;have:=HD.out.n34;omega)));clear Tx;have Tx:=nTx;clear nTx;have nHD:=Qa.mk (HD.out.set3 ha_ hw_);clear HD;have HD:=nHD;clear nHD hw_ ha_)|(refine Yv rfl 27 (.inr rfl) (.tmp 4) (.const (.int .i64 0)) rfl rfl rfl rfl HD.out.er ?_;intro ws4 ha_ hw_;have nTx:=Qa.mk (Tx.out.wrote hw_ (.inl (by have:=HD.out.n23;have:=HD.out.n34;omega)));clear Tx;have Tx:=nTx;clear nTx;have nHD:=Qa.mk (HD.out.set4 ha_ hw_);clear HD;have HD:=nHD;clear nHD hw_ ha_));exact HD.out.leave rfl rfl rfl (Tx.out.wide (by omega) (Nat.le_refl _)) rfl
end Go.Proofs.YtglmdfddgmkmaaaDoor.Q
end
section
namespace Go.Proofs.YtglmdfddgmkmaaaDoor.Q
open Go.RowKit Go.Proofs.YtglmdfddgmkmaaaDoorW.PrintWords Go.Proofs.YtglmdfddgmkmaaaDoorW.PrintLast Go.Proofs.YtglmdfddgmkmaaaDoorW.PrintMore
set_option linter.unusedVariables false
set_option linter.unusedSimpArgs false
theorem Y5 {x x':Jy} {f f':S26→Nat→ByteArray→Jy} {r:Except (Nat×Int) (S26×Nat×ByteArray)} (hx:∀q,x=some q→x'=some q) (hf:∀a b c q,f a b c=some q→f' a b c=some q) (h:Zu x f=some r):Zu x' f'=some r:=by
 unfold Zu at h;split at h
 ·simp at h
 ·rename_i e
  rw [hx _ rfl];exact h
 ·rename_i a b c
  rw [hx _ rfl];exact hf _ _ _ _ h
theorem Ge (s:ByteArray):∀(k:Nat) (gl:Gl) (p:Nat) (t:ByteArray) (r:Except (Nat×Int) (S26×Nat×ByteArray)),pr s k gl p t=some r→pr s (k+1) gl p t=some r:=by
 intro k
 induction k with
 |zero=>intro gl p t r h;simp [pr] at h
 |succ k ih=>
  intro gl p t r h
  cases gl with
  |first=>
   rw [pr] at h ⊢;refine Y5 (ih _ _ _) (fun a b c q hq=>?_) h;split at hq
   ·simp at hq
   rename_i op is he
   split at hq
   ·rename_i hc
    rw [if_pos hc];exact Y5 (ih _ _ _) (fun _ _ _ _ hh=>hh) hq
   rename_i hc
   rw [if_neg hc];exact hq
  |second=>
   rw [pr] at h ⊢;refine Y5 (ih _ _ _) (fun a b c q hq=>?_) h;split at hq
   ·rename_i hc
    rw [if_pos hc];refine Y5 (ih _ _ _) (fun a b c q hq=>?_) hq;split at hq
    ·rename_i hc
     rw [if_pos hc];exact Y5 (ih _ _ _) (fun _ _ _ _ hh=>hh) hq
    rename_i hc
    rw [if_neg hc];exact hq
   rename_i hc
   rw [if_neg hc];exact hq
  |level n=>
   rw [pr] at h ⊢;split at h
   ·rename_i hc
    rw [if_pos hc];exact ih _ _ _ _ h
   rename_i hc
   rw [if_neg hc];exact Y5 (ih _ _ _) (fun _ _ _ _ hh=>ih _ _ _ _ hh) h
  |more n x=>
   rw [pr] at h ⊢;split at h
   ·simp at h
   rename_i op l he
   split at h
   ·rename_i hc
    rw [if_pos hc];exact Y5 (ih _ _ _) (fun _ _ _ _ hh=>ih _ _ _ _ hh) h
   rename_i hc
   rw [if_neg hc];exact h
  |operand=>
   rw [pr] at h ⊢;split at h
   ·simp at h
   rename_i op he
   split at h
   ·rename_i hc
    rw [if_pos hc];exact Y5 (ih _ _ _) (fun _ _ _ _ hh=>hh) h
   rename_i hc
   rw [if_neg hc];split at h
   ·rename_i hc
    rw [if_pos hc];exact Y5 (ih _ _ _) (fun _ _ _ _ hh=>hh) h
   rename_i hc
   rw [if_neg hc];exact h
theorem Xi.up (x:S26):∀{k n r},k≤n→Xi.f k x.f0 x.f1 x.f2 x.f3=some r→Xi.f n x.f0 x.f1 x.f2 x.f3=some r:=by
 intro k n r h hr
 induction h with
 |refl=>exact hr
 |step _ ih=>exact Xi.mono _ _ _ _ _ _ ih
theorem G5 (s:ByteArray) (k:Nat) (r:PR) (h:Wh s k=some r):Wh s (k+1)=some r:=by
 unfold Wh at h ⊢;split at h
 ·rename_i hc
  rw [if_pos hc];exact h
 rename_i hc
 rw [if_neg hc];split at h
 ·rename_i hc
  rw [if_pos hc];exact h
 rename_i hc
 rw [if_neg hc];split at h
 ·simp at h
 ·rename_i p er he
  rw [Ge s _ _ _ _ _ he];exact h
 ·rename_i x p t he
  rw [Ge s _ _ _ _ _ he];simp only;split at h
  ·rename_i hc
   rw [if_pos hc];exact h
  rename_i hc
  rw [if_neg hc];split at h
  ·simp at h
  rename_i n hn
  rw [Xi.mono _ _ _ _ _ _ hn];exact h
def Ze.f (k:Nat) (a0:ByteArray):Option (Int×Int×ByteArray×List S26×Int×Int):=Wh a0 k
theorem Ze.mono (a0:ByteArray) (k:Nat):LeO (Ze.f k a0) (Ze.f (k+1) a0):=fun r h=>G5 a0 k r h
theorem Ze.calls (k:Nat) (a0:ByteArray) (r1 r2:Int) (r3:ByteArray) (r4:List S26) (r5 r6:Int) (w:World) (h:Ze.f k a0=some (r1,r2,r3,r4,r5,r6)):
 Calls Tryd.prog 18 #[.string a0] w fun e w'=>∃v3_,e=.returned (.tuple #[.agg #[.int .i64 r1,.int .i64 r2,.string r3,v3_],.int .i64 r5,.int .i64 r6])∧Kd.R k26 26 w' w.heap.size (fun _=>True) v3_ r4∧Below w.heap.size w w':=
 Mc a0 k w _ h
end Go.Proofs.YtglmdfddgmkmaaaDoor.Q
end
section
namespace Go.Proofs.YtglmdfddgmkmaaaDoor.Q
open Go.RowKit Go.Proofs.YtglmdfddgmkmaaaDoorW.PrintWords Go.Proofs.YtglmdfddgmkmaaaDoorW.PrintLast Go.Proofs.YtglmdfddgmkmaaaDoorW.PrintMore
attribute [local go_sem] Z0 Z2 Yd Ye Zq Zr Z1 Z3
set_option linter.unusedVariables false
set_option linter.unusedSimpArgs false
def Qw (w0 W:World) (g:Nat) (f0:ByteArray) (f1:Int) (f2:Int) (f3:Int):Prop:=W.heap[g]? =some (.cells #[.string f0,.int .i64 f1,.int .i64 f2,.int .i64 f3] 70 (0,0))∧w0.heap.size≤g
theorem Qw.grown {w0 W:World} {g:Nat} {f0:ByteArray} {f1:Int} {f2:Int} {f3:Int} {W1:World} {row:Option Nat} (h:Qw w0 W g f0 f1 f2 f3) (hw:W.grownBy W1 row) (hne:some g≠row):Qw w0 W1 g f0 f1 f2 f3:=by
 obtain⟨hb,hg⟩ :=h;exact⟨Fk hb hw hne,hg⟩
theorem Qw.fresh {w0 W:World} {g:Nat} {f0:ByteArray} {f1:Int} {f2:Int} {f3:Int} (h:Qw w0 W g f0 f1 f2 f3):∀k,W.heap.size≤k→k≠g:=by
 obtain⟨hb,hg⟩ :=h;exact Kd.freshB hb
theorem Qw.kept {w0 W:World} {g:Nat} {f0:ByteArray} {f1:Int} {f2:Int} {f3:Int} {W1:World} {S:Nat→Prop} (h:Qw w0 W g f0 f1 f2 f3) (hk:Kept W W1 S) (hne:¬S g):Qw w0 W1 g f0 f1 f2 f3:=by
 obtain⟨hb,hg⟩ :=h;exact⟨Yh hb hk hne,hg⟩
theorem Qw.below {w0 W:World} {g:Nat} {f0:ByteArray} {f1:Int} {f2:Int} {f3:Int} {W1:World} (h:Qw w0 W g f0 f1 f2 f3) (hw:Below W.heap.size W W1):Qw w0 W1 g f0 f1 f2 f3:=h.grown (Y9 hw none) (by simp)
theorem Qw.drewN {w0 W:World} {g:Nat} {f0:ByteArray} {f1:Int} {f2:Int} {f3:Int} (h:Qw w0 W g f0 f1 f2 f3) (m:Nat):Qw w0 (W.drewN m) g f0 f1 f2 f3:=h
theorem Qw.drew {w0 W:World} {g:Nat} {f0:ByteArray} {f1:Int} {f2:Int} {f3:Int} (h:Qw w0 W g f0 f1 f2 f3):Qw w0 W.drew g f0 f1 f2 f3:=h
theorem Qw.lt {w0 W:World} {g:Nat} {f0:ByteArray} {f1:Int} {f2:Int} {f3:Int} (h:Qw w0 W g f0 f1 f2 f3):g < W.heap.size:=by
 obtain⟨hb,hg⟩ :=h;exact Xr hb
theorem Qw.ge {w0 W:World} {g:Nat} {f0:ByteArray} {f1:Int} {f2:Int} {f3:Int} (h:Qw w0 W g f0 f1 f2 f3):w0.heap.size≤g:=by
 obtain⟨hb,hg⟩ :=h;exact hg
theorem Qw.far {w0 W:World} {g:Nat} {f0:ByteArray} {f1:Int} {f2:Int} {f3:Int} {p:Addr} (h:Qw w0 W g f0 f1 f2 f3) (hne:g≠p.block) (u:Value):Qw w0 (W.setCell p u) g f0 f1 f2 f3:=by
 obtain⟨hb,hg⟩ :=h;exact⟨Xg hb hne u,hg⟩
theorem Yr {W:World} {g:Nat} {f0:ByteArray} {f1:Int} {f2:Int} {f3:Int} (h:W.heap[g]? =some (.cells #[.string f0,.int .i64 f1,.int .i64 f2,.int .i64 f3] 70 (0,0))):W.cell? ⟨g,0,none⟩=some (.string f0):=(Qb h 0).trans rfl
theorem Zi {W:World} {g:Nat} {f0:ByteArray} {f1:Int} {f2:Int} {f3:Int} (h:W.heap[g]? =some (.cells #[.string f0,.int .i64 f1,.int .i64 f2,.int .i64 f3] 70 (0,0))):W.cell? ⟨g,1,none⟩=some (.int .i64 f1):=(Qb h 1).trans rfl
theorem Qw.set_1 {w0 W:World} {g:Nat} {f0:ByteArray} {f1:Int} {f2:Int} {f3:Int} (h:Qw w0 W g f0 f1 f2 f3) (x:Int):Qw w0 (W.setCell ⟨g,1,none⟩ (.int .i64 x)) g f0 x f2 f3:=by
 obtain⟨hb,hg⟩ :=h;exact⟨by simpa using Je hb 1 (.int .i64 x),hg⟩
theorem Yj {W:World} {g:Nat} {f0:ByteArray} {f1:Int} {f2:Int} {f3:Int} (h:W.heap[g]? =some (.cells #[.string f0,.int .i64 f1,.int .i64 f2,.int .i64 f3] 70 (0,0))):W.cell? ⟨g,2,none⟩=some (.int .i64 f2):=(Qb h 2).trans rfl
theorem Qw.set_2 {w0 W:World} {g:Nat} {f0:ByteArray} {f1:Int} {f2:Int} {f3:Int} (h:Qw w0 W g f0 f1 f2 f3) (x:Int):Qw w0 (W.setCell ⟨g,2,none⟩ (.int .i64 x)) g f0 f1 x f3:=by
 obtain⟨hb,hg⟩ :=h;exact⟨by simpa using Je hb 2 (.int .i64 x),hg⟩
theorem M8 {W:World} {g:Nat} {f0:ByteArray} {f1:Int} {f2:Int} {f3:Int} (h:W.heap[g]? =some (.cells #[.string f0,.int .i64 f1,.int .i64 f2,.int .i64 f3] 70 (0,0))):W.cell? ⟨g,3,none⟩=some (.int .i64 f3):=(Qb h 3).trans rfl
theorem Qw.set_3 {w0 W:World} {g:Nat} {f0:ByteArray} {f1:Int} {f2:Int} {f3:Int} (h:Qw w0 W g f0 f1 f2 f3) (x:Int):Qw w0 (W.setCell ⟨g,3,none⟩ (.int .i64 x)) g f0 f1 f2 x:=by
 obtain⟨hb,hg⟩ :=h;exact⟨by simpa using Je hb 3 (.int .i64 x),hg⟩
theorem Qw.new (w0 W:World) (f0:ByteArray) (f1:Int) (f2:Int) (f3:Int) (hB:Below w0.heap.size w0 W):Qw w0 (W.alloc (.cells #[.string f0,.int .i64 f1,.int .i64 f2,.int .i64 f3] 70)) W.heap.size f0 f1 f2 f3:=⟨by simpa using heap_alloc_new W _,hB.size⟩
def Qf.l0:Nat→ByteArray→Int→Int→Int→Option (ByteArray×Int×Int×Int)
 |0,_,_,_,_=>none
 |k+1,x1000,x1001,x1002,x1003=>if x1001 < (x1000.size:Int) then(if 0≤x1001 then(if(bt x1000 x1001)=9 then(Qf.l0 k x1000 (wrap64 (x1001+1)) x1002 x1003) else(if(bt x1000 x1001)=10 then(Qf.l0 k x1000 (wrap64 (x1001+1)) x1002 x1003) else(if(bt x1000 x1001)=32 then(Qf.l0 k x1000 (wrap64 (x1001+1)) x1002 x1003) else(some (x1000,x1001,x1002,x1003))))) else(none)) else(some (x1000,x1001,x1002,x1003))
def Qf.f (k:Nat) (s0_0:ByteArray) (s0_1:Int) (s0_2:Int) (s0_3:Int):Option (ByteArray×Int×Int×Int):=Qf.l0 k s0_0 s0_1 s0_2 s0_3
theorem Qf.mono_l:∀k,(∀y0 y1 y2 y3,LeO (Qf.l0 k y0 y1 y2 y3) (Qf.l0 (k+1) y0 y1 y2 y3))
 |0=>fun _ _ _ _ r h=>by simp [Qf.l0] at h
 |k+1=>by
  have ih0:=Qf.mono_l k
  ·intro y0 y1 y2 y3;unfold Qf.l0;repeat' first
   |(with_reducible exact ih0 _ _ _ _)
   |(with_reducible exact LeO.refl _)
   |(with_reducible refine LeO.ite ?_ ?_)
theorem Qf.mono:∀a0 a1 a2 a3 k,LeO (Qf.f k a0 a1 a2 a3) (Qf.f (k+1) a0 a1 a2 a3):=by
 intro a0 a1 a2 a3 k;have ih0:=Qf.mono_l k;unfold Qf.f;repeat' (with_reducible exact ih0 _ _ _ _)
set_option maxHeartbeats 8000000 in
set_option maxRecDepth 100000 in
theorem Qf.calls (k:Nat) (g:Nat) (s0_0:ByteArray) (s0_1:Int) (s0_2:Int) (s0_3:Int) (r1:ByteArray) (r2:Int) (r3:Int) (r4:Int) (w0 w:World) (hI:Qw w0 w g s0_0 s0_1 s0_2 s0_3) (hB:Below w0.heap.size w0 w) (h:Qf.f k s0_0 s0_1 s0_2 s0_3=some (r1,r2,r3,r4)):
 Calls Tryd.prog 46 #[.pointer (some ⟨g,0,none⟩)] w fun e w'=>e=.returned (.tuple #[])∧Qw w0 w' g r1 r2 r3 r4∧Below w0.heap.size w0 w'∧Qe w w' g none:=by
 have HI0:=Qa.mk hI;have HK:=Qa.mk (Qe.refl w g none);clear hI;have HB:=Qa.mk hB;clear hB;have H:(Qf.l0 k s0_0 s0_1 s0_2 s0_3)=some (r1,r2,r3,r4):=h;clear h;have H':=Qa.mk H;clear H;go_enter Tryd.func46,Tryd.ntmps46;go_wp2
 go_loopg [] k (fun kq w'=>∃(x1001_1:Int),Qa (Qf.l0 kq s0_0 x1001_1 s0_2 s0_3=some (r1,r2,r3,r4))∧Qa (kq≤k)∧Qa (Qw w0 w' g s0_0 x1001_1 s0_2 s0_3)∧Qa (Qe w w' g none)∧Qa (Below w0.heap.size w0 w'))
 case atStart=>exact⟨s0_1,H',⟨Nat.le_refl _⟩,⟨HI0.out⟩,⟨HK.out⟩,⟨HB.out⟩⟩
 case round=>
  clear H';obtain⟨x1001_1,HA,HK1,HI0,HK,HB⟩ :=hrel
  cases gk with
  |zero=>exact absurd HA.out (by simp [Qf.l0])
  |succ k1=>
   have H:=HA.out;clear HA;simp only [Qf.l0] at H;by_cases c2:x1001_1 < (s0_0.size:Int)
   rotate_left
   ·rw [if_neg c2] at H;have c2b0:decide (x1001_1 < (s0_0.size:Int))=false:=decide_eq_false c2;clear c2;simp only [Option.some.injEq,Prod.mk.injEq] at H;obtain⟨rfl,rfl,rfl,rfl⟩ :=H;obtain⟨HGz14,hgz14⟩ :=HI0.out;have hcz14_0:=Yr HGz14;have hcz14_1:=Zi HGz14;clear HGz14 hgz14;go_wp2;repeat(go_quiet (fail);try go_wp2)
    go_end0
    exact⟨by rfl,by repeat(with_reducible first|exact HI0.out|apply Qw.drewN),by repeat(with_reducible first|exact HB.out|apply Q6),by repeat(with_reducible first|exact HK.out|apply X8)⟩
   rw [if_pos c2] at H;have c2b0:decide (x1001_1 < (s0_0.size:Int))=true:=decide_eq_true c2;clear c2;by_cases c3:0≤x1001_1
   rotate_left
   ·rw [if_neg c3] at H;exact absurd H (by simp)
   rw [if_pos c3] at H;have c3b0:decide (0≤x1001_1)=true:=decide_eq_true c3;clear c3;by_cases c5:(bt s0_0 x1001_1)=9
   ·rw [if_pos c5] at H;have c5b0:((bt s0_0 x1001_1)==9)=true:=beq_iff_eq.mpr c5;clear c5;have H':=Qa.mk H;clear H;obtain⟨HGz6,hgz6⟩ :=HI0.out;have hcz6_0:=Yr HGz6;have hcz6_1:=Zi HGz6;have hfz6_1:=Qd HGz6 1;clear HGz6 hgz6;have p4:0≤(x1001_1:Int):=of_decide_eq_true (by(with_reducible assumption));have q4:x1001_1 < (s0_0.size:Int):=of_decide_eq_true (by(with_reducible assumption));have hx4:=Zp s0_0 x1001_1;replace p4:=eq_true p4;replace q4:=eq_true q4;go_wp2;repeat(go_quiet (fail);try go_wp2)
    go_roundg k1
    case measure=>have:=HK1.out;omega
    case rel=>exact⟨(wrap64 (x1001_1+1)),H',⟨by have:=HK1.out;omega⟩,⟨by repeat(with_reducible first|exact HI0.out|apply Qw.drewN|apply Qw.set_1)⟩,⟨by repeat(with_reducible first|exact HK.out|apply Qe.set_|apply X8)⟩,⟨by repeat((with_reducible first|exact HB.out|apply Q6|refine Xf ?_ (Qw.ge HI0.out)))⟩⟩
   rw [if_neg c5] at H;have c5b0:((bt s0_0 x1001_1)==9)=false:=beq_eq_false_iff_ne.mpr c5;by_cases c8:(bt s0_0 x1001_1)=10
   ·rw [if_pos c8] at H;have c8b0:((bt s0_0 x1001_1)==10)=true:=beq_iff_eq.mpr c8;clear c8;have H':=Qa.mk H;clear H;obtain⟨HGz9,hgz9⟩ :=HI0.out;have hcz9_0:=Yr HGz9;have hcz9_1:=Zi HGz9;have hfz9_1:=Qd HGz9 1;clear HGz9 hgz9;have p4:0≤(x1001_1:Int):=of_decide_eq_true (by(with_reducible assumption));have q4:x1001_1 < (s0_0.size:Int):=of_decide_eq_true (by(with_reducible assumption));have hx4:=Zp s0_0 x1001_1;replace p4:=eq_true p4;replace q4:=eq_true q4;have p7:0≤(x1001_1:Int):=of_decide_eq_true (by(with_reducible assumption));have q7:x1001_1 < (s0_0.size:Int):=of_decide_eq_true (by(with_reducible assumption));replace p7:=eq_true p7;replace q7:=eq_true q7;go_wp2;repeat(go_quiet (fail);try go_wp2)
    go_roundg k1
    case measure=>have:=HK1.out;omega
    case rel=>exact⟨(wrap64 (x1001_1+1)),H',⟨by have:=HK1.out;omega⟩,⟨by repeat(with_reducible first|exact HI0.out|apply Qw.drewN|apply Qw.set_1)⟩,⟨by repeat(with_reducible first|exact HK.out|apply Qe.set_|apply X8)⟩,⟨by repeat((with_reducible first|exact HB.out|apply Q6|refine Xf ?_ (Qw.ge HI0.out)))⟩⟩
   rw [if_neg c8] at H;have c8b0:((bt s0_0 x1001_1)==10)=false:=beq_eq_false_iff_ne.mpr c8;by_cases c11:(bt s0_0 x1001_1)=32
   rotate_left
   ·rw [if_neg c11] at H;have c11b0:((bt s0_0 x1001_1)==32)=false:=beq_eq_false_iff_ne.mpr c11;simp only [Option.some.injEq,Prod.mk.injEq] at H;obtain⟨rfl,rfl,rfl,rfl⟩ :=H;obtain⟨HGz13,hgz13⟩ :=HI0.out;have hcz13_0:=Yr HGz13;have hcz13_1:=Zi HGz13;clear HGz13 hgz13;have p4:0≤(x1001_1:Int):=of_decide_eq_true (by(with_reducible assumption));have q4:x1001_1 < (s0_0.size:Int):=of_decide_eq_true (by(with_reducible assumption));have hx4:=Zp s0_0 x1001_1;replace p4:=eq_true p4;replace q4:=eq_true q4;have p7:0≤(x1001_1:Int):=of_decide_eq_true (by(with_reducible assumption));have q7:x1001_1 < (s0_0.size:Int):=of_decide_eq_true (by(with_reducible assumption));replace p7:=eq_true p7;replace q7:=eq_true q7;have p10:0≤(x1001_1:Int):=of_decide_eq_true (by(with_reducible assumption));have q10:x1001_1 < (s0_0.size:Int):=of_decide_eq_true (by(with_reducible assumption));replace p10:=eq_true p10;replace q10:=eq_true q10;go_wp2;repeat(go_quiet (fail);try go_wp2)
    go_end0
    exact⟨by rfl,by repeat(with_reducible first|exact HI0.out|apply Qw.drewN),by repeat(with_reducible first|exact HB.out|apply Q6),by repeat(with_reducible first|exact HK.out|apply X8)⟩
   rw [if_pos c11] at H;have c11b0:((bt s0_0 x1001_1)==32)=true:=beq_iff_eq.mpr c11;clear c11;have H':=Qa.mk H;clear H;obtain⟨HGz12,hgz12⟩ :=HI0.out;have hcz12_0:=Yr HGz12;have hcz12_1:=Zi HGz12;have hfz12_1:=Qd HGz12 1;clear HGz12 hgz12;have p4:0≤(x1001_1:Int):=of_decide_eq_true (by(with_reducible assumption));have q4:x1001_1 < (s0_0.size:Int):=of_decide_eq_true (by(with_reducible assumption));have hx4:=Zp s0_0 x1001_1;replace p4:=eq_true p4;replace q4:=eq_true q4;have p7:0≤(x1001_1:Int):=of_decide_eq_true (by(with_reducible assumption));have q7:x1001_1 < (s0_0.size:Int):=of_decide_eq_true (by(with_reducible assumption));replace p7:=eq_true p7;replace q7:=eq_true q7;have p10:0≤(x1001_1:Int):=of_decide_eq_true (by(with_reducible assumption));have q10:x1001_1 < (s0_0.size:Int):=of_decide_eq_true (by(with_reducible assumption));replace p10:=eq_true p10;replace q10:=eq_true q10;go_wp2;repeat(go_quiet (fail);try go_wp2)
   go_roundg k1
   case measure=>have:=HK1.out;omega
   case rel=>exact⟨(wrap64 (x1001_1+1)),H',⟨by have:=HK1.out;omega⟩,⟨by repeat(with_reducible first|exact HI0.out|apply Qw.drewN|apply Qw.set_1)⟩,⟨by repeat(with_reducible first|exact HK.out|apply Qe.set_|apply X8)⟩,⟨by repeat((with_reducible first|exact HB.out|apply Q6|refine Xf ?_ (Qw.ge HI0.out)))⟩⟩
def Qn.f (s0_0:ByteArray) (s0_1:Int) (s0_2:Int) (s0_3:Int) (a1:Int) (a2:Int):Option (ByteArray×Int×Int×Int):=if s0_2=0 then(some (s0_0,s0_1,a1,a2)) else(some (s0_0,s0_1,s0_2,s0_3))
set_option maxHeartbeats 8000000 in
set_option maxRecDepth 100000 in
theorem Qn.calls (g:Nat) (s0_0:ByteArray) (s0_1:Int) (s0_2:Int) (s0_3:Int) (a1:Int) (a2:Int) (r1:ByteArray) (r2:Int) (r3:Int) (r4:Int) (w0 w:World) (hI:Qw w0 w g s0_0 s0_1 s0_2 s0_3) (hB:Below w0.heap.size w0 w) (h:Qn.f s0_0 s0_1 s0_2 s0_3 a1 a2=some (r1,r2,r3,r4)):
 Calls Tryd.prog 48 #[.pointer (some ⟨g,0,none⟩),.int .i64 a1,.int .i64 a2] w fun e w'=>e=.returned (.tuple #[])∧Qw w0 w' g r1 r2 r3 r4∧Below w0.heap.size w0 w'∧Qe w w' g none:=by
 have HI0:=Qa.mk hI;have HK:=Qa.mk (Qe.refl w g none);clear hI;have HB:=Qa.mk hB;clear hB;have H:(if s0_2=0 then(some (s0_0,s0_1,a1,a2)) else(some (s0_0,s0_1,s0_2,s0_3)))=some (r1,r2,r3,r4):=h;clear h;by_cases c4:s0_2=0
 rotate_left
 ·rw [if_neg c4] at H;have c4b0:(s0_2==0)=false:=beq_eq_false_iff_ne.mpr c4;simp only [Option.some.injEq,Prod.mk.injEq] at H;obtain⟨rfl,rfl,rfl,rfl⟩ :=H;obtain⟨HGz6,hgz6⟩ :=HI0.out;have hcz6_2:=Yj HGz6;clear HGz6 hgz6;go_enter Tryd.func48,Tryd.ntmps48;go_wp2;go_end0;exact⟨by rfl,HI0.out,HB.out,HK.out⟩
 rw [if_pos c4] at H;have c4b0:(s0_2==0)=true:=beq_iff_eq.mpr c4;clear c4;simp only [Option.some.injEq,Prod.mk.injEq] at H;obtain⟨rfl,rfl,rfl,rfl⟩ :=H;obtain⟨HGz5,hgz5⟩ :=HI0.out;have hcz5_2:=Yj HGz5;have hcz5_3:=M8 HGz5;have hfz5_2:=Qd HGz5 2;have hfz5_3:=Qd HGz5 3;clear HGz5 hgz5;go_enter Tryd.func48,Tryd.ntmps48;go_wp2;go_end0;exact⟨by rfl,by repeat(with_reducible first|exact HI0.out|apply Qw.set_2|apply Qw.set_3),by repeat((with_reducible first|exact HB.out|refine Xf ?_ (Qw.ge HI0.out))),by repeat(with_reducible first|exact HK.out|apply Qe.set_)⟩
def Q9.f (a0:Int):Option (Bool):=if a0 ≥ 97 then(if a0≤122 then(some true) else(if a0 ≥ 65 then(if a0≤90 then(some true) else(some (a0==95))) else(some (a0==95)))) else(if a0 ≥ 65 then(if a0≤90 then(some true) else(some (a0==95))) else(some (a0==95)))
set_option maxHeartbeats 8000000 in
set_option maxRecDepth 100000 in
theorem Q9.calls (a0:Int) (r:Bool) (w:World) (h:Q9.f a0=some r):
 Calls Tryd.prog 74 #[.int .u8 a0] w fun e w'=>e=.returned (.bool r)∧Qk w w':=by
 have H:(if a0 ≥ 97 then(if a0≤122 then(some true) else(if a0 ≥ 65 then(if a0≤90 then(some true) else(some (a0==95))) else(some (a0==95)))) else(if a0 ≥ 65 then(if a0≤90 then(some true) else(some (a0==95))) else(some (a0==95))))=some r:=h;clear h;by_cases c2:a0 ≥ 97
 rotate_left
 ·rw [if_neg c2] at H;have c2b0:decide (97≤a0)=false:=decide_eq_false c2;clear c2;by_cases c6:a0 ≥ 65
  rotate_left
  ·rw [if_neg c6] at H;have c6b0:decide (65≤a0)=false:=decide_eq_false c6;clear c6;obtain rfl:=Option.some.inj H;go_enter Tryd.func74,Tryd.ntmps74;go_wp2;go_ret;exact⟨by rfl,by repeat(exact Qk.refl _)⟩
  rw [if_pos c6] at H;have c6b0:decide (65≤a0)=true:=decide_eq_true c6;clear c6;by_cases c7:a0≤90
  ·rw [if_pos c7] at H;have c7b0:decide (a0≤90)=true:=decide_eq_true c7;clear c7;obtain rfl:=Option.some.inj H;go_enter Tryd.func74,Tryd.ntmps74;go_wp2;go_ret;exact⟨by rfl,by repeat(exact Qk.refl _)⟩
  rw [if_neg c7] at H;have c7b0:decide (a0≤90)=false:=decide_eq_false c7;clear c7;obtain rfl:=Option.some.inj H;go_enter Tryd.func74,Tryd.ntmps74;go_wp2;go_ret;exact⟨by rfl,by repeat(exact Qk.refl _)⟩
 rw [if_pos c2] at H;have c2b0:decide (97≤a0)=true:=decide_eq_true c2;clear c2;by_cases c3:a0≤122
 ·rw [if_pos c3] at H;have c3b0:decide (a0≤122)=true:=decide_eq_true c3;clear c3;obtain rfl:=Option.some.inj H;go_enter Tryd.func74,Tryd.ntmps74;go_wp2;go_ret;exact⟨by rfl,by repeat(exact Qk.refl _)⟩
 rw [if_neg c3] at H;have c3b0:decide (a0≤122)=false:=decide_eq_false c3;clear c3;by_cases c4:a0 ≥ 65
 rotate_left
 ·rw [if_neg c4] at H;have c4b0:decide (65≤a0)=false:=decide_eq_false c4;clear c4;obtain rfl:=Option.some.inj H;go_enter Tryd.func74,Tryd.ntmps74;go_wp2;go_ret;exact⟨by rfl,by repeat(exact Qk.refl _)⟩
 rw [if_pos c4] at H;have c4b0:decide (65≤a0)=true:=decide_eq_true c4;clear c4;by_cases c5:a0≤90
 ·rw [if_pos c5] at H;have c5b0:decide (a0≤90)=true:=decide_eq_true c5;clear c5;obtain rfl:=Option.some.inj H;go_enter Tryd.func74,Tryd.ntmps74;go_wp2;go_ret;exact⟨by rfl,by repeat(exact Qk.refl _)⟩
 rw [if_neg c5] at H;have c5b0:decide (a0≤90)=false:=decide_eq_false c5;clear c5;obtain rfl:=Option.some.inj H;go_enter Tryd.func74,Tryd.ntmps74;go_wp2;go_ret;exact⟨by rfl,by repeat(exact Qk.refl _)⟩
def X2.f (a0:Int):Option (Bool):=if a0 ≥ 48 then(some (decide (a0≤57))) else(some false)
set_option maxHeartbeats 8000000 in
set_option maxRecDepth 100000 in
theorem X2.calls (a0:Int) (r:Bool) (w:World) (h:X2.f a0=some r):
 Calls Tryd.prog 108 #[.int .u8 a0] w fun e w'=>e=.returned (.bool r)∧Qk w w':=by
 have H:(if a0 ≥ 48 then(some (decide (a0≤57))) else(some false))=some r:=h;clear h;by_cases c2:a0 ≥ 48
 ·rw [if_pos c2] at H;have c2b0:decide (48≤a0)=true:=decide_eq_true c2;clear c2;obtain rfl:=Option.some.inj H;go_enter Tryd.func108,Tryd.ntmps108;go_wp2;go_ret;exact⟨by rfl,by repeat(exact Qk.refl _)⟩
 rw [if_neg c2] at H;have c2b0:decide (48≤a0)=false:=decide_eq_false c2;clear c2;obtain rfl:=Option.some.inj H;go_enter Tryd.func108,Tryd.ntmps108;go_wp2;go_ret;exact⟨by rfl,by repeat(exact Qk.refl _)⟩
def Qs.l0:Nat→Int→ByteArray→Int→Int→Int→Option (ByteArray×ByteArray×Int×Int×Int)
 |0,_,_,_,_,_=>none
 |k+1,x3,x1000,x1001,x1002,x1003=>if x3 < (x1000.size:Int) then(if 0≤x3 then((Q9.f (bt x1000 x3)).bind fun t139=>(if t139=true then(Qs.l0 k (wrap64 (x3+1)) x1000 x1001 x1002 x1003) else((X2.f (bt x1000 x3)).bind fun t140=>(if t140=true then(Qs.l0 k (wrap64 (x3+1)) x1000 x1001 x1002 x1003) else(if 0≤x1001 then(if x1001≤x3 then(if x3≤(x1000.size:Int) then(some (x1000.extract (x1001:Int).toNat (x3:Int).toNat,x1000,x1001,x1002,x1003)) else(none)) else(none)) else(none)))))) else(none)) else(if 0≤x1001 then(if x1001≤x3 then(if x3≤(x1000.size:Int) then(some (x1000.extract (x1001:Int).toNat (x3:Int).toNat,x1000,x1001,x1002,x1003)) else(none)) else(none)) else(none))
def Qs.f (k:Nat) (s0_0:ByteArray) (s0_1:Int) (s0_2:Int) (s0_3:Int):Option (ByteArray×ByteArray×Int×Int×Int):=Qs.l0 k s0_1 s0_0 s0_1 s0_2 s0_3
theorem Qs.mono_l:∀k,(∀y0 y1 y2 y3 y4,LeO (Qs.l0 k y0 y1 y2 y3 y4) (Qs.l0 (k+1) y0 y1 y2 y3 y4))
 |0=>fun _ _ _ _ _ r h=>by simp [Qs.l0] at h
 |k+1=>by
  have ih0:=Qs.mono_l k
  ·intro y0 y1 y2 y3 y4;unfold Qs.l0;repeat' first
   |(with_reducible exact ih0 _ _ _ _ _)
   |(with_reducible exact LeO.refl _)
   |(with_reducible refine LeO.ite ?_ ?_)
   |(with_reducible refine LeO.bind ?_ (fun _=>?_))
theorem Qs.mono:∀a0 a1 a2 a3 k,LeO (Qs.f k a0 a1 a2 a3) (Qs.f (k+1) a0 a1 a2 a3):=by
 intro a0 a1 a2 a3 k;have ih0:=Qs.mono_l k;unfold Qs.f;repeat' (with_reducible exact ih0 _ _ _ _ _)
set_option maxHeartbeats 8000000 in
set_option maxRecDepth 100000 in
theorem Qs.calls (k:Nat) (g:Nat) (s0_0:ByteArray) (s0_1:Int) (s0_2:Int) (s0_3:Int) (r1:ByteArray) (r2:ByteArray) (r3:Int) (r4:Int) (r5:Int) (w0 w:World) (hI:Qw w0 w g s0_0 s0_1 s0_2 s0_3) (hB:Below w0.heap.size w0 w) (h:Qs.f k s0_0 s0_1 s0_2 s0_3=some (r1,r2,r3,r4,r5)):
 Calls Tryd.prog 73 #[.pointer (some ⟨g,0,none⟩)] w fun e w'=>e=.returned (.string r1)∧Qw w0 w' g r2 r3 r4 r5∧Below w0.heap.size w0 w'∧Qe w w' g none:=by
 have HI0:=Qa.mk hI;have HK:=Qa.mk (Qe.refl w g none);clear hI;have HB:=Qa.mk hB;clear hB;have H:(Qs.l0 k s0_1 s0_0 s0_1 s0_2 s0_3)=some (r1,r2,r3,r4,r5):=h;clear h;have H':=Qa.mk H;clear H;obtain⟨HGz2,hgz2⟩ :=HI0.out;have hcz2_1:=Zi HGz2;clear HGz2 hgz2;go_enter Tryd.func73,Tryd.ntmps73;go_wp2
 go_loopg [3] k (fun kq v3 w'=>∃(x3_1:Int),v3=.int .i64 x3_1∧Qa (Qs.l0 kq x3_1 s0_0 s0_1 s0_2 s0_3=some (r1,r2,r3,r4,r5))∧Qa (kq≤k)∧Qa (Qw w0 w' g s0_0 s0_1 s0_2 s0_3)∧Qa (Qe w w' g none)∧Qa (Below w0.heap.size w0 w'))
 case atStart=>exact⟨s0_1,(by rfl),H',⟨Nat.le_refl _⟩,⟨HI0.out⟩,⟨HK.out⟩,⟨HB.out⟩⟩
 case round=>
  clear H';(try clear hcz2_1);obtain⟨x3_1,rfl,HA,HK1,HI0,HK,HB⟩ :=hrel
  cases gk with
  |zero=>exact absurd HA.out (by simp [Qs.l0])
  |succ k1=>
   have H:=HA.out;clear HA;simp only [Qs.l0] at H;by_cases c3:x3_1 < (s0_0.size:Int)
   rotate_left
   ·rw [if_neg c3] at H;have c3b0:decide (x3_1 < (s0_0.size:Int))=false:=decide_eq_false c3;clear c3;by_cases c17:0≤s0_1
    rotate_left
    ·rw [if_neg c17] at H;exact absurd H (by simp)
    rw [if_pos c17] at H;have c17b0:=eq_true c17;clear c17;by_cases c18:s0_1≤x3_1
    rotate_left
    ·rw [if_neg c18] at H;exact absurd H (by simp)
    rw [if_pos c18] at H;have c18b0:=eq_true c18;clear c18;by_cases c19:x3_1≤(s0_0.size:Int)
    rotate_left
    ·rw [if_neg c19] at H;exact absurd H (by simp)
    rw [if_pos c19] at H;have c19b0:=eq_true c19;clear c19;simp only [Option.some.injEq,Prod.mk.injEq] at H;obtain⟨rfl,rfl,rfl,rfl,rfl⟩ :=H;obtain⟨HGz20,hgz20⟩ :=HI0.out;have hcz20_0:=Yr HGz20;have hcz20_1:=Zi HGz20;clear HGz20 hgz20;go_wp2;repeat(go_quiet (fail);try go_wp2)
    go_ret
    exact⟨by rfl,by repeat(with_reducible first|exact HI0.out|apply Qw.drewN),by repeat(with_reducible first|exact HB.out|apply Q6),by repeat(with_reducible first|exact HK.out|apply X8)⟩
   rw [if_pos c3] at H;have c3b0:decide (x3_1 < (s0_0.size:Int))=true:=decide_eq_true c3;clear c3;by_cases c4:0≤x3_1
   rotate_left
   ·rw [if_neg c4] at H;exact absurd H (by simp)
   rw [if_pos c4] at H;have c4b0:decide (0≤x3_1)=true:=decide_eq_true c4;clear c4;replace H:=Option.bind_eq_some_iff.mp H;obtain⟨t139,A60,H⟩ :=H;try dsimp only at H
   have A6:=Qa.mk A60;clear A60;by_cases c7:t139=true
   ·subst c7;have H1:(Qs.l0 k1 (wrap64 (x3_1+1)) s0_0 s0_1 s0_2 s0_3)=some (r1,r2,r3,r4,r5):=by rw [if_pos rfl] at H;exact H
    clear H;have H:=H1;clear H1;have H':=Qa.mk H;clear H;obtain⟨HGz8,hgz8⟩ :=HI0.out;have hcz8_0:=Yr HGz8;clear HGz8 hgz8;have p5:0≤(x3_1:Int):=of_decide_eq_true (by(with_reducible assumption));have q5:x3_1 < (s0_0.size:Int):=of_decide_eq_true (by(with_reducible assumption));have hx5:=Zp s0_0 x3_1;replace p5:=eq_true p5;replace q5:=eq_true q5;go_wp2_with((go_at_call 74;(with_reducible refine(Q9.calls (bt s0_0 x3_1) true _ A6.out).mono ?_);rintro e w' ⟨rfl,⟨nd,rfl⟩⟩))
    go_roundg k1
    case measure=>have:=HK1.out;omega
    case rel=>exact⟨(wrap64 (x3_1+1)),(by rfl),H',⟨by have:=HK1.out;omega⟩,⟨by repeat(with_reducible first|exact HI0.out|apply Qw.drewN)⟩,⟨by repeat(with_reducible first|exact HK.out|apply X8)⟩,⟨by repeat(with_reducible first|exact HB.out|apply Q6)⟩⟩
   replace c7:=Bool.eq_false_iff.mpr c7;subst c7;have H1:((X2.f (bt s0_0 x3_1)).bind fun t140=>(if t140=true then(Qs.l0 k1 (wrap64 (x3_1+1)) s0_0 s0_1 s0_2 s0_3) else(if 0≤s0_1 then(if s0_1≤x3_1 then(if x3_1≤(s0_0.size:Int) then(some (s0_0.extract (s0_1:Int).toNat (x3_1:Int).toNat,s0_0,s0_1,s0_2,s0_3)) else(none)) else(none)) else(none))))=some (r1,r2,r3,r4,r5):=by rw [if_neg (show ¬(false=true) by decide)] at H;exact H
   clear H;have H:=H1;clear H1;replace H:=Option.bind_eq_some_iff.mp H;obtain⟨t140,A100,H⟩ :=H;try dsimp only at H
   have A10:=Qa.mk A100;clear A100;by_cases c11:t140=true
   ·subst c11;have H1:(Qs.l0 k1 (wrap64 (x3_1+1)) s0_0 s0_1 s0_2 s0_3)=some (r1,r2,r3,r4,r5):=by rw [if_pos rfl] at H;exact H
    clear H;have H:=H1;clear H1;have H':=Qa.mk H;clear H;obtain⟨HGz12,hgz12⟩ :=HI0.out;have hcz12_0:=Yr HGz12;clear HGz12 hgz12;have p5:0≤(x3_1:Int):=of_decide_eq_true (by(with_reducible assumption));have q5:x3_1 < (s0_0.size:Int):=of_decide_eq_true (by(with_reducible assumption));have hx5:=Zp s0_0 x3_1;replace p5:=eq_true p5;replace q5:=eq_true q5;go_wp2_with(first|(go_at_call 74;(with_reducible refine(Q9.calls (bt s0_0 x3_1) false _ A6.out).mono ?_);rintro e w' ⟨rfl,⟨nd,rfl⟩⟩;have p9:0≤(x3_1:Int):=of_decide_eq_true (by(with_reducible assumption));have q9:x3_1 < (s0_0.size:Int):=of_decide_eq_true (by(with_reducible assumption));replace p9:=eq_true p9;replace q9:=eq_true q9)|(go_at_call 108;(with_reducible refine(X2.calls (bt s0_0 x3_1) true _ A10.out).mono ?_);rintro e w' ⟨rfl,⟨nd,rfl⟩⟩))
    go_roundg k1
    case measure=>have:=HK1.out;omega
    case rel=>exact⟨(wrap64 (x3_1+1)),(by rfl),H',⟨by have:=HK1.out;omega⟩,⟨by repeat(with_reducible first|exact HI0.out|apply Qw.drewN)⟩,⟨by repeat(with_reducible first|exact HK.out|apply X8)⟩,⟨by repeat(with_reducible first|exact HB.out|apply Q6)⟩⟩
   replace c11:=Bool.eq_false_iff.mpr c11;subst c11;have H1:(if 0≤s0_1 then(if s0_1≤x3_1 then(if x3_1≤(s0_0.size:Int) then(some (s0_0.extract (s0_1:Int).toNat (x3_1:Int).toNat,s0_0,s0_1,s0_2,s0_3)) else(none)) else(none)) else(none))=some (r1,r2,r3,r4,r5):=by rw [if_neg (show ¬(false=true) by decide)] at H;exact H
   clear H;have H:=H1;clear H1;by_cases c13:0≤s0_1
   rotate_left
   ·rw [if_neg c13] at H;exact absurd H (by simp)
   rw [if_pos c13] at H;have c13b0:=eq_true c13;clear c13;by_cases c14:s0_1≤x3_1
   rotate_left
   ·rw [if_neg c14] at H;exact absurd H (by simp)
   rw [if_pos c14] at H;have c14b0:=eq_true c14;clear c14;by_cases c15:x3_1≤(s0_0.size:Int)
   rotate_left
   ·rw [if_neg c15] at H;exact absurd H (by simp)
   rw [if_pos c15] at H;have c15b0:=eq_true c15;clear c15;simp only [Option.some.injEq,Prod.mk.injEq] at H;obtain⟨rfl,rfl,rfl,rfl,rfl⟩ :=H;obtain⟨HGz16,hgz16⟩ :=HI0.out;have hcz16_0:=Yr HGz16;have hcz16_1:=Zi HGz16;clear HGz16 hgz16;have p5:0≤(x3_1:Int):=of_decide_eq_true (by(with_reducible assumption));have q5:x3_1 < (s0_0.size:Int):=of_decide_eq_true (by(with_reducible assumption));have hx5:=Zp s0_0 x3_1;replace p5:=eq_true p5;replace q5:=eq_true q5;go_wp2_with(first|(go_at_call 74;(with_reducible refine(Q9.calls (bt s0_0 x3_1) false _ A6.out).mono ?_);rintro e w' ⟨rfl,⟨nd,rfl⟩⟩;have p9:0≤(x3_1:Int):=of_decide_eq_true (by(with_reducible assumption));have q9:x3_1 < (s0_0.size:Int):=of_decide_eq_true (by(with_reducible assumption));replace p9:=eq_true p9;replace q9:=eq_true q9)|(go_at_call 108;(with_reducible refine(X2.calls (bt s0_0 x3_1) false _ A10.out).mono ?_);rintro e w' ⟨rfl,⟨nd,rfl⟩⟩));repeat(go_quiet (first|(go_at_call 74;(with_reducible refine(Q9.calls (bt s0_0 x3_1) false _ A6.out).mono ?_);rintro e w' ⟨rfl,⟨nd,rfl⟩⟩;(try first|exact⟨rfl,_,World.drewN_drewN _ _ _⟩|exact⟨rfl,_,Eq.trans (World.drewN_drewN _ _ _) (congrArg (World.drewN _) (Nat.add_assoc _ _ _))⟩);have p9:0≤(x3_1:Int):=of_decide_eq_true (by first|(with_reducible assumption)|assumption);have q9:x3_1 < (s0_0.size:Int):=of_decide_eq_true (by first|(with_reducible assumption)|assumption);replace p9:=eq_true p9;replace q9:=eq_true q9)|(go_at_call 108;(with_reducible refine(X2.calls (bt s0_0 x3_1) false _ A10.out).mono ?_);rintro e w' ⟨rfl,⟨nd,rfl⟩⟩;(try first|exact⟨rfl,_,World.drewN_drewN _ _ _⟩|exact⟨rfl,_,Eq.trans (World.drewN_drewN _ _ _) (congrArg (World.drewN _) (Nat.add_assoc _ _ _))⟩)));try go_wp2_with fail)
   go_ret
   exact⟨by rfl,by repeat(with_reducible first|exact HI0.out|apply Qw.drewN),by repeat(with_reducible first|exact HB.out|apply Q6),by repeat(with_reducible first|exact HK.out|apply X8)⟩
end Go.Proofs.YtglmdfddgmkmaaaDoor.Q
end
section
namespace Go.Proofs.YtglmdfddgmkmaaaDoor.Q
open Go.RowKit Go.Proofs.YtglmdfddgmkmaaaDoorW.PrintWords Go.Proofs.YtglmdfddgmkmaaaDoorW.PrintLast Go.Proofs.YtglmdfddgmkmaaaDoorW.PrintMore
set_option linter.unusedVariables false
class Zx where
 f:Nat→ByteArray→Int→Int→Int→Option (Int×Int×ByteArray×(List (S26))×ByteArray×Int×Int×Int)
 mono:∀a0 a1 a2 a3 k,LeO (f k a0 a1 a2 a3) (f (k+1) a0 a1 a2 a3)
 calls:∀(k:Nat) (g:Nat) (s0_0:ByteArray) (s0_1:Int) (s0_2:Int) (s0_3:Int) (r1:Int) (r2:Int) (r3:ByteArray) (r4:List (S26)) (r5:ByteArray) (r6:Int) (r7:Int) (r8:Int) (w0 w:World) (hI:Qw w0 w g s0_0 s0_1 s0_2 s0_3) (hB:Below w0.heap.size w0 w) (h:f k s0_0 s0_1 s0_2 s0_3=some (r1,r2,r3,r4,r5,r6,r7,r8)),
  Calls Tryd.prog 137 #[.pointer (some ⟨g,0,none⟩)] w fun e w'=>∃v3_:Value,e=.returned (.agg #[.int .i64 r1,.int .i64 r2,.string r3,v3_])∧Kd.N k26 26 w' w.heap.size (fun k_=>(w.heap.size≤k_)) v3_ r4∧Qw w0 w' g r5 r6 r7 r8∧Below w0.heap.size w0 w'∧Qe w w' g none
def Vf.f [Zx] (k:Nat) (a0:ByteArray) (a1 a2 a3:Int):Option (Int×Int×ByteArray×(List (S26))×ByteArray×Int×Int×Int):=Zx.f k a0 a1 a2 a3
theorem Vf.mono [Zx]:∀a0 a1 a2 a3 k,LeO (Vf.f k a0 a1 a2 a3) (Vf.f (k+1) a0 a1 a2 a3):=Zx.mono
theorem Vf.calls [Zx] (k:Nat) (g:Nat) (s0_0:ByteArray) (s0_1:Int) (s0_2:Int) (s0_3:Int) (r1:Int) (r2:Int) (r3:ByteArray) (r4:List (S26)) (r5:ByteArray) (r6:Int) (r7:Int) (r8:Int) (w0 w:World) (hI:Qw w0 w g s0_0 s0_1 s0_2 s0_3) (hB:Below w0.heap.size w0 w) (h:Vf.f k s0_0 s0_1 s0_2 s0_3=some (r1,r2,r3,r4,r5,r6,r7,r8)):
 Calls Tryd.prog 137 #[.pointer (some ⟨g,0,none⟩)] w fun e w'=>∃v3_:Value,e=.returned (.agg #[.int .i64 r1,.int .i64 r2,.string r3,v3_])∧Kd.N k26 26 w' w.heap.size (fun k_=>(w.heap.size≤k_)) v3_ r4∧Qw w0 w' g r5 r6 r7 r8∧Below w0.heap.size w0 w'∧Qe w w' g none:=Zx.calls k g s0_0 s0_1 s0_2 s0_3 r1 r2 r3 r4 r5 r6 r7 r8 w0 w hI hB h
class Yt where
 f:Nat→ByteArray→Int→Int→Int→Option (Int×Int×ByteArray×(List (S26))×ByteArray×Int×Int×Int)
 mono:∀a0 a1 a2 a3 k,LeO (f k a0 a1 a2 a3) (f (k+1) a0 a1 a2 a3)
 calls:∀(k:Nat) (g:Nat) (s0_0:ByteArray) (s0_1:Int) (s0_2:Int) (s0_3:Int) (r1:Int) (r2:Int) (r3:ByteArray) (r4:List (S26)) (r5:ByteArray) (r6:Int) (r7:Int) (r8:Int) (w0 w:World) (hI:Qw w0 w g s0_0 s0_1 s0_2 s0_3) (hB:Below w0.heap.size w0 w) (h:f k s0_0 s0_1 s0_2 s0_3=some (r1,r2,r3,r4,r5,r6,r7,r8)),
  Calls Tryd.prog 124 #[.pointer (some ⟨g,0,none⟩)] w fun e w'=>∃v3_:Value,e=.returned (.agg #[.int .i64 r1,.int .i64 r2,.string r3,v3_])∧Kd.N k26 26 w' w.heap.size (fun k_=>(w.heap.size≤k_)) v3_ r4∧Qw w0 w' g r5 r6 r7 r8∧Below w0.heap.size w0 w'∧Qe w w' g none
def Wl.f [Yt] (k:Nat) (a0:ByteArray) (a1 a2 a3:Int):Option (Int×Int×ByteArray×(List (S26))×ByteArray×Int×Int×Int):=Yt.f k a0 a1 a2 a3
theorem Wl.mono [Yt]:∀a0 a1 a2 a3 k,LeO (Wl.f k a0 a1 a2 a3) (Wl.f (k+1) a0 a1 a2 a3):=Yt.mono
theorem Wl.calls [Yt] (k:Nat) (g:Nat) (s0_0:ByteArray) (s0_1:Int) (s0_2:Int) (s0_3:Int) (r1:Int) (r2:Int) (r3:ByteArray) (r4:List (S26)) (r5:ByteArray) (r6:Int) (r7:Int) (r8:Int) (w0 w:World) (hI:Qw w0 w g s0_0 s0_1 s0_2 s0_3) (hB:Below w0.heap.size w0 w) (h:Wl.f k s0_0 s0_1 s0_2 s0_3=some (r1,r2,r3,r4,r5,r6,r7,r8)):
 Calls Tryd.prog 124 #[.pointer (some ⟨g,0,none⟩)] w fun e w'=>∃v3_:Value,e=.returned (.agg #[.int .i64 r1,.int .i64 r2,.string r3,v3_])∧Kd.N k26 26 w' w.heap.size (fun k_=>(w.heap.size≤k_)) v3_ r4∧Qw w0 w' g r5 r6 r7 r8∧Below w0.heap.size w0 w'∧Qe w w' g none:=Yt.calls k g s0_0 s0_1 s0_2 s0_3 r1 r2 r3 r4 r5 r6 r7 r8 w0 w hI hB h
class Ve where
 f:Nat→ByteArray→Int→Int→Int→Int→Option (Int×Int×ByteArray×(List (S26))×ByteArray×Int×Int×Int)
 mono:∀a0 a1 a2 a3 a4 k,LeO (f k a0 a1 a2 a3 a4) (f (k+1) a0 a1 a2 a3 a4)
 calls:∀(k:Nat) (g:Nat) (s0_0:ByteArray) (s0_1:Int) (s0_2:Int) (s0_3:Int) (a1:Int) (r1:Int) (r2:Int) (r3:ByteArray) (r4:List (S26)) (r5:ByteArray) (r6:Int) (r7:Int) (r8:Int) (w0 w:World) (hI:Qw w0 w g s0_0 s0_1 s0_2 s0_3) (hB:Below w0.heap.size w0 w) (h:f k s0_0 s0_1 s0_2 s0_3 a1=some (r1,r2,r3,r4,r5,r6,r7,r8)),
  Calls Tryd.prog 112 #[.pointer (some ⟨g,0,none⟩),.int .i64 a1] w fun e w'=>∃v3_:Value,e=.returned (.agg #[.int .i64 r1,.int .i64 r2,.string r3,v3_])∧Kd.N k26 26 w' w.heap.size (fun k_=>(w.heap.size≤k_)) v3_ r4∧Qw w0 w' g r5 r6 r7 r8∧Below w0.heap.size w0 w'∧Qe w w' g none
def Vt.f [Ve] (k:Nat) (a0:ByteArray) (a1 a2 a3 a4:Int):Option (Int×Int×ByteArray×(List (S26))×ByteArray×Int×Int×Int):=Ve.f k a0 a1 a2 a3 a4
theorem Vt.mono [Ve]:∀a0 a1 a2 a3 a4 k,LeO (Vt.f k a0 a1 a2 a3 a4) (Vt.f (k+1) a0 a1 a2 a3 a4):=Ve.mono
theorem Vt.calls [Ve] (k:Nat) (g:Nat) (s0_0:ByteArray) (s0_1:Int) (s0_2:Int) (s0_3:Int) (a1:Int) (r1:Int) (r2:Int) (r3:ByteArray) (r4:List (S26)) (r5:ByteArray) (r6:Int) (r7:Int) (r8:Int) (w0 w:World) (hI:Qw w0 w g s0_0 s0_1 s0_2 s0_3) (hB:Below w0.heap.size w0 w) (h:Vt.f k s0_0 s0_1 s0_2 s0_3 a1=some (r1,r2,r3,r4,r5,r6,r7,r8)):
 Calls Tryd.prog 112 #[.pointer (some ⟨g,0,none⟩),.int .i64 a1] w fun e w'=>∃v3_:Value,e=.returned (.agg #[.int .i64 r1,.int .i64 r2,.string r3,v3_])∧Kd.N k26 26 w' w.heap.size (fun k_=>(w.heap.size≤k_)) v3_ r4∧Qw w0 w' g r5 r6 r7 r8∧Below w0.heap.size w0 w'∧Qe w w' g none:=Ve.calls k g s0_0 s0_1 s0_2 s0_3 a1 r1 r2 r3 r4 r5 r6 r7 r8 w0 w hI hB h
class Vj where
 f:Nat→ByteArray→Int→Int→Int→Option (Int×Int×ByteArray×(List (S26))×ByteArray×Int×Int×Int)
 mono:∀a0 a1 a2 a3 k,LeO (f k a0 a1 a2 a3) (f (k+1) a0 a1 a2 a3)
 calls:∀(k:Nat) (g:Nat) (s0_0:ByteArray) (s0_1:Int) (s0_2:Int) (s0_3:Int) (r1:Int) (r2:Int) (r3:ByteArray) (r4:List (S26)) (r5:ByteArray) (r6:Int) (r7:Int) (r8:Int) (w0 w:World) (hI:Qw w0 w g s0_0 s0_1 s0_2 s0_3) (hB:Below w0.heap.size w0 w) (h:f k s0_0 s0_1 s0_2 s0_3=some (r1,r2,r3,r4,r5,r6,r7,r8)),
  Calls Tryd.prog 78 #[.pointer (some ⟨g,0,none⟩)] w fun e w'=>∃v3_:Value,e=.returned (.agg #[.int .i64 r1,.int .i64 r2,.string r3,v3_])∧Kd.N k26 26 w' w.heap.size (fun k_=>(w.heap.size≤k_)) v3_ r4∧Qw w0 w' g r5 r6 r7 r8∧Below w0.heap.size w0 w'∧Qe w w' g none
def Ww.f [Vj] (k:Nat) (a0:ByteArray) (a1 a2 a3:Int):Option (Int×Int×ByteArray×(List (S26))×ByteArray×Int×Int×Int):=Vj.f k a0 a1 a2 a3
end Go.Proofs.YtglmdfddgmkmaaaDoor.Q
end

/- What the claim needs, part 1 of 6. -/
import Derived.Below
import Derived.Deep.Draws
import Derived.Deep.AppendLies
import Derived.Maps.AppendAt
import Derived.OwnWalk
import Derived.Laws.BytesArg
import Derived.Laws.MakeOwn
import Derived.Laws.OwnMore
import Derived.Deep.OwnRows
import Derived.Tactics
import Derived.Lib.ConvBytes
import Derived.Laws.Slices
import Derived.WalkKit
import Derived.KernelRfl
import Derived.RowKit3
import Derived.Deep.LoopGhost
import Derived.Deep.QuietTactic
import Derived.BigQuiet
import Derived.WideLaws
import Derived.Deep.DeepCutAuto
import Derived.Deep.CutBlock
import Derived.Deep.RegionHeld3
import Derived.Laws.Rows
import Derived.Lib.AppendStr
import Derived.ArgAppend
import Derived.Laws.IdiomCopy
import Derived.RowKit
import Derived.OrdersHeld
import Derived.Laws.BitsLemmas
import Derived.Test.YtglmdfddgmkmaaaDoorProg
import Derived.Shelf.LaysM
import Derived.Shelf.Strconv.Itoa3
import Derived.Lib.AppendIntMem
import Derived.Test.YtglmdfddgmkmaaaDoorChecked
import Derived.ProofKit
import Derived.OpenShut
import Derived.ChangeArms
import Derived.DataReads
import Derived.Lib.SmallJoins
import Derived.Deep.Slices
import Derived.DataElems
import Derived.LaidMore
import Derived.Stop.LaidErr
import Derived.Stop.Joined
import Derived.Test.YtglmdfddgmkmaaaDoorRows
import Derived.Outline
import Derived.Defers
import Derived.Recover
import Derived.WalkSmall
section
-- PRINTED BY print.sh 35421559b90ae4d0a3588c463048766b98c2df88dd9212a6774a882060cdf62d: not written by this session
-- PRINTED WORDS (module Derived/Print/Words.lean): go-wishes' parts 1 to 38 and go-gate-2's additions: AI agents of Go's test side, Mon Nov 16 2026; no person has read them. Plain theorems and definitions: no macro, no elab, no axiom.
set_option linter.unusedVariables false
set_option linter.unusedSimpArgs false
namespace Go.Proofs.YtglmdfddgmkmaaaDoorW.PrintWords
open Go.RowKit
structure Qa (p:Prop):Prop where mk::(out:p)
structure Qk (w w':World):Prop where mk::(out:∃n,w'=w.drewN n)
theorem Qk.refl (w:World):Qk w w:=⟨⟨0,rfl⟩⟩
theorem Qk.step {w w':World} (h:Qk w w') (n:Nat):Qk w (w'.drewN n):=by
 obtain⟨m,rfl⟩ :=h;exact⟨⟨m+n,World.drewN_drewN ..⟩⟩
theorem Qk.below {w w':World} (h:Qk w w'):Below w.heap.size w w':=by
 obtain⟨n,rfl⟩ :=h
 induction n with
 |zero=>exact Below.refl _ _
 |succ n ih=>rw [←World.drew_drewN];exact ih.drew
def rd (xs:List Int) (i:Int):Int:=xs.getD i.toNat 0
def bt (s:ByteArray) (i:Int):Int:=if h:i.toNat < s.size then((s[i.toNat]'h).toNat:Int) else 0
theorem Zp (s:ByteArray) (i:Int):∀h:i.toNat < s.size,((s[i.toNat]'h).toNat:Int)=bt s i:=fun h=>by simp [bt,h]
theorem Xu {w W:World} (h:Below w.heap.size w W) (o:Obj):Below w.heap.size w (W.alloc o):=h.alloc h.size o
theorem Yx {B:Nat} {w W:World} (h:Below B w W):Below B w W.drew:=⟨h.os,h.tape,h.output,h.size,h.block⟩
theorem Q6 {B:Nat} {w W:World} (h:Below B w W) (n:Nat):Below B w (W.drewN n):=⟨h.os,h.tape,h.output,h.size,h.block⟩
theorem Y4 {B:Nat} {w w1 w2:World} (h:Below B w w1) (hB:B≤w1.heap.size) (k:Below w1.heap.size w1 w2):Below B w w2:=
 h.trans ⟨k.os,k.tape,k.output,k.size,fun i hi=>k.block i (Nat.lt_of_lt_of_le hi hB)⟩
theorem Y9 {w w1:World} (h:Below w.heap.size w w1) (row:Option Nat):w.grownBy w1 row:=⟨h.os,h.tape,h.output,h.size,fun i hi _=>h.block i hi⟩
theorem Fd {w w1:World} (h:Below w.heap.size w w1) {a:Addr} {v:Value} (hc:w.cell? a=some v):w1.cell? a=some v:=(h.cell (World.block_lt_of_cell? w a hc)).trans hc
theorem Sp (W:World) (base:Nat) (e:TypeId) (size:Nat):W.ownsRow base e size (.slice none 0 0) 0 []:=⟨by simp,.inl ⟨rfl,rfl⟩⟩
theorem own_base {w:World} {base:Nat} {e:TypeId} {size n:Nat} {v:Value} {xs:List Value} (h:w.ownsRow base e size v n xs) (k:Nat) (hk:v.ownBlock=some k):base≤k:=by
 rcases h.2 with ⟨rfl,_⟩|⟨g,cap,cur,rfl,hb,_⟩
 ·simp [Value.ownBlock] at hk
 have:g=k:=by simpa [Value.ownBlock] using hk
 omega
theorem Rh {w:World} {base:Nat} {e:TypeId} {size n:Nat} {v:Value} {xs:List Value} (h:w.ownsRow base e size v n xs) (k:Nat) (hk:v.ownBlock=some k):k < w.heap.size:=by
 rcases h.2 with ⟨rfl,_⟩|⟨g,cap,cur,rfl,hb,hh,_⟩
 ·simp [Value.ownBlock] at hk
 have:g=k:=by simpa [Value.ownBlock] using hk
 subst this;exact(Array.getElem?_eq_some_iff.1 hh).1
section
variable {P:Program} {ops:Array Oper} {rest:List Oper} {o:Oper} {a:Act} {Q:Exit→Act→World→Prop}
end
section
variable {P:Program}
end
section
variable {P:Program} {ops:Array Oper} {rest:List Oper} {o:Oper} {a:Act} {Q:Exit→Act→World→Prop}
end
def LeO {α:Type} (a b:Option α):Prop:=∀r,a=some r→b=some r
theorem LeO.refl {α:Type} (a:Option α):LeO a a:=fun _ h=>h
theorem LeO.trans {α:Type} {a b c:Option α} (h:LeO a b) (k:LeO b c):LeO a c:=fun r hr=>k r (h r hr)
theorem LeO.ite {α:Type} {c:Prop} [Decidable c] {a a' b b':Option α} (h:LeO a a') (k:LeO b b'):LeO (if c then a else b) (if c then a' else b'):=by
 split
 ·exact h
 exact k
theorem LeO.bind {α β:Type} {a a':Option α} {f f':α→Option β} (h:LeO a a') (k:∀x,LeO (f x) (f' x)):LeO (a.bind f) (a'.bind f'):=by
 intro r hr;obtain⟨x,hx,hf⟩ :=Option.bind_eq_some_iff.1 hr;exact Option.bind_eq_some_iff.2 ⟨x,h x hx,k x r hf⟩
def Xp {α:Type} (R:α→List Value→Prop) (size:Nat) (ps:List α) (cs:List Value):Prop:=
 cs.length=ps.length*size∧∀j p,ps[j]? =some p→R p ((cs.drop (j*size)).take size)
theorem Xp.none {α:Type} (R:α→List Value→Prop) (size:Nat):Xp R size [] []:=⟨by simp,fun j p h=>by simp at h⟩
theorem Xp.snoc {α:Type} {R:α→List Value→Prop} {size:Nat} {ps:List α} {cs c:List Value} {p:α} (h:Xp R size ps cs) (hp:R p c) (hc:c.length=size):Xp R size (ps++[p]) (cs++c):=by
 refine⟨by rw [List.length_append,h.1,hc,List.length_append,List.length_singleton,Nat.add_mul,Nat.one_mul],fun j q hq=>?_⟩;rcases Nat.lt_or_ge j ps.length with hj|hj
 ·rw [List.getElem?_append_left hj] at hq;have h1:j*size+size≤cs.length:=by rw [h.1,←Nat.succ_mul];exact Nat.mul_le_mul_right _ hj
  have h2:=h.2 j q hq;rw [List.drop_append_of_le_length (by omega),List.take_append_of_le_length (by rw [List.length_drop];omega)];exact h2
 have hj':j=ps.length:=by
  have:=(List.getElem?_eq_some_iff.1 hq).1;rw [List.length_append,List.length_singleton] at this;omega
 subst hj';have hq':p=q:=by simpa using hq
 subst hq';rw [←h.1,List.drop_left,←hc,List.take_length];exact hp
theorem Xp.imp_ {α:Type} {R R':α→List Value→Prop} {size:Nat} {ps:List α} {cs:List Value} (h:Xp R size ps cs) (hR:∀p c,R p c→R' p c):Xp R' size ps cs:=⟨h.1,fun j p hj=>hR _ _ (h.2 j p hj)⟩
def Vl {α:Type} (R:α→List Value→Prop) (size:Nat) (w:World) (A:Option Addr) (n:Nat) (ps:List α):Prop:=
 ps.length=n∧n≤9223372036854775807∧(0 < n→∃ad,A=some ad∧∀j p,ps[j]? =some p→∃c,c.length=size∧R p c∧∀i u,c[i]? =some u→w.cell? (ad.add (j*size+i))=some u)
theorem Vl.get_ {α:Type} {R:α→List Value→Prop} {size:Nat} {w:World} {A:Option Addr} {n:Nat} {ps:List α} (h:Vl R size w A n ps) (d:α) (i:Int) (h0:0≤i) (h1:i < n):
 ∃ad c,A=some ad∧c.length=size∧R (ps.getD i.toNat d) c∧∀j u,c[j]? =some u→w.cell? (ad.add (i.toNat*size+j))=some u:=by
 obtain⟨ad,e,hc⟩ :=h.2.2 (by omega);have hl:i.toNat < ps.length:=by have:=h.1;omega
 obtain⟨c,hs,hr,hcell⟩ :=hc i.toNat _ (List.getElem?_eq_getElem hl);refine⟨ad,c,e,hs,?_,hcell⟩;rw [List.getD_eq_getElem?_getD,List.getElem?_eq_getElem hl];exact hr
theorem Vl.imp_ {α:Type} {R R':α→List Value→Prop} {size:Nat} {w w1:World} {A:Option Addr} {n:Nat} {ps:List α} (h:Vl R size w A n ps) (hb:Below w.heap.size w w1) (hR:∀p c,R p c→R' p c):Vl R' size w1 A n ps:=
 ⟨h.1,h.2.1,fun hn=>by
  obtain⟨ad,e,hc⟩ :=h.2.2 hn;refine⟨ad,e,fun j p hj=>?_⟩;obtain⟨c,hs,hr,hcell⟩ :=hc j p hj;exact⟨c,hs,hR _ _ hr,fun i u hu=>Fd hb (hcell i u hu)⟩⟩
theorem Fb {α:Type} {R:α→List Value→Prop} {w:World} {base n size:Nat} {e:TypeId} {v:Value} {ps:List α} {cs:List Value} (h:w.ownsRow base e size v n cs) (hR:Xp R size ps cs) (hn:ps.length=n):
 ∃A c,v=.slice A n c∧Vl R size w A n ps:=by
 rcases Nat.eq_zero_or_pos n with h0|h0
 ·rcases h.2 with ⟨rfl,rfl⟩|⟨g,cap,cur,rfl,_⟩
  ·exact⟨none,0,rfl,hn,by omega,fun hp=>absurd hp (by omega)⟩
  exact⟨_,cap,rfl,hn,by omega,fun hp=>absurd hp (by omega)⟩
 obtain⟨g,cap,rfl,_,_⟩ :=h.form h0
 have hm:n≤9223372036854775807 :=by
  rcases h.2 with ⟨_,h1⟩|⟨g',cap',cur,he,_,_,h1,h2,_⟩
  ·omega
  simp only [maxLen] at h2;omega
 refine⟨_,cap,rfl,hn,hm,fun _=>⟨_,rfl,fun j p hj=>⟨(cs.drop (j*size)).take size,?_,hR.2 j p hj,fun i u hu=>?_⟩⟩⟩
 ·have hjl:=(List.getElem?_eq_some_iff.1 hj).1;have h1:j*size+size≤cs.length:=by rw [hR.1,←Nat.succ_mul];exact Nat.mul_le_mul_right _ hjl
  rw [List.length_take,List.length_drop];omega
 refine h.cells (g:=g) rfl _ u ?_;rw [List.getElem?_take] at hu;split at hu
 ·rw [List.getElem?_drop] at hu;exact hu
 cases hu
theorem Kh (ad:Addr) (m j:Nat) (hj:0 < j):ad.add (m+j)=⟨(ad.add m).block,(ad.add m).off+j,none⟩ :=by
 unfold Addr.add;by_cases hm:m=0
 rotate_left
 ·simp [hm,Nat.add_assoc]
 subst hm;simp [Nat.ne_of_gt hj]
section
variable {P:Program} {ops:Array Oper} {rest:List Oper} {o:Oper} {a:Act} {Q:Exit→Act→World→Prop}
theorem Js {w0 W:World} (base:Nat) (hgd:o.guard=none) (s x:Operand) (t e:TypeId) (z:Value) (size bytes:Nat)
 (ho:o.op=.call {callee:=.builtin .append,args:=#[s,x],argTypes:=#[t,t]})
 (ht:P.underlying t=some (.slice e)) (hinfo:(P.info? e).map (fun i=>(i.zero,i.size,i.bytes))=some (some z,size,bytes)) (hz:z.cells.size=size) (hs0:0 < size) (hb0:0 < bytes)
 (v:Value) (n:Nat) (xs ys:List Value) (hs:a.eval s=v) (hx:a.eval x=.slice (some ⟨W.heap.size,0,none⟩) 1 1) (hys:ys.length=size) (h1:∀u∈ys,u.oneCell'=true)
 (HO:W.ownsRow base e size v n xs) (HB:Below base w0 W) (hbase:base≤W.heap.size) (hl:(n+1)*bytes≤140737488355328)
 (h:∀v1 w1,w1.ownsRow base e size v1 (n+1) (xs++ys)→Below base w0 w1→W.grownBy w1 v.ownBlock→(v1.ownBlock=v.ownBlock∨∃b,v1.ownBlock=some b∧W.heap.size≤b)→wpList P ops Q rest (a.put o.dst v1) w1):
 wpList P ops Q (o::rest) a (W.alloc (.cells ys.toArray e)):=by
 obtain⟨i0,hi,hzz⟩ :=Option.map_eq_some_iff.1 hinfo;simp only [Prod.mk.injEq] at hzz;obtain⟨hz0,hz1,hz2⟩ :=hzz;have hlen:n+1≤140737488355328 :=Nat.le_trans (Nat.le_mul_of_pos_right _ hb0) hl
 refine wpList_append_own_at (W.alloc (.cells ys.toArray e)) hgd s x t ho base e i0 z size bytes ht hi hz0 hz1 hz2 hz hs0 v n xs hs (HO.alloc _) ⟨W.heap.size,0,none⟩ 1 1 ys hx (by rw [hys];simp)
  (by simpa using World.news_of_block (cs:=ys.toArray) (t:=e) (fr:=(0,0)) (heap_alloc_new W (.cells ys.toArray e))) h1 (by simp only [maxLen];omega) hl (by simp;omega) ?_
 intro v1 w1 hown hg _ hat;refine h v1 w1 hown ((HB.alloc hbase _).grown hg (by simp;omega) (own_base HO)) (World.grownBy.trans (World.grownBy_alloc W _ _) hg) ?_;rcases hat with hat|hat
 ·exact .inl hat
 exact .inr ⟨_,hat,by simp⟩
end
theorem own_ne {w:World} {base:Nat} {e t:TypeId} {size n g:Nat} {v:Value} {xs:List Value} {cs:Array Value} (h:w.ownsRow base e size v n xs) (hg:w.heap[g]? =some (.cells cs t (0,0))) (hne:e≠t):some g≠v.ownBlock:=by
 rcases h.2 with ⟨rfl,_⟩|⟨g',cap,cur,rfl,_,hh,_⟩
 ·simp [Value.ownBlock]
 intro he;have:g=g':=by simpa [Value.ownBlock] using he
 subst this;rw [hg] at hh;injection hh with hh
 injection hh with _ ht
 exact hne ht.symm
theorem Je {w:World} {g:Nat} {t:TypeId} {cs:Array Value} (h:w.heap[g]? =some (.cells cs t (0,0))) (i:Nat) (u:Value):(w.setCell ⟨g,i,none⟩ u).heap[g]? =some (.cells (cs.setIfInBounds i u) t (0,0)):=by
 simp [World.setCell,Array.getElem?_modify,h]
theorem Xg {w:World} {g:Nat} {t:TypeId} {cs:Array Value} (h:w.heap[g]? =some (.cells cs t (0,0))) {p:Addr} (hp:g≠p.block) (u:Value):(w.setCell p u).heap[g]? =some (.cells cs t (0,0)):=(Below.heap_setCell w p u g hp).trans h
theorem Xr {w:World} {g:Nat} {o:Obj} (h:w.heap[g]? =some o):g < w.heap.size:=(Array.getElem?_eq_some_iff.1 h).1
theorem Qb {w:World} {g:Nat} {t:TypeId} {cs:Array Value} (h:w.heap[g]? =some (.cells cs t (0,0))) (i:Nat):w.cell? ⟨g,i,none⟩=cs[i]? :=cell_of_row w g i cs t (0,0) h
theorem Qd {w:World} {g:Nat} {t:TypeId} {cs:Array Value} (h:w.heap[g]? =some (.cells cs t (0,0))) (i:Nat):w.frozen? ⟨g,i,none⟩=false:=by simp [World.frozen?,h]
theorem Fk {w w1:World} {g:Nat} {o:Obj} {row:Option Nat} (h:w.heap[g]? =some o) (hg:w.grownBy w1 row) (hne:some g≠row):w1.heap[g]? =some o:=(hg.block g (Xr h) hne).trans h
def Qe (w w':World) (g:Nat) (row:Option Nat):Prop:=w.heap.size≤w'.heap.size∧∀i,i < w.heap.size→i≠g→some i≠row→w'.heap[i]? =w.heap[i]?
theorem Qe.refl (w:World) (g:Nat) (row:Option Nat):Qe w w g row:=⟨Nat.le_refl _,fun _ _ _ _=>rfl⟩
theorem Qe.of_below {w w1:World} (h:Below w.heap.size w w1) (g:Nat) (row:Option Nat):Qe w w1 g row:=⟨h.size,fun i hi _ _=>h.block i hi⟩
theorem Qe.set_ {w w1:World} {g:Nat} {row:Option Nat} (h:Qe w w1 g row) (j:Nat) (u:Value):Qe w (w1.setCell ⟨g,j,none⟩ u) g row:=
 ⟨by simpa [World.setCell] using h.1,fun i hi hg hr=>(Below.heap_setCell w1 ⟨g,j,none⟩ u i hg).trans (h.2 i hi hg hr)⟩
theorem Qe.trans {w w1 w2:World} {g:Nat} {row row1:Option Nat} (h:Qe w w1 g row) (k:Qe w1 w2 g row1) (hr:row1=row∨∃b,row1=some b∧w.heap.size≤b):Qe w w2 g row:=
 ⟨Nat.le_trans h.1 k.1,fun i hi hg hn=>by
  refine(k.2 i (Nat.lt_of_lt_of_le hi h.1) hg ?_).trans (h.2 i hi hg hn);rcases hr with rfl|⟨b,rfl,hb⟩
  ·exact hn
  intro e;injection e with e
  omega⟩
theorem Qe.blk {w w1:World} {g g':Nat} {row:Option Nat} {o:Obj} (h:Qe w w1 g row) (hb:w.heap[g']? =some o) (hg:g'≠g) (hr:some g'≠row):w1.heap[g']? =some o:=(h.2 g' (Xr hb) hg hr).trans hb
section
variable {P:Program} {ops:Array Oper} {o:Oper} {a:Act} {Q:Exit→Act→World→Prop} {K:Act→World→Prop}
end
theorem Ma {w:World} {base base':Nat} {e:TypeId} {size n:Nat} {v:Value} {xs:List Value} (h:w.ownsRow base e size v n xs) (hb:base'≤base):w.ownsRow base' e size v n xs:=by
 obtain⟨h1,h2⟩ :=h;refine⟨h1,?_⟩;rcases h2 with h2|⟨g,cap,cur,rfl,hg,r⟩
 ·exact .inl h2
 exact .inr ⟨g,cap,cur,rfl,Nat.le_trans hb hg,r⟩
section
variable {α:Type} {enc:α→Value} {d:α}
def Vd (d:α) (xs:List α) (i:Int):α:=xs.getD i.toNat d
def Jz (enc:α→Value) (d:α) (w:World) (A:Option Addr) (n:Nat) (xs:List α):Prop:=
 xs.length=n∧n≤9223372036854775807∧(0 < n→∃ad,A=some ad∧∀j,j < n→w.cell? (ad.add j)=some (enc (xs.getD j d)))
theorem Jz.at_ {w:World} {A:Option Addr} {n:Nat} {xs:List α} (h:Jz enc d w A n xs) (i:Int) (h0:0≤i) (h1:i < n):∃ad,A=some ad∧w.cell? (ad.add i.toNat)=some (enc (Vd d xs i)):=by
 obtain⟨ad,e,hc⟩ :=h.2.2 (by omega);exact⟨ad,e,hc _ (by omega)⟩
end
section
variable {α:Type} {P:Program} {ops:Array Oper} {rest:List Oper} {o:Oper} {a:Act} {Q:Exit→Act→World→Prop}
end
theorem Yg {w:World} {g:Nat} {o:Obj} (h:w.heap[g]? =some o):w.drew.heap[g]? =some o:=h
theorem Yn {w:World} {g:Nat} {o:Obj} (h:w.heap[g]? =some o) (n:Nat):(w.drewN n).heap[g]? =some o:=h
theorem Q1 {w w1:World} {g:Nat} {o:Obj} (h:w.heap[g]? =some o) (hb:Below w.heap.size w w1):w1.heap[g]? =some o:=(hb.block g (Xr h)).trans h
theorem Si (w:World) (o:Obj):(w.alloc o).heap[w.heap.size]? =some o:=heap_alloc_new w o
section
variable {P:Program}
theorem Y2 {fn:Func} {p u v:Tmp} {ty:TypeId} (h:fn.results=#[.cell p ty,.tmp u,.tmp v]) (tmps:Array Value) (w:World) (g:Nat) (t:TypeId) (cs:Array Value) (fr:Nat×Nat) (d:TypeDesc)
 (hp:tmps.getD p undef=.pointer (some ⟨g,0,none⟩)) (hg:w.heap[g]? =some (.cells cs t fr))
 (hu:P.underlying ty=some d) (hd:(match d with|.struct _|.array _ _=>true|_=>false)=true) (hi:(P.info? ty).map (·.size)=some cs.size):
 (results fn tmps).run P w=.ok (.tuple #[.agg cs,tmps.getD u undef,tmps.getD v undef]) w:=by
 have hp':tmps[p]?.getD undef=.pointer (some ⟨g,0,none⟩):=by simpa using hp
 simp [results,h,hp',asAddr,run_loadVar_row w g t ty cs fr d hg hu hd hi]
end
theorem Tk {w:World} {base n m c size:Nat} {e:TypeId} {A:Option Addr} {xs:List Value} (h:w.ownsRow base e size (.slice A m c) n xs):m≤c:=by
 rcases h.2 with ⟨he,_⟩|⟨g,cap,cur,he,_,_,hnc,_⟩
 ·injection he with _ h2 h3
  omega
 injection he with _ h2 h3
 omega
def V5 {α:Type} (R:α→List Value→Prop) (e:TypeId) (size:Nat) (w:World) (base:Nat) (v:Value) (ps:List α):Prop:=
 ∃inner,w.ownsRow base e size v ps.length inner∧Xp R size ps inner
section
variable {α:Type} {R R':α→List Value→Prop} {e:TypeId} {size:Nat} {w w1:World} {base:Nat} {v:Value} {ps:List α}
theorem V5.none_ (R:α→List Value→Prop) (e:TypeId) (size:Nat) (w:World) (base:Nat):V5 R e size w base (.slice none 0 0) []:=⟨[],Sp _ _ _ _,Xp.none _ _⟩
theorem V5.imp_ (h:V5 R e size w base v ps) (hR:∀p c,R p c→R' p c):V5 R' e size w base v ps:=by
 obtain⟨inner,ho,hr⟩ :=h;exact⟨inner,ho,hr.imp_ hR⟩
theorem V5.reads (h:V5 R e size w base v ps):∃A c,v=.slice A ps.length c∧ps.length≤c∧Vl R size w A ps.length ps:=by
 obtain⟨inner,ho,hr⟩ :=h;obtain⟨A,c,rfl,hrow⟩ :=Fb ho hr rfl;exact⟨A,c,rfl,Tk ho,hrow⟩
theorem V5.ne_block (h:V5 R e size w base v ps) {g:Nat} {t:TypeId} {cells:Array Value} (hb:w.heap[g]? =some (.cells cells t (0,0))) (ht:e≠t):some g≠v.ownBlock:=by
 obtain⟨inner,ho,hr⟩ :=h;exact own_ne ho hb ht
end
section
variable {P:Program} {ops:Array Oper} {rest:List Oper} {o:Oper} {a:Act} {Q:Exit→Act→World→Prop} {α:Type} {R:α→List Value→Prop}
end
section
variable {P:Program} {ops:Array Oper} {o:Oper} {a:Act} {Q:Exit→Act→World→Prop} {K:Act→World→Prop} {α:Type} {R:α→List Value→Prop}
end
section
variable {α:Type} {P:Program}
end
section
variable {P:Program} {ops:Array Oper} {rest:List Oper} {o:Oper} {a:Act} {Q:Exit→Act→World→Prop}
end
structure Kd (α:Type) where
 sz:Nat
 E:List Nat
 K:World→α→List Value→Prop
 M:World→Nat→(Nat→Prop)→α→List Value→Prop
 K_len:∀{w x cs},K w x cs→cs.length=sz
 K_one:∀{w x cs},K w x cs→∀u∈cs,u.oneCell'=true
 K_below:∀{w w1:World} {x cs},Below w.heap.size w w1→K w x cs→K w1 x cs
 K_of_M:∀{w base ok x cs},M w base ok x cs→K w x cs
 M_mono:∀{w base ok ok' x cs},(∀k,ok k→ok' k)→M w base ok x cs→M w base ok' x cs
 M_bound:∀{w:World} {base ok x cs},M w base ok x cs→M w base (fun k=>ok k∧base≤k∧k < w.heap.size∧∃q,q∈E∧∃cells,w.heap[k]? =some (.cells cells q (0,0))) x cs
 M_move:∀{w w1:World} {base ok x cs},(∀k,ok k→w1.heap[k]? =w.heap[k]?)→M w base ok x cs→M w1 base ok x cs
 M_lower:∀{w base base' ok x cs},base'≤base→M w base ok x cs→M w base' ok x cs
theorem Ri {w w1:World} {base:Nat} {e:TypeId} {size n:Nat} {v:Value} {xs:List Value} (h:w.ownsRow base e size v n xs) (hm:∀k,v.ownBlock=some k→w1.heap[k]? =w.heap[k]?):w1.ownsRow base e size v n xs:=by
 obtain⟨h1,h2⟩ :=h;refine⟨h1,?_⟩;rcases h2 with h2|⟨g,cap,cur,rfl,hg,hh,r⟩
 ·exact .inl h2
 exact .inr ⟨g,cap,cur,rfl,hg,(hm g (by simp [Value.ownBlock])).trans hh,r⟩
theorem Lg {w:World} {base:Nat} {e:TypeId} {size n:Nat} {v:Value} {xs:List Value} (h:w.ownsRow base e size v n xs) (k:Nat) (hk:v.ownBlock=some k):∃cells,w.heap[k]? =some (.cells cells e (0,0)):=by
 rcases h.2 with ⟨rfl,_⟩|⟨g,cap,cur,rfl,hg,hh,r⟩
 ·simp [Value.ownBlock] at hk
 have:g=k:=by simpa [Value.ownBlock] using hk
 subst this;exact⟨cur,hh⟩
namespace Kd
def C {α:Type} (d:Kd α) (w:World) (A:Option Addr) (n:Nat) (xs:List α):Prop:=Vl (d.K w) d.sz w A n xs
def R {α:Type} (d:Kd α) (e:Nat) (w:World) (base:Nat) (ok:Nat→Prop) (v:Value) (xs:List α):Prop:=
 (∀k,v.ownBlock=some k→ok k)∧V5 (d.M w base (fun k=>ok k∧some k≠v.ownBlock)) e d.sz w base v xs
section
variable {α:Type} {d:Kd α} {e:Nat} {w w1:World} {base:Nat} {ok ok':Nat→Prop} {v:Value} {xs:List α}
theorem C_below {A:Option Addr} {n:Nat} (h:d.C w A n xs) (hb:Below w.heap.size w w1):d.C w1 A n xs:=Vl.imp_ h hb (fun _ _ hp=>d.K_below hb hp)
theorem R_nil (d:Kd α) (e:Nat) (w:World) (base:Nat) (ok:Nat→Prop):d.R e w base ok (.slice none 0 0) []:=⟨fun k hk=>by simp [Value.ownBlock] at hk,V5.none_ _ _ _ _ _⟩
theorem R_mono (h:d.R e w base ok v xs) (hok:∀k,ok k→ok' k):d.R e w base ok' v xs:=⟨fun k hk=>hok k (h.1 k hk),h.2.imp_ (fun _ _ hp=>d.M_mono (fun k hk=>⟨hok k hk.1,hk.2⟩) hp)⟩
theorem R_bound (h:d.R e w base ok v xs):d.R e w base (fun k=>ok k∧base≤k∧k < w.heap.size∧∃q,q∈e::d.E∧∃cells,w.heap[k]? =some (.cells cells q (0,0))) v xs:=by
 obtain⟨h0,inner,ho,hr⟩ :=h;refine⟨fun k hk=>?_,inner,ho,hr.imp_ (fun _ _ hp=>d.M_mono (fun k hk=>?_) (d.M_bound hp))⟩
 ·obtain⟨cells,hc⟩ :=Lg ho k hk;exact⟨h0 k hk,own_base ho k hk,Rh ho k hk,e,List.mem_cons_self,cells,hc⟩
 obtain⟨⟨h1,h2⟩,h3,h4,q,hq,hc⟩ :=hk;exact⟨⟨h1,h3,h4,q,List.mem_cons_of_mem _ hq,hc⟩,h2⟩
theorem Ns (h:d.R e w base ok v xs) (hm:∀k,ok k→w1.heap[k]? =w.heap[k]?):d.R e w1 base ok v xs:=by
 obtain⟨h0,inner,ho,hr⟩ :=h;exact⟨h0,inner,Ri ho (fun k hk=>hm k (h0 k hk)),hr.imp_ (fun _ _ hp=>d.M_move (fun k hk=>hm k hk.1) hp)⟩
theorem R_lower {base':Nat} (h:d.R e w base ok v xs) (hb:base'≤base):d.R e w base' ok v xs:=by
 obtain⟨h0,inner,ho,hr⟩ :=h;exact⟨h0,inner,Ma ho hb,hr.imp_ (fun _ _ hp=>d.M_lower hb hp)⟩
theorem Uh (h:d.R e w base ok v xs) (hm:∀k,ok k→k < w.heap.size→w1.heap[k]? =w.heap[k]?):d.R e w1 base ok v xs:=
 R_mono (Ns (R_bound h) (fun k hk=>hm k hk.1 hk.2.2.1)) (fun _ hk=>hk.1)
theorem Lt {x:α} {cs:List Value} (h:d.M w base ok x cs) (hm:∀k,ok k→k < w.heap.size→w1.heap[k]? =w.heap[k]?):d.M w1 base ok x cs:=
 d.M_mono (fun _ hk=>hk.1) (d.M_move (fun k hk=>hm k hk.1 hk.2.2.1) (d.M_bound h))
theorem R_below (h:d.R e w base ok v xs) (hb:Below w.heap.size w w1):d.R e w1 base ok v xs:=Uh h (fun k _ hk=>hb.block k hk)
theorem M_below {x:α} {cs:List Value} (h:d.M w base ok x cs) (hb:Below w.heap.size w w1):d.M w1 base ok x cs:=Lt h (fun k _ hk=>hb.block k hk)
theorem R_grown (h:d.R e w base ok v xs) {row:Option Nat} (hg:w.grownBy w1 row) (hok:∀k,ok k→some k≠row):d.R e w1 base ok v xs:=Uh h (fun k ho hk=>hg.block k hk (hok k ho))
theorem R_far (h:d.R e w base ok v xs) {p:Addr} (hok:∀k,ok k→k≠p.block) (u:Value):d.R e (w.setCell p u) base ok v xs:=Uh h (fun k ho _=>Below.heap_setCell w p u k (hok k ho))
theorem Fw (h:d.R e w base ok v xs):∃A c,v=.slice A xs.length c∧xs.length≤c∧d.C w A xs.length xs:=by
 obtain⟨A,c,he,hl,hr⟩ :=V5.reads h.2;exact⟨A,c,he,hl,hr.imp_ (Below.refl _ _) (fun _ _ hp=>d.K_of_M hp)⟩
theorem R_slice (h:d.R e w base ok v xs):∃A c,v=.slice A xs.length c:=by
 obtain⟨A,c,he,_⟩ :=Fw h;exact⟨A,c,he⟩
theorem S5 (h:d.R e w base ok v xs):∃inner,w.ownsRow base e d.sz v xs.length inner:=by
 obtain⟨_,inner,ho,_⟩ :=h;exact⟨inner,ho⟩
theorem R_ne (h:d.R e w base ok v xs) {g t:Nat} {cells:Array Value} (hb:w.heap[g]? =some (.cells cells t (0,0))) (ht:e≠t):some g≠v.ownBlock:=V5.ne_block h.2 hb ht
end
def scalar {α:Type} (enc:α→Value) (h1:∀x,(enc x).oneCell'=true):Kd α where
 sz:=1
 E:=[]
 K:=fun _ x cs=>cs=[enc x]
 M:=fun _ _ _ x cs=>cs=[enc x]
 K_len:=fun h=>by rw [h];rfl
 K_one:=fun h u hu=>by
  rw [h] at hu;rw [List.mem_singleton.1 hu];exact h1 _
 K_below:=fun _ h=>h
 K_of_M:=fun h=>h
 M_mono:=fun _ h=>h
 M_bound:=fun h=>h
 M_move:=fun _ h=>h
 M_lower:=fun _ h=>h
def int (k:IntKind):Kd Int:=scalar (Value.int k) (fun _=>rfl)
def string:Kd ByteArray:=scalar Value.string (fun _=>rfl)
def slice {α:Type} (e:Nat) (d:Kd α):Kd (List α) where
 sz:=1
 E:=e::d.E
 K:=fun w xs cs=>∃A c,cs=[.slice A xs.length c]∧xs.length≤c∧d.C w A xs.length xs
 M:=fun w base ok xs cs=>∃v,cs=[v]∧d.R e w base ok v xs
 K_len:=by
  rintro w x cs ⟨A,c,rfl,_⟩;rfl
 K_one:=by
  rintro w x cs ⟨A,c,rfl,_⟩ u hu;rw [List.mem_singleton.1 hu];rfl
 K_below:=by
  rintro w w1 x cs hb ⟨A,c,rfl,hl,hr⟩;exact⟨A,c,rfl,hl,C_below hr hb⟩
 K_of_M:=by
  rintro w base ok x cs ⟨v,rfl,h⟩;obtain⟨A,c,rfl,hl,hr⟩ :=Fw h;exact⟨A,c,rfl,hl,hr⟩
 M_mono:=by
  rintro w base ok ok' x cs hok ⟨v,rfl,h⟩;exact⟨v,rfl,R_mono h hok⟩
 M_bound:=by
  rintro w base ok x cs ⟨v,rfl,h⟩;exact⟨v,rfl,R_bound h⟩
 M_move:=by
  rintro w w1 base ok x cs hm ⟨v,rfl,h⟩;exact⟨v,rfl,Ns h hm⟩
 M_lower:=by
  rintro w base base' ok x cs hb ⟨v,rfl,h⟩;exact⟨v,rfl,R_lower h hb⟩
def pair {α β:Type} (a:Kd α) (b:Kd β):Kd (α×β) where
 sz:=a.sz+b.sz
 E:=a.E++b.E
 K:=fun w x cs=>∃c0 c1,cs=c0++c1∧a.K w x.1 c0∧b.K w x.2 c1
 M:=fun w base ok x cs=>∃c0 c1,cs=c0++c1∧a.M w base ok x.1 c0∧b.M w base ok x.2 c1
 K_len:=by
  rintro w x cs ⟨c0,c1,rfl,h0,h1⟩;rw [List.length_append,a.K_len h0,b.K_len h1]
 K_one:=by
  rintro w x cs ⟨c0,c1,rfl,h0,h1⟩ u hu;rcases List.mem_append.1 hu with hu|hu
  ·exact a.K_one h0 u hu
  exact b.K_one h1 u hu
 K_below:=by
  rintro w w1 x cs hb ⟨c0,c1,rfl,h0,h1⟩;exact⟨c0,c1,rfl,a.K_below hb h0,b.K_below hb h1⟩
 K_of_M:=by
  rintro w base ok x cs ⟨c0,c1,rfl,h0,h1⟩;exact⟨c0,c1,rfl,a.K_of_M h0,b.K_of_M h1⟩
 M_mono:=by
  rintro w base ok ok' x cs hok ⟨c0,c1,rfl,h0,h1⟩;exact⟨c0,c1,rfl,a.M_mono hok h0,b.M_mono hok h1⟩
 M_bound:=by
  rintro w base ok x cs ⟨c0,c1,rfl,h0,h1⟩;refine⟨c0,c1,rfl,a.M_mono ?_ (a.M_bound h0),b.M_mono ?_ (b.M_bound h1)⟩
  ·rintro k ⟨h2,h3,h4,q,hq,hc⟩;exact⟨h2,h3,h4,q,List.mem_append_left _ hq,hc⟩
  rintro k ⟨h2,h3,h4,q,hq,hc⟩;exact⟨h2,h3,h4,q,List.mem_append_right _ hq,hc⟩
 M_move:=by
  rintro w w1 base ok x cs hm ⟨c0,c1,rfl,h0,h1⟩;exact⟨c0,c1,rfl,a.M_move hm h0,b.M_move hm h1⟩
 M_lower:=by
  rintro w base base' ok x cs hb ⟨c0,c1,rfl,h0,h1⟩;exact⟨c0,c1,rfl,a.M_lower hb h0,b.M_lower hb h1⟩
def iso {α β:Type} (d:Kd α) (f:β→α):Kd β where
 sz:=d.sz
 E:=d.E
 K:=fun w x cs=>d.K w (f x) cs
 M:=fun w base ok x cs=>d.M w base ok (f x) cs
 K_len:=d.K_len
 K_one:=d.K_one
 K_below:=d.K_below
 K_of_M:=d.K_of_M
 M_mono:=d.M_mono
 M_bound:=d.M_bound
 M_move:=d.M_move
 M_lower:=d.M_lower
def bot {α:Type} (sz:Nat) (E:List Nat):Kd α where
 sz:=sz
 E:=E
 K:=fun _ _ _=>False
 M:=fun _ _ _ _ _=>False
 K_len:=fun h=>h.elim
 K_one:=fun h=>h.elim
 K_below:=fun _ h=>h
 K_of_M:=fun h=>h
 M_mono:=fun _ h=>h
 M_bound:=fun h=>h
 M_move:=fun _ h=>h
 M_lower:=fun _ h=>h
def upto {α:Type} (F:Kd α→Kd α) (sz:Nat) (E:List Nat):Nat→Kd α
 |0=>bot sz E
 |n+1=>F (upto F sz E n)
def fix {α:Type} (F:Kd α→Kd α) (sz:Nat) (E:List Nat) (hs:∀n,(upto F sz E n).sz=sz) (hE:∀n q,q∈(upto F sz E n).E→q∈E):Kd α where
 sz:=sz
 E:=E
 K:=fun w x cs=>∃n,(upto F sz E n).K w x cs
 M:=fun w base ok x cs=>∃n,(upto F sz E n).M w base ok x cs
 K_len:=by
  rintro w x cs ⟨n,h⟩;rw [(upto F sz E n).K_len h,hs n]
 K_one:=by
  rintro w x cs ⟨n,h⟩;exact(upto F sz E n).K_one h
 K_below:=by
  rintro w w1 x cs hb ⟨n,h⟩;exact⟨n,(upto F sz E n).K_below hb h⟩
 K_of_M:=by
  rintro w base ok x cs ⟨n,h⟩;exact⟨n,(upto F sz E n).K_of_M h⟩
 M_mono:=by
  rintro w base ok ok' x cs hok ⟨n,h⟩;exact⟨n,(upto F sz E n).M_mono hok h⟩
 M_bound:=by
  rintro w base ok x cs ⟨n,h⟩;refine⟨n,(upto F sz E n).M_mono ?_ ((upto F sz E n).M_bound h)⟩;rintro k ⟨h2,h3,h4,q,hq,hc⟩;exact⟨h2,h3,h4,q,hE n q hq,hc⟩
 M_move:=by
  rintro w w1 base ok x cs hm ⟨n,h⟩;exact⟨n,(upto F sz E n).M_move hm h⟩
 M_lower:=by
  rintro w base base' ok x cs hb ⟨n,h⟩;exact⟨n,(upto F sz E n).M_lower hb h⟩
theorem C_get {α:Type} {d:Kd α} {w:World} {A:Option Addr} {n:Nat} {xs:List α} (h:d.C w A n xs) (z:α) (i:Int) (h0:0≤i) (h1:i < n):
 ∃ad c,A=some ad∧c.length=d.sz∧d.K w (xs.getD i.toNat z) c∧∀j u,c[j]? =some u→w.cell? (ad.add (i.toNat*d.sz+j))=some u:=Vl.get_ h z i h0 h1
theorem Nq {α:Type} {d:Kd α} {e base:Nat} {ok okp:Nat→Prop} {W w1:World} {v v1:Value} {xs:List α} {p:α} {inner cs:List Value} (h0:∀k,v.ownBlock=some k→ok k) (hr:Xp (d.M W base (fun k=>ok k∧some k≠v.ownBlock)) d.sz xs inner) (hp:d.M W base okp p cs) (hokp:∀k,okp k→ok k∧some k≠v.ownBlock) (hfresh:∀k,W.heap.size≤k→ok k)
 (hown:w1.ownsRow base e d.sz v1 (xs.length+1) (inner++cs)) (hg:W.grownBy w1 v.ownBlock) (hat:v1.ownBlock=v.ownBlock∨∃b,v1.ownBlock=some b∧W.heap.size≤b):d.R e w1 base ok v1 (xs++[p]):=by
 have hne:∀k,some k≠v.ownBlock→k < W.heap.size→some k≠v1.ownBlock:=by
  intro k hk hlt;rcases hat with hat|⟨b,hb,hle⟩
  ·rw [hat];exact hk
  rw [hb];intro he;injection he with he
  omega
 have step:∀{q:α} {c:List Value} {o:Nat→Prop},d.M W base o q c→(∀k,o k→ok k∧some k≠v.ownBlock)→d.M w1 base (fun k=>ok k∧some k≠v1.ownBlock) q c:=by
  intro q c o hq ho;have h1:=d.M_move (w1:=w1) (fun k hk=>hg.block k hk.2.2.1 (ho k hk.1).2) (d.M_bound hq)
  exact d.M_mono (fun k hk=>⟨(ho k hk.1).1,hne k (ho k hk.1).2 hk.2.2.1⟩) h1
 refine⟨fun k hk=>?_,inner++cs,by rw [List.length_append,List.length_singleton];exact hown,?_⟩
 ·rcases hat with hat|⟨b,hb,hle⟩
  ·exact h0 k (hat ▸ hk)
  rw [hb] at hk;injection hk with hk
  exact hfresh k (by omega)
 exact(hr.imp_ (fun _ _ hq=>step hq (fun _ hk=>hk))).snoc (step hp hokp) (d.K_len (d.K_of_M hp))
section
variable {P:Program} {ops:Array Oper} {rest:List Oper} {o:Oper} {a:Act} {Q:Exit→Act→World→Prop} {α:Type}
theorem R_append (d:Kd α) {w0 W:World} (base:Nat) (hgd:o.guard=none) (s x:Operand) (t e:TypeId) (z:Value) (bytes:Nat)
 (ho:o.op=.call {callee:=.builtin .append,args:=#[s,x],argTypes:=#[t,t]})
 (ht:P.underlying t=some (.slice e)) (hinfo:(P.info? e).map (fun i=>(i.zero,i.size,i.bytes))=some (some z,d.sz,bytes)) (hz:z.cells.size=d.sz) (hs0:0 < d.sz) (hb0:0 < bytes)
 (v:Value) (xs:List α) (p:α) (cs:List Value) (ok okp:Nat→Prop) (hs:a.eval s=v) (hx:a.eval x=.slice (some ⟨W.heap.size,0,none⟩) 1 1) (hp:d.M W base okp p cs) (hokp:∀k,okp k→ok k∧some k≠v.ownBlock) (hfresh:∀k,W.heap.size≤k→ok k)
 (HO:d.R e W base ok v xs) (HB:Below base w0 W) (hbase:base≤W.heap.size) (hl:(xs.length+1)*bytes≤140737488355328)
 (h:∀v1 w1,d.R e w1 base ok v1 (xs++[p])→Below base w0 w1→W.grownBy w1 v.ownBlock→(v1.ownBlock=v.ownBlock∨∃b,v1.ownBlock=some b∧W.heap.size≤b)→wpList P ops Q rest (a.put o.dst v1) w1):
 wpList P ops Q (o::rest) a (W.alloc (.cells cs.toArray e)):=by
 obtain⟨h0,inner,hown,hr⟩ :=HO;refine Js base hgd s x t e z d.sz bytes ho ht hinfo hz hs0 hb0 v xs.length inner cs hs hx (d.K_len (d.K_of_M hp)) (d.K_one (d.K_of_M hp)) hown HB hbase hl ?_;intro v1 w1 hown1 hb1 hg1 hat1;exact h v1 w1 (Nq h0 hr hp hokp hfresh hown1 hg1 hat1) hb1 hg1 hat1
end
section
variable {P:Program} {ops:Array Oper} {o:Oper} {a:Act} {Q:Exit→Act→World→Prop} {Kc:Act→World→Prop} {α:Type}
end
theorem Us {α:Type} {enc:α→Value} {d:α} {h1:∀x,(enc x).oneCell'=true} {w:World} {A:Option Addr} {n:Nat} {xs:List α} (h:(scalar enc h1).C w A n xs):Jz enc d w A n xs:=by
 refine⟨h.1,h.2.1,fun hn=>?_⟩;obtain⟨ad,e,hc⟩ :=h.2.2 hn;refine⟨ad,e,fun j hj=>?_⟩;have hl:j < xs.length:=by have:=h.1;omega
 obtain⟨c,_,hK,hcell⟩ :=hc j _ (List.getElem?_eq_getElem hl);have hK':c=[enc xs[j]]:=hK;subst hK';have:=hcell 0 _ rfl;simpa [scalar,List.getD_eq_getElem?_getD,List.getElem?_eq_getElem hl] using this
end Kd
namespace Kd
structure Mono {α β:Type} (F:Kd α→Kd β):Prop where
 sz:∀d d':Kd α,d.sz=d'.sz→(F d).sz=(F d').sz
 K:∀d d':Kd α,d.sz=d'.sz→(∀w x cs,d.K w x cs→d'.K w x cs)→∀w x cs,(F d).K w x cs→(F d').K w x cs
 M:∀d d':Kd α,d.sz=d'.sz→(∀w base ok x cs,d.M w base ok x cs→d'.M w base ok x cs)→∀w base ok x cs,(F d).M w base ok x cs→(F d').M w base ok x cs
theorem mono_const {α β:Type} (k:Kd β):Mono (fun _:Kd α=>k):=⟨fun _ _ _=>rfl,fun _ _ _ _ _ _ _ h=>h,fun _ _ _ _ _ _ _ _ _ h=>h⟩
theorem mono_id {α:Type}:Mono (fun d:Kd α=>d):=⟨fun _ _ h=>h,fun _ _ _ h=>h,fun _ _ _ h=>h⟩
theorem Lr {α:Type} {d d':Kd α} (hs:d.sz=d'.sz) (h:∀w x cs,d.K w x cs→d'.K w x cs) {w:World} {A:Option Addr} {n:Nat} {xs:List α} (hc:d.C w A n xs):d'.C w A n xs:=by
 unfold C at hc ⊢;rw [←hs];exact hc.imp_ (Below.refl _ _) (fun _ _ hp=>h _ _ _ hp)
theorem S4 {α:Type} {d d':Kd α} (hs:d.sz=d'.sz) (h:∀w base ok x cs,d.M w base ok x cs→d'.M w base ok x cs) {e:Nat} {w:World} {base:Nat} {ok:Nat→Prop} {v:Value} {xs:List α} (hr:d.R e w base ok v xs):d'.R e w base ok v xs:=by
 unfold R at hr ⊢;rw [←hs];exact⟨hr.1,hr.2.imp_ (fun _ _ hp=>h _ _ _ _ _ hp)⟩
theorem mono_slice {α β:Type} (e:Nat) {G:Kd α→Kd β} (hG:Mono G):Mono (fun d=>slice e (G d)):=by
 refine⟨fun _ _ _=>rfl,?_,?_⟩
 ·rintro d d' hs h w x cs ⟨A,c,rfl,hl,hr⟩;exact⟨A,c,rfl,hl,Lr (hG.sz d d' hs) (hG.K d d' hs h) hr⟩
 rintro d d' hs h w base ok x cs ⟨v,rfl,hr⟩;exact⟨v,rfl,S4 (hG.sz d d' hs) (hG.M d d' hs h) hr⟩
theorem mono_pair {α β γ:Type} {G:Kd α→Kd β} {H:Kd α→Kd γ} (hG:Mono G) (hH:Mono H):Mono (fun d=>pair (G d) (H d)):=by
 refine⟨fun d d' hs=>?_,?_,?_⟩
 ·show(G d).sz+(H d).sz=(G d').sz+(H d').sz
  rw [hG.sz d d' hs,hH.sz d d' hs]
 ·rintro d d' hs h w x cs ⟨c0,c1,rfl,h0,h1⟩;exact⟨c0,c1,rfl,hG.K d d' hs h _ _ _ h0,hH.K d d' hs h _ _ _ h1⟩
 ·rintro d d' hs h w base ok x cs ⟨c0,c1,rfl,h0,h1⟩;exact⟨c0,c1,rfl,hG.M d d' hs h _ _ _ _ _ h0,hH.M d d' hs h _ _ _ _ _ h1⟩
theorem mono_iso {α β γ:Type} {G:Kd α→Kd β} (f:γ→β) (hG:Mono G):Mono (fun d=>iso (G d) f):=
 ⟨hG.sz,fun d d' hs h w x cs=>hG.K d d' hs h w (f x) cs,fun d d' hs h w base ok x cs=>hG.M d d' hs h w base ok (f x) cs⟩
def Sub {α β:Type} (F:Kd α→Kd β) (E:List Nat):Prop:=∀d:Kd α,(∀q,q∈d.E→q∈E)→∀q,q∈(F d).E→q∈E
theorem sub_const {α β:Type} {E:List Nat} (k:Kd β) (h:∀q,q∈k.E→q∈E):Sub (fun _:Kd α=>k) E:=fun _ _=>h
theorem sub_id {α:Type} {E:List Nat}:Sub (fun d:Kd α=>d) E:=fun _ h=>h
theorem sub_slice {α β:Type} {E:List Nat} (e:Nat) {G:Kd α→Kd β} (he:e∈E) (hG:Sub G E):Sub (fun d=>slice e (G d)) E:=fun d h q hq=>by
 rcases List.mem_cons.1 hq with rfl|hq
 ·exact he
 exact hG d h q hq
theorem sub_pair {α β γ:Type} {E:List Nat} {G:Kd α→Kd β} {H:Kd α→Kd γ} (hG:Sub G E) (hH:Sub H E):Sub (fun d=>pair (G d) (H d)) E:=fun d h q hq=>by
 rcases List.mem_append.1 hq with hq|hq
 ·exact hG d h q hq
 exact hH d h q hq
theorem sub_iso {α β γ:Type} {E:List Nat} {G:Kd α→Kd β} (f:γ→β) (hG:Sub G E):Sub (fun d=>iso (G d) f) E:=hG
theorem upto_E {α:Type} {F:Kd α→Kd α} {sz:Nat} {E:List Nat} (h:Sub F E):∀n q,q∈(upto F sz E n).E→q∈E
 |0,_,hq=>hq
 |n+1,q,hq=>h _ (upto_E h n) q hq
theorem upto_sz {α:Type} {F:Kd α→Kd α} {sz:Nat} {E:List Nat} (h:∀d:Kd α,(F d).sz=sz):∀n,(upto F sz E n).sz=sz
 |0=>rfl
 |_ +1=>h _
section
variable {α:Type} {F:Kd α→Kd α} {sz:Nat} {E:List Nat} {hs:∀n,(upto F sz E n).sz=sz} {hE:∀n q,q∈(upto F sz E n).E→q∈E}
theorem Ru (hm:Mono F) (hs:∀n,(upto F sz E n).sz=sz):∀n {w x cs},(upto F sz E n).K w x cs→(upto F sz E (n+1)).K w x cs
 |0,_,_,_,h=>h.elim
 |n+1,_,_,_,h=>hm.K _ _ (by rw [hs n,hs (n+1)]) (fun _ _ _ hk=>Ru hm hs n hk) _ _ _ h
theorem Rv (hm:Mono F) (hs:∀n,(upto F sz E n).sz=sz):∀n {w base ok x cs},(upto F sz E n).M w base ok x cs→(upto F sz E (n+1)).M w base ok x cs
 |0,_,_,_,_,_,h=>h.elim
 |n+1,_,_,_,_,_,h=>hm.M _ _ (by rw [hs n,hs (n+1)]) (fun _ _ _ _ _ hk=>Rv hm hs n hk) _ _ _ _ _ h
theorem Fs (hm:Mono F) (hs:∀n,(upto F sz E n).sz=sz) {n m:Nat} (hnm:n≤m) {w x cs} (h:(upto F sz E n).K w x cs):(upto F sz E m).K w x cs:=by
 obtain⟨j,rfl⟩ :=Nat.exists_eq_add_of_le hnm
 induction j with
 |zero=>exact h
 |succ j ih=>exact Ru hm hs _ (ih (by omega))
theorem Ft (hm:Mono F) (hs:∀n,(upto F sz E n).sz=sz) {n m:Nat} (hnm:n≤m) {w base ok x cs} (h:(upto F sz E n).M w base ok x cs):(upto F sz E m).M w base ok x cs:=by
 obtain⟨j,rfl⟩ :=Nat.exists_eq_add_of_le hnm
 induction j with
 |zero=>exact h
 |succ j ih=>exact Rv hm hs _ (ih (by omega))
theorem fix_C {n:Nat} {w:World} {A:Option Addr} {m:Nat} {xs:List α} (h:(upto F sz E n).C w A m xs):(fix F sz E hs hE).C w A m xs:=Lr (d':=fix F sz E hs hE) (hs n) (fun w x cs hp=>(⟨n,hp⟩ :∃n,(upto F sz E n).K w x cs)) h
theorem bounded {P:Nat→Nat→Prop} (hP:∀n m j,n≤m→P n j→P m j):∀m,(∀j,j < m→∃n,P n j)→∃N,∀j,j < m→P N j
 |0,_=>⟨0,fun j hj=>absurd hj (Nat.not_lt_zero j)⟩
 |m+1,h=>by
  obtain⟨N,hN⟩ :=bounded hP m (fun j hj=>h j (by omega))
  obtain⟨n,hn⟩ :=h m (by omega);refine⟨max N n,fun j hj=>?_⟩;rcases Nat.lt_or_ge j m with hj'|hj'
  ·exact hP N _ j (Nat.le_max_left _ _) (hN j hj')
  have:j=m:=by omega
  subst this;exact hP n _ j (Nat.le_max_right _ _) hn
theorem Gf {α:Type} {R:Nat→α→List Value→Prop} (hR:∀n m p c,n≤m→R n p c→R m p c) {size:Nat} {ps:List α} {cs:List Value} (h:Xp (fun p c=>∃n,R n p c) size ps cs):∃N,Xp (R N) size ps cs:=by
 obtain⟨N,hN⟩ :=bounded (P:=fun n j=>∀p,ps[j]? =some p→R n p ((cs.drop (j*size)).take size)) (fun n m j hnm hp p hj=>hR n m p _ hnm (hp p hj)) ps.length
  (fun j hj=>by
   obtain⟨n,hn⟩ :=h.2 j _ (List.getElem?_eq_getElem hj);refine⟨n,fun p hp=>?_⟩;rw [List.getElem?_eq_getElem hj] at hp;injection hp with hp
   rw [←hp];exact hn)
 exact⟨N,h.1,fun j p hj=>hN j (List.getElem?_eq_some_iff.1 hj).1 p hj⟩
theorem fix_R_back (hm:Mono F) {e:Nat} {w:World} {base:Nat} {ok:Nat→Prop} {v:Value} {xs:List α} (h:(fix F sz E hs hE).R e w base ok v xs):∃n,(upto F sz E n).R e w base ok v xs:=by
 obtain⟨h0,inner,ho,hr⟩ :=h;obtain⟨N,hN⟩ :=Gf (R:=fun n p c=>(upto F sz E n).M w base (fun k=>ok k∧some k≠v.ownBlock) p c) (fun n m p c hnm hp=>Ft hm hs hnm hp) hr
 refine⟨N,h0,inner,?_,?_⟩
 ·rw [hs N];exact ho
 rw [hs N];exact hN
theorem fix_C_back (hm:Mono F) {w:World} {A:Option Addr} {m:Nat} {xs:List α} (h:(fix F sz E hs hE).C w A m xs):∃n,(upto F sz E n).C w A m xs:=by
 rcases Nat.eq_zero_or_pos m with hz|hpos
 ·subst hz;exact⟨0,h.1,h.2.1,fun hp=>absurd hp (Nat.lt_irrefl 0)⟩
 obtain⟨ad,e,hc⟩ :=h.2.2 hpos
 obtain⟨N,hN⟩ :=bounded (P:=fun n j=>∀p,xs[j]? =some p→∃c,c.length=sz∧(upto F sz E n).K w p c∧∀i u,c[i]? =some u→w.cell? (ad.add (j*sz+i))=some u)
  (fun n n' j hnm hp p hj=>by
   obtain⟨c,h1,h2,h3⟩ :=hp p hj;exact⟨c,h1,Fs hm hs hnm h2,h3⟩) xs.length
  (fun j hj=>by
   obtain⟨c,h1,⟨n,h2⟩,h3⟩ :=hc j _ (List.getElem?_eq_getElem hj);refine⟨n,fun p hp=>?_⟩;rw [List.getElem?_eq_getElem hj] at hp;injection hp with hp
   rw [←hp];exact⟨c,h1,h2,h3⟩)
 refine⟨N,h.1,h.2.1,fun _=>⟨ad,e,fun j p hj=>?_⟩⟩
 rw [hs N];exact hN j (List.getElem?_eq_some_iff.1 hj).1 p hj
theorem upto_R_le (hm:Mono F) (hs:∀n,(upto F sz E n).sz=sz) {n m:Nat} (hnm:n≤m) {e:Nat} {w:World} {base:Nat} {ok:Nat→Prop} {v:Value} {xs:List α} (h:(upto F sz E n).R e w base ok v xs):(upto F sz E m).R e w base ok v xs:=S4 (by rw [hs n,hs m]) (fun _ _ _ _ _ hp=>Ft hm hs hnm hp) h
theorem upto_C_le (hm:Mono F) (hs:∀n,(upto F sz E n).sz=sz) {n m:Nat} (hnm:n≤m) {w:World} {A:Option Addr} {l:Nat} {xs:List α} (h:(upto F sz E n).C w A l xs):(upto F sz E m).C w A l xs:=Lr (by rw [hs n,hs m]) (fun _ _ _ hp=>Fs hm hs hnm hp) h
end
end Kd
namespace Kd
end Kd
namespace Kd
section
variable {α β:Type} {d:Kd α} {d':Kd β} {e e':Nat} {w w1 W:World} {base b b':Nat} {ok ok' okv oku:Nat→Prop} {v u:Value} {xs:List α} {ys:List β}
theorem R_drewN (h:d.R e w base ok v xs) (m:Nat):d.R e (w.drewN m) base ok v xs:=R_below h (Q6 (Below.refl _ _) m)
theorem C_nil (d:Kd α) (w:World):d.C w none ([]:List α).length []:=⟨rfl,by simp,fun h=>absurd h (Nat.lt_irrefl 0)⟩
theorem R_reads' {A:Option Addr} {n c:Nat} (h:d.R e w base ok (.slice A n c) xs):n=xs.length∧n≤c∧d.C w A xs.length xs:=by
 obtain⟨A',c',he,hl,hr⟩ :=Fw h;injection he with h1 h2 h3
 subst h1;exact⟨h2,by omega,hr⟩
theorem R_lt (h:d.R e w base ok v xs):∀k,v.ownBlock=some k→k < w.heap.size:=by
 obtain⟨inner,ho⟩ :=S5 h;exact Rh ho
theorem R_base (h:d.R e w base ok v xs):∀k,v.ownBlock=some k→base≤k:=by
 obtain⟨inner,ho⟩ :=S5 h;exact own_base ho
end
section
variable {w W:World} {A:Option Addr} {n:Nat}
theorem at_int {k:IntKind} {xs:List Int} (h:(Kd.int k).C w A n xs) (i:Int) (h0:0≤i) (h1:i < n):∃ad,A=some ad∧w.cell? (ad.add i.toNat)=some (.int k (rd xs i)):=
 Jz.at_ (Us (enc:=Value.int k) (d:=(0 :Int)) (h1:=fun _=>rfl) h) i h0 h1
theorem at_string {xs:List ByteArray} (h:Kd.string.C w A n xs) (i:Int) (h0:0≤i) (h1:i < n):∃ad,A=some ad∧w.cell? (ad.add i.toNat)=some (.string (Vd ByteArray.empty xs i)):=
 Jz.at_ (Us (enc:=Value.string) (d:=ByteArray.empty) (h1:=fun _=>rfl) h) i h0 h1
variable {α:Type} {enc:α→Value} {h1:∀x,(enc x).oneCell'=true} {e base g cap:Nat} {ok:Nat→Prop} {xs:List α}
end
section
variable {P:Program} {ops:Array Oper} {rest:List Oper} {o:Oper} {a:Act} {Q:Exit→Act→World→Prop}
theorem event_run {W w1:World} {v:Value} (hgd:o.guard=none) (hrun:(execOp a.eval o).run P W=.ok (.value v) w1) (h:wpList P ops Q rest (a.put o.dst v) w1):wpList P ops Q (o::rest) a W:=by
 refine wpList_plain hgd fun K hK=>?_
 unfold Oper.wp;rw [hrun];exact hK _ _ h
variable {α:Type}
theorem R_lit (d:Kd α) {w0 W:World} (base e:Nat) (hgd:o.guard=none) {N:Tmp} (_hd:o.dst=some N) {xs:List α} {inner:List Value} {ok okp:Nat→Prop}
 (hrun:(execOp a.eval o).run P W=.ok (.value (.slice (some ⟨W.heap.size,0,none⟩) xs.length xs.length)) (W.alloc (.cells inner.toArray e)))
 (hrep:Xp (d.M W base okp) d.sz xs inner) (hok:∀k,okp k→ok k) (hfresh:ok W.heap.size) (HB:Below base w0 W) (hbase:base≤W.heap.size) (hm:xs.length≤9223372036854775807)
 (h:∀v1 w1,d.R e w1 base ok v1 xs→Below base w0 w1→W.grownBy w1 none→(∃b,v1.ownBlock=some b∧W.heap.size≤b)→wpList P ops Q rest (a.put o.dst v1) w1):wpList P ops Q (o::rest) a W:=by
 refine event_run hgd hrun (h _ _ ⟨fun k hk=>?_,inner,?_,?_⟩ (HB.alloc hbase _) (World.grownBy_alloc W _ none) ⟨W.heap.size,by simp [Value.ownBlock],Nat.le_refl _⟩)
 ·have:W.heap.size=k:=by simpa [Value.ownBlock] using hk
  subst this;exact hfresh
 ·have h2:=World.ownsRow_lit (base:=base) (e:=e) (size:=d.sz) W inner.toArray xs.length hbase (by simpa [maxLen] using hm) (by simpa using hrep.1);simpa using h2
 ·refine hrep.imp_ (fun p c hp=>d.M_mono (fun k hk=>⟨hok k hk.1,fun he=>?_⟩) (M_below (d.M_bound hp) (Xu (Below.refl _ _) _)))
  have h3:k=W.heap.size:=by simpa [Value.ownBlock] using he
  have:=hk.2.2.1;omega
end
end Kd
section
variable {P:Program}
end
section
variable {w w1:World} {base n size:Nat} {e:TypeId} {v:Value} {xs:List Value}
end
section
variable {P:Program}
end
namespace Kd
section
variable {α:Type} {d:Kd α} {e:Nat} {w w1 W:World} {base:Nat} {ok ok':Nat→Prop} {v:Value} {xs:List α}
end
section
variable {P:Program} {ops:Array Oper} {rest:List Oper} {o:Oper} {a:Act} {Q':Exit→Act→World→Prop} {Kc:Act→World→Prop} {α:Type}
end
end Kd
namespace Kd
section
variable {α:Type} {d:Kd α} {e e':Nat} {w w1 W:World} {base:Nat} {ok:Nat→Prop} {u v:Value} {xs:List α}
theorem R_elder' (hu:d.R e W base ok u xs) (hbase:∀k,v.ownBlock=some k→W.heap.size≤k) (hb:Below W.heap.size W w1):d.R e w1 base (fun k=>ok k∧some k≠v.ownBlock) u xs:=
 R_mono (Ns (R_bound hu) (fun k hk=>hb.block k hk.2.2.1)) (fun k hk=>⟨hk.1,fun he=>by have:=hbase k he.symm;have:=hk.2.2.1;omega⟩)
theorem R_new' (h:d.R e w1 W.heap.size ok v xs) (hlt:∀k,u.ownBlock=some k→k < W.heap.size):d.R e w1 W.heap.size (fun k=>ok k∧some k≠u.ownBlock) v xs:=
 R_mono (R_bound h) (fun k hk=>⟨hk.1,fun he=>by have:=hlt k he.symm;have:=hk.2.1;omega⟩)
theorem fresh' (hlt:∀k,u.ownBlock=some k→k < W.heap.size):∀k,W.heap.size≤k→some k≠u.ownBlock:=fun k hk he=>by have:=hlt k he.symm;omega
end
end Kd
namespace Kd
section
variable {α:Type} {d:Kd α} {e base g n cap:Nat} {ok okp:Nat→Prop} {W:World} {xs:List α}
end
end Kd
namespace Kd
section
variable {α:Type} {F:Kd α→Kd α} {sz:Nat} {E:List Nat} {hs:∀n,(upto F sz E n).sz=sz} {hE:∀n q,q∈(upto F sz E n).E→q∈E}
end
end Kd
namespace Kd
section
variable {P:Program} {ops:Array Oper} {rest:List Oper} {o:Oper} {a:Act} {Q:Exit→Act→World→Prop} {α:Type}
end
end Kd
namespace Kd
section
variable {P:Program} {ops:Array Oper} {rest:List Oper} {o:Oper} {a:Act} {Q:Exit→Act→World→Prop} {α:Type}
end
end Kd
namespace Kd
section
variable {α:Type} {k:Kd α} {w:World} {A:Option Addr} {xs:List α} {m c:Nat}
end
end Kd
section
variable {P:Program}
end
theorem X4 {w W:World} (h:Below w.heap.size w W):w.heap.size≤W.heap.size:=h.size
theorem Qr {w W w2:World} (h:Below w.heap.size w W) (k:Below W.heap.size W w2):Below w.heap.size w w2:=Y4 h h.size k
theorem Xf {w W:World} {g j:Nat} {v:Value} (h:Below w.heap.size w W) (hg:w.heap.size≤g):Below w.heap.size w (W.setCell ⟨g,j,none⟩ v):=h.setCell hg _
theorem X8 {w W:World} {g:Nat} {row:Option Nat} (h:Qe w W g row) (m:Nat):Qe w (W.drewN m) g row:=h
theorem Q8 {w W:World} {g:Nat} {row:Option Nat} (h:Qe w W g row):w.heap.size≤W.heap.size:=h.1
theorem cell_far {W:World} {p a:Addr} (h:a.block≠p.block) (u:Value):(W.setCell p u).cell? a=W.cell? a:=by
 have:=Below.heap_setCell W p u a.block h;simp [World.cell?,this]
theorem Qt {w:World} {g:Nat} {t:TypeId} {cs cs':Array Value} (h:w.heap[g]? =some (.cells cs t (0,0))) (i:Nat) (u:Value) (e:cs.setIfInBounds i u=cs'):(w.setCell ⟨g,i,none⟩ u).heap[g]? =some (.cells cs' t (0,0)):=e ▸ Je h i u
theorem Zm {w W:World} {g:Nat} {row:Option Nat} (h:Qe w W g row) {p:Addr} (hp:w.heap.size≤p.block) (u:Value):Qe w (W.setCell p u) g row:=
 ⟨by simpa [World.setCell] using h.1,fun i hi hg hr=>(Below.heap_setCell W p u i (by omega)).trans (h.2 i hi hg hr)⟩
theorem Zg {base:Nat} {w W:World} (h:Below base w W):Below base w W.drew:=h.drew
theorem Kk {w W:World} {g:Nat} {row:Option Nat} (h:Qe w W g row):Qe w W.drew g row:=h
namespace Kd
section
variable {α β:Type} {d:Kd α} {d':Kd β} {e e' base base' n:Nat} {ok ok':Nat→Prop} {w W w1 W1:World} {v u:Value} {xs:List α} {ys:List β} {A:Option Addr} {c:Nat}
end
section
variable {α:Type} {enc:α→Value} {h1:∀x,(enc x).oneCell'=true} {w W:World} {A:Option Addr} {n g:Nat} {xs:List α}
end
end Kd
namespace Kd
section
variable {α:Type} {d:Kd α} {e base g:Nat} {ok:Nat→Prop} {w w1:World} {v:Value} {xs:List α} {o:Obj}
theorem R_elderB (h:d.R e w base ok v xs) (a:Nat) (ha:w.heap.size≤a):d.R e w base (fun k=>ok k∧k≠a) v xs:=R_mono (R_bound h) (fun k hk=>⟨hk.1,by have:=hk.2.2.1;omega⟩)
theorem R_newB (h:d.R e w1 w.heap.size ok v xs) (hb:w.heap[g]? =some o):d.R e w1 w.heap.size (fun k=>ok k∧k≠g) v xs:=R_mono (R_bound h) (fun k hk=>⟨hk.1,by have:=Xr hb;have:=hk.2.1;omega⟩)
theorem freshB (hb:w.heap[g]? =some o):∀k,w.heap.size≤k→k≠g:=fun k hk=>by have:=Xr hb;omega
end
end Kd
section
variable {P:Program} {ops:Array Oper} {rest:List Oper} {o:Oper} {a:Act} {Q:Exit→Act→World→Prop}
theorem Xm {W:World} (hgd:o.guard=none) {N:Tmp} (_hd:o.dst=some N) {cs:Array Value} {t:TypeId}
 (hrun:(execOp a.eval o).run P W=.ok (.value (.pointer (some ⟨W.heap.size,0,none⟩))) (W.alloc (.cells cs t (0,0))))
 (h:∀g,g=W.heap.size→∀w1,w1.heap[g]? =some (.cells cs t (0,0))→Below W.heap.size W w1→wpList P ops Q rest (a.put o.dst (.pointer (some ⟨g,0,none⟩))) w1):wpList P ops Q (o::rest) a W:=
 Kd.event_run hgd hrun (h _ rfl _ (Si W _) (Xu (Below.refl _ _) _))
end
namespace Kd
section
variable {α:Type} {enc:α→Value} {h1:∀x,(enc x).oneCell'=true} {e base g n cap:Nat} {ok:Nat→Prop} {W:World} {xs:List α}
end
end Kd
section
variable {P:Program} {ops:Array Oper} {rest:List Oper} {o:Oper} {a:Act} {Q:Exit→Act→World→Prop}
end
namespace Kd
section
variable {α:Type} {enc:α→Value} {h1:∀x,(enc x).oneCell'=true} {e base g n cap:Nat} {ok:Nat→Prop} {W:World} {xs:List α}
end
end Kd
section
variable {P:Program} {ops:Array Oper} {rest:List Oper} {o:Oper} {a:Act} {Q:Exit→Act→World→Prop} {W:World}
theorem Q0 {N:Tmp} (_hN:o.dst=some N) (h:wpList P ops Q (o::rest) a W):wpList P ops Q (o::rest) a W:=h
end
section
variable {P:Program} {ops:Array Oper} {o:Oper} {a:Act} {Q:Exit→Act→World→Prop} {Kc:Act→World→Prop}
theorem Jo {W w1:World} {v:Value} (hw:Region.wanted o (yielded ops a.tmps)=true) (hrun:(execOp a.eval o).run P W=.ok (.value v) w1) (h:Kc (a.put o.dst v) w1):if Region.wanted o (yielded ops a.tmps)=true then Oper.wp P o a W Kc Q else Kc (a.put o.dst undef) W:=by
 rw [if_pos hw];unfold Oper.wp;rw [hrun];exact h
namespace Kd
variable {α:Type}
theorem Nr (d:Kd α) {w0 W:World} (base e:Nat) (hw:Region.wanted o (yielded ops a.tmps)=true) {N:Tmp} (_hd:o.dst=some N) {xs:List α} {inner:List Value} {ok okp:Nat→Prop}
 (hrun:(execOp a.eval o).run P W=.ok (.value (.slice (some ⟨W.heap.size,0,none⟩) xs.length xs.length)) (W.alloc (.cells inner.toArray e)))
 (hrep:Xp (d.M W base okp) d.sz xs inner) (hok:∀k,okp k→ok k) (hfresh:ok W.heap.size) (HB:Below base w0 W) (hbase:base≤W.heap.size) (hm:xs.length≤9223372036854775807)
 (h:∀v1 w1,d.R e w1 base ok v1 xs→Below base w0 w1→W.grownBy w1 none→(∃b,v1.ownBlock=some b∧W.heap.size≤b)→Kc (a.put o.dst v1) w1):if Region.wanted o (yielded ops a.tmps)=true then Oper.wp P o a W Kc Q else Kc (a.put o.dst undef) W:=by
 refine Jo hw hrun (h _ _ ⟨fun k hk=>?_,inner,?_,?_⟩ (HB.alloc hbase _) (World.grownBy_alloc W _ none) ⟨W.heap.size,by simp [Value.ownBlock],Nat.le_refl _⟩)
 ·have:W.heap.size=k:=by simpa [Value.ownBlock] using hk
  subst this;exact hfresh
 ·have h2:=World.ownsRow_lit (base:=base) (e:=e) (size:=d.sz) W inner.toArray xs.length hbase (by simpa [maxLen] using hm) (by simpa using hrep.1);simpa using h2
 ·refine hrep.imp_ (fun p c hp=>d.M_mono (fun k hk=>⟨hok k hk.1,fun he=>?_⟩) (M_below (d.M_bound hp) (Xu (Below.refl _ _) _)))
  have h3:k=W.heap.size:=by simpa [Value.ownBlock] using he
  have:=hk.2.2.1;omega
end Kd
end
section
variable {P:Program} {tmps:Array Value} {w:World}
end
namespace Kd
section
variable {P:Program} {α:Type}
end
section
variable {P:Program} {ops:Array Oper} {rest:List Oper} {o:Oper} {a:Act} {Q:Exit→Act→World→Prop} {Kc:Act→World→Prop} {α:Type}
end
end Kd
end Go.Proofs.YtglmdfddgmkmaaaDoorW.PrintWords
end
section
-- PRINTED BY print.sh 35421559b90ae4d0a3588c463048766b98c2df88dd9212a6774a882060cdf62d: not written by this session
namespace Go.Proofs.YtglmdfddgmkmaaaDoorW.PrintLast
section
variable {P:Program} {ops:Array Oper} {Q:Exit→Act→World→Prop} {md:Region.Mode} {S:World→Prop} {ds:List Nat}
def Region.reachB (md:Region.Mode) (ops:Array Oper) (i:Nat):Nat→Nat→Bool
 |0,_=>false
 |fuel+1,d=>match ops[d]? with
  |some o=>o.after.any fun e=>Region.binds md e && (e.on==i||Region.reachB md ops i fuel e.on)
  |none=>false
def Region.closedB (md:Region.Mode) (ops:Array Oper) (listed:Array Bool):Bool:=
 (List.range ops.size).all fun j=>!listed.getD j false||match ops[j]? with
  |some o=>o.after.all fun e=>!Region.binds md e||listed.getD e.on false
  |none=>true
def Region.lastB (md:Region.Mode) (ops:Array Oper) (listed:Array Bool) (ds:List Nat) (i:Nat):Bool:=
 ds.all fun d=>listed.getD d true||Region.reachB md ops i ops.size d
def Y3 (md:Region.Mode) (ops:Array Oper) (listed:Array Bool):Prop:=
 ∀j oj,ops[j]? =some oj→listed.getD j false=true→∀e∈oj.after,Region.binds md e=true→listed.getD e.on false=true
theorem Region.closedB_spec {listed:Array Bool} (h:Region.closedB md ops listed=true):Y3 md ops listed:=by
 intro j oj hj hl e he hb;have hlt:j < ops.size:=(Array.getElem?_eq_some_iff.1 hj).1;have h1:=List.all_eq_true.1 h j (List.mem_range.2 hlt);simp only [hl,hj,Bool.not_true,Bool.false_or] at h1;have h2:=Array.all_eq_true_iff_forall_mem.1 h1 e he;simpa [hb] using h2
theorem Y3.set {listed:Array Bool} {i:Nat} (h:Y3 md ops listed) (hi:i∈Region.ready md ops listed):Y3 md ops (listed.setIfInBounds i true):=by
 obtain⟨_,oi,hoi,hall⟩ :=mem_ready.1 hi;intro j oj hj hl e he hb;by_cases hij:i=j
 rotate_left
 ·rw [getD_set_ne false hij] at hl;exact getD_set_true (h j oj hj hl e he hb)
 subst hij;have:oj=oi:=Option.some.inj (hj.symm.trans hoi);subst this;exact getD_set_true (hall e he hb)
theorem Region.reach_listed {listed:Array Bool} {i:Nat} (hc:Y3 md ops listed):∀(fuel d:Nat),Region.reachB md ops i fuel d=true→listed.getD d false=true→listed.getD i false=true
 |0,_,h,_=>by simp [Region.reachB] at h
 |fuel+1,d,h,hl=>by
  unfold Region.reachB at h
  cases ho:ops[d]? with
  |none=>rw [ho] at h;simp at h
  |some o=>
   rw [ho] at h;obtain⟨e,he,h1⟩ :=Array.any_eq_true'.1 h;simp only [Bool.and_eq_true,Bool.or_eq_true,beq_iff_eq] at h1;have hle:=hc d o ho hl e he h1.1;rcases h1.2 with h2|h2
   ·rw [←h2];exact hle
   exact Region.reach_listed hc fuel e.on h2 hle
theorem Region.reach_not_ready {listed:Array Bool} {i d fuel:Nat} (hc:Y3 md ops listed) (hr:Region.reachB md ops i fuel d=true) (hun:listed.getD i true=false):d ∉ Region.ready md ops listed:=by
 intro hd;obtain⟨_,o,ho,hall⟩ :=mem_ready.1 hd
 have hi:listed.getD i false=true:=by
  cases fuel with
  |zero=>simp [Region.reachB] at hr
  |succ n=>
   unfold Region.reachB at hr;rw [ho] at hr;obtain⟨e,he,h1⟩ :=Array.any_eq_true'.1 hr;simp only [Bool.and_eq_true,Bool.or_eq_true,beq_iff_eq] at h1;have hle:=hall e he h1.1;rcases h1.2 with h2|h2
   ·rw [←h2];exact hle
   exact Region.reach_listed hc n e.on h2 hle
 rcases Nat.lt_or_ge i listed.size with h'|h'
 rotate_left
 ·simp [Array.getElem?_eq_none h'] at hun
 simp [h'] at hun hi;rw [hun] at hi
 cases hi
def Zc (P:Program) (md:Region.Mode) (ops:Array Oper) (Q:Exit→Act→World→Prop) (S:World→Prop) (ds:List Nat):Nat→Array Bool→Act→World→Prop
 |0,listed,a,w=>Region.ready md ops listed=[]∧Q .normal a w
 |fuel+1,listed,a,w=>
  (Region.ready md ops listed=[]→Q .normal a w)∧
  ∀i∈Region.ready md ops listed,wpOp P ops Q i (fun a' w'=>(i ∉ ds→S w→S w')∧Zc P md ops Q S ds fuel (listed.setIfInBounds i true) a' w') a w
theorem Jl:∀(fuel:Nat) (listed:Array Bool) (a:Act) (w:World),Zc P md ops Q S ds fuel listed a w→wpAny P md ops Q fuel listed a w
 |0,_,_,_,h=>h
 |fuel+1,_,_,_,h=>⟨h.1,fun i hi=>wpOp_mono (fun a' w' h'=>Jl fuel _ a' w' h'.2) (h.2 i hi)⟩
theorem K9 {i:Nat} {oi:Oper} {v:Value} (hi:ops[i]? =some oi) (hsel:∀(j:Nat) (o:Oper) cs b,ops[j]? =some o→o.op≠ .select cs b)
 (hQ:∀c a w,Q (.panic c) (a.put oi.dst v) w→Q (.panic c) a w) (n:Nat):
 ∀(fuel:Nat) (listed:Array Bool) (a:Act) (w:World),
  (∀j oj,ops[j]? =some oj→j≠i→listed.getD j true=false→(∀e∈oj.after,Region.binds md e=true→e.on≠i)→oi.apart ops oj=true)→
  Y3 md ops listed→(∀d∈ds,listed.getD d true=false→Region.reachB md ops i n d=true)→
  i∈Region.ready md ops listed→YieldsIf P ops S oi v a→S w→
  Zc P md ops Q S ds fuel (listed.setIfInBounds i true) (a.put oi.dst v) w→Zc P md ops Q S ds (fuel+1) listed a w:=by
 intro fuel
 induction fuel with
 |zero=>
  intro listed a w _ _ _ hr hy hS H;refine⟨fun h=>(by rw [h] at hr;cases hr),fun j hj=>?_⟩;by_cases hji:j=i
  ·subst hji;exact hy.wpOp hi hS ⟨fun _ h=>h,H⟩
  have:=ready_mono hj hji;rw [H.1] at this
  cases this
 |succ fuel ih=>
  intro listed a w hfree hc hd hr hy hS H;refine⟨fun h=>(by rw [h] at hr;cases hr),fun j hj=>?_⟩;by_cases hji:j=i
  ·subst hji;exact hy.wpOp hi hS ⟨fun _ h=>h,H⟩
  have h1:=H.2 j (ready_mono hj hji);obtain⟨hjun,oj,hoj,hall⟩ :=mem_ready.1 hj;have hiun:=(mem_ready.1 hr).1
  have hnot:∀e∈oj.after,Region.binds md e=true→e.on≠i:=fun e he hb heq=>by
   have h1:=hall e he hb;rw [heq] at h1;rcases Nat.lt_or_ge i listed.size with h'|h'
   ·simp [h'] at hiun h1;rw [hiun] at h1;cases h1
   simp [Array.getElem?_eq_none h'] at h1
  have hjd:j ∉ ds:=fun hm=>Region.reach_not_ready hc (hd j hm hjun) hiun hj
  have h2:=wpOp_putIf hoj (hfree j oj hoj hji hjun hnot) (fun cs b=>hsel i oi cs b hi) (fun cs b=>hsel j oj cs b hoj) hQ hy h1
  have hfree':∀k ok,ops[k]? =some ok→k≠i→(listed.setIfInBounds j true).getD k true=false→
   (∀e∈ok.after,Region.binds md e=true→e.on≠i)→oi.apart ops ok=true:=fun k ok hk hki hun hno=>by
   refine hfree k ok hk hki ?_ hno;by_cases hjk:j=k
   ·subst hjk;exact hjun
   rw [getD_set_ne true hjk] at hun;exact hun
  have hd':∀d∈ds,(listed.setIfInBounds j true).getD d true=false→Region.reachB md ops i n d=true:=fun d hm hun=>by
   refine hd d hm ?_;by_cases hjk:j=d
   ·subst hjk;exact hjun
   rw [getD_set_ne true hjk] at hun;exact hun
  refine wpOp_mono (fun a' w' h3=>⟨h3.2.1,ih (listed.setIfInBounds j true) a' w' hfree' (hc.set hj) hd' (ready_mono hr (Ne.symm hji)) h3.1 (h3.2.1 hjd hS) ?_⟩) h2
  rw [Array.setIfInBounds_comm _ _ hji];exact h3.2.2
theorem Ff {i:Nat} {oi:Oper} {v:Value} (hi:ops[i]? =some oi) (hsel:∀(j:Nat) (o:Oper) cs b,ops[j]? =some o→o.op≠ .select cs b)
 (hQ:∀c a w,Q (.panic c) (a.put oi.dst v) w→Q (.panic c) a w):
 ∀(fuel:Nat) (listed:Array Bool) (a:Act) (w:World),
  (∀j oj,ops[j]? =some oj→j≠i→listed.getD j true=false→(∀e∈oj.after,Region.binds md e=true→e.on≠i)→oi.apart ops oj=true)→
  i∈Region.ready md ops listed→Yields P ops oi v a→
  Zc P md ops Q S ds fuel (listed.setIfInBounds i true) (a.put oi.dst v) w→Zc P md ops Q S ds (fuel+1) listed a w:=by
 intro fuel
 induction fuel with
 |zero=>
  intro listed a w _ hr hy H;refine⟨fun h=>(by rw [h] at hr;cases hr),fun j hj=>?_⟩;by_cases hji:j=i
  ·subst hji;exact(hy.yieldsIf (S:=fun _=>True)).wpOp hi trivial ⟨fun _ h=>h,H⟩
  have:=ready_mono hj hji;rw [H.1] at this
  cases this
 |succ fuel ih=>
  intro listed a w hfree hr hy H;refine⟨fun h=>(by rw [h] at hr;cases hr),fun j hj=>?_⟩;by_cases hji:j=i
  ·subst hji;exact(hy.yieldsIf (S:=fun _=>True)).wpOp hi trivial ⟨fun _ h=>h,H⟩
  have h1:=H.2 j (ready_mono hj hji);obtain⟨hjun,oj,hoj,hall⟩ :=mem_ready.1 hj;have hiun:=(mem_ready.1 hr).1
  have hnot:∀e∈oj.after,Region.binds md e=true→e.on≠i:=fun e he hb heq=>by
   have h1:=hall e he hb;rw [heq] at h1;rcases Nat.lt_or_ge i listed.size with h'|h'
   ·simp [h'] at hiun h1;rw [hiun] at h1;cases h1
   simp [Array.getElem?_eq_none h'] at h1
  have h2:=wpOp_put hoj (hfree j oj hoj hji hjun hnot) (fun cs b=>hsel i oi cs b hi) (fun cs b=>hsel j oj cs b hoj) hQ hy h1
  have hfree':∀k ok,ops[k]? =some ok→k≠i→(listed.setIfInBounds j true).getD k true=false→
   (∀e∈ok.after,Region.binds md e=true→e.on≠i)→oi.apart ops ok=true:=fun k ok hk hki hun hno=>by
   refine hfree k ok hk hki ?_ hno;by_cases hjk:j=k
   ·subst hjk;exact hjun
   rw [getD_set_ne true hjk] at hun;exact hun
  refine wpOp_mono (fun a' w' h3=>⟨h3.2.1,ih (listed.setIfInBounds j true) a' w' hfree' (ready_mono hr (Ne.symm hji)) h3.1 ?_⟩) h2
  rw [Array.setIfInBounds_comm _ _ hji];exact h3.2.2
theorem U5 {i:Nat} {oi:Oper} {v:Value} {fuel:Nat} {listed:Array Bool} {a:Act} {w:World} (hi:ops[i]? =some oi)
 (hs:Region.noSelect ops=true) (hf:Region.free md ops listed i=true) (hr:(Region.ready md ops listed).contains i=true)
 (hc:Region.closedB md ops listed=true) (hl:Region.lastB md ops listed ds i=true)
 (hQ:∀c a w,Q (.panic c) (a.put oi.dst v) w→Q (.panic c) a w) (hy:YieldsIf P ops S oi v a) (hS:S w)
 (h:Zc P md ops Q S ds fuel (listed.setIfInBounds i true) (a.put oi.dst v) w):Zc P md ops Q S ds (fuel+1) listed a w:=
 K9 hi (Region.noSelect_spec hs) hQ ops.size fuel listed a w (Region.free_spec hi hf) (Region.closedB_spec hc)
  (fun d hm hun=>by have:=List.all_eq_true.1 hl d hm;rw [hun] at this;simpa using this) (by simpa using hr) hy hS h
theorem Fe {rs:List Nat} {fuel:Nat} {listed:Array Bool} {a:Act} {w:World} (hr:Region.ready md ops listed=rs) (hne:rs≠[])
 (h:∀i∈rs,wpOp P ops Q i (fun a' w'=>(i ∉ ds→S w→S w')∧Zc P md ops Q S ds fuel (listed.setIfInBounds i true) a' w') a w):Zc P md ops Q S ds (fuel+1) listed a w:=
 ⟨fun h0=>absurd (hr ▸ h0) hne,hr ▸ h⟩
theorem U4 {listed:Array Bool} {a:Act} {w:World} (hr:Region.ready md ops listed=[]) (h:Q .normal a w):
 ∀fuel,Zc P md ops Q S ds fuel listed a w
 |0=>⟨hr,h⟩
 |_ +1=>⟨fun _=>h,by rw [hr];simp⟩
theorem U6 {id:Nat} {a:Act} {w:World} (hm:P.follows .mixedOrders=true)
 (h:Zc P .any ops Q S ds ops.size (Array.replicate ops.size false) a {w with drawn:=w.drawn+1}):(Code.region id ops true).wp P Q a w:=
 wp_region_any hm (Jl _ _ _ _ h)
end
section
variable {P:Program} {ops:Array Oper} {Q:Exit→Act→World→Prop} {md:Region.Mode} {S:World→Prop} {ds:List Nat}
def Ym (P:Program) (md:Region.Mode) (ops:Array Oper) (Q:Exit→Act→World→Prop) (S:World→Prop) (ds:List Nat) (fuel:Nat) (listed:Array Bool) (a:Act) (w:World) (rs:List Nat):Prop:=
 ∀i∈rs,wpOp P ops Q i (fun a' w'=>(i ∉ ds→S w→S w')∧Zc P md ops Q S ds fuel (listed.setIfInBounds i true) a' w') a w
theorem Ym.nil {fuel:Nat} {listed:Array Bool} {a:Act} {w:World}:Ym P md ops Q S ds fuel listed a w []:=fun _ h=>by cases h
theorem Ym.cons {fuel:Nat} {listed:Array Bool} {a:Act} {w:World} {i:Nat} {o:Oper} {rs:List Nat} (ho:ops[i]? =some o) (hd:i ∉ ds)
 (h:∀K':Act→World→Prop,Shut (∀a w,S w→(S w→Zc P md ops Q S ds fuel (listed.setIfInBounds i true) a w)→K' a w)→if Region.wanted o (yielded ops a.tmps)=true then Oper.wp P o a w K' Q else K' (a.put o.dst undef) w)
 (hs:Ym P md ops Q S ds fuel listed a w rs):Ym P md ops Q S ds fuel listed a w (i::rs):=fun j hj=>by
 rcases List.mem_cons.1 hj with rfl|hj
 ·exact wpOp_step ho (fun K' hK=>h K' (fun a w hS hW=>hK a w ⟨fun _ _=>hS,hW hS⟩))
 exact hs j hj
theorem Ym.cons_last {fuel:Nat} {listed:Array Bool} {a:Act} {w:World} {i:Nat} {o:Oper} {rs:List Nat} (ho:ops[i]? =some o) (hd:i∈ds)
 (h:∀K':Act→World→Prop,Shut (∀a w,Zc P md ops Q S ds fuel (listed.setIfInBounds i true) a w→K' a w)→if Region.wanted o (yielded ops a.tmps)=true then Oper.wp P o a w K' Q else K' (a.put o.dst undef) w)
 (hs:Ym P md ops Q S ds fuel listed a w rs):Ym P md ops Q S ds fuel listed a w (i::rs):=fun j hj=>by
 rcases List.mem_cons.1 hj with rfl|hj
 ·exact wpOp_step ho (fun K' hK=>h K' (fun a w hW=>hK a w ⟨fun hn=>absurd hd hn,hW⟩))
 exact hs j hj
theorem Jb {rs:List Nat} {fuel:Nat} {listed:Array Bool} {a:Act} {w:World} (hr:Region.ready md ops listed=rs) (hne:rs≠[])
 (h:Ym P md ops Q S ds fuel listed a w rs):Zc P md ops Q S ds (fuel+1) listed a w:=Fe hr hne h
theorem Y6 {id n:Nat} {a:Act} {w:World} (l:Array Bool) (hm:P.follows .mixedOrders=true) (hn:ops.size=n) (hl:Array.replicate n false=l) (hS:S w.drew)
 (h:S w.drew→Zc P .any ops Q S ds n l a w.drew):(Code.region id ops true).wp P Q a w:=by
 subst hn;subst hl;exact U6 hm (h hS)
def takeB (md:Region.Mode) (ops:Array Oper) (ds:List Nat) (l l':Array Bool) (i:Nat):Bool:=
 Region.noSelect ops && Region.free md ops l i && (Region.ready md ops l).contains i && Region.closedB md ops l && Region.lastB md ops l ds i && (l.setIfInBounds i true==l')
theorem Zt {i:Nat} {N:Option Tmp} {oi:Oper} {v:Value} {fuel:Nat} {l:Array Bool} {a:Act} {w:World} (l':Array Bool) (hi:ops[i]? =some oi) (hN:oi.dst=N) (hc:takeB md ops ds l l' i=true)
 (hQ:∀c a w,Q (.panic c) (a.put oi.dst v) w→Q (.panic c) a w) (hy:YieldsIf P ops S oi v a) (hS:S w) {a':Act} (ha:a.put N v=a')
 (h:Zc P md ops Q S ds fuel l' a' w):Zc P md ops Q S ds (fuel+1) l a w:=by
 subst ha;subst hN;simp only [takeB,Bool.and_eq_true,beq_iff_eq] at hc;obtain⟨⟨⟨⟨⟨h1,h2⟩,h3⟩,h4⟩,h5⟩,h6⟩ :=hc;subst h6;exact U5 hi h1 h2 h3 h4 h5 hQ hy hS h
def Sc (md:Region.Mode) (ops:Array Oper) (l l':Array Bool) (i:Nat):Bool:=
 Region.noSelect ops && Region.free md ops l i && (Region.ready md ops l).contains i && (l.setIfInBounds i true==l')
theorem Xv {i:Nat} {N:Option Tmp} {oi:Oper} {v:Value} {fuel:Nat} {l:Array Bool} {a:Act} {w:World} (l':Array Bool) (hi:ops[i]? =some oi) (hN:oi.dst=N) (hc:Sc md ops l l' i=true)
 (hQ:∀c a w,Q (.panic c) (a.put oi.dst v) w→Q (.panic c) a w) (hy:Yields P ops oi v a) {a':Act} (ha:a.put N v=a')
 (h:Zc P md ops Q S ds fuel l' a' w):Zc P md ops Q S ds (fuel+1) l a w:=by
 subst ha;subst hN;simp only [Sc,Bool.and_eq_true,beq_iff_eq] at hc;obtain⟨⟨⟨h1,h2⟩,h3⟩,h6⟩ :=hc;subst h6;exact Ff hi (Region.noSelect_spec h1) hQ fuel l a w (Region.free_spec hi h2) (by simpa using h3) hy h
def Kn (md:Region.Mode) (ops:Array Oper) (l l':Array Bool) (i:Nat):Bool:=(Region.ready md ops l==[i]) && (l.setIfInBounds i true==l')
theorem Vn {i:Nat} {N:Option Tmp} {oi:Oper} {fuel:Nat} {l:Array Bool} {a:Act} {w:World} (l':Array Bool) (hi:ops[i]? =some oi) (hN:oi.dst=N) (hc:Kn md ops l l' i=true) (hd:i ∉ ds)
 (h:∀K:Act→World→Prop,Shut (∀a' w',S w'→(S w'→Zc P md ops Q S ds fuel l' a' w')→K a' w')→if Region.wanted oi (yielded ops a.tmps)=true then Oper.wp P oi a w K Q else K (a.put N undef) w):
 Zc P md ops Q S ds (fuel+1) l a w:=by
 subst hN;simp only [Kn,Bool.and_eq_true,beq_iff_eq] at hc;obtain⟨h1,h2⟩ :=hc;subst h2;exact Jb h1 (by simp) (Ym.cons hi hd (fun K hK=>h K hK) Ym.nil)
theorem Gt {i:Nat} {N:Option Tmp} {oi:Oper} {fuel:Nat} {l:Array Bool} {a:Act} {w:World} (l':Array Bool) (hi:ops[i]? =some oi) (hN:oi.dst=N) (hc:Kn md ops l l' i=true) (hd:i∈ds)
 (h:∀K:Act→World→Prop,Shut (∀a' w',Zc P md ops Q S ds fuel l' a' w'→K a' w')→if Region.wanted oi (yielded ops a.tmps)=true then Oper.wp P oi a w K Q else K (a.put N undef) w):
 Zc P md ops Q S ds (fuel+1) l a w:=by
 subst hN;simp only [Kn,Bool.and_eq_true,beq_iff_eq] at hc;obtain⟨h1,h2⟩ :=hc;subst h2;exact Jb h1 (by simp) (Ym.cons_last hi hd (fun K hK=>h K hK) Ym.nil)
theorem Wi {l:Array Bool} {a:Act} {w:World} {n:Nat} (hr:(Region.ready md ops l==[])=true) (h:Q .normal a w):Zc P md ops Q S ds n l a w:=U4 (by simpa using hr) h n
theorem Va {fuel:Nat} {l:Array Bool} {a a':Act} {w:World} (ha:a=a') (h:Zc P md ops Q S ds fuel l a' w):Zc P md ops Q S ds fuel l a w:=by
 subst ha;exact h
theorem Tv {oi:Oper} {N:Option Tmp} {a:Act} {w:World} {K:Act→World→Prop} (f:FuncId) (args:Array Value) (hw:Region.wanted oi (yielded ops a.tmps)=true) (hN:oi.dst=N) (hrun:(execOp a.eval oi).run P w=.ok (.enter f args) w)
 (h:Calls P f args w fun e w'=>∃v,e=.returned v∧K (a.put N v) w'):if Region.wanted oi (yielded ops a.tmps)=true then Oper.wp P oi a w K Q else K (a.put N undef) w:=by
 rw [if_pos hw];subst hN;unfold Oper.wp;rw [hrun,Oper.upon_enter];refine h.mono fun e w'' hh=>?_
 obtain⟨v,rfl,hk⟩ :=hh;exact hk
theorem F1 {f:FuncId} {fn:Func} (hf:P.funcs[f]? =some fn) (hname:(fn.name=="runtime.NumGoroutine")=false) (hb:fn.body.isSome=true) (args:Array Value) (w:World):(callFunc f args).run P w=.ok (.enter f args) w:=by
 have h1:fn.name≠"runtime.NumGoroutine" :=by simpa using hname
 obtain⟨c,hc⟩ :=Option.isSome_iff_exists.1 hb;simp [callFunc,hf,h1,hc]
theorem Vz {oi:Oper} {N:Option Tmp} {a:Act} {w:World} {K:Act→World→Prop} {f:FuncId} {fn:Func} {as_:Array Operand} {ts:Array TypeId} (hf:P.funcs[f]? =some fn) (hname:(fn.name=="runtime.NumGoroutine")=false) (hb:fn.body.isSome=true) (args:Array Value)
 (hw:Region.wanted oi (yielded ops a.tmps)=true) (hN:oi.dst=N) (hop:oi.op=.call {callee:=.value (.func f),args:=as_,argTypes:=ts}) (hargs:as_.map a.eval=args)
 (h:Calls P f args w fun e w'=>∃v,e=.returned v∧K (a.put N v) w'):if Region.wanted oi (yielded ops a.tmps)=true then Oper.wp P oi a w K Q else K (a.put N undef) w:=by
 refine Tv f args hw hN ?_ h;have he:=F1 hf hname hb args w;unfold execOp;simp [hop,resolve,Deferred.ofValue,invoke,Act.eval,hargs,he]
theorem Xh {rest:List Oper} {oi:Oper} {a:Act} {w:World} (N:Option Tmp) (hd:oi.dst=N) (hg:oi.guard=none) {f:FuncId} {fn:Func} {as_:Array Operand} {ts:Array TypeId} (hf:P.funcs[f]? =some fn) (hname:(fn.name=="runtime.NumGoroutine")=false) (hb:fn.body.isSome=true) (args:Array Value)
 (hop:oi.op=.call {callee:=.value (.func f),args:=as_,argTypes:=ts}) (hargs:as_.map a.eval=args)
 (h:Calls P f args w fun e w'=>∃v,e=.returned v∧wpList P ops Q rest (a.put N v) w'):wpList P ops Q (oi::rest) a w:=by
 refine wpList_plain hg fun K hK=>?_
 have he:=F1 hf hname hb args w
 have hrun:(execOp a.eval oi).run P w=.ok (.enter f args) w:=by
  unfold execOp;simp [hop,resolve,Deferred.ofValue,invoke,Act.eval,hargs,he]
 unfold Oper.wp;rw [hrun,Oper.upon_enter];refine h.mono fun e w'' hh=>?_
 obtain⟨v,rfl,hk⟩ :=hh;subst hd;exact hK _ _ hk
theorem S8 {oi:Oper} {a:Act} {w w1:World} {K:Act→World→Prop} (hw:Region.wanted oi (yielded ops a.tmps)=true) (hN:oi.dst=none) (hrun:(execOp a.eval oi).run P w=.ok .skip w1)
 (h:K a w1):if Region.wanted oi (yielded ops a.tmps)=true then Oper.wp P oi a w K Q else K (a.put none undef) w:=by
 rw [if_pos hw];unfold Oper.wp;rw [hrun]
 show K (a.put oi.dst undef) w1
 rw [hN];exact h
theorem Xc (n:Int):IntKind.i64.wrap n=Go.RowKit.wrap64 n:=by unfold Go.RowKit.wrap64;exact IntKind.wrap_i64 n
theorem Xd (n:Int):IntKind.i32.wrap n=Go.RowKit.wrap32 n:=by unfold Go.RowKit.wrap32;exact IntKind.wrap_i32 n
end
end Go.Proofs.YtglmdfddgmkmaaaDoorW.PrintLast
end
section
-- PRINTED BY print.sh 35421559b90ae4d0a3588c463048766b98c2df88dd9212a6774a882060cdf62d: not written by this session
namespace Go.Proofs.YtglmdfddgmkmaaaDoorW.PrintLast
open Go.Proofs.YtglmdfddgmkmaaaDoorW.PrintWords (Qa)
def Jf (md:Region.Mode) (o:Oper):List Nat:=(o.after.toList.filter (fun e=>Region.binds md e)).map (fun e=>e.on)
def Fz (md:Region.Mode) (ops:Array Oper) (i:Nat) (oi:Oper):List Nat:=(List.range ops.size).filter fun j=>!(j==i) && match ops[j]? with
 |some oj=>!(oj.after.any (fun e=>Region.binds md e && e.on==i)||oi.apart ops oj)
 |none=>false
def V8 (md:Region.Mode) (ops:Array Oper):Bool×List (List Nat×List Nat):=(Region.noSelect ops,(List.range ops.size).map fun i=>match ops[i]? with
 |some o=>(Jf md o,Fz md ops i o)
 |none=>([],[]))
def Wu (T:List (List Nat×List Nat)) (l:List Bool) (i:Nat):Bool:=!l.getD i true && match T[i]? with
 |some r=>r.1.all (fun j=>l.getD j false)
 |none=>false
def Ut (T:List (List Nat×List Nat)) (l:List Bool):List Nat:=(List.range T.length).filter (Wu T l)
def Gq (T:List (List Nat×List Nat)) (l:List Bool) (i:Nat):Bool:=match T[i]? with
 |some r=>r.2.all (fun j=>l.getD j true)
 |none=>false
def Ua (T:List (List Nat×List Nat)) (l:List Bool):Bool:=(List.range T.length).all fun j=>!l.getD j false||match T[j]? with
 |some r=>r.1.all (fun k=>l.getD k false)
 |none=>true
def Km (T:List (List Nat×List Nat)) (i:Nat):Nat→Nat→Bool
 |0,_=>false
 |fuel+1,d=>match T[d]? with
  |some r=>r.1.any fun j=>j==i||Km T i fuel j
  |none=>false
def Mq (T:List (List Nat×List Nat)) (l:List Bool) (ds:List Nat) (i:Nat):Bool:=ds.all fun d=>l.getD d true||Km T i T.length d
section
variable {md:Region.Mode} {ops:Array Oper} {T:Bool×List (List Nat×List Nat)} {l l' li lj lk:Array Bool} {ds:List Nat} {i j k:Nat}
theorem gd (l:Array Bool) (j:Nat) (b:Bool):l.getD j b=l.toList.getD j b:=by simp [Array.getD_eq_getD_getElem?,List.getD_eq_getElem?_getD]
theorem Fm (o:Oper) (p:Nat→Bool):o.after.all (fun e=>!Region.binds md e||p e.on)=(Jf md o).all p:=by
 unfold Jf;rw [←Array.all_toList]
 induction o.after.toList with
 |nil=>rfl
 |cons e r ih=>
  rw [List.all_cons,ih,List.filter_cons]
  cases h:Region.binds md e <;> simp
theorem Lf (o:Oper) (p:Nat→Bool):o.after.any (fun e=>Region.binds md e && p e.on)=(Jf md o).any p:=by
 unfold Jf;rw [←Array.any_toList]
 induction o.after.toList with
 |nil=>rfl
 |cons e r ih=>
  rw [List.any_cons,ih,List.filter_cons]
  cases h:Region.binds md e <;> simp
theorem Wv:(V8 md ops).2.length=ops.size:=by simp [V8]
theorem Jh {o:Oper} (h:ops[i]? =some o):(V8 md ops).2[i]? =some (Jf md o,Fz md ops i o):=by
 have hi:=(Array.getElem?_eq_some_iff.1 h).1;unfold V8;rw [List.getElem?_map,List.getElem?_range hi,Option.map_some,h]
theorem Jg (h:ops[i]? =none):(V8 md ops).2[i]? =none:=by
 have hi:ops.size≤i:=Array.getElem?_eq_none_iff.1 h;exact List.getElem?_eq_none (by rw [Wv];exact hi)
theorem Me:Wu (V8 md ops).2 l.toList i=(!l.getD i true && ((ops[i]?).map (·.after.all fun e=>!Region.binds md e||l.getD e.on false)).getD false):=by
 unfold Wu;rw [gd]
 cases h:ops[i]? with
 |none=>rw [Jg h];rfl
 |some o=>
  rw [Jh h];simp only [Option.map_some,Option.getD_some];rw [←Fm];simp only [gd]
theorem ready_eq:Region.ready md ops l=Ut (V8 md ops).2 l.toList:=by
 unfold Region.ready Ut;rw [Wv];refine List.filter_congr (fun i _=>?_);rw [Me]
theorem free_eq:Region.free md ops l i=Gq (V8 md ops).2 l.toList i:=by
 unfold Region.free Gq
 cases h:ops[i]? with
 |none=>rw [Jg h]
 |some oi=>
  rw [Jh h];simp only [Fz];rw [List.all_filter];congr 1;funext j;rw [gd]
  cases hj:ops[j]? with
  |none=>cases(j==i) <;> cases(l.toList.getD j true) <;> simp
  |some oj=>
   cases(j==i) <;> cases(l.toList.getD j true) <;> cases(oj.after.any (fun e=>Region.binds md e && e.on==i)||oi.apart ops oj) <;> simp_all
theorem La:Region.closedB md ops l=Ua (V8 md ops).2 l.toList:=by
 unfold Region.closedB Ua;rw [Wv];congr 1;funext j;rw [gd]
 cases h:ops[j]? with
 |none=>rw [Jg h]
 |some o=>
  rw [Jh h];simp only;rw [←Fm];simp only [gd]
theorem reach_eq:∀(fuel d:Nat),Region.reachB md ops i fuel d=Km (V8 md ops).2 i fuel d
 |0,_=>rfl
 |fuel+1,d=>by
  unfold Region.reachB Km
  cases h:ops[d]? with
  |none=>rw [Jg h]
  |some o=>
   rw [Jh h];simp only;rw [←Lf];congr 1;funext e;rw [reach_eq fuel]
theorem Sl:Region.lastB md ops l ds i=Mq (V8 md ops).2 l.toList ds i:=by
 unfold Region.lastB Mq;rw [Wv];congr 1;funext d;rw [gd,reach_eq]
theorem Kw (h:Wu T.2 l.toList i=true) (hT:V8 md ops=T):(Region.ready md ops l).contains i=true:=by
 subst hT;rw [ready_eq];unfold Ut;rw [List.contains_iff_mem,List.mem_filter,List.mem_range];refine⟨?_,h⟩;unfold Wu at h;rw [Bool.and_eq_true] at h
 cases hq:(V8 md ops).2[i]? with
 |none=>rw [hq] at h;simp at h
 |some r=>exact(List.getElem?_eq_some_iff.1 hq).1
theorem Mf (h:(l.toList.set i true==l'.toList)=true):(l.setIfInBounds i true==l')=true:=by
 rw [beq_iff_eq] at h ⊢;apply Array.ext';rw [Array.toList_setIfInBounds];exact h
def Tu (T:Bool×List (List Nat×List Nat)) (l l':List Bool) (i:Nat):Bool:=T.1 && Gq T.2 l i && Wu T.2 l i && (l.set i true==l')
theorem X3 (hT:V8 md ops=T) (h:Tu T l.toList l'.toList i=true):Sc md ops l l' i=true:=by
 simp only [Tu,Bool.and_eq_true] at h;obtain⟨⟨⟨h1,h2⟩,h3⟩,h4⟩ :=h;have h5:=Kw h3 hT;have h6:=Mf h4;subst hT;simp only [Sc,Bool.and_eq_true];exact⟨⟨⟨h1,by rw [free_eq];exact h2⟩,h5⟩,h6⟩
def Rs (T:Bool×List (List Nat×List Nat)) (ds:List Nat) (l l':List Bool) (i:Nat):Bool:=T.1 && Gq T.2 l i && Wu T.2 l i && Ua T.2 l && Mq T.2 l ds i && (l.set i true==l')
theorem St (hT:V8 md ops=T) (h:Rs T ds l.toList l'.toList i=true):takeB md ops ds l l' i=true:=by
 simp only [Rs,Bool.and_eq_true] at h;obtain⟨⟨⟨⟨⟨h1,h2⟩,h3⟩,h4⟩,h5⟩,h6⟩ :=h;have h7:=Kw h3 hT;have h8:=Mf h6;subst hT;simp only [takeB,Bool.and_eq_true];exact⟨⟨⟨⟨⟨h1,by rw [free_eq];exact h2⟩,h7⟩,by rw [La];exact h4⟩,by rw [Sl];exact h5⟩,h8⟩
theorem Vk (hT:V8 md ops=T) (h:(Ut T.2 l.toList==[i] && l.toList.set i true==l'.toList)=true):Kn md ops l l' i=true:=by
 simp only [Bool.and_eq_true] at h;obtain⟨h1,h2⟩ :=h;subst hT;simp only [Kn,Bool.and_eq_true];exact⟨by rw [ready_eq];exact h1,Mf h2⟩
theorem Wj (hT:V8 md ops=T) (h:(Ut T.2 l.toList==[])=true):(Region.ready md ops l==[])=true:=by
 subst hT;rw [ready_eq];exact h
def upM (B:List Nat) (d:Nat):List Nat→Nat
 |[]=>0
 |n::r=>(2 ^ n|||(if n < d then B.getD n 0 else 0))|||upM B d r
def Vx (T:List (List Nat×List Nat)) (B:List Nat):Bool:=(List.range T.length).all fun d=>match T[d]? with
 |some r=>(B.getD d 0 |||upM B d r.1)==upM B d r.1
 |none=>false
theorem M5 {B:List Nat} {d i:Nat}:∀{ns:List Nat},(upM B d ns).testBit i=true→∃n∈ns,n=i∨(n < d∧(B.getD n 0).testBit i=true)
 |[],h=>by simp [upM] at h
 |n::r,h=>by
  unfold upM at h;rw [Nat.testBit_or,Nat.testBit_or,Bool.or_eq_true,Bool.or_eq_true] at h;rcases h with (h|h)|h
  ·rw [Nat.testBit_two_pow] at h;exact⟨n,List.mem_cons_self,.inl (by simpa using h)⟩
  ·by_cases hn:n < d
   ·rw [if_pos hn] at h;exact⟨n,List.mem_cons_self,.inr ⟨hn,h⟩⟩
   rw [if_neg hn] at h;simp at h
  ·obtain⟨m,hm,h2⟩ :=M5 h;exact⟨m,List.mem_cons_of_mem _ hm,h2⟩
theorem Fq {T:List (List Nat×List Nat)} {B:List Nat} (hB:Vx T B=true):∀(fuel d:Nat),d < fuel→d < T.length→(B.getD d 0).testBit i=true→Km T i fuel d=true
 |0,d,h,_,_=>by omega
 |fuel+1,d,h,hd,hb=>by
  have h1:=List.all_eq_true.1 hB d (List.mem_range.2 hd)
  cases hr:T[d]? with
  |none=>rw [hr] at h1;simp at h1
  |some r=>
   rw [hr] at h1;simp only [beq_iff_eq] at h1;have h2:(upM B d r.1).testBit i=true:=by rw [←h1,Nat.testBit_or,hb,Bool.true_or]
   obtain⟨n,hn,h3⟩ :=M5 h2;unfold Km;rw [hr];simp only;rw [List.any_eq_true];refine⟨n,hn,?_⟩;rcases h3 with rfl|⟨h4,h5⟩
   ·simp
   rw [Fq hB fuel n (by omega) (by omega) h5,Bool.or_true]
def S6 (T:List (List Nat×List Nat)) (B:List Nat) (l:List Bool) (ds:List Nat) (i:Nat):Bool:=ds.all fun d=>l.getD d true||(decide (d < T.length) && (B.getD d 0).testBit i)
def S9 (T:Bool×List (List Nat×List Nat)) (B:List Nat) (ds:List Nat) (l l':List Bool) (i:Nat):Bool:=T.1 && Gq T.2 l i && Wu T.2 l i && Ua T.2 l && S6 T.2 B l ds i && (l.set i true==l')
theorem Zf {B:List Nat} (hT:V8 md ops=T) (hB:Vx T.2 B=true) (h:S9 T B ds l.toList l'.toList i=true):takeB md ops ds l l' i=true:=by
 refine St hT ?_;simp only [S9,Rs,Bool.and_eq_true] at h ⊢;obtain⟨⟨⟨⟨⟨h1,h2⟩,h3⟩,h4⟩,h5⟩,h6⟩ :=h;refine⟨⟨⟨⟨⟨h1,h2⟩,h3⟩,h4⟩,?_⟩,h6⟩;unfold S6 at h5;unfold Mq;rw [List.all_eq_true] at h5 ⊢;intro d hd;have h7:=h5 d hd;rw [Bool.or_eq_true,Bool.and_eq_true,decide_eq_true_eq] at h7;rcases h7 with h7|⟨h8,h9⟩
 ·rw [h7,Bool.true_or]
 rw [Fq hB _ d h8 h8 h9,Bool.or_true]
theorem Vh {P:Program} {Q:Exit→Act→World→Prop} {S:World→Prop} {n:Nat} {a:Act} {w:World} {B:List Nat} (hT:V8 md ops=T) (hB:Vx T.2 B=true) (h:Qa (V8 md ops=T)→Qa (Vx T.2 B=true)→Zc P md ops Q S ds n l a w):Zc P md ops Q S ds n l a w:=h ⟨hT⟩ ⟨hB⟩
end
def Jj:Code→Nat→Option (Array Oper)
 |.region id ops _,k=>if id==k then some ops else none
 |.seq a b,k=>match Jj a k with
  |some o=>some o
  |none=>Jj b k
 |.cond _ a b,k=>match Jj a k with
  |some o=>some o
  |none=>Jj b k
 |.block _ c,k=>Jj c k
 |.loop c,k=>Jj c k
 |.scope c,k=>Jj c k
 |.rangeFunc _ _ a b,k=>match Jj a k with
  |some o=>some o
  |none=>Jj b k
 |_,_=>none
def opsOf (f:Func) (k:Nat):Array Oper:=((f.body.bind fun c=>Jj c k)).getD #[]
end Go.Proofs.YtglmdfddgmkmaaaDoorW.PrintLast
end
section
-- PRINTED BY print.sh 35421559b90ae4d0a3588c463048766b98c2df88dd9212a6774a882060cdf62d: not written by this session
namespace Go.Proofs.YtglmdfddgmkmaaaDoorW.PrintWords
open Go.RowKit
namespace Kd
def tag {α:Type} (f:Nat→Nat) (d:Kd α):Kd (α×Nat) where
 sz:=d.sz
 E:=d.E
 K:=fun w x cs=>d.K w x.1 cs
 M:=fun w base ok x cs=>d.M w base (fun k=>ok k∧f k=x.2) x.1 cs
 K_len:=fun h=>d.K_len h
 K_one:=fun h=>d.K_one h
 K_below:=fun hb h=>d.K_below hb h
 K_of_M:=fun h=>d.K_of_M h
 M_mono:=fun hok h=>d.M_mono (fun k hk=>⟨hok k hk.1,hk.2⟩) h
 M_bound:=fun h=>d.M_mono (fun _ hk=>⟨⟨hk.1.1,hk.2⟩,hk.1.2⟩) (d.M_bound h)
 M_move:=fun hm h=>d.M_move (fun k hk=>hm k hk.1) h
 M_lower:=fun hb h=>d.M_lower hb h
def raw (sz:Nat):Kd (List Value) where
 sz:=sz
 E:=[]
 K:=fun _ x cs=>cs=x∧cs.length=sz∧∀u∈cs,u.oneCell'=true
 M:=fun _ _ _ x cs=>cs=x∧cs.length=sz∧∀u∈cs,u.oneCell'=true
 K_len:=fun h=>h.2.1
 K_one:=fun h=>h.2.2
 K_below:=fun _ h=>h
 K_of_M:=fun h=>h
 M_mono:=fun _ h=>h
 M_bound:=fun h=>h
 M_move:=fun _ h=>h
 M_lower:=fun _ h=>h
def S {α:Type} (d:Kd α) (e:Nat) (w:World) (base:Nat) (ok:Nat→Prop) (v:Value) (xs:List α):Prop:=∃f,(tag f d).R e w base ok v xs.zipIdx
section
variable {α β:Type} {d:Kd α} {d':Kd β} {e e':Nat} {w w1 W:World} {base b:Nat} {ok ok' okv oku:Nat→Prop} {u v:Value} {xs:List α} {ys:List β}
theorem Fx (hE:d.E=[]) (h:d.R e w base ok v xs):d.R e w base (fun k=>some k=v.ownBlock) v xs:=by
 obtain⟨h0,inner,ho,hr⟩ :=h;refine⟨fun k hk=>hk.symm,inner,ho,hr.imp_ (fun p c hp=>d.M_mono (fun k hk=>?_) (d.M_bound hp))⟩;obtain⟨_,_,_,q,hq,_⟩ :=hk;rw [hE] at hq
 cases hq
end
section
variable {α β:Type} {d:Kd α} {d':Kd β} {e e' g:Nat} {w w1 W:World} {base b:Nat} {ok ok' okv oku:Nat→Prop} {u v:Value} {xs:List α} {ys:List β}
end
section
variable {P:Program} {ops:Array Oper} {rest:List Oper} {o:Oper} {a:Act} {Q:Exit→Act→World→Prop} {Kc:Act→World→Prop} {α:Type}
end
def gap {α:Type} (f:Nat→Nat) (d:Kd α) (i:Nat) (c:List Value):Kd (α×Nat) where
 sz:=d.sz
 E:=d.E
 K:=fun w x cs=>(x.2=i→cs=c∧cs.length=d.sz∧∀u∈cs,u.oneCell'=true)∧(x.2≠i→d.K w x.1 cs)
 M:=fun w base ok x cs=>(x.2=i→cs=c∧cs.length=d.sz∧∀u∈cs,u.oneCell'=true)∧(x.2≠i→d.M w base (fun k=>ok k∧f k=x.2) x.1 cs)
 K_len:=fun {w x cs} h=>by
  by_cases hx:x.2=i
  ·exact(h.1 hx).2.1
  exact d.K_len (h.2 hx)
 K_one:=fun {w x cs} h=>by
  by_cases hx:x.2=i
  ·exact(h.1 hx).2.2
  exact d.K_one (h.2 hx)
 K_below:=fun hb h=>⟨h.1,fun hx=>d.K_below hb (h.2 hx)⟩
 K_of_M:=fun h=>⟨h.1,fun hx=>d.K_of_M (h.2 hx)⟩
 M_mono:=fun hok h=>⟨h.1,fun hx=>d.M_mono (fun k hk=>⟨hok k hk.1,hk.2⟩) (h.2 hx)⟩
 M_bound:=fun h=>⟨h.1,fun hx=>d.M_mono (fun _ hk=>⟨⟨hk.1.1,hk.2⟩,hk.1.2⟩) (d.M_bound (h.2 hx))⟩
 M_move:=fun hm h=>⟨h.1,fun hx=>d.M_move (fun k hk=>hm k hk.1) (h.2 hx)⟩
 M_lower:=fun hb h=>⟨h.1,fun hx=>d.M_lower hb (h.2 hx)⟩
def H {α:Type} (d:Kd α) (e:Nat) (w:World) (base:Nat) (ok:Nat→Prop) (v:Value) (xs:List α) (i:Int) (oki:Nat→Prop) (c:List Value):Prop:=
 (∀k,oki k→ok k)∧∃f,(gap f d i.toNat c).R e w base (fun k=>ok k∧¬oki k) v xs.zipIdx
section
variable {α β:Type} {d:Kd α} {e e' g n cap:Nat} {w w1 W:World} {base:Nat} {ok ok' oki okp:Nat→Prop} {u v:Value} {xs:List α} {i:Int} {c:List Value}
end
section
variable {P:Program} {ops:Array Oper} {rest:List Oper} {o:Oper} {a:Act} {Q:Exit→Act→World→Prop} {α:Type}
end
end Kd
end Go.Proofs.YtglmdfddgmkmaaaDoorW.PrintWords
end
section
-- PRINTED BY print.sh 35421559b90ae4d0a3588c463048766b98c2df88dd9212a6774a882060cdf62d: not written by this session
namespace Go.Proofs.YtglmdfddgmkmaaaDoorW.PrintWords
open Go.RowKit
def Kept (w W:World) (S:Nat→Prop):Prop:=w.heap.size≤W.heap.size∧∀i,i < w.heap.size→¬S i→W.heap[i]? =w.heap[i]?
section
variable {w W W2:World} {S S2 S':Nat→Prop}
theorem Kept.refl (w:World) (S:Nat→Prop):Kept w w S:=⟨Nat.le_refl _,fun _ _ _=>rfl⟩
theorem Kept.of_below (h:Below w.heap.size w W) (S:Nat→Prop):Kept w W S:=⟨h.size,fun i hi _=>h.block i hi⟩
theorem Kept.mono (h:Kept w W S) (hs:∀k,S k→S' k):Kept w W S':=⟨h.1,fun i hi hn=>h.2 i hi (fun hk=>hn (hs i hk))⟩
theorem Kept.then_ (h:Kept w W S) (k:Kept W W2 S2) (hs:∀k,S2 k→S k∨w.heap.size≤k):Kept w W2 S:=
 ⟨Nat.le_trans h.1 k.1,fun i hi hn=>(k.2 i (Nat.lt_of_lt_of_le hi h.1) (fun h2=>(hs i h2).elim hn (fun h3=>by omega))).trans (h.2 i hi hn)⟩
theorem Kept.setCell (h:Kept w W S) {p:Addr} (hp:S p.block∨w.heap.size≤p.block) (u:Value):Kept w (W.setCell p u) S:=
 h.then_ (S2:=fun k=>k=p.block) ⟨by simp [World.setCell],fun i _ hn=>Below.heap_setCell W p u i hn⟩ (fun k hk=>by rw [hk];exact hp)
theorem Kept.keep {g:Nat} (h:Qe w W g none) (k:Kept W W2 S2) (hs:∀k,S2 k→w.heap.size≤k):Qe w W2 g none:=
 ⟨Nat.le_trans h.1 k.1,fun i hi hg hr=>(k.2 i (Nat.lt_of_lt_of_le hi h.1) (fun h2=>by have:=hs i h2;omega)).trans (h.2 i hi hg hr)⟩
theorem Yh {g:Nat} {o:Obj} (hb:W.heap[g]? =some o) (hk:Kept W W2 S) (hne:¬S g):W2.heap[g]? =some o:=(hk.2 g (Xr hb) hne).trans hb
end
namespace Kd
section
variable {α:Type} {d:Kd α} {e base n c:Nat} {ok oki S S2:Nat→Prop} {w w0 W W1 W2:World} {v:Value} {A:Option Addr} {xs:List α} {i:Int} {cs:List Value}
theorem R_kept (h:d.R e W base ok v xs) (hk:Kept W W2 S) (hne:∀k,ok k→¬S k):d.R e W2 base ok v xs:=Uh h (fun k ho hlt=>hk.2 k hlt (hne k ho))
end
end Kd
end Go.Proofs.YtglmdfddgmkmaaaDoorW.PrintWords
end
section
-- PRINTED BY print.sh 35421559b90ae4d0a3588c463048766b98c2df88dd9212a6774a882060cdf62d: not written by this session
namespace Go.Proofs.YtglmdfddgmkmaaaDoorW.PrintWords
open Go.RowKit
def Jm (P:World→Prop) (W:World) (ok:Nat→Prop):Prop:=∀W':World,(∀k,ok k→k < W.heap.size→W'.heap[k]? =W.heap[k]?)→P W'
theorem Sj {W W1:World} {k:Nat} (h:W1.heap[k]? =W.heap[k]?) (hlt:k < W.heap.size):k < W1.heap.size:=by
 rw [Array.getElem?_eq_getElem hlt] at h;exact(Array.getElem?_eq_some_iff.1 h).1
namespace Jm
variable {P Q:World→Prop} {W W1:World} {ok ok':Nat→Prop}
theorem now (h:Jm P W ok):P W:=h W (fun _ _ _=>rfl)
theorem mono (h:Jm P W ok) (hok:∀k,ok k→ok' k):Jm P W ok':=fun W' hW=>h W' (fun k hk hlt=>hW k (hok k hk) hlt)
theorem bound (h:Jm P W ok):Jm P W (fun k=>ok k∧k < W.heap.size):=fun W' hW=>h W' (fun k hk hlt=>hW k ⟨hk,hlt⟩ hlt)
theorem step (h:Jm P W ok) (hm:∀k,ok k→k < W.heap.size→W1.heap[k]? =W.heap[k]?):Jm P W1 ok:=fun W' hW=>h W' (fun k hk hlt=>(hW k hk (Sj (hm k hk hlt) hlt)).trans (hm k hk hlt))
end Jm
namespace Kd
def F {α:Type} (d:Kd α) (W:World) (ok:Nat→Prop) (A:Option Addr) (n:Nat) (xs:List α):Prop:=Jm (fun W=>d.C W A n xs) W ok
def FK {α:Type} (d:Kd α) (W:World) (ok:Nat→Prop) (x:α) (c:List Value):Prop:=Jm (fun W=>d.K W x c) W ok
section
variable {α β:Type} {d:Kd α} {e base n n' cc g N:Nat} {ok ok' okp S:Nat→Prop} {w w0 w1 W W1:World} {A A':Option Addr} {u v v1:Value} {xs:List α} {xs':List β} {d':Kd β} {x:α} {c:List Value}
theorem Uf (h:FK d W ok x c):d.K W x c:=Jm.now h
theorem Fv (h:FK d W ok x c) (hok:∀k,ok k→ok' k):FK d W ok' x c:=Jm.mono h hok
theorem Gh (h:FK d W ok x c):FK d W (fun k=>ok k∧k < W.heap.size) x c:=Jm.bound h
theorem Mm (h:FK d W ok x c) (hm:∀k,ok k→k < W.heap.size→W1.heap[k]? =W.heap[k]?):FK d W1 ok x c:=Jm.step h hm
theorem R7 (h:d.M W base ok x c):FK d W ok x c:=fun _ hW=>d.K_of_M (Lt h hW)
end
end Kd
end Go.Proofs.YtglmdfddgmkmaaaDoorW.PrintWords
end
section
-- PRINTED BY print.sh 35421559b90ae4d0a3588c463048766b98c2df88dd9212a6774a882060cdf62d: not written by this session
namespace Go.Proofs.YtglmdfddgmkmaaaDoorW.PrintWords
open Go.RowKit
namespace Kd
def chunks (sz:Nat) (n:Nat) (inner:List Value):List (List Value):=(List.range n).map fun j=>(inner.drop (j*sz)).take sz
theorem Zz (sz n:Nat) (inner:List Value):(chunks sz n inner).length=n:=by simp [chunks]
theorem M9 {sz n:Nat} {inner:List Value} {j:Nat} (hj:j < n):(chunks sz n inner)[j]? =some ((inner.drop (j*sz)).take sz):=by simp [chunks,hj]
theorem W4 {sz n:Nat} {inner:List Value} {j:Nat} {c:List Value} (h:(chunks sz n inner)[j]? =some c):c=(inner.drop (j*sz)).take sz:=by
 have hj:j < n:=by have:=(List.getElem?_eq_some_iff.1 h).1;rwa [Zz] at this
 rw [M9 hj] at h;injection h with h
 exact h.symm
theorem Uv {α:Type} {Rr:α→List Value→Prop} {sz:Nat} {xs:List α} {inner:List Value} (h:Xp Rr sz xs inner) (hR:∀x c,Rr x c→c.length=sz∧∀u∈c,u.oneCell'=true):Xp (fun x cs=>cs=x∧cs.length=sz∧∀u∈cs,u.oneCell'=true) sz (chunks sz xs.length inner) inner:=by
 refine⟨by rw [Zz];exact h.1,fun j p hj=>?_⟩;have hjl:j < xs.length:=by have:=(List.getElem?_eq_some_iff.1 hj).1;rwa [Zz] at this
 have hp:=W4 hj;exact⟨hp.symm,hR _ _ (h.2 j _ (List.getElem?_eq_getElem hjl))⟩
section
variable {α:Type} {d:Kd α} {e base n cc g:Nat} {ok ok' okp S:Nat→Prop} {w w1 W W1:World} {A:Option Addr} {u v v1:Value} {xs:List α} {x:α} {c:List Value}
def N {α:Type} (d:Kd α) (e:Nat) (w:World) (base:Nat) (ok:Nat→Prop) (v:Value) (xs:List α):Prop:=
 (∀k,v.ownBlock=some k→ok k)∧∃rows:List (List Value),rows.length=xs.length∧(raw d.sz).R e w base (fun k=>some k=v.ownBlock) v rows∧∀(j:Nat) (x:α) (c:List Value),xs[j]? =some x→rows[j]? =some c→FK d w (fun k=>ok k∧some k≠v.ownBlock) x c
theorem Lh {sz:Nat} {rows:List (List Value)} (h:(raw sz).R e w base ok v rows):(raw sz).R e w base (fun k=>some k=v.ownBlock) v rows:=Fx rfl h
theorem R_N (h:d.R e w base ok v xs):N d e w base ok v xs:=by
 obtain⟨h0,inner,ho,hr⟩ :=h;refine⟨h0,chunks d.sz xs.length inner,Zz _ _ _,⟨fun k hk=>hk.symm,inner,by rw [Zz];exact ho,Uv hr (fun x c hp=>⟨d.K_len (d.K_of_M hp),d.K_one (d.K_of_M hp)⟩)⟩,fun j x c hx hc=>?_⟩
 rw [W4 hc];exact R7 (hr.2 j x hx)
theorem N_nil (d:Kd α) (e:Nat) (w:World) (base:Nat) (ok:Nat→Prop):N d e w base ok (.slice none 0 0) []:=R_N (R_nil _ _ _ _ _)
theorem N_mono (h:N d e w base ok v xs) (hok:∀k,ok k→ok' k):N d e w base ok' v xs:=by
 obtain⟨h0,rows,hl,hR,hf⟩ :=h;exact⟨fun k hk=>hok k (h0 k hk),rows,hl,hR,fun j x c hx hc=>Fv (hf j x c hx hc) (fun k hk=>⟨hok k hk.1,hk.2⟩)⟩
theorem N_lt (h:N d e w base ok v xs):∀k,v.ownBlock=some k→k < w.heap.size:=by
 obtain⟨_,rows,_,hR,_⟩ :=h;exact R_lt hR
theorem N_base (h:N d e w base ok v xs):∀k,v.ownBlock=some k→base≤k:=by
 obtain⟨_,rows,_,hR,_⟩ :=h;exact R_base hR
theorem N_bound (h:N d e w base ok v xs):N d e w base (fun k=>ok k∧k < w.heap.size) v xs:=by
 have hlt:=N_lt h;obtain⟨h0,rows,hl,hR,hf⟩ :=h;exact⟨fun k hk=>⟨h0 k hk,hlt k hk⟩,rows,hl,hR,fun j x c hx hc=>Fv (Gh (hf j x c hx hc)) (fun k hk=>⟨⟨hk.1.1,hk.2⟩,hk.1.2⟩)⟩
theorem N_lower {base':Nat} (h:N d e w base ok v xs) (hb:base'≤base):N d e w base' ok v xs:=by
 obtain⟨h0,rows,hl,hR,hf⟩ :=h;exact⟨h0,rows,hl,R_lower hR hb,hf⟩
theorem Ug (h:N d e w base ok v xs) (hm:∀k,ok k→k < w.heap.size→w1.heap[k]? =w.heap[k]?):N d e w1 base ok v xs:=by
 obtain⟨h0,rows,hl,hR,hf⟩ :=h;exact⟨h0,rows,hl,Uh hR (fun k hk hlt=>hm k (h0 k hk.symm) hlt),fun j x c hx hc=>Mm (hf j x c hx hc) (fun k hk hlt=>hm k hk.1 hlt)⟩
theorem N_below (h:N d e w base ok v xs) (hb:Below w.heap.size w w1):N d e w1 base ok v xs:=Ug h (fun k _ hk=>hb.block k hk)
theorem N_drew (h:N d e w base ok v xs):N d e w.drew base ok v xs:=N_below h (Yx (Below.refl _ _))
theorem N_far (h:N d e w base ok v xs) {p:Addr} (hok:∀k,ok k→k≠p.block) (u:Value):N d e (w.setCell p u) base ok v xs:=Ug h (fun k ho _=>Below.heap_setCell w p u k (hok k ho))
theorem N_keep (h:N d e w base ok v xs) (hk:Qe w w1 g none) (hok:∀k,ok k→k≠g):N d e w1 base ok v xs:=Ug h (fun k ho hlt=>hk.2 k hlt (hok k ho) (by simp))
theorem N_kept (h:N d e w base ok v xs) (hk:Kept w w1 S) (hok:∀k,ok k→¬S k):N d e w1 base ok v xs:=Ug h (fun k ho hlt=>hk.2 k hlt (hok k ho))
theorem N_elder' (h:N d e W base ok v xs) (hbase:∀k,u.ownBlock=some k→W.heap.size≤k) (hb:Below W.heap.size W w1):N d e w1 base (fun k=>ok k∧some k≠u.ownBlock) v xs:=
 N_mono (N_below (N_bound h) hb) (fun k hk=>⟨hk.1,fun he=>by have:=hbase k he.symm;have:=hk.2;omega⟩)
theorem N_elderB (h:N d e w base ok v xs) (a:Nat) (ha:w.heap.size≤a):N d e w base (fun k=>ok k∧k≠a) v xs:=N_mono (N_bound h) (fun k hk=>⟨hk.1,by have:=hk.2;omega⟩)
theorem N_oldK (h:N d e W base (fun k=>ok k∧k≠g) v xs) (hk:Qe W w1 g none):N d e w1 base (fun k=>ok k∧k < W.heap.size) v xs:=N_mono (N_keep (N_bound h) hk (fun _ hk=>hk.1.2)) (fun _ hk=>⟨hk.1.1,hk.2⟩)
theorem N_told {b:Nat} (h:N d e w1 base (fun k=>ok k∧k < b) v xs) (hbase:∀k,u.ownBlock=some k→b≤k):N d e w1 base (fun k=>(ok k∧some k≠u.ownBlock)∧k < b) v xs:=
 N_mono h (fun k hk=>⟨⟨hk.1,fun e=>Nat.lt_irrefl _ (Nat.lt_of_lt_of_le hk.2 (hbase k e.symm))⟩,hk.2⟩)
theorem N_slice (h:N d e w base ok v xs):∃A c,v=.slice A xs.length c:=by
 obtain⟨_,rows,hl,hR,_⟩ :=h;obtain⟨A,c,he⟩ :=R_slice hR;exact⟨A,c,by rw [he,hl]⟩
theorem N_reads' {n c:Nat} (h:N d e w base ok (.slice A n c) xs):n=xs.length∧n≤c∧d.C w A xs.length xs:=by
 obtain⟨_,rows,hl,hR,hf⟩ :=h;obtain⟨hn,hc,hC⟩ :=R_reads' hR;refine⟨by omega,hc,?_⟩;rw [hl] at hC;refine⟨rfl,hC.2.1,fun hp=>?_⟩;obtain⟨ad,he,hcell⟩ :=hC.2.2 hp;refine⟨ad,he,fun j p hj=>?_⟩;have hjl:j < rows.length:=by have:=(List.getElem?_eq_some_iff.1 hj).1;omega
 obtain⟨c',hcl,hK,hcc⟩ :=hcell j _ (List.getElem?_eq_getElem hjl);have hk:=Uf (hf j p _ hj (List.getElem?_eq_getElem hjl));refine⟨c',hcl,?_,hcc⟩;rw [show c'=rows[j] from hK.1];exact hk
theorem N_reads (h:N d e w base ok v xs):∃A c,v=.slice A xs.length c∧xs.length≤c∧d.C w A xs.length xs:=by
 obtain⟨A,c,rfl⟩ :=N_slice h;exact⟨A,c,rfl,(N_reads' h).2⟩
theorem N_F {n:Nat} (h:N d e w base ok (.slice A n cc) xs):F d w ok A n xs:=fun W' hW=>by
 have h2:=N_reads' (Ug h hW);rw [h2.1];exact h2.2.2
end
end Kd
end Go.Proofs.YtglmdfddgmkmaaaDoorW.PrintWords
end
section
-- PRINTED BY print.sh 35421559b90ae4d0a3588c463048766b98c2df88dd9212a6774a882060cdf62d: not written by this session
namespace Go.Proofs.YtglmdfddgmkmaaaDoorW.PrintWords
theorem Xp.one {α:Type} {R:α→List Value→Prop} {ps:List α} {cs:List Value} {p:α} {v:Value} (hp:R p [v]) (h:Xp R 1 ps cs):Xp R 1 (p::ps) (v::cs):=by
 refine⟨by simp [h.1],fun j q hq=>?_⟩
 cases j with
 |zero=>
  simp only [List.getElem?_cons_zero,Option.some.injEq] at hq;subst hq;simpa using hp
 |succ j=>
  simp only [List.getElem?_cons_succ] at hq;have h1:=h.2 j q hq;simpa [Nat.mul_one] using h1
theorem Xp.front {α:Type} {R:α→List Value→Prop} {size:Nat} {ps:List α} {cs c all:List Value} {p:α} (hp:R p c) (hc:c.length=size) (h:Xp R size ps cs) (ha:c++cs=all):Xp R size (p::ps) all:=by
 subst ha;refine⟨by rw [List.length_append,hc,h.1,List.length_cons,Nat.succ_mul,Nat.add_comm],fun j q hq=>?_⟩
 cases j with
 |zero=>
  simp only [List.getElem?_cons_zero,Option.some.injEq] at hq;subst hq;rw [Nat.zero_mul,List.drop_zero,List.take_append_of_le_length (by omega),List.take_of_length_le (by omega)];exact hp
 |succ j=>
  simp only [List.getElem?_cons_succ] at hq;have h1:=h.2 j q hq;rw [Nat.succ_mul,List.drop_append,List.drop_of_length_le (by rw [hc];exact Nat.le_add_left _ _),List.nil_append,hc,Nat.add_sub_cancel];exact h1
theorem Xp.c2 {α:Type} {R:α→List Value→Prop} {ps:List α} {cs:List Value} {p:α} {va vb:Value} (hp:R p [va,vb]) (h:Xp R 2 ps cs):Xp R 2 (p::ps) (va::vb::cs):=Xp.front hp rfl h rfl
theorem Xp.c3 {α:Type} {R:α→List Value→Prop} {ps:List α} {cs:List Value} {p:α} {va vb vc:Value} (hp:R p [va,vb,vc]) (h:Xp R 3 ps cs):Xp R 3 (p::ps) (va::vb::vc::cs):=Xp.front hp rfl h rfl
theorem Xp.c4 {α:Type} {R:α→List Value→Prop} {ps:List α} {cs:List Value} {p:α} {va vb vc vd:Value} (hp:R p [va,vb,vc,vd]) (h:Xp R 4 ps cs):Xp R 4 (p::ps) (va::vb::vc::vd::cs):=Xp.front hp rfl h rfl
theorem Xp.c5 {α:Type} {R:α→List Value→Prop} {ps:List α} {cs:List Value} {p:α} {va vb vc vd ve:Value} (hp:R p [va,vb,vc,vd,ve]) (h:Xp R 5 ps cs):Xp R 5 (p::ps) (va::vb::vc::vd::ve::cs):=Xp.front hp rfl h rfl
theorem Xp.c6 {α:Type} {R:α→List Value→Prop} {ps:List α} {cs:List Value} {p:α} {va vb vc vd ve vf:Value} (hp:R p [va,vb,vc,vd,ve,vf]) (h:Xp R 6 ps cs):Xp R 6 (p::ps) (va::vb::vc::vd::ve::vf::cs):=Xp.front hp rfl h rfl
theorem Xp.c7 {α:Type} {R:α→List Value→Prop} {ps:List α} {cs:List Value} {p:α} {va vb vc vd ve vf vg:Value} (hp:R p [va,vb,vc,vd,ve,vf,vg]) (h:Xp R 7 ps cs):Xp R 7 (p::ps) (va::vb::vc::vd::ve::vf::vg::cs):=Xp.front hp rfl h rfl
theorem Xp.c8 {α:Type} {R:α→List Value→Prop} {ps:List α} {cs:List Value} {p:α} {va vb vc vd ve vf vg vh:Value} (hp:R p [va,vb,vc,vd,ve,vf,vg,vh]) (h:Xp R 8 ps cs):Xp R 8 (p::ps) (va::vb::vc::vd::ve::vf::vg::vh::cs):=Xp.front hp rfl h rfl
theorem Xp.c9 {α:Type} {R:α→List Value→Prop} {ps:List α} {cs:List Value} {p:α} {va vb vc vd ve vf vg vh vi:Value} (hp:R p [va,vb,vc,vd,ve,vf,vg,vh,vi]) (h:Xp R 9 ps cs):Xp R 9 (p::ps) (va::vb::vc::vd::ve::vf::vg::vh::vi::cs):=Xp.front hp rfl h rfl
theorem Xp.c10 {α:Type} {R:α→List Value→Prop} {ps:List α} {cs:List Value} {p:α} {va vb vc vd ve vf vg vh vi vj:Value} (hp:R p [va,vb,vc,vd,ve,vf,vg,vh,vi,vj]) (h:Xp R 10 ps cs):Xp R 10 (p::ps) (va::vb::vc::vd::ve::vf::vg::vh::vi::vj::cs):=Xp.front hp rfl h rfl
end Go.Proofs.YtglmdfddgmkmaaaDoorW.PrintWords
end
section
-- PRINTED BY print.sh 35421559b90ae4d0a3588c463048766b98c2df88dd9212a6774a882060cdf62d: not written by this session
namespace Go.Proofs.YtglmdfddgmkmaaaDoorW.PrintWords
open Go.RowKit
section
variable {P:Program} {ops:Array Oper} {rest:List Oper} {o:Oper} {a:Act} {Q:Exit→Act→World→Prop} {W:World}
theorem Vm (hw:Region.wanted o (yielded ops a.tmps)=true) (h:wpList P ops Q ({o with guard:=none}::rest) a W):wpList P ops Q (o::rest) a W:=by
 have h1:Region.wanted {o with guard:=none} (yielded ops a.tmps)=true:=rfl;unfold wpList at h ⊢;rw [if_pos h1] at h;rw [if_pos hw];exact h
end
end Go.Proofs.YtglmdfddgmkmaaaDoorW.PrintWords
end
section
-- PRINTED BY print.sh 35421559b90ae4d0a3588c463048766b98c2df88dd9212a6774a882060cdf62d: not written by this session
namespace Go.Proofs.YtglmdfddgmkmaaaDoorW.PrintWords
open Go.RowKit
namespace Kd
section
variable {α:Type} {d:Kd α} {e base n cap g:Nat} {ok ok' okp:Nat→Prop} {w w1 W:World} {v v1:Value} {xs ys:List α}
theorem Lu {rows:List (List Value)} (hR:(raw d.sz).R e w1 base (fun k=>k=W.heap.size) v1 rows) (hg:W.grownBy w1 none) (hat:∃b,v1.ownBlock=some b∧W.heap.size≤b) (hl:rows.length=xs.length) (hf:∀(j:Nat) (x:α) (c:List Value),xs[j]? =some x→rows[j]? =some c→FK d W okp x c)
 (hok:∀k,okp k→ok k) (hfresh:ok W.heap.size):N d e w1 base ok v1 xs:=by
 obtain⟨b,hb,hle⟩ :=hat;refine⟨fun k hk=>by rw [hR.1 k hk];exact hfresh,rows,hl,Lh hR,fun j x c hx hc=>?_⟩;refine Fv (Mm (Gh (hf j x c hx hc)) (fun k hk hlt=>hg.block k hlt (by simp))) (fun k hk=>⟨hok k hk.1,fun he=>?_⟩)
 rw [hb] at he;injection he with he
 have:=hk.2;omega
end
section
variable {P:Program} {ops:Array Oper} {rest:List Oper} {o:Oper} {a:Act} {Q:Exit→Act→World→Prop} {Kc:Act→World→Prop} {α:Type}
theorem N_lit (d:Kd α) {w0 W:World} (base e:Nat) (hgd:o.guard=none) {N':Tmp} (_hd:o.dst=some N') {xs:List α} {inner:List Value} {ok okp:Nat→Prop}
 (hrun:(execOp a.eval o).run P W=.ok (.value (.slice (some ⟨W.heap.size,0,none⟩) xs.length xs.length)) (W.alloc (.cells inner.toArray e)))
 (hrep:Xp (FK d W okp) d.sz xs inner) (hok:∀k,okp k→ok k) (hfresh:ok W.heap.size) (HB:Below base w0 W) (hbase:base≤W.heap.size) (hm:xs.length≤9223372036854775807)
 (h:∀v1 w1,N d e w1 base ok v1 xs→Below base w0 w1→W.grownBy w1 none→(∃b,v1.ownBlock=some b∧W.heap.size≤b)→wpList P ops Q rest (a.put o.dst v1) w1):
 wpList P ops Q (o::rest) a W:=by
 refine R_lit (raw d.sz) base e hgd _hd (xs:=chunks d.sz xs.length inner) (inner:=inner) (ok:=fun k=>k=W.heap.size) (okp:=fun _=>False) (by rw [Zz];exact hrun) (Uv hrep (fun y c hk=>⟨d.K_len (Uf hk),d.K_one (Uf hk)⟩)) (fun _ hk=>hk.elim) rfl HB hbase (by rw [Zz];exact hm) ?_
 intro v1 w1 hr hb hg hat;exact h v1 w1 (Lu hr hg hat (Zz _ _ _) (fun j y c hy hc=>by rw [W4 hc];exact hrep.2 j y hy) hok hfresh) hb hg hat
theorem N_lit_step (d:Kd α) {w0 W:World} (base e:Nat) (hw:Region.wanted o (yielded ops a.tmps)=true) {N':Tmp} (_hd:o.dst=some N') {xs:List α} {inner:List Value} {ok okp:Nat→Prop}
 (hrun:(execOp a.eval o).run P W=.ok (.value (.slice (some ⟨W.heap.size,0,none⟩) xs.length xs.length)) (W.alloc (.cells inner.toArray e)))
 (hrep:Xp (FK d W okp) d.sz xs inner) (hok:∀k,okp k→ok k) (hfresh:ok W.heap.size) (HB:Below base w0 W) (hbase:base≤W.heap.size) (hm:xs.length≤9223372036854775807)
 (h:∀v1 w1,N d e w1 base ok v1 xs→Below base w0 w1→W.grownBy w1 none→(∃b,v1.ownBlock=some b∧W.heap.size≤b)→Kc (a.put o.dst v1) w1):
 if Region.wanted o (yielded ops a.tmps)=true then Oper.wp P o a W Kc Q else Kc (a.put o.dst undef) W:=by
 refine Nr (raw d.sz) base e hw _hd (xs:=chunks d.sz xs.length inner) (inner:=inner) (ok:=fun k=>k=W.heap.size) (okp:=fun _=>False) (by rw [Zz];exact hrun) (Uv hrep (fun y c hk=>⟨d.K_len (Uf hk),d.K_one (Uf hk)⟩)) (fun _ hk=>hk.elim) rfl HB hbase (by rw [Zz];exact hm) ?_
 intro v1 w1 hr hb hg hat;exact h v1 w1 (Lu hr hg hat (Zz _ _ _) (fun j y c hy hc=>by rw [W4 hc];exact hrep.2 j y hy) hok hfresh) hb hg hat
end
end Kd
end Go.Proofs.YtglmdfddgmkmaaaDoorW.PrintWords
end
section
-- PRINTED BY print.sh 35421559b90ae4d0a3588c463048766b98c2df88dd9212a6774a882060cdf62d: not written by this session
-- PRINTED WORDS (module Derived/Print/More.lean): go-gate-2's additions: an AI agent of Go's test side, Tue Nov 17 2026; no person has read it. Lean checks it.
namespace Go.Proofs.YtglmdfddgmkmaaaDoorW.PrintMore
open Go.RowKit Go.Proofs.YtglmdfddgmkmaaaDoorW.PrintWords
namespace Kd
open Go.Proofs.YtglmdfddgmkmaaaDoorW.PrintWords.Kd
end Kd
namespace Kd
open Go.Proofs.YtglmdfddgmkmaaaDoorW.PrintWords.Kd
section
variable {α:Type} {d:Kd α} {e base g N:Nat} {ok:Nat→Prop} {W w1:World} {u v:Value} {xs:List α}
end
end Kd
theorem Z0 (k k':IntKind) (x y:Int):Builtin.max2 (.int k x) (.int k' y)=pure (.int k (if x < y then y else x)):=by simp only [Builtin.max2,gt_iff_lt]
theorem Z2 (k k':IntKind) (x y:Int):Builtin.min2 (.int k x) (.int k' y)=pure (.int k (if y < x then y else x)):=by simp only [Builtin.min2]
theorem Yd (ats:Array TypeId) (ty:TypeId) (a b:Value):Builtin.max_ ats ty #[a,b]=(Builtin.max2 a b >>=fun s=>pure s):=by simp only [Builtin.max_,List.foldlM_cons,List.foldlM_nil]
theorem Ye (ats:Array TypeId) (ty:TypeId) (a b:Value):Builtin.min_ ats ty #[a,b]=(Builtin.min2 a b >>=fun s=>pure s):=by simp only [Builtin.min_,List.foldlM_cons,List.foldlM_nil]
theorem Zq (ats:Array TypeId) (ty:TypeId) (a b c:Value):Builtin.max_ ats ty #[a,b,c]=(Builtin.max2 a b >>=fun s=>Builtin.max2 s c >>=fun s=>pure s):=by simp only [Builtin.max_,List.foldlM_cons,List.foldlM_nil]
theorem Zr (ats:Array TypeId) (ty:TypeId) (a b c:Value):Builtin.min_ ats ty #[a,b,c]=(Builtin.min2 a b >>=fun s=>Builtin.min2 s c >>=fun s=>pure s):=by simp only [Builtin.min_,List.foldlM_cons,List.foldlM_nil]
theorem Z1 (ats:Array TypeId) (ty:TypeId) (a b c d:Value):Builtin.max_ ats ty #[a,b,c,d]=(Builtin.max2 a b >>=fun s=>Builtin.max2 s c >>=fun s=>Builtin.max2 s d >>=fun s=>pure s):=by simp only [Builtin.max_,List.foldlM_cons,List.foldlM_nil]
theorem Z3 (ats:Array TypeId) (ty:TypeId) (a b c d:Value):Builtin.min_ ats ty #[a,b,c,d]=(Builtin.min2 a b >>=fun s=>Builtin.min2 s c >>=fun s=>Builtin.min2 s d >>=fun s=>pure s):=by simp only [Builtin.min_,List.foldlM_cons,List.foldlM_nil]
end Go.Proofs.YtglmdfddgmkmaaaDoorW.PrintMore
namespace Go.Proofs.YtglmdfddgmkmaaaDoorW.PrintWords
open Go.RowKit
section
variable {P:Program} {ops:Array Oper} {rest:List Oper} {o:Oper} {a:Act} {Q:Exit→Act→World→Prop} {W:World}
theorem Qp {f:FuncId} {as_:Array Operand} {ts:Array TypeId} (_ho:o.op=.call {callee:=.value (.func f),args:=as_,argTypes:=ts}) (h:wpList P ops Q (o::rest) a W):wpList P ops Q (o::rest) a W:=h
theorem J3 {b:Builtin} {xs:Array Operand} {ts:Array TypeId} (_ho:o.op=.call {callee:=.builtin b,args:=xs,argTypes:=ts}) (h:wpList P ops Q (o::rest) a W):wpList P ops Q (o::rest) a W:=h
end
def mx (a b:Int):Int:=if a < b then b else a
theorem W6 (w:World) (n:Nat):w.drewN n=w.drewN n:=rfl
namespace Kd
section
variable {α:Type} {d:Kd α} {e base:Nat} {ok:Nat→Prop} {W w1:World} {v:Value} {xs:List α}
theorem R_grown1 (h:d.R e W base ok v xs) (hE:d.E=[]) {row:Option Nat} (hg:W.grownBy w1 row) (hne:row≠v.ownBlock):d.R e w1 base ok v xs:=
 R_mono (R_grown (Fx hE h) hg (fun _ hk e_=>hne (e_.symm.trans hk))) (fun k hk=>h.1 k hk.symm)
end
section
variable {α:Type} {d:Kd α} {e base g n cap:Nat} {ok oki okp:Nat→Prop} {W:World} {xs:List α} {i:Int} {c:List Value}
end
section
variable {α:Type} {d:Kd α} {e base b b' g N:Nat} {ok ok1:Nat→Prop} {W W2 w1:World} {u v:Value} {xs ys:List α} {S:Nat→Prop}
theorem R_reok (hE:d.E=[]) (h:d.R e W base ok1 v xs) (hok:∀k,v.ownBlock=some k→ok k):d.R e W base ok v xs:=R_mono (Fx hE h) (fun k hk=>hok k hk.symm)
end
end Kd
end Go.Proofs.YtglmdfddgmkmaaaDoorW.PrintWords
namespace Go.Proofs.YtglmdfddgmkmaaaDoorW.PrintWords
open Go.RowKit
namespace Kd
section
variable {α β:Type} {d:Kd α} {e base base' n m c g N' lo hi:Nat} {ok ok' S:Nat→Prop} {w W w1:World} {A:Option Addr} {ad:Addr} {u v v1:Value} {xs:List α}
end
end Kd
end Go.Proofs.YtglmdfddgmkmaaaDoorW.PrintWords
end
section
namespace Go.Proofs.YtglmdfddgmkmaaaDoor.Q
open Go.RowKit Go.Proofs.YtglmdfddgmkmaaaDoorW.PrintWords Go.Proofs.YtglmdfddgmkmaaaDoorW.PrintLast Go.Proofs.YtglmdfddgmkmaaaDoorW.PrintMore
attribute [local go_sem] Z0 Z2 Yd Ye Zq Zr Z1 Z3
set_option linter.unusedVariables false
set_option linter.unusedSimpArgs false
theorem info9:(Tryd.prog.info? 9).map (fun i=>(i.zero,i.size,i.bytes))=some (some (.string ⟨#[]⟩),1,16):=by kernel_rfl
structure S26 where
 f0:Int
 f1:Int
 f2:ByteArray
 f3:(List S26)
def z26:S26:=⟨(0 :Int),(0 :Int),(⟨#[]⟩ :ByteArray),([]:List S26)⟩
def F26 (d:Kd S26):Kd S26:=Kd.iso (Kd.pair (Kd.int .i64) (Kd.pair (Kd.int .i64) (Kd.pair Kd.string (Kd.slice 26 d)))) (fun x:S26=>(x.f0,x.f1,x.f2,x.f3))
theorem F6:Kd.Mono F26:=Kd.mono_iso _ (Kd.mono_pair (Kd.mono_const _) (Kd.mono_pair (Kd.mono_const _) (Kd.mono_pair (Kd.mono_const _) (Kd.mono_slice 26 Kd.mono_id))))
theorem T1:Kd.Sub F26 [26]:=Kd.sub_iso _ (Kd.sub_pair (Kd.sub_const _ (by decide)) (Kd.sub_pair (Kd.sub_const _ (by decide)) (Kd.sub_pair (Kd.sub_const _ (by decide)) (Kd.sub_slice 26 (by decide) Kd.sub_id))))
theorem To:∀n,(Kd.upto F26 4 [26] n).sz=4 :=Kd.upto_sz (fun _=>rfl)
def k26:Kd S26:=Kd.fix F26 4 [26] To (Kd.upto_E T1)
theorem L6 {w:World} {x:S26} {cs:List Value} (h:k26.K w x cs):∃A3 c3,cs=[.int .i64 x.f0,.int .i64 x.f1,.string x.f2,.slice A3 x.f3.length c3]∧x.f3.length≤c3∧k26.C w A3 x.f3.length x.f3:=by
 obtain⟨n,h⟩ :=h
 cases n with
 |zero=>exact h.elim
 |succ n=>
  obtain⟨_,_,rfl,rfl,⟨_,_,rfl,rfl,⟨_,_,rfl,rfl,⟨A3,c3,rfl,l3,g3⟩⟩⟩⟩ :=h;exact⟨A3,c3,rfl,l3,Kd.fix_C g3⟩
theorem Th (w:World) (x:S26) {A3:Option Addr} {c3:Nat} (l3:x.f3.length≤c3) (g3:k26.C w A3 x.f3.length x.f3):k26.K w x [.int .i64 x.f0,.int .i64 x.f1,.string x.f2,.slice A3 x.f3.length c3]:=by
 obtain⟨n3,q3⟩ :=Kd.fix_C_back F6 g3;have r3:=Kd.upto_C_le F6 To (show n3≤n3 by omega) q3;exact⟨n3+1,⟨[.int .i64 x.f0],[.int .i64 x.f1,.string x.f2,.slice A3 x.f3.length c3],rfl,rfl,⟨[.int .i64 x.f1],[.string x.f2,.slice A3 x.f3.length c3],rfl,rfl,⟨[.string x.f2],[.slice A3 x.f3.length c3],rfl,rfl,⟨A3,c3,rfl,l3,r3⟩⟩⟩⟩⟩
theorem Mp (w:World) (base:Nat) (ok:Nat→Prop) (x:S26) {v3:Value} (g3:k26.R 26 w base ok v3 x.f3):k26.M w base ok x [.int .i64 x.f0,.int .i64 x.f1,.string x.f2,v3]:=by
 obtain⟨n3,q3⟩ :=Kd.fix_R_back F6 g3;have r3:=Kd.upto_R_le F6 To (show n3≤n3 by omega) q3;exact⟨n3+1,⟨[.int .i64 x.f0],[.int .i64 x.f1,.string x.f2,v3],rfl,rfl,⟨[.int .i64 x.f1],[.string x.f2,v3],rfl,rfl,⟨[.string x.f2],[v3],rfl,rfl,⟨v3,rfl,r3⟩⟩⟩⟩⟩
theorem W7 (W:World) (ok:Nat→Prop) (x:S26) {A3:Option Addr} {c3:Nat} (l3:x.f3.length≤c3) (g3:Kd.F k26 W ok A3 x.f3.length x.f3):Kd.FK k26 W ok x [.int .i64 x.f0,.int .i64 x.f1,.string x.f2,.slice A3 x.f3.length c3]:=fun W2 hW=>Th W2 x l3 (g3 W2 hW)
def Qg (xs:List S26) (i:Int):S26:=xs.getD i.toNat z26
theorem Yf {w:World} {A:Option Addr} {n:Nat} {xs:List S26} (h:Kd.C k26 w A n xs) (i:Int) (h0:0≤i) (h1:i < n):∃ad A3 c3,A=some ad∧w.cell? (ad.add (i.toNat*4))=some (.int .i64 (Qg xs i).f0)∧w.cell? ⟨(ad.add (i.toNat*4)).block,(ad.add (i.toNat*4)).off+1,none⟩=some (.int .i64 (Qg xs i).f1)∧w.cell? ⟨(ad.add (i.toNat*4)).block,(ad.add (i.toNat*4)).off+2,none⟩=some (.string (Qg xs i).f2)∧w.cell? ⟨(ad.add (i.toNat*4)).block,(ad.add (i.toNat*4)).off+3,none⟩=some (.slice A3 (Qg xs i).f3.length c3)∧(Qg xs i).f3.length≤c3∧k26.C w A3 (Qg xs i).f3.length (Qg xs i).f3:=by
 obtain⟨ad,c,e,_,hK,hc0⟩ :=Kd.C_get h z26 i h0 h1;have hc:∀j u,c[j]? =some u→w.cell? (ad.add (i.toNat*4+j))=some u:=hc0;obtain⟨A3,c3,rfl,l3,g3⟩ :=L6 hK;exact⟨ad,A3,c3,e,hc 0 _ rfl,by rw [←Kh _ _ 1 (by omega)];exact hc 1 _ rfl,by rw [←Kh _ _ 2 (by omega)];exact hc 2 _ rfl,by rw [←Kh _ _ 3 (by omega)];exact hc 3 _ rfl,l3,g3⟩
end Go.Proofs.YtglmdfddgmkmaaaDoor.Q
end
section
namespace Go.Proofs
open Go.Shelf
def Tryd.laysM171_ren:Go.Shelf.Ren:=⟨fun|171=>81 |243=>114 |246=>126 |283=>138 |284=>139 |285=>140 |286=>141 |129=>146 |317=>145 |318=>147 |319=>148 |320=>149 |337=>150 |338=>151 |n=>n,fun|3=>3 |9=>9 |2=>2 |4=>4 |171=>127 |0=>0 |53=>81 |37=>110 |5=>5 |173=>130 |212=>136 |51=>137 |20=>20 |213=>138 |46=>117 |232=>145 |233=>146 |n=>n,fun|17=>2 |18=>3 |19=>4 |n=>n⟩
theorem Tryd.laysM171:Go.Proofs.LaysM.n171 Tryd.prog Tryd.laysM171_ren:={
 mixed:=by kernel_rfl
 f129:=Tryd.func146.trans (congrArg some (by kernel_rfl))
 f171:=Tryd.func81.trans (congrArg some (by kernel_rfl))
 f243:=Tryd.func114.trans (congrArg some (by kernel_rfl))
 f246:=Tryd.func126.trans (congrArg some (by kernel_rfl))
 f283:=Tryd.func138.trans (congrArg some (by kernel_rfl))
 f284:=Tryd.func139.trans (congrArg some (by kernel_rfl))
 f285:=Tryd.func140.trans (congrArg some (by kernel_rfl))
 f286:=Tryd.func141.trans (congrArg some (by kernel_rfl))
 f317:=Tryd.func145.trans (congrArg some (by kernel_rfl))
 f318:=Tryd.func147.trans (congrArg some (by kernel_rfl))
 f319:=Tryd.func148.trans (congrArg some (by kernel_rfl))
 f320:=Tryd.func149.trans (congrArg some (by kernel_rfl))
 f337:=Tryd.func150.trans (congrArg some (by kernel_rfl))
 f338:=Tryd.func151.trans (congrArg some (by kernel_rfl))
 t0:=Tryd.underlying0
 a0:=Tryd.isAgg0
 z0:=Tryd.sizeOf0
 v0:=Tryd.zeroValue0
 t2:=Tryd.underlying2
 a2:=Tryd.isAgg2
 z2:=Tryd.sizeOf2
 v2:=Tryd.zeroValue2
 t3:=Tryd.underlying3
 a3:=Tryd.isAgg3
 z3:=Tryd.sizeOf3
 v3:=Tryd.zeroValue3
 t4:=Tryd.underlying4
 a4:=Tryd.isAgg4
 z4:=Tryd.sizeOf4
 v4:=Tryd.zeroValue4
 t5:=Tryd.underlying5
 a5:=Tryd.isAgg5
 z5:=Tryd.sizeOf5
 v5:=Tryd.zeroValue5
 t9:=Tryd.underlying9
 a9:=Tryd.isAgg9
 z9:=Tryd.sizeOf9
 v9:=Tryd.zeroValue9
 t20:=Tryd.underlying20
 a20:=Tryd.isAgg20
 z20:=Tryd.sizeOf20
 v20:=Tryd.zeroValue20
 t37:=Tryd.underlying110
 a37:=Tryd.isAgg110
 z37:=Tryd.sizeOf110
 v37:=Tryd.zeroValue110
 t46:=Tryd.underlying117
 a46:=Tryd.isAgg117
 z46:=Tryd.sizeOf117
 v46:=Tryd.zeroValue117
 t51:=Tryd.underlying137
 a51:=Tryd.isAgg137
 z51:=Tryd.sizeOf137
 v51:=Tryd.zeroValue137
 t53:=Tryd.underlying81
 a53:=Tryd.isAgg81
 z53:=Tryd.sizeOf81
 v53:=Tryd.zeroValue81
 t171:=Tryd.underlying127
 a171:=Tryd.isAgg127
 z171:=Tryd.sizeOf127
 v171:=Tryd.zeroValue127
 t173:=Tryd.underlying130
 a173:=Tryd.isAgg130
 z173:=Tryd.sizeOf130
 v173:=Tryd.zeroValue130
 t212:=Tryd.underlying136
 a212:=Tryd.isAgg136
 z212:=Tryd.sizeOf136
 v212:=Tryd.zeroValue136
 t213:=Tryd.underlying138
 a213:=Tryd.isAgg138
 z213:=Tryd.sizeOf138
 t232:=Tryd.underlying145
 a232:=Tryd.isAgg145
 z232:=Tryd.sizeOf145
 v232:=Tryd.zeroValue145
 t233:=Tryd.underlying146
 a233:=Tryd.isAgg146
 z233:=Tryd.sizeOf146
 v233:=Tryd.zeroValue146
 g17:=by kernel_rfl
 g18:=by kernel_rfl
 g19:=by kernel_rfl
 i0:=by kernel_rfl
 i2:=by kernel_rfl
 i3:=by kernel_rfl
 i4:=by kernel_rfl
 i5:=by kernel_rfl
 i9:=by kernel_rfl
 i20:=by kernel_rfl
 i37:=by kernel_rfl
 i46:=by kernel_rfl
 i51:=by kernel_rfl
 i53:=by kernel_rfl
 i171:=by kernel_rfl
 i173:=by kernel_rfl
 i212:=by kernel_rfl
 i232:=by kernel_rfl
 i233:=by kernel_rfl
 m17:=by kernel_rfl
 m18:=by kernel_rfl
 m19:=by kernel_rfl}
open Go.RowKit Go.Sort Go.Lib in
theorem Tryd.strconv_Itoa (n:Int) (h0: -9223372036854775808≤n) (h1:n≤9223372036854775807) (w:World) (htab:Lib.TabIs Tryd.prog w "internal/strconv.uint64pow10" .u64 Lib.pow10Tab):
 Calls Tryd.prog 81 #[.int .i64 n] w fun e w'=>e=.returned (.string ⟨(Lib.itoa n).toArray⟩)∧∃k os,w'=grow (w.drewN k) os:=Any.strconv_Itoa Tryd.laysM171 n h0 h1 w htab
end Go.Proofs
namespace Go.Proofs.YtglmdfddgmkmaaaDoor.Q
open Go.RowKit Go.Proofs.YtglmdfddgmkmaaaDoorW.PrintWords Go.Proofs.YtglmdfddgmkmaaaDoorW.PrintLast Go.Proofs.YtglmdfddgmkmaaaDoorW.PrintMore
structure Laid (w:World):Prop where
 out:Lib.TabIs Tryd.prog w "internal/strconv.uint64pow10" .u64 Lib.pow10Tab
theorem Laid.below {w w':World} (h:Laid w) (hb:Below w.heap.size w w'):Laid w':=⟨Lib.tabBelow_of_tabIs h.out w' hb⟩
def Ys.f (a0:Int):Option ByteArray:=if -9223372036854775808≤a0∧a0≤9223372036854775807 then some ⟨(Lib.itoa a0).toArray⟩ else none
theorem Ys.calls (a0:Int) (r:ByteArray) (w:World) (h:Ys.f a0=some r) (hT:Laid w:=by first|assumption|exact HT.out|exact Laid.below HT.out (by repeat(first|(with_reducible first|exact HB.out|apply Xu|apply Q6|apply Zg|refine Xf ?_ (Qa.out (by assumption)))|exact HB.out))):Calls Tryd.prog 81 #[.int .i64 a0] w fun e w'=>e=.returned (.string r)∧Below w.heap.size w w':=by
 unfold Ys.f at h;split at h
 ·rename_i hb
  simp only [Option.some.injEq] at h;subst h;refine(Tryd.strconv_Itoa a0 hb.1 hb.2 w hT.out).mono ?_;rintro e w' ⟨rfl,k,os,rfl⟩;exact⟨rfl,Lib.below_grow _ w (Nat.le_refl _) k os⟩
 simp at h
end Go.Proofs.YtglmdfddgmkmaaaDoor.Q
end
section
namespace Go.Proofs.YtglmdfddgmkmaaaDoor.Q
open Go.ChangeShapes Go.WideShapes Go.ChangeAt Go.RowKit
open Go.Proofs.YtglmdfddgmkmaaaDoorW.PrintWords Go.Proofs.YtglmdfddgmkmaaaDoorW.PrintLast Go.Proofs.YtglmdfddgmkmaaaDoorW.PrintMore
set_option linter.unusedVariables false
set_option linter.unusedSimpArgs false
section
variable {H:Type} {enc:TypeId×Value→H} {W:World} {sp:Nat→Bool} {held:Bool}
theorem c26:Tryd.prog.cellsOf 26=4 :=by kernel_rfl
theorem c3:Tryd.prog.cellsOf 3=1 :=by kernel_rfl
theorem c9:Tryd.prog.cellsOf 9=1 :=by kernel_rfl
theorem c24:Tryd.prog.cellsOf 24=1 :=by kernel_rfl
end
end Go.Proofs.YtglmdfddgmkmaaaDoor.Q
end
section
namespace Go.Proofs.YtglmdfddgmkmaaaDoor.Q
open Go.ChangeShapes Go.WideShapes Go.ChangeAt Go.RowKit
set_option maxRecDepth 100000
theorem own:ownKnob Tryd.prog.godebug=none:=by kernel_rfl
def Gs:List (String×DataW Unit):=[("math/bits.deBruijn32tab",Rows.laid_math_bits_deBruijn32tab),("math/bits.deBruijn64tab",Rows.laid_math_bits_deBruijn64tab),("internal/strconv.uint64pow10",Rows.laid_internal_strconv_uint64pow10)]
theorem Md:Rows.laid_internal_strconv_uint64pow10 (H:=Unit)=Lib.tabData .u64 Lib.pow10Tab:=by kernel_rfl
theorem T3:Tryd.prog.globalNamed "internal/strconv.uint64pow10" =some 2 :=by kernel_rfl
theorem T7:(Tryd.prog.globals[2]?).map (·.type)=some 136 :=by kernel_rfl
theorem of_laid {W:World} (h:laidMetH Tryd.prog Gs W):Laid W:=by
 rw [MakeChecks.laidMetH_plain _ _ _ (by kernel_rfl)] at h;have h3:=laidMet.tail (laidMet.tail h);rw [Md] at h3;exact⟨Lib.tabIs_of_head T3 T7 Tryd.underlying136 Tryd.underlying81 (by kernel_rfl) (by kernel_rfl) h3⟩
theorem door_met (os:Os) (args:Array Value):laidMetH Tryd.prog Gs ((World.doorLaid Tryd.prog 400 os).forCall (fun _ _=>0) ⟨#[],args,[]⟩).memory:=
 laidMetH_of_parts3 (fuel:=8) (laidMet_of_run' 8 (by kernel_rfl) (by kernel_rfl)) (by kernel_rfl) (by kernel_rfl)
end Go.Proofs.YtglmdfddgmkmaaaDoor.Q
end
section
namespace Go.Proofs.YtglmdfddgmkmaaaDoor.Q
open Go.RowKit Go.Proofs.YtglmdfddgmkmaaaDoorW.PrintWords Go.Proofs.YtglmdfddgmkmaaaDoorW.PrintLast Go.Proofs.YtglmdfddgmkmaaaDoorW.PrintMore
attribute [local go_sem] Z0 Z2 Yd Ye Zq Zr Z1 Z3
set_option linter.unusedVariables false
set_option linter.unusedSimpArgs false
def Zh.f (a0:ByteArray):Option (Bool):=if(a0.size:Int)≤120 then(some true) else(some (decide ((a0.size:Int) > 4096)))
set_option maxHeartbeats 8000000 in
set_option maxRecDepth 100000 in
theorem Zh.calls (a0:ByteArray) (r:Bool) (w:World) (h:Zh.f a0=some r):
 Calls Tryd.prog 16 #[.string a0] w fun e w'=>e=.returned (.bool r)∧Qk w w':=by
 have H:(if(a0.size:Int)≤120 then(some true) else(some (decide ((a0.size:Int) > 4096))))=some r:=h;clear h;by_cases c2:(a0.size:Int)≤120
 ·rw [if_pos c2] at H;have c2b0:decide ((a0.size:Int)≤120)=true:=decide_eq_true c2;clear c2;obtain rfl:=Option.some.inj H;go_enter Tryd.func16,Tryd.ntmps16;go_wp2;go_ret;exact⟨by rfl,by repeat(exact Qk.refl _)⟩
 rw [if_neg c2] at H;have c2b0:decide ((a0.size:Int)≤120)=false:=decide_eq_false c2;clear c2;obtain rfl:=Option.some.inj H;go_enter Tryd.func16,Tryd.ntmps16;go_wp2;go_ret;exact⟨by rfl,by repeat(exact Qk.refl _)⟩
def Xt.f (a0:Int):Option (Bool):=if a0 ≥ 48 then(some (decide (a0≤57))) else(some false)
set_option maxHeartbeats 8000000 in
set_option maxRecDepth 100000 in
theorem Xt.calls (a0:Int) (r:Bool) (w:World) (h:Xt.f a0=some r):
 Calls Tryd.prog 104 #[.int .u8 a0] w fun e w'=>e=.returned (.bool r)∧Qk w w':=by
 have H:(if a0 ≥ 48 then(some (decide (a0≤57))) else(some false))=some r:=h;clear h;by_cases c2:a0 ≥ 48
 ·rw [if_pos c2] at H;have c2b0:decide (48≤a0)=true:=decide_eq_true c2;clear c2;obtain rfl:=Option.some.inj H;go_enter Tryd.func104,Tryd.ntmps104;go_wp2;go_ret;exact⟨by rfl,by repeat(exact Qk.refl _)⟩
 rw [if_neg c2] at H;have c2b0:decide (48≤a0)=false:=decide_eq_false c2;clear c2;obtain rfl:=Option.some.inj H;go_enter Tryd.func104,Tryd.ntmps104;go_wp2;go_ret;exact⟨by rfl,by repeat(exact Qk.refl _)⟩
def X1.f (a0:Int):Option (Bool):=if a0=95 then(some true) else(if a0 ≥ 97 then(if a0≤122 then(some true) else(if a0 ≥ 65 then(if a0≤90 then(some true) else((Xt.f a0).bind fun t101=>(some t101))) else((Xt.f a0).bind fun t102=>(some t102)))) else(if a0 ≥ 65 then(if a0≤90 then(some true) else((Xt.f a0).bind fun t103=>(some t103))) else((Xt.f a0).bind fun t104=>(some t104))))
set_option maxHeartbeats 8000000 in
set_option maxRecDepth 100000 in
theorem X1.calls (a0:Int) (r:Bool) (w:World) (h:X1.f a0=some r):
 Calls Tryd.prog 68 #[.int .u8 a0] w fun e w'=>e=.returned (.bool r)∧Qk w w':=by
 have H:(if a0=95 then(some true) else(if a0 ≥ 97 then(if a0≤122 then(some true) else(if a0 ≥ 65 then(if a0≤90 then(some true) else((Xt.f a0).bind fun t101=>(some t101))) else((Xt.f a0).bind fun t102=>(some t102)))) else(if a0 ≥ 65 then(if a0≤90 then(some true) else((Xt.f a0).bind fun t103=>(some t103))) else((Xt.f a0).bind fun t104=>(some t104)))))=some r:=h
 clear h;by_cases c2:a0=95
 ·rw [if_pos c2] at H;have c2b0:(a0==95)=true:=beq_iff_eq.mpr c2;clear c2;obtain rfl:=Option.some.inj H;go_enter Tryd.func68,Tryd.ntmps68;go_wp2;go_ret;exact⟨by rfl,by repeat(exact Qk.refl _)⟩
 rw [if_neg c2] at H;have c2b0:(a0==95)=false:=beq_eq_false_iff_ne.mpr c2;by_cases c3:a0 ≥ 97
 rotate_left
 ·rw [if_neg c3] at H;have c3b0:decide (97≤a0)=false:=decide_eq_false c3;clear c3;by_cases c9:a0 ≥ 65
  rotate_left
  ·rw [if_neg c9] at H;have c9b0:decide (65≤a0)=false:=decide_eq_false c9;clear c9;replace H:=Option.bind_eq_some_iff.mp H;obtain⟨t104,A120,H⟩ :=H;try dsimp only at H
   have A12:=Qa.mk A120;clear A120;obtain rfl:=Option.some.inj H;go_enter Tryd.func68,Tryd.ntmps68;go_wp2_with((go_at_call 104;(with_reducible refine(Xt.calls a0 t104 _ A12.out).mono ?_);rintro e w' ⟨rfl,⟨nd,rfl⟩⟩));go_ret;exact⟨by rfl,by repeat(first|exact Qk.refl _|apply Qk.step)⟩
  rw [if_pos c9] at H;have c9b0:decide (65≤a0)=true:=decide_eq_true c9;clear c9;by_cases c10:a0≤90
  ·rw [if_pos c10] at H;have c10b0:decide (a0≤90)=true:=decide_eq_true c10;clear c10;obtain rfl:=Option.some.inj H;go_enter Tryd.func68,Tryd.ntmps68;go_wp2;go_ret;exact⟨by rfl,by repeat(exact Qk.refl _)⟩
  rw [if_neg c10] at H;have c10b0:decide (a0≤90)=false:=decide_eq_false c10;clear c10;replace H:=Option.bind_eq_some_iff.mp H;obtain⟨t103,A110,H⟩ :=H;try dsimp only at H
  have A11:=Qa.mk A110;clear A110;obtain rfl:=Option.some.inj H;go_enter Tryd.func68,Tryd.ntmps68;go_wp2_with((go_at_call 104;(with_reducible refine(Xt.calls a0 t103 _ A11.out).mono ?_);rintro e w' ⟨rfl,⟨nd,rfl⟩⟩));go_ret;exact⟨by rfl,by repeat(first|exact Qk.refl _|apply Qk.step)⟩
 rw [if_pos c3] at H;have c3b0:decide (97≤a0)=true:=decide_eq_true c3;clear c3;by_cases c4:a0≤122
 ·rw [if_pos c4] at H;have c4b0:decide (a0≤122)=true:=decide_eq_true c4;clear c4;obtain rfl:=Option.some.inj H;go_enter Tryd.func68,Tryd.ntmps68;go_wp2;go_ret;exact⟨by rfl,by repeat(exact Qk.refl _)⟩
 rw [if_neg c4] at H;have c4b0:decide (a0≤122)=false:=decide_eq_false c4;clear c4;by_cases c5:a0 ≥ 65
 rotate_left
 ·rw [if_neg c5] at H;have c5b0:decide (65≤a0)=false:=decide_eq_false c5;clear c5;replace H:=Option.bind_eq_some_iff.mp H;obtain⟨t102,A80,H⟩ :=H;try dsimp only at H
  have A8:=Qa.mk A80;clear A80;obtain rfl:=Option.some.inj H;go_enter Tryd.func68,Tryd.ntmps68;go_wp2_with((go_at_call 104;(with_reducible refine(Xt.calls a0 t102 _ A8.out).mono ?_);rintro e w' ⟨rfl,⟨nd,rfl⟩⟩));go_ret;exact⟨by rfl,by repeat(first|exact Qk.refl _|apply Qk.step)⟩
 rw [if_pos c5] at H;have c5b0:decide (65≤a0)=true:=decide_eq_true c5;clear c5;by_cases c6:a0≤90
 ·rw [if_pos c6] at H;have c6b0:decide (a0≤90)=true:=decide_eq_true c6;clear c6;obtain rfl:=Option.some.inj H;go_enter Tryd.func68,Tryd.ntmps68;go_wp2;go_ret;exact⟨by rfl,by repeat(exact Qk.refl _)⟩
 rw [if_neg c6] at H;have c6b0:decide (a0≤90)=false:=decide_eq_false c6;clear c6;replace H:=Option.bind_eq_some_iff.mp H;obtain⟨t101,A70,H⟩ :=H;try dsimp only at H
 have A7:=Qa.mk A70;clear A70;obtain rfl:=Option.some.inj H;go_enter Tryd.func68,Tryd.ntmps68;go_wp2_with((go_at_call 104;(with_reducible refine(Xt.calls a0 t101 _ A7.out).mono ?_);rintro e w' ⟨rfl,⟨nd,rfl⟩⟩));go_ret;exact⟨by rfl,by repeat(first|exact Qk.refl _|apply Qk.step)⟩
def Zw.f (a0:ByteArray):Option (Bool):=if a0.toList=([60,60,61]:List UInt8) then(some true) else(if a0.toList=([62,62,61]:List UInt8) then(some true) else(if a0.toList=([60,60]:List UInt8) then(some true) else(if a0.toList=([62,62]:List UInt8) then(some true) else(if a0.toList=([60,61]:List UInt8) then(some true) else(if a0.toList=([62,61]:List UInt8) then(some true) else(if a0.toList=([61,61]:List UInt8) then(some true) else(if a0.toList=([33,61]:List UInt8) then(some true) else(if a0.toList=([38,38]:List UInt8) then(some true) else(if a0.toList=([124,124]:List UInt8) then(some true) else(if a0.toList=([43,61]:List UInt8) then(some true) else(if a0.toList=([45,61]:List UInt8) then(some true) else(if a0.toList=([42,61]:List UInt8) then(some true) else(if a0.toList=([47,61]:List UInt8) then(some true) else(if a0.toList=([37,61]:List UInt8) then(some true) else(if a0.toList=([38,61]:List UInt8) then(some true) else(if a0.toList=([94,61]:List UInt8) then(some true) else(if a0.toList=([124,61]:List UInt8) then(some true) else(some false))))))))))))))))))
set_option maxHeartbeats 8000000 in
set_option maxRecDepth 100000 in
theorem Zw.calls (a0:ByteArray) (r:Bool) (w:World) (h:Zw.f a0=some r):
 Calls Tryd.prog 69 #[.string a0] w fun e w'=>e=.returned (.bool r)∧Qk w w':=by
 have H:(if a0.toList=([60,60,61]:List UInt8) then(some true) else(if a0.toList=([62,62,61]:List UInt8) then(some true) else(if a0.toList=([60,60]:List UInt8) then(some true) else(if a0.toList=([62,62]:List UInt8) then(some true) else(if a0.toList=([60,61]:List UInt8) then(some true) else(if a0.toList=([62,61]:List UInt8) then(some true) else(if a0.toList=([61,61]:List UInt8) then(some true) else(if a0.toList=([33,61]:List UInt8) then(some true) else(if a0.toList=([38,38]:List UInt8) then(some true) else(if a0.toList=([124,124]:List UInt8) then(some true) else(if a0.toList=([43,61]:List UInt8) then(some true) else(if a0.toList=([45,61]:List UInt8) then(some true) else(if a0.toList=([42,61]:List UInt8) then(some true) else(if a0.toList=([47,61]:List UInt8) then(some true) else(if a0.toList=([37,61]:List UInt8) then(some true) else(if a0.toList=([38,61]:List UInt8) then(some true) else(if a0.toList=([94,61]:List UInt8) then(some true) else(if a0.toList=([124,61]:List UInt8) then(some true) else(some false)))))))))))))))))))=some r:=h;clear h;by_cases c2:a0.toList=([60,60,61]:List UInt8)
 ·rw [if_pos c2] at H;have c2b0:(a0.toList==([60,60,61]:List UInt8))=true:=beq_iff_eq.mpr c2;clear c2;obtain rfl:=Option.some.inj H;go_enter Tryd.func69,Tryd.ntmps69;go_wp2;go_ret;exact⟨by rfl,by repeat(exact Qk.refl _)⟩
 rw [if_neg c2] at H;have c2b0:(a0.toList==([60,60,61]:List UInt8))=false:=beq_eq_false_iff_ne.mpr c2;by_cases c3:a0.toList=([62,62,61]:List UInt8)
 ·rw [if_pos c3] at H;have c3b0:(a0.toList==([62,62,61]:List UInt8))=true:=beq_iff_eq.mpr c3;clear c3;obtain rfl:=Option.some.inj H;go_enter Tryd.func69,Tryd.ntmps69;go_wp2;go_ret;exact⟨by rfl,by repeat(exact Qk.refl _)⟩
 rw [if_neg c3] at H;have c3b0:(a0.toList==([62,62,61]:List UInt8))=false:=beq_eq_false_iff_ne.mpr c3;by_cases c4:a0.toList=([60,60]:List UInt8)
 ·rw [if_pos c4] at H;have c4b0:(a0.toList==([60,60]:List UInt8))=true:=beq_iff_eq.mpr c4;clear c4;obtain rfl:=Option.some.inj H;go_enter Tryd.func69,Tryd.ntmps69;go_wp2;go_ret;exact⟨by rfl,by repeat(exact Qk.refl _)⟩
 rw [if_neg c4] at H;have c4b0:(a0.toList==([60,60]:List UInt8))=false:=beq_eq_false_iff_ne.mpr c4;by_cases c5:a0.toList=([62,62]:List UInt8)
 ·rw [if_pos c5] at H;have c5b0:(a0.toList==([62,62]:List UInt8))=true:=beq_iff_eq.mpr c5;clear c5;obtain rfl:=Option.some.inj H;go_enter Tryd.func69,Tryd.ntmps69;go_wp2;go_ret;exact⟨by rfl,by repeat(exact Qk.refl _)⟩
 rw [if_neg c5] at H;have c5b0:(a0.toList==([62,62]:List UInt8))=false:=beq_eq_false_iff_ne.mpr c5;by_cases c6:a0.toList=([60,61]:List UInt8)
 ·rw [if_pos c6] at H;have c6b0:(a0.toList==([60,61]:List UInt8))=true:=beq_iff_eq.mpr c6;clear c6;obtain rfl:=Option.some.inj H;go_enter Tryd.func69,Tryd.ntmps69;go_wp2;go_ret;exact⟨by rfl,by repeat(exact Qk.refl _)⟩
 rw [if_neg c6] at H;have c6b0:(a0.toList==([60,61]:List UInt8))=false:=beq_eq_false_iff_ne.mpr c6;by_cases c7:a0.toList=([62,61]:List UInt8)
 ·rw [if_pos c7] at H;have c7b0:(a0.toList==([62,61]:List UInt8))=true:=beq_iff_eq.mpr c7;clear c7;obtain rfl:=Option.some.inj H;go_enter Tryd.func69,Tryd.ntmps69;go_wp2;go_ret;exact⟨by rfl,by repeat(exact Qk.refl _)⟩
 rw [if_neg c7] at H;have c7b0:(a0.toList==([62,61]:List UInt8))=false:=beq_eq_false_iff_ne.mpr c7;by_cases c8:a0.toList=([61,61]:List UInt8)
 ·rw [if_pos c8] at H;have c8b0:(a0.toList==([61,61]:List UInt8))=true:=beq_iff_eq.mpr c8;clear c8;obtain rfl:=Option.some.inj H;go_enter Tryd.func69,Tryd.ntmps69;go_wp2;go_ret;exact⟨by rfl,by repeat(exact Qk.refl _)⟩
 rw [if_neg c8] at H;have c8b0:(a0.toList==([61,61]:List UInt8))=false:=beq_eq_false_iff_ne.mpr c8;by_cases c9:a0.toList=([33,61]:List UInt8)
 ·rw [if_pos c9] at H;have c9b0:(a0.toList==([33,61]:List UInt8))=true:=beq_iff_eq.mpr c9;clear c9;obtain rfl:=Option.some.inj H;go_enter Tryd.func69,Tryd.ntmps69;go_wp2;go_ret;exact⟨by rfl,by repeat(exact Qk.refl _)⟩
 rw [if_neg c9] at H;have c9b0:(a0.toList==([33,61]:List UInt8))=false:=beq_eq_false_iff_ne.mpr c9;by_cases c10:a0.toList=([38,38]:List UInt8)
 ·rw [if_pos c10] at H;have c10b0:(a0.toList==([38,38]:List UInt8))=true:=beq_iff_eq.mpr c10;clear c10;obtain rfl:=Option.some.inj H;go_enter Tryd.func69,Tryd.ntmps69;go_wp2;go_ret;exact⟨by rfl,by repeat(exact Qk.refl _)⟩
 rw [if_neg c10] at H;have c10b0:(a0.toList==([38,38]:List UInt8))=false:=beq_eq_false_iff_ne.mpr c10;by_cases c11:a0.toList=([124,124]:List UInt8)
 ·rw [if_pos c11] at H;have c11b0:(a0.toList==([124,124]:List UInt8))=true:=beq_iff_eq.mpr c11;clear c11;obtain rfl:=Option.some.inj H;go_enter Tryd.func69,Tryd.ntmps69;go_wp2;go_ret;exact⟨by rfl,by repeat(exact Qk.refl _)⟩
 rw [if_neg c11] at H;have c11b0:(a0.toList==([124,124]:List UInt8))=false:=beq_eq_false_iff_ne.mpr c11;by_cases c12:a0.toList=([43,61]:List UInt8)
 ·rw [if_pos c12] at H;have c12b0:(a0.toList==([43,61]:List UInt8))=true:=beq_iff_eq.mpr c12;clear c12;obtain rfl:=Option.some.inj H;go_enter Tryd.func69,Tryd.ntmps69;go_wp2;go_ret;exact⟨by rfl,by repeat(exact Qk.refl _)⟩
 rw [if_neg c12] at H;have c12b0:(a0.toList==([43,61]:List UInt8))=false:=beq_eq_false_iff_ne.mpr c12;by_cases c13:a0.toList=([45,61]:List UInt8)
 ·rw [if_pos c13] at H;have c13b0:(a0.toList==([45,61]:List UInt8))=true:=beq_iff_eq.mpr c13;clear c13;obtain rfl:=Option.some.inj H;go_enter Tryd.func69,Tryd.ntmps69;go_wp2;go_ret;exact⟨by rfl,by repeat(exact Qk.refl _)⟩
 rw [if_neg c13] at H;have c13b0:(a0.toList==([45,61]:List UInt8))=false:=beq_eq_false_iff_ne.mpr c13;by_cases c14:a0.toList=([42,61]:List UInt8)
 ·rw [if_pos c14] at H;have c14b0:(a0.toList==([42,61]:List UInt8))=true:=beq_iff_eq.mpr c14;clear c14;obtain rfl:=Option.some.inj H;go_enter Tryd.func69,Tryd.ntmps69;go_wp2;go_ret;exact⟨by rfl,by repeat(exact Qk.refl _)⟩
 rw [if_neg c14] at H;have c14b0:(a0.toList==([42,61]:List UInt8))=false:=beq_eq_false_iff_ne.mpr c14;by_cases c15:a0.toList=([47,61]:List UInt8)
 ·rw [if_pos c15] at H;have c15b0:(a0.toList==([47,61]:List UInt8))=true:=beq_iff_eq.mpr c15;clear c15;obtain rfl:=Option.some.inj H;go_enter Tryd.func69,Tryd.ntmps69;go_wp2;go_ret;exact⟨by rfl,by repeat(exact Qk.refl _)⟩
 rw [if_neg c15] at H;have c15b0:(a0.toList==([47,61]:List UInt8))=false:=beq_eq_false_iff_ne.mpr c15;by_cases c16:a0.toList=([37,61]:List UInt8)
 ·rw [if_pos c16] at H;have c16b0:(a0.toList==([37,61]:List UInt8))=true:=beq_iff_eq.mpr c16;clear c16;obtain rfl:=Option.some.inj H;go_enter Tryd.func69,Tryd.ntmps69;go_wp2;go_ret;exact⟨by rfl,by repeat(exact Qk.refl _)⟩
 rw [if_neg c16] at H;have c16b0:(a0.toList==([37,61]:List UInt8))=false:=beq_eq_false_iff_ne.mpr c16;by_cases c17:a0.toList=([38,61]:List UInt8)
 ·rw [if_pos c17] at H;have c17b0:(a0.toList==([38,61]:List UInt8))=true:=beq_iff_eq.mpr c17;clear c17;obtain rfl:=Option.some.inj H;go_enter Tryd.func69,Tryd.ntmps69;go_wp2;go_ret;exact⟨by rfl,by repeat(exact Qk.refl _)⟩
 rw [if_neg c17] at H;have c17b0:(a0.toList==([38,61]:List UInt8))=false:=beq_eq_false_iff_ne.mpr c17;by_cases c18:a0.toList=([94,61]:List UInt8)
 ·rw [if_pos c18] at H;have c18b0:(a0.toList==([94,61]:List UInt8))=true:=beq_iff_eq.mpr c18;clear c18;obtain rfl:=Option.some.inj H;go_enter Tryd.func69,Tryd.ntmps69;go_wp2;go_ret;exact⟨by rfl,by repeat(exact Qk.refl _)⟩
 rw [if_neg c18] at H;have c18b0:(a0.toList==([94,61]:List UInt8))=false:=beq_eq_false_iff_ne.mpr c18;by_cases c19:a0.toList=([124,61]:List UInt8)
 rotate_left
 ·rw [if_neg c19] at H;have c19b0:(a0.toList==([124,61]:List UInt8))=false:=beq_eq_false_iff_ne.mpr c19;obtain rfl:=Option.some.inj H;go_enter Tryd.func69,Tryd.ntmps69;go_wp2;go_ret;exact⟨by rfl,by repeat(exact Qk.refl _)⟩
 rw [if_pos c19] at H;have c19b0:(a0.toList==([124,61]:List UInt8))=true:=beq_iff_eq.mpr c19;clear c19;obtain rfl:=Option.some.inj H;go_enter Tryd.func69,Tryd.ntmps69;go_wp2;go_ret;exact⟨by rfl,by repeat(exact Qk.refl _)⟩
def Xy.f (a0:ByteArray):Option (Int×Int):=if a0.toList=([124,124]:List UInt8) then(some (24,3)) else(if a0.toList=([38,38]:List UInt8) then(some (23,4)) else(if a0.toList=([124]:List UInt8) then(some (22,5)) else(if a0.toList=([94]:List UInt8) then(some (21,6)) else(if a0.toList=([38]:List UInt8) then(some (20,7)) else(if a0.toList=([61,61]:List UInt8) then(some (18,8)) else(if a0.toList=([33,61]:List UInt8) then(some (19,8)) else(if a0.toList=([60]:List UInt8) then(some (14,9)) else(if a0.toList=([62]:List UInt8) then(some (15,9)) else(if a0.toList=([60,61]:List UInt8) then(some (16,9)) else(if a0.toList=([62,61]:List UInt8) then(some (17,9)) else(if a0.toList=([60,60]:List UInt8) then(some (12,10)) else(if a0.toList=([62,62]:List UInt8) then(some (13,10)) else(if a0.toList=([43]:List UInt8) then(some (10,11)) else(if a0.toList=([45]:List UInt8) then(some (11,11)) else(if a0.toList=([42]:List UInt8) then(some (7,12)) else(if a0.toList=([47]:List UInt8) then(some (8,12)) else(if a0.toList=([37]:List UInt8) then(some (9,12)) else(some (0,0)))))))))))))))))))
set_option maxHeartbeats 8000000 in
set_option maxRecDepth 100000 in
theorem Xy.calls (a0:ByteArray) (r1:Int) (r2:Int) (w:World) (h:Xy.f a0=some (r1,r2)):
 Calls Tryd.prog 107 #[.string a0] w fun e w'=>e=.returned (.tuple #[.int .i64 r1,.int .i64 r2])∧Qk w w':=by
 have H:(if a0.toList=([124,124]:List UInt8) then(some (24,3)) else(if a0.toList=([38,38]:List UInt8) then(some (23,4)) else(if a0.toList=([124]:List UInt8) then(some (22,5)) else(if a0.toList=([94]:List UInt8) then(some (21,6)) else(if a0.toList=([38]:List UInt8) then(some (20,7)) else(if a0.toList=([61,61]:List UInt8) then(some (18,8)) else(if a0.toList=([33,61]:List UInt8) then(some (19,8)) else(if a0.toList=([60]:List UInt8) then(some (14,9)) else(if a0.toList=([62]:List UInt8) then(some (15,9)) else(if a0.toList=([60,61]:List UInt8) then(some (16,9)) else(if a0.toList=([62,61]:List UInt8) then(some (17,9)) else(if a0.toList=([60,60]:List UInt8) then(some (12,10)) else(if a0.toList=([62,62]:List UInt8) then(some (13,10)) else(if a0.toList=([43]:List UInt8) then(some (10,11)) else(if a0.toList=([45]:List UInt8) then(some (11,11)) else(if a0.toList=([42]:List UInt8) then(some (7,12)) else(if a0.toList=([47]:List UInt8) then(some (8,12)) else(if a0.toList=([37]:List UInt8) then(some (9,12)) else(some (0,0))))))))))))))))))))=some (r1,r2):=h;clear h;by_cases c2:a0.toList=([124,124]:List UInt8)
 ·rw [if_pos c2] at H;have c2b0:(a0.toList==([124,124]:List UInt8))=true:=beq_iff_eq.mpr c2;clear c2;simp only [Option.some.injEq,Prod.mk.injEq] at H;obtain⟨rfl,rfl⟩ :=H;go_enter Tryd.func107,Tryd.ntmps107;go_wp2;go_ret2;exact⟨by rfl,by repeat(exact Qk.refl _)⟩
 rw [if_neg c2] at H;have c2b0:(a0.toList==([124,124]:List UInt8))=false:=beq_eq_false_iff_ne.mpr c2;by_cases c3:a0.toList=([38,38]:List UInt8)
 ·rw [if_pos c3] at H;have c3b0:(a0.toList==([38,38]:List UInt8))=true:=beq_iff_eq.mpr c3;clear c3;simp only [Option.some.injEq,Prod.mk.injEq] at H;obtain⟨rfl,rfl⟩ :=H;go_enter Tryd.func107,Tryd.ntmps107;go_wp2;go_ret2;exact⟨by rfl,by repeat(exact Qk.refl _)⟩
 rw [if_neg c3] at H;have c3b0:(a0.toList==([38,38]:List UInt8))=false:=beq_eq_false_iff_ne.mpr c3;by_cases c4:a0.toList=([124]:List UInt8)
 ·rw [if_pos c4] at H;have c4b0:(a0.toList==([124]:List UInt8))=true:=beq_iff_eq.mpr c4;clear c4;simp only [Option.some.injEq,Prod.mk.injEq] at H;obtain⟨rfl,rfl⟩ :=H;go_enter Tryd.func107,Tryd.ntmps107;go_wp2;go_ret2;exact⟨by rfl,by repeat(exact Qk.refl _)⟩
 rw [if_neg c4] at H;have c4b0:(a0.toList==([124]:List UInt8))=false:=beq_eq_false_iff_ne.mpr c4;by_cases c5:a0.toList=([94]:List UInt8)
 ·rw [if_pos c5] at H;have c5b0:(a0.toList==([94]:List UInt8))=true:=beq_iff_eq.mpr c5;clear c5;simp only [Option.some.injEq,Prod.mk.injEq] at H;obtain⟨rfl,rfl⟩ :=H;go_enter Tryd.func107,Tryd.ntmps107;go_wp2;go_ret2;exact⟨by rfl,by repeat(exact Qk.refl _)⟩
 rw [if_neg c5] at H;have c5b0:(a0.toList==([94]:List UInt8))=false:=beq_eq_false_iff_ne.mpr c5;by_cases c6:a0.toList=([38]:List UInt8)
 ·rw [if_pos c6] at H;have c6b0:(a0.toList==([38]:List UInt8))=true:=beq_iff_eq.mpr c6;clear c6;simp only [Option.some.injEq,Prod.mk.injEq] at H;obtain⟨rfl,rfl⟩ :=H;go_enter Tryd.func107,Tryd.ntmps107;go_wp2;go_ret2;exact⟨by rfl,by repeat(exact Qk.refl _)⟩
 rw [if_neg c6] at H;have c6b0:(a0.toList==([38]:List UInt8))=false:=beq_eq_false_iff_ne.mpr c6;by_cases c7:a0.toList=([61,61]:List UInt8)
 ·rw [if_pos c7] at H;have c7b0:(a0.toList==([61,61]:List UInt8))=true:=beq_iff_eq.mpr c7;clear c7;simp only [Option.some.injEq,Prod.mk.injEq] at H;obtain⟨rfl,rfl⟩ :=H;go_enter Tryd.func107,Tryd.ntmps107;go_wp2;go_ret2;exact⟨by rfl,by repeat(exact Qk.refl _)⟩
 rw [if_neg c7] at H;have c7b0:(a0.toList==([61,61]:List UInt8))=false:=beq_eq_false_iff_ne.mpr c7;by_cases c8:a0.toList=([33,61]:List UInt8)
 ·rw [if_pos c8] at H;have c8b0:(a0.toList==([33,61]:List UInt8))=true:=beq_iff_eq.mpr c8;clear c8;simp only [Option.some.injEq,Prod.mk.injEq] at H;obtain⟨rfl,rfl⟩ :=H;go_enter Tryd.func107,Tryd.ntmps107;go_wp2;go_ret2;exact⟨by rfl,by repeat(exact Qk.refl _)⟩
 rw [if_neg c8] at H;have c8b0:(a0.toList==([33,61]:List UInt8))=false:=beq_eq_false_iff_ne.mpr c8;by_cases c9:a0.toList=([60]:List UInt8)
 ·rw [if_pos c9] at H;have c9b0:(a0.toList==([60]:List UInt8))=true:=beq_iff_eq.mpr c9;clear c9;simp only [Option.some.injEq,Prod.mk.injEq] at H;obtain⟨rfl,rfl⟩ :=H;go_enter Tryd.func107,Tryd.ntmps107;go_wp2;go_ret2;exact⟨by rfl,by repeat(exact Qk.refl _)⟩
 rw [if_neg c9] at H;have c9b0:(a0.toList==([60]:List UInt8))=false:=beq_eq_false_iff_ne.mpr c9;by_cases c10:a0.toList=([62]:List UInt8)
 ·rw [if_pos c10] at H;have c10b0:(a0.toList==([62]:List UInt8))=true:=beq_iff_eq.mpr c10;clear c10;simp only [Option.some.injEq,Prod.mk.injEq] at H;obtain⟨rfl,rfl⟩ :=H;go_enter Tryd.func107,Tryd.ntmps107;go_wp2;go_ret2;exact⟨by rfl,by repeat(exact Qk.refl _)⟩
 rw [if_neg c10] at H;have c10b0:(a0.toList==([62]:List UInt8))=false:=beq_eq_false_iff_ne.mpr c10;by_cases c11:a0.toList=([60,61]:List UInt8)
 ·rw [if_pos c11] at H;have c11b0:(a0.toList==([60,61]:List UInt8))=true:=beq_iff_eq.mpr c11;clear c11;simp only [Option.some.injEq,Prod.mk.injEq] at H;obtain⟨rfl,rfl⟩ :=H;go_enter Tryd.func107,Tryd.ntmps107;go_wp2;go_ret2;exact⟨by rfl,by repeat(exact Qk.refl _)⟩
 rw [if_neg c11] at H;have c11b0:(a0.toList==([60,61]:List UInt8))=false:=beq_eq_false_iff_ne.mpr c11;by_cases c12:a0.toList=([62,61]:List UInt8)
 ·rw [if_pos c12] at H;have c12b0:(a0.toList==([62,61]:List UInt8))=true:=beq_iff_eq.mpr c12;clear c12;simp only [Option.some.injEq,Prod.mk.injEq] at H;obtain⟨rfl,rfl⟩ :=H;go_enter Tryd.func107,Tryd.ntmps107;go_wp2;go_ret2;exact⟨by rfl,by repeat(exact Qk.refl _)⟩
 rw [if_neg c12] at H;have c12b0:(a0.toList==([62,61]:List UInt8))=false:=beq_eq_false_iff_ne.mpr c12;by_cases c13:a0.toList=([60,60]:List UInt8)
 ·rw [if_pos c13] at H;have c13b0:(a0.toList==([60,60]:List UInt8))=true:=beq_iff_eq.mpr c13;clear c13;simp only [Option.some.injEq,Prod.mk.injEq] at H;obtain⟨rfl,rfl⟩ :=H;go_enter Tryd.func107,Tryd.ntmps107;go_wp2;go_ret2;exact⟨by rfl,by repeat(exact Qk.refl _)⟩
 rw [if_neg c13] at H;have c13b0:(a0.toList==([60,60]:List UInt8))=false:=beq_eq_false_iff_ne.mpr c13;by_cases c14:a0.toList=([62,62]:List UInt8)
 ·rw [if_pos c14] at H;have c14b0:(a0.toList==([62,62]:List UInt8))=true:=beq_iff_eq.mpr c14;clear c14;simp only [Option.some.injEq,Prod.mk.injEq] at H;obtain⟨rfl,rfl⟩ :=H;go_enter Tryd.func107,Tryd.ntmps107;go_wp2;go_ret2;exact⟨by rfl,by repeat(exact Qk.refl _)⟩
 rw [if_neg c14] at H;have c14b0:(a0.toList==([62,62]:List UInt8))=false:=beq_eq_false_iff_ne.mpr c14;by_cases c15:a0.toList=([43]:List UInt8)
 ·rw [if_pos c15] at H;have c15b0:(a0.toList==([43]:List UInt8))=true:=beq_iff_eq.mpr c15;clear c15;simp only [Option.some.injEq,Prod.mk.injEq] at H;obtain⟨rfl,rfl⟩ :=H;go_enter Tryd.func107,Tryd.ntmps107;go_wp2;go_ret2;exact⟨by rfl,by repeat(exact Qk.refl _)⟩
 rw [if_neg c15] at H;have c15b0:(a0.toList==([43]:List UInt8))=false:=beq_eq_false_iff_ne.mpr c15;by_cases c16:a0.toList=([45]:List UInt8)
 ·rw [if_pos c16] at H;have c16b0:(a0.toList==([45]:List UInt8))=true:=beq_iff_eq.mpr c16;clear c16;simp only [Option.some.injEq,Prod.mk.injEq] at H;obtain⟨rfl,rfl⟩ :=H;go_enter Tryd.func107,Tryd.ntmps107;go_wp2;go_ret2;exact⟨by rfl,by repeat(exact Qk.refl _)⟩
 rw [if_neg c16] at H;have c16b0:(a0.toList==([45]:List UInt8))=false:=beq_eq_false_iff_ne.mpr c16;by_cases c17:a0.toList=([42]:List UInt8)
 ·rw [if_pos c17] at H;have c17b0:(a0.toList==([42]:List UInt8))=true:=beq_iff_eq.mpr c17;clear c17;simp only [Option.some.injEq,Prod.mk.injEq] at H;obtain⟨rfl,rfl⟩ :=H;go_enter Tryd.func107,Tryd.ntmps107;go_wp2;go_ret2;exact⟨by rfl,by repeat(exact Qk.refl _)⟩
 rw [if_neg c17] at H;have c17b0:(a0.toList==([42]:List UInt8))=false:=beq_eq_false_iff_ne.mpr c17;by_cases c18:a0.toList=([47]:List UInt8)
 ·rw [if_pos c18] at H;have c18b0:(a0.toList==([47]:List UInt8))=true:=beq_iff_eq.mpr c18;clear c18;simp only [Option.some.injEq,Prod.mk.injEq] at H;obtain⟨rfl,rfl⟩ :=H;go_enter Tryd.func107,Tryd.ntmps107;go_wp2;go_ret2;exact⟨by rfl,by repeat(exact Qk.refl _)⟩
 rw [if_neg c18] at H;have c18b0:(a0.toList==([47]:List UInt8))=false:=beq_eq_false_iff_ne.mpr c18;by_cases c19:a0.toList=([37]:List UInt8)
 rotate_left
 ·rw [if_neg c19] at H;have c19b0:(a0.toList==([37]:List UInt8))=false:=beq_eq_false_iff_ne.mpr c19;simp only [Option.some.injEq,Prod.mk.injEq] at H;obtain⟨rfl,rfl⟩ :=H;go_enter Tryd.func107,Tryd.ntmps107;go_wp2;go_ret2;exact⟨by rfl,by repeat(exact Qk.refl _)⟩
 rw [if_pos c19] at H;have c19b0:(a0.toList==([37]:List UInt8))=true:=beq_iff_eq.mpr c19;clear c19;simp only [Option.some.injEq,Prod.mk.injEq] at H;obtain⟨rfl,rfl⟩ :=H;go_enter Tryd.func107,Tryd.ntmps107;go_wp2;go_ret2;exact⟨by rfl,by repeat(exact Qk.refl _)⟩
def Zy.f (a0:Int):Option (Bool):=if a0 ≥ 97 then(if a0≤122 then(some true) else(if a0 ≥ 65 then(some (decide (a0≤90))) else(some false))) else(if a0 ≥ 65 then(some (decide (a0≤90))) else(some false))
set_option maxHeartbeats 8000000 in
set_option maxRecDepth 100000 in
theorem Zy.calls (a0:Int) (r:Bool) (w:World) (h:Zy.f a0=some r):
 Calls Tryd.prog 127 #[.int .i32 a0] w fun e w'=>e=.returned (.bool r)∧Qk w w':=by
 have H:(if a0 ≥ 97 then(if a0≤122 then(some true) else(if a0 ≥ 65 then(some (decide (a0≤90))) else(some false))) else(if a0 ≥ 65 then(some (decide (a0≤90))) else(some false)))=some r:=h;clear h;by_cases c2:a0 ≥ 97
 rotate_left
 ·rw [if_neg c2] at H;have c2b0:decide (97≤a0)=false:=decide_eq_false c2;clear c2;by_cases c5:a0 ≥ 65
  ·rw [if_pos c5] at H;have c5b0:decide (65≤a0)=true:=decide_eq_true c5;clear c5;obtain rfl:=Option.some.inj H;go_enter Tryd.func127,Tryd.ntmps127;go_wp2;go_ret;exact⟨by rfl,by repeat(exact Qk.refl _)⟩
  rw [if_neg c5] at H;have c5b0:decide (65≤a0)=false:=decide_eq_false c5;clear c5;obtain rfl:=Option.some.inj H;go_enter Tryd.func127,Tryd.ntmps127;go_wp2;go_ret;exact⟨by rfl,by repeat(exact Qk.refl _)⟩
 rw [if_pos c2] at H;have c2b0:decide (97≤a0)=true:=decide_eq_true c2;clear c2;by_cases c3:a0≤122
 ·rw [if_pos c3] at H;have c3b0:decide (a0≤122)=true:=decide_eq_true c3;clear c3;obtain rfl:=Option.some.inj H;go_enter Tryd.func127,Tryd.ntmps127;go_wp2;go_ret;exact⟨by rfl,by repeat(exact Qk.refl _)⟩
 rw [if_neg c3] at H;have c3b0:decide (a0≤122)=false:=decide_eq_false c3;clear c3;by_cases c4:a0 ≥ 65
 ·rw [if_pos c4] at H;have c4b0:decide (65≤a0)=true:=decide_eq_true c4;clear c4;obtain rfl:=Option.some.inj H;go_enter Tryd.func127,Tryd.ntmps127;go_wp2;go_ret;exact⟨by rfl,by repeat(exact Qk.refl _)⟩
 rw [if_neg c4] at H;have c4b0:decide (65≤a0)=false:=decide_eq_false c4;clear c4;obtain rfl:=Option.some.inj H;go_enter Tryd.func127,Tryd.ntmps127;go_wp2;go_ret;exact⟨by rfl,by repeat(exact Qk.refl _)⟩
def Z8.f (a0:Int):Option (Bool):=if a0 ≥ 48 then(some (decide (a0≤57))) else(some false)
set_option maxHeartbeats 8000000 in
set_option maxRecDepth 100000 in
theorem Z8.calls (a0:Int) (r:Bool) (w:World) (h:Z8.f a0=some r):
 Calls Tryd.prog 128 #[.int .i32 a0] w fun e w'=>e=.returned (.bool r)∧Qk w w':=by
 have H:(if a0 ≥ 48 then(some (decide (a0≤57))) else(some false))=some r:=h;clear h;by_cases c2:a0 ≥ 48
 ·rw [if_pos c2] at H;have c2b0:decide (48≤a0)=true:=decide_eq_true c2;clear c2;obtain rfl:=Option.some.inj H;go_enter Tryd.func128,Tryd.ntmps128;go_wp2;go_ret;exact⟨by rfl,by repeat(exact Qk.refl _)⟩
 rw [if_neg c2] at H;have c2b0:decide (48≤a0)=false:=decide_eq_false c2;clear c2;obtain rfl:=Option.some.inj H;go_enter Tryd.func128,Tryd.ntmps128;go_wp2;go_ret;exact⟨by rfl,by repeat(exact Qk.refl _)⟩
def X7.f (a0:ByteArray):Option (Int):=if a0.toList=([45]:List UInt8) then(some 3) else(if a0.toList=([43]:List UInt8) then(some 4) else(if a0.toList=([33]:List UInt8) then(some 5) else(if a0.toList=([126]:List UInt8) then(some 6) else(some 0))))
set_option maxHeartbeats 8000000 in
set_option maxRecDepth 100000 in
theorem X7.calls (a0:ByteArray) (r:Int) (w:World) (h:X7.f a0=some r):
 Calls Tryd.prog 135 #[.string a0] w fun e w'=>e=.returned (.int .i64 r)∧Qk w w':=by
 have H:(if a0.toList=([45]:List UInt8) then(some 3) else(if a0.toList=([43]:List UInt8) then(some 4) else(if a0.toList=([33]:List UInt8) then(some 5) else(if a0.toList=([126]:List UInt8) then(some 6) else(some 0)))))=some r:=h;clear h;by_cases c2:a0.toList=([45]:List UInt8)
 ·rw [if_pos c2] at H;have c2b0:(a0.toList==([45]:List UInt8))=true:=beq_iff_eq.mpr c2;clear c2;obtain rfl:=Option.some.inj H;go_enter Tryd.func135,Tryd.ntmps135;go_wp2;go_ret;exact⟨by rfl,by repeat(exact Qk.refl _)⟩
 rw [if_neg c2] at H;have c2b0:(a0.toList==([45]:List UInt8))=false:=beq_eq_false_iff_ne.mpr c2;by_cases c3:a0.toList=([43]:List UInt8)
 ·rw [if_pos c3] at H;have c3b0:(a0.toList==([43]:List UInt8))=true:=beq_iff_eq.mpr c3;clear c3;obtain rfl:=Option.some.inj H;go_enter Tryd.func135,Tryd.ntmps135;go_wp2;go_ret;exact⟨by rfl,by repeat(exact Qk.refl _)⟩
 rw [if_neg c3] at H;have c3b0:(a0.toList==([43]:List UInt8))=false:=beq_eq_false_iff_ne.mpr c3;by_cases c4:a0.toList=([33]:List UInt8)
 ·rw [if_pos c4] at H;have c4b0:(a0.toList==([33]:List UInt8))=true:=beq_iff_eq.mpr c4;clear c4;obtain rfl:=Option.some.inj H;go_enter Tryd.func135,Tryd.ntmps135;go_wp2;go_ret;exact⟨by rfl,by repeat(exact Qk.refl _)⟩
 rw [if_neg c4] at H;have c4b0:(a0.toList==([33]:List UInt8))=false:=beq_eq_false_iff_ne.mpr c4;by_cases c5:a0.toList=([126]:List UInt8)
 rotate_left
 ·rw [if_neg c5] at H;have c5b0:(a0.toList==([126]:List UInt8))=false:=beq_eq_false_iff_ne.mpr c5;obtain rfl:=Option.some.inj H;go_enter Tryd.func135,Tryd.ntmps135;go_wp2;go_ret;exact⟨by rfl,by repeat(exact Qk.refl _)⟩
 rw [if_pos c5] at H;have c5b0:(a0.toList==([126]:List UInt8))=true:=beq_iff_eq.mpr c5;clear c5;obtain rfl:=Option.some.inj H;go_enter Tryd.func135,Tryd.ntmps135;go_wp2;go_ret;exact⟨by rfl,by repeat(exact Qk.refl _)⟩
def Xe.j0:Nat→ByteArray→Bool→Option (Int×Bool)
 |0,_,_=>none
 |k+1,x0,x9=>if x9=true then(some (0,false)) else(if 0≤(wrap64 ((x0.size:Int) - 1)) then(if(wrap64 ((x0.size:Int) - 1)) < (x0.size:Int) then(if(bt x0 (wrap64 ((x0.size:Int) - 1)))=61 then(if(wrap64 ((x0.size:Int) - 1))≤(x0.size:Int) then((Xy.f (x0.extract 0 ((wrap64 ((x0.size:Int) - 1)):Int).toNat)).bind fun bt113=>(if bt113.1=23 then(some (bt113.1,false)) else(some (bt113.1,(bt113.1 !=24))))) else(none)) else(some (0,false))) else(none)) else(none))
def Xe.f (k:Nat) (a0:ByteArray):Option (Int×Bool):=if a0.toList=([61]:List UInt8) then(some (0,true)) else(if a0.toList=([61,61]:List UInt8) then(Xe.j0 k a0 (a0.toList==([61,61]:List UInt8))) else(if a0.toList=([33,61]:List UInt8) then(Xe.j0 k a0 (a0.toList==([33,61]:List UInt8))) else(if a0.toList=([60,61]:List UInt8) then(Xe.j0 k a0 (a0.toList==([60,61]:List UInt8))) else(if a0.toList=([62,61]:List UInt8) then(Xe.j0 k a0 (a0.toList==([62,61]:List UInt8))) else(Xe.j0 k a0 (a0.toList==([]:List UInt8)))))))
set_option maxHeartbeats 8000000 in
set_option maxRecDepth 100000 in
theorem Xe.calls (k:Nat) (a0:ByteArray) (r1:Int) (r2:Bool) (w:World) (h:Xe.f k a0=some (r1,r2)):
 Calls Tryd.prog 71 #[.string a0] w fun e w'=>e=.returned (.tuple #[.int .i64 r1,.bool r2])∧Qk w w':=by
 have H:(if a0.toList=([61]:List UInt8) then(some (0,true)) else(if a0.toList=([61,61]:List UInt8) then(Xe.j0 k a0 (a0.toList==([61,61]:List UInt8))) else(if a0.toList=([33,61]:List UInt8) then(Xe.j0 k a0 (a0.toList==([33,61]:List UInt8))) else(if a0.toList=([60,61]:List UInt8) then(Xe.j0 k a0 (a0.toList==([60,61]:List UInt8))) else(if a0.toList=([62,61]:List UInt8) then(Xe.j0 k a0 (a0.toList==([62,61]:List UInt8))) else(Xe.j0 k a0 (a0.toList==([]:List UInt8))))))))=some (r1,r2):=h;clear h;by_cases c2:a0.toList=([61]:List UInt8)
 ·rw [if_pos c2] at H;have c2b0:(a0.toList==([61]:List UInt8))=true:=beq_iff_eq.mpr c2;clear c2;simp only [Option.some.injEq,Prod.mk.injEq] at H;obtain⟨rfl,rfl⟩ :=H;go_enter Tryd.func71,Tryd.ntmps71;go_wp2;go_ret2;exact⟨by rfl,by repeat(exact Qk.refl _)⟩
 rw [if_neg c2] at H;have c2b0:(a0.toList==([61]:List UInt8))=false:=beq_eq_false_iff_ne.mpr c2;have HC3:=Qa.mk H;clear H;go_enter Tryd.func71,Tryd.ntmps71;go_upto_if 9 with (fail)
 go_cut [9] (fun v9 wc=>∃(kq:Nat) (x9_2:Bool),v9=.bool x9_2∧Qa (Xe.j0 kq a0 x9_2=some (r1,r2))∧Qa (kq≤k)∧Qk w wc)
 case first=>
  have H:=HC3.out;clear HC3;by_cases c4:a0.toList=([61,61]:List UInt8)
  ·rw [if_pos c4] at H;have c4b0:(a0.toList==([61,61]:List UInt8))=true:=beq_iff_eq.mpr c4;clear c4;(rw [c4b0]);have H':=Qa.mk H;clear H;go_wp2
   go_meet
   case rel=>exact⟨_,((a0.toList==([61,61]:List UInt8))),(by(simp [*];done)),H',⟨by omega⟩,by repeat(exact Qk.refl _)⟩
  rw [if_neg c4] at H;have c4b0:(a0.toList==([61,61]:List UInt8))=false:=beq_eq_false_iff_ne.mpr c4;(rw [c4b0]);by_cases c5:a0.toList=([33,61]:List UInt8)
  ·rw [if_pos c5] at H;have c5b0:(a0.toList==([33,61]:List UInt8))=true:=beq_iff_eq.mpr c5;clear c5;have H':=Qa.mk H;clear H;go_wp2
   go_meet
   case rel=>exact⟨_,((a0.toList==([33,61]:List UInt8))),(by(simp [*];done)),H',⟨by omega⟩,by repeat(exact Qk.refl _)⟩
  rw [if_neg c5] at H;have c5b0:(a0.toList==([33,61]:List UInt8))=false:=beq_eq_false_iff_ne.mpr c5;by_cases c6:a0.toList=([60,61]:List UInt8)
  ·rw [if_pos c6] at H;have c6b0:(a0.toList==([60,61]:List UInt8))=true:=beq_iff_eq.mpr c6;clear c6;have H':=Qa.mk H;clear H;go_wp2
   go_meet
   case rel=>exact⟨_,((a0.toList==([60,61]:List UInt8))),(by(simp [*];done)),H',⟨by omega⟩,by repeat(exact Qk.refl _)⟩
  rw [if_neg c6] at H;have c6b0:(a0.toList==([60,61]:List UInt8))=false:=beq_eq_false_iff_ne.mpr c6;by_cases c7:a0.toList=([62,61]:List UInt8)
  rotate_left
  ·rw [if_neg c7] at H;have c7b0:(a0.toList==([62,61]:List UInt8))=false:=beq_eq_false_iff_ne.mpr c7;have H':=Qa.mk H;clear H;go_wp2
   go_meet
   case rel=>exact⟨_,((a0.toList==([]:List UInt8))),(by(simp;done)),H',⟨by omega⟩,by repeat(exact Qk.refl _)⟩
  rw [if_pos c7] at H;have c7b0:(a0.toList==([62,61]:List UInt8))=true:=beq_iff_eq.mpr c7;clear c7;have H':=Qa.mk H;clear H;go_wp2
  go_meet
  case rel=>exact⟨_,((a0.toList==([62,61]:List UInt8))),(by(simp [*];done)),H',⟨by omega⟩,by repeat(exact Qk.refl _)⟩
 case rest=>
  clear HC3;(try clear c2);(try clear c2b0);obtain⟨kq,x9_2,rfl,HA,HJ2,⟨mc2,rfl⟩⟩ :=hcut
  cases kq with
  |zero=>exact absurd HA.out (by simp [Xe.j0])
  |succ kj2=>
   have H:=HA.out;clear HA;simp only [Xe.j0] at H;by_cases c8:x9_2=true
   ·subst c8;have H1:(some (0,false))=some (r1,r2):=by rw [if_pos rfl] at H;exact H
    clear H;have H:=H1;clear H1;simp only [Option.some.injEq,Prod.mk.injEq] at H;obtain⟨rfl,rfl⟩ :=H;go_wp2;go_ret2;exact⟨by rfl,by repeat(first|exact Qk.refl _|apply Qk.step)⟩
   replace c8:=Bool.eq_false_iff.mpr c8;subst c8;have H1:(if 0≤(wrap64 ((a0.size:Int) - 1)) then(if(wrap64 ((a0.size:Int) - 1)) < (a0.size:Int) then(if(bt a0 (wrap64 ((a0.size:Int) - 1)))=61 then(if(wrap64 ((a0.size:Int) - 1))≤(a0.size:Int) then((Xy.f (a0.extract 0 ((wrap64 ((a0.size:Int) - 1)):Int).toNat)).bind fun bt113=>(if bt113.1=23 then(some (bt113.1,false)) else(some (bt113.1,(bt113.1 !=24))))) else(none)) else(some (0,false))) else(none)) else(none))=some (r1,r2):=by rw [if_neg (show ¬(false=true) by decide)] at H;exact H
   clear H;have H:=H1;clear H1;obtain⟨ji9,hji9⟩ :∃j_:Int,(wrap64 ((a0.size:Int) - 1))=j_:=⟨_,rfl⟩;replace H:(if 0≤(ji9) then(if(ji9) < (a0.size:Int) then(if(bt a0 (ji9))=61 then(if(ji9)≤(a0.size:Int) then((Xy.f (a0.extract 0 ((ji9):Int).toNat)).bind fun bt113=>(if bt113.1=23 then(some (bt113.1,false)) else(some (bt113.1,(bt113.1 !=24))))) else(none)) else(some (0,false))) else(none)) else(none))=some (r1,r2):=by(rw [hji9] at H;exact H)
   have hji9w:(IntKind.i64.wrap ((a0.size:Int) - 1))=ji9:=(Xc _).trans hji9;by_cases c10:0≤(ji9)
   rotate_left
   ·rw [if_neg c10] at H;exact absurd H (by simp)
   rw [if_pos c10] at H;have c10b0:decide (0≤(ji9))=true:=decide_eq_true c10;clear c10;by_cases c11:(ji9) < (a0.size:Int)
   rotate_left
   ·rw [if_neg c11] at H;exact absurd H (by simp)
   rw [if_pos c11] at H;have c11b0:decide ((ji9) < (a0.size:Int))=true:=decide_eq_true c11;clear c11;by_cases c13:(bt a0 (ji9))=61
   rotate_left
   ·rw [if_neg c13] at H;have c13b1:((bt a0 (ji9)) !=61)=true:=bne_iff_ne.mpr c13;simp only [Option.some.injEq,Prod.mk.injEq] at H;obtain⟨rfl,rfl⟩ :=H;have p12:0≤((ji9):Int):=of_decide_eq_true (by(with_reducible assumption));have q12:(ji9) < (a0.size:Int):=of_decide_eq_true (by(with_reducible assumption));have hx12:=Zp a0 (ji9);replace p12:=eq_true p12;replace q12:=eq_true q12;go_wp2;go_ret2;exact⟨by rfl,by repeat(first|exact Qk.refl _|apply Qk.step)⟩
   rw [if_pos c13] at H;have c13b1:((bt a0 (ji9)) !=61)=false:=bne_eq_false_iff_eq.mpr c13;clear c13;have c14b0:=eq_true (of_decide_eq_true (by(with_reducible assumption)):0≤(ji9));by_cases c15:(ji9)≤(a0.size:Int)
   rotate_left
   ·rw [if_neg c15] at H;exact absurd H (by simp)
   rw [if_pos c15] at H;have c15b0:=eq_true c15;clear c15;replace H:=Option.bind_eq_some_iff.mp H;obtain⟨⟨t113,t114⟩,A160,H⟩ :=H;try dsimp only at H
   have A16:=Qa.mk A160;clear A160;by_cases c17:t113=23
   rotate_left
   ·rw [if_neg c17] at H;have c17b1:(t113 !=23)=true:=bne_iff_ne.mpr c17;simp only [Option.some.injEq,Prod.mk.injEq] at H;obtain⟨rfl,rfl⟩ :=H;have p12:0≤((ji9):Int):=of_decide_eq_true (by(with_reducible assumption));have q12:(ji9) < (a0.size:Int):=of_decide_eq_true (by(with_reducible assumption));have hx12:=Zp a0 (ji9);replace p12:=eq_true p12;replace q12:=eq_true q12;go_wp2_with(((with_reducible refine Qp (f:=107) rfl ?_);refine Xh (some 27) rfl rfl Tryd.func107 (by kernel_rfl) rfl #[.string (a0.extract 0 ((ji9):Int).toNat)] rfl (by(try simp only [List.map_toArray,List.map_cons,List.map_nil]);rfl) ?_;(with_reducible refine(Xy.calls (a0.extract 0 ((ji9):Int).toNat) t113 t114 _ A16.out).mono ?_);rintro e w' ⟨rfl,⟨nd,rfl⟩⟩;refine⟨_,rfl,?_⟩));go_ret2;exact⟨by rfl,by repeat(first|exact Qk.refl _|apply Qk.step)⟩
   rw [if_pos c17] at H;have c17b1:(t113 !=23)=false:=bne_eq_false_iff_eq.mpr c17;clear c17;simp only [Option.some.injEq,Prod.mk.injEq] at H;obtain⟨rfl,rfl⟩ :=H;have p12:0≤((ji9):Int):=of_decide_eq_true (by(with_reducible assumption));have q12:(ji9) < (a0.size:Int):=of_decide_eq_true (by(with_reducible assumption));have hx12:=Zp a0 (ji9);replace p12:=eq_true p12;replace q12:=eq_true q12;go_wp2_with(((with_reducible refine Qp (f:=107) rfl ?_);refine Xh (some 27) rfl rfl Tryd.func107 (by kernel_rfl) rfl #[.string (a0.extract 0 ((ji9):Int).toNat)] rfl (by(try simp only [List.map_toArray,List.map_cons,List.map_nil]);rfl) ?_;(with_reducible refine(Xy.calls (a0.extract 0 ((ji9):Int).toNat) t113 t114 _ A16.out).mono ?_);rintro e w' ⟨rfl,⟨nd,rfl⟩⟩;refine⟨_,rfl,?_⟩));go_ret2;exact⟨by rfl,by repeat(first|exact Qk.refl _|apply Qk.step)⟩
def Zd (w0 W:World) (g:Nat) (f0:ByteArray) (f1:Int) (f2:ByteArray):Prop:=W.heap[g]? =some (.cells #[.string f0,.int .i64 f1,.string f2] 65 (0,0))∧w0.heap.size≤g
theorem Zd.grown {w0 W:World} {g:Nat} {f0:ByteArray} {f1:Int} {f2:ByteArray} {W1:World} {row:Option Nat} (h:Zd w0 W g f0 f1 f2) (hw:W.grownBy W1 row) (hne:some g≠row):Zd w0 W1 g f0 f1 f2:=by
 obtain⟨hb,hg⟩ :=h;exact⟨Fk hb hw hne,hg⟩
theorem Zd.kept {w0 W:World} {g:Nat} {f0:ByteArray} {f1:Int} {f2:ByteArray} {W1:World} {S:Nat→Prop} (h:Zd w0 W g f0 f1 f2) (hk:Kept W W1 S) (hne:¬S g):Zd w0 W1 g f0 f1 f2:=by
 obtain⟨hb,hg⟩ :=h;exact⟨Yh hb hk hne,hg⟩
theorem Zd.below {w0 W:World} {g:Nat} {f0:ByteArray} {f1:Int} {f2:ByteArray} {W1:World} (h:Zd w0 W g f0 f1 f2) (hw:Below W.heap.size W W1):Zd w0 W1 g f0 f1 f2:=h.grown (Y9 hw none) (by simp)
theorem Zd.drewN {w0 W:World} {g:Nat} {f0:ByteArray} {f1:Int} {f2:ByteArray} (h:Zd w0 W g f0 f1 f2) (m:Nat):Zd w0 (W.drewN m) g f0 f1 f2:=h
theorem Zd.drew {w0 W:World} {g:Nat} {f0:ByteArray} {f1:Int} {f2:ByteArray} (h:Zd w0 W g f0 f1 f2):Zd w0 W.drew g f0 f1 f2:=h
theorem Zd.lt {w0 W:World} {g:Nat} {f0:ByteArray} {f1:Int} {f2:ByteArray} (h:Zd w0 W g f0 f1 f2):g < W.heap.size:=by
 obtain⟨hb,hg⟩ :=h;exact Xr hb
theorem Zd.ge {w0 W:World} {g:Nat} {f0:ByteArray} {f1:Int} {f2:ByteArray} (h:Zd w0 W g f0 f1 f2):w0.heap.size≤g:=by
 obtain⟨hb,hg⟩ :=h;exact hg
theorem Xk {W:World} {g:Nat} {f0:ByteArray} {f1:Int} {f2:ByteArray} (h:W.heap[g]? =some (.cells #[.string f0,.int .i64 f1,.string f2] 65 (0,0))):W.cell? ⟨g,0,none⟩=some (.string f0):=(Qb h 0).trans rfl
theorem Xl {W:World} {g:Nat} {f0:ByteArray} {f1:Int} {f2:ByteArray} (h:W.heap[g]? =some (.cells #[.string f0,.int .i64 f1,.string f2] 65 (0,0))):W.cell? ⟨g,1,none⟩=some (.int .i64 f1):=(Qb h 1).trans rfl
theorem Zd.set_1 {w0 W:World} {g:Nat} {f0:ByteArray} {f1:Int} {f2:ByteArray} (h:Zd w0 W g f0 f1 f2) (x:Int):Zd w0 (W.setCell ⟨g,1,none⟩ (.int .i64 x)) g f0 x f2:=by
 obtain⟨hb,hg⟩ :=h;exact⟨by simpa using Je hb 1 (.int .i64 x),hg⟩
theorem Xn {W:World} {g:Nat} {f0:ByteArray} {f1:Int} {f2:ByteArray} (h:W.heap[g]? =some (.cells #[.string f0,.int .i64 f1,.string f2] 65 (0,0))):W.cell? ⟨g,2,none⟩=some (.string f2):=(Qb h 2).trans rfl
theorem Zd.set_2 {w0 W:World} {g:Nat} {f0:ByteArray} {f1:Int} {f2:ByteArray} (h:Zd w0 W g f0 f1 f2) (x:ByteArray):Zd w0 (W.setCell ⟨g,2,none⟩ (.string x)) g f0 f1 x:=by
 obtain⟨hb,hg⟩ :=h;exact⟨by simpa using Je hb 2 (.string x),hg⟩
theorem Zd.new (w0 W:World) (f0:ByteArray) (f1:Int) (f2:ByteArray) (hB:Below w0.heap.size w0 W):Zd w0 (W.alloc (.cells #[.string f0,.int .i64 f1,.string f2] 65)) W.heap.size f0 f1 f2:=⟨by simpa using heap_alloc_new W _,hB.size⟩
def Xz.l0:Nat→Int→ByteArray→Int→ByteArray→Option (Bool×ByteArray×Int×ByteArray)
 |0,_,_,_,_=>none
 |k+1,x5,x1000,x1001,x1002=>if x5 > 0 then(if 0≤(wrap64 (x5 - 1)) then(if(wrap64 (x5 - 1)) < (x1000.size:Int) then(if(bt x1000 (wrap64 (x5 - 1)))=32 then(Xz.l0 k (wrap64 (x5 - 1)) x1000 x1001 x1002) else(if(bt x1000 (wrap64 (x5 - 1)))=9 then(Xz.l0 k (wrap64 (x5 - 1)) x1000 x1001 x1002) else(if(bt x1000 (wrap64 (x5 - 1)))=10 then(Xz.l0 k (wrap64 (x5 - 1)) x1000 x1001 x1002) else(some (((bt x1000 (wrap64 (x5 - 1))) !=41),x1000,x1001,x1002))))) else(none)) else(none)) else(some (false,x1000,x1001,x1002))
def Xz.f (k:Nat) (s0_0:ByteArray) (s0_1:Int) (s0_2:ByteArray) (a1_0:Int) (a1_1:Int) (a1_2:ByteArray) (l1_3:List (S26)):Option (Bool×ByteArray×Int×ByteArray):=Xz.l0 k s0_1 s0_0 s0_1 s0_2
set_option maxHeartbeats 8000000 in
set_option maxRecDepth 100000 in
theorem Xz.calls (k:Nat) (g:Nat) (s0_0:ByteArray) (s0_1:Int) (s0_2:ByteArray) (a1_0:Int) (a1_1:Int) (a1_2:ByteArray) (A1_3:Option Addr) (c1_3:Nat) (l1_3:List (S26)) (r1:Bool) (r2:ByteArray) (r3:Int) (r4:ByteArray) (w0 w:World) (hI:Zd w0 w g s0_0 s0_1 s0_2) (hB:Below w0.heap.size w0 w) (hr1_3:∀W_,Qe w W_ g none→Kd.C k26 W_ A1_3 l1_3.length l1_3) (hc1_3:l1_3.length≤c1_3) (h:Xz.f k s0_0 s0_1 s0_2 a1_0 a1_1 a1_2 l1_3=some (r1,r2,r3,r4)):
 Calls Tryd.prog 72 #[.pointer (some ⟨g,0,none⟩),.agg #[.int .i64 a1_0,.int .i64 a1_1,.string a1_2,.slice A1_3 l1_3.length c1_3]] w fun e w'=>e=.returned (.bool r1)∧Zd w0 w' g r2 r3 r4∧Below w0.heap.size w0 w'∧Qe w w' g none:=by
 clear hr1_3 hc1_3;have HI0:=Qa.mk hI;have HK:=Qa.mk (Qe.refl w g none);clear hI;have HW0:=Qa.mk hB.size;have HB:=Qa.mk hB;clear hB;have H:(Xz.l0 k s0_1 s0_0 s0_1 s0_2)=some (r1,r2,r3,r4):=h;clear h;have H':=Qa.mk H;clear H;go_enter Tryd.func72,Tryd.ntmps72;go_wp2_with(((with_reducible refine Q0 (N:=3) rfl ?_);refine Xm ?hg (N:=3) ?hd (cs:=#[.int .i64 a1_0,.int .i64 a1_1,.string a1_2,.slice A1_3 l1_3.length c1_3]) (t:=26) ?hr ?_;(case hd=>rfl);(case hg=>rfl);(case hr=>(go_simp;done));intro gb115 hg w3 hbox hb;replace HI0:=Qa.mk (Zd.below HI0.out hb);replace HK:=Qa.mk (Qe.trans HK.out (Qe.of_below hb g none) (.inl rfl));replace HB:=Qa.mk (Qr HB.out hb);have BK115:=Qa.mk hbox;clear hb hbox hg;obtain⟨HGz4,hgz4⟩ :=HI0.out;have hcz4_1:=Xl HGz4;clear HGz4 hgz4))
 go_loopg [5] k (fun kq v5 w'=>∃(x5_1:Int),v5=.int .i64 x5_1∧Qa (Xz.l0 kq x5_1 s0_0 s0_1 s0_2=some (r1,r2,r3,r4))∧Qa (kq≤k)∧Qa (w'.heap[gb115]? =some (.cells #[.int .i64 a1_0,.int .i64 a1_1,.string a1_2,(.slice A1_3 l1_3.length c1_3)] 26 (0,0)))∧Qa (Zd w0 w' g s0_0 s0_1 s0_2)∧Qa (Qe w w' g none)∧Qa (Below w0.heap.size w0 w'))
 case atStart=>exact⟨s0_1,(by rfl),H',⟨Nat.le_refl _⟩,⟨BK115.out⟩,⟨HI0.out⟩,⟨HK.out⟩,⟨HB.out⟩⟩
 case round=>
  clear H';(try clear hcz4_1);obtain⟨x5_1,rfl,HA,HK1,BK115,HI0,HK,HB⟩ :=hrel
  cases gk with
  |zero=>exact absurd HA.out (by simp [Xz.l0])
  |succ k1=>
   have H:=HA.out;clear HA;simp only [Xz.l0] at H;by_cases c5:x5_1 > 0
   rotate_left
   ·rw [if_neg c5] at H;have c5b0:decide (0 < x5_1)=false:=decide_eq_false c5;clear c5;simp only [Option.some.injEq,Prod.mk.injEq] at H;obtain⟨rfl,rfl,rfl,rfl⟩ :=H;go_wp2;go_ret;exact⟨by rfl,HI0.out,HB.out,HK.out⟩
   rw [if_pos c5] at H;have c5b0:decide (0 < x5_1)=true:=decide_eq_true c5;clear c5;obtain⟨ji6,hji6⟩ :∃j_:Int,(wrap64 (x5_1 - 1))=j_:=⟨_,rfl⟩;replace H:(if 0≤(ji6) then(if(ji6) < (s0_0.size:Int) then(if(bt s0_0 (ji6))=32 then(Xz.l0 k1 ji6 s0_0 s0_1 s0_2) else(if(bt s0_0 (ji6))=9 then(Xz.l0 k1 ji6 s0_0 s0_1 s0_2) else(if(bt s0_0 (ji6))=10 then(Xz.l0 k1 ji6 s0_0 s0_1 s0_2) else(some (((bt s0_0 (ji6)) !=41),s0_0,s0_1,s0_2))))) else(none)) else(none))=some (r1,r2,r3,r4):=by(rw [hji6] at H;exact H)
   have hji6w:(IntKind.i64.wrap (x5_1 - 1))=ji6:=(Xc _).trans hji6;by_cases c7:0≤(ji6)
   rotate_left
   ·rw [if_neg c7] at H;exact absurd H (by simp)
   rw [if_pos c7] at H;have c7b0:decide (0≤(ji6))=true:=decide_eq_true c7;clear c7;by_cases c8:(ji6) < (s0_0.size:Int)
   rotate_left
   ·rw [if_neg c8] at H;exact absurd H (by simp)
   rw [if_pos c8] at H;have c8b0:decide ((ji6) < (s0_0.size:Int))=true:=decide_eq_true c8;clear c8;by_cases c10:(bt s0_0 (ji6))=32
   ·rw [if_pos c10] at H;have c10b0:((bt s0_0 (ji6))==32)=true:=beq_iff_eq.mpr c10;clear c10;have H':=Qa.mk H;clear H;obtain⟨HGz11,hgz11⟩ :=HI0.out;have hcz11_0:=Xk HGz11;clear HGz11 hgz11;have p9:0≤((ji6):Int):=of_decide_eq_true (by(with_reducible assumption));have q9:(ji6) < (s0_0.size:Int):=of_decide_eq_true (by(with_reducible assumption));have hx9:=Zp s0_0 (ji6);replace p9:=eq_true p9;replace q9:=eq_true q9;go_wp2
    go_roundg k1
    case measure=>have:=HK1.out;omega
    case rel=>exact⟨ji6,(by rfl),H',⟨by have:=HK1.out;omega⟩,⟨BK115.out⟩,⟨HI0.out⟩,⟨HK.out⟩,⟨HB.out⟩⟩
   rw [if_neg c10] at H;have c10b0:((bt s0_0 (ji6))==32)=false:=beq_eq_false_iff_ne.mpr c10;by_cases c13:(bt s0_0 (ji6))=9
   ·rw [if_pos c13] at H;have c13b0:((bt s0_0 (ji6))==9)=true:=beq_iff_eq.mpr c13;clear c13;have H':=Qa.mk H;clear H;obtain⟨HGz14,hgz14⟩ :=HI0.out;have hcz14_0:=Xk HGz14;clear HGz14 hgz14;have p9:0≤((ji6):Int):=of_decide_eq_true (by(with_reducible assumption));have q9:(ji6) < (s0_0.size:Int):=of_decide_eq_true (by(with_reducible assumption));have hx9:=Zp s0_0 (ji6);replace p9:=eq_true p9;replace q9:=eq_true q9;have p12:0≤((ji6):Int):=of_decide_eq_true (by(with_reducible assumption));have q12:(ji6) < (s0_0.size:Int):=of_decide_eq_true (by(with_reducible assumption));replace p12:=eq_true p12;replace q12:=eq_true q12;go_wp2
    go_roundg k1
    case measure=>have:=HK1.out;omega
    case rel=>exact⟨ji6,(by rfl),H',⟨by have:=HK1.out;omega⟩,⟨BK115.out⟩,⟨HI0.out⟩,⟨HK.out⟩,⟨HB.out⟩⟩
   rw [if_neg c13] at H;have c13b0:((bt s0_0 (ji6))==9)=false:=beq_eq_false_iff_ne.mpr c13;by_cases c16:(bt s0_0 (ji6))=10
   ·rw [if_pos c16] at H;have c16b0:((bt s0_0 (ji6))==10)=true:=beq_iff_eq.mpr c16;clear c16;have H':=Qa.mk H;clear H;obtain⟨HGz17,hgz17⟩ :=HI0.out;have hcz17_0:=Xk HGz17;clear HGz17 hgz17;have p9:0≤((ji6):Int):=of_decide_eq_true (by(with_reducible assumption));have q9:(ji6) < (s0_0.size:Int):=of_decide_eq_true (by(with_reducible assumption));have hx9:=Zp s0_0 (ji6);replace p9:=eq_true p9;replace q9:=eq_true q9;have p12:0≤((ji6):Int):=of_decide_eq_true (by(with_reducible assumption));have q12:(ji6) < (s0_0.size:Int):=of_decide_eq_true (by(with_reducible assumption));replace p12:=eq_true p12;replace q12:=eq_true q12;have p15:0≤((ji6):Int):=of_decide_eq_true (by(with_reducible assumption));have q15:(ji6) < (s0_0.size:Int):=of_decide_eq_true (by(with_reducible assumption));replace p15:=eq_true p15;replace q15:=eq_true q15;go_wp2
    go_roundg k1
    case measure=>have:=HK1.out;omega
    case rel=>exact⟨ji6,(by rfl),H',⟨by have:=HK1.out;omega⟩,⟨BK115.out⟩,⟨HI0.out⟩,⟨HK.out⟩,⟨HB.out⟩⟩
   rw [if_neg c16] at H;have c16b0:((bt s0_0 (ji6))==10)=false:=beq_eq_false_iff_ne.mpr c16;simp only [Option.some.injEq,Prod.mk.injEq] at H;obtain⟨rfl,rfl,rfl,rfl⟩ :=H;obtain⟨HGz19,hgz19⟩ :=HI0.out;have hcz19_0:=Xk HGz19;clear HGz19 hgz19;have p9:0≤((ji6):Int):=of_decide_eq_true (by(with_reducible assumption));have q9:(ji6) < (s0_0.size:Int):=of_decide_eq_true (by(with_reducible assumption));have hx9:=Zp s0_0 (ji6);replace p9:=eq_true p9;replace q9:=eq_true q9;have p12:0≤((ji6):Int):=of_decide_eq_true (by(with_reducible assumption));have q12:(ji6) < (s0_0.size:Int):=of_decide_eq_true (by(with_reducible assumption));replace p12:=eq_true p12;replace q12:=eq_true q12;have p15:0≤((ji6):Int):=of_decide_eq_true (by(with_reducible assumption));have q15:(ji6) < (s0_0.size:Int):=of_decide_eq_true (by(with_reducible assumption));replace p15:=eq_true p15;replace q15:=eq_true q15;have p18:0≤((ji6):Int):=of_decide_eq_true (by(with_reducible assumption));have q18:(ji6) < (s0_0.size:Int):=of_decide_eq_true (by(with_reducible assumption));replace p18:=eq_true p18;replace q18:=eq_true q18;go_wp2;go_ret;exact⟨by rfl,HI0.out,HB.out,HK.out⟩
def Wo (b:Int):Bool:=b==32 ||b==9 ||b==10
def V3 (s:ByteArray):Nat→Nat→Nat
 |0,i=>i
 |f+1,i=>if i < s.size∧Wo (bt s i)=true then V3 s f (i+1) else i
def Zn (s:ByteArray) (i:Nat):Nat:=V3 s (s.size - i) i
theorem Ju {s:ByteArray} {i:Nat} (h:i < s.size) (hb:Wo (bt s i)=true):Zn s i=Zn s (i+1):=by
 unfold Zn;obtain⟨f,hf⟩ :∃f,s.size - i=f+1 :=⟨s.size - i - 1,by omega⟩;rw [hf,show s.size - (i+1)=f by omega];simp only [V3];rw [if_pos ⟨h,hb⟩]
theorem Jv {s:ByteArray} {i:Nat} (h:¬(i < s.size∧Wo (bt s i)=true)):Zn s i=i:=by
 unfold Zn
 cases s.size - i with
 |zero=>rfl
 |succ f=>simp only [V3];rw [if_neg h]
theorem Ng (s:ByteArray):∀f i,i≤s.size→i≤V3 s f i∧V3 s f i≤s.size
 |0,i,h=>⟨Nat.le_refl _,h⟩
 |f+1,i,h=>by
  simp only [V3];split
  rotate_left
  ·omega
  rename_i hc
  have:=Ng s f (i+1) (by omega);omega
theorem Wg (s:ByteArray) (i:Nat) (h:i≤s.size):i≤Zn s i∧Zn s i≤s.size:=Ng s _ i h
def V4 (r:ByteArray):Nat→Nat→Nat
 |0,n=>n
 |f+1,n=>if n < r.size∧X1.f (bt r n)=some true then V4 r f (n+1) else n
def Jd (r:ByteArray) (n:Nat):Nat:=V4 r (r.size - n) n
theorem Mk {s:ByteArray} {i:Nat} (h:i < s.size) (hb:X1.f (bt s i)=some true):Jd s i=Jd s (i+1):=by
 unfold Jd;obtain⟨f,hf⟩ :∃f,s.size - i=f+1 :=⟨s.size - i - 1,by omega⟩;rw [hf,show s.size - (i+1)=f by omega];simp only [V4];rw [if_pos ⟨h,hb⟩]
theorem U1 {s:ByteArray} {i:Nat} (h:¬(i < s.size∧X1.f (bt s i)=some true)):Jd s i=i:=by
 unfold Jd
 cases s.size - i with
 |zero=>rfl
 |succ f=>simp only [V4];rw [if_neg h]
theorem U3 (s:ByteArray):∀f i,i≤s.size→i≤V4 s f i∧V4 s f i≤s.size
 |0,i,h=>⟨Nat.le_refl _,h⟩
 |f+1,i,h=>by
  simp only [V4];split
  rotate_left
  ·omega
  rename_i hc
  have:=U3 s f (i+1) (by omega);omega
def opK (r:ByteArray):Nat→Nat→Nat
 |0,n=>n
 |k+1,n=>if n=0 then opK r k (if k=0∨Zw.f (r.extract 0 (k+1))=some true then k+1 else 0) else n
theorem Re (r:ByteArray):∀k n m,k≤m→n≤m→opK r k n≤m
 |0,_,_,_,h=>h
 |k+1,n,m,h1,h2=>by
  simp only [opK];split
  rotate_left
  ·exact h2
  refine Re r k _ m (by omega) ?_;split <;> omega
def Nj (r:ByteArray):Nat:=opK r (min 3 r.size) (Jd r 0)
theorem Uc (r:ByteArray):Nj r≤r.size:=Re r _ _ _ (by omega) (U3 r _ 0 (by omega)).2
def Zb (s:ByteArray) (p:Nat) (tok:ByteArray):Nat:=Zn s (p+tok.size)
def Yb (s:ByteArray) (p:Nat) (tok:ByteArray):ByteArray:=(s.extract (Zb s p tok) s.size).extract 0 (Nj (s.extract (Zb s p tok) s.size))
theorem Jk (c:Int):∃b,X1.f c=some b:=by
 unfold X1.f Xt.f;repeat' split
 all_goals exact⟨_,rfl⟩
theorem L5 {α:Type} {c:Prop} [Decidable c] {x y:Option α} (hx:∃b,x=some b) (hy:∃b,y=some b):∃b,(if c then x else y)=some b:=by
 split
 ·exact hx
 exact hy
theorem U9 (s:ByteArray):∃b,Zw.f s=some b:=by
 unfold Zw.f;repeat' first|exact⟨_,rfl⟩|refine L5 ?_ ?_
theorem V7 (g:Nat) (s tok:ByteArray) (at_ e:Int) (w0 w:World) (hI:Zd w0 w g s at_ tok):
 Calls Tryd.prog 44 #[.pointer (some ⟨g,0,none⟩),.int .i64 e] w fun en w'=>en=.panicked [{v:=.iface 62 (.agg #[.int .i64 at_,.int .i64 e]),recovered:=false}]∧w'=w:=by
 obtain⟨HG,hg⟩ :=hI;have h0:=Xk HG;have h1:=Xl HG;have h2:=Xn HG;clear HG hg;have hu65:=Tryd.underlying65;have hu62:=Tryd.underlying62;go_enter Tryd.func44,Tryd.ntmps44;go_wp2;exact⟨rfl,rfl,rfl⟩
set_option maxRecDepth 100000 in
set_option maxHeartbeats 2000000 in
theorem Zl (g:Nat) (s tok:ByteArray) (p:Nat) (w0 w:World) (hI:Zd w0 w g s p tok) (hB:Below w0.heap.size w0 w) (h1:p+tok.size≤s.size) (h2:s.size≤4096):
 Calls Tryd.prog 42 #[.pointer (some ⟨g,0,none⟩)] w fun en w'=>en=.returned (.tuple #[])∧Zd w0 w' g s (Zb s p tok) (Yb s p tok)∧Below w0.heap.size w0 w'∧Qe w w' g none:=by
 have HI:=Qa.mk hI;have HB:=Qa.mk hB;have HK:=Qa.mk (Qe.refl w g none);have HL:=Qa.mk hB.size;obtain⟨HG,hg⟩ :=hI;have c0:=Xk HG;have c1:=Xl HG;have c2:=Xn HG;have f0:=Qd HG 0;have f1:=Qd HG 1;have f2:=Qd HG 2;clear HG hg hB;have hu65:=Tryd.underlying65;go_enter Tryd.func42,Tryd.ntmps42;go_wp2;go_region;go_upto_block 0 with (fail)
 go_cut [] (fun wc=>∃x:Int,Qa (x=Zb s p tok)∧Qa (Zd w0 wc g s x tok)∧Qa (Qe w wc g none)∧Qa (Below w0.heap.size w0 wc))
 case first=>
  go_wp2
  go_loopg [] s.size (fun kq wr=>∃x:Int,Qa (0≤x∧x≤s.size)∧Qa (s.size - x.toNat≤kq)∧Qa (Zn s x.toNat=Zb s p tok)∧Qa (Zd w0 wr g s x tok)∧Qa (Qe w wr g none)∧Qa (Below w0.heap.size w0 wr))
  case atStart=>
   exact⟨(p:Int)+tok.size,⟨by omega⟩,⟨by omega⟩,⟨by rw [show((p:Int)+tok.size).toNat=p+tok.size by omega];rfl⟩,⟨by have h:=(HI.out.set_1 ((p:Int)+tok.size)).drew;simpa using h⟩,⟨by repeat((with_reducible first|exact HK.out|apply Qe.set_|apply Kk))⟩,⟨by repeat((with_reducible first|exact HB.out|apply Zg|refine Xf ?_ (Zd.ge HI.out)))⟩⟩
  case round=>
   clear HI HB HK c0 c1 c2 f0 f1 f2;obtain⟨x,Hi,Hk,HS,HI,HK,HB⟩ :=hrel;have hp0:(0 :Int)≤x:=Hi.out.1;have hps:x≤4096 :=by have:=Hi.out.2;omega
   have hxn:Qa (((x.toNat:Nat):Int)=x):=⟨by omega⟩;by_cases hlt:x < s.size
   rotate_left
   ·have hn:Qa (¬x < s.size):=⟨hlt⟩;have q0:decide (x < (s.size:Int))=false:=by simpa using hlt
    clear hlt;have HX:Qa (x=Zb s p tok):=⟨by rw [←HS.out,Jv (fun hc=>by have h:=hc.1;have:=hn.out;omega)];exact hxn.out.symm⟩;obtain⟨HG,hg⟩ :=HI.out;have c0:=Xk HG;have c1:=Xl HG;have c2:=Xn HG;have f0:=Qd HG 0;have f1:=Qd HG 1;have f2:=Qd HG 2;clear HG hg;go_wp2;go_quiet (fail);go_wp2
    go_meet
    case rel=>exact⟨x,⟨HX.out⟩,⟨by repeat((with_reducible first|exact HI.out|apply Zd.drewN))⟩,⟨by repeat((with_reducible first|exact HK.out|apply X8))⟩,⟨by repeat((with_reducible first|exact HB.out|apply Q6))⟩⟩
   have hn:Qa (x < s.size):=⟨hlt⟩;have q0:decide (x < (s.size:Int))=true:=by simpa using hlt
   clear hlt;by_cases b1:(bt s x)=32
   ·have b1a:((bt s x)==32)=true:=beq_iff_eq.mpr b1;have hbl:Qa (Wo (bt s x)=true):=⟨by simp [Wo,b1a]⟩;clear b1;obtain⟨HG,hg⟩ :=HI.out;have c0:=Xk HG;have c1:=Xl HG;have c2:=Xn HG;have f0:=Qd HG 0;have f1:=Qd HG 1;have f2:=Qd HG 2;clear HG hg;have p4:=eq_true Hi.out.1;have q4:=eq_true hn.out;have hx4:=Zp s x;go_wp2;go_quiet (fail);go_wp2
    go_roundg (s.size - (x+1).toNat)
    case measure=>have:=Hk.out;have:=hn.out;omega
    case rel=>
     have hx1:(x+1).toNat=x.toNat+1 :=by omega
     exact⟨x+1,⟨by have:=hn.out;omega⟩,⟨Nat.le_refl _⟩,⟨by rw [hx1];exact(Ju (by have:=hn.out;omega) (by rw [show((x.toNat:Nat):Int)=x by omega];exact hbl.out)).symm.trans HS.out⟩,⟨by repeat((with_reducible first|exact HI.out|apply Zd.drewN|apply Zd.set_1))⟩,⟨by repeat((with_reducible first|exact HK.out|apply Qe.set_|apply X8))⟩,⟨by repeat((with_reducible first|exact HB.out|apply Q6|refine Xf ?_ (Zd.ge HI.out)))⟩⟩
   have b1a:((bt s x)==32)=false:=beq_eq_false_iff_ne.mpr b1;clear b1;by_cases b2:(bt s x)=9
   ·have b2a:((bt s x)==9)=true:=beq_iff_eq.mpr b2;have hbl:Qa (Wo (bt s x)=true):=⟨by simp [Wo,b2a]⟩;clear b2;obtain⟨HG,hg⟩ :=HI.out;have c0:=Xk HG;have c1:=Xl HG;have c2:=Xn HG;have f0:=Qd HG 0;have f1:=Qd HG 1;have f2:=Qd HG 2;clear HG hg;have p4:=eq_true Hi.out.1;have q4:=eq_true hn.out;have hx4:=Zp s x;go_wp2;go_quiet (fail);go_wp2
    go_roundg (s.size - (x+1).toNat)
    case measure=>have:=Hk.out;have:=hn.out;omega
    case rel=>
     have hx1:(x+1).toNat=x.toNat+1 :=by omega
     exact⟨x+1,⟨by have:=hn.out;omega⟩,⟨Nat.le_refl _⟩,⟨by rw [hx1];exact(Ju (by have:=hn.out;omega) (by rw [show((x.toNat:Nat):Int)=x by omega];exact hbl.out)).symm.trans HS.out⟩,⟨by repeat((with_reducible first|exact HI.out|apply Zd.drewN|apply Zd.set_1))⟩,⟨by repeat((with_reducible first|exact HK.out|apply Qe.set_|apply X8))⟩,⟨by repeat((with_reducible first|exact HB.out|apply Q6|refine Xf ?_ (Zd.ge HI.out)))⟩⟩
   have b2a:((bt s x)==9)=false:=beq_eq_false_iff_ne.mpr b2;clear b2;by_cases b3:(bt s x)=10
   rotate_left
   ·have b3a:((bt s x)==10)=false:=beq_eq_false_iff_ne.mpr b3;clear b3;have HX:Qa (x=Zb s p tok):=⟨by rw [←HS.out,Jv (fun hc=>by have h:=hc.2;rw [hxn.out] at h;simp [Wo,b1a,b2a,b3a] at h)];exact hxn.out.symm⟩;obtain⟨HG,hg⟩ :=HI.out;have c0:=Xk HG;have c1:=Xl HG;have c2:=Xn HG;have f0:=Qd HG 0;have f1:=Qd HG 1;have f2:=Qd HG 2;clear HG hg;have p4:=eq_true Hi.out.1;have q4:=eq_true hn.out;have hx4:=Zp s x;go_wp2;go_quiet (fail);go_wp2
    go_meet
    case rel=>exact⟨x,⟨HX.out⟩,⟨by repeat((with_reducible first|exact HI.out|apply Zd.drewN))⟩,⟨by repeat((with_reducible first|exact HK.out|apply X8))⟩,⟨by repeat((with_reducible first|exact HB.out|apply Q6))⟩⟩
   have b3a:((bt s x)==10)=true:=beq_iff_eq.mpr b3;have hbl:Qa (Wo (bt s x)=true):=⟨by simp [Wo,b3a]⟩;clear b3;obtain⟨HG,hg⟩ :=HI.out;have c0:=Xk HG;have c1:=Xl HG;have c2:=Xn HG;have f0:=Qd HG 0;have f1:=Qd HG 1;have f2:=Qd HG 2;clear HG hg;have p4:=eq_true Hi.out.1;have q4:=eq_true hn.out;have hx4:=Zp s x;go_wp2;go_quiet (fail);go_wp2
   go_roundg (s.size - (x+1).toNat)
   case measure=>have:=Hk.out;have:=hn.out;omega
   case rel=>
    have hx1:(x+1).toNat=x.toNat+1 :=by omega
    exact⟨x+1,⟨by have:=hn.out;omega⟩,⟨Nat.le_refl _⟩,⟨by rw [hx1];exact(Ju (by have:=hn.out;omega) (by rw [show((x.toNat:Nat):Int)=x by omega];exact hbl.out)).symm.trans HS.out⟩,⟨by repeat((with_reducible first|exact HI.out|apply Zd.drewN|apply Zd.set_1))⟩,⟨by repeat((with_reducible first|exact HK.out|apply Qe.set_|apply X8))⟩,⟨by repeat((with_reducible first|exact HB.out|apply Q6|refine Xf ?_ (Zd.ge HI.out)))⟩⟩
 case rest=>
  clear HI HB HK c0 c1 c2 f0 f1 f2;obtain⟨x,HX,HI,HK,HB⟩ :=hcut;have HP:=Qa.mk (Wg s (p+tok.size) h1);have hp0:(0 :Int)≤x:=by have:=HX.out;omega
  have hps:x≤(s.size:Int):=by have:=HX.out;have:=HP.out;unfold Zb at*;omega
  have HR:Qa (s.extract (Zb s p tok) s.size=s.extract x.toNat s.size):=⟨by rw [HX.out];rfl⟩;obtain⟨HG,hg⟩ :=HI.out;have c0:=Xk HG;have c1:=Xl HG;have c2:=Xn HG;have f0:=Qd HG 0;have f1:=Qd HG 1;have f2:=Qd HG 2;clear HG hg;go_wp2;go_quiet (fail);obtain⟨r,hr⟩ :∃r,s.extract x.toNat s.size=r:=⟨_,rfl⟩;rw [hr];rw [hr] at HR;have hrs:r.size≤4096 :=by rw [←hr];simp;omega
  clear hr;go_upto_block 2 with (fail)
  go_cut [3] (fun v3 wc=>∃n:Int,v3=.int .i64 n∧Qa (n=Jd r 0)∧Qa (Zd w0 wc g s x tok)∧Qa (Qe w wc g none)∧Qa (Below w0.heap.size w0 wc))
  case first=>
   go_wp2
   go_loopg [3] r.size (fun kq v3 wr=>∃n:Int,v3=.int .i64 n∧Qa (0≤n∧n≤r.size)∧Qa (r.size - n.toNat≤kq)∧Qa (Jd r n.toNat=Jd r 0)∧Qa (Zd w0 wr g s x tok)∧Qa (Qe w wr g none)∧Qa (Below w0.heap.size w0 wr))
   case atStart=>
    exact⟨0,rfl,⟨by omega⟩,⟨by simp⟩,⟨rfl⟩,⟨by repeat((with_reducible first|exact HI.out|apply Zd.drewN))⟩,⟨by repeat((with_reducible first|exact HK.out|apply X8))⟩,⟨by repeat((with_reducible first|exact HB.out|apply Q6))⟩⟩
   case round=>
    clear HI HB HK c0 c1 c2 f0 f1 f2;obtain⟨n,rfl,Hn,Hk,HW,HI,HK,HB⟩ :=hrel;have hn0:(0 :Int)≤n:=Hn.out.1;have hn1:n≤4096 :=by have:=Hn.out.2;omega
    have hxn:Qa (((n.toNat:Nat):Int)=n):=⟨by omega⟩;obtain⟨b,hb⟩ :=Jk (bt r n);have Hb:=Qa.mk hb;clear hb;by_cases hlt:n < r.size
    rotate_left
    ·have hnn:Qa (¬n < r.size):=⟨hlt⟩;have q0:decide (n < (r.size:Int))=false:=by simpa using hlt
     clear hlt;go_wp2_with(fail)
     go_meet
     case rel=>exact⟨n,rfl,⟨by rw [←HW.out,U1 (fun hc=>by have h:=hc.1;have:=hnn.out;omega)];exact hxn.out.symm⟩,⟨by exact HI.out⟩,⟨by exact HK.out⟩,⟨by exact HB.out⟩⟩
    have hnn:Qa (n < r.size):=⟨hlt⟩;have q0:decide (n < (r.size:Int))=true:=by simpa using hlt
    clear hlt;have p4:=eq_true Hn.out.1;have q4:=eq_true hnn.out;have hx4:=Zp r n
    cases b with
    |true=>
     go_wp2_with((go_at_call 68;(with_reducible refine(X1.calls (bt r n) true _ Hb.out).mono ?_);rintro e w' ⟨rfl,⟨nd,rfl⟩⟩))
     go_roundg (r.size - (n+1).toNat)
     case measure=>have:=Hk.out;have:=hnn.out;omega
     case rel=>
      have hx1:(n+1).toNat=n.toNat+1 :=by omega
      exact⟨n+1,rfl,⟨by have:=hnn.out;omega⟩,⟨Nat.le_refl _⟩,⟨by rw [hx1];exact(Mk (by have:=hnn.out;omega) (by rw [hxn.out];exact Hb.out)).symm.trans HW.out⟩,⟨by repeat((with_reducible first|exact HI.out|apply Zd.drewN))⟩,⟨by repeat((with_reducible first|exact HK.out|apply X8))⟩,⟨by repeat((with_reducible first|exact HB.out|apply Q6))⟩⟩
    |false=>
     go_wp2_with((go_at_call 68;(with_reducible refine(X1.calls (bt r n) false _ Hb.out).mono ?_);rintro e w' ⟨rfl,⟨nd,rfl⟩⟩))
     go_meet
     case rel=>exact⟨n,rfl,⟨by rw [←HW.out,U1 (fun hc=>by have h:=hc.2;rw [hxn.out,Hb.out] at h;simp at h)];exact hxn.out.symm⟩,⟨by repeat((with_reducible first|exact HI.out|apply Zd.drewN))⟩,⟨by repeat((with_reducible first|exact HK.out|apply X8))⟩,⟨by repeat((with_reducible first|exact HB.out|apply Q6))⟩⟩
  case rest=>
   clear HI HB HK c0 c1 c2 f0 f1 f2;obtain⟨n,rfl,HN,HI,HK,HB⟩ :=hcut;have HQ:=Qa.mk (U3 r r.size 0 (Nat.zero_le _));have hn0:(0 :Int)≤n:=by have:=HN.out;omega
   have hn1:n≤(r.size:Int):=by have:=HN.out;have:=HQ.out.2;unfold Jd at*;simp only [Nat.sub_zero] at*;omega
   go_upto_block 4 with (fail)
   obtain⟨k0,hk0⟩ :∃k0:Int,(if(r.size:Int) < 3 then(r.size:Int) else 3)=k0:=⟨_,rfl⟩;rw [hk0];have HK0:=Qa.mk hk0;clear hk0
   go_cut [3,4] (fun v3 v4 wc=>∃n:Int,v3=.int .i64 n∧Qa (n=Nj r)∧Qa (Zd w0 wc g s x tok)∧Qa (Qe w wc g none)∧Qa (Below w0.heap.size w0 wc))
   case first=>
    go_wp2
    go_loopg [3,4] 3 (fun kq v3 v4 wr=>∃n k:Int,v3=.int .i64 n∧v4=.int .i64 k∧Qa (0≤n∧n≤r.size)∧Qa (0≤k∧k≤r.size∧k≤3)∧Qa (k.toNat≤kq)∧Qa (opK r k.toNat n.toNat=Nj r)∧Qa (Zd w0 wr g s x tok)∧Qa (Qe w wr g none)∧Qa (Below w0.heap.size w0 wr))
    case atStart=>
     have hkk:=HK0.out;refine⟨n,k0,rfl,rfl,⟨by omega⟩,⟨by split at hkk <;> omega⟩,⟨by split at hkk <;> omega⟩,⟨?_⟩,⟨by exact HI.out⟩,⟨by exact HK.out⟩,⟨by exact HB.out⟩⟩;unfold Nj;rw [HN.out,show k0.toNat=min 3 r.size by split at hkk <;> omega];rfl
    case round=>
     clear HI HB HK HN;obtain⟨m,k,rfl,rfl,Hn,Hkk,Hk,HO,HI,HK,HB⟩ :=hrel;have hm0:(0 :Int)≤m:=Hn.out.1;have hm1:m≤(r.size:Int):=Hn.out.2;have hk0:(0 :Int)≤k:=Hkk.out.1;have hk1:k≤3 :=Hkk.out.2.2;have hk2:k≤(r.size:Int):=Hkk.out.2.1;by_cases hm:m=0
     rotate_left
     ·have b1:(m==0)=false:=beq_eq_false_iff_ne.mpr hm;have Hm:=Qa.mk hm;clear hm;go_wp2_with(fail)
      go_meet
      case rel=>
       refine⟨m,rfl,⟨?_⟩,⟨by exact HI.out⟩,⟨by exact HK.out⟩,⟨by exact HB.out⟩⟩;rw [←HO.out]
       cases k.toNat with
       |zero=>simp only [opK];omega
       |succ q=>simp only [opK];rw [if_neg (by have:=Hm.out;omega)];omega
     have b1:(m==0)=true:=beq_iff_eq.mpr hm;have Hm:=Qa.mk hm;clear hm;by_cases hkp:0 < k
     rotate_left
     ·have b2:decide (0 < k)=false:=by simpa using hkp
      have Hkp:=Qa.mk hkp;clear hkp;go_wp2_with(fail)
      go_meet
      case rel=>
       refine⟨m,rfl,⟨?_⟩,⟨by exact HI.out⟩,⟨by exact HK.out⟩,⟨by exact HB.out⟩⟩;rw [←HO.out,show k.toNat=0 by have:=Hkp.out;omega];simp only [opK];omega
     have b2:decide (0 < k)=true:=by simpa using hkp
     have Hkp:=Qa.mk hkp;clear hkp;obtain⟨j,hj⟩ :∃j,k.toNat=j+1 :=⟨k.toNat - 1,by have:=Hkp.out;omega⟩;have Hj:=Qa.mk hj;clear hj;have Hs:Qa (opK r k.toNat m.toNat=opK r j (if j=0∨Zw.f (r.extract 0 k.toNat)=some true then j+1 else 0)):=⟨by rw [Hj.out,Hm.out];rfl⟩;by_cases hk11:k=1
     ·have b3:(k==1)=true:=beq_iff_eq.mpr hk11;have Hk1:=Qa.mk hk11;clear hk11;go_wp2_with(fail)
      go_roundg (k - 1).toNat
      case measure=>have:=Hk.out;have:=Hkp.out;omega
      case rel=>
       refine⟨k,k - 1,rfl,rfl,⟨by have:=Hkp.out;omega⟩,⟨by have:=Hkp.out;omega⟩,⟨Nat.le_refl _⟩,⟨?_⟩,⟨by exact HI.out⟩,⟨by exact HK.out⟩,⟨by exact HB.out⟩⟩;rw [←HO.out,Hs.out,if_pos (Or.inl (by have:=Hk1.out;have:=Hj.out;omega)),show(k - 1).toNat=j by have:=Hj.out;omega,show k.toNat=j+1 from Hj.out]
     have b3:(k==1)=false:=beq_eq_false_iff_ne.mpr hk11;have Hk1:=Qa.mk hk11;clear hk11;obtain⟨b,hb⟩ :=U9 (r.extract 0 k.toNat);have Hb:=Qa.mk hb;clear hb
     cases b with
     |true=>
      go_wp2_with((go_at_call 69;(with_reducible refine(Zw.calls (r.extract 0 k.toNat) true _ Hb.out).mono ?_);rintro e w' ⟨rfl,⟨nd,rfl⟩⟩))
      go_roundg (k - 1).toNat
      case measure=>have:=Hk.out;have:=Hkp.out;omega
      case rel=>
       refine⟨k,k - 1,rfl,rfl,⟨by have:=Hkp.out;omega⟩,⟨by have:=Hkp.out;omega⟩,⟨Nat.le_refl _⟩,⟨?_⟩,⟨by repeat((with_reducible first|exact HI.out|apply Zd.drewN))⟩,⟨by repeat((with_reducible first|exact HK.out|apply X8))⟩,⟨by repeat((with_reducible first|exact HB.out|apply Q6))⟩⟩;rw [←HO.out,Hs.out,if_pos (Or.inr Hb.out),show(k - 1).toNat=j by have:=Hj.out;omega,show k.toNat=j+1 from Hj.out]
     |false=>
      go_wp2_with((go_at_call 69;(with_reducible refine(Zw.calls (r.extract 0 k.toNat) false _ Hb.out).mono ?_);rintro e w' ⟨rfl,⟨nd,rfl⟩⟩))
      go_roundg (k - 1).toNat
      case measure=>have:=Hk.out;have:=Hkp.out;omega
      case rel=>
       refine⟨m,k - 1,rfl,rfl,⟨by have:=Hkp.out;omega⟩,⟨by have:=Hkp.out;omega⟩,⟨Nat.le_refl _⟩,⟨?_⟩,⟨by repeat((with_reducible first|exact HI.out|apply Zd.drewN))⟩,⟨by repeat((with_reducible first|exact HK.out|apply X8))⟩,⟨by repeat((with_reducible first|exact HB.out|apply Q6))⟩⟩;rw [←HO.out,Hs.out,if_neg (fun h=>h.elim (fun h=>by have:=Hk1.out;have:=Hj.out;omega) (fun h=>by rw [Hb.out] at h;simp at h)),show(k - 1).toNat=j by have:=Hj.out;omega,Hm.out]
       rfl
   case rest=>
    clear HI HB HK HN hn0 hn1 HK0;obtain⟨m,rfl,HN,HI,HK,HB⟩ :=hcut;have HT:=Qa.mk (Uc r);have hm0:(0 :Int)≤m:=by have:=HN.out;omega
    have hm1:m≤(r.size:Int):=by have:=HN.out;have:=HT.out;omega
    obtain⟨HG,hg⟩ :=HI.out;have c0:=Xk HG;have c1:=Xl HG;have c2:=Xn HG;have f0:=Qd HG 0;have f1:=Qd HG 1;have f2:=Qd HG 2;clear HG hg;have HF:Qa (Yb s p tok=r.extract 0 m.toNat):=⟨by unfold Yb;rw [HR.out,HN.out];rfl⟩;go_wp2_with(fail);go_end0;exact⟨rfl,by rw [←HX.out,HF.out];(repeat((with_reducible first|exact HI.out|apply Zd.set_2))),by repeat((with_reducible first|exact HB.out|refine Xf ?_ (Zd.ge HI.out))),by repeat((with_reducible first|exact HK.out|apply Qe.set_))⟩
def Xx.j0:Nat→Int→Bool→Option (Int)
 |0,_,_=>none
 |k+1,x0,x9=>if x9=true then(some (((x0 - 97) % 256)+10)) else(if x0 ≥ 65 then(if x0≤70 then(some (((x0 - 65) % 256)+10)) else(some 16)) else(some 16))
def Xx.f (k:Nat) (a0:Int):Option (Int):=(Xt.f a0).bind fun t107=>(if t107=true then(some ((a0 - 48) % 256)) else(if a0 ≥ 97 then(Xx.j0 k a0 (decide (a0≤102))) else(Xx.j0 k a0 false)))
theorem Xx.mono_l:∀k,(∀y0 y1,LeO (Xx.j0 k y0 y1) (Xx.j0 (k+1) y0 y1))
 |0=>fun _ _ r h=>by simp [Xx.j0] at h
 |k+1=>by
  have ih0:=Xx.mono_l k
  ·intro y0 y1;unfold Xx.j0;repeat' (with_reducible exact LeO.refl _)
theorem Xx.mono:∀a0 k,LeO (Xx.f k a0) (Xx.f (k+1) a0):=by
 intro a0 k;have ih0:=Xx.mono_l k;unfold Xx.f
 repeat' first
  |(with_reducible exact ih0 _ _)
  |(with_reducible exact LeO.refl _)
  |(with_reducible refine LeO.ite ?_ ?_)
  |(with_reducible refine LeO.bind ?_ (fun _=>?_))
set_option maxHeartbeats 8000000 in
set_option maxRecDepth 100000 in
theorem Xx.calls (k:Nat) (a0:Int) (r:Int) (w:World) (h:Xx.f k a0=some r):
 Calls Tryd.prog 144 #[.int .u8 a0] w fun e w'=>e=.returned (.int .i64 r)∧Qk w w':=by
 have H:((Xt.f a0).bind fun t107=>(if t107=true then(some ((a0 - 48) % 256)) else(if a0 ≥ 97 then(Xx.j0 k a0 (decide (a0≤102))) else(Xx.j0 k a0 false))))=some r:=h
 clear h;replace H:=Option.bind_eq_some_iff.mp H;obtain⟨t107,A20,H⟩ :=H;try dsimp only at H
 have A2:=Qa.mk A20;clear A20;by_cases c3:t107=true
 ·subst c3;have H1:(some ((a0 - 48) % 256))=some r:=by rw [if_pos rfl] at H;exact H
  clear H;have H:=H1;clear H1;obtain rfl:=Option.some.inj H;go_enter Tryd.func144,Tryd.ntmps144;go_wp2_with(((with_reducible refine Qp (f:=104) rfl ?_);refine Xh (some 5) rfl rfl Tryd.func104 (by kernel_rfl) rfl #[.int .u8 a0] rfl (by(try simp only [List.map_toArray,List.map_cons,List.map_nil]);rfl) ?_;(with_reducible refine(Xt.calls a0 true _ A2.out).mono ?_);rintro e w' ⟨rfl,⟨nd,rfl⟩⟩;refine⟨_,rfl,?_⟩));go_ret;exact⟨by rfl,by repeat(first|exact Qk.refl _|apply Qk.step)⟩
 replace c3:=Bool.eq_false_iff.mpr c3;subst c3;have H1:(if a0 ≥ 97 then(Xx.j0 k a0 (decide (a0≤102))) else(Xx.j0 k a0 false))=some r:=by rw [if_neg (show ¬(false=true) by decide)] at H;exact H
 clear H;have H:=H1;clear H1;have HC4:=Qa.mk H;clear H;go_enter Tryd.func144,Tryd.ntmps144;go_upto_region 3 with (((with_reducible refine Qp (f:=104) rfl ?_);refine Xh (some 5) rfl rfl Tryd.func104 (by kernel_rfl) rfl #[.int .u8 a0] rfl (by(try simp only [List.map_toArray,List.map_cons,List.map_nil]);rfl) ?_;(with_reducible refine(Xt.calls a0 false _ A2.out).mono ?_);rintro e w' ⟨rfl,⟨nd,rfl⟩⟩;refine⟨_,rfl,?_⟩))
 go_cut [9] (fun v9 wc=>∃(kq:Nat) (x9_3:Bool),v9=.bool x9_3∧Qa (Xx.j0 kq a0 x9_3=some r)∧Qa (kq≤k)∧Qk w wc)
 case first=>
  have H:=HC4.out;clear HC4;by_cases c5:a0 ≥ 97
  ·rw [if_pos c5] at H;have c5b0:decide (97≤a0)=true:=decide_eq_true c5;clear c5;have H':=Qa.mk H;clear H;go_wp2
   go_meet
   case rel=>exact⟨_,(decide (a0≤102)),(by rfl),H',⟨by omega⟩,by repeat(first|exact Qk.refl _|apply Qk.step)⟩
  rw [if_neg c5] at H;have c5b0:decide (97≤a0)=false:=decide_eq_false c5;clear c5;have H':=Qa.mk H;clear H;go_wp2
  go_meet
  case rel=>exact⟨_,false,(by rfl),H',⟨by omega⟩,by repeat(first|exact Qk.refl _|apply Qk.step)⟩
 case rest=>
  clear HC4;obtain⟨kq,x9_3,rfl,HA,HJ3,⟨mc3,rfl⟩⟩ :=hcut
  cases kq with
  |zero=>exact absurd HA.out (by simp [Xx.j0])
  |succ kj3=>
   have H:=HA.out;clear HA;simp only [Xx.j0] at H;by_cases c6:x9_3=true
   ·subst c6;have H1:(some (((a0 - 97) % 256)+10))=some r:=by rw [if_pos rfl] at H;exact H
    clear H;have H:=H1;clear H1;obtain rfl:=Option.some.inj H;go_wp2;go_ret;exact⟨by rfl,by repeat(first|exact Qk.refl _|apply Qk.step)⟩
   replace c6:=Bool.eq_false_iff.mpr c6;subst c6;have H1:(if a0 ≥ 65 then(if a0≤70 then(some (((a0 - 65) % 256)+10)) else(some 16)) else(some 16))=some r:=by rw [if_neg (show ¬(false=true) by decide)] at H;exact H
   clear H;have H:=H1;clear H1;by_cases c7:a0 ≥ 65
   rotate_left
   ·rw [if_neg c7] at H;have c7b0:decide (65≤a0)=false:=decide_eq_false c7;clear c7;obtain rfl:=Option.some.inj H;go_wp2;go_ret;exact⟨by rfl,by repeat(first|exact Qk.refl _|apply Qk.step)⟩
   rw [if_pos c7] at H;have c7b0:decide (65≤a0)=true:=decide_eq_true c7;clear c7;by_cases c8:a0≤70
   ·rw [if_pos c8] at H;have c8b0:decide (a0≤70)=true:=decide_eq_true c8;clear c8;obtain rfl:=Option.some.inj H;go_wp2;go_ret;exact⟨by rfl,by repeat(first|exact Qk.refl _|apply Qk.step)⟩
   rw [if_neg c8] at H;have c8b0:decide (a0≤70)=false:=decide_eq_false c8;clear c8;obtain rfl:=Option.some.inj H;go_wp2;go_ret;exact⟨by rfl,by repeat(first|exact Qk.refl _|apply Qk.step)⟩
mutual
def Qy.j1:Nat→Int→ByteArray→Option (Int×Int)
 |0,_,_=>none
 |k+1,x4,x5=>if x5.toList=([]:List UInt8) then(some (0,6)) else(Qy.l0 k x4 x5 0 false (x5.size:Int) 0)
def Qy.l0:Nat→Int→ByteArray→Int→Bool→Int→Int→Option (Int×Int)
 |0,_,_,_,_,_,_=>none
 |k+1,x4,x5,x6,x7,x39,x40=>if x40 < x39 then(if 0≤x40 then(if x40 < (x5.size:Int) then((Xx.f k (bt x5 x40)).bind fun t108=>(if t108 ≥ x4 then(some (0,6)) else(if x7=true then(Qy.l0 k x4 x5 x6 true x39 (wrap64 (x40+1))) else(if x4=0 then(none) else(if(x6 > (wrap64 (Int.tdiv (wrap64 (9223372036854775807 - t108)) x4))) then(Qy.l0 k x4 x5 x6 (decide (x6 > (wrap64 (Int.tdiv (wrap64 (9223372036854775807 - t108)) x4)))) x39 (wrap64 (x40+1))) else(Qy.l0 k x4 x5 (wrap64 ((wrap64 (x6*x4))+t108)) (decide (x6 > (wrap64 (Int.tdiv (wrap64 (9223372036854775807 - t108)) x4)))) x39 (wrap64 (x40+1)))))))) else(none)) else(none)) else(if x7=true then(some (0,14)) else(some (x6,0)))
def Qy.j0:Nat→ByteArray→Int→ByteArray→Bool→Option (Int×Int)
 |0,_,_,_,_=>none
 |k+1,x0,x4,x5,x11=>if x11=true then(if 2≤(x0.size:Int) then(Qy.j1 k 16 (x0.extract 2 x0.size)) else(none)) else(if 0 < (x0.size:Int) then(if(bt x0 0)=48 then(Qy.j1 k 8 x5) else(Qy.j1 k x4 x5)) else(none))
end
def Qy.f (k:Nat) (a0:ByteArray):Option (Int×Int):=if(a0.size:Int) > 1 then(if 0 < (a0.size:Int) then(if(bt a0 0)=48 then(if 1 < (a0.size:Int) then(if(bt a0 1)=120 then(Qy.j0 k a0 10 a0 true) else(Qy.j0 k a0 10 a0 ((bt a0 1)==88))) else(none)) else(Qy.j0 k a0 10 a0 false)) else(none)) else(Qy.j0 k a0 10 a0 false)
theorem Qy.mono_l:∀k,(∀y0 y1,LeO (Qy.j1 k y0 y1) (Qy.j1 (k+1) y0 y1))∧(∀y0 y1 y2 y3 y4 y5,LeO (Qy.l0 k y0 y1 y2 y3 y4 y5) (Qy.l0 (k+1) y0 y1 y2 y3 y4 y5))∧(∀y0 y1 y2 y3,LeO (Qy.j0 k y0 y1 y2 y3) (Qy.j0 (k+1) y0 y1 y2 y3))
 |0=>⟨fun _ _ r h=>by simp [Qy.j1] at h,fun _ _ _ _ _ _ r h=>by simp [Qy.l0] at h,fun _ _ _ _ r h=>by simp [Qy.j0] at h⟩
 |k+1=>by
  obtain⟨ih0,ih1,ih2⟩ :=Qy.mono_l k;refine⟨?_,?_,?_⟩
  ·intro y0 y1;unfold Qy.j1;repeat' first
   |(with_reducible exact ih1 _ _ _ _ _ _)
   |(with_reducible exact LeO.refl _)
   |(with_reducible refine LeO.ite ?_ ?_)
  ·intro y0 y1 y2 y3 y4 y5;unfold Qy.l0;repeat' first
   |(with_reducible exact ih1 _ _ _ _ _ _)
   |(with_reducible exact Xx.mono _ _)
   |(with_reducible exact LeO.refl _)
   |(with_reducible refine LeO.ite ?_ ?_)
   |(with_reducible refine LeO.bind ?_ (fun _=>?_))
  ·intro y0 y1 y2 y3;unfold Qy.j0;repeat' first
   |(with_reducible exact ih0 _ _)
   |(with_reducible exact LeO.refl _)
   |(with_reducible refine LeO.ite ?_ ?_)
set_option maxHeartbeats 8000000 in
set_option maxRecDepth 100000 in
theorem Qy.calls (k:Nat) (a0:ByteArray) (r1:Int) (r2:Int) (w:World) (h:Qy.f k a0=some (r1,r2)):
 Calls Tryd.prog 136 #[.string a0] w fun e w'=>e=.returned (.tuple #[.int .i64 r1,.int .i64 r2])∧Qk w w':=by
 have H:(if(a0.size:Int) > 1 then(if 0 < (a0.size:Int) then(if(bt a0 0)=48 then(if 1 < (a0.size:Int) then(if(bt a0 1)=120 then(Qy.j0 k a0 10 a0 true) else(Qy.j0 k a0 10 a0 ((bt a0 1)==88))) else(none)) else(Qy.j0 k a0 10 a0 false)) else(none)) else(Qy.j0 k a0 10 a0 false))=some (r1,r2):=h;clear h;have HC2:=Qa.mk H;clear H;go_enter Tryd.func136,Tryd.ntmps136;go_upto_block 0 with (fail)
 go_cut [4,5] (fun v4 v5 wc=>∃(kq:Nat) (x4_1:Int) (x5_1:ByteArray),v4=.int .i64 x4_1∧v5=.string x5_1∧Qa (Qy.j1 kq x4_1 x5_1=some (r1,r2))∧Qa (kq≤k)∧Qk w wc)
 case first=>
  have H:=HC2.out;clear HC2;have HC3:=Qa.mk H;clear H;go_upto_region 2 with (fail)
  go_cut [11] (fun v11 wc=>∃(kq:Nat) (x11_2:Bool),v11=.bool x11_2∧Qa (Qy.j0 kq a0 10 a0 x11_2=some (r1,r2))∧Qa (kq≤k)∧Qk w wc)
  case first=>
   have H:=HC3.out;clear HC3;by_cases c4:(a0.size:Int) > 1
   rotate_left
   ·rw [if_neg c4] at H;have c4b0:decide (1 < (a0.size:Int))=false:=decide_eq_false c4;clear c4;have H':=Qa.mk H;clear H;go_wp2
    go_meet
    case rel=>exact⟨_,false,(by rfl),H',⟨by omega⟩,by repeat(exact Qk.refl _)⟩
   rw [if_pos c4] at H;have c4b0:decide (1 < (a0.size:Int))=true:=decide_eq_true c4;clear c4;by_cases c5:0 < (a0.size:Int)
   rotate_left
   ·rw [if_neg c5] at H;exact absurd H (by simp)
   rw [if_pos c5] at H;have c5b0:decide (0 < (a0.size:Int))=true:=decide_eq_true c5;clear c5;by_cases c7:(bt a0 0)=48
   rotate_left
   ·rw [if_neg c7] at H;have c7b0:((bt a0 0)==48)=false:=beq_eq_false_iff_ne.mpr c7;have H':=Qa.mk H;clear H;have q6:0 < a0.size:=(by have:(0 :Int) < (a0.size:Int):=of_decide_eq_true (by(with_reducible assumption));omega);have hx6:∀h:0 < a0.size,((a0[0]'h).toNat:Int)=bt a0 0 :=Zp a0 0;replace q6:=eq_true q6;go_wp2
    go_meet
    case rel=>exact⟨_,false,(by rfl),H',⟨by omega⟩,by repeat(exact Qk.refl _)⟩
   rw [if_pos c7] at H;have c7b0:((bt a0 0)==48)=true:=beq_iff_eq.mpr c7;clear c7;by_cases c8:1 < (a0.size:Int)
   rotate_left
   ·rw [if_neg c8] at H;exact absurd H (by simp)
   rw [if_pos c8] at H;have c8b0:decide (1 < (a0.size:Int))=true:=decide_eq_true c8;clear c8;by_cases c10:(bt a0 1)=120
   ·rw [if_pos c10] at H;have c10b0:((bt a0 1)==120)=true:=beq_iff_eq.mpr c10;clear c10;have H':=Qa.mk H;clear H;have q6:0 < a0.size:=(by have:(0 :Int) < (a0.size:Int):=of_decide_eq_true (by(with_reducible assumption));omega);have hx6:∀h:0 < a0.size,((a0[0]'h).toNat:Int)=bt a0 0 :=Zp a0 0;replace q6:=eq_true q6;have q9:1 < a0.size:=(by have:(1 :Int) < (a0.size:Int):=of_decide_eq_true (by(with_reducible assumption));omega);have hx9:∀h:1 < a0.size,((a0[1]'h).toNat:Int)=bt a0 1 :=Zp a0 1;have qi9:(1 < (a0.size:Int))=True:=eq_true (of_decide_eq_true (by(with_reducible assumption)));replace q9:=eq_true q9;go_wp2
    go_meet
    case rel=>exact⟨_,true,(by rfl),H',⟨by omega⟩,by repeat(exact Qk.refl _)⟩
   rw [if_neg c10] at H;have c10b0:((bt a0 1)==120)=false:=beq_eq_false_iff_ne.mpr c10;have H':=Qa.mk H;clear H;have q6:0 < a0.size:=(by have:(0 :Int) < (a0.size:Int):=of_decide_eq_true (by(with_reducible assumption));omega);have hx6:∀h:0 < a0.size,((a0[0]'h).toNat:Int)=bt a0 0 :=Zp a0 0;replace q6:=eq_true q6;have q9:1 < a0.size:=(by have:(1 :Int) < (a0.size:Int):=of_decide_eq_true (by(with_reducible assumption));omega);have hx9:∀h:1 < a0.size,((a0[1]'h).toNat:Int)=bt a0 1 :=Zp a0 1;have qi9:(1 < (a0.size:Int))=True:=eq_true (of_decide_eq_true (by(with_reducible assumption)));replace q9:=eq_true q9;have q11:1 < a0.size:=(by have:(1 :Int) < (a0.size:Int):=of_decide_eq_true (by(with_reducible assumption));omega);replace q11:=eq_true q11;go_wp2
   go_meet
   case rel=>exact⟨_,(((bt a0 1)==88)),(by rfl),H',⟨by omega⟩,by repeat(exact Qk.refl _)⟩
  case rest=>
   clear HC3;obtain⟨kq,x11_2,rfl,HA,HJ2,⟨mc2,rfl⟩⟩ :=hcut
   cases kq with
   |zero=>exact absurd HA.out (by simp [Qy.j0])
   |succ kj2=>
    have H:=HA.out;clear HA;simp only [Qy.j0] at H;by_cases c12:x11_2=true
    ·subst c12;have H1:(if 2≤(a0.size:Int) then(Qy.j1 kj2 16 (a0.extract 2 a0.size)) else(none))=some (r1,r2):=by rw [if_pos rfl] at H;exact H
     clear H;have H:=H1;clear H1;by_cases c13:2≤(a0.size:Int)
     rotate_left
     ·rw [if_neg c13] at H;exact absurd H (by simp)
     rw [if_pos c13] at H;have c13b0:=eq_true c13;clear c13;have H':=Qa.mk H;clear H;go_wp2;repeat(go_quiet (fail);try go_wp2)
     go_meet
     case rel=>exact⟨_,16,(a0.extract 2 a0.size),(by rfl),(by rfl),H',⟨by have:=HJ2.out;omega⟩,by repeat(first|exact Qk.refl _|apply Qk.step)⟩
    replace c12:=Bool.eq_false_iff.mpr c12;subst c12;have H1:(if 0 < (a0.size:Int) then(if(bt a0 0)=48 then(Qy.j1 kj2 8 a0) else(Qy.j1 kj2 10 a0)) else(none))=some (r1,r2):=by rw [if_neg (show ¬(false=true) by decide)] at H;exact H
    clear H;have H:=H1;clear H1;by_cases c14:0 < (a0.size:Int)
    rotate_left
    ·rw [if_neg c14] at H;exact absurd H (by simp)
    rw [if_pos c14] at H;have c14b0:decide (0 < (a0.size:Int))=true:=decide_eq_true c14;clear c14;by_cases c16:(bt a0 0)=48
    rotate_left
    ·rw [if_neg c16] at H;have c16b0:((bt a0 0)==48)=false:=beq_eq_false_iff_ne.mpr c16;have H':=Qa.mk H;clear H;have q15:0 < a0.size:=(by have:(0 :Int) < (a0.size:Int):=of_decide_eq_true (by(with_reducible assumption));omega);have hx15:∀h:0 < a0.size,((a0[0]'h).toNat:Int)=bt a0 0 :=Zp a0 0;replace q15:=eq_true q15;go_wp2
     go_meet
     case rel=>exact⟨_,10,a0,(by rfl),(by rfl),H',⟨by have:=HJ2.out;omega⟩,by repeat(first|exact Qk.refl _|apply Qk.step)⟩
    rw [if_pos c16] at H;have c16b0:((bt a0 0)==48)=true:=beq_iff_eq.mpr c16;clear c16;have H':=Qa.mk H;clear H;have q15:0 < a0.size:=(by have:(0 :Int) < (a0.size:Int):=of_decide_eq_true (by(with_reducible assumption));omega);have hx15:∀h:0 < a0.size,((a0[0]'h).toNat:Int)=bt a0 0 :=Zp a0 0;replace q15:=eq_true q15;go_wp2
    go_meet
    case rel=>exact⟨_,8,a0,(by rfl),(by rfl),H',⟨by have:=HJ2.out;omega⟩,by repeat(first|exact Qk.refl _|apply Qk.step)⟩
 case rest=>
  clear HC2;obtain⟨kq,x4_1,x5_1,rfl,rfl,HA,HJ1,⟨mc1,rfl⟩⟩ :=hcut
  cases kq with
  |zero=>exact absurd HA.out (by simp [Qy.j1])
  |succ kj1=>
   have H:=HA.out;clear HA;simp only [Qy.j1] at H;by_cases c17:x5_1.toList=([]:List UInt8)
   ·rw [if_pos c17] at H;have c17b0:(x5_1.toList==([]:List UInt8))=true:=beq_iff_eq.mpr c17;clear c17;simp only [Option.some.injEq,Prod.mk.injEq] at H;obtain⟨rfl,rfl⟩ :=H;go_wp2;go_ret2;exact⟨by rfl,by repeat(first|exact Qk.refl _|apply Qk.step)⟩
   rw [if_neg c17] at H;have c17b0:(x5_1.toList==([]:List UInt8))=false:=beq_eq_false_iff_ne.mpr c17;have H':=Qa.mk H;clear H;go_wp2
   go_loopg [6,7,40] kj1 (fun kq v6 v7 v40 w'=>∃(x6_2:Int) (x7_2:Bool) (x40_2:Int),v6=.int .i64 x6_2∧v7=.bool x7_2∧v40=.int .i64 x40_2∧Qa (Qy.l0 kq x4_1 x5_1 x6_2 x7_2 (x5_1.size:Int) x40_2=some (r1,r2))∧Qa (kq≤kj1)∧Qk w w')
   case atStart=>exact⟨0,false,0,(by rfl),(by rfl),(by rfl),H',⟨Nat.le_refl _⟩,by repeat(first|exact Qk.refl _|apply Qk.step)⟩
   case round=>
    clear H';(try clear c17);(try clear c17b0);obtain⟨x6_2,x7_2,x40_2,rfl,rfl,rfl,HA,HK2,⟨m2,rfl⟩⟩ :=hrel
    cases gk with
    |zero=>exact absurd HA.out (by simp [Qy.l0])
    |succ k2=>
     have H:=HA.out;clear HA;simp only [Qy.l0] at H;by_cases c18:x40_2 < (x5_1.size:Int)
     rotate_left
     ·rw [if_neg c18] at H;have c18b0:decide (x40_2 < (x5_1.size:Int))=false:=decide_eq_false c18;clear c18;by_cases c27:x7_2=true
      ·subst c27;have H1:(some (0,14))=some (r1,r2):=by rw [if_pos rfl] at H;exact H
       clear H;have H:=H1;clear H1;simp only [Option.some.injEq,Prod.mk.injEq] at H;obtain⟨rfl,rfl⟩ :=H;go_wp2;go_ret2;exact⟨by rfl,by repeat(first|exact Qk.refl _|apply Qk.step)⟩
      replace c27:=Bool.eq_false_iff.mpr c27;subst c27;have H1:(some (x6_2,0))=some (r1,r2):=by rw [if_neg (show ¬(false=true) by decide)] at H;exact H
      clear H;have H:=H1;clear H1;simp only [Option.some.injEq,Prod.mk.injEq] at H;obtain⟨rfl,rfl⟩ :=H;go_wp2;go_ret2;exact⟨by rfl,by repeat(first|exact Qk.refl _|apply Qk.step)⟩
     rw [if_pos c18] at H;have c18b0:decide (x40_2 < (x5_1.size:Int))=true:=decide_eq_true c18;clear c18;by_cases c19:0≤x40_2
     rotate_left
     ·rw [if_neg c19] at H;exact absurd H (by simp)
     rw [if_pos c19] at H;have c19b0:decide (0≤x40_2)=true:=decide_eq_true c19;clear c19;by_cases c20:x40_2 < (x5_1.size:Int)
     rotate_left
     ·rw [if_neg c20] at H;exact absurd H (by simp)
     rw [if_pos c20] at H;have c20b0:decide (x40_2 < (x5_1.size:Int))=true:=decide_eq_true c20;clear c20;replace H:=Option.bind_eq_some_iff.mp H;obtain⟨t108,A220,H⟩ :=H;try dsimp only at H
     have A22:=Qa.mk A220;clear A220;by_cases c23:t108 ≥ x4_1
     ·rw [if_pos c23] at H;have c23b0:decide (x4_1≤t108)=true:=decide_eq_true c23;clear c23;simp only [Option.some.injEq,Prod.mk.injEq] at H;obtain⟨rfl,rfl⟩ :=H;have p21:0≤(x40_2:Int):=of_decide_eq_true (by(with_reducible assumption));have q21:x40_2 < (x5_1.size:Int):=of_decide_eq_true (by(with_reducible assumption));have hx21:=Zp x5_1 x40_2;replace p21:=eq_true p21;replace q21:=eq_true q21;go_wp2_with((go_at_call 144;(with_reducible refine(Xx.calls k2 (bt x5_1 x40_2) t108 _ A22.out).mono ?_);rintro e w' ⟨rfl,⟨nd,rfl⟩⟩));go_ret2;exact⟨by rfl,by repeat(first|exact Qk.refl _|apply Qk.step)⟩
     rw [if_neg c23] at H;have c23b0:decide (x4_1≤t108)=false:=decide_eq_false c23;clear c23;by_cases c24:x7_2=true
     ·subst c24;have H1:(Qy.l0 k2 x4_1 x5_1 x6_2 true (x5_1.size:Int) (wrap64 (x40_2+1)))=some (r1,r2):=by rw [if_pos rfl] at H;exact H
      clear H;have H:=H1;clear H1;have H':=Qa.mk H;clear H;have p21:0≤(x40_2:Int):=of_decide_eq_true (by(with_reducible assumption));have q21:x40_2 < (x5_1.size:Int):=of_decide_eq_true (by(with_reducible assumption));have hx21:=Zp x5_1 x40_2;replace p21:=eq_true p21;replace q21:=eq_true q21;go_wp2_with((go_at_call 144;(with_reducible refine(Xx.calls k2 (bt x5_1 x40_2) t108 _ A22.out).mono ?_);rintro e w' ⟨rfl,⟨nd,rfl⟩⟩))
      go_roundg k2
      case measure=>have:=HJ1.out;have:=HK2.out;omega
      case rel=>exact⟨x6_2,true,(wrap64 (x40_2+1)),(by rfl),(by rfl),(by rfl),H',⟨by have:=HJ1.out;have:=HK2.out;omega⟩,by repeat(first|exact Qk.refl _|apply Qk.step)⟩
     replace c24:=Bool.eq_false_iff.mpr c24;subst c24;have H1:(if x4_1=0 then(none) else(if(x6_2 > (wrap64 (Int.tdiv (wrap64 (9223372036854775807 - t108)) x4_1))) then(Qy.l0 k2 x4_1 x5_1 x6_2 (decide (x6_2 > (wrap64 (Int.tdiv (wrap64 (9223372036854775807 - t108)) x4_1)))) (x5_1.size:Int) (wrap64 (x40_2+1))) else(Qy.l0 k2 x4_1 x5_1 (wrap64 ((wrap64 (x6_2*x4_1))+t108)) (decide (x6_2 > (wrap64 (Int.tdiv (wrap64 (9223372036854775807 - t108)) x4_1)))) (x5_1.size:Int) (wrap64 (x40_2+1)))))=some (r1,r2):=by rw [if_neg (show ¬(false=true) by decide)] at H;exact H
     clear H;have H:=H1;clear H1;by_cases c25:x4_1=0
     ·rw [if_pos c25] at H;exact absurd H (by simp)
     rw [if_neg c25] at H;by_cases c26:(x6_2 > (wrap64 (Int.tdiv (wrap64 (9223372036854775807 - t108)) x4_1)))
     ·rw [if_pos c26] at H;have c26b0:decide ((wrap64 (Int.tdiv (wrap64 (9223372036854775807 - t108)) x4_1)) < x6_2)=true:=decide_eq_true c26;clear c26;have H':=Qa.mk H;clear H;have p21:0≤(x40_2:Int):=of_decide_eq_true (by(with_reducible assumption));have q21:x40_2 < (x5_1.size:Int):=of_decide_eq_true (by(with_reducible assumption));have hx21:=Zp x5_1 x40_2;replace p21:=eq_true p21;replace q21:=eq_true q21;go_wp2_with((go_at_call 144;(with_reducible refine(Xx.calls k2 (bt x5_1 x40_2) t108 _ A22.out).mono ?_);rintro e w' ⟨rfl,⟨nd,rfl⟩⟩))
      go_roundg k2
      case measure=>have:=HJ1.out;have:=HK2.out;omega
      case rel=>exact⟨x6_2,(decide (x6_2 > (wrap64 (Int.tdiv (wrap64 (9223372036854775807 - t108)) x4_1)))),(wrap64 (x40_2+1)),(by rfl),(by(simp [*];done)),(by rfl),H',⟨by have:=HJ1.out;have:=HK2.out;omega⟩,by repeat(first|exact Qk.refl _|apply Qk.step)⟩
     rw [if_neg c26] at H;have c26b0:decide ((wrap64 (Int.tdiv (wrap64 (9223372036854775807 - t108)) x4_1)) < x6_2)=false:=decide_eq_false c26;clear c26;have H':=Qa.mk H;clear H;have p21:0≤(x40_2:Int):=of_decide_eq_true (by(with_reducible assumption));have q21:x40_2 < (x5_1.size:Int):=of_decide_eq_true (by(with_reducible assumption));have hx21:=Zp x5_1 x40_2;replace p21:=eq_true p21;replace q21:=eq_true q21;go_wp2_with((go_at_call 144;(with_reducible refine(Xx.calls k2 (bt x5_1 x40_2) t108 _ A22.out).mono ?_);rintro e w' ⟨rfl,⟨nd,rfl⟩⟩))
     go_roundg k2
     case measure=>have:=HJ1.out;have:=HK2.out;omega
     case rel=>exact⟨(wrap64 ((wrap64 (x6_2*x4_1))+t108)),(decide (x6_2 > (wrap64 (Int.tdiv (wrap64 (9223372036854775807 - t108)) x4_1)))),(wrap64 (x40_2+1)),(by rfl),(by(simp [*];done)),(by rfl),H',⟨by have:=HJ1.out;have:=HK2.out;omega⟩,by repeat(first|exact Qk.refl _|apply Qk.step)⟩
end Go.Proofs.YtglmdfddgmkmaaaDoor.Q
end
section
namespace Go.Proofs.YtglmdfddgmkmaaaDoor.Q
open Go.RowKit Go.Proofs.YtglmdfddgmkmaaaDoorW.PrintWords Go.Proofs.YtglmdfddgmkmaaaDoorW.PrintLast Go.Proofs.YtglmdfddgmkmaaaDoorW.PrintMore
attribute [local go_sem] Z0 Z2 Yd Ye Zq Zr Z1 Z3
set_option linter.unusedVariables false
set_option linter.unusedSimpArgs false
mutual
def Xi.l0:Nat→Int→List (S26)→Int→Int→Option (Int)
 |0,_,_,_,_=>none
 |k+1,x3,x7,x8,x9=>if x9 < x8 then(if 0≤x9 then(if x9 < (x7.length:Int) then((Xi.f k ((Qg x7 x9).f0) ((Qg x7 x9).f1) ((Qg x7 x9).f2) ((Qg x7 x9).f3)).bind fun t120=>(Xi.l0 k (mx x3 t120) x7 x8 (wrap64 (x9+1)))) else(none)) else(none)) else(some (wrap64 (x3+1)))
def Xi.f:Nat→Int→Int→ByteArray→List (S26)→Option (Int)
 |0,_,_,_,_=>none
 |k+1,a0_0,a0_1,a0_2,l0_3=>Xi.l0 k 0 l0_3 (l0_3.length:Int) 0
end
theorem Xi.mono_l:∀k,(∀y0 y1 y2 y3,LeO (Xi.f k y0 y1 y2 y3) (Xi.f (k+1) y0 y1 y2 y3))∧(∀y0 y1 y2 y3,LeO (Xi.l0 k y0 y1 y2 y3) (Xi.l0 (k+1) y0 y1 y2 y3))
 |0=>⟨fun _ _ _ _ r h=>by simp [Xi.f] at h,fun _ _ _ _ r h=>by simp [Xi.l0] at h⟩
 |k+1=>by
  obtain⟨ih0,ih1⟩ :=Xi.mono_l k;refine⟨?_,?_⟩
  ·intro y0 y1 y2 y3;unfold Xi.f;repeat' (with_reducible exact ih1 _ _ _ _)
  intro y0 y1 y2 y3;unfold Xi.l0;repeat' first
  |(with_reducible exact ih0 _ _ _ _)
  |(with_reducible exact ih1 _ _ _ _)
  |(with_reducible exact LeO.refl _)
  |(with_reducible refine LeO.ite ?_ ?_)
  |(with_reducible refine LeO.bind ?_ (fun _=>?_))
theorem Xi.mono:∀a0 a1 a2 a3 k,LeO (Xi.f k a0 a1 a2 a3) (Xi.f (k+1) a0 a1 a2 a3):=by
 intro a0 a1 a2 a3 k;obtain⟨ih0,ih1⟩ :=Xi.mono_l k;exact ih0 a0 a1 a2 a3
set_option maxHeartbeats 8000000 in
set_option maxRecDepth 100000 in
theorem Xi.calls (k:Nat):∀(a0_0:Int) (a0_1:Int) (a0_2:ByteArray) (A0_3:Option Addr) (c0_3:Nat) (l0_3:List (S26)) (r:Int) (w:World) (hr0_3:Kd.C k26 w A0_3 l0_3.length l0_3) (hc0_3:l0_3.length≤c0_3) (h:Xi.f k a0_0 a0_1 a0_2 l0_3=some r),
 Calls Tryd.prog 45 #[.agg #[.int .i64 a0_0,.int .i64 a0_1,.string a0_2,.slice A0_3 l0_3.length c0_3]] w fun e w'=>e=.returned (.int .i64 r)∧Below w.heap.size w w':=by
 induction k using Nat.strongRecOn with
 |_ k ih=>
 intro a0_0 a0_1 a0_2 A0_3 c0_3 l0_3 r w hr0_3 hc0_3 h
 cases k with
 |zero=>exact absurd h (by simp [Xi.f])
 |succ k=>
 simp only [Xi.f] at h;have HR0_3:=Qa.mk hr0_3;clear hr0_3 hc0_3;have HB:=Qa.mk (Below.refl w.heap.size w);have H:(Xi.l0 k 0 l0_3 (l0_3.length:Int) 0)=some r:=h;clear h;have H':=Qa.mk H;clear H;go_enter Tryd.func45,Tryd.ntmps45;go_wp2_with(((with_reducible refine Q0 (N:=1) rfl ?_);refine Xm ?hg (N:=1) ?hd (cs:=#[.int .i64 a0_0,.int .i64 a0_1,.string a0_2,.slice A0_3 l0_3.length c0_3]) (t:=26) ?hr ?_;(case hd=>rfl);(case hg=>rfl);(case hr=>(go_simp;done));intro gb117 hg w2 hbox hb;replace HB:=Qa.mk (Qr HB.out hb);have BK117:=Qa.mk hbox;clear hb hbox hg;have hcz3_3:w2.cell? ⟨gb117,3,none⟩=some (.slice A0_3 l0_3.length c0_3):=(Qb BK117.out 3).trans rfl))
 go_loopg [3,9] k (fun kq v3 v9 w'=>∃(x3_1:Int) (x9_1:Int),v3=.int .i64 x3_1∧v9=.int .i64 x9_1∧Qa (Xi.l0 kq x3_1 l0_3 (l0_3.length:Int) x9_1=some r)∧Qa (kq≤k)∧Qa (w'.heap[gb117]? =some (.cells #[.int .i64 a0_0,.int .i64 a0_1,.string a0_2,(.slice A0_3 l0_3.length c0_3)] 26 (0,0)))∧Qa (Below w.heap.size w w'))
 case atStart=>exact⟨0,0,(by rfl),(by rfl),H',⟨Nat.le_refl _⟩,⟨BK117.out⟩,⟨HB.out⟩⟩
 case round=>
  clear H';(try clear hcz3_3);obtain⟨x3_1,x9_1,rfl,rfl,HA,HK1,BK117,HB⟩ :=hrel
  cases gk with
  |zero=>exact absurd HA.out (by simp [Xi.l0])
  |succ k1=>
   have H:=HA.out;clear HA;simp only [Xi.l0] at H;by_cases c4:x9_1 < (l0_3.length:Int)
   rotate_left
   ·rw [if_neg c4] at H;have c4b0:decide (x9_1 < (l0_3.length:Int))=false:=decide_eq_false c4;clear c4;obtain rfl:=Option.some.inj H;go_wp2;go_ret;exact⟨by rfl,HB.out⟩
   rw [if_pos c4] at H;have c4b0:decide (x9_1 < (l0_3.length:Int))=true:=decide_eq_true c4;clear c4;by_cases c5:0≤x9_1
   rotate_left
   ·rw [if_neg c5] at H;exact absurd H (by simp)
   rw [if_pos c5] at H;have c5b0:decide (0≤x9_1)=true:=decide_eq_true c5;clear c5;by_cases c6:x9_1 < (l0_3.length:Int)
   rotate_left
   ·rw [if_neg c6] at H;exact absurd H (by simp)
   rw [if_pos c6] at H;have c6b0:decide (x9_1 < (l0_3.length:Int))=true:=decide_eq_true c6;clear c6;replace H:=Option.bind_eq_some_iff.mp H;obtain⟨t120,A70,H⟩ :=H;try dsimp only at H
   have A7:=Qa.mk A70;clear A70;obtain⟨ji8,hji8⟩ :∃j_:Int,(mx x3_1 t120)=j_:=⟨_,rfl⟩;replace H:(Xi.l0 k1 ji8 l0_3 (l0_3.length:Int) (wrap64 (x9_1+1)))=some r:=by(rw [hji8] at H;exact H)
   have hji8_:(if x3_1 < t120 then t120 else x3_1)=ji8:=hji8;have H':=Qa.mk H;clear H;have p118:0≤(x9_1:Int):=of_decide_eq_true (by(with_reducible assumption));have q118:x9_1 < (l0_3.length:Int):=of_decide_eq_true (by(with_reducible assumption));obtain⟨ad118,A118_3,c118_3,e118,hx118_0,hx118_1,hx118_2,hx118_3,hl118_3,hi118_3⟩ :=Yf HR0_3.out x9_1 p118 q118
   cases e118
   replace hx118_0:=(HB.out.cell (World.block_lt_of_cell? w _ hx118_0)).trans hx118_0;replace hx118_1:=(HB.out.cell (World.block_lt_of_cell? w _ hx118_1)).trans hx118_1;replace hx118_2:=(HB.out.cell (World.block_lt_of_cell? w _ hx118_2)).trans hx118_2;replace hx118_3:=(HB.out.cell (World.block_lt_of_cell? w _ hx118_3)).trans hx118_3;have HR118_3:=Qa.mk hi118_3;have HC118_3:=Qa.mk hl118_3;clear hi118_3 hl118_3;replace p118:=eq_true p118;replace q118:=eq_true q118;go_wp2_with(first|((with_reducible refine Q0 (N:=5) rfl ?_);refine Xm ?hg (N:=5) ?hd (cs:=#[.int .i64 0,.int .i64 0,.string (⟨#[]⟩ :ByteArray),.slice none 0 0]) (t:=26) ?hr ?_;(case hd=>rfl);(case hg=>rfl);(case hr=>(go_simp;done));intro gb119 hg w9 hbox hb;have BK119:=Qa.mk hbox;have GE119:=Qa.mk ((by rw [hg];exact(X4 HB.out):w.heap.size≤gb119));replace HB:=Qa.mk (Qr HB.out hb);have NB117_119:=Qa.mk ((by rw [hg];exact Nat.ne_of_lt (Xr (g:=gb117) (o:=.cells #[.int .i64 a0_0,.int .i64 a0_1,.string a0_2,.slice (some ad118) l0_3.length c0_3] 26 (0,0)) BK117.out):gb117≠gb119));have NB119_117:=Qa.mk ((by rw [hg];exact Nat.ne_of_gt (Xr (g:=gb117) (o:=.cells #[.int .i64 a0_0,.int .i64 a0_1,.string a0_2,.slice (some ad118) l0_3.length c0_3] 26 (0,0)) BK117.out):gb119≠gb117));replace BK117:=Qa.mk (Q1 (g:=gb117) (o:=.cells #[.int .i64 a0_0,.int .i64 a0_1,.string a0_2,.slice (some ad118) l0_3.length c0_3] 26 (0,0)) BK117.out hb);clear hb hbox hg;have hcz11_0:w9.cell? ⟨gb119,0,none⟩=some (.int .i64 0):=(Qb BK119.out 0).trans rfl;have hcz11_1:w9.cell? ⟨gb119,1,none⟩=some (.int .i64 0):=(Qb BK119.out 1).trans rfl;have hcz11_2:w9.cell? ⟨gb119,2,none⟩=some (.string (⟨#[]⟩ :ByteArray)):=(Qb BK119.out 2).trans rfl;have hcz11_3:w9.cell? ⟨gb119,3,none⟩=some (.slice none 0 0):=(Qb BK119.out 3).trans rfl;have hfz11_0:=Qd BK119.out 0;have hfz11_1:=Qd BK119.out 1;have hfz11_2:=Qd BK119.out 2;have hfz11_3:=Qd BK119.out 3)|((with_reducible refine Qp (f:=45) rfl ?_);refine Xh (some 15) rfl rfl Tryd.func45 (by kernel_rfl) rfl #[.agg #[.int .i64 ((Qg l0_3 x9_1).f0),.int .i64 ((Qg l0_3 x9_1).f1),.string ((Qg l0_3 x9_1).f2),.slice A118_3 ((Qg l0_3 x9_1).f3).length c118_3]] rfl (by(try simp only [List.map_toArray,List.map_cons,List.map_nil]);rfl) ?_;(with_reducible refine(ih k1 (by have:=HK1.out;omega) ((Qg l0_3 x9_1).f0) ((Qg l0_3 x9_1).f1) ((Qg l0_3 x9_1).f2) _ _ ((Qg l0_3 x9_1).f3) t120 _ (Kd.C_below HR118_3.out (by repeat(with_reducible first|exact HB.out|refine Xf ?_ GE119.out))) HC118_3.out A7.out).mono ?_);rintro e w12 ⟨rfl,hb⟩;refine⟨_,rfl,?_⟩;replace BK117:=Qa.mk (Q1 (g:=gb117) (o:=.cells #[.int .i64 a0_0,.int .i64 a0_1,.string a0_2,.slice (some ad118) l0_3.length c0_3] 26 (0,0)) (by refine Xg ?_ NB117_119.out _;refine Xg ?_ NB117_119.out _;refine Xg ?_ NB117_119.out _;refine Xg ?_ NB117_119.out _;exact BK117.out) hb);replace BK119:=Qa.mk (Q1 (g:=gb119) (o:=.cells #[.int .i64 ((Qg l0_3 x9_1).f0),.int .i64 ((Qg l0_3 x9_1).f1),.string ((Qg l0_3 x9_1).f2),.slice A118_3 ((Qg l0_3 x9_1).f3).length c118_3] 26 (0,0)) (by refine Qt (cs:=#[.int .i64 ((Qg l0_3 x9_1).f0),.int .i64 ((Qg l0_3 x9_1).f1),.string ((Qg l0_3 x9_1).f2),.slice none 0 0]) ?_ 3 _ rfl;refine Qt (cs:=#[.int .i64 ((Qg l0_3 x9_1).f0),.int .i64 ((Qg l0_3 x9_1).f1),.string (⟨#[]⟩ :ByteArray),.slice none 0 0]) ?_ 2 _ rfl;refine Qt (cs:=#[.int .i64 ((Qg l0_3 x9_1).f0),.int .i64 0,.string (⟨#[]⟩ :ByteArray),.slice none 0 0]) ?_ 1 _ rfl;refine Qt (cs:=#[.int .i64 0,.int .i64 0,.string (⟨#[]⟩ :ByteArray),.slice none 0 0]) ?_ 0 _ rfl;exact BK119.out) hb);replace HB:=Qa.mk (Qr (by repeat(with_reducible first|exact HB.out|refine Xf ?_ GE119.out)) hb);(try clear hb)))
   go_roundg k1
   case measure=>have:=HK1.out;omega
   case rel=>exact⟨ji8,(wrap64 (x9_1+1)),(by rfl),(by rfl),H',⟨by have:=HK1.out;omega⟩,⟨BK117.out⟩,⟨HB.out⟩⟩
def V9.f (a0:Int):Option (Bool):=if a0=0 then(some true) else(if a0 ≥ 7 then(if a0≤13 then(some true) else(if a0 ≥ 20 then(some (decide (a0≤22))) else(some false))) else(if a0 ≥ 20 then(some (decide (a0≤22))) else(some false)))
set_option maxHeartbeats 8000000 in
set_option maxRecDepth 100000 in
theorem V9.calls (a0:Int) (r:Bool) (w:World) (h:V9.f a0=some r):
 Calls Tryd.prog 115 #[.int .i64 a0] w fun e w'=>e=.returned (.bool r)∧Qk w w':=by
 have H:(if a0=0 then(some true) else(if a0 ≥ 7 then(if a0≤13 then(some true) else(if a0 ≥ 20 then(some (decide (a0≤22))) else(some false))) else(if a0 ≥ 20 then(some (decide (a0≤22))) else(some false))))=some r:=h;clear h;by_cases c2:a0=0
 ·rw [if_pos c2] at H;have c2b0:(a0==0)=true:=beq_iff_eq.mpr c2;clear c2;obtain rfl:=Option.some.inj H;go_enter Tryd.func115,Tryd.ntmps115;go_wp2;go_ret;exact⟨by rfl,by repeat(exact Qk.refl _)⟩
 rw [if_neg c2] at H;have c2b0:(a0==0)=false:=beq_eq_false_iff_ne.mpr c2;by_cases c3:a0 ≥ 7
 rotate_left
 ·rw [if_neg c3] at H;have c3b0:decide (7≤a0)=false:=decide_eq_false c3;clear c3;by_cases c6:a0 ≥ 20
  ·rw [if_pos c6] at H;have c6b0:decide (20≤a0)=true:=decide_eq_true c6;clear c6;obtain rfl:=Option.some.inj H;go_enter Tryd.func115,Tryd.ntmps115;go_wp2;go_ret;exact⟨by rfl,by repeat(exact Qk.refl _)⟩
  rw [if_neg c6] at H;have c6b0:decide (20≤a0)=false:=decide_eq_false c6;clear c6;obtain rfl:=Option.some.inj H;go_enter Tryd.func115,Tryd.ntmps115;go_wp2;go_ret;exact⟨by rfl,by repeat(exact Qk.refl _)⟩
 rw [if_pos c3] at H;have c3b0:decide (7≤a0)=true:=decide_eq_true c3;clear c3;by_cases c4:a0≤13
 ·rw [if_pos c4] at H;have c4b0:decide (a0≤13)=true:=decide_eq_true c4;clear c4;obtain rfl:=Option.some.inj H;go_enter Tryd.func115,Tryd.ntmps115;go_wp2;go_ret;exact⟨by rfl,by repeat(exact Qk.refl _)⟩
 rw [if_neg c4] at H;have c4b0:decide (a0≤13)=false:=decide_eq_false c4;clear c4;by_cases c5:a0 ≥ 20
 ·rw [if_pos c5] at H;have c5b0:decide (20≤a0)=true:=decide_eq_true c5;clear c5;obtain rfl:=Option.some.inj H;go_enter Tryd.func115,Tryd.ntmps115;go_wp2;go_ret;exact⟨by rfl,by repeat(exact Qk.refl _)⟩
 rw [if_neg c5] at H;have c5b0:decide (20≤a0)=false:=decide_eq_false c5;clear c5;obtain rfl:=Option.some.inj H;go_enter Tryd.func115,Tryd.ntmps115;go_wp2;go_ret;exact⟨by rfl,by repeat(exact Qk.refl _)⟩
mutual
def X0.j0:Nat→Int→Bool→Option (Int)
 |0,_,_=>none
 |k+1,x0,x3=>if x3=true then(some 0) else(if x0 ≥ 3 then(if x0≤6 then(X0.j1 k x0 true) else(X0.j1 k x0 (x0==26))) else(X0.j1 k x0 (x0==26)))
def X0.j1:Nat→Int→Bool→Option (Int)
 |0,_,_=>none
 |k+1,x0,x10=>if x10=true then(some 1) else(if x0=25 then(some 3) else(if x0 ≥ 7 then(if x0≤24 then(some 2) else(some (-1))) else(some (-1))))
end
def X0.f (k:Nat) (a0:Int):Option (Int):=if a0=1 then(X0.j0 k a0 true) else(X0.j0 k a0 (a0==2))
theorem X0.mono_l:∀k,(∀y0 y1,LeO (X0.j0 k y0 y1) (X0.j0 (k+1) y0 y1))∧(∀y0 y1,LeO (X0.j1 k y0 y1) (X0.j1 (k+1) y0 y1))
 |0=>⟨fun _ _ r h=>by simp [X0.j0] at h,fun _ _ r h=>by simp [X0.j1] at h⟩
 |k+1=>by
  obtain⟨ih0,ih1⟩ :=X0.mono_l k;refine⟨?_,?_⟩
  ·intro y0 y1;unfold X0.j0;repeat' first
   |(with_reducible exact ih1 _ _)
   |(with_reducible exact LeO.refl _)
   |(with_reducible refine LeO.ite ?_ ?_)
  intro y0 y1;unfold X0.j1;repeat' (with_reducible exact LeO.refl _)
theorem X0.mono:∀a0 k,LeO (X0.f k a0) (X0.f (k+1) a0):=by
 intro a0 k;obtain⟨ih0,ih1⟩ :=X0.mono_l k;unfold X0.f
 repeat' first
  |(with_reducible exact ih0 _ _)
  |(with_reducible refine LeO.ite ?_ ?_)
set_option maxHeartbeats 8000000 in
set_option maxRecDepth 100000 in
theorem X0.calls (k:Nat) (a0:Int) (r:Int) (w:World) (h:X0.f k a0=some r):
 Calls Tryd.prog 116 #[.int .i64 a0] w fun e w'=>e=.returned (.int .i64 r)∧Qk w w':=by
 have H:(if a0=1 then(X0.j0 k a0 true) else(X0.j0 k a0 (a0==2)))=some r:=h;clear h;have HC2:=Qa.mk H;clear H;go_enter Tryd.func116,Tryd.ntmps116;go_upto_region 1 with (fail)
 go_cut [3] (fun v3 wc=>∃(kq:Nat) (x3_1:Bool),v3=.bool x3_1∧Qa (X0.j0 kq a0 x3_1=some r)∧Qa (kq≤k)∧Qk w wc)
 case first=>
  have H:=HC2.out;clear HC2;by_cases c3:a0=1
  rotate_left
  ·rw [if_neg c3] at H;have c3b0:(a0==1)=false:=beq_eq_false_iff_ne.mpr c3;have H':=Qa.mk H;clear H;go_wp2
   go_meet
   case rel=>exact⟨_,((a0==2)),(by rfl),H',⟨by omega⟩,by repeat(exact Qk.refl _)⟩
  rw [if_pos c3] at H;have c3b0:(a0==1)=true:=beq_iff_eq.mpr c3;clear c3;have H':=Qa.mk H;clear H;go_wp2
  go_meet
  case rel=>exact⟨_,true,(by rfl),H',⟨by omega⟩,by repeat(exact Qk.refl _)⟩
 case rest=>
  clear HC2;obtain⟨kq,x3_1,rfl,HA,HJ1,⟨mc1,rfl⟩⟩ :=hcut
  cases kq with
  |zero=>exact absurd HA.out (by simp [X0.j0])
  |succ kj1=>
   have H:=HA.out;clear HA;simp only [X0.j0] at H;by_cases c4:x3_1=true
   ·subst c4;have H1:(some 0)=some r:=by rw [if_pos rfl] at H;exact H
    clear H;have H:=H1;clear H1;obtain rfl:=Option.some.inj H;go_wp2;go_ret;exact⟨by rfl,by repeat(first|exact Qk.refl _|apply Qk.step)⟩
   replace c4:=Bool.eq_false_iff.mpr c4;subst c4;have H1:(if a0 ≥ 3 then(if a0≤6 then(X0.j1 kj1 a0 true) else(X0.j1 kj1 a0 (a0==26))) else(X0.j1 kj1 a0 (a0==26)))=some r:=by rw [if_neg (show ¬(false=true) by decide)] at H;exact H
   clear H;have H:=H1;clear H1;have HC5:=Qa.mk H;clear H;go_upto_region 3 with (fail)
   go_cut [10] (fun v10 wc=>∃(kq:Nat) (x10_4:Bool),v10=.bool x10_4∧Qa (X0.j1 kq a0 x10_4=some r)∧Qa (kq≤kj1)∧Qk w wc)
   case first=>
    have H:=HC5.out;clear HC5;by_cases c6:a0 ≥ 3
    rotate_left
    ·rw [if_neg c6] at H;have c6b0:decide (3≤a0)=false:=decide_eq_false c6;clear c6;have H':=Qa.mk H;clear H;go_wp2
     go_meet
     case rel=>exact⟨_,((a0==26)),(by rfl),H',⟨by have:=HJ1.out;omega⟩,by repeat(first|exact Qk.refl _|apply Qk.step)⟩
    rw [if_pos c6] at H;have c6b0:decide (3≤a0)=true:=decide_eq_true c6;clear c6;by_cases c7:a0≤6
    ·rw [if_pos c7] at H;have c7b0:decide (a0≤6)=true:=decide_eq_true c7;clear c7;have H':=Qa.mk H;clear H;go_wp2
     go_meet
     case rel=>exact⟨_,true,(by rfl),H',⟨by have:=HJ1.out;omega⟩,by repeat(first|exact Qk.refl _|apply Qk.step)⟩
    rw [if_neg c7] at H;have c7b0:decide (a0≤6)=false:=decide_eq_false c7;clear c7;have H':=Qa.mk H;clear H;go_wp2
    go_meet
    case rel=>exact⟨_,((a0==26)),(by rfl),H',⟨by have:=HJ1.out;omega⟩,by repeat(first|exact Qk.refl _|apply Qk.step)⟩
   case rest=>
    clear HC5;obtain⟨kq,x10_4,rfl,HA,HJ4,⟨mc4,rfl⟩⟩ :=hcut
    cases kq with
    |zero=>exact absurd HA.out (by simp [X0.j1])
    |succ kj4=>
     have H:=HA.out;clear HA;simp only [X0.j1] at H;by_cases c8:x10_4=true
     ·subst c8;have H1:(some 1)=some r:=by rw [if_pos rfl] at H;exact H
      clear H;have H:=H1;clear H1;obtain rfl:=Option.some.inj H;go_wp2;go_ret;exact⟨by rfl,by repeat(first|exact Qk.refl _|apply Qk.step)⟩
     replace c8:=Bool.eq_false_iff.mpr c8;subst c8;have H1:(if a0=25 then(some 3) else(if a0 ≥ 7 then(if a0≤24 then(some 2) else(some (-1))) else(some (-1))))=some r:=by rw [if_neg (show ¬(false=true) by decide)] at H;exact H
     clear H;have H:=H1;clear H1;by_cases c9:a0=25
     ·rw [if_pos c9] at H;have c9b0:(a0==25)=true:=beq_iff_eq.mpr c9;clear c9;obtain rfl:=Option.some.inj H;go_wp2;go_ret;exact⟨by rfl,by repeat(first|exact Qk.refl _|apply Qk.step)⟩
     rw [if_neg c9] at H;have c9b0:(a0==25)=false:=beq_eq_false_iff_ne.mpr c9;by_cases c10:a0 ≥ 7
     rotate_left
     ·rw [if_neg c10] at H;have c10b0:decide (7≤a0)=false:=decide_eq_false c10;clear c10;obtain rfl:=Option.some.inj H;go_wp2;go_ret;exact⟨by rfl,by repeat(first|exact Qk.refl _|apply Qk.step)⟩
     rw [if_pos c10] at H;have c10b0:decide (7≤a0)=true:=decide_eq_true c10;clear c10;by_cases c11:a0≤24
     ·rw [if_pos c11] at H;have c11b0:decide (a0≤24)=true:=decide_eq_true c11;clear c11;obtain rfl:=Option.some.inj H;go_wp2;go_ret;exact⟨by rfl,by repeat(first|exact Qk.refl _|apply Qk.step)⟩
     rw [if_neg c11] at H;have c11b0:decide (a0≤24)=false:=decide_eq_false c11;clear c11;obtain rfl:=Option.some.inj H;go_wp2;go_ret;exact⟨by rfl,by repeat(first|exact Qk.refl _|apply Qk.step)⟩
mutual
def X6.l0:Nat→Int→List (S26)→Int→Int→Option (Int)
 |0,_,_,_,_=>none
 |k+1,x3,x7,x8,x9=>if x9 < x8 then(if 0≤x9 then(if x9 < (x7.length:Int) then(if x3 > 4096 then(some x3) else((X6.f k ((Qg x7 x9).f0) ((Qg x7 x9).f1) ((Qg x7 x9).f2) ((Qg x7 x9).f3)).bind fun t130=>(X6.l0 k (wrap64 (x3+t130)) x7 x8 (wrap64 (x9+1))))) else(none)) else(none)) else(some x3)
def X6.f:Nat→Int→Int→ByteArray→List (S26)→Option (Int)
 |0,_,_,_,_=>none
 |k+1,a0_0,a0_1,a0_2,l0_3=>X6.l0 k 1 l0_3 (l0_3.length:Int) 0
end
theorem X6.mono_l:∀k,(∀y0 y1 y2 y3,LeO (X6.f k y0 y1 y2 y3) (X6.f (k+1) y0 y1 y2 y3))∧(∀y0 y1 y2 y3,LeO (X6.l0 k y0 y1 y2 y3) (X6.l0 (k+1) y0 y1 y2 y3))
 |0=>⟨fun _ _ _ _ r h=>by simp [X6.f] at h,fun _ _ _ _ r h=>by simp [X6.l0] at h⟩
 |k+1=>by
  obtain⟨ih0,ih1⟩ :=X6.mono_l k;refine⟨?_,?_⟩
  ·intro y0 y1 y2 y3;unfold X6.f;repeat' (with_reducible exact ih1 _ _ _ _)
  intro y0 y1 y2 y3;unfold X6.l0;repeat' first
  |(with_reducible exact ih0 _ _ _ _)
  |(with_reducible exact ih1 _ _ _ _)
  |(with_reducible exact LeO.refl _)
  |(with_reducible refine LeO.ite ?_ ?_)
  |(with_reducible refine LeO.bind ?_ (fun _=>?_))
theorem X6.mono:∀a0 a1 a2 a3 k,LeO (X6.f k a0 a1 a2 a3) (X6.f (k+1) a0 a1 a2 a3):=by
 intro a0 a1 a2 a3 k;obtain⟨ih0,ih1⟩ :=X6.mono_l k;exact ih0 a0 a1 a2 a3
end Go.Proofs.YtglmdfddgmkmaaaDoor.Q
end

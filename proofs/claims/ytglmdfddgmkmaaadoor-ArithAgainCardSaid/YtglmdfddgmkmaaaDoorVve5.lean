/- Parse returns valid trees; formatting a parsed expression and parsing the result gives the same tree and, formatted again, the same string (P5.5): ArithAgain answers true for every string; no condition beyond those of the statement itself (the tables that its row lays). Last part: the law, its plain law, its row and its card. -/
import Derived.ChangeOld
import Derived.SizedLaws
import Derived.SevenTiedAt
import Derived.ShutString
import Derived.Test.YtglmdfddgmkmaaaDoorCards
import Derived.Test.YtglmdfddgmkmaaaDoorTie
import Derived.Test.YtglmdfddgmkmaaaDoorVve4
section
namespace Go.Proofs.YtglmdfddgmkmaaaDoor.Q
open Go.RowKit Go.Proofs.YtglmdfddgmkmaaaDoorW.PrintWords
set_option linter.unusedVariables false
set_option linter.unusedSimpArgs false
def bodyL (m : Nat) (x : S26) : List UInt8 :=
 if x.f0 = 26 then sl x.f2 ++ 32 :: (asg x.f1 ++ 32 :: showL m (kid x 0) 1)
  else if x.f0 = 25 then showL m (kid x 0) 3 ++ 32 :: 63 :: 32 :: (showL m (kid x 1) 1 ++ 32 :: 58 :: 32 :: showL m (kid x 2) 2)
  else if x.f0 = 1 then itoaL x.f1
  else if x.f0 = 2 then sl x.f2
  else if x.f0 ≤ 6 then sg x.f0 ++ showL m (kid x 0) 13
  else showL m (kid x 0) (hgt x.f0) ++ 32 :: (sg x.f0 ++ 32 :: showL m (kid x 1) (hgt x.f0 + 1))
theorem showL_eq (m : Nat) (x : S26) (least : Nat) : showL (m + 1) x least = if hgt x.f0 < least then 40 :: (bodyL m x ++ [41]) else bodyL m x := rfl
theorem body_num (m : Nat) (n : Int) : bodyL m ⟨1, n, noName, []⟩ = itoaL n := rfl
theorem body_var (m : Nat) (t : ByteArray) : bodyL m ⟨2, 0, t, []⟩ = sl t := rfl
theorem body_un (m : Nat) (op : Int) (a : S26) (h0 : 3 ≤ op) (h1 : op ≤ 6) : bodyL m ⟨op, 0, noName, [a]⟩ = sg op ++ showL m a 13 := by
 unfold bodyL
 simp only
 rw [if_neg (by omega), if_neg (by omega), if_neg (by omega), if_neg (by omega), if_pos h1]
 rfl
theorem body_bin (m : Nat) (op : Int) (a b : S26) (h0 : 7 ≤ op) (h1 : op ≤ 24) : bodyL m ⟨op, 0, noName, [a, b]⟩ = showL m a (hgt op) ++ 32 :: (sg op ++ 32 :: showL m b (hgt op + 1)) := by
 unfold bodyL
 simp only
 rw [if_neg (by omega), if_neg (by omega), if_neg (by omega), if_neg (by omega), if_neg (by omega)]
 rfl
theorem body_cond (m : Nat) (a b c : S26) : bodyL m ⟨25, 0, noName, [a, b, c]⟩ = showL m a 3 ++ 32 :: 63 :: 32 :: (showL m b 1 ++ 32 :: 58 :: 32 :: showL m c 2) := rfl
theorem body_set (m : Nat) (n : Int) (t : ByteArray) (a : S26) : bodyL m ⟨26, n, t, [a]⟩ = sl t ++ 32 :: (asg n ++ 32 :: showL m a 1) := rfl
theorem good40 : good 40 := ⟨rfl, by decide⟩
theorem show_head_of (m : Nat) (x : S26) (h : ∃ b l, bodyL m x = b :: l ∧ good b) (n : Nat) : ∃ b l, showL (m + 1) x n = b :: l ∧ good b := by
 rw [showL_eq]
 split
 ·exact ⟨_, _, rfl, good40⟩
 ·exact h
theorem show_head : ∀ {m : Nat} {x : S26}, V m x → ∀ n, ∃ b l, showL m x n = b :: l ∧ good b := by
 intro m x h
 induction h with
 | num m n h0 h1 => exact show_head_of _ _ (itoa_head h0)
 | var m t h =>
  obtain ⟨b, l, h1, h2, _⟩ := name_bytes h
  exact show_head_of _ _ ⟨b, l, by rw [body_var, h1], good_wrd (h2 b (by rw [h1]; simp))⟩
 | un m op a h0 h1 _ _ =>
  obtain ⟨b, h2, h3, _⟩ := un_facts h0 h1
  exact show_head_of _ _ ⟨b, _, by rw [body_un _ _ _ h0 h1, h2]; rfl, h3⟩
 | bin m op a b h0 h1 _ _ ih _ =>
  obtain ⟨c, l, h2, h3⟩ := ih (hgt op)
  exact show_head_of _ _ ⟨c, _, by rw [body_bin _ _ _ _ h0 h1, h2]; rfl, h3⟩
 | cond m a b c _ _ _ ih _ _ =>
  obtain ⟨c, l, h2, h3⟩ := ih 3
  exact show_head_of _ _ ⟨c, _, by rw [body_cond, h2]; rfl, h3⟩
 | set m n t a h0 h1 _ _ =>
  obtain ⟨b, l, h1, h2, _⟩ := name_bytes h1
  exact show_head_of _ _ ⟨b, _, by rw [body_set, h1]; rfl, good_wrd (h2 b (by rw [h1]; simp))⟩
/-- What may follow a whole expression: no operator, no '?', no assignment. -/
def Fq (U : List UInt8) : Prop := Lo 3 U ∧ ¬ (tk U).toList = [63]
def Fa (U : List UInt8) : Prop := Fq U ∧ ∃ o, arith_assignment.f 1 (tk U) = some (o, false)
def Rl (s : ByteArray) (f : Nat → List UInt8) (x : S26) : Prop := ∀ (n : Nat) rest r, 3 ≤ n → n ≤ 12 → (f n ++ rest) <:+ sl s → sep rest → Lo (n + 1) (Vb rest) → E s (.more n x) (Vb rest) r → E s (.level n) (f n ++ rest) r
def R13 (s : ByteArray) (f : Nat → List UInt8) (x : S26) : Prop := ∀ rest, (f 13 ++ rest) <:+ sl s → sep rest → E s .operand (f 13 ++ rest) (okL s x (Vb rest))
def R2 (s : ByteArray) (f : Nat → List UInt8) (x : S26) : Prop := ∀ rest, (f 2 ++ rest) <:+ sl s → sep rest → Fq (Vb rest) → E s .second (f 2 ++ rest) (okL s x (Vb rest))
def R1 (s : ByteArray) (f : Nat → List UInt8) (x : S26) : Prop := ∀ rest, (f 1 ++ rest) <:+ sl s → sep rest → Fa (Vb rest) → E s .first (f 1 ++ rest) (okL s x (Vb rest))
def RT (s : ByteArray) (f : Nat → List UInt8) (x : S26) : Prop := Rl s f x ∧ R13 s f x ∧ R2 s f x ∧ R1 s f x
section
variable {s : ByteArray} {x : S26} {B : List UInt8}
/-- An operand's text that stands as it is on all levels. -/
theorem rt_operand {f : Nat → List UInt8} {n : Nat} {rest} (hE : E s .operand (f n ++ rest) (okL s x (Vb rest))) :
 (∀ r, n ≤ 12 → Lo (n + 1) (Vb rest) → E s (.more n x) (Vb rest) r → E s (.level n) (f n ++ rest) r) ∧ (Fq (Vb rest) → E s .second (f n ++ rest) (okL s x (Vb rest))) ∧ (Fa (Vb rest) → E s .first (f n ++ rest) (okL s x (Vb rest))) := by
 have h2 : Fq (Vb rest) → E s .second (f n ++ rest) (okL s x (Vb rest)) := fun h => E.second_stop (hE.lift 3 (by omega) h.1) h.2
 refine ⟨fun r hn hL hr => hE.lift_more n hn hL hr, h2, fun h => ?_⟩
 obtain ⟨h1, o, ho⟩ := h
 exact (h2 h1).first_stop ho (by simp)
theorem sep41 (rest : List UInt8) : sep (41 :: rest) := .inr ⟨41, rest, rfl, .inr rfl⟩
theorem sep32 (rest : List UInt8) : sep (32 :: rest) := .inr ⟨32, rest, rfl, .inl rfl⟩
theorem one {c : UInt8} {rest : List UInt8} (hc : wrdB c = false) (hb : c ∉ ([60, 62, 61, 33, 38, 124, 43, 45, 42, 47, 37, 94] : List UInt8)) : tk (c :: rest) = ⟨#[c]⟩ ∧ nx (c :: rest) = Vb rest := lex_of (w := [c]) (lex_one hc hb)
theorem Fa41 (rest : List UInt8) : Fa (Vb (41 :: rest)) := by
 rw [Vb_good rfl]
 obtain ⟨h1, _⟩ := one (c := 41) (rest := rest) rfl (by decide)
 refine ⟨⟨⟨0, 0, by rw [h1]; exact bi41, by omega⟩, by rw [h1, Go.ByteArray.toList_eq]; decide⟩, 0, by rw [h1]; exact as41⟩
/-- A text in parentheses. -/
theorem rt_paren (hB : ∀ rest, (B ++ rest) <:+ sl s → sep rest → Fa (Vb rest) → E s .first (B ++ rest) (okL s x (Vb rest))) (hh : ∃ b l, B = b :: l ∧ good b) : ∀ rest, (40 :: (B ++ [41]) ++ rest) <:+ sl s → E s .operand (40 :: (B ++ [41]) ++ rest) (okL s x (Vb rest)) := by
 intro rest hS
 rw [List.cons_append, List.append_assoc] at hS ⊢
 have hS2 : (B ++ ([41] ++ rest)) <:+ sl s := (List.suffix_cons _ _).trans hS
 have hS3 : ([41] ++ rest) <:+ sl s := (List.suffix_append _ _).trans hS2
 have h1 := hB ([41] ++ rest) hS2 (sep41 _) (Fa41 _)
 obtain ⟨t0, n0⟩ := one (c := 40) (rest := B ++ ([41] ++ rest)) rfl (by decide)
 obtain ⟨t1, n1⟩ := one (c := 41) (rest := rest) rfl (by decide)
 have e : Vb ([41] ++ rest) = 41 :: rest := Vb_good rfl
 obtain ⟨b, l, rfl, hg⟩ := hh
 have e0 : Vb (b :: l ++ ([41] ++ rest)) = b :: l ++ ([41] ++ rest) := Vb_good hg.1
 have h2 := E.paren (L := 40 :: (b :: l ++ ([41] ++ rest))) (U := 41 :: rest) (y := x) hS hS3 (by rw [t0]; kernel_rfl) (by rw [t0, Go.ByteArray.toList_eq]) (by rw [n0, e0, ← e]; exact h1) (by rw [t1, Go.ByteArray.toList_eq])
 rw [n1] at h2
 exact h2
theorem E.to_ok {n : Nat} {L U} (hn : n ≤ 12) (h : ∀ r, E s (.more n x) U r → E s (.level n) L r) (hL : Lo n U) : E s (.level n) L (okL s x U) := by
 obtain ⟨o, l, h1, h2⟩ := hL
 exact h _ (E.more_stop h1 (by omega))
/-- A body of height h in its places. -/
theorem rt_of {m : Nat} (hh : ∃ b l, bodyL m x = b :: l ∧ good b)
 (h1 : ∀ rest, (bodyL m x ++ rest) <:+ sl s → sep rest → Fa (Vb rest) → E s .first (bodyL m x ++ rest) (okL s x (Vb rest)))
 (h2 : 2 ≤ hgt x.f0 → ∀ rest, (bodyL m x ++ rest) <:+ sl s → sep rest → Fq (Vb rest) → E s .second (bodyL m x ++ rest) (okL s x (Vb rest)))
 (h3 : ∀ n, 3 ≤ n → n ≤ 12 → n ≤ hgt x.f0 → ∀ rest r, (bodyL m x ++ rest) <:+ sl s → sep rest → Lo (n + 1) (Vb rest) → E s (.more n x) (Vb rest) r → E s (.level n) (bodyL m x ++ rest) r)
 (h4 : 13 ≤ hgt x.f0 → ∀ rest, (bodyL m x ++ rest) <:+ sl s → sep rest → E s .operand (bodyL m x ++ rest) (okL s x (Vb rest))) (hp : 1 ≤ hgt x.f0) : RT s (showL (m + 1) x) x := by
 have P := rt_paren h1 hh
 refine ⟨fun n rest r ha hb hS hs hL hr => ?_, fun rest hS hs => ?_, fun rest hS hs hq => ?_, fun rest hS hs hq => ?_⟩
 ·rw [showL_eq] at hS ⊢
  split
  ·rename_i hc
   rw [if_pos hc] at hS
   exact (rt_operand (f := fun _ => 40 :: (bodyL m x ++ [41])) (n := n) (P rest hS)).1 r hb hL hr
  ·rename_i hc
   rw [if_neg hc] at hS
   exact h3 n ha hb (by omega) rest r hS hs hL hr
 ·rw [showL_eq] at hS ⊢
  split
  ·rename_i hc
   rw [if_pos hc] at hS
   exact P rest hS
  ·rename_i hc
   rw [if_neg hc] at hS
   exact h4 (by omega) rest hS hs
 ·rw [showL_eq] at hS ⊢
  split
  ·rename_i hc
   rw [if_pos hc] at hS
   exact (rt_operand (f := fun _ => 40 :: (bodyL m x ++ [41])) (n := 2) (P rest hS)).2.1 hq
  ·rename_i hc
   rw [if_neg hc] at hS
   exact h2 (by omega) rest hS hs hq
 ·rw [showL_eq] at hS ⊢
  rw [if_neg (by omega)] at hS ⊢
  exact h1 rest hS hs hq
/-- Operands: height 13 and more. -/
theorem rt_op {m : Nat} (hh : ∃ b l, bodyL m x = b :: l ∧ good b) (hx : 13 ≤ hgt x.f0) (h : ∀ rest, (bodyL m x ++ rest) <:+ sl s → sep rest → E s .operand (bodyL m x ++ rest) (okL s x (Vb rest))) : RT s (showL (m + 1) x) x :=
 rt_of hh (fun rest hS hs hq => (rt_operand (f := fun _ => bodyL m x) (n := 1) (h rest hS hs)).2.2 hq)
  (fun _ rest hS hs hq => (rt_operand (f := fun _ => bodyL m x) (n := 2) (h rest hS hs)).2.1 hq)
  (fun n _ hn _ rest r hS hs hL hr => (rt_operand (f := fun _ => bodyL m x) (n := n) (h rest hS hs)).1 r hn hL hr) (fun _ => h) (by omega)
end
theorem name_read {s : ByteArray} {t : ByteArray} {rest : List UInt8} (h : nameB t = true) (hS : (sl t ++ rest) <:+ sl s) (hsep : sep rest) : E s .operand (sl t ++ rest) (okL s ⟨2, 0, t, []⟩ (Vb rest)) := by
 obtain ⟨b, l, h1, h2, h3⟩ := name_bytes h
 have hb : wrdB b = true := h2 b (by rw [h1]; simp)
 obtain ⟨e1, e2⟩ := lex_of (lex_word (rest := rest) (by rw [h1]; simp) h2 (sep_wrd hsep))
 rw [sl_mk] at e1
 obtain ⟨b1, b2⟩ := bt0 h1
 have := E.name (L := sl t ++ rest) hS (by rw [e1]; exact un_word h1 hb) (by rw [e1]; exact ne40_word h1 hb) (by rw [e1]; exact b2) (by rw [e1, b1]; exact wb_of hb) (by
  rw [e1, b1]
  unfold arith_digit.f
  split
  ·simp
   omega
  ·simp) (by rw [e1]; exact h)
 rw [e1, e2] at this
 exact this
theorem name_bare {s t : ByteArray} {U : List UInt8} (h : nameB t = true) (hS : (sl t ++ 32 :: U) <:+ sl s) : bareN s (pl s U) = true := by
 obtain ⟨A, hA⟩ := hS
 obtain ⟨b, l, h1, h2, h3⟩ := name_bytes h
 have hn : t.size = l.length + 1 := by rw [← sl_length, h1]; rfl
 have hl : s.size = A.length + (t.size + (U.length + 1)) := by
  rw [← sl_length s, ← hA]
  simp [sl_length]
 have e : pl s U = A.length + l.length + 1 + 1 := by unfold pl; omega
 -- the byte at place i of s
 have at_ : ∀ i, i < s.size → ∀ c, (A ++ (sl t ++ 32 :: U))[i]? = some c → bt s (i : Int) = (c.toNat : Int) := by
  intro i hi c hc
  rw [hA] at hc
  rw [sl_bt s i hi]
  rw [List.getElem?_eq_getElem (by rw [sl_length]; exact hi)] at hc
  have hc := Option.some.inj hc
  rw [← hc]
 have v1 : bt s ((A.length + l.length + 1 : Nat) : Int) = 32 := by
  rw [at_ _ (by omega) 32]
  ·rfl
  ·rw [List.getElem?_append_right (by omega), List.getElem?_append_right (by rw [sl_length]; omega)]
   rw [show A.length + l.length + 1 - A.length - (sl t).length = 0 by rw [sl_length]; omega]
   rfl
 obtain ⟨c, hc⟩ : ∃ c, (sl t)[l.length]? = some c := ⟨_, List.getElem?_eq_getElem (by rw [sl_length]; omega)⟩
 have v2 : bt s ((A.length + l.length : Nat) : Int) = (c.toNat : Int) := by
  refine at_ _ (by omega) c ?_
  rw [List.getElem?_append_right (by omega), List.getElem?_append_left (by rw [sl_length]; omega)]
  rw [show A.length + l.length - A.length = l.length by omega]
  exact hc
 have hw := h2 c (List.mem_of_getElem? hc)
 rw [wrd_iff] at hw
 rw [e]
 have e1 : bareN s (A.length + l.length + 1 + 1) = if isBl (bt s ((A.length + l.length + 1 : Nat) : Int)) = true then bareN s (A.length + l.length + 1) else !(bt s ((A.length + l.length + 1 : Nat) : Int) == 41) := rfl
 have e2 : bareN s (A.length + l.length + 1) = if isBl (bt s ((A.length + l.length : Nat) : Int)) = true then bareN s (A.length + l.length) else !(bt s ((A.length + l.length : Nat) : Int) == 41) := rfl
 rw [e1, e2, v1, v2]
 rw [if_pos (by rfl)]
 have hb : isBl (c.toNat : Int) = false := by
  unfold isBl
  simp
  omega
 rw [hb]
 simp
 omega
theorem tok_then {w rest : List UInt8} {b : UInt8} (h1 : ∃ b l, w = b :: l ∧ blkB b = false ∧ wrdB b = false) (h2 : w.length ≤ 3) (h3 : w.length = 1 ∨ oprB w = true) : tk (w ++ 32 :: rest) = ⟨w.toArray⟩ ∧ nx (w ++ 32 :: rest) = Vb rest ∧ Vb (w ++ 32 :: rest) = w ++ 32 :: rest := by
 obtain ⟨b, l, rfl, hb, hw⟩ := h1
 obtain ⟨e1, e2⟩ := lex_of (lex_op_then (w := b :: l) (rest := rest) (b := 32) (by simp) h2 (fun c hc => by simp at hc; exact hc ▸ hw) h3 (by decide))
 exact ⟨e1, e2.trans (Vb_sp rest), Vb_good hb⟩
theorem read_back {s : ByteArray} (hsz : s.size ≤ 4096) : ∀ {m : Nat} {x : S26}, V m x → RT s (showL m x) x := by
 intro m x h
 induction h with
 | num m n h0 h1 => exact rt_op (by rw [body_num]; exact itoa_head h0) (show 13 ≤ hgt 1 by decide) (fun rest hS hs => by rw [body_num] at hS ⊢; exact itoa_read hsz h0 h1 hS hs)
 | var m t h =>
  refine rt_op ?_ (show 13 ≤ hgt 2 by decide) (fun rest hS hs => by rw [body_var] at hS ⊢; exact name_read h hS hs)
  obtain ⟨b, l, h1, h2, _⟩ := name_bytes h
  exact ⟨b, l, by rw [body_var, h1], good_wrd (h2 b (by rw [h1]; simp))⟩
 | un m op a h0 h1 ha ih =>
  obtain ⟨b, h2, h3, h4, h5, h6⟩ := un_facts h0 h1
  refine rt_op ⟨b, _, by rw [body_un _ _ _ h0 h1, h2]; rfl, h3⟩ (by show 13 ≤ hgt op; omega) (fun rest hS hs => ?_)
  rw [body_un _ _ _ h0 h1, h2] at hS ⊢
  have hS' : b :: (showL m a 13 ++ rest) <:+ sl s := by simpa using hS
  obtain ⟨c, l, hc, hg⟩ := show_head ha 13
  have lx : tk (b :: (showL m a 13 ++ rest)) = ⟨#[b]⟩ ∧ nx (b :: (showL m a 13 ++ rest)) = showL m a 13 ++ rest := by
   rw [hc]
   obtain ⟨e1, e2⟩ := lex_of (w := [b]) (rest := c :: l ++ rest) (lex_sign h4 hg.2)
   exact ⟨e1, by rw [show b :: (c :: l ++ rest) = [b] ++ (c :: l ++ rest) from rfl, e2]; exact Vb_good hg.1⟩
  have := E.sign (L := b :: (showL m a 13 ++ rest)) (o := op) hS' (by rw [lx.1]; exact h5) (by omega) (by rw [lx.2]; exact ih.2.1 rest ((List.suffix_cons _ _).trans hS') hs)
  simpa using this
 | bin m op a b h0 h1 ha hb iha ihb =>
  obtain ⟨f1, f2, f3, f4, f5, f6⟩ := bin_facts h0 h1
  have hbody := body_bin m op a b h0 h1
  have hx : hgt (⟨op, 0, noName, [a, b]⟩ : S26).f0 = hgt op := rfl
  -- the whole, followed by what the level goes on with
  have core : ∀ rest r, (bodyL m ⟨op, 0, noName, [a, b]⟩ ++ rest) <:+ sl s → sep rest → Lo (hgt op + 1) (Vb rest) → E s (.more (hgt op) ⟨op, 0, noName, [a, b]⟩) (Vb rest) r → E s (.level (hgt op)) (bodyL m ⟨op, 0, noName, [a, b]⟩ ++ rest) r := by
   intro rest r hS hs hL hr
   rw [hbody] at hS ⊢
   simp only [List.append_assoc, List.cons_append] at hS ⊢
   obtain ⟨t1, t2, t3⟩ := tok_then (rest := showL m b (hgt op + 1) ++ rest) (b := 32) f1 (by omega) f3
   have S1 : (32 :: (sg op ++ 32 :: (showL m b (hgt op + 1) ++ rest))) <:+ sl s := (List.suffix_append _ _).trans hS
   have S2 : (sg op ++ 32 :: (showL m b (hgt op + 1) ++ rest)) <:+ sl s := (List.suffix_cons _ _).trans S1
   have S3 : (showL m b (hgt op + 1) ++ rest) <:+ sl s := (List.suffix_cons _ _).trans ((List.suffix_append _ _).trans S2)
   have eU : Vb (32 :: (sg op ++ 32 :: (showL m b (hgt op + 1) ++ rest))) = sg op ++ 32 :: (showL m b (hgt op + 1) ++ rest) := by rw [Vb_sp, t3]
   refine iha.1 (hgt op) _ r f5 f6 hS (sep32 _) ⟨op, hgt op, by rw [eU, t1]; exact f4, by omega⟩ ?_
   rw [eU]
   obtain ⟨c, l, hc, hg⟩ := show_head hb (hgt op + 1)
   have eN : nx (sg op ++ 32 :: (showL m b (hgt op + 1) ++ rest)) = showL m b (hgt op + 1) ++ rest := by rw [t2, hc]; exact Vb_good hg.1
   refine E.more_go (y := b) (U := Vb rest) S2 (by rw [t1]; exact f4) ?_ hr
   rw [eN]
   rcases Nat.lt_or_ge (hgt op) 12 with h12 | h12
   ·refine ihb.1 (hgt op + 1) rest _ (by omega) (by omega) S3 hs (hL.mono (by omega)) ?_
    obtain ⟨o, l, q1, q2⟩ := hL
    exact E.more_stop q1 (by omega)
   ·have e13 : hgt op + 1 = 13 := by omega
    rw [e13] at S3 ⊢
    exact (ihb.2.1 rest S3 hs).level13
  have lev : ∀ rest, (bodyL m ⟨op, 0, noName, [a, b]⟩ ++ rest) <:+ sl s → sep rest → ∀ n, n ≤ hgt op → Lo n (Vb rest) → E s (.level n) (bodyL m ⟨op, 0, noName, [a, b]⟩ ++ rest) (okL s ⟨op, 0, noName, [a, b]⟩ (Vb rest)) := by
   intro rest hS hs n hn hL
   have h := E.to_ok f6 (fun r hr => core rest r hS hs (hL.mono (by omega)) hr) (hL.mono hn)
   exact E.down h (by omega) (hgt op - n) n (by omega) hL
  have sec : ∀ rest, (bodyL m ⟨op, 0, noName, [a, b]⟩ ++ rest) <:+ sl s → sep rest → Fq (Vb rest) → E s .second (bodyL m ⟨op, 0, noName, [a, b]⟩ ++ rest) (okL s ⟨op, 0, noName, [a, b]⟩ (Vb rest)) := fun rest hS hs hq => E.second_stop (lev rest hS hs 3 f5 hq.1) hq.2
  refine rt_of ?_ (fun rest hS hs hq => ?_) (fun _ => sec) (fun n hn3 hn hh rest r hS hs hL hr => ?_) (fun hh => ?_) (by rw [hx]; omega)
  ·obtain ⟨c, l, h2, h3⟩ := show_head ha (hgt op)
   exact ⟨c, _, by rw [hbody, h2]; rfl, h3⟩
  ·obtain ⟨h2, o, ho⟩ := hq
   exact (sec rest hS hs h2).first_stop ho (by simp)
  ·rw [hx] at hh
   rcases Nat.lt_or_ge n (hgt op) with h2 | h2
   ·exact E.level (by omega) (lev rest hS hs (n + 1) h2 hL) hr
   ·obtain rfl : n = hgt op := by omega
    exact core rest r hS hs hL hr
  ·rw [hx] at hh
   omega
 | cond m a b c ha hb hc iha ihb ihc =>
  have core : ∀ rest, (bodyL m ⟨25, 0, noName, [a, b, c]⟩ ++ rest) <:+ sl s → sep rest → Fq (Vb rest) → E s .second (bodyL m ⟨25, 0, noName, [a, b, c]⟩ ++ rest) (okL s ⟨25, 0, noName, [a, b, c]⟩ (Vb rest)) := by
   intro rest hS hs hq
   rw [body_cond] at hS ⊢
   simp only [List.append_assoc, List.cons_append] at hS ⊢
   have S1 := (List.suffix_append _ _).trans hS
   have S2 := (List.suffix_cons _ _).trans S1
   have S3 := (List.suffix_cons _ _).trans ((List.suffix_cons _ _).trans S2)
   have S4 := (List.suffix_append _ _).trans S3
   have S5 := (List.suffix_cons _ _).trans S4
   have S6 := (List.suffix_cons _ _).trans ((List.suffix_cons _ _).trans S5)
   obtain ⟨d, l, hd, hg⟩ := show_head hb 1
   obtain ⟨d', l', hd', hg'⟩ := show_head hc 2
   obtain ⟨t1, t2⟩ := one (c := 63) (rest := 32 :: (showL m b 1 ++ 32 :: 58 :: 32 :: (showL m c 2 ++ rest))) rfl (by decide)
   obtain ⟨t3, t4⟩ := one (c := 58) (rest := 32 :: (showL m c 2 ++ rest)) rfl (by decide)
   rw [Vb_sp] at t2 t4
   have v1 : Vb (32 :: 63 :: 32 :: (showL m b 1 ++ 32 :: 58 :: 32 :: (showL m c 2 ++ rest))) = 63 :: 32 :: (showL m b 1 ++ 32 :: 58 :: 32 :: (showL m c 2 ++ rest)) := by rw [Vb_sp]; exact Vb_good rfl
   have v2 : Vb (32 :: 58 :: 32 :: (showL m c 2 ++ rest)) = 58 :: 32 :: (showL m c 2 ++ rest) := by rw [Vb_sp]; exact Vb_good rfl
   have b63 : arith_binary.f ⟨#[63]⟩ = some (0, 0) := by kernel_rfl
   have b58 : arith_binary.f ⟨#[58]⟩ = some (0, 0) := by kernel_rfl
   have a58 : arith_assignment.f 1 ⟨#[58]⟩ = some (0, false) := by kernel_rfl
   have hA := iha.1 3 _ (okL s a (63 :: 32 :: (showL m b 1 ++ 32 :: 58 :: 32 :: (showL m c 2 ++ rest)))) (by omega) (by omega) hS (sep32 _) ⟨0, 0, by rw [v1, t1]; exact b63, by omega⟩ (by rw [v1]; exact E.more_stop (by rw [t1]; exact b63) (by omega))
   have hB := ihb.2.2.2 _ S3 (sep32 _) (by rw [v2]; exact ⟨⟨⟨0, 0, by rw [t3]; exact b58, by omega⟩, by rw [t3, Go.ByteArray.toList_eq]; decide⟩, 0, by rw [t3]; exact a58⟩)
   have hC := ihc.2.2.1 _ S6 hs hq
   rw [v2] at hB
   refine E.second_go S2 S5 hA (by rw [t1, Go.ByteArray.toList_eq]) ?_ (by rw [t3, Go.ByteArray.toList_eq]) ?_
   ·rw [t2, hd]
    rw [hd] at hB
    rw [show Vb (d :: l ++ 32 :: 58 :: 32 :: (showL m c 2 ++ rest)) = _ from Vb_good hg.1]
    exact hB
   ·rw [t4, hd']
    rw [hd'] at hC
    rw [show Vb (d' :: l' ++ rest) = _ from Vb_good hg'.1]
    exact hC
  have hx : hgt (⟨25, 0, noName, [a, b, c]⟩ : S26).f0 = 2 := rfl
  refine rt_of ?_ (fun rest hS hs hq => ?_) (fun _ => core) (fun n hn3 hn hh rest r hS hs hL hr => ?_) (fun hh => ?_) (by rw [hx]; omega)
  ·obtain ⟨c', l, h2, h3⟩ := show_head ha 3
   exact ⟨c', _, by rw [body_cond, h2]; rfl, h3⟩
  ·obtain ⟨h2, o, ho⟩ := hq
   exact (core rest hS hs h2).first_stop ho (by simp)
  ·rw [hx] at hh
   omega
  ·rw [hx] at hh
   omega
 | set m n t a hn ht ha ih =>
  have hx : hgt (⟨26, n, t, [a]⟩ : S26).f0 = 1 := rfl
  obtain ⟨f1, f2, f3, f4, f5⟩ := asg_facts hn
  refine rt_of ?_ (fun rest hS hs hq => ?_) (fun hh => ?_) (fun n hn3 hn hh rest r hS hs hL hr => ?_) (fun hh => ?_) (by rw [hx]; omega)
  ·obtain ⟨b, l, h1, h2, _⟩ := name_bytes ht
   exact ⟨b, _, by rw [body_set, h1]; rfl, good_wrd (h2 b (by rw [h1]; simp))⟩
  ·rw [body_set] at hS ⊢
   simp only [List.append_assoc, List.cons_append] at hS ⊢
   obtain ⟨t1, t2, t3⟩ := tok_then (rest := showL m a 1 ++ rest) (b := 32) f1 (by omega) f3
   have S1 := (List.suffix_cons _ _).trans ((List.suffix_append _ _).trans hS)
   have S2 := (List.suffix_cons _ _).trans ((List.suffix_append _ _).trans S1)
   have v1 : Vb (32 :: (asg n ++ 32 :: (showL m a 1 ++ rest))) = asg n ++ 32 :: (showL m a 1 ++ rest) := by rw [Vb_sp, t3]
   have hA := name_read ht hS (sep32 _)
   rw [v1] at hA
   have hL : ∀ k, 1 ≤ k → Lo k (asg n ++ 32 :: (showL m a 1 ++ rest)) := fun k hk => ⟨0, 0, by rw [t1]; exact f5, by omega⟩
   obtain ⟨d, l, hd, hg⟩ := show_head ha 1
   have hne : ¬ (tk (asg n ++ 32 :: (showL m a 1 ++ rest))).toList = [63] := by
    rw [t1, Go.ByteArray.toList_eq]
    intro e
    have e' : asg n = [63] := e
    rw [e'] at f4
    have : arith_assignment.f 1 ⟨#[63]⟩ = some (0, false) := by kernel_rfl
    have f4' : arith_assignment.f 1 ⟨#[63]⟩ = some (n, true) := f4
    rw [this] at f4'
    simp at f4'
   have hsec := E.second_stop (hA.lift 3 (by omega) (hL 3 (by omega))) hne
   refine E.first_go (y := a) (V := Vb rest) S1 hsec (by rw [t1]; exact f4) rfl (name_bare ht hS) ?_
   rw [t2, hd]
   have hS2 := S2
   have hB := ih.2.2.2 rest S2 hs hq
   rw [hd] at hB
   rw [show Vb (d :: l ++ rest) = _ from Vb_good hg.1]
   exact hB
  ·rw [hx] at hh
   omega
  ·rw [hx] at hh
   omega
  ·rw [hx] at hh
   omega
end Go.Proofs.YtglmdfddgmkmaaaDoor.Q
end
section
namespace Go.Proofs.YtglmdfddgmkmaaaDoor.Q
open Go.RowKit Go.Proofs.YtglmdfddgmkmaaaDoorW.PrintWords
set_option linter.unusedVariables false
set_option linter.unusedSimpArgs false
theorem ite_two {c : Prop} [Decidable c] {x y : Option (Int × Int)} (hx : ∃ o l, x = some (o, l)) (hy : ∃ o l, y = some (o, l)) : ∃ o l, (if c then x else y) = some (o, l) := by
 split
 ·exact hx
 ·exact hy
theorem binary_some (t : ByteArray) : ∃ o l, arith_binary.f t = some (o, l) := by
 unfold arith_binary.f
 repeat (refine ite_two ⟨_, _, rfl⟩ ?_)
 exact ⟨_, _, rfl⟩
theorem unary_some (t : ByteArray) : ∃ o, arith_unary.f t = some o := by
 unfold arith_unary.f
 repeat' (first | exact ⟨_, rfl⟩ | split)
theorem wrap_id {z : Int} (h0 : -9223372036854775808 ≤ z) (h1 : z ≤ 9223372036854775807) : wrap64 z = z := by
 simp only [wrap64, IntKind.wrap]
 omega
theorem asg_j0 (t : ByteArray) (b : Bool) (h : b = true ∨ 1 ≤ t.size) (h1 : t.size ≤ 9223372036854775807) : ∃ o c, arith_assignment.j0 1 t b = some (o, c) := by
 rw [arith_assignment.j0]
 split
 ·exact ⟨_, _, rfl⟩
 ·rename_i hb
  have h2 : 1 ≤ t.size := by
   rcases h with h | h
   ·exact absurd h hb
   ·exact h
  rw [wrap_id (by omega) (by omega), if_pos (by omega), if_pos (by omega)]
  split
  ·rw [if_pos (by omega)]
   obtain ⟨o, l, ho⟩ := binary_some (t.extract 0 ((t.size : Int) - 1).toNat)
   rw [ho]
   simp only [Option.bind_some]
   split
   ·exact ⟨_, _, rfl⟩
   ·exact ⟨_, _, rfl⟩
  ·exact ⟨_, _, rfl⟩
theorem assignment_some (t : ByteArray) (h1 : t.size ≤ 9223372036854775807) : ∃ o c, arith_assignment.f 1 t = some (o, c) := by
 have h : ∀ l : List UInt8, l ≠ [] → t.toList = l → 1 ≤ t.size := by
  intro l hl e
  rw [Go.ByteArray.toList_eq] at e
  have : t.size = l.length := by rw [← e]; rfl
  have := List.length_pos_iff.mpr hl
  omega
 unfold arith_assignment.f
 split
 ·exact ⟨_, _, rfl⟩
 ·split
  ·exact asg_j0 t _ (.inr (h _ (List.cons_ne_nil _ _) (by assumption))) h1
  ·split
   ·exact asg_j0 t _ (.inr (h _ (List.cons_ne_nil _ _) (by assumption))) h1
   ·split
    ·exact asg_j0 t _ (.inr (h _ (List.cons_ne_nil _ _) (by assumption))) h1
    ·split
     ·exact asg_j0 t _ (.inr (h _ (List.cons_ne_nil _ _) (by assumption))) h1
     ·refine asg_j0 t _ ?_ h1
      rcases Nat.eq_zero_or_pos t.size with h0 | h0
      ·left
       have : t.toList = [] := by
        rw [Go.ByteArray.toList_eq]
        exact List.eq_nil_of_length_eq_zero h0
       rw [this]
       rfl
      ·exact .inr h0
theorem value_at (k : Nat) (c : Int) : ∃ d, arith_value.f (k + 1) c = some d := by
 unfold arith_value.f
 have hj : ∀ b, ∃ d, arith_value.j0 (k + 1) c b = some d := by
  intro b
  rw [arith_value.j0]
  repeat' split
  all_goals exact ⟨_, rfl⟩
 have : ∃ b, arith_digit.f c = some b := by
  unfold arith_digit.f
  split
  ·exact ⟨_, rfl⟩
  ·exact ⟨_, rfl⟩
 obtain ⟨b, hb⟩ := this
 rw [hb]
 simp only [Option.bind_some]
 split
 ·exact ⟨_, rfl⟩
 ·split
  ·exact hj _
  ·exact hj _
def okE (e : Int) : Prop := e = 0 ∨ e = 6 ∨ e = 14
theorem num_loop (base : Int) (t : ByteArray) (hb : base ≠ 0) (hs : t.size ≤ 9223372036854775807) : ∀ (d i : Nat) (n : Int) (ov : Bool), i + d = t.size → ∃ r e, arith_number.l0 (d + 1) base t n ov (t.size : Int) (i : Int) = some (r, e) ∧ okE e
 | 0, i, n, ov, h => by
  rw [arith_number.l0, if_neg (by omega)]
  split
  ·exact ⟨_, _, rfl, by unfold okE; simp⟩
  ·exact ⟨_, _, rfl, by unfold okE; simp⟩
 | d + 1, i, n, ov, h => by
  have hw : wrap64 ((i : Int) + 1) = ((i + 1 : Nat) : Int) := by rw [wrap_id (by omega) (by omega)]; omega
  have ih := fun n ov => num_loop base t hb hs d (i + 1) n ov (by omega)
  obtain ⟨v, hv⟩ := value_at d (bt t (i : Int))
  rw [arith_number.l0, if_pos (by omega), if_pos (by omega), if_pos (by omega), hv, hw]
  simp only [Option.bind_some]
  split
  ·exact ⟨_, _, rfl, by unfold okE; simp⟩
  ·split
   ·exact ih _ _
   ·split
    ·exact ih _ _
    ·exact ih _ _
theorem num_j1 (base : Int) (t : ByteArray) (hb : base ≠ 0) (hs : t.size ≤ 9223372036854775807) (k : Nat) (hk : t.size + 2 ≤ k) : ∃ r e, arith_number.j1 k base t = some (r, e) ∧ okE e := by
 obtain ⟨k, rfl⟩ : ∃ j, k = j + 1 := ⟨k - 1, by omega⟩
 rw [arith_number.j1]
 split
 ·exact ⟨_, _, rfl, by unfold okE; simp⟩
 ·obtain ⟨r, e, h, he⟩ := num_loop base t hb hs t.size 0 0 false (by omega)
  refine ⟨r, e, ?_, he⟩
  have up : ∀ n, t.size + 1 ≤ n → arith_number.l0 n base t 0 false (t.size : Int) ((0 : Nat) : Int) = some (r, e) := by
   intro n hn
   induction hn with
   | refl => exact h
   | step _ ih => exact (arith_number.mono_l _).2.1 _ _ _ _ _ _ _ ih
  exact up k (by omega)
theorem number_some (t : ByteArray) (h0 : t.size ≠ 0) (hs : t.size ≤ 9223372036854775807) : ∃ r e, arith_number.f (t.size + 3) t = some (r, e) ∧ okE e := by
 have hj : ∀ b, (b = true → 2 ≤ t.size) → ∃ r e, arith_number.j0 (t.size + 3) t 10 t b = some (r, e) ∧ okE e := by
  intro b hb
  rw [arith_number.j0]
  split
  ·rename_i h
   have h2 := hb h
   rw [if_pos (by omega)]
   refine num_j1 16 _ (by omega) ?_ _ ?_
   ·rw [ByteArray.size_extract]; omega
   ·rw [ByteArray.size_extract]; omega
  ·rw [if_pos (by omega)]
   split
   ·exact num_j1 8 t (by omega) hs _ (by omega)
   ·exact num_j1 10 t (by omega) hs _ (by omega)
 unfold arith_number.f
 split
 ·rw [if_pos (by omega)]
  split
  ·split
   ·exact hj _ (fun _ => by omega)
   ·exact hj _ (fun _ => by omega)
  ·exact hj _ (fun h => by cases h)
 ·exact hj _ (fun h => by cases h)
/-- A property of trees that the reader's steps keep. -/
structure Shut (Q : S26 → Prop) : Prop where
 num : ∀ t n, arith_number.f (t.size + 3) t = some (n, 0) → Q ⟨1, n, noName, []⟩
 var : ∀ t, nameB t = true → Q ⟨2, 0, t, []⟩
 un : ∀ t op y, arith_unary.f t = some op → op ≠ 0 → Q y → Q ⟨op, 0, noName, [y]⟩
 bin : ∀ t op (n : Nat) x y, arith_binary.f t = some (op, (n : Int)) → 1 ≤ n → Q x → Q y → Q ⟨op, 0, noName, [x, y]⟩
 cond : ∀ x y z, Q x → Q y → Q z → Q ⟨25, 0, noName, [x, y, z]⟩
 set : ∀ t op x y, arith_assignment.f 1 t = some (op, true) → x.f0 = 2 → Q x → Q y → Q ⟨26, op, x.f2, [y]⟩
def moreQ (Q : S26 → Prop) : Gl → Prop
 | .more _ x => Q x
 | _ => True
def less : Gl → Nat
 | .more _ _ => 0
 | _ => 1
theorem nx_less {L : List UInt8} (h : L ≠ []) : (nx L).length + 1 ≤ L.length := by
 have hp := lexN_pos h
 have hq := lexN_le L
 have : (nx L).length ≤ (L.drop (lexN L)).length := by
  unfold nx
  exact (List.dropWhile_sublist _).length_le
 rw [List.length_drop] at this
 omega
def Good (Q : S26 → Prop) (s : ByteArray) (d : Nat) (L : List UInt8) (r : PRes) : Prop :=
 match r with
 | none => True
 | some (.error (q, e)) => e = 6 ∨ e = 10 ∨ e = 14
 | some (.ok (x, p, t)) => ∃ M, At s p M ∧ t = tk M ∧ nb M ∧ M.length + d ≤ L.length ∧ Q x
theorem Good.bind {Q : S26 → Prop} {s d L d' L'} {a : PRes} {f : S26 → Nat → ByteArray → PRes} (h : Good Q s d L a) (hf : ∀ x p M, At s p M → nb M → M.length + d ≤ L.length → Q x → Good Q s d' L' (f x p (tk M))) : Good Q s d' L' (ebind a f) := by
 match a, h with
 | none, _ => exact True.intro
 | some (.ok (x, p, t)), h =>
  obtain ⟨M, h1, rfl, h2, h3, h4⟩ := h
  exact hf x p M h1 h2 h3 h4
 | some (.error (q, e)), h => exact h
theorem pr_good {Q : S26 → Prop} (hQ : Shut Q) {s : ByteArray} (hs : s.size ≤ 4096) : ∀ (k : Nat) (gl : Gl) (p : Nat) (L : List UInt8), okG gl → moreQ Q gl → At s p L → nb L → Good Q s (less gl) L (pr s k gl p (tk L)) := by
 intro k
 induction k with
 | zero => intro gl p L _ _ _ _; exact True.intro
 | succ k ih =>
  intro gl p L hg hm hA hb
  have nxt : ∀ {p L}, At s p L → At s (nextP s p (tk L)) (nx L) ∧ nextT s p (tk L) = tk (nx L) := fun h => next_list h
  have le_nx : ∀ L, (nx L).length ≤ L.length := fun L => (nx_suf L).length_le
  cases gl with
  | first =>
   simp only [pr]
   refine (ih .second p L trivial trivial hA hb).bind (fun x p1 M hA1 hb1 hl hx => ?_)
   rcases ha : arith_assignment.f 1 (tk M) with _ | ⟨op, is⟩
   ·exact True.intro
   ·simp only
    split
    ·rename_i hc
     obtain ⟨e1, e2⟩ := nxt hA1
     rw [e2]
     refine (ih .first _ _ trivial trivial e1 (nb_nx M)).bind (fun y p2 M2 hA2 hb2 hl2 hy => ?_)
     refine ⟨M2, hA2, rfl, hb2, ?_, hQ.set _ _ _ _ (by rw [ha, hc.1]) hc.2.1 hx hy⟩
     have := le_nx M
     simp only [less] at *
     omega
    ·exact ⟨M, hA1, rfl, hb1, hl, hx⟩
  | second =>
   simp only [pr]
   refine (ih (.level 3) p L (by simp [okG]) trivial hA hb).bind (fun x p1 M hA1 hb1 hl hx => ?_)
   split
   ·obtain ⟨e1, e2⟩ := nxt hA1
    rw [e2]
    refine (ih .first _ _ trivial trivial e1 (nb_nx M)).bind (fun y p2 M2 hA2 hb2 hl2 hy => ?_)
    split
    ·obtain ⟨e3, e4⟩ := nxt hA2
     rw [e4]
     refine (ih .second _ _ trivial trivial e3 (nb_nx M2)).bind (fun z p3 M3 hA3 hb3 hl3 hz => ?_)
     refine ⟨M3, hA3, rfl, hb3, ?_, hQ.cond _ _ _ hx hy hz⟩
     have := le_nx M
     have := le_nx M2
     simp only [less] at *
     omega
    ·exact .inl rfl
   ·exact ⟨M, hA1, rfl, hb1, hl, hx⟩
  | level n =>
   simp only [pr]
   split
   ·exact ih .operand p L trivial trivial hA hb
   ·refine (ih (.level (n + 1)) p L (by simp [okG]) trivial hA hb).bind (fun x p1 M hA1 hb1 hl hx => ?_)
    have h := ih (.more n x) p1 M hg hx hA1 hb1
    revert h
    cases pr s k (.more n x) p1 (tk M) with
    | none => exact fun _ => True.intro
    | some r =>
     match r with
     | .error (q, e) => exact fun h => h
     | .ok (y, q, t) =>
      intro h
      obtain ⟨M2, h1, h2, h3, h4, h5⟩ := h
      refine ⟨M2, h1, h2, h3, ?_, h5⟩
      simp only [less] at *
      omega
  | more n x =>
   simp only [pr]
   rcases ha : arith_binary.f (tk L) with _ | ⟨op, l⟩
   ·exact True.intro
   ·simp only
    split
    ·rename_i hc
     obtain ⟨e1, e2⟩ := nxt hA
     rw [e2]
     refine (ih (.level (n + 1)) _ _ (by simp [okG]) trivial e1 (nb_nx L)).bind (fun y p1 M hA1 hb1 hl hy => ?_)
     have h := ih (.more n ⟨op, 0, noName, [x, y]⟩) p1 M hg (hQ.bin _ _ n _ _ (by rw [ha, hc]) hg hm hy) hA1 hb1
     revert h
     cases pr s k (.more n ⟨op, 0, noName, [x, y]⟩) p1 (tk M) with
     | none => exact fun _ => True.intro
     | some r =>
      match r with
      | .error (q, e) => exact fun h => h
      | .ok (y, q, t) =>
       intro h
       obtain ⟨M2, h1, h2, h3, h4, h5⟩ := h
       have := le_nx L
       refine ⟨M2, h1, h2, h3, ?_, h5⟩
       simp only [less] at *
       omega
    ·exact ⟨L, hA, rfl, hb, by simp [less], hm⟩
  | operand =>
   simp only [pr]
   obtain ⟨e1, e2⟩ := nxt hA
   rw [e2]
   rcases Classical.em (L = []) with rfl | hL
   ·have h0 : tk [] = ⟨#[]⟩ := tkNil
    rw [h0, un0]
    simp only
    rw [if_neg (by simp), if_neg (by rw [Go.ByteArray.toList_eq]; simp), if_pos (.inl rfl)]
    exact .inl rfl
   ·have hlt := nx_less hL
    rcases ha : arith_unary.f (tk L) with _ | op
    ·exact True.intro
    ·simp only
     split
     ·rename_i hop
      refine (ih .operand _ _ trivial trivial e1 (nb_nx L)).bind (fun y p1 M hA1 hb1 hl hy => ⟨M, hA1, rfl, hb1, ?_, hQ.un _ _ _ ha hop hy⟩)
      simp only [less] at *
      omega
     ·split
      ·refine (ih .first _ _ trivial trivial e1 (nb_nx L)).bind (fun y p1 M hA1 hb1 hl hy => ?_)
       split
       ·obtain ⟨e3, e4⟩ := nxt hA1
        have := le_nx M
        refine ⟨nx M, e3, e4, nb_nx M, ?_, hy⟩
        simp only [less] at *
        omega
       ·exact .inl rfl
      ·split
       ·exact .inl rfl
       ·rename_i hw
        split
        ·rcases hn : arith_number.f ((tk L).size + 3) (tk L) with _ | ⟨n, e⟩
         ·exact True.intro
         ·simp only
          split
          ·rename_i he
           refine ⟨nx L, e1, rfl, nb_nx L, ?_, hQ.num _ _ (by rw [hn, he])⟩
           simp only [less]
           omega
          ·rename_i he
           have hsz : (tk L).size ≤ 9223372036854775807 := by
            have h1 := lexN_le L
            have h2 := hA.len
            rw [tk_size]
            omega
           obtain ⟨r, e', h1, h2⟩ := number_some (tk L) (fun h => hw (.inl h)) hsz
           rw [hn] at h1
           simp only [Option.some.injEq, Prod.mk.injEq] at h1
           obtain ⟨rfl, rfl⟩ := h1
           rcases h2 with h2 | h2 | h2
           ·exact absurd h2 he
           ·exact .inl h2
           ·exact .inr (.inr h2)
        ·split
         ·rename_i hn
          refine ⟨nx L, e1, rfl, nb_nx L, ?_, hQ.var _ hn⟩
          simp only [less]
          omega
         ·exact .inr (.inl rfl)
end Go.Proofs.YtglmdfddgmkmaaaDoor.Q
end
section
namespace Go.Proofs.YtglmdfddgmkmaaaDoor.Q
open Go.RowKit Go.Proofs.YtglmdfddgmkmaaaDoorW.PrintWords
set_option linter.unusedVariables false
set_option linter.unusedSimpArgs false
def rk : Gl → Nat
 | .more _ _ => 0
 | .operand => 1
 | .level n => 2 + (13 - n)
 | .second => 17
 | .first => 18
def okG2 : Gl → Prop
 | .level n => 1 ≤ n ∧ n ≤ 13
 | .more n _ => 1 ≤ n ∧ n ≤ 12
 | _ => True
theorem okG_of {gl : Gl} (h : okG2 gl) : okG gl := by
 cases gl <;> simp [okG, okG2] at * <;> omega
/-- Any tree. -/
theorem shut_any : Shut (fun _ => True) := ⟨fun _ _ _ => trivial, fun _ _ => trivial, fun _ _ _ _ _ _ => trivial, fun _ _ _ _ _ _ _ _ _ => trivial, fun _ _ _ _ _ _ => trivial, fun _ _ _ _ _ _ _ _ => trivial⟩
theorem more_any (gl : Gl) : moreQ (fun _ => True) gl := by cases gl <;> trivial
theorem tot_bind {a : PRes} {f : S26 → Nat → ByteArray → PRes} (h : a ≠ none) (hf : ∀ x p t, a = some (.ok (x, p, t)) → f x p t ≠ none) : ebind a f ≠ none := by
 match a, h with
 | some (.ok (x, p, t)), _ => exact hf x p t rfl
 | some (.error e), _ => simp [ebind]
theorem pr_total {s : ByteArray} (hs : s.size ≤ 4096) : ∀ (k : Nat) (gl : Gl) (p : Nat) (L : List UInt8), okG2 gl → At s p L → nb L → 32 * L.length + rk gl < k → pr s k gl p (tk L) ≠ none := by
 intro k
 induction k with
 | zero => intro gl p L _ _ _ h; omega
 | succ k ih =>
  intro gl p L hg hA hb hk
  have good := fun gl p L (h : okG2 gl) hA hb => pr_good shut_any hs k gl p L (okG_of h) (more_any gl) hA hb
  have nxt : ∀ {p L}, At s p L → At s (nextP s p (tk L)) (nx L) ∧ nextT s p (tk L) = tk (nx L) := fun h => next_list h
  have le_nx : ∀ L, (nx L).length ≤ L.length := fun L => (nx_suf L).length_le
  have sz : ∀ {p L}, At s p L → (tk L).size ≤ 9223372036854775807 := by
   intro p L h
   have h1 := lexN_le L
   have h2 := h.len
   rw [tk_size]
   omega
  cases gl with
  | first =>
   simp only [pr]
   refine tot_bind (ih .second p L trivial hA hb (by simp [rk] at *; omega)) (fun x p1 t1 h1 => ?_)
   have hG := good .second p L trivial hA hb
   rw [h1] at hG
   obtain ⟨M, hA1, rfl, hb1, hl, _⟩ := hG
   obtain ⟨op, is, ha⟩ := assignment_some (tk M) (sz hA1)
   rw [ha]
   simp only
   split
   ·obtain ⟨e1, e2⟩ := nxt hA1
    rw [e2]
    have := le_nx M
    refine tot_bind (ih .first _ _ trivial e1 (nb_nx M) (by simp [rk, less] at *; omega)) (fun y p2 t2 h2 => by simp)
   ·simp
  | second =>
   simp only [pr]
   refine tot_bind (ih (.level 3) p L (by simp [okG2]) hA hb (by simp [rk] at *; omega)) (fun x p1 t1 h1 => ?_)
   have hG := good (.level 3) p L (by simp [okG2]) hA hb
   rw [h1] at hG
   obtain ⟨M, hA1, rfl, hb1, hl, _⟩ := hG
   split
   ·obtain ⟨e1, e2⟩ := nxt hA1
    rw [e2]
    have := le_nx M
    refine tot_bind (ih .first _ _ trivial e1 (nb_nx M) (by simp [rk, less] at *; omega)) (fun y p2 t2 h2 => ?_)
    have hG := good .first _ _ trivial e1 (nb_nx M)
    rw [h2] at hG
    obtain ⟨M2, hA2, rfl, hb2, hl2, _⟩ := hG
    split
    ·obtain ⟨e3, e4⟩ := nxt hA2
     rw [e4]
     have := le_nx M2
     refine tot_bind (ih .second _ _ trivial e3 (nb_nx M2) (by simp [rk, less] at *; omega)) (fun z p3 t3 h3 => by simp)
    ·simp
   ·simp
  | level n =>
   simp only [pr]
   have hg1 : 1 ≤ n ∧ n ≤ 13 := hg
   split
   ·exact ih .operand p L trivial hA hb (by simp [rk] at *; omega)
   ·have hg2 : okG2 (.level (n + 1)) := by simp [okG2]; omega
    refine tot_bind (ih (.level (n + 1)) p L hg2 hA hb (by simp [rk] at *; omega)) (fun x p1 t1 h1 => ?_)
    have hG := good (.level (n + 1)) p L hg2 hA hb
    rw [h1] at hG
    obtain ⟨M, hA1, rfl, hb1, hl, _⟩ := hG
    exact ih (.more n x) p1 M (by simp [okG2]; omega) hA1 hb1 (by simp [rk, less] at *; omega)
  | more n x =>
   simp only [pr]
   have hg1 : 1 ≤ n ∧ n ≤ 12 := hg
   obtain ⟨op, l, ha⟩ := binary_some (tk L)
   rw [ha]
   simp only
   split
   ·rename_i hc
    have hL : L ≠ [] := by
     rintro rfl
     rw [tkNil, bi0] at ha
     simp only [Option.some.injEq, Prod.mk.injEq] at ha
     omega
    obtain ⟨e1, e2⟩ := nxt hA
    rw [e2]
    have := nx_less hL
    have hg2 : okG2 (.level (n + 1)) := by simp [okG2]; omega
    refine tot_bind (ih (.level (n + 1)) _ _ hg2 e1 (nb_nx L) (by simp [rk] at *; omega)) (fun y p1 t1 h1 => ?_)
    have hG := good (.level (n + 1)) _ _ hg2 e1 (nb_nx L)
    rw [h1] at hG
    obtain ⟨M, hA1, rfl, hb1, hl, _⟩ := hG
    exact ih (.more n _) p1 M hg hA1 hb1 (by simp [rk, less] at *; omega)
   ·simp
  | operand =>
   simp only [pr]
   obtain ⟨e1, e2⟩ := nxt hA
   rw [e2]
   rcases Classical.em (L = []) with rfl | hL
   ·have h0 : tk [] = ⟨#[]⟩ := tkNil
    rw [h0, un0]
    simp only
    rw [if_neg (by simp), if_neg (by rw [Go.ByteArray.toList_eq]; simp), if_pos (.inl rfl)]
    simp
   ·have hlt := nx_less hL
    obtain ⟨op, ha⟩ := unary_some (tk L)
    rw [ha]
    simp only
    split
    ·refine tot_bind (ih .operand _ _ trivial e1 (nb_nx L) (by simp [rk] at *; omega)) (fun y p1 t1 h1 => by simp)
    ·split
     ·refine tot_bind (ih .first _ _ trivial e1 (nb_nx L) (by simp [rk] at *; omega)) (fun y p1 t1 h1 => ?_)
      split
      ·simp
      ·simp
     ·split
      ·simp
      ·rename_i hw
       split
       ·obtain ⟨n, e, hn, _⟩ := number_some (tk L) (fun h => hw (.inl h)) (sz hA)
        rw [hn]
        simp only
        split
        ·simp
        ·simp
       ·split
        ·simp
        ·simp
inductive W3 : S26 → Prop where
 | mk (x : S26) : x.f3.length ≤ 3 → (∀ y ∈ x.f3, W3 y) → W3 x
theorem shut_W3 : Shut W3 where
 num := fun _ _ _ => .mk _ (Nat.zero_le _) (fun y h => by cases h)
 var := fun _ _ => .mk _ (Nat.zero_le _) (fun y h => by cases h)
 un := fun _ _ y _ _ h => .mk _ (by simp) (fun z hz => by simp at hz; exact hz ▸ h)
 bin := fun _ _ _ x y _ _ h1 h2 => .mk _ (by simp) (fun z hz => by simp at hz; rcases hz with rfl | rfl; exact h1; exact h2)
 cond := fun x y z h1 h2 h3 => .mk _ (by simp) (fun w hw => by simp at hw; rcases hw with rfl | rfl | rfl; exact h1; exact h2; exact h3)
 set := fun _ _ x y _ _ _ h => .mk _ (by simp) (fun z hz => by simp at hz; exact hz ▸ h)
theorem common {P : Nat → S26 → Prop} (up : ∀ k y, P k y → P (k + 1) y) : ∀ (l : List S26), (∀ y ∈ l, ∃ k, P k y) → ∃ K, ∀ k, K ≤ k → ∀ y ∈ l, P k y
 | [], _ => ⟨0, fun k _ y h => by cases h⟩
 | a :: l, h => by
  obtain ⟨K, hK⟩ := common up l (fun y hy => h y (List.mem_cons_of_mem _ hy))
  obtain ⟨j, hj⟩ := h a (List.mem_cons_self ..)
  have ups : ∀ n, j ≤ n → P n a := by
   intro n hn
   induction hn with
   | refl => exact hj
   | step _ ih => exact up _ _ ih
  refine ⟨K + j, fun k hk y hy => ?_⟩
  rcases List.mem_cons.mp hy with rfl | hy
  ·exact ups k (by omega)
  ·exact hK k (by omega) y hy
theorem rd_mem {xs : List S26} {i : Nat} (h : i < xs.length) : rd_T26 xs (i : Int) ∈ xs := by
 have : rd_T26 xs (i : Int) = xs[i] := by simp [rd_T26, List.getD_eq_getElem?_getD, h]
 rw [this]
 exact List.getElem_mem h
theorem same_self {x : S26} (h : W3 x) : ∃ K, ∀ k, K ≤ k → jobshellref05_Same.f k x.f0 x.f1 x.f2 x.f3 x.f0 x.f1 x.f2 x.f3 = some true := by
 have up : ∀ {x y : S26} {k n b}, k ≤ n → jobshellref05_Same.f k x.f0 x.f1 x.f2 x.f3 y.f0 y.f1 y.f2 y.f3 = some b → jobshellref05_Same.f n x.f0 x.f1 x.f2 x.f3 y.f0 y.f1 y.f2 y.f3 = some b := by
  intro x y k n b hk h
  induction hk with
  | refl => exact h
  | step _ ih => exact jobshellref05_Same.mono _ _ _ _ _ _ _ _ _ _ ih
 suffices h : ∃ K, jobshellref05_Same.f K x.f0 x.f1 x.f2 x.f3 x.f0 x.f1 x.f2 x.f3 = some true by
  obtain ⟨K, hK⟩ := h
  exact ⟨K, fun k hk => up hk hK⟩
 induction h with
 | mk x hl _ ih =>
  obtain ⟨K, hK⟩ := common (P := fun k y => jobshellref05_Same.f k y.f0 y.f1 y.f2 y.f3 y.f0 y.f1 y.f2 y.f3 = some true) (fun k y h => up (Nat.le_succ k) h) x.f3 ih
  have loop : ∀ (d i : Nat), i + d = x.f3.length → jobshellref05_Same.l0 (K + d + 1) (i : Int) x.f0 x.f1 x.f2 x.f3 x.f0 x.f1 x.f2 x.f3 = some true := by
   intro d
   induction d with
   | zero =>
    intro i hi
    rw [jobshellref05_Same.l0, if_neg (by omega)]
   | succ d ihd =>
    intro i hi
    have hn := hK (K + (d + 1)) (by omega) (rd_T26 x.f3 (i : Int)) (rd_mem (by omega))
    rw [jobshellref05_Same.l0, if_pos (by omega), if_pos (by omega), if_pos (by omega), hn, Option.bind_some]
    have hw : wrap64 ((i : Int) + 1) = ((i + 1 : Nat) : Int) := by rw [wrap_id (by omega) (by omega)]; omega
    rw [hw, if_pos rfl, show K + (d + 1) = K + d + 1 by omega]
    exact ihd (i + 1) (by omega)
  refine ⟨K + x.f3.length + 1 + 1 + 1, ?_⟩
  rw [jobshellref05_Same.f, if_pos rfl, if_pos rfl, if_pos rfl, jobshellref05_Same.j0, if_neg (by simp)]
  have hn := loop x.f3.length 0 (by omega)
  rw [show ((0 : Nat) : Int) = 0 from rfl] at hn
  exact hn
end Go.Proofs.YtglmdfddgmkmaaaDoor.Q
end
section
namespace Go.Proofs.YtglmdfddgmkmaaaDoor.Q
open Go.RowKit Go.Proofs.YtglmdfddgmkmaaaDoorW.PrintWords
set_option linter.unusedVariables false
set_option linter.unusedSimpArgs false
section
variable {s : ByteArray}
theorem Eerr.level {n L e} (hn : n ≤ 13) (h : E s .operand L (.error e)) : E s (.level n) L (.error e) := by
 obtain ⟨d, hd⟩ : ∃ d, n + d = 13 := ⟨13 - n, by omega⟩
 clear hn
 induction d generalizing n with
 | zero =>
  obtain rfl : n = 13 := by omega
  exact h.level13
 | succ d ih =>
  obtain ⟨k, hk⟩ := ih (n := n + 1) (by omega)
  refine ⟨k + 1, ?_⟩
  rw [pr, if_neg (by omega), hk]
  rfl
theorem Eerr.first {L e} (h : E s .operand L (.error e)) : E s .first L (.error e) := by
 obtain ⟨k, hk⟩ := Eerr.level (n := 3) (by omega) h
 refine ⟨k + 2, ?_⟩
 rw [pr, pr, hk]
 rfl
end
theorem start_list (s : ByteArray) : At s (nextP s 0 ⟨#[]⟩) (Vb (sl s)) ∧ nextT s 0 ⟨#[]⟩ = tk (Vb (sl s)) := by
 have h0 : At s 0 (sl s) := ⟨Nat.zero_le _, rfl⟩
 have h2 : At s (nextP s 0 ⟨#[]⟩) (Vb (sl s)) := by
  unfold nextP
  rw [show 0 + (⟨#[]⟩ : ByteArray).size = 0 from rfl, skipB_list s 0 (Nat.zero_le _), List.drop_zero]
  exact At.adv (A := (sl s).takeWhile blkB) (B := Vb (sl s)) (by rw [List.takeWhile_append_dropWhile]; exact h0)
 refine ⟨h2, ?_⟩
 unfold nextT
 rw [tokN_list]
 have e : s.extract (nextP s 0 ⟨#[]⟩) s.size = ⟨(Vb (sl s)).toArray⟩ := by
  rw [extract_list, h2.2]
  have := h2.len
  rw [List.take_of_length_le (by omega)]
 rw [e, extract_list]
 simp only [sl, List.drop_zero, Nat.sub_zero]
 rfl
theorem nb_Vb (L : List UInt8) : nb (Vb L) := nb_dropWhile L
theorem pl_of {s p L} (h : At s p L) : p = pl s L := by
 have := h.len
 unfold pl
 omega
/-- What Parse tells, once the reader has ended. -/
def told (k : Nat) : Except (Nat × Int) (S26 × Nat × ByteArray) → Option PR
 | .error (p, er) => some (0, 0, ⟨#[]⟩, [], (p : Int), er)
 | .ok (x, p, t) => if ¬ t.toList = [] then some (0, 0, ⟨#[]⟩, [], (p : Int), 6) else
  match arith_levels.f k x.f0 x.f1 x.f2 x.f3 with
  | none => none
  | some n => if 32 < n then some (0, 0, ⟨#[]⟩, [], 0, 5) else some (x.f0, x.f1, x.f2, x.f3, 0, 0)
theorem told_more (k : Nat) (x : S26) (p : Nat) (t : ByteArray) (h : ¬ t.toList = []) : told k (.ok (x, p, t)) = some (0, 0, ⟨#[]⟩, [], (p : Int), 6) := by
 unfold told
 simp only
 rw [if_pos h]
theorem told_deep (k : Nat) (x : S26) (p : Nat) (t : ByteArray) (h : t.toList = []) {n : Int} (hl : arith_levels.f k x.f0 x.f1 x.f2 x.f3 = some n) (hn : 32 < n) : told k (.ok (x, p, t)) = some (0, 0, ⟨#[]⟩, [], 0, 5) := by
 unfold told
 simp only
 rw [if_neg (by simp [h]), hl]
 simp only
 rw [if_pos hn]
theorem told_right (k : Nat) (x : S26) (p : Nat) (t : ByteArray) (h : t.toList = []) {n : Int} (hl : arith_levels.f k x.f0 x.f1 x.f2 x.f3 = some n) (hn : ¬ 32 < n) : told k (.ok (x, p, t)) = some (x.f0, x.f1, x.f2, x.f3, 0, 0) := by
 unfold told
 simp only
 rw [if_neg (by simp [h]), hl]
 simp only
 rw [if_neg hn]
theorem parse_pr {s : ByteArray} (hs : s.size ≤ 4096) (h0 : Vb (sl s) ≠ []) {r} (h : E s .first (Vb (sl s)) r) : ∃ K, ∀ k, K ≤ k → parseP s k = told k r := by
 obtain ⟨K, hK⟩ := h
 obtain ⟨h1, h2⟩ := start_list s
 refine ⟨K, fun k hk => ?_⟩
 unfold parseP
 have ht : ¬ (nextT s 0 ⟨#[]⟩).toList = [] := by
  rw [h2, Go.ByteArray.toList_eq]
  intro e
  have h3 := tk_size (Vb (sl s))
  have h4 := lexN_pos h0
  have : (tk (Vb (sl s))).size = 0 := by
   show (tk (Vb (sl s))).data.toList.length = 0
   rw [e]
   rfl
  omega
 rw [if_neg (by omega), if_neg ht, h2, pl_of h1, pr_up s hk hK]
 match r with
 | .error (p, er) => rfl
 | .ok (x, p, t) => rfl
/-- Whatever the text, the reader ends. -/
theorem first_ends {s : ByteArray} (hs : s.size ≤ 4096) : ∃ r, E s .first (Vb (sl s)) r ∧ Good W3 s 1 (Vb (sl s)) (some r) := by
 obtain ⟨h1, h2⟩ := start_list s
 have ht := pr_total hs (32 * (Vb (sl s)).length + 19) .first _ _ trivial h1 (nb_Vb _) (by simp [rk])
 have hg := pr_good shut_W3 hs (32 * (Vb (sl s)).length + 19) .first _ _ trivial trivial h1 (nb_Vb _)
 revert ht hg
 rw [pl_of h1]
 cases hr : pr s (32 * (Vb (sl s)).length + 19) .first (pl s (Vb (sl s))) (tk (Vb (sl s))) with
 | none => intro h; exact absurd rfl h
 | some r => intro _ hg; exact ⟨r, ⟨_, hr⟩, hg⟩
theorem levels_up {x : S26} {k n r} (h : k ≤ n) (hr : arith_levels.f k x.f0 x.f1 x.f2 x.f3 = some r) : arith_levels.f n x.f0 x.f1 x.f2 x.f3 = some r := arith_levels.up x h hr
end Go.Proofs.YtglmdfddgmkmaaaDoor.Q
end
section
namespace Go.Proofs.YtglmdfddgmkmaaaDoor.Q
open Go.RowKit Go.Proofs.YtglmdfddgmkmaaaDoorW.PrintWords
set_option linter.unusedVariables false
set_option linter.unusedSimpArgs false
def kidsE (op : Int) : Int := if op = 1 ∨ op = 2 then 0 else if (3 ≤ op ∧ op ≤ 6) ∨ op = 26 then 1 else if 7 ≤ op ∧ op ≤ 24 then 2 else if op = 25 then 3 else -1
theorem arith_kids_eq (k : Nat) (op : Int) : arith_kids.f (k + 2) op = some (kidsE op) := by
 unfold arith_kids.f kidsE
 simp only [arith_kids.j0, arith_kids.j1]
 repeat' split
 all_goals first | rfl | (exfalso; simp_all; done) | (exfalso; simp_all; omega)
def asgE (n : Int) : Bool := n == 0 || (decide (7 ≤ n) && decide (n ≤ 13)) || (decide (20 ≤ n) && decide (n ≤ 22))
theorem assigns_eq (n : Int) : arith_assigns.f n = some (asgE n) := by
 unfold arith_assigns.f asgE
 repeat' split
 all_goals first | (simp_all; done) | (simp_all; omega)
def namedE (op : Int) : Bool := op == 2 || op == 26
def rightE (op n : Int) : Bool := if op = 1 then decide (n ≥ 0) else if op = 26 then asgE n else n == 0
def partE (op n : Int) (nm : ByteArray) (l : Nat) : Int :=
 if (decide (kidsE op = (l : Int)) && rightE op n && (namedE op == (nm.toList != []))) = true then (if (namedE op && !nameB nm) = true then 10 else 0) else 1
theorem arith_part_eq (k : Nat) (op n : Int) (nm : ByteArray) (l : List S26) : arith_part.f (k + 5) op n nm l = some (partE op n nm l.length) := by
 have h1 : ∀ b, arith_part.j0 (k + 5) b op n nm l = arith_part.j1 (k + 4) b (rightE op n) op n nm l := by
  intro b
  rw [arith_part.j0, assigns_eq]
  unfold rightE
  split
  ·rfl
  ·split <;> rfl
 have h2 : ∀ b c, arith_part.j1 (k + 4) b c op n nm l = arith_part.j2 (k + 3) b (!(decide (kidsE op = (l.length : Int)) && c && (b == (nm.toList != [])))) op n nm l := by
  intro b c
  rw [arith_part.j1, arith_kids_eq]
  simp only [Option.bind_some]
  split
  ·rename_i h
   cases c
   ·simp
   ·simp only [if_true, h]
    cases b <;> cases (nm.toList != []) <;> simp
  ·rename_i h
   simp [h]
 have h3 : ∀ b c, arith_part.j2 (k + 3) b (!c) op n nm l = some (if c = true then (if (b && !nameB nm) = true then 10 else 0) else 1) := by
  intro b c
  rw [arith_part.j2]
  cases c
  ·simp
  ·cases b
   ·simp
   ·simp only [chars_Name.f, Option.bind_some]
    cases nameB nm <;> simp
 unfold arith_part.f partE
 have hn : namedE op = if op = 2 then true else (op == 26) := by
  unfold namedE
  split <;> simp_all
 by_cases h : op = 2
 ·rw [if_pos h, h1, h2, h3, hn, if_pos h]
 ·rw [if_neg h, h1, h2, h3, hn, if_neg h]
def firstE (g : S26 → Int) : List S26 → Int
 | [] => 0
 | y :: ys => if g y = 0 then firstE g ys else g y
/-- The first error of a tree that has m levels left. -/
def validE : Nat → S26 → Int
 | 0, _ => 5
 | m + 1, x => if partE x.f0 x.f1 x.f2 x.f3.length = 0 then firstE (validE m) x.f3 else partE x.f0 x.f1 x.f2 x.f3.length
theorem part_len {op n : Int} {nm : ByteArray} {l : Nat} (h : partE op n nm l = 0) : l ≤ 3 := by
 unfold partE at h
 split at h
 ·rename_i hc
  have hk : kidsE op = (l : Int) := by simp at hc; exact hc.1.1
  unfold kidsE at hk
  repeat' split at hk
  all_goals omega
 ·omega
theorem rd_at {xs ys : List S26} {y : S26} {i : Nat} (h : xs.drop i = y :: ys) : rd_T26 xs (i : Int) = y ∧ i < xs.length ∧ xs.drop (i + 1) = ys := by
 have hi : i < xs.length := by
  rcases Nat.lt_or_ge i xs.length with h1 | h1
  ·exact h1
  ·rw [List.drop_eq_nil_of_le h1] at h
   simp at h
 rw [List.drop_eq_getElem_cons hi] at h
 simp only [List.cons.injEq] at h
 refine ⟨?_, hi, h.2⟩
 simp [rd_T26, List.getD_eq_getElem?_getD, hi, h.1]
theorem wrap_succ {i : Nat} (h : i < 1000) : wrap64 ((i : Int) + 1) = ((i + 1 : Nat) : Int) := by
 simp only [wrap64, IntKind.wrap]
 omega
theorem arith_valid_eq : ∀ (m : Nat) (x : S26) (k : Nat), m ≤ 32 → 10 * m + 10 ≤ k → arith_valid.f k x.f0 x.f1 x.f2 x.f3 ((32 - m : Nat) : Int) = some (validE m x)
 | 0, x, k, _, hk => by
  obtain ⟨k, rfl⟩ : ∃ k', k = k' + 1 := ⟨k - 1, by omega⟩
  rw [arith_valid.f, if_pos (by omega)]
  rfl
 | m + 1, x, k, hm, hk => by
  obtain ⟨k, rfl⟩ : ∃ k', k = k' + 6 := ⟨k - 6, by omega⟩
  have hl : ∀ (ys : List S26) (i n : Nat), x.f3.drop i = ys → x.f3.length ≤ 3 → i ≤ 3 → ys.length + (10 * m + 10) + 1 ≤ n → arith_valid.l0 n ((32 - (m + 1) : Nat) : Int) x.f3 (x.f3.length : Int) (i : Int) = some (firstE (validE m) ys) := by
   intro ys
   induction ys with
   | nil =>
    intro i n hd h3 hi hn
    obtain ⟨n, rfl⟩ : ∃ k', n = k' + 1 := ⟨n - 1, by omega⟩
    have : x.f3.length ≤ i := by
     have := congrArg List.length hd
     simp at this
     omega
    rw [arith_valid.l0, if_neg (by omega)]
    rfl
   | cons y ys ih =>
    intro i n hd h3 hi hn
    obtain ⟨n, rfl⟩ : ∃ k', n = k' + 1 := ⟨n - 1, by omega⟩
    obtain ⟨e1, e2, e3⟩ := rd_at hd
    simp only [List.length_cons] at hn
    rw [arith_valid.l0, if_pos (by omega), if_pos (by omega), if_pos (by omega), e1]
    have hw : wrap64 (((32 - (m + 1) : Nat) : Int) + 1) = ((32 - m : Nat) : Int) := by
     simp only [wrap64, IntKind.wrap]
     omega
    rw [hw, arith_valid_eq m y n (by omega) (by omega), wrap_succ (by omega)]
    simp only [Option.bind_some]
    unfold firstE
    split
    ·exact ih (i + 1) n e3 h3 (by omega) (by omega)
    ·rfl
  rw [arith_valid.f, if_neg (by omega), arith_part_eq]
  simp only [Option.bind_some]
  unfold validE
  split
  ·rename_i hp
   exact hl x.f3 0 (k + 5) rfl (part_len hp) (by omega) (by have := part_len hp; omega)
  ·rfl
end Go.Proofs.YtglmdfddgmkmaaaDoor.Q
end
section
namespace Go.Proofs.YtglmdfddgmkmaaaDoor.Q
open Go.RowKit Go.Proofs.YtglmdfddgmkmaaaDoorW.PrintWords
set_option linter.unusedVariables false
set_option linter.unusedSimpArgs false
abbrev ofL (l : List UInt8) : ByteArray := ⟨l.toArray⟩
theorem ofL_app (a b : List UInt8) : ofL a ++ ofL b = ofL (a ++ b) := by
 apply ByteArray.ext
 rw [ByteArray.data_append]
 simp
theorem ofL_size (a : List UInt8) : (ofL a).size = a.length := rfl
theorem sign_eq {op : Int} (h0 : 0 ≤ op) (h1 : op ≤ 24) : arith_sign.f op = some (ofL (sg op)) := by
 have : op = 0 ∨ op = 1 ∨ op = 2 ∨ op = 3 ∨ op = 4 ∨ op = 5 ∨ op = 6 ∨ op = 7 ∨ op = 8 ∨ op = 9 ∨ op = 10 ∨ op = 11 ∨ op = 12 ∨ op = 13 ∨ op = 14 ∨ op = 15 ∨ op = 16 ∨ op = 17 ∨ op = 18 ∨ op = 19 ∨ op = 20 ∨ op = 21 ∨ op = 22 ∨ op = 23 ∨ op = 24 := by omega
 rcases this with rfl | rfl | rfl | rfl | rfl | rfl | rfl | rfl | rfl | rfl | rfl | rfl | rfl | rfl | rfl | rfl | rfl | rfl | rfl | rfl | rfl | rfl | rfl | rfl | rfl <;> rfl
theorem height_eq (k : Nat) {op : Int} (h0 : 1 ≤ op) (h1 : op ≤ 26) : arith_height.f (k + 3) op = some (hgt op : Int) := by
 have j1f : ∀ k, arith_height.j1 (k + 1) op true = some 13 := fun k => by rw [arith_height.j1, if_pos rfl]
 by_cases hb : 7 ≤ op ∧ op ≤ 24
 ·obtain ⟨f1, f2, f3, f4, f5, f6⟩ := bin_facts hb.1 hb.2
  have hj : arith_height.j1 (k + 2) op false = some (hgt op : Int) := by
   rw [arith_height.j1, if_neg (by simp), sign_eq (by omega) (by omega), Option.bind_some, f4, Option.bind_some]
  have e : ∀ n : Int, n < 7 → (op == n) = false := fun n hn => by simp; omega
  unfold arith_height.f
  rw [if_neg (by omega), if_neg (by omega), if_neg (by omega), arith_height.j0, e 2 (by omega), if_neg (by simp), if_neg (by omega), if_neg (by omega), if_neg (by omega), e 6 (by omega)]
  exact hj
 ·have : op = 1 ∨ op = 2 ∨ op = 3 ∨ op = 4 ∨ op = 5 ∨ op = 6 ∨ op = 25 ∨ op = 26 := by omega
  rcases this with rfl | rfl | rfl | rfl | rfl | rfl | rfl | rfl
  all_goals
   unfold arith_height.f
   simp [arith_height.j0, arith_height.j1, hgt]
theorem name_len {t : ByteArray} (h : nameB t = true) : t.size ≤ 32 := by
 unfold nameB at h
 simp only [Bool.and_eq_true, decide_eq_true_eq] at h
 exact h.1.2
theorem dd_len : ∀ (d u : Nat), u < 10 ^ (d + 1) → (Lib.decDigits u).length ≤ d + 1
 | 0, u, h => by rw [Lib.decDigits_one (by omega)]; simp
 | d + 1, u, h => by
  by_cases hu : u < 10
  ·rw [Lib.decDigits_one hu]; simp
  ·have := dd_len d (u / 10) (by rw [Nat.pow_succ] at h; omega)
   rw [dd_step u hu, List.length_append]
   simp
   omega
theorem itoa_len {n : Int} (h0 : 0 ≤ n) (h1 : n ≤ 9223372036854775807) : (itoaL n).length ≤ 19 := by
 rw [itoa_eq h0]
 exact dd_len 18 n.toNat (by
  have : (10 : Nat) ^ (18 + 1) = 10000000000000000000 := by decide
  omega)
theorem asg_len {n : Int} (h : asgB n = true) : (asg n).length ≤ 3 := (asg_facts h).2.1
theorem showL_le (m : Nat) (x : S26) (n : Nat) : (showL (m + 1) x n).length ≤ (bodyL m x).length + 2 := by
 rw [showL_eq]
 split
 ·simp
 ·omega
theorem show_len : ∀ {m : Nat} {x : S26}, V m x → ∀ n, (showL m x n).length + 30 ≤ 60 * 3 ^ m := by
 intro m x h
 induction h with
 | num m n h0 h1 =>
  intro l
  have h2 := showL_le m ⟨1, n, noName, []⟩ l
  rw [body_num] at h2
  have h3 := itoa_len h0 h1
  have h4 : 1 ≤ 3 ^ m := Nat.one_le_pow _ _ (by decide)
  rw [Nat.pow_succ]
  omega
 | var m t h =>
  intro l
  have h2 := showL_le m ⟨2, 0, t, []⟩ l
  rw [body_var, sl_length] at h2
  have h3 := name_len h
  have h4 : 1 ≤ 3 ^ m := Nat.one_le_pow _ _ (by decide)
  rw [Nat.pow_succ]
  omega
 | un m op a h0 h1 _ ih =>
  intro l
  have h2 := showL_le m ⟨op, 0, noName, [a]⟩ l
  obtain ⟨b, h3, _⟩ := un_facts h0 h1
  rw [body_un _ _ _ h0 h1, h3] at h2
  have h4 := ih 13
  simp only [List.length_append, List.length_cons, List.length_nil] at h2
  rw [Nat.pow_succ]
  omega
 | bin m op a b h0 h1 _ _ iha ihb =>
  intro l
  have h2 := showL_le m ⟨op, 0, noName, [a, b]⟩ l
  obtain ⟨_, h3, _⟩ := bin_facts h0 h1
  rw [body_bin _ _ _ _ h0 h1] at h2
  have h4 := iha (hgt op)
  have h5 := ihb (hgt op + 1)
  simp only [List.length_append, List.length_cons] at h2
  rw [Nat.pow_succ]
  omega
 | cond m a b c _ _ _ iha ihb ihc =>
  intro l
  have h2 := showL_le m ⟨25, 0, noName, [a, b, c]⟩ l
  rw [body_cond] at h2
  have h4 := iha 3
  have h5 := ihb 1
  have h6 := ihc 2
  simp only [List.length_append, List.length_cons] at h2
  rw [Nat.pow_succ]
  omega
 | set m n t a h0 h1 _ ih =>
  intro l
  have h2 := showL_le m ⟨26, n, t, [a]⟩ l
  rw [body_set] at h2
  have h3 := asg_len h0
  have h4 := ih 1
  have h5 := name_len h1
  simp only [List.length_append, List.length_cons, sl_length] at h2
  rw [Nat.pow_succ]
  omega
theorem show_j0 (k : Nat) (least h : Nat) (B : List UInt8) (hB : B.length ≤ 9000000000000000000) : arith_show.j0 (k + 1) (least : Int) (h : Int) (ofL B) = some (ofL (if h < least then 40 :: (B ++ [41]) else B)) := by
 have h1 : ((⟨#[40]⟩ : ByteArray) ++ ofL B).size = 1 + B.length := by rw [ByteArray.size_append]; rfl
 have h2 : (ofL B).size = B.length := rfl
 rw [arith_show.j0]
 by_cases hc : h < least
 ·rw [if_pos (by omega), if_pos hc, if_pos (by omega), if_pos (by omega), show (⟨#[40]⟩ : ByteArray) = ofL [40] from rfl, show (⟨#[41]⟩ : ByteArray) = ofL [41] from rfl, ofL_app, ofL_app]
  rfl
 ·rw [if_neg (by omega), if_neg hc]
theorem show_is : ∀ {m : Nat} {x : S26}, V m x → m ≤ 32 → ∀ (k least : Nat), 5 * m + 5 ≤ k → arith_show.f k x.f0 x.f1 x.f2 x.f3 (least : Int) = some (ofL (showL m x least)) := by
 intro m x h
 have p32 : ∀ m, m ≤ 32 → 60 * 3 ^ m ≤ 120000000000000000 := by
  intro m hm
  have h1 : (3 : Nat) ^ m ≤ 3 ^ 32 := Nat.pow_le_pow_right (by decide) hm
  have h2 : (3 : Nat) ^ 32 = 1853020188851841 := by decide
  omega
 have body_le : ∀ {m : Nat} {x : S26}, V (m + 1) x → m + 1 ≤ 32 → (bodyL m x).length ≤ 120000000000000000 := by
  intro m x hV hm
  have h1 := show_len hV 0
  have h2 := p32 (m + 1) hm
  have h3 : (bodyL m x).length ≤ (showL (m + 1) x 0).length := by
   rw [showL_eq]
   split
   ·simp
    omega
   ·omega
  omega
 induction h with
 | num m n h0 h1 =>
  intro hm k least hk
  obtain ⟨k, rfl⟩ : ∃ j, k = j + 4 := ⟨k - 4, by omega⟩
  have hb := body_le (V.num m n h0 h1) hm
  rw [body_num] at hb
  have hi : strconv_Itoa_81.f n = some (ofL (itoaL n)) := by
   unfold strconv_Itoa_81.f
   rw [if_pos ⟨by omega, by omega⟩]
   rfl
  show arith_show.f (k + 4) 1 n noName [] (least : Int) = _
  have hj := show_j0 (k + 2) least 14 (itoaL n) (by omega)
  rw [showL_eq, body_num, arith_show.f, height_eq k (by omega) (by omega), Option.bind_some, show (hgt 1 : Int) = 14 from rfl, if_neg (by omega), if_neg (by omega), if_neg (by omega), if_pos rfl, if_pos rfl, hi, Option.bind_some]
  exact hj
 | var m t h =>
  intro hm k least hk
  obtain ⟨k, rfl⟩ : ∃ j, k = j + 4 := ⟨k - 4, by omega⟩
  have hb := body_le (V.var m t h) hm
  rw [body_var] at hb
  have hj := show_j0 (k + 2) least 14 (sl t) (by omega)
  show arith_show.f (k + 4) 2 0 t [] (least : Int) = _
  rw [showL_eq, body_var, arith_show.f, height_eq k (by omega) (by omega), Option.bind_some, show (hgt 2 : Int) = 14 from rfl, if_neg (by omega), if_neg (by omega), if_neg (by omega), if_pos rfl, if_neg (by omega)]
  exact hj
 | un m op a h0 h1 hv ih =>
  intro hm k least hk
  obtain ⟨k, rfl⟩ : ∃ j, k = j + 4 := ⟨k - 4, by omega⟩
  have hb := body_le (V.un m op a h0 h1 hv) hm
  obtain ⟨b, f1, f2, f3, f4, f5⟩ := un_facts h0 h1
  have hr := ih (by omega) (k + 3) 13 (by omega)
  have e : bodyL m ⟨op, 0, noName, [a]⟩ = sg op ++ showL m a 13 := body_un m op a h0 h1
  rw [e] at hb
  have hsz : (ofL (sg op)).size + (ofL (showL m a 13)).size ≤ 9223372036854775807 := by
   rw [List.length_append] at hb
   rw [ofL_size, ofL_size]
   omega
  have hj := show_j0 (k + 2) least 13 (sg op ++ showL m a 13) (by omega)
  have hrd : rd_T26 [a] 0 = a := rfl
  have hh : (hgt op : Int) = 13 := by rw [f5]; rfl
  show arith_show.f (k + 4) op 0 noName [a] (least : Int) = _
  rw [showL_eq, e, arith_show.f, height_eq k (by omega) (by omega), Option.bind_some, hh, if_neg (by omega), if_neg (by omega), if_pos rfl, sign_eq (by omega) (by omega), Option.bind_some, if_pos (by simp), hrd, show (13 : Int) = ((13 : Nat) : Int) from rfl, hr, Option.bind_some, if_pos hsz, ofL_app]
  show arith_show.j0 (k + 3) (least : Int) ((13 : Nat) : Int) _ = some (ofL (if hgt op < least then _ else _))
  rw [f5]
  exact hj
 | bin m op a b h0 h1 ha hb iha ihb =>
  intro hm k least hk
  obtain ⟨k, rfl⟩ : ∃ j, k = j + 4 := ⟨k - 4, by omega⟩
  have hB := body_le (V.bin m op a b h0 h1 ha hb) hm
  obtain ⟨f1, f2, f3, f4, f5, f6⟩ := bin_facts h0 h1
  have hr := iha (by omega) (k + 3) (hgt op) (by omega)
  have hr2 := ihb (by omega) (k + 3) (hgt op + 1) (by omega)
  have e : bodyL m ⟨op, 0, noName, [a, b]⟩ = (((showL m a (hgt op) ++ [32]) ++ sg op) ++ [32]) ++ showL m b (hgt op + 1) := by rw [body_bin m op a b h0 h1]; simp
  rw [e] at hB
  have hrd : rd_T26 [a, b] 0 = a := rfl
  have hrd2 : rd_T26 [a, b] 1 = b := rfl
  have hj := show_j0 (k + 2) least (hgt op) _ (show ((((showL m a (hgt op) ++ [32]) ++ sg op) ++ [32]) ++ showL m b (hgt op + 1)).length ≤ 9000000000000000000 by omega)
  have hl := hB
  simp only [List.length_append, List.length_cons, List.length_nil] at hl
  have hw : wrap64 ((hgt op : Int) + 1) = ((hgt op + 1 : Nat) : Int) := by rw [wrap_in (by omega) (by omega)]; omega
  have s32 : (⟨#[32]⟩ : ByteArray) = ofL [32] := rfl
  have q1 : (ofL (showL m a (hgt op))).size + 1 ≤ 9223372036854775807 := by rw [ofL_size]; omega
  have q2 : (ofL (showL m a (hgt op) ++ [32])).size + (ofL (sg op)).size ≤ 9223372036854775807 := by rw [ofL_size, ofL_size, List.length_append]; simp only [List.length_cons, List.length_nil]; omega
  have q3 : (ofL ((showL m a (hgt op) ++ [32]) ++ sg op)).size + 1 ≤ 9223372036854775807 := by rw [ofL_size, List.length_append, List.length_append]; simp only [List.length_cons, List.length_nil]; omega
  have q4 : (ofL (((showL m a (hgt op) ++ [32]) ++ sg op) ++ [32])).size + (ofL (showL m b (hgt op + 1))).size ≤ 9223372036854775807 := by rw [ofL_size, ofL_size]; simp only [List.length_append, List.length_cons, List.length_nil]; omega
  have n1 : ¬ (hgt op : Int) = 1 := by omega
  have n2 : ¬ (hgt op : Int) = 2 := by omega
  have n3 : ¬ (hgt op : Int) = 13 := by omega
  have n4 : ¬ (hgt op : Int) = 14 := by omega
  show arith_show.f (k + 4) op 0 noName [a, b] (least : Int) = _
  rw [showL_eq, e, arith_show.f, height_eq k (by omega) (by omega), Option.bind_some, if_neg n1, if_neg n2, if_neg n3, if_neg n4, if_pos (by simp), hrd, hr, Option.bind_some, if_pos q1, sign_eq (by omega) (by omega), Option.bind_some, s32, ofL_app, if_pos q2, ofL_app, if_pos q3, if_pos (by simp), hrd2, hw, hr2, Option.bind_some, ofL_app, if_pos q4, ofL_app]
  exact hj
 | cond m a b c ha hb hc iha ihb ihc =>
  intro hm k least hk
  obtain ⟨k, rfl⟩ : ∃ j, k = j + 4 := ⟨k - 4, by omega⟩
  have hB := body_le (V.cond m a b c ha hb hc) hm
  have hr : arith_show.f (k + 3) a.f0 a.f1 a.f2 a.f3 3 = _ := iha (by omega) (k + 3) 3 (by omega)
  have hr2 : arith_show.f (k + 3) b.f0 b.f1 b.f2 b.f3 1 = _ := ihb (by omega) (k + 3) 1 (by omega)
  have hr3 : arith_show.f (k + 3) c.f0 c.f1 c.f2 c.f3 2 = _ := ihc (by omega) (k + 3) 2 (by omega)
  have e : bodyL m ⟨25, 0, noName, [a, b, c]⟩ = (((showL m a 3 ++ [32, 63, 32]) ++ showL m b 1) ++ [32, 58, 32]) ++ showL m c 2 := by rw [body_cond m a b c]; simp
  rw [e] at hB
  have hrd : rd_T26 [a, b, c] 0 = a := rfl
  have hrd2 : rd_T26 [a, b, c] 1 = b := rfl
  have hrd3 : rd_T26 [a, b, c] 2 = c := rfl
  have hj := show_j0 (k + 2) least 2 _ (show ((((showL m a 3 ++ [32, 63, 32]) ++ showL m b 1) ++ [32, 58, 32]) ++ showL m c 2).length ≤ 9000000000000000000 by omega)
  have hl := hB
  simp only [List.length_append, List.length_cons, List.length_nil] at hl
  have s1 : (⟨#[32, 63, 32]⟩ : ByteArray) = ofL [32, 63, 32] := rfl
  have s2 : (⟨#[32, 58, 32]⟩ : ByteArray) = ofL [32, 58, 32] := rfl
  have q1 : (ofL (showL m a 3)).size + 3 ≤ 9223372036854775807 := by rw [ofL_size]; omega
  have q2 : (ofL (showL m a 3 ++ [32, 63, 32])).size + (ofL (showL m b 1)).size ≤ 9223372036854775807 := by rw [ofL_size, ofL_size, List.length_append]; simp only [List.length_cons, List.length_nil]; omega
  have q3 : (ofL ((showL m a 3 ++ [32, 63, 32]) ++ showL m b 1)).size + 3 ≤ 9223372036854775807 := by rw [ofL_size, List.length_append, List.length_append]; simp only [List.length_cons, List.length_nil]; omega
  have q4 : (ofL (((showL m a 3 ++ [32, 63, 32]) ++ showL m b 1) ++ [32, 58, 32])).size + (ofL (showL m c 2)).size ≤ 9223372036854775807 := by rw [ofL_size, ofL_size]; simp only [List.length_append, List.length_cons, List.length_nil]; omega
  show arith_show.f (k + 4) 25 0 noName [a, b, c] (least : Int) = _
  rw [showL_eq, e, arith_show.f, height_eq k (by omega) (by omega), Option.bind_some, show (hgt 25 : Int) = 2 from rfl, if_neg (by omega), if_pos rfl, if_pos (by simp), hrd, hr, Option.bind_some, if_pos q1, if_pos (by simp), hrd2, hr2, Option.bind_some, s1, ofL_app, if_pos q2, ofL_app, if_pos q3, if_pos (by simp), hrd3, hr3, Option.bind_some, s2, ofL_app, if_pos q4, ofL_app]
  exact hj
 | set m n t a h0 h1 hv ih =>
  intro hm k least hk
  obtain ⟨k, rfl⟩ : ∃ j, k = j + 4 := ⟨k - 4, by omega⟩
  have hB := body_le (V.set m n t a h0 h1 hv) hm
  have hr : arith_show.f (k + 3) a.f0 a.f1 a.f2 a.f3 1 = _ := ih (by omega) (k + 3) 1 (by omega)
  let S : List UInt8 := if n = 0 then [] else sg n
  have e : bodyL m ⟨26, n, t, [a]⟩ = (((sl t ++ [32]) ++ S) ++ [61, 32]) ++ showL m a 1 := by rw [body_set m n t a]; simp [asg, S]
  rw [e] at hB
  have hrd : rd_T26 [a] 0 = a := rfl
  have hj := show_j0 (k + 2) least 1 _ (show ((((sl t ++ [32]) ++ S) ++ [61, 32]) ++ showL m a 1).length ≤ 9000000000000000000 by omega)
  have hl := hB
  simp only [List.length_append, List.length_cons, List.length_nil] at hl
  have s1 : (⟨#[32]⟩ : ByteArray) = ofL [32] := rfl
  have s2 : (⟨#[61, 32]⟩ : ByteArray) = ofL [61, 32] := rfl
  have s3 : t = ofL (sl t) := rfl
  have q1 : (ofL (sl t)).size + 1 ≤ 9223372036854775807 := by rw [ofL_size]; omega
  have q2 : (ofL (sl t ++ [32])).size + (ofL S).size ≤ 9223372036854775807 := by rw [ofL_size, ofL_size, List.length_append]; simp only [List.length_cons, List.length_nil]; omega
  have q3 : (ofL ((sl t ++ [32]) ++ S)).size + 2 ≤ 9223372036854775807 := by rw [ofL_size, List.length_append, List.length_append]; simp only [List.length_cons, List.length_nil]; omega
  have q4 : (ofL (((sl t ++ [32]) ++ S) ++ [61, 32])).size + (ofL (showL m a 1)).size ≤ 9223372036854775807 := by rw [ofL_size, ofL_size]; simp only [List.length_append, List.length_cons, List.length_nil]; omega
  show arith_show.f (k + 4) 26 n (ofL (sl t)) [a] (least : Int) = _
  rw [showL_eq, e, arith_show.f, height_eq k (by omega) (by omega), Option.bind_some, show (hgt 26 : Int) = 1 from rfl, if_pos rfl]
  by_cases hn : n = 0
  ·have eS : S = [] := by simp [S, hn]
   have s4 : (⟨#[]⟩ : ByteArray) = ofL S := by rw [eS]
   rw [if_pos hn, s1, s4, if_pos q1, ofL_app, if_pos (by have := q2; rw [eS] at this; exact this), ofL_app, if_pos q3, if_pos (by simp), hrd, hr, Option.bind_some, s2, ofL_app, if_pos q4, ofL_app]
   exact hj
  ·have eS : S = sg n := by simp [S, hn]
   have hs : arith_sign.f n = some (ofL S) := by
    rw [eS]
    unfold asgB at h0
    simp at h0
    exact sign_eq (by omega) (by omega)
   rw [if_neg hn, hs, Option.bind_some, if_pos q1, s1, ofL_app, if_pos q2, ofL_app, if_pos q3, if_pos (by simp), hrd, hr, Option.bind_some, s2, ofL_app, if_pos q4, ofL_app]
   exact hj
end Go.Proofs.YtglmdfddgmkmaaaDoor.Q
end
section
namespace Go.Proofs.YtglmdfddgmkmaaaDoor.Q
open Go.RowKit Go.Proofs.YtglmdfddgmkmaaaDoorW.PrintWords
set_option linter.unusedVariables false
set_option linter.unusedSimpArgs false
theorem firstE_all {g : S26 → Int} : ∀ l : List S26, (∀ y ∈ l, g y = 0) → firstE g l = 0
 | [], _ => rfl
 | a :: l, h => by
  simp only [firstE]
  rw [if_pos (h a (List.mem_cons_self ..)), firstE_all l (fun y hy => h y (List.mem_cons_of_mem _ hy))]
theorem V_W3 {m : Nat} {x : S26} (h : V m x) : W3 x := by
 induction h with
 | num m n _ _ => exact .mk _ (Nat.zero_le _) (fun y h => by cases h)
 | var m t _ => exact .mk _ (Nat.zero_le _) (fun y h => by cases h)
 | un m op a _ _ _ ih => exact .mk _ (by simp) (fun z hz => by simp at hz; exact hz ▸ ih)
 | bin m op a b _ _ _ _ h1 h2 => exact .mk _ (by simp) (fun z hz => by simp at hz; rcases hz with rfl | rfl; exact h1; exact h2)
 | cond m a b c _ _ _ h1 h2 h3 => exact .mk _ (by simp) (fun w hw => by simp at hw; rcases hw with rfl | rfl | rfl; exact h1; exact h2; exact h3)
 | set m n t a _ _ _ ih => exact .mk _ (by simp) (fun z hz => by simp at hz; exact hz ▸ ih)
theorem levels_node (m : Nat) (hm : m ≤ 1000) (x : S26) (hl : x.f3.length ≤ 3) (h : ∀ y ∈ x.f3, ∃ k n, arith_levels.f k y.f0 y.f1 y.f2 y.f3 = some n ∧ n ≤ (m : Int)) : ∃ k n, arith_levels.f k x.f0 x.f1 x.f2 x.f3 = some n ∧ n ≤ ((m + 1 : Nat) : Int) := by
 obtain ⟨K, hK⟩ := common (P := fun k y => ∃ n, arith_levels.f k y.f0 y.f1 y.f2 y.f3 = some n ∧ n ≤ (m : Int)) (fun k y ⟨n, h, h2⟩ => ⟨n, arith_levels.mono _ _ _ _ _ _ h, h2⟩) x.f3 h
 have loop : ∀ (d i : Nat) (a : Int), i + d = x.f3.length → 0 ≤ a → a ≤ (m : Int) → ∃ n, arith_levels.l0 (K + d + 1) a x.f3 (x.f3.length : Int) (i : Int) = some n ∧ n ≤ ((m + 1 : Nat) : Int) := by
  intro d
  induction d with
  | zero =>
   intro i a hi ha hb
   rw [arith_levels.l0, if_neg (by omega)]
   exact ⟨_, rfl, by rw [wrap_in (by omega) (by omega)]; omega⟩
  | succ d ihd =>
   intro i a hi ha hb
   obtain ⟨n, hn, hn2⟩ := hK (K + (d + 1)) (by omega) (rd_T26 x.f3 (i : Int)) (rd_mem (by omega))
   have hw : wrap64 ((i : Int) + 1) = ((i + 1 : Nat) : Int) := by rw [wrap_in (by omega) (by omega)]; omega
   rw [arith_levels.l0, if_pos (by omega), if_pos (by omega), if_pos (by omega), hn, Option.bind_some, hw, show K + (d + 1) = K + d + 1 by omega]
   exact ihd (i + 1) _ (by omega) (by unfold mx; split <;> omega) (by unfold mx; split <;> omega)
 obtain ⟨n, hn, hn2⟩ := loop x.f3.length 0 0 (by omega) (by omega) (by omega)
 rw [show ((0 : Nat) : Int) = 0 from rfl] at hn
 exact ⟨K + x.f3.length + 1 + 1, n, by rw [arith_levels.f]; exact hn, hn2⟩
theorem levels_V {m : Nat} {x : S26} (h : V m x) : m ≤ 1000 → ∃ k n, arith_levels.f k x.f0 x.f1 x.f2 x.f3 = some n ∧ n ≤ (m : Int) := by
 induction h with
 | num m n _ _ => exact fun hm => levels_node m (by omega) _ (Nat.zero_le _) (fun y h => by cases h)
 | var m t _ => exact fun hm => levels_node m (by omega) _ (Nat.zero_le _) (fun y h => by cases h)
 | un m op a _ _ _ ih => exact fun hm => levels_node m (by omega) _ (by simp) (fun z hz => by simp at hz; exact hz ▸ ih (by omega))
 | bin m op a b _ _ _ _ h1 h2 => exact fun hm => levels_node m (by omega) _ (by simp) (fun z hz => by simp at hz; rcases hz with rfl | rfl; exact h1 (by omega); exact h2 (by omega))
 | cond m a b c _ _ _ h1 h2 h3 => exact fun hm => levels_node m (by omega) _ (by simp) (fun w hw => by simp at hw; rcases hw with rfl | rfl | rfl; exact h1 (by omega); exact h2 (by omega); exact h3 (by omega))
 | set m n t a _ _ _ ih => exact fun hm => levels_node m (by omega) _ (by simp) (fun z hz => by simp at hz; exact hz ▸ ih (by omega))
theorem size_up {x : S26} {k n r} (h : k ≤ n) (hr : arith_size.f k x.f0 x.f1 x.f2 x.f3 = some r) : arith_size.f n x.f0 x.f1 x.f2 x.f3 = some r := by
 induction h with
 | refl => exact hr
 | step _ ih => exact arith_size.mono _ _ _ _ _ _ ih
theorem Valid_is (x : S26) (k : Nat) (hk : 400 ≤ k) : arith_Valid.f k x.f0 x.f1 x.f2 x.f3 = some (validE 32 x) := by
 unfold arith_Valid.f
 have h1 := arith_valid_eq 32 x k (by omega) (by omega)
 rw [show ((32 - 32 : Nat) : Int) = 0 from rfl] at h1
 rw [h1]
 rfl
/-- Parse reads a shown tree back. -/
theorem Parse_back {x : S26} (hV : V 32 x) (hl : (showL 32 x 1).length ≤ 4096) : ∃ K, ∀ k, K ≤ k → parseP (ofL (showL 32 x 1)) k = some (x.f0, x.f1, x.f2, x.f3, 0, 0) := by
 have hz : (ofL (showL 32 x 1)).size ≤ 4096 := hl
 obtain ⟨b, l, hb, hg⟩ := show_head hV 1
 have hsl : sl (ofL (showL 32 x 1)) = showL 32 x 1 := rfl
 have hVb : Vb (sl (ofL (showL 32 x 1))) = showL 32 x 1 := by rw [hsl, hb]; exact Vb_good hg.1
 have hne : Vb (sl (ofL (showL 32 x 1))) ≠ [] := by rw [hVb, hb]; simp
 have h1 := (read_back (s := ofL (showL 32 x 1)) hz hV).2.2.2 [] (by rw [List.append_nil, hsl]; exact List.suffix_refl _) (.inl rfl) ⟨⟨⟨0, 0, by rw [show Vb [] = [] from rfl, tkNil]; exact bi0, by omega⟩, by rw [show Vb [] = [] from rfl, tkNil, Go.ByteArray.toList_eq]; simp⟩, 0, by rw [show Vb [] = [] from rfl, tkNil]; exact as0⟩
 rw [List.append_nil, show Vb [] = [] from rfl] at h1
 obtain ⟨K, hK⟩ := parse_pr hz hne (by rw [hVb]; exact h1)
 obtain ⟨kl, n, hn, hn2⟩ := levels_V hV (by omega)
 refine ⟨K + kl, fun k hk => ?_⟩
 rw [hK k (by omega), okL]
 exact told_right _ _ _ _ (by rw [tkNil, Go.ByteArray.toList_eq]) (levels_up (show kl ≤ k by omega) hn) (by omega)
end Go.Proofs.YtglmdfddgmkmaaaDoor.Q
end
section
namespace Go.Proofs.YtglmdfddgmkmaaaDoor.Q
open Go.RowKit Go.Proofs.YtglmdfddgmkmaaaDoorW.PrintWords
set_option linter.unusedVariables false
set_option linter.unusedSimpArgs false
theorem value_pos {k : Nat} {c d : Int} (h : arith_value.f k c = some d) : 0 ≤ d := by
 have hj : ∀ b, arith_value.j0 k c b = some d → 0 ≤ d := by
  intro b hb
  cases k with
  | zero => simp [arith_value.j0] at hb
  | succ k =>
   rw [arith_value.j0] at hb
   repeat' split at hb
   all_goals
    have hb := Option.some.inj hb
    omega
 unfold arith_value.f at h
 have : ∃ b, arith_digit.f c = some b := by
  unfold arith_digit.f
  split
  ·exact ⟨_, rfl⟩
  ·exact ⟨_, rfl⟩
 obtain ⟨b, hb⟩ := this
 rw [hb, Option.bind_some] at h
 split at h
 ·have h := Option.some.inj h
  omega
 ·split at h
  ·exact hj _ h
  ·exact hj _ h
theorem step_fits {n v base : Int} (hb : base = 8 ∨ base = 10 ∨ base = 16) (hn : 0 ≤ n) (hv : 0 ≤ v) (hv2 : v < base) (h : ¬ n > wrap64 (Int.tdiv (wrap64 (9223372036854775807 - v)) base)) : wrap64 (wrap64 (n * base) + v) = n * base + v ∧ 0 ≤ n * base + v ∧ n * base + v ≤ 9223372036854775807 := by
 have w1 : wrap64 (9223372036854775807 - v) = 9223372036854775807 - v := wrap_in (by omega) (by omega)
 rw [w1, Int.tdiv_eq_ediv_of_nonneg (by omega)] at h
 have w2 : wrap64 ((9223372036854775807 - v) / base) = (9223372036854775807 - v) / base := by
  rcases hb with rfl | rfl | rfl
  ·exact wrap_in (by omega) (by omega)
  ·exact wrap_in (by omega) (by omega)
  ·exact wrap_in (by omega) (by omega)
 rw [w2] at h
 have h1 : 0 ≤ n * base ∧ n * base + v ≤ 9223372036854775807 := by
  rcases hb with rfl | rfl | rfl
  ·omega
  ·omega
  ·omega
 rw [wrap_in (z := n * base) (by omega) (by omega), wrap_in (by omega) (by omega)]
 exact ⟨rfl, by omega, h1.2⟩
theorem num_fits (base : Int) (hb : base = 8 ∨ base = 10 ∨ base = 16) (t : ByteArray) : ∀ (k : Nat) (n : Int) (ov : Bool) (len i r : Int), 0 ≤ n → n ≤ 9223372036854775807 → arith_number.l0 k base t n ov len i = some (r, 0) → 0 ≤ r ∧ r ≤ 9223372036854775807 := by
 intro k
 induction k with
 | zero => intro n ov len i r _ _ h; simp [arith_number.l0] at h
 | succ k ih =>
  intro n ov len i r h0 h1 h
  rw [arith_number.l0] at h
  by_cases c1 : i < len
  ·rw [if_pos c1] at h
   by_cases c2 : 0 ≤ i
   ·rw [if_pos c2] at h
    by_cases c3 : i < (t.size : Int)
    ·rw [if_pos c3] at h
     obtain ⟨v, hv, h⟩ := Option.bind_eq_some_iff.mp h
     by_cases c4 : v ≥ base
     ·rw [if_pos c4] at h
      simp at h
     ·rw [if_neg c4] at h
      by_cases c5 : ov = true
      ·rw [if_pos c5] at h
       exact ih _ _ _ _ _ h0 h1 h
      ·rw [if_neg c5] at h
       by_cases c6 : base = 0
       ·rw [if_pos c6] at h
        simp at h
       ·rw [if_neg c6] at h
        by_cases c7 : n > wrap64 (Int.tdiv (wrap64 (9223372036854775807 - v)) base)
        ·rw [if_pos c7] at h
         exact ih _ _ _ _ _ h0 h1 h
        ·rw [if_neg c7] at h
         obtain ⟨e, e1, e2⟩ := step_fits hb h0 (value_pos hv) (by omega) c7
         rw [e] at h
         exact ih _ _ _ _ _ e1 e2 h
    ·rw [if_neg c3] at h
     simp at h
   ·rw [if_neg c2] at h
    simp at h
  ·rw [if_neg c1] at h
   split at h
   ·simp at h
   ·have h := Option.some.inj h
    simp only [Prod.mk.injEq] at h
    omega
theorem number_fits {k : Nat} {t : ByteArray} {r : Int} (h : arith_number.f k t = some (r, 0)) : 0 ≤ r ∧ r ≤ 9223372036854775807 := by
 have j1 : ∀ k base t, base = 8 ∨ base = 10 ∨ base = 16 → arith_number.j1 k base t = some (r, 0) → 0 ≤ r ∧ r ≤ 9223372036854775807 := by
  intro k base t hb h
  cases k with
  | zero => simp [arith_number.j1] at h
  | succ k =>
   rw [arith_number.j1] at h
   split at h
   ·simp at h
   ·exact num_fits base hb t _ _ _ _ _ _ (by omega) (by omega) h
 have j0 : ∀ b, arith_number.j0 k t 10 t b = some (r, 0) → 0 ≤ r ∧ r ≤ 9223372036854775807 := by
  intro b h
  cases k with
  | zero => simp [arith_number.j0] at h
  | succ k =>
   rw [arith_number.j0] at h
   split at h
   ·split at h
    ·exact j1 _ _ _ (by omega) h
    ·simp at h
   ·split at h
    ·split at h
     ·exact j1 _ _ _ (by omega) h
     ·exact j1 _ _ _ (by omega) h
    ·simp at h
 unfold arith_number.f at h
 repeat' split at h
 all_goals first
  | exact j0 _ h
  | (simp at h; done)
theorem ite_or {α : Type} {c : Prop} [Decidable c] {x y : Option α} {r : α} (h : (if c then x else y) = some r) : x = some r ∨ y = some r := by
 split at h
 ·exact .inl h
 ·exact .inr h
theorem binary_kind {t : ByteArray} {op l : Int} (h : arith_binary.f t = some (op, l)) (hl : 1 ≤ l) : 7 ≤ op ∧ op ≤ 24 := by
 unfold arith_binary.f at h
 repeat (rcases ite_or h with h | h; · (have h := Option.some.inj h; have h1 := congrArg Prod.fst h; have h2 := congrArg Prod.snd h; simp only at h1 h2; omega))
 have h := Option.some.inj h
 have h2 := congrArg Prod.snd h
 simp only at h2
 omega
theorem unary_kind {t : ByteArray} {op : Int} (h : arith_unary.f t = some op) (h0 : op ≠ 0) : 3 ≤ op ∧ op ≤ 6 := by
 unfold arith_unary.f at h
 repeat (rcases ite_or h with h | h; · (have h := Option.some.inj h; omega))
 have h := Option.some.inj h
 omega
theorem mem_takeWhile {f : UInt8 → Bool} : ∀ (L : List UInt8), ∀ b ∈ L.takeWhile f, f b = true
 | [], b, h => absurd h (by simp)
 | a :: L, b, h => by
  rw [List.takeWhile_cons] at h
  split at h
  ·rcases List.mem_cons.mp h with rfl | h
   ·assumption
   ·exact mem_takeWhile L b h
  ·exact absurd h (by simp)
theorem opL_kind (r : List UInt8) : ∀ k, opL r k = 0 ∨ opL r k = 1 ∨ oprB (r.take (opL r k)) = true
 | 0 => .inl rfl
 | k + 1 => by
  rw [opL]
  split
  ·rename_i h
   rcases h with rfl | h
   ·exact .inr (.inl rfl)
   ·exact .inr (.inr h)
  ·exact opL_kind r k
/-- A token: bytes of words, or one byte, or an operator. -/
theorem tk_kind {L : List UInt8} (h : L ≠ []) : (∀ b ∈ sl (tk L), wrdB b = true) ∨ (tk L).size = 1 ∨ oprB (sl (tk L)) = true := by
 have hp := lexN_pos h
 have e : sl (tk L) = L.take (lexN L) := rfl
 rw [e, tk_size]
 by_cases hw : (L.takeWhile wrdB).length = 0
 ·have hl : lexN L = opL L (min 3 L.length) := by unfold lexN; rw [if_pos hw]
  rw [hl]
  rcases opL_kind L (min 3 L.length) with h1 | h1 | h1
  ·omega
  ·exact .inr (.inl h1)
  ·exact .inr (.inr h1)
 ·have hl : lexN L = (L.takeWhile wrdB).length := by unfold lexN; rw [if_neg hw]
  left
  rw [hl]
  have : L.take (L.takeWhile wrdB).length = L.takeWhile wrdB := by
   conv => lhs; rw [← List.takeWhile_append_dropWhile (p := wrdB) (l := L)]
   have : (List.takeWhile wrdB (L.takeWhile wrdB ++ L.dropWhile wrdB)) = L.takeWhile wrdB := by rw [List.takeWhile_append_dropWhile]
   rw [this, List.take_left]
  rw [this]
  intro b hb
  exact mem_takeWhile L b hb
theorem asg_last {t : ByteArray} (hs : t.size ≤ 4096) {op : Int} (h : arith_assignment.f 1 t = some (op, true)) : t.toList = [61] ∨ (1 ≤ t.size ∧ bt t ((t.size : Int) - 1) = 61) := by
 have j0 : ∀ b, arith_assignment.j0 1 t b = some (op, true) → 1 ≤ t.size ∧ bt t ((t.size : Int) - 1) = 61 := by
  intro b h
  have hw : wrap64 ((t.size : Int) - 1) = (t.size : Int) - 1 := wrap_in (by omega) (by omega)
  rw [arith_assignment.j0, hw] at h
  by_cases c0 : b = true
  ·rw [if_pos c0] at h
   simp at h
  ·rw [if_neg c0] at h
   by_cases c1 : (0 : Int) ≤ (t.size : Int) - 1
   ·rw [if_pos c1, if_pos (by omega)] at h
    by_cases c3 : bt t ((t.size : Int) - 1) = 61
    ·exact ⟨by omega, c3⟩
    ·rw [if_neg c3] at h
     simp at h
   ·rw [if_neg c1] at h
    simp at h
 unfold arith_assignment.f at h
 by_cases h1 : t.toList = [61]
 ·exact .inl h1
 ·right
  rw [if_neg h1] at h
  rcases ite_or h with h | h
  ·exact j0 _ h
  ·rcases ite_or h with h | h
   ·exact j0 _ h
   ·rcases ite_or h with h | h
    ·exact j0 _ h
    ·rcases ite_or h with h | h
     ·exact j0 _ h
     ·exact j0 _ h
/-- The operators of assignments, looked through. -/
def asgOk (l : List UInt8) : Bool :=
 match arith_assignment.f 1 ⟨l.toArray⟩ with
 | some (op, true) => asgB op
 | _ => true
theorem asg_all : opsL.all asgOk = true := by kernel_rfl
theorem asg_one : asgOk [61] = true := by kernel_rfl
theorem asg_of {t : ByteArray} {l : List UInt8} (hl : sl t = l) (h : asgOk l = true) {op : Int} (ha : arith_assignment.f 1 t = some (op, true)) : asgB op = true := by
 unfold asgOk at h
 rw [← hl, sl_mk, ha] at h
 exact h
/-- What an assignment's token tells. -/
theorem asg_kind {L : List UInt8} (hsz : (tk L).size ≤ 4096) {op : Int} (h : arith_assignment.f 1 (tk L) = some (op, true)) : asgB op = true := by
 rcases asg_last hsz h with h1 | ⟨h1, h2⟩
 ·rw [Go.ByteArray.toList_eq] at h1
  exact asg_of h1 asg_one h
 ·have hL : L ≠ [] := by
   rintro rfl
   rw [tkNil] at h1
   exact absurd h1 (by decide)
  have hv := sl_bt (tk L) ((tk L).size - 1) (by omega)
  rw [show (((tk L).size - 1 : Nat) : Int) = ((tk L).size : Int) - 1 by omega, h2] at hv
  rcases tk_kind hL with h3 | h3 | h3
  ·have := h3 _ (List.getElem_mem (l := sl (tk L)) (n := (tk L).size - 1) (by rw [sl_length]; omega))
   rw [wrd_iff] at this
   omega
  ·obtain ⟨c, hc⟩ : ∃ c, sl (tk L) = [c] := List.length_eq_one_iff.mp (by rw [sl_length]; exact h3)
   have hc2 : c = 61 := by
    have e : (sl (tk L))[(tk L).size - 1]'(by rw [sl_length]; omega) = c := by
     simp only [h3, hc]
     rfl
    rw [e] at hv
    apply UInt8.toNat_inj.mp
    show c.toNat = 61
    omega
   rw [hc2] at hc
   exact asg_of hc asg_one h
  ·exact asg_of rfl (List.all_eq_true.mp asg_all _ (opr_mem h3)) h
end Go.Proofs.YtglmdfddgmkmaaaDoor.Q
end
section
namespace Go.Proofs.YtglmdfddgmkmaaaDoor.Q
open Go.RowKit Go.Proofs.YtglmdfddgmkmaaaDoorW.PrintWords
set_option linter.unusedVariables false
set_option linter.unusedSimpArgs false
/-- The number of parts. -/
def cnt : Nat → S26 → Nat
 | 0, _ => 0
 | d + 1, x => 1 + (x.f3.map (cnt d)).sum
theorem rd_drop {xs : List S26} {i : Nat} (h : i < xs.length) : xs.drop i = rd_T26 xs (i : Int) :: xs.drop (i + 1) := by
 rw [List.drop_eq_getElem_cons h]
 simp [rd_T26, List.getD_eq_getElem?_getD, h]
end Go.Proofs.YtglmdfddgmkmaaaDoor.Q
end
section
namespace Go.Proofs.YtglmdfddgmkmaaaDoor.Q
open Go.RowKit Go.Proofs.YtglmdfddgmkmaaaDoorW.PrintWords
set_option linter.unusedVariables false
set_option linter.unusedSimpArgs false
/-- A valid tree whose text has at most w bytes, and which has at most w parts and levels. -/
inductive Wt : Nat → S26 → Prop where
 | num (w : Nat) (n : Int) : 0 ≤ n → n ≤ 9223372036854775807 → 20 ≤ w → Wt w ⟨1, n, noName, []⟩
 | var (w : Nat) (t : ByteArray) : nameB t = true → t.size ≤ w → Wt w ⟨2, 0, t, []⟩
 | un (w wa : Nat) (op : Int) (a : S26) : 3 ≤ op → op ≤ 6 → Wt wa a → wa + 3 ≤ w → Wt w ⟨op, 0, noName, [a]⟩
 | bin (w wa wb : Nat) (op : Int) (a b : S26) : 7 ≤ op → op ≤ 24 → Wt wa a → Wt wb b → wa + wb + 6 ≤ w → Wt w ⟨op, 0, noName, [a, b]⟩
 | cond (w wa wb wc : Nat) (a b c : S26) : Wt wa a → Wt wb b → Wt wc c → wa + wb + wc + 8 ≤ w → Wt w ⟨25, 0, noName, [a, b, c]⟩
 | set (w wa : Nat) (n : Int) (t : ByteArray) (a : S26) : asgB n = true → nameB t = true → Wt wa a → wa + t.size + 7 ≤ w → Wt w ⟨26, n, t, [a]⟩
theorem name_pos {t : ByteArray} (h : nameB t = true) : 1 ≤ t.size := by
 obtain ⟨b, l, h1, _⟩ := name_bytes h
 have : t.size = (b :: l).length := by rw [← h1]; rfl
 simp at this
 omega
theorem V_up {m : Nat} {x : S26} (h : V m x) : ∀ n, m ≤ n → V n x := by
 induction h with
 | num m v h0 h1 => exact fun n hn => by obtain ⟨n, rfl⟩ : ∃ j, n = j + 1 := ⟨n - 1, by omega⟩; exact .num n v h0 h1
 | var m t h => exact fun n hn => by obtain ⟨n, rfl⟩ : ∃ j, n = j + 1 := ⟨n - 1, by omega⟩; exact .var n t h
 | un m op a h0 h1 _ ih => exact fun n hn => by obtain ⟨n, rfl⟩ : ∃ j, n = j + 1 := ⟨n - 1, by omega⟩; exact .un n op a h0 h1 (ih n (by omega))
 | bin m op a b h0 h1 _ _ iha ihb => exact fun n hn => by obtain ⟨n, rfl⟩ : ∃ j, n = j + 1 := ⟨n - 1, by omega⟩; exact .bin n op a b h0 h1 (iha n (by omega)) (ihb n (by omega))
 | cond m a b c _ _ _ iha ihb ihc => exact fun n hn => by obtain ⟨n, rfl⟩ : ∃ j, n = j + 1 := ⟨n - 1, by omega⟩; exact .cond n a b c (iha n (by omega)) (ihb n (by omega)) (ihc n (by omega))
 | set m v t a h0 h1 _ ih => exact fun n hn => by obtain ⟨n, rfl⟩ : ∃ j, n = j + 1 := ⟨n - 1, by omega⟩; exact .set n v t a h0 h1 (ih n (by omega))
theorem Wt_V {w : Nat} {x : S26} (h : Wt w x) : V w x := by
 induction h with
 | num w n h0 h1 h2 => exact V_up (.num 0 n h0 h1) w (by omega)
 | var w t h h2 => exact V_up (.var 0 t h) w (by have := name_pos h; omega)
 | un w wa op a h0 h1 _ h2 ih => exact V_up (.un wa op a h0 h1 ih) w (by omega)
 | bin w wa wb op a b h0 h1 _ _ h2 iha ihb => exact V_up (.bin (wa + wb) op a b h0 h1 (V_up iha _ (by omega)) (V_up ihb _ (by omega))) w (by omega)
 | cond w wa wb wc a b c _ _ _ h2 iha ihb ihc => exact V_up (.cond (wa + wb + wc) a b c (V_up iha _ (by omega)) (V_up ihb _ (by omega)) (V_up ihc _ (by omega))) w (by omega)
 | set w wa n t a h0 h1 _ h2 ih => exact V_up (.set wa n t a h0 h1 ih) w (by omega)
/-- The text's length. -/
theorem Wt_len {w : Nat} {x : S26} (h : Wt w x) : ∀ m n, n ≤ 14 → (showL m x n).length ≤ w := by
 have zero : ∀ (x : S26) n, (showL 0 x n).length = 0 := fun _ _ => rfl
 have inner : ∀ (w : Nat) (x : S26), (∀ m, (bodyL m x).length + 2 ≤ w) → ∀ m n, n ≤ 14 → (showL m x n).length ≤ w := by
  intro w x hb m n hn
  cases m with
  | zero => rw [zero]; omega
  | succ m =>
   have h1 := showL_le m x n
   have h2 := hb m
   omega
 have leaf : ∀ (w : Nat) (x : S26), hgt x.f0 = 14 → (∀ m, (bodyL m x).length ≤ w) → ∀ m n, n ≤ 14 → (showL m x n).length ≤ w := by
  intro w x hx hb m n hn
  cases m with
  | zero => rw [zero]; omega
  | succ m =>
   rw [showL_eq, if_neg (by omega)]
   exact hb m
 induction h with
 | num w n h0 h1 h2 =>
  refine leaf w _ rfl (fun m => ?_)
  rw [body_num]
  have := itoa_len h0 h1
  omega
 | var w t h h2 =>
  refine leaf w _ rfl (fun m => ?_)
  rw [body_var, sl_length]
  exact h2
 | un w wa op a h0 h1 _ h2 ih =>
  refine inner w _ (fun m => ?_)
  obtain ⟨b, h3, _⟩ := un_facts h0 h1
  have h4 := ih m 13 (by omega)
  rw [body_un _ _ _ h0 h1, h3]
  simp only [List.length_append, List.length_cons, List.length_nil]
  omega
 | bin w wa wb op a b h0 h1 _ _ h2 iha ihb =>
  refine inner w _ (fun m => ?_)
  obtain ⟨_, h3, _, _, h6, h7⟩ := bin_facts h0 h1
  have h4 := iha m (hgt op) (by omega)
  have h5 := ihb m (hgt op + 1) (by omega)
  rw [body_bin _ _ _ _ h0 h1]
  simp only [List.length_append, List.length_cons]
  omega
 | cond w wa wb wc a b c _ _ _ h2 iha ihb ihc =>
  refine inner w _ (fun m => ?_)
  have h4 := iha m 3 (by omega)
  have h5 := ihb m 1 (by omega)
  have h6 := ihc m 2 (by omega)
  rw [body_cond]
  simp only [List.length_append, List.length_cons]
  omega
 | set w wa n t a h0 h1 _ h2 ih =>
  refine inner w _ (fun m => ?_)
  have h3 := asg_len h0
  have h4 := ih m 1 (by omega)
  rw [body_set]
  simp only [List.length_append, List.length_cons, sl_length]
  omega
theorem Wt_cnt {w : Nat} {x : S26} (h : Wt w x) : ∀ m, cnt m x ≤ w := by
 induction h with
 | num w n h0 h1 h2 => intro m; cases m <;> simp [cnt] <;> omega
 | var w t h h2 => intro m; have := name_pos h; cases m <;> simp [cnt] <;> omega
 | un w wa op a h0 h1 _ h2 ih =>
  intro m
  cases m with
  | zero => simp [cnt]
  | succ m => have := ih m; simp [cnt]; omega
 | bin w wa wb op a b h0 h1 _ _ h2 iha ihb =>
  intro m
  cases m with
  | zero => simp [cnt]
  | succ m => have := iha m; have := ihb m; simp [cnt]; omega
 | cond w wa wb wc a b c _ _ _ h2 iha ihb ihc =>
  intro m
  cases m with
  | zero => simp [cnt]
  | succ m => have := iha m; have := ihb m; have := ihc m; simp [cnt]; omega
 | set w wa n t a h0 h1 _ h2 ih =>
  intro m
  cases m with
  | zero => simp [cnt]
  | succ m => have := ih m; simp [cnt]; omega
theorem size_node (m : Nat) (x : S26) (hl : x.f3.length ≤ 3) (hc : cnt (m + 1) x ≤ 4096) (h : ∀ y ∈ x.f3, cnt m y ≤ 4096 → ∃ k, arith_size.f k y.f0 y.f1 y.f2 y.f3 = some (cnt m y : Int)) : ∃ k, arith_size.f k x.f0 x.f1 x.f2 x.f3 = some (cnt (m + 1) x : Int) := by
 have mem : ∀ (l : List S26) (y : S26), y ∈ l → cnt m y ≤ (l.map (cnt m)).sum := by
  intro l
  induction l with
  | nil => intro y hy; exact absurd hy (by simp)
  | cons a l ih =>
   intro y hy
   simp only [List.map_cons, List.sum_cons]
   rcases List.mem_cons.mp hy with rfl | hy
   ·omega
   ·have := ih y hy
    omega
 simp only [cnt] at hc
 obtain ⟨K, hK⟩ := common (P := fun k y => arith_size.f k y.f0 y.f1 y.f2 y.f3 = some (cnt m y : Int)) (fun k y h => arith_size.mono _ _ _ _ _ _ h) x.f3 (fun y hy => h y hy (by have := mem x.f3 y hy; omega))
 have loop : ∀ (d i a : Nat), i + d = x.f3.length → a + ((x.f3.drop i).map (cnt m)).sum ≤ 4096 → arith_size.l0 (K + d + 1) (a : Int) x.f3 (x.f3.length : Int) (i : Int) = some ((a + ((x.f3.drop i).map (cnt m)).sum : Nat) : Int) := by
  intro d
  induction d with
  | zero =>
   intro i a hi ha
   rw [arith_size.l0, if_neg (by omega), List.drop_eq_nil_of_le (by omega)]
   rfl
  | succ d ihd =>
   intro i a hi ha
   have hlt : i < x.f3.length := by omega
   have hn := hK (K + (d + 1)) (by omega) (rd_T26 x.f3 (i : Int)) (rd_mem hlt)
   have hw : wrap64 ((i : Int) + 1) = ((i + 1 : Nat) : Int) := by rw [wrap_in (by omega) (by omega)]; omega
   rw [rd_drop hlt] at ha ⊢
   simp only [List.map_cons, List.sum_cons] at ha ⊢
   have hw2 : wrap64 ((a : Int) + (cnt m (rd_T26 x.f3 (i : Int)) : Int)) = ((a + cnt m (rd_T26 x.f3 (i : Int)) : Nat) : Int) := by rw [wrap_in (by omega) (by omega)]; omega
   rw [arith_size.l0, if_pos (by omega), if_pos (by omega), if_pos (by omega), if_neg (by omega), hn, Option.bind_some, hw, hw2, show K + (d + 1) = K + d + 1 by omega, ihd (i + 1) _ (by omega) (by omega), Nat.add_assoc]
 have hn := loop x.f3.length 0 1 (by omega) (by rw [List.drop_zero]; omega)
 rw [show ((0 : Nat) : Int) = 0 from rfl, List.drop_zero, show ((1 : Nat) : Int) = 1 from rfl] at hn
 exact ⟨K + x.f3.length + 1 + 1, by rw [arith_size.f]; exact hn⟩
theorem size_V {m : Nat} {x : S26} (h : V m x) : cnt m x ≤ 4096 → ∃ k, arith_size.f k x.f0 x.f1 x.f2 x.f3 = some (cnt m x : Int) := by
 induction h with
 | num m n _ _ => exact fun hc => size_node m _ (Nat.zero_le _) hc (fun y h => by cases h)
 | var m t _ => exact fun hc => size_node m _ (Nat.zero_le _) hc (fun y h => by cases h)
 | un m op a _ _ _ ih => exact fun hc => size_node m _ (by simp) hc (fun z hz => by simp at hz; exact hz ▸ ih)
 | bin m op a b _ _ _ _ h1 h2 => exact fun hc => size_node m _ (by simp) hc (fun z hz => by simp at hz; rcases hz with rfl | rfl; exact h1; exact h2)
 | cond m a b c _ _ _ h1 h2 h3 => exact fun hc => size_node m _ (by simp) hc (fun w hw => by simp at hw; rcases hw with rfl | rfl | rfl; exact h1; exact h2; exact h3)
 | set m n t a _ _ _ ih => exact fun hc => size_node m _ (by simp) hc (fun z hz => by simp at hz; exact hz ▸ ih)
theorem part_of {op n : Int} {nm : ByteArray} {l : Nat} (h1 : kidsE op = (l : Int)) (h2 : rightE op n = true) (h3 : namedE op = (nm.toList != [])) (h4 : namedE op = true → nameB nm = true) : partE op n nm l = 0 := by
 unfold partE
 rw [if_pos (by rw [h1, h2, h3]; simp), if_neg]
 intro h
 simp only [Bool.and_eq_true, Bool.not_eq_true'] at h
 rw [h4 h.1] at h
 exact absurd h.2 (by simp)
theorem name_ne {t : ByteArray} (h : nameB t = true) : (t.toList != []) = true := by
 obtain ⟨b, l, h1, _⟩ := name_bytes h
 rw [Go.ByteArray.toList_eq, show t.data.toList = b :: l from h1]
 rfl
theorem noName_nil : (noName.toList != []) = false := by rw [Go.ByteArray.toList_eq]; rfl
theorem V_valid {m : Nat} {x : S26} (h : V m x) : validE m x = 0 := by
 have node : ∀ (m : Nat) (op n : Int) (nm : ByteArray) (l : List S26), partE op n nm l.length = 0 → (∀ y ∈ l, validE m y = 0) → validE (m + 1) ⟨op, n, nm, l⟩ = 0 := by
  intro m op n nm l hp hk
  simp only [validE]
  rw [if_pos hp]
  exact firstE_all _ hk
 induction h with
 | num m n h0 h1 => exact node m 1 n noName [] (part_of (by decide) (by simp [rightE]; exact h0) (by rw [noName_nil]; decide) (fun h => absurd h (by decide))) (fun y h => by cases h)
 | var m t h => exact node m 2 0 t [] (part_of (by decide) (by decide) (by rw [name_ne h]; decide) (fun _ => h)) (fun y h => by cases h)
 | un m op a h0 h1 _ ih =>
  refine node m op 0 noName [a] (part_of ?_ ?_ ?_ (fun h => ?_)) (fun z hz => by simp at hz; exact hz ▸ ih)
  ·unfold kidsE
   rw [if_neg (by omega), if_pos (by omega)]
   rfl
  ·unfold rightE
   rw [if_neg (by omega), if_neg (by omega)]
   rfl
  ·rw [noName_nil]
   unfold namedE
   simp only [Bool.or_eq_false_iff, beq_eq_false_iff_ne]
   omega
  ·unfold namedE at h
   simp only [Bool.or_eq_true, beq_iff_eq] at h
   omega
 | bin m op a b h0 h1 _ _ h2 h3 =>
  refine node m op 0 noName [a, b] (part_of ?_ ?_ ?_ (fun h => ?_)) (fun z hz => by simp at hz; rcases hz with rfl | rfl; exact h2; exact h3)
  ·unfold kidsE
   rw [if_neg (by omega), if_neg (by omega), if_pos (by omega)]
   rfl
  ·unfold rightE
   rw [if_neg (by omega), if_neg (by omega)]
   rfl
  ·rw [noName_nil]
   unfold namedE
   simp only [Bool.or_eq_false_iff, beq_eq_false_iff_ne]
   omega
  ·unfold namedE at h
   simp only [Bool.or_eq_true, beq_iff_eq] at h
   omega
 | cond m a b c _ _ _ h1 h2 h3 => exact node m 25 0 noName [a, b, c] (part_of (by simp; decide) (by decide) (by rw [noName_nil]; decide) (fun h => absurd h (by decide))) (fun w hw => by simp at hw; rcases hw with rfl | rfl | rfl; exact h1; exact h2; exact h3)
 | set m n t a h0 h1 _ ih => exact node m 26 n t [a] (part_of (by simp; decide) (by simp [rightE]; exact h0) (by rw [name_ne h1]; decide) (fun _ => h1)) (fun z hz => by simp at hz; exact hz ▸ ih)
end Go.Proofs.YtglmdfddgmkmaaaDoor.Q
end
section
namespace Go.Proofs.YtglmdfddgmkmaaaDoor.Q
open Go.RowKit Go.Proofs.YtglmdfddgmkmaaaDoorW.PrintWords
set_option linter.unusedVariables false
set_option linter.unusedSimpArgs false
theorem nx_cut (L : List UInt8) : (nx L).length + lexN L ≤ L.length := by
 have hq := lexN_le L
 have : (nx L).length ≤ (L.drop (lexN L)).length := by
  unfold nx
  exact (List.dropWhile_sublist _).length_le
 rw [List.length_drop] at this
 omega
def bud : Gl → Nat → Nat → Prop
 | .more _ x, len, B => ∃ w0, Wt w0 x ∧ 20 * len + w0 ≤ B
 | _, len, B => 20 * len ≤ B
def GoodW (s : ByteArray) (B : Nat) (r : PRes) : Prop :=
 match r with
 | some (.ok (x, p, t)) => ∃ M w, At s p M ∧ t = tk M ∧ 20 * M.length + w ≤ B ∧ Wt w x
 | _ => True
theorem GoodW.bind {s : ByteArray} {B C : Nat} {a : PRes} {f : S26 → Nat → ByteArray → PRes} (h : GoodW s B a) (hf : ∀ x p M w, At s p M → 20 * M.length + w ≤ B → Wt w x → GoodW s C (f x p (tk M))) : GoodW s C (ebind a f) := by
 match a, h with
 | none, _ => exact True.intro
 | some (.ok (x, p, t)), h =>
  obtain ⟨M, w, h1, rfl, h2, h3⟩ := h
  exact hf x p M w h1 h2 h3
 | some (.error (q, e)), _ => exact True.intro
theorem Wt_name {w : Nat} {x : S26} (h : Wt w x) (hx : x.f0 = 2) : nameB x.f2 = true ∧ x.f2.size ≤ w := by
 cases h with
 | num _ n h0 h1 h2 => exact absurd hx (by simp)
 | var _ t h h2 => exact ⟨h, h2⟩
 | un _ wa op a h0 h1 _ h2 => simp only at hx; omega
 | bin _ wa wb op a b h0 h1 _ _ h2 => simp only at hx; omega
 | cond _ wa wb wc a b c _ _ _ h2 => exact absurd hx (by simp)
 | set _ wa n t a h0 h1 _ h2 => exact absurd hx (by simp)
theorem ne_of_tok {L : List UInt8} {l : List UInt8} (h : (tk L).toList = l) (hl : l ≠ []) : L ≠ [] := by
 rintro rfl
 rw [tkNil, Go.ByteArray.toList_eq] at h
 exact hl h.symm
theorem pr_weight {s : ByteArray} (hs : s.size ≤ 4096) : ∀ (k : Nat) (gl : Gl) (p : Nat) (L : List UInt8) (B : Nat), okG gl → At s p L → bud gl L.length B → GoodW s B (pr s k gl p (tk L)) := by
 intro k
 induction k with
 | zero => intro gl p L B _ _ _; exact True.intro
 | succ k ih =>
  intro gl p L B hg hA hB
  have nxt : ∀ {p L}, At s p L → At s (nextP s p (tk L)) (nx L) ∧ nextT s p (tk L) = tk (nx L) := fun h => next_list h
  have sz : ∀ {p L}, At s p L → (tk L).size ≤ 4096 := by
   intro p L h
   have h1 := lexN_le L
   have h2 := h.len
   rw [tk_size]
   omega
  cases gl with
  | first =>
   simp only [pr]
   have hB : 20 * L.length ≤ B := hB
   refine (ih .second p L B trivial hA hB).bind (fun x p1 M w hA1 hb hw => ?_)
   rcases ha : arith_assignment.f 1 (tk M) with _ | ⟨op, is⟩
   ·exact True.intro
   ·simp only
    split
    ·rename_i hc
     obtain ⟨hc1, hc2, _⟩ := hc
     rw [hc1] at ha
     have hM : M ≠ [] := by
      rintro rfl
      rw [tkNil, as0] at ha
      simp at ha
     have hlt := nx_less hM
     obtain ⟨e1, e2⟩ := nxt hA1
     rw [e2]
     refine (ih .first _ _ (20 * (nx M).length) trivial e1 (Nat.le_refl _)).bind (fun y p2 M2 w2 hA2 hb2 hw2 => ?_)
     obtain ⟨hn1, hn2⟩ := Wt_name hw hc2
     exact ⟨M2, w2 + x.f2.size + 7, hA2, rfl, by omega, .set _ _ _ _ _ (asg_kind (sz hA1) ha) hn1 hw2 (Nat.le_refl _)⟩
    ·exact ⟨M, w, hA1, rfl, hb, hw⟩
  | second =>
   simp only [pr]
   have hB : 20 * L.length ≤ B := hB
   refine (ih (.level 3) p L B (by simp [okG]) hA hB).bind (fun x p1 M w hA1 hb hw => ?_)
   split
   ·rename_i hc
    have hlt := nx_less (ne_of_tok hc (by simp))
    obtain ⟨e1, e2⟩ := nxt hA1
    rw [e2]
    refine (ih .first _ _ (20 * (nx M).length) trivial e1 (Nat.le_refl _)).bind (fun y p2 M2 w2 hA2 hb2 hw2 => ?_)
    split
    ·rename_i hc2
     have hlt2 := nx_less (ne_of_tok hc2 (by simp))
     obtain ⟨e3, e4⟩ := nxt hA2
     rw [e4]
     refine (ih .second _ _ (20 * (nx M2).length) trivial e3 (Nat.le_refl _)).bind (fun z p3 M3 w3 hA3 hb3 hw3 => ?_)
     exact ⟨M3, w + w2 + w3 + 8, hA3, rfl, by omega, .cond _ _ _ _ _ _ _ hw hw2 hw3 (Nat.le_refl _)⟩
    ·exact True.intro
   ·exact ⟨M, w, hA1, rfl, hb, hw⟩
  | level n =>
   simp only [pr]
   have hB : 20 * L.length ≤ B := hB
   split
   ·exact ih .operand p L B trivial hA hB
   ·refine (ih (.level (n + 1)) p L B (by simp [okG]) hA hB).bind (fun x p1 M w hA1 hb hw => ?_)
    exact ih (.more n x) p1 M B hg hA1 ⟨w, hw, hb⟩
  | more n x =>
   simp only [pr]
   obtain ⟨w0, hw0, hB⟩ := hB
   have hg1 : 1 ≤ n := hg
   rcases ha : arith_binary.f (tk L) with _ | ⟨op, l⟩
   ·exact True.intro
   ·simp only
    split
    ·rename_i hc
     have hL : L ≠ [] := by
      rintro rfl
      rw [tkNil, bi0] at ha
      simp only [Option.some.injEq, Prod.mk.injEq] at ha
      omega
     have hlt := nx_less hL
     obtain ⟨e1, e2⟩ := nxt hA
     rw [e2]
     obtain ⟨k1, k2⟩ := binary_kind ha (by omega)
     refine (ih (.level (n + 1)) _ _ (20 * (nx L).length) (by simp [okG]) e1 (Nat.le_refl _)).bind (fun y p1 M w hA1 hb hw => ?_)
     exact ih (.more n ⟨op, 0, noName, [x, y]⟩) p1 M B hg hA1 ⟨w0 + w + 6, .bin _ _ _ _ _ _ k1 k2 hw0 hw (Nat.le_refl _), by omega⟩
    ·exact ⟨L, w0, hA, rfl, hB, hw0⟩
  | operand =>
   simp only [pr]
   have hB : 20 * L.length ≤ B := hB
   obtain ⟨e1, e2⟩ := nxt hA
   rw [e2]
   rcases ha : arith_unary.f (tk L) with _ | op
   ·exact True.intro
   ·simp only
    split
    ·rename_i hop
     have hL : L ≠ [] := by
      rintro rfl
      rw [tkNil, un0] at ha
      exact hop (Option.some.inj ha).symm
     have hlt := nx_less hL
     obtain ⟨k1, k2⟩ := unary_kind ha hop
     refine (ih .operand _ _ (20 * (nx L).length) trivial e1 (Nat.le_refl _)).bind (fun y p1 M w hA1 hb hw => ?_)
     exact ⟨M, w + 3, hA1, rfl, by omega, .un _ _ _ _ k1 k2 hw (Nat.le_refl _)⟩
    ·split
     ·rename_i hc
      have hlt := nx_less (ne_of_tok hc (by simp))
      refine (ih .first _ _ (20 * (nx L).length) trivial e1 (Nat.le_refl _)).bind (fun y p1 M w hA1 hb hw => ?_)
      split
      ·obtain ⟨e3, e4⟩ := nxt hA1
       have := nx_cut M
       exact ⟨nx M, w, e3, e4, by omega, hw⟩
      ·exact True.intro
     ·split
      ·exact True.intro
      ·rename_i hw
       have hcut := nx_cut L
       have htk := tk_size L
       have hpos : (tk L).size ≠ 0 := fun h => hw (.inl h)
       split
       ·rcases hn : arith_number.f ((tk L).size + 3) (tk L) with _ | ⟨n, e⟩
        ·exact True.intro
        ·simp only
         split
         ·rename_i he
          rw [he] at hn
          obtain ⟨n0, n1⟩ := number_fits hn
          exact ⟨nx L, 20, e1, rfl, by omega, .num _ _ n0 n1 (Nat.le_refl _)⟩
         ·exact True.intro
       ·split
        ·rename_i hn
         exact ⟨nx L, (tk L).size, e1, rfl, by omega, .var _ _ hn (Nat.le_refl _)⟩
        ·exact True.intro
theorem exact_node (m : Nat) (hm : m ≤ 5000) (x : S26) (hl : x.f3.length ≤ 3) (h : ∀ y ∈ x.f3, ∃ k n, arith_levels.f k y.f0 y.f1 y.f2 y.f3 = some n ∧ n ≤ (m : Int) ∧ V n.toNat y) : ∃ k n, arith_levels.f k x.f0 x.f1 x.f2 x.f3 = some n ∧ 1 ≤ n ∧ n ≤ ((m + 1 : Nat) : Int) ∧ ∀ y ∈ x.f3, V (n.toNat - 1) y := by
 obtain ⟨K, hK⟩ := common (P := fun k y => ∃ n, arith_levels.f k y.f0 y.f1 y.f2 y.f3 = some n ∧ n ≤ (m : Int) ∧ V n.toNat y) (fun k y ⟨n, h, h2⟩ => ⟨n, arith_levels.mono _ _ _ _ _ _ h, h2⟩) x.f3 h
 have loop : ∀ (d i : Nat) (a : Int), i + d = x.f3.length → 0 ≤ a → a ≤ (m : Int) → (∀ y ∈ x.f3.take i, V a.toNat y) → ∃ n, arith_levels.l0 (K + d + 1) a x.f3 (x.f3.length : Int) (i : Int) = some n ∧ 1 ≤ n ∧ n ≤ ((m + 1 : Nat) : Int) ∧ ∀ y ∈ x.f3, V (n.toNat - 1) y := by
  intro d
  induction d with
  | zero =>
   intro i a hi ha hb hv
   have hw : wrap64 (a + 1) = a + 1 := wrap_in (by omega) (by omega)
   rw [arith_levels.l0, if_neg (by omega), hw]
   refine ⟨_, rfl, by omega, by omega, fun y hy => ?_⟩
   have e : (a + 1).toNat - 1 = a.toNat := by omega
   rw [e]
   exact hv y (by rw [List.take_of_length_le (by omega)]; exact hy)
  | succ d ihd =>
   intro i a hi ha hb hv
   have hlt : i < x.f3.length := by omega
   obtain ⟨n, hn, hn2, hn3⟩ := hK (K + (d + 1)) (by omega) (rd_T26 x.f3 (i : Int)) (rd_mem hlt)
   have hw : wrap64 ((i : Int) + 1) = ((i + 1 : Nat) : Int) := by rw [wrap_in (by omega) (by omega)]; omega
   have hge : a ≤ mx a n ∧ n ≤ mx a n := by unfold mx; split <;> omega
   have hle : mx a n ≤ (m : Int) := by unfold mx; split <;> omega
   rw [arith_levels.l0, if_pos (by omega), if_pos (by omega), if_pos (by omega), hn, Option.bind_some, hw, show K + (d + 1) = K + d + 1 by omega]
   refine ihd (i + 1) _ (by omega) (by omega) hle (fun y hy => ?_)
   have e : x.f3.take (i + 1) = x.f3.take i ++ [rd_T26 x.f3 (i : Int)] := by
    rw [List.take_succ_eq_append_getElem hlt]
    simp [rd_T26, List.getD_eq_getElem?_getD, hlt]
   rw [e] at hy
   rcases List.mem_append.mp hy with hy | hy
   ·exact V_up (hv y hy) _ (by omega)
   ·simp only [List.mem_singleton] at hy
    rw [hy]
    exact V_up hn3 _ (by omega)
 obtain ⟨n, hn, h2⟩ := loop x.f3.length 0 0 (by omega) (by omega) (by omega) (fun y hy => absurd hy (by simp))
 rw [show ((0 : Nat) : Int) = 0 from rfl] at hn
 exact ⟨K + x.f3.length + 1 + 1, n, by rw [arith_levels.f]; exact hn, h2⟩
theorem levels_exact {m : Nat} {x : S26} (h : V m x) : m ≤ 5000 → ∃ k n, arith_levels.f k x.f0 x.f1 x.f2 x.f3 = some n ∧ n ≤ (m : Int) ∧ V n.toNat x := by
 have wrapUp : ∀ {m : Nat} {x : S26}, (∃ k n, arith_levels.f k x.f0 x.f1 x.f2 x.f3 = some n ∧ 1 ≤ n ∧ n ≤ ((m + 1 : Nat) : Int) ∧ ∀ y ∈ x.f3, V (n.toNat - 1) y) → (∀ j, (∀ y ∈ x.f3, V j y) → V (j + 1) x) → ∃ k n, arith_levels.f k x.f0 x.f1 x.f2 x.f3 = some n ∧ n ≤ ((m + 1 : Nat) : Int) ∧ V n.toNat x := by
  intro m x h hv
  obtain ⟨k, n, h1, h2, h3, h4⟩ := h
  refine ⟨k, n, h1, h3, ?_⟩
  have := hv (n.toNat - 1) h4
  rw [show n.toNat - 1 + 1 = n.toNat by omega] at this
  exact this
 induction h with
 | num m n h0 h1 => exact fun hm => wrapUp (exact_node m (by omega) _ (Nat.zero_le _) (fun y h => by cases h)) (fun j _ => .num j n h0 h1)
 | var m t h => exact fun hm => wrapUp (exact_node m (by omega) _ (Nat.zero_le _) (fun y h => by cases h)) (fun j _ => .var j t h)
 | un m op a h0 h1 _ ih => exact fun hm => wrapUp (exact_node m (by omega) _ (by simp) (fun z hz => by simp at hz; exact hz ▸ ih (by omega))) (fun j h => .un j op a h0 h1 (h a (by simp)))
 | bin m op a b h0 h1 _ _ h2 h3 => exact fun hm => wrapUp (exact_node m (by omega) _ (by simp) (fun z hz => by simp at hz; rcases hz with rfl | rfl; exact h2 (by omega); exact h3 (by omega))) (fun j h => .bin j op a b h0 h1 (h a (by simp)) (h b (by simp)))
 | cond m a b c _ _ _ h1 h2 h3 => exact fun hm => wrapUp (exact_node m (by omega) _ (by simp) (fun w hw => by simp at hw; rcases hw with rfl | rfl | rfl; exact h1 (by omega); exact h2 (by omega); exact h3 (by omega))) (fun j h => .cond j a b c (h a (by simp)) (h b (by simp)) (h c (by simp)))
 | set m n t a h0 h1 _ ih => exact fun hm => wrapUp (exact_node m (by omega) _ (by simp) (fun z hz => by simp at hz; exact hz ▸ ih (by omega))) (fun j h => .set j n t a h0 h1 (h a (by simp)))
theorem Show_wt {w : Nat} {x : S26} (hW : Wt w x) (hw : w ≤ 4096) (hV : V 32 x) : ∃ K, ∀ k, K ≤ k → arith_Show.f k x.f0 x.f1 x.f2 x.f3 = some (ofL (showL 32 x 1), 0) := by
 obtain ⟨ks, hsz⟩ := size_V hV (by have := Wt_cnt hW 32; omega)
 have hc := Wt_cnt hW 32
 have hl := Wt_len hW 32 1 (by omega)
 have hz : (ofL (showL 32 x 1)).size = (showL 32 x 1).length := rfl
 refine ⟨ks + 400, fun k hk => ?_⟩
 have h1 : arith_show.f k x.f0 x.f1 x.f2 x.f3 1 = _ := show_is hV (Nat.le_refl _) k 1 (by omega)
 unfold arith_Show.f
 rw [Valid_is x k (by omega), Option.bind_some, if_pos (V_valid hV), size_up (show ks ≤ k by omega) hsz, Option.bind_some, if_neg (by omega), h1, Option.bind_some, if_neg (by rw [hz]; omega)]
theorem awake_at2 (k : Nat) (hk : 60 ≤ k) : jobshelllaw05_awake.f k = some true := awake_up 60 k true awake_eval hk
theorem again_right {s : ByteArray} (hs : ¬ (s.size : Int) > 120) {w : Nat} {x : S26} (hW : Wt w x) (hw : w ≤ 4096) (hV : V 32 x) (at_ : Int) (hP : ∃ K, ∀ k, K ≤ k → parseP s k = some (x.f0, x.f1, x.f2, x.f3, at_, 0)) : ∃ k, jobshelllaw05_ArithAgain.f k s = some true := by
 obtain ⟨K1, h1⟩ := hP
 obtain ⟨K2, h2⟩ := Show_wt hW hw hV
 obtain ⟨K3, h3⟩ := Parse_back hV (by have := Wt_len hW 32 1 (by omega); omega)
 obtain ⟨K4, h4⟩ := same_self (V_W3 hV)
 refine ⟨K1 + K2 + K3 + K4 + 1000, ?_⟩
 unfold jobshelllaw05_ArithAgain.f
 rw [if_neg hs, arith_Parse.f, h1 _ (by omega), Option.bind_some, if_pos rfl, h2 _ (by omega), Option.bind_some, arith_Parse.f, h3 _ (by omega), Option.bind_some, h2 _ (by omega), Option.bind_some, Valid_is _ _ (by omega), Option.bind_some, if_pos (V_valid hV), if_pos rfl, if_pos rfl, if_pos rfl, h4 _ (by omega), Option.bind_some, if_pos rfl, if_pos rfl, awake_at2 _ (by omega), Option.bind_some]
theorem again_wrong {s : ByteArray} (hs : ¬ (s.size : Int) > 120) (at_ e : Int) (he : ¬ e = 0) (hP : ∃ K, ∀ k, K ≤ k → parseP s k = some (0, 0, ⟨#[]⟩, [], at_, e)) : ∃ k, jobshelllaw05_ArithAgain.f k s = some true := by
 obtain ⟨K1, h1⟩ := hP
 obtain ⟨K0, h0⟩ := same_self (x := ⟨0, 0, ⟨#[]⟩, []⟩) (.mk _ (Nat.zero_le _) (fun y h => by cases h))
 refine ⟨K1 + K0 + 1000, ?_⟩
 have h0' : jobshellref05_Same.f (K1 + K0 + 1000) 0 0 ⟨#[]⟩ [] 0 0 ⟨#[]⟩ [] = some true := h0 _ (by omega)
 unfold jobshelllaw05_ArithAgain.f
 rw [if_neg hs, arith_Parse.f, h1 _ (by omega), Option.bind_some, if_neg he, h0', Option.bind_some, if_pos rfl, awake_at2 _ (by omega), Option.bind_some]
theorem again_true (s : ByteArray) : ∃ k, jobshelllaw05_ArithAgain.f k s = some true := by
 by_cases hs : (s.size : Int) > 120
 ·refine ⟨60, ?_⟩
  unfold jobshelllaw05_ArithAgain.f
  rw [if_pos hs, awake_at2 _ (by omega), Option.bind_some]
 ·have h4 : s.size ≤ 4096 := by omega
  obtain ⟨hA, hT⟩ := start_list s
  by_cases hL : Vb (sl s) = []
  ·refine again_right hs (w := 20) (x := ⟨1, 0, noName, []⟩) (.num _ 0 (by omega) (by omega) (by omega)) (by omega) (.num 31 0 (by omega) (by omega)) 0 ⟨0, fun k _ => ?_⟩
   unfold parseP
   rw [if_neg (by omega), if_pos (by rw [hT, hL, tkNil, Go.ByteArray.toList_eq])]
   rfl
  ·obtain ⟨r, ⟨k0, hk0⟩, hG⟩ := first_ends h4
   have hp := pl_of hA
   rw [hp] at hA
   have hW := pr_weight h4 k0 .first _ _ (20 * (Vb (sl s)).length) trivial hA (Nat.le_refl _)
   rw [hk0] at hW
   obtain ⟨K, hK⟩ := parse_pr h4 hL ⟨k0, hk0⟩
   match r, hG, hW, hK with
   | .error (q, e), hG, _, hK => exact again_wrong hs q e (by rcases hG with h | h | h <;> omega) ⟨K, fun k hk => hK k hk⟩
   | .ok (x, p, t), _, hW, hK =>
    obtain ⟨M, w, hM, rfl, hb, hWt⟩ := hW
    have hlen : (Vb (sl s)).length ≤ 120 := by
     have := (Vb_suf (sl s)).length_le
     rw [sl_length] at this
     omega
    by_cases ht : (tk M).toList = []
    ·obtain ⟨kl, n, hl, hn, hVn⟩ := levels_exact (Wt_V hWt) (by omega)
     by_cases h32 : 32 < n
     ·exact again_wrong hs 0 5 (by omega) ⟨K + kl, fun k hk => (hK k (by omega)).trans (told_deep k x p _ ht (levels_up (by omega) hl) h32)⟩
     ·exact again_right hs hWt (by omega) (V_up hVn 32 (by omega)) 0 ⟨K + kl, fun k hk => (hK k (by omega)).trans (told_right k x p _ ht (levels_up (by omega) hl) h32)⟩
    ·exact again_wrong hs (p : Int) 6 (by omega) ⟨K, fun k hk => (hK k hk).trans (told_more k x p _ ht)⟩
end Go.Proofs.YtglmdfddgmkmaaaDoor.Q
end
section
namespace Go.Proofs.YtglmdfddgmkmaaaDoor.Q
open Go.ChangeShapes Go.WideShapes Go.ChangeAt Go.RowKit
open Go.ChangeMaps (open_string shut_string)
set_option maxRecDepth 100000
set_option linter.unusedVariables false
theorem laidOut : laidOutB Tryd.prog = true := by kernel_rfl
theorem again_lifted (os : Os) (started : os.Started) (H : Type) (enc : TypeId × Value → H) :
 ReturnsInHanded {} Tryd.checked os 8 .any (fun w args => (Rows.arithAgainSpec.pre enc Tryd.prog Tryd.f8 [] false w args ∧ laidMetH Tryd.prog laid3 w) ∧ sizedMet enc Tryd.prog Tryd.f8 (OpenSpec.ofChange Rows.arithAgainSpec) false w args)
  (Rows.arithAgainSpec.post enc Tryd.prog Tryd.f8 false true false false) := by
 refine returnsInHanded_of_change_and (C := Tryd.checked) (X := fun w _ => laidMetH Tryd.prog laid3 w) (fun _ _ _ hh h => h.of_heap hh) own started (by kernel_rfl) Tryd.func8
  (ChangeSpec.witness_shaped (enc := enc) (C := Tryd.checked) (os := os) (X := fun w _ => laidMetH Tryd.prog laid3 w) false (World.doorLaid Tryd.prog 400 os) #[.string ⟨#[]⟩] 8 rfl (World.shaped_of_RefB (by kernel_rfl) (by kernel_rfl)) (by kernel_rfl) (by kernel_rfl) (by kernel_rfl) (door_met os _)) ?_
 intro W base args ds gs before hval0 hW _ _ hL _
 have hval : ∀ (j : Nat) t v, Tryd.f8.params[j]? = some t → args[j]? = some v → Value.okWide Tryd.prog W .any base t v := hval0
 have hW' := hW
 obtain ⟨p, q, hA0, hV, rfl, hfz, hnd⟩ := hW
 have hA : DataW.TrodAll enc Tryd.prog W 0 (fun _ => true) true Tryd.f8.params.toList args.toList ds p := hA0
 rw [Tryd.params8] at hA hval
 obtain ⟨v0, vs0, d0, ds0, p0, q0, hargs, rfl, rfl, h0, r0⟩ := trodAll_cons hA
 obtain ⟨rfl, rfl, rfl⟩ := trodAll_nil r0
 obtain rfl : args = #[v0] := by cases args; simp_all
 obtain ⟨rfl, rfl⟩ := trodVars_none hV
 obtain ⟨a0, rfl, rfl, rfl, y0⟩ := open_string Tryd.underlying9 (hval 0 9 v0 rfl rfl) h0
 obtain ⟨k, hk⟩ := again_true a0
 refine (jobshelllaw05_ArithAgain.calls k a0 true W  hk (of_laid hL)).mono fun e W' ⟨he, bel⟩ => ?_
 subst he
 exact ⟨_, rfl, _, _, _, [], _, [], hW', trodAll_mk1 (shut_bool Tryd.underlying4 _), (trodAll_cons_mk (shut_string Tryd.underlying9 y0) trodAll_mk0), rfl, bel.frame _, fun h => by cases h⟩
theorem arithAgain_holds : Rows.ArithAgainSaid :=
 OpenClaim.holds_of_wide 8 Tryd.f8 rfl rfl rfl rfl rfl rfl rfl ⟨rfl, rfl, rfl, rfl, rfl⟩ rfl rfl rfl rfl rfl (by kernel_rfl) Tryd.func8 (by kernel_rfl)
  (of_decide_eq_true (by kernel_rfl)) (by unfold Func.isWrapper; first | (rw [if_pos (by decide +kernel)]; kernel_rfl) | (rw [if_neg (by decide +kernel)]; exact ⟨rfl, rfl⟩))
  (fun os started H enc _ => again_lifted os started H enc)
end Go.Proofs.YtglmdfddgmkmaaaDoor.Q
namespace Go.Proofs.YtglmdfddgmkmaaaDoor
open Q
set_option maxRecDepth 100000
theorem arithAgain_card : Rows.ArithAgainCardSaid :=
 Claim7.holds_tied_plain_at .later [] [.data, .data, .data] true (true, "74cc2cd4b784e984c7617e824861adf5041c4fd5a2cf63fd298402107294065b") true
  arithAgain_holds (fun _ h => by cases h) (by kernel_rfl) (fun _ h => by cases h) arithAgain_row_tie rfl ⟨rfl, rfl⟩ (by kernel_rfl) rfl
  (fun f fn hf hfn => by
   obtain rfl : f = 8 := Option.some.inj ((show Tryd.prog.funcNamed "jobshell/jobshelllaw05.ArithAgain" = some 8 by kernel_rfl).symm.trans hf) |>.symm
   obtain rfl : fn = Tryd.f8 := (Option.some.inj (Tryd.func8.symm.trans hfn)).symm
   exact ⟨by kernel_rfl, fun j t ht => by
    rw [Tryd.params8] at ht
    have hm : t ∈ [9] := by simpa using Array.mem_of_getElem? ht
    have hall : ([9].all fun u => !Tryd.prog.wantsStandIn u) = true := by kernel_rfl
    exact (show Tryd.prog.wantsStandIn t = false by simpa using List.all_eq_true.1 hall t hm)⟩)
  (by kernel_rfl)
end Go.Proofs.YtglmdfddgmkmaaaDoor
end

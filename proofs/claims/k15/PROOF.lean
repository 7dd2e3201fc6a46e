import PyProof.Rows.All
import Wide.All
import OpenK.AllK
import Wide.FinOn
import HandS.ForMost
import HandS.Wide
import HandS.SortInts
import HandS.IsInst
import HandS.Conv
import HandS.Evl
import HandS.Style
import HandS.SortRule
import HandS.Text
import PySem.Challenge.RW_tailrooms_k15_stays
set_option Elab.async false
set_option linter.all false
set_option maxRecDepth 100000
set_option maxHeartbeats 4000000

/-! TR: joined rules, steps of a reading, the heap, the hand that is drawn from -/
namespace TR
open PySem L2
open PySem.Spec PyProof.Rows

/-! ### joined rules -/
section
variable {X : Cx}
def rPlus : R2 := fun x y H Q => (rI0 fun i j => .int (i + j)) x y H Q ∨ rCat x y H Q ∨
  (∃ i j, x = .str i ∧ y = .str j ∧ i.length + j.length ≤ sizeLine ∧ Q (.str (i ++ j)) H)
theorem op_plusA : OpR X (binaryOp .Add) rPlus := OpR.or op_add (OpR.or op_cat op_add_str)
def rMult : R2 := fun x y H Q => (rI CMulW fun i j => .int (i * j)) x y H Q ∨ (rI CMul fun i j => .int (i * j)) x y H Q ∨ rRep x y H Q
theorem op_multA : OpR X (binaryOp .Mult) rMult := OpR.or op_mulW (OpR.or op_mul op_rep)
def rEqA (K : PySem.W.Frag) : R2 := fun x y H Q => rEq x y H Q ∨ rEqD K x y H Q
def rNeA (K : PySem.W.Frag) : R2 := fun x y H Q => rNe x y H Q ∨ rNeD K x y H Q
theorem op_eqA (hu : X.A.units + 64 < cLine) : OpR X (compareOp .Eq) (rEqA X.K) := OpR.or op_eq (op_eqD hu)
theorem op_neA (hu : X.A.units + 64 < cLine) : OpR X (compareOp .NotEq) (rNeA X.K) := OpR.or op_ne (op_neD hu)
theorem op_inA : OpR X (compareOp .In) (rIn X.K false) := op_in_seq
theorem op_notInA : OpR X (compareOp .NotIn) (rIn X.K true) := op_notIn_seq
def rLenS (K : PySem.W.Frag) : List V → Hp → VK → Prop := Evl.rLenS K
def rLenT : List V → Hp → VK → Prop := fun xs H Q => ∃ z, xs = [.str z] ∧ z.length ≤ sizeLine ∧ Q (.int z.length) H
def rLen (K : PySem.W.Frag) : List V → Hp → VK → Prop := fun xs H Q => rLenS K xs H Q ∨ rLenT xs H Q
theorem call_lenA : CallR X (.builtin "len") (rLen X.K) := CallR.or call_len_seq call_len_str
theorem cr_sumA (hc : X.calm = true) : CallR X (.builtin "sum") (rSum X.K) := cr_sum hc
theorem cr_allA (hc : X.calm = true) : CallR X (.builtin "all") (rAll X.K) := cr_all hc
theorem cr_anyA (hc : X.calm = true) : CallR X (.builtin "any") (rAny X.K) := cr_any hc
theorem cr_maxA (hc : X.calm = true) : CallR X (.builtin "max") (rMax X.K) := cr_max hc
theorem cr_minA (hc : X.calm = true) : CallR X (.builtin "min") (rMin X.K) := cr_min hc
def rGetL (K : PySem.W.Frag) : R2 := fun x y H Q => ∃ p xs i v, x = .ref p ∧ y = .int i ∧ SqL K H p xs ∧ 0 ≤ i ∧ atI xs i = some v ∧ Q v H
theorem pget_list : PGet X (rGetL X.K) := by
  intro pins s σ H x0 y0 v u Q I rx ru hh
  obtain ⟨p, xs, i, z, ex, ei, hq, h0, he, q⟩ := hh
  subst ex
  subst ei
  cases rx
  obtain ⟨t, et⟩ := ru
  subst et
  obtain ⟨its, r, pl, _⟩ := I.list hq
  obtain ⟨j, h1, h2, h3, _, h5⟩ := atI_get he
  obtain ⟨y, ey, ry⟩ := r.get h2
  have hl := r.length
  have hn := line63
  rw [seqIndex_of h0 h5] at h1
  have hj : i.toNat = j := Option.some.inj h1
  exact wpAny_getItem_list pl.isList h0 (by omega) (by rw [hj]; simpa using ey) ⟨z, H, I, ry, q⟩
def rIsNA : R2 := fun x y H Q => y = .non ∧ Q (.bl (decide (x = .non))) H
def rNotNA : R2 := fun x y H Q => y = .non ∧ Q (.bl (!decide (x = .non))) H
theorem op_isNA : OpR X (compareOp .Is) rIsNA := op_isN
theorem op_notNA : OpR X (compareOp .IsNot) rNotNA := op_notN
def rMax2 : List V → Hp → VK → Prop := fun xs H Q => ∃ i j, xs = [.int i, .int j] ∧ Q (.int (max i j)) H
def rMin2 : List V → Hp → VK → Prop := fun xs H Q => ∃ i j, xs = [.int i, .int j] ∧ Q (.int (min i j)) H
def rAbs : List V → Hp → VK → Prop := fun xs H Q => ∃ i, xs = [.int i] ∧ Q (.int (if i < 0 then -i else i)) H
theorem call_max2A (hc : X.calm = true) : CallR X (.builtin "max") rMax2 := by
  have e : rMax2 = fun xs H Q => ∃ i j, xs = [V.int i, V.int j] ∧ Q (.int (if j > i then j else i)) H := by
    funext xs H Q
    have e2 : ∀ i j : Int, max i j = if j > i then j else i := fun i j => by
      by_cases h : j > i
      · rw [if_pos h]
        omega
      · rw [if_neg h]
        omega
    show (∃ i j, xs = [V.int i, V.int j] ∧ Q (.int (max i j)) H) = _
    simp only [e2]
  rw [e]
  exact call_max2 hc
theorem call_min2A (hc : X.calm = true) : CallR X (.builtin "min") rMin2 := by
  have e : rMin2 = fun xs H Q => ∃ i j, xs = [V.int i, V.int j] ∧ Q (.int (if j < i then j else i)) H := by
    funext xs H Q
    have e2 : ∀ i j : Int, min i j = if j < i then j else i := fun i j => by
      by_cases h : j < i
      · rw [if_pos h]
        omega
      · rw [if_neg h]
        omega
    show (∃ i j, xs = [V.int i, V.int j] ∧ Q (.int (min i j)) H) = _
    simp only [e2]
  rw [e]
  exact call_min2 hc
theorem call_absA : CallR X (.builtin "abs") rAbs := call_abs
def rInt1 : List V → Hp → VK → Prop := fun xs H Q => (∃ i, xs = [.int i] ∧ Q (.int i) H) ∨ ∃ k, xs = [.bl k] ∧ Q (.int (if k then 1 else 0)) H
theorem call_int1A : CallR X (.type "int") rInt1 := call_int1
def rList1 (K : PySem.W.Frag) : List V → Hp → VK → Prop := Evl.rListS K
theorem call_listA : CallR X (.type "list") (rList1 X.K) := call_list_of
end

/-! ### the same rules, the written part K named (they may stand in a comprehension's block) -/
section
variable {X : Cx} {K : PySem.W.Frag}
theorem ixA (hk : X.K = K) : IxR X (rIx K) := hk ▸ ix_seq
theorem slA (hk : X.K = K) : SlR X (rSlL K) := hk ▸ sl_list
theorem slTA (hk : X.K = K) : SlR X (rSlT K) := hk ▸ sl_tup
theorem lenA (hk : X.K = K) : CallR X (.builtin "len") (rLen K) := hk ▸ call_lenA
theorem eqA (hk : X.K = K) (hu : X.A.units + 64 < cLine) : OpR X (compareOp .Eq) (rEqA K) := hk ▸ op_eqA hu
theorem neA (hk : X.K = K) (hu : X.A.units + 64 < cLine) : OpR X (compareOp .NotEq) (rNeA K) := hk ▸ op_neA hu
theorem inA (hk : X.K = K) : OpR X (compareOp .In) (rIn K false) := hk ▸ op_inA
theorem niA (hk : X.K = K) : OpR X (compareOp .NotIn) (rIn K true) := hk ▸ op_notInA
theorem isiA (hk : X.K = K) : CallR X (.builtin "isinstance") (rIsi K) := hk ▸ call_isi
theorem pe_revK {e : Expr} {te : TE} {k : Nat} {p1 p2 p3 pos : Pos} (hk : X.K = K) (he : PE X e te) : PE X (.Subscript e (.Slice none none (some (.UnaryOp .USub (.Constant (.int 1) k p1) p2)) p3) pos) (tRevL K te) := hk ▸ pe_revL he
theorem sumA (hk : X.K = K) (hc : X.calm = true) : CallR X (.builtin "sum") (rSum K) := hk ▸ cr_sumA hc
theorem allA (hk : X.K = K) (hc : X.calm = true) : CallR X (.builtin "all") (rAll K) := hk ▸ cr_allA hc
theorem anyA (hk : X.K = K) (hc : X.calm = true) : CallR X (.builtin "any") (rAny K) := hk ▸ cr_anyA hc
theorem maxA (hk : X.K = K) (hc : X.calm = true) : CallR X (.builtin "max") (rMax K) := hk ▸ cr_maxA hc
theorem minA (hk : X.K = K) (hc : X.calm = true) : CallR X (.builtin "min") (rMin K) := hk ▸ cr_minA hc
theorem sortA (hk : X.K = K) : CallR X (.builtin "sorted") (rSortedI K) := hk ▸ cr_sortedI
theorem listA (hk : X.K = K) : CallR X (.type "list") (rList1 K) := hk ▸ call_listA
theorem indexA (hk : X.K = K) : MtR X "list.index" (rIndex K) := hk ▸ mt_index
theorem getA (hk : X.K = K) : PGet X (rGetL K) := hk ▸ pget_list
theorem piL {tg l : Expr} {tl : TE} (hk : X.K = K) (hl : PE X l tl) : PI X tg l (iList K tl) := hk ▸ pi_list hl
theorem piT {tg l : Expr} {tl : TE} (hk : X.K = K) (hl : PE X l tl) : PI X tg l (iTup K tl) := hk ▸ pi_tup hl
end

/-! ### heaps -/
/-- all of H is there in H' -/
abbrev Ex := Evl.Ex
/-- all of H but what stands at h -/
def ExM (h : Addr) (H H' : Hp) : Prop := ∀ a o, a ≠ h → H a = some o → H' a = some o
theorem Ex.refl (H : Hp) : Ex H H := Evl.Ex.refl H
theorem Ex.trans {H G F : Hp} (a : Ex H G) (b : Ex G F) : Ex H F := Evl.Ex.trans a b
theorem Ex.new {H : Hp} {a : Addr} {u : HO} (h : H a = none) : Ex H (L2.upd H a u) := Evl.Ex.new h
theorem Ex.mut {H G : Hp} {a : Addr} {u : HO} (e : Ex H G) (h : H a = none) : Ex H (L2.upd G a u) := Evl.Ex.mut e h
theorem Ex.exm {Z H H' : Hp} {h : Addr} (e : Ex Z H) (hz : Z h = none) (m : ExM h H H') : Ex Z H' := fun a o ha => m a o (ne_of_none ha hz) (e a o ha)
theorem Ex.toM {H H' : Hp} {h : Addr} (e : Ex H H') : ExM h H H' := fun a o _ ha => e a o ha
theorem ExM.refl {h : Addr} (H : Hp) : ExM h H H := fun _ _ _ e => e
theorem ExM.trans {h : Addr} {H H1 H2 : Hp} (a : ExM h H H1) (b : ExM h H1 H2) : ExM h H H2 := fun x o n e => b x o n (a x o n e)
theorem ExM.upd {h : Addr} {H : Hp} {o : HO} : ExM h H (upd H h o) := fun a u n e => by
  rw [upd_ne n]
  exact e
/-- a heap without one object -/
def cutH (H : Hp) (h : Addr) : Hp := fun b => if b = h then none else H b
theorem cut_none {H : Hp} {h : Addr} : cutH H h h = none := if_pos rfl
theorem cut_m {H : Hp} {h : Addr} : ExM h H (cutH H h) := fun b o n e => by
  show (if b = h then none else H b) = some o
  rw [if_neg n]
  exact e
theorem cut_ex {H H' : Hp} {h : Addr} (m : ExM h H H') : Ex (cutH H h) H' := fun b o e => by
  have e' : (if b = h then none else H b) = some o := e
  by_cases c : b = h
  · rw [if_pos c] at e'
    cases e'
  · rw [if_neg c] at e'
    exact m b o c e'
theorem Ex.back {H H' : Hp} {p : Addr} (e : Ex H H') (h : H' p = none) : H p = none := by
  cases h1 : H p with
  | none => rfl
  | some o =>
    rw [e p o h1] at h
    cases h
theorem ExM.back {H H' : Hp} {h p : Addr} (e : ExM h H H') (hp : H' p = none) (n : p ≠ h) : H p = none := by
  cases h1 : H p with
  | none => rfl
  | some o =>
    rw [e p o n h1] at hp
    cases hp
theorem Ex.rd {H G : Hp} {p : Addr} {o : HO} (e : Ex H G) (h : Rd H p o) : Rd G p o := Evl.ex_rd e h
theorem Ex.sq {K : PySem.W.Frag} {H G : Hp} {p : Addr} {ys : List V} (e : Ex H G) (h : SqL K H p ys) : SqL K G p ys := Evl.ex_l e h
theorem Ex.st {K : PySem.W.Frag} {H G : Hp} {p : Addr} {ys : List V} (e : Ex H G) (h : SqT K H p ys) : SqT K G p ys := Evl.ex_t e h
theorem sq_of {K : PySem.W.Frag} {H : Hp} {p : Addr} {ys : List V} (h : H p = some (.lst ys)) : SqL K H p ys := SqL.of h
theorem st_of {K : PySem.W.Frag} {H : Hp} {p : Addr} {ys : List V} (h : H p = some (.tup ys)) : SqT K H p ys := SqT.of h
theorem sz_of {m : Nat} (h : m ≤ 100000) : m ≤ sizeLine := Evl.sz_of h
theorem sz_lt {m : Nat} (h : m < 100000) : m < sizeLine := Evl.sz_lt h

/-! ### places, first -/
theorem atI_lt {α : Type} {xs : List α} {i : Int} {v : α} (h0 : 0 ≤ i) (h : xs[i.toNat]? = some v) : atI xs i = some v := by
  have e : ((i.toNat : Nat) : Int) = i := Int.toNat_of_nonneg h0
  have q := atI_nat (xs := xs) (j := i.toNat) h
  rw [e] at q
  exact q
theorem ixN_lt {n : Nat} {i : Int} (h0 : 0 ≤ i) (h : i < n) : ixN n i = some i.toNat := by
  unfold ixN
  rw [if_pos h0, if_pos h]

/-! ### steps of a reading: each turns what is to be shown into what it asks next -/
section
variable {K : PySem.W.Frag} {σ : L2.St} {H : Hp} {ta tb tc te : TE} {t u : TT} {D : Ends} {Q : VK} {QB : Bool → Hp → Prop} {v x y : V} {p : Prop} {A B : Prop}
theorem s_var {i : Nat} (h : σ[i]? = some (some v)) (q : Q v H) : tVar i σ H Q := ⟨v, h, q⟩
theorem s_c (q : Q v H) : tC v σ H Q := q
theorem s_op {r : R2} (q : ta σ H fun x H1 => tb σ H1 fun y H2 => r x y H2 Q) : tOp r ta tb σ H Q := q
theorem s_un {r : V → Hp → VK → Prop} (q : ta σ H fun x H1 => r x H1 Q) : tUn r ta σ H Q := q
theorem s_chain {r r' : R2} (q : ta σ H fun x H1 => tb σ H1 fun y H2 => r x y H2 fun z H3 => ∃ k, z = .bl k ∧ (if k = true then tc σ H3 fun w' H4 => r' y w' H4 Q else Q (.bl false) H3)) : tChain r r' ta tb tc σ H Q := q
theorem s_I {C : Int → Int → Prop} {g : Int → Int → V} {i j : Int} (c : C i j) (q : Q (g i j) H) : rI C g (.int i) (.int j) H Q := ⟨i, j, rfl, rfl, c, q⟩
theorem s_I0 {g : Int → Int → V} {i j : Int} (q : Q (g i j) H) : rI0 g (.int i) (.int j) H Q := ⟨i, j, rfl, rfl, q⟩
theorem s_U {g : Int → V} {i : Int} (q : Q (g i) H) : rU g (.int i) H Q := ⟨i, rfl, q⟩
theorem s_plusI {i j : Int} (q : Q (.int (i + j)) H) : rPlus (.int i) (.int j) H Q := .inl ⟨i, j, rfl, rfl, q⟩
theorem s_plusL {a b : Addr} {xs ys : List V} (h1 : H a = some (.lst xs)) (h2 : H b = some (.lst ys)) (hz : xs.length + ys.length ≤ 100000) (q : ∀ p, H p = none → Q (.ref p) (upd H p (.lst (xs ++ ys)))) : rPlus (.ref a) (.ref b) H Q := .inr (.inl ⟨a, b, xs, ys, rfl, rfl, h1, h2, sz_of hz, q⟩)
theorem s_mulL {i j : Int} (c : -(2 ^ 64) < i ∧ i < 2 ^ 64) (q : Q (.int (i * j)) H) : rMult (.int i) (.int j) H Q := .inr (.inl ⟨i, j, rfl, rfl, .inl c, q⟩)
theorem s_mulR {i j : Int} (c : -(2 ^ 64) < j ∧ j < 2 ^ 64) (q : Q (.int (i * j)) H) : rMult (.int i) (.int j) H Q := .inr (.inl ⟨i, j, rfl, rfl, .inr c, q⟩)
theorem s_mulW {i j : Int} (c : CMulW i j) (q : Q (.int (i * j)) H) : rMult (.int i) (.int j) H Q := .inl ⟨i, j, rfl, rfl, c, q⟩
theorem s_div {i j : Int} {g : Int → Int → V} (h : 0 < j) (h2 : j < 2 ^ 62) (q : Q (g i j) H) : rI CDivW g (.int i) (.int j) H Q :=
  ⟨i, j, rfl, rfl, wide_div (b := 62) h (by have e : (2 : Int) ^ 62 = 4611686018427387904 := by decide
                                            have e2 : (2 : Nat) ^ 62 = 4611686018427387904 := by decide
                                            omega) (by decide) (by decide), q⟩
theorem s_mod {i j : Int} (h : 0 < j) (q : 0 ≤ i % j → i % j < j → Q (.int (i % j)) H) : rI (fun _ j => 0 < j) (fun i j => .int (i % j)) (.int i) (.int j) H Q := ⟨i, j, rfl, rfl, h, q (Int.emod_nonneg i (Int.ne_of_gt h)) (Int.emod_lt_of_pos i h)⟩
theorem s_pow2_50 (q : Q (.int 1125899906842624) H) : rI CPow (fun i j => .int (i ^ j.toNat)) (.int 2) (.int 50) H Q := ⟨2, 50, rfl, rfl, ⟨by decide, by decide, by decide⟩, by
  have e : (2 : Int) ^ Int.toNat 50 = 1125899906842624 := by decide
  show Q (.int ((2 : Int) ^ Int.toNat 50)) H
  rw [e]
  exact q⟩
theorem s_pow2_54 (q : Q (.int 18014398509481984) H) : rI CPow (fun i j => .int (i ^ j.toNat)) (.int 2) (.int 54) H Q := ⟨2, 54, rfl, rfl, ⟨by decide, by decide, by decide⟩, by
  have e : (2 : Int) ^ Int.toNat 54 = 18014398509481984 := by decide
  show Q (.int ((2 : Int) ^ Int.toNat 54)) H
  rw [e]
  exact q⟩
theorem s_pow2_55 (q : Q (.int 36028797018963968) H) : rI CPow (fun i j => .int (i ^ j.toNat)) (.int 2) (.int 55) H Q := ⟨2, 55, rfl, rfl, ⟨by decide, by decide, by decide⟩, by
  have e : (2 : Int) ^ Int.toNat 55 = 36028797018963968 := by decide
  show Q (.int ((2 : Int) ^ Int.toNat 55)) H
  rw [e]
  exact q⟩
theorem s_pow2_56 (q : Q (.int 72057594037927936) H) : rI CPow (fun i j => .int (i ^ j.toNat)) (.int 2) (.int 56) H Q := ⟨2, 56, rfl, rfl, ⟨by decide, by decide, by decide⟩, by
  have e : (2 : Int) ^ Int.toNat 56 = 72057594037927936 := by decide
  show Q (.int ((2 : Int) ^ Int.toNat 56)) H
  rw [e]
  exact q⟩
theorem s_pow2_57 (q : Q (.int 144115188075855872) H) : rI CPow (fun i j => .int (i ^ j.toNat)) (.int 2) (.int 57) H Q := ⟨2, 57, rfl, rfl, ⟨by decide, by decide, by decide⟩, by
  have e : (2 : Int) ^ Int.toNat 57 = 144115188075855872 := by decide
  show Q (.int ((2 : Int) ^ Int.toNat 57)) H
  rw [e]
  exact q⟩
theorem s_pow2_58 (q : Q (.int 288230376151711744) H) : rI CPow (fun i j => .int (i ^ j.toNat)) (.int 2) (.int 58) H Q := ⟨2, 58, rfl, rfl, ⟨by decide, by decide, by decide⟩, by
  have e : (2 : Int) ^ Int.toNat 58 = 288230376151711744 := by decide
  show Q (.int ((2 : Int) ^ Int.toNat 58)) H
  rw [e]
  exact q⟩
theorem s_pow2_59 (q : Q (.int 576460752303423488) H) : rI CPow (fun i j => .int (i ^ j.toNat)) (.int 2) (.int 59) H Q := ⟨2, 59, rfl, rfl, ⟨by decide, by decide, by decide⟩, by
  have e : (2 : Int) ^ Int.toNat 59 = 576460752303423488 := by decide
  show Q (.int ((2 : Int) ^ Int.toNat 59)) H
  rw [e]
  exact q⟩
theorem s_pow2_60 (q : Q (.int 1152921504606846976) H) : rI CPow (fun i j => .int (i ^ j.toNat)) (.int 2) (.int 60) H Q := ⟨2, 60, rfl, rfl, ⟨by decide, by decide, by decide⟩, by
  have e : (2 : Int) ^ Int.toNat 60 = 1152921504606846976 := by decide
  show Q (.int ((2 : Int) ^ Int.toNat 60)) H
  rw [e]
  exact q⟩
theorem s_pow2_61 (q : Q (.int 2305843009213693952) H) : rI CPow (fun i j => .int (i ^ j.toNat)) (.int 2) (.int 61) H Q := ⟨2, 61, rfl, rfl, ⟨by decide, by decide, by decide⟩, by
  have e : (2 : Int) ^ Int.toNat 61 = 2305843009213693952 := by decide
  show Q (.int ((2 : Int) ^ Int.toNat 61)) H
  rw [e]
  exact q⟩
theorem s_pow2_62 (q : Q (.int 4611686018427387904) H) : rI CPow (fun i j => .int (i ^ j.toNat)) (.int 2) (.int 62) H Q := ⟨2, 62, rfl, rfl, ⟨by decide, by decide, by decide⟩, by
  have e : (2 : Int) ^ Int.toNat 62 = 4611686018427387904 := by decide
  show Q (.int ((2 : Int) ^ Int.toNat 62)) H
  rw [e]
  exact q⟩
theorem s_pow2_63 (q : Q (.int 9223372036854775808) H) : rI CPow (fun i j => .int (i ^ j.toNat)) (.int 2) (.int 63) H Q := ⟨2, 63, rfl, rfl, ⟨by decide, by decide, by decide⟩, by
  have e : (2 : Int) ^ Int.toNat 63 = 9223372036854775808 := by decide
  show Q (.int ((2 : Int) ^ Int.toNat 63)) H
  rw [e]
  exact q⟩
theorem s_pow2_64 (q : Q (.int 18446744073709551616) H) : rI CPow (fun i j => .int (i ^ j.toNat)) (.int 2) (.int 64) H Q := ⟨2, 64, rfl, rfl, ⟨by decide, by decide, by decide⟩, by
  have e : (2 : Int) ^ Int.toNat 64 = 18446744073709551616 := by decide
  show Q (.int ((2 : Int) ^ Int.toNat 64)) H
  rw [e]
  exact q⟩
theorem s_pow10_1 (q : Q (.int 10) H) : rI CPow (fun i j => .int (i ^ j.toNat)) (.int 10) (.int 1) H Q := ⟨10, 1, rfl, rfl, ⟨by decide, by decide, by decide⟩, by
  have e : (10 : Int) ^ Int.toNat 1 = 10 := by decide
  show Q (.int ((10 : Int) ^ Int.toNat 1)) H
  rw [e]
  exact q⟩
theorem s_pow10_2 (q : Q (.int 100) H) : rI CPow (fun i j => .int (i ^ j.toNat)) (.int 10) (.int 2) H Q := ⟨10, 2, rfl, rfl, ⟨by decide, by decide, by decide⟩, by
  have e : (10 : Int) ^ Int.toNat 2 = 100 := by decide
  show Q (.int ((10 : Int) ^ Int.toNat 2)) H
  rw [e]
  exact q⟩
theorem s_pow10_3 (q : Q (.int 1000) H) : rI CPow (fun i j => .int (i ^ j.toNat)) (.int 10) (.int 3) H Q := ⟨10, 3, rfl, rfl, ⟨by decide, by decide, by decide⟩, by
  have e : (10 : Int) ^ Int.toNat 3 = 1000 := by decide
  show Q (.int ((10 : Int) ^ Int.toNat 3)) H
  rw [e]
  exact q⟩
theorem s_pow10_4 (q : Q (.int 10000) H) : rI CPow (fun i j => .int (i ^ j.toNat)) (.int 10) (.int 4) H Q := ⟨10, 4, rfl, rfl, ⟨by decide, by decide, by decide⟩, by
  have e : (10 : Int) ^ Int.toNat 4 = 10000 := by decide
  show Q (.int ((10 : Int) ^ Int.toNat 4)) H
  rw [e]
  exact q⟩
theorem s_pow10_5 (q : Q (.int 100000) H) : rI CPow (fun i j => .int (i ^ j.toNat)) (.int 10) (.int 5) H Q := ⟨10, 5, rfl, rfl, ⟨by decide, by decide, by decide⟩, by
  have e : (10 : Int) ^ Int.toNat 5 = 100000 := by decide
  show Q (.int ((10 : Int) ^ Int.toNat 5)) H
  rw [e]
  exact q⟩
theorem s_pow10_6 (q : Q (.int 1000000) H) : rI CPow (fun i j => .int (i ^ j.toNat)) (.int 10) (.int 6) H Q := ⟨10, 6, rfl, rfl, ⟨by decide, by decide, by decide⟩, by
  have e : (10 : Int) ^ Int.toNat 6 = 1000000 := by decide
  show Q (.int ((10 : Int) ^ Int.toNat 6)) H
  rw [e]
  exact q⟩
theorem s_pow10_7 (q : Q (.int 10000000) H) : rI CPow (fun i j => .int (i ^ j.toNat)) (.int 10) (.int 7) H Q := ⟨10, 7, rfl, rfl, ⟨by decide, by decide, by decide⟩, by
  have e : (10 : Int) ^ Int.toNat 7 = 10000000 := by decide
  show Q (.int ((10 : Int) ^ Int.toNat 7)) H
  rw [e]
  exact q⟩
theorem s_pow10_8 (q : Q (.int 100000000) H) : rI CPow (fun i j => .int (i ^ j.toNat)) (.int 10) (.int 8) H Q := ⟨10, 8, rfl, rfl, ⟨by decide, by decide, by decide⟩, by
  have e : (10 : Int) ^ Int.toNat 8 = 100000000 := by decide
  show Q (.int ((10 : Int) ^ Int.toNat 8)) H
  rw [e]
  exact q⟩
theorem s_pow10_9 (q : Q (.int 1000000000) H) : rI CPow (fun i j => .int (i ^ j.toNat)) (.int 10) (.int 9) H Q := ⟨10, 9, rfl, rfl, ⟨by decide, by decide, by decide⟩, by
  have e : (10 : Int) ^ Int.toNat 9 = 1000000000 := by decide
  show Q (.int ((10 : Int) ^ Int.toNat 9)) H
  rw [e]
  exact q⟩
theorem s_pow10_10 (q : Q (.int 10000000000) H) : rI CPow (fun i j => .int (i ^ j.toNat)) (.int 10) (.int 10) H Q := ⟨10, 10, rfl, rfl, ⟨by decide, by decide, by decide⟩, by
  have e : (10 : Int) ^ Int.toNat 10 = 10000000000 := by decide
  show Q (.int ((10 : Int) ^ Int.toNat 10)) H
  rw [e]
  exact q⟩
theorem s_pow10_11 (q : Q (.int 100000000000) H) : rI CPow (fun i j => .int (i ^ j.toNat)) (.int 10) (.int 11) H Q := ⟨10, 11, rfl, rfl, ⟨by decide, by decide, by decide⟩, by
  have e : (10 : Int) ^ Int.toNat 11 = 100000000000 := by decide
  show Q (.int ((10 : Int) ^ Int.toNat 11)) H
  rw [e]
  exact q⟩
theorem s_pow10_12 (q : Q (.int 1000000000000) H) : rI CPow (fun i j => .int (i ^ j.toNat)) (.int 10) (.int 12) H Q := ⟨10, 12, rfl, rfl, ⟨by decide, by decide, by decide⟩, by
  have e : (10 : Int) ^ Int.toNat 12 = 1000000000000 := by decide
  show Q (.int ((10 : Int) ^ Int.toNat 12)) H
  rw [e]
  exact q⟩
theorem s_pow10_18 (q : Q (.int 1000000000000000000) H) : rI CPow (fun i j => .int (i ^ j.toNat)) (.int 10) (.int 18) H Q := ⟨10, 18, rfl, rfl, ⟨by decide, by decide, by decide⟩, by
  have e : (10 : Int) ^ Int.toNat 18 = 1000000000000000000 := by decide
  show Q (.int ((10 : Int) ^ Int.toNat 18)) H
  rw [e]
  exact q⟩
theorem s_pow10_39 (q : Q (.int 1000000000000000000000000000000000000000) H) : rI CPow (fun i j => .int (i ^ j.toNat)) (.int 10) (.int 39) H Q := ⟨10, 39, rfl, rfl, ⟨by decide, by decide, by decide⟩, by
  have e : (10 : Int) ^ Int.toNat 39 = 1000000000000000000000000000000000000000 := by decide
  show Q (.int ((10 : Int) ^ Int.toNat 39)) H
  rw [e]
  exact q⟩
theorem s_pow {i j : Int} {g : Int → Int → V} (h1 : 0 ≤ j ∧ j ≤ 1000) (h2 : i.natAbs < 2 ^ 64) (q : Q (g i j) H) : rI CPow g (.int i) (.int j) H Q := ⟨i, j, rfl, rfl, ⟨h1.1, by omega, h2⟩, q⟩
theorem s_eqI {a b : Int} (q : Q (.bl (decide (a = b))) H) : rEqA K (.int a) (.int b) H Q := .inl ⟨rfl, by
  have e : decide (V.int a = V.int b) = decide (a = b) := by rw [dec_int, Bool.beq_eq_decide_eq]
  rw [e]
  exact q⟩
theorem s_neI {a b : Int} (q : Q (.bl (decide (a ≠ b))) H) : rNeA K (.int a) (.int b) H Q := .inl ⟨rfl, by
  have e : (!decide (V.int a = V.int b)) = decide (a ≠ b) := by rw [dec_int, Bool.beq_eq_decide_eq, decide_not]
  rw [e]
  exact q⟩
theorem s_eqB {a b : Bool} (q : Q (.bl (decide (a = b))) H) : rEqA K (.bl a) (.bl b) H Q := .inl ⟨rfl, by
  have e : decide (V.bl a = V.bl b) = decide (a = b) := by cases a <;> cases b <;> rfl
  rw [e]
  exact q⟩
theorem s_neB {a b : Bool} (q : Q (.bl (decide (a ≠ b))) H) : rNeA K (.bl a) (.bl b) H Q := .inl ⟨rfl, by
  have e : (!decide (V.bl a = V.bl b)) = decide (a ≠ b) := by cases a <;> cases b <;> rfl
  rw [e]
  exact q⟩
theorem s_eqS {a b : Str} (q : Q (.bl (decide (a = b))) H) : rEqA K (.str a) (.str b) H Q := .inl ⟨rfl, by
  have e : decide (V.str a = V.str b) = decide (a = b) := by
    by_cases h : a = b
    · rw [h, decide_eq_true rfl, decide_eq_true rfl]
    · rw [decide_eq_false h, decide_eq_false (fun e => h (V.str.inj e))]
  rw [e]
  exact q⟩
theorem s_neS {a b : Str} (q : Q (.bl (decide (a ≠ b))) H) : rNeA K (.str a) (.str b) H Q := .inl ⟨rfl, by
  have e : (!decide (V.str a = V.str b)) = decide (a ≠ b) := by
    by_cases h : a = b
    · rw [h, decide_eq_true rfl, decide_eq_false (fun z => z rfl)]
      rfl
    · rw [decide_eq_false (fun e => h (V.str.inj e)), decide_eq_true h]
      rfl
  rw [e]
  exact q⟩
theorem s_eqD {d e : PyData} (h1 : Dp K H x d) (h2 : Dp K H y e) (s1 : SeqAt.shaped d = true) (s2 : SeqAt.shaped e = true) (q : Q (.bl (PyData.eqv d e)) H) : rEqA K x y H Q := .inr ⟨d, e, h1, h2, s1, s2, q⟩
theorem s_neD {d e : PyData} (h1 : Dp K H x d) (h2 : Dp K H y e) (s1 : SeqAt.shaped d = true) (s2 : SeqAt.shaped e = true) (q : Q (.bl (!PyData.eqv d e)) H) : rNeA K x y H Q := .inr ⟨d, e, h1, h2, s1, s2, q⟩
theorem s_isN0 (q : Q (.bl true) H) : rIsNA .non .non H Q := ⟨rfl, q⟩
theorem s_isN1 {i : Int} (q : Q (.bl false) H) : rIsNA (.int i) .non H Q := ⟨rfl, q⟩
theorem s_isN2 {i : Addr} (q : Q (.bl false) H) : rIsNA (.ref i) .non H Q := ⟨rfl, q⟩
theorem s_isN3 {i : Str} (q : Q (.bl false) H) : rIsNA (.str i) .non H Q := ⟨rfl, q⟩
theorem s_notN0 (q : Q (.bl false) H) : rNotNA .non .non H Q := ⟨rfl, q⟩
theorem s_notN1 {i : Int} (q : Q (.bl true) H) : rNotNA (.int i) .non H Q := ⟨rfl, q⟩
theorem s_notN2 {i : Addr} (q : Q (.bl true) H) : rNotNA (.ref i) .non H Q := ⟨rfl, q⟩
theorem s_notN3 {i : Str} (q : Q (.bl true) H) : rNotNA (.str i) .non H Q := ⟨rfl, q⟩
/-- subscripts -/
theorem s_ixL {a : Addr} {xs : List V} {i : Int} (h : SqL K H a xs) (e : atI xs i = some v) (q : Q v H) : rIx K (.ref a) (.int i) H Q := .inl ⟨a, xs, i, v, rfl, rfl, h, e, q⟩
theorem s_ixT {a : Addr} {xs : List V} {i : Int} (h : SqT K H a xs) (e : atI xs i = some v) (q : Q v H) : rIx K (.ref a) (.int i) H Q := .inr (.inl ⟨a, xs, i, v, rfl, rfl, h, e, q⟩)
theorem s_getL {a : Addr} {xs : List V} {i : Int} (h : SqL K H a xs) (h0 : 0 ≤ i) (e : atI xs i = some v) (q : Q v H) : rGetL K (.ref a) (.int i) H Q := ⟨a, xs, i, v, rfl, rfl, h, h0, e, q⟩
/-- tests -/
theorem s_test (q : te σ H fun x H' => ∃ k, x = .bl k ∧ QB k H') : tTest te σ H QB := q
theorem s_tB (q : te σ H fun x H' => ∃ k, x = .bl k ∧ QB k H') : tB te σ H QB := q
theorem s_bl {b : Bool} {R : Bool → Prop} (q : R b) : ∃ k, V.bl b = V.bl k ∧ R k := ⟨b, rfl, q⟩
theorem s_and (q : t σ H fun c H1 => if c = true then u σ H1 QB else QB false H1) : tAnd t u σ H QB := q
theorem s_or (q : t σ H fun c H1 => if c = true then QB true H1 else u σ H1 QB) : tOr t u σ H QB := q
theorem s_not (q : t σ H fun c H1 => QB (!c) H1) : tNot t σ H QB := q
theorem s_andV (q : ta σ H fun x H1 => ∃ c, x = .bl c ∧ if c = true then tb σ H1 Q else Q (.bl false) H1) : tAndV ta tb σ H Q := q
theorem s_orV (q : ta σ H fun x H1 => ∃ c, x = .bl c ∧ if c = true then Q (.bl true) H1 else tb σ H1 Q) : tOrV ta tb σ H Q := q
theorem s_notV (q : ta σ H fun x H1 => ∃ c, x = .bl c ∧ Q (.bl (!c)) H1) : tNotV ta σ H Q := q
theorem s_ifE (q : t σ H fun c H1 => if c = true then ta σ H1 Q else tb σ H1 Q) : tIf t ta tb σ H Q := q
theorem i_d [Decidable p] (h1 : p → A) (h2 : ¬ p → B) : if decide p = true then A else B := by
  by_cases h : p
  · rw [if_pos (decide_eq_true h)]
    exact h1 h
  · rw [if_neg (fun z => h (of_decide_eq_true z))]
    exact h2 h
theorem i_n [Decidable p] (h1 : ¬ p → A) (h2 : p → B) : if (!decide p) = true then A else B := by
  by_cases h : p
  · rw [decide_eq_true h]
    exact h2 h
  · rw [decide_eq_false h]
    exact h1 h
theorem i_b {b : Bool} (h1 : b = true → A) (h2 : b = false → B) : if b = true then A else B := by
  cases b with
  | true => exact h1 rfl
  | false => exact h2 rfl
theorem i_nb {b : Bool} (h1 : b = false → A) (h2 : b = true → B) : if (!b) = true then A else B := by
  cases b with
  | true => exact h2 rfl
  | false => exact h1 rfl
theorem i_t (h : A) : if true = true then A else B := by
  rw [if_pos rfl]
  exact h
theorem i_f (h : B) : if false = true then A else B := by
  rw [if_neg Bool.false_ne_true]
  exact h
theorem i_nt (h : B) : if (!true) = true then A else B := i_f h
theorem i_nf (h : A) : if (!false) = true then A else B := i_t h
theorem i_dt [Decidable p] (hp : p) (h : A) : if decide p = true then A else B := i_d (fun _ => h) (fun n => absurd hp n)
theorem i_df [Decidable p] (hp : ¬ p) (h : B) : if decide p = true then A else B := i_d (fun z => absurd z hp) (fun _ => h)
theorem i_ndt [Decidable p] (hp : p) (h : B) : if (!decide p) = true then A else B := i_n (fun n => absurd hp n) (fun _ => h)
theorem i_ndf [Decidable p] (hp : ¬ p) (h : A) : if (!decide p) = true then A else B := i_n (fun _ => h) (fun z => absurd z hp)
/-- calls, displays, slices -/
theorem s_nil {QA : List V → Hp → Prop} (q : QA [] H) : tNil σ H QA := q
theorem s_cons {tr : TA} {QA : List V → Hp → Prop} (q : ta σ H fun x H1 => tr σ H1 fun xs H2 => QA (x :: xs) H2) : tCons ta tr σ H QA := q
theorem s_call {sp : Sp} {E : XK} {tr : TA} (q : tr σ H fun vs H1 => sp vs H1 Q E) : tCall sp [] E tr σ H Q := by
  have e : (fun (vs : List V) H1 => sp (vs ++ []) H1 Q E) = fun vs H1 => sp vs H1 Q E := by
    funext vs H1
    rw [List.append_nil]
  show tr σ H fun vs H1 => sp (vs ++ []) H1 Q E
  rw [e]
  exact q
theorem s_CB {r : List V → Hp → VK → Prop} {tr : TA} (q : tr σ H fun vs H1 => r vs H1 Q) : tCB r tr σ H Q := q
def NewL (xs : List V) (H : Hp) (Q : VK) : Prop := xs.length ≤ sizeLine ∧ ∀ p, H p = none → Q (.ref p) (upd H p (.lst xs))
def NewT (xs : List V) (H : Hp) (Q : VK) : Prop := xs.length ≤ sizeLine ∧ ∀ p, H p = none → Q (.ref p) (upd H p (.tup xs))
def NewRg (a b : Int) (H : Hp) (Q : VK) : Prop := RgOk a b ∧ ∀ p, H p = none → Q (.ref p) (upd H p (.lst (rgV a b)))
theorem s_lst {tr : TA} (q : tr σ H fun xs H1 => NewL xs H1 Q) : tLst tr σ H Q := q
theorem s_tup {tr : TA} (q : tr σ H fun xs H1 => NewT xs H1 Q) : tTup tr σ H Q := q
theorem s_lenL {a : Addr} {xs : List V} (h : SqL K H a xs) (q : Q (.int (xs.length : Int)) H) : rLen K [.ref a] H Q := .inl ⟨a, xs, rfl, .inl h, q⟩
theorem s_lenM {α : Type} {f : α → V} {l : List α} {a : Addr} (h : SqL K H a (l.map f)) (q : Q (.int (l.length : Int)) H) : rLen K [.ref a] H Q := .inl ⟨a, _, rfl, .inl h, by rw [List.length_map]; exact q⟩
theorem s_ixI {l : List Int} {a : Addr} {i : Int} (h : SqL K H a (l.map V.int)) (h0 : 0 ≤ i ∧ i < l.length) (q : ∀ v, l[i.toNat]? = some v → Q (.int v) H) : rIx K (.ref a) (.int i) H Q := by
  have hl : i.toNat < l.length := by omega
  exact .inl ⟨a, _, i, _, rfl, rfl, h, atI_lt h0.1 (by rw [List.getElem?_map, List.getElem?_eq_getElem hl]; rfl), q _ (List.getElem?_eq_getElem hl)⟩
theorem s_ix2b {a : Addr} {x y : Int} {b : Bool} (h : SqL K H a [.int x, .int y]) (q : ∀ v, (v = x ∨ v = y) → Q (.int v) H) : rIx K (.ref a) (.int (if b = true then 1 else 0)) H Q := by
  cases b
  · exact .inl ⟨a, _, 0, _, rfl, rfl, h, rfl, q _ (.inl rfl)⟩
  · exact .inl ⟨a, _, 1, _, rfl, rfl, h, rfl, q _ (.inr rfl)⟩
theorem s_ix2 {a : Addr} {x y i : Int} (h : SqL K H a [.int x, .int y]) (h0 : 0 ≤ i ∧ i < 2) (q : ∀ v, (i = 0 ∧ v = x ∨ i = 1 ∧ v = y) → Q (.int v) H) : rIx K (.ref a) (.int i) H Q := by
  have : i = 0 ∨ i = 1 := by omega
  rcases this with rfl | rfl
  · exact .inl ⟨a, _, 0, _, rfl, rfl, h, rfl, q _ (.inl ⟨rfl, rfl⟩)⟩
  · exact .inl ⟨a, _, 1, _, rfl, rfl, h, rfl, q _ (.inr ⟨rfl, rfl⟩)⟩
theorem s_ix3 {a : Addr} {x y z i : Int} (h : SqL K H a [.int x, .int y, .int z]) (h0 : 0 ≤ i ∧ i < 3) (q : ∀ v, (i = 0 ∧ v = x ∨ i = 1 ∧ v = y ∨ i = 2 ∧ v = z) → Q (.int v) H) : rIx K (.ref a) (.int i) H Q := by
  have : i = 0 ∨ i = 1 ∨ i = 2 := by omega
  rcases this with rfl | rfl | rfl
  · exact .inl ⟨a, _, 0, _, rfl, rfl, h, rfl, q _ (.inl ⟨rfl, rfl⟩)⟩
  · exact .inl ⟨a, _, 1, _, rfl, rfl, h, rfl, q _ (.inr (.inl ⟨rfl, rfl⟩))⟩
  · exact .inl ⟨a, _, 2, _, rfl, rfl, h, rfl, q _ (.inr (.inr ⟨rfl, rfl⟩))⟩
theorem s_ix4 {a : Addr} {x y z t i : Int} (h : SqL K H a [.int x, .int y, .int z, .int t]) (h0 : 0 ≤ i ∧ i < 4) (q : ∀ v, (i = 0 ∧ v = x ∨ i = 1 ∧ v = y ∨ i = 2 ∧ v = z ∨ i = 3 ∧ v = t) → Q (.int v) H) : rIx K (.ref a) (.int i) H Q := by
  have : i = 0 ∨ i = 1 ∨ i = 2 ∨ i = 3 := by omega
  rcases this with rfl | rfl | rfl | rfl
  · exact .inl ⟨a, _, 0, _, rfl, rfl, h, rfl, q _ (.inl ⟨rfl, rfl⟩)⟩
  · exact .inl ⟨a, _, 1, _, rfl, rfl, h, rfl, q _ (.inr (.inl ⟨rfl, rfl⟩))⟩
  · exact .inl ⟨a, _, 2, _, rfl, rfl, h, rfl, q _ (.inr (.inr (.inl ⟨rfl, rfl⟩)))⟩
  · exact .inl ⟨a, _, 3, _, rfl, rfl, h, rfl, q _ (.inr (.inr (.inr ⟨rfl, rfl⟩)))⟩
theorem s_lenT {a : Addr} {xs : List V} (h : SqT K H a xs) (q : Q (.int (xs.length : Int)) H) : rLen K [.ref a] H Q := .inl ⟨a, xs, rfl, .inr h, q⟩
theorem s_lenS {z : Str} (h : z.length ≤ 100000) (q : Q (.int (z.length : Int)) H) : rLen K [.str z] H Q := .inr ⟨z, rfl, sz_of h, q⟩
theorem s_slL {a : Addr} {xs : List V} {lo hi : Option Int} (h : SqL K H a xs) (q : ∀ p, H p = none → Q (.ref p) (upd H p (.lst (cutV xs lo hi)))) : rSlL K (.ref a) lo hi H Q := ⟨a, xs, rfl, h, q⟩
theorem s_sl {r : V → Option Int → Option Int → Hp → VK → Prop} {tl th : TO} (q : te σ H fun x H1 => tl σ H1 fun l H2 => th σ H2 fun u H3 => r x l u H3 Q) : tSl r te tl th σ H Q := q
theorem s_np {QO : Option Int → Hp → Prop} (q : QO none H) : tNoPart σ H QO := q
theorem s_part {QO : Option Int → Hp → Prop} (q : te σ H fun x H1 => ∃ i, x = .int i ∧ QO (some i) H1) : tPart te σ H QO := q
theorem s_int {i : Int} {R : Int → Prop} (q : R i) : ∃ k, V.int i = V.int k ∧ R k := ⟨i, rfl, q⟩
theorem s_BM {T : String} {r : V → List V → Hp → VK → Prop} {tr : TA} (q : ta σ H fun x H1 => tyV K T x H1 ∧ tr σ H1 fun xs H2 => r x xs H2 Q) : tBM K T r ta tr σ H Q := q
theorem s_BM0 {T : String} {r : V → List V → Hp → VK → Prop} (q : ta σ H fun x H1 => tyV K T x H1 ∧ r x [] H1 Q) : tBM0 K T r ta σ H Q := q
theorem s_tyL {a : Addr} {xs : List V} {R : Prop} (h : SqL K H a xs) (q : R) : tyV K "list" (.ref a) H ∧ R := ⟨Or.inl ⟨rfl, xs, h⟩, q⟩
theorem s_app {a : Addr} {xs : List V} (h : H a = some (.lst xs)) (hz : xs.length < 100000) (q : Q .non (upd H a (.lst (xs ++ [v])))) : rAppend (.ref a) [v] H Q := ⟨a, xs, v, rfl, rfl, h, sz_lt hz, q⟩
/-- statements -/
theorem s_seq {t u : TS} (q : t { D with nx := u D } σ H) : tSeq t u D σ H := q
theorem s_cut {t u : TS} (Mid : L2.St → Hp → Prop) (h : t { D with nx := Mid } σ H) (q : ∀ σ' H', Mid σ' H' → u D σ' H') : Evl.tCut t u D σ H := ⟨Mid, h, q⟩
theorem s_next (q : D.nx σ H) : tNext D σ H := q
theorem s_drop (q : te σ H fun _ H1 => D.nx σ H1) : tDrop te D σ H := q
theorem s_ret (q : te σ H D.rt) : tRet te D σ H := q
theorem s_if {t u : TS} {c : TT} (q : c σ H fun b H1 => if b = true then t D σ H1 else u D σ H1) : tIfS c t u D σ H := q
theorem s_asg {g : TG} (q : te σ H fun x H1 => g x σ H1 D.nx) : tAsg te g D σ H := q
theorem s_gname {i : Nat} {R : L2.St → Hp → Prop} (q : R (σ.set i (some v)) H) : gName i v σ H R := q
theorem s_gsub {to ti : TE} {ts : TSet} {R : L2.St → Hp → Prop} (q : to σ H fun o H1 => ti σ H1 fun i H2 => ts o i v H2 fun H3 => R σ H3) : gSub to ti ts v σ H R := q
theorem s_setL {a : Addr} {xs : List V} {k : Int} {j : Nat} {R : Hp → Prop} (h : H a = some (.lst xs)) (hk : ixN xs.length k = some j) (q : R (upd H a (.lst (xs.set j v)))) : rSetL (.ref a) (.int k) v H R := ⟨a, xs, k, j, rfl, rfl, h, hk, q⟩
theorem s_aug {i : Nat} {ti : TIp} (h : σ[i]? = some (some x)) (q : te σ H fun y H1 => ti x y H1 fun z H2 => D.nx (σ.set i (some z)) H2) : tAug i te ti D σ H := ⟨x, h, q⟩
theorem s_ipI {f : Int → Int → Int} {i j : Int} (q : Q (.int (f i j)) H) : ipI f (.int i) (.int j) H Q := ⟨i, j, rfl, rfl, q⟩
theorem s_augS {to ti : TE} {tget : V → V → Hp → VK → Prop} {tip : TIp} {tset : TSet}
    (q : to σ H fun o H1 => ti σ H1 fun i H2 => tget o i H2 fun x H3 => te σ H3 fun y H4 => tip x y H4 fun z H5 => tset o i z H5 fun H6 => D.nx σ H6) : tAugS to ti te tget tip tset D σ H := q
theorem s_max2 {i j : Int} (q : Q (.int (max i j)) H) : rMax2 [.int i, .int j] H Q := ⟨i, j, rfl, q⟩
theorem s_min2 {i j : Int} (q : Q (.int (min i j)) H) : rMin2 [.int i, .int j] H Q := ⟨i, j, rfl, q⟩
theorem s_abs {i : Int} (q : Q (.int (if i < 0 then -i else i)) H) : rAbs [.int i] H Q := ⟨i, rfl, q⟩
theorem s_int1 {i : Int} (q : Q (.int i) H) : rInt1 [.int i] H Q := .inl ⟨i, rfl, q⟩
theorem s_int1b {b : Bool} (q : Q (.int (if b then 1 else 0)) H) : rInt1 [.bl b] H Q := .inr ⟨b, rfl, q⟩
theorem s_isiI {n : String} {i : Int} {b : Bool} (h : kitB "int" n = some b) (q : Q (.bl b) H) : rIsi K [.int i, .ty n] H Q := ⟨.int i, .ty n, _, _, b, rfl, .ty n, .base (.int i), kit_ty h, q⟩
theorem s_isiB {n : String} {i : Bool} {b : Bool} (h : kitB "bool" n = some b) (q : Q (.bl b) H) : rIsi K [.bl i, .ty n] H Q := ⟨.bl i, .ty n, _, _, b, rfl, .ty n, .base (.bl i), kit_ty h, q⟩
theorem s_isiS {n : String} {i : Str} {b : Bool} (h : kitB "str" n = some b) (q : Q (.bl b) H) : rIsi K [.str i, .ty n] H Q := ⟨.str i, .ty n, _, _, b, rfl, .ty n, .base (.str i), kit_ty h, q⟩
theorem s_isiN {n : String} {b : Bool} (h : kitB "NoneType" n = some b) (q : Q (.bl b) H) : rIsi K [.non, .ty n] H Q := ⟨.non, .ty n, _, _, b, rfl, .ty n, .base .non, kit_ty h, q⟩
theorem ty_sq {a : Addr} {xs : List V} (h : SqL K H a xs) : TyX K H (.ref a) (.type "list") := by
  rcases h with (h | ⟨o, h⟩) | ⟨o, its, n, hk, hc, _⟩
  · exact .base (.lst h)
  · exact .base (.frz h)
  · exact .kList hk hc
theorem ty_st {a : Addr} {xs : List V} (h : SqT K H a xs) : TyX K H (.ref a) (.type "tuple") := by
  rcases h with (h | ⟨o, h⟩) | ⟨o, its, n, hk, hc, _⟩
  · exact .base (.tup h)
  · exact .fTuple h
  · exact .kTuple hk hc
theorem s_isiL {n : String} {a : Addr} {xs : List V} {b : Bool} (hs : SqL K H a xs) (h : kitB "list" n = some b) (q : Q (.bl b) H) : rIsi K [.ref a, .ty n] H Q := ⟨.ref a, .ty n, _, _, b, rfl, .ty n, ty_sq hs, kit_ty h, q⟩
theorem s_isiT {n : String} {a : Addr} {xs : List V} {b : Bool} (hs : SqT K H a xs) (h : kitB "tuple" n = some b) (q : Q (.bl b) H) : rIsi K [.ref a, .ty n] H Q := ⟨.ref a, .ty n, _, _, b, rfl, .ty n, ty_st hs, kit_ty h, q⟩
theorem k_ii : kitB "int" "int" = some true := by decide +kernel
theorem k_ib : kitB "int" "bool" = some false := by decide +kernel
theorem k_is : kitB "int" "str" = some false := by decide +kernel
theorem k_il : kitB "int" "list" = some false := by decide +kernel
theorem k_it : kitB "int" "tuple" = some false := by decide +kernel
theorem k_bi : kitB "bool" "int" = some true := by decide +kernel
theorem k_bb : kitB "bool" "bool" = some true := by decide +kernel
theorem k_bs : kitB "bool" "str" = some false := by decide +kernel
theorem k_bl' : kitB "bool" "list" = some false := by decide +kernel
theorem k_bt : kitB "bool" "tuple" = some false := by decide +kernel
theorem k_si : kitB "str" "int" = some false := by decide +kernel
theorem k_sb : kitB "str" "bool" = some false := by decide +kernel
theorem k_ss : kitB "str" "str" = some true := by decide +kernel
theorem k_sl : kitB "str" "list" = some false := by decide +kernel
theorem k_st : kitB "str" "tuple" = some false := by decide +kernel
theorem k_li : kitB "list" "int" = some false := by decide +kernel
theorem k_lb : kitB "list" "bool" = some false := by decide +kernel
theorem k_ls : kitB "list" "str" = some false := by decide +kernel
theorem k_ll : kitB "list" "list" = some true := by decide +kernel
theorem k_lt : kitB "list" "tuple" = some false := by decide +kernel
theorem k_ti : kitB "tuple" "int" = some false := by decide +kernel
theorem k_tb : kitB "tuple" "bool" = some false := by decide +kernel
theorem k_ts : kitB "tuple" "str" = some false := by decide +kernel
theorem k_tl : kitB "tuple" "list" = some false := by decide +kernel
theorem k_tt : kitB "tuple" "tuple" = some true := by decide +kernel
theorem k_ni : kitB "NoneType" "int" = some false := by decide +kernel
theorem k_nb : kitB "NoneType" "bool" = some false := by decide +kernel
theorem k_ns : kitB "NoneType" "str" = some false := by decide +kernel
theorem k_nl : kitB "NoneType" "list" = some false := by decide +kernel
theorem k_nt : kitB "NoneType" "tuple" = some false := by decide +kernel
end

section
variable {K : PySem.W.Frag} {σ : L2.St} {H : Hp} {ta tb tl te : TE} {tt : TT} {D : Ends} {Q : VK} {g : TG} {ts : TS} {vs : List Nat}
theorem s_yes {QB : Bool → Hp → Prop} (q : QB true H) : tYes σ H QB := q
theorem s_wp {A B : L2.St} {R : Prop} (h : wipe A vs = wipe B vs) (q : R) : wipe A vs = wipe B vs ∧ R := ⟨h, q⟩
/-! lists of a range -/
theorem s_lstRg {te : L2.St → Hp → (Int → Int → Hp → Prop) → Prop} (q : te σ H fun a b H1 => NewRg a b H1 Q) : tLstRg te σ H Q := q
theorem s_Rg1 {QR : Int → Int → Hp → Prop} (q : ta σ H fun x H1 => ∃ n, x = .int n ∧ QR 0 n H1) : tRg1 ta σ H QR := q
theorem s_Rg2 {QR : Int → Int → Hp → Prop} (q : ta σ H fun x H1 => tb σ H1 fun y H2 => ∃ i j, x = .int i ∧ y = .int j ∧ QR i j H2) : tRg2 ta tb σ H QR := q
theorem s_int2 {i j : Int} {R : Int → Int → Prop} (q : R i j) : ∃ k l, V.int i = V.int k ∧ V.int j = V.int l ∧ R k l := ⟨i, j, rfl, rfl, q⟩
theorem n_rg {a b : Int} (h : 0 ≤ a ∧ a ≤ 16000000 ∧ 0 ≤ b ∧ b ≤ 16000000) (q : ∀ p H', H p = none → Ex H H' → H' p = some (.lst (rgV a b)) → Q (.ref p) H') : NewRg a b H Q :=
  ⟨.of_le (by omega) (by omega) (by omega) (by omega), fun p hp => q p _ hp (Ex.new hp) upd_same⟩
/-! loops: what a for asks, and how it is answered by an invariant -/
def ForJ (g : TG) (tb : TS) (D : Ends) (σ : L2.St) (J : It) (H1 : Hp) : Prop := tFor (fun _ H R => R J H) g tb D σ H1
def ForL (K : PySem.W.Frag) (g : TG) (tb : TS) (D : Ends) (σ : L2.St) (x : V) (H1 : Hp) : Prop := ∃ a, x = .ref a ∧ (∃ xs, SqL K H1 a xs) ∧ ForJ g tb D σ (Itl K a) H1
def ForT (K : PySem.W.Frag) (g : TG) (tb : TS) (D : Ends) (σ : L2.St) (x : V) (H1 : Hp) : Prop := ∃ a, x = .ref a ∧ (∃ xs, SqT K H1 a xs) ∧ ForJ g tb D σ (Itt K a) H1
def ForR1 (g : TG) (tb : TS) (D : Ends) (σ : L2.St) (vs : List V) (H1 : Hp) : Prop := ∃ j : Int, vs = [.int j] ∧ -(2 ^ 62) ≤ j ∧ j < 2 ^ 62 ∧ ForJ g tb D σ (Itr 0 j.toNat) H1
def ForR2 (g : TG) (tb : TS) (D : Ends) (σ : L2.St) (vs : List V) (H1 : Hp) : Prop := ∃ i j : Int, vs = [.int i, .int j] ∧ (-(2 ^ 62) ≤ i ∧ i < 2 ^ 62 ∧ -(2 ^ 62) ≤ j ∧ j < 2 ^ 62) ∧ ForJ g tb D σ (Itr i (j - i).toNat) H1
def ForE (K : PySem.W.Frag) (g : TG) (tb : TS) (D : Ends) (σ : L2.St) (vs : List V) (H1 : Hp) : Prop := ∃ a xs, vs = [.ref a] ∧ SqL K H1 a xs ∧ ForJ g tb D σ (Ite K a) H1
def ForZ (K : PySem.W.Frag) (g : TG) (tb : TS) (D : Ends) (σ : L2.St) (vs : List V) (H1 : Hp) : Prop := ∃ a b xs ys, vs = [.ref a, .ref b] ∧ SqL K H1 a xs ∧ SqL K H1 b ys ∧ ForJ g tb D σ (Itz K a b) H1
def ForS (g : TG) (tb : TS) (D : Ends) (σ : L2.St) (v : V) (H1 : Hp) : Prop := ∃ x, v = .str x ∧ ForJ g tb D σ (Its x) H1
theorem s_forL (q : tl σ H fun x H1 => ForL K g ts D σ x H1) : tFor (iList K tl) g ts D σ H := q
theorem s_forT (q : tl σ H fun x H1 => ForT K g ts D σ x H1) : tFor (iTup K tl) g ts D σ H := q
theorem s_forR1 {ta : TA} (q : ta σ H fun x H1 => ForR1 g ts D σ x H1) : tFor (iRng1 ta) g ts D σ H := q
theorem s_forR2 {ta : TA} (q : ta σ H fun x H1 => ForR2 g ts D σ x H1) : tFor (iRng2 ta) g ts D σ H := q
theorem s_forE {ta : TA} (q : ta σ H fun x H1 => ForE K g ts D σ x H1) : tFor (iEnum K ta) g ts D σ H := q
theorem s_forZ {ta : TA} (q : ta σ H fun x H1 => ForZ K g ts D σ x H1) : tFor (iZip K ta) g ts D σ H := q
theorem s_forS (q : te σ H fun x H1 => ForS g ts D σ x H1) : tFor (iStr te) g ts D σ H := q
theorem u_forL {a : Addr} {xs : List V} (Pv : Nat → L2.St → Hp → Prop) (h : SqL K H a xs) (h0 : Pv 0 σ H) (hl : ∀ i σ H, i ≤ xs.length → Pv i σ H → SqL K H a xs)
    (hs : ∀ i x σ H, xs[i]? = some x → Pv i σ H → g x σ H fun σ2 H2 => ts { D with nx := Pv (i + 1), ct := Pv (i + 1), bk := D.nx } σ2 H2) (hd : ∀ σ H, Pv xs.length σ H → D.nx σ H) : ForL K g ts D σ (.ref a) H :=
  ⟨a, rfl, ⟨xs, h⟩, for_list Pv h0 hl hs hd⟩
theorem u_forT {a : Addr} {xs : List V} (Pv : Nat → L2.St → Hp → Prop) (h : SqT K H a xs) (h0 : Pv 0 σ H) (hl : ∀ i σ H, i ≤ xs.length → Pv i σ H → SqT K H a xs)
    (hs : ∀ i x σ H, xs[i]? = some x → Pv i σ H → g x σ H fun σ2 H2 => ts { D with nx := Pv (i + 1), ct := Pv (i + 1), bk := D.nx } σ2 H2) (hd : ∀ σ H, Pv xs.length σ H → D.nx σ H) : ForT K g ts D σ (.ref a) H :=
  ⟨a, rfl, ⟨xs, h⟩, for_tup Pv h0 hl hs hd⟩
theorem u_forR1 {n : Int} (Pv : Nat → L2.St → Hp → Prop) (hn : -1000000000000 ≤ n ∧ n ≤ 1000000000000) (h0 : Pv 0 σ H)
    (hs : ∀ (i : Nat) σ H, (i : Int) < n → Pv i σ H → g (.int (i : Int)) σ H fun σ2 H2 => ts { D with nx := Pv (i + 1), ct := Pv (i + 1), bk := D.nx } σ2 H2) (hd : ∀ σ H, Pv n.toNat σ H → D.nx σ H) : ForR1 g ts D σ [.int n] H := by
  have e62 : (2 : Int) ^ 62 = 4611686018427387904 := by decide
  refine ⟨n, rfl, by omega, by omega, for_range (lo := 0) (n := n.toNat) Pv h0 (fun i σ H hi p => ?_) hd⟩
  have e : (0 : Int) + (i : Int) = (i : Int) := Int.zero_add _
  rw [e]
  exact hs i σ H (by omega) p
theorem u_forR2 {lo n : Int} (Pv : Nat → L2.St → Hp → Prop) (hn : -1000000000000 ≤ lo ∧ lo ≤ 1000000000000 ∧ -1000000000000 ≤ n ∧ n ≤ 1000000000000) (h0 : Pv 0 σ H)
    (hs : ∀ (i : Nat) σ H, lo + (i : Int) < n → Pv i σ H → g (.int (lo + (i : Int))) σ H fun σ2 H2 => ts { D with nx := Pv (i + 1), ct := Pv (i + 1), bk := D.nx } σ2 H2) (hd : ∀ σ H, Pv (n - lo).toNat σ H → D.nx σ H) : ForR2 g ts D σ [.int lo, .int n] H := by
  have e62 : (2 : Int) ^ 62 = 4611686018427387904 := by decide
  exact ⟨lo, n, rfl, ⟨by omega, by omega, by omega, by omega⟩, for_range (lo := lo) (n := (n - lo).toNat) Pv h0 (fun i σ H hi p => hs i σ H (by omega) p) hd⟩
theorem u_while {c : TT} (Pv : Nat → L2.St → Hp → Prop) (m0 : Nat) (h0 : Pv m0 σ H)
    (hs : ∀ m σ H, Pv m σ H → c σ H fun b H1 => if b = true then ∃ N : L2.St → Hp → Prop, (∀ σ' H', N σ' H' → ∃ m', m' < m ∧ Pv m' σ' H') ∧ ts { D with nx := N, ct := N, bk := D.nx } σ H1 else D.nx σ H1) : tWhile c ts D σ H := ⟨Pv, ⟨m0, h0⟩, hs⟩
theorem w_body {m : Nat} {Pv : Nat → L2.St → Hp → Prop} {rt : VK} {bk : L2.St → Hp → Prop} (q : ts ⟨fun σ' H' => ∃ m', m' < m ∧ Pv m' σ' H', rt, bk, fun σ' H' => ∃ m', m' < m ∧ Pv m' σ' H'⟩ σ H) :
    ∃ N : L2.St → Hp → Prop, (∀ σ' H', N σ' H' → ∃ m', m' < m ∧ Pv m' σ' H') ∧ ts ⟨N, rt, bk, N⟩ σ H := ⟨_, fun _ _ h => h, q⟩
/-! comprehensions -/
def LcJ (g : TG) (tt : TT) (te : TE) (vs : List Nat) (σ : L2.St) (J : It) (H1 : Hp) (Q : VK) : Prop := tLc (fun _ H R => R J H) g tt te vs σ H1 Q
def LcL (K : PySem.W.Frag) (g : TG) (tt : TT) (te : TE) (vs : List Nat) (σ : L2.St) (x : V) (H1 : Hp) (Q : VK) : Prop := ∃ a, x = .ref a ∧ (∃ xs, SqL K H1 a xs) ∧ LcJ g tt te vs σ (Itl K a) H1 Q
def LcT (K : PySem.W.Frag) (g : TG) (tt : TT) (te : TE) (vs : List Nat) (σ : L2.St) (x : V) (H1 : Hp) (Q : VK) : Prop := ∃ a, x = .ref a ∧ (∃ xs, SqT K H1 a xs) ∧ LcJ g tt te vs σ (Itt K a) H1 Q
def LcR1 (g : TG) (tt : TT) (te : TE) (vs : List Nat) (σ : L2.St) (x : List V) (H1 : Hp) (Q : VK) : Prop := ∃ j : Int, x = [.int j] ∧ -(2 ^ 62) ≤ j ∧ j < 2 ^ 62 ∧ LcJ g tt te vs σ (Itr 0 j.toNat) H1 Q
def LcR2 (g : TG) (tt : TT) (te : TE) (vs : List Nat) (σ : L2.St) (x : List V) (H1 : Hp) (Q : VK) : Prop := ∃ i j : Int, x = [.int i, .int j] ∧ (-(2 ^ 62) ≤ i ∧ i < 2 ^ 62 ∧ -(2 ^ 62) ≤ j ∧ j < 2 ^ 62) ∧ LcJ g tt te vs σ (Itr i (j - i).toNat) H1 Q
def LcE (K : PySem.W.Frag) (g : TG) (tt : TT) (te : TE) (vs : List Nat) (σ : L2.St) (x : List V) (H1 : Hp) (Q : VK) : Prop := ∃ a xs, x = [.ref a] ∧ SqL K H1 a xs ∧ LcJ g tt te vs σ (Ite K a) H1 Q
def LcZ (K : PySem.W.Frag) (g : TG) (tt : TT) (te : TE) (vs : List Nat) (σ : L2.St) (x : List V) (H1 : Hp) (Q : VK) : Prop := ∃ a b xs ys, x = [.ref a, .ref b] ∧ SqL K H1 a xs ∧ SqL K H1 b ys ∧ LcJ g tt te vs σ (Itz K a b) H1 Q
theorem s_lcL (q : tl σ H fun x H1 => LcL K g tt te vs σ x H1 Q) : tLc (iList K tl) g tt te vs σ H Q := q
theorem s_lcT (q : tl σ H fun x H1 => LcT K g tt te vs σ x H1 Q) : tLc (iTup K tl) g tt te vs σ H Q := q
theorem s_lcR1 {ta : TA} (q : ta σ H fun x H1 => LcR1 g tt te vs σ x H1 Q) : tLc (iRng1 ta) g tt te vs σ H Q := q
theorem s_lcR2 {ta : TA} (q : ta σ H fun x H1 => LcR2 g tt te vs σ x H1 Q) : tLc (iRng2 ta) g tt te vs σ H Q := q
theorem s_lcE {ta : TA} (q : ta σ H fun x H1 => LcE K g tt te vs σ x H1 Q) : tLc (iEnum K ta) g tt te vs σ H Q := q
theorem s_lcZ {ta : TA} (q : ta σ H fun x H1 => LcZ K g tt te vs σ x H1 Q) : tLc (iZip K ta) g tt te vs σ H Q := q
/-- the turns of a comprehension: what is kept stands in the relation R to its item; R is told at any heap that has all but the list that is made -/
theorem lc_turns {α : Type} {J : It} (l : List α) (p : α → Bool) (R : α → V → Hp → Prop) (mono : ∀ x y H1 H2, Ex H1 H2 → R x y H1 → R x y H2) (hz : l.length ≤ 40000)
    (hgo : ∀ i H', i < l.length → Ex H H' → J.go i H') (hst : ∀ H', Ex H H' → J.stop l.length H')
    (turn : ∀ D, H D = none → ∀ (i : Nat) x, l[i]? = some x → ∀ v H0 H', Ex H H0 → (∃ o, H0 D = some o) → J.yld i H0 v H' → Ex H0 H' ∧
      ∀ (A : VK) (B : Hp → Prop), (p x = true → ∀ y H4, Ex H' H4 → (∀ Z, ExM D H4 Z → Ex H Z → R x y Z) → A y H4) → (p x = false → ∀ H3, Ex H' H3 → B H3) →
        g v (wipe σ vs) H' fun σ2 H2 => wipe σ2 vs = wipe σ vs ∧ tt σ2 H2 fun b H3 => if b = true then te σ2 H3 A else B H3)
    (fin : ∀ D H' ys, H D = none → Ex H H' → H' D = some (.lst ys) → Paired (fun x y => R x y H') (l.filter p) ys → Q (.ref D) H') : LcJ g tt te vs σ J H Q := by
  intro D hD
  refine ⟨fun i m H' => m = l.length - i ∧ i ≤ l.length ∧ Ex H H' ∧ ∃ ys, H' D = some (.lst ys) ∧ ys.length ≤ i ∧ ∃ Z, Z D = none ∧ Ex Z H' ∧ ExM D H' Z ∧ Paired (fun x y => R x y Z) ((l.take i).filter p) ys,
    ⟨l.length, by omega, by omega, Ex.new hD, [], upd_same, Nat.le_refl _, H, hD, Ex.new hD, fun b o n e => by rw [upd_ne n] at e; exact e, .nil⟩, ?_⟩
  rintro i m H' ⟨rfl, hi, e, ys, hys, hly, Z, zD, zE, zM, pr⟩
  by_cases hlt : i < l.length
  · refine .inr ⟨hgo i H' hlt e, fun H'' => i + 1 ≤ l.length ∧ Ex H H'' ∧ ∃ ys, H'' D = some (.lst ys) ∧ ys.length ≤ i + 1 ∧ ∃ Z, Z D = none ∧ Ex Z H'' ∧ ExM D H'' Z ∧ Paired (fun x y => R x y Z) ((l.take (i + 1)).filter p) ys,
      fun H'' q => ⟨l.length - (i + 1), by omega, rfl, q⟩, fun v H2 hy => ?_⟩
    have ei : l[i]? = some l[i] := List.getElem?_eq_getElem hlt
    have e1 : l.take (i + 1) = l.take i ++ [l[i]] := by rw [List.take_add_one, ei]; rfl
    obtain ⟨ey, tn⟩ := turn D hD i _ ei v H' H2 e ⟨_, hys⟩ hy
    refine tn _ _ (fun hp y H4 e4 r => ?_) (fun hp H3 e3 => ?_)
    · have e5 := ey.trans e4
      have eD : Ex H (upd H4 D (.lst (ys ++ [y]))) := (e.trans e5).mut hD
      let Z4 : Hp := fun b => if b = D then none else H4 b
      have k1 : Z4 D = none := if_pos rfl
      have k2 : ExM D H4 Z4 := fun b o n q => by
        show (if b = D then none else H4 b) = some o
        rw [if_neg n]
        exact q
      have k3 : Ex Z Z4 := fun b o q => k2 b o (ne_of_none q zD) (e5 _ _ (zE b o q))
      have k4 : Ex H Z4 := fun b o q => k2 b o (ne_of_none q hD) (e5 _ _ (e b o q))
      refine ⟨ys, e5 _ _ hys, sz_lt (by omega), by omega, eD, _, upd_same, by rw [List.length_append]; show _ + 1 ≤ _; omega, Z4, k1, fun b o q => ?_, fun b o n q => ?_, ?_⟩
      · have nb : b ≠ D := ne_of_none q k1
        rw [upd_ne nb]
        have q' : (if b = D then none else H4 b) = some o := q
        rw [if_neg nb] at q'
        exact q'
      · rw [upd_ne n] at q
        exact k2 b o n q
      · rw [e1, List.filter_append, List.filter_cons, if_pos hp]
        exact Paired.snoc (Paired.mapP pr fun a b r => mono a b _ _ k3 r) (r Z4 k2 k4)
    · refine ⟨by omega, e.trans (ey.trans e3), ys, (ey.trans e3) _ _ hys, by omega, ?_⟩
      let Z4 : Hp := fun b => if b = D then none else H3 b
      have k1 : Z4 D = none := if_pos rfl
      have k2 : ExM D H3 Z4 := fun b o n q => by
        show (if b = D then none else H3 b) = some o
        rw [if_neg n]
        exact q
      have k3 : Ex Z Z4 := fun b o q => k2 b o (ne_of_none q zD) ((ey.trans e3) _ _ (zE b o q))
      refine ⟨Z4, k1, fun b o q => ?_, k2, ?_⟩
      · have nb : b ≠ D := ne_of_none q k1
        have q' : (if b = D then none else H3 b) = some o := q
        rw [if_neg nb] at q'
        exact q'
      · rw [e1, List.filter_append, List.filter_cons, if_neg (by rw [hp]; exact Bool.false_ne_true)]
        show Paired _ (_ ++ []) _
        rw [List.append_nil]
        exact Paired.mapP pr fun a b r => mono a b _ _ k3 r
  · have ei : i = l.length := by omega
    subst ei
    rw [List.take_length] at pr
    exact .inl ⟨hst H' e, fin D H' ys hD e hys (Paired.mapP pr fun a b r => mono a b _ _ zE r)⟩
theorem pair_map {α β : Type} {F : α → β} : ∀ {l : List α} {ys : List β}, Paired (fun x y => y = F x) l ys → ys = l.map F
  | _, _, .nil => rfl
  | _, _, .cons h t => by rw [h, pair_map t]; rfl
/-- values of a pure element over a list: they hang on the item alone -/
theorem u_lcL {α : Type} {a : Addr} (em : α → V) (l : List α) (p : α → Bool) (F : α → V) (hS : SqL K H a (l.map em)) (hz : l.length ≤ 40000)
    (turn : ∀ x ∈ l, ∀ H', Ex H H' → ∀ (A : VK) (B : Hp → Prop), (p x = true → ∀ H4, Ex H' H4 → A (F x) H4) → (p x = false → ∀ H3, Ex H' H3 → B H3) →
      g (em x) (wipe σ vs) H' fun σ2 H2 => wipe σ2 vs = wipe σ vs ∧ tt σ2 H2 fun b H3 => if b = true then te σ2 H3 A else B H3)
    (fin : ∀ D H', H D = none → Ex H H' → H' D = some (.lst ((l.filter p).map F)) → Q (.ref D) H') : LcL K g tt te vs σ (.ref a) H Q := by
  refine ⟨a, rfl, ⟨_, hS⟩, lc_turns l p (fun x y _ => y = F x) (fun _ _ _ _ _ r => r) hz (fun i H' hi e => ⟨_, em l[i], e.sq hS, by rw [List.getElem?_map, List.getElem?_eq_getElem hi]; rfl⟩) (fun H' e => ⟨_, e.sq hS, by rw [List.length_map]; exact Nat.le_refl _⟩)
    (fun D hD i x hx v H0 H' e _ hy => ?_) (fun D H' ys hD e h pr => fin D H' hD e (by rw [h, pair_map pr]))⟩
  obtain ⟨rfl, fv⟩ := hy
  have ev : v = em x := by
    have q := fv _ (e.sq hS)
    rw [List.getElem?_map, hx] at q
    exact (Option.some.inj q).symm
  subst ev
  exact ⟨Ex.refl _, fun A B h1 h2 => turn x (List.mem_of_getElem? hx) _ e A B (fun hp H4 e4 => h1 hp _ H4 e4 fun _ _ _ => rfl) h2⟩
/-- .. the kept ones stand in a relation to their items -/
theorem u_lcLR {α : Type} {a : Addr} (em : α → V) (l : List α) (p : α → Bool) (R : α → V → Hp → Prop) (mono : ∀ x y H1 H2, Ex H1 H2 → R x y H1 → R x y H2) (hS : SqL K H a (l.map em)) (hz : l.length ≤ 40000)
    (turn : ∀ D, H D = none → ∀ x ∈ l, ∀ H', Ex H H' → (∃ o, H' D = some o) → ∀ (A : VK) (B : Hp → Prop), (p x = true → ∀ y H4, Ex H' H4 → (∀ Z, ExM D H4 Z → Ex H Z → R x y Z) → A y H4) → (p x = false → ∀ H3, Ex H' H3 → B H3) →
      g (em x) (wipe σ vs) H' fun σ2 H2 => wipe σ2 vs = wipe σ vs ∧ tt σ2 H2 fun b H3 => if b = true then te σ2 H3 A else B H3)
    (fin : ∀ D H' ys, H D = none → Ex H H' → H' D = some (.lst ys) → Paired (fun x y => R x y H') (l.filter p) ys → Q (.ref D) H') : LcL K g tt te vs σ (.ref a) H Q := by
  refine ⟨a, rfl, ⟨_, hS⟩, lc_turns l p R mono hz (fun i H' hi e => ⟨_, em l[i], e.sq hS, by rw [List.getElem?_map, List.getElem?_eq_getElem hi]; rfl⟩) (fun H' e => ⟨_, e.sq hS, by rw [List.length_map]; exact Nat.le_refl _⟩)
    (fun D hD i x hx v H0 H' e eD hy => ?_) fin⟩
  obtain ⟨rfl, fv⟩ := hy
  have ev : v = em x := by
    have q := fv _ (e.sq hS)
    rw [List.getElem?_map, hx] at q
    exact (Option.some.inj q).symm
  subst ev
  exact ⟨Ex.refl _, fun A B h1 h2 => turn D hD x (List.mem_of_getElem? hx) _ e eD A B h1 h2⟩
/-- .. over a range -/
theorem u_lcJR {lo : Int} {n : Nat} (p : Nat → Bool) (F : Nat → V) (hz : n ≤ 40000)
    (turn : ∀ (i : Nat), i < n → ∀ H', Ex H H' → ∀ (A : VK) (B : Hp → Prop), (p i = true → ∀ H4, Ex H' H4 → A (F i) H4) → (p i = false → ∀ H3, Ex H' H3 → B H3) →
      g (.int (lo + (i : Int))) (wipe σ vs) H' fun σ2 H2 => wipe σ2 vs = wipe σ vs ∧ tt σ2 H2 fun b H3 => if b = true then te σ2 H3 A else B H3)
    (fin : ∀ D H', H D = none → Ex H H' → H' D = some (.lst (((List.range n).filter p).map F)) → Q (.ref D) H') : LcJ g tt te vs σ (Itr lo n) H Q := by
  refine lc_turns (List.range n) p (fun x y _ => y = F x) (fun _ _ _ _ _ r => r) (by rw [List.length_range]; exact hz) (fun i H' hi e => by rw [List.length_range] at hi; exact hi) (fun H' e => by rw [List.length_range]; exact Nat.le_refl n)
    (fun D hD i x hx v H0 H' e _ hy => ?_) (fun D H' ys hD e h pr => fin D H' hD e (by rw [h, pair_map pr]))
  obtain ⟨rfl, rfl⟩ := hy
  have hi : i < n := by
    have := (List.getElem?_eq_some_iff.mp hx).1
    rw [List.length_range] at this
    exact this
  have ex : x = i := by
    rw [List.getElem?_range hi] at hx
    exact (Option.some.inj hx).symm
  subst ex
  exact ⟨Ex.refl _, fun A B h1 h2 => turn x hi _ e A B (fun hp H4 e4 => h1 hp _ H4 e4 fun _ _ _ => rfl) h2⟩
theorem u_lcJRR {lo : Int} {n : Nat} (p : Nat → Bool) (R : Nat → V → Hp → Prop) (mono : ∀ x y H1 H2, Ex H1 H2 → R x y H1 → R x y H2) (hz : n ≤ 40000)
    (turn : ∀ D, H D = none → ∀ (i : Nat), i < n → ∀ H', Ex H H' → (∃ o, H' D = some o) → ∀ (A : VK) (B : Hp → Prop), (p i = true → ∀ y H4, Ex H' H4 → (∀ Z, ExM D H4 Z → Ex H Z → R i y Z) → A y H4) → (p i = false → ∀ H3, Ex H' H3 → B H3) →
      g (.int (lo + (i : Int))) (wipe σ vs) H' fun σ2 H2 => wipe σ2 vs = wipe σ vs ∧ tt σ2 H2 fun b H3 => if b = true then te σ2 H3 A else B H3)
    (fin : ∀ D H' ys, H D = none → Ex H H' → H' D = some (.lst ys) → Paired (fun x y => R x y H') ((List.range n).filter p) ys → Q (.ref D) H') : LcJ g tt te vs σ (Itr lo n) H Q := by
  refine lc_turns (List.range n) p R mono (by rw [List.length_range]; exact hz) (fun i H' hi e => by rw [List.length_range] at hi; exact hi) (fun H' e => by rw [List.length_range]; exact Nat.le_refl n)
    (fun D hD i x hx v H0 H' e eD hy => ?_) fin
  obtain ⟨rfl, rfl⟩ := hy
  have hi : i < n := by
    have := (List.getElem?_eq_some_iff.mp hx).1
    rw [List.length_range] at this
    exact this
  have ex : x = i := by
    rw [List.getElem?_range hi] at hx
    exact (Option.some.inj hx).symm
  subst ex
  exact ⟨Ex.refl _, fun A B h1 h2 => turn D hD x hi _ e eD A B h1 h2⟩
theorem filter_yes {α : Type} : ∀ l : List α, l.filter (fun _ => true) = l
  | [] => rfl
  | x :: l => by rw [List.filter_cons, if_pos rfl, filter_yes l]
/-- .. without a test -/
theorem u_mapL {α : Type} {a : Addr} (em : α → V) (l : List α) (F : α → V) (hS : SqL K H a (l.map em)) (hz : l.length ≤ 40000)
    (turn : ∀ x ∈ l, ∀ H', Ex H H' → ∀ A : VK, (∀ H4, Ex H' H4 → A (F x) H4) → g (em x) (wipe σ vs) H' fun σ2 H2 => wipe σ2 vs = wipe σ vs ∧ te σ2 H2 A)
    (fin : ∀ D H', H D = none → Ex H H' → H' D = some (.lst (l.map F)) → Q (.ref D) H') : LcL K g tYes te vs σ (.ref a) H Q :=
  u_lcL em l (fun _ => true) F hS hz (fun x hx H' e A B h1 _ => by
    have e2 : (fun (σ2 : L2.St) H2 => wipe σ2 vs = wipe σ vs ∧ tYes σ2 H2 fun b H3 => if b = true then te σ2 H3 A else B H3) = fun σ2 H2 => wipe σ2 vs = wipe σ vs ∧ te σ2 H2 A := by
      funext σ2 H2
      show (_ ∧ if true = true then te σ2 H2 A else B H2) = _
      rw [if_pos rfl]
    rw [e2]
    exact turn x hx H' e A (h1 rfl)) (by rw [filter_yes]; exact fin)
theorem u_lcR1 {n : Int} (p : Nat → Bool) (F : Nat → V) (hz : 0 ≤ n ∧ n ≤ 40000)
    (turn : ∀ (i : Nat), (i : Int) < n → ∀ H', Ex H H' → ∀ (A : VK) (B : Hp → Prop), (p i = true → ∀ H4, Ex H' H4 → A (F i) H4) → (p i = false → ∀ H3, Ex H' H3 → B H3) →
      g (.int (i : Int)) (wipe σ vs) H' fun σ2 H2 => wipe σ2 vs = wipe σ vs ∧ tt σ2 H2 fun b H3 => if b = true then te σ2 H3 A else B H3)
    (fin : ∀ D H', H D = none → Ex H H' → H' D = some (.lst (((List.range n.toNat).filter p).map F)) → Q (.ref D) H') : LcR1 g tt te vs σ [.int n] H Q := by
  have e62 : (2 : Int) ^ 62 = 4611686018427387904 := by decide
  refine ⟨n, rfl, by omega, by omega, u_lcJR p F (by omega) (fun i hi H' e A B h1 h2 => ?_) fin⟩
  have e0 : (0 : Int) + (i : Int) = (i : Int) := Int.zero_add _
  rw [e0]
  exact turn i (by omega) H' e A B h1 h2
theorem u_lcR1R {n : Int} (p : Nat → Bool) (R : Nat → V → Hp → Prop) (mono : ∀ x y H1 H2, Ex H1 H2 → R x y H1 → R x y H2) (hz : 0 ≤ n ∧ n ≤ 40000)
    (turn : ∀ D, H D = none → ∀ (i : Nat), (i : Int) < n → ∀ H', Ex H H' → (∃ o, H' D = some o) → ∀ (A : VK) (B : Hp → Prop), (p i = true → ∀ y H4, Ex H' H4 → (∀ Z, ExM D H4 Z → Ex H Z → R i y Z) → A y H4) → (p i = false → ∀ H3, Ex H' H3 → B H3) →
      g (.int (i : Int)) (wipe σ vs) H' fun σ2 H2 => wipe σ2 vs = wipe σ vs ∧ tt σ2 H2 fun b H3 => if b = true then te σ2 H3 A else B H3)
    (fin : ∀ D H' ys, H D = none → Ex H H' → H' D = some (.lst ys) → Paired (fun x y => R x y H') ((List.range n.toNat).filter p) ys → Q (.ref D) H') : LcR1 g tt te vs σ [.int n] H Q := by
  have e62 : (2 : Int) ^ 62 = 4611686018427387904 := by decide
  refine ⟨n, rfl, by omega, by omega, u_lcJRR p R mono (by omega) (fun D hD i hi H' e eD A B h1 h2 => ?_) fin⟩
  have e0 : (0 : Int) + (i : Int) = (i : Int) := Int.zero_add _
  rw [e0]
  exact turn D hD i (by omega) H' e eD A B h1 h2
theorem u_mapR1 {n : Int} (F : Nat → V) (hz : 0 ≤ n ∧ n ≤ 40000)
    (turn : ∀ (i : Nat), (i : Int) < n → ∀ H', Ex H H' → ∀ A : VK, (∀ H4, Ex H' H4 → A (F i) H4) → g (.int (i : Int)) (wipe σ vs) H' fun σ2 H2 => wipe σ2 vs = wipe σ vs ∧ te σ2 H2 A)
    (fin : ∀ D H', H D = none → Ex H H' → H' D = some (.lst ((List.range n.toNat).map F)) → Q (.ref D) H') : LcR1 g tYes te vs σ [.int n] H Q :=
  u_lcR1 (fun _ => true) F hz (fun x hx H' e A B h1 _ => by
    have e2 : (fun (σ2 : L2.St) H2 => wipe σ2 vs = wipe σ vs ∧ tYes σ2 H2 fun b H3 => if b = true then te σ2 H3 A else B H3) = fun σ2 H2 => wipe σ2 vs = wipe σ vs ∧ te σ2 H2 A := by
      funext σ2 H2
      show (_ ∧ if true = true then te σ2 H2 A else B H2) = _
      rw [if_pos rfl]
    rw [e2]
    exact turn x hx H' e A (h1 rfl)) (by rw [filter_yes]; exact fin)
theorem u_mapR1I {n : Int} (f : Nat → Int) (hz : 0 ≤ n ∧ n ≤ 40000)
    (turn : ∀ (i : Nat), (i : Int) < n → ∀ H', Ex H H' → ∀ A : VK, (∀ H4, Ex H' H4 → A (.int (f i)) H4) → g (.int (i : Int)) (wipe σ vs) H' fun σ2 H2 => wipe σ2 vs = wipe σ vs ∧ te σ2 H2 A)
    (fin : ∀ D H', H D = none → Ex H H' → H' D = some (.lst (((List.range n.toNat).map f).map V.int)) → Q (.ref D) H') : LcR1 g tYes te vs σ [.int n] H Q :=
  u_mapR1 (fun i => .int (f i)) hz turn fun D H' h1 h2 h3 => fin D H' h1 h2 (by rw [h3, List.map_map]; rfl)
theorem u_mapLI {α : Type} {a : Addr} (em : α → V) (l : List α) (f : α → Int) (hS : SqL K H a (l.map em)) (hz : l.length ≤ 40000)
    (turn : ∀ x ∈ l, ∀ H', Ex H H' → ∀ A : VK, (∀ H4, Ex H' H4 → A (.int (f x)) H4) → g (em x) (wipe σ vs) H' fun σ2 H2 => wipe σ2 vs = wipe σ vs ∧ te σ2 H2 A)
    (fin : ∀ D H', H D = none → Ex H H' → H' D = some (.lst ((l.map f).map V.int)) → Q (.ref D) H') : LcL K g tYes te vs σ (.ref a) H Q :=
  u_mapL em l (fun x => .int (f x)) hS hz turn fun D H' h1 h2 h3 => fin D H' h1 h2 (by rw [h3, List.map_map]; rfl)
theorem u_mapLB {α : Type} {a : Addr} (em : α → V) (l : List α) (f : α → Bool) (hS : SqL K H a (l.map em)) (hz : l.length ≤ 40000)
    (turn : ∀ x ∈ l, ∀ H', Ex H H' → ∀ A : VK, (∀ H4, Ex H' H4 → A (.bl (f x)) H4) → g (em x) (wipe σ vs) H' fun σ2 H2 => wipe σ2 vs = wipe σ vs ∧ te σ2 H2 A)
    (fin : ∀ D H', H D = none → Ex H H' → H' D = some (.lst ((l.map f).map V.bl)) → Q (.ref D) H') : LcL K g tYes te vs σ (.ref a) H Q :=
  u_mapL em l (fun x => .bl (f x)) hS hz turn fun D H' h1 h2 h3 => fin D H' h1 h2 (by rw [h3, List.map_map]; rfl)
/-- .. over a tuple -/
theorem u_mapT {α : Type} {a : Addr} (em : α → V) (l : List α) (F : α → V) (hS : SqT K H a (l.map em)) (hz : l.length ≤ 40000)
    (turn : ∀ x ∈ l, ∀ H', Ex H H' → ∀ A : VK, (∀ H4, Ex H' H4 → A (F x) H4) → g (em x) (wipe σ vs) H' fun σ2 H2 => wipe σ2 vs = wipe σ vs ∧ te σ2 H2 A)
    (fin : ∀ D H', H D = none → Ex H H' → H' D = some (.lst (l.map F)) → Q (.ref D) H') : LcT K g tYes te vs σ (.ref a) H Q := by
  refine ⟨a, rfl, ⟨_, hS⟩, lc_turns l (fun _ => true) (fun x y _ => y = F x) (fun _ _ _ _ _ r => r) hz (fun i H' hi e => ⟨_, em l[i], e.st hS, by rw [List.getElem?_map, List.getElem?_eq_getElem hi]; rfl⟩) (fun H' e => ⟨_, e.st hS, by rw [List.length_map]; exact Nat.le_refl _⟩)
    (fun D hD i x hx v H0 H' e _ hy => ?_) (fun D H' ys hD e h pr => fin D H' hD e (by rw [h, pair_map pr, filter_yes]))⟩
  obtain ⟨rfl, fv⟩ := hy
  have ev : v = em x := by
    have q := fv _ (e.st hS)
    rw [List.getElem?_map, hx] at q
    exact (Option.some.inj q).symm
  subst ev
  refine ⟨Ex.refl _, fun A B h1 h2 => ?_⟩
  have e2 : (fun (σ2 : L2.St) H2 => wipe σ2 vs = wipe σ vs ∧ tYes σ2 H2 fun b H3 => if b = true then te σ2 H3 A else B H3) = fun σ2 H2 => wipe σ2 vs = wipe σ vs ∧ te σ2 H2 A := by
    funext σ2 H2
    show (_ ∧ if true = true then te σ2 H2 A else B H2) = _
    rw [if_pos rfl]
  rw [e2]
  exact turn x (List.mem_of_getElem? hx) _ e A fun H4 e4 => h1 rfl _ H4 e4 fun _ _ _ => rfl
theorem u_lcR2 {lo n : Int} (p : Nat → Bool) (F : Nat → V) (hz : -40000 ≤ lo ∧ lo ≤ 40000 ∧ n ≤ 40000 ∧ -40000 ≤ n ∧ n - lo ≤ 40000)
    (turn : ∀ (i : Nat), lo + (i : Int) < n → ∀ H', Ex H H' → ∀ (A : VK) (B : Hp → Prop), (p i = true → ∀ H4, Ex H' H4 → A (F i) H4) → (p i = false → ∀ H3, Ex H' H3 → B H3) →
      g (.int (lo + (i : Int))) (wipe σ vs) H' fun σ2 H2 => wipe σ2 vs = wipe σ vs ∧ tt σ2 H2 fun b H3 => if b = true then te σ2 H3 A else B H3)
    (fin : ∀ D H', H D = none → Ex H H' → H' D = some (.lst (((List.range (n - lo).toNat).filter p).map F)) → Q (.ref D) H') : LcR2 g tt te vs σ [.int lo, .int n] H Q := by
  have e62 : (2 : Int) ^ 62 = 4611686018427387904 := by decide
  exact ⟨lo, n, rfl, ⟨by omega, by omega, by omega, by omega⟩, u_lcJR p F (by omega) (fun i hi H' e A B h1 h2 => turn i (by omega) H' e A B h1 h2) fin⟩
end
/-! ### greatest, least, sorted -/
def maxI (l : List Int) : Int := match l with | [] => 0 | a :: t => t.foldl max a
def minI (l : List Int) : Int := match l with | [] => 0 | a :: t => t.foldl min a
theorem fold_max : ∀ (l : List Int) (a : Int), a ≤ l.foldl max a ∧ (∀ y ∈ l, y ≤ l.foldl max a) ∧ (l.foldl max a = a ∨ l.foldl max a ∈ l)
  | [], a => ⟨Int.le_refl _, fun _ h => (nomatch h), .inl rfl⟩
  | b :: l, a => by
    obtain ⟨h1, h2, h3⟩ := fold_max l (max a b)
    rw [List.foldl_cons]
    have k1 : a ≤ max a b := Int.le_max_left _ _
    have k2 : b ≤ max a b := Int.le_max_right _ _
    refine ⟨Int.le_trans k1 h1, fun y hy => ?_, ?_⟩
    · rcases List.mem_cons.mp hy with rfl | hy
      · exact Int.le_trans k2 h1
      · exact h2 y hy
    · rcases h3 with h3 | h3
      · rw [h3]
        by_cases c : a ≤ b
        · rw [Int.max_eq_right c]
          exact .inr List.mem_cons_self
        · rw [Int.max_eq_left (by omega)]
          exact .inl rfl
      · exact .inr (List.mem_cons_of_mem _ h3)
theorem fold_min : ∀ (l : List Int) (a : Int), l.foldl min a ≤ a ∧ (∀ y ∈ l, l.foldl min a ≤ y) ∧ (l.foldl min a = a ∨ l.foldl min a ∈ l)
  | [], a => ⟨Int.le_refl _, fun _ h => (nomatch h), .inl rfl⟩
  | b :: l, a => by
    obtain ⟨h1, h2, h3⟩ := fold_min l (min a b)
    rw [List.foldl_cons]
    have k1 : min a b ≤ a := Int.min_le_left _ _
    have k2 : min a b ≤ b := Int.min_le_right _ _
    refine ⟨Int.le_trans h1 k1, fun y hy => ?_, ?_⟩
    · rcases List.mem_cons.mp hy with rfl | hy
      · exact Int.le_trans h1 k2
      · exact h2 y hy
    · rcases h3 with h3 | h3
      · rw [h3]
        by_cases c : a ≤ b
        · rw [Int.min_eq_left c]
          exact .inl rfl
        · rw [Int.min_eq_right (by omega)]
          exact .inr List.mem_cons_self
      · exact .inr (List.mem_cons_of_mem _ h3)
theorem maxI_mem {l : List Int} (h : 0 < l.length) : maxI l ∈ l := by
  cases l with
  | nil => exact absurd h (Nat.lt_irrefl 0)
  | cons a t =>
    rcases (fold_max t a).2.2 with e | e
    · exact List.mem_cons.mpr (.inl e)
    · exact List.mem_cons_of_mem _ e
theorem maxI_ge {l : List Int} : ∀ y ∈ l, y ≤ maxI l := fun y hy => by
  cases l with
  | nil => exact absurd hy List.not_mem_nil
  | cons a t =>
    rcases List.mem_cons.mp hy with rfl | hy
    · exact (fold_max t y).1
    · exact (fold_max t a).2.1 y hy
theorem minI_mem {l : List Int} (h : 0 < l.length) : minI l ∈ l := by
  cases l with
  | nil => exact absurd h (Nat.lt_irrefl 0)
  | cons a t =>
    rcases (fold_min t a).2.2 with e | e
    · exact List.mem_cons.mpr (.inl e)
    · exact List.mem_cons_of_mem _ e
theorem minI_le {l : List Int} : ∀ y ∈ l, minI l ≤ y := fun y hy => by
  cases l with
  | nil => exact absurd hy List.not_mem_nil
  | cons a t =>
    rcases List.mem_cons.mp hy with rfl | hy
    · exact (fold_min t y).1
    · exact (fold_min t a).2.1 y hy
theorem maxI_of {l : List Int} {m : Int} (h : m ∈ l) (g : ∀ y ∈ l, y ≤ m) : m = maxI l := Int.le_antisymm (maxI_ge m h) (g _ (maxI_mem (List.length_pos_of_mem h)))
theorem minI_of {l : List Int} {m : Int} (h : m ∈ l) (g : ∀ y ∈ l, m ≤ y) : m = minI l := Int.le_antisymm (g _ (minI_mem (List.length_pos_of_mem h))) (minI_le m h)
def sortI (l : List Int) : List Int := l.mergeSort (fun a b => decide (a ≤ b))
theorem sortI_perm (l : List Int) : (sortI l).Perm l := List.mergeSort_perm l _
theorem sortI_sorted (l : List Int) : (sortI l).Pairwise (· ≤ ·) := (List.pairwise_mergeSort (le := fun a b : Int => decide (a ≤ b)) (fun a b c h1 h2 => decide_eq_true (Int.le_trans (of_decide_eq_true h1) (of_decide_eq_true h2))) (fun a b => by
  rcases Int.le_total a b with h | h
  · rw [decide_eq_true h]; rfl
  · rw [decide_eq_true h, Bool.or_true]) l).imp fun h => of_decide_eq_true h
theorem sortI_of {l l' : List Int} (p : l'.Perm l) (s : l'.Pairwise (· ≤ ·)) : l' = sortI l :=
  List.Perm.eq_of_pairwise (le := fun a b : Int => a ≤ b) (fun a b _ _ h1 h2 => Int.le_antisymm h1 h2) s (sortI_sorted l) (p.trans (sortI_perm l).symm)
theorem sortI_strict {l : List Int} (h : l.Nodup) : (sortI l).Pairwise (· < ·) := by
  have n : (sortI l).Pairwise (· ≠ ·) := (sortI_perm l).symm.nodup h
  exact (List.Pairwise.and (sortI_sorted l) n).imp fun ⟨a, b⟩ => by omega
theorem sortI_len (l : List Int) : (sortI l).length = l.length := (sortI_perm l).length_eq
theorem sortI_mem {l : List Int} {a : Int} : a ∈ sortI l ↔ a ∈ l := (sortI_perm l).mem_iff
/-! ### heaps as letters: the next heap, and what is known of it -/
theorem ex_ap {H H' : Hp} {a : Addr} {o : HO} (e : Ex H H') (h : H a = some o) : H' a = some o := e a o h
theorem exm_ap {H H' : Hp} {h a : Addr} {o : HO} (e : ExM h H H') (n : a ≠ h) (hh : H a = some o) : H' a = some o := e a o n hh
theorem ne_fresh {H : Hp} {a b : Addr} {o : HO} (h' : H b = none) (h : H a = some o) : a ≠ b := ne_of_none h h'
section
variable {K : PySem.W.Frag} {σ : L2.St} {H : Hp} {Q : VK} {v : V} {R : Hp → Prop}
theorem n_lst {xs : List V} (h : xs.length ≤ 100000) (q : ∀ p H', H p = none → Ex H H' → H' p = some (.lst xs) → Q (.ref p) H') : NewL xs H Q := ⟨sz_of h, fun p hp => q p _ hp (Ex.new hp) upd_same⟩
theorem n_tup {xs : List V} (h : xs.length ≤ 100000) (q : ∀ p H', H p = none → Ex H H' → H' p = some (.tup xs) → Q (.ref p) H') : NewT xs H Q := ⟨sz_of h, fun p hp => q p _ hp (Ex.new hp) upd_same⟩
theorem n_slL {a : Addr} {xs : List V} {lo hi : Option Int} (h : SqL K H a xs) (q : ∀ p H', H p = none → Ex H H' → H' p = some (.lst (cutV xs lo hi)) → Q (.ref p) H') : rSlL K (.ref a) lo hi H Q := ⟨a, xs, rfl, h, fun p hp => q p _ hp (Ex.new hp) upd_same⟩
theorem n_cat {a b : Addr} {xs ys : List V} (h1 : H a = some (.lst xs)) (h2 : H b = some (.lst ys)) (hz : xs.length + ys.length ≤ 100000) (q : ∀ p H', H p = none → Ex H H' → H' p = some (.lst (xs ++ ys)) → Q (.ref p) H') : rPlus (.ref a) (.ref b) H Q :=
  .inr (.inl ⟨a, b, xs, ys, rfl, rfl, h1, h2, sz_of hz, fun p hp => q p _ hp (Ex.new hp) upd_same⟩)
theorem n_setL {a : Addr} {xs : List V} {k : Int} {j : Nat} (h : H a = some (.lst xs)) (hk : ixN xs.length k = some j) (q : ∀ H', ExM a H H' → H' a = some (.lst (xs.set j v)) → R H') : rSetL (.ref a) (.int k) v H R := ⟨a, xs, k, j, rfl, rfl, h, hk, q _ ExM.upd upd_same⟩
def rRevL (K : PySem.W.Frag) (x : V) (H : Hp) (Q : VK) : Prop := ∃ a xs, x = .ref a ∧ SqL K H a xs ∧ ∀ p, H p = none → Q (.ref p) (upd H p (.lst xs.reverse))
theorem s_rev {te : TE} (q : te σ H fun x H1 => rRevL K x H1 Q) : tRevL K te σ H Q := q
theorem n_rev {a : Addr} {xs : List V} (h : SqL K H a xs) (q : ∀ p H', H p = none → Ex H H' → H' p = some (.lst xs.reverse) → Q (.ref p) H') : rRevL K (.ref a) H Q := ⟨a, xs, rfl, h, fun p hp => q p _ hp (Ex.new hp) upd_same⟩
theorem n_clear {a : Addr} {xs : List V} (h : H a = some (.lst xs)) (q : ∀ H', ExM a H H' → H' a = some (.lst []) → Q .non H') : rClear (.ref a) [] H Q := ⟨a, xs, rfl, rfl, h, q _ ExM.upd upd_same⟩
theorem n_reverse {a : Addr} {xs : List V} (h : H a = some (.lst xs)) (q : ∀ H', ExM a H H' → H' a = some (.lst xs.reverse) → Q .non H') : rReverse (.ref a) [] H Q := ⟨a, xs, rfl, rfl, h, q _ ExM.upd upd_same⟩
theorem s_maxL {a : Addr} {ns : List Int} (h : SqL K H a (ns.map V.int)) (hn : 0 < ns.length) (q : Q (.int (maxI ns)) H) : rMax K [.ref a] H Q := ⟨a, ns, rfl, h, hn, fun m h1 h2 => by rw [maxI_of h1 h2]; exact q⟩
theorem s_minL {a : Addr} {ns : List Int} (h : SqL K H a (ns.map V.int)) (hn : 0 < ns.length) (q : Q (.int (minI ns)) H) : rMin K [.ref a] H Q := ⟨a, ns, rfl, h, hn, fun m h1 h2 => by rw [minI_of h1 h2]; exact q⟩
theorem n_sorted {a : Addr} {ns : List Int} (h : SqL K H a (ns.map V.int)) (q : ∀ p H', H p = none → Ex H H' → H' p = some (.lst ((sortI ns).map V.int)) → Q (.ref p) H') : rSortedI K [.ref a] H Q := ⟨a, ns, rfl, h, fun ns' p h1 h2 hp => by rw [sortI_of h1 h2]; exact q p _ hp (Ex.new hp) upd_same⟩
theorem n_list {a : Addr} {xs : List V} (h : SqL K H a xs) (q : ∀ p H', H p = none → Ex H H' → H' p = some (.lst xs) → Q (.ref p) H') : rList1 K [.ref a] H Q := ⟨a, xs, rfl, .inl h, fun p hp => q p _ hp (Ex.new hp) upd_same⟩
theorem n_listT {a : Addr} {xs : List V} (h : SqT K H a xs) (q : ∀ p H', H p = none → Ex H H' → H' p = some (.lst xs) → Q (.ref p) H') : rList1 K [.ref a] H Q := ⟨a, xs, rfl, .inr h, fun p hp => q p _ hp (Ex.new hp) upd_same⟩
theorem n_app {a : Addr} {xs : List V} (h : H a = some (.lst xs)) (hz : xs.length < 100000) (q : ∀ H', ExM a H H' → H' a = some (.lst (xs ++ [v])) → Q .non H') : rAppend (.ref a) [v] H Q := ⟨a, xs, v, rfl, rfl, h, sz_lt hz, q _ ExM.upd upd_same⟩
end

/-- the cut of a list, of anything -/
def cutI {α : Type} (xs : List α) (lo hi : Option Int) : List α := (xs.drop (HT.sIx xs.length 0 lo)).take (HT.sIx xs.length xs.length hi - HT.sIx xs.length 0 lo)
theorem cutI_sub {α : Type} (xs : List α) (lo hi : Option Int) : (cutI xs lo hi).Sublist xs := (List.take_sublist _ _).trans (List.drop_sublist _ _)
theorem cutV_map {α : Type} (f : α → V) (xs : List α) (lo hi : Option Int) : cutV (xs.map f) lo hi = (cutI xs lo hi).map f := by
  unfold cutV cutI
  rw [List.length_map, ← List.map_drop, ← List.map_take]
theorem cutV_ints (xs : List Int) (lo hi : Option Int) : cutV (xs.map V.int) lo hi = (cutI xs lo hi).map V.int := cutV_map _ _ _ _
theorem cutI_to {α : Type} (xs : List α) {k : Int} (h : 0 ≤ k) : cutI xs none (some k) = xs.take k.toNat := by
  obtain ⟨n, rfl⟩ : ∃ n : Nat, k = (n : Int) := ⟨k.toNat, by omega⟩
  unfold cutI
  rw [HT.sIx_none, HT.sIx_nat, List.drop_zero, Nat.sub_zero, Int.toNat_natCast, List.take_eq_take_iff]
  omega
theorem cutI_from {α : Type} (xs : List α) {k : Int} (h : 0 ≤ k) : cutI xs (some k) none = xs.drop k.toNat := by
  obtain ⟨n, rfl⟩ : ∃ n : Nat, k = (n : Int) := ⟨k.toNat, by omega⟩
  unfold cutI
  rw [HT.sIx_none, HT.sIx_nat, Int.toNat_natCast]
  by_cases hn : n ≤ xs.length
  · rw [Nat.min_eq_left hn, List.take_of_length_le (by rw [List.length_drop]; exact Nat.le_refl _)]
  · rw [Nat.min_eq_right (by omega), Nat.sub_self, List.take_zero, List.drop_of_length_le (by omega)]
theorem cutI_mid {α : Type} (xs : List α) {k m : Int} (h : 0 ≤ k) (h2 : k ≤ m) : cutI xs (some k) (some m) = (xs.drop k.toNat).take (m.toNat - k.toNat) := by
  obtain ⟨n, rfl⟩ : ∃ n : Nat, k = (n : Int) := ⟨k.toNat, by omega⟩
  obtain ⟨r, rfl⟩ : ∃ n : Nat, m = (n : Int) := ⟨m.toNat, by omega⟩
  unfold cutI
  rw [HT.sIx_nat, HT.sIx_nat, Int.toNat_natCast, Int.toNat_natCast]
  by_cases hn : n ≤ xs.length
  · rw [Nat.min_eq_left hn, List.take_eq_take_iff, List.length_drop]
    omega
  · have h3 : min n xs.length = xs.length := Nat.min_eq_right (by omega)
    rw [h3, List.drop_of_length_le (Nat.le_refl _), List.drop_of_length_le (show xs.length ≤ n by omega)]
    simp
section
variable {K : PySem.W.Frag} {H : Hp} {Q : VK} {a : Addr}
theorem first_at : ∀ {ns : List Int} {i : Int}, i ∈ ns → ∃ j : Nat, ns[j]? = some i ∧ ∀ m, m < j → ns[m]? ≠ some i
  | [], i, h => nomatch h
  | n :: ns, i, h => by
    by_cases c : n = i
    · subst c
      exact ⟨0, rfl, fun m hm => absurd hm (Nat.not_lt_zero m)⟩
    · have h' : i ∈ ns := by
        rcases List.mem_cons.mp h with h | h
        · exact absurd h.symm c
        · exact h
      obtain ⟨j, e, f⟩ := first_at h'
      refine ⟨j + 1, e, fun m hm => ?_⟩
      cases m with
      | zero => exact fun z => c (Option.some.inj z)
      | succ m => exact f m (by omega)
theorem s_index {ns : List Int} {i : Int} (h : SqL K H a (ns.map V.int)) (hm : i ∈ ns) (q : ∀ j : Nat, ns[j]? = some i → (∀ m, m < j → ns[m]? ≠ some i) → Q (.int (j : Int)) H) : rIndex K (.ref a) [.int i] H Q := by
  obtain ⟨j, e, f⟩ := first_at hm
  refine ⟨a, _, .int i, j, .int i, rfl, rfl, h, rfl, List.all_eq_true.mpr (fun x hx => ?_), by rw [List.getElem?_map, e]; rfl, ?_, fun m z hm2 hz => ?_, q j e f⟩
  · obtain ⟨n, _, rfl⟩ := List.mem_map.mp hx
    rfl
  · show (i == i) = true
    exact beq_self_eq_true i
  · rw [List.getElem?_map] at hz
    cases e2 : ns[m]? with
    | none => rw [e2] at hz; cases hz
    | some k =>
      rw [e2] at hz
      cases hz
      show (k == i) = false
      rw [beq_eq_false_iff_ne]
      exact fun z => f m hm2 (by rw [e2, z])
theorem s_sum {ns : List Int} (h : SqL K H a (ns.map V.int)) (q : Q (.int ns.sum) H) : rSum K [.ref a] H Q := ⟨a, ns, rfl, h, q⟩
theorem s_all {bs : List Bool} (h : SqL K H a (bs.map V.bl)) (q : Q (.bl (bs.all id)) H) : rAll K [.ref a] H Q := ⟨a, bs, rfl, h, q⟩
theorem s_any {bs : List Bool} (h : SqL K H a (bs.map V.bl)) (q : Q (.bl (bs.any id)) H) : rAny K [.ref a] H Q := ⟨a, bs, rfl, h, q⟩
end
theorem inV_ints (i : Int) : ∀ ns : List Int, inV (.int i) (ns.map V.int) = decide (i ∈ ns)
  | [] => rfl
  | n :: ns => by
    have e : inV (.int i) ((n :: ns).map V.int) = (eqV (.int n) (.int i) || inV (.int i) (ns.map V.int)) := rfl
    have e2 : eqV (.int n) (.int i) = decide (n = i) := by
      show (n == i) = _
      exact Bool.beq_eq_decide_eq n i
    rw [e, e2, inV_ints i ns]
    by_cases h : n = i
    · subst h
      simp
    · have h' : ¬ i = n := fun z => h z.symm
      simp [h, h']
theorem flat_ints : ∀ ns : List Int, (ns.map V.int).all flatV = true
  | [] => rfl
  | n :: ns => flat_ints ns
section
variable {K : PySem.W.Frag} {H : Hp} {Q : VK} {a : Addr} {i : Int}
theorem s_inL (ns : List Int) (h : SqL K H a (ns.map V.int)) (q : Q (.bl (decide (i ∈ ns))) H) : rIn K false (.int i) (.ref a) H Q := ⟨a, _, rfl, .inl h, rfl, flat_ints ns, by
  rw [if_neg Bool.false_ne_true, inV_ints]
  exact q⟩
theorem s_inT (ns : List Int) (h : SqT K H a (ns.map V.int)) (q : Q (.bl (decide (i ∈ ns))) H) : rIn K false (.int i) (.ref a) H Q := ⟨a, _, rfl, .inr h, rfl, flat_ints ns, by
  rw [if_neg Bool.false_ne_true, inV_ints]
  exact q⟩
theorem s_niL (ns : List Int) (h : SqL K H a (ns.map V.int)) (q : Q (.bl (decide (i ∉ ns))) H) : rIn K true (.int i) (.ref a) H Q := ⟨a, _, rfl, .inl h, rfl, flat_ints ns, by
  rw [if_pos rfl, inV_ints, ← decide_not]
  exact q⟩
theorem s_niT (ns : List Int) (h : SqT K H a (ns.map V.int)) (q : Q (.bl (decide (i ∉ ns))) H) : rIn K true (.int i) (.ref a) H Q := ⟨a, _, rfl, .inr h, rfl, flat_ints ns, by
  rw [if_pos rfl, inV_ints, ← decide_not]
  exact q⟩
end
theorem rgV_at {a b : Int} {i : Nat} {x : V} (h : (rgV a b)[i]? = some x) : ∃ v, x = .int v ∧ a ≤ v ∧ v < b := by
  have hi := (List.getElem?_eq_some_iff.mp h).1
  rw [rgV_length] at hi
  unfold rgV at h
  rw [List.getElem?_map, List.getElem?_range hi] at h
  exact ⟨_, (Option.some.inj h).symm, by omega, by omega⟩
theorem cx_K {CX : CXT} {P : Program} {w : World} {K : PySem.W.Frag} {mg : Str → Option Value} {base : Heap} {N : List Str} {x : Str} {sc : Scope} {f : Addr} {cdv : Value} {A : Around} {outer : List Env} {s : Shared} {H : Hp} {E : XK} :
    (cxOf CX P w K mg base N x sc f cdv A outer s H E).nox.K = K := rfl
theorem cx_K2 {CX : CXT} {P : Program} {w : World} {K : PySem.W.Frag} {mg : Str → Option Value} {base : Heap} {N : List Str} {x : Str} {sc : Scope} {f : Addr} {cdv : Value} {A : Around} {outer : List Env} {s : Shared} {H : Hp} {E : XK} :
    (cxOf CX P w K mg base N x sc f cdv A outer s H E).K = K := rfl
/-! ### places -/
/-! ### data with types: what a value is as a thing of plain Lean -/
class Py (α : Type) where
  d : α → PyData
  dep : Nat
  depth : ∀ a, (d a).depth ≤ dep
  can : ∀ a, (d a).canLay0 = true
  eqv : ∀ a b, (PyData.eqv (d a) (d b) = true ↔ a = b)
instance : Py Int := ⟨PyData.int, 0, fun _ => Nat.le_refl _, fun _ => rfl, fun a b => by rw [PyData.eqv]; exact beq_iff_eq⟩
instance : Py Bool := ⟨PyData.bool, 0, fun _ => Nat.le_refl _, fun _ => rfl, fun a b => by rw [PyData.eqv]; exact beq_iff_eq⟩
theorem eqvAll_iff {α : Type} [Py α] : ∀ xs ys : List α, (PyData.eqvAll (xs.map Py.d) (ys.map Py.d) = true ↔ xs = ys)
  | [], [] => by simp [PyData.eqvAll]
  | [], _ :: _ => by simp [PyData.eqvAll]
  | _ :: _, [] => by simp [PyData.eqvAll]
  | x :: xs, y :: ys => by
    rw [List.map_cons, List.map_cons, PyData.eqvAll, Bool.and_eq_true, Py.eqv, eqvAll_iff xs ys, List.cons.injEq]
theorem canAll_of {α : Type} [Py α] : ∀ xs : List α, PyData.canLayAll0 (xs.map Py.d) = true
  | [] => rfl
  | x :: xs => by rw [List.map_cons, PyData.canLayAll0, Py.can, canAll_of xs]; rfl
theorem depthAll_of {α : Type} [Py α] : ∀ xs : List α, PyData.depthAll (xs.map Py.d) ≤ Py.dep α
  | [] => Nat.zero_le _
  | x :: xs => by
    rw [List.map_cons, PyData.depthAll]
    exact Nat.max_le.mpr ⟨Py.depth x, depthAll_of xs⟩
instance {α : Type} [Py α] : Py (List α) := ⟨fun xs => .list (xs.map Py.d), Py.dep α + 1, fun xs => by rw [PyData.depth]; exact Nat.succ_le_succ (depthAll_of xs), fun xs => by rw [PyData.canLay0]; exact canAll_of xs, fun a b => by rw [PyData.eqv]; exact eqvAll_iff a b⟩
instance {α β : Type} [Py α] [Py β] : Py (α × β) := ⟨fun p => .tuple [Py.d p.1, Py.d p.2], max (Py.dep α) (Py.dep β) + 1, fun p => by
    simp only [PyData.depth, PyData.depthAll]
    have h1 := Py.depth p.1
    have h2 := Py.depth p.2
    omega, fun p => by simp only [PyData.canLay0, PyData.canLayAll0, Py.can]; rfl, fun a b => by
    simp only [PyData.eqv, PyData.eqvAll, Bool.and_true, Bool.and_eq_true, Py.eqv]
    exact ⟨fun h => Prod.ext h.1 h.2, fun h => by rw [h]; exact ⟨rfl, rfl⟩⟩⟩
/-- a triple | four, as one tuple -/
structure T3 (α β γ : Type) where
  a : α
  b : β
  c : γ
  deriving DecidableEq
structure T4 (α β γ δ : Type) where
  a : α
  b : β
  c : γ
  d : δ
  deriving DecidableEq
instance {α β γ : Type} [Py α] [Py β] [Py γ] : Py (T3 α β γ) := ⟨fun p => .tuple [Py.d p.a, Py.d p.b, Py.d p.c], max (Py.dep α) (max (Py.dep β) (Py.dep γ)) + 1, fun p => by
    simp only [PyData.depth, PyData.depthAll]
    have h1 := Py.depth p.a
    have h2 := Py.depth p.b
    have h3 := Py.depth p.c
    omega, fun p => by simp only [PyData.canLay0, PyData.canLayAll0, Py.can]; rfl, fun a b => by
    obtain ⟨a1, a2, a3⟩ := a
    obtain ⟨b1, b2, b3⟩ := b
    simp only [PyData.eqv, PyData.eqvAll, Bool.and_true, Bool.and_eq_true, Py.eqv, T3.mk.injEq]⟩
instance {α β γ δ : Type} [Py α] [Py β] [Py γ] [Py δ] : Py (T4 α β γ δ) := ⟨fun p => .tuple [Py.d p.a, Py.d p.b, Py.d p.c, Py.d p.d], max (Py.dep α) (max (Py.dep β) (max (Py.dep γ) (Py.dep δ))) + 1, fun p => by
    simp only [PyData.depth, PyData.depthAll]
    have h1 := Py.depth p.a
    have h2 := Py.depth p.b
    have h3 := Py.depth p.c
    have h4 := Py.depth p.d
    omega, fun p => by simp only [PyData.canLay0, PyData.canLayAll0, Py.can]; rfl, fun a b => by
    obtain ⟨a1, a2, a3, a4⟩ := a
    obtain ⟨b1, b2, b3, b4⟩ := b
    simp only [PyData.eqv, PyData.eqvAll, Bool.and_true, Bool.and_eq_true, Py.eqv, T4.mk.injEq]⟩
theorem eqv_dec {α : Type} [Py α] [DecidableEq α] (a b : α) : PyData.eqv (Py.d a) (Py.d b) = decide (a = b) := by
  by_cases h : a = b
  · rw [decide_eq_true h]
    exact (Py.eqv a b).mpr h
  · rw [decide_eq_false h]
    cases e : PyData.eqv (Py.d a) (Py.d b) with
    | true => exact absurd ((Py.eqv a b).mp e) h
    | false => rfl
theorem shaped_of {α : Type} [Py α] (a : α) (h : Py.dep α ≤ 64) : SeqAt.shaped (Py.d a) = true := by
  unfold SeqAt.shaped
  rw [Py.can, decide_eq_true (Nat.le_trans (Py.depth a) h)]
  rfl
/-- the value v stands in H as the thing x -/
abbrev Is (K : PySem.W.Frag) (H : Hp) {α : Type} [Py α] (v : V) (x : α) : Prop := Dp K H v (Py.d x)
mutual
theorem Dp.ex {K : PySem.W.Frag} {H H' : Hp} (e : Ex H H') : ∀ {v : V} {d : PyData}, Dp K H v d → Dp K H' v d
  | _, _, .non => .non
  | _, _, .bl b => .bl b
  | _, _, .int i => .int i
  | _, _, .str x => .str x
  | _, _, .lst s a => .lst (e.sq s) (DpAll.ex e a)
  | _, _, .tup s a => .tup (e.st s) (DpAll.ex e a)
theorem DpAll.ex {K : PySem.W.Frag} {H H' : Hp} (e : Ex H H') : ∀ {vs : List V} {ds : List PyData}, DpAll K H vs ds → DpAll K H' vs ds
  | _, _, .nil => .nil
  | _, _, .cons a r => .cons (Dp.ex e a) (DpAll.ex e r)
end
theorem Is.ex {K : PySem.W.Frag} {H H' : Hp} {α : Type} [Py α] {v : V} {x : α} (e : Ex H H') (h : Is K H v x) : Is K H' v x := Dp.ex e h
theorem Is.int {K : PySem.W.Frag} {H : Hp} (i : Int) : Is K H (.int i) i := Dp.int i
theorem Is.bl {K : PySem.W.Frag} {H : Hp} (i : Bool) : Is K H (.bl i) i := Dp.bl i
theorem dpAll_ints {K : PySem.W.Frag} {H : Hp} : ∀ ns : List Int, DpAll K H (ns.map V.int) (ns.map Py.d)
  | [] => .nil
  | n :: ns => .cons (.int n) (dpAll_ints ns)
theorem Is.ints {K : PySem.W.Frag} {H : Hp} {a : Addr} {ns : List Int} (h : SqL K H a (ns.map V.int)) : Is K H (.ref a) ns := .lst h (dpAll_ints ns)
theorem Is.nil {K : PySem.W.Frag} {H : Hp} {α : Type} [Py α] {a : Addr} (h : SqL K H a []) : Is K H (.ref a) ([] : List α) := .lst h .nil
theorem Is.pair {K : PySem.W.Frag} {H : Hp} {α β : Type} [Py α] [Py β] {a : Addr} {v w : V} {x : α} {y : β} (h : SqT K H a [v, w]) (h1 : Is K H v x) (h2 : Is K H w y) : Is K H (.ref a) (x, y) := .tup h (.cons h1 (.cons h2 .nil))
theorem Is.three {K : PySem.W.Frag} {H : Hp} {α β γ : Type} [Py α] [Py β] [Py γ] {a : Addr} {v w u : V} {x : α} {y : β} {z : γ} (h : SqT K H a [v, w, u]) (h1 : Is K H v x) (h2 : Is K H w y) (h3 : Is K H u z) : Is K H (.ref a) (T3.mk x y z) := .tup h (.cons h1 (.cons h2 (.cons h3 .nil)))
theorem Is.four {K : PySem.W.Frag} {H : Hp} {α β γ δ : Type} [Py α] [Py β] [Py γ] [Py δ] {a : Addr} {v w u t : V} {x : α} {y : β} {z : γ} {r : δ} (h : SqT K H a [v, w, u, t]) (h1 : Is K H v x) (h2 : Is K H w y) (h3 : Is K H u z) (h4 : Is K H t r) : Is K H (.ref a) (T4.mk x y z r) := .tup h (.cons h1 (.cons h2 (.cons h3 (.cons h4 .nil))))
/-- the items of a list of data -/
theorem Is.list {K : PySem.W.Frag} {H : Hp} {α : Type} [Py α] {v : V} {xs : List α} (h : Is K H v xs) : ∃ a vs, v = .ref a ∧ SqL K H a vs ∧ Paired (fun v x => Is K H v x) vs xs := by
  have go : ∀ (vs : List V) (ys : List α), DpAll K H vs (ys.map Py.d) → Paired (fun v x => Is K H v x) vs ys := by
    intro vs ys
    induction ys generalizing vs with
    | nil => intro h; cases h; exact .nil
    | cons y ys ih =>
      intro h
      cases h with
      | cons h1 h2 => exact .cons h1 (ih _ h2)
  have h' : Dp K H v (.list (xs.map Py.d)) := h
  cases h' with
  | lst s a => exact ⟨_, _, rfl, s, go _ _ a⟩
theorem Is.of_list {K : PySem.W.Frag} {H : Hp} {α : Type} [Py α] {a : Addr} {vs : List V} {xs : List α} (s : SqL K H a vs) (h : Paired (fun v x => Is K H v x) vs xs) : Is K H (.ref a) xs := by
  have go : ∀ {vs : List V} {ys : List α}, Paired (fun v x => Is K H v x) vs ys → DpAll K H vs (ys.map Py.d) := by
    intro vs ys h
    induction h with
    | nil => exact .nil
    | cons h1 _ ih => exact .cons h1 ih
  exact .lst s (go h)
theorem pair_ints {K : PySem.W.Frag} {H : Hp} : ∀ {vs : List V} {xs : List Int}, Paired (fun v x => Is K H v x) vs xs → vs = xs.map V.int
  | _, _, .nil => rfl
  | _, _, .cons (a := v) (b := i) h r => by
    have h' : Dp K H v (.int i) := h
    cases h'
    rw [pair_ints r]
    rfl
theorem Is.ints_of {K : PySem.W.Frag} {H : Hp} {v : V} {xs : List Int} (h : Is K H v xs) : ∃ a, v = .ref a ∧ SqL K H a (xs.map V.int) := by
  obtain ⟨a, vs, rfl, s, p⟩ := h.list
  exact ⟨a, rfl, pair_ints p ▸ s⟩
theorem Is.pair_of {K : PySem.W.Frag} {H : Hp} {α β : Type} [Py α] [Py β] {v : V} {p : α × β} (h : Is K H v p) : ∃ a x y, v = .ref a ∧ SqT K H a [x, y] ∧ Is K H x p.1 ∧ Is K H y p.2 := by
  have h' : Dp K H v (.tuple [Py.d p.1, Py.d p.2]) := h
  cases h' with
  | tup s a =>
    cases a with
    | cons h1 r => cases r with
      | cons h2 r2 => cases r2; exact ⟨_, _, _, rfl, s, h1, h2⟩
theorem Is.int_of {K : PySem.W.Frag} {H : Hp} {v : V} {i : Int} (h : Is K H v i) : v = .int i := by
  have h' : Dp K H v (.int i) := h
  cases h'
  rfl
theorem Is.bl_of {K : PySem.W.Frag} {H : Hp} {v : V} {i : Bool} (h : Is K H v i) : v = .bl i := by
  have h' : Dp K H v (.bool i) := h
  cases h'
  rfl
theorem s_eqP {α : Type} [Py α] [DecidableEq α] {K : PySem.W.Frag} {H : Hp} {Q : VK} {v w : V} {x y : α} (h1 : Is K H v x) (h2 : Is K H w y) (hd : Py.dep α ≤ 64) (q : Q (.bl (decide (x = y))) H) : rEqA K v w H Q :=
  .inr ⟨_, _, h1, h2, shaped_of x hd, shaped_of y hd, by rw [eqv_dec]; exact q⟩
theorem s_neP {α : Type} [Py α] [DecidableEq α] {K : PySem.W.Frag} {H : Hp} {Q : VK} {v w : V} {x y : α} (h1 : Is K H v x) (h2 : Is K H w y) (hd : Py.dep α ≤ 64) (q : Q (.bl (decide (x ≠ y))) H) : rNeA K v w H Q :=
  .inr ⟨_, _, h1, h2, shaped_of x hd, shaped_of y hd, by rw [eqv_dec, ← decide_not]; exact q⟩

/-! ### a list of data that is filled: it stands at D, its items in Z -/
instance : Py (Option Int) := ⟨fun o => match o with | none => .none | some i => .int i, 0, fun o => by cases o <;> exact Nat.le_refl _, fun o => by cases o <;> rfl, fun a b => by
  cases a <;> cases b
  · exact ⟨fun _ => rfl, fun _ => rfl⟩
  · exact ⟨fun h => (Bool.false_ne_true h).elim, fun h => nomatch h⟩
  · exact ⟨fun h => (Bool.false_ne_true h).elim, fun h => nomatch h⟩
  · rename_i x y
    show (x == y) = true ↔ some x = some y
    rw [beq_iff_eq, Option.some.injEq]⟩
theorem Is.no {K : PySem.W.Frag} {H : Hp} : Is K H .non (none : Option Int) := Dp.non
theorem Is.yes {K : PySem.W.Frag} {H : Hp} (i : Int) : Is K H (.int i) (some i : Option Int) := Dp.int i
/-- a number or nothing, as a value -/
def optV : Option Int → V
  | none => .non
  | some i => .int i
theorem Is.opt {K : PySem.W.Frag} {H : Hp} : ∀ o : Option Int, Is K H (optV o) o
  | none => Dp.non
  | some i => Dp.int i
structure LA (K : PySem.W.Frag) (Z H : Hp) (D : Addr) {α : Type} [Py α] (l : List α) : Prop where
  ex : ∃ vs, H D = some (.lst vs) ∧ Paired (fun v x => Is K Z v x) vs l
  zd : Z D = none
  zh : Ex Z H
section
variable {K : PySem.W.Frag} {Z H H' : Hp} {D : Addr} {α : Type} [Py α] {l : List α}
theorem LA.new (h : H D = none) (e : Ex H H') (f : H' D = some (.lst [])) : LA K H H' D ([] : List α) := ⟨⟨[], f, .nil⟩, h, e⟩
theorem LA.lit {vs : List V} (h : H D = none) (e : Ex H H') (f : H' D = some (.lst vs)) (hv : Paired (fun v x => Is K H v x) vs l) : LA K H H' D l := ⟨⟨vs, f, hv⟩, h, e⟩
theorem la_ne {p : Addr} (hp : H p = none) (a : LA K Z H D l) : p ≠ D := by
  obtain ⟨⟨vs, h1, h2⟩, h3, h4⟩ := a
  exact (ne_of_none h1 hp).symm
theorem LA.up (a : LA K Z H D l) (e : Ex H H') : LA K Z H' D l := by
  obtain ⟨⟨vs, h1, h2⟩, h3, h4⟩ := a
  exact ⟨⟨vs, e _ _ h1, h2⟩, h3, h4.trans e⟩
theorem LA.upm {g : Addr} (a : LA K Z H D l) (e : ExM g H H') (n : D ≠ g) (hz : Z g = none) : LA K Z H' D l := by
  obtain ⟨⟨vs, h1, h2⟩, h3, h4⟩ := a
  exact ⟨⟨vs, e _ _ n h1, h2⟩, h3, h4.exm hz e⟩
theorem LA.is (a : LA K Z H D l) : Is K H (.ref D) l := by
  obtain ⟨⟨vs, h1, h2⟩, h3, h4⟩ := a
  exact Is.of_list (sq_of h1) (Paired.mapP h2 fun v x h => Is.ex h4 h)
theorem LA.at {vs : List V} (a : LA K Z H D l) (h : H D = some (.lst vs)) : Paired (fun v x => Is K Z v x) vs l := by
  obtain ⟨⟨ws, h1, h2⟩, h3, h4⟩ := a
  rw [h] at h1
  cases h1
  exact h2
theorem pair_get {F : V → α → Prop} : ∀ {vs : List V} {l : List α}, Paired F vs l → ∀ {i : Nat} {x : α}, l[i]? = some x → ∃ v, vs[i]? = some v ∧ F v x
  | _, _, .nil, i, x, h => by simp at h
  | _, _, .cons a r, 0, x, h => by
    cases h
    exact ⟨_, rfl, a⟩
  | _, _, .cons a r, i + 1, x, h => pair_get r (i := i) h
theorem pair_get' {F : V → α → Prop} : ∀ {vs : List V} {l : List α}, Paired F vs l → ∀ {i : Nat} {v : V}, vs[i]? = some v → ∃ x, l[i]? = some x ∧ F v x
  | _, _, .nil, i, x, h => by simp at h
  | _, _, .cons a r, 0, x, h => by
    cases h
    exact ⟨_, rfl, a⟩
  | _, _, .cons a r, i + 1, x, h => pair_get' r (i := i) h
/-- append: the new item is told at any heap that has all but the list -/
theorem n_appLA {H1 : Hp} {v : V} {x : α} {Q : VK} (a : LA K Z H D l) (e : Ex H H1) (hv : ∀ Z1, ExM D H1 Z1 → Ex Z Z1 → Is K Z1 v x) (hz : l.length < 100000)
    (q : ∀ Z1 H2, ExM D H1 H2 → Ex Z Z1 → LA K Z1 H2 D (l ++ [x]) → Q .non H2) : rAppend (.ref D) [v] H1 Q := by
  obtain ⟨⟨vs, h1, h2⟩, h3, h4⟩ := a
  refine n_app (xs := vs) (e _ _ h1) (by rw [Paired.length h2]; exact hz) fun H2 m2 f2 => ?_
  let Z1 : Hp := fun b => if b = D then none else H1 b
  have k1 : Z1 D = none := if_pos rfl
  have k2 : ExM D H1 Z1 := fun b o n r => by
    show (if b = D then none else H1 b) = some o
    rw [if_neg n]
    exact r
  have k3 : Ex Z Z1 := fun b o r => k2 b o (ne_of_none r h3) (e _ _ (h4 b o r))
  have k4 : Ex Z1 H2 := fun b o r => by
    have nb : b ≠ D := ne_of_none r k1
    have r' : (if b = D then none else H1 b) = some o := r
    rw [if_neg nb] at r'
    exact m2 b o nb r'
  exact q Z1 H2 m2 k3 ⟨⟨_, f2, Paired.snoc (Paired.mapP h2 fun v x h => Is.ex k3 h) (hv Z1 k2 k3)⟩, k1, k4⟩
end

section
variable {K : PySem.W.Frag} {Z H : Hp} {D : Addr} {α β : Type} [Py α] [Py β] {l : List α} {Q : VK} {v : V}
theorem LA.sq (a : LA K Z H D l) : ∃ vs, SqL K H D vs ∧ vs.length = l.length := by
  obtain ⟨⟨vs, h1, h2⟩, h3, h4⟩ := a
  exact ⟨vs, sq_of h1, Paired.length h2⟩
theorem s_tyLA {R : Prop} (a : LA K Z H D l) (q : R) : tyV K "list" (.ref D) H ∧ R := by
  obtain ⟨vs, h, _⟩ := a.sq
  exact s_tyL h q
theorem s_tyIs {R : Prop} {b : Addr} (a : Is K H (.ref b) l) (q : R) : tyV K "list" (.ref b) H ∧ R := by
  obtain ⟨b', vs, e, h, _⟩ := a.list
  cases e
  exact s_tyL h q
theorem s_lenLA (a : LA K Z H D l) (q : Q (.int (l.length : Int)) H) : rLen K [.ref D] H Q := by
  obtain ⟨vs, h, e⟩ := a.sq
  refine s_lenL h ?_
  rw [e]
  exact q
theorem s_lenIs {b : Addr} (a : Is K H (.ref b) l) (q : Q (.int (l.length : Int)) H) : rLen K [.ref b] H Q := by
  obtain ⟨b', vs, e, h, p⟩ := a.list
  cases e
  refine s_lenL h ?_
  rw [Paired.length p]
  exact q
theorem atI_pair {F : V → α → Prop} {vs : List V} (p : Paired F vs l) {i : Int} {x : α} (h : atI l i = some x) : ∃ v, atI vs i = some v ∧ F v x := by
  unfold atI at *
  rw [Paired.length p]
  cases e : ixN l.length i with
  | none => rw [e] at h; cases h
  | some j =>
    rw [e] at h
    exact pair_get p (i := j) h
theorem s_ixLA {i : Int} {x : α} (a : LA K Z H D l) (h : atI l i = some x) (q : ∀ v, Is K Z v x → Q v H) : rIx K (.ref D) (.int i) H Q := by
  obtain ⟨⟨vs, h1, h2⟩, h3, h4⟩ := a
  obtain ⟨v, e, g⟩ := atI_pair h2 h
  exact s_ixL (sq_of h1) e (q v g)
theorem s_ixIs {i : Int} {x : α} {b : Addr} (a : Is K H (.ref b) l) (h : atI l i = some x) (q : ∀ v, Is K H v x → Q v H) : rIx K (.ref b) (.int i) H Q := by
  obtain ⟨b', vs, e, h1, h2⟩ := a.list
  cases e
  obtain ⟨v, e, g⟩ := atI_pair h2 h
  exact s_ixL h1 e (q v g)
/-- a place of a pair -/
theorem s_ixP0 {p : α × β} (a : Is K Z v p) (e : Ex Z H) (q : ∀ w, Is K Z w p.1 → Q w H) : rIx K v (.int 0) H Q := by
  obtain ⟨b, x, y, rfl, h, h1, h2⟩ := a.pair_of
  exact s_ixT (e.st h) (atI_lt (by decide) rfl) (q x h1)
theorem s_ixP1 {p : α × β} (a : Is K Z v p) (e : Ex Z H) (q : ∀ w, Is K Z w p.2 → Q w H) : rIx K v (.int 1) H Q := by
  obtain ⟨b, x, y, rfl, h, h1, h2⟩ := a.pair_of
  exact s_ixT (e.st h) (atI_lt (by decide) rfl) (q y h2)
theorem Is.list_ty {b : Addr} (a : Is K H (.ref b) l) : TyX K H (.ref b) (.type "list") := by
  obtain ⟨b', vs, e, h1, h2⟩ := a.list
  cases e
  exact ty_sq h1
theorem s_isiIs {n : String} {b : Addr} {t : Bool} (hs : Is K H (.ref b) l) (h : kitB "list" n = some t) (q : Q (.bl t) H) : rIsi K [.ref b, .ty n] H Q := ⟨.ref b, .ty n, _, _, t, rfl, .ty n, hs.list_ty, kit_ty h, q⟩
theorem s_isiP {n : String} {t : Bool} {p : α × β} (a : Is K Z v p) (e : Ex Z H) (h : kitB "tuple" n = some t) (q : Q (.bl t) H) : rIsi K [v, .ty n] H Q := by
  obtain ⟨b, x, y, rfl, hb, h1, h2⟩ := a.pair_of
  exact s_isiT (e.st hb) h q
end
section
variable {K : PySem.W.Frag} {Z H : Hp} {α β γ : Type} [Py α] [Py β] [Py γ] {v : V} {σ : L2.St} {R : L2.St → Hp → Prop}
/-- a, b = a pair -/
theorem s_gtup2 {p : α × β} {g1 g2 : TG} (a : Is K Z v p) (e : Ex Z H) (q : ∀ x y, Is K Z x p.1 → Is K Z y p.2 → g1 x σ H fun σ1 H1 => g2 y σ1 H1 R) : gTup K 2 (gCons g1 (gCons g2 gNil)) v σ H R := by
  obtain ⟨b, x, y, rfl, h, h1, h2⟩ := a.pair_of
  refine ⟨b, _, rfl, e.st h, rfl, x, [y], rfl, ?_⟩
  have e2 : (fun (σ1 : L2.St) H1 => gCons g2 gNil [y] σ1 H1 R) = fun σ1 H1 => gCons g2 gNil [y] σ1 H1 R := rfl
  have q1 := q x y h1 h2
  have e3 : (fun (σ1 : L2.St) H1 => g2 y σ1 H1 R) = fun σ1 H1 => g2 y σ1 H1 fun σ2 H2 => ([] : List V) = [] ∧ R σ2 H2 := by
    funext σ1 H1
    have : R = fun σ2 H2 => ([] : List V) = [] ∧ R σ2 H2 := by
      funext σ2 H2
      exact propext ⟨fun z => ⟨rfl, z⟩, fun z => z.2⟩
    rw [← this]
  rw [e3] at q1
  have e4 : (fun (σ1 : L2.St) H1 => g2 y σ1 H1 fun σ2 H2 => ([] : List V) = [] ∧ R σ2 H2) = fun σ1 H1 => gCons g2 gNil [y] σ1 H1 R := by
    funext σ1 H1
    refine propext ⟨fun z => ⟨y, [], rfl, z⟩, fun z => ?_⟩
    obtain ⟨y', r', e, z⟩ := z
    cases e
    exact z
  rw [e4] at q1
  exact q1
theorem s_gt2 {H : Hp} {b : Addr} {x y : V} {g1 g2 : TG} (h : SqT K H b [x, y]) (q : g1 x σ H fun σ1 H1 => g2 y σ1 H1 R) : gTup K 2 (gCons g1 (gCons g2 gNil)) (.ref b) σ H R := by
  refine ⟨b, _, rfl, h, rfl, x, [y], rfl, ?_⟩
  have e3 : (fun (σ1 : L2.St) H1 => g2 y σ1 H1 R) = fun σ1 H1 => g2 y σ1 H1 fun σ2 H2 => ([] : List V) = [] ∧ R σ2 H2 := by
    funext σ1 H1
    have : R = fun σ2 H2 => ([] : List V) = [] ∧ R σ2 H2 := by
      funext σ2 H2
      exact propext ⟨fun z => ⟨rfl, z⟩, fun z => z.2⟩
    rw [← this]
  rw [e3] at q
  have e4 : (fun (σ1 : L2.St) H1 => g2 y σ1 H1 fun σ2 H2 => ([] : List V) = [] ∧ R σ2 H2) = fun σ1 H1 => gCons g2 gNil [y] σ1 H1 R := by
    funext σ1 H1
    refine propext ⟨fun z => ⟨y, [], rfl, z⟩, fun z => ?_⟩
    obtain ⟨y', r', e, z⟩ := z
    cases e
    exact z
  rw [e4] at q
  exact q
theorem pair_all {F : V → α → Prop} : ∀ {vs : List V} {l : List α}, Paired F vs l → ∀ v ∈ vs, ∃ x ∈ l, F v x
  | _, _, .nil, v, h => nomatch h
  | _, _, .cons a r, v, h => by
    rcases List.mem_cons.mp h with rfl | h
    · exact ⟨_, List.mem_cons_self, a⟩
    · obtain ⟨x, hx, f⟩ := pair_all r v h
      exact ⟨x, List.mem_cons_of_mem _ hx, f⟩
end
/-- the items that stand behind: a for over a list of data -/
theorem item_of {K : PySem.W.Frag} {H : Hp} {α : Type} [Py α] {vs : List V} {l : List α} (p : Paired (fun v x => Is K H v x) vs l) {i : Nat} {v : V} (h : vs[i]? = some v) : ∃ x, l[i]? = some x ∧ Is K H v x := pair_get' p h

/-! ### what a def is, and that it keeps its promise -/
/-- the def x stands in the module as its text says -/
def FunAt (K : PySem.W.Frag) (mg : Str → Option Value) (x : Str) (st : Stmt) (ps : List Str) : Prop := ∃ f fd, Fun K x x st f fd ∧ mg x = some (.ref f) ∧ Binds K fd ps []
/-- the def x keeps the promise sp, by at most level k -/
def Has (P : Program) (w : World) (K : PySem.W.Frag) (mg : Str → Option Value) (base : Heap) (x : Str) (k : Nat) (sp : Sp) : Prop :=
  ∃ f fd ps, FnOk P w K mg base CX0 k f fd ps sp ∧ mg x = some (.ref f) ∧ PySem.W.keepIn K (.ref f) = true ∧ Binds K fd ps []
section
variable {X : Cx} {k k' : Nat} {sp : Sp} {x : Str} {p pos : Pos} {e : Expr} {es : List Expr} {t : TA}
theorem pe_callH (h : Has X.prog X.w X.K X.mg X.base x k sp) (hk : k ≤ k') (hr : Room k' X.A) (hg : Gl X x) (ha : PA X (e :: es) t) (hdb : (x == ("__debug__" : Str)) = false := by decide)
    (he : starEach (e :: es) X.env = (false, eval e X.env) :: starEach es X.env := by rfl) (hpl : (backTo pos (starEach es X.env)).any (·.1) = false := by rfl) : PE X (.Call (.Name x p) (e :: es) [] pos) (tCall sp [] E0 t) := by
  obtain ⟨f, fd, ps, F, hm, kp, hb⟩ := h
  exact pe_call F (hr.mono hk) hg hm kp hb .nil pass0 ha hdb he hpl
theorem pe_constI {i : Int} (h : ∃ t, X.mg x = some (.int i t)) (hg : Gl X x) (hd : (x == ("__debug__" : Str)) = false := by decide) : PE X (.Name x pos) (tC (.int i)) := by
  obtain ⟨t, h⟩ := h
  exact pe_glob hg h ⟨t, rfl⟩ hd
theorem pe_constS {i : Str} (h : ∃ t, X.mg x = some (.str i t)) (hg : Gl X x) (hd : (x == ("__debug__" : Str)) = false := by decide) : PE X (.Name x pos) (tC (.str i)) := by
  obtain ⟨t, h⟩ := h
  exact pe_glob hg h ⟨t, rfl⟩ hd
theorem pe_callH0 (h : Has X.prog X.w X.K X.mg X.base x k sp) (hk : k ≤ k') (hr : Room k' X.A) (hg : Gl X x) (hdb : (x == ("__debug__" : Str)) = false := by decide) : PE X (.Call (.Name x p) [] [] pos) (tCall sp [] E0 tNil) := by
  obtain ⟨f, fd, ps, F, hm, kp, hb⟩ := h
  exact pe_call0 F (hr.mono hk) hg hm kp hb .nil pass0 hdb
end
section
variable {P : Program} {w : World} {K : PySem.W.Frag} {mg : Str → Option Value} {base : Heap}
theorem fnok_of {x : Str} {st : Stmt} {N ps : List Str} {k : Nat} {sp : Sp} {f : Addr} {fd : FuncData} (F : Fun K x x st f fd) (S : FnScope N ps (defScope st)) (len : ∀ vs H Q E, sp vs H Q E → vs.length = ps.length)
    (hbody : ∀ (cdv : Value) (A : Around) (outer : List Env) (s : Shared) (H : Hp) (vs : List V) (Q : VK) (E : XK), Room k (A.deeper (envOfC x (defScope st) s.heap.objs.size f cdv)) → sp vs H Q E →
      ∃ t, PSs (cxOf CX0 P w K mg base N x (defScope st) f cdv A outer s H E).nox (defBody st) t ∧ t { nx := fun _ H' => Q .non H', rt := Q } (start N vs) H) : FnOk P w K mg base CX0 (k + 1) f fd ps sp := F.ok S len hbody
/-- a def's promise by its body -/
theorem has_of {x : Str} {st : Stmt} {N ps : List Str} {k : Nat} {sp : Sp} (F : FunAt K mg x st ps) (S : FnScope N ps (defScope st)) (len : ∀ vs H Q E, sp vs H Q E → vs.length = ps.length)
    (hbody : ∀ (f : Addr) (cdv : Value) (A : Around) (outer : List Env) (s : Shared) (H : Hp) (vs : List V) (Q : VK) (E : XK), Room k (A.deeper (envOfC x (defScope st) s.heap.objs.size f cdv)) → sp vs H Q E →
      ∃ t, PSs (cxOf CX0 P w K mg base N x (defScope st) f cdv A outer s H E).nox (defBody st) t ∧ t { nx := fun _ H' => Q .non H', rt := Q } (start N vs) H) : Has P w K mg base x (k + 1) sp := by
  obtain ⟨f, fd, F, hm, hb⟩ := F
  exact ⟨f, fd, ps, F.ok S len (hbody f), hm, F.kp, hb⟩
theorem Has.mono {x : Str} {j k : Nat} {sp : Sp} (h : Has P w K mg base x j sp) (hk : j ≤ k) : Has P w K mg base x k sp := by
  obtain ⟨f, fd, ps, F, r⟩ := h
  exact ⟨f, fd, ps, F.mono hk, r⟩
theorem Has.imp {x : Str} {k : Nat} {sp sp' : Sp} (h : Has P w K mg base x k sp) (hi : ∀ vs H Q E, sp' vs H Q E → sp vs H Q E) : Has P w K mg base x k sp' := by
  obtain ⟨f, fd, ps, F, r⟩ := h
  exact ⟨f, fd, ps, F.imp hi, r⟩
/-- a module's number, a module's text, as the head's facts tell it -/
theorem constI_mk {h : Heap} (X : K.In h) (G : h.Ns mainGlobals mg) {x : Str} {i : Int} {t : Tok} (a : PySem.W.nsIn K mainGlobals x = some (some (.int i t))) : ∃ t, mg x = some (.int i t) := ⟨t, PySem.W.mg_of X G a⟩
theorem constS_mk {h : Heap} (X : K.In h) (G : h.Ns mainGlobals mg) {x : Str} {i : Str} {t : Tok} (a : PySem.W.nsIn K mainGlobals x = some (some (.str i t))) : ∃ t, mg x = some (.str i t) := ⟨t, PySem.W.mg_of X G a⟩
/-- a def as the head's facts tell it -/
theorem funAt_mk {h : Heap} (X : K.In h) (G : h.Ns mainGlobals mg) {x : Str} {st : Stmt} {ps : List Str} {f : Addr} {oc : Value} {od an : Option Addr} {osl : Array (Option Value)} {kV doc pm cdv ct : Value}
    (a : PySem.W.nsIn K mainGlobals x = some (some (.ref f))) (l : K.lookup f = some ⟨oc, od, .func (PySem.W.fnOf x x (defArgs st) (defBody st) (defScope st) .none kV doc pm an cdv ct), osl⟩)
    (c : PySem.W.codeIn K cdv x = true) (k : PySem.W.keepIn K (.ref f) = true)
    (b : ∀ (kV doc pm : Value) (an : Option Addr) (cdv ct : Value) (us : List Value), us.length = ps.length → bindArgs (PySem.W.fnOf x x (defArgs st) (defBody st) (defScope st) .none kV doc pm an cdv ct) ⟨us, []⟩ = pure (ps.zip us)) : FunAt K mg x st ps :=
  ⟨f, _, fun_mk l c k, PySem.W.mg_of X G a, (fun_mk (st := st) l c k).binds b⟩
/-- the law itself at the end -/
theorem law_end {P : Program} {h : Heap} (X : K.In h) (G : h.Ns mainGlobals mg) {fa : Addr} (hfa : mg "law" = some (.ref fa)) {st : Stmt} {x : Str} {k : Nat} {sp : Sp} {f : Addr} {oc : Value} {od an : Option Addr} {osl : Array (Option Value)} {kV doc pm cdv ct : Value}
    (a : PySem.W.nsIn K mainGlobals "law" = some (some (.ref f))) (l : K.lookup f = some ⟨oc, od, .func (PySem.W.fnOf "law" "law" (defArgs st) (defBody st) (defScope st) .none kV doc pm an cdv ct), osl⟩)
    (c : PySem.W.codeIn K cdv "law" = true) (kp : PySem.W.keepIn K (.ref f) = true)
    (hb : ∀ (s : Shared) (v : Value), BindsTo s (PySem.W.fnOf "law" "law" (defArgs st) (defBody st) (defScope st) .none kV doc pm an cdv ct) ⟨[v], []⟩ [(x, v)])
    (b : ∀ base : Heap, Fun K "law" "law" st f (PySem.W.fnOf "law" "law" (defArgs st) (defBody st) (defScope st) .none kV doc pm an cdv ct) → FnOk P w K mg base CX0 k f (PySem.W.fnOf "law" "law" (defArgs st) (defBody st) (defScope st) .none kV doc pm an cdv ct) [x] sp) :
    ∃ fd : FuncData, (∀ (s : Shared) (v : Value), BindsTo s fd ⟨[v], []⟩ [(x, v)]) ∧ ∀ base : Heap, K.In base → base.Ns mainGlobals mg → FnOk P w K mg base CX0 k fa fd [x] sp := by
  have e := hfa.symm.trans (PySem.W.mg_of X G a)
  cases e
  exact ⟨_, hb, fun base _ _ => b base (fun_mk l c kp)⟩
end
end TR
/-! the hand that is drawn from: n draws are left (its counter stays below 2^60) -/
namespace TR
open PySem L2
def Hand (K : PySem.W.Frag) (Z H : Hp) (h : Addr) (n : Nat) : Prop :=
  ∃ (d k : Int) (c : Addr) (cells : List Int), H h = some (.lst [.int d, .int k, .ref c]) ∧ 0 < cells.length ∧ 0 ≤ k ∧ k + n ≤ 1000000000000000000 ∧ Ex Z H ∧ Z h = none ∧ SqL K Z c (cells.map V.int)
theorem Hand.mono {K : PySem.W.Frag} {Z H : Hp} {h : Addr} {n m : Nat} (a : Hand K Z H h n) (l : m ≤ n) : Hand K Z H h m := by
  obtain ⟨d, k, c, cells, h1, h3, h4, h5, h6⟩ := a
  exact ⟨d, k, c, cells, h1, h3, h4, by omega, h6⟩
theorem Hand.ex {K : PySem.W.Frag} {Z H H' : Hp} {h : Addr} {n : Nat} (a : Hand K Z H h n) (e : Ex H H') : Hand K Z H' h n := by
  obtain ⟨d, k, c, cells, h1, h3, h4, h5, z1, z2, z3⟩ := a
  exact ⟨d, k, c, cells, e _ _ h1, h3, h4, h5, z1.trans e, z2, z3⟩
theorem Hand.exm {K : PySem.W.Frag} {Z H H' : Hp} {h g : Addr} {n : Nat} (a : Hand K Z H h n) (e : ExM g H H') (n1 : h ≠ g) (n2 : Z g = none) : Hand K Z H' h n := by
  obtain ⟨d, k, c, cells, h1, h3, h4, h5, z1, z2, z3⟩ := a
  exact ⟨d, k, c, cells, e _ _ n1 h1, h3, h4, h5, z1.exm n2 e, z2, z3⟩
theorem Hand.at {K : PySem.W.Frag} {Z H : Hp} {h : Addr} {n : Nat} (a : Hand K Z H h n) : ∃ o, H h = some o := by
  obtain ⟨d, k, c, cells, h1, _⟩ := a
  exact ⟨_, h1⟩
theorem Hand.z {K : PySem.W.Frag} {Z H : Hp} {h : Addr} {n : Nat} (a : Hand K Z H h n) : Ex Z H := by
  obtain ⟨d, k, c, cells, h1, h3, h4, h5, z1, z2, z3⟩ := a
  exact z1
theorem Hand.zn {K : PySem.W.Frag} {Z H : Hp} {h : Addr} {n : Nat} (a : Hand K Z H h n) : Z h = none := by
  obtain ⟨_, _, _, _, _, _, _, _, _, h6, _⟩ := a
  exact h6
theorem hand_ne {K : PySem.W.Frag} {Z H H' : Hp} {h p : Addr} {n : Nat} (hp : H' p = none) (a : Hand K Z H h n) (e : Ex H H') : p ≠ h := by
  obtain ⟨o, ho⟩ := a.at
  exact (ne_of_none (e _ _ ho) hp).symm
theorem hand_ne0 {K : PySem.W.Frag} {Z H : Hp} {h p : Addr} {n : Nat} (hp : H p = none) (a : Hand K Z H h n) : p ≠ h := hand_ne hp a (Ex.refl _)
theorem hand_ne1 {K : PySem.W.Frag} {Z H H' : Hp} {h p : Addr} {n : Nat} (hp : H' p = none) (e : Ex H H') (a : Hand K Z H h n) : p ≠ h := hand_ne hp a e
theorem hand_ne2 {K : PySem.W.Frag} {Z H H1 H' : Hp} {h p : Addr} {n : Nat} (hp : H' p = none) (e2 : Ex H1 H') (e : Ex H H1) (a : Hand K Z H h n) : p ≠ h := hand_ne hp a (e.trans e2)
/-- another list is changed, one that was made when the hand was there -/
theorem Hand.mut {K : PySem.W.Frag} {Z H H1 H' : Hp} {h g : Addr} {n m : Nat} (a : Hand K Z H h n) (e : ExM g H H') (b : Hand K Z H1 h m) (f : H1 g = none) : Hand K Z H' h n := a.exm e (hand_ne0 f b).symm (Ex.back b.z f)
section
variable {K : PySem.W.Frag} {σ : L2.St} {H : Hp} {te : TE} {Q : VK} {g : TG} {vs : List Nat}
/-- numbers drawn in a comprehension: c draws a turn -/
theorem lc_hand {J : It} {n : Nat} {Z : Hp} {h : Addr} {C c R : Nat} (xs : Nat → V) (hh : Hand K Z H h C) (hC : R + c * n ≤ C)
    (hgo : ∀ i H', i < n → ExM h H H' → J.go i H') (hst : ∀ H', ExM h H H' → J.stop n H') (hy : ∀ i v H0 H', i < n → ExM h H H0 → J.yld i H0 v H' → H' = H0 ∧ v = xs i)
    (turn : ∀ i, i < n → ∀ D H' R', ExM h H H' → H D = none → Hand K Z H' h (R' + c) → ∀ A : VK, (∀ k H4, ExM h H' H4 → Hand K Z H4 h R' → A (.int k) H4) →
      g (xs i) (wipe σ vs) H' fun σ2 H2 => wipe σ2 vs = wipe σ vs ∧ te σ2 H2 A)
    (hz : n ≤ 40000)
    (fin : ∀ (D : Addr) (ns : List Int) (H' : Hp), H D = none → ExM h H H' → Hand K Z H' h R → H' D = some (.lst (ns.map V.int)) → ns.length = n → Q (.ref D) H') : LcJ g tYes te vs σ J H Q := by
  intro D hD
  have nD : D ≠ h := hand_ne0 hD hh
  have nZ : Z D = none := Ex.back hh.z hD
  refine ⟨fun i m H' => m = n - i ∧ i ≤ n ∧ ExM h H H' ∧ Hand K Z H' h (R + c * (n - i)) ∧ ∃ ns : List Int, H' D = some (.lst (ns.map V.int)) ∧ ns.length = i, ⟨n, by omega, by omega, (Ex.new hD).toM, (hh.ex (Ex.new hD)).mono (by simpa using hC), [], upd_same, rfl⟩, ?_⟩
  rintro i m H' ⟨rfl, hi, e, hh', ns, hns, hln⟩
  by_cases hlt : i < n
  · refine .inr ⟨hgo i H' hlt e, fun H'' => i + 1 ≤ n ∧ ExM h H H'' ∧ Hand K Z H'' h (R + c * (n - (i + 1))) ∧ ∃ ns : List Int, H'' D = some (.lst (ns.map V.int)) ∧ ns.length = i + 1, fun H'' q => ⟨n - (i + 1), by omega, rfl, q⟩, fun v H2 y => ?_⟩
    obtain ⟨rfl, rfl⟩ := hy i v H' H2 hlt e y
    have e2 : ∀ (A : VK) (B : Hp → Prop), (fun (σ2 : L2.St) H3 => wipe σ2 vs = wipe σ vs ∧ tYes σ2 H3 fun b H4 => if b = true then te σ2 H4 A else B H4) = fun σ2 H3 => wipe σ2 vs = wipe σ vs ∧ te σ2 H3 A := fun A B => by
      funext σ2 H3
      show (_ ∧ if true = true then te σ2 H3 A else B H3) = _
      rw [if_pos rfl]
    rw [e2]
    have ec : R + c * (n - i) = R + c * (n - (i + 1)) + c := by
      rw [show n - i = (n - (i + 1)) + 1 by omega, Nat.mul_succ]
      omega
    rw [ec] at hh'
    refine turn i hlt D H2 _ e hD hh' _ fun k H4 m4 hh4 => ?_
    have m5 : ExM h H (upd H4 D (.lst (ns.map V.int ++ [.int k]))) := fun b o nb q => by
      rw [upd_ne (ne_of_none q hD)]
      exact (e.trans m4) b o nb q
    refine ⟨_, m4 _ _ nD hns, sz_lt (by rw [List.length_map]; omega), by omega, m5, hh4.exm ExM.upd (Ne.symm nD) nZ, ns ++ [k], by rw [upd_same, List.map_append]; rfl, by rw [List.length_append, hln]; rfl⟩
  · have ei : i = n := by omega
    subst ei
    exact .inl ⟨hst H' e, fin D ns H' hD e (hh'.mono (by omega)) hns hln⟩
theorem u_lcLH {a : Addr} {l : List V} {Z : Hp} {h : Addr} {C : Nat} (R c : Nat) (hh : Hand K Z H h C) (hC : R + c * l.length ≤ C) (hS : ∀ H', ExM h H H' → SqL K H' a l)
    (turn : ∀ (i : Nat) (v : V), l[i]? = some v → ∀ D H' R', ExM h H H' → H D = none → Hand K Z H' h (R' + c) → ∀ A : VK, (∀ k H4, ExM h H' H4 → Hand K Z H4 h R' → A (.int k) H4) →
      g v (wipe σ vs) H' fun σ2 H2 => wipe σ2 vs = wipe σ vs ∧ te σ2 H2 A)
    (hz : l.length ≤ 40000)
    (fin : ∀ (D : Addr) (ns : List Int) (H' : Hp), H D = none → ExM h H H' → Hand K Z H' h R → H' D = some (.lst (ns.map V.int)) → ns.length = l.length → Q (.ref D) H') : LcL K g tYes te vs σ (.ref a) H Q :=
  ⟨a, rfl, ⟨l, hS H (ExM.refl H)⟩, lc_hand (n := l.length) (c := c) (R := R) (fun i => l.getD i .non) hh hC (fun i H' hi e => ⟨l, l[i], hS H' e, List.getElem?_eq_getElem hi⟩) (fun H' e => ⟨l, hS H' e, Nat.le_refl _⟩)
    (fun i v H0 H' hi e y => by
      obtain ⟨rfl, f⟩ := y
      have := f l (hS _ e)
      rw [List.getElem?_eq_getElem hi] at this
      refine ⟨rfl, ?_⟩
      rw [List.getD_eq_getElem?_getD, List.getElem?_eq_getElem hi]
      exact (Option.some.inj this).symm)
    (fun i hi D H' R' e hD hh' A k => by
      have e2 : l[i]? = some (l.getD i .non) := by rw [List.getD_eq_getElem?_getD, List.getElem?_eq_getElem hi]; rfl
      exact turn i _ e2 D H' R' e hD hh' A k) hz fin⟩
theorem u_lcR1H {n : Int} {Z : Hp} {h : Addr} {C : Nat} (R c : Nat) (hh : Hand K Z H h C) (hC : R + c * n.toNat ≤ C) (hz : 0 ≤ n ∧ n ≤ 40000)
    (turn : ∀ i : Nat, (i : Int) < n → ∀ D H' R', ExM h H H' → H D = none → Hand K Z H' h (R' + c) → ∀ A : VK, (∀ k H4, ExM h H' H4 → Hand K Z H4 h R' → A (.int k) H4) →
      g (.int (i : Int)) (wipe σ vs) H' fun σ2 H2 => wipe σ2 vs = wipe σ vs ∧ te σ2 H2 A)
    (fin : ∀ (D : Addr) (ns : List Int) (H' : Hp), H D = none → ExM h H H' → Hand K Z H' h R → H' D = some (.lst (ns.map V.int)) → ns.length = n.toNat → Q (.ref D) H') : LcR1 g tYes te vs σ [.int n] H Q := by
  have e62 : (2 : Int) ^ 62 = 4611686018427387904 := by decide
  refine ⟨n, rfl, by omega, by omega, lc_hand (n := n.toNat) (c := c) (R := R) (fun i => .int (i : Int)) hh hC (fun i H' hi e => hi) (fun H' e => Nat.le_refl _) (fun i v H0 H' hi e y => ?_) (fun i hi D H' R' e hD hh' A k => turn i (by omega) D H' R' e hD hh' A k) (by omega) fin⟩
  obtain ⟨rfl, rfl⟩ := y
  exact ⟨rfl, by rw [Int.zero_add]⟩
end
theorem at_ints {ns : List Int} {i : Nat} {v : V} (h : (ns.map V.int)[i]? = some v) : ∃ m, v = .int m ∧ ns[i]? = some m := by
  rw [List.getElem?_map] at h
  cases e : ns[i]? with
  | none => rw [e] at h; cases h
  | some m => rw [e] at h; exact ⟨m, (Option.some.inj h).symm, rfl⟩
theorem all_at {α : Type} {l : List α} {i : Nat} {v : α} {p : α → Prop} (h : l[i]? = some v) (a : ∀ x ∈ l, p x) : p v := a v (List.mem_of_getElem? h)
/-! ### rows: a list of lists, each of them an object of its own -/
structure RW (K : PySem.W.Frag) (Z H : Hp) (p : Addr) (qs : List Addr) {α : Type} [Py α] (rs : List (List α)) : Prop where
  own : H p = some (.lst (qs.map V.ref))
  nd : (p :: qs).Nodup
  fr : ∀ q ∈ p :: qs, Z q = none
  zh : Ex Z H
  rows : Paired (fun q r => ∃ vs, H q = some (.lst vs) ∧ Paired (fun v x => Is K Z v x) vs r) qs rs
section
variable {K : PySem.W.Frag} {Z H H1 H' : Hp} {p q : Addr} {qs : List Addr} {α : Type} [Py α] {rs : List (List α)} {Q : VK}
theorem RW.start (h : H p = none) (e : Ex H H') (f : H' p = some (.lst [])) : RW K H H' p [] ([] : List (List α)) :=
  ⟨f, List.nodup_cons.mpr ⟨List.not_mem_nil, List.nodup_nil⟩, fun q hq => by rw [List.mem_singleton.mp hq]; exact h, e, .nil⟩
theorem RW.up (a : RW K Z H p qs rs) (e : Ex H H') : RW K Z H' p qs rs :=
  ⟨e _ _ a.own, a.nd, a.fr, a.zh.trans e, Paired.mapP a.rows fun q r ⟨vs, h1, h2⟩ => ⟨vs, e _ _ h1, h2⟩⟩
theorem RW.exm {g : Addr} (a : RW K Z H p qs rs) (e : ExM g H H') (hg : g ∉ p :: qs) (zg : Z g = none) : RW K Z H' p qs rs := by
  have n : ∀ q ∈ p :: qs, q ≠ g := fun q hq z => hg (z ▸ hq)
  refine ⟨e _ _ (n _ List.mem_cons_self) a.own, a.nd, a.fr, a.zh.exm zg e, ?_⟩
  have h := a.rows
  have n' : ∀ q ∈ qs, q ≠ g := fun q hq => n q (List.mem_cons_of_mem _ hq)
  clear a n hg
  induction h with
  | nil => exact .nil
  | cons h t ih => exact .cons (by obtain ⟨vs, h1, h2⟩ := h; exact ⟨vs, e _ _ (n' _ List.mem_cons_self) h1, h2⟩) (ih fun q hq => n' q (List.mem_cons_of_mem _ hq))
theorem RW.sq (a : RW K Z H p qs rs) : SqL K H p (qs.map V.ref) := sq_of a.own
theorem RW.len (a : RW K Z H p qs rs) : qs.length = rs.length := Paired.length a.rows
theorem RW.at' {qs : List Addr} {rs : List (List α)} {F : Addr → List α → Prop} : Paired F qs rs → ∀ {i : Nat} {q : Addr}, qs[i]? = some q → ∃ r, rs[i]? = some r ∧ F q r
  | .nil, i, q, h => by simp at h
  | .cons a t, 0, q, h => by cases h; exact ⟨_, rfl, a⟩
  | .cons a t, i + 1, q, h => RW.at' t h
theorem RW.at (a : RW K Z H p qs rs) {i : Nat} (h : qs[i]? = some q) : ∃ r vs, rs[i]? = some r ∧ H q = some (.lst vs) ∧ Paired (fun v x => Is K Z v x) vs r := by
  obtain ⟨r, h1, vs, h2, h3⟩ := RW.at' a.rows h
  exact ⟨r, vs, h1, h2, h3⟩
theorem RW.obj (a : RW K Z H p qs rs) : ∀ q ∈ p :: qs, ∃ o, H q = some o := fun q hq => by
  rcases List.mem_cons.mp hq with rfl | hq
  · exact ⟨_, a.own⟩
  · obtain ⟨i, h⟩ := List.mem_iff_getElem?.mp hq
    obtain ⟨_, vs, _, h2, _⟩ := a.at h
    exact ⟨_, h2⟩
theorem RW.new (a : RW K Z H p qs rs) (h : H q = none) : q ∉ p :: qs := fun hq => by
  obtain ⟨o, ho⟩ := a.obj q hq
  rw [h] at ho
  cases ho
theorem RW.is (a : RW K Z H p qs rs) : Is K H (.ref p) rs := by
  refine Is.of_list (sq_of a.own) ?_
  have h := a.rows
  have e := a.zh
  clear a
  induction h with
  | nil => exact .nil
  | cons h t ih => exact .cons (by obtain ⟨vs, h1, h2⟩ := h; exact Is.of_list (sq_of h1) (Paired.mapP h2 fun v x g => Is.ex e g)) ih
theorem paired_snoc {β γ : Type} {F : β → γ → Prop} : ∀ {xs : List β} {ys : List γ} {x : β} {y : γ}, Paired F xs ys → F x y → Paired F (xs ++ [x]) (ys ++ [y])
  | _, _, _, _, .nil, h => .cons h .nil
  | _, _, _, _, .cons a t, h => .cons a (paired_snoc t h)
theorem n_appRW {vs : List V} {r : List α} (a : RW K Z H p qs rs) (e : Ex H H1) (hq : H q = none) (f : H1 q = some (.lst vs)) (pr : Paired (fun v x => Is K Z v x) vs r) (hz : rs.length < 100000)
    (k : ∀ H2, ExM p H1 H2 → RW K Z H2 p (qs ++ [q]) (rs ++ [r]) → Q .non H2) : rAppend (.ref p) [.ref q] H1 Q := by
  have a1 := a.up e
  have nq := a.new hq
  refine n_app a1.own (by rw [List.length_map, a.len]; exact hz) fun H2 m f2 => k H2 m ?_
  have np : ∀ b ∈ qs ++ [q], b ≠ p := fun b hb z => by
    rcases List.mem_append.mp hb with hb | hb
    · exact (List.nodup_cons.mp a.nd).1 (z ▸ hb)
    · rw [List.mem_singleton.mp hb] at z
      exact nq (z ▸ List.mem_cons_self)
  refine ⟨by rw [f2, List.map_append]; rfl, ?_, ?_, a1.zh.exm (a.fr p List.mem_cons_self) m, ?_⟩
  · refine List.nodup_cons.mpr ⟨fun h => np p h rfl, List.nodup_append.mpr ⟨(List.nodup_cons.mp a.nd).2, List.nodup_cons.mpr ⟨List.not_mem_nil, List.nodup_nil⟩, fun x hx y hy z => ?_⟩⟩
    rw [List.mem_singleton.mp hy] at z
    exact nq (List.mem_cons_of_mem _ (z ▸ hx))
  · intro b hb
    rcases List.mem_cons.mp hb with rfl | hb
    · exact a.fr _ List.mem_cons_self
    · rcases List.mem_append.mp hb with hb | hb
      · exact a.fr b (List.mem_cons_of_mem _ hb)
      · rw [List.mem_singleton.mp hb]
        exact Ex.back a.zh hq
  · have h := a1.rows
    have n' : ∀ b ∈ qs, b ≠ p := fun b hb => np b (List.mem_append_left _ hb)
    refine paired_snoc ?_ ⟨vs, m _ _ (np q (List.mem_append_right _ List.mem_cons_self)) f, pr⟩
    clear a a1 nq np hz k f2
    induction h with
    | nil => exact .nil
    | cons h t ih => exact .cons (by obtain ⟨vs, h1, h2⟩ := h; exact ⟨vs, m _ _ (n' _ List.mem_cons_self) h1, h2⟩) (ih fun q hq => n' q (List.mem_cons_of_mem _ hq))
theorem RW.push' {m : ExM q H H'} {F : Addr → List α → Prop} {G : Addr → List α → Prop} (hF : ∀ b r, b ≠ q → F b r → G b r) : ∀ {qs : List Addr} {rs : List (List α)} {i : Nat} {r' : List α}, Paired F qs rs → qs.Nodup → qs[i]? = some q → G q r' → Paired G qs (rs.set i r')
  | [], _, i, r', .nil, _, h, _ => by simp at h
  | b :: qs, r :: rs, 0, r', .cons a t, nd, h, g => by
    cases h
    refine .cons g ?_
    have nb := (List.nodup_cons.mp nd).1
    clear nd
    induction t with
    | nil => exact .nil
    | cons a2 t2 ih => exact .cons (hF _ _ (fun z => nb (z ▸ List.mem_cons_self)) a2) (ih fun z => nb (List.mem_cons_of_mem _ z))
  | b :: qs, r :: rs, i + 1, r', .cons a t, nd, h, g => by
    have nb : b ≠ q := fun z => (List.nodup_cons.mp nd).1 (z ▸ List.mem_of_getElem? h)
    exact .cons (hF _ _ nb a) (RW.push' (m := m) hF t (List.nodup_cons.mp nd).2 h g)
/-- one more thing in a row -/
theorem n_pushRW {v : V} {x : α} {i : Nat} {r : List α} (a : RW K Z H p qs rs) (hi : qs[i]? = some q) (hr : rs[i]? = some r) (hv : Is K Z v x) (hz : r.length < 100000)
    (k : ∀ H2, ExM q H H2 → RW K Z H2 p qs (rs.set i (r ++ [x])) → Q .non H2) : rAppend (.ref q) [v] H Q := by
  obtain ⟨r', vs, h1, h2, h3⟩ := a.at hi
  rw [hr] at h1
  cases h1
  have hm := List.mem_of_getElem? hi
  refine n_app h2 (by rw [Paired.length h3]; exact hz) fun H2 m f2 => k H2 m ?_
  have nq : p ≠ q := fun z => (List.nodup_cons.mp a.nd).1 (z ▸ hm)
  refine ⟨m _ _ nq a.own, a.nd, a.fr, a.zh.exm (a.fr q (List.mem_cons_of_mem _ hm)) m, ?_⟩
  exact RW.push' (m := m) (fun b r nb ⟨vs, g1, g2⟩ => ⟨vs, m _ _ nb g1, g2⟩) a.rows (List.nodup_cons.mp a.nd).2 hi ⟨_, f2, Paired.snoc h3 hv⟩
theorem s_lenRW (a : RW K Z H p qs rs) (e : Ex H H1) (k : Q (.int (rs.length : Int)) H1) : rLen K [.ref p] H1 Q := by
  refine s_lenL (e.sq a.sq) ?_
  rw [List.length_map, a.len]
  exact k
theorem s_ixRW {i : Int} (a : RW K Z H p qs rs) (h : 0 ≤ i ∧ i < rs.length) (k : ∀ q, qs[i.toNat]? = some q → Q (.ref q) H) : rIx K (.ref p) (.int i) H Q := by
  have hl : i.toNat < qs.length := by have := a.len; omega
  exact .inl ⟨p, _, i, _, rfl, rfl, sq_of a.own, atI_lt h.1 (by rw [List.getElem?_map, List.getElem?_eq_getElem hl]; rfl), k _ (List.getElem?_eq_getElem hl)⟩
end
section
variable {K : PySem.W.Frag} {σ : L2.St} {H : Hp} {te : TE} {Q : VK} {g : TG} {vs : List Nat}
/-- a comprehension of new lists -/
theorem lc_new {J : It} {n : Nat} (xs : Nat → V) (F : Nat → List V)
    (hgo : ∀ i H', i < n → Ex H H' → J.go i H') (hst : ∀ H', Ex H H' → J.stop n H') (hy : ∀ i v H0 H', i < n → Ex H H0 → J.yld i H0 v H' → H' = H0 ∧ v = xs i)
    (turn : ∀ i, i < n → ∀ H', Ex H H' → ∀ A : VK, (∀ q H4, H' q = none → Ex H' H4 → H4 q = some (.lst (F i)) → A (.ref q) H4) →
      g (xs i) (wipe σ vs) H' fun σ2 H2 => wipe σ2 vs = wipe σ vs ∧ te σ2 H2 A)
    (hz : n ≤ 40000)
    (fin : ∀ (D : Addr) (qs : List Addr) (H' : Hp), (D :: qs).Nodup → (∀ q ∈ D :: qs, H q = none) → Ex H H' → H' D = some (.lst (qs.map V.ref)) → qs.length = n → (∀ i q, qs[i]? = some q → H' q = some (.lst (F i))) → Q (.ref D) H') : LcJ g tYes te vs σ J H Q := by
  intro D hD
  refine ⟨fun i m H' => m = n - i ∧ i ≤ n ∧ Ex H H' ∧ ∃ qs : List Addr, (D :: qs).Nodup ∧ (∀ q ∈ D :: qs, H q = none) ∧ H' D = some (.lst (qs.map V.ref)) ∧ qs.length = i ∧ ∀ i q, qs[i]? = some q → H' q = some (.lst (F i)),
    ⟨n, by omega, by omega, Ex.new hD, [], List.nodup_cons.mpr ⟨List.not_mem_nil, List.nodup_nil⟩, fun q hq => by rw [List.mem_singleton.mp hq]; exact hD, upd_same, rfl, fun i q h => by simp at h⟩, ?_⟩
  rintro i m H' ⟨rfl, hi, e, qs, nd, nn, ho, hln, ha⟩
  by_cases hlt : i < n
  · refine .inr ⟨hgo i H' hlt e, fun H'' => i + 1 ≤ n ∧ Ex H H'' ∧ ∃ qs : List Addr, (D :: qs).Nodup ∧ (∀ q ∈ D :: qs, H q = none) ∧ H'' D = some (.lst (qs.map V.ref)) ∧ qs.length = i + 1 ∧ ∀ i q, qs[i]? = some q → H'' q = some (.lst (F i)), fun H'' q => ⟨n - (i + 1), by omega, rfl, q⟩, fun v H2 y => ?_⟩
    obtain ⟨rfl, rfl⟩ := hy i v H' H2 hlt e y
    have e2 : ∀ (A : VK) (B : Hp → Prop), (fun (σ2 : L2.St) H3 => wipe σ2 vs = wipe σ vs ∧ tYes σ2 H3 fun b H4 => if b = true then te σ2 H4 A else B H4) = fun σ2 H3 => wipe σ2 vs = wipe σ vs ∧ te σ2 H3 A := fun A B => by
      funext σ2 H3
      show (_ ∧ if true = true then te σ2 H3 A else B H3) = _
      rw [if_pos rfl]
    rw [e2]
    refine turn i hlt H2 e _ fun q H4 hq e4 f4 => ?_
    have sm : ∀ b ∈ D :: qs, ∃ o, H2 b = some o := fun b hb => by
      rcases List.mem_cons.mp hb with rfl | hb
      · exact ⟨_, ho⟩
      · obtain ⟨j, hj⟩ := List.mem_iff_getElem?.mp hb
        exact ⟨_, ha j b hj⟩
    have nq : q ∉ D :: qs := fun hb => by
      obtain ⟨o, h⟩ := sm q hb
      rw [hq] at h
      cases h
    have nD : q ≠ D := fun z => nq (z ▸ List.mem_cons_self)
    have m5 : Ex H (upd H4 D (.lst (qs.map V.ref ++ [.ref q]))) := Ex.mut (e.trans e4) hD
    refine ⟨_, e4 _ _ ho, sz_lt (by rw [List.length_map]; omega), by omega, m5, qs ++ [q], ?_, ?_, by rw [upd_same, List.map_append]; rfl, by rw [List.length_append, hln]; rfl, fun j b hj => ?_⟩
    · rw [← List.cons_append]
      refine List.nodup_append.mpr ⟨nd, List.nodup_cons.mpr ⟨List.not_mem_nil, List.nodup_nil⟩, fun x hx y hy z => ?_⟩
      rw [List.mem_singleton.mp hy] at z
      exact nq (z ▸ hx)
    · intro b hb
      rw [← List.cons_append] at hb
      rcases List.mem_append.mp hb with hb | hb
      · exact nn b hb
      · rw [List.mem_singleton.mp hb]
        exact Ex.back e hq
    · rw [List.getElem?_append] at hj
      split at hj
      · have nb : b ≠ D := fun z => (List.nodup_cons.mp nd).1 (z ▸ List.mem_of_getElem? hj)
        rw [upd_ne nb]
        exact e4 _ _ (ha j b hj)
      · rename_i hge
        have ej : j = qs.length := by
          have := (List.getElem?_eq_some_iff.mp hj).1
          rw [List.length_singleton] at this
          omega
        subst ej
        rw [Nat.sub_self] at hj
        cases hj
        rw [upd_ne nD, hln]
        exact f4
  · have ei : i = n := by omega
    subst ei
    exact .inl ⟨hst H' e, fin D qs H' nd nn e ho hln ha⟩
theorem u_lcR1N {n : Int} (F : Nat → List V) (hz : 0 ≤ n ∧ n ≤ 40000)
    (turn : ∀ i : Nat, (i : Int) < n → ∀ H', Ex H H' → ∀ A : VK, (∀ q H4, H' q = none → Ex H' H4 → H4 q = some (.lst (F i)) → A (.ref q) H4) →
      g (.int (i : Int)) (wipe σ vs) H' fun σ2 H2 => wipe σ2 vs = wipe σ vs ∧ te σ2 H2 A)
    (fin : ∀ (D : Addr) (qs : List Addr) (H' : Hp), (D :: qs).Nodup → (∀ q ∈ D :: qs, H q = none) → Ex H H' → H' D = some (.lst (qs.map V.ref)) → qs.length = n.toNat → (∀ i q, qs[i]? = some q → H' q = some (.lst (F i))) → Q (.ref D) H') : LcR1 g tYes te vs σ [.int n] H Q := by
  have e62 : (2 : Int) ^ 62 = 4611686018427387904 := by decide
  refine ⟨n, rfl, by omega, by omega, lc_new (n := n.toNat) (fun i => .int (i : Int)) F (fun i H' hi e => hi) (fun H' e => Nat.le_refl _) (fun i v H0 H' hi e y => ?_) (fun i hi H' e A k => turn i (by omega) H' e A k) (by omega) fin⟩
  obtain ⟨rfl, rfl⟩ := y
  exact ⟨rfl, by rw [Int.zero_add]⟩
theorem paired_of {β γ : Type} {F : β → γ → Prop} : ∀ {xs : List β} {ys : List γ}, xs.length = ys.length → (∀ (i : Nat) (x : β) (y : γ), xs[i]? = some x → ys[i]? = some y → F x y) → Paired F xs ys
  | [], [], _, _ => .nil
  | x :: xs, y :: ys, h, f => .cons (f 0 x y rfl rfl) (paired_of (by simpa using h) fun i a b ha hb => f (i + 1) a b ha hb)
/-- .. are rows -/
theorem RW.of {K : PySem.W.Frag} {H H' : Hp} {D : Addr} {qs : List Addr} {α : Type} [Py α] {rs : List (List α)} {F : Nat → List V} (nd : (D :: qs).Nodup) (nn : ∀ q ∈ D :: qs, H q = none) (e : Ex H H') (ho : H' D = some (.lst (qs.map V.ref))) (hl : qs.length = rs.length)
    (ha : ∀ i q, qs[i]? = some q → H' q = some (.lst (F i))) (hp : ∀ i r, rs[i]? = some r → Paired (fun v x => Is K H v x) (F i) r) : RW K H H' D qs rs :=
  ⟨ho, nd, nn, e, paired_of hl fun i q r h1 h2 => ⟨_, ha i q h1, hp i r h2⟩⟩
theorem ints_pair {K : PySem.W.Frag} {H : Hp} : ∀ {xs : List Int}, Paired (fun v x => Is K H v x) (xs.map V.int) xs
  | [] => .nil
  | _ :: _ => .cons (Is.int _) ints_pair
theorem RW.ints {K : PySem.W.Frag} {Z Z' H : Hp} {p : Addr} {qs : List Addr} {rs : List (List Int)} (a : RW K Z H p qs rs) (e : Ex Z' H) (n : ∀ q ∈ p :: qs, Z' q = none) : RW K Z' H p qs rs :=
  ⟨a.own, a.nd, n, e, Paired.mapP a.rows fun q r ⟨vs, h1, h2⟩ => ⟨vs, h1, by rw [pair_ints h2]; exact ints_pair⟩⟩
end
section
variable {K : PySem.W.Frag} {σ : L2.St} {H : Hp} {te : TE} {Q : VK} {g : TG} {vs : List Nat}
theorem zip_fst {β γ : Type} : ∀ {xs : List β} {ys : List γ}, xs.length = ys.length → (xs.zip ys).map Prod.fst = xs
  | [], [], _ => rfl
  | _ :: xs, _ :: ys, h => congrArg _ (zip_fst (xs := xs) (ys := ys) (by simpa using h))
theorem zip_mem {β γ : Type} {F : β → γ → Prop} : ∀ {xs : List β} {ys : List γ}, Paired F xs ys → ∀ p ∈ xs.zip ys, F p.1 p.2 ∧ p.2 ∈ ys
  | _, _, .nil, _, h => nomatch h
  | _, _, .cons a t, p, h => by
    rcases List.mem_cons.mp h with rfl | h
    · exact ⟨a, List.mem_cons_self⟩
    · obtain ⟨h1, h2⟩ := zip_mem t p h
      exact ⟨h1, List.mem_cons_of_mem _ h2⟩
theorem zip_paired {β γ δ ε : Type} {F : ε → δ → Prop} (f : γ → δ) : ∀ {xs : List β} {ys : List γ} {zs : List ε}, xs.length = ys.length → Paired (fun p z => F z (f p.2)) (xs.zip ys) zs → Paired F zs (ys.map f)
  | [], [], _, _, .nil => .nil
  | _ :: _, _ :: _, _, h, .cons a t => .cons a (zip_paired f (by simpa using h) t)
/-- a comprehension over data, each turn told by a function of the thing -/
theorem u_mapD {β γ : Type} [Py β] [Py γ] {a : Addr} {xs : List β} (f : β → γ) (h : Is K H (.ref a) xs) (hz : xs.length ≤ 40000)
    (turn : ∀ v x, x ∈ xs → ∀ D H', Ex H H' → H D = none → (∃ o, H' D = some o) → Is K H v x → ∀ A : VK, (∀ y H4, Ex H' H4 → (∀ Z, ExM D H4 Z → Ex H Z → Is K Z y (f x)) → A y H4) →
      g v (wipe σ vs) H' fun σ2 H2 => wipe σ2 vs = wipe σ vs ∧ te σ2 H2 A)
    (fin : ∀ D ys H', H D = none → Ex H H' → H' D = some (.lst ys) → Is K H' (.ref D) (xs.map f) → Q (.ref D) H') : LcL K g tYes te vs σ (.ref a) H Q := by
  obtain ⟨b, us, e, h1, h2⟩ := h.list
  cases e
  have hl := Paired.length h2
  refine u_lcLR Prod.fst (us.zip xs) (fun _ => true) (fun p y H => Is K H y (f p.2)) (fun _ _ _ _ e h => Is.ex e h) (by rw [zip_fst hl]; exact h1) (by rw [List.length_zip]; omega) (fun D hD p hp H' e o A B hA hB => ?_) (fun D H' ys hD e f2 pr => ?_)
  · obtain ⟨g1, g2⟩ := zip_mem h2 p hp
    have e2 : (fun (σ2 : L2.St) H2 => wipe σ2 vs = wipe σ vs ∧ tYes σ2 H2 fun b H3 => if b = true then te σ2 H3 A else B H3) = fun σ2 H2 => wipe σ2 vs = wipe σ vs ∧ te σ2 H2 A := by
      funext σ2 H2
      show (_ ∧ if true = true then te σ2 H2 A else B H2) = _
      rw [if_pos rfl]
    rw [e2]
    exact turn _ p.2 g2 D H' e hD o g1 A (fun y H4 e4 k => hA rfl y H4 e4 k)
  · rw [filter_yes] at pr
    exact fin D ys H' hD e f2 (Is.of_list (sq_of f2) (zip_paired (F := fun z d => Is K H' z d) f hl pr))
theorem paired_append {β γ : Type} {F : β → γ → Prop} : ∀ {xs : List β} {ys : List γ} {zs : List β} {ws : List γ}, Paired F xs ys → Paired F zs ws → Paired F (xs ++ zs) (ys ++ ws)
  | _, _, _, _, .nil, h => h
  | _, _, _, _, .cons a t, h => .cons a (paired_append t h)
theorem paired_reverse {β γ : Type} {F : β → γ → Prop} : ∀ {xs : List β} {ys : List γ}, Paired F xs ys → Paired F xs.reverse ys.reverse
  | _, _, .nil => .nil
  | _, _, .cons a t => by rw [List.reverse_cons, List.reverse_cons]; exact paired_append (paired_reverse t) (.cons a .nil)
theorem n_revIs {β : Type} [Py β] {a : Addr} {xs : List β} (h : Is K H (.ref a) xs) (q : ∀ p H', H p = none → Ex H H' → Is K H' (.ref p) xs.reverse → Q (.ref p) H') : rRevL K (.ref a) H Q := by
  obtain ⟨b, us, e, h1, h2⟩ := h.list
  cases e
  exact n_rev h1 fun p H' n e f => q p H' n e (Is.of_list (sq_of f) (paired_reverse (Paired.mapP h2 fun v x g => Is.ex e g)))
end
theorem zip_map_snd {β γ δ : Type} (f : γ → δ) : ∀ {xs : List β} {ys : List γ}, xs.length = ys.length → (xs.zip ys).map (fun p => f p.2) = ys.map f
  | [], [], _ => rfl
  | _ :: xs, _ :: ys, h => congrArg _ (zip_map_snd f (xs := xs) (ys := ys) (by simpa using h))
section
variable {K : PySem.W.Frag} {σ : L2.St} {H : Hp} {tt : TT} {te : TE} {Q : VK} {g : TG} {vs : List Nat}
/-- a comprehension over data: numbers -/
theorem u_mapDI {β : Type} [Py β] {a : Addr} {xs : List β} (f : β → Int) (h : Is K H (.ref a) xs) (hz : xs.length ≤ 40000)
    (turn : ∀ v x, x ∈ xs → ∀ H', Ex H H' → Is K H v x → ∀ A : VK, (∀ H4, Ex H' H4 → A (.int (f x)) H4) → g v (wipe σ vs) H' fun σ2 H2 => wipe σ2 vs = wipe σ vs ∧ te σ2 H2 A)
    (fin : ∀ D H', H D = none → Ex H H' → H' D = some (.lst ((xs.map f).map V.int)) → Q (.ref D) H') : LcL K g tYes te vs σ (.ref a) H Q := by
  obtain ⟨b, us, e, h1, h2⟩ := h.list
  cases e
  have hl := Paired.length h2
  refine u_mapLI Prod.fst (us.zip xs) (fun p => f p.2) (by rw [zip_fst hl]; exact h1) (by rw [List.length_zip]; omega) (fun p hp H' e A hA => ?_) (fun D H' n e f' => ?_)
  · obtain ⟨g1, g2⟩ := zip_mem h2 p hp
    exact turn _ p.2 g2 H' e g1 A hA
  · refine fin D H' n e ?_
    rw [f']
    congr 3
    exact zip_map_snd f hl
/-- .. and one of which nothing is kept -/
theorem u_noneD {β : Type} [Py β] {a : Addr} {xs : List β} (h : Is K H (.ref a) xs) (hz : xs.length ≤ 40000)
    (turn : ∀ v x, x ∈ xs → ∀ H', Ex H H' → Is K H v x → ∀ (A : VK) (B : Hp → Prop), (∀ H3, Ex H' H3 → B H3) → g v (wipe σ vs) H' fun σ2 H2 => wipe σ2 vs = wipe σ vs ∧ tt σ2 H2 fun b H3 => if b = true then te σ2 H3 A else B H3)
    (fin : ∀ D H', H D = none → Ex H H' → H' D = some (.lst []) → Q (.ref D) H') : LcL K g tt te vs σ (.ref a) H Q := by
  obtain ⟨b, us, e, h1, h2⟩ := h.list
  cases e
  have hl := Paired.length h2
  refine u_lcL Prod.fst (us.zip xs) (fun _ => false) (fun p => p.1) (by rw [zip_fst hl]; exact h1) (by rw [List.length_zip]; omega) (fun p hp H' e A B hA hB => ?_) (fun D H' n e f' => ?_)
  · obtain ⟨g1, g2⟩ := zip_mem h2 p hp
    exact turn _ p.2 g2 H' e g1 A B (hB rfl)
  · refine fin D H' n e ?_
    rw [f', List.filter_eq_nil_iff.mpr (fun _ _ => Bool.false_ne_true)]
    rfl
end
section
variable {K : PySem.W.Frag} {H : Hp} {Q : VK}
theorem paired_drop {β γ : Type} {F : β → γ → Prop} : ∀ {xs : List β} {ys : List γ} (n : Nat), Paired F xs ys → Paired F (xs.drop n) (ys.drop n)
  | _, _, 0, h => h
  | _, _, _ + 1, .nil => .nil
  | _, _, n + 1, .cons _ t => paired_drop n t
theorem paired_take {β γ : Type} {F : β → γ → Prop} : ∀ {xs : List β} {ys : List γ} (n : Nat), Paired F xs ys → Paired F (xs.take n) (ys.take n)
  | _, _, 0, _ => by rw [List.take_zero, List.take_zero]; exact .nil
  | _, _, _ + 1, .nil => .nil
  | _, _, n + 1, .cons a t => .cons a (paired_take n t)
theorem paired_cut {β γ : Type} {F : β → γ → Prop} {xs : List β} {ys : List γ} (h : Paired F xs ys) (lo hi : Option Int) : Paired F (cutI xs lo hi) (cutI ys lo hi) := by
  unfold cutI
  rw [Paired.length h]
  exact paired_take _ (paired_drop _ h)
theorem n_slIs {β : Type} [Py β] {a : Addr} {xs : List β} {lo hi : Option Int} (h : Is K H (.ref a) xs) (q : ∀ p H', H p = none → Ex H H' → Is K H' (.ref p) (cutI xs lo hi) → Q (.ref p) H') : rSlL K (.ref a) lo hi H Q := by
  obtain ⟨b, us, e, h1, h2⟩ := h.list
  cases e
  refine n_slL h1 fun p H' n e f => q p H' n e (Is.of_list (sq_of f) ?_)
  exact paired_cut (Paired.mapP h2 fun v x g => Is.ex e g) lo hi
end
section
variable {K : PySem.W.Frag} {σ : L2.St} {H : Hp} {te : TE} {Q : VK} {g : TG} {vs : List Nat}
theorem lc_handP (Pk : Int → Prop) {J : It} {n : Nat} {Z : Hp} {h : Addr} {C c R : Nat} (xs : Nat → V) (hh : Hand K Z H h C) (hC : R + c * n ≤ C)
    (hgo : ∀ i H', i < n → ExM h H H' → J.go i H') (hst : ∀ H', ExM h H H' → J.stop n H') (hy : ∀ i v H0 H', i < n → ExM h H H0 → J.yld i H0 v H' → H' = H0 ∧ v = xs i)
    (turn : ∀ i, i < n → ∀ D H' R', ExM h H H' → H D = none → Hand K Z H' h (R' + c) → ∀ A : VK, (∀ k H4, Pk k → ExM h H' H4 → Hand K Z H4 h R' → A (.int k) H4) →
      g (xs i) (wipe σ vs) H' fun σ2 H2 => wipe σ2 vs = wipe σ vs ∧ te σ2 H2 A)
    (hz : n ≤ 40000)
    (fin : ∀ (D : Addr) (ns : List Int) (H' : Hp), H D = none → ExM h H H' → Hand K Z H' h R → H' D = some (.lst (ns.map V.int)) → ns.length = n → (∀ k ∈ ns, Pk k) → Q (.ref D) H') : LcJ g tYes te vs σ J H Q := by
  intro D hD
  have nD : D ≠ h := hand_ne0 hD hh
  have nZ : Z D = none := Ex.back hh.z hD
  refine ⟨fun i m H' => m = n - i ∧ i ≤ n ∧ ExM h H H' ∧ Hand K Z H' h (R + c * (n - i)) ∧ ∃ ns : List Int, H' D = some (.lst (ns.map V.int)) ∧ ns.length = i ∧ ∀ k ∈ ns, Pk k, ⟨n, by omega, by omega, (Ex.new hD).toM, (hh.ex (Ex.new hD)).mono (by simpa using hC), [], upd_same, rfl, fun _ h => nomatch h⟩, ?_⟩
  rintro i m H' ⟨rfl, hi, e, hh', ns, hns, hln, hpk⟩
  by_cases hlt : i < n
  · refine .inr ⟨hgo i H' hlt e, fun H'' => i + 1 ≤ n ∧ ExM h H H'' ∧ Hand K Z H'' h (R + c * (n - (i + 1))) ∧ ∃ ns : List Int, H'' D = some (.lst (ns.map V.int)) ∧ ns.length = i + 1 ∧ ∀ k ∈ ns, Pk k, fun H'' q => ⟨n - (i + 1), by omega, rfl, q⟩, fun v H2 y => ?_⟩
    obtain ⟨rfl, rfl⟩ := hy i v H' H2 hlt e y
    have e2 : ∀ (A : VK) (B : Hp → Prop), (fun (σ2 : L2.St) H3 => wipe σ2 vs = wipe σ vs ∧ tYes σ2 H3 fun b H4 => if b = true then te σ2 H4 A else B H4) = fun σ2 H3 => wipe σ2 vs = wipe σ vs ∧ te σ2 H3 A := fun A B => by
      funext σ2 H3
      show (_ ∧ if true = true then te σ2 H3 A else B H3) = _
      rw [if_pos rfl]
    rw [e2]
    have ec : R + c * (n - i) = R + c * (n - (i + 1)) + c := by
      rw [show n - i = (n - (i + 1)) + 1 by omega, Nat.mul_succ]
      omega
    rw [ec] at hh'
    refine turn i hlt D H2 _ e hD hh' _ fun k H4 pk m4 hh4 => ?_
    have m5 : ExM h H (upd H4 D (.lst (ns.map V.int ++ [.int k]))) := fun b o nb q => by
      rw [upd_ne (ne_of_none q hD)]
      exact (e.trans m4) b o nb q
    refine ⟨_, m4 _ _ nD hns, sz_lt (by rw [List.length_map]; omega), by omega, m5, hh4.exm ExM.upd (Ne.symm nD) nZ, ns ++ [k], by rw [upd_same, List.map_append]; rfl, by rw [List.length_append, hln]; rfl, fun x hx => by
      rcases List.mem_append.mp hx with hx | hx
      · exact hpk x hx
      · rw [List.mem_singleton.mp hx]; exact pk⟩
  · have ei : i = n := by omega
    subst ei
    exact .inl ⟨hst H' e, fin D ns H' hD e (hh'.mono (by omega)) hns hln hpk⟩
theorem u_lcR1HP (Pk : Int → Prop) {n : Int} {Z : Hp} {h : Addr} {C : Nat} (R c : Nat) (hh : Hand K Z H h C) (hC : R + c * n.toNat ≤ C) (hz : 0 ≤ n ∧ n ≤ 40000)
    (turn : ∀ i : Nat, (i : Int) < n → ∀ D H' R', ExM h H H' → H D = none → Hand K Z H' h (R' + c) → ∀ A : VK, (∀ k H4, Pk k → ExM h H' H4 → Hand K Z H4 h R' → A (.int k) H4) →
      g (.int (i : Int)) (wipe σ vs) H' fun σ2 H2 => wipe σ2 vs = wipe σ vs ∧ te σ2 H2 A)
    (fin : ∀ (D : Addr) (ns : List Int) (H' : Hp), H D = none → ExM h H H' → Hand K Z H' h R → H' D = some (.lst (ns.map V.int)) → ns.length = n.toNat → (∀ k ∈ ns, Pk k) → Q (.ref D) H') : LcR1 g tYes te vs σ [.int n] H Q := by
  have e62 : (2 : Int) ^ 62 = 4611686018427387904 := by decide
  refine ⟨n, rfl, by omega, by omega, lc_handP Pk (n := n.toNat) (c := c) (R := R) (fun i => .int (i : Int)) hh hC (fun i H' hi e => hi) (fun H' e => Nat.le_refl _) (fun i v H0 H' hi e y => ?_) (fun i hi D H' R' e hD hh' A k => turn i (by omega) D H' R' e hD hh' A k) (by omega) fin⟩
  obtain ⟨rfl, rfl⟩ := y
  exact ⟨rfl, by rw [Int.zero_add]⟩
end
section
variable {K : PySem.W.Frag} {σ : L2.St} {H : Hp} {tt : TT} {te : TE} {Q : VK} {g : TG} {vs : List Nat}
/-- numbers of two lists side by side -/
theorem u_mapZI {a b : Addr} {xs ys : List Int} (f : Int → Int → Int) (hx : SqL K H a (xs.map V.int)) (hy : SqL K H b (ys.map V.int)) (hl : xs.length = ys.length) (hz : xs.length ≤ 40000)
    (turn : ∀ x y, x ∈ xs → y ∈ ys → ∀ T H', Ex H H' → H' T = some (.tup [.int x, .int y]) → ∀ A : VK, (∀ H4, Ex H' H4 → A (.int (f x y)) H4) → g (.ref T) (wipe σ vs) H' fun σ2 H2 => wipe σ2 vs = wipe σ vs ∧ te σ2 H2 A)
    (fin : ∀ D H', H D = none → Ex H H' → H' D = some (.lst (((xs.zip ys).map fun p => f p.1 p.2).map V.int)) → Q (.ref D) H') : LcZ K g tYes te vs σ [.ref a, .ref b] H Q := by
  have len : (xs.zip ys).length = xs.length := by rw [List.length_zip]; omega
  refine ⟨a, b, _, _, rfl, hx, hy, lc_turns (xs.zip ys) (fun _ => true) (fun p y _ => y = .int (f p.1 p.2)) (fun _ _ _ _ _ r => r) (by omega) (fun i H' hi e => ?_) (fun H' e => ⟨_, _, e.sq hx, e.sq hy, .inl (by rw [List.length_map]; omega)⟩)
    (fun D hD i p hp v H0 H' e _ hv => ?_) (fun D H' ws hD e h pr => fin D H' hD e (by rw [h, pair_map pr, filter_yes, List.map_map]; rfl))⟩
  · exact ⟨_, _, .int (xs[i]'(by omega)), .int (ys[i]'(by omega)), e.sq hx, e.sq hy, by rw [List.getElem?_map, List.getElem?_eq_getElem (by omega)]; rfl, by rw [List.getElem?_map, List.getElem?_eq_getElem (by omega)]; rfl⟩
  · obtain ⟨T, x, y, rfl, nT, rfl, gx, gy⟩ := hv
    have gx := gx _ (e.sq hx)
    have gy := gy _ (e.sq hy)
    obtain ⟨x', rfl, hx'⟩ := at_ints gx
    obtain ⟨y', rfl, hy'⟩ := at_ints gy
    have ep : p = (x', y') := by
      rw [List.getElem?_zip_eq_some.mpr (show xs[i]? = some (x', y').1 ∧ ys[i]? = some (x', y').2 from ⟨hx', hy'⟩)] at hp
      exact (Option.some.inj hp).symm
    subst ep
    refine ⟨Ex.new nT, fun A B h1 h2 => ?_⟩
    have e2 : (fun (σ2 : L2.St) H2 => wipe σ2 vs = wipe σ vs ∧ tYes σ2 H2 fun b H3 => if b = true then te σ2 H3 A else B H3) = fun σ2 H2 => wipe σ2 vs = wipe σ vs ∧ te σ2 H2 A := by
      funext σ2 H2
      show (_ ∧ if true = true then te σ2 H2 A else B H2) = _
      rw [if_pos rfl]
    rw [e2]
    exact turn x' y' (List.mem_of_getElem? hx') (List.mem_of_getElem? hy') T _ (e.trans (Ex.new nT)) upd_same A fun H4 e4 => h1 rfl _ H4 e4 fun _ _ _ => rfl
/-- targets one behind another -/
theorem g_n {R : L2.St → Hp → Prop} : (fun (σ : L2.St) H => gNil [] σ H R) = R := by
  funext σ H
  exact propext ⟨fun z => z.2, fun z => ⟨rfl, z⟩⟩
theorem g_c {g : TG} {rest : List V → L2.St → Hp → (L2.St → Hp → Prop) → Prop} {y : V} {ys : List V} {R : L2.St → Hp → Prop} : gCons g rest (y :: ys) σ H R = g y σ H (fun σ1 H1 => rest ys σ1 H1 R) := by
  refine propext ⟨fun z => ?_, fun z => ⟨y, ys, rfl, z⟩⟩
  obtain ⟨y', r', e, z⟩ := z
  cases e
  exact z
theorem s_gt3 {b : Addr} {x y z : V} {g1 g2 g3 : TG} {R : L2.St → Hp → Prop} (h : SqT K H b [x, y, z]) (q : g1 x σ H fun σ1 H1 => g2 y σ1 H1 fun σ2 H2 => g3 z σ2 H2 R) : gTup K 3 (gCons g1 (gCons g2 (gCons g3 gNil))) (.ref b) σ H R := by
  refine ⟨b, _, rfl, h, rfl, ?_⟩
  rw [g_c]
  simp only [g_c, g_n]
  exact q
/-- a value that is a list of numbers of its own -/
def Lp (H : Hp) (v : V) (r : List Int) : Prop := ∃ a, v = .ref a ∧ H a = some (.lst (r.map V.int))
theorem Lp.ex {H H' : Hp} {v : V} {r : List Int} (e : Ex H H') (h : Lp H v r) : Lp H' v r := by
  obtain ⟨a, h1, h2⟩ := h
  exact ⟨a, h1, e _ _ h2⟩
theorem Lp.is {v : V} {r : List Int} (h : Lp H v r) : Is K H v r := by
  obtain ⟨a, rfl, h2⟩ := h
  exact Is.ints (sq_of h2)
end
theorem paired_flip {γ δ ε : Type} {F : ε → δ → Prop} (f : γ → δ) : ∀ {xs : List γ} {zs : List ε}, Paired (fun p z => F z (f p)) xs zs → Paired F zs (xs.map f)
  | _, _, .nil => .nil
  | _, _, .cons a t => .cons a (paired_flip f t)
section
variable {K : PySem.W.Frag} {σ : L2.St} {H : Hp} {tt : TT} {te : TE} {Q : VK} {g : TG} {vs : List Nat}
theorem lc_yes {A : VK} {B : Hp → Prop} : (fun (σ2 : L2.St) H2 => wipe σ2 vs = wipe σ vs ∧ tYes σ2 H2 fun b H3 => if b = true then te σ2 H3 A else B H3) = fun σ2 H2 => wipe σ2 vs = wipe σ vs ∧ te σ2 H2 A := by
  funext σ2 H2
  show (_ ∧ if true = true then te σ2 H2 A else B H2) = _
  rw [if_pos rfl]
/-- lists of numbers out of lists of numbers -/
theorem u_mapLp {a : Addr} {ys : List V} {ps : List (List Int)} (f : List Int → List Int) (h : SqL K H a ys) (pr : Paired (Lp H) ys ps) (hz : ps.length ≤ 40000)
    (turn : ∀ v p, p ∈ ps → ∀ D H', Ex H H' → H D = none → (∃ o, H' D = some o) → Lp H v p → ∀ A : VK, (∀ y H4, Ex H' H4 → (∀ Z, ExM D H4 Z → Ex H Z → Lp Z y (f p)) → A y H4) → g v (wipe σ vs) H' fun σ2 H2 => wipe σ2 vs = wipe σ vs ∧ te σ2 H2 A)
    (fin : ∀ D ws H', H D = none → Ex H H' → H' D = some (.lst ws) → Paired (Lp H') ws (ps.map f) → Q (.ref D) H') : LcL K g tYes te vs σ (.ref a) H Q := by
  have hl := Paired.length pr
  refine u_lcLR Prod.fst (ys.zip ps) (fun _ => true) (fun q y H => Lp H y (f q.2)) (fun _ _ _ _ e h => Lp.ex e h) (by rw [zip_fst hl]; exact h) (by rw [List.length_zip]; omega) (fun D hD q hq H' e o A B hA hB => ?_) (fun D H' ws hD e f2 pr2 => ?_)
  · obtain ⟨g1, g2⟩ := zip_mem pr q hq
    rw [lc_yes]
    exact turn _ q.2 g2 D H' e hD o g1 A (fun y H4 e4 k => hA rfl y H4 e4 k)
  · rw [filter_yes] at pr2
    exact fin D ws H' hD e f2 (zip_paired (F := Lp H') f hl pr2)
theorem u_mapLpI {a : Addr} {ys : List V} {ps : List (List Int)} (f : List Int → Int) (h : SqL K H a ys) (pr : Paired (Lp H) ys ps) (hz : ps.length ≤ 40000)
    (turn : ∀ v p, p ∈ ps → ∀ H', Ex H H' → Lp H v p → ∀ A : VK, (∀ H4, Ex H' H4 → A (.int (f p)) H4) → g v (wipe σ vs) H' fun σ2 H2 => wipe σ2 vs = wipe σ vs ∧ te σ2 H2 A)
    (fin : ∀ D H', H D = none → Ex H H' → H' D = some (.lst ((ps.map f).map V.int)) → Q (.ref D) H') : LcL K g tYes te vs σ (.ref a) H Q := by
  have hl := Paired.length pr
  refine u_mapLI Prod.fst (ys.zip ps) (fun q => f q.2) (by rw [zip_fst hl]; exact h) (by rw [List.length_zip]; omega) (fun q hq H' e A hA => ?_) (fun D H' n e f' => ?_)
  · obtain ⟨g1, g2⟩ := zip_mem pr q hq
    exact turn _ q.2 g2 H' e g1 A hA
  · refine fin D H' n e ?_
    rw [f']
    congr 3
    exact zip_map_snd f hl
/-- lists of numbers, one for each number of a range -/
theorem u_rangeLp {n : Int} (f : Nat → List Int) (hz : 0 ≤ n ∧ n ≤ 40000)
    (turn : ∀ i : Nat, (i : Int) < n → ∀ D H', Ex H H' → H D = none → (∃ o, H' D = some o) → ∀ A : VK, (∀ y H4, Ex H' H4 → (∀ Z, ExM D H4 Z → Ex H Z → Lp Z y (f i)) → A y H4) → g (.int (i : Int)) (wipe σ vs) H' fun σ2 H2 => wipe σ2 vs = wipe σ vs ∧ te σ2 H2 A)
    (fin : ∀ D ws H', H D = none → Ex H H' → H' D = some (.lst ws) → Paired (Lp H') ws ((List.range n.toNat).map f) → Q (.ref D) H') : LcR1 g tYes te vs σ [.int n] H Q := by
  refine u_lcR1R (fun _ => true) (fun i y H => Lp H y (f i)) (fun _ _ _ _ e h => Lp.ex e h) hz (fun D hD i hi H' e o A B hA hB => ?_) (fun D H' ws hD e f2 pr2 => ?_)
  · rw [lc_yes]
    exact turn i hi D H' e hD o A (fun y H4 e4 k => hA rfl y H4 e4 k)
  · rw [filter_yes] at pr2
    exact fin D ws H' hD e f2 (paired_flip (F := Lp H') f pr2)
end
theorem inV_bls (i : Bool) : ∀ ns : List Bool, inV (.bl i) (ns.map V.bl) = decide (i ∈ ns)
  | [] => rfl
  | n :: ns => by
    have e : inV (.bl i) ((n :: ns).map V.bl) = (eqV (.bl n) (.bl i) || inV (.bl i) (ns.map V.bl)) := rfl
    have e2 : eqV (.bl n) (.bl i) = decide (n = i) := by cases n <;> cases i <;> rfl
    rw [e, e2, inV_bls i ns]
    by_cases h : n = i
    · subst h
      simp
    · have h' : ¬ i = n := fun z => h z.symm
      simp [h, h']
theorem flat_bls : ∀ ns : List Bool, (ns.map V.bl).all flatV = true
  | [] => rfl
  | n :: ns => flat_bls ns
theorem s_inB {K : PySem.W.Frag} {H : Hp} {Q : VK} {a : Addr} {i : Bool} (ns : List Bool) (h : SqL K H a (ns.map V.bl)) (q : Q (.bl (decide (i ∈ ns))) H) : rIn K false (.bl i) (.ref a) H Q := ⟨a, _, rfl, .inl h, rfl, flat_bls ns, by
  rw [if_neg Bool.false_ne_true, inV_bls]
  exact q⟩
/-! ### pairs of numbers, sorted -/
/-- a value that is a tuple of two numbers -/
def Tp (H : Hp) (v : V) (r : Int × Int) : Prop := ∃ a, v = .ref a ∧ H a = some (.tup [.int r.1, .int r.2])
theorem Tp.ex {H H' : Hp} {v : V} {r : Int × Int} (e : Ex H H') (h : Tp H v r) : Tp H' v r := by
  obtain ⟨a, h1, h2⟩ := h
  exact ⟨a, h1, e _ _ h2⟩
theorem Tp.exm {H H' : Hp} {D : Addr} {xs : List V} {v : V} {r : Int × Int} (hD : H D = some (.lst xs)) (e : ExM D H H') (h : Tp H v r) : Tp H' v r := by
  obtain ⟨a, h1, h2⟩ := h
  refine ⟨a, h1, e _ _ (fun z => ?_) h2⟩
  rw [z, hD] at h2
  cases h2
theorem Tp.is {K : PySem.W.Frag} {H : Hp} {v : V} {r : Int × Int} (h : Tp H v r) : Is K H v r := by
  obtain ⟨a, rfl, h2⟩ := h
  exact Is.pair (st_of h2) (Is.int _) (Is.int _)
def lexI (a b : Int × Int) : Bool := decide (a.1 < b.1 ∨ (a.1 = b.1 ∧ a.2 ≤ b.2))
theorem lexI_iff {a b : Int × Int} : lexI a b = true ↔ (a.1 < b.1 ∨ (a.1 = b.1 ∧ a.2 ≤ b.2)) := decide_eq_true_iff
def sortP (l : List (Int × Int)) : List (Int × Int) := l.mergeSort lexI
theorem sortP_perm (l : List (Int × Int)) : (sortP l).Perm l := List.mergeSort_perm l _
theorem sortP_sorted (l : List (Int × Int)) : (sortP l).Pairwise (fun a b => lexI a b = true) := List.pairwise_mergeSort (le := lexI) (fun a b c h1 h2 => lexI_iff.mpr (by
  have h1 := lexI_iff.mp h1
  have h2 := lexI_iff.mp h2
  omega)) (fun a b => by
  by_cases c : lexI a b = true
  · rw [c]; rfl
  · have : lexI b a = true := lexI_iff.mpr (by
      have c : ¬ (a.1 < b.1 ∨ (a.1 = b.1 ∧ a.2 ≤ b.2)) := fun z => c (lexI_iff.mpr z)
      omega)
    rw [this, Bool.or_true]) l
theorem sortP_of {l l' : List (Int × Int)} (p : l'.Perm l) (s : l'.Pairwise (fun a b => lexI a b = true)) : l' = sortP l :=
  List.Perm.eq_of_pairwise (le := fun a b => lexI a b = true) (fun a b _ _ h1 h2 => by
    have h1 := lexI_iff.mp h1
    have h2 := lexI_iff.mp h2
    exact Prod.ext (by omega) (by omega)) s (sortP_sorted l) (p.trans (sortP_perm l).symm)
theorem sortP_len (l : List (Int × Int)) : (sortP l).length = l.length := (sortP_perm l).length_eq
theorem sortP_mem {l : List (Int × Int)} {a : Int × Int} : a ∈ sortP l ↔ a ∈ l := (sortP_perm l).mem_iff
theorem sortPA {X : Cx} {K : PySem.W.Frag} (hk : X.K = K) : CallR X (.builtin "sorted") (rSortedPO K) := hk ▸ cr_sortedPO
def keyP (H : Hp) (v : V) : Int × Int := match v with
  | .ref t => match H t with
    | some (.tup [.int i, .int j]) => (i, j)
    | _ => (0, 0)
  | _ => (0, 0)
theorem keyP_of {H : Hp} {v : V} {r : Int × Int} (h : Tp H v r) : keyP H v = r := by
  obtain ⟨a, rfl, h2⟩ := h
  show (match H a with | some (.tup [.int i, .int j]) => (i, j) | _ => (0, 0)) = r
  rw [h2]
theorem keyP_map {H : Hp} : ∀ {vs : List V} {l : List (Int × Int)}, Paired (Tp H) vs l → vs.map (keyP H) = l
  | _, _, .nil => rfl
  | _, _, .cons a t => by rw [List.map_cons, keyP_of a, keyP_map t]
theorem n_sortedP {K : PySem.W.Frag} {H : Hp} {Q : VK} {a : Addr} {vs : List V} {l : List (Int × Int)} (h : SqL K H a vs) (pr : Paired (Tp H) vs l) (q : ∀ p ws H', H p = none → Ex H H' → H' p = some (.lst ws) → Paired (Tp H') ws (sortP l) → Q (.ref p) H') : rSortedPO K [.ref a] H Q := by
  have ho : ∀ x ∈ vs, Tp H x (keyP H x) := fun x hx => by
    obtain ⟨r, _, g⟩ := pair_all pr x hx
    rw [keyP_of g]
    exact g
  refine ⟨a, vs, keyP H, rfl, h, ho, fun ys p hs hb hp => ?_⟩
  have e : ys.map (keyP H) = sortP l := by
    refine sortP_of ?_ ?_
    · rw [← keyP_map pr]
      exact hb.perm.map _
    · refine List.pairwise_map.mpr (List.Pairwise.imp (fun {x y} z => ?_) hs)
      have z := SrtO.lexB_no.mp z
      exact lexI_iff.mpr (by omega)
  refine q p ys _ hp (Ex.new hp) upd_same ?_
  rw [← e]
  have hy : ∀ x ∈ ys, Tp H x (keyP H x) := fun x hx => ho x (hb.perm.mem_iff.mp hx)
  have e2 : Ex H (upd H p (.lst ys)) := Ex.new hp
  clear e hs hb ho
  generalize upd H p (.lst ys) = H' at e2
  induction ys with
  | nil => exact .nil
  | cons y ys ih => exact .cons (Tp.ex e2 (hy y List.mem_cons_self)) (ih fun x hx => hy x (List.mem_cons_of_mem _ hx))
/-- one thing, so many times -/
theorem n_rep {H : Hp} {Q : VK} {l : Addr} {v : V} {k : Int} (h : H l = some (.lst [v])) (hk : 0 ≤ k ∧ k ≤ 100000) (q : ∀ p H', H p = none → Ex H H' → H' p = some (.lst (List.replicate k.toNat v)) → Q (.ref p) H') : rMult (.ref l) (.int k) H Q := by
  have e63 : (2 : Int) ^ 63 = 9223372036854775808 := by decide
  refine .inr (.inr ⟨l, k, [v], rfl, rfl, h, by omega, by omega, sz_of (by rw [List.length_singleton]; omega), fun p hp => ?_⟩)
  have e : (List.replicate k.toNat [v]).flatten = List.replicate k.toNat v := by
    induction k.toNat with
    | zero => rfl
    | succ n ih => rw [List.replicate_succ, List.flatten_cons, ih, List.replicate_succ]; rfl
  rw [e]
  exact q p _ hp (Ex.new hp) upd_same
/-- numbers out of pairs of numbers -/
theorem u_mapTp {K : PySem.W.Frag} {σ : L2.St} {H : Hp} {te : TE} {Q : VK} {g : TG} {vs : List Nat} {a : Addr} {ys : List V} {ps : List (Int × Int)} (f : Int × Int → Int) (h : SqL K H a ys) (pr : Paired (Tp H) ys ps) (hz : ps.length ≤ 40000)
    (turn : ∀ v p, p ∈ ps → ∀ H', Ex H H' → Tp H' v p → ∀ A : VK, (∀ H4, Ex H' H4 → A (.int (f p)) H4) → g v (wipe σ vs) H' fun σ2 H2 => wipe σ2 vs = wipe σ vs ∧ te σ2 H2 A)
    (fin : ∀ D H', H D = none → Ex H H' → H' D = some (.lst ((ps.map f).map V.int)) → Q (.ref D) H') : LcL K g tYes te vs σ (.ref a) H Q := by
  have hl := Paired.length pr
  refine u_mapLI Prod.fst (ys.zip ps) (fun q => f q.2) (by rw [zip_fst hl]; exact h) (by rw [List.length_zip]; omega) (fun q hq H' e A hA => ?_) (fun D H' n e f' => ?_)
  · obtain ⟨g1, g2⟩ := zip_mem pr q hq
    exact turn _ q.2 g2 H' e (Tp.ex e g1) A hA
  · refine fin D H' n e ?_
    rw [f']
    congr 3
    exact zip_map_snd f hl
/-- pairs of numbers, one for each number of a range -/
theorem u_rangeTp {σ : L2.St} {H : Hp} {te : TE} {Q : VK} {g : TG} {vs : List Nat} {n : Int} (f : Nat → Int × Int) (hz : 0 ≤ n ∧ n ≤ 40000)
    (turn : ∀ i : Nat, (i : Int) < n → ∀ D H', Ex H H' → H D = none → (∃ o, H' D = some o) → ∀ A : VK, (∀ y H4, Ex H' H4 → (∀ Z, ExM D H4 Z → Ex H Z → Tp Z y (f i)) → A y H4) → g (.int (i : Int)) (wipe σ vs) H' fun σ2 H2 => wipe σ2 vs = wipe σ vs ∧ te σ2 H2 A)
    (fin : ∀ D ws H', H D = none → Ex H H' → H' D = some (.lst ws) → Paired (Tp H') ws ((List.range n.toNat).map f) → Q (.ref D) H') : LcR1 g tYes te vs σ [.int n] H Q := by
  refine u_lcR1R (fun _ => true) (fun i y H => Tp H y (f i)) (fun _ _ _ _ e h => Tp.ex e h) hz (fun D hD i hi H' e o A B hA hB => ?_) (fun D H' ws hD e f2 pr2 => ?_)
  · rw [lc_yes]
    exact turn i hi D H' e hD o A (fun y H4 e4 k => hA rfl y H4 e4 k)
  · rw [filter_yes] at pr2
    exact fin D ws H' hD e f2 (paired_flip (F := Tp H') f pr2)
theorem rgV_ints (n : Int) : rgV 0 n = ((List.range n.toNat).map fun (k : Nat) => (k : Int)).map V.int := by
  unfold rgV
  rw [List.map_map, Int.sub_zero]
  exact List.map_congr_left fun k _ => by show V.int (0 + (k : Int)) = _; rw [Int.zero_add]; rfl
theorem all_true {α : Type} : ∀ l : List α, (l.map fun _ => true).all id = true
  | [] => rfl
  | _ :: l => all_true l
/-- values that are tuples of three, of four numbers -/
def Rp (H : Hp) (v : V) (t : T3 Int Int Int) : Prop := ∃ a, v = .ref a ∧ H a = some (.tup [.int t.a, .int t.b, .int t.c])
def Qp (H : Hp) (v : V) (t : T4 Int Int Int Int) : Prop := ∃ a, v = .ref a ∧ H a = some (.tup [.int t.a, .int t.b, .int t.c, .int t.d])
theorem Rp.ex {H H' : Hp} {v : V} {r : T3 Int Int Int} (e : Ex H H') (h : Rp H v r) : Rp H' v r := by
  obtain ⟨a, h1, h2⟩ := h
  exact ⟨a, h1, e _ _ h2⟩
theorem Qp.ex {H H' : Hp} {v : V} {r : T4 Int Int Int Int} (e : Ex H H') (h : Qp H v r) : Qp H' v r := by
  obtain ⟨a, h1, h2⟩ := h
  exact ⟨a, h1, e _ _ h2⟩
theorem Rp.exm {H H' : Hp} {D : Addr} {xs : List V} {v : V} {r : T3 Int Int Int} (hD : H D = some (.lst xs)) (e : ExM D H H') (h : Rp H v r) : Rp H' v r := by
  obtain ⟨a, h1, h2⟩ := h
  refine ⟨a, h1, e _ _ (fun z => ?_) h2⟩
  rw [z, hD] at h2
  cases h2
theorem Qp.exm {H H' : Hp} {D : Addr} {xs : List V} {v : V} {r : T4 Int Int Int Int} (hD : H D = some (.lst xs)) (e : ExM D H H') (h : Qp H v r) : Qp H' v r := by
  obtain ⟨a, h1, h2⟩ := h
  refine ⟨a, h1, e _ _ (fun z => ?_) h2⟩
  rw [z, hD] at h2
  cases h2
theorem Rp.is {K : PySem.W.Frag} {H : Hp} {v : V} {r : T3 Int Int Int} (h : Rp H v r) : Is K H v r := by
  obtain ⟨a, rfl, h2⟩ := h
  exact Is.three (st_of h2) (Is.int _) (Is.int _) (Is.int _)
theorem Qp.is {K : PySem.W.Frag} {H : Hp} {v : V} {r : T4 Int Int Int Int} (h : Qp H v r) : Is K H v r := by
  obtain ⟨a, rfl, h2⟩ := h
  exact Is.four (st_of h2) (Is.int _) (Is.int _) (Is.int _) (Is.int _)
theorem Is.threeI {K : PySem.W.Frag} {H : Hp} {v : V} {t : T3 Int Int Int} (h : Is K H v t) : ∃ a, v = .ref a ∧ SqT K H a [.int t.a, .int t.b, .int t.c] := by
  have h' : Dp K H v (.tuple [.int t.a, .int t.b, .int t.c]) := h
  cases h' with
  | tup s a =>
    cases a with
    | cons h1 r => cases r with
      | cons h2 r => cases r with
        | cons h3 r => cases r; cases h1; cases h2; cases h3; exact ⟨_, rfl, s⟩
theorem Is.fourI {K : PySem.W.Frag} {H : Hp} {v : V} {t : T4 Int Int Int Int} (h : Is K H v t) : ∃ a, v = .ref a ∧ SqT K H a [.int t.a, .int t.b, .int t.c, .int t.d] := by
  have h' : Dp K H v (.tuple [.int t.a, .int t.b, .int t.c, .int t.d]) := h
  cases h' with
  | tup s a =>
    cases a with
    | cons h1 r => cases r with
      | cons h2 r => cases r with
        | cons h3 r => cases r with
          | cons h4 r => cases r; cases h1; cases h2; cases h3; cases h4; exact ⟨_, rfl, s⟩
theorem s_gt4 {K : PySem.W.Frag} {σ : L2.St} {H : Hp} {b : Addr} {x y z t : V} {g1 g2 g3 g4 : TG} {R : L2.St → Hp → Prop} (h : SqT K H b [x, y, z, t]) (q : g1 x σ H fun σ1 H1 => g2 y σ1 H1 fun σ2 H2 => g3 z σ2 H2 fun σ3 H3 => g4 t σ3 H3 R) : gTup K 4 (gCons g1 (gCons g2 (gCons g3 (gCons g4 gNil)))) (.ref b) σ H R := by
  refine ⟨b, _, rfl, h, rfl, ?_⟩
  rw [g_c]
  simp only [g_c, g_n]
  exact q
theorem ixN_last (n : Nat) : ixN (n + 1) (-1) = some n := by
  unfold ixN
  rw [if_neg (by decide), if_pos (by omega)]
  congr 1
  omega
theorem set_last {α : Type} (l : List α) (x y : α) : (l ++ [x]).set l.length y = l ++ [y] := by
  rw [List.set_append_right _ _ (Nat.le_refl _), Nat.sub_self]
  rfl
theorem paired_snoc_inv {β γ : Type} {F : β → γ → Prop} : ∀ {ys : List γ} {xs : List β} {y : γ}, Paired F xs (ys ++ [y]) → ∃ us u, xs = us ++ [u] ∧ Paired F us ys ∧ F u y
  | [], _, _, .cons a .nil => ⟨[], _, rfl, .nil, a⟩
  | _ :: ys, _, _, .cons a t => by
    obtain ⟨us, u, rfl, h1, h2⟩ := paired_snoc_inv (ys := ys) t
    exact ⟨_ :: us, u, rfl, .cons a h1, h2⟩
theorem u_mapR2I {σ : L2.St} {H : Hp} {te : TE} {Q : VK} {g : TG} {vs : List Nat} {lo n : Int} (f : Nat → Int) (hz : -40000 ≤ lo ∧ lo ≤ 40000 ∧ n ≤ 40000 ∧ -40000 ≤ n ∧ n - lo ≤ 40000)
    (turn : ∀ (i : Nat), lo + (i : Int) < n → ∀ H', Ex H H' → ∀ A : VK, (∀ H4, Ex H' H4 → A (.int (f i)) H4) → g (.int (lo + (i : Int))) (wipe σ vs) H' fun σ2 H2 => wipe σ2 vs = wipe σ vs ∧ te σ2 H2 A)
    (fin : ∀ D H', H D = none → Ex H H' → H' D = some (.lst (((List.range (n - lo).toNat).map f).map V.int)) → Q (.ref D) H') : LcR2 g tYes te vs σ [.int lo, .int n] H Q :=
  u_lcR2 (fun _ => true) (fun i => .int (f i)) hz (fun i hi H' e A B h1 _ => by
    rw [lc_yes]
    exact turn i hi H' e A (h1 rfl)) (fun D H' h1 h2 h3 => fin D H' h1 h2 (by rw [h3, filter_yes, List.map_map]; rfl))
theorem s_ixLast {K : PySem.W.Frag} {H : Hp} {Q : VK} {a : Addr} {l : List Int} (h : SqL K H a (l.map V.int)) (hn : 0 < l.length) (q : ∀ v, v ∈ l → Q (.int v) H) : rIx K (.ref a) (.int (-1)) H Q := by
  have ne : l ≠ [] := fun z => by rw [z] at hn; cases hn
  obtain ⟨r, x, rfl⟩ : ∃ r x, l = r ++ [x] := ⟨l.dropLast, l.getLast ne, (List.dropLast_concat_getLast ne).symm⟩
  refine s_ixL h (v := .int x) (by rw [List.map_append]; exact atI_last _ _) (q x (List.mem_append_right _ List.mem_cons_self))
/-! ### a dict of counts -/
def CntD (H : Hp) (p : Addr) (f : Int → Int) (n : Nat) : Prop := ∃ kvs : List (L2.Key × V), H p = some (.dK kvs) ∧ kvs.length ≤ n ∧ ∀ r : Int, (valV kvs (Sum.inl r)).getD (.int 0) = .int (f r)
theorem CntD.ex {H H' : Hp} {p : Addr} {f : Int → Int} {n : Nat} (c : CntD H p f n) (e : Ex H H') : CntD H' p f n := by
  obtain ⟨kvs, h1, h2⟩ := c
  exact ⟨kvs, e _ _ h1, h2⟩
theorem CntD.exm {H H' : Hp} {p g : Addr} {f : Int → Int} {n : Nat} (c : CntD H p f n) (e : ExM g H H') (hn : p ≠ g) : CntD H' p f n := by
  obtain ⟨kvs, h1, h2⟩ := c
  exact ⟨kvs, e _ _ hn h1, h2⟩
theorem CntD.congr {H : Hp} {p : Addr} {f g : Int → Int} {n m : Nat} (c : CntD H p f n) (h : ∀ r, f r = g r) (hm : n ≤ m) : CntD H p g m := by
  obtain ⟨kvs, h1, h2, h3⟩ := c
  exact ⟨kvs, h1, by omega, fun r => by rw [h3, h]⟩
def DG1 (a : Addr) (y z : V) (H3 : Hp) (Q : VK) : Prop := ∃ o, DGet H3 a y o ∧ Q (o.getD z) H3
def DG (ty tx : TE) (σ : L2.St) (x : V) (H1 : Hp) (Q : VK) : Prop := ∃ a, x = .ref a ∧ IsD H1 a ∧ ty σ H1 fun y H2 => tx σ H2 fun z H3 => DG1 a y z H3 Q
def DP (x y v : V) (H : Hp) (R : Hp → Prop) : Prop := ∃ a H4, x = .ref a ∧ DPut H a y v H4 ∧ R H4
section
variable {σ : L2.St} {H : Hp} {td ty tx tv : TE} {Q : VK} {D : Ends} {p : Addr} {f : Int → Int} {n : Nat}
theorem s_dnew (q : ∀ p H', H p = none → Ex H H' → CntD H' p (fun _ => 0) 0 → Q (.ref p) H') : tDNewK σ H Q := fun p hp => q p _ hp (Ex.new hp) ⟨[], upd_same, Nat.le_refl 0, fun _ => rfl⟩
theorem s_dget2 (q : td σ H fun x H1 => DG ty tx σ x H1 Q) : tDGet2 td ty tx σ H Q := q
theorem s_dput (q : tv σ H fun v H1 => td σ H1 fun x H2 => ty σ H2 fun y H3 => DP x y v H3 fun H4 => D.nx σ H4) : sDPut td ty tv D σ H := q
theorem n_dg (c : CntD H p f n) (q : ty σ H fun y H2 => tx σ H2 fun z H3 => DG1 p y z H3 Q) : DG ty tx σ (.ref p) H Q := by
  obtain ⟨kvs, h1, _⟩ := c
  exact ⟨p, rfl, .inl ⟨kvs, .inl h1⟩, q⟩
theorem n_dg1 {r : Int} (c : CntD H p f n) (q : Q (.int (f r)) H) : DG1 p (.int r) (.int 0) H Q := by
  obtain ⟨kvs, h1, _, h3⟩ := c
  exact ⟨_, DGet.k (k := Sum.inl r) h1, by rw [h3]; exact q⟩
theorem n_dput {r v : Int} {R : Hp → Prop} (c : CntD H p f n) (hn : n < 100000) (q : ∀ H', ExM p H H' → CntD H' p (fun r' => if r' = r then v else f r') (n + 1) → R H') : DP (.ref p) (.int r) (.int v) H R := by
  obtain ⟨kvs, h1, h2, h3⟩ := c
  refine ⟨p, _, rfl, DPut.k (k := Sum.inl r) h1 (sz_lt (by omega)), q _ ExM.upd ⟨_, upd_same, ?_, fun r' => ?_⟩⟩
  · have : (putK kvs (Sum.inl r) (V.int v)).length ≤ kvs.length + 1 := by
      unfold putK
      split
      · rw [List.length_map]; omega
      · rw [List.length_append, List.length_singleton]; omega
    omega
  · rw [valV_put]
    by_cases e : r' = r
    · subst e
      rw [if_pos rfl]
      show V.int v = V.int (if r' = r' then v else f r')
      rw [if_pos rfl]
    · rw [if_neg (fun z => e (Sum.inl.inj z)), h3]
      show V.int (f r') = V.int (if r' = r then v else f r')
      rw [if_neg e]
end
/-- a value that is a list of numbers, not the one at p -/
def Lq (p : Addr) (H : Hp) (v : V) (r : List Int) : Prop := ∃ a, v = .ref a ∧ a ≠ p ∧ H a = some (.lst (r.map V.int))
theorem Lq.ex {p : Addr} {H H' : Hp} {v : V} {r : List Int} (e : Ex H H') (h : Lq p H v r) : Lq p H' v r := by
  obtain ⟨a, h1, h2, h3⟩ := h
  exact ⟨a, h1, h2, e _ _ h3⟩
theorem Lq.exm {p : Addr} {H H' : Hp} {v : V} {r : List Int} (e : ExM p H H') (h : Lq p H v r) : Lq p H' v r := by
  obtain ⟨a, h1, h2, h3⟩ := h
  exact ⟨a, h1, h2, e _ _ h2 h3⟩
theorem paired_set {β γ : Type} {F : β → γ → Prop} : ∀ {xs : List β} {ys : List γ} {x : β} {y : γ} (i : Nat), Paired F xs ys → F x y → Paired F (xs.set i x) (ys.set i y)
  | _, _, _, _, _, .nil, _ => .nil
  | _, _, _, _, 0, .cons _ t, h => .cons h t
  | _, _, _, _, i + 1, .cons a t, h => .cons a (paired_set i t h)
theorem u_noneT {K : PySem.W.Frag} {σ : L2.St} {H : Hp} {tt : TT} {te : TE} {Q : VK} {g : TG} {vs : List Nat} {a : Addr} (l : List Int) (hS : SqT K H a (l.map V.int)) (hz : l.length ≤ 40000)
    (turn : ∀ x ∈ l, ∀ H', Ex H H' → ∀ (A : VK) (B : Hp → Prop), (∀ H3, Ex H' H3 → B H3) → g (.int x) (wipe σ vs) H' fun σ2 H2 => wipe σ2 vs = wipe σ vs ∧ tt σ2 H2 fun b H3 => if b = true then te σ2 H3 A else B H3)
    (fin : ∀ D H', H D = none → Ex H H' → H' D = some (.lst []) → Q (.ref D) H') : LcT K g tt te vs σ (.ref a) H Q := by
  refine ⟨a, rfl, ⟨_, hS⟩, lc_turns l (fun _ => false) (fun x y _ => y = V.int x) (fun _ _ _ _ _ r => r) hz (fun i H' hi e => ⟨_, V.int l[i], e.st hS, by rw [List.getElem?_map, List.getElem?_eq_getElem hi]; rfl⟩) (fun H' e => ⟨_, e.st hS, by rw [List.length_map]; exact Nat.le_refl _⟩)
    (fun D hD i x hx v H0 H' e _ hy => ?_) (fun D H' ys hD e h pr => fin D H' hD e (by
      rw [List.filter_eq_nil_iff.mpr (fun _ _ => Bool.false_ne_true)] at pr
      cases pr
      exact h))⟩
  obtain ⟨rfl, fv⟩ := hy
  have ev : v = V.int x := by
    have q := fv _ (e.st hS)
    rw [List.getElem?_map, hx] at q
    exact (Option.some.inj q).symm
  subst ev
  exact ⟨Ex.refl _, fun A B h1 h2 => turn x (List.mem_of_getElem? hx) _ e A B (h2 rfl)⟩
/-- a for over enumerate(a list) -/
theorem u_forE {K : PySem.W.Frag} {σ : L2.St} {H : Hp} {g : TG} {ts : TS} {D : Ends} {a : Addr} {xs : List V} (Pv : Nat → L2.St → Hp → Prop) (h : SqL K H a xs) (h0 : Pv 0 σ H) (hl : ∀ i σ H, i ≤ xs.length → Pv i σ H → SqL K H a xs)
    (hs : ∀ i x T σ H H', xs[i]? = some x → Pv i σ H → H T = none → Ex H H' → H' T = some (.tup [.int (i : Nat), x]) → g (.ref T) σ H' fun σ2 H2 => ts { D with nx := Pv (i + 1), ct := Pv (i + 1), bk := D.nx } σ2 H2) (hd : ∀ σ H, Pv xs.length σ H → D.nx σ H) : ForE K g ts D σ [.ref a] H := by
  refine ⟨a, xs, rfl, h, fun i m σ H => m = xs.length - i ∧ i ≤ xs.length ∧ Pv i σ H, ⟨xs.length, by simp, Nat.zero_le _, h0⟩, ?_⟩
  rintro i m σ H ⟨rfl, hi, p⟩
  have q := hl i σ H hi p
  by_cases hlt : i < xs.length
  · refine .inr ⟨⟨xs, xs[i], q, by simp [hlt]⟩, Pv (i + 1), fun σ' H' p' => ⟨xs.length - (i + 1), by omega, rfl, hlt, p'⟩, fun v H' y => ?_⟩
    obtain ⟨T, x, rfl, nT, rfl, y⟩ := y
    exact hs i x T σ _ _ (y xs q) p nT (Ex.new nT) upd_same
  · have e : i = xs.length := by omega
    subst e
    exact .inl ⟨⟨xs, q, Nat.le_refl _⟩, hd σ H p⟩
theorem n_ext {H : Hp} {Q : VK} {a b : Addr} {xs ys : List V} (h : H a = some (.lst xs)) (h2 : H b = some (.lst ys)) (hz : xs.length + ys.length ≤ 100000) (q : ∀ H', ExM a H H' → H' a = some (.lst (xs ++ ys)) → Q .non H') : rExtend (.ref a) [.ref b] H Q := ⟨a, b, xs, ys, rfl, rfl, h, h2, sz_of hz, q _ ExM.upd upd_same⟩
theorem catTA {X : Cx} {K : PySem.W.Frag} (hk : X.K = K) : OpR X (binaryOp .Add) (rCatT K) := hk ▸ op_catT
theorem n_catT {K : PySem.W.Frag} {H : Hp} {Q : VK} {a b : Addr} {xs ys : List V} (h : SqT K H a xs) (h2 : SqT K H b ys) (hx : xs ≠ []) (hy : ys ≠ []) (hz : xs.length + ys.length ≤ 100000) (q : ∀ p H', H p = none → Ex H H' → H' p = some (.tup (xs ++ ys)) → Q (.ref p) H') : rCatT K (.ref a) (.ref b) H Q :=
  ⟨a, b, xs, ys, rfl, rfl, h, h2, hx, sz_of hz, fun z => absurd z hy, fun _ p hp => q p _ hp (Ex.new hp) upd_same⟩
theorem n_slT {K : PySem.W.Frag} {H : Hp} {Q : VK} {a : Addr} {xs : List V} {lo hi : Option Int} (h : SqT K H a xs) (hn : ¬ (HT.sIx xs.length 0 lo = 0 ∧ HT.sIx xs.length xs.length hi = xs.length)) (q : ∀ p H', H p = none → Ex H H' → H' p = some (.tup (cutV xs lo hi)) → Q (.ref p) H') : rSlT K (.ref a) lo hi H Q :=
  ⟨a, xs, rfl, h, hn, fun p hp => q p _ hp (Ex.new hp) upd_same⟩
/-- of a list of data, what is kept -/
theorem u_keepD {K : PySem.W.Frag} {σ : L2.St} {H : Hp} {tt : TT} {te : TE} {Q : VK} {g : TG} {vs : List Nat} {β : Type} [Py β] {a : Addr} {xs : List β} (p : β → Bool) (h : Is K H (.ref a) xs) (hz : xs.length ≤ 40000)
    (turn : ∀ v x, x ∈ xs → ∀ H', Ex H H' → Is K H v x → ∀ (A : VK) (B : Hp → Prop), (p x = true → ∀ H4, Ex H' H4 → A v H4) → (p x = false → ∀ H3, Ex H' H3 → B H3) → g v (wipe σ vs) H' fun σ2 H2 => wipe σ2 vs = wipe σ vs ∧ tt σ2 H2 fun b H3 => if b = true then te σ2 H3 A else B H3)
    (fin : ∀ D ws H', H D = none → Ex H H' → H' D = some (.lst ws) → Paired (fun v x => Is K H v x) ws (xs.filter p) → Q (.ref D) H') : LcL K g tt te vs σ (.ref a) H Q := by
  obtain ⟨b, us, e, h1, h2⟩ := h.list
  cases e
  have hl := Paired.length h2
  refine u_lcL Prod.fst (us.zip xs) (fun q => p q.2) Prod.fst (by rw [zip_fst hl]; exact h1) (by rw [List.length_zip]; omega) (fun q hq H' e A B hA hB => ?_) (fun D H' n e f' => ?_)
  · obtain ⟨g1, g2⟩ := zip_mem h2 q hq
    exact turn _ q.2 g2 H' e g1 A B hA hB
  · refine fin D _ H' n e f' ?_
    clear f' e n hz h1 turn fin hl h
    induction h2 with
    | nil => exact .nil
    | cons a t ih =>
      rename_i v x us xs
      rw [List.zip_cons_cons, List.filter_cons, List.filter_cons]
      by_cases c : p x = true
      · rw [if_pos c, if_pos c]
        exact .cons a ih
      · rw [if_neg c, if_neg c]
        exact ih
/-- pairs of numbers out of numbers -/
theorem u_mapITp {K : PySem.W.Frag} {σ : L2.St} {H : Hp} {te : TE} {Q : VK} {g : TG} {vs : List Nat} {a : Addr} {l : List Int} (f : Int → Int × Int) (h : SqL K H a (l.map V.int)) (hz : l.length ≤ 40000)
    (turn : ∀ x, x ∈ l → ∀ D H', Ex H H' → H D = none → (∃ o, H' D = some o) → ∀ A : VK, (∀ y H4, Ex H' H4 → (∀ Z, ExM D H4 Z → Ex H Z → Tp Z y (f x)) → A y H4) → g (.int x) (wipe σ vs) H' fun σ2 H2 => wipe σ2 vs = wipe σ vs ∧ te σ2 H2 A)
    (fin : ∀ D ws H', H D = none → Ex H H' → H' D = some (.lst ws) → Paired (Tp H') ws (l.map f) → Q (.ref D) H') : LcL K g tYes te vs σ (.ref a) H Q := by
  refine u_lcLR V.int l (fun _ => true) (fun x y H => Tp H y (f x)) (fun _ _ _ _ e h => Tp.ex e h) h hz (fun D hD x hx H' e o A B hA hB => ?_) (fun D H' ws hD e f2 pr2 => ?_)
  · rw [lc_yes]
    exact turn x hx D H' e hD o A (fun y H4 e4 k => hA rfl y H4 e4 k)
  · rw [filter_yes] at pr2
    exact fin D ws H' hD e f2 (paired_flip (F := Tp H') f pr2)
/-- a for over the values of a dict -/
theorem u_lockVals {σ : L2.St} {H : Hp} {g : TG} {ts : TS} {D : Ends} {i : Nat} {p : Addr} {kvs : List (L2.Key × V)} (hv : σ[i]? = some (some (.ref p))) (hH : H p = some (.dK kvs)) (Pv : Nat → L2.St → Prop) (h0 : Pv 0 σ)
    (hs : ∀ (Hf : Hp) (rt : VK) (bk : L2.St → Hp → Prop) (i : Nat) (k : L2.Key) (v : V) σ H', ExM p H Hf → kvs[i]? = some (k, v) → Pv i σ → Ex Hf H' → g v σ H' fun σ2 H2 => ts ⟨fun σ' H'' => Ex Hf H'' ∧ Pv (i + 1) σ', rt, bk, fun σ' H'' => Ex Hf H'' ∧ Pv (i + 1) σ'⟩ σ2 H2)
    (hd : ∀ σ H', Ex H H' → Pv kvs.length σ → D.nx σ H') : tLock (tFor (iVals (tVar i)) g ts) D σ H := by
  refine ⟨p, .dK kvs, hH, trivial, fun od => ⟨_, hv, p, od, kvs, rfl, upd_same, fun i m σ H' => m = kvs.length - i ∧ i ≤ kvs.length ∧ Ex (upd H p (.frz od (.dK kvs))) H' ∧ Pv i σ, ⟨kvs.length, by simp, Nat.zero_le _, Ex.refl _, h0⟩, ?_⟩⟩
  rintro i m σ H' ⟨rfl, hi, e, q⟩
  have hp : H' p = some (.frz od (.dK kvs)) := e _ _ upd_same
  by_cases hlt : i < kvs.length
  · refine .inr ⟨⟨hp, hlt⟩, fun σ' H'' => Ex (upd H p (.frz od (.dK kvs))) H'' ∧ Pv (i + 1) σ', fun σ' H'' z => ⟨kvs.length - (i + 1), by omega, rfl, hlt, z⟩, fun v H2 y => ?_⟩
    obtain ⟨rfl, k, hk⟩ := y
    exact hs _ _ _ i k v σ _ ExM.upd hk q e
  · have ei : i = kvs.length := by omega
    subst ei
    refine .inl ⟨⟨hp, Nat.le_refl _⟩, hp, hd σ _ (fun b o hb => ?_) q⟩
    by_cases c : b = p
    · subst c
      rw [hH] at hb
      cases hb
      exact upd_same
    · rw [upd_ne c]
      exact e _ _ (by rw [upd_ne c]; exact hb)
theorem cutI_init {α : Type} (l : List α) (x : α) : cutI (l ++ [x]) none (some (-1)) = l := by
  have e : HT.sIx (l ++ [x]).length (l ++ [x]).length (some (-1)) = l.length := by
    show (if (-1 : Int) < 0 then ((-1 : Int) + ((l ++ [x]).length : Int)).toNat else min (Int.toNat (-1)) (l ++ [x]).length) = l.length
    rw [if_pos (by decide), List.length_append, List.length_singleton]
    omega
  unfold cutI
  rw [e, HT.sIx_none, List.drop_zero, Nat.sub_zero, List.take_left']
  rfl
end TR

/-! short words: hp (what stands at an address), ex (a heap grows into another), ne, fr, sq, st; s (one step of a reading), ss (steps as far as they go) -/
open PySem L2 TR
local macro_rules | `(tactic| walk_at "fr") => `(tactic| first | assumption | (apply Ex.back; (focus walk_at "exs"); assumption))
local macro_rules | `(tactic| walk_at "exs") => `(tactic| first | assumption | (apply Ex.trans; rotate_left; (focus assumption); walk_at "exs") | exact Ex.refl _)
local macro_rules | `(tactic| walk_at "ex") => `(tactic| first | exact Ex.refl _ | assumption | (apply Ex.trans; rotate_left; (focus assumption); walk_at "ex") | (apply Ex.exm; rotate_left; rotate_left; (focus assumption); (focus walk_at "ex"); (walk_at "fr2")))
local macro_rules | `(tactic| walk_at "fr2") => `(tactic| first | assumption | (apply Ex.back; rotate_left; (focus assumption); walk_at "ex"))
local macro_rules | `(tactic| walk_at "hp") => `(tactic| first | assumption | (apply ex_ap; (focus assumption); walk_at "hp") | (apply exm_ap; (focus assumption); (focus walk_at "ne"); walk_at "hp"))
local macro_rules | `(tactic| walk_at "ne") => `(tactic| first | assumption | (apply Ne.symm; assumption) | (apply ne_fresh; (focus assumption); walk_at "hp") | (apply Ne.symm; apply ne_fresh; (focus assumption); walk_at "hp") | exact TR.la_ne (by assumption) (by assumption) | exact Ne.symm (TR.la_ne (by assumption) (by assumption)) | exact TR.hand_ne0 (by assumption) (by assumption) | exact TR.hand_ne1 (by assumption) (by assumption) (by assumption) | exact TR.hand_ne2 (by assumption) (by assumption) (by assumption) (by assumption))
local macro_rules | `(tactic| walk_at "sq") => `(tactic| first | assumption | exact RW.sq (by assumption) | (apply sq_of; walk_at "hp") | (apply Ex.sq; rotate_left; (focus assumption); walk_at "ex"))
local macro_rules | `(tactic| walk_at "st") => `(tactic| first | assumption | (apply st_of; walk_at "hp") | (apply Ex.st; rotate_left; (focus assumption); walk_at "ex"))
local macro_rules | `(tactic| walk_at "is") => `(tactic| first | exact Is.int _ | exact Is.bl _ | assumption | exact Is.no | exact Is.yes _ | exact Is.opt _ | exact LA.is (by assumption) | exact RW.is (by assumption) | (apply Is.nil; walk_at "sq") | (apply Is.ints; walk_at "sq") | (apply Is.pair; (focus walk_at "st"); (focus walk_at "is"); walk_at "is") | (apply Is.three; (focus walk_at "st"); (focus walk_at "is"); (focus walk_at "is"); walk_at "is") | (apply Is.four; (focus walk_at "st"); (focus walk_at "is"); (focus walk_at "is"); (focus walk_at "is"); walk_at "is") | (apply Is.ex; rotate_left; (focus assumption); walk_at "ex"))
local macro_rules | `(tactic| walk_at "la") => `(tactic| first | assumption | (apply LA.up; (focus assumption); assumption) | (apply LA.up; rotate_left; (focus assumption); walk_at "la"))
local macro_rules | `(tactic| walk_at "at") => `(tactic| first | exact atI_lt (by decide) rfl | rfl)
local macro_rules | `(tactic| walk_at "ixn") => `(tactic| first | exact ixN_lt (by decide) (by decide) | rfl)
local macro_rules | `(tactic| walk_at "len") => `(tactic| first | omega | (simp only [List.length_map, List.length_range, List.length_append, List.length_cons, List.length_nil, List.length_reverse, List.length_set, sortI_len]; omega))
local macro_rules | `(tactic| walk_at "od") => `(tactic| first | decide | omega | exact Nat.le_of_ble_eq_true rfl)
local macro_rules | `(tactic| walk_at "kit") => `(tactic| first | exact k_ii | exact k_ib | exact k_is | exact k_il | exact k_it | exact k_bi | exact k_bb | exact k_bs | exact k_bl' | exact k_bt | exact k_si | exact k_sb | exact k_ss | exact k_sl | exact k_st | exact k_ni | exact k_nb | exact k_ns | exact k_nl | exact k_nt | exact k_li | exact k_lb | exact k_ls | exact k_ll | exact k_lt | exact k_ti | exact k_tb | exact k_ts | exact k_tl | exact k_tt)
local macro_rules | `(tactic| walk_at "s") => `(tactic| first
  | (with_reducible apply s_seq) | (with_reducible apply s_asg) | (with_reducible apply s_gname) | (with_reducible apply s_ret) | (with_reducible apply s_if) | (with_reducible apply s_next) | (with_reducible apply s_drop)
  | ((with_reducible apply s_var); (focus rfl)) | (with_reducible apply s_c) | (with_reducible apply s_op) | (with_reducible apply s_un) | (with_reducible apply s_chain)
  | (with_reducible apply s_test) | (with_reducible apply s_tB) | (with_reducible apply s_bl) | (with_reducible apply s_and) | (with_reducible apply s_or) | (with_reducible apply s_not)
  | (with_reducible apply s_andV) | (with_reducible apply s_orV) | (with_reducible apply s_notV) | (with_reducible apply s_ifE)
  | (with_reducible apply s_I0) | (with_reducible apply s_U) | (with_reducible apply s_plusI) | (with_reducible apply s_eqI) | (with_reducible apply s_neI) | (with_reducible apply s_eqB) | (with_reducible apply s_neB) | (with_reducible apply s_eqS) | (with_reducible apply s_neS)
  | ((with_reducible apply s_mod); (focus walk_at "od"); intro _ _) | ((with_reducible apply s_div); (focus walk_at "od"); (focus walk_at "od"))
  | (walk_at "pow") | ((with_reducible apply s_pow); (focus decide); (focus walk_at "od")) | ((with_reducible apply s_mulL); (focus walk_at "od")) | ((with_reducible apply s_mulR); (focus walk_at "od"))
  | (with_reducible apply s_nil) | (with_reducible apply s_cons) | (with_reducible apply s_call) | (with_reducible apply s_CB) | (with_reducible apply s_lst) | (with_reducible apply s_tup)
  | (with_reducible apply s_sl) | (with_reducible apply s_np) | (with_reducible apply s_part) | (with_reducible apply s_int) | (with_reducible apply s_BM) | (with_reducible apply s_BM0) | (with_reducible apply s_gsub) | (with_reducible apply s_augS) | (with_reducible apply s_ipI)
  | (with_reducible apply s_forL) | (with_reducible apply s_forT) | (with_reducible apply s_forR1) | (with_reducible apply s_forR2) | (with_reducible apply s_forE) | (with_reducible apply s_forZ) | (with_reducible apply s_forS)
  | (with_reducible apply s_lcL) | (with_reducible apply s_lcT) | (with_reducible apply s_lcR1) | (with_reducible apply s_lcR2) | (with_reducible apply s_lcE) | (with_reducible apply s_lcZ) | (with_reducible apply s_yes) | (with_reducible apply s_dget2) | (with_reducible apply s_dput) | ((with_reducible apply s_wp); (focus rfl))
  | (with_reducible apply s_lstRg) | (with_reducible apply s_Rg1) | (with_reducible apply s_Rg2) | (with_reducible apply s_int2) | ((with_reducible apply n_rg); (focus omega); intro _ _ _ _ _)
  | ((with_reducible apply s_sum); (focus walk_at "sq")) | ((with_reducible apply s_all); (focus walk_at "sq")) | ((with_reducible apply s_any); (focus walk_at "sq"))
  | ((with_reducible apply s_maxL); (focus walk_at "sq"); (focus walk_at "len")) | ((with_reducible apply s_minL); (focus walk_at "sq"); (focus walk_at "len")) | ((with_reducible apply n_sorted); (focus walk_at "sq"); intro _ _ _ _ _) | ((with_reducible apply n_list); (focus walk_at "sq"); intro _ _ _ _ _) | ((with_reducible apply n_listT); (focus walk_at "st"); intro _ _ _ _ _)
  | ((with_reducible apply s_gt2); (focus walk_at "st")) | (with_reducible apply s_rev) | ((with_reducible apply n_rev); (focus walk_at "sq"); intro _ _ _ _ _) | (with_reducible apply s_isN0) | (with_reducible apply s_isN1) | (with_reducible apply s_isN2) | (with_reducible apply s_isN3) | (with_reducible apply s_notN0) | (with_reducible apply s_notN1) | (with_reducible apply s_notN2) | (with_reducible apply s_notN3)
  | (with_reducible apply s_max2) | (with_reducible apply s_min2) | (with_reducible apply s_abs) | (with_reducible apply s_int1) | (with_reducible apply s_int1b)
  | ((with_reducible apply s_isiI); (focus walk_at "kit")) | ((with_reducible apply s_isiB); (focus walk_at "kit")) | ((with_reducible apply s_isiS); (focus walk_at "kit")) | ((with_reducible apply s_isiN); (focus walk_at "kit"))
  | ((with_reducible apply s_isiL); (focus walk_at "sq"); (focus walk_at "kit")) | ((with_reducible apply s_isiT); (focus walk_at "st"); (focus walk_at "kit"))
  | ((with_reducible apply s_lenM); (focus walk_at "sq")) | ((with_reducible apply s_lenL); (focus walk_at "sq")) | ((with_reducible apply s_lenT); (focus walk_at "st")) | ((with_reducible apply n_slL); (focus walk_at "sq"); intro _ _ _ _ _)
  | ((with_reducible apply s_index); (focus walk_at "sq"); (focus assumption); intro _ _ _) | ((with_reducible apply s_niL); (focus walk_at "sq")) | ((with_reducible apply s_inL); (focus walk_at "sq")) | ((with_reducible apply s_niT); (focus walk_at "st")) | ((with_reducible apply s_inT); (focus walk_at "st"))
  | ((with_reducible apply s_tyL); (focus walk_at "sq"))
  | ((with_reducible apply n_lst); (focus walk_at "od"); intro _ _ _ _ _) | ((with_reducible apply n_tup); (focus walk_at "od"); intro _ _ _ _ _)
  | ((with_reducible apply n_cat); (focus walk_at "hp"); (focus walk_at "hp"); (focus walk_at "len"); intro _ _ _ _ _)
  | ((with_reducible apply s_aug); (focus rfl))
  | ((with_reducible apply s_ixL); (focus walk_at "sq"); (focus walk_at "at")) | ((with_reducible apply s_ixT); (focus walk_at "st"); (focus walk_at "at"))
  | ((with_reducible apply s_ix2b); (focus walk_at "sq"); intro _ _) | ((with_reducible apply s_ix2); (focus walk_at "sq"); (focus omega); intro _ _) | ((with_reducible apply s_ix3); (focus walk_at "sq"); (focus omega); intro _ _) | ((with_reducible apply s_ix4); (focus walk_at "sq"); (focus omega); intro _ _)
  | ((with_reducible apply s_ixI); (focus walk_at "sq"); (focus omega); intro _ _)
  | ((with_reducible apply s_getL); (focus walk_at "sq"); (focus decide); (focus walk_at "at"))
  | ((with_reducible apply n_setL); (focus walk_at "hp"); (focus walk_at "ixn"); intro _ _ _)
  | ((with_reducible apply s_eqP (α := List Int)); (focus walk_at "is"); (focus walk_at "is"); (focus decide)) | ((with_reducible apply s_neP (α := List Int)); (focus walk_at "is"); (focus walk_at "is"); (focus decide))
  | ((with_reducible apply s_eqP (α := Int × Int)); (focus walk_at "is"); (focus walk_at "is"); (focus decide)) | ((with_reducible apply s_neP (α := Int × Int)); (focus walk_at "is"); (focus walk_at "is"); (focus decide))
  | ((with_reducible apply s_eqP (α := Bool × Int)); (focus walk_at "is"); (focus walk_at "is"); (focus decide)) | ((with_reducible apply s_neP (α := Bool × Int)); (focus walk_at "is"); (focus walk_at "is"); (focus decide))
  | ((with_reducible apply s_eqP (α := Int × Option Int)); (focus walk_at "is"); (focus walk_at "is"); (focus decide)) | ((with_reducible apply s_neP (α := Int × Option Int)); (focus walk_at "is"); (focus walk_at "is"); (focus decide))
  | ((with_reducible apply s_eqP (α := T3 Int Int Int)); (focus walk_at "is"); (focus walk_at "is"); (focus decide)) | ((with_reducible apply s_neP (α := T3 Int Int Int)); (focus walk_at "is"); (focus walk_at "is"); (focus decide))
  | ((with_reducible apply s_eqP (α := T4 Int Int Int Int)); (focus walk_at "is"); (focus walk_at "is"); (focus decide)) | ((with_reducible apply s_neP (α := T4 Int Int Int Int)); (focus walk_at "is"); (focus walk_at "is"); (focus decide))
  | ((with_reducible apply s_eqP (α := List (Int × Int))); (focus walk_at "is"); (focus walk_at "is"); (focus decide)) | ((with_reducible apply s_neP (α := List (Int × Int))); (focus walk_at "is"); (focus walk_at "is"); (focus decide))
  | ((with_reducible apply s_eqP (α := List (T3 Int Int Int))); (focus walk_at "is"); (focus walk_at "is"); (focus decide)) | ((with_reducible apply s_neP (α := List (T3 Int Int Int))); (focus walk_at "is"); (focus walk_at "is"); (focus decide))
  | ((with_reducible apply s_eqP (α := List (T4 Int Int Int Int))); (focus walk_at "is"); (focus walk_at "is"); (focus decide)) | ((with_reducible apply s_neP (α := List (T4 Int Int Int Int))); (focus walk_at "is"); (focus walk_at "is"); (focus decide))
  | ((with_reducible apply s_eqP (α := List (List Int))); (focus walk_at "is"); (focus walk_at "is"); (focus decide)) | ((with_reducible apply s_neP (α := List (List Int))); (focus walk_at "is"); (focus walk_at "is"); (focus decide))
  | (with_reducible apply i_t) | (with_reducible apply i_f) | (with_reducible apply i_nt) | (with_reducible apply i_nf)
  | ((with_reducible apply i_dt); (focus (first | trivial | assumption | omega | rfl))) | ((with_reducible apply i_df); (focus (first | assumption | omega | exact (fun h => h rfl)))) | ((with_reducible apply i_ndt); (focus (first | trivial | assumption | omega | rfl))) | ((with_reducible apply i_ndf); (focus (first | assumption | omega | exact (fun h => h rfl)))))
local macro_rules | `(tactic| walk_at "pow") => `(tactic| first | (with_reducible apply s_pow2_50) | (with_reducible apply s_pow2_54) | (with_reducible apply s_pow2_55) | (with_reducible apply s_pow2_56) | (with_reducible apply s_pow2_57) | (with_reducible apply s_pow2_58) | (with_reducible apply s_pow2_59) | (with_reducible apply s_pow2_60) | (with_reducible apply s_pow2_61) | (with_reducible apply s_pow2_62) | (with_reducible apply s_pow2_63) | (with_reducible apply s_pow2_64) | (with_reducible apply s_pow10_1) | (with_reducible apply s_pow10_2) | (with_reducible apply s_pow10_3) | (with_reducible apply s_pow10_4) | (with_reducible apply s_pow10_5) | (with_reducible apply s_pow10_6) | (with_reducible apply s_pow10_7) | (with_reducible apply s_pow10_8) | (with_reducible apply s_pow10_9) | (with_reducible apply s_pow10_10) | (with_reducible apply s_pow10_11) | (with_reducible apply s_pow10_12) | (with_reducible apply s_pow10_18) | (with_reducible apply s_pow10_39))
local macro_rules | `(tactic| walk_at "cx") => `(tactic| try dsimp only [cx_K, cx_K2])
local macro_rules | `(tactic| walk_at "ss") => `(tactic| ((try dsimp only); (repeat walk_at "s")))

/-! powers of two, levels, rooms -/
namespace TR
theorem two_pos (k : Nat) : (1 : Int) ≤ 2 ^ k := by
  have h : (1 : Nat) ≤ 2 ^ k := Nat.one_le_two_pow
  have e : ((2 ^ k : Nat) : Int) = (2 : Int) ^ k := by rw [Int.natCast_pow]; rfl
  omega
theorem two_succ (k : Nat) : (2 : Int) ^ (k + 1) = 2 * 2 ^ k := by rw [Int.pow_succ, Int.mul_comm]
theorem two_mono {a b : Nat} (h : a ≤ b) : (2 : Int) ^ a ≤ 2 ^ b := by
  have h1 : (2 : Nat) ^ a ≤ 2 ^ b := Nat.pow_le_pow_right (by decide) h
  have e1 : ((2 ^ a : Nat) : Int) = (2 : Int) ^ a := by rw [Int.natCast_pow]; rfl
  have e2 : ((2 ^ b : Nat) : Int) = (2 : Int) ^ b := by rw [Int.natCast_pow]; rfl
  omega
theorem two_lt {a b : Nat} (h : (2 : Int) ^ a < 2 ^ b) : a < b := by
  apply Decidable.byContradiction
  intro n
  have := two_mono (show b ≤ a by omega)
  omega
theorem two_add (a b : Nat) : (2 : Int) ^ (a + b) = 2 ^ a * 2 ^ b := Int.pow_add 2 a b
theorem two60 : (2 : Int) ^ 60 = 1152921504606846976 := by decide
theorem two_le60 {k : Nat} (h : k ≤ 60) : (2 : Int) ^ k ≤ 1152921504606846976 := by
  have := two_mono h
  rw [two60] at this
  exact this
def lev (r : Int) : Nat := Nat.log2 r.toNat
def whole (r : Int) : Int := 2 ^ lev r
theorem whole_spec {r : Int} (h : 1 ≤ r) : 1 ≤ whole r ∧ whole r ≤ r ∧ r < 2 * whole r := by
  have h0 : r.toNat ≠ 0 := by omega
  have h1 := Nat.log2_self_le h0
  have h2 := Nat.lt_log2_self (n := r.toNat)
  have e1 : ((2 ^ Nat.log2 r.toNat : Nat) : Int) = whole r := by
    unfold whole lev
    rw [Int.natCast_pow]
    rfl
  have e2 : ((2 ^ (Nat.log2 r.toNat + 1) : Nat) : Int) = 2 * whole r := by
    rw [Nat.pow_succ, Int.natCast_mul, e1]
    omega
  have := two_pos (lev r)
  unfold whole at *
  omega
theorem lev_unique {r : Int} {k : Nat} (h1 : (2 : Int) ^ k ≤ r) (h2 : r < 2 * 2 ^ k) : lev r = k := by
  have hr : 1 ≤ r := by have := two_pos k; omega
  obtain ⟨a, b, c⟩ := whole_spec hr
  unfold whole at *
  rw [← two_succ] at c h2
  have l1 : k < lev r + 1 := two_lt (by omega)
  have l2 : lev r < k + 1 := two_lt (by omega)
  omega
theorem whole_unique {r : Int} {k : Nat} (h1 : (2 : Int) ^ k ≤ r) (h2 : r < 2 * 2 ^ k) : whole r = 2 ^ k := by
  unfold whole
  rw [lev_unique h1 h2]
theorem lev_le60 {r : Int} (h : 1 ≤ r) (h2 : r ≤ 1152921504606846976) : lev r ≤ 60 := by
  obtain ⟨a, b, c⟩ := whole_spec h
  have : (2 : Int) ^ lev r < 2 ^ 61 := by
    have e : (2 : Int) ^ 61 = 2305843009213693952 := by decide
    unfold whole at b
    omega
  have := two_lt this
  omega
def roomOf (key rooms : Int) : Int := if key % whole rooms < rooms - whole rooms then key % (2 * whole rooms) else key % whole rooms
theorem mod2 (x : Int) {w : Int} (h : 0 < w) : x % (2 * w) = x % w ∨ x % (2 * w) = x % w + w := by
  have e : x % (2 * w) % w = x % w := Int.emod_emod_of_dvd x ⟨2, Int.mul_comm 2 w⟩
  have l1 := Int.emod_nonneg x (show 2 * w ≠ 0 by omega)
  have l2 := Int.emod_lt_of_pos x (show 0 < 2 * w by omega)
  generalize x % (2 * w) = r at *
  by_cases h2 : r < w
  · left
    rw [← e, Int.emod_eq_of_lt l1 h2]
  · right
    have e2 : (r - w + w) % w = (r - w) % w := by rw [Int.add_emod_right]
    rw [Int.sub_add_cancel, Int.emod_eq_of_lt (show 0 ≤ r - w by omega) (by omega)] at e2
    omega
theorem roomOf_range {key rooms : Int} (h : 1 ≤ rooms) : 0 ≤ roomOf key rooms ∧ roomOf key rooms < rooms := by
  obtain ⟨a, b, c⟩ := whole_spec h
  have l1 := Int.emod_nonneg key (show whole rooms ≠ 0 by omega)
  have l2 := Int.emod_lt_of_pos key (show 0 < whole rooms by omega)
  have l3 := Int.emod_nonneg key (show 2 * whole rooms ≠ 0 by omega)
  have m := mod2 key (show 0 < whole rooms by omega)
  unfold roomOf
  split <;> omega
end TR
/-! bits, and keys turned about -/
namespace TR
def bit (x : Int) (k : Nat) : Int := x / 2 ^ k % 2
theorem bit_succ (x : Int) (k : Nat) : bit x (k + 1) = bit (x / 2) k := by
  unfold bit
  rw [two_succ, Int.ediv_ediv_of_nonneg (by decide : (0 : Int) ≤ 2)]
theorem bit_zero (x : Int) : bit x 0 = x % 2 := by
  unfold bit
  rw [show (2 : Int) ^ 0 = 1 from rfl, Int.ediv_one]
theorem bit01 (x : Int) (k : Nat) : bit x k = 0 ∨ bit x k = 1 := by
  unfold bit
  omega
def rev : Nat → Int → Int
  | 0, _ => 0
  | n + 1, x => rev n x * 2 + bit x n
theorem rev_first : ∀ (n : Nat) (x : Int), rev (n + 1) x = x % 2 * 2 ^ n + rev n (x / 2)
  | 0, x => by
    show 0 * 2 + bit x 0 = x % 2 * 1 + 0
    rw [bit_zero]
    omega
  | n + 1, x => by
    show rev (n + 1) x * 2 + bit x (n + 1) = x % 2 * 2 ^ (n + 1) + (rev n (x / 2) * 2 + bit (x / 2) n)
    rw [rev_first n x, bit_succ, two_succ, Int.add_mul, Int.mul_comm 2 (2 ^ n), ← Int.mul_assoc]
    omega
theorem rev_range : ∀ (n : Nat) (x : Int), 0 ≤ rev n x ∧ rev n x < 2 ^ n
  | 0, x => ⟨Int.le_refl _, show (0 : Int) < 1 by decide⟩
  | n + 1, x => by
    have h := rev_range n x
    have b := bit01 x n
    rw [two_succ]
    show 0 ≤ rev n x * 2 + bit x n ∧ rev n x * 2 + bit x n < 2 * 2 ^ n
    omega
theorem rev_low : ∀ (n : Nat) (x c : Int), rev n (x + 2 ^ n * c) = rev n x
  | 0, _, _ => rfl
  | n + 1, x, c => by
    have e : (2 : Int) ^ (n + 1) * c = 2 * (2 ^ n * c) := by rw [two_succ, Int.mul_assoc]
    rw [e, rev_first, rev_first]
    generalize ht : (2 : Int) ^ n * c = t
    have e1 : (x + 2 * t) % 2 = x % 2 := by omega
    have e2 : (x + 2 * t) / 2 = x / 2 + t := by omega
    rw [e1, e2, ← ht, rev_low n]
theorem rev_rev : ∀ (n : Nat) (x : Int), 0 ≤ x → x < 2 ^ n → rev n (rev n x) = x
  | 0, x, h0, h1 => by
    have : (2 : Int) ^ 0 = 1 := rfl
    show 0 = x
    omega
  | n + 1, x, h0, h1 => by
    rw [two_succ] at h1
    have ih := rev_rev n (x / 2) (by omega) (by omega)
    have r := rev_range n (x / 2)
    have p := two_pos n
    rw [rev_first n x]
    show rev n (x % 2 * 2 ^ n + rev n (x / 2)) * 2 + bit (x % 2 * 2 ^ n + rev n (x / 2)) n = x
    have e1 : rev n (x % 2 * 2 ^ n + rev n (x / 2)) = x / 2 := by
      rw [Int.add_comm, Int.mul_comm, rev_low, ih]
    have e2 : bit (x % 2 * 2 ^ n + rev n (x / 2)) n = x % 2 := by
      unfold bit
      rw [Int.add_comm, Int.mul_comm, Int.add_mul_ediv_left _ _ (by omega : (2 : Int) ^ n ≠ 0), Int.ediv_eq_zero_of_lt r.1 r.2]
      omega
    rw [e1, e2]
    omega
theorem rev_cut (m : Nat) (x : Int) : ∀ j : Nat, rev (m + j) x / 2 ^ j = rev m x
  | 0 => by rw [show (2 : Int) ^ 0 = 1 from rfl, Int.ediv_one]; rfl
  | j + 1 => by
    show (rev (m + j) x * 2 + bit x (m + j)) / 2 ^ (j + 1) = rev m x
    have b := bit01 x (m + j)
    rw [two_succ, ← Int.ediv_ediv_of_nonneg (by decide : (0 : Int) ≤ 2)]
    have e : (rev (m + j) x * 2 + bit x (m + j)) / 2 = rev (m + j) x := by omega
    rw [e, rev_cut m x j]
theorem sum_snoc (l : List Int) (x : Int) : (l ++ [x]).sum = l.sum + x := by
  induction l with
  | nil => simp
  | cons y l ih => rw [List.cons_append, List.sum_cons, ih, List.sum_cons]; omega
theorem sum_mul2 (f : Nat → Int) : ∀ l : List Nat, (l.map fun k => f k * 2).sum = (l.map f).sum * 2
  | [] => rfl
  | k :: l => by rw [List.map_cons, List.map_cons, List.sum_cons, List.sum_cons, sum_mul2 f l]; omega
theorem rev_sum (x : Int) : ∀ n : Nat, ((List.range n).map fun k => bit x k * 2 ^ (n - 1 - k)).sum = rev n x
  | 0 => rfl
  | n + 1 => by
    rw [List.range_succ, List.map_append, List.map_singleton, sum_snoc]
    have e1 : (List.range n).map (fun k => bit x k * 2 ^ (n + 1 - 1 - k)) = (List.range n).map fun k => bit x k * 2 ^ (n - 1 - k) * 2 := by
      refine List.map_congr_left fun k hk => ?_
      have hk' := List.mem_range.mp hk
      have e : n + 1 - 1 - k = n - 1 - k + 1 := by omega
      rw [e, two_succ, Int.mul_comm 2, ← Int.mul_assoc]
    rw [e1, sum_mul2, rev_sum x n]
    have e2 : n + 1 - 1 - n = 0 := by omega
    rw [e2]
    show rev n x * 2 + bit x n * 1 = rev n x * 2 + bit x n
    omega
theorem mod_two (x : Int) {w : Int} (h : 0 < w) : x % (2 * w) = x % w + w * (x / w % 2) := by
  have e1 := Int.mul_ediv_add_emod x w
  have l1 := Int.emod_nonneg x (Int.ne_of_gt h)
  have l2 := Int.emod_lt_of_pos x h
  have e2 : x / w = 2 * (x / w / 2) + x / w % 2 := by omega
  have e3 : x = x % w + w * (x / w % 2) + 2 * w * (x / w / 2) := by
    have : w * (x / w) = w * (2 * (x / w / 2)) + w * (x / w % 2) := by rw [← Int.mul_add, ← e2]
    have : w * (2 * (x / w / 2)) = 2 * w * (x / w / 2) := by rw [← Int.mul_assoc, Int.mul_comm w 2]
    omega
  have b : x / w % 2 = 0 ∨ x / w % 2 = 1 := by omega
  have e4 : (x % w + w * (x / w % 2) + 2 * w * (x / w / 2)) % (2 * w) = (x % w + w * (x / w % 2)) % (2 * w) := Int.add_mul_emod_self_left _ _ _
  rw [← e3] at e4
  rw [e4]
  refine Int.emod_eq_of_lt ?_ ?_
  · rcases b with b | b <;> rw [b] <;> omega
  · rcases b with b | b <;> rw [b] <;> omega
theorem whole_succ {r : Int} (h : 1 ≤ r) : whole (r + 1) = whole r ∧ r + 1 < 2 * whole r ∨ whole (r + 1) = 2 * whole r ∧ r + 1 = 2 * whole r := by
  obtain ⟨a, b, c⟩ := whole_spec h
  by_cases h2 : r + 1 < 2 * whole r
  · left
    refine ⟨?_, h2⟩
    unfold whole at *
    exact whole_unique (by omega) h2
  · right
    have e : r + 1 = 2 * whole r := by omega
    refine ⟨?_, e⟩
    have := whole_unique (r := r + 1) (k := lev r + 1) (by rw [two_succ]; unfold whole at e; omega) (by rw [two_succ]; unfold whole at *; omega)
    rw [this, two_succ]
    rfl
/-- by one room more: only keys of the split room whose next bit is 1 go -/
theorem roomOf_succ (x : Int) {r : Int} (h : 1 ≤ r) : roomOf x (r + 1) = if roomOf x r = r - whole r ∧ x / whole r % 2 = 1 then r else roomOf x r := by
  obtain ⟨a, b, c⟩ := whole_spec h
  have m := mod_two x (show 0 < whole r by omega)
  have l1 := Int.emod_nonneg x (show whole r ≠ 0 by omega)
  have l2 := Int.emod_lt_of_pos x (show 0 < whole r by omega)
  have bt : x / whole r % 2 = 0 ∨ x / whole r % 2 = 1 := by omega
  rcases whole_succ h with ⟨e, e2⟩ | ⟨e, e2⟩
  · unfold roomOf
    rw [e]
    by_cases h1 : x % whole r < r - whole r
    · rw [if_pos h1, if_pos (show x % whole r < r + 1 - whole r by omega), if_neg]
      rintro ⟨g1, g2⟩
      rw [m] at g1
      rcases bt with bt | bt <;> rw [bt] at g1 <;> omega
    · rw [if_neg h1]
      by_cases h2 : x % whole r = r - whole r
      · rw [if_pos (show x % whole r < r + 1 - whole r by omega), m]
        rcases bt with bt | bt
        · rw [bt, if_neg (by omega)]
          omega
        · rw [bt, if_pos ⟨h2, rfl⟩]
          omega
      · rw [if_neg (show ¬ x % whole r < r + 1 - whole r by omega), if_neg (fun g => h2 g.1)]
  · have l3 := Int.emod_nonneg x (show 2 * whole r ≠ 0 by omega)
    unfold roomOf
    rw [e, if_neg (show ¬ x % (2 * whole r) < r + 1 - 2 * whole r by omega)]
    by_cases h1 : x % whole r < r - whole r
    · rw [if_pos h1, if_neg]
      rintro ⟨g1, g2⟩
      rw [m] at g1
      rcases bt with bt | bt <;> rw [bt] at g1 <;> omega
    · rw [if_neg h1, m]
      rcases bt with bt | bt
      · rw [bt, if_neg (by omega)]
        omega
      · rw [bt, if_pos ⟨by omega, rfl⟩]
        omega
/-- the first bit in which two differ -/
def Dif (x y : Int) (d : Nat) : Prop := (∀ k, k < d → bit x k = bit y k) ∧ bit x d ≠ bit y d
theorem Dif.symm {x y : Int} {d : Nat} (h : Dif x y d) : Dif y x d := ⟨fun k hk => (h.1 k hk).symm, fun e => h.2 e.symm⟩
theorem Dif.unique {x y : Int} {d e : Nat} (h : Dif x y d) (g : Dif x y e) : d = e := by
  rcases Nat.lt_trichotomy d e with l | l | l
  · exact absurd (g.1 d l) h.2
  · exact l
  · exact absurd (h.1 e l) g.2
theorem dif_of : ∀ (n : Nat) (x y : Int), 0 ≤ x → x < 2 ^ n → 0 ≤ y → y < 2 ^ n → x ≠ y → ∃ d, d < n ∧ Dif x y d
  | 0, x, y, h0, h1, h2, h3, h => by
    have : (2 : Int) ^ 0 = 1 := rfl
    omega
  | n + 1, x, y, h0, h1, h2, h3, h => by
    rw [two_succ] at h1 h3
    by_cases e : x % 2 = y % 2
    · obtain ⟨d, hd, g1, g2⟩ := dif_of n (x / 2) (y / 2) (by omega) (by omega) (by omega) (by omega) (by omega)
      refine ⟨d + 1, by omega, fun k hk => ?_, by rw [bit_succ, bit_succ]; exact g2⟩
      cases k with
      | zero => rw [bit_zero, bit_zero, e]
      | succ k => rw [bit_succ, bit_succ]; exact g1 k (by omega)
    · exact ⟨0, by omega, fun k hk => absurd hk (Nat.not_lt_zero k), by rw [bit_zero, bit_zero]; exact e⟩
theorem low_eq {x y : Int} : ∀ {d : Nat}, (∀ k, k < d → bit x k = bit y k) → x % 2 ^ d = y % 2 ^ d
  | 0, _ => by rw [show (2 : Int) ^ 0 = 1 from rfl]; omega
  | d + 1, h => by
    have p := two_pos d
    rw [two_succ, mod_two x (by omega), mod_two y (by omega), low_eq fun k hk => h k (by omega)]
    have := h d (by omega)
    unfold bit at this
    rw [this]
def partedAt (x y : Int) (d : Nat) : Int := 1 + max (x % 2 ^ (d + 1)) (y % 2 ^ (d + 1))
theorem roomOf_low (x : Int) {r : Int} {j : Nat} (h : 1 ≤ r) (hj : j ≤ lev r) : roomOf x r % 2 ^ j = x % 2 ^ j := by
  have e1 : (2 : Int) ^ j ∣ whole r := ⟨2 ^ (lev r - j), by rw [← two_add]; unfold whole; congr 1; omega⟩
  have e2 : (2 : Int) ^ j ∣ 2 * whole r := Int.dvd_trans e1 ⟨2, Int.mul_comm 2 _⟩
  unfold roomOf
  split
  · exact Int.emod_emod_of_dvd x e2
  · exact Int.emod_emod_of_dvd x e1
/-- two keys are in unlike rooms just from that number of rooms on -/
theorem parted_iff {x y : Int} {d : Nat} (h : Dif x y d) {r : Int} (hr : 1 ≤ r) : roomOf x r = roomOf y r ↔ r < partedAt x y d := by
  obtain ⟨h1, h2⟩ := h
  have lo := low_eq h1
  have p := two_pos d
  have mx := mod_two x (show (0 : Int) < 2 ^ d by omega)
  have my := mod_two y (show (0 : Int) < 2 ^ d by omega)
  have cx := Int.emod_nonneg x (show (2 : Int) ^ d ≠ 0 by omega)
  have dx := Int.emod_lt_of_pos x (show (0 : Int) < 2 ^ d by omega)
  have bx := bit01 x d
  have by' := bit01 y d
  obtain ⟨a, b, c⟩ := whole_spec hr
  have hp : partedAt x y d = 1 + (x % 2 ^ d + 2 ^ d) := by
    unfold partedAt
    rw [two_succ, mx, my]
    unfold bit at bx by' h2
    rcases bx with bx | bx <;> rcases by' with by' | by'
    · omega
    · rw [bx, by', lo]
      omega
    · rw [bx, by', lo]
      omega
    · omega
  have ne : x % 2 ^ (d + 1) ≠ y % 2 ^ (d + 1) := by
    rw [two_succ, mx, my, lo]
    unfold bit at bx by' h2
    rcases bx with bx | bx <;> rcases by' with by' | by' <;> rw [bx, by'] <;> omega
  rw [hp]
  rcases Nat.lt_trichotomy (lev r) d with l | l | l
  · -- the level is below the bit
    have t := two_mono (show lev r + 1 ≤ d by omega)
    have e1 : x % whole r = y % whole r := low_eq fun k hk => h1 k (by omega)
    have e2 : x % (2 * whole r) = y % (2 * whole r) := by
      have : 2 * whole r = 2 ^ (lev r + 1) := by rw [two_succ]; rfl
      rw [this]
      exact low_eq fun k hk => h1 k (by omega)
    have e3 : roomOf x r = roomOf y r := by unfold roomOf; rw [e1, e2]
    rw [two_succ] at t
    unfold whole at *
    exact ⟨fun _ => by omega, fun _ => e3⟩
  · have w : whole r = 2 ^ d := by unfold whole; rw [l]
    rw [two_succ] at ne
    unfold roomOf
    rw [w] at *
    rw [← lo]
    by_cases hc : x % 2 ^ d < r - 2 ^ d
    · rw [if_pos hc, if_pos hc]
      exact ⟨fun e => absurd e ne, fun e => by omega⟩
    · rw [if_neg hc, if_neg hc]
      exact ⟨fun _ => by omega, fun _ => rfl⟩
  · have e1 := roomOf_low x hr (show d + 1 ≤ lev r by omega)
    have e2 := roomOf_low y hr (show d + 1 ≤ lev r by omega)
    have t := two_mono (show d + 1 ≤ lev r by omega)
    rw [two_succ] at t
    unfold whole at *
    refine ⟨fun e => ?_, fun e => by omega⟩
    rw [e, e2] at e1
    exact absurd e1.symm ne
end TR
namespace TR
theorem div_room {y R T N : Int} (hR : 0 < R) (h : R * T = N) (hy : y < N) : R * (y / R) + R ≤ N := by
  have h1 : y / R < T := Int.ediv_lt_of_lt_mul hR (by rw [Int.mul_comm]; omega)
  have h2 : R * (y / R + 1) ≤ R * T := Int.mul_le_mul_of_nonneg_left (by omega) (Int.le_of_lt hR)
  rw [Int.mul_add, Int.mul_one] at h2
  omega
theorem flip_up {x : Int} {k : Nat} (hk : k ≤ 59) (h0 : 0 ≤ x) (h1 : x < 1152921504606846976) (hb : x / 2 ^ k % 2 = 0) : x + 2 ^ k < 1152921504606846976 := by
  have p := two_pos k
  have m := mod_two x (show (0 : Int) < 2 ^ k by omega)
  have l := Int.emod_lt_of_pos x (show (0 : Int) < 2 ^ k by omega)
  have e : (2 * 2 ^ k : Int) * 2 ^ (59 - k) = 1152921504606846976 := by
    rw [← two_succ, ← two_add, show k + 1 + (59 - k) = 60 by omega, two60]
  have r := div_room (show (0 : Int) < 2 * 2 ^ k by omega) e h1
  have d := Int.mul_ediv_add_emod x (2 * 2 ^ k)
  rw [hb] at m
  omega
theorem flip_down {x R : Int} (hR : 0 < R) (h0 : 0 ≤ x) (hb : x / R % 2 = 1) : R ≤ x := by
  have d := Int.mul_ediv_add_emod x R
  have l := Int.emod_nonneg x (Int.ne_of_gt hR)
  have q : 0 ≤ x / R := Int.ediv_nonneg h0 (Int.le_of_lt hR)
  have q1 : 1 ≤ x / R := by omega
  have := Int.mul_le_mul_of_nonneg_left q1 (Int.le_of_lt hR)
  omega
end TR
namespace TR
theorem partedAt_range (x y : Int) {d : Nat} (hd : d < 60) : 1 ≤ partedAt x y d ∧ partedAt x y d ≤ 1152921504606846976 := by
  have p := two_pos (d + 1)
  have p2 := two_le60 (show d + 1 ≤ 60 by omega)
  have l1 := Int.emod_nonneg x (show (2 : Int) ^ (d + 1) ≠ 0 by omega)
  have l2 := Int.emod_lt_of_pos x (show (0 : Int) < 2 ^ (d + 1) by omega)
  have l3 := Int.emod_nonneg y (show (2 : Int) ^ (d + 1) ≠ 0 by omega)
  have l4 := Int.emod_lt_of_pos y (show (0 : Int) < 2 ^ (d + 1) by omega)
  unfold partedAt
  omega
end TR

/-! the rooms through which a key goes -/
namespace TR
theorem mod_step (x : Int) (k : Nat) : x % 2 ^ (k + 1) = x % 2 ^ k + 2 ^ k * bit x k := by
  rw [two_succ, mod_two x (by have := two_pos k; omega)]
  rfl
theorem mod_more (x : Int) {k m : Nat} (h : k ≤ m) : ∃ c : Int, 0 ≤ c ∧ x % 2 ^ m = x % 2 ^ k + 2 ^ k * c := by
  have p := two_pos k
  have q := two_pos m
  have d := Int.mul_ediv_add_emod (x % 2 ^ m) (2 ^ k)
  have e : x % 2 ^ m % 2 ^ k = x % 2 ^ k := Int.emod_emod_of_dvd x ⟨2 ^ (m - k), by rw [← two_add]; congr 1; omega⟩
  rw [e] at d
  refine ⟨x % 2 ^ m / 2 ^ k, Int.ediv_nonneg (Int.emod_nonneg x (by omega)) (by omega), by omega⟩
theorem mod_le (x : Int) {k m : Nat} (h : k ≤ m) : x % 2 ^ k ≤ x % 2 ^ m := by
  obtain ⟨c, h0, e⟩ := mod_more x h
  have p := two_pos k
  have := Int.mul_nonneg (show (0 : Int) ≤ 2 ^ k by omega) h0
  omega
def turnsN (x : Int) : Nat → List Int
  | 0 => [0]
  | n + 1 => if bit x n = 1 then turnsN x n ++ [x % 2 ^ (n + 1)] else turnsN x n
theorem turns_le (x : Int) : ∀ n t, t ∈ turnsN x n → t ≤ x % 2 ^ n
  | 0, t, h => by
    rw [List.mem_singleton.mp h]
    exact Int.emod_nonneg x (by decide)
  | n + 1, t, h => by
    unfold turnsN at h
    split at h
    · rcases List.mem_append.mp h with h | h
      · exact Int.le_trans (turns_le x n t h) (mod_le x (Nat.le_succ n))
      · rw [List.mem_singleton.mp h]
        exact Int.le_refl _
    · exact Int.le_trans (turns_le x n t h) (mod_le x (Nat.le_succ n))
theorem turns_sorted (x : Int) : ∀ n, (turnsN x n).Pairwise (· < ·)
  | 0 => List.pairwise_singleton _ _
  | n + 1 => by
    unfold turnsN
    split
    · rename_i hb
      refine List.pairwise_append.mpr ⟨turns_sorted x n, List.pairwise_singleton _ _, fun a ha b hb2 => ?_⟩
      rw [List.mem_singleton.mp hb2, mod_step, hb]
      have := turns_le x n a ha
      have := two_pos n
      omega
    · exact turns_sorted x n
theorem turns_mem (x : Int) : ∀ (n : Nat) (t : Int), t ∈ turnsN x n ↔ ∃ k, k ≤ n ∧ t = x % 2 ^ k
  | 0, t => by
    have e : x % 2 ^ 0 = 0 := Int.emod_one x
    constructor
    · intro h
      exact ⟨0, Nat.le_refl _, by rw [e]; exact List.mem_singleton.mp h⟩
    · rintro ⟨k, hk, rfl⟩
      have : k = 0 := by omega
      subst this
      rw [e]
      exact List.mem_singleton.mpr rfl
  | n + 1, t => by
    have ih := turns_mem x n t
    have b := bit01 x n
    unfold turnsN
    constructor
    · intro h
      split at h
      · rcases List.mem_append.mp h with h | h
        · obtain ⟨k, hk, e⟩ := ih.mp h
          exact ⟨k, by omega, e⟩
        · exact ⟨n + 1, Nat.le_refl _, List.mem_singleton.mp h⟩
      · obtain ⟨k, hk, e⟩ := ih.mp h
        exact ⟨k, by omega, e⟩
    · rintro ⟨k, hk, e⟩
      by_cases hk2 : k ≤ n
      · have := ih.mpr ⟨k, hk2, e⟩
        split
        · exact List.mem_append.mpr (.inl this)
        · exact this
      · have ek : k = n + 1 := by omega
        subst ek
        split
        · exact List.mem_append.mpr (.inr (List.mem_singleton.mpr e))
        · rename_i hb
          refine ih.mpr ⟨n, Nat.le_refl _, ?_⟩
          rw [e, mod_step, show bit x n = 0 by omega]
          omega
theorem turns_head (x : Int) : ∀ n, ∃ r, turnsN x n = 0 :: r
  | 0 => ⟨[], rfl⟩
  | n + 1 => by
    obtain ⟨r, e⟩ := turns_head x n
    unfold turnsN
    split
    · exact ⟨r ++ [x % 2 ^ (n + 1)], by rw [e]; rfl⟩
    · exact ⟨r, e⟩
theorem turns_len (x : Int) : ∀ n, (turnsN x n).length ≤ n + 1
  | 0 => Nat.le_refl _
  | n + 1 => by
    unfold turnsN
    have := turns_len x n
    split
    · rw [List.length_append]
      show _ + 1 ≤ _
      omega
    · omega
/-- the room is the greatest of these below the number of rooms -/
theorem roomOf_max {x r : Int} (h0 : 0 ≤ x) (h1 : x < 1152921504606846976) (hr : 1 ≤ r) (hr2 : r ≤ 1152921504606846976) :
    roomOf x r ∈ turnsN x 60 ∧ ∀ t ∈ turnsN x 60, t < r → t ≤ roomOf x r := by
  obtain ⟨a, b, c⟩ := whole_spec hr
  have l60 := lev_le60 hr hr2
  have ew : whole r = 2 ^ lev r := rfl
  have e2 : 2 * whole r = 2 ^ (lev r + 1) := by rw [two_succ]; rfl
  have ms := mod_step x (lev r)
  have bt := bit01 x (lev r)
  refine ⟨?_, fun t ht hlt => ?_⟩
  · unfold roomOf
    split
    · rename_i hc
      have l1 := Int.emod_nonneg x (show whole r ≠ 0 by omega)
      have l59 : lev r + 1 ≤ 60 := by
        apply Decidable.byContradiction
        intro n
        have : lev r = 60 := by omega
        rw [ew, this, two60] at hc l1
        omega
      rw [e2]
      exact (turns_mem x 60 _).mpr ⟨_, l59, rfl⟩
    · exact (turns_mem x 60 _).mpr ⟨_, l60, rfl⟩
  · obtain ⟨k, hk, rfl⟩ := (turns_mem x 60 _).mp ht
    unfold roomOf
    rw [e2]
    rw [ew] at a b c ⊢
    by_cases hk2 : k ≤ lev r
    · have := mod_le x hk2
      split
      · rcases bt with bt | bt <;> rw [bt] at ms <;> omega
      · omega
    · obtain ⟨d, hd, ed⟩ := mod_more x (show lev r + 1 ≤ k by omega)
      have p := two_pos (lev r)
      have l := Int.emod_nonneg x (show (2 : Int) ^ (lev r + 1) ≠ 0 by rw [two_succ]; omega)
      have d0 : d = 0 := by
        apply Decidable.byContradiction
        intro n
        have : (2 : Int) ^ (lev r + 1) * 1 ≤ 2 ^ (lev r + 1) * d := Int.mul_le_mul_of_nonneg_left (by omega) (by rw [two_succ]; omega)
        rw [two_succ] at this ed l
        omega
      rw [d0, Int.mul_zero, Int.add_zero] at ed
      rw [ed] at hlt ⊢
      split
      · exact Int.le_refl _
      · rcases bt with bt | bt <;> rw [bt] at ms <;> omega
/-- the trail up to a number of rooms -/
def byBits (x r : Int) : Nat → List (Int × Int)
  | 0 => [(1, 0)]
  | n + 1 => if bit x n = 1 ∧ x % 2 ^ (n + 1) < r then byBits x r n ++ [(x % 2 ^ (n + 1) + 1, x % 2 ^ (n + 1))] else byBits x r n
def trailOf (l : List Int) (r : Int) : List (Int × Int) := (1, 0) :: (l.filter fun m => decide (0 < m ∧ m < r)).map fun m => (m + 1, m)
theorem trailOf_snoc (l : List Int) (m r : Int) : trailOf (l ++ [m]) r = if 0 < m ∧ m < r then trailOf l r ++ [(m + 1, m)] else trailOf l r := by
  unfold trailOf
  rw [List.filter_append, List.map_append]
  by_cases h : 0 < m ∧ m < r
  · rw [if_pos h, List.filter_cons, if_pos (decide_eq_true h)]
    rfl
  · rw [if_neg h, List.filter_cons, if_neg (by rw [decide_eq_false h]; exact Bool.false_ne_true)]
    show _ :: (_ ++ []) = _
    rw [List.append_nil]
theorem byBits_eq (x r : Int) : ∀ n, byBits x r n = trailOf (turnsN x n) r
  | 0 => by
    show [(1, 0)] = trailOf ([] ++ [0]) r
    rw [trailOf_snoc, if_neg (by omega)]
    rfl
  | n + 1 => by
    unfold byBits turnsN
    have p := two_pos n
    have l := Int.emod_nonneg x (show (2 : Int) ^ n ≠ 0 by omega)
    by_cases hb : bit x n = 1
    · have ms := mod_step x n
      rw [hb] at ms
      rw [if_pos hb, trailOf_snoc, byBits_eq x r n]
      by_cases h : x % 2 ^ (n + 1) < r
      · rw [if_pos ⟨hb, h⟩, if_pos ⟨by omega, h⟩]
      · rw [if_neg (fun z => h z.2), if_neg (fun z => h z.2)]
    · rw [if_neg (fun z => hb z.1), if_neg hb, byBits_eq x r n]
theorem byBits_len (x r : Int) (n : Nat) : (byBits x r n).length ≤ n + 1 := by
  induction n with
  | zero => exact Nat.le_refl _
  | succ n ih =>
    unfold byBits
    split
    · rw [List.length_append]
      show _ + 1 ≤ _
      omega
    · omega
theorem sorted_split {r : Int} : ∀ {l : List Int}, l.Pairwise (· < ·) → (∀ t ∈ l, 0 ≤ t) → 0 < r → (l.filter fun m => decide (0 < m ∧ m < r + 1)) = (l.filter fun m => decide (0 < m ∧ m < r)) ++ (if r ∈ l then [r] else [])
  | [], _, _, _ => rfl
  | m :: l, h, h0, hr => by
    have ih := sorted_split (List.pairwise_cons.mp h).2 (fun t ht => h0 t (List.mem_cons_of_mem m ht)) hr
    have lt := (List.pairwise_cons.mp h).1
    rw [List.filter_cons, List.filter_cons]
    rcases Int.lt_trichotomy m r with c | c | c
    · have ne : ¬ r = m := by omega
      have e : (if r ∈ m :: l then [r] else ([] : List Int)) = if r ∈ l then [r] else [] := by
        simp only [List.mem_cons, ne, false_or]
      rw [e, ih]
      by_cases hm : 0 < m
      · rw [if_pos (decide_eq_true ⟨hm, by omega⟩), if_pos (decide_eq_true ⟨hm, c⟩)]
        rfl
      · have e1 : decide (0 < m ∧ m < r + 1) = false := decide_eq_false fun z => hm z.1
        have e2 : decide (0 < m ∧ m < r) = false := decide_eq_false fun z => hm z.1
        rw [e1, e2]
        rfl
    · subst c
      have none : ∀ s : Int, s ≤ m + 1 → (l.filter fun k => decide (0 < k ∧ k < s)) = [] := fun s hs => by
        rw [List.filter_eq_nil_iff]
        intro t ht z
        have := of_decide_eq_true z
        have := lt t ht
        omega
      rw [none _ (Int.le_refl _), none m (by omega), if_pos (decide_eq_true ⟨hr, by omega⟩), if_neg (by rw [decide_eq_false (fun z => by omega)]; exact Bool.false_ne_true), if_pos List.mem_cons_self]
      rfl
    · have none : ∀ s : Int, s ≤ r + 1 → (l.filter fun k => decide (0 < k ∧ k < s)) = [] := fun s hs => by
        rw [List.filter_eq_nil_iff]
        intro t ht z
        have := of_decide_eq_true z
        have := lt t ht
        omega
      have nm : ¬ r ∈ m :: l := by
        intro z
        rcases List.mem_cons.mp z with z | z
        · omega
        · have := lt r z
          omega
      rw [none _ (Int.le_refl _), none r (by omega), if_neg (by rw [decide_eq_false (fun z => by omega)]; exact Bool.false_ne_true), if_neg (by rw [decide_eq_false (fun z => by omega)]; exact Bool.false_ne_true), if_neg nm]
      rfl
theorem turns_nonneg (x : Int) (n : Nat) : ∀ t ∈ turnsN x n, 0 ≤ t := fun t ht => by
  obtain ⟨k, _, rfl⟩ := (turns_mem x n t).mp ht
  exact Int.emod_nonneg x (by have := two_pos k; omega)
/-- one room more -/
theorem trail_succ {x r : Int} (h0 : 0 ≤ x) (h1 : x < 1152921504606846976) (hr : 1 ≤ r) (hr2 : r < 1152921504606846976) :
    byBits x (r + 1) 60 = (if roomOf x (r + 1) ≠ roomOf x r then byBits x r 60 ++ [(r + 1, roomOf x (r + 1))] else byBits x r 60) := by
  obtain ⟨a1, a2⟩ := roomOf_max h0 h1 hr (by omega)
  obtain ⟨b1, b2⟩ := roomOf_max h0 h1 (show 1 ≤ r + 1 by omega) (by omega)
  obtain ⟨c1, c2⟩ := roomOf_range (key := x) hr
  obtain ⟨d1, d2⟩ := roomOf_range (key := x) (show 1 ≤ r + 1 by omega)
  rw [byBits_eq, byBits_eq]
  unfold trailOf
  rw [sorted_split (turns_sorted x 60) (turns_nonneg x 60) (by omega), List.map_append]
  by_cases hm : r ∈ turnsN x 60
  · have e : roomOf x (r + 1) = r := by
      have := b2 r hm (by omega)
      omega
    rw [if_pos hm, if_pos (by omega), e]
    rfl
  · have e : roomOf x (r + 1) = roomOf x r := by
      have l1 := b2 _ a1 (by omega)
      by_cases hr1 : roomOf x (r + 1) = r
      · exact absurd (hr1 ▸ b1) hm
      · have := a2 _ b1 (by omega)
        omega
    rw [if_neg hm, if_neg (by omega), List.map_nil, List.append_nil]
theorem trail_last {x r : Int} (h0 : 0 ≤ x) (h1 : x < 1152921504606846976) (hr : 1 ≤ r) (hr2 : r ≤ 1152921504606846976) : ∃ l m, byBits x r 60 = l ++ [(m, roomOf x r)] := by
  obtain ⟨n, rfl⟩ : ∃ n : Nat, r = (n : Int) + 1 := ⟨(r - 1).toNat, by omega⟩
  induction n with
  | zero =>
    have e : roomOf x 1 = 0 := by
      have := roomOf_range (key := x) (show (1 : Int) ≤ 1 by decide)
      omega
    refine ⟨[], 1, ?_⟩
    show byBits x 1 60 = [(1, roomOf x 1)]
    rw [e, byBits_eq]
    unfold trailOf
    rw [List.filter_eq_nil_iff.mpr (fun t ht z => by have := of_decide_eq_true z; omega)]
    rfl
  | succ n ih =>
    have c : (((n + 1 : Nat) : Int) + 1) = ((n : Int) + 1) + 1 := by omega
    rw [c] at hr2 ⊢
    rw [trail_succ h0 h1 (by omega) (by omega)]
    split
    · exact ⟨_, _, rfl⟩
    · rename_i hn
      obtain ⟨l, m, e⟩ := ih (by omega) (by omega)
      rw [Decidable.not_not.mp hn]
      exact ⟨l, m, e⟩
end TR
namespace TR
theorem byBits_pos (x r : Int) (n : Nat) : 0 < (byBits x r n).length := by
  rw [byBits_eq]
  exact Nat.succ_pos _
end TR
namespace TR
/-- the next room that comes behind a room -/
def nxt (l : List Int) (m : Int) : Option Int := (l.find? fun t => decide (m < t)).map fun t => t + 1
theorem find_next : ∀ {l : List Int} {j : Nat} {m : Int}, l.Pairwise (· < ·) → l[j]? = some m → l.find? (fun t => decide (m < t)) = l[j + 1]?
  | [], j, m, _, h => by simp at h
  | a :: l, 0, m, h, e => by
    cases e
    rw [List.find?_cons, decide_eq_false (Int.lt_irrefl a)]
    cases l with
    | nil => rfl
    | cons b l => 
      have := (List.pairwise_cons.mp h).1 b List.mem_cons_self
      rw [List.find?_cons, decide_eq_true this]
      rfl
  | a :: l, j + 1, m, h, e => by
    have e' : l[j]? = some m := e
    have lt := (List.pairwise_cons.mp h).1 m (List.mem_of_getElem? e')
    rw [List.find?_cons, decide_eq_false (by omega)]
    exact find_next (List.pairwise_cons.mp h).2 e'
theorem find_least : ∀ {l : List Int} {m t : Int}, l.Pairwise (· < ·) → l.find? (fun t => decide (m < t)) = some t → m < t ∧ t ∈ l ∧ ∀ s ∈ l, m < s → t ≤ s
  | [], m, t, _, h => by simp at h
  | a :: l, m, t, h, e => by
    rw [List.find?_cons] at e
    have lt := (List.pairwise_cons.mp h).1
    by_cases c : m < a
    · rw [decide_eq_true c] at e
      cases e
      refine ⟨c, List.mem_cons_self, fun s hs _ => ?_⟩
      rcases List.mem_cons.mp hs with rfl | hs
      · exact Int.le_refl _
      · exact Int.le_of_lt (lt s hs)
    · rw [decide_eq_false c] at e
      obtain ⟨g1, g2, g3⟩ := find_least (List.pairwise_cons.mp h).2 e
      refine ⟨g1, List.mem_cons_of_mem _ g2, fun s hs hm => ?_⟩
      rcases List.mem_cons.mp hs with rfl | hs
      · exact absurd hm c
      · exact g3 s hs hm
theorem find_none {l : List Int} {m : Int} (h : l.find? (fun t => decide (m < t)) = none) : ∀ s ∈ l, ¬ m < s := fun s hs hm => by
  have := List.find?_eq_none.mp h s hs
  rw [decide_eq_true hm] at this
  exact this rfl
/-- a key is in a room just by the numbers of rooms that its stay tells -/
theorem stay_iff {x r m : Int} (h0 : 0 ≤ x) (h1 : x < 1152921504606846976) (hr : 1 ≤ r) (hr2 : r ≤ 1152921504606846976) :
    (m ∈ turnsN x 60 ∧ m + 1 ≤ r ∧ ∀ t, nxt (turnsN x 60) m = some t → r < t) ↔ roomOf x r = m := by
  obtain ⟨a1, a2⟩ := roomOf_max h0 h1 hr hr2
  obtain ⟨c1, c2⟩ := roomOf_range (key := x) hr
  have srt := turns_sorted x 60
  unfold nxt
  constructor
  · rintro ⟨g1, g2, g3⟩
    have l1 := a2 m g1 (by omega)
    apply Decidable.byContradiction
    intro n
    cases e : (turnsN x 60).find? (fun t => decide (m < t)) with
    | none => exact find_none e _ a1 (by omega)
    | some t =>
      rw [e] at g3
      have g : r < t + 1 := g3 _ rfl
      obtain ⟨k1, k2, k3⟩ := find_least srt e
      have := k3 _ a1 (by omega)
      omega
  · rintro rfl
    refine ⟨a1, by omega, fun t ht => ?_⟩
    cases e : (turnsN x 60).find? (fun t => decide (roomOf x r < t)) with
    | none => rw [e] at ht; cases ht
    | some s =>
      rw [e] at ht
      cases ht
      obtain ⟨k1, k2, k3⟩ := find_least srt e
      show r < s + 1
      apply Decidable.byContradiction
      intro n
      have := a2 s k2 (by omega)
      omega
end TR

/-! sorted of pairs of a number and a text, no two unlike ones of the same number -/
namespace SrtS
open PySem PySem.W PyProof.Rows SrtO
section
variable {prog : Program} {w : World} {A : Around} {E : Value → Shared → Prop} {s : Shared}
def IsPS (h : Heap) (v : Value) (x : Int) (y : Str) : Prop := ∃ a o t u n, v = .ref a ∧ h.get? a = some o ∧ o.cls = .type "tuple" ∧ o.data = .seq #[.int x t, .str y u] n
theorem IsPS.keeps {h h' : Heap} {v : Value} {x : Int} {y : Str} (p : IsPS h v x y) (k : ∀ b o, h.get? b = some o → o.cls = .type "tuple" → h'.get? b = some o) : IsPS h' v x y := by
  obtain ⟨a, o, t, u, n, e, ho, hc, hd⟩ := p
  exact ⟨a, o, t, u, n, e, k _ _ ho hc, hc, hd⟩
def ltI (p q : Int × Str) : Bool := decide (p.1 < q.1)
theorem swo_I {α : Type} (k : α → Int × Str) : Swo fun v u => ltI (k v) (k u) := by
  unfold ltI
  refine ⟨fun x y h => ?_, fun x y z h1 h2 => ?_⟩
  · have a := of_decide_eq_true h
    exact decide_eq_false (by omega)
  · have a := of_decide_eq_false h1
    have b := of_decide_eq_false h2
    exact decide_eq_false (by omega)
theorem ps_cmp {vs : List Value} {k : Value → Int × Str} (hp : ∀ v ∈ vs, IsPS s.heap v (k v).1 (k v).2) (hk : ∀ v ∈ vs, ∀ u ∈ vs, (k v).1 = (k u).1 → (k v).2 = (k u).2) :
    SrtO.Cmp prog w A s (tuples' true) (fun p => p.1 ∈ vs) (lt2 fun v u => ltI (k v) (k u)) := by
  intro p q hm hm'
  have h1 := hp _ hm
  have h2 := hp _ hm'
  have h3 := hk _ hm _ hm'
  show wpAny (model prog w) A (keyLt' (tuples' true) p.1 q.1) (fun r s' => s' = s ∧ r = ltI (k p.1) (k q.1)) (fun _ _ => False) s
  unfold ltI
  generalize (k p.1).1 = x at h1 h3 ⊢
  generalize (k p.1).2 = y at h1 h3 ⊢
  generalize (k q.1).1 = x' at h2 h3 ⊢
  generalize (k q.1).2 = y' at h2 h3 ⊢
  obtain ⟨a, o, t, u, n, e, ho, hc, hd⟩ := h1
  obtain ⟨a', o', t', u', n', e', ho', hc', hd'⟩ := h2
  rw [e, e']
  refine PySem.W.kat_lt ho hd ho' hd' ?_
  show PySem.W.KatLex prog w A true (decide (2 < 2)) _ [(.int x t, .int x' t'), (.str y u, .str y' u')] 0 s
  refine PySem.W.kat_cons (SeqAt.EqAt.int_int x t x' t' prog w _ _ ?_)
  refine PySem.W.kat_go (fun e1 => ?_) (fun e1 => ?_)
  · have ex : x = x' := by simpa using e1
    have ey : y = y' := h3 ex
    subst ex
    subst ey
    refine PySem.W.kat_yes (PySem.W.kat_cons (SeqAt.EqAt.str_str y u y u' prog w _ _ ?_))
    refine PySem.W.kat_go (fun e2 => ?_) (fun e2 => ?_)
    · exact PySem.W.kat_yes (PySem.W.kat_nil ⟨rfl, (decide_eq_false (Int.lt_irrefl _)).symm⟩)
    · exact absurd e2 (by simp)
  · exact PySem.W.kat_no (oneLt_int ⟨rfl, rfl⟩)
theorem firstsS_of {h : Heap} : ∀ {vs : List Value}, (∀ v ∈ vs, ∃ x y, IsPS h v x y) → ∃ fs : List Value, PySem.W.KatTups h vs fs ∧ fs.length = vs.length ∧ ∀ f ∈ fs, ∃ x t, f = Value.int x t
  | [], _ => ⟨[], PySem.W.KatTups.nil, rfl, fun _ hm => by simp at hm⟩
  | v :: vs, hp => by
    obtain ⟨fs, h1, h2, h3⟩ := firstsS_of (vs := vs) fun v' hm => hp v' (List.mem_cons_of_mem _ hm)
    obtain ⟨x, y, a, o, t, u, n, e, ho, hc, hd⟩ := hp v (List.mem_cons_self ..)
    subst e
    refine ⟨.int x t :: fs, PySem.W.KatTups.cons ho hc hd rfl h1, by rw [List.length_cons, List.length_cons, h2], fun f hm => ?_⟩
    rcases List.mem_cons.mp hm with rfl | hm
    · exact ⟨x, t, rfl⟩
    · exact h3 f hm
theorem ps_sortable {a : Addr} {vs : List Value} {k : Value → Int × Str} (h0 : 0 < vs.length) (hp : ∀ v ∈ vs, IsPS s.heap v (k v).1 (k v).2) (hk : ∀ v ∈ vs, ∀ u ∈ vs, (k v).1 = (k u).1 → (k v).2 = (k u).2)
    (ha : ∀ o, s.heap.get? a = some o → o.cls ≠ .type "tuple") : SortableO prog w A s a vs fun v u => ltI (k v) (k u) := by
  intro h' keep
  have hp' : ∀ v ∈ vs, IsPS h' v (k v).1 (k v).2 := fun v hm => (hp v hm).keeps fun b o e c => keep b o (fun z => by subst z; exact ha o e c) e
  obtain ⟨fs, h1, h2, h3⟩ := firstsS_of fun v hm => ⟨_, _, hp' v hm⟩
  refine ⟨tuples' true, fun Q E hq => ?_, ps_cmp hp' hk⟩
  refine PySem.W.kat_kind (T := .type "int") h1 (by omega) (fun f hm => ?_) (by rfl) ?_
  · obtain ⟨x, t, rfl⟩ := h3 f hm
    exact PySem.W.Looks.now
  · have e : (Value.type "int" != Value.type "tuple") = true := by first | decide +kernel | rfl | decide
    rw [e]
    exact hq
theorem sorted_ps {l : Addr} {vs : List Value} {k : Value → Int × Str} {Q : Value → Shared → Prop} (hl : s.heap.IsList l vs.toArray) (hz : vs.length ≤ sizeLine) (hp : ∀ v ∈ vs, IsPS s.heap v (k v).1 (k v).2)
    (hk : ∀ v ∈ vs, ∀ u ∈ vs, (k v).1 = (k u).1 → (k v).2 = (k u).2)
    (h : ∀ (h' : Heap) (d : Addr) (out : List Value), Srtd (fun v u => ltI (k v) (k u)) out → Stb (fun v u => ltI (k v) (k u)) out vs → (∀ b o, s.heap.get? b = some o → h'.get? b = some o) → s.heap.objs.size ≤ d → (∃ n, h'.get? d = some (seqObj "list" out.toArray n)) → Q (.ref d) { s with heap := h' }) :
    wpAny (model prog w) A (call (.builtin "sorted") [.ref l]) Q E s := by
  refine sorted_ord (swo_I k) hl hz (fun h2 h₁ a ha kk => ?_) fun out hs hb => ?_
  · refine ps_sortable (s := { s with heap := h₁ }) (by omega) (fun v hm => (hp v hm).keeps fun b o e _ => (kk b o e).2) hk fun o e => ?_
    have e' : some o = some (seqObj "list" vs.toArray 0) := e.symm.trans ha
    cases e'
    intro c
    exact absurd (Value.type.inj c) (by decide)
  · exact h _ _ out hs hb (fun b o e => sortedAll_old e) (Nat.le_succ _) (sortedAll_at s.heap vs out.toArray)
end
end SrtS
namespace L2
open PySem PySem.Spec PyProof.Rows
def EntV (K : PySem.W.Frag) (H : Hp) (x : V) (e : Int × Str) : Prop := ∃ t, x = V.ref t ∧ SqT K H t [.int e.1, .str e.2]
def rSortedPS (K : PySem.W.Frag) : List V → Hp → VK → Prop := fun vs H Q => ∃ (a : Addr) (xs : List V) (l : List (Int × Str)), vs = [V.ref a] ∧ SqL K H a xs ∧ Paired (EntV K H) xs l ∧
  (∀ x ∈ l, ∀ y ∈ l, x.1 = y.1 → x.2 = y.2) ∧
  ∀ (ps : List (V × (Int × Str))) p, ps.Pairwise (fun x y => x.2.1 ≤ y.2.1) → ps.Perm (xs.zip l) → H p = none → Q (.ref p) (upd H p (.lst (ps.map Prod.fst)))
theorem cr_sortedPS {X : Cx} : CallR X (.builtin "sorted") (rSortedPS X.K) := by
  intro pins s σ H vs us Q I r h
  obtain ⟨a, xs, l, rfl, hs, hx, hk, q⟩ := h
  obtain ⟨its, rv, hl, hz⟩ := I.list hs
  obtain ⟨u, rfl, ru⟩ := vals1 r
  obtain rfl : u = Value.ref a := ru
  have hm : ∀ {xs : List V} {l : List (Int × Str)}, Paired (EntV X.K H) xs l → ∀ x ∈ xs, ∃ e ∈ l, EntV X.K H x e := by
    intro xs l h
    induction h with
    | nil => exact fun _ h => absurd h List.not_mem_nil
    | cons a t ih =>
      intro x hx
      rcases List.mem_cons.mp hx with e | hx
      · rw [e]
        exact ⟨_, List.mem_cons_self, a⟩
      · obtain ⟨e, h1, h2⟩ := ih x hx
        exact ⟨e, List.mem_cons_of_mem _ h1, h2⟩
  have inj : ∀ {x : V} {e f : Int × Str}, EntV X.K H x e → EntV X.K H x f → e = f := by
    intro x e f ⟨t, h1, h2⟩ ⟨t', h3, h4⟩
    rw [h1] at h3
    cases h3
    have h := I.tuple_inj h2 h4
    cases e
    cases f
    cases h
    rfl
  obtain ⟨k, kv⟩ : ∃ k : V → Int × Str, ∀ x ∈ xs, EntV X.K H x (k x) := by
    classical
    refine ⟨fun x => if c : ∃ e, EntV X.K H x e then Classical.choose c else (0, ⟨#[]⟩), fun x hx' => ?_⟩
    obtain ⟨e, _, he⟩ := hm hx x hx'
    have c : ∃ e, EntV X.K H x e := ⟨e, he⟩
    show EntV X.K H x (if c : ∃ e, EntV X.K H x e then Classical.choose c else (0, ⟨#[]⟩))
    rw [dif_pos c]
    exact Classical.choose_spec c
  have ez : xs.zip l = xs.map fun v => (v, k v) := by
    clear hk q hs rv hz hm
    induction hx with
    | nil => rfl
    | cons a t ih =>
      rw [List.zip_cons_cons, List.map_cons, ih (fun x h => kv x (List.mem_cons_of_mem _ h)), inj a (kv _ List.mem_cons_self)]
  have el : ∀ x ∈ xs, k x ∈ l := fun x h => by
    obtain ⟨e, h1, h2⟩ := hm hx x h
    rw [inj (kv x h) h2]
    exact h1
  obtain ⟨e1, e2⟩ := refs_back rv fun x m => by
    obtain ⟨t, e, _⟩ := kv x m
    exact ⟨t, e⟩
  have mem : ∀ v ∈ its, backV v ∈ xs := fun v hv => by
    rw [e1]
    exact List.mem_map.mpr ⟨v, hv, rfl⟩
  refine SrtS.sorted_ps (k := fun u => k (backV u)) hl.isList (by rw [← rv.length]; exact hz) (fun v hv => ?_) (fun v hv u hu => hk _ (el _ (mem v hv)) _ (el _ (mem u hu))) fun h' d out h1 h2 kp hd hn => ?_
  · obtain ⟨t, rfl⟩ := e2 v hv
    have hm : V.ref t ∈ xs := mem _ hv
    obtain ⟨t', e, ht⟩ := kv _ hm
    cases e
    obtain ⟨its2, r2, ⟨o, ho, hc, n, hd⟩, _⟩ := I.tuple ht
    obtain ⟨u1, u2, rfl, ri, rj⟩ := vals2 r2
    obtain ⟨t1, rfl⟩ := ri
    obtain ⟨t2, rfl⟩ := rj
    exact ⟨t, o, t1, t2, n, rfl, ho, hc, hd⟩
  · have h3 : ∀ u ∈ out, ∃ a, u = Value.ref a := fun u hu => e2 u (h2.perm.mem_iff.mp hu)
    obtain ⟨n, hn⟩ := hn
    have hb : (out.map backV).Perm xs := by
      rw [e1]
      exact h2.perm.map backV
    have em : ((out.map backV).map fun v => (v, k v)).map Prod.fst = out.map backV := by
      rw [List.map_map]
      exact (List.map_congr_left fun _ _ => rfl).trans (List.map_id _)
    have q2 := q ((out.map backV).map fun v => (v, k v)) d ?_ (by rw [ez]; exact hb.map _) (I.hok.fresh hd)
    · rw [em] at q2
      refine ⟨.ref d, upd H d (.lst (out.map backV)), I.laid (t' := s.toks) kp hd ⟨?_, out, n, vals_back h3, hn⟩, rfl, q2⟩
      rw [hb.length_eq]
      exact hz
    · exact List.pairwise_map.mpr (List.pairwise_map.mpr (h1.imp fun h => by
        have := of_decide_eq_false h
        show (k (backV _)).1 ≤ (k (backV _)).1
        omega))
end L2

/-! entries, rows, rooms, yards as data; comprehensions that draw -/
namespace TR
open PySem L2
/-- a text of signs that there are -/
abbrev Tx := {x : Str // PyData.strOk x = true}
instance : Inhabited Tx := ⟨⟨⟨#[]⟩, by simp [PyData.strOk]⟩⟩
instance : Py Tx := ⟨fun x => .str x.1, 0, fun _ => Nat.le_refl _, fun x => x.2, fun a b => by
  rw [PyData.eqv, beq_iff_eq]
  exact Subtype.ext_iff.symm⟩
instance : Py (Option Tx) := ⟨fun o => match o with | none => .none | some i => .str i.1, 0, fun o => by cases o <;> exact Nat.le_refl _, fun o => by
  cases o with
  | none => rfl
  | some x => exact x.2, fun a b => by
  cases a <;> cases b
  · exact ⟨fun _ => rfl, fun _ => rfl⟩
  · exact ⟨fun h => (Bool.false_ne_true h).elim, fun h => nomatch h⟩
  · exact ⟨fun h => (Bool.false_ne_true h).elim, fun h => nomatch h⟩
  · rename_i x y
    show (x.1 == y.1) = true ↔ some x = some y
    rw [beq_iff_eq, Option.some.injEq]
    exact Subtype.ext_iff.symm⟩
theorem perm_of_map {α β : Type} {f : α → β} : ∀ {l : List α} {ps : List β}, ps.Perm (l.map f) → ∃ qs : List α, qs.Perm l ∧ ps = qs.map f := by
  intro l ps h
  generalize e : l.map f = m at h
  induction h generalizing l with
  | nil => exact ⟨l, .refl _, by rw [e]⟩
  | cons x h ih =>
    cases l with
    | nil => cases e
    | cons a l =>
      rw [List.map_cons] at e
      cases e
      obtain ⟨qs, h1, h2⟩ := ih rfl
      exact ⟨a :: qs, h1.cons a, by rw [h2]; rfl⟩
  | swap x y t =>
    match l, e with
    | a :: b :: l, e =>
      rw [List.map_cons, List.map_cons] at e
      cases e
      exact ⟨b :: a :: l, .swap _ _ _, rfl⟩
  | trans h1 h2 ih1 ih2 =>
    obtain ⟨q2, g1, g2⟩ := ih2 e
    obtain ⟨q1, g3, g4⟩ := ih1 g2.symm
    exact ⟨q1, g3.trans g1, g4⟩
abbrev Ent := Int × Tx
abbrev Row := List Ent
abbrev Yard := T3 Int Int (List (List Row))
instance : DecidableEq Tx := fun a b => decidable_of_iff (a.1 = b.1) Subtype.ext_iff.symm
instance : DecidableEq Yard := fun a b => decidable_of_iff (a.a = b.a ∧ a.b = b.b ∧ a.c = b.c) (by
  obtain ⟨a1, a2, a3⟩ := a
  obtain ⟨b1, b2, b3⟩ := b
  exact T3.mk.injEq .. ▸ Iff.rfl)
section
variable {K : PySem.W.Frag} {H : Hp} {v : V}
theorem Is.tx (x : Tx) : Is K H (.str x.1) x := Dp.str x.1
theorem Is.noS : Is K H .non (none : Option Tx) := Dp.non
theorem Is.yesS (x : Tx) : Is K H (.str x.1) (some x : Option Tx) := Dp.str x.1
theorem Is.str_of {x : Tx} (h : Is K H v x) : v = .str x.1 := by
  have h' : Dp K H v (.str x.1) := h
  cases h'
  rfl
theorem Is.ent_of {e : Ent} (h : Is K H v e) : ∃ a, v = .ref a ∧ SqT K H a [.int e.1, .str e.2.1] := by
  obtain ⟨a, x, y, h1, h2, h3, h4⟩ := h.pair_of
  rw [h3.int_of, h4.str_of] at h2
  exact ⟨a, h1, h2⟩
theorem Is.three_of {α β γ : Type} [Py α] [Py β] [Py γ] {t : T3 α β γ} (h : Is K H v t) : ∃ a x y z, v = .ref a ∧ SqT K H a [x, y, z] ∧ Is K H x t.a ∧ Is K H y t.b ∧ Is K H z t.c := by
  have h' : Dp K H v (.tuple [Py.d t.a, Py.d t.b, Py.d t.c]) := h
  cases h' with
  | tup s a =>
    cases a with
    | cons h1 r => cases r with
      | cons h2 r => cases r with
        | cons h3 r => cases r; exact ⟨_, _, _, _, rfl, s, h1, h2, h3⟩
theorem Is.yard_of {y : Yard} (h : Is K H v y) : ∃ a b, v = .ref a ∧ SqT K H a [.int y.a, .int y.b, .ref b] ∧ Is K H (.ref b) y.c := by
  obtain ⟨a, x1, x2, x3, h1, h2, h3, h4, h5⟩ := h.three_of
  obtain ⟨b, vs, e, h6, h7⟩ := h5.list
  rw [h3.int_of, h4.int_of, e] at h2
  exact ⟨a, b, h1, h2, e ▸ h5⟩
theorem Is.ref_of {α : Type} [Py α] {xs : List α} (h : Is K H v xs) : ∃ b, v = .ref b ∧ Is K H (.ref b) xs := by
  obtain ⟨b, vs, e, h6, h7⟩ := h.list
  exact ⟨b, e, e ▸ h⟩
end
/-! ### rows sorted by their keys -/
def sortE (l : Row) : Row := l.mergeSort (fun a b => decide (a.1 ≤ b.1))
theorem sortE_perm (l : Row) : (sortE l).Perm l := List.mergeSort_perm l _
theorem sortE_sorted (l : Row) : (sortE l).Pairwise (fun a b => a.1 ≤ b.1) := (List.pairwise_mergeSort (le := fun a b : Ent => decide (a.1 ≤ b.1)) (fun a b c h1 h2 => decide_eq_true (Int.le_trans (of_decide_eq_true h1) (of_decide_eq_true h2))) (fun a b => by
  rcases Int.le_total a.1 b.1 with h | h
  · rw [decide_eq_true h]; rfl
  · rw [decide_eq_true h, Bool.or_true]) l).imp fun h => of_decide_eq_true h
/-- no two unlike entries of one key -/
def OneK (l : Row) : Prop := ∀ x ∈ l, ∀ y ∈ l, x.1 = y.1 → x.2 = y.2
theorem sortE_of {l l' : Row} (k : OneK l) (p : l'.Perm l) (s : l'.Pairwise (fun a b => a.1 ≤ b.1)) : l' = sortE l :=
  List.Perm.eq_of_pairwise (le := fun a b : Ent => a.1 ≤ b.1) (fun a b ha hb h1 h2 => by
    have e : a.1 = b.1 := Int.le_antisymm h1 h2
    exact Prod.ext e (k a (p.mem_iff.mp ha) b ((sortE_perm l).mem_iff.mp hb) e)) s (sortE_sorted l) (p.trans (sortE_perm l).symm)
theorem sortE_len (l : Row) : (sortE l).length = l.length := (sortE_perm l).length_eq
theorem sortPSA {X : Cx} {K : PySem.W.Frag} (hk : X.K = K) : CallR X (.builtin "sorted") (rSortedPS K) := hk ▸ cr_sortedPS
theorem Is.entV {K : PySem.W.Frag} {H : Hp} {v : V} {e : Ent} (h : Is K H v e) : EntV K H v (e.1, e.2.1) := by
  obtain ⟨a, h1, h2⟩ := h.ent_of
  exact ⟨a, h1, h2⟩
/-- sorted(entries): the values as they were, in the order of their keys -/
theorem n_sortedEF {K : PySem.W.Frag} {H : Hp} {Q : VK} {a : Addr} {vs : List V} {l : Row} (h : SqL K H a vs) (pr : Paired (fun v x => Is K H v x) vs l) (k : OneK l)
    (q : ∀ p ws H', H p = none → Ex H H' → H' p = some (.lst ws) → (∀ F : V → Ent → Prop, Paired F vs l → Paired F ws (sortE l)) → Q (.ref p) H') : rSortedPS K [.ref a] H Q := by
  refine ⟨a, vs, l.map fun e => (e.1, e.2.1), rfl, h, ?_, ?_, fun ps p srt perm hp => q p _ _ hp (Ex.new hp) upd_same fun F1 pr1 => ?_⟩
  · clear k h q
    induction pr with
    | nil => exact .nil
    | cons a t ih => exact .cons a.entV ih
  · intro x hx y hy e
    obtain ⟨x', h1, rfl⟩ := List.mem_map.mp hx
    obtain ⟨y', h2, rfl⟩ := List.mem_map.mp hy
    exact congrArg Subtype.val (k x' h1 y' h2 e)
  · have len := Paired.length pr
    -- each pair of ps comes of a pair of vs and l
    have ez : vs.zip (l.map fun e => (e.1, e.2.1)) = (vs.zip l).map fun q => (q.1, (q.2.1, q.2.2.1)) := by
      rw [List.zip_map_right]
      rfl
    rw [ez] at perm
    obtain ⟨qs, hq1, hq2⟩ : ∃ qs : List (V × Ent), qs.Perm (vs.zip l) ∧ ps = qs.map fun q => (q.1, (q.2.1, q.2.2.1)) := by
      classical
      have inj : Function.Injective fun q : V × Ent => (q.1, (q.2.1, q.2.2.1)) := fun x y e => by
        have e1 := congrArg (fun z : V × (Int × Str) => z.1) e
        have e2 := congrArg (fun z : V × (Int × Str) => z.2.1) e
        have e3 := congrArg (fun z : V × (Int × Str) => z.2.2) e
        exact Prod.ext e1 (Prod.ext e2 (Subtype.ext e3))
      exact perm_of_map perm
    subst hq2
    have e1 : (qs.map Prod.snd).Perm l := by
      have := hq1.map Prod.snd
      rw [List.map_snd_zip (by omega)] at this
      exact this
    have e2 : qs.map Prod.snd = sortE l := sortE_of k e1 (by
      have srt2 := List.pairwise_map.mp srt
      exact List.pairwise_map.mpr (srt2.imp fun h => h))
    rw [← e2, List.map_map]
    have hm : ∀ q ∈ qs, F1 q.1 q.2 := fun q hq => (zip_mem pr1 q (hq1.mem_iff.mp hq)).1
    clear e2 e1 hq1 srt perm ez
    induction qs with
    | nil => exact .nil
    | cons q qs ih => exact .cons (hm q List.mem_cons_self) (ih fun x hx => hm x (List.mem_cons_of_mem _ hx))
theorem n_sortedE {K : PySem.W.Frag} {H : Hp} {Q : VK} {a : Addr} {vs : List V} {l : Row} (h : SqL K H a vs) (pr : Paired (fun v x => Is K H v x) vs l) (k : OneK l)
    (q : ∀ p ws H', H p = none → Ex H H' → H' p = some (.lst ws) → (∀ Z1, Paired (fun v x => Is K Z1 v x) vs l → Paired (fun v x => Is K Z1 v x) ws (sortE l)) → Q (.ref p) H') : rSortedPS K [.ref a] H Q :=
  n_sortedEF h pr k fun p ws H' n e f g => q p ws H' n e f fun Z1 => g _
end TR
namespace TR
open PySem L2
/-! ### pure values out of data, some of them -/
section
variable {K : PySem.W.Frag} {σ : L2.St} {H : Hp} {tt : TT} {te : TE} {Q : VK} {g : TG} {vs : List Nat}
theorem u_lcDV {β : Type} [Py β] {a : Addr} {xs : List β} (p : β → Bool) (F : β → V) (h : Is K H (.ref a) xs) (hz : xs.length ≤ 40000)
    (turn : ∀ v x, x ∈ xs → ∀ H', Ex H H' → Is K H v x → ∀ (A : VK) (B : Hp → Prop), (p x = true → ∀ H4, Ex H' H4 → A (F x) H4) → (p x = false → ∀ H3, Ex H' H3 → B H3) → g v (wipe σ vs) H' fun σ2 H2 => wipe σ2 vs = wipe σ vs ∧ tt σ2 H2 fun b H3 => if b = true then te σ2 H3 A else B H3)
    (fin : ∀ D H', H D = none → Ex H H' → H' D = some (.lst ((xs.filter p).map F)) → Q (.ref D) H') : LcL K g tt te vs σ (.ref a) H Q := by
  obtain ⟨b, us, e, h1, h2⟩ := h.list
  cases e
  have hl := Paired.length h2
  refine u_lcL Prod.fst (us.zip xs) (fun q => p q.2) (fun q => F q.2) (by rw [zip_fst hl]; exact h1) (by rw [List.length_zip]; omega) (fun q hq H' e A B hA hB => ?_) (fun D H' n e f' => ?_)
  · obtain ⟨g1, g2⟩ := zip_mem h2 q hq
    exact turn _ q.2 g2 H' e g1 A B hA hB
  · refine fin D H' n e ?_
    rw [f']
    congr 2
    clear f' e n hz h1 turn fin h h2
    induction us generalizing xs with
    | nil =>
      cases xs with
      | nil => rfl
      | cons x xs => simp at hl
    | cons u us ih =>
      cases xs with
      | nil => simp at hl
      | cons x xs =>
        have ih := ih (xs := xs) (by simpa using hl)
        rw [List.zip_cons_cons, List.filter_cons, List.filter_cons]
        by_cases c : p x = true
        · rw [if_pos c, if_pos c, List.map_cons, List.map_cons, ih]
        · rw [if_neg c, if_neg c, ih]
end
/-! ### comprehensions that draw -/
theorem paired_turn {β γ : Type} {F : β → γ → Prop} : ∀ {xs : List β} {ys : List γ}, Paired F xs ys → Paired (fun y x => F x y) ys xs
  | _, _, .nil => .nil
  | _, _, .cons a t => .cons a (paired_turn t)
section
variable {K : PySem.W.Frag} {σ : L2.St} {H : Hp} {te : TE} {Q : VK} {g : TG} {vs : List Nat}
theorem lc_handR {α : Type} (Rel : α → V → Hp → Prop) {J : It} {n : Nat} {Z : Hp} {h : Addr} {C c R : Nat} (xs : Nat → V) (hh : Hand K Z H h C) (hC : R + c * n ≤ C)
    (hgo : ∀ i H', i < n → ExM h H H' → J.go i H') (hst : ∀ H', ExM h H H' → J.stop n H') (hy : ∀ i v H0 H', i < n → ExM h H H0 → J.yld i H0 v H' → H' = H0 ∧ v = xs i)
    (turn : ∀ i, i < n → ∀ D H' R', ExM h H H' → H D = none → (∃ o, H' D = some o) → Hand K Z H' h (R' + c) → ∀ A : VK, (∀ x y H4, ExM h H' H4 → Hand K Z H4 h R' → (∀ Z1, Ex Z Z1 → (∀ b o, H' b = none → H4 b = some o → Z1 b = some o) → Rel x y Z1) → A y H4) →
      g (xs i) (wipe σ vs) H' fun σ2 H2 => wipe σ2 vs = wipe σ vs ∧ te σ2 H2 A)
    (hz : n ≤ 40000)
    (fin : ∀ (D : Addr) (ys : List V) (l : List α) (H' : Hp), H D = none → ExM h H H' → Hand K Z H' h R → H' D = some (.lst ys) → l.length = n → (∀ Z1, Ex Z Z1 → (∀ b o, H b = none → b ≠ D → H' b = some o → Z1 b = some o) → Paired (fun y x => Rel x y Z1) ys l) → Q (.ref D) H') : LcJ g tYes te vs σ J H Q := by
  intro D hD
  have nD : D ≠ h := hand_ne0 hD hh
  have nZ : Z D = none := Ex.back hh.z hD
  obtain ⟨oh, hoh⟩ := hh.at
  refine ⟨fun i m H' => m = n - i ∧ i ≤ n ∧ ExM h H H' ∧ Hand K Z H' h (R + c * (n - i)) ∧ ∃ (ys : List V) (l : List α), H' D = some (.lst ys) ∧ l.length = i ∧ ys.length = i ∧ (∀ Z1, Ex Z Z1 → (∀ b o, H b = none → b ≠ D → H' b = some o → Z1 b = some o) → Paired (fun y x => Rel x y Z1) ys l), ⟨n, by omega, by omega, (Ex.new hD).toM, (hh.ex (Ex.new hD)).mono (by simpa using hC), [], [], upd_same, rfl, rfl, fun _ _ _ => .nil⟩, ?_⟩
  rintro i m H' ⟨rfl, hi, e, hh', ys, l, hns, hln, hly, hpr⟩
  by_cases hlt : i < n
  · refine .inr ⟨hgo i H' hlt e, fun H'' => i + 1 ≤ n ∧ ExM h H H'' ∧ Hand K Z H'' h (R + c * (n - (i + 1))) ∧ ∃ (ys : List V) (l : List α), H'' D = some (.lst ys) ∧ l.length = i + 1 ∧ ys.length = i + 1 ∧ (∀ Z1, Ex Z Z1 → (∀ b o, H b = none → b ≠ D → H'' b = some o → Z1 b = some o) → Paired (fun y x => Rel x y Z1) ys l), fun H'' q => ⟨n - (i + 1), by omega, rfl, q⟩, fun v H2 y => ?_⟩
    obtain ⟨rfl, rfl⟩ := hy i v H' H2 hlt e y
    rw [lc_yes]
    have ec : R + c * (n - i) = R + c * (n - (i + 1)) + c := by
      rw [show n - i = (n - (i + 1)) + 1 by omega, Nat.mul_succ]
      omega
    rw [ec] at hh'
    refine turn i hlt D H2 _ e hD ⟨_, hns⟩ hh' _ fun x y H4 m4 hh4 hr => ?_
    have m5 : ExM h H (upd H4 D (.lst (ys ++ [y]))) := fun b o nb q => by
      rw [upd_ne (ne_of_none q hD)]
      exact (e.trans m4) b o nb q
    refine ⟨_, m4 _ _ nD hns, sz_lt (by omega), by omega, m5, hh4.exm ExM.upd (Ne.symm nD) nZ, ys ++ [y], l ++ [x], upd_same, by rw [List.length_append, hln]; rfl, by rw [List.length_append, hly]; rfl, fun Z1 ez hz1 => ?_⟩
    refine paired_snoc (hpr Z1 ez fun b o q1 q2 q3 => hz1 b o q1 q2 ?_) (hr Z1 ez fun b o q1 q2 => hz1 b o ?_ ?_ ?_)
    · have nb : b ≠ h := fun z => by rw [z, hoh] at q1; cases q1
      rw [upd_ne q2]
      exact m4 _ _ nb q3
    · cases q : H b with
      | none => rfl
      | some o' =>
        by_cases nb : b = h
        · subst nb
          obtain ⟨o2, ho2⟩ := hh'.at
          rw [q1] at ho2
          cases ho2
        · rw [e _ _ nb q] at q1
          cases q1
    · intro z
      rw [z, hns] at q1
      cases q1
    · rw [upd_ne (fun z => by rw [z, hns] at q1; cases q1)]
      exact q2
  · have ei : i = n := by omega
    subst ei
    exact .inl ⟨hst H' e, fin D ys l H' hD e (hh'.mono (by omega)) hns hln hpr⟩
theorem u_lcR1HR {α : Type} (Rel : α → V → Hp → Prop) {n : Int} {Z : Hp} {h : Addr} {C : Nat} (R c : Nat) (hh : Hand K Z H h C) (hC : R + c * n.toNat ≤ C) (hz : 0 ≤ n ∧ n ≤ 40000)
    (turn : ∀ i : Nat, (i : Int) < n → ∀ D H' R', ExM h H H' → H D = none → (∃ o, H' D = some o) → Hand K Z H' h (R' + c) → ∀ A : VK, (∀ x y H4, ExM h H' H4 → Hand K Z H4 h R' → (∀ Z1, Ex Z Z1 → (∀ b o, H' b = none → H4 b = some o → Z1 b = some o) → Rel x y Z1) → A y H4) →
      g (.int (i : Int)) (wipe σ vs) H' fun σ2 H2 => wipe σ2 vs = wipe σ vs ∧ te σ2 H2 A)
    (fin : ∀ (D : Addr) (ys : List V) (l : List α) (H' : Hp), H D = none → ExM h H H' → Hand K Z H' h R → H' D = some (.lst ys) → l.length = n.toNat → (∀ Z1, Ex Z Z1 → (∀ b o, H b = none → b ≠ D → H' b = some o → Z1 b = some o) → Paired (fun y x => Rel x y Z1) ys l) → Q (.ref D) H') : LcR1 g tYes te vs σ [.int n] H Q := by
  have e62 : (2 : Int) ^ 62 = 4611686018427387904 := by decide
  refine ⟨n, rfl, by omega, by omega, lc_handR Rel (n := n.toNat) (c := c) (R := R) (fun i => .int (i : Int)) hh hC (fun i H' hi e => hi) (fun H' e => Nat.le_refl _) (fun i v H0 H' hi e y => ?_) (fun i hi D H' R' e hD hh' A k => turn i (by omega) D H' R' e hD hh' A k) (by omega) fin⟩
  obtain ⟨rfl, rfl⟩ := y
  exact ⟨rfl, by rw [Int.zero_add]⟩
/-- .. of new lists -/
theorem lc_handRW {α : Type} (Rel : α → V → Hp → Prop) {J : It} {n : Nat} {Z : Hp} {h : Addr} {C c R : Nat} (xs : Nat → V) (hh : Hand K Z H h C) (hC : R + c * n ≤ C)
    (hgo : ∀ i H', i < n → ExM h H H' → J.go i H') (hst : ∀ H', ExM h H H' → J.stop n H') (hy : ∀ i v H0 H', i < n → ExM h H H0 → J.yld i H0 v H' → H' = H0 ∧ v = xs i)
    (Pl : List α → Prop)
    (turn : ∀ i, i < n → ∀ H' R', ExM h H H' → Hand K Z H' h (R' + c) → ∀ A : VK, (∀ q H4 ys l, H' q = none → ExM h H' H4 → Hand K Z H4 h R' → H4 q = some (.lst ys) → Pl l → (∀ Z1, Ex Z Z1 → (∀ b o, H' b = none → b ≠ q → H4 b = some o → Z1 b = some o) → Paired (fun y x => Rel x y Z1) ys l) → A (.ref q) H4) →
      g (xs i) (wipe σ vs) H' fun σ2 H2 => wipe σ2 vs = wipe σ vs ∧ te σ2 H2 A)
    (hz : n ≤ 40000)
    (fin : ∀ (D : Addr) (qs : List Addr) (rs : List (List α)) (H' : Hp), (D :: qs).Nodup → (∀ q ∈ D :: qs, H q = none) → ExM h H H' → Hand K Z H' h R → H' D = some (.lst (qs.map V.ref)) → rs.length = n → (∀ r ∈ rs, Pl r) →
      (∀ Z1, Ex Z Z1 → (∀ b o, H b = none → b ∉ D :: qs → H' b = some o → Z1 b = some o) → Paired (fun q r => ∃ vs, H' q = some (.lst vs) ∧ Paired (fun y x => Rel x y Z1) vs r) qs rs) → Q (.ref D) H') : LcJ g tYes te vs σ J H Q := by
  intro D hD
  have nD : D ≠ h := hand_ne0 hD hh
  have nZ : Z D = none := Ex.back hh.z hD
  obtain ⟨oh, hoh⟩ := hh.at
  have hsome : ∀ {H' : Hp} {b : Addr} {N : Nat}, ExM h H H' → Hand K Z H' h N → H' b = none → H b = none := fun {H' b N} e hh' q1 => by
    cases q : H b with
    | none => rfl
    | some o' =>
      by_cases nb : b = h
      · subst nb
        obtain ⟨o2, ho2⟩ := hh'.at
        rw [q1] at ho2
        cases ho2
      · rw [e _ _ nb q] at q1
        cases q1
  refine ⟨fun i m H' => m = n - i ∧ i ≤ n ∧ ExM h H H' ∧ Hand K Z H' h (R + c * (n - i)) ∧ ∃ (qs : List Addr) (rs : List (List α)), (D :: qs).Nodup ∧ (∀ q ∈ D :: qs, H q = none) ∧ H' D = some (.lst (qs.map V.ref)) ∧ rs.length = i ∧ qs.length = i ∧ (∀ r ∈ rs, Pl r) ∧ (∀ q ∈ qs, ∃ o, H' q = some o) ∧ (∀ Z1, Ex Z Z1 → (∀ b o, H b = none → b ∉ D :: qs → H' b = some o → Z1 b = some o) → Paired (fun q r => ∃ vs, H' q = some (.lst vs) ∧ Paired (fun y x => Rel x y Z1) vs r) qs rs),
    ⟨n, by omega, by omega, (Ex.new hD).toM, (hh.ex (Ex.new hD)).mono (by simpa using hC), [], [], List.nodup_cons.mpr ⟨List.not_mem_nil, List.nodup_nil⟩, fun q hq => by rw [List.mem_singleton.mp hq]; exact hD, upd_same, rfl, rfl, (fun _ h => absurd h List.not_mem_nil), (fun _ h => absurd h List.not_mem_nil), fun _ _ _ => .nil⟩, ?_⟩
  rintro i m H' ⟨rfl, hi, e, hh', qs, rs, nd, fr, hns, hln, hly, hpl, hob, hpr⟩
  by_cases hlt : i < n
  · refine .inr ⟨hgo i H' hlt e, fun H'' => i + 1 ≤ n ∧ ExM h H H'' ∧ Hand K Z H'' h (R + c * (n - (i + 1))) ∧ ∃ (qs : List Addr) (rs : List (List α)), (D :: qs).Nodup ∧ (∀ q ∈ D :: qs, H q = none) ∧ H'' D = some (.lst (qs.map V.ref)) ∧ rs.length = i + 1 ∧ qs.length = i + 1 ∧ (∀ r ∈ rs, Pl r) ∧ (∀ q ∈ qs, ∃ o, H'' q = some o) ∧ (∀ Z1, Ex Z Z1 → (∀ b o, H b = none → b ∉ D :: qs → H'' b = some o → Z1 b = some o) → Paired (fun q r => ∃ vs, H'' q = some (.lst vs) ∧ Paired (fun y x => Rel x y Z1) vs r) qs rs), fun H'' q => ⟨n - (i + 1), by omega, rfl, q⟩, fun v H2 y => ?_⟩
    obtain ⟨rfl, rfl⟩ := hy i v H' H2 hlt e y
    rw [lc_yes]
    have ec : R + c * (n - i) = R + c * (n - (i + 1)) + c := by
      rw [show n - i = (n - (i + 1)) + 1 by omega, Nat.mul_succ]
      omega
    rw [ec] at hh'
    refine turn i hlt H2 _ e hh' _ fun q H4 ys l nq m4 hh4 f4 hl hr => ?_
    have nqD : q ≠ D := fun z => by rw [z, hns] at nq; cases nq
    have nqs : q ∉ qs := fun z => by
      obtain ⟨o, ho⟩ := hob q z
      rw [ho] at nq
      cases nq
    have nqm : q ∉ D :: qs := fun z => by
      rcases List.mem_cons.mp z with z | z
      · exact nqD z
      · exact nqs z
    have m5 : ExM h H (upd H4 D (.lst (qs.map V.ref ++ [V.ref q]))) := fun b o nb q => by
      rw [upd_ne (ne_of_none q hD)]
      exact (e.trans m4) b o nb q
    have nh : ∀ b ∈ D :: qs, b ≠ h := fun b hb z => by
      have := fr b hb
      rw [z, hoh] at this
      cases this
    refine ⟨_, m4 _ _ nD hns, sz_lt (by rw [List.length_map]; omega), by omega, m5, hh4.exm ExM.upd (Ne.symm nD) nZ, qs ++ [q], rs ++ [l], ?_, ?_, by rw [upd_same, List.map_append]; rfl, by rw [List.length_append, hln]; rfl, by rw [List.length_append, hly]; rfl, ?_, ?_, fun Z1 ez hz1 => ?_⟩
    · rw [← List.cons_append]
      refine List.nodup_append.mpr ⟨nd, List.nodup_cons.mpr ⟨List.not_mem_nil, List.nodup_nil⟩, fun x hx y hy z => ?_⟩
      rw [List.mem_singleton.mp hy] at z
      exact nqm (z ▸ hx)
    · intro b hb
      rw [← List.cons_append] at hb
      rcases List.mem_append.mp hb with hb | hb
      · exact fr b hb
      · rw [List.mem_singleton.mp hb]
        exact hsome e hh' nq
    · intro r hr
      rcases List.mem_append.mp hr with hr | hr
      · exact hpl r hr
      · rw [List.mem_singleton.mp hr]
        exact hl
    · intro b hb
      rcases List.mem_append.mp hb with hb | hb
      · obtain ⟨o, ho⟩ := hob b hb
        refine ⟨o, ?_⟩
        rw [upd_ne (fun z => (List.nodup_cons.mp nd).1 (by rw [← z]; exact hb))]
        exact m4 _ _ (nh b (List.mem_cons_of_mem _ hb)) ho
      · rw [List.mem_singleton.mp hb]
        exact ⟨_, by rw [upd_ne nqD]; exact f4⟩
    · have p1 := hpr Z1 ez fun b o q1 q2 q3 => hz1 b o q1 (fun hb => by
        rw [← List.cons_append] at hb
        rcases List.mem_append.mp hb with hb | hb
        · exact q2 hb
        · rw [List.mem_singleton.mp hb, nq] at q3
          cases q3) (by
        have nb : b ≠ h := fun z => by rw [z, hoh] at q1; cases q1
        rw [upd_ne (fun z => q2 (by rw [z]; exact List.mem_cons_self))]
        exact m4 _ _ nb q3)
      have p2 := hr Z1 ez fun b o q1 q2 q3 => hz1 b o (hsome e hh' q1) (fun hb => by
        rw [← List.cons_append] at hb
        rcases List.mem_append.mp hb with hb | hb
        · rcases List.mem_cons.mp hb with hb | hb
          · rw [hb, hns] at q1
            cases q1
          · obtain ⟨o2, ho2⟩ := hob b hb
            rw [ho2] at q1
            cases q1
        · exact q2 (List.mem_singleton.mp hb)) (by
        rw [upd_ne (fun z => by rw [z, hns] at q1; cases q1)]
        exact q3)
      refine paired_snoc ?_ ⟨ys, by rw [upd_ne nqD]; exact f4, p2⟩
      have nn : ∀ b ∈ qs, b ≠ D ∧ b ≠ h := fun b hb => ⟨fun z => (List.nodup_cons.mp nd).1 (z ▸ hb), nh b (List.mem_cons_of_mem _ hb)⟩
      clear hpr hz1 p2 hr hns hob nqs nqm nh nd fr hly hln hpl m5
      generalize (qs.map V.ref ++ [V.ref q]) = W
      induction p1 with
      | nil => exact .nil
      | cons a t ih =>
        refine .cons ?_ (ih fun b hb => nn b (List.mem_cons_of_mem _ hb))
        obtain ⟨ws, h1, h2⟩ := a
        obtain ⟨n1, n2⟩ := nn _ List.mem_cons_self
        exact ⟨ws, by rw [upd_ne n1]; exact m4 _ _ n2 h1, h2⟩
  · have ei : i = n := by omega
    subst ei
    exact .inl ⟨hst H' e, fin D qs rs H' nd fr e (hh'.mono (by omega)) hns hln hpl hpr⟩
theorem u_lcR1HRW {α : Type} (Rel : α → V → Hp → Prop) (Pl : List α → Prop) {n : Int} {Z : Hp} {h : Addr} {C : Nat} (R c : Nat) (hh : Hand K Z H h C) (hC : R + c * n.toNat ≤ C) (hz : 0 ≤ n ∧ n ≤ 40000)
    (turn : ∀ i : Nat, (i : Int) < n → ∀ H' R', ExM h H H' → Hand K Z H' h (R' + c) → ∀ A : VK, (∀ q H4 ys l, H' q = none → ExM h H' H4 → Hand K Z H4 h R' → H4 q = some (.lst ys) → Pl l → (∀ Z1, Ex Z Z1 → (∀ b o, H' b = none → b ≠ q → H4 b = some o → Z1 b = some o) → Paired (fun y x => Rel x y Z1) ys l) → A (.ref q) H4) →
      g (.int (i : Int)) (wipe σ vs) H' fun σ2 H2 => wipe σ2 vs = wipe σ vs ∧ te σ2 H2 A)
    (fin : ∀ (D : Addr) (qs : List Addr) (rs : List (List α)) (H' : Hp), (D :: qs).Nodup → (∀ q ∈ D :: qs, H q = none) → ExM h H H' → Hand K Z H' h R → H' D = some (.lst (qs.map V.ref)) → rs.length = n.toNat → (∀ r ∈ rs, Pl r) →
      (∀ Z1, Ex Z Z1 → (∀ b o, H b = none → b ∉ D :: qs → H' b = some o → Z1 b = some o) → Paired (fun q r => ∃ vs, H' q = some (.lst vs) ∧ Paired (fun y x => Rel x y Z1) vs r) qs rs) → Q (.ref D) H') : LcR1 g tYes te vs σ [.int n] H Q := by
  have e62 : (2 : Int) ^ 62 = 4611686018427387904 := by decide
  refine ⟨n, rfl, by omega, by omega, lc_handRW Rel (n := n.toNat) (c := c) (R := R) (fun i => .int (i : Int)) hh hC (fun i H' hi e => hi) (fun H' e => Nat.le_refl _) (fun i v H0 H' hi e y => ?_) Pl (fun i hi H' R' e hh' A k => turn i (by omega) H' R' e hh' A k) (by omega) fin⟩
  obtain ⟨rfl, rfl⟩ := y
  exact ⟨rfl, by rw [Int.zero_add]⟩
theorem lc_turnsN {α : Type} {Z0 : Hp} {J : It} (l : List α) (Rel : α → V → Hp → Prop) (hz : l.length ≤ 40000)
    (hgo : ∀ i H', i < l.length → Ex H H' → J.go i H') (hst : ∀ H', Ex H H' → J.stop l.length H')
    (turn : ∀ D, H D = none → ∀ (i : Nat) x, l[i]? = some x → ∀ v H0 H', Ex H H0 → (∃ o, H0 D = some o) → J.yld i H0 v H' → H' = H0 ∧
      ∀ (A : VK), (∀ y H4, Ex H0 H4 → (∀ Z1, Ex Z0 Z1 → (∀ b o, H0 b = none → H4 b = some o → Z1 b = some o) → Rel x y Z1) → A y H4) → g v (wipe σ vs) H0 fun σ2 H2 => wipe σ2 vs = wipe σ vs ∧ te σ2 H2 A)
    (fin : ∀ D ys H', H D = none → Ex H H' → H' D = some (.lst ys) → (∀ Z1, Ex Z0 Z1 → (∀ b o, H b = none → b ≠ D → H' b = some o → Z1 b = some o) → Paired (fun y x => Rel x y Z1) ys l) → Q (.ref D) H') : LcJ g tYes te vs σ J H Q := by
  intro D hD
  refine ⟨fun i m H' => m = l.length - i ∧ i ≤ l.length ∧ Ex H H' ∧ ∃ ys, H' D = some (.lst ys) ∧ ys.length = i ∧ (∀ Z1, Ex Z0 Z1 → (∀ b o, H b = none → b ≠ D → H' b = some o → Z1 b = some o) → Paired (fun y x => Rel x y Z1) ys (l.take i)),
    ⟨l.length, by omega, by omega, Ex.new hD, [], upd_same, rfl, fun _ _ _ => .nil⟩, ?_⟩
  rintro i m H' ⟨rfl, hi, e, ys, hys, hly, pr⟩
  by_cases hlt : i < l.length
  · refine .inr ⟨hgo i H' hlt e, fun H'' => i + 1 ≤ l.length ∧ Ex H H'' ∧ ∃ ys, H'' D = some (.lst ys) ∧ ys.length = i + 1 ∧ (∀ Z1, Ex Z0 Z1 → (∀ b o, H b = none → b ≠ D → H'' b = some o → Z1 b = some o) → Paired (fun y x => Rel x y Z1) ys (l.take (i + 1))),
      fun H'' q => ⟨l.length - (i + 1), by omega, rfl, q⟩, fun v H2 hy => ?_⟩
    have ei : l[i]? = some l[i] := List.getElem?_eq_getElem hlt
    have e1 : l.take (i + 1) = l.take i ++ [l[i]] := by rw [List.take_add_one, ei]; rfl
    obtain ⟨ey, tn⟩ := turn D hD i _ ei v H' H2 e ⟨_, hys⟩ hy
    subst ey
    rw [lc_yes]
    refine tn _ fun y H4 e4 r => ?_
    refine ⟨ys, e4 _ _ hys, sz_lt (by omega), by omega, (e.trans e4).mut hD, _, upd_same, by rw [List.length_append, hly]; rfl, fun Z1 ez hz1 => ?_⟩
    rw [e1]
    refine paired_snoc (pr Z1 ez fun b o q1 q2 q3 => hz1 b o q1 q2 ?_) (r Z1 ez fun b o q1 q2 => hz1 b o (Ex.back e q1) (fun z => by rw [z, hys] at q1; cases q1) ?_)
    · rw [upd_ne q2]
      exact e4 _ _ q3
    · rw [upd_ne (fun z => by rw [z, hys] at q1; cases q1)]
      exact q2
  · have ei : i = l.length := by omega
    subst ei
    rw [List.take_length] at pr
    exact .inl ⟨hst H' e, fin D ys H' hD e hys pr⟩
/-- a comprehension over data: things of which all that is new stands -/
theorem u_mapDN {β γ : Type} [Py β] [Py γ] {Z0 : Hp} {a : Addr} {xs : List β} (f : β → γ) (h : Is K Z0 (.ref a) xs) (e0 : Ex Z0 H) (hz : xs.length ≤ 40000)
    (turn : ∀ v x, x ∈ xs → ∀ D H', Ex H H' → H D = none → (∃ o, H' D = some o) → Is K Z0 v x → ∀ A : VK, (∀ y H4, Ex H' H4 → (∀ Z1, Ex Z0 Z1 → (∀ b o, H' b = none → H4 b = some o → Z1 b = some o) → Is K Z1 y (f x)) → A y H4) →
      g v (wipe σ vs) H' fun σ2 H2 => wipe σ2 vs = wipe σ vs ∧ te σ2 H2 A)
    (fin : ∀ D ys H', H D = none → Ex H H' → H' D = some (.lst ys) → (∀ Z1, Ex Z0 Z1 → (∀ b o, H b = none → b ≠ D → H' b = some o → Z1 b = some o) → Paired (fun y x => Is K Z1 y x) ys (xs.map f)) → Q (.ref D) H') : LcL K g tYes te vs σ (.ref a) H Q := by
  obtain ⟨b, us, e, h1, h2⟩ := h.list
  cases e
  have hl := Paired.length h2
  refine ⟨a, rfl, ⟨_, e0.sq h1⟩, lc_turnsN (Z0 := Z0) (us.zip xs) (fun p y Z => Is K Z y (f p.2)) (by rw [List.length_zip]; omega) (fun i H' hi e => ?_) (fun H' e => ⟨_, (e0.trans e).sq h1, by rw [List.length_zip]; omega⟩) (fun D hD i p hp v H0 H' e oD hy => ?_) (fun D ys H' hD e f2 pr => fin D ys H' hD e f2 fun Z1 ez hz1 => ?_)⟩
  · rw [List.length_zip] at hi
    exact ⟨_, us[i]'(by omega), (e0.trans e).sq h1, List.getElem?_eq_getElem (by omega)⟩
  · obtain ⟨rfl, fv⟩ := hy
    have hu := fv _ ((e0.trans e).sq h1)
    obtain ⟨g1, g2⟩ := zip_mem h2 p (List.mem_of_getElem? hp)
    have ev : v = p.1 := by
      have hp' := congrArg (Option.map Prod.fst) hp
      rw [← List.getElem?_map, zip_fst hl, hu] at hp'
      exact Option.some.inj hp'
    rw [ev]
    exact ⟨rfl, fun A hA => turn p.1 p.2 g2 D _ e hD oD g1 A fun y H4 e4 k => hA y H4 e4 k⟩
  · have p2 := paired_flip (F := fun y d => Is K Z1 y d) (fun p : V × β => f p.2) (paired_turn (pr Z1 ez hz1))
    rw [zip_map_snd f hl] at p2
    exact p2
end
end TR

/-! data that stands in plain lists and tuples: all its lists are tracked -/
namespace TR
open PySem L2
mutual
inductive Dt (H : Hp) : V → PyData → Prop
  | non : Dt H .non .none
  | bl (b : Bool) : Dt H (.bl b) (.bool b)
  | int (i : Int) : Dt H (.int i) (.int i)
  | str (x : Str) : Dt H (.str x) (.str x)
  | lst {a : Addr} {vs : List V} {ds : List PyData} : H a = some (.lst vs) → DtAll H vs ds → Dt H (.ref a) (.list ds)
  | tup {a : Addr} {vs : List V} {ds : List PyData} : H a = some (.tup vs) → DtAll H vs ds → Dt H (.ref a) (.tuple ds)
inductive DtAll (H : Hp) : List V → List PyData → Prop
  | nil : DtAll H [] []
  | cons {v : V} {vs : List V} {d : PyData} {ds : List PyData} : Dt H v d → DtAll H vs ds → DtAll H (v :: vs) (d :: ds)
end
mutual
theorem Dt.ex {H H' : Hp} (e : Ex H H') : ∀ {v : V} {d : PyData}, Dt H v d → Dt H' v d
  | _, _, .non => .non
  | _, _, .bl b => .bl b
  | _, _, .int i => .int i
  | _, _, .str x => .str x
  | _, _, .lst s a => .lst (e _ _ s) (DtAll.ex e a)
  | _, _, .tup s a => .tup (e _ _ s) (DtAll.ex e a)
theorem DtAll.ex {H H' : Hp} (e : Ex H H') : ∀ {vs : List V} {ds : List PyData}, DtAll H vs ds → DtAll H' vs ds
  | _, _, .nil => .nil
  | _, _, .cons a r => .cons (Dt.ex e a) (DtAll.ex e r)
end
mutual
theorem Dt.dp {K : PySem.W.Frag} {H : Hp} : ∀ {v : V} {d : PyData}, Dt H v d → Dp K H v d
  | _, _, .non => .non
  | _, _, .bl b => .bl b
  | _, _, .int i => .int i
  | _, _, .str x => .str x
  | _, _, .lst s a => .lst (sq_of s) (DtAll.dp a)
  | _, _, .tup s a => .tup (st_of s) (DtAll.dp a)
theorem DtAll.dp {K : PySem.W.Frag} {H : Hp} : ∀ {vs : List V} {ds : List PyData}, DtAll H vs ds → DpAll K H vs ds
  | _, _, .nil => .nil
  | _, _, .cons a r => .cons (Dt.dp a) (DtAll.dp r)
end
/-- the value v stands in H as the thing x -/
abbrev Ik (H : Hp) {α : Type} [Py α] (v : V) (x : α) : Prop := Dt H v (Py.d x)
section
variable {K : PySem.W.Frag} {H H' : Hp} {α β γ δ : Type} [Py α] [Py β] [Py γ] [Py δ] {v w u t : V} {x : α} {y : β} {z : γ} {r : δ} {a : Addr}
theorem Ik.is (h : Ik H v x) : Is K H v x := Dt.dp h
theorem Ik.ex (e : Ex H H') (h : Ik H v x) : Ik H' v x := Dt.ex e h
theorem Ik.int (i : Int) : Ik H (.int i) i := Dt.int i
theorem Ik.bl (i : Bool) : Ik H (.bl i) i := Dt.bl i
theorem dtAll_ints : ∀ ns : List Int, DtAll H (ns.map V.int) (ns.map Py.d)
  | [] => .nil
  | n :: ns => .cons (.int n) (dtAll_ints ns)
theorem Ik.ints {ns : List Int} (h : H a = some (.lst (ns.map V.int))) : Ik H (.ref a) ns := .lst h (dtAll_ints ns)
theorem Ik.nil (h : H a = some (.lst [])) : Ik H (.ref a) ([] : List α) := .lst h .nil
theorem Ik.pair (h : H a = some (.tup [v, w])) (h1 : Ik H v x) (h2 : Ik H w y) : Ik H (.ref a) (x, y) := .tup h (.cons h1 (.cons h2 .nil))
theorem Ik.three (h : H a = some (.tup [v, w, u])) (h1 : Ik H v x) (h2 : Ik H w y) (h3 : Ik H u z) : Ik H (.ref a) (T3.mk x y z) := .tup h (.cons h1 (.cons h2 (.cons h3 .nil)))
theorem Ik.four (h : H a = some (.tup [v, w, u, t])) (h1 : Ik H v x) (h2 : Ik H w y) (h3 : Ik H u z) (h4 : Ik H t r) : Ik H (.ref a) (T4.mk x y z r) := .tup h (.cons h1 (.cons h2 (.cons h3 (.cons h4 .nil))))
theorem Ik.no : Ik H .non (none : Option Int) := Dt.non
theorem Ik.yes (i : Int) : Ik H (.int i) (some i : Option Int) := Dt.int i
theorem Ik.opt : ∀ o : Option Int, Ik H (optV o) o
  | none => Dt.non
  | some i => Dt.int i
theorem Ik.tx (x : Tx) : Ik H (.str x.1) x := Dt.str x.1
theorem Ik.noS : Ik H .non (none : Option Tx) := Dt.non
theorem Ik.yesS (x : Tx) : Ik H (.str x.1) (some x : Option Tx) := Dt.str x.1
theorem Ik.list {xs : List α} (h : Ik H v xs) : ∃ a vs, v = .ref a ∧ H a = some (.lst vs) ∧ Paired (fun v x => Ik H v x) vs xs := by
  have go : ∀ (vs : List V) (ys : List α), DtAll H vs (ys.map Py.d) → Paired (fun v x => Ik H v x) vs ys := by
    intro vs ys
    induction ys generalizing vs with
    | nil => intro h; cases h; exact .nil
    | cons y ys ih =>
      intro h
      cases h with
      | cons h1 h2 => exact .cons h1 (ih _ h2)
  have h' : Dt H v (.list (xs.map Py.d)) := h
  cases h' with
  | lst s a => exact ⟨_, _, rfl, s, go _ _ a⟩
theorem Ik.of_list {vs : List V} {xs : List α} (s : H a = some (.lst vs)) (h : Paired (fun v x => Ik H v x) vs xs) : Ik H (.ref a) xs := by
  have go : ∀ {vs : List V} {ys : List α}, Paired (fun v x => Ik H v x) vs ys → DtAll H vs (ys.map Py.d) := by
    intro vs ys h
    induction h with
    | nil => exact .nil
    | cons h1 _ ih => exact .cons h1 ih
  exact .lst s (go h)
theorem pair_intsK : ∀ {vs : List V} {xs : List Int}, Paired (fun v x => Ik H v x) vs xs → vs = xs.map V.int
  | _, _, .nil => rfl
  | _, _, .cons (a := v) (b := i) h r => by
    have h' : Dt H v (.int i) := h
    cases h'
    rw [pair_intsK r]
    rfl
theorem ints_pairK : ∀ {xs : List Int}, Paired (fun v x => Ik H v x) (xs.map V.int) xs
  | [] => .nil
  | _ :: _ => .cons (Ik.int _) ints_pairK
theorem Ik.ints_of {xs : List Int} (h : Ik H v xs) : ∃ a, v = .ref a ∧ H a = some (.lst (xs.map V.int)) := by
  obtain ⟨a, vs, rfl, s, p⟩ := h.list
  exact ⟨a, rfl, pair_intsK p ▸ s⟩
theorem Ik.pair_of {p : α × β} (h : Ik H v p) : ∃ a x y, v = .ref a ∧ H a = some (.tup [x, y]) ∧ Ik H x p.1 ∧ Ik H y p.2 := by
  have h' : Dt H v (.tuple [Py.d p.1, Py.d p.2]) := h
  cases h' with
  | tup s a =>
    cases a with
    | cons h1 r => cases r with
      | cons h2 r2 => cases r2; exact ⟨_, _, _, rfl, s, h1, h2⟩
theorem Ik.three_of {t : T3 α β γ} (h : Ik H v t) : ∃ a x y z, v = .ref a ∧ H a = some (.tup [x, y, z]) ∧ Ik H x t.a ∧ Ik H y t.b ∧ Ik H z t.c := by
  have h' : Dt H v (.tuple [Py.d t.a, Py.d t.b, Py.d t.c]) := h
  cases h' with
  | tup s a =>
    cases a with
    | cons h1 r => cases r with
      | cons h2 r => cases r with
        | cons h3 r => cases r; exact ⟨_, _, _, _, rfl, s, h1, h2, h3⟩
theorem Ik.int_of {i : Int} (h : Ik H v i) : v = .int i := by
  have h' : Dt H v (.int i) := h
  cases h'
  rfl
theorem Ik.bl_of {i : Bool} (h : Ik H v i) : v = .bl i := by
  have h' : Dt H v (.bool i) := h
  cases h'
  rfl
theorem Ik.str_of {x : Tx} (h : Ik H v x) : v = .str x.1 := by
  have h' : Dt H v (.str x.1) := h
  cases h'
  rfl
theorem Ik.ent_of {e : Ent} (h : Ik H v e) : ∃ a, v = .ref a ∧ H a = some (.tup [.int e.1, .str e.2.1]) := by
  obtain ⟨a, x, y, h1, h2, h3, h4⟩ := h.pair_of
  rw [h3.int_of, h4.str_of] at h2
  exact ⟨a, h1, h2⟩
theorem Ik.ref_of {xs : List α} (h : Ik H v xs) : ∃ b, v = .ref b ∧ Ik H (.ref b) xs := by
  obtain ⟨b, vs, e, h6, h7⟩ := h.list
  exact ⟨b, e, e ▸ h⟩
theorem Ik.yard_of {y : Yard} (h : Ik H v y) : ∃ a b, v = .ref a ∧ H a = some (.tup [.int y.a, .int y.b, .ref b]) ∧ Ik H (.ref b) y.c := by
  obtain ⟨a, x1, x2, x3, h1, h2, h3, h4, h5⟩ := h.three_of
  obtain ⟨b, e, h6⟩ := h5.ref_of
  rw [h3.int_of, h4.int_of, e] at h2
  exact ⟨a, b, h1, h2, h6⟩
theorem itemK {vs : List V} {l : List α} (p : Paired (fun v x => Ik H v x) vs l) {i : Nat} {v : V} (h : vs[i]? = some v) : ∃ x, l[i]? = some x ∧ Ik H v x := pair_get' p h
end
section
variable {K : PySem.W.Frag} {Z H : Hp} {α β : Type} [Py α] [Py β] {v : V} {σ : L2.St} {R : L2.St → Hp → Prop} {Q : VK}
/-- a, b = a pair | a place of a pair -/
theorem t_gtup2 {p : α × β} {g1 g2 : TG} (a : Ik Z v p) (e : Ex Z H) (q : ∀ x y, Ik Z x p.1 → Ik Z y p.2 → g1 x σ H fun σ1 H1 => g2 y σ1 H1 R) : gTup K 2 (gCons g1 (gCons g2 gNil)) v σ H R := by
  obtain ⟨b, x, y, rfl, h, h1, h2⟩ := a.pair_of
  exact s_gt2 (st_of (e _ _ h)) (q x y h1 h2)
theorem t_ixP0 {p : α × β} (a : Ik Z v p) (e : Ex Z H) (q : ∀ w, Ik Z w p.1 → Q w H) : rIx K v (.int 0) H Q := by
  obtain ⟨b, x, y, rfl, h, h1, h2⟩ := a.pair_of
  exact s_ixT (st_of (e _ _ h)) (atI_lt (by decide) rfl) (q x h1)
theorem t_ixP1 {p : α × β} (a : Ik Z v p) (e : Ex Z H) (q : ∀ w, Ik Z w p.2 → Q w H) : rIx K v (.int 1) H Q := by
  obtain ⟨b, x, y, rfl, h, h1, h2⟩ := a.pair_of
  exact s_ixT (st_of (e _ _ h)) (atI_lt (by decide) rfl) (q y h2)
/-- the key | the thing of an entry -/
theorem t_ixE0 {p : Ent} (a : Ik Z v p) (e : Ex Z H) (q : Q (.int p.1) H) : rIx K v (.int 0) H Q := t_ixP0 a e fun w h => by rw [h.int_of]; exact q
theorem t_ixE1 {p : Ent} (a : Ik Z v p) (e : Ex Z H) (q : Q (.str p.2.1) H) : rIx K v (.int 1) H Q := t_ixP1 a e fun w h => by rw [h.str_of]; exact q
theorem t_gtupE {p : Ent} {g1 g2 : TG} (a : Ik Z v p) (e : Ex Z H) (q : g1 (.int p.1) σ H fun σ1 H1 => g2 (.str p.2.1) σ1 H1 R) : gTup K 2 (gCons g1 (gCons g2 gNil)) v σ H R :=
  t_gtup2 a e fun x y h1 h2 => by rw [h1.int_of, h2.str_of]; exact q
end
end TR

/-! T: from (Z, H) to (Z', H'). Z is what stays for ever; only M's things are changed -/
namespace TR
open PySem L2
structure T (M : List Addr) (Z H Z' H' : Hp) : Prop where
  z : Ex Z Z'
  zh : Ex Z' H'
  m : ∀ b o, b ∉ M → H b = some o → H' b = some o
  al : ∀ b o, H b = some o → ∃ o', H' b = some o'
  fr : ∀ b, b ∉ M → Z b = none → (∃ o, H b = some o) → Z' b = none
/-- p stands in H and may be changed -/
structure Mu (Z H : Hp) (p : Addr) : Prop where
  z : Z p = none
  a : ∃ o, H p = some o
/-- a list that stands in H, its things in Z -/
def Li (Z H : Hp) (p : Addr) {α : Type} [Py α] (l : List α) : Prop := ∃ vs, H p = some (.lst vs) ∧ Paired (fun v x => Ik Z v x) vs l
/-- .. and that stays as it is -/
def Ls (Z : Hp) (p : Addr) {α : Type} [Py α] (l : List α) : Prop := Li Z Z p l
/-- a list that is filled: it stands at D, its things in Z -/
structure Lm (Z H : Hp) (D : Addr) {α : Type} [Py α] (l : List α) : Prop where
  ex : ∃ vs, H D = some (.lst vs) ∧ Paired (fun v x => Ik Z v x) vs l
  zd : Z D = none
  zh : Ex Z H
theorem nm_nil {b : Addr} : b ∉ ([] : List Addr) := List.not_mem_nil
theorem nm_cons {b x : Addr} {M : List Addr} (h : b ≠ x) (t : b ∉ M) : b ∉ x :: M := fun z => by
  rcases List.mem_cons.mp z with z | z
  · exact h z
  · exact t z
theorem mm_nil {N : List Addr} {H : Hp} : ∀ x ∈ ([] : List Addr), x ∈ N ∨ H x = none := fun _ h => absurd h List.not_mem_nil
theorem mm_cons {N M : List Addr} {H : Hp} {y : Addr} (h : y ∈ N ∨ H y = none) (t : ∀ x ∈ M, x ∈ N ∨ H x = none) : ∀ x ∈ y :: M, x ∈ N ∨ H x = none := fun x hx => by
  rcases List.mem_cons.mp hx with e | hx
  · rw [e]; exact h
  · exact t x hx
theorem mm_same {N : List Addr} {H : Hp} : ∀ x ∈ N, x ∈ N ∨ H x = none := fun _ h => .inl h
section
variable {K : PySem.W.Frag} {M N : List Addr} {Z H Z1 H1 Z2 H2 Z' H' Z0 H0 : Hp} {p b h D : Addr} {o : HO} {v : V} {α : Type} {iα : Py α} {x : α} {l : List α} {n : Nat}
theorem T.refl (e : Ex Z H) : T M Z H Z H := ⟨Ex.refl _, e, fun _ _ _ h => h, fun _ o h => ⟨o, h⟩, fun _ _ h _ => h⟩
theorem T.step (a : T N Z H Z1 H1) (b : T M Z1 H1 Z2 H2) (h : ∀ x ∈ M, x ∈ N ∨ H x = none) : T N Z H Z2 H2 := by
  have nm : ∀ x, x ∉ N → (∃ o, H x = some o) → x ∉ M := fun x nx ⟨o, ho⟩ hx => by
    rcases h x hx with g | g
    · exact nx g
    · rw [ho] at g; cases g
  refine ⟨a.z.trans b.z, b.zh, fun c o nc hc => b.m c o (nm c nc ⟨o, hc⟩) (a.m c o nc hc), fun c o hc => ?_, fun c nc zc ⟨o, hc⟩ => ?_⟩
  · obtain ⟨o', ho'⟩ := a.al c o hc
    exact b.al c o' ho'
  · obtain ⟨o', ho'⟩ := a.al c o hc
    exact b.fr c (nm c nc ⟨o, hc⟩) (a.fr c nc zc ⟨o, hc⟩) ⟨o', ho'⟩
theorem T.nn (t : T M Z H Z' H') (n : H' b = none) : H b = none := by
  cases c : H b with
  | none => rfl
  | some o =>
    obtain ⟨o', ho'⟩ := t.al b o c
    rw [n] at ho'
    cases ho'
/-- all that stood stands: b is new -/
def AC (H H' : Hp) : Prop := ∀ b, H' b = none → H b = none
theorem AC.refl : AC H H := fun _ h => h
theorem T.ac (t : T M Z1 H1 Z2 H2) (a : AC H H1) : AC H H2 := fun b h => a b (t.nn h)
theorem fresh_of (n : H1 b = none) (c : AC H H1) : H b = none := c b n
theorem T.exz (t : T M Z1 H1 Z2 H2) (e : Ex Z Z1) : Ex Z Z2 := e.trans t.z
theorem Ik.tt (t : T M Z H Z' H') (h : Ik Z v x) : Ik Z' v x := Ik.ex t.z h
theorem T.sqz {xs : List V} (t : T M Z H Z' H') (h : SqL K Z p xs) : SqL K Z' p xs := t.z.sq h
theorem T.stz {xs : List V} (t : T M Z H Z' H') (h : SqT K Z p xs) : SqT K Z' p xs := t.z.st h
theorem T.pz (t : T M Z H Z' H') (h : Z p = some o) : Z' p = some o := t.z _ _ h
theorem T.hp (t : T M Z H Z' H') (n : p ∉ M) (h : H p = some o) : H' p = some o := t.m _ _ n h
theorem T.all (t : T M Z H Z' H') (h : ∃ o, H p = some o) : ∃ o, H' p = some o := by
  obtain ⟨o, ho⟩ := h
  exact t.al _ _ ho
theorem T.mu (t : T M Z H Z' H') (n : p ∉ M) (a : Mu Z H p) : Mu Z' H' p := ⟨t.fr _ n a.z a.a, t.all a.a⟩
theorem Hand.tt (t : T M Z H Z' H') (nm : h ∉ M) (a : Hand K Z H h n) : Hand K Z' H' h n := by
  obtain ⟨d, k, c, cells, h1, h3, h4, h5, z1, z2, z3⟩ := a
  exact ⟨d, k, c, cells, t.m _ _ nm h1, h3, h4, h5, t.zh, t.fr _ nm z2 ⟨_, h1⟩, t.z.sq z3⟩
theorem Hand.mu (a : Hand K Z H h n) : Mu Z H h := ⟨a.zn, a.at⟩
theorem Lm.up (a : Lm Z H D l) (e : Ex H H') : Lm Z H' D l := by
  obtain ⟨⟨vs, h1, h2⟩, h3, h4⟩ := a
  exact ⟨⟨vs, e _ _ h1, h2⟩, h3, h4.trans e⟩
theorem Lm.isH (a : Lm Z H D l) : Ik H (.ref D) l := by
  obtain ⟨⟨vs, h1, h2⟩, h3, h4⟩ := a
  exact Ik.of_list h1 (Paired.mapP h2 fun v x g => Ik.ex h4 g)
theorem Lm.at_ (a : Lm Z H D l) : ∃ o, H D = some o := by
  obtain ⟨⟨vs, h1, h2⟩, h3, h4⟩ := a
  exact ⟨_, h1⟩
theorem Lm.mu (a : Lm Z H D l) : Mu Z H D := ⟨a.zd, a.at_⟩
theorem Lm.tt (t : T M Z H Z' H') (nm : D ∉ M) (a : Lm Z H D l) : Lm Z' H' D l := by
  have hd := a.zd
  have ha := a.at_
  obtain ⟨⟨vs, h1, h2⟩, h3, h4⟩ := a
  exact ⟨⟨vs, t.m _ _ nm h1, Paired.mapP h2 fun v x h => Ik.ex t.z h⟩, t.fr _ nm hd ha, t.zh⟩
theorem Li.tt (t : T M Z H Z' H') (nm : p ∉ M) (a : Li Z H p l) : Li Z' H' p l := by
  obtain ⟨vs, h1, h2⟩ := a
  exact ⟨vs, t.m _ _ nm h1, Paired.mapP h2 fun v x h => Ik.ex t.z h⟩
theorem Ls.tt (t : T M Z H Z' H') (a : Ls Z p l) : Ls Z' p l := by
  obtain ⟨vs, h1, h2⟩ := a
  exact ⟨vs, t.z _ _ h1, Paired.mapP h2 fun v x h => Ik.ex t.z h⟩
theorem Ls.exz (t : Ex Z Z') (a : Ls Z p l) : Ls Z' p l := by
  obtain ⟨vs, h1, h2⟩ := a
  exact ⟨vs, t _ _ h1, Paired.mapP h2 fun v x h => Ik.ex t h⟩
theorem Ls.li (a : Ls Z p l) (e : Ex Z H) : Li Z H p l := by
  obtain ⟨vs, h1, h2⟩ := a
  exact ⟨vs, e _ _ h1, h2⟩
theorem Ls.is (a : Ls Z p l) : Ik Z (.ref p) l := by
  obtain ⟨vs, h1, h2⟩ := a
  exact Ik.of_list h1 h2
theorem Lm.li (a : Lm Z H D l) : Li Z H D l := a.ex
theorem Ls.ints {l : List Int} (a : Ls Z p l) : Z p = some (.lst (l.map V.int)) := by
  obtain ⟨vs, h1, h2⟩ := a
  rw [h1, pair_intsK h2]
theorem Li.ints {l : List Int} (a : Li Z H p l) : H p = some (.lst (l.map V.int)) := by
  obtain ⟨vs, h1, h2⟩ := a
  rw [h1, pair_intsK h2]
theorem Lm.ints {l : List Int} (a : Lm Z H D l) : H D = some (.lst (l.map V.int)) := a.li.ints
theorem Ik.sqI {l : List Int} (a : Ik Z (.ref p) l) : SqL K Z p (l.map V.int) := by
  obtain ⟨b, e, h⟩ := a.ints_of
  cases e
  exact sq_of h
theorem Ik.li {l : List α} (a : Ik Z (.ref p) l) : Ls Z p l := by
  obtain ⟨b, vs, e, h, pr⟩ := a.list
  cases e
  exact ⟨vs, h, pr⟩
theorem Ls.ofInts {l : List Int} (h : Z p = some (.lst (l.map V.int))) : Ls Z p l := ⟨_, h, ints_pairK⟩
theorem Ik.l1 {w : V} (h : Z p = some (.lst [w])) (i : Ik Z w x) : Ik Z (.ref p) [x] := Ik.of_list h (.cons i .nil)
theorem Ik.l2 {w u : V} {y : α} (h : Z p = some (.lst [w, u])) (i : Ik Z w x) (j : Ik Z u y) : Ik Z (.ref p) [x, y] := Ik.of_list h (.cons i (.cons j .nil))
theorem Ls.l0 (h : Z p = some (.lst [])) : Ls Z p ([] : List α) := ⟨_, h, .nil⟩
theorem Ls.l1 {w : V} (h : Z p = some (.lst [w])) (i : Ik Z w x) : Ls Z p [x] := ⟨_, h, .cons i .nil⟩
theorem Ls.l2 {w u : V} {y : α} (h : Z p = some (.lst [w, u])) (i : Ik Z w x) (j : Ik Z u y) : Ls Z p [x, y] := ⟨_, h, .cons i (.cons j .nil)⟩
/-! ways in: from the old words -/
theorem T.ofEx (e : Ex H H') (z : Ex Z H) : T M Z H Z H' := ⟨Ex.refl _, z.trans e, fun _ _ _ h => e _ _ h, fun _ o h => ⟨o, e _ _ h⟩, fun _ _ h _ => h⟩
theorem T.ofExM (m : ExM h H H') (a : ∃ o, H' h = some o) (z : Ex Z H) (zn : Z h = none) : T [h] Z H Z H' :=
  ⟨Ex.refl _, z.exm zn m, fun _ o n e => m _ o (fun z => n (by rw [z]; exact List.mem_cons_self)) e, fun b o e => by
    by_cases c : b = h
    · rw [c]; exact a
    · exact ⟨o, m _ _ c e⟩, fun _ _ h _ => h⟩
theorem upd_ex2 (z : Ex Z H) : Ex (upd Z p o) (upd H p o) := fun b u e => by
  by_cases c : b = p
  · rw [c, upd_same] at e ⊢
    exact e
  · rw [upd_ne c] at e ⊢
    exact z _ _ e
/-- a new thing that stays as it is -/
theorem T.new (n : H p = none) (z : Ex Z H) : T M Z H (upd Z p o) (upd H p o) :=
  ⟨Ex.new (Ex.back z n), upd_ex2 z, fun b u _ e => by rw [upd_ne (ne_of_none e n)]; exact e, fun b u e => ⟨u, by rw [upd_ne (ne_of_none e n)]; exact e⟩, fun b _ zb ⟨u, e⟩ => by rw [upd_ne (ne_of_none e n)]; exact zb⟩
/-- a new thing that may be changed -/
theorem T.newM (n : H p = none) (z : Ex Z H) : T M Z H Z (upd H p o) :=
  ⟨Ex.refl _, z.trans (Ex.new n), fun b u _ e => by rw [upd_ne (ne_of_none e n)]; exact e, fun b u e => ⟨u, by rw [upd_ne (ne_of_none e n)]; exact e⟩, fun b _ zb _ => zb⟩
/-- a thing is changed -/
theorem T.set (a : Mu Z H p) (z : Ex Z H) : T [p] Z H Z (upd H p o) :=
  ⟨Ex.refl _, fun b u e => by rw [upd_ne (ne_of_none e a.z)]; exact z _ _ e, fun b u nb e => by rw [upd_ne (fun c => nb (by rw [c]; exact List.mem_cons_self))]; exact e, fun b u e => by
    by_cases c : b = p
    · exact ⟨_, by rw [c]; exact upd_same⟩
    · exact ⟨u, by rw [upd_ne c]; exact e⟩, fun b _ zb _ => zb⟩
/-- a thing is to stay as it is from now on -/
theorem T.fz (z : Ex Z H) (zp : Z p = none) (hp : H p = some o) : T [p] Z H (upd Z p o) H :=
  ⟨Ex.new zp, fun b u e => by
    by_cases c : b = p
    · rw [c, upd_same] at e
      cases e
      rw [c]; exact hp
    · rw [upd_ne c] at e
      exact z _ _ e, fun _ _ _ h => h, fun _ o h => ⟨o, h⟩, fun b nb zb _ => by rw [upd_ne (fun c => nb (by rw [c]; exact List.mem_cons_self))]; exact zb⟩
/-- .. of old words: all that is new stays as it is -/
def grow (Z H H' : Hp) : Hp := fun b => match Z b with | some o => some o | none => match H b with | some _ => none | none => H' b
theorem grow_z (hz : Z b = some o) : grow Z H H' b = some o := by
  unfold grow
  rw [hz]
theorem grow_new (e : Ex Z H) (n : H b = none) (s : H' b = some o) : grow Z H H' b = some o := by
  unfold grow
  rw [Ex.back e n, n]
  exact s
theorem T.grow (z : Ex Z H) (zh : Ex Z H') (m : ∀ b o, b ∉ M → H b = some o → H' b = some o) (al : ∀ b o, H b = some o → ∃ o', H' b = some o') : T M Z H (grow Z H H') H' :=
  ⟨fun b o e => grow_z e, fun b o e => by
    unfold TR.grow at e
    cases c : Z b with
    | some u => rw [c] at e; cases e; exact zh _ _ c
    | none =>
      rw [c] at e
      cases d : H b with
      | some u => rw [d] at e; cases e
      | none => rw [d] at e; exact e, m, al, fun b _ zb ⟨u, hu⟩ => by
    unfold TR.grow
    rw [zb, hu]⟩
end
/-! ### new things: what is asked next -/
section
variable {K : PySem.W.Frag} {M : List Addr} {Z H : Hp} {Q : VK} {R : Hp → Prop} {p D a b : Addr} {v w : V} {α : Type} {iα : Py α} {x : α} {l r : List α} {xs : List V}
/-- an empty list that will be changed -/
theorem t_lst0 (z : Ex Z H) (q : ∀ p Z' H', H p = none → T [] Z H Z' H' → Mu Z' H' p → H' p = some (.lst []) → Q (.ref p) H') : NewL [] H Q :=
  ⟨sz_of (Nat.zero_le _), fun p hp => q p Z _ hp (T.newM hp z) ⟨Ex.back z hp, _, upd_same⟩ upd_same⟩
theorem t_lst (z : Ex Z H) (h : xs.length ≤ 100000) (q : ∀ p Z' H', H p = none → T [] Z H Z' H' → Z' p = some (.lst xs) → Q (.ref p) H') : NewL xs H Q :=
  ⟨sz_of h, fun p hp => q p _ _ hp (T.new hp z) upd_same⟩
theorem t_tup (z : Ex Z H) (h : xs.length ≤ 100000) (q : ∀ p Z' H', H p = none → T [] Z H Z' H' → Z' p = some (.tup xs) → Q (.ref p) H') : NewT xs H Q :=
  ⟨sz_of h, fun p hp => q p _ _ hp (T.new hp z) upd_same⟩
/-- the empty list that will be changed, as data -/
theorem Lm.of0 (m : Mu Z H p) (z : Ex Z H) (f : H p = some (.lst [])) : Lm Z H p ([] : List α) := ⟨⟨[], f, .nil⟩, m.z, z⟩
theorem t_la (z : Ex Z H) (q : ∀ p Z' H', H p = none → T [] Z H Z' H' → Lm Z' H' p ([] : List α) → Q (.ref p) H') : NewL [] H Q :=
  t_lst0 z fun p Z' H' n t m f => q p Z' H' n t (Lm.of0 m t.zh f)
theorem t_app (a : Lm Z H D l) (i : Ik Z v x) (hz : l.length < 100000) (q : ∀ Z' H', T [D] Z H Z' H' → Lm Z' H' D (l ++ [x]) → Q .non H') : rAppend (.ref D) [v] H Q := by
  have mu := a.mu
  obtain ⟨⟨vs, h1, h2⟩, h3, h4⟩ := a
  have t : T [D] Z H Z (upd H D (.lst (vs ++ [v]))) := T.set mu h4
  exact ⟨D, vs, v, rfl, rfl, h1, sz_lt (by rw [Paired.length h2]; exact hz), q Z _ t ⟨⟨_, upd_same, Paired.snoc h2 i⟩, h3, t.zh⟩⟩
theorem t_tyLA {l : List α} {P : Prop} (a : Lm Z H D l) (q : P) : tyV K "list" (.ref D) H ∧ P := by
  obtain ⟨⟨vs, h1, h2⟩, h3, h4⟩ := a
  exact s_tyL (sq_of h1) q
theorem t_setLA {i : Int} (a : Lm Z H D l) (j : Ik Z v x) (h : 0 ≤ i ∧ i < l.length) (q : ∀ Z' H', T [D] Z H Z' H' → Lm Z' H' D (l.set i.toNat x) → R H') : rSetL (.ref D) (.int i) v H R := by
  have mu := a.mu
  obtain ⟨⟨vs, h1, h2⟩, h3, h4⟩ := a
  have hl := Paired.length h2
  have t : T [D] Z H Z (upd H D (.lst (vs.set i.toNat v))) := T.set mu h4
  exact ⟨D, vs, i, i.toNat, rfl, rfl, h1, ixN_lt h.1 (by omega), q Z _ t ⟨⟨_, upd_same, paired_set _ h2 j⟩, h3, t.zh⟩⟩
theorem t_pop (a : Lm Z H D (l ++ [x])) (q : ∀ v Z' H', T [D] Z H Z' H' → Lm Z' H' D l → Ik Z' v x → Q v H') : rPop (.ref D) [] H Q := by
  have mu := a.mu
  obtain ⟨⟨vs, h1, h2⟩, h3, h4⟩ := a
  obtain ⟨us, u, rfl, g1, g2⟩ := paired_snoc_inv h2
  have t : T [D] Z H Z (upd H D (.lst us)) := T.set mu h4
  exact ⟨D, _, u, rfl, rfl, h1, by simp, by rw [List.dropLast_concat]; exact q u Z _ t ⟨⟨us, upd_same, g1⟩, h3, t.zh⟩ g2⟩
/-- a list that was filled stays as it is from now on -/
theorem t_fz {G : Hp → Prop} (a : Lm Z H D l) (q : ∀ Z' H', T [D] Z H Z' H' → Ls Z' D l → G H') : G H := by
  obtain ⟨⟨vs, h1, h2⟩, h3, h4⟩ := a
  have t : T [D] Z H (upd Z D (.lst vs)) H := T.fz h4 h3 h1
  exact q _ _ t ⟨vs, upd_same, Paired.mapP h2 fun v x g => Ik.ex t.z g⟩
theorem t_fzV {G : Hp → Prop} (m : Mu Z H D) (z : Ex Z H) {o : HO} (f : H D = some o) (q : ∀ Z' H', T [D] Z H Z' H' → Z' D = some o → G H') : G H :=
  q _ _ (T.fz z m.z f) upd_same
/-- two lists one behind the other -/
theorem t_cat (z : Ex Z H) (h1 : Li Z H a l) (h2 : Li Z H b r) (hz : l.length + r.length ≤ 100000) (q : ∀ p Z' H', H p = none → T [] Z H Z' H' → Ls Z' p (l ++ r) → Q (.ref p) H') : rPlus (.ref a) (.ref b) H Q := by
  obtain ⟨vs, f1, g1⟩ := h1
  obtain ⟨us, f2, g2⟩ := h2
  have l1 := Paired.length g1
  have l2 := Paired.length g2
  refine .inr (.inl ⟨a, b, vs, us, rfl, rfl, f1, f2, sz_of (by omega), fun p hp => ?_⟩)
  have t : T [] Z H (upd Z p (.lst (vs ++ us))) (upd H p (.lst (vs ++ us))) := T.new hp z
  exact q p _ _ hp t ⟨_, upd_same, paired_append (Paired.mapP g1 fun v x g => Ik.ex t.z g) (Paired.mapP g2 fun v x g => Ik.ex t.z g)⟩
theorem t_catM (z : Ex Z H) (h1 : Li Z H a l) (h2 : Li Z H b r) (hz : l.length + r.length ≤ 100000) (q : ∀ p Z' H', H p = none → T [] Z H Z' H' → Lm Z' H' p (l ++ r) → Q (.ref p) H') : rPlus (.ref a) (.ref b) H Q := by
  obtain ⟨vs, f1, g1⟩ := h1
  obtain ⟨us, f2, g2⟩ := h2
  have l1 := Paired.length g1
  have l2 := Paired.length g2
  refine .inr (.inl ⟨a, b, vs, us, rfl, rfl, f1, f2, sz_of (by omega), fun p hp => ?_⟩)
  have t : T [] Z H Z (upd H p (.lst (vs ++ us))) := T.newM hp z
  exact q p _ _ hp t ⟨⟨_, upd_same, paired_append g1 g2⟩, Ex.back z hp, t.zh⟩
theorem t_slL {lo hi : Option Int} (z : Ex Z H) (h : SqL K H a xs) (q : ∀ p Z' H', H p = none → T [] Z H Z' H' → Z' p = some (.lst (cutV xs lo hi)) → Q (.ref p) H') : rSlL K (.ref a) lo hi H Q :=
  ⟨a, xs, rfl, h, fun p hp => q p _ _ hp (T.new hp z) upd_same⟩
theorem t_slIs {lo hi : Option Int} (z : Ex Z H) (h : Ik Z (.ref a) l) (q : ∀ p Z' H', H p = none → T [] Z H Z' H' → Ls Z' p (cutI l lo hi) → Q (.ref p) H') : rSlL K (.ref a) lo hi H Q := by
  obtain ⟨b, us, e, h1, h2⟩ := h.list
  cases e
  refine t_slL z (z.sq (sq_of h1)) fun p Z' H' n t f => q p Z' H' n t ⟨_, f, ?_⟩
  exact paired_cut (Paired.mapP h2 fun v x g => Ik.ex t.z g) lo hi
theorem t_slLi {lo hi : Option Int} (z : Ex Z H) (h : Li Z H a l) (q : ∀ p Z' H', H p = none → T [] Z H Z' H' → Ls Z' p (cutI l lo hi) → Q (.ref p) H') : rSlL K (.ref a) lo hi H Q := by
  obtain ⟨us, h1, h2⟩ := h
  refine t_slL z (sq_of h1) fun p Z' H' n t f => q p Z' H' n t ⟨_, f, ?_⟩
  exact paired_cut (Paired.mapP h2 fun v x g => Ik.ex t.z g) lo hi
theorem t_rev (z : Ex Z H) (h : Ik Z (.ref a) l) (q : ∀ p Z' H', H p = none → T [] Z H Z' H' → Ls Z' p l.reverse → Q (.ref p) H') : rRevL K (.ref a) H Q := by
  obtain ⟨b, us, e, h1, h2⟩ := h.list
  cases e
  refine ⟨a, us, rfl, z.sq (sq_of h1), fun p hp => ?_⟩
  have t : T [] Z H (upd Z p (.lst us.reverse)) (upd H p (.lst us.reverse)) := T.new hp z
  exact q p _ _ hp t ⟨_, upd_same, paired_reverse (Paired.mapP h2 fun v x g => Ik.ex t.z g)⟩
/-- a copy that stays | that will be changed -/
theorem t_list (z : Ex Z H) (h : Ik Z (.ref a) l) (q : ∀ p Z' H', H p = none → T [] Z H Z' H' → Ls Z' p l → Q (.ref p) H') : rList1 K [.ref a] H Q := by
  obtain ⟨b, us, e, h1, h2⟩ := h.list
  cases e
  refine ⟨a, us, rfl, .inl (z.sq (sq_of h1)), fun p hp => ?_⟩
  have t : T [] Z H (upd Z p (.lst us)) (upd H p (.lst us)) := T.new hp z
  exact q p _ _ hp t ⟨_, upd_same, Paired.mapP h2 fun v x g => Ik.ex t.z g⟩
theorem t_listM (z : Ex Z H) (h : Ik Z (.ref a) l) (q : ∀ p Z' H', H p = none → T [] Z H Z' H' → Lm Z' H' p l → Q (.ref p) H') : rList1 K [.ref a] H Q := by
  obtain ⟨b, us, e, h1, h2⟩ := h.list
  cases e
  refine ⟨a, us, rfl, .inl (z.sq (sq_of h1)), fun p hp => ?_⟩
  have t : T [] Z H Z (upd H p (.lst us)) := T.newM hp z
  exact q p _ _ hp t ⟨⟨_, upd_same, h2⟩, Ex.back z hp, t.zh⟩
theorem t_sorted {ns : List Int} (z : Ex Z H) (h : SqL K H a (ns.map V.int)) (q : ∀ p Z' H', H p = none → T [] Z H Z' H' → Ls Z' p (sortI ns) → Q (.ref p) H') : rSortedI K [.ref a] H Q :=
  ⟨a, ns, rfl, h, fun ns' p h1 h2 hp => by rw [sortI_of h1 h2]; exact q p _ _ hp (T.new hp z) (Ls.ofInts upd_same)⟩
theorem t_sortedE {l : Row} (z : Ex Z H) (h : Ik Z (.ref a) l) (k : OneK l) (q : ∀ p Z' H', H p = none → T [] Z H Z' H' → Ls Z' p (sortE l) → Q (.ref p) H') : rSortedPS K [.ref a] H Q := by
  obtain ⟨b, us, e, h1, h2⟩ := h.list
  cases e
  refine n_sortedEF (z.sq (sq_of h1)) (Paired.mapP h2 fun v x g => (Ik.ex z g).is) k fun p ws H' n e f pr => ?_
  have t : T [] Z H (grow Z H H') H' := T.grow z (z.trans e) (fun _ _ _ h => e _ _ h) fun _ o h => ⟨o, e _ _ h⟩
  refine q p _ H' n t ⟨ws, grow_new z n f, Paired.mapP (pr _ h2) fun v x g => Ik.ex t.z g⟩
theorem t_rg {i j : Int} (z : Ex Z H) (h : 0 ≤ i ∧ i ≤ 16000000 ∧ 0 ≤ j ∧ j ≤ 16000000) (q : ∀ p Z' H', H p = none → T [] Z H Z' H' → Z' p = some (.lst (rgV i j)) → Q (.ref p) H') : NewRg i j H Q :=
  ⟨.of_le (by omega) (by omega) (by omega) (by omega), fun p hp => q p _ _ hp (T.new hp z) upd_same⟩
/-! what is read -/
theorem t_len (z : Ex Z H) (h : Ik Z (.ref a) l) (q : Q (.int (l.length : Int)) H) : rLen K [.ref a] H Q := s_lenIs (Ik.ex z h).is q
theorem t_ix {i : Int} (z : Ex Z H) (h : Ik Z (.ref a) l) (e : atI l i = some x) (q : ∀ v, Ik Z v x → Q v H) : rIx K (.ref a) (.int i) H Q := by
  obtain ⟨b', vs, e', h1, h2⟩ := h.list
  cases e'
  obtain ⟨v, e2, g⟩ := atI_pair h2 e
  exact s_ixL (z.sq (sq_of h1)) e2 (q v g)
theorem t_lenLi (h : Li Z H a l) (q : Q (.int (l.length : Int)) H) : rLen K [.ref a] H Q := by
  obtain ⟨vs, h1, h2⟩ := h
  refine s_lenL (sq_of h1) ?_
  rw [Paired.length h2]
  exact q
theorem t_ixLi {i : Int} (h : Li Z H a l) (e : atI l i = some x) (q : ∀ v, Ik Z v x → Q v H) : rIx K (.ref a) (.int i) H Q := by
  obtain ⟨vs, h1, h2⟩ := h
  obtain ⟨v, e2, g⟩ := atI_pair h2 e
  exact s_ixL (sq_of h1) e2 (q v g)
theorem Li.isH (h : Li Z H a l) (z : Ex Z H) : Ik H (.ref a) l := by
  obtain ⟨vs, h1, h2⟩ := h
  exact Ik.of_list h1 (Paired.mapP h2 fun v x g => Ik.ex z g)
end
/-! ### draws -/
def spDraw (K : PySem.W.Frag) : Sp := fun vs H Q _ => ∃ (h : Addr) (m : Int) (n : Nat) (Z : Hp), vs = [.ref h, .int m] ∧ Hand K Z H h (n + 1) ∧ 0 < m ∧ m < 4611686018427387904 ∧
  ∀ (r : Int) H', 0 ≤ r → r < m → ExM h H H' → Hand K Z H' h n → Q (.int r) H'
section
variable {K : PySem.W.Frag} {Z H : Hp} {h : Addr} {m : Int} {N : Nat} {Q : VK} {E : XK}
theorem Hand.t {H' : Hp} {n n' : Nat} (hh : Hand K Z H h n) (m : ExM h H H') (hh' : Hand K Z H' h n') : T [h] Z H Z H' := T.ofExM m hh'.at hh.z hh.zn
theorem drawT (hh : Hand K Z H h N) (hN : 1 ≤ N) (m0 : 0 < m) (m1 : m < 4611686018427387904) (q : ∀ (r : Int) Z' H', 0 ≤ r → r < m → T [h] Z H Z' H' → Hand K Z' H' h (N - 1) → Q (.int r) H') : spDraw K [.ref h, .int m] H Q E :=
  ⟨h, m, N - 1, Z, rfl, hh.mono (by omega), m0, m1, fun r H' r0 r1 e hh' => q r Z H' r0 r1 (hh.t e hh') hh'⟩
def spFar (K : PySem.W.Frag) : Sp := fun vs H Q _ => ∃ (h : Addr) (m : Int) (n : Nat) (Z : Hp), vs = [.ref h, .int m] ∧ Hand K Z H h (n + 7) ∧ 0 < m ∧ m < 4611686018427387904 ∧
  ∀ (r : Int) H', 0 ≤ r → r < m → ExM h H H' → Hand K Z H' h n → Q (.int r) H'
theorem farT (hh : Hand K Z H h N) (hN : 7 ≤ N) (m0 : 0 < m) (m1 : m < 4611686018427387904) (q : ∀ (r : Int) Z' H', 0 ≤ r → r < m → T [h] Z H Z' H' → Hand K Z' H' h (N - 7) → Q (.int r) H') : spFar K [.ref h, .int m] H Q E :=
  ⟨h, m, N - 7, Z, rfl, hh.mono (by omega), m0, m1, fun r H' r0 r1 e hh' => q r Z H' r0 r1 (hh.t e hh') hh'⟩
def spKey (K : PySem.W.Frag) : Sp := fun vs H Q _ => ∃ (h : Addr) (n : Nat) (Z : Hp), vs = [.ref h] ∧ Hand K Z H h (n + 12) ∧
  ∀ (r : Int) H', 0 ≤ r → r < 1152921504606846976 → ExM h H H' → Hand K Z H' h n → Q (.int r) H'
theorem keyT (hh : Hand K Z H h N) (hN : 12 ≤ N) (q : ∀ (r : Int) Z' H', 0 ≤ r → r < 1152921504606846976 → T [h] Z H Z' H' → Hand K Z' H' h (N - 12) → Q (.int r) H') : spKey K [.ref h] H Q E :=
  ⟨h, N - 12, Z, rfl, hh.mono (by omega), fun r H' r0 r1 e hh' => q r Z H' r0 r1 (hh.t e hh') hh'⟩
def spThing (K : PySem.W.Frag) : Sp := fun vs H Q _ => ∃ (h : Addr) (n : Nat) (Z : Hp), vs = [.ref h] ∧ Hand K Z H h (n + 10) ∧
  ∀ (x : Tx) H', ExM h H H' → Hand K Z H' h n → Q (.str x.1) H'
theorem thingT (hh : Hand K Z H h N) (hN : 10 ≤ N) (q : ∀ (x : Tx) Z' H', T [h] Z H Z' H' → Hand K Z' H' h (N - 10) → Q (.str x.1) H') : spThing K [.ref h] H Q E :=
  ⟨h, N - 10, Z, rfl, hh.mono (by omega), fun x H' e hh' => q x Z H' (hh.t e hh') hh'⟩
def spOpen (K : PySem.W.Frag) : Sp := fun vs H Q _ => ∃ (a : Addr) (ns : List Int) (x : Int), vs = [.ref a, .int x] ∧ SqL K H a (ns.map V.int) ∧ 0 ≤ x ∧ x ≤ 1000 ∧
  ∀ h Z H', H h = none → Ex H H' → Ex H Z → Hand K Z H' h 900000000000000000 → Q (.ref h) H'
/-- .. from here on all that stands is to stay -/
theorem openT {a : Addr} {ns : List Int} {x : Int} {H0 : Hp} (s : SqL K H a (ns.map V.int)) (x0 : 0 ≤ x) (x1 : x ≤ 1000) (e0 : Ex H0 H) (q : ∀ h Z' H', H0 h = none → Ex H0 Z' → Ex H Z' → Ex Z' H' → Hand K Z' H' h 900000000000000000 → Q (.ref h) H') : spOpen K [.ref a, .int x] H Q E :=
  ⟨a, ns, x, rfl, s, x0, x1, fun h Z H' n e ez hh => q h Z H' (Ex.back e0 n) (e0.trans ez) ez hh.z hh⟩
end
end TR
namespace TR
open PySem L2
theorem ne_alF {H : Hp} {a b : Addr} (n : H a = none) (h : ∃ o, H b = some o) : a ≠ b := fun z => by
  obtain ⟨o, ho⟩ := h
  rw [z, ho] at n
  cases n
theorem ne_alB {H : Hp} {a b : Addr} (n : H b = none) (h : ∃ o, H a = some o) : a ≠ b := (ne_alF n h).symm
end TR
namespace TR
open PySem L2
/-! a place of a list, found once -/
def IxGo (xs : List V) (i : Int) (H : Hp) (Q : VK) : Prop := ∃ v, atI xs i = some v ∧ Q v H
section
variable {K : PySem.W.Frag} {H : Hp} {Q : VK} {a : Addr} {xs : List V} {i : Int} {v w : V}
theorem ixGo (h : SqL K H a xs) (q : IxGo xs i H Q) : rIx K (.ref a) (.int i) H Q := by
  obtain ⟨v, e, q⟩ := q
  exact s_ixL h e q
theorem ixGoT (h : SqT K H a xs) (q : IxGo xs i H Q) : rIx K (.ref a) (.int i) H Q := by
  obtain ⟨v, e, q⟩ := q
  exact s_ixT h e q
theorem ig_at (e : atI xs i = some v) (q : Q v H) : IxGo xs i H Q := ⟨v, e, q⟩
theorem ig_ints {l : List Int} (h0 : 0 ≤ i ∧ i < l.length) (q : ∀ v, l[i.toNat]? = some v → Q (.int v) H) : IxGo (l.map V.int) i H Q := by
  have hl : i.toNat < l.length := by omega
  exact ⟨_, atI_lt h0.1 (by rw [List.getElem?_map, List.getElem?_eq_getElem hl]; rfl), q _ (List.getElem?_eq_getElem hl)⟩
theorem ig_2b {x y : Int} {b : Bool} (q : ∀ v, (v = x ∨ v = y) → Q (.int v) H) : IxGo [.int x, .int y] (if b = true then 1 else 0) H Q := by
  cases b
  · exact ⟨_, rfl, q _ (.inl rfl)⟩
  · exact ⟨_, rfl, q _ (.inr rfl)⟩
theorem ig_2 {x y : Int} (h0 : 0 ≤ i ∧ i < 2) (q : ∀ v, (i = 0 ∧ v = x ∨ i = 1 ∧ v = y) → Q (.int v) H) : IxGo [.int x, .int y] i H Q := by
  have : i = 0 ∨ i = 1 := by omega
  rcases this with rfl | rfl
  · exact ⟨_, rfl, q _ (.inl ⟨rfl, rfl⟩)⟩
  · exact ⟨_, rfl, q _ (.inr ⟨rfl, rfl⟩)⟩
theorem ig_3 {x y z : Int} (h0 : 0 ≤ i ∧ i < 3) (q : ∀ v, (i = 0 ∧ v = x ∨ i = 1 ∧ v = y ∨ i = 2 ∧ v = z) → Q (.int v) H) : IxGo [.int x, .int y, .int z] i H Q := by
  have : i = 0 ∨ i = 1 ∨ i = 2 := by omega
  rcases this with rfl | rfl | rfl
  · exact ⟨_, rfl, q _ (.inl ⟨rfl, rfl⟩)⟩
  · exact ⟨_, rfl, q _ (.inr (.inl ⟨rfl, rfl⟩))⟩
  · exact ⟨_, rfl, q _ (.inr (.inr ⟨rfl, rfl⟩))⟩
theorem ig_4 {x y z t : Int} (h0 : 0 ≤ i ∧ i < 4) (q : ∀ v, (i = 0 ∧ v = x ∨ i = 1 ∧ v = y ∨ i = 2 ∧ v = z ∨ i = 3 ∧ v = t) → Q (.int v) H) : IxGo [.int x, .int y, .int z, .int t] i H Q := by
  have : i = 0 ∨ i = 1 ∨ i = 2 ∨ i = 3 := by omega
  rcases this with rfl | rfl | rfl | rfl
  · exact ⟨_, rfl, q _ (.inl ⟨rfl, rfl⟩)⟩
  · exact ⟨_, rfl, q _ (.inr (.inl ⟨rfl, rfl⟩))⟩
  · exact ⟨_, rfl, q _ (.inr (.inr (.inl ⟨rfl, rfl⟩)))⟩
  · exact ⟨_, rfl, q _ (.inr (.inr (.inr ⟨rfl, rfl⟩)))⟩
end
end TR
namespace TR
open PySem L2
theorem t_catT {K : PySem.W.Frag} {Z H : Hp} {Q : VK} {a b : Addr} {xs ys : List V} (z : Ex Z H) (h : SqT K H a xs) (h2 : SqT K H b ys) (hx : xs ≠ []) (hy : ys ≠ []) (hz : xs.length + ys.length ≤ 100000) (q : ∀ p Z' H', H p = none → T [] Z H Z' H' → Z' p = some (.tup (xs ++ ys)) → Q (.ref p) H') : rCatT K (.ref a) (.ref b) H Q :=
  ⟨a, b, xs, ys, rfl, rfl, h, h2, hx, sz_of hz, fun z => absurd z hy, fun _ p hp => q p _ _ hp (T.new hp z) upd_same⟩
theorem t_slT {K : PySem.W.Frag} {Z H : Hp} {Q : VK} {a : Addr} {xs : List V} {lo hi : Option Int} (z : Ex Z H) (h : SqT K H a xs) (hn : ¬ (HT.sIx xs.length 0 lo = 0 ∧ HT.sIx xs.length xs.length hi = xs.length)) (q : ∀ p Z' H', H p = none → T [] Z H Z' H' → Z' p = some (.tup (cutV xs lo hi)) → Q (.ref p) H') : rSlT K (.ref a) lo hi H Q :=
  ⟨a, xs, rfl, h, hn, fun p hp => q p _ _ hp (T.new hp z) upd_same⟩
end TR
namespace TR
open PySem L2
theorem Lm.frz {Z H : Hp} {D : Addr} {α : Type} {iα : Py α} {l : List α} (a : Lm Z H D l) : ∃ Z', T [D] Z H Z' H ∧ Ls Z' D l := by
  obtain ⟨⟨vs, h1, h2⟩, h3, h4⟩ := a
  have t : T [D] Z H (upd Z D (.lst vs)) H := T.fz h4 h3 h1
  exact ⟨_, t, vs, upd_same, Paired.mapP h2 fun v x g => Ik.ex t.z g⟩
end TR

/-! comprehensions and loops by T -/
namespace TR
open PySem L2
section
variable {K : PySem.W.Frag} {σ : L2.St} {H : Hp} {tt : TT} {te : TE} {Q : VK} {g : TG} {vs : List Nat}
theorem lcT {β : Type} {J : It} {n : Nat} {M : List Addr} {Z : Hp} (p : Nat → Bool) (I : Nat → Hp → Hp → Prop) (R : Nat → β → V → Hp → Prop)
    (mono : ∀ i x y Z1 Z2, Ex Z1 Z2 → R i x y Z1 → R i x y Z2)
    (stab : ∀ i Z1 H1 D o, I i Z1 H1 → H D = none → Z1 D = none → I i Z1 (upd H1 D o))
    (hz : n ≤ 40000) (zh : Ex Z H) (hM : ∀ b ∈ M, ∃ o, H b = some o) (h0 : I 0 Z H)
    (hgo : ∀ i Z1 H1, i < n → T M Z H Z1 H1 → J.go i H1) (hst : ∀ Z1 H1, T M Z H Z1 H1 → J.stop n H1)
    (turn : ∀ i, i < n → ∀ D Z1 H1, T M Z H Z1 H1 → H D = none → Mu Z1 H1 D → I i Z1 H1 → ∀ v H2, J.yld i H1 v H2 → ∀ (A : VK) (B : Hp → Prop),
      (p i = true → ∀ x y Z3 H3, T M Z1 H1 Z3 H3 → I (i + 1) Z3 H3 → R i x y Z3 → A y H3) → (p i = false → ∀ Z3 H3, T M Z1 H1 Z3 H3 → I (i + 1) Z3 H3 → B H3) →
      g v (wipe σ vs) H2 fun σ2 H2 => wipe σ2 vs = wipe σ vs ∧ tt σ2 H2 fun b H3 => if b = true then te σ2 H3 A else B H3)
    (fin : ∀ D ys (L : List (Nat × β)) Z' H', H D = none → T M Z H Z' H' → Mu Z' H' D → H' D = some (.lst ys) → I n Z' H' → L.map Prod.fst = (List.range n).filter p → Paired (fun y q => R q.1 q.2 y Z') ys L → Q (.ref D) H') : LcJ g tt te vs σ J H Q := by
  intro D hD
  have nD : D ∉ M := fun z => by
    obtain ⟨o, ho⟩ := hM D z
    rw [hD] at ho
    cases ho
  refine ⟨fun i m H' => m = n - i ∧ i ≤ n ∧ ∃ Z', T M Z H Z' H' ∧ Mu Z' H' D ∧ I i Z' H' ∧ ∃ (ys : List V) (L : List (Nat × β)), H' D = some (.lst ys) ∧ ys.length ≤ i ∧ L.map Prod.fst = (List.range i).filter p ∧ Paired (fun y q => R q.1 q.2 y Z') ys L,
    ⟨n, by omega, by omega, Z, T.newM hD zh, ⟨Ex.back zh hD, _, upd_same⟩, stab _ _ _ _ _ h0 hD (Ex.back zh hD), [], [], upd_same, Nat.le_refl _, rfl, .nil⟩, ?_⟩
  rintro i m H' ⟨rfl, hi, Z', t, mu, hI, ys, L, hys, hly, hL, pr⟩
  by_cases hlt : i < n
  · refine .inr ⟨hgo i Z' H' hlt t, fun H'' => i + 1 ≤ n ∧ ∃ Z'', T M Z H Z'' H'' ∧ Mu Z'' H'' D ∧ I (i + 1) Z'' H'' ∧ ∃ (ys : List V) (L : List (Nat × β)), H'' D = some (.lst ys) ∧ ys.length ≤ i + 1 ∧ L.map Prod.fst = (List.range (i + 1)).filter p ∧ Paired (fun y q => R q.1 q.2 y Z'') ys L,
      fun H'' q => ⟨n - (i + 1), by omega, rfl, q⟩, fun v H2 hy => ?_⟩
    refine turn i hlt D Z' H' t hD mu hI v H2 hy _ _ (fun hp x y Z3 H3 t3 hI3 r => ?_) (fun hp Z3 H3 t3 hI3 => ?_)
    · have t4 : T M Z H Z3 H3 := t.step t3 mm_same
      have mu3 := t3.mu nD mu
      have t5 : T M Z H Z3 (upd H3 D (.lst (ys ++ [y]))) := t4.step (T.set mu3 t4.zh) (mm_cons (.inr hD) mm_nil)
      refine ⟨ys, t3.hp nD hys, sz_lt (by omega), by omega, Z3, t5, ⟨mu3.z, _, upd_same⟩, stab _ _ _ _ _ hI3 hD mu3.z, ys ++ [y], L ++ [(i, x)], upd_same, by rw [List.length_append]; show _ + 1 ≤ _; omega, ?_, ?_⟩
      · rw [List.map_append, hL, List.range_succ, List.filter_append, List.filter_cons, if_pos hp]
        rfl
      · exact paired_snoc (Paired.mapP pr fun y q h => mono _ _ _ _ _ t3.z h) r
    · have t4 : T M Z H Z3 H3 := t.step t3 mm_same
      refine ⟨by omega, Z3, t4, t3.mu nD mu, hI3, ys, L, t3.hp nD hys, by omega, ?_, Paired.mapP pr fun y q h => mono _ _ _ _ _ t3.z h⟩
      rw [hL, List.range_succ, List.filter_append, List.filter_cons, if_neg (by rw [hp]; exact Bool.false_ne_true)]
      simp
  · have ei : i = n := by omega
    subst ei
    exact .inl ⟨hst Z' H' t, fin D ys L Z' H' hD t mu hys hI hL pr⟩
theorem rg_kept {β : Type} (xs : List β) (p : β → Bool) : ∀ k, k ≤ xs.length → ((List.range k).filter fun i => match xs[i]? with | some b => p b | none => false).filterMap (fun i => xs[i]?) = (xs.take k).filter p
  | 0, _ => rfl
  | k + 1, h => by
    have ek : xs[k]? = some xs[k] := List.getElem?_eq_getElem h
    rw [List.range_succ, List.filter_append, List.filterMap_append, rg_kept xs p k (by omega), List.take_add_one, ek, List.filter_append]
    congr 1
    show List.filterMap _ (List.filter _ [k]) = List.filter p [xs[k]]
    rw [List.filter_cons, List.filter_cons, ek]
    by_cases c : p xs[k] = true
    · simp [c, ek]
    · simp [c]
theorem kept_snd {β γ : Type} {xs : List β} {f : β → γ} : ∀ {L : List (Nat × γ)}, (∀ q ∈ L, ∃ b, xs[q.1]? = some b ∧ q.2 = f b) → L.map Prod.snd = ((L.map Prod.fst).filterMap fun i => xs[i]?).map f
  | [], _ => rfl
  | q :: L, h => by
    obtain ⟨b, h1, h2⟩ := h q List.mem_cons_self
    rw [List.map_cons, List.map_cons, List.filterMap_cons, h1, List.map_cons, ← kept_snd (L := L) fun r hr => h r (List.mem_cons_of_mem _ hr), h2]
theorem paired_r {β γ : Type} {F : β → γ → Prop} {xs : List β} {ys : List γ} (h : Paired F xs ys) : ∀ y ∈ ys, ∃ x, F x y := by
  induction h with
  | nil => exact fun _ h => absurd h List.not_mem_nil
  | cons a t ih =>
    intro y hy
    rcases List.mem_cons.mp hy with e | hy
    · rw [e]; exact ⟨_, a⟩
    · exact ih y hy
theorem paired_mapR {β γ δ : Type} {F : β → δ → Prop} {f : γ → δ} : ∀ {xs : List β} {ys : List γ}, Paired (fun x y => F x (f y)) xs ys → Paired F xs (ys.map f)
  | _, _, .nil => .nil
  | _, _, .cons a t => .cons a (paired_mapR t)
/-- a list of data, what is kept is told by f -/
theorem c_keepLA {β γ : Type} [Py β] [Py γ] {a : Addr} {xs : List β} {Z : Hp} (p : β → Bool) (f : β → γ) (zh : Ex Z H) (h : Ik Z (.ref a) xs) (hz : xs.length ≤ 40000)
    (turn : ∀ (i : Nat) v x, xs[i]? = some x → Ik Z v x → ∀ Z1 H1, T [] Z H Z1 H1 → ∀ (A : VK) (B : Hp → Prop), (p x = true → ∀ y Z3 H3, T [] Z1 H1 Z3 H3 → Ik Z3 y (f x) → A y H3) → (p x = false → ∀ Z3 H3, T [] Z1 H1 Z3 H3 → B H3) →
      g v (wipe σ vs) H1 fun σ2 H2 => wipe σ2 vs = wipe σ vs ∧ tt σ2 H2 fun b H3 => if b = true then te σ2 H3 A else B H3)
    (fin : ∀ D Z' H', H D = none → T [] Z H Z' H' → Lm Z' H' D ((xs.filter p).map f) → Q (.ref D) H') : LcL K g tt te vs σ (.ref a) H Q := by
  obtain ⟨b, us, e, h1, h2⟩ := h.list
  cases e
  have hl := Paired.length h2
  refine ⟨a, rfl, ⟨us, zh.sq (sq_of h1)⟩, lcT (n := xs.length) (M := []) (Z := Z) (fun i => match xs[i]? with | some b => p b | none => false) (fun _ _ _ => True) (fun i (x : γ) y Z => (∃ b, xs[i]? = some b ∧ x = f b) ∧ Ik Z y x) (fun i x y Z1 Z2 e r => ⟨r.1, Ik.ex e r.2⟩) (fun _ _ _ _ _ _ _ _ => trivial) hz zh (fun _ h => absurd h List.not_mem_nil) trivial
    (fun i Z1 H1 hi t => ⟨us, us[i]'(by omega), (t.z.trans t.zh).sq (sq_of h1), List.getElem?_eq_getElem (by omega)⟩) (fun Z1 H1 t => ⟨us, (t.z.trans t.zh).sq (sq_of h1), by omega⟩) (fun i hi D Z1 H1 t nD mu _ v H2 hy A B hA hB => ?_) (fun D ys L Z' H' nD t mu f1 _ hL pr => ?_)⟩
  · obtain ⟨rfl, fv⟩ := hy
    have hv := fv _ ((t.z.trans t.zh).sq (sq_of h1))
    obtain ⟨x, hx, ix⟩ := itemK h2 hv
    refine turn i v x hx ix Z1 H2 t A B (fun hp y Z3 H3 t3 iy => hA ?_ (f x) y Z3 H3 t3 trivial ⟨⟨x, hx, rfl⟩, iy⟩) (fun hp Z3 H3 t3 => hB ?_ Z3 H3 t3 trivial)
    · show (match xs[i]? with | some b => p b | none => false) = true
      rw [hx]
      exact hp
    · show (match xs[i]? with | some b => p b | none => false) = false
      rw [hx]
      exact hp
  · have e2 : L.map Prod.snd = (xs.filter p).map f := by
      rw [kept_snd (xs := xs) (f := f) (fun q hq => by
        obtain ⟨y, hy⟩ := paired_r pr q hq
        exact hy.1), hL, rg_kept xs p xs.length (Nat.le_refl _), List.take_length]
    have la : Lm Z' H' D ((xs.filter p).map f) := ⟨⟨ys, f1, by rw [← e2]; exact paired_mapR (Paired.mapP pr fun y q h => h.2)⟩, mu.z, t.zh⟩
    exact fin D Z' H' nD t la
/-- a list of data, what is kept is told by f -/
theorem c_keepL {β γ : Type} [Py β] [Py γ] {a : Addr} {xs : List β} {Z : Hp} (p : β → Bool) (f : β → γ) (zh : Ex Z H) (h : Ik Z (.ref a) xs) (hz : xs.length ≤ 40000)
    (turn : ∀ (i : Nat) v x, xs[i]? = some x → Ik Z v x → ∀ Z1 H1, T [] Z H Z1 H1 → ∀ (A : VK) (B : Hp → Prop), (p x = true → ∀ y Z3 H3, T [] Z1 H1 Z3 H3 → Ik Z3 y (f x) → A y H3) → (p x = false → ∀ Z3 H3, T [] Z1 H1 Z3 H3 → B H3) →
      g v (wipe σ vs) H1 fun σ2 H2 => wipe σ2 vs = wipe σ vs ∧ tt σ2 H2 fun b H3 => if b = true then te σ2 H3 A else B H3)
    (fin : ∀ D Z' H', H D = none → T [] Z H Z' H' → Ls Z' D ((xs.filter p).map f) → Q (.ref D) H') : LcL K g tt te vs σ (.ref a) H Q :=
  c_keepLA p f zh h hz turn fun D Z' H' nD t la => t_fz la fun Z2 H2 t2 ls => fin D Z2 H2 nD (t.step t2 (mm_cons (.inr nD) mm_nil)) ls
theorem c_mapLA {β γ : Type} [Py β] [Py γ] {a : Addr} {xs : List β} {Z : Hp} (f : β → γ) (zh : Ex Z H) (h : Ik Z (.ref a) xs) (hz : xs.length ≤ 40000)
    (turn : ∀ (i : Nat) v x, xs[i]? = some x → Ik Z v x → ∀ Z1 H1, T [] Z H Z1 H1 → ∀ (A : VK), (∀ y Z3 H3, T [] Z1 H1 Z3 H3 → Ik Z3 y (f x) → A y H3) → g v (wipe σ vs) H1 fun σ2 H2 => wipe σ2 vs = wipe σ vs ∧ te σ2 H2 A)
    (fin : ∀ D Z' H', H D = none → T [] Z H Z' H' → Lm Z' H' D (xs.map f) → Q (.ref D) H') : LcL K g tYes te vs σ (.ref a) H Q :=
  c_keepLA (fun _ => true) f zh h hz (fun i v x hx ix Z1 H1 t A B hA hB => by rw [lc_yes]; exact turn i v x hx ix Z1 H1 t A fun y Z3 H3 t3 iy => hA rfl y Z3 H3 t3 iy) (by rw [filter_yes]; exact fin)
theorem c_mapL {β γ : Type} [Py β] [Py γ] {a : Addr} {xs : List β} {Z : Hp} (f : β → γ) (zh : Ex Z H) (h : Ik Z (.ref a) xs) (hz : xs.length ≤ 40000)
    (turn : ∀ (i : Nat) v x, xs[i]? = some x → Ik Z v x → ∀ Z1 H1, T [] Z H Z1 H1 → ∀ (A : VK), (∀ y Z3 H3, T [] Z1 H1 Z3 H3 → Ik Z3 y (f x) → A y H3) → g v (wipe σ vs) H1 fun σ2 H2 => wipe σ2 vs = wipe σ vs ∧ te σ2 H2 A)
    (fin : ∀ D Z' H', H D = none → T [] Z H Z' H' → Ls Z' D (xs.map f) → Q (.ref D) H') : LcL K g tYes te vs σ (.ref a) H Q :=
  c_keepL (fun _ => true) f zh h hz (fun i v x hx ix Z1 H1 t A B hA hB => by rw [lc_yes]; exact turn i v x hx ix Z1 H1 t A fun y Z3 H3 t3 iy => hA rfl y Z3 H3 t3 iy) (by rw [filter_yes]; exact fin)
/-- .. of a range -/
theorem c_keepR {γ : Type} [Py γ] {n : Int} {Z : Hp} (p : Nat → Bool) (f : Nat → γ) (zh : Ex Z H) (hz : -40000 ≤ n ∧ n ≤ 40000)
    (turn : ∀ i : Nat, (i : Int) < n → ∀ Z1 H1, T [] Z H Z1 H1 → ∀ (A : VK) (B : Hp → Prop), (p i = true → ∀ y Z3 H3, T [] Z1 H1 Z3 H3 → Ik Z3 y (f i) → A y H3) → (p i = false → ∀ Z3 H3, T [] Z1 H1 Z3 H3 → B H3) →
      g (.int (i : Int)) (wipe σ vs) H1 fun σ2 H2 => wipe σ2 vs = wipe σ vs ∧ tt σ2 H2 fun b H3 => if b = true then te σ2 H3 A else B H3)
    (fin : ∀ D Z' H', H D = none → T [] Z H Z' H' → Ls Z' D (((List.range n.toNat).filter p).map f) → Q (.ref D) H') : LcR1 g tt te vs σ [.int n] H Q := by
  have e62 : (2 : Int) ^ 62 = 4611686018427387904 := by decide
  refine ⟨n, rfl, by omega, by omega, lcT (n := n.toNat) (M := []) (Z := Z) p (fun _ _ _ => True) (fun i (x : γ) y Z => x = f i ∧ Ik Z y x) (fun i x y Z1 Z2 e r => ⟨r.1, Ik.ex e r.2⟩) (fun _ _ _ _ _ _ _ _ => trivial) (by omega) zh (fun _ h => absurd h List.not_mem_nil) trivial
    (fun i Z1 H1 hi t => hi) (fun Z1 H1 t => Nat.le_refl _) (fun i hi D Z1 H1 t nD mu _ v H2 hy A B hA hB => ?_) (fun D ys L Z' H' nD t mu f1 _ hL pr => ?_)⟩
  · obtain ⟨rfl, rfl⟩ := hy
    rw [Int.zero_add]
    exact turn i (by omega) Z1 H2 t A B (fun hp y Z3 H3 t3 iy => hA hp (f i) y Z3 H3 t3 trivial ⟨rfl, iy⟩) (fun hp Z3 H3 t3 => hB hp Z3 H3 t3 trivial)
  · have e2 : L.map Prod.snd = ((List.range n.toNat).filter p).map f := by
      rw [← hL, List.map_map]
      exact List.map_congr_left fun q hq => by
        obtain ⟨y, hy⟩ := paired_r pr q hq
        exact hy.1
    have la : Lm Z' H' D (((List.range n.toNat).filter p).map f) := ⟨⟨ys, f1, by rw [← e2]; exact paired_mapR (Paired.mapP pr fun y q h => h.2)⟩, mu.z, t.zh⟩
    exact t_fz la fun Z2 H2 t2 ls => fin D Z2 H2 nD (t.step t2 (mm_cons (.inr nD) mm_nil)) ls
theorem c_mapR {γ : Type} [Py γ] {n : Int} {Z : Hp} (f : Nat → γ) (zh : Ex Z H) (hz : -40000 ≤ n ∧ n ≤ 40000)
    (turn : ∀ i : Nat, (i : Int) < n → ∀ Z1 H1, T [] Z H Z1 H1 → ∀ (A : VK), (∀ y Z3 H3, T [] Z1 H1 Z3 H3 → Ik Z3 y (f i) → A y H3) → g (.int (i : Int)) (wipe σ vs) H1 fun σ2 H2 => wipe σ2 vs = wipe σ vs ∧ te σ2 H2 A)
    (fin : ∀ D Z' H', H D = none → T [] Z H Z' H' → Ls Z' D ((List.range n.toNat).map f) → Q (.ref D) H') : LcR1 g tYes te vs σ [.int n] H Q :=
  c_keepR (fun _ => true) f zh hz (fun i hi Z1 H1 t A B hA hB => by rw [lc_yes]; exact turn i hi Z1 H1 t A fun y Z3 H3 t3 iy => hA rfl y Z3 H3 t3 iy) (by rw [filter_yes]; exact fin)
theorem c_mapR2 {γ : Type} [Py γ] {lo n : Int} {Z : Hp} (f : Nat → γ) (zh : Ex Z H) (hz : -40000 ≤ lo ∧ lo ≤ 40000 ∧ n ≤ 40000 ∧ -40000 ≤ n ∧ n - lo ≤ 40000)
    (turn : ∀ i : Nat, lo + (i : Int) < n → ∀ Z1 H1, T [] Z H Z1 H1 → ∀ (A : VK), (∀ y Z3 H3, T [] Z1 H1 Z3 H3 → Ik Z3 y (f i) → A y H3) → g (.int (lo + (i : Int))) (wipe σ vs) H1 fun σ2 H2 => wipe σ2 vs = wipe σ vs ∧ te σ2 H2 A)
    (fin : ∀ D Z' H', H D = none → T [] Z H Z' H' → Ls Z' D ((List.range (n - lo).toNat).map f) → Q (.ref D) H') : LcR2 g tYes te vs σ [.int lo, .int n] H Q := by
  have e62 : (2 : Int) ^ 62 = 4611686018427387904 := by decide
  refine ⟨lo, n, rfl, ⟨by omega, by omega, by omega, by omega⟩, lcT (n := (n - lo).toNat) (M := []) (Z := Z) (fun _ => true) (fun _ _ _ => True) (fun i (x : γ) y Z => x = f i ∧ Ik Z y x) (fun i x y Z1 Z2 e r => ⟨r.1, Ik.ex e r.2⟩) (fun _ _ _ _ _ _ _ _ => trivial) (by omega) zh (fun _ h => absurd h List.not_mem_nil) trivial
    (fun i Z1 H1 hi t => hi) (fun Z1 H1 t => Nat.le_refl _) (fun i hi D Z1 H1 t nD mu _ v H2 hy A B hA hB => ?_) (fun D ys L Z' H' nD t mu f1 _ hL pr => ?_)⟩
  · obtain ⟨rfl, rfl⟩ := hy
    rw [lc_yes]
    exact turn i (by omega) Z1 H2 t A fun y Z3 H3 t3 iy => hA rfl (f i) y Z3 H3 t3 trivial ⟨rfl, iy⟩
  · rw [filter_yes] at hL
    have e2 : L.map Prod.snd = (List.range (n - lo).toNat).map f := by
      rw [← hL, List.map_map]
      exact List.map_congr_left fun q hq => by
        obtain ⟨y, hy⟩ := paired_r pr q hq
        exact hy.1
    have la : Lm Z' H' D ((List.range (n - lo).toNat).map f) := ⟨⟨ys, f1, by rw [← e2]; exact paired_mapR (Paired.mapP pr fun y q h => h.2)⟩, mu.z, t.zh⟩
    exact t_fz la fun Z2 H2 t2 ls => fin D Z2 H2 nD (t.step t2 (mm_cons (.inr nD) mm_nil)) ls
/-- things drawn, c draws a turn -/
theorem c_drawJ {β : Type} [Py β] {J : It} {n : Nat} {Z : Hp} {h : Addr} {C : Nat} (P : β → Prop) (R c : Nat) (xs : Nat → V) (hh : Hand K Z H h C) (hC : R + c * n ≤ C) (hz : n ≤ 40000)
    (hgo : ∀ i Z1 H1, i < n → T [h] Z H Z1 H1 → J.go i H1) (hst : ∀ Z1 H1, T [h] Z H Z1 H1 → J.stop n H1) (hy : ∀ i v Z1 H1 H2, i < n → T [h] Z H Z1 H1 → J.yld i H1 v H2 → H2 = H1 ∧ v = xs i)
    (turn : ∀ i : Nat, i < n → ∀ Z1 H1 R', T [h] Z H Z1 H1 → Hand K Z1 H1 h (R' + c) → ∀ A : VK, (∀ x y Z3 H3, T [h] Z1 H1 Z3 H3 → Hand K Z3 H3 h R' → Ik Z3 y x → P x → A y H3) → g (xs i) (wipe σ vs) H1 fun σ2 H2 => wipe σ2 vs = wipe σ vs ∧ te σ2 H2 A)
    (fin : ∀ D (l : List β) Z' H', H D = none → T [h] Z H Z' H' → Hand K Z' H' h R → Ls Z' D l → l.length = n → (∀ x ∈ l, P x) → Q (.ref D) H') : LcJ g tYes te vs σ J H Q := by
  refine lcT (n := n) (M := [h]) (Z := Z) (fun _ => true) (fun i Z1 H1 => Hand K Z1 H1 h (R + c * (n - i))) (fun i (x : β) y Z => Ik Z y x ∧ P x) (fun i x y Z1 Z2 e r => ⟨Ik.ex e r.1, r.2⟩) (fun i Z1 H1 D o hi nD zD => ?_) hz hh.z (fun b hb => by rw [List.mem_singleton.mp hb]; exact hh.at) (hh.mono (by simpa using hC))
    hgo hst (fun i hi D Z1 H1 t nD mu hI v H2 hv A B hA hB => ?_) (fun D ys L Z' H' nD t mu f1 hI hL pr => ?_)
  · obtain ⟨o1, ho1⟩ := hh.at
    exact hi.exm ExM.upd (ne_of_none ho1 nD) zD
  · obtain ⟨rfl, rfl⟩ := hy i v Z1 H1 H2 hi t hv
    rw [lc_yes]
    have ec : R + c * (n - i) = R + c * (n - (i + 1)) + c := by
      rw [show n - i = (n - (i + 1)) + 1 by omega, Nat.mul_succ]
      omega
    rw [ec] at hI
    exact turn i hi Z1 H2 _ t hI A fun x y Z3 H3 t3 h3 ix px => hA rfl x y Z3 H3 t3 h3 ⟨ix, px⟩
  · have la : Lm Z' H' D (L.map Prod.snd) := ⟨⟨ys, f1, paired_mapR (Paired.mapP pr fun y q h => h.1)⟩, mu.z, t.zh⟩
    refine t_fz la fun Z2 H2 t2 ls => fin D (L.map Prod.snd) Z2 H2 nD (t.step t2 (mm_cons (.inr nD) mm_nil)) ((Hand.tt t2 (nm_cons (hand_ne0 nD hh).symm nm_nil) hI).mono (by omega)) ls ?_ fun x hx => ?_
    · have := congrArg List.length hL
      rw [filter_yes, List.length_map, List.length_range] at this
      rw [List.length_map, this]
    · obtain ⟨q, hq, rfl⟩ := List.mem_map.mp hx
      obtain ⟨y, hy⟩ := paired_r pr q hq
      exact hy.2
theorem c_drawR {β : Type} [Py β] {n : Int} {Z : Hp} {h : Addr} {C : Nat} (P : β → Prop) (R c : Nat) (hh : Hand K Z H h C) (hz : 0 ≤ n ∧ n ≤ 40000) (hC : R + c * n.toNat ≤ C)
    (turn : ∀ i : Nat, (i : Int) < n → ∀ Z1 H1 R', T [h] Z H Z1 H1 → Hand K Z1 H1 h (R' + c) → ∀ A : VK, (∀ x y Z3 H3, T [h] Z1 H1 Z3 H3 → Hand K Z3 H3 h R' → Ik Z3 y x → P x → A y H3) → g (.int (i : Int)) (wipe σ vs) H1 fun σ2 H2 => wipe σ2 vs = wipe σ vs ∧ te σ2 H2 A)
    (fin : ∀ D (l : List β) Z' H', H D = none → T [h] Z H Z' H' → Hand K Z' H' h R → Ls Z' D l → (l.length : Int) = n → (∀ x ∈ l, P x) → Q (.ref D) H') : LcR1 g tYes te vs σ [.int n] H Q := by
  have e62 : (2 : Int) ^ 62 = 4611686018427387904 := by decide
  refine ⟨n, rfl, by omega, by omega, c_drawJ P R c (n := n.toNat) (fun i => .int (i : Int)) hh hC (by omega) (fun i Z1 H1 hi t => hi) (fun Z1 H1 t => Nat.le_refl _) (fun i v Z1 H1 H2 hi t hy => ?_) (fun i hi => turn i (by omega)) (fun D l Z' H' n1 t h1 ls hl => fin D l Z' H' n1 t h1 ls (by omega))⟩
  obtain ⟨rfl, rfl⟩ := hy
  exact ⟨rfl, by rw [Int.zero_add]⟩
theorem c_drawL {β γ : Type} [Py β] [Py γ] {a : Addr} {xs : List γ} {Z : Hp} {h : Addr} {C : Nat} (P : β → Prop) (R c : Nat) (hh : Hand K Z H h C) (hx : Ik Z (.ref a) xs) (hz : xs.length ≤ 40000) (hC : R + c * xs.length ≤ C)
    (turn : ∀ (i : Nat) v x, xs[i]? = some x → Ik Z v x → ∀ Z1 H1 R', T [h] Z H Z1 H1 → Hand K Z1 H1 h (R' + c) → ∀ A : VK, (∀ x y Z3 H3, T [h] Z1 H1 Z3 H3 → Hand K Z3 H3 h R' → Ik Z3 y x → P x → A y H3) → g v (wipe σ vs) H1 fun σ2 H2 => wipe σ2 vs = wipe σ vs ∧ te σ2 H2 A)
    (fin : ∀ D (l : List β) Z' H', H D = none → T [h] Z H Z' H' → Hand K Z' H' h R → Ls Z' D l → l.length = xs.length → (∀ x ∈ l, P x) → Q (.ref D) H') : LcL K g tYes te vs σ (.ref a) H Q := by
  obtain ⟨b, us, e, h1, h2⟩ := hx.list
  cases e
  have hl := Paired.length h2
  refine ⟨a, rfl, ⟨us, hh.z.sq (sq_of h1)⟩, c_drawJ P R c (n := xs.length) (fun i => us.getD i .non) hh hC hz (fun i Z1 H1 hi t => ⟨us, us[i]'(by omega), (t.z.trans t.zh).sq (sq_of h1), List.getElem?_eq_getElem (by omega)⟩) (fun Z1 H1 t => ⟨us, (t.z.trans t.zh).sq (sq_of h1), by omega⟩) (fun i v Z1 H1 H2 hi t hy => ?_) (fun i hi Z1 H1 R' t hh1 A k => ?_) fin⟩
  · obtain ⟨rfl, fv⟩ := hy
    have hv := fv _ ((t.z.trans t.zh).sq (sq_of h1))
    refine ⟨rfl, ?_⟩
    rw [List.getD_eq_getElem?_getD, hv]
    rfl
  · have hv : us[i]? = some (us.getD i .non) := by rw [List.getD_eq_getElem?_getD, List.getElem?_eq_getElem (by omega)]; rfl
    obtain ⟨x, hx, ix⟩ := itemK h2 hv
    exact turn i _ x hx ix Z1 H1 R' t hh1 A k
end
section
variable {K : PySem.W.Frag} {σ : L2.St} {H : Hp} {D : Ends} {g : TG} {ts : TS}
/-- for over a list of data -/
theorem t_forL {β : Type} [Py β] {a : Addr} {xs : List β} {Z0 : Hp} (h : Ik Z0 (.ref a) xs) (Pv : Nat → L2.St → Hp → Prop) (hz : ∀ i σ H, Pv i σ H → Ex Z0 H) (h0 : Pv 0 σ H)
    (hs : ∀ (i : Nat) v x σ H, xs[i]? = some x → Ik Z0 v x → Pv i σ H → g v σ H fun σ2 H2 => ts { D with nx := Pv (i + 1), ct := Pv (i + 1), bk := D.nx } σ2 H2) (hd : ∀ σ H, Pv xs.length σ H → D.nx σ H) : ForL K g ts D σ (.ref a) H := by
  obtain ⟨b, us, e, h1, h2⟩ := h.list
  cases e
  have hl := Paired.length h2
  refine u_forL Pv ((hz _ _ _ h0).sq (sq_of h1)) h0 (fun i σ H _ p => (hz _ _ _ p).sq (sq_of h1)) (fun i v σ H hv p => ?_) (fun σ H p => hd σ H (by rw [← hl]; exact p))
  obtain ⟨x, hx, ix⟩ := itemK h2 hv
  exact hs i v x σ H hx ix p
/-- for over enumerate(a list of data) -/
theorem t_forE {β : Type} [Py β] {a : Addr} {xs : List β} {Z0 : Hp} (h : Ik Z0 (.ref a) xs) (Pv : Nat → L2.St → Hp → Hp → Prop) (hz : ∀ i σ Z H, Pv i σ Z H → Ex Z0 H ∧ Ex Z H) (Z : Hp) (h0 : Pv 0 σ Z H)
    (hs : ∀ (i : Nat) v x T σ Z H Z' H', xs[i]? = some x → Ik Z0 v x → Pv i σ Z H → TR.T [] Z H Z' H' → Z' T = some (.tup [.int (i : Nat), v]) → g (.ref T) σ H' fun σ2 H2 => ts { D with nx := fun σ H => ∃ Z, Pv (i + 1) σ Z H, ct := fun σ H => ∃ Z, Pv (i + 1) σ Z H, bk := D.nx } σ2 H2)
    (hd : ∀ σ Z H, Pv xs.length σ Z H → D.nx σ H) : ForE K g ts D σ [.ref a] H := by
  obtain ⟨b, us, e, h1, h2⟩ := h.list
  cases e
  have hl := Paired.length h2
  refine ⟨a, us, rfl, (hz _ _ _ _ h0).1.sq (sq_of h1), fun i m σ H => m = us.length - i ∧ i ≤ us.length ∧ ∃ Z, Pv i σ Z H, ⟨us.length, by simp, Nat.zero_le _, Z, h0⟩, ?_⟩
  rintro i m σ H ⟨rfl, hi, Z, p⟩
  have q : SqL K H a us := (hz i σ Z H p).1.sq (sq_of h1)
  by_cases hlt : i < us.length
  · refine .inr ⟨⟨us, us[i], q, by simp [hlt]⟩, fun σ H => ∃ Z, Pv (i + 1) σ Z H, fun σ' H' p' => ⟨us.length - (i + 1), by omega, rfl, hlt, p'⟩, fun v H' y => ?_⟩
    obtain ⟨T, x, rfl, nT, rfl, y⟩ := y
    have hx := y us q
    obtain ⟨x', hx', ix⟩ := itemK h2 hx
    exact hs i x x' T σ Z H _ _ hx' ix p (TR.T.new nT (hz i σ Z H p).2) upd_same
  · have e : i = us.length := by omega
    subst e
    exact .inl ⟨⟨us, q, Nat.le_refl _⟩, hd σ Z H (by rw [← hl]; exact p)⟩
end
end TR

/-! words of T: zh (all of Z stands), zz, pz (what stands in Z), hz (in H), iz (data in Z), sqz, stz, nm (not among), nez, al, hd (the hand), la, mu, li, ls, mm, fz (was not there), tt (the whole way); t, ts: steps -/
open PySem L2 TR
local macro_rules | `(tactic| walk_at "zh") => `(tactic| first | assumption | exact T.zh (by assumption) | exact Ex.refl _ | exact Hand.z (by assumption))
local macro_rules | `(tactic| walk_at "zhx") => `(tactic| first | exact T.zh (by assumption) | assumption | exact Hand.z (by assumption))
local macro_rules | `(tactic| walk_at "zz") => `(tactic| first | assumption | exact Ex.refl _ | (apply T.exz; (focus assumption); walk_at "zz"))
local macro_rules | `(tactic| walk_at "pz") => `(tactic| first | assumption | (apply T.pz; (focus assumption); walk_at "pz"))
local macro_rules | `(tactic| walk_at "hz") => `(tactic| first | assumption | (apply T.hp; (focus assumption); (focus walk_at "nm"); walk_at "hz"))
local macro_rules | `(tactic| walk_at "nm") => `(tactic| first | exact nm_nil | assumption | (apply nm_cons; (focus walk_at "nez"); walk_at "nm"))
local macro_rules | `(tactic| walk_at "nez") => `(tactic| first | assumption | (apply Ne.symm; assumption) | (apply ne_alF; (focus assumption); (focus walk_at "al")) | (apply ne_alB; (focus assumption); (focus walk_at "al")))
local macro_rules | `(tactic| walk_at "al") => `(tactic| first | exact Hand.at (by assumption) | exact Mu.a (by assumption) | exact Lm.at_ (by assumption) | exact ⟨_, by assumption⟩ | (apply T.all; (focus assumption); walk_at "al"))
local macro_rules | `(tactic| walk_at "hd") => `(tactic| first | assumption | (apply Hand.tt; (focus assumption); (focus walk_at "nm"); walk_at "hd"))
local macro_rules | `(tactic| walk_at "la") => `(tactic| first | assumption | (apply Lm.tt; (focus assumption); (focus walk_at "nm"); walk_at "la"))
local macro_rules | `(tactic| walk_at "mu") => `(tactic| first | assumption | (apply T.mu; (focus assumption); (focus walk_at "nm"); walk_at "mu"))
local macro_rules | `(tactic| walk_at "ls") => `(tactic| first | assumption | (apply Ls.ofInts; walk_at "pz") | (apply Ls.tt; (focus assumption); walk_at "ls"))
local macro_rules | `(tactic| walk_at "lsn") => `(tactic| first | (walk_at "ls") | (apply Ls.l0; walk_at "pz") | (apply Ls.l1; (focus walk_at "pz"); walk_at "iz") | (apply Ls.l2; (focus walk_at "pz"); (focus walk_at "iz"); walk_at "iz"))
local macro_rules | `(tactic| walk_at "li") => `(tactic| first | (apply Ls.li; (focus first | walk_at "lsn" | (apply Ik.li; walk_at "izc")); walk_at "zh") | (apply Lm.li; walk_at "la"))
local macro_rules | `(tactic| walk_at "izc") => `(tactic| first | assumption | exact Ls.is (by assumption) | (apply Ik.tt; (focus assumption); walk_at "izc"))
local macro_rules | `(tactic| walk_at "iz") => `(tactic| first | exact Ik.int _ | exact Ik.bl _ | exact Ik.tx _ | walk_at "izc" | exact Ik.no | exact Ik.yes _ | exact Ik.opt _ | exact Ik.noS | exact Ik.yesS _ | (apply Ik.pair; (focus walk_at "pz"); (focus walk_at "iz"); walk_at "iz") | (apply Ik.three; (focus walk_at "pz"); (focus walk_at "iz"); (focus walk_at "iz"); walk_at "iz") | (apply Ik.four; (focus walk_at "pz"); (focus walk_at "iz"); (focus walk_at "iz"); (focus walk_at "iz"); walk_at "iz") | (apply Ik.nil; walk_at "pz") | (apply Ls.is; walk_at "lsn") | (apply Ik.ints; walk_at "pz"))
local macro_rules | `(tactic| walk_at "sqz") => `(tactic| first | assumption | (apply sq_of; walk_at "pz") | (apply Ik.sqI; assumption) | (apply T.sqz; (focus assumption); walk_at "sqz"))
local macro_rules | `(tactic| walk_at "stz") => `(tactic| first | assumption | (apply st_of; walk_at "pz") | (apply T.stz; (focus assumption); walk_at "stz"))
local macro_rules | `(tactic| walk_at "memz") => `(tactic| first | assumption | exact List.mem_cons_self | (apply List.mem_cons_of_mem; walk_at "memz"))
local macro_rules | `(tactic| walk_at "ac") => `(tactic| first | exact AC.refl | assumption | (apply T.ac; (focus assumption); walk_at "ac"))
local macro_rules | `(tactic| walk_at "fz") => `(tactic| first | assumption | (apply fresh_of; (focus assumption); walk_at "ac"))
local macro_rules | `(tactic| walk_at "mm") => `(tactic| first | exact mm_nil | exact mm_same | (apply mm_cons; (focus first | exact Or.inl (by walk_at "memz") | exact Or.inr (by walk_at "fz")); walk_at "mm"))
local macro_rules | `(tactic| walk_at "tt") => `(tactic| first | assumption | exact T.refl (by walk_at "zh") | (apply T.step; rotate_left; (focus assumption); (focus walk_at "mm"); walk_at "tt"))
/-! the old words, widened -/
local macro_rules | `(tactic| walk_at "hp") => `(tactic| first | assumption | exact T.zh (by assumption) _ _ (by assumption) | (apply ex_ap; (focus walk_at "zhx"); (focus walk_at "pz")) | walk_at "hz" | (apply ex_ap; (focus assumption); walk_at "hp") | (apply exm_ap; (focus assumption); (focus walk_at "ne"); walk_at "hp"))
local macro_rules | `(tactic| walk_at "sq") => `(tactic| first | assumption | exact RW.sq (by assumption) | (apply sq_of; (focus walk_at "hp")) | (apply Ex.sq; (focus walk_at "zhx"); walk_at "sqz") | (apply Ex.sq; rotate_left; (focus assumption); walk_at "ex"))
local macro_rules | `(tactic| walk_at "st") => `(tactic| first | assumption | (apply st_of; (focus walk_at "hp")) | (apply Ex.st; (focus walk_at "zhx"); walk_at "stz") | (apply Ex.st; rotate_left; (focus assumption); walk_at "ex"))
local macro_rules | `(tactic| walk_at "isK") => `(tactic| first | (apply Ik.ex; (focus walk_at "zhx"); walk_at "iz") | (apply Lm.isH; walk_at "la") | (apply Ik.nil; walk_at "hp"))
local macro_rules | `(tactic| walk_at "is") => `(tactic| first | exact Is.int _ | exact Is.bl _ | assumption | (apply Ik.is; walk_at "isK") | exact RW.is (by assumption) | (apply Is.nil; walk_at "sq") | (apply Is.ints; walk_at "sq"))
/-! steps -/
local macro_rules | `(tactic| walk_at "ig") => `(tactic| first
  | ((with_reducible apply ig_at); (focus walk_at "at"))
  | ((with_reducible apply ig_ints); (focus omega); intro _ _)
  | ((with_reducible apply ig_2b); intro _ _) | ((with_reducible apply ig_2); (focus omega); intro _ _) | ((with_reducible apply ig_3); (focus omega); intro _ _) | ((with_reducible apply ig_4); (focus omega); intro _ _))
local macro_rules | `(tactic| walk_at "t") => `(tactic| first
  | (with_reducible apply s_seq) | (with_reducible apply s_asg) | (with_reducible apply s_gname) | (with_reducible apply s_ret) | (with_reducible apply s_if) | (with_reducible apply s_next) | (with_reducible apply s_drop)
  | ((with_reducible apply s_var); (focus rfl)) | (with_reducible apply s_c) | (with_reducible apply s_op) | (with_reducible apply s_un) | (with_reducible apply s_chain)
  | (with_reducible apply s_test) | (with_reducible apply s_tB) | (with_reducible apply s_bl) | (with_reducible apply s_and) | (with_reducible apply s_or) | (with_reducible apply s_not)
  | (with_reducible apply s_andV) | (with_reducible apply s_orV) | (with_reducible apply s_notV) | (with_reducible apply s_ifE)
  | (with_reducible apply s_I0) | (with_reducible apply s_U) | (with_reducible apply s_plusI) | (with_reducible apply s_eqI) | (with_reducible apply s_neI) | (with_reducible apply s_eqB) | (with_reducible apply s_neB) | (with_reducible apply s_eqS) | (with_reducible apply s_neS)
  | (with_reducible apply s_nil) | (with_reducible apply s_cons) | (with_reducible apply s_call) | (with_reducible apply s_CB) | (with_reducible apply s_lst) | (with_reducible apply s_tup)
  | (with_reducible apply s_sl) | (with_reducible apply s_np) | (with_reducible apply s_part) | (with_reducible apply s_int) | (with_reducible apply s_BM) | (with_reducible apply s_BM0) | (with_reducible apply s_gsub) | (with_reducible apply s_augS) | (with_reducible apply s_ipI)
  | (with_reducible apply s_forL) | (with_reducible apply s_forT) | (with_reducible apply s_forR1) | (with_reducible apply s_forR2) | (with_reducible apply s_forE) | (with_reducible apply s_forZ) | (with_reducible apply s_forS)
  | (with_reducible apply s_lcL) | (with_reducible apply s_lcT) | (with_reducible apply s_lcR1) | (with_reducible apply s_lcR2) | (with_reducible apply s_lcE) | (with_reducible apply s_lcZ) | (with_reducible apply s_yes) | (with_reducible apply s_dget2) | (with_reducible apply s_dput) | ((with_reducible apply s_wp); (focus rfl))
  | (with_reducible apply s_lstRg) | (with_reducible apply s_Rg1) | (with_reducible apply s_Rg2) | (with_reducible apply s_int2)
  | ((with_reducible apply s_mod); (focus walk_at "od"); intro _ _) | ((with_reducible apply s_div); (focus walk_at "od"); (focus walk_at "od"))
  | (walk_at "pow") | ((with_reducible apply s_pow); (focus decide); (focus walk_at "od")) | ((with_reducible apply s_mulL); (focus walk_at "od")) | ((with_reducible apply s_mulR); (focus walk_at "od"))
  | ((with_reducible apply t_tup); (focus walk_at "zh"); (focus walk_at "od"); intro _ _ _ _ _ _)
  | ((with_reducible apply t_lst0); (focus walk_at "zh"); intro _ _ _ _ _ _ _)
  | ((with_reducible apply t_lst); (focus walk_at "zh"); (focus walk_at "od"); intro _ _ _ _ _ _)
  | ((with_reducible apply drawT); (focus walk_at "hd"); (focus walk_at "od"); (focus walk_at "od"); (focus walk_at "od"); intro _ _ _ _ _ _ _)
  | ((with_reducible apply farT); (focus walk_at "hd"); (focus walk_at "od"); (focus walk_at "od"); (focus walk_at "od"); intro _ _ _ _ _ _ _)
  | ((with_reducible apply keyT); (focus walk_at "hd"); (focus walk_at "od"); intro _ _ _ _ _ _ _)
  | ((with_reducible apply thingT); (focus walk_at "hd"); (focus walk_at "od"); intro _ _ _ _ _)
  | ((with_reducible apply t_rg); (focus walk_at "zh"); (focus omega); intro _ _ _ _ _ _)
  | ((with_reducible apply s_sum); (focus walk_at "sq")) | ((with_reducible apply s_all); (focus walk_at "sq")) | ((with_reducible apply s_any); (focus walk_at "sq"))
  | ((with_reducible apply s_maxL); (focus walk_at "sq"); (focus walk_at "len")) | ((with_reducible apply s_minL); (focus walk_at "sq"); (focus walk_at "len"))
  | ((with_reducible apply t_sorted); (focus walk_at "zh"); (focus walk_at "sq"); intro _ _ _ _ _ _)
  | ((with_reducible apply t_cat); (focus walk_at "zh"); (focus walk_at "li"); (focus walk_at "li"); (focus walk_at "len"); intro _ _ _ _ _ _)
  | ((with_reducible apply t_slIs); (focus walk_at "zh"); (focus walk_at "izc"); intro _ _ _ _ _ _)
  | ((with_reducible apply t_slLi); (focus walk_at "zh"); (focus walk_at "li"); intro _ _ _ _ _ _)
  | (with_reducible apply s_rev) | ((with_reducible apply t_rev); (focus walk_at "zh"); (focus walk_at "izc"); intro _ _ _ _ _ _)
  | ((with_reducible apply t_list); (focus walk_at "zh"); (focus walk_at "izc"); intro _ _ _ _ _ _)
  | ((with_reducible apply t_len); (focus walk_at "zh"); (focus walk_at "izc"))
  | ((with_reducible apply t_lenLi); (focus walk_at "li"))
  | ((with_reducible apply s_lenM); (focus walk_at "sq")) | ((with_reducible apply s_lenL); (focus walk_at "sq")) | ((with_reducible apply s_lenT); (focus walk_at "st"))
  | ((with_reducible apply s_gt2); (focus walk_at "st")) | ((with_reducible apply s_gt3); (focus walk_at "st")) | ((with_reducible apply s_gt4); (focus walk_at "st"))
  | (with_reducible apply s_isN0) | (with_reducible apply s_isN1) | (with_reducible apply s_isN2) | (with_reducible apply s_isN3) | (with_reducible apply s_notN0) | (with_reducible apply s_notN1) | (with_reducible apply s_notN2) | (with_reducible apply s_notN3)
  | (with_reducible apply s_max2) | (with_reducible apply s_min2) | (with_reducible apply s_abs) | (with_reducible apply s_int1) | (with_reducible apply s_int1b)
  | ((with_reducible apply s_isiI); (focus walk_at "kit")) | ((with_reducible apply s_isiB); (focus walk_at "kit")) | ((with_reducible apply s_isiS); (focus walk_at "kit")) | ((with_reducible apply s_isiN); (focus walk_at "kit"))
  | ((with_reducible apply s_isiT); (focus walk_at "st"); (focus walk_at "kit")) | ((with_reducible apply s_isiL); (focus walk_at "sq"); (focus walk_at "kit"))
  | ((with_reducible apply s_index); (focus walk_at "sq"); (focus assumption); intro _ _ _) | ((with_reducible apply s_niL); (focus walk_at "sq")) | ((with_reducible apply s_inL); (focus walk_at "sq")) | ((with_reducible apply s_niT); (focus walk_at "st")) | ((with_reducible apply s_inT); (focus walk_at "st"))
  | ((with_reducible apply s_tyL); (focus walk_at "sq"))
  | ((with_reducible apply s_aug); (focus rfl))
  | ((with_reducible apply ixGo); (focus walk_at "sq"); walk_at "ig") | ((with_reducible apply ixGoT); (focus walk_at "st"); walk_at "ig")
  | (with_reducible apply i_t) | (with_reducible apply i_f) | (with_reducible apply i_nt) | (with_reducible apply i_nf)
  | ((with_reducible apply i_dt); (focus (first | trivial | assumption | omega | rfl))) | ((with_reducible apply i_df); (focus (first | assumption | omega | exact (fun h => h rfl)))) | ((with_reducible apply i_ndt); (focus (first | trivial | assumption | omega | rfl))) | ((with_reducible apply i_ndf); (focus (first | assumption | omega | exact (fun h => h rfl)))))
local macro_rules | `(tactic| walk_at "ts") => `(tactic| ((try dsimp only); (repeat walk_at "t")))

namespace Lw
open PySem L2 TR
open PySem.Spec PyProof.Rows

/-! ### the text -/
def topS (i : Nat) : Stmt := PySem.Challenge.pw_tailrooms_k15_stays.main.body.getD i (.Pass ⟨0, 0, 0, 0⟩)

structure Z (mg : Str → Option Value) : Prop where
  b_range : mg "range" = none
  b_len : mg "len" = none
  b_isinstance : mg "isinstance" = none
  b_bool : mg "bool" = none
  b_tuple : mg "tuple" = none
  b_abs : mg "abs" = none
  b_max : mg "max" = none
  b_min : mg "min" = none
  c_BITS : ∃ t, mg "BITS" = some (.int 60 t)

abbrev s_law_power : Stmt := topS 8

theorem sc_law_power : FnScope ["_law_many", "_law_number", "_law_k"] ["_law_many"] (defScope s_law_power) := ⟨rfl, rfl, rfl, by decide +kernel, rfl, by decide +kernel, by decide +kernel⟩

abbrev s_law_deep : Stmt := topS 10

theorem sc_law_deep : FnScope ["_law_rooms", "_law_many"] ["_law_rooms"] (defScope s_law_deep) := ⟨rfl, rfl, rfl, by decide +kernel, rfl, by decide +kernel, by decide +kernel⟩

abbrev s_law_room : Stmt := topS 11

theorem sc_law_room : FnScope ["_law_one", "_law_rooms", "_law_whole", "_law_low"] ["_law_one", "_law_rooms"] (defScope s_law_room) := ⟨rfl, rfl, rfl, by decide +kernel, rfl, by decide +kernel, by decide +kernel⟩

abbrev s_law_walk_right : Stmt := topS 14

theorem sc_law_walk_right : FnScope ["_law_one", "_law_room_here", "_law_due_here", "_law_rooms", "_law_here"] ["_law_one", "_law_room_here", "_law_due_here"] (defScope s_law_walk_right) := ⟨rfl, rfl, rfl, by decide +kernel, rfl, by decide +kernel, by decide +kernel⟩

abbrev s_rooms_in_turn : Stmt := topS 2

theorem sc_rooms_in_turn : FnScope ["key", "found", "place", "k"] ["key"] (defScope s_rooms_in_turn) := ⟨rfl, rfl, rfl, by decide +kernel, rfl, by decide +kernel, by decide +kernel⟩

abbrev s_stay : Stmt := topS 3

theorem sc_stay : FnScope ["key", "room", "rooms", "at"] ["key", "room"] (defScope s_stay) := ⟨rfl, rfl, rfl, by decide +kernel, rfl, by decide +kernel, by decide +kernel⟩

abbrev s_law_all : Stmt := topS 12

theorem sc_law_all : FnScope ["_law_one", "_law_told", "_law_k"] ["_law_one"] (defScope s_law_all) := ⟨rfl, rfl, rfl, by decide +kernel, rfl, by decide +kernel, by decide +kernel⟩

abbrev s_law_due : Stmt := topS 13

theorem sc_law_due : FnScope ["_law_one", "_law_room_here", "_law_some", "_law_at"] ["_law_one", "_law_room_here"] (defScope s_law_due) := ⟨rfl, rfl, rfl, by decide +kernel, rfl, by decide +kernel, by decide +kernel⟩

abbrev s_law_right : Stmt := topS 15

theorem sc_law_right : FnScope ["_law_one", "_law_room_here", "_law_due_here", "_law_k", "_law_told"] ["_law_one", "_law_room_here"] (defScope s_law_right) := ⟨rfl, rfl, rfl, by decide +kernel, rfl, by decide +kernel, by decide +kernel⟩

abbrev s_law_draw : Stmt := topS 6

theorem sc_law_draw : FnScope ["_law_hand", "_law_many", "_law_got", "_law_k", "_law_number"] ["_law_hand", "_law_many"] (defScope s_law_draw) := ⟨rfl, rfl, rfl, by decide +kernel, rfl, by decide +kernel, by decide +kernel⟩

abbrev s_law_far : Stmt := topS 7

theorem sc_law_far : FnScope ["_law_hand", "_law_many", "_law_number", "_law_k"] ["_law_hand", "_law_many"] (defScope s_law_far) := ⟨rfl, rfl, rfl, by decide +kernel, rfl, by decide +kernel, by decide +kernel⟩

abbrev s_law_key : Stmt := topS 9

theorem sc_law_key : FnScope ["_law_hand", "_law_way", "_law_low"] ["_law_hand"] (defScope s_law_key) := ⟨rfl, rfl, rfl, by decide +kernel, rfl, by decide +kernel, by decide +kernel⟩

abbrev s_law_open : Stmt := topS 5

theorem sc_law_open : FnScope ["_law_script", "_law_place", "_law_cells", "_law_at", "_law_digits", "_law_cell"] ["_law_script", "_law_place"] (defScope s_law_open) := ⟨rfl, rfl, rfl, by decide +kernel, rfl, by decide +kernel, by decide +kernel⟩

abbrev s_law : Stmt := topS 16

theorem sc_law : FnScope ["_law_script", "_law_place", "_law_hand", "_law_one", "_law_some", "_law_near", "_law_room_here", "_law_few"] ["_law_script"] (defScope s_law) := ⟨rfl, rfl, rfl, by decide +kernel, rfl, by decide +kernel, by decide +kernel⟩

section
variable {P : Program} {w : World} {K : PySem.W.Frag} {mg : Str → Option Value} {base : Heap}

/-! ### _law_power -/
def sp_law_power (K : PySem.W.Frag) : Sp := fun vs H Q _ => ∃ n : Int, vs = [.int n] ∧ 0 ≤ n ∧ n ≤ 1000 ∧ Q (.int (2 ^ n.toNat)) H
theorem has_law_power (z : Z mg) (F : FunAt K mg "_law_power" s_law_power ["_law_many"])  : Has P w K mg base "_law_power" 1 (sp_law_power K) := by
  refine has_of F sc_law_power (fun vs H Q E h => ?_) (fun f cdv A outer s H vs Q E hr h => ?_)
  · obtain ⟨n, rfl, _⟩ := h
    rfl
  · obtain ⟨n, rfl, h0, h1, q⟩ := h
    refine ⟨_, (pss_cons (ps_set (i := 1) sc_law_power.nd rfl (by first | exact Or.inl rfl | exact Or.inr rfl) pe_int)
        (pss_cons (ps_for PassesOwn.never rfl (pi_range1 (by rfl) z.b_range (pa_cons (pv 0) pa_nil)) (pg_name (i := 2) sc_law_power.nd rfl (by first | exact Or.inl rfl | exact Or.inr rfl)) (pss_one (ps_set (i := 1) sc_law_power.nd rfl (by first | exact Or.inl rfl | exact Or.inr rfl) (pe_op op_multA (pv 1) pe_int))))
        (pss_one (ps_ret (pv 1))))), ?_⟩
    walk_at "cx"
    walk_at "ss"
    refine u_forR1 (fun i σ H' => ∃ x, σ = [some (.int n), some (.int (2 ^ i)), x] ∧ H' = H) (by omega) ⟨_, rfl, rfl⟩ (fun i σ H' hi hh => ?_) (fun σ H' hh => ?_)
    · obtain ⟨x, rfl, rfl⟩ := hh
      walk_at "ss"
      exact ⟨_, by rw [Int.pow_succ]; rfl, rfl⟩
    · obtain ⟨x, rfl, rfl⟩ := hh
      walk_at "ss"
      exact q

/-! ### _law_deep -/
def sp_law_deep (K : PySem.W.Frag) : Sp := fun vs H Q _ => ∃ r : Int, vs = [.int r] ∧ 1 ≤ r ∧ r ≤ 1152921504606846976 ∧ Q (.int (lev r : Nat)) H
theorem has_law_deep (z : Z mg) (F : FunAt K mg "_law_deep" s_law_deep ["_law_rooms"]) (h_law_power : Has P w K mg base "_law_power" 1 (sp_law_power K)) : Has P w K mg base "_law_deep" 2 (sp_law_deep K) := by
  refine has_of F sc_law_deep (fun vs H Q E h => ?_) (fun f cdv A outer s H vs Q E hr h => ?_)
  · obtain ⟨r, rfl, _⟩ := h
    rfl
  · obtain ⟨r, rfl, h0, h1, q⟩ := h
    refine ⟨_, (pss_cons (ps_set (i := 1) sc_law_deep.nd rfl (by first | exact Or.inl rfl | exact Or.inr rfl) pe_int)
        (pss_cons (ps_while PassesOwn.never (pt_cmpR op_le (pe_op op_multA pe_int (pe_callH h_law_power (by decide) hr rfl (pa_cons (pv 1) pa_nil))) (pv 0) (nomark _)) (pss_one (ps_set (i := 1) sc_law_deep.nd rfl (by first | exact Or.inl rfl | exact Or.inr rfl) (pe_op op_plusA (pv 1) pe_int))))
        (pss_one (ps_ret (pv 1))))), ?_⟩
    walk_at "cx"
    walk_at "ss"
    refine u_while (fun m σ H' => ∃ k : Nat, σ = [some (.int r), some (.int k)] ∧ H' = H ∧ (2 : Int) ^ k ≤ r ∧ m = (r - 2 ^ k).toNat) (r - 1).toNat ⟨0, rfl, rfl, h0, rfl⟩ (fun m σ H' hh => ?_)
    obtain ⟨k, rfl, rfl, hk, rfl⟩ := hh
    have hp := two_pos k
    have hk60 : k ≤ 60 := by
      have := two_lt (show (2 : Int) ^ k < 2 ^ 61 by have e : (2 : Int) ^ 61 = 2305843009213693952 := by decide
                                                     omega)
      omega
    have e1 : ((k : Int)).toNat = k := by omega
    walk_at "ss"
    refine ⟨_, rfl, by omega, by omega, ?_⟩
    rw [e1]
    walk_at "ss"
    refine i_d (fun hd => ?_) (fun hd => ?_)
    · refine w_body ?_
      walk_at "ss"
      exact ⟨(r - 2 ^ (k + 1)).toNat, by rw [two_succ]; omega, k + 1, rfl, rfl, by rw [two_succ]; omega, rfl⟩
    · walk_at "ss"
      rw [lev_unique hk (by omega)] at q
      exact q

/-! ### _law_room -/
def sp_law_room (K : PySem.W.Frag) : Sp := fun vs H Q _ => ∃ c r : Int, vs = [.int c, .int r] ∧ 1 ≤ r ∧ r ≤ 1152921504606846976 ∧ Q (.int (roomOf c r)) H
theorem has_law_room (z : Z mg) (F : FunAt K mg "_law_room" s_law_room ["_law_one", "_law_rooms"]) (h_law_power : Has P w K mg base "_law_power" 1 (sp_law_power K)) (h_law_deep : Has P w K mg base "_law_deep" 2 (sp_law_deep K)) : Has P w K mg base "_law_room" 3 (sp_law_room K) := by
  refine has_of F sc_law_room (fun vs H Q E h => ?_) (fun f cdv A outer s H vs Q E hr h => ?_)
  · obtain ⟨c, r, rfl, _⟩ := h
    rfl
  · obtain ⟨c, r, rfl, h0, h1, q⟩ := h
    refine ⟨_, (pss_cons (ps_set (i := 2) sc_law_room.nd rfl (by first | exact Or.inl rfl | exact Or.inr rfl) (pe_callH h_law_power (by decide) hr rfl (pa_cons (pe_callH h_law_deep (by decide) hr rfl (pa_cons (pv 1) pa_nil)) pa_nil)))
        (pss_cons (ps_set (i := 3) sc_law_room.nd rfl (by first | exact Or.inl rfl | exact Or.inr rfl) (pe_op op_mod (pv 0) (pv 2)))
        (pss_cons (ps_if (pt_cmpR op_ge (pv 3) (pe_op op_sub (pv 1) (pv 2)) (nomark _)) (pss_one (ps_ret (pv 3))) pss_nil)
        (pss_one (ps_ret (pe_op op_mod (pv 0) (pe_op op_multA pe_int (pv 2)))))))), ?_⟩
    walk_at "cx"
    walk_at "ss"
    refine ⟨_, rfl, h0, h1, ?_⟩
    have hl := lev_le60 h0 h1
    walk_at "ss"
    refine ⟨_, rfl, by omega, by omega, ?_⟩
    have e1 : ((lev r : Nat) : Int).toNat = lev r := by omega
    obtain ⟨a1, a2, a3⟩ := whole_spec h0
    have e2 : (2 : Int) ^ lev r = whole r := rfl
    rw [e1, e2]
    unfold roomOf at q
    walk_at "ss"
    refine i_d (fun hd => ?_) (fun hd => ?_)
    · rw [if_neg (by omega)] at q
      walk_at "ss"
      exact q
    · rw [if_pos (by omega)] at q
      walk_at "ss"
      exact q

/-! ### _law_walk_right -/
def sp_law_walk_right (K : PySem.W.Frag) : Sp := fun vs H Q _ => ∃ (x m : Int) (v : V), vs = [.int x, .int m, v] ∧ 0 ≤ x ∧ x < 1152921504606846976 ∧ (m ∉ turnsN x 60 ∧ v = .non ∨ ∃ p, m ∈ turnsN x 60 ∧ v = .ref p ∧ SqT K H p [.int (m + 1), optV (nxt (turnsN x 60) m)]) ∧ Q (.bl true) H
theorem here_iff {x r m : Int} {t : Option Int} (h0 : 0 ≤ x) (h1 : x < 1152921504606846976) (hr : 1 ≤ r) (hr2 : r ≤ 1152921504606846976) (hm : m ∈ turnsN x 60) (ht : nxt (turnsN x 60) m = t) :
    roomOf x r = m ↔ m + 1 ≤ r ∧ ∀ s, t = some s → r < s := by
  rw [← stay_iff h0 h1 hr hr2, ht]
  exact ⟨fun ⟨_, b⟩ => b, fun b => ⟨hm, b⟩⟩
theorem has_law_walk_right (z : Z mg) (F : FunAt K mg "_law_walk_right" s_law_walk_right ["_law_one", "_law_room_here", "_law_due_here"]) (h_law_room : Has P w K mg base "_law_room" 3 (sp_law_room K)) : Has P w K mg base "_law_walk_right" 4 (sp_law_walk_right K) := by
  refine has_of F sc_law_walk_right (fun vs H Q E h => ?_) (fun f cdv A outer s H vs Q E hr h => ?_)
  · obtain ⟨x, m, v, rfl, _⟩ := h
    rfl
  · obtain ⟨x, m, v, rfl, x0, x1, hv, q⟩ := h
    refine ⟨_, (pss_cons (ps_for PassesOwn.never rfl (pi_range2 (by rfl) z.b_range (pa_cons pe_int (pa_cons pe_int pa_nil))) (pg_name (i := 3) sc_law_walk_right.nd rfl (by first | exact Or.inl rfl | exact Or.inr rfl)) (pss_cons (ps_set (i := 4) sc_law_walk_right.nd rfl (by first | exact Or.inl rfl | exact Or.inr rfl) (pe_and (pe_cmpR op_notNA (pv 2) pe_non (nomark _)) (pe_and (pe_cmpR op_le (pe_ix (ixA (K := K) rfl) (pv 2) pe_int (fun _ _ => rfl)) (pv 3) (nomark _)) (pe_one (pe_or (pe_cmpR op_isNA (pe_ix (ixA (K := K) rfl) (pv 2) pe_int (fun _ _ => rfl)) pe_non (nomark _)) (pe_one (pe_cmpR op_lt (pv 3) (pe_ix (ixA (K := K) rfl) (pv 2) pe_int (fun _ _ => rfl)) (nomark _))))))))
        (pss_one (ps_if (pt_cmpR (neA (K := K) rfl hr.units) (pv 4) (pe_cmpR (eqA (K := K) rfl hr.units) (pe_callH h_law_room (by decide) hr rfl (pa_cons (pv 0) (pa_cons (pv 3) pa_nil))) (pv 1) (nomark _)) (nomark _)) (pss_one (ps_ret pe_bl)) pss_nil))))
        (pss_one (ps_ret pe_bl))), ?_⟩
    walk_at "cx"
    walk_at "ss"
    refine u_forR2 (fun i σ H' => ∃ y z, σ = [some (.int x), some (.int m), some v, y, z] ∧ H' = H) (by decide) ⟨_, _, rfl, rfl⟩ (fun i σ H' hi hh => ?_) (fun σ H' hh => ?_)
    · obtain ⟨y, z, rfl, rfl⟩ := hh
      walk_at "ss"
      rcases hv with ⟨hm, rfl⟩ | ⟨p, hm, rfl, hp⟩
      · walk_at "ss"
        refine ⟨_, _, rfl, by omega, by omega, ?_⟩
        have g : roomOf x (1 + (i : Int)) ≠ m := fun z => hm (by rw [← z]; exact (roomOf_max x0 x1 (by omega) (by omega)).1)
        walk_at "ss"
        refine i_df (by rw [decide_eq_false g]; decide) ?_
        walk_at "ss"
        exact ⟨_, _, rfl, rfl⟩
      · have key : ∀ t, nxt (turnsN x 60) m = t → (roomOf x (1 + (i : Int)) = m ↔ m + 1 ≤ 1 + (i : Int) ∧ ∀ s, t = some s → 1 + (i : Int) < s) := fun t ht => here_iff x0 x1 (by omega) (by omega) hm ht
        rcases ht : nxt (turnsN x 60) m with _ | t
        · have k2 := key none ht
          rw [ht] at hp
          dsimp only [optV] at hp
          walk_at "ss"
          refine i_d (fun ha => ?_) (fun ha => ?_)
          · walk_at "ss"
            refine ⟨_, _, rfl, by omega, by omega, ?_⟩
            walk_at "ss"
            refine i_df (by rw [decide_eq_true (k2.mpr ⟨ha, fun s z => nomatch z⟩)]; decide) ?_
            walk_at "ss"
            exact ⟨_, _, rfl, rfl⟩
          · walk_at "ss"
            refine ⟨_, _, rfl, by omega, by omega, ?_⟩
            walk_at "ss"
            refine i_df (by rw [decide_eq_false (fun z => ha (k2.mp z).1)]; decide) ?_
            walk_at "ss"
            exact ⟨_, _, rfl, rfl⟩
        · have k2 := key (some t) ht
          rw [ht] at hp
          dsimp only [optV] at hp
          walk_at "ss"
          refine i_d (fun ha => ?_) (fun ha => ?_)
          · walk_at "ss"
            refine ⟨_, _, rfl, by omega, by omega, ?_⟩
            have k3 : decide (roomOf x (1 + (i : Int)) = m) = decide (1 + (i : Int) < t) := decide_eq_decide.mpr ⟨fun z => (k2.mp z).2 t rfl, fun z => k2.mpr ⟨ha, fun s w => by cases w; exact z⟩⟩
            walk_at "ss"
            refine i_df (by rw [k3]; exact fun z => z rfl) ?_
            walk_at "ss"
            exact ⟨_, _, rfl, rfl⟩
          · walk_at "ss"
            refine ⟨_, _, rfl, by omega, by omega, ?_⟩
            walk_at "ss"
            refine i_df (by rw [decide_eq_false (fun z => ha (k2.mp z).1)]; decide) ?_
            walk_at "ss"
            exact ⟨_, _, rfl, rfl⟩
    · obtain ⟨y, z, rfl, rfl⟩ := hh
      walk_at "ss"
      exact q

/-! ### rooms_in_turn -/
def sp_rooms_in_turn (K : PySem.W.Frag) : Sp := fun vs H Q _ => ∃ x : Int, vs = [.int x] ∧ ∀ p H', H p = none → Ex H H' → H' p = some (.lst ((turnsN x 60).map V.int)) → Q (.ref p) H'
theorem has_rooms_in_turn (z : Z mg) (F : FunAt K mg "rooms_in_turn" s_rooms_in_turn ["key"])  : Has P w K mg base "rooms_in_turn" 1 (sp_rooms_in_turn K) := by
  refine has_of F sc_rooms_in_turn (fun vs H Q E h => ?_) (fun f cdv A outer s H vs Q E hr h => ?_)
  · obtain ⟨n, rfl, _⟩ := h
    rfl
  · obtain ⟨x, rfl, q⟩ := h
    refine ⟨_, (pss_cons (ps_set (i := 1) sc_rooms_in_turn.nd rfl (by first | exact Or.inl rfl | exact Or.inr rfl) (pe_lst (pa_cons pe_int pa_nil)))
        (pss_cons (ps_set (i := 2) sc_rooms_in_turn.nd rfl (by first | exact Or.inl rfl | exact Or.inr rfl) pe_int)
        (pss_cons (ps_for PassesOwn.never rfl (pi_range1 (by rfl) z.b_range (pa_cons (pe_constI z.c_BITS rfl) pa_nil)) (pg_name (i := 3) sc_rooms_in_turn.nd rfl (by first | exact Or.inl rfl | exact Or.inr rfl)) (pss_cons (ps_if (pt_cmpR (eqA (K := K) rfl hr.units) (pe_op op_mod (pe_op op_fdivW (pv 0) (pv 2)) pe_int) pe_int (nomark _)) (pss_one (ps_expr (pe_bm PySem.F.plainAttrs_list PySem.F.slot_list_append PySem.F.type_list_append mt_append (pv 1) (pa_cons (pe_op op_mod (pv 0) (pe_op op_multA pe_int (pv 2))) pa_nil)))) pss_nil)
        (pss_one (ps_set (i := 2) sc_rooms_in_turn.nd rfl (by first | exact Or.inl rfl | exact Or.inr rfl) (pe_op op_multA (pv 2) pe_int)))))
        (pss_one (ps_ret (pv 1)))))), ?_⟩
    walk_at "cx"
    walk_at "ss"
    refine u_forR1 (fun i σ H' => ∃ (p : Addr) (y : Option V), σ = [some (.int x), some (.ref p), some (.int (2 ^ i)), y] ∧ Ex H H' ∧ H p = none ∧ H' p = some (.lst ((turnsN x i).map V.int))) (by decide) ⟨_, _, rfl, by walk_at "ex", by assumption, by assumption⟩ (fun i σ H' hi hh => ?_) (fun σ H' hh => ?_)
    · obtain ⟨p, y, rfl, e1, n1, f1⟩ := hh
      have q1 := two_pos i
      have q2 := two_le60 (show i ≤ 60 by omega)
      have q3 : x % 2 ^ (i + 1) = x % (2 * 2 ^ i) := by rw [two_succ]
      have q4 := turns_len x i
      have q5 : (2 : Int) ^ (i + 1) = 2 ^ i * 2 := Int.pow_succ _ _
      walk_at "ss"
      refine i_d (fun hd => ?_) (fun hd => ?_)
      · walk_at "ss"
        refine n_app f1 (by rw [List.length_map]; omega) fun H2 m2 f2 => ?_
        walk_at "ss"
        refine ⟨p, _, by rw [q5]; rfl, e1.exm n1 m2, n1, ?_⟩
        have e : turnsN x (i + 1) = turnsN x i ++ [x % 2 ^ (i + 1)] := if_pos hd
        rw [f2, e, q3, List.map_append]
        rfl
      · walk_at "ss"
        refine ⟨p, _, by rw [q5]; rfl, e1, n1, ?_⟩
        rw [f1]
        have : turnsN x (i + 1) = turnsN x i := if_neg hd
        rw [this]
    · obtain ⟨p, y, rfl, e1, n1, f1⟩ := hh
      walk_at "ss"
      exact q p _ n1 e1 f1

/-! ### stay -/
def sp_stay (K : PySem.W.Frag) : Sp := fun vs H Q _ => ∃ x m : Int, vs = [.int x, .int m] ∧ (m ∉ turnsN x 60 → ∀ H', Ex H H' → Q .non H') ∧
  (m ∈ turnsN x 60 → ∀ p H', H p = none → Ex H H' → H' p = some (.tup [.int (m + 1), optV (nxt (turnsN x 60) m)]) → Q (.ref p) H')
theorem has_stay (z : Z mg) (F : FunAt K mg "stay" s_stay ["key", "room"]) (h_rooms_in_turn : Has P w K mg base "rooms_in_turn" 1 (sp_rooms_in_turn K)) : Has P w K mg base "stay" 2 (sp_stay K) := by
  refine has_of F sc_stay (fun vs H Q E h => ?_) (fun f cdv A outer s H vs Q E hr h => ?_)
  · obtain ⟨x, m, rfl, _⟩ := h
    rfl
  · obtain ⟨x, m, rfl, q0, q1⟩ := h
    refine ⟨_, (pss_cons (ps_set (i := 2) sc_stay.nd rfl (by first | exact Or.inl rfl | exact Or.inr rfl) (pe_callH h_rooms_in_turn (by decide) hr rfl (pa_cons (pv 0) pa_nil)))
        (pss_cons (ps_if (pt_cmpR (niA (K := K) rfl) (pv 1) (pv 2) (by rfl)) (pss_one (ps_ret pe_non)) pss_nil)
        (pss_cons (ps_set (i := 3) sc_stay.nd rfl (by first | exact Or.inl rfl | exact Or.inr rfl) (pe_bm PySem.F.plainAttrs_list PySem.F.slot_list_index PySem.F.type_list_index (indexA (K := K) rfl) (pv 2) (pa_cons (pv 1) pa_nil)))
        (pss_cons (ps_if (pt_cmpR (eqA (K := K) rfl hr.units) (pv 3) (pe_op op_sub (pe_callB (id := "len") (lenA (K := K) rfl) (by rfl) z.b_len (by decide +kernel) (pa_cons (pv 2) pa_nil)) pe_int) (nomark _)) (pss_one (ps_ret (pe_tup (pa_cons (pe_op op_plusA (pv 1) pe_int) (pa_cons pe_non pa_nil))))) pss_nil)
        (pss_one (ps_ret (pe_tup (pa_cons (pe_op op_plusA (pv 1) pe_int) (pa_cons (pe_op op_plusA (pe_ix (ixA (K := K) rfl) (pv 2) (pe_op op_plusA (pv 3) pe_int) (fun _ _ => rfl)) pe_int) pa_nil))))))))), ?_⟩
    walk_at "cx"
    walk_at "ss"
    refine ⟨_, rfl, fun p1 H1 n1 e1 f1 => ?_⟩
    walk_at "ss"
    refine i_d (fun hd => ?_) (fun hd => ?_)
    · walk_at "ss"
      exact q0 hd _ e1
    have hm := Decidable.not_not.mp hd
    have hl := turns_len x 60
    walk_at "ss"
    rename_i j hj hf
    have fn := find_next (turns_sorted x 60) hj
    have jl := (List.getElem?_eq_some_iff.mp hj).1
    refine i_d (fun hd => ?_) (fun hd => ?_)
    · rw [List.getElem?_eq_none (by omega)] at fn
      walk_at "ss"
      rename_i p2 H2 n2 e2 f2
      refine q1 hm p2 H2 (Ex.back e1 n2) (e1.trans e2) ?_
      rw [f2]
      unfold nxt
      rw [fn]
      rfl
    · walk_at "ss"
      rename_i v hv p2 H2 n2 e2 f2
      rw [show ((j : Int) + 1).toNat = j + 1 by omega] at hv
      refine q1 hm p2 H2 (Ex.back e1 n2) (e1.trans e2) ?_
      rw [f2]
      unfold nxt
      rw [fn, hv]
      rfl

/-! ### _law_all -/
def sp_law_all (K : PySem.W.Frag) : Sp := fun vs H Q _ => ∃ x : Int, vs = [.int x] ∧ ∀ p H', H p = none → Ex H H' → H' p = some (.lst ((turnsN x 60).map V.int)) → Q (.ref p) H'
theorem has_law_all (z : Z mg) (F : FunAt K mg "_law_all" s_law_all ["_law_one"]) (h_law_power : Has P w K mg base "_law_power" 1 (sp_law_power K)) : Has P w K mg base "_law_all" 2 (sp_law_all K) := by
  refine has_of F sc_law_all (fun vs H Q E h => ?_) (fun f cdv A outer s H vs Q E hr h => ?_)
  · obtain ⟨n, rfl, _⟩ := h
    rfl
  · obtain ⟨x, rfl, q⟩ := h
    refine ⟨_, (pss_cons (ps_set (i := 1) sc_law_all.nd rfl (by first | exact Or.inl rfl | exact Or.inr rfl) (pe_lst (pa_cons pe_int pa_nil)))
        (pss_cons (ps_for PassesOwn.never rfl (pi_range1 (by rfl) z.b_range (pa_cons pe_int pa_nil)) (pg_name (i := 2) sc_law_all.nd rfl (by first | exact Or.inl rfl | exact Or.inr rfl)) (pss_one (ps_if (pt_cmpR (eqA (K := K) rfl hr.units) (pe_op op_mod (pe_op op_fdivW (pv 0) (pe_callH h_law_power (by decide) hr rfl (pa_cons (pv 2) pa_nil))) pe_int) pe_int (nomark _)) (pss_one (ps_expr (pe_bm PySem.F.plainAttrs_list PySem.F.slot_list_append PySem.F.type_list_append mt_append (pv 1) (pa_cons (pe_op op_mod (pv 0) (pe_callH h_law_power (by decide) hr rfl (pa_cons (pe_op op_plusA (pv 2) pe_int) pa_nil))) pa_nil)))) pss_nil)))
        (pss_one (ps_ret (pv 1))))), ?_⟩
    walk_at "cx"
    walk_at "ss"
    refine u_forR1 (fun i σ H' => ∃ (p : Addr) (y : Option V), σ = [some (.int x), some (.ref p), y] ∧ Ex H H' ∧ H p = none ∧ H' p = some (.lst ((turnsN x i).map V.int))) (by decide) ⟨_, _, rfl, by walk_at "ex", by assumption, by assumption⟩ (fun i σ H' hi hh => ?_) (fun σ H' hh => ?_)
    · obtain ⟨p, y, rfl, e1, n1, f1⟩ := hh
      have q1 := two_pos i
      have q2 := two_le60 (show i ≤ 60 by omega)
      have q4 := turns_len x i
      walk_at "ss"
      refine ⟨_, rfl, by omega, by omega, ?_⟩
      rw [show ((i : Int)).toNat = i by omega]
      walk_at "ss"
      refine i_d (fun hd => ?_) (fun hd => ?_)
      · have q7 := two_pos (i + 1)
        walk_at "ss"
        refine ⟨_, rfl, by omega, by omega, ?_⟩
        rw [show ((i : Int) + 1).toNat = i + 1 by omega]
        walk_at "ss"
        refine n_app f1 (by rw [List.length_map]; omega) fun H2 m2 f2 => ?_
        walk_at "ss"
        refine ⟨p, _, rfl, e1.exm n1 m2, n1, ?_⟩
        have e : turnsN x (i + 1) = turnsN x i ++ [x % 2 ^ (i + 1)] := if_pos hd
        rw [f2, e, List.map_append]
        rfl
      · walk_at "ss"
        refine ⟨p, _, rfl, e1, n1, ?_⟩
        rw [f1]
        have : turnsN x (i + 1) = turnsN x i := if_neg hd
        rw [this]
    · obtain ⟨p, y, rfl, e1, n1, f1⟩ := hh
      walk_at "ss"
      exact q p _ n1 e1 f1

/-! ### _law_due -/
def sp_law_due (K : PySem.W.Frag) : Sp := fun vs H Q _ => ∃ x m : Int, vs = [.int x, .int m] ∧ (m ∉ turnsN x 60 → ∀ H', Ex H H' → Q .non H') ∧
  (m ∈ turnsN x 60 → ∀ p H', H p = none → Ex H H' → H' p = some (.tup [.int (m + 1), optV (nxt (turnsN x 60) m)]) → Q (.ref p) H')
theorem has_law_due (z : Z mg) (F : FunAt K mg "_law_due" s_law_due ["_law_one", "_law_room_here"]) (h_law_all : Has P w K mg base "_law_all" 2 (sp_law_all K)) : Has P w K mg base "_law_due" 3 (sp_law_due K) := by
  refine has_of F sc_law_due (fun vs H Q E h => ?_) (fun f cdv A outer s H vs Q E hr h => ?_)
  · obtain ⟨x, m, rfl, _⟩ := h
    rfl
  · obtain ⟨x, m, rfl, q0, q1⟩ := h
    refine ⟨_, (pss_cons (ps_set (i := 2) sc_law_due.nd rfl (by first | exact Or.inl rfl | exact Or.inr rfl) (pe_callH h_law_all (by decide) hr rfl (pa_cons (pv 0) pa_nil)))
        (pss_cons (ps_if (pt_cmpR (niA (K := K) rfl) (pv 1) (pv 2) (by rfl)) (pss_one (ps_ret pe_non)) pss_nil)
        (pss_cons (ps_set (i := 3) sc_law_due.nd rfl (by first | exact Or.inl rfl | exact Or.inr rfl) (pe_bm PySem.F.plainAttrs_list PySem.F.slot_list_index PySem.F.type_list_index (indexA (K := K) rfl) (pv 2) (pa_cons (pv 1) pa_nil)))
        (pss_cons (ps_if (pt_cmpR (eqA (K := K) rfl hr.units) (pe_op op_plusA (pv 3) pe_int) (pe_callB (id := "len") (lenA (K := K) rfl) (by rfl) z.b_len (by decide +kernel) (pa_cons (pv 2) pa_nil)) (nomark _)) (pss_one (ps_ret (pe_tup (pa_cons (pe_op op_plusA (pv 1) pe_int) (pa_cons pe_non pa_nil))))) pss_nil)
        (pss_one (ps_ret (pe_tup (pa_cons (pe_op op_plusA (pv 1) pe_int) (pa_cons (pe_op op_plusA (pe_ix (ixA (K := K) rfl) (pv 2) (pe_op op_plusA (pv 3) pe_int) (fun _ _ => rfl)) pe_int) pa_nil))))))))), ?_⟩
    walk_at "cx"
    walk_at "ss"
    refine ⟨_, rfl, fun p1 H1 n1 e1 f1 => ?_⟩
    walk_at "ss"
    refine i_d (fun hd => ?_) (fun hd => ?_)
    · walk_at "ss"
      exact q0 hd _ e1
    have hm := Decidable.not_not.mp hd
    have hl := turns_len x 60
    walk_at "ss"
    rename_i j hj hf
    have fn := find_next (turns_sorted x 60) hj
    have jl := (List.getElem?_eq_some_iff.mp hj).1
    refine i_d (fun hd => ?_) (fun hd => ?_)
    · rw [List.getElem?_eq_none (by omega)] at fn
      walk_at "ss"
      rename_i p2 H2 n2 e2 f2
      refine q1 hm p2 H2 (Ex.back e1 n2) (e1.trans e2) ?_
      rw [f2]
      unfold nxt
      rw [fn]
      rfl
    · walk_at "ss"
      rename_i v hv p2 H2 n2 e2 f2
      rw [show ((j : Int) + 1).toNat = j + 1 by omega] at hv
      refine q1 hm p2 H2 (Ex.back e1 n2) (e1.trans e2) ?_
      rw [f2]
      unfold nxt
      rw [fn, hv]
      rfl

/-! ### _law_right -/
def sp_law_right (K : PySem.W.Frag) : Sp := fun vs H Q _ => ∃ x m : Int, vs = [.int x, .int m] ∧ 0 ≤ x ∧ x < 1152921504606846976 ∧ ∀ H', Ex H H' → Q (.bl true) H'
theorem has_law_right (z : Z mg) (F : FunAt K mg "_law_right" s_law_right ["_law_one", "_law_room_here"]) (h_stay : Has P w K mg base "stay" 2 (sp_stay K)) (h_law_due : Has P w K mg base "_law_due" 3 (sp_law_due K)) : Has P w K mg base "_law_right" 4 (sp_law_right K) := by
  refine has_of F sc_law_right (fun vs H Q E h => ?_) (fun f cdv A outer s H vs Q E hr h => ?_)
  · obtain ⟨x, m, rfl, _⟩ := h
    rfl
  · obtain ⟨x, m, rfl, x0, x1, q⟩ := h
    refine ⟨_, (pss_cons (ps_set (i := 2) sc_law_right.nd rfl (by first | exact Or.inl rfl | exact Or.inr rfl) (pe_callH h_law_due (by decide) hr rfl (pa_cons (pv 0) (pa_cons (pv 1) pa_nil))))
        (pss_cons (ps_for PassesOwn.never rfl (pi_range1 (by rfl) z.b_range (pa_cons pe_int pa_nil)) (pg_name (i := 3) sc_law_right.nd rfl (by first | exact Or.inl rfl | exact Or.inr rfl)) (pss_cons (ps_set (i := 4) sc_law_right.nd rfl (by first | exact Or.inl rfl | exact Or.inr rfl) (pe_callH h_stay (by decide) hr rfl (pa_cons (pv 0) (pa_cons (pv 1) pa_nil))))
        (pss_cons (ps_if (PW.pt (pw_and (pt_cmpR op_isNA (pv 2) pe_non (nomark _)) (pw_and1 (pt_cmpR op_notNA (pv 4) pe_non (nomark _))))) (pss_one (ps_ret pe_bl)) pss_nil)
        (pss_one (ps_if (pt_cmpR op_notNA (pv 2) pe_non (nomark _)) (pss_cons (ps_if (PW.pt (pw_or (pt_not (pt_val (pe_callB (id := "isinstance") (isiA (K := K) rfl) (by rfl) z.b_isinstance (by decide +kernel) (pa_cons (pv 4) (pa_cons (pe_bltn (v := .ty "tuple") (by rfl) z.b_tuple (by decide +kernel) rfl) pa_nil))))) (pw_or1 (pt_cmpR (neA (K := K) rfl hr.units) (pv 4) (pv 2) (nomark _))))) (pss_one (ps_ret pe_bl)) pss_nil)
        (pss_one (ps_if (PW.pt (pw_or (pt_val (pe_callB (id := "isinstance") (isiA (K := K) rfl) (by rfl) z.b_isinstance (by decide +kernel) (pa_cons (pe_ix (ixA (K := K) rfl) (pv 4) pe_int (fun _ _ => rfl)) (pa_cons (pe_bltn (v := .ty "bool") (by rfl) z.b_bool (by decide +kernel) rfl) pa_nil)))) (pw_or1 (pt_val (pe_callB (id := "isinstance") (isiA (K := K) rfl) (by rfl) z.b_isinstance (by decide +kernel) (pa_cons (pe_ix (ixA (K := K) rfl) (pv 4) pe_int (fun _ _ => rfl)) (pa_cons (pe_bltn (v := .ty "bool") (by rfl) z.b_bool (by decide +kernel) rfl) pa_nil))))))) (pss_one (ps_ret pe_bl)) pss_nil))) pss_nil)))))
        (pss_one (ps_ret pe_bl)))), ?_⟩
    walk_at "cx"
    walk_at "ss"
    by_cases hm : m ∈ turnsN x 60
    · refine ⟨_, _, rfl, fun z => absurd hm z, fun _ p1 H1 n1 e1 f1 => ?_⟩
      walk_at "ss"
      refine u_forR1 (fun i σ H' => ∃ y z, σ = [some (.int x), some (.int m), some (.ref p1), y, z] ∧ Ex H1 H') (by decide) ⟨_, _, rfl, Ex.refl _⟩ (fun i σ H' hi hh => ?_) (fun σ H' hh => ?_)
      · obtain ⟨y, z, rfl, e2⟩ := hh
        walk_at "ss"
        refine ⟨_, _, rfl, fun z => absurd hm z, fun _ p3 H3 n3 e3 f3 => ?_⟩
        walk_at "ss"
        rcases ho : nxt (turnsN x 60) m with _ | t
        · rw [ho] at f1 f3
          dsimp only [optV] at f1 f3 ⊢
          walk_at "ss"
          exact ⟨_, _, rfl, by walk_at "ex"⟩
        · rw [ho] at f1 f3
          dsimp only [optV] at f1 f3 ⊢
          walk_at "ss"
          exact ⟨_, _, rfl, by walk_at "ex"⟩
      · obtain ⟨y, z, rfl, e2⟩ := hh
        walk_at "ss"
        exact q _ (by walk_at "ex")
    · refine ⟨_, _, rfl, fun _ H1 e1 => ?_, fun z => absurd z hm⟩
      walk_at "ss"
      refine u_forR1 (fun i σ H' => ∃ y z, σ = [some (.int x), some (.int m), some .non, y, z] ∧ Ex H1 H') (by decide) ⟨_, _, rfl, Ex.refl _⟩ (fun i σ H' hi hh => ?_) (fun σ H' hh => ?_)
      · obtain ⟨y, z, rfl, e2⟩ := hh
        walk_at "ss"
        refine ⟨_, _, rfl, fun _ H3 e3 => ?_, fun z => absurd z hm⟩
        walk_at "ss"
        exact ⟨_, _, rfl, by walk_at "ex"⟩
      · obtain ⟨y, z, rfl, e2⟩ := hh
        walk_at "ss"
        exact q _ (by walk_at "ex")

/-! ### _law_draw -/
abbrev sp_law_draw (K : PySem.W.Frag) : Sp := spDraw K
theorem has_law_draw (z : Z mg) (F : FunAt K mg "_law_draw" s_law_draw ["_law_hand", "_law_many"])  : Has P w K mg base "_law_draw" 1 (sp_law_draw K) := by
  refine has_of F sc_law_draw (fun vs H Q E h => ?_) (fun f cdv A outer s H vs Q E hr h => ?_)
  · obtain ⟨a, m, n, Z, rfl, _⟩ := h
    rfl
  · obtain ⟨a, m, n, Z, rfl, ⟨d, k, c, cells, h1, h3, h4, h5, z1, z2, z3⟩, hm0, hm1, q⟩ := h
    refine ⟨_, (pss_cons (ps_if (pt_cmpR op_gt (pe_ix (ixA (K := K) rfl) (pv 0) pe_int (fun _ _ => rfl)) pe_int (nomark _)) (pss_cons (ps_set (i := 2) sc_law_draw.nd rfl (by first | exact Or.inl rfl | exact Or.inr rfl) (pe_op op_mod (pe_ix (ixA (K := K) rfl) (pv 0) pe_int (fun _ _ => rfl)) (pv 1)))
        (pss_cons (ps_asg (pe_op op_fdivW (pe_ix (ixA (K := K) rfl) (pv 0) pe_int (fun _ _ => rfl)) (pv 1)) (pg_sub (pv 0) pe_int set_list))
        (pss_one (ps_ret (pv 2))))) pss_nil)
        (pss_cons (ps_augS (pv 0) pe_int (getA (K := K) rfl) pe_int ip_add set_list)
        (pss_cons (ps_set (i := 3) sc_law_draw.nd rfl (by first | exact Or.inl rfl | exact Or.inr rfl) (pe_ix (ixA (K := K) rfl) (pv 0) pe_int (fun _ _ => rfl)))
        (pss_cons (ps_set (i := 4) sc_law_draw.nd rfl (by first | exact Or.inl rfl | exact Or.inr rfl) (pe_op op_mod (pe_op op_plusA (pe_op op_mod (pe_ix (ixA (K := K) rfl) (pe_ix (ixA (K := K) rfl) (pv 0) pe_int (fun _ _ => rfl)) (pe_op op_mod (pv 3) (pe_callB (id := "len") (lenA (K := K) rfl) (by rfl) z.b_len (by decide +kernel) (pa_cons (pe_ix (ixA (K := K) rfl) (pv 0) pe_int (fun _ _ => rfl)) pa_nil))) (fun _ _ => rfl)) pe_int) (pe_op op_multA pe_int (pv 3))) pe_int))
        (pss_cons (ps_set (i := 4) sc_law_draw.nd rfl (by first | exact Or.inl rfl | exact Or.inr rfl) (pe_op op_mod (pe_op op_plusA (pe_op op_plusA (pe_op op_pow (pv 4) pe_int) (pe_op op_multA (pe_op op_multA pe_int (pv 3)) (pv 3))) pe_int) pe_int))
        (pss_cons (ps_set (i := 4) sc_law_draw.nd rfl (by first | exact Or.inl rfl | exact Or.inr rfl) (pe_op op_mod (pe_op op_plusA (pe_op op_multA (pe_op op_pow (pv 4) pe_int) (pe_op op_plusA (pe_op op_multA pe_int (pv 3)) pe_int)) pe_int) pe_int))
        (pss_one (ps_ret (pe_op op_mod (pe_op op_fdivW (pe_op op_mod (pe_op op_multA (pv 4) pe_int) pe_int) pe_int) (pv 1)))))))))), ?_⟩
    walk_at "cx"
    walk_at "ss"
    refine i_d (fun hd => ?_) (fun hd => ?_)
    · walk_at "ss"
      rename_i G e1 e2
      exact q _ G (Int.emod_nonneg _ (by omega)) (Int.emod_lt_of_pos _ hm0) e1 ⟨_, k, c, cells, e2, h3, h4, by omega, z1.exm z2 e1, z2, z3⟩
    · walk_at "ss"
      rename_i G e1 e2 _ _ v hv _ _ _ _ _ _ _ _ _ _ b1 b2
      exact q _ G b1 b2 e1 ⟨d, k + 1, c, cells, e2, h3, by omega, by omega, z1.exm z2 e1, z2, z3⟩

/-! ### _law_far -/
abbrev sp_law_far (K : PySem.W.Frag) : Sp := spFar K
theorem has_law_far (z : Z mg) (F : FunAt K mg "_law_far" s_law_far ["_law_hand", "_law_many"]) (h_law_draw : Has P w K mg base "_law_draw" 1 (sp_law_draw K)) : Has P w K mg base "_law_far" 2 (sp_law_far K) := by
  refine has_of F sc_law_far (fun vs H Q E h => ?_) (fun f cdv A outer s H vs Q E hr h => ?_)
  · obtain ⟨a, m, n, Z, rfl, _⟩ := h
    rfl
  · obtain ⟨a, m, n, Z, rfl, hh, h0, h1, q⟩ := h
    obtain ⟨d, k, c, cells, g1, g3, g4, g5, z1, z2, z3⟩ := id hh
    refine ⟨_, (pss_cons (ps_if (pt_cmpR op_gt (pe_ix (ixA (K := K) rfl) (pv 0) pe_int (fun _ _ => rfl)) pe_int (nomark _)) (pss_one (ps_ret (pe_callH h_law_draw (by decide) hr rfl (pa_cons (pv 0) (pa_cons (pv 1) pa_nil))))) pss_nil)
        (pss_cons (ps_set (i := 2) sc_law_far.nd rfl (by first | exact Or.inl rfl | exact Or.inr rfl) pe_int)
        (pss_cons (ps_for PassesOwn.never rfl (pi_range1 (by rfl) z.b_range (pa_cons pe_int pa_nil)) (pg_name (i := 3) sc_law_far.nd rfl (by first | exact Or.inl rfl | exact Or.inr rfl)) (pss_one (ps_set (i := 2) sc_law_far.nd rfl (by first | exact Or.inl rfl | exact Or.inr rfl) (pe_op op_plusA (pe_op op_multA (pv 2) (pe_op op_pow pe_int pe_int)) (pe_callH h_law_draw (by decide) hr rfl (pa_cons (pv 0) (pa_cons (pe_op op_pow pe_int pe_int) pa_nil)))))))
        (pss_one (ps_ret (pe_op op_mod (pv 2) (pv 1))))))), ?_⟩
    walk_at "cx"
    walk_at "ss"
    refine i_d (fun hd => ?_) (fun hd => ?_)
    · walk_at "ss"
      exact ⟨a, m, n, Z, rfl, hh.mono (by omega), h0, h1, q⟩
    · walk_at "ss"
      refine u_forR1 (fun i σ H' => ∃ x y, σ = [some (.ref a), some (.int m), some (.int x), y] ∧ ExM a H H' ∧ Hand K Z H' a (n + (7 - i))) (by decide) ⟨_, _, rfl, ExM.refl _, hh⟩ (fun i σ H' hi hw => ?_) (fun σ H' hw => ?_)
      · obtain ⟨x, y, rfl, e, hw⟩ := hw
        have hw' : Hand K Z H' a (n + (7 - (i + 1)) + 1) := hw.mono (by omega)
        walk_at "ss"
        refine ⟨a, _, _, _, rfl, hw', by decide, by decide, fun r H2 r0 r1 m2 hh2 => ?_⟩
        walk_at "ss"
        exact ⟨_, _, rfl, e.trans m2, hh2⟩
      · obtain ⟨x, y, rfl, e, hw⟩ := hw
        walk_at "ss"
        exact q _ _ (by omega) (by omega) e (hw.mono (by omega))

/-! ### _law_key -/
abbrev sp_law_key (K : PySem.W.Frag) : Sp := spKey K
theorem has_law_key (z : Z mg) (F : FunAt K mg "_law_key" s_law_key ["_law_hand"]) (h_law_far : Has P w K mg base "_law_far" 2 (sp_law_far K)) (h_law_power : Has P w K mg base "_law_power" 1 (sp_law_power K)) (h_law_draw : Has P w K mg base "_law_draw" 1 (sp_law_draw K)) : Has P w K mg base "_law_key" 3 (sp_law_key K) := by
  refine has_of F sc_law_key (fun vs H Q E h => ?_) (fun f cdv A outer s H vs Q E hr h => ?_)
  · obtain ⟨a, n, Z, rfl, _⟩ := h
    rfl
  · obtain ⟨a, n, Z, rfl, hh, q⟩ := h
    refine ⟨_, (pss_cons (ps_set (i := 1) sc_law_key.nd rfl (by first | exact Or.inl rfl | exact Or.inr rfl) (pe_callH h_law_draw (by decide) hr rfl (pa_cons (pv 0) (pa_cons pe_int pa_nil))))
        (pss_cons (ps_set (i := 2) sc_law_key.nd rfl (by first | exact Or.inl rfl | exact Or.inr rfl) (pe_callH h_law_draw (by decide) hr rfl (pa_cons (pv 0) (pa_cons (pe_ix (ixA (K := K) rfl) (pe_lst (pa_cons pe_int (pa_cons pe_int (pa_cons pe_int pa_nil)))) (pe_callH h_law_draw (by decide) hr rfl (pa_cons (pv 0) (pa_cons pe_int pa_nil))) (fun _ _ => rfl)) pa_nil))))
        (pss_cons (ps_if (pt_cmpR op_lt (pv 1) pe_int (nomark _)) (pss_one (ps_ret (pv 2))) pss_nil)
        (pss_cons (ps_if (pt_cmpR (eqA (K := K) rfl hr.units) (pv 1) pe_int (nomark _)) (pss_one (ps_ret (pe_op op_sub (pe_op op_sub (pe_op op_pow pe_int pe_int) pe_int) (pv 2)))) pss_nil)
        (pss_cons (ps_if (pt_cmpR (eqA (K := K) rfl hr.units) (pv 1) pe_int (nomark _)) (pss_one (ps_ret (pe_op op_plusA (pv 2) (pe_callH h_law_power (by decide) hr rfl (pa_cons (pe_op op_plusA pe_int (pe_callH h_law_draw (by decide) hr rfl (pa_cons (pv 0) (pa_cons pe_int pa_nil)))) pa_nil))))) pss_nil)
        (pss_cons (ps_if (pt_cmpR (eqA (K := K) rfl hr.units) (pv 1) pe_int (nomark _)) (pss_one (ps_ret (pe_op op_plusA (pe_op op_mod (pv 2) pe_int) (pe_op op_multA pe_int (pe_callH h_law_far (by decide) hr rfl (pa_cons (pv 0) (pa_cons (pe_op op_pow pe_int pe_int) pa_nil))))))) pss_nil)
        (pss_one (ps_ret (pe_callH h_law_far (by decide) hr rfl (pa_cons (pv 0) (pa_cons (pe_op op_pow pe_int pe_int) pa_nil))))))))))), ?_⟩
    walk_at "cx"
    walk_at "ss"
    refine ⟨a, 7, _, _, rfl, hh, by walk_at "od", by walk_at "od", fun wy H1 wy0 wy1 m1 hh1 => ?_⟩
    walk_at "ss"
    rename_i p1 H2 n2 e2 f2
    refine ⟨a, 3, _, _, rfl, hh1.ex e2, by walk_at "od", by walk_at "od", fun x H3 x0 x1 m3 hh3 => ?_⟩
    walk_at "ss"
    rename_i b hb
    have hb2 : 0 < b ∧ b ≤ 200 := by omega
    refine ⟨a, b, _, _, rfl, hh3, by walk_at "od", by walk_at "od", fun lo H4 lo0 lo1 m4 hh4 => ?_⟩
    have M : ExM a H H4 := ((m1.trans e2.toM).trans m3).trans m4
    walk_at "ss"
    refine i_d (fun hd => ?_) (fun hd => ?_)
    · walk_at "ss"
      exact q _ _ lo0 (by omega) M (hh4.mono (by omega))
    walk_at "ss"
    refine i_d (fun hd => ?_) (fun hd => ?_)
    · walk_at "ss"
      exact q _ _ (by omega) (by omega) M (hh4.mono (by omega))
    walk_at "ss"
    refine i_d (fun hd => ?_) (fun hd => ?_)
    · walk_at "ss"
      refine ⟨a, 52, _, _, rfl, hh4, by walk_at "od", by walk_at "od", fun y H5 y0 y1 m5 hh5 => ?_⟩
      walk_at "ss"
      refine ⟨_, rfl, by omega, by omega, ?_⟩
      have hp := two_pos (8 + y).toNat
      have hp2 := two_mono (show (8 + y).toNat ≤ 59 by omega)
      have e59 : (2 : Int) ^ 59 = 576460752303423488 := by decide
      walk_at "ss"
      exact q _ _ (by omega) (by omega) (M.trans m5) (hh5.mono (by omega))
    walk_at "ss"
    refine i_d (fun hd => ?_) (fun hd => ?_)
    · walk_at "ss"
      refine ⟨a, _, _, _, rfl, hh4.mono (m := n + 7) (by omega), by decide, by decide, fun y H5 y0 y1 m5 hh5 => ?_⟩
      walk_at "ss"
      exact q _ _ (by omega) (by omega) (M.trans m5) (hh5.mono (by omega))
    · walk_at "ss"
      refine ⟨a, _, _, _, rfl, hh4.mono (m := n + 7) (by omega), by decide, by decide, fun y H5 y0 y1 m5 hh5 => ?_⟩
      walk_at "ss"
      exact q _ _ (by omega) (by omega) (M.trans m5) (hh5.mono (by omega))

/-! ### _law_open -/
abbrev sp_law_open (K : PySem.W.Frag) : Sp := spOpen K
theorem has_law_open (z : Z mg) (F : FunAt K mg "_law_open" s_law_open ["_law_script", "_law_place"])  : Has P w K mg base "_law_open" 1 (sp_law_open K) := by
  refine has_of F sc_law_open (fun vs H Q E h => ?_) (fun f cdv A outer s H vs Q E hr h => ?_)
  · obtain ⟨a, ns, x, rfl, _⟩ := h
    rfl
  · obtain ⟨a, ns, x, rfl, hS, h0, h1, q⟩ := h
    refine ⟨_, (pss_cons (ps_setLc (i := 2) (own := [("_law_cell", 5)]) (g := gName 5) (tt := tYes) rfl sc_law_open.nd rfl rfl (sw_true rfl rfl rfl (by decide +kernel)) (piL (K := K) rfl (pe_slice (slA (K := K) rfl) (pv 0) po_none (po_some pe_int))) (blkOk_by (own := [("_law_cell", 5)]) (N := ["_law_script", "_law_place", "_law_cells", "_law_at", "_law_digits", "_law_cell"]) (sc := defScope s_law_open) (by decide +kernel)) (fun _ _ _ _ _ => (pg_name (i := 5) sc_law_open.nd rfl (by first | exact Or.inl rfl | exact Or.inr rfl))) (fun _ _ _ _ _ => pts_nil) (fun _ _ _ _ _ => (pe_callB (id := "abs") call_absA (by rfl) z.b_abs (by decide +kernel) (pa_cons (pv 5) pa_nil))))
        (Evl.pss_cut (ps_if (pt_cmpR (eqA (K := K) rfl hr.units) (pv 2) (pe_lst pa_nil) (nomark _)) (pss_one (ps_set (i := 2) sc_law_open.nd rfl (by first | exact Or.inl rfl | exact Or.inr rfl) (pe_lst (pa_cons pe_int pa_nil)))) pss_nil)
        (pss_cons (ps_set (i := 3) sc_law_open.nd rfl (by first | exact Or.inl rfl | exact Or.inr rfl) (pe_op op_mod (pv 1) (pe_callB (id := "len") (lenA (K := K) rfl) (by rfl) z.b_len (by decide +kernel) (pa_cons (pv 2) pa_nil))))
        (pss_cons (ps_set (i := 4) sc_law_open.nd rfl (by first | exact Or.inl rfl | exact Or.inr rfl) pe_int)
        (Evl.pss_cut (ps_if (PW.pt (pw_and (pt_cmpR op_ge (pe_ix (ixA (K := K) rfl) (pv 2) (pv 3) (fun _ _ => rfl)) (pe_op op_pow pe_int pe_int) (nomark _)) (pw_and1 (pt_cmpR op_lt (pv 1) (pe_callB (id := "len") (lenA (K := K) rfl) (by rfl) z.b_len (by decide +kernel) (pa_cons (pv 2) pa_nil)) (nomark _))))) (pss_one (ps_set (i := 4) sc_law_open.nd rfl (by first | exact Or.inl rfl | exact Or.inr rfl) (pe_ix (ixA (K := K) rfl) (pv 2) (pv 3) (fun _ _ => rfl)))) pss_nil)
        (pss_one (ps_ret (pe_lst (pa_cons (pv 4) (pa_cons (pe_op op_plusA pe_int (pe_op op_multA pe_int (pv 1))) (pa_cons (pe_op op_plusA (pe_slice (slA (K := K) rfl) (pv 2) (po_some (pv 3)) po_none) (pe_slice (slA (K := K) rfl) (pv 2) po_none (po_some (pv 3)))) pa_nil))))))))))), ?_⟩
    walk_at "cx"
    walk_at "ss"
    rename_i p1 H1 n1 e1 f1
    obtain ⟨cs, hc, hl⟩ : ∃ cs : List Int, cutV (ns.map V.int) none (some 63) = cs.map V.int ∧ cs.length ≤ 63 := ⟨cutI ns none (some 63), cutV_ints _ _ _, by
      rw [cutI_to _ (by decide), List.length_take]
      exact Nat.min_le_left _ _⟩
    rw [hc] at f1
    refine u_mapL V.int cs (fun i => V.int (if i < 0 then -i else i)) (sq_of f1) (by omega) (fun i hi H2 e2 A ha => ?_) (fun D H2 n2 e2 f2 => ?_)
    · walk_at "ss"
      exact ha _ (Ex.refl _)
    · obtain ⟨xs, hx, hxl⟩ : ∃ xs : List Int, cs.map (fun i => V.int (if i < 0 then -i else i)) = xs.map V.int ∧ xs.length ≤ 63 := ⟨cs.map fun i => if i < 0 then -i else i, by rw [List.map_map]; rfl, by rw [List.length_map]; exact hl⟩
      rw [hx] at f2
      walk_at "ss"
      refine s_cut (fun σ' H' => ∃ (D : Addr) (ys : List Int), σ' = [some (.ref a), some (.int x), some (.ref D), none, none, none] ∧ Ex H H' ∧ H' D = some (.lst (ys.map V.int)) ∧ 0 < ys.length ∧ ys.length ≤ 63) ?_ ?_
      · walk_at "ss"
        refine i_d (fun hd => ?_) (fun hd => ?_)
        · walk_at "ss"
          rename_i G n3 e3 f3
          exact ⟨_, [0], rfl, by walk_at "ex", f3, by decide, by decide⟩
        · walk_at "ss"
          exact ⟨_, xs, rfl, by walk_at "ex", by walk_at "hp", List.length_pos_iff.mpr hd, hxl⟩
      · rintro σ' H3 ⟨D2, ys, rfl, e3, f3, hy, hy2⟩
        walk_at "ss"
        rename_i b1 b2
        refine s_cut (fun σ' H' => ∃ (d : Int), σ' = [some (.ref a), some (.int x), some (.ref D2), some (.int (x % ys.length)), some (.int d), none] ∧ H' = H3) ?_ ?_
        · walk_at "ss"
          refine i_d (fun hd => ?_) (fun hd => ?_)
          · walk_at "ss"
            refine i_d (fun hd => ?_) (fun hd => ?_)
            · walk_at "ss"
              exact ⟨_, rfl, rfl⟩
            · walk_at "ss"
              exact ⟨_, rfl, rfl⟩
          · walk_at "ss"
            exact ⟨_, rfl, rfl⟩
        · rintro σ' H4 ⟨d, rfl, rfl⟩
          walk_at "ss"
          rename_i p2 G2 n4 e4 f4 p3 G3 n5 e5 f5
          rw [cutV_ints, cutI_from _ b1] at f4
          rw [cutV_ints, cutI_to _ b1] at f5
          refine n_cat (by walk_at "hp") f5 ?_ fun p4 G4 n6 e6 f6 => ?_
          · rw [List.length_map, List.length_map, List.length_drop, List.length_take]
            omega
          · walk_at "ss"
            rename_i p5 G5 n7 e7 f7
            rw [← List.map_append] at f6
            have n0 : H p5 = none := Ex.back (by walk_at "ex") n7
            exact q p5 G4 G5 n0 (by walk_at "ex") (by walk_at "ex") ⟨d, 1 + 1009 * x, p4, _, f7, by rw [List.length_append, List.length_drop, List.length_take]; omega, by omega, by omega, e7, n7, sq_of f6⟩

/-! ### law -/
def sp_law (K : PySem.W.Frag) : Sp := fun vs H Q _ => ∃ (a : Addr) (ns : List Int), vs = [.ref a] ∧ SqL K H a (ns.map V.int) ∧ ns.length ≤ 63 ∧ ∀ H', Q (.bl true) H'
theorem ok_law {f : Addr} {fd : FuncData} (z : Z mg) (F : Fun K "law" "law" s_law f fd) (h_law_walk_right : Has P w K mg base "_law_walk_right" 4 (sp_law_walk_right K)) (h_stay : Has P w K mg base "stay" 2 (sp_stay K)) (h_law_right : Has P w K mg base "_law_right" 4 (sp_law_right K)) (h_law_key : Has P w K mg base "_law_key" 3 (sp_law_key K)) (h_law_far : Has P w K mg base "_law_far" 2 (sp_law_far K)) (h_law_draw : Has P w K mg base "_law_draw" 1 (sp_law_draw K)) (h_law_power : Has P w K mg base "_law_power" 1 (sp_law_power K)) (h_law_all : Has P w K mg base "_law_all" 2 (sp_law_all K)) (h_law_open : Has P w K mg base "_law_open" 1 (sp_law_open K)) : FnOk P w K mg base CX0 5 f fd ["_law_script"] (sp_law K) := by
  refine fnok_of F sc_law (fun vs H Q E h => ?_) (fun cdv A outer s H vs Q E hr h => ?_)
  · obtain ⟨a, ns, rfl, _⟩ := h
    rfl
  · obtain ⟨a, ns, rfl, hS, hl, q⟩ := h
    refine ⟨_, (pss_cons (ps_for PassesOwn.never rfl (pi_range1 (by rfl) z.b_range (pa_cons (pe_callB (id := "max") (call_max2A rfl) (by rfl) z.b_max (by decide +kernel) (pa_cons pe_int (pa_cons (pe_callB (id := "min") (call_min2A rfl) (by rfl) z.b_min (by decide +kernel) (pa_cons pe_int (pa_cons (pe_callB (id := "len") (lenA (K := K) rfl) (by rfl) z.b_len (by decide +kernel) (pa_cons (pv 0) pa_nil)) pa_nil))) pa_nil))) pa_nil)) (pg_name (i := 1) sc_law.nd rfl (by first | exact Or.inl rfl | exact Or.inr rfl)) (pss_cons (ps_set (i := 2) sc_law.nd rfl (by first | exact Or.inl rfl | exact Or.inr rfl) (pe_callH h_law_open (by decide) hr rfl (pa_cons (pv 0) (pa_cons (pv 1) pa_nil))))
        (pss_cons (ps_set (i := 3) sc_law.nd rfl (by first | exact Or.inl rfl | exact Or.inr rfl) (pe_callH h_law_key (by decide) hr rfl (pa_cons (pv 2) pa_nil)))
        (pss_cons (ps_set (i := 4) sc_law.nd rfl (by first | exact Or.inl rfl | exact Or.inr rfl) (pe_callH h_law_all (by decide) hr rfl (pa_cons (pv 3) pa_nil)))
        (pss_cons (ps_setLc (i := 5) (own := [("_law_room_here", 6)]) (g := gName 6) (tt := tYes) rfl sc_law.nd rfl rfl (sw_true rfl rfl rfl (by decide +kernel)) (piL (K := K) rfl (pe_slice (slA (K := K) rfl) (pv 4) (po_some (pe_un un_neg pe_int)) po_none)) (blkOk_by (own := [("_law_room_here", 6)]) (N := ["_law_script", "_law_place", "_law_hand", "_law_one", "_law_some", "_law_near", "_law_room_here", "_law_few"]) (sc := defScope s_law) (by decide +kernel)) (fun _ _ _ _ _ => (pg_name (i := 6) sc_law.nd rfl (by first | exact Or.inl rfl | exact Or.inr rfl))) (fun _ _ _ _ _ => pts_nil) (fun _ _ _ _ _ => (pe_op op_sub (pe_op op_plusA (pv 6) (pe_callH h_law_draw (by decide) hr rfl (pa_cons (pv 2) (pa_cons pe_int pa_nil)))) pe_int)))
        (pss_cons (ps_set (i := 5) sc_law.nd rfl (by first | exact Or.inl rfl | exact Or.inr rfl) (pe_op op_plusA (pv 5) (pe_lc (own := [("_law_room_here", 6)]) (g := gName 6) (tt := tYes) rfl sc_law.nd (piL (K := K) rfl (pe_slice (slA (K := K) rfl) (pv 4) po_none (po_some pe_int))) (blkOk_by (own := [("_law_room_here", 6)]) (N := ["_law_script", "_law_place", "_law_hand", "_law_one", "_law_some", "_law_near", "_law_room_here", "_law_few"]) (sc := defScope s_law) (by decide +kernel)) (fun _ _ _ _ _ => (pg_name (i := 6) sc_law.nd rfl (by first | exact Or.inl rfl | exact Or.inr rfl))) (fun _ _ _ _ _ => pts_nil) (fun _ _ _ _ _ => (pe_op op_plusA (pv 6) (pe_callH h_law_power (by decide) hr rfl (pa_cons (pe_callH h_law_draw (by decide) hr rfl (pa_cons (pv 2) (pa_cons pe_int pa_nil))) pa_nil)))))))
        (pss_cons (ps_set (i := 5) sc_law.nd rfl (by first | exact Or.inl rfl | exact Or.inr rfl) (pe_op op_plusA (pv 5) (pe_lst (pa_cons (pe_callH h_law_draw (by decide) hr rfl (pa_cons (pv 2) (pa_cons pe_int pa_nil))) (pa_cons (pe_callH h_law_far (by decide) hr rfl (pa_cons (pv 2) (pa_cons (pe_op op_pow pe_int pe_int) pa_nil))) (pa_cons (pe_op op_fdivW (pv 3) pe_int) pa_nil))))))
        (pss_cons (ps_set (i := 5) sc_law.nd rfl (by first | exact Or.inl rfl | exact Or.inr rfl) (pe_op op_plusA (pv 5) (pe_lst (pa_cons (pe_op op_sub (pe_op op_sub (pe_op op_pow pe_int pe_int) pe_int) (pv 3)) (pa_cons (pe_callH h_law_key (by decide) hr rfl (pa_cons (pv 2) pa_nil)) pa_nil)))))
        (pss_cons (ps_for PassesOwn.never rfl (piL (K := K) rfl (pe_op op_plusA (pv 4) (pv 5))) (pg_name (i := 6) sc_law.nd rfl (by first | exact Or.inl rfl | exact Or.inr rfl)) (pss_one (ps_if (PW.pt (pw_and (pt_chain op_le op_lt pe_int (pv 6) (pe_op op_pow pe_int pe_int)) (pw_and1 (pt_not (pt_val (pe_callH h_law_right (by decide) hr rfl (pa_cons (pv 3) (pa_cons (pv 6) pa_nil)))))))) (pss_one (ps_ret pe_bl)) pss_nil)))
        (pss_cons (ps_setLc (i := 7) (own := [("_law_room_here", 6)]) (g := gName 6) rfl sc_law.nd rfl rfl (sw_true rfl rfl rfl (by decide +kernel)) (piL (K := K) rfl (pe_op op_plusA (pv 4) (pv 5))) (blkOk_by (own := [("_law_room_here", 6)]) (N := ["_law_script", "_law_place", "_law_hand", "_law_one", "_law_some", "_law_near", "_law_room_here", "_law_few"]) (sc := defScope s_law) (by decide +kernel)) (fun _ _ _ _ _ => (pg_name (i := 6) sc_law.nd rfl (by first | exact Or.inl rfl | exact Or.inr rfl))) (fun _ _ _ _ _ => pts_one (pt_chain op_le op_lt pe_int (pv 6) pe_int)) (fun _ _ _ _ _ => (pv 6)))
        (pss_one (ps_for PassesOwn.never rfl (piL (K := K) rfl (pe_slice (slA (K := K) rfl) (pv 7) po_none (po_some pe_int))) (pg_name (i := 6) sc_law.nd rfl (by first | exact Or.inl rfl | exact Or.inr rfl)) (pss_one (ps_if (pt_not (pt_val (pe_callH h_law_walk_right (by decide) hr rfl (pa_cons (pv 3) (pa_cons (pv 6) (pa_cons (pe_callH h_stay (by decide) hr rfl (pa_cons (pv 3) (pa_cons (pv 6) pa_nil))) pa_nil)))))) (pss_one (ps_ret pe_bl)) pss_nil))))))))))))))
        (pss_one (ps_ret pe_bl))), ?_⟩
    walk_at "cx"
    walk_at "ss"
    refine u_forR1 (fun i σ H' => ∃ x1 x2 x3 x4 x5 x6 x7, σ = [some (.ref a), x1, x2, x3, x4, x5, x6, x7] ∧ Ex H H') (by omega) ⟨_, _, _, _, _, _, _, rfl, by walk_at "ex"⟩ (fun i σ H0 hi hh => ?_) (fun σ H' hh => ?_)
    · obtain ⟨x1, x2, x3, x4, x5, x6, x7, rfl, e⟩ := hh
      walk_at "ss"
      refine ⟨a, ns, _, rfl, by walk_at "sq", by omega, by omega, fun h Z H3 n3 e3 ez hh => ?_⟩
      walk_at "ss"
      refine ⟨h, _, _, rfl, hh, fun x H4 x0 x1 m4 hh4 => ?_⟩
      walk_at "ss"
      refine ⟨_, rfl, fun p5 H5 n5 e5 f5 => ?_⟩
      have tl := turns_len x 60
      walk_at "ss"
      rename_i p6 H6 n6 e6 f6
      rw [cutV_ints] at f6
      have cl : (cutI (turnsN x 60) (some (-12)) none).length ≤ 61 := by
        unfold cutI
        rw [List.length_take, List.length_drop]
        omega
      refine u_lcLH 800000000000000000 1 (hh4.ex (e5.trans e6)) (by rw [List.length_map]; omega) (fun H7 m7 => sq_of (m7 _ _ (by walk_at "ne") f6)) (fun j v hv D H7 R m7 nD hh7 A qA => ?_) (by rw [List.length_map]; omega) (fun p7 ns7 H7 n7 m7 hh7 f7 l7 => ?_)
      · obtain ⟨w, rfl, _⟩ := at_ints hv
        walk_at "ss"
        refine ⟨h, 3, _, _, rfl, hh7, by decide, by decide, fun y H8 y0 y1 m8 hh8 => ?_⟩
        walk_at "ss"
        exact qA _ _ m8 hh8
      rw [List.length_map] at l7
      walk_at "ss"
      rename_i p8 H8 n8 e8 f8
      rw [cutV_ints] at f8
      have cl8 : (cutI (turnsN x 60) none (some 6)).length ≤ 61 := by
        unfold cutI
        rw [List.length_take, List.length_drop]
        omega
      refine u_lcLH 700000000000000000 1 (hh7.ex e8) (by rw [List.length_map]; omega) (fun H9 m9 => sq_of (m9 _ _ (by walk_at "ne") f8)) (fun j v hv D H9 R m9 nD hh9 A qA => ?_) (by rw [List.length_map]; omega) (fun p9 ns9 H9 n9 m9 hh9 f9 l9 => ?_)
      · obtain ⟨w, rfl, _⟩ := at_ints hv
        walk_at "ss"
        refine ⟨h, 60, _, _, rfl, hh9, by decide, by decide, fun y H10 y0 y1 m10 hh10 => ?_⟩
        walk_at "ss"
        refine ⟨_, rfl, by omega, by omega, ?_⟩
        walk_at "ss"
        exact qA _ _ m10 hh10
      rw [List.length_map] at l9
      have g7 : H9 p7 = some (.lst (ns7.map V.int)) := m9 _ _ (by walk_at "ne") (e8 _ _ f7)
      walk_at "ss"
      refine n_cat g7 f9 (by rw [List.length_map, List.length_map]; omega) fun p10 H10 n10 e10 f10 => ?_
      rw [← List.map_append] at f10
      walk_at "ss"
      refine ⟨h, 130, _, _, rfl, hh9.ex e10, by decide, by decide, fun y1 H11 y10 y11 m11 hh11 => ?_⟩
      walk_at "ss"
      refine ⟨h, 1152921504606846976, _, _, rfl, hh11, by decide, by decide, fun y2 H12 y20 y21 m12 hh12 => ?_⟩
      have g10 : H12 p10 = some (.lst ((ns7 ++ ns9).map V.int)) := by walk_at "hp"
      walk_at "ss"
      rename_i p13 H13 n13 e13 f13
      have g13 : H13 p13 = some (.lst ([y1, y2, x / 2].map V.int)) := f13
      refine n_cat (e13 _ _ g10) g13 (by rw [List.length_map, List.length_map, List.length_append]; simp only [List.length_cons, List.length_nil]; omega) fun p14 H14 n14 e14 f14 => ?_
      rw [← List.map_append] at f14
      walk_at "ss"
      refine ⟨h, _, _, rfl, hh12.ex (e13.trans e14), fun y3 H15 y30 y31 m15 hh15 => ?_⟩
      have g14 : H15 p14 = some (.lst ((ns7 ++ ns9 ++ [y1, y2, x / 2]).map V.int)) := by walk_at "hp"
      walk_at "ss"
      rename_i p16 H16 n16 e16 f16
      have g16 : H16 p16 = some (.lst ([1152921504606846976 - 1 - x, y3].map V.int)) := f16
      refine n_cat (e16 _ _ g14) g16 (by rw [List.length_map, List.length_map, List.length_append, List.length_append]; simp only [List.length_cons, List.length_nil]; omega) fun p17 H17 n17 e17 f17 => ?_
      rw [← List.map_append] at f17
      generalize hG : ns7 ++ ns9 ++ [y1, y2, x / 2] ++ [1152921504606846976 - 1 - x, y3] = near at *
      have nl : near.length ≤ 200 := by
        rw [← hG]
        simp only [List.length_append, List.length_cons, List.length_nil]
        omega
      have nh : H h = none := Ex.back e n3
      have e4 : Ex H H4 := (e.trans e3).exm nh m4
      have e7 : Ex H H7 := ((e4.trans e5).trans e6).exm nh m7
      have e9 : Ex H H9 := (e7.trans e8).exm nh m9
      have e12 : Ex H H12 := ((e9.trans e10).exm nh m11).exm nh m12
      have e15 : Ex H H15 := ((e12.trans e13).trans e14).exm nh m15
      have e0 : Ex H H17 := (e15.trans e16).trans e17
      have h5 : H7 p5 = some (.lst ((turnsN x 60).map V.int)) := m7 _ _ (by walk_at "ne") (e6 _ _ f5)
      have h9 : H9 p5 = some (.lst ((turnsN x 60).map V.int)) := m9 _ _ (by walk_at "ne") (e8 _ _ h5)
      have h12 : H12 p5 = some (.lst ((turnsN x 60).map V.int)) := m12 _ _ (by walk_at "ne") (m11 _ _ (by walk_at "ne") (e10 _ _ h9))
      have g5 : H17 p5 = some (.lst ((turnsN x 60).map V.int)) := e17 _ _ (e16 _ _ (m15 _ _ (by walk_at "ne") (e14 _ _ (e13 _ _ h12))))
      clear m7 m9 m11 m12 m15 hh7 hh9 hh11 hh12 hh15 g7 g10 g14 g16
      walk_at "ss"
      refine n_cat g5 f17 (by rw [List.length_map, List.length_map]; omega) fun p18 H18 n18 e18 f18 => ?_
      rw [← List.map_append] at f18
      walk_at "ss"
      refine u_forL (fun j σ H' => ∃ y1 y2, σ = [some (.ref a), some (.int (i : Int)), some (.ref h), some (.int x), some (.ref p5), some (.ref p17), y1, y2] ∧ Ex H18 H') (sq_of f18) ⟨_, _, rfl, Ex.refl _⟩ (fun j σ H' _ hh => ?_) (fun j v σ H' hx hh => ?_) (fun σ H' hh => ?_)
      · obtain ⟨_, _, _, e9⟩ := hh
        exact e9.sq (sq_of f18)
      · obtain ⟨z1, z2, rfl, e9⟩ := hh
        obtain ⟨w, rfl, _⟩ := at_ints hx
        walk_at "ss"
        refine i_d (fun hd => ?_) (fun hd => ?_)
        · walk_at "ss"
          refine i_d (fun hd => ?_) (fun hd => ?_)
          · walk_at "ss"
            refine ⟨_, _, rfl, x0, x1, fun H10 e10 => ?_⟩
            walk_at "ss"
            exact ⟨_, _, rfl, by walk_at "ex"⟩
          · walk_at "ss"
            exact ⟨_, _, rfl, by walk_at "ex"⟩
        · walk_at "ss"
          exact ⟨_, _, rfl, by walk_at "ex"⟩
      · obtain ⟨z1, z2, rfl, e9⟩ := hh
        have k5 := e9 _ _ (e18 _ _ g5)
        have k17 := e9 _ _ (e18 _ _ f17)
        walk_at "ss"
        refine n_cat k5 k17 (by rw [List.length_map, List.length_map]; omega) fun p19 H19 n19 e19 f19 => ?_
        rw [← List.map_append] at f19
        walk_at "ss"
        refine u_lcL V.int (turnsN x 60 ++ near) (fun v => decide (0 ≤ v ∧ v < 130)) V.int (sq_of f19) (by rw [List.length_append]; omega) (fun v hv H20 e20 A B ha hb => ?_) (fun p20 H20 n20 e20 f20 => ?_)
        · walk_at "ss"
          refine i_d (fun hd => ?_) (fun hd => ?_)
          · walk_at "ss"
            refine i_d (fun hd2 => ?_) (fun hd2 => ?_)
            · walk_at "ss"
              exact ha (decide_eq_true ⟨hd, hd2⟩) _ (Ex.refl _)
            · exact hb (decide_eq_false (fun z => hd2 z.2)) _ (Ex.refl _)
          · walk_at "ss"
            exact hb (decide_eq_false (fun z => hd z.1)) _ (Ex.refl _)
        walk_at "ss"
        rename_i p21 H21 n21 e21 f21
        rw [cutV_ints] at f21
        refine u_forL (fun j σ H' => ∃ y1 y2, σ = [some (.ref a), some (.int (i : Int)), some (.ref h), some (.int x), some (.ref p5), some (.ref p17), y1, y2] ∧ Ex H21 H') (sq_of f21) ⟨_, _, rfl, Ex.refl _⟩ (fun j σ H' _ hh => ?_) (fun j v σ H' hx hh => ?_) (fun σ H' hh => ?_)
        · obtain ⟨_, _, _, e9⟩ := hh
          exact e9.sq (sq_of f21)
        · obtain ⟨z1, z2, rfl, e9⟩ := hh
          obtain ⟨w, rfl, _⟩ := at_ints hx
          walk_at "ss"
          by_cases hm : w ∈ turnsN x 60
          · refine ⟨_, _, rfl, fun z => absurd hm z, fun _ p23 H23 n23 e23 f23 => ?_⟩
            walk_at "ss"
            refine ⟨_, _, _, rfl, x0, x1, .inr ⟨_, hm, rfl, st_of f23⟩, ?_⟩
            walk_at "ss"
            exact ⟨_, _, rfl, by walk_at "ex"⟩
          · refine ⟨_, _, rfl, fun _ H23 e23 => ?_, fun z => absurd z hm⟩
            walk_at "ss"
            refine ⟨_, _, _, rfl, x0, x1, .inl ⟨hm, rfl⟩, ?_⟩
            walk_at "ss"
            exact ⟨_, _, rfl, by walk_at "ex"⟩
        · obtain ⟨z3, z4, rfl, e22⟩ := hh
          walk_at "ss"
          exact ⟨_, _, _, _, _, _, _, rfl, ((((((e0.trans e18).trans e9).trans e19).trans e20).trans e21).trans e22)⟩
    · obtain ⟨x1, x2, x3, x4, x5, x6, x7, rfl, e⟩ := hh
      walk_at "ss"
      exact q _

end

end Lw
open PySem PySem.W PyProof.Rows
set_option maxHeartbeats 0 in

theorem PySem.Challenge.cw_tailrooms_k15_stays_holds : PySem.Challenge.rw_tailrooms_k15_stays.Holds := by

  w_on; o_law; k_head; (case hw => w_witness2)
  k_fill

  refine L2.walk_of (l := PySem.Challenge.rw_tailrooms_k15_stays) (n := 63) (k := 5) (x := "_law_script") (CX := fun _ => L2.CX0) (sp := fun w => Lw.sp_law _) rfl (by decide) rfl ⟨rfl, by decide, by decide⟩ (fun w h Y => PySem.W.kIn_of Y) ?F (fun _ _ a ns hl _ hS => ⟨a, ns, rfl, hS, hl, fun _ => rfl⟩) (fun _ _ _ _ _ h => h)

  case F =>
    intro w mg fa h KX G hmg

    have zz : Lw.Z mg := by
      refine' ⟨PySem.W.mg_none_of KX G ?z0, PySem.W.mg_none_of KX G ?z1, PySem.W.mg_none_of KX G ?z2, PySem.W.mg_none_of KX G ?z3, PySem.W.mg_none_of KX G ?z4, PySem.W.mg_none_of KX G ?z5, PySem.W.mg_none_of KX G ?z6, PySem.W.mg_none_of KX G ?z7, TR.constI_mk KX G ?y0⟩
      (case z0 => k_is)
      (case z1 => k_is)
      (case z2 => k_is)
      (case z3 => k_is)
      (case z4 => k_is)
      (case z5 => k_is)
      (case z6 => k_is)
      (case z7 => k_is)
      (case y0 => k_is)

    have F0 : TR.FunAt (L2.KOf KX) mg "_law_power" Lw.s_law_power ["_law_many"] := by
      refine' TR.funAt_mk KX G (x := "_law_power") (st := Lw.s_law_power) (ps := ["_law_many"]) ?a ?l ?c ?k (fun _ _ _ _ _ _ us hl => match us, hl with | [_], _ => rfl)
      (case a => k_is); (case l => k_is); (case c => k_is); (case k => k_is)

    have F1 : TR.FunAt (L2.KOf KX) mg "_law_deep" Lw.s_law_deep ["_law_rooms"] := by
      refine' TR.funAt_mk KX G (x := "_law_deep") (st := Lw.s_law_deep) (ps := ["_law_rooms"]) ?a ?l ?c ?k (fun _ _ _ _ _ _ us hl => match us, hl with | [_], _ => rfl)
      (case a => k_is); (case l => k_is); (case c => k_is); (case k => k_is)

    have F2 : TR.FunAt (L2.KOf KX) mg "_law_room" Lw.s_law_room ["_law_one", "_law_rooms"] := by
      refine' TR.funAt_mk KX G (x := "_law_room") (st := Lw.s_law_room) (ps := ["_law_one", "_law_rooms"]) ?a ?l ?c ?k (fun _ _ _ _ _ _ us hl => match us, hl with | [_, _], _ => rfl)
      (case a => k_is); (case l => k_is); (case c => k_is); (case k => k_is)

    have F3 : TR.FunAt (L2.KOf KX) mg "_law_walk_right" Lw.s_law_walk_right ["_law_one", "_law_room_here", "_law_due_here"] := by
      refine' TR.funAt_mk KX G (x := "_law_walk_right") (st := Lw.s_law_walk_right) (ps := ["_law_one", "_law_room_here", "_law_due_here"]) ?a ?l ?c ?k (fun _ _ _ _ _ _ us hl => match us, hl with | [_, _, _], _ => rfl)
      (case a => k_is); (case l => k_is); (case c => k_is); (case k => k_is)

    have F4 : TR.FunAt (L2.KOf KX) mg "rooms_in_turn" Lw.s_rooms_in_turn ["key"] := by
      refine' TR.funAt_mk KX G (x := "rooms_in_turn") (st := Lw.s_rooms_in_turn) (ps := ["key"]) ?a ?l ?c ?k (fun _ _ _ _ _ _ us hl => match us, hl with | [_], _ => rfl)
      (case a => k_is); (case l => k_is); (case c => k_is); (case k => k_is)

    have F5 : TR.FunAt (L2.KOf KX) mg "stay" Lw.s_stay ["key", "room"] := by
      refine' TR.funAt_mk KX G (x := "stay") (st := Lw.s_stay) (ps := ["key", "room"]) ?a ?l ?c ?k (fun _ _ _ _ _ _ us hl => match us, hl with | [_, _], _ => rfl)
      (case a => k_is); (case l => k_is); (case c => k_is); (case k => k_is)

    have F6 : TR.FunAt (L2.KOf KX) mg "_law_all" Lw.s_law_all ["_law_one"] := by
      refine' TR.funAt_mk KX G (x := "_law_all") (st := Lw.s_law_all) (ps := ["_law_one"]) ?a ?l ?c ?k (fun _ _ _ _ _ _ us hl => match us, hl with | [_], _ => rfl)
      (case a => k_is); (case l => k_is); (case c => k_is); (case k => k_is)

    have F7 : TR.FunAt (L2.KOf KX) mg "_law_due" Lw.s_law_due ["_law_one", "_law_room_here"] := by
      refine' TR.funAt_mk KX G (x := "_law_due") (st := Lw.s_law_due) (ps := ["_law_one", "_law_room_here"]) ?a ?l ?c ?k (fun _ _ _ _ _ _ us hl => match us, hl with | [_, _], _ => rfl)
      (case a => k_is); (case l => k_is); (case c => k_is); (case k => k_is)

    have F8 : TR.FunAt (L2.KOf KX) mg "_law_right" Lw.s_law_right ["_law_one", "_law_room_here"] := by
      refine' TR.funAt_mk KX G (x := "_law_right") (st := Lw.s_law_right) (ps := ["_law_one", "_law_room_here"]) ?a ?l ?c ?k (fun _ _ _ _ _ _ us hl => match us, hl with | [_, _], _ => rfl)
      (case a => k_is); (case l => k_is); (case c => k_is); (case k => k_is)

    have F9 : TR.FunAt (L2.KOf KX) mg "_law_draw" Lw.s_law_draw ["_law_hand", "_law_many"] := by
      refine' TR.funAt_mk KX G (x := "_law_draw") (st := Lw.s_law_draw) (ps := ["_law_hand", "_law_many"]) ?a ?l ?c ?k (fun _ _ _ _ _ _ us hl => match us, hl with | [_, _], _ => rfl)
      (case a => k_is); (case l => k_is); (case c => k_is); (case k => k_is)

    have F10 : TR.FunAt (L2.KOf KX) mg "_law_far" Lw.s_law_far ["_law_hand", "_law_many"] := by
      refine' TR.funAt_mk KX G (x := "_law_far") (st := Lw.s_law_far) (ps := ["_law_hand", "_law_many"]) ?a ?l ?c ?k (fun _ _ _ _ _ _ us hl => match us, hl with | [_, _], _ => rfl)
      (case a => k_is); (case l => k_is); (case c => k_is); (case k => k_is)

    have F11 : TR.FunAt (L2.KOf KX) mg "_law_key" Lw.s_law_key ["_law_hand"] := by
      refine' TR.funAt_mk KX G (x := "_law_key") (st := Lw.s_law_key) (ps := ["_law_hand"]) ?a ?l ?c ?k (fun _ _ _ _ _ _ us hl => match us, hl with | [_], _ => rfl)
      (case a => k_is); (case l => k_is); (case c => k_is); (case k => k_is)

    have F12 : TR.FunAt (L2.KOf KX) mg "_law_open" Lw.s_law_open ["_law_script", "_law_place"] := by
      refine' TR.funAt_mk KX G (x := "_law_open") (st := Lw.s_law_open) (ps := ["_law_script", "_law_place"]) ?a ?l ?c ?k (fun _ _ _ _ _ _ us hl => match us, hl with | [_, _], _ => rfl)
      (case a => k_is); (case l => k_is); (case c => k_is); (case k => k_is)

    refine' TR.law_end (st := Lw.s_law) (x := "_law_script") KX G hmg ?a ?l ?c ?k (fun s v => .of_eq rfl) (fun base FF => ?b)
    (case a => k_is); (case l => k_is); (case c => k_is); (case k => k_is)

    case b =>

      have h0 := Lw.has_law_power (P := PySem.Challenge.rw_tailrooms_k15_stays.prog) (w := w) (base := base) zz F0 

      have h1 := Lw.has_law_deep (P := PySem.Challenge.rw_tailrooms_k15_stays.prog) (w := w) (base := base) zz F1 h0

      have h2 := Lw.has_law_room (P := PySem.Challenge.rw_tailrooms_k15_stays.prog) (w := w) (base := base) zz F2 h0 h1

      have h3 := Lw.has_law_walk_right (P := PySem.Challenge.rw_tailrooms_k15_stays.prog) (w := w) (base := base) zz F3 h2

      have h4 := Lw.has_rooms_in_turn (P := PySem.Challenge.rw_tailrooms_k15_stays.prog) (w := w) (base := base) zz F4 

      have h5 := Lw.has_stay (P := PySem.Challenge.rw_tailrooms_k15_stays.prog) (w := w) (base := base) zz F5 h4

      have h6 := Lw.has_law_all (P := PySem.Challenge.rw_tailrooms_k15_stays.prog) (w := w) (base := base) zz F6 h0

      have h7 := Lw.has_law_due (P := PySem.Challenge.rw_tailrooms_k15_stays.prog) (w := w) (base := base) zz F7 h6

      have h8 := Lw.has_law_right (P := PySem.Challenge.rw_tailrooms_k15_stays.prog) (w := w) (base := base) zz F8 h5 h7

      have h9 := Lw.has_law_draw (P := PySem.Challenge.rw_tailrooms_k15_stays.prog) (w := w) (base := base) zz F9 

      have h10 := Lw.has_law_far (P := PySem.Challenge.rw_tailrooms_k15_stays.prog) (w := w) (base := base) zz F10 h9

      have h11 := Lw.has_law_key (P := PySem.Challenge.rw_tailrooms_k15_stays.prog) (w := w) (base := base) zz F11 h10 h0 h9

      have h12 := Lw.has_law_open (P := PySem.Challenge.rw_tailrooms_k15_stays.prog) (w := w) (base := base) zz F12 

      exact Lw.ok_law zz FF h3 h5 h8 h11 h10 h9 h0 h6 h12

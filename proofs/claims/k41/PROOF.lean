import PyProof.Rows.All
import Wide.All
import OpenK.AllK
import Wide.FinOn
import HandS.ForMost
import HandS.Wide
import HandS.SortInts
import HandS.IsInst
import HandS.Conv
import HandS.Evl
import HandS.Style
import HandS.SortRule
import HandS.ForExc
import HandS.ExcInit
import HandS.ExcField
import HandS.TryMany
import HandS.Small
import HandS.Text
import PyProof.Rows.ChunkEnd
import HandS.DictTup
import KE.KItemsList
import HandS.More
import HandS.Zip
import KE.KExcIs
import HandS.DictComp
import PySem.Challenge.RW_tailrooms_k41_clean_yards
set_option Elab.async false
set_option linter.all false
set_option maxRecDepth 100000
set_option maxHeartbeats 4000000

/-! TR: joined rules, steps of a reading, the heap, the hand that is drawn from -/
namespace TR
open PySem L2
open PySem.Spec PyProof.Rows

/-! ### joined rules -/
section
variable {X : Cx}
def rPlus : R2 := fun x y H Q => (rI0 fun i j => .int (i + j)) x y H Q ∨ rCat x y H Q ∨
  (∃ i j, x = .str i ∧ y = .str j ∧ i.length + j.length ≤ sizeLine ∧ Q (.str (i ++ j)) H)
theorem op_plusA : OpR X (binaryOp .Add) rPlus := OpR.or op_add (OpR.or op_cat op_add_str)
def rMult : R2 := fun x y H Q => (rI CMulW fun i j => .int (i * j)) x y H Q ∨ (rI CMul fun i j => .int (i * j)) x y H Q ∨ rRep x y H Q
theorem op_multA : OpR X (binaryOp .Mult) rMult := OpR.or op_mulW (OpR.or op_mul op_rep)
def rEqA (K : PySem.W.Frag) : R2 := fun x y H Q => rEq x y H Q ∨ rEqD K x y H Q
def rNeA (K : PySem.W.Frag) : R2 := fun x y H Q => rNe x y H Q ∨ rNeD K x y H Q
theorem op_eqA (hu : X.A.units + 64 < cLine) : OpR X (compareOp .Eq) (rEqA X.K) := OpR.or op_eq (op_eqD hu)
theorem op_neA (hu : X.A.units + 64 < cLine) : OpR X (compareOp .NotEq) (rNeA X.K) := OpR.or op_ne (op_neD hu)
theorem op_inA : OpR X (compareOp .In) (rIn X.K false) := op_in_seq
def rLenS (K : PySem.W.Frag) : List V → Hp → VK → Prop := Evl.rLenS K
def rLenT : List V → Hp → VK → Prop := fun xs H Q => ∃ z, xs = [.str z] ∧ z.length ≤ sizeLine ∧ Q (.int z.length) H
def rLen (K : PySem.W.Frag) : List V → Hp → VK → Prop := fun xs H Q => rLenS K xs H Q ∨ rLenT xs H Q
theorem call_lenA : CallR X (.builtin "len") (rLen X.K) := CallR.or call_len_seq call_len_str
def rGetL (K : PySem.W.Frag) : R2 := fun x y H Q => ∃ p xs i v, x = .ref p ∧ y = .int i ∧ SqL K H p xs ∧ 0 ≤ i ∧ atI xs i = some v ∧ Q v H
theorem pget_list : PGet X (rGetL X.K) := by
  intro pins s σ H x0 y0 v u Q I rx ru hh
  obtain ⟨p, xs, i, z, ex, ei, hq, h0, he, q⟩ := hh
  subst ex
  subst ei
  cases rx
  obtain ⟨t, et⟩ := ru
  subst et
  obtain ⟨its, r, pl, _⟩ := I.list hq
  obtain ⟨j, h1, h2, h3, _, h5⟩ := atI_get he
  obtain ⟨y, ey, ry⟩ := r.get h2
  have hl := r.length
  have hn := line63
  rw [seqIndex_of h0 h5] at h1
  have hj : i.toNat = j := Option.some.inj h1
  exact wpAny_getItem_list pl.isList h0 (by omega) (by rw [hj]; simpa using ey) ⟨z, H, I, ry, q⟩
def rIsNA : R2 := fun x y H Q => y = .non ∧ Q (.bl (decide (x = .non))) H
def rNotNA : R2 := fun x y H Q => y = .non ∧ Q (.bl (!decide (x = .non))) H
def rMax2 : List V → Hp → VK → Prop := fun xs H Q => ∃ i j, xs = [.int i, .int j] ∧ Q (.int (max i j)) H
def rMin2 : List V → Hp → VK → Prop := fun xs H Q => ∃ i j, xs = [.int i, .int j] ∧ Q (.int (min i j)) H
def rAbs : List V → Hp → VK → Prop := fun xs H Q => ∃ i, xs = [.int i] ∧ Q (.int (if i < 0 then -i else i)) H
theorem call_max2A (hc : X.calm = true) : CallR X (.builtin "max") rMax2 := by
  have e : rMax2 = fun xs H Q => ∃ i j, xs = [V.int i, V.int j] ∧ Q (.int (if j > i then j else i)) H := by
    funext xs H Q
    have e2 : ∀ i j : Int, max i j = if j > i then j else i := fun i j => by
      by_cases h : j > i
      · rw [if_pos h]
        omega
      · rw [if_neg h]
        omega
    show (∃ i j, xs = [V.int i, V.int j] ∧ Q (.int (max i j)) H) = _
    simp only [e2]
  rw [e]
  exact call_max2 hc
theorem call_min2A (hc : X.calm = true) : CallR X (.builtin "min") rMin2 := by
  have e : rMin2 = fun xs H Q => ∃ i j, xs = [V.int i, V.int j] ∧ Q (.int (if j < i then j else i)) H := by
    funext xs H Q
    have e2 : ∀ i j : Int, min i j = if j < i then j else i := fun i j => by
      by_cases h : j < i
      · rw [if_pos h]
        omega
      · rw [if_neg h]
        omega
    show (∃ i j, xs = [V.int i, V.int j] ∧ Q (.int (min i j)) H) = _
    simp only [e2]
  rw [e]
  exact call_min2 hc
theorem call_absA : CallR X (.builtin "abs") rAbs := call_abs
def rInt1 : List V → Hp → VK → Prop := fun xs H Q => (∃ i, xs = [.int i] ∧ Q (.int i) H) ∨ ∃ k, xs = [.bl k] ∧ Q (.int (if k then 1 else 0)) H
theorem call_int1A : CallR X (.type "int") rInt1 := call_int1
def rList1 (K : PySem.W.Frag) : List V → Hp → VK → Prop := Evl.rListS K
theorem call_listA : CallR X (.type "list") (rList1 X.K) := call_list_of
end

/-! ### the same rules, the written part K named (they may stand in a comprehension's block) -/
section
variable {X : Cx} {K : PySem.W.Frag}
theorem ixA (hk : X.K = K) : IxR X (rIx K) := hk ▸ ix_seq
theorem slA (hk : X.K = K) : SlR X (rSlL K) := hk ▸ sl_list
theorem lenA (hk : X.K = K) : CallR X (.builtin "len") (rLen K) := hk ▸ call_lenA
theorem eqA (hk : X.K = K) (hu : X.A.units + 64 < cLine) : OpR X (compareOp .Eq) (rEqA K) := hk ▸ op_eqA hu
theorem neA (hk : X.K = K) (hu : X.A.units + 64 < cLine) : OpR X (compareOp .NotEq) (rNeA K) := hk ▸ op_neA hu
theorem inA (hk : X.K = K) : OpR X (compareOp .In) (rIn K false) := hk ▸ op_inA
theorem isiA (hk : X.K = K) : CallR X (.builtin "isinstance") (rIsi K) := hk ▸ call_isi
theorem pe_revK {e : Expr} {te : TE} {k : Nat} {p1 p2 p3 pos : Pos} (hk : X.K = K) (he : PE X e te) : PE X (.Subscript e (.Slice none none (some (.UnaryOp .USub (.Constant (.int 1) k p1) p2)) p3) pos) (tRevL K te) := hk ▸ pe_revL he
theorem listA (hk : X.K = K) : CallR X (.type "list") (rList1 K) := hk ▸ call_listA
theorem getA (hk : X.K = K) : PGet X (rGetL K) := hk ▸ pget_list
theorem piL {tg l : Expr} {tl : TE} (hk : X.K = K) (hl : PE X l tl) : PI X tg l (iList K tl) := hk ▸ pi_list hl
end

/-! ### heaps -/
/-- all of H is there in H' -/
abbrev Ex := Evl.Ex
/-- all of H but what stands at h -/
def ExM (h : Addr) (H H' : Hp) : Prop := ∀ a o, a ≠ h → H a = some o → H' a = some o
theorem Ex.refl (H : Hp) : Ex H H := Evl.Ex.refl H
theorem Ex.trans {H G F : Hp} (a : Ex H G) (b : Ex G F) : Ex H F := Evl.Ex.trans a b
theorem Ex.new {H : Hp} {a : Addr} {u : HO} (h : H a = none) : Ex H (L2.upd H a u) := Evl.Ex.new h
theorem Ex.mut {H G : Hp} {a : Addr} {u : HO} (e : Ex H G) (h : H a = none) : Ex H (L2.upd G a u) := Evl.Ex.mut e h
theorem Ex.exm {Z H H' : Hp} {h : Addr} (e : Ex Z H) (hz : Z h = none) (m : ExM h H H') : Ex Z H' := fun a o ha => m a o (ne_of_none ha hz) (e a o ha)
theorem Ex.toM {H H' : Hp} {h : Addr} (e : Ex H H') : ExM h H H' := fun a o _ ha => e a o ha
theorem ExM.refl {h : Addr} (H : Hp) : ExM h H H := fun _ _ _ e => e
theorem ExM.trans {h : Addr} {H H1 H2 : Hp} (a : ExM h H H1) (b : ExM h H1 H2) : ExM h H H2 := fun x o n e => b x o n (a x o n e)
theorem ExM.upd {h : Addr} {H : Hp} {o : HO} : ExM h H (upd H h o) := fun a u n e => by
  rw [upd_ne n]
  exact e
/-- a heap without one object -/
def cutH (H : Hp) (h : Addr) : Hp := fun b => if b = h then none else H b
theorem Ex.back {H H' : Hp} {p : Addr} (e : Ex H H') (h : H' p = none) : H p = none := by
  cases h1 : H p with
  | none => rfl
  | some o =>
    rw [e p o h1] at h
    cases h
theorem ExM.back {H H' : Hp} {h p : Addr} (e : ExM h H H') (hp : H' p = none) (n : p ≠ h) : H p = none := by
  cases h1 : H p with
  | none => rfl
  | some o =>
    rw [e p o n h1] at hp
    cases hp
theorem Ex.rd {H G : Hp} {p : Addr} {o : HO} (e : Ex H G) (h : Rd H p o) : Rd G p o := Evl.ex_rd e h
theorem Ex.sq {K : PySem.W.Frag} {H G : Hp} {p : Addr} {ys : List V} (e : Ex H G) (h : SqL K H p ys) : SqL K G p ys := Evl.ex_l e h
theorem Ex.st {K : PySem.W.Frag} {H G : Hp} {p : Addr} {ys : List V} (e : Ex H G) (h : SqT K H p ys) : SqT K G p ys := Evl.ex_t e h
theorem sq_of {K : PySem.W.Frag} {H : Hp} {p : Addr} {ys : List V} (h : H p = some (.lst ys)) : SqL K H p ys := SqL.of h
theorem st_of {K : PySem.W.Frag} {H : Hp} {p : Addr} {ys : List V} (h : H p = some (.tup ys)) : SqT K H p ys := SqT.of h
theorem sz_of {m : Nat} (h : m ≤ 100000) : m ≤ sizeLine := Evl.sz_of h
theorem sz_lt {m : Nat} (h : m < 100000) : m < sizeLine := Evl.sz_lt h

/-! ### places, first -/
theorem atI_lt {α : Type} {xs : List α} {i : Int} {v : α} (h0 : 0 ≤ i) (h : xs[i.toNat]? = some v) : atI xs i = some v := by
  have e : ((i.toNat : Nat) : Int) = i := Int.toNat_of_nonneg h0
  have q := atI_nat (xs := xs) (j := i.toNat) h
  rw [e] at q
  exact q
theorem ixN_lt {n : Nat} {i : Int} (h0 : 0 ≤ i) (h : i < n) : ixN n i = some i.toNat := by
  unfold ixN
  rw [if_pos h0, if_pos h]

/-! ### steps of a reading: each turns what is to be shown into what it asks next -/
section
variable {K : PySem.W.Frag} {σ : L2.St} {H : Hp} {ta tb tc te : TE} {t u : TT} {D : Ends} {Q : VK} {QB : Bool → Hp → Prop} {v x y : V} {p : Prop} {A B : Prop}
theorem s_var {i : Nat} (h : σ[i]? = some (some v)) (q : Q v H) : tVar i σ H Q := ⟨v, h, q⟩
theorem s_c (q : Q v H) : tC v σ H Q := q
theorem s_op {r : R2} (q : ta σ H fun x H1 => tb σ H1 fun y H2 => r x y H2 Q) : tOp r ta tb σ H Q := q
theorem s_un {r : V → Hp → VK → Prop} (q : ta σ H fun x H1 => r x H1 Q) : tUn r ta σ H Q := q
theorem s_chain {r r' : R2} (q : ta σ H fun x H1 => tb σ H1 fun y H2 => r x y H2 fun z H3 => ∃ k, z = .bl k ∧ (if k = true then tc σ H3 fun w' H4 => r' y w' H4 Q else Q (.bl false) H3)) : tChain r r' ta tb tc σ H Q := q
theorem s_I0 {g : Int → Int → V} {i j : Int} (q : Q (g i j) H) : rI0 g (.int i) (.int j) H Q := ⟨i, j, rfl, rfl, q⟩
theorem s_U {g : Int → V} {i : Int} (q : Q (g i) H) : rU g (.int i) H Q := ⟨i, rfl, q⟩
theorem s_plusI {i j : Int} (q : Q (.int (i + j)) H) : rPlus (.int i) (.int j) H Q := .inl ⟨i, j, rfl, rfl, q⟩
theorem s_mulL {i j : Int} (c : -(2 ^ 64) < i ∧ i < 2 ^ 64) (q : Q (.int (i * j)) H) : rMult (.int i) (.int j) H Q := .inr (.inl ⟨i, j, rfl, rfl, .inl c, q⟩)
theorem s_mulR {i j : Int} (c : -(2 ^ 64) < j ∧ j < 2 ^ 64) (q : Q (.int (i * j)) H) : rMult (.int i) (.int j) H Q := .inr (.inl ⟨i, j, rfl, rfl, .inr c, q⟩)
theorem s_div {i j : Int} {g : Int → Int → V} (h : 0 < j) (h2 : j < 2 ^ 63) (q : Q (g i j) H) : rI CDivW g (.int i) (.int j) H Q :=
  ⟨i, j, rfl, rfl, wide_div (b := 63) h (by have e : (2 : Int) ^ 63 = 9223372036854775808 := by decide
                                            have e2 : (2 : Nat) ^ 63 = 9223372036854775808 := by decide
                                            omega) (by decide) (by decide), q⟩
theorem s_mod {i j : Int} (h : 0 < j) (q : 0 ≤ i % j → i % j < j → Q (.int (i % j)) H) : rI (fun _ j => 0 < j) (fun i j => .int (i % j)) (.int i) (.int j) H Q := ⟨i, j, rfl, rfl, h, q (Int.emod_nonneg i (Int.ne_of_gt h)) (Int.emod_lt_of_pos i h)⟩
theorem s_pow2_50 (q : Q (.int 1125899906842624) H) : rI CPow (fun i j => .int (i ^ j.toNat)) (.int 2) (.int 50) H Q := ⟨2, 50, rfl, rfl, ⟨by decide, by decide, by decide⟩, by
  have e : (2 : Int) ^ Int.toNat 50 = 1125899906842624 := by decide
  show Q (.int ((2 : Int) ^ Int.toNat 50)) H
  rw [e]
  exact q⟩
theorem s_pow2_54 (q : Q (.int 18014398509481984) H) : rI CPow (fun i j => .int (i ^ j.toNat)) (.int 2) (.int 54) H Q := ⟨2, 54, rfl, rfl, ⟨by decide, by decide, by decide⟩, by
  have e : (2 : Int) ^ Int.toNat 54 = 18014398509481984 := by decide
  show Q (.int ((2 : Int) ^ Int.toNat 54)) H
  rw [e]
  exact q⟩
theorem s_pow2_55 (q : Q (.int 36028797018963968) H) : rI CPow (fun i j => .int (i ^ j.toNat)) (.int 2) (.int 55) H Q := ⟨2, 55, rfl, rfl, ⟨by decide, by decide, by decide⟩, by
  have e : (2 : Int) ^ Int.toNat 55 = 36028797018963968 := by decide
  show Q (.int ((2 : Int) ^ Int.toNat 55)) H
  rw [e]
  exact q⟩
theorem s_pow2_56 (q : Q (.int 72057594037927936) H) : rI CPow (fun i j => .int (i ^ j.toNat)) (.int 2) (.int 56) H Q := ⟨2, 56, rfl, rfl, ⟨by decide, by decide, by decide⟩, by
  have e : (2 : Int) ^ Int.toNat 56 = 72057594037927936 := by decide
  show Q (.int ((2 : Int) ^ Int.toNat 56)) H
  rw [e]
  exact q⟩
theorem s_pow2_57 (q : Q (.int 144115188075855872) H) : rI CPow (fun i j => .int (i ^ j.toNat)) (.int 2) (.int 57) H Q := ⟨2, 57, rfl, rfl, ⟨by decide, by decide, by decide⟩, by
  have e : (2 : Int) ^ Int.toNat 57 = 144115188075855872 := by decide
  show Q (.int ((2 : Int) ^ Int.toNat 57)) H
  rw [e]
  exact q⟩
theorem s_pow2_58 (q : Q (.int 288230376151711744) H) : rI CPow (fun i j => .int (i ^ j.toNat)) (.int 2) (.int 58) H Q := ⟨2, 58, rfl, rfl, ⟨by decide, by decide, by decide⟩, by
  have e : (2 : Int) ^ Int.toNat 58 = 288230376151711744 := by decide
  show Q (.int ((2 : Int) ^ Int.toNat 58)) H
  rw [e]
  exact q⟩
theorem s_pow2_59 (q : Q (.int 576460752303423488) H) : rI CPow (fun i j => .int (i ^ j.toNat)) (.int 2) (.int 59) H Q := ⟨2, 59, rfl, rfl, ⟨by decide, by decide, by decide⟩, by
  have e : (2 : Int) ^ Int.toNat 59 = 576460752303423488 := by decide
  show Q (.int ((2 : Int) ^ Int.toNat 59)) H
  rw [e]
  exact q⟩
theorem s_pow2_60 (q : Q (.int 1152921504606846976) H) : rI CPow (fun i j => .int (i ^ j.toNat)) (.int 2) (.int 60) H Q := ⟨2, 60, rfl, rfl, ⟨by decide, by decide, by decide⟩, by
  have e : (2 : Int) ^ Int.toNat 60 = 1152921504606846976 := by decide
  show Q (.int ((2 : Int) ^ Int.toNat 60)) H
  rw [e]
  exact q⟩
theorem s_pow2_61 (q : Q (.int 2305843009213693952) H) : rI CPow (fun i j => .int (i ^ j.toNat)) (.int 2) (.int 61) H Q := ⟨2, 61, rfl, rfl, ⟨by decide, by decide, by decide⟩, by
  have e : (2 : Int) ^ Int.toNat 61 = 2305843009213693952 := by decide
  show Q (.int ((2 : Int) ^ Int.toNat 61)) H
  rw [e]
  exact q⟩
theorem s_pow2_62 (q : Q (.int 4611686018427387904) H) : rI CPow (fun i j => .int (i ^ j.toNat)) (.int 2) (.int 62) H Q := ⟨2, 62, rfl, rfl, ⟨by decide, by decide, by decide⟩, by
  have e : (2 : Int) ^ Int.toNat 62 = 4611686018427387904 := by decide
  show Q (.int ((2 : Int) ^ Int.toNat 62)) H
  rw [e]
  exact q⟩
theorem s_pow2_63 (q : Q (.int 9223372036854775808) H) : rI CPow (fun i j => .int (i ^ j.toNat)) (.int 2) (.int 63) H Q := ⟨2, 63, rfl, rfl, ⟨by decide, by decide, by decide⟩, by
  have e : (2 : Int) ^ Int.toNat 63 = 9223372036854775808 := by decide
  show Q (.int ((2 : Int) ^ Int.toNat 63)) H
  rw [e]
  exact q⟩
theorem s_pow2_64 (q : Q (.int 18446744073709551616) H) : rI CPow (fun i j => .int (i ^ j.toNat)) (.int 2) (.int 64) H Q := ⟨2, 64, rfl, rfl, ⟨by decide, by decide, by decide⟩, by
  have e : (2 : Int) ^ Int.toNat 64 = 18446744073709551616 := by decide
  show Q (.int ((2 : Int) ^ Int.toNat 64)) H
  rw [e]
  exact q⟩
theorem s_pow10_1 (q : Q (.int 10) H) : rI CPow (fun i j => .int (i ^ j.toNat)) (.int 10) (.int 1) H Q := ⟨10, 1, rfl, rfl, ⟨by decide, by decide, by decide⟩, by
  have e : (10 : Int) ^ Int.toNat 1 = 10 := by decide
  show Q (.int ((10 : Int) ^ Int.toNat 1)) H
  rw [e]
  exact q⟩
theorem s_pow10_2 (q : Q (.int 100) H) : rI CPow (fun i j => .int (i ^ j.toNat)) (.int 10) (.int 2) H Q := ⟨10, 2, rfl, rfl, ⟨by decide, by decide, by decide⟩, by
  have e : (10 : Int) ^ Int.toNat 2 = 100 := by decide
  show Q (.int ((10 : Int) ^ Int.toNat 2)) H
  rw [e]
  exact q⟩
theorem s_pow10_3 (q : Q (.int 1000) H) : rI CPow (fun i j => .int (i ^ j.toNat)) (.int 10) (.int 3) H Q := ⟨10, 3, rfl, rfl, ⟨by decide, by decide, by decide⟩, by
  have e : (10 : Int) ^ Int.toNat 3 = 1000 := by decide
  show Q (.int ((10 : Int) ^ Int.toNat 3)) H
  rw [e]
  exact q⟩
theorem s_pow10_4 (q : Q (.int 10000) H) : rI CPow (fun i j => .int (i ^ j.toNat)) (.int 10) (.int 4) H Q := ⟨10, 4, rfl, rfl, ⟨by decide, by decide, by decide⟩, by
  have e : (10 : Int) ^ Int.toNat 4 = 10000 := by decide
  show Q (.int ((10 : Int) ^ Int.toNat 4)) H
  rw [e]
  exact q⟩
theorem s_pow10_5 (q : Q (.int 100000) H) : rI CPow (fun i j => .int (i ^ j.toNat)) (.int 10) (.int 5) H Q := ⟨10, 5, rfl, rfl, ⟨by decide, by decide, by decide⟩, by
  have e : (10 : Int) ^ Int.toNat 5 = 100000 := by decide
  show Q (.int ((10 : Int) ^ Int.toNat 5)) H
  rw [e]
  exact q⟩
theorem s_pow10_6 (q : Q (.int 1000000) H) : rI CPow (fun i j => .int (i ^ j.toNat)) (.int 10) (.int 6) H Q := ⟨10, 6, rfl, rfl, ⟨by decide, by decide, by decide⟩, by
  have e : (10 : Int) ^ Int.toNat 6 = 1000000 := by decide
  show Q (.int ((10 : Int) ^ Int.toNat 6)) H
  rw [e]
  exact q⟩
theorem s_pow10_7 (q : Q (.int 10000000) H) : rI CPow (fun i j => .int (i ^ j.toNat)) (.int 10) (.int 7) H Q := ⟨10, 7, rfl, rfl, ⟨by decide, by decide, by decide⟩, by
  have e : (10 : Int) ^ Int.toNat 7 = 10000000 := by decide
  show Q (.int ((10 : Int) ^ Int.toNat 7)) H
  rw [e]
  exact q⟩
theorem s_pow10_8 (q : Q (.int 100000000) H) : rI CPow (fun i j => .int (i ^ j.toNat)) (.int 10) (.int 8) H Q := ⟨10, 8, rfl, rfl, ⟨by decide, by decide, by decide⟩, by
  have e : (10 : Int) ^ Int.toNat 8 = 100000000 := by decide
  show Q (.int ((10 : Int) ^ Int.toNat 8)) H
  rw [e]
  exact q⟩
theorem s_pow10_9 (q : Q (.int 1000000000) H) : rI CPow (fun i j => .int (i ^ j.toNat)) (.int 10) (.int 9) H Q := ⟨10, 9, rfl, rfl, ⟨by decide, by decide, by decide⟩, by
  have e : (10 : Int) ^ Int.toNat 9 = 1000000000 := by decide
  show Q (.int ((10 : Int) ^ Int.toNat 9)) H
  rw [e]
  exact q⟩
theorem s_pow10_10 (q : Q (.int 10000000000) H) : rI CPow (fun i j => .int (i ^ j.toNat)) (.int 10) (.int 10) H Q := ⟨10, 10, rfl, rfl, ⟨by decide, by decide, by decide⟩, by
  have e : (10 : Int) ^ Int.toNat 10 = 10000000000 := by decide
  show Q (.int ((10 : Int) ^ Int.toNat 10)) H
  rw [e]
  exact q⟩
theorem s_pow10_11 (q : Q (.int 100000000000) H) : rI CPow (fun i j => .int (i ^ j.toNat)) (.int 10) (.int 11) H Q := ⟨10, 11, rfl, rfl, ⟨by decide, by decide, by decide⟩, by
  have e : (10 : Int) ^ Int.toNat 11 = 100000000000 := by decide
  show Q (.int ((10 : Int) ^ Int.toNat 11)) H
  rw [e]
  exact q⟩
theorem s_pow10_12 (q : Q (.int 1000000000000) H) : rI CPow (fun i j => .int (i ^ j.toNat)) (.int 10) (.int 12) H Q := ⟨10, 12, rfl, rfl, ⟨by decide, by decide, by decide⟩, by
  have e : (10 : Int) ^ Int.toNat 12 = 1000000000000 := by decide
  show Q (.int ((10 : Int) ^ Int.toNat 12)) H
  rw [e]
  exact q⟩
theorem s_pow10_18 (q : Q (.int 1000000000000000000) H) : rI CPow (fun i j => .int (i ^ j.toNat)) (.int 10) (.int 18) H Q := ⟨10, 18, rfl, rfl, ⟨by decide, by decide, by decide⟩, by
  have e : (10 : Int) ^ Int.toNat 18 = 1000000000000000000 := by decide
  show Q (.int ((10 : Int) ^ Int.toNat 18)) H
  rw [e]
  exact q⟩
theorem s_pow10_39 (q : Q (.int 1000000000000000000000000000000000000000) H) : rI CPow (fun i j => .int (i ^ j.toNat)) (.int 10) (.int 39) H Q := ⟨10, 39, rfl, rfl, ⟨by decide, by decide, by decide⟩, by
  have e : (10 : Int) ^ Int.toNat 39 = 1000000000000000000000000000000000000000 := by decide
  show Q (.int ((10 : Int) ^ Int.toNat 39)) H
  rw [e]
  exact q⟩
theorem s_pow {i j : Int} {g : Int → Int → V} (h1 : 0 ≤ j ∧ j ≤ 1000) (h2 : i.natAbs < 2 ^ 64) (q : Q (g i j) H) : rI CPow g (.int i) (.int j) H Q := ⟨i, j, rfl, rfl, ⟨h1.1, by omega, h2⟩, q⟩
theorem s_eqI {a b : Int} (q : Q (.bl (decide (a = b))) H) : rEqA K (.int a) (.int b) H Q := .inl ⟨rfl, by
  have e : decide (V.int a = V.int b) = decide (a = b) := by rw [dec_int, Bool.beq_eq_decide_eq]
  rw [e]
  exact q⟩
theorem s_neI {a b : Int} (q : Q (.bl (decide (a ≠ b))) H) : rNeA K (.int a) (.int b) H Q := .inl ⟨rfl, by
  have e : (!decide (V.int a = V.int b)) = decide (a ≠ b) := by rw [dec_int, Bool.beq_eq_decide_eq, decide_not]
  rw [e]
  exact q⟩
theorem s_eqB {a b : Bool} (q : Q (.bl (decide (a = b))) H) : rEqA K (.bl a) (.bl b) H Q := .inl ⟨rfl, by
  have e : decide (V.bl a = V.bl b) = decide (a = b) := by cases a <;> cases b <;> rfl
  rw [e]
  exact q⟩
theorem s_neB {a b : Bool} (q : Q (.bl (decide (a ≠ b))) H) : rNeA K (.bl a) (.bl b) H Q := .inl ⟨rfl, by
  have e : (!decide (V.bl a = V.bl b)) = decide (a ≠ b) := by cases a <;> cases b <;> rfl
  rw [e]
  exact q⟩
theorem s_eqS {a b : Str} (q : Q (.bl (decide (a = b))) H) : rEqA K (.str a) (.str b) H Q := .inl ⟨rfl, by
  have e : decide (V.str a = V.str b) = decide (a = b) := by
    by_cases h : a = b
    · rw [h, decide_eq_true rfl, decide_eq_true rfl]
    · rw [decide_eq_false h, decide_eq_false (fun e => h (V.str.inj e))]
  rw [e]
  exact q⟩
theorem s_neS {a b : Str} (q : Q (.bl (decide (a ≠ b))) H) : rNeA K (.str a) (.str b) H Q := .inl ⟨rfl, by
  have e : (!decide (V.str a = V.str b)) = decide (a ≠ b) := by
    by_cases h : a = b
    · rw [h, decide_eq_true rfl, decide_eq_false (fun z => z rfl)]
      rfl
    · rw [decide_eq_false (fun e => h (V.str.inj e)), decide_eq_true h]
      rfl
  rw [e]
  exact q⟩
theorem s_isN0 (q : Q (.bl true) H) : rIsNA .non .non H Q := ⟨rfl, q⟩
theorem s_isN1 {i : Int} (q : Q (.bl false) H) : rIsNA (.int i) .non H Q := ⟨rfl, q⟩
theorem s_isN2 {i : Addr} (q : Q (.bl false) H) : rIsNA (.ref i) .non H Q := ⟨rfl, q⟩
theorem s_isN3 {i : Str} (q : Q (.bl false) H) : rIsNA (.str i) .non H Q := ⟨rfl, q⟩
theorem s_notN0 (q : Q (.bl false) H) : rNotNA .non .non H Q := ⟨rfl, q⟩
theorem s_notN1 {i : Int} (q : Q (.bl true) H) : rNotNA (.int i) .non H Q := ⟨rfl, q⟩
theorem s_notN2 {i : Addr} (q : Q (.bl true) H) : rNotNA (.ref i) .non H Q := ⟨rfl, q⟩
theorem s_notN3 {i : Str} (q : Q (.bl true) H) : rNotNA (.str i) .non H Q := ⟨rfl, q⟩
/-- subscripts -/
theorem s_ixL {a : Addr} {xs : List V} {i : Int} (h : SqL K H a xs) (e : atI xs i = some v) (q : Q v H) : rIx K (.ref a) (.int i) H Q := .inl ⟨a, xs, i, v, rfl, rfl, h, e, q⟩
theorem s_ixT {a : Addr} {xs : List V} {i : Int} (h : SqT K H a xs) (e : atI xs i = some v) (q : Q v H) : rIx K (.ref a) (.int i) H Q := .inr (.inl ⟨a, xs, i, v, rfl, rfl, h, e, q⟩)
theorem s_getL {a : Addr} {xs : List V} {i : Int} (h : SqL K H a xs) (h0 : 0 ≤ i) (e : atI xs i = some v) (q : Q v H) : rGetL K (.ref a) (.int i) H Q := ⟨a, xs, i, v, rfl, rfl, h, h0, e, q⟩
/-- tests -/
theorem s_test (q : te σ H fun x H' => ∃ k, x = .bl k ∧ QB k H') : tTest te σ H QB := q
theorem s_tB (q : te σ H fun x H' => ∃ k, x = .bl k ∧ QB k H') : tB te σ H QB := q
theorem s_bl {b : Bool} {R : Bool → Prop} (q : R b) : ∃ k, V.bl b = V.bl k ∧ R k := ⟨b, rfl, q⟩
theorem s_and (q : t σ H fun c H1 => if c = true then u σ H1 QB else QB false H1) : tAnd t u σ H QB := q
theorem s_or (q : t σ H fun c H1 => if c = true then QB true H1 else u σ H1 QB) : tOr t u σ H QB := q
theorem s_not (q : t σ H fun c H1 => QB (!c) H1) : tNot t σ H QB := q
theorem s_andV (q : ta σ H fun x H1 => ∃ c, x = .bl c ∧ if c = true then tb σ H1 Q else Q (.bl false) H1) : tAndV ta tb σ H Q := q
theorem s_orV (q : ta σ H fun x H1 => ∃ c, x = .bl c ∧ if c = true then Q (.bl true) H1 else tb σ H1 Q) : tOrV ta tb σ H Q := q
theorem s_notV (q : ta σ H fun x H1 => ∃ c, x = .bl c ∧ Q (.bl (!c)) H1) : tNotV ta σ H Q := q
theorem s_ifE (q : t σ H fun c H1 => if c = true then ta σ H1 Q else tb σ H1 Q) : tIf t ta tb σ H Q := q
theorem i_d [Decidable p] (h1 : p → A) (h2 : ¬ p → B) : if decide p = true then A else B := by
  by_cases h : p
  · rw [if_pos (decide_eq_true h)]
    exact h1 h
  · rw [if_neg (fun z => h (of_decide_eq_true z))]
    exact h2 h
theorem i_n [Decidable p] (h1 : ¬ p → A) (h2 : p → B) : if (!decide p) = true then A else B := by
  by_cases h : p
  · rw [decide_eq_true h]
    exact h2 h
  · rw [decide_eq_false h]
    exact h1 h
theorem i_t (h : A) : if true = true then A else B := by
  rw [if_pos rfl]
  exact h
theorem i_f (h : B) : if false = true then A else B := by
  rw [if_neg Bool.false_ne_true]
  exact h
theorem i_nt (h : B) : if (!true) = true then A else B := i_f h
theorem i_nf (h : A) : if (!false) = true then A else B := i_t h
theorem i_dt [Decidable p] (hp : p) (h : A) : if decide p = true then A else B := i_d (fun _ => h) (fun n => absurd hp n)
theorem i_df [Decidable p] (hp : ¬ p) (h : B) : if decide p = true then A else B := i_d (fun z => absurd z hp) (fun _ => h)
theorem i_ndt [Decidable p] (hp : p) (h : B) : if (!decide p) = true then A else B := i_n (fun n => absurd hp n) (fun _ => h)
theorem i_ndf [Decidable p] (hp : ¬ p) (h : A) : if (!decide p) = true then A else B := i_n (fun _ => h) (fun z => absurd z hp)
/-- calls, displays, slices -/
theorem s_nil {QA : List V → Hp → Prop} (q : QA [] H) : tNil σ H QA := q
theorem s_cons {tr : TA} {QA : List V → Hp → Prop} (q : ta σ H fun x H1 => tr σ H1 fun xs H2 => QA (x :: xs) H2) : tCons ta tr σ H QA := q
theorem s_call {sp : Sp} {E : XK} {tr : TA} (q : tr σ H fun vs H1 => sp vs H1 Q E) : tCall sp [] E tr σ H Q := by
  have e : (fun (vs : List V) H1 => sp (vs ++ []) H1 Q E) = fun vs H1 => sp vs H1 Q E := by
    funext vs H1
    rw [List.append_nil]
  show tr σ H fun vs H1 => sp (vs ++ []) H1 Q E
  rw [e]
  exact q
theorem s_CB {r : List V → Hp → VK → Prop} {tr : TA} (q : tr σ H fun vs H1 => r vs H1 Q) : tCB r tr σ H Q := q
def NewL (xs : List V) (H : Hp) (Q : VK) : Prop := xs.length ≤ sizeLine ∧ ∀ p, H p = none → Q (.ref p) (upd H p (.lst xs))
def NewT (xs : List V) (H : Hp) (Q : VK) : Prop := xs.length ≤ sizeLine ∧ ∀ p, H p = none → Q (.ref p) (upd H p (.tup xs))
def NewRg (a b : Int) (H : Hp) (Q : VK) : Prop := RgOk a b ∧ ∀ p, H p = none → Q (.ref p) (upd H p (.lst (rgV a b)))
theorem s_lst {tr : TA} (q : tr σ H fun xs H1 => NewL xs H1 Q) : tLst tr σ H Q := q
theorem s_tup {tr : TA} (q : tr σ H fun xs H1 => NewT xs H1 Q) : tTup tr σ H Q := q
theorem s_lenL {a : Addr} {xs : List V} (h : SqL K H a xs) (q : Q (.int (xs.length : Int)) H) : rLen K [.ref a] H Q := .inl ⟨a, xs, rfl, .inl h, q⟩
theorem s_lenM {α : Type} {f : α → V} {l : List α} {a : Addr} (h : SqL K H a (l.map f)) (q : Q (.int (l.length : Int)) H) : rLen K [.ref a] H Q := .inl ⟨a, _, rfl, .inl h, by rw [List.length_map]; exact q⟩
theorem s_ixI {l : List Int} {a : Addr} {i : Int} (h : SqL K H a (l.map V.int)) (h0 : 0 ≤ i ∧ i < l.length) (q : ∀ v, l[i.toNat]? = some v → Q (.int v) H) : rIx K (.ref a) (.int i) H Q := by
  have hl : i.toNat < l.length := by omega
  exact .inl ⟨a, _, i, _, rfl, rfl, h, atI_lt h0.1 (by rw [List.getElem?_map, List.getElem?_eq_getElem hl]; rfl), q _ (List.getElem?_eq_getElem hl)⟩
theorem s_ix2b {a : Addr} {x y : Int} {b : Bool} (h : SqL K H a [.int x, .int y]) (q : ∀ v, (v = x ∨ v = y) → Q (.int v) H) : rIx K (.ref a) (.int (if b = true then 1 else 0)) H Q := by
  cases b
  · exact .inl ⟨a, _, 0, _, rfl, rfl, h, rfl, q _ (.inl rfl)⟩
  · exact .inl ⟨a, _, 1, _, rfl, rfl, h, rfl, q _ (.inr rfl)⟩
theorem s_ix2 {a : Addr} {x y i : Int} (h : SqL K H a [.int x, .int y]) (h0 : 0 ≤ i ∧ i < 2) (q : ∀ v, (i = 0 ∧ v = x ∨ i = 1 ∧ v = y) → Q (.int v) H) : rIx K (.ref a) (.int i) H Q := by
  have : i = 0 ∨ i = 1 := by omega
  rcases this with rfl | rfl
  · exact .inl ⟨a, _, 0, _, rfl, rfl, h, rfl, q _ (.inl ⟨rfl, rfl⟩)⟩
  · exact .inl ⟨a, _, 1, _, rfl, rfl, h, rfl, q _ (.inr ⟨rfl, rfl⟩)⟩
theorem s_ix3 {a : Addr} {x y z i : Int} (h : SqL K H a [.int x, .int y, .int z]) (h0 : 0 ≤ i ∧ i < 3) (q : ∀ v, (i = 0 ∧ v = x ∨ i = 1 ∧ v = y ∨ i = 2 ∧ v = z) → Q (.int v) H) : rIx K (.ref a) (.int i) H Q := by
  have : i = 0 ∨ i = 1 ∨ i = 2 := by omega
  rcases this with rfl | rfl | rfl
  · exact .inl ⟨a, _, 0, _, rfl, rfl, h, rfl, q _ (.inl ⟨rfl, rfl⟩)⟩
  · exact .inl ⟨a, _, 1, _, rfl, rfl, h, rfl, q _ (.inr (.inl ⟨rfl, rfl⟩))⟩
  · exact .inl ⟨a, _, 2, _, rfl, rfl, h, rfl, q _ (.inr (.inr ⟨rfl, rfl⟩))⟩
theorem s_ix4 {a : Addr} {x y z t i : Int} (h : SqL K H a [.int x, .int y, .int z, .int t]) (h0 : 0 ≤ i ∧ i < 4) (q : ∀ v, (i = 0 ∧ v = x ∨ i = 1 ∧ v = y ∨ i = 2 ∧ v = z ∨ i = 3 ∧ v = t) → Q (.int v) H) : rIx K (.ref a) (.int i) H Q := by
  have : i = 0 ∨ i = 1 ∨ i = 2 ∨ i = 3 := by omega
  rcases this with rfl | rfl | rfl | rfl
  · exact .inl ⟨a, _, 0, _, rfl, rfl, h, rfl, q _ (.inl ⟨rfl, rfl⟩)⟩
  · exact .inl ⟨a, _, 1, _, rfl, rfl, h, rfl, q _ (.inr (.inl ⟨rfl, rfl⟩))⟩
  · exact .inl ⟨a, _, 2, _, rfl, rfl, h, rfl, q _ (.inr (.inr (.inl ⟨rfl, rfl⟩)))⟩
  · exact .inl ⟨a, _, 3, _, rfl, rfl, h, rfl, q _ (.inr (.inr (.inr ⟨rfl, rfl⟩)))⟩
theorem s_lenT {a : Addr} {xs : List V} (h : SqT K H a xs) (q : Q (.int (xs.length : Int)) H) : rLen K [.ref a] H Q := .inl ⟨a, xs, rfl, .inr h, q⟩
theorem s_slL {a : Addr} {xs : List V} {lo hi : Option Int} (h : SqL K H a xs) (q : ∀ p, H p = none → Q (.ref p) (upd H p (.lst (cutV xs lo hi)))) : rSlL K (.ref a) lo hi H Q := ⟨a, xs, rfl, h, q⟩
theorem s_sl {r : V → Option Int → Option Int → Hp → VK → Prop} {tl th : TO} (q : te σ H fun x H1 => tl σ H1 fun l H2 => th σ H2 fun u H3 => r x l u H3 Q) : tSl r te tl th σ H Q := q
theorem s_np {QO : Option Int → Hp → Prop} (q : QO none H) : tNoPart σ H QO := q
theorem s_part {QO : Option Int → Hp → Prop} (q : te σ H fun x H1 => ∃ i, x = .int i ∧ QO (some i) H1) : tPart te σ H QO := q
theorem s_int {i : Int} {R : Int → Prop} (q : R i) : ∃ k, V.int i = V.int k ∧ R k := ⟨i, rfl, q⟩
theorem s_BM {T : String} {r : V → List V → Hp → VK → Prop} {tr : TA} (q : ta σ H fun x H1 => tyV K T x H1 ∧ tr σ H1 fun xs H2 => r x xs H2 Q) : tBM K T r ta tr σ H Q := q
theorem s_BM0 {T : String} {r : V → List V → Hp → VK → Prop} (q : ta σ H fun x H1 => tyV K T x H1 ∧ r x [] H1 Q) : tBM0 K T r ta σ H Q := q
theorem s_tyL {a : Addr} {xs : List V} {R : Prop} (h : SqL K H a xs) (q : R) : tyV K "list" (.ref a) H ∧ R := ⟨Or.inl ⟨rfl, xs, h⟩, q⟩
/-- statements -/
theorem s_seq {t u : TS} (q : t { D with nx := u D } σ H) : tSeq t u D σ H := q
theorem s_cut {t u : TS} (Mid : L2.St → Hp → Prop) (h : t { D with nx := Mid } σ H) (q : ∀ σ' H', Mid σ' H' → u D σ' H') : Evl.tCut t u D σ H := ⟨Mid, h, q⟩
theorem s_next (q : D.nx σ H) : tNext D σ H := q
theorem s_drop (q : te σ H fun _ H1 => D.nx σ H1) : tDrop te D σ H := q
theorem s_ret (q : te σ H D.rt) : tRet te D σ H := q
theorem s_if {t u : TS} {c : TT} (q : c σ H fun b H1 => if b = true then t D σ H1 else u D σ H1) : tIfS c t u D σ H := q
theorem s_asg {g : TG} (q : te σ H fun x H1 => g x σ H1 D.nx) : tAsg te g D σ H := q
theorem s_gname {i : Nat} {R : L2.St → Hp → Prop} (q : R (σ.set i (some v)) H) : gName i v σ H R := q
theorem s_gsub {to ti : TE} {ts : TSet} {R : L2.St → Hp → Prop} (q : to σ H fun o H1 => ti σ H1 fun i H2 => ts o i v H2 fun H3 => R σ H3) : gSub to ti ts v σ H R := q
theorem s_aug {i : Nat} {ti : TIp} (h : σ[i]? = some (some x)) (q : te σ H fun y H1 => ti x y H1 fun z H2 => D.nx (σ.set i (some z)) H2) : tAug i te ti D σ H := ⟨x, h, q⟩
theorem s_ipI {f : Int → Int → Int} {i j : Int} (q : Q (.int (f i j)) H) : ipI f (.int i) (.int j) H Q := ⟨i, j, rfl, rfl, q⟩
theorem s_augS {to ti : TE} {tget : V → V → Hp → VK → Prop} {tip : TIp} {tset : TSet}
    (q : to σ H fun o H1 => ti σ H1 fun i H2 => tget o i H2 fun x H3 => te σ H3 fun y H4 => tip x y H4 fun z H5 => tset o i z H5 fun H6 => D.nx σ H6) : tAugS to ti te tget tip tset D σ H := q
theorem s_max2 {i j : Int} (q : Q (.int (max i j)) H) : rMax2 [.int i, .int j] H Q := ⟨i, j, rfl, q⟩
theorem s_min2 {i j : Int} (q : Q (.int (min i j)) H) : rMin2 [.int i, .int j] H Q := ⟨i, j, rfl, q⟩
theorem s_abs {i : Int} (q : Q (.int (if i < 0 then -i else i)) H) : rAbs [.int i] H Q := ⟨i, rfl, q⟩
theorem s_int1 {i : Int} (q : Q (.int i) H) : rInt1 [.int i] H Q := .inl ⟨i, rfl, q⟩
theorem s_int1b {b : Bool} (q : Q (.int (if b then 1 else 0)) H) : rInt1 [.bl b] H Q := .inr ⟨b, rfl, q⟩
theorem s_isiI {n : String} {i : Int} {b : Bool} (h : kitB "int" n = some b) (q : Q (.bl b) H) : rIsi K [.int i, .ty n] H Q := ⟨.int i, .ty n, _, _, b, rfl, .ty n, .base (.int i), kit_ty h, q⟩
theorem s_isiB {n : String} {i : Bool} {b : Bool} (h : kitB "bool" n = some b) (q : Q (.bl b) H) : rIsi K [.bl i, .ty n] H Q := ⟨.bl i, .ty n, _, _, b, rfl, .ty n, .base (.bl i), kit_ty h, q⟩
theorem s_isiS {n : String} {i : Str} {b : Bool} (h : kitB "str" n = some b) (q : Q (.bl b) H) : rIsi K [.str i, .ty n] H Q := ⟨.str i, .ty n, _, _, b, rfl, .ty n, .base (.str i), kit_ty h, q⟩
theorem s_isiN {n : String} {b : Bool} (h : kitB "NoneType" n = some b) (q : Q (.bl b) H) : rIsi K [.non, .ty n] H Q := ⟨.non, .ty n, _, _, b, rfl, .ty n, .base .non, kit_ty h, q⟩
theorem ty_sq {a : Addr} {xs : List V} (h : SqL K H a xs) : TyX K H (.ref a) (.type "list") := by
  rcases h with (h | ⟨o, h⟩) | ⟨o, its, n, hk, hc, _⟩
  · exact .base (.lst h)
  · exact .base (.frz h)
  · exact .kList hk hc
theorem ty_st {a : Addr} {xs : List V} (h : SqT K H a xs) : TyX K H (.ref a) (.type "tuple") := by
  rcases h with (h | ⟨o, h⟩) | ⟨o, its, n, hk, hc, _⟩
  · exact .base (.tup h)
  · exact .fTuple h
  · exact .kTuple hk hc
theorem s_isiL {n : String} {a : Addr} {xs : List V} {b : Bool} (hs : SqL K H a xs) (h : kitB "list" n = some b) (q : Q (.bl b) H) : rIsi K [.ref a, .ty n] H Q := ⟨.ref a, .ty n, _, _, b, rfl, .ty n, ty_sq hs, kit_ty h, q⟩
theorem s_isiT {n : String} {a : Addr} {xs : List V} {b : Bool} (hs : SqT K H a xs) (h : kitB "tuple" n = some b) (q : Q (.bl b) H) : rIsi K [.ref a, .ty n] H Q := ⟨.ref a, .ty n, _, _, b, rfl, .ty n, ty_st hs, kit_ty h, q⟩
theorem k_ii : kitB "int" "int" = some true := by decide +kernel
theorem k_ib : kitB "int" "bool" = some false := by decide +kernel
theorem k_is : kitB "int" "str" = some false := by decide +kernel
theorem k_il : kitB "int" "list" = some false := by decide +kernel
theorem k_it : kitB "int" "tuple" = some false := by decide +kernel
theorem k_bi : kitB "bool" "int" = some true := by decide +kernel
theorem k_bb : kitB "bool" "bool" = some true := by decide +kernel
theorem k_bs : kitB "bool" "str" = some false := by decide +kernel
theorem k_bl' : kitB "bool" "list" = some false := by decide +kernel
theorem k_bt : kitB "bool" "tuple" = some false := by decide +kernel
theorem k_si : kitB "str" "int" = some false := by decide +kernel
theorem k_sb : kitB "str" "bool" = some false := by decide +kernel
theorem k_ss : kitB "str" "str" = some true := by decide +kernel
theorem k_sl : kitB "str" "list" = some false := by decide +kernel
theorem k_st : kitB "str" "tuple" = some false := by decide +kernel
theorem k_li : kitB "list" "int" = some false := by decide +kernel
theorem k_lb : kitB "list" "bool" = some false := by decide +kernel
theorem k_ls : kitB "list" "str" = some false := by decide +kernel
theorem k_ll : kitB "list" "list" = some true := by decide +kernel
theorem k_lt : kitB "list" "tuple" = some false := by decide +kernel
theorem k_ti : kitB "tuple" "int" = some false := by decide +kernel
theorem k_tb : kitB "tuple" "bool" = some false := by decide +kernel
theorem k_ts : kitB "tuple" "str" = some false := by decide +kernel
theorem k_tl : kitB "tuple" "list" = some false := by decide +kernel
theorem k_tt : kitB "tuple" "tuple" = some true := by decide +kernel
theorem k_ni : kitB "NoneType" "int" = some false := by decide +kernel
theorem k_nb : kitB "NoneType" "bool" = some false := by decide +kernel
theorem k_ns : kitB "NoneType" "str" = some false := by decide +kernel
theorem k_nl : kitB "NoneType" "list" = some false := by decide +kernel
theorem k_nt : kitB "NoneType" "tuple" = some false := by decide +kernel
end

section
variable {K : PySem.W.Frag} {σ : L2.St} {H : Hp} {ta tb tl te : TE} {tt : TT} {D : Ends} {Q : VK} {g : TG} {ts : TS} {vs : List Nat}
theorem s_yes {QB : Bool → Hp → Prop} (q : QB true H) : tYes σ H QB := q
theorem s_wp {A B : L2.St} {R : Prop} (h : wipe A vs = wipe B vs) (q : R) : wipe A vs = wipe B vs ∧ R := ⟨h, q⟩
/-! lists of a range -/
theorem s_lstRg {te : L2.St → Hp → (Int → Int → Hp → Prop) → Prop} (q : te σ H fun a b H1 => NewRg a b H1 Q) : tLstRg te σ H Q := q
theorem s_Rg1 {QR : Int → Int → Hp → Prop} (q : ta σ H fun x H1 => ∃ n, x = .int n ∧ QR 0 n H1) : tRg1 ta σ H QR := q
theorem s_Rg2 {QR : Int → Int → Hp → Prop} (q : ta σ H fun x H1 => tb σ H1 fun y H2 => ∃ i j, x = .int i ∧ y = .int j ∧ QR i j H2) : tRg2 ta tb σ H QR := q
theorem s_int2 {i j : Int} {R : Int → Int → Prop} (q : R i j) : ∃ k l, V.int i = V.int k ∧ V.int j = V.int l ∧ R k l := ⟨i, j, rfl, rfl, q⟩
theorem n_rg {a b : Int} (h : 0 ≤ a ∧ a ≤ 16000000 ∧ 0 ≤ b ∧ b ≤ 16000000) (q : ∀ p H', H p = none → Ex H H' → H' p = some (.lst (rgV a b)) → Q (.ref p) H') : NewRg a b H Q :=
  ⟨.of_le (by omega) (by omega) (by omega) (by omega), fun p hp => q p _ hp (Ex.new hp) upd_same⟩
/-! loops: what a for asks, and how it is answered by an invariant -/
def ForJ (g : TG) (tb : TS) (D : Ends) (σ : L2.St) (J : It) (H1 : Hp) : Prop := tFor (fun _ H R => R J H) g tb D σ H1
def ForL (K : PySem.W.Frag) (g : TG) (tb : TS) (D : Ends) (σ : L2.St) (x : V) (H1 : Hp) : Prop := ∃ a, x = .ref a ∧ (∃ xs, SqL K H1 a xs) ∧ ForJ g tb D σ (Itl K a) H1
def ForT (K : PySem.W.Frag) (g : TG) (tb : TS) (D : Ends) (σ : L2.St) (x : V) (H1 : Hp) : Prop := ∃ a, x = .ref a ∧ (∃ xs, SqT K H1 a xs) ∧ ForJ g tb D σ (Itt K a) H1
def ForR1 (g : TG) (tb : TS) (D : Ends) (σ : L2.St) (vs : List V) (H1 : Hp) : Prop := ∃ j : Int, vs = [.int j] ∧ -(2 ^ 62) ≤ j ∧ j < 2 ^ 62 ∧ ForJ g tb D σ (Itr 0 j.toNat) H1
def ForR2 (g : TG) (tb : TS) (D : Ends) (σ : L2.St) (vs : List V) (H1 : Hp) : Prop := ∃ i j : Int, vs = [.int i, .int j] ∧ (-(2 ^ 62) ≤ i ∧ i < 2 ^ 62 ∧ -(2 ^ 62) ≤ j ∧ j < 2 ^ 62) ∧ ForJ g tb D σ (Itr i (j - i).toNat) H1
def ForE (K : PySem.W.Frag) (g : TG) (tb : TS) (D : Ends) (σ : L2.St) (vs : List V) (H1 : Hp) : Prop := ∃ a xs, vs = [.ref a] ∧ SqL K H1 a xs ∧ ForJ g tb D σ (Ite K a) H1
def ForZ (K : PySem.W.Frag) (g : TG) (tb : TS) (D : Ends) (σ : L2.St) (vs : List V) (H1 : Hp) : Prop := ∃ a b xs ys, vs = [.ref a, .ref b] ∧ SqL K H1 a xs ∧ SqL K H1 b ys ∧ ForJ g tb D σ (Itz K a b) H1
def ForS (g : TG) (tb : TS) (D : Ends) (σ : L2.St) (v : V) (H1 : Hp) : Prop := ∃ x, v = .str x ∧ ForJ g tb D σ (Its x) H1
theorem s_forL (q : tl σ H fun x H1 => ForL K g ts D σ x H1) : tFor (iList K tl) g ts D σ H := q
theorem s_forT (q : tl σ H fun x H1 => ForT K g ts D σ x H1) : tFor (iTup K tl) g ts D σ H := q
theorem s_forR1 {ta : TA} (q : ta σ H fun x H1 => ForR1 g ts D σ x H1) : tFor (iRng1 ta) g ts D σ H := q
theorem s_forR2 {ta : TA} (q : ta σ H fun x H1 => ForR2 g ts D σ x H1) : tFor (iRng2 ta) g ts D σ H := q
theorem s_forE {ta : TA} (q : ta σ H fun x H1 => ForE K g ts D σ x H1) : tFor (iEnum K ta) g ts D σ H := q
theorem s_forZ {ta : TA} (q : ta σ H fun x H1 => ForZ K g ts D σ x H1) : tFor (iZip K ta) g ts D σ H := q
theorem s_forS (q : te σ H fun x H1 => ForS g ts D σ x H1) : tFor (iStr te) g ts D σ H := q
theorem u_forL {a : Addr} {xs : List V} (Pv : Nat → L2.St → Hp → Prop) (h : SqL K H a xs) (h0 : Pv 0 σ H) (hl : ∀ i σ H, i ≤ xs.length → Pv i σ H → SqL K H a xs)
    (hs : ∀ i x σ H, xs[i]? = some x → Pv i σ H → g x σ H fun σ2 H2 => ts { D with nx := Pv (i + 1), ct := Pv (i + 1), bk := D.nx } σ2 H2) (hd : ∀ σ H, Pv xs.length σ H → D.nx σ H) : ForL K g ts D σ (.ref a) H :=
  ⟨a, rfl, ⟨xs, h⟩, for_list Pv h0 hl hs hd⟩
theorem u_forR1 {n : Int} (Pv : Nat → L2.St → Hp → Prop) (hn : -1000000000000 ≤ n ∧ n ≤ 1000000000000) (h0 : Pv 0 σ H)
    (hs : ∀ (i : Nat) σ H, (i : Int) < n → Pv i σ H → g (.int (i : Int)) σ H fun σ2 H2 => ts { D with nx := Pv (i + 1), ct := Pv (i + 1), bk := D.nx } σ2 H2) (hd : ∀ σ H, Pv n.toNat σ H → D.nx σ H) : ForR1 g ts D σ [.int n] H := by
  have e62 : (2 : Int) ^ 62 = 4611686018427387904 := by decide
  refine ⟨n, rfl, by omega, by omega, for_range (lo := 0) (n := n.toNat) Pv h0 (fun i σ H hi p => ?_) hd⟩
  have e : (0 : Int) + (i : Int) = (i : Int) := Int.zero_add _
  rw [e]
  exact hs i σ H (by omega) p
theorem u_while {c : TT} (Pv : Nat → L2.St → Hp → Prop) (m0 : Nat) (h0 : Pv m0 σ H)
    (hs : ∀ m σ H, Pv m σ H → c σ H fun b H1 => if b = true then ∃ N : L2.St → Hp → Prop, (∀ σ' H', N σ' H' → ∃ m', m' < m ∧ Pv m' σ' H') ∧ ts { D with nx := N, ct := N, bk := D.nx } σ H1 else D.nx σ H1) : tWhile c ts D σ H := ⟨Pv, ⟨m0, h0⟩, hs⟩
theorem w_body {m : Nat} {Pv : Nat → L2.St → Hp → Prop} {rt : VK} {bk : L2.St → Hp → Prop} (q : ts ⟨fun σ' H' => ∃ m', m' < m ∧ Pv m' σ' H', rt, bk, fun σ' H' => ∃ m', m' < m ∧ Pv m' σ' H'⟩ σ H) :
    ∃ N : L2.St → Hp → Prop, (∀ σ' H', N σ' H' → ∃ m', m' < m ∧ Pv m' σ' H') ∧ ts ⟨N, rt, bk, N⟩ σ H := ⟨_, fun _ _ h => h, q⟩
/-! comprehensions -/
def LcJ (g : TG) (tt : TT) (te : TE) (vs : List Nat) (σ : L2.St) (J : It) (H1 : Hp) (Q : VK) : Prop := tLc (fun _ H R => R J H) g tt te vs σ H1 Q
def LcL (K : PySem.W.Frag) (g : TG) (tt : TT) (te : TE) (vs : List Nat) (σ : L2.St) (x : V) (H1 : Hp) (Q : VK) : Prop := ∃ a, x = .ref a ∧ (∃ xs, SqL K H1 a xs) ∧ LcJ g tt te vs σ (Itl K a) H1 Q
def LcT (K : PySem.W.Frag) (g : TG) (tt : TT) (te : TE) (vs : List Nat) (σ : L2.St) (x : V) (H1 : Hp) (Q : VK) : Prop := ∃ a, x = .ref a ∧ (∃ xs, SqT K H1 a xs) ∧ LcJ g tt te vs σ (Itt K a) H1 Q
def LcR1 (g : TG) (tt : TT) (te : TE) (vs : List Nat) (σ : L2.St) (x : List V) (H1 : Hp) (Q : VK) : Prop := ∃ j : Int, x = [.int j] ∧ -(2 ^ 62) ≤ j ∧ j < 2 ^ 62 ∧ LcJ g tt te vs σ (Itr 0 j.toNat) H1 Q
def LcR2 (g : TG) (tt : TT) (te : TE) (vs : List Nat) (σ : L2.St) (x : List V) (H1 : Hp) (Q : VK) : Prop := ∃ i j : Int, x = [.int i, .int j] ∧ (-(2 ^ 62) ≤ i ∧ i < 2 ^ 62 ∧ -(2 ^ 62) ≤ j ∧ j < 2 ^ 62) ∧ LcJ g tt te vs σ (Itr i (j - i).toNat) H1 Q
def LcE (K : PySem.W.Frag) (g : TG) (tt : TT) (te : TE) (vs : List Nat) (σ : L2.St) (x : List V) (H1 : Hp) (Q : VK) : Prop := ∃ a xs, x = [.ref a] ∧ SqL K H1 a xs ∧ LcJ g tt te vs σ (Ite K a) H1 Q
def LcZ (K : PySem.W.Frag) (g : TG) (tt : TT) (te : TE) (vs : List Nat) (σ : L2.St) (x : List V) (H1 : Hp) (Q : VK) : Prop := ∃ a b xs ys, x = [.ref a, .ref b] ∧ SqL K H1 a xs ∧ SqL K H1 b ys ∧ LcJ g tt te vs σ (Itz K a b) H1 Q
theorem s_lcL (q : tl σ H fun x H1 => LcL K g tt te vs σ x H1 Q) : tLc (iList K tl) g tt te vs σ H Q := q
theorem s_lcT (q : tl σ H fun x H1 => LcT K g tt te vs σ x H1 Q) : tLc (iTup K tl) g tt te vs σ H Q := q
theorem s_lcR1 {ta : TA} (q : ta σ H fun x H1 => LcR1 g tt te vs σ x H1 Q) : tLc (iRng1 ta) g tt te vs σ H Q := q
theorem s_lcR2 {ta : TA} (q : ta σ H fun x H1 => LcR2 g tt te vs σ x H1 Q) : tLc (iRng2 ta) g tt te vs σ H Q := q
theorem s_lcE {ta : TA} (q : ta σ H fun x H1 => LcE K g tt te vs σ x H1 Q) : tLc (iEnum K ta) g tt te vs σ H Q := q
theorem s_lcZ {ta : TA} (q : ta σ H fun x H1 => LcZ K g tt te vs σ x H1 Q) : tLc (iZip K ta) g tt te vs σ H Q := q
/-- the turns of a comprehension: what is kept stands in the relation R to its item; R is told at any heap that has all but the list that is made -/
theorem lc_turns {α : Type} {J : It} (l : List α) (p : α → Bool) (R : α → V → Hp → Prop) (mono : ∀ x y H1 H2, Ex H1 H2 → R x y H1 → R x y H2) (hz : l.length ≤ 40000)
    (hgo : ∀ i H', i < l.length → Ex H H' → J.go i H') (hst : ∀ H', Ex H H' → J.stop l.length H')
    (turn : ∀ D, H D = none → ∀ (i : Nat) x, l[i]? = some x → ∀ v H0 H', Ex H H0 → (∃ o, H0 D = some o) → J.yld i H0 v H' → Ex H0 H' ∧
      ∀ (A : VK) (B : Hp → Prop), (p x = true → ∀ y H4, Ex H' H4 → (∀ Z, ExM D H4 Z → Ex H Z → R x y Z) → A y H4) → (p x = false → ∀ H3, Ex H' H3 → B H3) →
        g v (wipe σ vs) H' fun σ2 H2 => wipe σ2 vs = wipe σ vs ∧ tt σ2 H2 fun b H3 => if b = true then te σ2 H3 A else B H3)
    (fin : ∀ D H' ys, H D = none → Ex H H' → H' D = some (.lst ys) → Paired (fun x y => R x y H') (l.filter p) ys → Q (.ref D) H') : LcJ g tt te vs σ J H Q := by
  intro D hD
  refine ⟨fun i m H' => m = l.length - i ∧ i ≤ l.length ∧ Ex H H' ∧ ∃ ys, H' D = some (.lst ys) ∧ ys.length ≤ i ∧ ∃ Z, Z D = none ∧ Ex Z H' ∧ ExM D H' Z ∧ Paired (fun x y => R x y Z) ((l.take i).filter p) ys,
    ⟨l.length, by omega, by omega, Ex.new hD, [], upd_same, Nat.le_refl _, H, hD, Ex.new hD, fun b o n e => by rw [upd_ne n] at e; exact e, .nil⟩, ?_⟩
  rintro i m H' ⟨rfl, hi, e, ys, hys, hly, Z, zD, zE, zM, pr⟩
  by_cases hlt : i < l.length
  · refine .inr ⟨hgo i H' hlt e, fun H'' => i + 1 ≤ l.length ∧ Ex H H'' ∧ ∃ ys, H'' D = some (.lst ys) ∧ ys.length ≤ i + 1 ∧ ∃ Z, Z D = none ∧ Ex Z H'' ∧ ExM D H'' Z ∧ Paired (fun x y => R x y Z) ((l.take (i + 1)).filter p) ys,
      fun H'' q => ⟨l.length - (i + 1), by omega, rfl, q⟩, fun v H2 hy => ?_⟩
    have ei : l[i]? = some l[i] := List.getElem?_eq_getElem hlt
    have e1 : l.take (i + 1) = l.take i ++ [l[i]] := by rw [List.take_add_one, ei]; rfl
    obtain ⟨ey, tn⟩ := turn D hD i _ ei v H' H2 e ⟨_, hys⟩ hy
    refine tn _ _ (fun hp y H4 e4 r => ?_) (fun hp H3 e3 => ?_)
    · have e5 := ey.trans e4
      have eD : Ex H (upd H4 D (.lst (ys ++ [y]))) := (e.trans e5).mut hD
      let Z4 : Hp := fun b => if b = D then none else H4 b
      have k1 : Z4 D = none := if_pos rfl
      have k2 : ExM D H4 Z4 := fun b o n q => by
        show (if b = D then none else H4 b) = some o
        rw [if_neg n]
        exact q
      have k3 : Ex Z Z4 := fun b o q => k2 b o (ne_of_none q zD) (e5 _ _ (zE b o q))
      have k4 : Ex H Z4 := fun b o q => k2 b o (ne_of_none q hD) (e5 _ _ (e b o q))
      refine ⟨ys, e5 _ _ hys, sz_lt (by omega), by omega, eD, _, upd_same, by rw [List.length_append]; show _ + 1 ≤ _; omega, Z4, k1, fun b o q => ?_, fun b o n q => ?_, ?_⟩
      · have nb : b ≠ D := ne_of_none q k1
        rw [upd_ne nb]
        have q' : (if b = D then none else H4 b) = some o := q
        rw [if_neg nb] at q'
        exact q'
      · rw [upd_ne n] at q
        exact k2 b o n q
      · rw [e1, List.filter_append, List.filter_cons, if_pos hp]
        exact Paired.snoc (Paired.mapP pr fun a b r => mono a b _ _ k3 r) (r Z4 k2 k4)
    · refine ⟨by omega, e.trans (ey.trans e3), ys, (ey.trans e3) _ _ hys, by omega, ?_⟩
      let Z4 : Hp := fun b => if b = D then none else H3 b
      have k1 : Z4 D = none := if_pos rfl
      have k2 : ExM D H3 Z4 := fun b o n q => by
        show (if b = D then none else H3 b) = some o
        rw [if_neg n]
        exact q
      have k3 : Ex Z Z4 := fun b o q => k2 b o (ne_of_none q zD) ((ey.trans e3) _ _ (zE b o q))
      refine ⟨Z4, k1, fun b o q => ?_, k2, ?_⟩
      · have nb : b ≠ D := ne_of_none q k1
        have q' : (if b = D then none else H3 b) = some o := q
        rw [if_neg nb] at q'
        exact q'
      · rw [e1, List.filter_append, List.filter_cons, if_neg (by rw [hp]; exact Bool.false_ne_true)]
        show Paired _ (_ ++ []) _
        rw [List.append_nil]
        exact Paired.mapP pr fun a b r => mono a b _ _ k3 r
  · have ei : i = l.length := by omega
    subst ei
    rw [List.take_length] at pr
    exact .inl ⟨hst H' e, fin D H' ys hD e hys (Paired.mapP pr fun a b r => mono a b _ _ zE r)⟩
theorem pair_map {α β : Type} {F : α → β} : ∀ {l : List α} {ys : List β}, Paired (fun x y => y = F x) l ys → ys = l.map F
  | _, _, .nil => rfl
  | _, _, .cons h t => by rw [h, pair_map t]; rfl
/-- values of a pure element over a list: they hang on the item alone -/
theorem u_lcL {α : Type} {a : Addr} (em : α → V) (l : List α) (p : α → Bool) (F : α → V) (hS : SqL K H a (l.map em)) (hz : l.length ≤ 40000)
    (turn : ∀ x ∈ l, ∀ H', Ex H H' → ∀ (A : VK) (B : Hp → Prop), (p x = true → ∀ H4, Ex H' H4 → A (F x) H4) → (p x = false → ∀ H3, Ex H' H3 → B H3) →
      g (em x) (wipe σ vs) H' fun σ2 H2 => wipe σ2 vs = wipe σ vs ∧ tt σ2 H2 fun b H3 => if b = true then te σ2 H3 A else B H3)
    (fin : ∀ D H', H D = none → Ex H H' → H' D = some (.lst ((l.filter p).map F)) → Q (.ref D) H') : LcL K g tt te vs σ (.ref a) H Q := by
  refine ⟨a, rfl, ⟨_, hS⟩, lc_turns l p (fun x y _ => y = F x) (fun _ _ _ _ _ r => r) hz (fun i H' hi e => ⟨_, em l[i], e.sq hS, by rw [List.getElem?_map, List.getElem?_eq_getElem hi]; rfl⟩) (fun H' e => ⟨_, e.sq hS, by rw [List.length_map]; exact Nat.le_refl _⟩)
    (fun D hD i x hx v H0 H' e _ hy => ?_) (fun D H' ys hD e h pr => fin D H' hD e (by rw [h, pair_map pr]))⟩
  obtain ⟨rfl, fv⟩ := hy
  have ev : v = em x := by
    have q := fv _ (e.sq hS)
    rw [List.getElem?_map, hx] at q
    exact (Option.some.inj q).symm
  subst ev
  exact ⟨Ex.refl _, fun A B h1 h2 => turn x (List.mem_of_getElem? hx) _ e A B (fun hp H4 e4 => h1 hp _ H4 e4 fun _ _ _ => rfl) h2⟩
theorem filter_yes {α : Type} : ∀ l : List α, l.filter (fun _ => true) = l
  | [] => rfl
  | x :: l => by rw [List.filter_cons, if_pos rfl, filter_yes l]
/-- .. without a test -/
theorem u_mapL {α : Type} {a : Addr} (em : α → V) (l : List α) (F : α → V) (hS : SqL K H a (l.map em)) (hz : l.length ≤ 40000)
    (turn : ∀ x ∈ l, ∀ H', Ex H H' → ∀ A : VK, (∀ H4, Ex H' H4 → A (F x) H4) → g (em x) (wipe σ vs) H' fun σ2 H2 => wipe σ2 vs = wipe σ vs ∧ te σ2 H2 A)
    (fin : ∀ D H', H D = none → Ex H H' → H' D = some (.lst (l.map F)) → Q (.ref D) H') : LcL K g tYes te vs σ (.ref a) H Q :=
  u_lcL em l (fun _ => true) F hS hz (fun x hx H' e A B h1 _ => by
    have e2 : (fun (σ2 : L2.St) H2 => wipe σ2 vs = wipe σ vs ∧ tYes σ2 H2 fun b H3 => if b = true then te σ2 H3 A else B H3) = fun σ2 H2 => wipe σ2 vs = wipe σ vs ∧ te σ2 H2 A := by
      funext σ2 H2
      show (_ ∧ if true = true then te σ2 H2 A else B H2) = _
      rw [if_pos rfl]
    rw [e2]
    exact turn x hx H' e A (h1 rfl)) (by rw [filter_yes]; exact fin)
end
/-! ### greatest, least, sorted -/
def maxI (l : List Int) : Int := match l with | [] => 0 | a :: t => t.foldl max a
def minI (l : List Int) : Int := match l with | [] => 0 | a :: t => t.foldl min a
theorem fold_max : ∀ (l : List Int) (a : Int), a ≤ l.foldl max a ∧ (∀ y ∈ l, y ≤ l.foldl max a) ∧ (l.foldl max a = a ∨ l.foldl max a ∈ l)
  | [], a => ⟨Int.le_refl _, fun _ h => (nomatch h), .inl rfl⟩
  | b :: l, a => by
    obtain ⟨h1, h2, h3⟩ := fold_max l (max a b)
    rw [List.foldl_cons]
    have k1 : a ≤ max a b := Int.le_max_left _ _
    have k2 : b ≤ max a b := Int.le_max_right _ _
    refine ⟨Int.le_trans k1 h1, fun y hy => ?_, ?_⟩
    · rcases List.mem_cons.mp hy with rfl | hy
      · exact Int.le_trans k2 h1
      · exact h2 y hy
    · rcases h3 with h3 | h3
      · rw [h3]
        by_cases c : a ≤ b
        · rw [Int.max_eq_right c]
          exact .inr List.mem_cons_self
        · rw [Int.max_eq_left (by omega)]
          exact .inl rfl
      · exact .inr (List.mem_cons_of_mem _ h3)
theorem fold_min : ∀ (l : List Int) (a : Int), l.foldl min a ≤ a ∧ (∀ y ∈ l, l.foldl min a ≤ y) ∧ (l.foldl min a = a ∨ l.foldl min a ∈ l)
  | [], a => ⟨Int.le_refl _, fun _ h => (nomatch h), .inl rfl⟩
  | b :: l, a => by
    obtain ⟨h1, h2, h3⟩ := fold_min l (min a b)
    rw [List.foldl_cons]
    have k1 : min a b ≤ a := Int.min_le_left _ _
    have k2 : min a b ≤ b := Int.min_le_right _ _
    refine ⟨Int.le_trans h1 k1, fun y hy => ?_, ?_⟩
    · rcases List.mem_cons.mp hy with rfl | hy
      · exact Int.le_trans h1 k2
      · exact h2 y hy
    · rcases h3 with h3 | h3
      · rw [h3]
        by_cases c : a ≤ b
        · rw [Int.min_eq_left c]
          exact .inl rfl
        · rw [Int.min_eq_right (by omega)]
          exact .inr List.mem_cons_self
      · exact .inr (List.mem_cons_of_mem _ h3)
theorem maxI_mem {l : List Int} (h : 0 < l.length) : maxI l ∈ l := by
  cases l with
  | nil => exact absurd h (Nat.lt_irrefl 0)
  | cons a t =>
    rcases (fold_max t a).2.2 with e | e
    · exact List.mem_cons.mpr (.inl e)
    · exact List.mem_cons_of_mem _ e
theorem maxI_ge {l : List Int} : ∀ y ∈ l, y ≤ maxI l := fun y hy => by
  cases l with
  | nil => exact absurd hy List.not_mem_nil
  | cons a t =>
    rcases List.mem_cons.mp hy with rfl | hy
    · exact (fold_max t y).1
    · exact (fold_max t a).2.1 y hy
theorem minI_mem {l : List Int} (h : 0 < l.length) : minI l ∈ l := by
  cases l with
  | nil => exact absurd h (Nat.lt_irrefl 0)
  | cons a t =>
    rcases (fold_min t a).2.2 with e | e
    · exact List.mem_cons.mpr (.inl e)
    · exact List.mem_cons_of_mem _ e
theorem minI_le {l : List Int} : ∀ y ∈ l, minI l ≤ y := fun y hy => by
  cases l with
  | nil => exact absurd hy List.not_mem_nil
  | cons a t =>
    rcases List.mem_cons.mp hy with rfl | hy
    · exact (fold_min t y).1
    · exact (fold_min t a).2.1 y hy
theorem maxI_of {l : List Int} {m : Int} (h : m ∈ l) (g : ∀ y ∈ l, y ≤ m) : m = maxI l := Int.le_antisymm (maxI_ge m h) (g _ (maxI_mem (List.length_pos_of_mem h)))
theorem minI_of {l : List Int} {m : Int} (h : m ∈ l) (g : ∀ y ∈ l, m ≤ y) : m = minI l := Int.le_antisymm (g _ (minI_mem (List.length_pos_of_mem h))) (minI_le m h)
def sortI (l : List Int) : List Int := l.mergeSort (fun a b => decide (a ≤ b))
theorem sortI_perm (l : List Int) : (sortI l).Perm l := List.mergeSort_perm l _
theorem sortI_sorted (l : List Int) : (sortI l).Pairwise (· ≤ ·) := (List.pairwise_mergeSort (le := fun a b : Int => decide (a ≤ b)) (fun a b c h1 h2 => decide_eq_true (Int.le_trans (of_decide_eq_true h1) (of_decide_eq_true h2))) (fun a b => by
  rcases Int.le_total a b with h | h
  · rw [decide_eq_true h]; rfl
  · rw [decide_eq_true h, Bool.or_true]) l).imp fun h => of_decide_eq_true h
theorem sortI_of {l l' : List Int} (p : l'.Perm l) (s : l'.Pairwise (· ≤ ·)) : l' = sortI l :=
  List.Perm.eq_of_pairwise (le := fun a b : Int => a ≤ b) (fun a b _ _ h1 h2 => Int.le_antisymm h1 h2) s (sortI_sorted l) (p.trans (sortI_perm l).symm)
theorem sortI_len (l : List Int) : (sortI l).length = l.length := (sortI_perm l).length_eq
/-! ### heaps as letters: the next heap, and what is known of it -/
theorem ex_ap {H H' : Hp} {a : Addr} {o : HO} (e : Ex H H') (h : H a = some o) : H' a = some o := e a o h
theorem exm_ap {H H' : Hp} {h a : Addr} {o : HO} (e : ExM h H H') (n : a ≠ h) (hh : H a = some o) : H' a = some o := e a o n hh
theorem ne_fresh {H : Hp} {a b : Addr} {o : HO} (h' : H b = none) (h : H a = some o) : a ≠ b := ne_of_none h h'
section
variable {K : PySem.W.Frag} {σ : L2.St} {H : Hp} {Q : VK} {v : V} {R : Hp → Prop}
theorem n_lst {xs : List V} (h : xs.length ≤ 100000) (q : ∀ p H', H p = none → Ex H H' → H' p = some (.lst xs) → Q (.ref p) H') : NewL xs H Q := ⟨sz_of h, fun p hp => q p _ hp (Ex.new hp) upd_same⟩
theorem n_tup {xs : List V} (h : xs.length ≤ 100000) (q : ∀ p H', H p = none → Ex H H' → H' p = some (.tup xs) → Q (.ref p) H') : NewT xs H Q := ⟨sz_of h, fun p hp => q p _ hp (Ex.new hp) upd_same⟩
theorem n_slL {a : Addr} {xs : List V} {lo hi : Option Int} (h : SqL K H a xs) (q : ∀ p H', H p = none → Ex H H' → H' p = some (.lst (cutV xs lo hi)) → Q (.ref p) H') : rSlL K (.ref a) lo hi H Q := ⟨a, xs, rfl, h, fun p hp => q p _ hp (Ex.new hp) upd_same⟩
theorem n_cat {a b : Addr} {xs ys : List V} (h1 : H a = some (.lst xs)) (h2 : H b = some (.lst ys)) (hz : xs.length + ys.length ≤ 100000) (q : ∀ p H', H p = none → Ex H H' → H' p = some (.lst (xs ++ ys)) → Q (.ref p) H') : rPlus (.ref a) (.ref b) H Q :=
  .inr (.inl ⟨a, b, xs, ys, rfl, rfl, h1, h2, sz_of hz, fun p hp => q p _ hp (Ex.new hp) upd_same⟩)
theorem n_setL {a : Addr} {xs : List V} {k : Int} {j : Nat} (h : H a = some (.lst xs)) (hk : ixN xs.length k = some j) (q : ∀ H', ExM a H H' → H' a = some (.lst (xs.set j v)) → R H') : rSetL (.ref a) (.int k) v H R := ⟨a, xs, k, j, rfl, rfl, h, hk, q _ ExM.upd upd_same⟩
def rRevL (K : PySem.W.Frag) (x : V) (H : Hp) (Q : VK) : Prop := ∃ a xs, x = .ref a ∧ SqL K H a xs ∧ ∀ p, H p = none → Q (.ref p) (upd H p (.lst xs.reverse))
theorem s_rev {te : TE} (q : te σ H fun x H1 => rRevL K x H1 Q) : tRevL K te σ H Q := q
theorem n_rev {a : Addr} {xs : List V} (h : SqL K H a xs) (q : ∀ p H', H p = none → Ex H H' → H' p = some (.lst xs.reverse) → Q (.ref p) H') : rRevL K (.ref a) H Q := ⟨a, xs, rfl, h, fun p hp => q p _ hp (Ex.new hp) upd_same⟩
theorem s_maxL {a : Addr} {ns : List Int} (h : SqL K H a (ns.map V.int)) (hn : 0 < ns.length) (q : Q (.int (maxI ns)) H) : rMax K [.ref a] H Q := ⟨a, ns, rfl, h, hn, fun m h1 h2 => by rw [maxI_of h1 h2]; exact q⟩
theorem s_minL {a : Addr} {ns : List Int} (h : SqL K H a (ns.map V.int)) (hn : 0 < ns.length) (q : Q (.int (minI ns)) H) : rMin K [.ref a] H Q := ⟨a, ns, rfl, h, hn, fun m h1 h2 => by rw [minI_of h1 h2]; exact q⟩
theorem n_sorted {a : Addr} {ns : List Int} (h : SqL K H a (ns.map V.int)) (q : ∀ p H', H p = none → Ex H H' → H' p = some (.lst ((sortI ns).map V.int)) → Q (.ref p) H') : rSortedI K [.ref a] H Q := ⟨a, ns, rfl, h, fun ns' p h1 h2 hp => by rw [sortI_of h1 h2]; exact q p _ hp (Ex.new hp) upd_same⟩
theorem n_list {a : Addr} {xs : List V} (h : SqL K H a xs) (q : ∀ p H', H p = none → Ex H H' → H' p = some (.lst xs) → Q (.ref p) H') : rList1 K [.ref a] H Q := ⟨a, xs, rfl, .inl h, fun p hp => q p _ hp (Ex.new hp) upd_same⟩
theorem n_listT {a : Addr} {xs : List V} (h : SqT K H a xs) (q : ∀ p H', H p = none → Ex H H' → H' p = some (.lst xs) → Q (.ref p) H') : rList1 K [.ref a] H Q := ⟨a, xs, rfl, .inr h, fun p hp => q p _ hp (Ex.new hp) upd_same⟩
theorem n_app {a : Addr} {xs : List V} (h : H a = some (.lst xs)) (hz : xs.length < 100000) (q : ∀ H', ExM a H H' → H' a = some (.lst (xs ++ [v])) → Q .non H') : rAppend (.ref a) [v] H Q := ⟨a, xs, v, rfl, rfl, h, sz_lt hz, q _ ExM.upd upd_same⟩
end

/-- the cut of a list, of anything -/
def cutI {α : Type} (xs : List α) (lo hi : Option Int) : List α := (xs.drop (HT.sIx xs.length 0 lo)).take (HT.sIx xs.length xs.length hi - HT.sIx xs.length 0 lo)
theorem cutI_sub {α : Type} (xs : List α) (lo hi : Option Int) : (cutI xs lo hi).Sublist xs := (List.take_sublist _ _).trans (List.drop_sublist _ _)
theorem cutV_map {α : Type} (f : α → V) (xs : List α) (lo hi : Option Int) : cutV (xs.map f) lo hi = (cutI xs lo hi).map f := by
  unfold cutV cutI
  rw [List.length_map, ← List.map_drop, ← List.map_take]
theorem cutV_ints (xs : List Int) (lo hi : Option Int) : cutV (xs.map V.int) lo hi = (cutI xs lo hi).map V.int := cutV_map _ _ _ _
theorem cutI_to {α : Type} (xs : List α) {k : Int} (h : 0 ≤ k) : cutI xs none (some k) = xs.take k.toNat := by
  obtain ⟨n, rfl⟩ : ∃ n : Nat, k = (n : Int) := ⟨k.toNat, by omega⟩
  unfold cutI
  rw [HT.sIx_none, HT.sIx_nat, List.drop_zero, Nat.sub_zero, Int.toNat_natCast, List.take_eq_take_iff]
  omega
theorem cutI_from {α : Type} (xs : List α) {k : Int} (h : 0 ≤ k) : cutI xs (some k) none = xs.drop k.toNat := by
  obtain ⟨n, rfl⟩ : ∃ n : Nat, k = (n : Int) := ⟨k.toNat, by omega⟩
  unfold cutI
  rw [HT.sIx_none, HT.sIx_nat, Int.toNat_natCast]
  by_cases hn : n ≤ xs.length
  · rw [Nat.min_eq_left hn, List.take_of_length_le (by rw [List.length_drop]; exact Nat.le_refl _)]
  · rw [Nat.min_eq_right (by omega), Nat.sub_self, List.take_zero, List.drop_of_length_le (by omega)]
theorem cutI_mid {α : Type} (xs : List α) {k m : Int} (h : 0 ≤ k) (h2 : k ≤ m) : cutI xs (some k) (some m) = (xs.drop k.toNat).take (m.toNat - k.toNat) := by
  obtain ⟨n, rfl⟩ : ∃ n : Nat, k = (n : Int) := ⟨k.toNat, by omega⟩
  obtain ⟨r, rfl⟩ : ∃ n : Nat, m = (n : Int) := ⟨m.toNat, by omega⟩
  unfold cutI
  rw [HT.sIx_nat, HT.sIx_nat, Int.toNat_natCast, Int.toNat_natCast]
  by_cases hn : n ≤ xs.length
  · rw [Nat.min_eq_left hn, List.take_eq_take_iff, List.length_drop]
    omega
  · have h3 : min n xs.length = xs.length := Nat.min_eq_right (by omega)
    rw [h3, List.drop_of_length_le (Nat.le_refl _), List.drop_of_length_le (show xs.length ≤ n by omega)]
    simp
section
variable {K : PySem.W.Frag} {H : Hp} {Q : VK} {a : Addr}
theorem first_at : ∀ {ns : List Int} {i : Int}, i ∈ ns → ∃ j : Nat, ns[j]? = some i ∧ ∀ m, m < j → ns[m]? ≠ some i
  | [], i, h => nomatch h
  | n :: ns, i, h => by
    by_cases c : n = i
    · subst c
      exact ⟨0, rfl, fun m hm => absurd hm (Nat.not_lt_zero m)⟩
    · have h' : i ∈ ns := by
        rcases List.mem_cons.mp h with h | h
        · exact absurd h.symm c
        · exact h
      obtain ⟨j, e, f⟩ := first_at h'
      refine ⟨j + 1, e, fun m hm => ?_⟩
      cases m with
      | zero => exact fun z => c (Option.some.inj z)
      | succ m => exact f m (by omega)
theorem s_index {ns : List Int} {i : Int} (h : SqL K H a (ns.map V.int)) (hm : i ∈ ns) (q : ∀ j : Nat, ns[j]? = some i → (∀ m, m < j → ns[m]? ≠ some i) → Q (.int (j : Int)) H) : rIndex K (.ref a) [.int i] H Q := by
  obtain ⟨j, e, f⟩ := first_at hm
  refine ⟨a, _, .int i, j, .int i, rfl, rfl, h, rfl, List.all_eq_true.mpr (fun x hx => ?_), by rw [List.getElem?_map, e]; rfl, ?_, fun m z hm2 hz => ?_, q j e f⟩
  · obtain ⟨n, _, rfl⟩ := List.mem_map.mp hx
    rfl
  · show (i == i) = true
    exact beq_self_eq_true i
  · rw [List.getElem?_map] at hz
    cases e2 : ns[m]? with
    | none => rw [e2] at hz; cases hz
    | some k =>
      rw [e2] at hz
      cases hz
      show (k == i) = false
      rw [beq_eq_false_iff_ne]
      exact fun z => f m hm2 (by rw [e2, z])
theorem s_sum {ns : List Int} (h : SqL K H a (ns.map V.int)) (q : Q (.int ns.sum) H) : rSum K [.ref a] H Q := ⟨a, ns, rfl, h, q⟩
theorem s_all {bs : List Bool} (h : SqL K H a (bs.map V.bl)) (q : Q (.bl (bs.all id)) H) : rAll K [.ref a] H Q := ⟨a, bs, rfl, h, q⟩
theorem s_any {bs : List Bool} (h : SqL K H a (bs.map V.bl)) (q : Q (.bl (bs.any id)) H) : rAny K [.ref a] H Q := ⟨a, bs, rfl, h, q⟩
end
theorem inV_ints (i : Int) : ∀ ns : List Int, inV (.int i) (ns.map V.int) = decide (i ∈ ns)
  | [] => rfl
  | n :: ns => by
    have e : inV (.int i) ((n :: ns).map V.int) = (eqV (.int n) (.int i) || inV (.int i) (ns.map V.int)) := rfl
    have e2 : eqV (.int n) (.int i) = decide (n = i) := by
      show (n == i) = _
      exact Bool.beq_eq_decide_eq n i
    rw [e, e2, inV_ints i ns]
    by_cases h : n = i
    · subst h
      simp
    · have h' : ¬ i = n := fun z => h z.symm
      simp [h, h']
theorem flat_ints : ∀ ns : List Int, (ns.map V.int).all flatV = true
  | [] => rfl
  | n :: ns => flat_ints ns
section
variable {K : PySem.W.Frag} {H : Hp} {Q : VK} {a : Addr} {i : Int}
theorem s_inL (ns : List Int) (h : SqL K H a (ns.map V.int)) (q : Q (.bl (decide (i ∈ ns))) H) : rIn K false (.int i) (.ref a) H Q := ⟨a, _, rfl, .inl h, rfl, flat_ints ns, by
  rw [if_neg Bool.false_ne_true, inV_ints]
  exact q⟩
theorem s_inT (ns : List Int) (h : SqT K H a (ns.map V.int)) (q : Q (.bl (decide (i ∈ ns))) H) : rIn K false (.int i) (.ref a) H Q := ⟨a, _, rfl, .inr h, rfl, flat_ints ns, by
  rw [if_neg Bool.false_ne_true, inV_ints]
  exact q⟩
theorem s_niL (ns : List Int) (h : SqL K H a (ns.map V.int)) (q : Q (.bl (decide (i ∉ ns))) H) : rIn K true (.int i) (.ref a) H Q := ⟨a, _, rfl, .inl h, rfl, flat_ints ns, by
  rw [if_pos rfl, inV_ints, ← decide_not]
  exact q⟩
theorem s_niT (ns : List Int) (h : SqT K H a (ns.map V.int)) (q : Q (.bl (decide (i ∉ ns))) H) : rIn K true (.int i) (.ref a) H Q := ⟨a, _, rfl, .inr h, rfl, flat_ints ns, by
  rw [if_pos rfl, inV_ints, ← decide_not]
  exact q⟩
end
theorem rgV_at {a b : Int} {i : Nat} {x : V} (h : (rgV a b)[i]? = some x) : ∃ v, x = .int v ∧ a ≤ v ∧ v < b := by
  have hi := (List.getElem?_eq_some_iff.mp h).1
  rw [rgV_length] at hi
  unfold rgV at h
  rw [List.getElem?_map, List.getElem?_range hi] at h
  exact ⟨_, (Option.some.inj h).symm, by omega, by omega⟩
theorem cx_K {CX : CXT} {P : Program} {w : World} {K : PySem.W.Frag} {mg : Str → Option Value} {base : Heap} {N : List Str} {x : Str} {sc : Scope} {f : Addr} {cdv : Value} {A : Around} {outer : List Env} {s : Shared} {H : Hp} {E : XK} :
    (cxOf CX P w K mg base N x sc f cdv A outer s H E).nox.K = K := rfl
theorem cx_K2 {CX : CXT} {P : Program} {w : World} {K : PySem.W.Frag} {mg : Str → Option Value} {base : Heap} {N : List Str} {x : Str} {sc : Scope} {f : Addr} {cdv : Value} {A : Around} {outer : List Env} {s : Shared} {H : Hp} {E : XK} :
    (cxOf CX P w K mg base N x sc f cdv A outer s H E).K = K := rfl
/-! ### places -/
/-! ### data with types: what a value is as a thing of plain Lean -/
class Py (α : Type) where
  d : α → PyData
  dep : Nat
  depth : ∀ a, (d a).depth ≤ dep
  can : ∀ a, (d a).canLay0 = true
  eqv : ∀ a b, (PyData.eqv (d a) (d b) = true ↔ a = b)
instance : Py Int := ⟨PyData.int, 0, fun _ => Nat.le_refl _, fun _ => rfl, fun a b => by rw [PyData.eqv]; exact beq_iff_eq⟩
instance : Py Bool := ⟨PyData.bool, 0, fun _ => Nat.le_refl _, fun _ => rfl, fun a b => by rw [PyData.eqv]; exact beq_iff_eq⟩
theorem eqvAll_iff {α : Type} [Py α] : ∀ xs ys : List α, (PyData.eqvAll (xs.map Py.d) (ys.map Py.d) = true ↔ xs = ys)
  | [], [] => by simp [PyData.eqvAll]
  | [], _ :: _ => by simp [PyData.eqvAll]
  | _ :: _, [] => by simp [PyData.eqvAll]
  | x :: xs, y :: ys => by
    rw [List.map_cons, List.map_cons, PyData.eqvAll, Bool.and_eq_true, Py.eqv, eqvAll_iff xs ys, List.cons.injEq]
theorem canAll_of {α : Type} [Py α] : ∀ xs : List α, PyData.canLayAll0 (xs.map Py.d) = true
  | [] => rfl
  | x :: xs => by rw [List.map_cons, PyData.canLayAll0, Py.can, canAll_of xs]; rfl
theorem depthAll_of {α : Type} [Py α] : ∀ xs : List α, PyData.depthAll (xs.map Py.d) ≤ Py.dep α
  | [] => Nat.zero_le _
  | x :: xs => by
    rw [List.map_cons, PyData.depthAll]
    exact Nat.max_le.mpr ⟨Py.depth x, depthAll_of xs⟩
instance {α : Type} [Py α] : Py (List α) := ⟨fun xs => .list (xs.map Py.d), Py.dep α + 1, fun xs => by rw [PyData.depth]; exact Nat.succ_le_succ (depthAll_of xs), fun xs => by rw [PyData.canLay0]; exact canAll_of xs, fun a b => by rw [PyData.eqv]; exact eqvAll_iff a b⟩
instance {α β : Type} [Py α] [Py β] : Py (α × β) := ⟨fun p => .tuple [Py.d p.1, Py.d p.2], max (Py.dep α) (Py.dep β) + 1, fun p => by
    simp only [PyData.depth, PyData.depthAll]
    have h1 := Py.depth p.1
    have h2 := Py.depth p.2
    omega, fun p => by simp only [PyData.canLay0, PyData.canLayAll0, Py.can]; rfl, fun a b => by
    simp only [PyData.eqv, PyData.eqvAll, Bool.and_true, Bool.and_eq_true, Py.eqv]
    exact ⟨fun h => Prod.ext h.1 h.2, fun h => by rw [h]; exact ⟨rfl, rfl⟩⟩⟩
/-- a triple | four, as one tuple -/
structure T3 (α β γ : Type) where
  a : α
  b : β
  c : γ
  deriving DecidableEq
structure T4 (α β γ δ : Type) where
  a : α
  b : β
  c : γ
  d : δ
  deriving DecidableEq
instance {α β γ : Type} [Py α] [Py β] [Py γ] : Py (T3 α β γ) := ⟨fun p => .tuple [Py.d p.a, Py.d p.b, Py.d p.c], max (Py.dep α) (max (Py.dep β) (Py.dep γ)) + 1, fun p => by
    simp only [PyData.depth, PyData.depthAll]
    have h1 := Py.depth p.a
    have h2 := Py.depth p.b
    have h3 := Py.depth p.c
    omega, fun p => by simp only [PyData.canLay0, PyData.canLayAll0, Py.can]; rfl, fun a b => by
    obtain ⟨a1, a2, a3⟩ := a
    obtain ⟨b1, b2, b3⟩ := b
    simp only [PyData.eqv, PyData.eqvAll, Bool.and_true, Bool.and_eq_true, Py.eqv, T3.mk.injEq]⟩
instance {α β γ δ : Type} [Py α] [Py β] [Py γ] [Py δ] : Py (T4 α β γ δ) := ⟨fun p => .tuple [Py.d p.a, Py.d p.b, Py.d p.c, Py.d p.d], max (Py.dep α) (max (Py.dep β) (max (Py.dep γ) (Py.dep δ))) + 1, fun p => by
    simp only [PyData.depth, PyData.depthAll]
    have h1 := Py.depth p.a
    have h2 := Py.depth p.b
    have h3 := Py.depth p.c
    have h4 := Py.depth p.d
    omega, fun p => by simp only [PyData.canLay0, PyData.canLayAll0, Py.can]; rfl, fun a b => by
    obtain ⟨a1, a2, a3, a4⟩ := a
    obtain ⟨b1, b2, b3, b4⟩ := b
    simp only [PyData.eqv, PyData.eqvAll, Bool.and_true, Bool.and_eq_true, Py.eqv, T4.mk.injEq]⟩
theorem eqv_dec {α : Type} [Py α] [DecidableEq α] (a b : α) : PyData.eqv (Py.d a) (Py.d b) = decide (a = b) := by
  by_cases h : a = b
  · rw [decide_eq_true h]
    exact (Py.eqv a b).mpr h
  · rw [decide_eq_false h]
    cases e : PyData.eqv (Py.d a) (Py.d b) with
    | true => exact absurd ((Py.eqv a b).mp e) h
    | false => rfl
theorem shaped_of {α : Type} [Py α] (a : α) (h : Py.dep α ≤ 64) : SeqAt.shaped (Py.d a) = true := by
  unfold SeqAt.shaped
  rw [Py.can, decide_eq_true (Nat.le_trans (Py.depth a) h)]
  rfl
/-- the value v stands in H as the thing x -/
abbrev Is (K : PySem.W.Frag) (H : Hp) {α : Type} [Py α] (v : V) (x : α) : Prop := Dp K H v (Py.d x)
mutual
theorem Dp.ex {K : PySem.W.Frag} {H H' : Hp} (e : Ex H H') : ∀ {v : V} {d : PyData}, Dp K H v d → Dp K H' v d
  | _, _, .non => .non
  | _, _, .bl b => .bl b
  | _, _, .int i => .int i
  | _, _, .str x => .str x
  | _, _, .lst s a => .lst (e.sq s) (DpAll.ex e a)
  | _, _, .tup s a => .tup (e.st s) (DpAll.ex e a)
theorem DpAll.ex {K : PySem.W.Frag} {H H' : Hp} (e : Ex H H') : ∀ {vs : List V} {ds : List PyData}, DpAll K H vs ds → DpAll K H' vs ds
  | _, _, .nil => .nil
  | _, _, .cons a r => .cons (Dp.ex e a) (DpAll.ex e r)
end
theorem Is.ex {K : PySem.W.Frag} {H H' : Hp} {α : Type} [Py α] {v : V} {x : α} (e : Ex H H') (h : Is K H v x) : Is K H' v x := Dp.ex e h
theorem Is.int {K : PySem.W.Frag} {H : Hp} (i : Int) : Is K H (.int i) i := Dp.int i
theorem Is.bl {K : PySem.W.Frag} {H : Hp} (i : Bool) : Is K H (.bl i) i := Dp.bl i
theorem dpAll_ints {K : PySem.W.Frag} {H : Hp} : ∀ ns : List Int, DpAll K H (ns.map V.int) (ns.map Py.d)
  | [] => .nil
  | n :: ns => .cons (.int n) (dpAll_ints ns)
theorem Is.ints {K : PySem.W.Frag} {H : Hp} {a : Addr} {ns : List Int} (h : SqL K H a (ns.map V.int)) : Is K H (.ref a) ns := .lst h (dpAll_ints ns)
theorem Is.nil {K : PySem.W.Frag} {H : Hp} {α : Type} [Py α] {a : Addr} (h : SqL K H a []) : Is K H (.ref a) ([] : List α) := .lst h .nil
theorem Is.pair {K : PySem.W.Frag} {H : Hp} {α β : Type} [Py α] [Py β] {a : Addr} {v w : V} {x : α} {y : β} (h : SqT K H a [v, w]) (h1 : Is K H v x) (h2 : Is K H w y) : Is K H (.ref a) (x, y) := .tup h (.cons h1 (.cons h2 .nil))
theorem Is.three {K : PySem.W.Frag} {H : Hp} {α β γ : Type} [Py α] [Py β] [Py γ] {a : Addr} {v w u : V} {x : α} {y : β} {z : γ} (h : SqT K H a [v, w, u]) (h1 : Is K H v x) (h2 : Is K H w y) (h3 : Is K H u z) : Is K H (.ref a) (T3.mk x y z) := .tup h (.cons h1 (.cons h2 (.cons h3 .nil)))
theorem Is.four {K : PySem.W.Frag} {H : Hp} {α β γ δ : Type} [Py α] [Py β] [Py γ] [Py δ] {a : Addr} {v w u t : V} {x : α} {y : β} {z : γ} {r : δ} (h : SqT K H a [v, w, u, t]) (h1 : Is K H v x) (h2 : Is K H w y) (h3 : Is K H u z) (h4 : Is K H t r) : Is K H (.ref a) (T4.mk x y z r) := .tup h (.cons h1 (.cons h2 (.cons h3 (.cons h4 .nil))))
/-- the items of a list of data -/
theorem Is.list {K : PySem.W.Frag} {H : Hp} {α : Type} [Py α] {v : V} {xs : List α} (h : Is K H v xs) : ∃ a vs, v = .ref a ∧ SqL K H a vs ∧ Paired (fun v x => Is K H v x) vs xs := by
  have go : ∀ (vs : List V) (ys : List α), DpAll K H vs (ys.map Py.d) → Paired (fun v x => Is K H v x) vs ys := by
    intro vs ys
    induction ys generalizing vs with
    | nil => intro h; cases h; exact .nil
    | cons y ys ih =>
      intro h
      cases h with
      | cons h1 h2 => exact .cons h1 (ih _ h2)
  have h' : Dp K H v (.list (xs.map Py.d)) := h
  cases h' with
  | lst s a => exact ⟨_, _, rfl, s, go _ _ a⟩
theorem Is.of_list {K : PySem.W.Frag} {H : Hp} {α : Type} [Py α] {a : Addr} {vs : List V} {xs : List α} (s : SqL K H a vs) (h : Paired (fun v x => Is K H v x) vs xs) : Is K H (.ref a) xs := by
  have go : ∀ {vs : List V} {ys : List α}, Paired (fun v x => Is K H v x) vs ys → DpAll K H vs (ys.map Py.d) := by
    intro vs ys h
    induction h with
    | nil => exact .nil
    | cons h1 _ ih => exact .cons h1 ih
  exact .lst s (go h)
theorem pair_ints {K : PySem.W.Frag} {H : Hp} : ∀ {vs : List V} {xs : List Int}, Paired (fun v x => Is K H v x) vs xs → vs = xs.map V.int
  | _, _, .nil => rfl
  | _, _, .cons (a := v) (b := i) h r => by
    have h' : Dp K H v (.int i) := h
    cases h'
    rw [pair_ints r]
    rfl
theorem Is.ints_of {K : PySem.W.Frag} {H : Hp} {v : V} {xs : List Int} (h : Is K H v xs) : ∃ a, v = .ref a ∧ SqL K H a (xs.map V.int) := by
  obtain ⟨a, vs, rfl, s, p⟩ := h.list
  exact ⟨a, rfl, pair_ints p ▸ s⟩
theorem Is.pair_of {K : PySem.W.Frag} {H : Hp} {α β : Type} [Py α] [Py β] {v : V} {p : α × β} (h : Is K H v p) : ∃ a x y, v = .ref a ∧ SqT K H a [x, y] ∧ Is K H x p.1 ∧ Is K H y p.2 := by
  have h' : Dp K H v (.tuple [Py.d p.1, Py.d p.2]) := h
  cases h' with
  | tup s a =>
    cases a with
    | cons h1 r => cases r with
      | cons h2 r2 => cases r2; exact ⟨_, _, _, rfl, s, h1, h2⟩
theorem Is.int_of {K : PySem.W.Frag} {H : Hp} {v : V} {i : Int} (h : Is K H v i) : v = .int i := by
  have h' : Dp K H v (.int i) := h
  cases h'
  rfl
theorem Is.bl_of {K : PySem.W.Frag} {H : Hp} {v : V} {i : Bool} (h : Is K H v i) : v = .bl i := by
  have h' : Dp K H v (.bool i) := h
  cases h'
  rfl
theorem s_eqP {α : Type} [Py α] [DecidableEq α] {K : PySem.W.Frag} {H : Hp} {Q : VK} {v w : V} {x y : α} (h1 : Is K H v x) (h2 : Is K H w y) (hd : Py.dep α ≤ 64) (q : Q (.bl (decide (x = y))) H) : rEqA K v w H Q :=
  .inr ⟨_, _, h1, h2, shaped_of x hd, shaped_of y hd, by rw [eqv_dec]; exact q⟩
theorem s_neP {α : Type} [Py α] [DecidableEq α] {K : PySem.W.Frag} {H : Hp} {Q : VK} {v w : V} {x y : α} (h1 : Is K H v x) (h2 : Is K H w y) (hd : Py.dep α ≤ 64) (q : Q (.bl (decide (x ≠ y))) H) : rNeA K v w H Q :=
  .inr ⟨_, _, h1, h2, shaped_of x hd, shaped_of y hd, by rw [eqv_dec, ← decide_not]; exact q⟩

/-! ### a list of data that is filled: it stands at D, its items in Z -/
instance : Py (Option Int) := ⟨fun o => match o with | none => .none | some i => .int i, 0, fun o => by cases o <;> exact Nat.le_refl _, fun o => by cases o <;> rfl, fun a b => by
  cases a <;> cases b
  · exact ⟨fun _ => rfl, fun _ => rfl⟩
  · exact ⟨fun h => (Bool.false_ne_true h).elim, fun h => nomatch h⟩
  · exact ⟨fun h => (Bool.false_ne_true h).elim, fun h => nomatch h⟩
  · rename_i x y
    show (x == y) = true ↔ some x = some y
    rw [beq_iff_eq, Option.some.injEq]⟩
theorem Is.no {K : PySem.W.Frag} {H : Hp} : Is K H .non (none : Option Int) := Dp.non
theorem Is.yes {K : PySem.W.Frag} {H : Hp} (i : Int) : Is K H (.int i) (some i : Option Int) := Dp.int i
/-- a number or nothing, as a value -/
def optV : Option Int → V
  | none => .non
  | some i => .int i
theorem Is.opt {K : PySem.W.Frag} {H : Hp} : ∀ o : Option Int, Is K H (optV o) o
  | none => Dp.non
  | some i => Dp.int i
structure LA (K : PySem.W.Frag) (Z H : Hp) (D : Addr) {α : Type} [Py α] (l : List α) : Prop where
  ex : ∃ vs, H D = some (.lst vs) ∧ Paired (fun v x => Is K Z v x) vs l
  zd : Z D = none
  zh : Ex Z H
section
variable {K : PySem.W.Frag} {Z H H' : Hp} {D : Addr} {α : Type} [Py α] {l : List α}
theorem LA.new (h : H D = none) (e : Ex H H') (f : H' D = some (.lst [])) : LA K H H' D ([] : List α) := ⟨⟨[], f, .nil⟩, h, e⟩
theorem la_ne {p : Addr} (hp : H p = none) (a : LA K Z H D l) : p ≠ D := by
  obtain ⟨⟨vs, h1, h2⟩, h3, h4⟩ := a
  exact (ne_of_none h1 hp).symm
theorem LA.up (a : LA K Z H D l) (e : Ex H H') : LA K Z H' D l := by
  obtain ⟨⟨vs, h1, h2⟩, h3, h4⟩ := a
  exact ⟨⟨vs, e _ _ h1, h2⟩, h3, h4.trans e⟩
theorem LA.is (a : LA K Z H D l) : Is K H (.ref D) l := by
  obtain ⟨⟨vs, h1, h2⟩, h3, h4⟩ := a
  exact Is.of_list (sq_of h1) (Paired.mapP h2 fun v x h => Is.ex h4 h)
theorem LA.at {vs : List V} (a : LA K Z H D l) (h : H D = some (.lst vs)) : Paired (fun v x => Is K Z v x) vs l := by
  obtain ⟨⟨ws, h1, h2⟩, h3, h4⟩ := a
  rw [h] at h1
  cases h1
  exact h2
theorem pair_get {F : V → α → Prop} : ∀ {vs : List V} {l : List α}, Paired F vs l → ∀ {i : Nat} {x : α}, l[i]? = some x → ∃ v, vs[i]? = some v ∧ F v x
  | _, _, .nil, i, x, h => by simp at h
  | _, _, .cons a r, 0, x, h => by
    cases h
    exact ⟨_, rfl, a⟩
  | _, _, .cons a r, i + 1, x, h => pair_get r (i := i) h
theorem pair_get' {F : V → α → Prop} : ∀ {vs : List V} {l : List α}, Paired F vs l → ∀ {i : Nat} {v : V}, vs[i]? = some v → ∃ x, l[i]? = some x ∧ F v x
  | _, _, .nil, i, x, h => by simp at h
  | _, _, .cons a r, 0, x, h => by
    cases h
    exact ⟨_, rfl, a⟩
  | _, _, .cons a r, i + 1, x, h => pair_get' r (i := i) h
end

section
variable {K : PySem.W.Frag} {Z H : Hp} {D : Addr} {α β : Type} [Py α] [Py β] {l : List α} {Q : VK} {v : V}
theorem LA.sq (a : LA K Z H D l) : ∃ vs, SqL K H D vs ∧ vs.length = l.length := by
  obtain ⟨⟨vs, h1, h2⟩, h3, h4⟩ := a
  exact ⟨vs, sq_of h1, Paired.length h2⟩
theorem s_lenIs {b : Addr} (a : Is K H (.ref b) l) (q : Q (.int (l.length : Int)) H) : rLen K [.ref b] H Q := by
  obtain ⟨b', vs, e, h, p⟩ := a.list
  cases e
  refine s_lenL h ?_
  rw [Paired.length p]
  exact q
theorem atI_pair {F : V → α → Prop} {vs : List V} (p : Paired F vs l) {i : Int} {x : α} (h : atI l i = some x) : ∃ v, atI vs i = some v ∧ F v x := by
  unfold atI at *
  rw [Paired.length p]
  cases e : ixN l.length i with
  | none => rw [e] at h; cases h
  | some j =>
    rw [e] at h
    exact pair_get p (i := j) h
end
section
variable {K : PySem.W.Frag} {Z H : Hp} {α β γ : Type} [Py α] [Py β] [Py γ] {v : V} {σ : L2.St} {R : L2.St → Hp → Prop}
theorem s_gt2 {H : Hp} {b : Addr} {x y : V} {g1 g2 : TG} (h : SqT K H b [x, y]) (q : g1 x σ H fun σ1 H1 => g2 y σ1 H1 R) : gTup K 2 (gCons g1 (gCons g2 gNil)) (.ref b) σ H R := by
  refine ⟨b, _, rfl, h, rfl, x, [y], rfl, ?_⟩
  have e3 : (fun (σ1 : L2.St) H1 => g2 y σ1 H1 R) = fun σ1 H1 => g2 y σ1 H1 fun σ2 H2 => ([] : List V) = [] ∧ R σ2 H2 := by
    funext σ1 H1
    have : R = fun σ2 H2 => ([] : List V) = [] ∧ R σ2 H2 := by
      funext σ2 H2
      exact propext ⟨fun z => ⟨rfl, z⟩, fun z => z.2⟩
    rw [← this]
  rw [e3] at q
  have e4 : (fun (σ1 : L2.St) H1 => g2 y σ1 H1 fun σ2 H2 => ([] : List V) = [] ∧ R σ2 H2) = fun σ1 H1 => gCons g2 gNil [y] σ1 H1 R := by
    funext σ1 H1
    refine propext ⟨fun z => ⟨y, [], rfl, z⟩, fun z => ?_⟩
    obtain ⟨y', r', e, z⟩ := z
    cases e
    exact z
  rw [e4] at q
  exact q
end
/-! ### what a def is, and that it keeps its promise -/
/-- the def x stands in the module as its text says -/
def FunAt (K : PySem.W.Frag) (mg : Str → Option Value) (x : Str) (st : Stmt) (ps : List Str) : Prop := ∃ f fd, Fun K x x st f fd ∧ mg x = some (.ref f) ∧ Binds K fd ps []
/-- the def x keeps the promise sp, by at most level k -/
def Has (P : Program) (w : World) (K : PySem.W.Frag) (mg : Str → Option Value) (base : Heap) (x : Str) (k : Nat) (sp : Sp) : Prop :=
  ∃ f fd ps, FnOk P w K mg base CX0 k f fd ps sp ∧ mg x = some (.ref f) ∧ PySem.W.keepIn K (.ref f) = true ∧ Binds K fd ps []
section
variable {X : Cx} {k k' : Nat} {sp : Sp} {x : Str} {p pos : Pos} {e : Expr} {es : List Expr} {t : TA}
theorem pe_callH (h : Has X.prog X.w X.K X.mg X.base x k sp) (hk : k ≤ k') (hr : Room k' X.A) (hg : Gl X x) (ha : PA X (e :: es) t) (hdb : (x == ("__debug__" : Str)) = false := by decide)
    (he : starEach (e :: es) X.env = (false, eval e X.env) :: starEach es X.env := by rfl) (hpl : (backTo pos (starEach es X.env)).any (·.1) = false := by rfl) : PE X (.Call (.Name x p) (e :: es) [] pos) (tCall sp [] E0 t) := by
  obtain ⟨f, fd, ps, F, hm, kp, hb⟩ := h
  exact pe_call F (hr.mono hk) hg hm kp hb .nil pass0 ha hdb he hpl
end
section
variable {P : Program} {w : World} {K : PySem.W.Frag} {mg : Str → Option Value} {base : Heap}
theorem fnok_of {x : Str} {st : Stmt} {N ps : List Str} {k : Nat} {sp : Sp} {f : Addr} {fd : FuncData} (F : Fun K x x st f fd) (S : FnScope N ps (defScope st)) (len : ∀ vs H Q E, sp vs H Q E → vs.length = ps.length)
    (hbody : ∀ (cdv : Value) (A : Around) (outer : List Env) (s : Shared) (H : Hp) (vs : List V) (Q : VK) (E : XK), Room k (A.deeper (envOfC x (defScope st) s.heap.objs.size f cdv)) → sp vs H Q E →
      ∃ t, PSs (cxOf CX0 P w K mg base N x (defScope st) f cdv A outer s H E).nox (defBody st) t ∧ t { nx := fun _ H' => Q .non H', rt := Q } (start N vs) H) : FnOk P w K mg base CX0 (k + 1) f fd ps sp := F.ok S len hbody
/-- a def's promise by its body -/
theorem has_of {x : Str} {st : Stmt} {N ps : List Str} {k : Nat} {sp : Sp} (F : FunAt K mg x st ps) (S : FnScope N ps (defScope st)) (len : ∀ vs H Q E, sp vs H Q E → vs.length = ps.length)
    (hbody : ∀ (f : Addr) (cdv : Value) (A : Around) (outer : List Env) (s : Shared) (H : Hp) (vs : List V) (Q : VK) (E : XK), Room k (A.deeper (envOfC x (defScope st) s.heap.objs.size f cdv)) → sp vs H Q E →
      ∃ t, PSs (cxOf CX0 P w K mg base N x (defScope st) f cdv A outer s H E).nox (defBody st) t ∧ t { nx := fun _ H' => Q .non H', rt := Q } (start N vs) H) : Has P w K mg base x (k + 1) sp := by
  obtain ⟨f, fd, F, hm, hb⟩ := F
  exact ⟨f, fd, ps, F.ok S len (hbody f), hm, F.kp, hb⟩
theorem Has.mono {x : Str} {j k : Nat} {sp : Sp} (h : Has P w K mg base x j sp) (hk : j ≤ k) : Has P w K mg base x k sp := by
  obtain ⟨f, fd, ps, F, r⟩ := h
  exact ⟨f, fd, ps, F.mono hk, r⟩
theorem Has.imp {x : Str} {k : Nat} {sp sp' : Sp} (h : Has P w K mg base x k sp) (hi : ∀ vs H Q E, sp' vs H Q E → sp vs H Q E) : Has P w K mg base x k sp' := by
  obtain ⟨f, fd, ps, F, r⟩ := h
  exact ⟨f, fd, ps, F.imp hi, r⟩
/-- a def as the head's facts tell it -/
theorem funAt_mk {h : Heap} (X : K.In h) (G : h.Ns mainGlobals mg) {x : Str} {st : Stmt} {ps : List Str} {f : Addr} {oc : Value} {od an : Option Addr} {osl : Array (Option Value)} {kV doc pm cdv ct : Value}
    (a : PySem.W.nsIn K mainGlobals x = some (some (.ref f))) (l : K.lookup f = some ⟨oc, od, .func (PySem.W.fnOf x x (defArgs st) (defBody st) (defScope st) .none kV doc pm an cdv ct), osl⟩)
    (c : PySem.W.codeIn K cdv x = true) (k : PySem.W.keepIn K (.ref f) = true)
    (b : ∀ (kV doc pm : Value) (an : Option Addr) (cdv ct : Value) (us : List Value), us.length = ps.length → bindArgs (PySem.W.fnOf x x (defArgs st) (defBody st) (defScope st) .none kV doc pm an cdv ct) ⟨us, []⟩ = pure (ps.zip us)) : FunAt K mg x st ps :=
  ⟨f, _, fun_mk l c k, PySem.W.mg_of X G a, (fun_mk (st := st) l c k).binds b⟩
/-- the law itself at the end -/
theorem law_end {P : Program} {h : Heap} (X : K.In h) (G : h.Ns mainGlobals mg) {fa : Addr} (hfa : mg "law" = some (.ref fa)) {st : Stmt} {x : Str} {k : Nat} {sp : Sp} {f : Addr} {oc : Value} {od an : Option Addr} {osl : Array (Option Value)} {kV doc pm cdv ct : Value}
    (a : PySem.W.nsIn K mainGlobals "law" = some (some (.ref f))) (l : K.lookup f = some ⟨oc, od, .func (PySem.W.fnOf "law" "law" (defArgs st) (defBody st) (defScope st) .none kV doc pm an cdv ct), osl⟩)
    (c : PySem.W.codeIn K cdv "law" = true) (kp : PySem.W.keepIn K (.ref f) = true)
    (hb : ∀ (s : Shared) (v : Value), BindsTo s (PySem.W.fnOf "law" "law" (defArgs st) (defBody st) (defScope st) .none kV doc pm an cdv ct) ⟨[v], []⟩ [(x, v)])
    (b : ∀ base : Heap, Fun K "law" "law" st f (PySem.W.fnOf "law" "law" (defArgs st) (defBody st) (defScope st) .none kV doc pm an cdv ct) → FnOk P w K mg base CX0 k f (PySem.W.fnOf "law" "law" (defArgs st) (defBody st) (defScope st) .none kV doc pm an cdv ct) [x] sp) :
    ∃ fd : FuncData, (∀ (s : Shared) (v : Value), BindsTo s fd ⟨[v], []⟩ [(x, v)]) ∧ ∀ base : Heap, K.In base → base.Ns mainGlobals mg → FnOk P w K mg base CX0 k fa fd [x] sp := by
  have e := hfa.symm.trans (PySem.W.mg_of X G a)
  cases e
  exact ⟨_, hb, fun base _ _ => b base (fun_mk l c kp)⟩
end
end TR
/-! the hand that is drawn from: n draws are left (its counter stays below 2^60) -/
namespace TR
open PySem L2
def Hand (K : PySem.W.Frag) (Z H : Hp) (h : Addr) (n : Nat) : Prop :=
  ∃ (d k : Int) (c : Addr) (cells : List Int), H h = some (.lst [.int d, .int k, .ref c]) ∧ 0 < cells.length ∧ 0 ≤ k ∧ k + n ≤ 1000000000000000000 ∧ Ex Z H ∧ Z h = none ∧ SqL K Z c (cells.map V.int)
theorem Hand.mono {K : PySem.W.Frag} {Z H : Hp} {h : Addr} {n m : Nat} (a : Hand K Z H h n) (l : m ≤ n) : Hand K Z H h m := by
  obtain ⟨d, k, c, cells, h1, h3, h4, h5, h6⟩ := a
  exact ⟨d, k, c, cells, h1, h3, h4, by omega, h6⟩
theorem Hand.ex {K : PySem.W.Frag} {Z H H' : Hp} {h : Addr} {n : Nat} (a : Hand K Z H h n) (e : Ex H H') : Hand K Z H' h n := by
  obtain ⟨d, k, c, cells, h1, h3, h4, h5, z1, z2, z3⟩ := a
  exact ⟨d, k, c, cells, e _ _ h1, h3, h4, h5, z1.trans e, z2, z3⟩
theorem Hand.exm {K : PySem.W.Frag} {Z H H' : Hp} {h g : Addr} {n : Nat} (a : Hand K Z H h n) (e : ExM g H H') (n1 : h ≠ g) (n2 : Z g = none) : Hand K Z H' h n := by
  obtain ⟨d, k, c, cells, h1, h3, h4, h5, z1, z2, z3⟩ := a
  exact ⟨d, k, c, cells, e _ _ n1 h1, h3, h4, h5, z1.exm n2 e, z2, z3⟩
theorem Hand.at {K : PySem.W.Frag} {Z H : Hp} {h : Addr} {n : Nat} (a : Hand K Z H h n) : ∃ o, H h = some o := by
  obtain ⟨d, k, c, cells, h1, _⟩ := a
  exact ⟨_, h1⟩
theorem Hand.z {K : PySem.W.Frag} {Z H : Hp} {h : Addr} {n : Nat} (a : Hand K Z H h n) : Ex Z H := by
  obtain ⟨d, k, c, cells, h1, h3, h4, h5, z1, z2, z3⟩ := a
  exact z1
theorem Hand.zn {K : PySem.W.Frag} {Z H : Hp} {h : Addr} {n : Nat} (a : Hand K Z H h n) : Z h = none := by
  obtain ⟨_, _, _, _, _, _, _, _, _, h6, _⟩ := a
  exact h6
theorem hand_ne {K : PySem.W.Frag} {Z H H' : Hp} {h p : Addr} {n : Nat} (hp : H' p = none) (a : Hand K Z H h n) (e : Ex H H') : p ≠ h := by
  obtain ⟨o, ho⟩ := a.at
  exact (ne_of_none (e _ _ ho) hp).symm
theorem hand_ne0 {K : PySem.W.Frag} {Z H : Hp} {h p : Addr} {n : Nat} (hp : H p = none) (a : Hand K Z H h n) : p ≠ h := hand_ne hp a (Ex.refl _)
theorem hand_ne1 {K : PySem.W.Frag} {Z H H' : Hp} {h p : Addr} {n : Nat} (hp : H' p = none) (e : Ex H H') (a : Hand K Z H h n) : p ≠ h := hand_ne hp a e
theorem hand_ne2 {K : PySem.W.Frag} {Z H H1 H' : Hp} {h p : Addr} {n : Nat} (hp : H' p = none) (e2 : Ex H1 H') (e : Ex H H1) (a : Hand K Z H h n) : p ≠ h := hand_ne hp a (e.trans e2)
/-- another list is changed, one that was made when the hand was there -/
theorem Hand.mut {K : PySem.W.Frag} {Z H H1 H' : Hp} {h g : Addr} {n m : Nat} (a : Hand K Z H h n) (e : ExM g H H') (b : Hand K Z H1 h m) (f : H1 g = none) : Hand K Z H' h n := a.exm e (hand_ne0 f b).symm (Ex.back b.z f)
section
variable {K : PySem.W.Frag} {σ : L2.St} {H : Hp} {te : TE} {Q : VK} {g : TG} {vs : List Nat}
end
/-! ### rows: a list of lists, each of them an object of its own -/
structure RW (K : PySem.W.Frag) (Z H : Hp) (p : Addr) (qs : List Addr) {α : Type} [Py α] (rs : List (List α)) : Prop where
  own : H p = some (.lst (qs.map V.ref))
  nd : (p :: qs).Nodup
  fr : ∀ q ∈ p :: qs, Z q = none
  zh : Ex Z H
  rows : Paired (fun q r => ∃ vs, H q = some (.lst vs) ∧ Paired (fun v x => Is K Z v x) vs r) qs rs
section
variable {K : PySem.W.Frag} {Z H H1 H' : Hp} {p q : Addr} {qs : List Addr} {α : Type} [Py α] {rs : List (List α)} {Q : VK}
theorem RW.start (h : H p = none) (e : Ex H H') (f : H' p = some (.lst [])) : RW K H H' p [] ([] : List (List α)) :=
  ⟨f, List.nodup_cons.mpr ⟨List.not_mem_nil, List.nodup_nil⟩, fun q hq => by rw [List.mem_singleton.mp hq]; exact h, e, .nil⟩
theorem RW.up (a : RW K Z H p qs rs) (e : Ex H H') : RW K Z H' p qs rs :=
  ⟨e _ _ a.own, a.nd, a.fr, a.zh.trans e, Paired.mapP a.rows fun q r ⟨vs, h1, h2⟩ => ⟨vs, e _ _ h1, h2⟩⟩
theorem RW.exm {g : Addr} (a : RW K Z H p qs rs) (e : ExM g H H') (hg : g ∉ p :: qs) (zg : Z g = none) : RW K Z H' p qs rs := by
  have n : ∀ q ∈ p :: qs, q ≠ g := fun q hq z => hg (z ▸ hq)
  refine ⟨e _ _ (n _ List.mem_cons_self) a.own, a.nd, a.fr, a.zh.exm zg e, ?_⟩
  have h := a.rows
  have n' : ∀ q ∈ qs, q ≠ g := fun q hq => n q (List.mem_cons_of_mem _ hq)
  clear a n hg
  induction h with
  | nil => exact .nil
  | cons h t ih => exact .cons (by obtain ⟨vs, h1, h2⟩ := h; exact ⟨vs, e _ _ (n' _ List.mem_cons_self) h1, h2⟩) (ih fun q hq => n' q (List.mem_cons_of_mem _ hq))
theorem RW.sq (a : RW K Z H p qs rs) : SqL K H p (qs.map V.ref) := sq_of a.own
theorem RW.len (a : RW K Z H p qs rs) : qs.length = rs.length := Paired.length a.rows
theorem RW.at' {qs : List Addr} {rs : List (List α)} {F : Addr → List α → Prop} : Paired F qs rs → ∀ {i : Nat} {q : Addr}, qs[i]? = some q → ∃ r, rs[i]? = some r ∧ F q r
  | .nil, i, q, h => by simp at h
  | .cons a t, 0, q, h => by cases h; exact ⟨_, rfl, a⟩
  | .cons a t, i + 1, q, h => RW.at' t h
theorem RW.at (a : RW K Z H p qs rs) {i : Nat} (h : qs[i]? = some q) : ∃ r vs, rs[i]? = some r ∧ H q = some (.lst vs) ∧ Paired (fun v x => Is K Z v x) vs r := by
  obtain ⟨r, h1, vs, h2, h3⟩ := RW.at' a.rows h
  exact ⟨r, vs, h1, h2, h3⟩
theorem RW.obj (a : RW K Z H p qs rs) : ∀ q ∈ p :: qs, ∃ o, H q = some o := fun q hq => by
  rcases List.mem_cons.mp hq with rfl | hq
  · exact ⟨_, a.own⟩
  · obtain ⟨i, h⟩ := List.mem_iff_getElem?.mp hq
    obtain ⟨_, vs, _, h2, _⟩ := a.at h
    exact ⟨_, h2⟩
theorem RW.new (a : RW K Z H p qs rs) (h : H q = none) : q ∉ p :: qs := fun hq => by
  obtain ⟨o, ho⟩ := a.obj q hq
  rw [h] at ho
  cases ho
theorem RW.is (a : RW K Z H p qs rs) : Is K H (.ref p) rs := by
  refine Is.of_list (sq_of a.own) ?_
  have h := a.rows
  have e := a.zh
  clear a
  induction h with
  | nil => exact .nil
  | cons h t ih => exact .cons (by obtain ⟨vs, h1, h2⟩ := h; exact Is.of_list (sq_of h1) (Paired.mapP h2 fun v x g => Is.ex e g)) ih
theorem paired_snoc {β γ : Type} {F : β → γ → Prop} : ∀ {xs : List β} {ys : List γ} {x : β} {y : γ}, Paired F xs ys → F x y → Paired F (xs ++ [x]) (ys ++ [y])
  | _, _, _, _, .nil, h => .cons h .nil
  | _, _, _, _, .cons a t, h => .cons a (paired_snoc t h)
theorem RW.push' {m : ExM q H H'} {F : Addr → List α → Prop} {G : Addr → List α → Prop} (hF : ∀ b r, b ≠ q → F b r → G b r) : ∀ {qs : List Addr} {rs : List (List α)} {i : Nat} {r' : List α}, Paired F qs rs → qs.Nodup → qs[i]? = some q → G q r' → Paired G qs (rs.set i r')
  | [], _, i, r', .nil, _, h, _ => by simp at h
  | b :: qs, r :: rs, 0, r', .cons a t, nd, h, g => by
    cases h
    refine .cons g ?_
    have nb := (List.nodup_cons.mp nd).1
    clear nd
    induction t with
    | nil => exact .nil
    | cons a2 t2 ih => exact .cons (hF _ _ (fun z => nb (z ▸ List.mem_cons_self)) a2) (ih fun z => nb (List.mem_cons_of_mem _ z))
  | b :: qs, r :: rs, i + 1, r', .cons a t, nd, h, g => by
    have nb : b ≠ q := fun z => (List.nodup_cons.mp nd).1 (z ▸ List.mem_of_getElem? h)
    exact .cons (hF _ _ nb a) (RW.push' (m := m) hF t (List.nodup_cons.mp nd).2 h g)
/-- one more thing in a row -/
theorem n_pushRW {v : V} {x : α} {i : Nat} {r : List α} (a : RW K Z H p qs rs) (hi : qs[i]? = some q) (hr : rs[i]? = some r) (hv : Is K Z v x) (hz : r.length < 100000)
    (k : ∀ H2, ExM q H H2 → RW K Z H2 p qs (rs.set i (r ++ [x])) → Q .non H2) : rAppend (.ref q) [v] H Q := by
  obtain ⟨r', vs, h1, h2, h3⟩ := a.at hi
  rw [hr] at h1
  cases h1
  have hm := List.mem_of_getElem? hi
  refine n_app h2 (by rw [Paired.length h3]; exact hz) fun H2 m f2 => k H2 m ?_
  have nq : p ≠ q := fun z => (List.nodup_cons.mp a.nd).1 (z ▸ hm)
  refine ⟨m _ _ nq a.own, a.nd, a.fr, a.zh.exm (a.fr q (List.mem_cons_of_mem _ hm)) m, ?_⟩
  exact RW.push' (m := m) (fun b r nb ⟨vs, g1, g2⟩ => ⟨vs, m _ _ nb g1, g2⟩) a.rows (List.nodup_cons.mp a.nd).2 hi ⟨_, f2, Paired.snoc h3 hv⟩
end
section
variable {K : PySem.W.Frag} {σ : L2.St} {H : Hp} {te : TE} {Q : VK} {g : TG} {vs : List Nat}
theorem paired_of {β γ : Type} {F : β → γ → Prop} : ∀ {xs : List β} {ys : List γ}, xs.length = ys.length → (∀ (i : Nat) (x : β) (y : γ), xs[i]? = some x → ys[i]? = some y → F x y) → Paired F xs ys
  | [], [], _, _ => .nil
  | x :: xs, y :: ys, h, f => .cons (f 0 x y rfl rfl) (paired_of (by simpa using h) fun i a b ha hb => f (i + 1) a b ha hb)
/-- .. are rows -/
theorem RW.of {K : PySem.W.Frag} {H H' : Hp} {D : Addr} {qs : List Addr} {α : Type} [Py α] {rs : List (List α)} {F : Nat → List V} (nd : (D :: qs).Nodup) (nn : ∀ q ∈ D :: qs, H q = none) (e : Ex H H') (ho : H' D = some (.lst (qs.map V.ref))) (hl : qs.length = rs.length)
    (ha : ∀ i q, qs[i]? = some q → H' q = some (.lst (F i))) (hp : ∀ i r, rs[i]? = some r → Paired (fun v x => Is K H v x) (F i) r) : RW K H H' D qs rs :=
  ⟨ho, nd, nn, e, paired_of hl fun i q r h1 h2 => ⟨_, ha i q h1, hp i r h2⟩⟩
theorem ints_pair {K : PySem.W.Frag} {H : Hp} : ∀ {xs : List Int}, Paired (fun v x => Is K H v x) (xs.map V.int) xs
  | [] => .nil
  | _ :: _ => .cons (Is.int _) ints_pair
theorem RW.ints {K : PySem.W.Frag} {Z Z' H : Hp} {p : Addr} {qs : List Addr} {rs : List (List Int)} (a : RW K Z H p qs rs) (e : Ex Z' H) (n : ∀ q ∈ p :: qs, Z' q = none) : RW K Z' H p qs rs :=
  ⟨a.own, a.nd, n, e, Paired.mapP a.rows fun q r ⟨vs, h1, h2⟩ => ⟨vs, h1, by rw [pair_ints h2]; exact ints_pair⟩⟩
end
section
variable {K : PySem.W.Frag} {σ : L2.St} {H : Hp} {te : TE} {Q : VK} {g : TG} {vs : List Nat}
theorem zip_mem {β γ : Type} {F : β → γ → Prop} : ∀ {xs : List β} {ys : List γ}, Paired F xs ys → ∀ p ∈ xs.zip ys, F p.1 p.2 ∧ p.2 ∈ ys
  | _, _, .nil, _, h => nomatch h
  | _, _, .cons a t, p, h => by
    rcases List.mem_cons.mp h with rfl | h
    · exact ⟨a, List.mem_cons_self⟩
    · obtain ⟨h1, h2⟩ := zip_mem t p h
      exact ⟨h1, List.mem_cons_of_mem _ h2⟩
theorem paired_append {β γ : Type} {F : β → γ → Prop} : ∀ {xs : List β} {ys : List γ} {zs : List β} {ws : List γ}, Paired F xs ys → Paired F zs ws → Paired F (xs ++ zs) (ys ++ ws)
  | _, _, _, _, .nil, h => h
  | _, _, _, _, .cons a t, h => .cons a (paired_append t h)
theorem paired_reverse {β γ : Type} {F : β → γ → Prop} : ∀ {xs : List β} {ys : List γ}, Paired F xs ys → Paired F xs.reverse ys.reverse
  | _, _, .nil => .nil
  | _, _, .cons a t => by rw [List.reverse_cons, List.reverse_cons]; exact paired_append (paired_reverse t) (.cons a .nil)
end
section
variable {K : PySem.W.Frag} {σ : L2.St} {H : Hp} {tt : TT} {te : TE} {Q : VK} {g : TG} {vs : List Nat}
end
section
variable {K : PySem.W.Frag} {H : Hp} {Q : VK}
theorem paired_drop {β γ : Type} {F : β → γ → Prop} : ∀ {xs : List β} {ys : List γ} (n : Nat), Paired F xs ys → Paired F (xs.drop n) (ys.drop n)
  | _, _, 0, h => h
  | _, _, _ + 1, .nil => .nil
  | _, _, n + 1, .cons _ t => paired_drop n t
theorem paired_take {β γ : Type} {F : β → γ → Prop} : ∀ {xs : List β} {ys : List γ} (n : Nat), Paired F xs ys → Paired F (xs.take n) (ys.take n)
  | _, _, 0, _ => by rw [List.take_zero, List.take_zero]; exact .nil
  | _, _, _ + 1, .nil => .nil
  | _, _, n + 1, .cons a t => .cons a (paired_take n t)
theorem paired_cut {β γ : Type} {F : β → γ → Prop} {xs : List β} {ys : List γ} (h : Paired F xs ys) (lo hi : Option Int) : Paired F (cutI xs lo hi) (cutI ys lo hi) := by
  unfold cutI
  rw [Paired.length h]
  exact paired_take _ (paired_drop _ h)
end
section
variable {K : PySem.W.Frag} {σ : L2.St} {H : Hp} {te : TE} {Q : VK} {g : TG} {vs : List Nat}
end
section
variable {K : PySem.W.Frag} {σ : L2.St} {H : Hp} {tt : TT} {te : TE} {Q : VK} {g : TG} {vs : List Nat}
/-- targets one behind another -/
theorem g_n {R : L2.St → Hp → Prop} : (fun (σ : L2.St) H => gNil [] σ H R) = R := by
  funext σ H
  exact propext ⟨fun z => z.2, fun z => ⟨rfl, z⟩⟩
theorem g_c {g : TG} {rest : List V → L2.St → Hp → (L2.St → Hp → Prop) → Prop} {y : V} {ys : List V} {R : L2.St → Hp → Prop} : gCons g rest (y :: ys) σ H R = g y σ H (fun σ1 H1 => rest ys σ1 H1 R) := by
  refine propext ⟨fun z => ?_, fun z => ⟨y, ys, rfl, z⟩⟩
  obtain ⟨y', r', e, z⟩ := z
  cases e
  exact z
theorem s_gt3 {b : Addr} {x y z : V} {g1 g2 g3 : TG} {R : L2.St → Hp → Prop} (h : SqT K H b [x, y, z]) (q : g1 x σ H fun σ1 H1 => g2 y σ1 H1 fun σ2 H2 => g3 z σ2 H2 R) : gTup K 3 (gCons g1 (gCons g2 (gCons g3 gNil))) (.ref b) σ H R := by
  refine ⟨b, _, rfl, h, rfl, ?_⟩
  rw [g_c]
  simp only [g_c, g_n]
  exact q
/-- a value that is a list of numbers of its own -/
def Lp (H : Hp) (v : V) (r : List Int) : Prop := ∃ a, v = .ref a ∧ H a = some (.lst (r.map V.int))
theorem Lp.ex {H H' : Hp} {v : V} {r : List Int} (e : Ex H H') (h : Lp H v r) : Lp H' v r := by
  obtain ⟨a, h1, h2⟩ := h
  exact ⟨a, h1, e _ _ h2⟩
theorem Lp.is {v : V} {r : List Int} (h : Lp H v r) : Is K H v r := by
  obtain ⟨a, rfl, h2⟩ := h
  exact Is.ints (sq_of h2)
end
section
variable {K : PySem.W.Frag} {σ : L2.St} {H : Hp} {tt : TT} {te : TE} {Q : VK} {g : TG} {vs : List Nat}
theorem lc_yes {A : VK} {B : Hp → Prop} : (fun (σ2 : L2.St) H2 => wipe σ2 vs = wipe σ vs ∧ tYes σ2 H2 fun b H3 => if b = true then te σ2 H3 A else B H3) = fun σ2 H2 => wipe σ2 vs = wipe σ vs ∧ te σ2 H2 A := by
  funext σ2 H2
  show (_ ∧ if true = true then te σ2 H2 A else B H2) = _
  rw [if_pos rfl]
end
/-! ### pairs of numbers, sorted -/
/-- a value that is a tuple of two numbers -/
def Tp (H : Hp) (v : V) (r : Int × Int) : Prop := ∃ a, v = .ref a ∧ H a = some (.tup [.int r.1, .int r.2])
theorem Tp.ex {H H' : Hp} {v : V} {r : Int × Int} (e : Ex H H') (h : Tp H v r) : Tp H' v r := by
  obtain ⟨a, h1, h2⟩ := h
  exact ⟨a, h1, e _ _ h2⟩
theorem Tp.exm {H H' : Hp} {D : Addr} {xs : List V} {v : V} {r : Int × Int} (hD : H D = some (.lst xs)) (e : ExM D H H') (h : Tp H v r) : Tp H' v r := by
  obtain ⟨a, h1, h2⟩ := h
  refine ⟨a, h1, e _ _ (fun z => ?_) h2⟩
  rw [z, hD] at h2
  cases h2
theorem Tp.is {K : PySem.W.Frag} {H : Hp} {v : V} {r : Int × Int} (h : Tp H v r) : Is K H v r := by
  obtain ⟨a, rfl, h2⟩ := h
  exact Is.pair (st_of h2) (Is.int _) (Is.int _)
def lexI (a b : Int × Int) : Bool := decide (a.1 < b.1 ∨ (a.1 = b.1 ∧ a.2 ≤ b.2))
def sortP (l : List (Int × Int)) : List (Int × Int) := l.mergeSort lexI
def keyP (H : Hp) (v : V) : Int × Int := match v with
  | .ref t => match H t with
    | some (.tup [.int i, .int j]) => (i, j)
    | _ => (0, 0)
  | _ => (0, 0)
/-- values that are tuples of three, of four numbers -/
def Rp (H : Hp) (v : V) (t : T3 Int Int Int) : Prop := ∃ a, v = .ref a ∧ H a = some (.tup [.int t.a, .int t.b, .int t.c])
def Qp (H : Hp) (v : V) (t : T4 Int Int Int Int) : Prop := ∃ a, v = .ref a ∧ H a = some (.tup [.int t.a, .int t.b, .int t.c, .int t.d])
theorem Rp.ex {H H' : Hp} {v : V} {r : T3 Int Int Int} (e : Ex H H') (h : Rp H v r) : Rp H' v r := by
  obtain ⟨a, h1, h2⟩ := h
  exact ⟨a, h1, e _ _ h2⟩
theorem Qp.ex {H H' : Hp} {v : V} {r : T4 Int Int Int Int} (e : Ex H H') (h : Qp H v r) : Qp H' v r := by
  obtain ⟨a, h1, h2⟩ := h
  exact ⟨a, h1, e _ _ h2⟩
theorem Rp.exm {H H' : Hp} {D : Addr} {xs : List V} {v : V} {r : T3 Int Int Int} (hD : H D = some (.lst xs)) (e : ExM D H H') (h : Rp H v r) : Rp H' v r := by
  obtain ⟨a, h1, h2⟩ := h
  refine ⟨a, h1, e _ _ (fun z => ?_) h2⟩
  rw [z, hD] at h2
  cases h2
theorem Qp.exm {H H' : Hp} {D : Addr} {xs : List V} {v : V} {r : T4 Int Int Int Int} (hD : H D = some (.lst xs)) (e : ExM D H H') (h : Qp H v r) : Qp H' v r := by
  obtain ⟨a, h1, h2⟩ := h
  refine ⟨a, h1, e _ _ (fun z => ?_) h2⟩
  rw [z, hD] at h2
  cases h2
theorem Rp.is {K : PySem.W.Frag} {H : Hp} {v : V} {r : T3 Int Int Int} (h : Rp H v r) : Is K H v r := by
  obtain ⟨a, rfl, h2⟩ := h
  exact Is.three (st_of h2) (Is.int _) (Is.int _) (Is.int _)
theorem Qp.is {K : PySem.W.Frag} {H : Hp} {v : V} {r : T4 Int Int Int Int} (h : Qp H v r) : Is K H v r := by
  obtain ⟨a, rfl, h2⟩ := h
  exact Is.four (st_of h2) (Is.int _) (Is.int _) (Is.int _) (Is.int _)
theorem s_gt4 {K : PySem.W.Frag} {σ : L2.St} {H : Hp} {b : Addr} {x y z t : V} {g1 g2 g3 g4 : TG} {R : L2.St → Hp → Prop} (h : SqT K H b [x, y, z, t]) (q : g1 x σ H fun σ1 H1 => g2 y σ1 H1 fun σ2 H2 => g3 z σ2 H2 fun σ3 H3 => g4 t σ3 H3 R) : gTup K 4 (gCons g1 (gCons g2 (gCons g3 (gCons g4 gNil)))) (.ref b) σ H R := by
  refine ⟨b, _, rfl, h, rfl, ?_⟩
  rw [g_c]
  simp only [g_c, g_n]
  exact q
theorem ixN_last (n : Nat) : ixN (n + 1) (-1) = some n := by
  unfold ixN
  rw [if_neg (by decide), if_pos (by omega)]
  congr 1
  omega
theorem paired_snoc_inv {β γ : Type} {F : β → γ → Prop} : ∀ {ys : List γ} {xs : List β} {y : γ}, Paired F xs (ys ++ [y]) → ∃ us u, xs = us ++ [u] ∧ Paired F us ys ∧ F u y
  | [], _, _, .cons a .nil => ⟨[], _, rfl, .nil, a⟩
  | _ :: ys, _, _, .cons a t => by
    obtain ⟨us, u, rfl, h1, h2⟩ := paired_snoc_inv (ys := ys) t
    exact ⟨_ :: us, u, rfl, .cons a h1, h2⟩
/-! ### a dict of counts -/
def CntD (H : Hp) (p : Addr) (f : Int → Int) (n : Nat) : Prop := ∃ kvs : List (L2.Key × V), H p = some (.dK kvs) ∧ kvs.length ≤ n ∧ ∀ r : Int, (valV kvs (Sum.inl r)).getD (.int 0) = .int (f r)
theorem CntD.ex {H H' : Hp} {p : Addr} {f : Int → Int} {n : Nat} (c : CntD H p f n) (e : Ex H H') : CntD H' p f n := by
  obtain ⟨kvs, h1, h2⟩ := c
  exact ⟨kvs, e _ _ h1, h2⟩
theorem CntD.exm {H H' : Hp} {p g : Addr} {f : Int → Int} {n : Nat} (c : CntD H p f n) (e : ExM g H H') (hn : p ≠ g) : CntD H' p f n := by
  obtain ⟨kvs, h1, h2⟩ := c
  exact ⟨kvs, e _ _ hn h1, h2⟩
theorem CntD.congr {H : Hp} {p : Addr} {f g : Int → Int} {n m : Nat} (c : CntD H p f n) (h : ∀ r, f r = g r) (hm : n ≤ m) : CntD H p g m := by
  obtain ⟨kvs, h1, h2, h3⟩ := c
  exact ⟨kvs, h1, by omega, fun r => by rw [h3, h]⟩
def DG1 (a : Addr) (y z : V) (H3 : Hp) (Q : VK) : Prop := ∃ o, DGet H3 a y o ∧ Q (o.getD z) H3
def DG (ty tx : TE) (σ : L2.St) (x : V) (H1 : Hp) (Q : VK) : Prop := ∃ a, x = .ref a ∧ IsD H1 a ∧ ty σ H1 fun y H2 => tx σ H2 fun z H3 => DG1 a y z H3 Q
def DP (x y v : V) (H : Hp) (R : Hp → Prop) : Prop := ∃ a H4, x = .ref a ∧ DPut H a y v H4 ∧ R H4
section
variable {σ : L2.St} {H : Hp} {td ty tx tv : TE} {Q : VK} {D : Ends} {p : Addr} {f : Int → Int} {n : Nat}
theorem s_dget2 (q : td σ H fun x H1 => DG ty tx σ x H1 Q) : tDGet2 td ty tx σ H Q := q
theorem s_dput (q : tv σ H fun v H1 => td σ H1 fun x H2 => ty σ H2 fun y H3 => DP x y v H3 fun H4 => D.nx σ H4) : sDPut td ty tv D σ H := q
end
/-- a value that is a list of numbers, not the one at p -/
def Lq (p : Addr) (H : Hp) (v : V) (r : List Int) : Prop := ∃ a, v = .ref a ∧ a ≠ p ∧ H a = some (.lst (r.map V.int))
theorem Lq.ex {p : Addr} {H H' : Hp} {v : V} {r : List Int} (e : Ex H H') (h : Lq p H v r) : Lq p H' v r := by
  obtain ⟨a, h1, h2, h3⟩ := h
  exact ⟨a, h1, h2, e _ _ h3⟩
theorem Lq.exm {p : Addr} {H H' : Hp} {v : V} {r : List Int} (e : ExM p H H') (h : Lq p H v r) : Lq p H' v r := by
  obtain ⟨a, h1, h2, h3⟩ := h
  exact ⟨a, h1, h2, e _ _ h2 h3⟩
theorem paired_set {β γ : Type} {F : β → γ → Prop} : ∀ {xs : List β} {ys : List γ} {x : β} {y : γ} (i : Nat), Paired F xs ys → F x y → Paired F (xs.set i x) (ys.set i y)
  | _, _, _, _, _, .nil, _ => .nil
  | _, _, _, _, 0, .cons _ t, h => .cons h t
  | _, _, _, _, i + 1, .cons a t, h => .cons a (paired_set i t h)
end TR
namespace TR
open PySem L2
/-- a test | a value, with a word behind it: what follows is shown once, from Mid -/
def tTCut (t : TT) : TT := fun σ H QB => ∃ Mid : Bool → Hp → Prop, t σ H Mid ∧ ∀ b H1, Mid b H1 → QB b H1
def tECut (t : TE) : TE := fun σ H Q => ∃ Mid : VK, t σ H Mid ∧ ∀ v H1, Mid v H1 → Q v H1
end TR

/-! ### classes, methods, exceptions of the text -/
namespace TR
open PySem L2 PySem.Spec PyProof.Rows
/-- where a class of the text stands -/
def clsA (K : PySem.W.Frag) (x : Str) : Addr := match PySem.W.nsIn K mainGlobals x with | some (some (.ref C)) => C | _ => 0
/-- a def that may raise keeps the promise -/
def HasX (P : Program) (w : World) (K : PySem.W.Frag) (mg : Str → Option Value) (base : Heap) (x : Str) (k : Nat) (sp : Sp) : Prop :=
  ∃ f fd ps, FnOk P w K mg base (L2.CX P w) k f fd ps sp ∧ mg x = some (.ref f) ∧ PySem.W.keepIn K (.ref f) = true ∧ Binds K fd ps []
/-- a method -/
def HasM (P : Program) (w : World) (K : PySem.W.Frag) (mg : Str → Option Value) (base : Heap) (x m : Str) (k : Nat) (sp : Sp) : Prop :=
  ∃ f fd ps, FnOk P w K mg base (L2.CX P w) k f fd ps sp ∧ Meth K (clsA K x) m f ∧ Binds K fd ps []
/-- a class that is made by its __init__ -/
def HasK (P : Program) (w : World) (K : PySem.W.Frag) (mg : Str → Option Value) (base : Heap) (x : Str) (k : Nat) (sp : Sp) : Prop :=
  ∃ f fd ps, FnOk P w K mg base (L2.CX P w) k f fd ps sp ∧ Mk K (clsA K x) f ∧ mg x = some (.ref (clsA K x)) ∧ Binds K fd ps []
structure MethAt (K : PySem.W.Frag) (x m q : Str) (st : Stmt) (ps : List Str) : Prop where
  ex : ∃ f fd, Fun K m q st f fd ∧ Meth K (clsA K x) m f ∧ Binds K fd ps []
structure MakeAt (K : PySem.W.Frag) (mg : Str → Option Value) (x q : Str) (st : Stmt) (ps : List Str) : Prop where
  ex : ∃ f fd, Fun K "__init__" q st f fd ∧ Mk K (clsA K x) f ∧ mg x = some (.ref (clsA K x)) ∧ Binds K fd ps []
/-- an exception class with one field that its __init__ lays -/
structure ExF (K : PySem.W.Frag) (mg : Str → Option Value) (x f : Str) : Prop where
  o : OexC K (clsA K x)
  g : mg x = some (.ref (clsA K x))
  n : PySem.W.findIn K (.ref (clsA K x)) f = some none
structure ExAt (K : PySem.W.Frag) (x q : Str) (st : Stmt) (ps : List Str) : Prop where
  ex : ∃ fI fd, Fun K "__init__" q st fI fd ∧ PySem.W.findIn K (.ref (clsA K x)) "__init__" = some (some (.ref fI)) ∧ PySem.W.typeIn K (.ref fI) = some (.type "function") ∧ Binds K fd ps []
/-- the class over all own exceptions, itself right under ValueError -/
structure TeC (K : PySem.W.Frag) (mg : Str → Option Value) (x : Str) : Prop where
  g : mg x = some (.ref (clsA K x))
  ga : PySem.W.specialIn K (.ref (clsA K x)) "__getattribute__" = some (some (.builtin "type.__getattribute__"))
  rd : PySem.W.readsIn K (clsA K x) (.type "type") = true
  fi : PySem.W.findCls K (.ref (clsA K x)) (.type "type") "__init__" = some (.val (.builtin "ValueError.__init__"))
def spInit (f : Str) (K : PySem.W.Frag) : Sp := fun vs H Q _ => ∃ (a C : Addr) (v : V), vs = [.ref a, v] ∧ OexC K C ∧ PySem.W.findIn K (.ref C) f = some none ∧ H a = some (exo a C none) ∧ ∀ d, H d = none → d ≠ a → Q .non (upd (upd H d (exd d [(f, v)])) a (exo a C (some d)))
def HasE (P : Program) (w : World) (K : PySem.W.Frag) (mg : Str → Option Value) (base : Heap) (x f : Str) (k : Nat) : Prop :=
  ∃ fI fd ps, FnOk P w K mg base CX0 k fI fd ps (spInit f K) ∧ ExF K mg x f ∧ PySem.W.findIn K (.ref (clsA K x)) "__init__" = some (some (.ref fI)) ∧ PySem.W.typeIn K (.ref fI) = some (.type "function") ∧ Binds K fd ps []
/-- what may be let out at the slots σ -/
abbrev Px (X : Cx) (E : L2.St → XK) : Prop := ∀ σ, PassesAt (L2.CX X.prog X.w) X σ (E σ)
def tCallE (sp : Sp) (E : L2.St → XK) (t : TA) : TE := fun σ H Q => t σ H fun vs H1 => sp vs H1 Q (E σ)
def tMethE (C : Addr) (m : Str) (sp : Sp) (E : L2.St → XK) (ta : TE) (t : TA) : TE := fun σ H Q => ta σ H fun x H1 => ∃ a dx fs, x = .ref a ∧ H1 a = some (.ins C dx fs) ∧ fs.lookup m = none ∧ t σ H1 fun vs H2 => sp (x :: vs) H2 Q (E σ)
def tMakeE (C : Addr) (sp : Sp) (E : L2.St → XK) (t : TA) : TE := fun σ H Q => t σ H fun vs H1 => ∀ x dx, H1 x = none → H1 dx = none → dx ≠ x → sp (.ref x :: vs) (upd (upd H1 dx (.own x)) x (.ins C dx [])) (fun v H2 => v = .non ∧ Q (.ref x) H2) (E σ)
section
variable {X : Cx} {k k' : Nat} {sp : Sp} {x m f : Str} {p p1 p2 pos pos2 apos : Pos} {e o : Expr} {es : List Expr} {t : TA} {ta : TE} {E : L2.St → XK} {W : WX}
end
section
variable {X : Cx} {k k' : Nat} {sp : Sp} {x m f : Str} {p p1 p2 pos pos2 apos : Pos} {e o : Expr} {es : List Expr} {t : TA} {ta : TE} {W : WX}
/-- raise X(e) -/
def tRaise (C : Addr) (f : Str) (W : WX) (t : TA) : TS := fun _ σ H => t σ H fun vs H1 => ∃ v, vs = [v] ∧ ∀ d, H1 d = none → W (.ref C) (some d) σ (upd H1 d (.xd [(f, v)]))
end
section
variable {P : Program} {w : World} {K : PySem.W.Frag} {mg : Str → Option Value} {base : Heap}
end
end TR
namespace TR
open PySem L2 PySem.Spec PyProof.Rows
end TR
namespace TR
open PySem L2 PySem.Spec PyProof.Rows
section
variable {P : Program} {w : World} {K : PySem.W.Frag} {mg : Str → Option Value} {base : Heap} {x y : Str} {k : Nat} {sp : Sp}
theorem Has.alias (h : Has P w K mg base x k sp) (e : mg y = mg x) : Has P w K mg base y k sp := by
  obtain ⟨f, fd, ps, F, hm, r⟩ := h
  exact ⟨f, fd, ps, F, e.trans hm, r⟩
theorem HasX.alias (h : HasX P w K mg base x k sp) (e : mg y = mg x) : HasX P w K mg base y k sp := by
  obtain ⟨f, fd, ps, F, hm, r⟩ := h
  exact ⟨f, fd, ps, F, e.trans hm, r⟩
end
end TR
namespace TR
open PySem L2
section
variable {K : PySem.W.Frag} {H : Hp} {σ : L2.St} {Q : VK} {D : Ends} {C a dx : Addr} {f m : Str} {W : WX} {t : TA} {ta tv : TE} {E : L2.St → XK} {E1 : XK} {sp : Sp} {v : V} {fs : List (Str × V)}
def RaP (C : Addr) (f : Str) (W : WX) (σ : L2.St) (vs : List V) (H : Hp) : Prop := ∃ v, vs = [v] ∧ ∀ d, H d = none → W (.ref C) (some d) σ (upd H d (.xd [(f, v)]))
theorem s_raise (q : t σ H fun vs H1 => RaP C f W σ vs H1) : tRaise C f W t D σ H := q
theorem n_raise (q : ∀ d, H d = none → W (.ref C) (some d) σ (upd H d (.xd [(f, v)]))) : RaP C f W σ [v] H := ⟨v, rfl, q⟩
theorem s_callE (q : t σ H fun vs H1 => sp vs H1 Q (E σ)) : tCallE sp E t σ H Q := q
def MeP (C : Addr) (m : Str) (sp : Sp) (E1 : XK) (t : TA) (σ : L2.St) (x : V) (H1 : Hp) (Q : VK) : Prop := ∃ a dx fs, x = .ref a ∧ H1 a = some (.ins C dx fs) ∧ fs.lookup m = none ∧ t σ H1 fun vs H2 => sp (x :: vs) H2 Q E1
theorem s_meth (q : ta σ H fun x H1 => MeP C m sp (E σ) t σ x H1 Q) : tMethE C m sp E ta t σ H Q := q
theorem n_meth (h : H a = some (.ins C dx fs)) (l : fs.lookup m = none) (q : t σ H fun vs H2 => sp (.ref a :: vs) H2 Q E1) : MeP C m sp E1 t σ (.ref a) H Q := ⟨a, dx, fs, rfl, h, l, q⟩
def FlP (K : PySem.W.Frag) (f : Str) (x : V) (H : Hp) (Q : VK) : Prop := ∃ a C dx fs v, x = .ref a ∧ H a = some (.ins C dx fs) ∧ Cls K C ∧ NoAttr K C f ∧ fs.lookup f = some v ∧ Q v H
theorem s_fld (q : ta σ H fun x H1 => FlP K f x H1 Q) : tFld K ta f σ H Q := q
theorem n_fld (h : H a = some (.ins C dx fs)) (c : Cls K C) (n : NoAttr K C f) (l : fs.lookup f = some v) (q : Q v H) : FlP K f (.ref a) H Q := ⟨a, C, dx, fs, v, rfl, h, c, n, l, q⟩
def FsP (K : PySem.W.Frag) (f : Str) (y x : V) (H : Hp) (R : Hp → Prop) : Prop := ∃ a C dx fs, x = .ref a ∧ H a = some (.ins C dx fs) ∧ Cls K C ∧ NoAttr K C f ∧ fs.length < 1000 ∧ R (upd H a (.ins C dx (putF f y fs)))
theorem s_fset (q : tv σ H fun y H1 => ta σ H1 fun x H2 => FsP K f y x H2 (D.nx σ)) : sFld K ta tv f D σ H := q
def MkP' (C : Addr) (sp : Sp) (E1 : XK) (vs : List V) (H1 : Hp) (Q : VK) : Prop := ∀ x dx, H1 x = none → H1 dx = none → dx ≠ x → sp (.ref x :: vs) (upd (upd H1 dx (.own x)) x (.ins C dx [])) (fun v H2 => v = .non ∧ Q (.ref x) H2) E1
theorem s_make (q : t σ H fun vs H1 => MkP' C sp E1 vs H1 Q) : tMake C sp [] E1 t σ H Q := by
  have e : (fun (vs : List V) (H1 : Hp) => ∀ x dx, H1 x = none → H1 dx = none → dx ≠ x → sp (.ref x :: (vs ++ [])) (upd (upd H1 dx (.own x)) x (.ins C dx [])) (fun v H2 => v = .non ∧ Q (.ref x) H2) E1) = fun vs H1 => MkP' C sp E1 vs H1 Q := by
    funext vs H1
    rw [List.append_nil]
    rfl
  show t σ H _
  rw [e]
  exact q
end
end TR
namespace TR
open PySem L2
section
variable {K : PySem.W.Frag} {H : Hp} {σ : L2.St} {Q : VK} {D : Ends} {C a : Addr} {f : Str} {ta : TA} {to te : TE} {ws : List V} {y : V}
def VeP (K : PySem.W.Frag) (vs : List V) (H1 : Hp) (Q : VK) : Prop := ∃ (a C : Addr) (ws : List V), vs = .ref a :: ws ∧ ws.length ≤ 1000 ∧ OexC K C ∧ H1 a = some (exo a C none) ∧ Q .non H1
def OsP (K : PySem.W.Frag) (f : Str) (y x : V) (H2 : Hp) (R : Hp → Prop) : Prop := ∃ a C : Addr, x = .ref a ∧ OexC K C ∧ PySem.W.findIn K (.ref C) f = some none ∧
  ((H2 a = some (exo a C none) ∧ ∀ dx, H2 dx = none → dx ≠ a → R (upd (upd H2 dx (exd dx [(f, y)])) a (exo a C (some dx)))) ∨
    ∃ (dx : Addr) (fs : List (Str × V)), H2 a = some (exo a C (some dx)) ∧ H2 dx = some (exd dx fs) ∧ fs.length ≤ 900 ∧ R (upd H2 dx (exd dx ((f, y) :: fs))))
end
end TR
namespace TR
open PySem L2
end TR
namespace TR
open PySem L2 PySem.Spec PyProof.Rows
section
variable {X : Cx} {K : PySem.W.Frag} {k k' : Nat} {sp : Sp} {x m f : Str} {p pos apos : Pos} {e o : Expr} {es : List Expr} {t : TA} {ta : TE} {E : L2.St → XK}
end
end TR
namespace TR
open PySem L2
section
variable {K : PySem.W.Frag} {x y f : Str} {C D : Addr} {b : Bool}
end
section
variable {K : PySem.W.Frag} {c cls : Value} {i : Nat} {ts : Addr → Value → Option Addr → TS} {Wout : WX} {D : Ends} {d : Option Addr} {σ : L2.St} {H : Hp} {a dd C : Addr} {f : Str} {te : TE} {Q : VK} {fs : List (Str × V)} {v : V}
def XfP (a : Addr) (cls : Value) (d : Option Addr) (C : Addr) (f : Str) (x : V) (H1 : Hp) (Q : VK) : Prop := x = .ref a ∧ cls = .ref C ∧ ∃ (dd : Addr) (fs : List (Str × V)) (v : V), d = some dd ∧ H1 dd = some (.xd fs) ∧ fs.lookup f = some v ∧ Q v H1
theorem s_xf (q : te σ H fun x H1 => XfP a cls d C f x H1 Q) : tXf a cls d C f te σ H Q := q
theorem n_xf (h : H dd = some (.xd fs)) (l : fs.lookup f = some v) (q : Q v H) : XfP a (.ref C) (some dd) C f (.ref a) H Q := ⟨rfl, rfl, dd, fs, v, rfl, h, l, q⟩
end
end TR
namespace TR
open PySem L2 PySem.Spec PyProof.Rows
/-- what isinstance(x, C) asks of an own class -/
structure IsiC (K : PySem.W.Frag) (C : Addr) : Prop where
  cl : Cls K C
  ha : PySem.W.findIn K (.ref C) "__class__" = some (some (.builtin "object.__class__"))
  hn : PySem.W.specialIn K (.builtin "object.__class__") "__get__" = some (some (.builtin "getset_descriptor.__get__"))
  htk : PySem.W.takesIn K (.builtin "object.__class__") = some true
  hm : PySem.W.mroIn K C (.type "object") = some true
  me : PySem.W.kitOne K (.ref C) (.ref C) = some true
end TR
namespace TR
open PySem L2 PySem.Spec PyProof.Rows
section
variable {X : Cx} {CX : CXT} {k k' : Nat} {f C : Addr} {fd : FuncData} {ps : List Str} {sp : Sp} {x : Str} {p pos : Pos} {e : Expr} {es : List Expr} {t : TA}
end
theorem s_makeE {C : Addr} {sp : Sp} {E : L2.St → XK} {t : TA} {σ : L2.St} {H : Hp} {Q : VK} (q : t σ H fun vs H1 => MkP' C sp (E σ) vs H1 Q) : tMakeE C sp E t σ H Q := q
end TR
/-! an exception class without an __init__ of its own: raise X() -/
namespace TR
open PySem L2 PySem.Spec PyProof.Rows
def bmVE : List Value := [.type "ValueError", .type "Exception", .type "BaseException", .type "object"]
structure ExB (K : PySem.W.Frag) (mg : Str → Option Value) (x : Str) : Prop where
  g : mg x = some (.ref (clsA K x))
  q : PySem.W.excIn K (clsA K x) bmVE "ValueError.__new__" = true
  kC : PySem.W.keepIn K (.ref (clsA K x)) = true
  exC : PySem.W.subIn K (.ref (clsA K x)) (.type "BaseException") = some true
  tyC : PySem.W.typeIn K (.ref (clsA K x)) = some (.type "type")
def tRaise0 (C : Addr) (W : WX) : TS := fun _ σ H => W (.ref C) none σ H
section
variable {X : Cx} {x : Str} {p pos pos2 : Pos} {W : WX}
end
theorem s_raise0 {C : Addr} {W : WX} {D : Ends} {σ : L2.St} {H : Hp} (q : W (.ref C) none σ H) : tRaise0 C W D σ H := q
section
variable {K : PySem.W.Frag} {mg : Str → Option Value}
end
end TR
namespace TR
open PySem L2
/-- a, b = x, y -/
theorem s_par {i j : Nat} {t1 t2 : TE} {D : Ends} {σ : L2.St} {H : Hp} (q : t1 σ H fun x H1 => t2 σ H1 fun y H2 => D.nx ((σ.set i (some x)).set j (some y)) H2) : tPar i j (tCons t1 (tCons t2 tNil)) D σ H := by
  have e : tPar i j (tCons t1 (tCons t2 tNil)) D σ H = (t1 σ H fun x H1 => t2 σ H1 fun y H2 => ∃ v w, [x, y] = [v, w] ∧ D.nx ((σ.set i (some v)).set j (some w)) H2) := rfl
  rw [e]
  have f : (fun (x : V) (H1 : Hp) => t2 σ H1 fun y H2 => ∃ v w, [x, y] = [v, w] ∧ D.nx ((σ.set i (some v)).set j (some w)) H2) = fun x H1 => t2 σ H1 fun y H2 => D.nx ((σ.set i (some x)).set j (some y)) H2 := by
    funext x H1
    congr 1
    funext y H2
    exact propext ⟨fun ⟨v, w, e, h⟩ => by cases e; exact h, fun h => ⟨x, y, rfl, h⟩⟩
  rw [f]
  exact q
end TR

/-! short words: hp (what stands at an address), ex (a heap grows into another), ne, fr, sq, st; s (one step of a reading), ss (steps as far as they go) -/
open PySem L2 TR
local macro_rules | `(tactic| walk_at "ex") => `(tactic| first
  | exact Ex.refl _
  | assumption
  | (apply Ex.trans; rotate_left; (focus assumption); walk_at "ex")
  | (apply Ex.exm; rotate_left; rotate_left; (focus assumption); (focus walk_at "ex"); (walk_at "fr2")))
local macro_rules | `(tactic| walk_at "fr2") => `(tactic| first
  | assumption
  | (apply Ex.back; rotate_left; (focus assumption); walk_at "ex"))
local macro_rules | `(tactic| walk_at "hp") => `(tactic| first
  | assumption
  | (apply ex_ap; (focus assumption); walk_at "hp")
  | (apply exm_ap; (focus assumption); (focus walk_at "ne"); walk_at "hp"))
local macro_rules | `(tactic| walk_at "ne") => `(tactic| first
  | assumption
  | (apply Ne.symm; assumption)
  | (apply ne_fresh; (focus assumption); walk_at "hp")
  | (apply Ne.symm; apply ne_fresh; (focus assumption); walk_at "hp")
  | exact TR.la_ne (by assumption) (by assumption)
  | exact Ne.symm (TR.la_ne (by assumption) (by assumption))
  | exact TR.hand_ne0 (by assumption) (by assumption)
  | exact TR.hand_ne1 (by assumption) (by assumption) (by assumption)
  | exact TR.hand_ne2 (by assumption) (by assumption) (by assumption) (by assumption))
local macro_rules | `(tactic| walk_at "sq") => `(tactic| first
  | assumption
  | exact RW.sq (by assumption)
  | (apply sq_of; walk_at "hp")
  | (apply Ex.sq; rotate_left; (focus assumption); walk_at "ex"))
local macro_rules | `(tactic| walk_at "st") => `(tactic| first
  | assumption
  | (apply st_of; walk_at "hp")
  | (apply Ex.st; rotate_left; (focus assumption); walk_at "ex"))
local macro_rules | `(tactic| walk_at "is") => `(tactic| first
  | exact Is.int _
  | exact Is.bl _
  | assumption
  | exact Is.no
  | exact Is.yes _
  | exact Is.opt _
  | exact LA.is (by assumption)
  | exact RW.is (by assumption)
  | (apply Is.nil; walk_at "sq")
  | (apply Is.ints; walk_at "sq")
  | (apply Is.pair; (focus walk_at "st"); (focus walk_at "is"); walk_at "is")
  | (apply Is.three; (focus walk_at "st"); (focus walk_at "is"); (focus walk_at "is"); walk_at "is")
  | (apply Is.four; (focus walk_at "st"); (focus walk_at "is"); (focus walk_at "is"); (focus walk_at "is"); walk_at "is")
  | (apply Is.ex; rotate_left; (focus assumption); walk_at "ex"))
local macro_rules | `(tactic| walk_at "la") => `(tactic| first
  | assumption
  | (apply LA.up; (focus assumption); assumption)
  | (apply LA.up; rotate_left; (focus assumption); walk_at "la"))
local macro_rules | `(tactic| walk_at "at") => `(tactic| first
  | exact atI_lt (by decide) rfl
  | rfl)
local macro_rules | `(tactic| walk_at "ixn") => `(tactic| first
  | exact ixN_lt (by decide) (by decide)
  | rfl)
local macro_rules | `(tactic| walk_at "len") => `(tactic| first
  | omega
  | (simp only [List.length_map, List.length_range, List.length_append, List.length_cons, List.length_nil, List.length_reverse, List.length_set, sortI_len]; omega))
local macro_rules | `(tactic| walk_at "od") => `(tactic| first
  | decide
  | omega
  | exact Nat.le_of_ble_eq_true rfl)
local macro_rules | `(tactic| walk_at "kit") => `(tactic| first
  | exact k_ii
  | exact k_ib
  | exact k_is
  | exact k_il
  | exact k_it
  | exact k_bi
  | exact k_bb
  | exact k_bs
  | exact k_bl'
  | exact k_bt
  | exact k_si
  | exact k_sb
  | exact k_ss
  | exact k_sl
  | exact k_st
  | exact k_ni
  | exact k_nb
  | exact k_ns
  | exact k_nl
  | exact k_nt
  | exact k_li
  | exact k_lb
  | exact k_ls
  | exact k_ll
  | exact k_lt
  | exact k_ti
  | exact k_tb
  | exact k_ts
  | exact k_tl
  | exact k_tt)
local macro_rules | `(tactic| walk_at "s") => `(tactic| first
  | (with_reducible (first | apply s_seq | apply s_asg | apply s_gname | apply s_ret | apply s_if | apply s_next | apply s_drop))
  | ((with_reducible apply s_var); (focus rfl))
  | (with_reducible (first | apply s_c | apply s_op | apply s_un | apply s_chain | apply s_test | apply s_tB | apply s_bl | apply s_and | apply s_or | apply s_not | apply s_andV | apply s_orV | apply s_notV | apply s_ifE | apply s_I0 | apply s_U | apply s_plusI | apply s_eqI | apply s_neI | apply s_eqB | apply s_neB | apply s_eqS | apply s_neS))
  | ((with_reducible apply s_mod); (focus walk_at "od"); intro _ _)
  | ((with_reducible apply s_div); (focus walk_at "od"); (focus walk_at "od"))
  | (walk_at "pow")
  | ((with_reducible apply s_pow); (focus decide); (focus walk_at "od"))
  | ((with_reducible apply s_mulL); (focus walk_at "od"))
  | ((with_reducible apply s_mulR); (focus walk_at "od"))
  | (with_reducible (first | apply s_nil | apply s_cons | apply s_call | apply s_CB | apply s_lst | apply s_tup | apply s_sl | apply s_np | apply s_part | apply s_int | apply s_BM | apply s_BM0 | apply s_gsub | apply s_augS | apply s_ipI | apply s_forL | apply s_forT | apply s_forR1 | apply s_forR2 | apply s_forE | apply s_forZ | apply s_forS | apply s_lcL | apply s_lcT | apply s_lcR1 | apply s_lcR2 | apply s_lcE | apply s_lcZ | apply s_yes | apply s_dget2 | apply s_dput))
  | ((with_reducible apply s_wp); (focus rfl))
  | (with_reducible (first | apply s_lstRg | apply s_Rg1 | apply s_Rg2 | apply s_int2))
  | ((with_reducible apply n_rg); (focus omega); intro _ _ _ _ _)
  | ((with_reducible apply s_sum); (focus walk_at "sq"))
  | ((with_reducible apply s_all); (focus walk_at "sq"))
  | ((with_reducible apply s_any); (focus walk_at "sq"))
  | ((with_reducible apply s_maxL); (focus walk_at "sq"); (focus walk_at "len"))
  | ((with_reducible apply s_minL); (focus walk_at "sq"); (focus walk_at "len"))
  | ((with_reducible apply n_sorted); (focus walk_at "sq"); intro _ _ _ _ _)
  | ((with_reducible apply n_list); (focus walk_at "sq"); intro _ _ _ _ _)
  | ((with_reducible apply n_listT); (focus walk_at "st"); intro _ _ _ _ _)
  | ((with_reducible apply s_gt2); (focus walk_at "st"))
  | (with_reducible apply s_rev)
  | ((with_reducible apply n_rev); (focus walk_at "sq"); intro _ _ _ _ _)
  | (with_reducible (first | apply s_isN0 | apply s_isN1 | apply s_isN2 | apply s_isN3 | apply s_notN0 | apply s_notN1 | apply s_notN2 | apply s_notN3 | apply s_max2 | apply s_min2 | apply s_abs | apply s_int1 | apply s_int1b))
  | ((with_reducible apply s_isiI); (focus walk_at "kit"))
  | ((with_reducible apply s_isiB); (focus walk_at "kit"))
  | ((with_reducible apply s_isiS); (focus walk_at "kit"))
  | ((with_reducible apply s_isiN); (focus walk_at "kit"))
  | ((with_reducible apply s_isiL); (focus walk_at "sq"); (focus walk_at "kit"))
  | ((with_reducible apply s_isiT); (focus walk_at "st"); (focus walk_at "kit"))
  | ((with_reducible apply s_lenM); (focus walk_at "sq"))
  | ((with_reducible apply s_lenL); (focus walk_at "sq"))
  | ((with_reducible apply s_lenT); (focus walk_at "st"))
  | ((with_reducible apply n_slL); (focus walk_at "sq"); intro _ _ _ _ _)
  | ((with_reducible apply s_index); (focus walk_at "sq"); (focus assumption); intro _ _ _)
  | ((with_reducible apply s_niL); (focus walk_at "sq"))
  | ((with_reducible apply s_inL); (focus walk_at "sq"))
  | ((with_reducible apply s_niT); (focus walk_at "st"))
  | ((with_reducible apply s_inT); (focus walk_at "st"))
  | ((with_reducible apply s_tyL); (focus walk_at "sq"))
  | ((with_reducible apply n_lst); (focus walk_at "od"); intro _ _ _ _ _)
  | ((with_reducible apply n_tup); (focus walk_at "od"); intro _ _ _ _ _)
  | ((with_reducible apply n_cat); (focus walk_at "hp"); (focus walk_at "hp"); (focus walk_at "len"); intro _ _ _ _ _)
  | ((with_reducible apply s_aug); (focus rfl))
  | ((with_reducible apply s_ixL); (focus walk_at "sq"); (focus walk_at "at"))
  | ((with_reducible apply s_ixT); (focus walk_at "st"); (focus walk_at "at"))
  | ((with_reducible apply s_ix2b); (focus walk_at "sq"); intro _ _)
  | ((with_reducible apply s_ix2); (focus walk_at "sq"); (focus omega); intro _ _)
  | ((with_reducible apply s_ix3); (focus walk_at "sq"); (focus omega); intro _ _)
  | ((with_reducible apply s_ix4); (focus walk_at "sq"); (focus omega); intro _ _)
  | ((with_reducible apply s_ixI); (focus walk_at "sq"); (focus omega); intro _ _)
  | ((with_reducible apply s_getL); (focus walk_at "sq"); (focus decide); (focus walk_at "at"))
  | ((with_reducible apply n_setL); (focus walk_at "hp"); (focus walk_at "ixn"); intro _ _ _)
  | ((with_reducible apply s_eqP (α := List Int)); (focus walk_at "is"); (focus walk_at "is"); (focus decide))
  | ((with_reducible apply s_neP (α := List Int)); (focus walk_at "is"); (focus walk_at "is"); (focus decide))
  | ((with_reducible apply s_eqP (α := Int × Int)); (focus walk_at "is"); (focus walk_at "is"); (focus decide))
  | ((with_reducible apply s_neP (α := Int × Int)); (focus walk_at "is"); (focus walk_at "is"); (focus decide))
  | ((with_reducible apply s_eqP (α := Bool × Int)); (focus walk_at "is"); (focus walk_at "is"); (focus decide))
  | ((with_reducible apply s_neP (α := Bool × Int)); (focus walk_at "is"); (focus walk_at "is"); (focus decide))
  | ((with_reducible apply s_eqP (α := Int × Option Int)); (focus walk_at "is"); (focus walk_at "is"); (focus decide))
  | ((with_reducible apply s_neP (α := Int × Option Int)); (focus walk_at "is"); (focus walk_at "is"); (focus decide))
  | ((with_reducible apply s_eqP (α := T3 Int Int Int)); (focus walk_at "is"); (focus walk_at "is"); (focus decide))
  | ((with_reducible apply s_neP (α := T3 Int Int Int)); (focus walk_at "is"); (focus walk_at "is"); (focus decide))
  | ((with_reducible apply s_eqP (α := T4 Int Int Int Int)); (focus walk_at "is"); (focus walk_at "is"); (focus decide))
  | ((with_reducible apply s_neP (α := T4 Int Int Int Int)); (focus walk_at "is"); (focus walk_at "is"); (focus decide))
  | ((with_reducible apply s_eqP (α := List (Int × Int))); (focus walk_at "is"); (focus walk_at "is"); (focus decide))
  | ((with_reducible apply s_neP (α := List (Int × Int))); (focus walk_at "is"); (focus walk_at "is"); (focus decide))
  | ((with_reducible apply s_eqP (α := List (T3 Int Int Int))); (focus walk_at "is"); (focus walk_at "is"); (focus decide))
  | ((with_reducible apply s_neP (α := List (T3 Int Int Int))); (focus walk_at "is"); (focus walk_at "is"); (focus decide))
  | ((with_reducible apply s_eqP (α := List (T4 Int Int Int Int))); (focus walk_at "is"); (focus walk_at "is"); (focus decide))
  | ((with_reducible apply s_neP (α := List (T4 Int Int Int Int))); (focus walk_at "is"); (focus walk_at "is"); (focus decide))
  | ((with_reducible apply s_eqP (α := List (List Int))); (focus walk_at "is"); (focus walk_at "is"); (focus decide))
  | ((with_reducible apply s_neP (α := List (List Int))); (focus walk_at "is"); (focus walk_at "is"); (focus decide))
  | (with_reducible (first | apply i_t | apply i_f | apply i_nt | apply i_nf))
  | ((with_reducible apply i_dt); (focus (first | trivial | assumption | omega | rfl)))
  | ((with_reducible apply i_df); (focus (first | assumption | omega | exact (fun h => h rfl))))
  | ((with_reducible apply i_ndt); (focus (first | trivial | assumption | omega | rfl)))
  | ((with_reducible apply i_ndf); (focus (first | assumption | omega | exact (fun h => h rfl)))))
local macro_rules | `(tactic| walk_at "pow") => `(tactic| first
  | (with_reducible (first | apply s_pow2_50 | apply s_pow2_54 | apply s_pow2_55 | apply s_pow2_56 | apply s_pow2_57 | apply s_pow2_58 | apply s_pow2_59 | apply s_pow2_60 | apply s_pow2_61 | apply s_pow2_62 | apply s_pow2_63 | apply s_pow2_64 | apply s_pow10_1 | apply s_pow10_2 | apply s_pow10_3 | apply s_pow10_4 | apply s_pow10_5 | apply s_pow10_6 | apply s_pow10_7 | apply s_pow10_8 | apply s_pow10_9 | apply s_pow10_10 | apply s_pow10_11 | apply s_pow10_12 | apply s_pow10_18 | apply s_pow10_39)))
local macro_rules | `(tactic| walk_at "cx") => `(tactic| try dsimp only [cx_K, cx_K2])
local macro_rules | `(tactic| walk_at "ss") => `(tactic| ((try dsimp only); (repeat walk_at "s")))

/-! sorted of pairs of a number and a text, no two unlike ones of the same number -/
namespace SrtS
open PySem PySem.W PyProof.Rows SrtO
section
variable {prog : Program} {w : World} {A : Around} {E : Value → Shared → Prop} {s : Shared}
def IsPS (h : Heap) (v : Value) (x : Int) (y : Str) : Prop := ∃ a o t u n, v = .ref a ∧ h.get? a = some o ∧ o.cls = .type "tuple" ∧ o.data = .seq #[.int x t, .str y u] n
theorem IsPS.keeps {h h' : Heap} {v : Value} {x : Int} {y : Str} (p : IsPS h v x y) (k : ∀ b o, h.get? b = some o → o.cls = .type "tuple" → h'.get? b = some o) : IsPS h' v x y := by
  obtain ⟨a, o, t, u, n, e, ho, hc, hd⟩ := p
  exact ⟨a, o, t, u, n, e, k _ _ ho hc, hc, hd⟩
def ltI (p q : Int × Str) : Bool := decide (p.1 < q.1)
theorem swo_I {α : Type} (k : α → Int × Str) : Swo fun v u => ltI (k v) (k u) := by
  unfold ltI
  refine ⟨fun x y h => ?_, fun x y z h1 h2 => ?_⟩
  · have a := of_decide_eq_true h
    exact decide_eq_false (by omega)
  · have a := of_decide_eq_false h1
    have b := of_decide_eq_false h2
    exact decide_eq_false (by omega)
theorem ps_cmp {vs : List Value} {k : Value → Int × Str} (hp : ∀ v ∈ vs, IsPS s.heap v (k v).1 (k v).2) (hk : ∀ v ∈ vs, ∀ u ∈ vs, (k v).1 = (k u).1 → (k v).2 = (k u).2) :
    SrtO.Cmp prog w A s (tuples' true) (fun p => p.1 ∈ vs) (lt2 fun v u => ltI (k v) (k u)) := by
  intro p q hm hm'
  have h1 := hp _ hm
  have h2 := hp _ hm'
  have h3 := hk _ hm _ hm'
  show wpAny (model prog w) A (keyLt' (tuples' true) p.1 q.1) (fun r s' => s' = s ∧ r = ltI (k p.1) (k q.1)) (fun _ _ => False) s
  unfold ltI
  generalize (k p.1).1 = x at h1 h3 ⊢
  generalize (k p.1).2 = y at h1 h3 ⊢
  generalize (k q.1).1 = x' at h2 h3 ⊢
  generalize (k q.1).2 = y' at h2 h3 ⊢
  obtain ⟨a, o, t, u, n, e, ho, hc, hd⟩ := h1
  obtain ⟨a', o', t', u', n', e', ho', hc', hd'⟩ := h2
  rw [e, e']
  refine PySem.W.kat_lt ho hd ho' hd' ?_
  show PySem.W.KatLex prog w A true (decide (2 < 2)) _ [(.int x t, .int x' t'), (.str y u, .str y' u')] 0 s
  refine PySem.W.kat_cons (SeqAt.EqAt.int_int x t x' t' prog w _ _ ?_)
  refine PySem.W.kat_go (fun e1 => ?_) (fun e1 => ?_)
  · have ex : x = x' := by simpa using e1
    have ey : y = y' := h3 ex
    subst ex
    subst ey
    refine PySem.W.kat_yes (PySem.W.kat_cons (SeqAt.EqAt.str_str y u y u' prog w _ _ ?_))
    refine PySem.W.kat_go (fun e2 => ?_) (fun e2 => ?_)
    · exact PySem.W.kat_yes (PySem.W.kat_nil ⟨rfl, (decide_eq_false (Int.lt_irrefl _)).symm⟩)
    · exact absurd e2 (by simp)
  · exact PySem.W.kat_no (oneLt_int ⟨rfl, rfl⟩)
theorem firstsS_of {h : Heap} : ∀ {vs : List Value}, (∀ v ∈ vs, ∃ x y, IsPS h v x y) → ∃ fs : List Value, PySem.W.KatTups h vs fs ∧ fs.length = vs.length ∧ ∀ f ∈ fs, ∃ x t, f = Value.int x t
  | [], _ => ⟨[], PySem.W.KatTups.nil, rfl, fun _ hm => by simp at hm⟩
  | v :: vs, hp => by
    obtain ⟨fs, h1, h2, h3⟩ := firstsS_of (vs := vs) fun v' hm => hp v' (List.mem_cons_of_mem _ hm)
    obtain ⟨x, y, a, o, t, u, n, e, ho, hc, hd⟩ := hp v (List.mem_cons_self ..)
    subst e
    refine ⟨.int x t :: fs, PySem.W.KatTups.cons ho hc hd rfl h1, by rw [List.length_cons, List.length_cons, h2], fun f hm => ?_⟩
    rcases List.mem_cons.mp hm with rfl | hm
    · exact ⟨x, t, rfl⟩
    · exact h3 f hm
theorem ps_sortable {a : Addr} {vs : List Value} {k : Value → Int × Str} (h0 : 0 < vs.length) (hp : ∀ v ∈ vs, IsPS s.heap v (k v).1 (k v).2) (hk : ∀ v ∈ vs, ∀ u ∈ vs, (k v).1 = (k u).1 → (k v).2 = (k u).2)
    (ha : ∀ o, s.heap.get? a = some o → o.cls ≠ .type "tuple") : SortableO prog w A s a vs fun v u => ltI (k v) (k u) := by
  intro h' keep
  have hp' : ∀ v ∈ vs, IsPS h' v (k v).1 (k v).2 := fun v hm => (hp v hm).keeps fun b o e c => keep b o (fun z => by subst z; exact ha o e c) e
  obtain ⟨fs, h1, h2, h3⟩ := firstsS_of fun v hm => ⟨_, _, hp' v hm⟩
  refine ⟨tuples' true, fun Q E hq => ?_, ps_cmp hp' hk⟩
  refine PySem.W.kat_kind (T := .type "int") h1 (by omega) (fun f hm => ?_) (by rfl) ?_
  · obtain ⟨x, t, rfl⟩ := h3 f hm
    exact PySem.W.Looks.now
  · have e : (Value.type "int" != Value.type "tuple") = true := by first | decide +kernel | rfl | decide
    rw [e]
    exact hq
theorem sorted_ps {l : Addr} {vs : List Value} {k : Value → Int × Str} {Q : Value → Shared → Prop} (hl : s.heap.IsList l vs.toArray) (hz : vs.length ≤ sizeLine) (hp : ∀ v ∈ vs, IsPS s.heap v (k v).1 (k v).2)
    (hk : ∀ v ∈ vs, ∀ u ∈ vs, (k v).1 = (k u).1 → (k v).2 = (k u).2)
    (h : ∀ (h' : Heap) (d : Addr) (out : List Value), Srtd (fun v u => ltI (k v) (k u)) out → Stb (fun v u => ltI (k v) (k u)) out vs → (∀ b o, s.heap.get? b = some o → h'.get? b = some o) → s.heap.objs.size ≤ d → (∃ n, h'.get? d = some (seqObj "list" out.toArray n)) → Q (.ref d) { s with heap := h' }) :
    wpAny (model prog w) A (call (.builtin "sorted") [.ref l]) Q E s := by
  refine sorted_ord (swo_I k) hl hz (fun h2 h₁ a ha kk => ?_) fun out hs hb => ?_
  · refine ps_sortable (s := { s with heap := h₁ }) (by omega) (fun v hm => (hp v hm).keeps fun b o e _ => (kk b o e).2) hk fun o e => ?_
    have e' : some o = some (seqObj "list" vs.toArray 0) := e.symm.trans ha
    cases e'
    intro c
    exact absurd (Value.type.inj c) (by decide)
  · exact h _ _ out hs hb (fun b o e => sortedAll_old e) (Nat.le_succ _) (sortedAll_at s.heap vs out.toArray)
end
end SrtS
namespace L2
open PySem PySem.Spec PyProof.Rows
def EntV (K : PySem.W.Frag) (H : Hp) (x : V) (e : Int × Str) : Prop := ∃ t, x = V.ref t ∧ SqT K H t [.int e.1, .str e.2]
def rSortedPS (K : PySem.W.Frag) : List V → Hp → VK → Prop := fun vs H Q => ∃ (a : Addr) (xs : List V) (l : List (Int × Str)), vs = [V.ref a] ∧ SqL K H a xs ∧ Paired (EntV K H) xs l ∧
  (∀ x ∈ l, ∀ y ∈ l, x.1 = y.1 → x.2 = y.2) ∧
  ∀ (ps : List (V × (Int × Str))) p, ps.Pairwise (fun x y => x.2.1 ≤ y.2.1) → ps.Perm (xs.zip l) → H p = none → Q (.ref p) (upd H p (.lst (ps.map Prod.fst)))
theorem cr_sortedPS {X : Cx} : CallR X (.builtin "sorted") (rSortedPS X.K) := by
  intro pins s σ H vs us Q I r h
  obtain ⟨a, xs, l, rfl, hs, hx, hk, q⟩ := h
  obtain ⟨its, rv, hl, hz⟩ := I.list hs
  obtain ⟨u, rfl, ru⟩ := vals1 r
  obtain rfl : u = Value.ref a := ru
  have hm : ∀ {xs : List V} {l : List (Int × Str)}, Paired (EntV X.K H) xs l → ∀ x ∈ xs, ∃ e ∈ l, EntV X.K H x e := by
    intro xs l h
    induction h with
    | nil => exact fun _ h => absurd h List.not_mem_nil
    | cons a t ih =>
      intro x hx
      rcases List.mem_cons.mp hx with e | hx
      · rw [e]
        exact ⟨_, List.mem_cons_self, a⟩
      · obtain ⟨e, h1, h2⟩ := ih x hx
        exact ⟨e, List.mem_cons_of_mem _ h1, h2⟩
  have inj : ∀ {x : V} {e f : Int × Str}, EntV X.K H x e → EntV X.K H x f → e = f := by
    intro x e f ⟨t, h1, h2⟩ ⟨t', h3, h4⟩
    rw [h1] at h3
    cases h3
    have h := I.tuple_inj h2 h4
    cases e
    cases f
    cases h
    rfl
  obtain ⟨k, kv⟩ : ∃ k : V → Int × Str, ∀ x ∈ xs, EntV X.K H x (k x) := by
    classical
    refine ⟨fun x => if c : ∃ e, EntV X.K H x e then Classical.choose c else (0, ⟨#[]⟩), fun x hx' => ?_⟩
    obtain ⟨e, _, he⟩ := hm hx x hx'
    have c : ∃ e, EntV X.K H x e := ⟨e, he⟩
    show EntV X.K H x (if c : ∃ e, EntV X.K H x e then Classical.choose c else (0, ⟨#[]⟩))
    rw [dif_pos c]
    exact Classical.choose_spec c
  have ez : xs.zip l = xs.map fun v => (v, k v) := by
    clear hk q hs rv hz hm
    induction hx with
    | nil => rfl
    | cons a t ih =>
      rw [List.zip_cons_cons, List.map_cons, ih (fun x h => kv x (List.mem_cons_of_mem _ h)), inj a (kv _ List.mem_cons_self)]
  have el : ∀ x ∈ xs, k x ∈ l := fun x h => by
    obtain ⟨e, h1, h2⟩ := hm hx x h
    rw [inj (kv x h) h2]
    exact h1
  obtain ⟨e1, e2⟩ := refs_back rv fun x m => by
    obtain ⟨t, e, _⟩ := kv x m
    exact ⟨t, e⟩
  have mem : ∀ v ∈ its, backV v ∈ xs := fun v hv => by
    rw [e1]
    exact List.mem_map.mpr ⟨v, hv, rfl⟩
  refine SrtS.sorted_ps (k := fun u => k (backV u)) hl.isList (by rw [← rv.length]; exact hz) (fun v hv => ?_) (fun v hv u hu => hk _ (el _ (mem v hv)) _ (el _ (mem u hu))) fun h' d out h1 h2 kp hd hn => ?_
  · obtain ⟨t, rfl⟩ := e2 v hv
    have hm : V.ref t ∈ xs := mem _ hv
    obtain ⟨t', e, ht⟩ := kv _ hm
    cases e
    obtain ⟨its2, r2, ⟨o, ho, hc, n, hd⟩, _⟩ := I.tuple ht
    obtain ⟨u1, u2, rfl, ri, rj⟩ := vals2 r2
    obtain ⟨t1, rfl⟩ := ri
    obtain ⟨t2, rfl⟩ := rj
    exact ⟨t, o, t1, t2, n, rfl, ho, hc, hd⟩
  · have h3 : ∀ u ∈ out, ∃ a, u = Value.ref a := fun u hu => e2 u (h2.perm.mem_iff.mp hu)
    obtain ⟨n, hn⟩ := hn
    have hb : (out.map backV).Perm xs := by
      rw [e1]
      exact h2.perm.map backV
    have em : ((out.map backV).map fun v => (v, k v)).map Prod.fst = out.map backV := by
      rw [List.map_map]
      exact (List.map_congr_left fun _ _ => rfl).trans (List.map_id _)
    have q2 := q ((out.map backV).map fun v => (v, k v)) d ?_ (by rw [ez]; exact hb.map _) (I.hok.fresh hd)
    · rw [em] at q2
      refine ⟨.ref d, upd H d (.lst (out.map backV)), I.laid (t' := s.toks) kp hd ⟨?_, out, n, vals_back h3, hn⟩, rfl, q2⟩
      rw [hb.length_eq]
      exact hz
    · exact List.pairwise_map.mpr (List.pairwise_map.mpr (h1.imp fun h => by
        have := of_decide_eq_false h
        show (k (backV _)).1 ≤ (k (backV _)).1
        omega))
end L2

/-! entries, rows, rooms, yards as data; comprehensions that draw -/
namespace TR
open PySem L2
/-- a text of signs that there are -/
abbrev Tx := {x : Str // PyData.strOk x = true}
instance : Inhabited Tx := ⟨⟨⟨#[]⟩, by simp [PyData.strOk]⟩⟩
instance : Py Tx := ⟨fun x => .str x.1, 0, fun _ => Nat.le_refl _, fun x => x.2, fun a b => by
  rw [PyData.eqv, beq_iff_eq]
  exact Subtype.ext_iff.symm⟩
instance : Py (Option Tx) := ⟨fun o => match o with | none => .none | some i => .str i.1, 0, fun o => by cases o <;> exact Nat.le_refl _, fun o => by
  cases o with
  | none => rfl
  | some x => exact x.2, fun a b => by
  cases a <;> cases b
  · exact ⟨fun _ => rfl, fun _ => rfl⟩
  · exact ⟨fun h => (Bool.false_ne_true h).elim, fun h => nomatch h⟩
  · exact ⟨fun h => (Bool.false_ne_true h).elim, fun h => nomatch h⟩
  · rename_i x y
    show (x.1 == y.1) = true ↔ some x = some y
    rw [beq_iff_eq, Option.some.injEq]
    exact Subtype.ext_iff.symm⟩
theorem perm_of_map {α β : Type} {f : α → β} : ∀ {l : List α} {ps : List β}, ps.Perm (l.map f) → ∃ qs : List α, qs.Perm l ∧ ps = qs.map f := by
  intro l ps h
  generalize e : l.map f = m at h
  induction h generalizing l with
  | nil => exact ⟨l, .refl _, by rw [e]⟩
  | cons x h ih =>
    cases l with
    | nil => cases e
    | cons a l =>
      rw [List.map_cons] at e
      cases e
      obtain ⟨qs, h1, h2⟩ := ih rfl
      exact ⟨a :: qs, h1.cons a, by rw [h2]; rfl⟩
  | swap x y t =>
    match l, e with
    | a :: b :: l, e =>
      rw [List.map_cons, List.map_cons] at e
      cases e
      exact ⟨b :: a :: l, .swap _ _ _, rfl⟩
  | trans h1 h2 ih1 ih2 =>
    obtain ⟨q2, g1, g2⟩ := ih2 e
    obtain ⟨q1, g3, g4⟩ := ih1 g2.symm
    exact ⟨q1, g3.trans g1, g4⟩
abbrev Ent := Int × Tx
abbrev Row := List Ent
abbrev Yard := T3 Int Int (List (List Row))
instance : DecidableEq Tx := fun a b => decidable_of_iff (a.1 = b.1) Subtype.ext_iff.symm
instance : DecidableEq Yard := fun a b => decidable_of_iff (a.a = b.a ∧ a.b = b.b ∧ a.c = b.c) (by
  obtain ⟨a1, a2, a3⟩ := a
  obtain ⟨b1, b2, b3⟩ := b
  exact T3.mk.injEq .. ▸ Iff.rfl)
section
variable {K : PySem.W.Frag} {H : Hp} {v : V}
theorem Is.tx (x : Tx) : Is K H (.str x.1) x := Dp.str x.1
theorem Is.noS : Is K H .non (none : Option Tx) := Dp.non
theorem Is.yesS (x : Tx) : Is K H (.str x.1) (some x : Option Tx) := Dp.str x.1
theorem Is.str_of {x : Tx} (h : Is K H v x) : v = .str x.1 := by
  have h' : Dp K H v (.str x.1) := h
  cases h'
  rfl
theorem Is.ent_of {e : Ent} (h : Is K H v e) : ∃ a, v = .ref a ∧ SqT K H a [.int e.1, .str e.2.1] := by
  obtain ⟨a, x, y, h1, h2, h3, h4⟩ := h.pair_of
  rw [h3.int_of, h4.str_of] at h2
  exact ⟨a, h1, h2⟩
theorem Is.three_of {α β γ : Type} [Py α] [Py β] [Py γ] {t : T3 α β γ} (h : Is K H v t) : ∃ a x y z, v = .ref a ∧ SqT K H a [x, y, z] ∧ Is K H x t.a ∧ Is K H y t.b ∧ Is K H z t.c := by
  have h' : Dp K H v (.tuple [Py.d t.a, Py.d t.b, Py.d t.c]) := h
  cases h' with
  | tup s a =>
    cases a with
    | cons h1 r => cases r with
      | cons h2 r => cases r with
        | cons h3 r => cases r; exact ⟨_, _, _, _, rfl, s, h1, h2, h3⟩
theorem Is.yard_of {y : Yard} (h : Is K H v y) : ∃ a b, v = .ref a ∧ SqT K H a [.int y.a, .int y.b, .ref b] ∧ Is K H (.ref b) y.c := by
  obtain ⟨a, x1, x2, x3, h1, h2, h3, h4, h5⟩ := h.three_of
  obtain ⟨b, vs, e, h6, h7⟩ := h5.list
  rw [h3.int_of, h4.int_of, e] at h2
  exact ⟨a, b, h1, h2, e ▸ h5⟩
theorem Is.ref_of {α : Type} [Py α] {xs : List α} (h : Is K H v xs) : ∃ b, v = .ref b ∧ Is K H (.ref b) xs := by
  obtain ⟨b, vs, e, h6, h7⟩ := h.list
  exact ⟨b, e, e ▸ h⟩
end
/-! ### rows sorted by their keys -/
def sortE (l : Row) : Row := l.mergeSort (fun a b => decide (a.1 ≤ b.1))
theorem sortE_perm (l : Row) : (sortE l).Perm l := List.mergeSort_perm l _
theorem sortE_sorted (l : Row) : (sortE l).Pairwise (fun a b => a.1 ≤ b.1) := (List.pairwise_mergeSort (le := fun a b : Ent => decide (a.1 ≤ b.1)) (fun a b c h1 h2 => decide_eq_true (Int.le_trans (of_decide_eq_true h1) (of_decide_eq_true h2))) (fun a b => by
  rcases Int.le_total a.1 b.1 with h | h
  · rw [decide_eq_true h]; rfl
  · rw [decide_eq_true h, Bool.or_true]) l).imp fun h => of_decide_eq_true h
/-- no two unlike entries of one key -/
def OneK (l : Row) : Prop := ∀ x ∈ l, ∀ y ∈ l, x.1 = y.1 → x.2 = y.2
theorem sortE_of {l l' : Row} (k : OneK l) (p : l'.Perm l) (s : l'.Pairwise (fun a b => a.1 ≤ b.1)) : l' = sortE l :=
  List.Perm.eq_of_pairwise (le := fun a b : Ent => a.1 ≤ b.1) (fun a b ha hb h1 h2 => by
    have e : a.1 = b.1 := Int.le_antisymm h1 h2
    exact Prod.ext e (k a (p.mem_iff.mp ha) b ((sortE_perm l).mem_iff.mp hb) e)) s (sortE_sorted l) (p.trans (sortE_perm l).symm)
theorem sortE_len (l : Row) : (sortE l).length = l.length := (sortE_perm l).length_eq
theorem sortPSA {X : Cx} {K : PySem.W.Frag} (hk : X.K = K) : CallR X (.builtin "sorted") (rSortedPS K) := hk ▸ cr_sortedPS
theorem Is.entV {K : PySem.W.Frag} {H : Hp} {v : V} {e : Ent} (h : Is K H v e) : EntV K H v (e.1, e.2.1) := by
  obtain ⟨a, h1, h2⟩ := h.ent_of
  exact ⟨a, h1, h2⟩
/-- sorted(entries): the values as they were, in the order of their keys -/
theorem n_sortedEF {K : PySem.W.Frag} {H : Hp} {Q : VK} {a : Addr} {vs : List V} {l : Row} (h : SqL K H a vs) (pr : Paired (fun v x => Is K H v x) vs l) (k : OneK l)
    (q : ∀ p ws H', H p = none → Ex H H' → H' p = some (.lst ws) → (∀ F : V → Ent → Prop, Paired F vs l → Paired F ws (sortE l)) → Q (.ref p) H') : rSortedPS K [.ref a] H Q := by
  refine ⟨a, vs, l.map fun e => (e.1, e.2.1), rfl, h, ?_, ?_, fun ps p srt perm hp => q p _ _ hp (Ex.new hp) upd_same fun F1 pr1 => ?_⟩
  · clear k h q
    induction pr with
    | nil => exact .nil
    | cons a t ih => exact .cons a.entV ih
  · intro x hx y hy e
    obtain ⟨x', h1, rfl⟩ := List.mem_map.mp hx
    obtain ⟨y', h2, rfl⟩ := List.mem_map.mp hy
    exact congrArg Subtype.val (k x' h1 y' h2 e)
  · have len := Paired.length pr
    -- each pair of ps comes of a pair of vs and l
    have ez : vs.zip (l.map fun e => (e.1, e.2.1)) = (vs.zip l).map fun q => (q.1, (q.2.1, q.2.2.1)) := by
      rw [List.zip_map_right]
      rfl
    rw [ez] at perm
    obtain ⟨qs, hq1, hq2⟩ : ∃ qs : List (V × Ent), qs.Perm (vs.zip l) ∧ ps = qs.map fun q => (q.1, (q.2.1, q.2.2.1)) := by
      classical
      have inj : Function.Injective fun q : V × Ent => (q.1, (q.2.1, q.2.2.1)) := fun x y e => by
        have e1 := congrArg (fun z : V × (Int × Str) => z.1) e
        have e2 := congrArg (fun z : V × (Int × Str) => z.2.1) e
        have e3 := congrArg (fun z : V × (Int × Str) => z.2.2) e
        exact Prod.ext e1 (Prod.ext e2 (Subtype.ext e3))
      exact perm_of_map perm
    subst hq2
    have e1 : (qs.map Prod.snd).Perm l := by
      have := hq1.map Prod.snd
      rw [List.map_snd_zip (by omega)] at this
      exact this
    have e2 : qs.map Prod.snd = sortE l := sortE_of k e1 (by
      have srt2 := List.pairwise_map.mp srt
      exact List.pairwise_map.mpr (srt2.imp fun h => h))
    rw [← e2, List.map_map]
    have hm : ∀ q ∈ qs, F1 q.1 q.2 := fun q hq => (zip_mem pr1 q (hq1.mem_iff.mp hq)).1
    clear e2 e1 hq1 srt perm ez
    induction qs with
    | nil => exact .nil
    | cons q qs ih => exact .cons (hm q List.mem_cons_self) (ih fun x hx => hm x (List.mem_cons_of_mem _ hx))
end TR
namespace TR
open PySem L2
/-! ### pure values out of data, some of them -/
section
variable {K : PySem.W.Frag} {σ : L2.St} {H : Hp} {tt : TT} {te : TE} {Q : VK} {g : TG} {vs : List Nat}
end
/-! ### comprehensions that draw -/
section
variable {K : PySem.W.Frag} {σ : L2.St} {H : Hp} {te : TE} {Q : VK} {g : TG} {vs : List Nat}
theorem lc_handR {α : Type} (Rel : α → V → Hp → Prop) {J : It} {n : Nat} {Z : Hp} {h : Addr} {C c R : Nat} (xs : Nat → V) (hh : Hand K Z H h C) (hC : R + c * n ≤ C)
    (hgo : ∀ i H', i < n → ExM h H H' → J.go i H') (hst : ∀ H', ExM h H H' → J.stop n H') (hy : ∀ i v H0 H', i < n → ExM h H H0 → J.yld i H0 v H' → H' = H0 ∧ v = xs i)
    (turn : ∀ i, i < n → ∀ D H' R', ExM h H H' → H D = none → (∃ o, H' D = some o) → Hand K Z H' h (R' + c) → ∀ A : VK, (∀ x y H4, ExM h H' H4 → Hand K Z H4 h R' → (∀ Z1, Ex Z Z1 → (∀ b o, H' b = none → H4 b = some o → Z1 b = some o) → Rel x y Z1) → A y H4) →
      g (xs i) (wipe σ vs) H' fun σ2 H2 => wipe σ2 vs = wipe σ vs ∧ te σ2 H2 A)
    (hz : n ≤ 40000)
    (fin : ∀ (D : Addr) (ys : List V) (l : List α) (H' : Hp), H D = none → ExM h H H' → Hand K Z H' h R → H' D = some (.lst ys) → l.length = n → (∀ Z1, Ex Z Z1 → (∀ b o, H b = none → b ≠ D → H' b = some o → Z1 b = some o) → Paired (fun y x => Rel x y Z1) ys l) → Q (.ref D) H') : LcJ g tYes te vs σ J H Q := by
  intro D hD
  have nD : D ≠ h := hand_ne0 hD hh
  have nZ : Z D = none := Ex.back hh.z hD
  obtain ⟨oh, hoh⟩ := hh.at
  refine ⟨fun i m H' => m = n - i ∧ i ≤ n ∧ ExM h H H' ∧ Hand K Z H' h (R + c * (n - i)) ∧ ∃ (ys : List V) (l : List α), H' D = some (.lst ys) ∧ l.length = i ∧ ys.length = i ∧ (∀ Z1, Ex Z Z1 → (∀ b o, H b = none → b ≠ D → H' b = some o → Z1 b = some o) → Paired (fun y x => Rel x y Z1) ys l), ⟨n, by omega, by omega, (Ex.new hD).toM, (hh.ex (Ex.new hD)).mono (by simpa using hC), [], [], upd_same, rfl, rfl, fun _ _ _ => .nil⟩, ?_⟩
  rintro i m H' ⟨rfl, hi, e, hh', ys, l, hns, hln, hly, hpr⟩
  by_cases hlt : i < n
  · refine .inr ⟨hgo i H' hlt e, fun H'' => i + 1 ≤ n ∧ ExM h H H'' ∧ Hand K Z H'' h (R + c * (n - (i + 1))) ∧ ∃ (ys : List V) (l : List α), H'' D = some (.lst ys) ∧ l.length = i + 1 ∧ ys.length = i + 1 ∧ (∀ Z1, Ex Z Z1 → (∀ b o, H b = none → b ≠ D → H'' b = some o → Z1 b = some o) → Paired (fun y x => Rel x y Z1) ys l), fun H'' q => ⟨n - (i + 1), by omega, rfl, q⟩, fun v H2 y => ?_⟩
    obtain ⟨rfl, rfl⟩ := hy i v H' H2 hlt e y
    rw [lc_yes]
    have ec : R + c * (n - i) = R + c * (n - (i + 1)) + c := by
      rw [show n - i = (n - (i + 1)) + 1 by omega, Nat.mul_succ]
      omega
    rw [ec] at hh'
    refine turn i hlt D H2 _ e hD ⟨_, hns⟩ hh' _ fun x y H4 m4 hh4 hr => ?_
    have m5 : ExM h H (upd H4 D (.lst (ys ++ [y]))) := fun b o nb q => by
      rw [upd_ne (ne_of_none q hD)]
      exact (e.trans m4) b o nb q
    refine ⟨_, m4 _ _ nD hns, sz_lt (by omega), by omega, m5, hh4.exm ExM.upd (Ne.symm nD) nZ, ys ++ [y], l ++ [x], upd_same, by rw [List.length_append, hln]; rfl, by rw [List.length_append, hly]; rfl, fun Z1 ez hz1 => ?_⟩
    refine paired_snoc (hpr Z1 ez fun b o q1 q2 q3 => hz1 b o q1 q2 ?_) (hr Z1 ez fun b o q1 q2 => hz1 b o ?_ ?_ ?_)
    · have nb : b ≠ h := fun z => by rw [z, hoh] at q1; cases q1
      rw [upd_ne q2]
      exact m4 _ _ nb q3
    · cases q : H b with
      | none => rfl
      | some o' =>
        by_cases nb : b = h
        · subst nb
          obtain ⟨o2, ho2⟩ := hh'.at
          rw [q1] at ho2
          cases ho2
        · rw [e _ _ nb q] at q1
          cases q1
    · intro z
      rw [z, hns] at q1
      cases q1
    · rw [upd_ne (fun z => by rw [z, hns] at q1; cases q1)]
      exact q2
  · have ei : i = n := by omega
    subst ei
    exact .inl ⟨hst H' e, fin D ys l H' hD e (hh'.mono (by omega)) hns hln hpr⟩
theorem u_lcR1HR {α : Type} (Rel : α → V → Hp → Prop) {n : Int} {Z : Hp} {h : Addr} {C : Nat} (R c : Nat) (hh : Hand K Z H h C) (hC : R + c * n.toNat ≤ C) (hz : 0 ≤ n ∧ n ≤ 40000)
    (turn : ∀ i : Nat, (i : Int) < n → ∀ D H' R', ExM h H H' → H D = none → (∃ o, H' D = some o) → Hand K Z H' h (R' + c) → ∀ A : VK, (∀ x y H4, ExM h H' H4 → Hand K Z H4 h R' → (∀ Z1, Ex Z Z1 → (∀ b o, H' b = none → H4 b = some o → Z1 b = some o) → Rel x y Z1) → A y H4) →
      g (.int (i : Int)) (wipe σ vs) H' fun σ2 H2 => wipe σ2 vs = wipe σ vs ∧ te σ2 H2 A)
    (fin : ∀ (D : Addr) (ys : List V) (l : List α) (H' : Hp), H D = none → ExM h H H' → Hand K Z H' h R → H' D = some (.lst ys) → l.length = n.toNat → (∀ Z1, Ex Z Z1 → (∀ b o, H b = none → b ≠ D → H' b = some o → Z1 b = some o) → Paired (fun y x => Rel x y Z1) ys l) → Q (.ref D) H') : LcR1 g tYes te vs σ [.int n] H Q := by
  have e62 : (2 : Int) ^ 62 = 4611686018427387904 := by decide
  refine ⟨n, rfl, by omega, by omega, lc_handR Rel (n := n.toNat) (c := c) (R := R) (fun i => .int (i : Int)) hh hC (fun i H' hi e => hi) (fun H' e => Nat.le_refl _) (fun i v H0 H' hi e y => ?_) (fun i hi D H' R' e hD hh' A k => turn i (by omega) D H' R' e hD hh' A k) (by omega) fin⟩
  obtain ⟨rfl, rfl⟩ := y
  exact ⟨rfl, by rw [Int.zero_add]⟩
end
end TR

/-! data that stands in plain lists and tuples: all its lists are tracked -/
namespace TR
open PySem L2
mutual
inductive Dt (H : Hp) : V → PyData → Prop
  | non : Dt H .non .none
  | bl (b : Bool) : Dt H (.bl b) (.bool b)
  | int (i : Int) : Dt H (.int i) (.int i)
  | str (x : Str) : Dt H (.str x) (.str x)
  | lst {a : Addr} {vs : List V} {ds : List PyData} : H a = some (.lst vs) → DtAll H vs ds → Dt H (.ref a) (.list ds)
  | tup {a : Addr} {vs : List V} {ds : List PyData} : H a = some (.tup vs) → DtAll H vs ds → Dt H (.ref a) (.tuple ds)
inductive DtAll (H : Hp) : List V → List PyData → Prop
  | nil : DtAll H [] []
  | cons {v : V} {vs : List V} {d : PyData} {ds : List PyData} : Dt H v d → DtAll H vs ds → DtAll H (v :: vs) (d :: ds)
end
mutual
theorem Dt.ex {H H' : Hp} (e : Ex H H') : ∀ {v : V} {d : PyData}, Dt H v d → Dt H' v d
  | _, _, .non => .non
  | _, _, .bl b => .bl b
  | _, _, .int i => .int i
  | _, _, .str x => .str x
  | _, _, .lst s a => .lst (e _ _ s) (DtAll.ex e a)
  | _, _, .tup s a => .tup (e _ _ s) (DtAll.ex e a)
theorem DtAll.ex {H H' : Hp} (e : Ex H H') : ∀ {vs : List V} {ds : List PyData}, DtAll H vs ds → DtAll H' vs ds
  | _, _, .nil => .nil
  | _, _, .cons a r => .cons (Dt.ex e a) (DtAll.ex e r)
end
mutual
theorem Dt.dp {K : PySem.W.Frag} {H : Hp} : ∀ {v : V} {d : PyData}, Dt H v d → Dp K H v d
  | _, _, .non => .non
  | _, _, .bl b => .bl b
  | _, _, .int i => .int i
  | _, _, .str x => .str x
  | _, _, .lst s a => .lst (sq_of s) (DtAll.dp a)
  | _, _, .tup s a => .tup (st_of s) (DtAll.dp a)
theorem DtAll.dp {K : PySem.W.Frag} {H : Hp} : ∀ {vs : List V} {ds : List PyData}, DtAll H vs ds → DpAll K H vs ds
  | _, _, .nil => .nil
  | _, _, .cons a r => .cons (Dt.dp a) (DtAll.dp r)
end
/-- the value v stands in H as the thing x -/
abbrev Ik (H : Hp) {α : Type} [Py α] (v : V) (x : α) : Prop := Dt H v (Py.d x)
section
variable {K : PySem.W.Frag} {H H' : Hp} {α β γ δ : Type} [Py α] [Py β] [Py γ] [Py δ] {v w u t : V} {x : α} {y : β} {z : γ} {r : δ} {a : Addr}
theorem Ik.is (h : Ik H v x) : Is K H v x := Dt.dp h
theorem Ik.ex (e : Ex H H') (h : Ik H v x) : Ik H' v x := Dt.ex e h
theorem Ik.int (i : Int) : Ik H (.int i) i := Dt.int i
theorem Ik.bl (i : Bool) : Ik H (.bl i) i := Dt.bl i
theorem dtAll_ints : ∀ ns : List Int, DtAll H (ns.map V.int) (ns.map Py.d)
  | [] => .nil
  | n :: ns => .cons (.int n) (dtAll_ints ns)
theorem Ik.ints {ns : List Int} (h : H a = some (.lst (ns.map V.int))) : Ik H (.ref a) ns := .lst h (dtAll_ints ns)
theorem Ik.nil (h : H a = some (.lst [])) : Ik H (.ref a) ([] : List α) := .lst h .nil
theorem Ik.pair (h : H a = some (.tup [v, w])) (h1 : Ik H v x) (h2 : Ik H w y) : Ik H (.ref a) (x, y) := .tup h (.cons h1 (.cons h2 .nil))
theorem Ik.three (h : H a = some (.tup [v, w, u])) (h1 : Ik H v x) (h2 : Ik H w y) (h3 : Ik H u z) : Ik H (.ref a) (T3.mk x y z) := .tup h (.cons h1 (.cons h2 (.cons h3 .nil)))
theorem Ik.four (h : H a = some (.tup [v, w, u, t])) (h1 : Ik H v x) (h2 : Ik H w y) (h3 : Ik H u z) (h4 : Ik H t r) : Ik H (.ref a) (T4.mk x y z r) := .tup h (.cons h1 (.cons h2 (.cons h3 (.cons h4 .nil))))
theorem Ik.no : Ik H .non (none : Option Int) := Dt.non
theorem Ik.yes (i : Int) : Ik H (.int i) (some i : Option Int) := Dt.int i
theorem Ik.opt : ∀ o : Option Int, Ik H (optV o) o
  | none => Dt.non
  | some i => Dt.int i
theorem Ik.tx (x : Tx) : Ik H (.str x.1) x := Dt.str x.1
theorem Ik.noS : Ik H .non (none : Option Tx) := Dt.non
theorem Ik.yesS (x : Tx) : Ik H (.str x.1) (some x : Option Tx) := Dt.str x.1
theorem Ik.list {xs : List α} (h : Ik H v xs) : ∃ a vs, v = .ref a ∧ H a = some (.lst vs) ∧ Paired (fun v x => Ik H v x) vs xs := by
  have go : ∀ (vs : List V) (ys : List α), DtAll H vs (ys.map Py.d) → Paired (fun v x => Ik H v x) vs ys := by
    intro vs ys
    induction ys generalizing vs with
    | nil => intro h; cases h; exact .nil
    | cons y ys ih =>
      intro h
      cases h with
      | cons h1 h2 => exact .cons h1 (ih _ h2)
  have h' : Dt H v (.list (xs.map Py.d)) := h
  cases h' with
  | lst s a => exact ⟨_, _, rfl, s, go _ _ a⟩
theorem Ik.of_list {vs : List V} {xs : List α} (s : H a = some (.lst vs)) (h : Paired (fun v x => Ik H v x) vs xs) : Ik H (.ref a) xs := by
  have go : ∀ {vs : List V} {ys : List α}, Paired (fun v x => Ik H v x) vs ys → DtAll H vs (ys.map Py.d) := by
    intro vs ys h
    induction h with
    | nil => exact .nil
    | cons h1 _ ih => exact .cons h1 ih
  exact .lst s (go h)
theorem pair_intsK : ∀ {vs : List V} {xs : List Int}, Paired (fun v x => Ik H v x) vs xs → vs = xs.map V.int
  | _, _, .nil => rfl
  | _, _, .cons (a := v) (b := i) h r => by
    have h' : Dt H v (.int i) := h
    cases h'
    rw [pair_intsK r]
    rfl
theorem ints_pairK : ∀ {xs : List Int}, Paired (fun v x => Ik H v x) (xs.map V.int) xs
  | [] => .nil
  | _ :: _ => .cons (Ik.int _) ints_pairK
theorem Ik.ints_of {xs : List Int} (h : Ik H v xs) : ∃ a, v = .ref a ∧ H a = some (.lst (xs.map V.int)) := by
  obtain ⟨a, vs, rfl, s, p⟩ := h.list
  exact ⟨a, rfl, pair_intsK p ▸ s⟩
theorem Ik.pair_of {p : α × β} (h : Ik H v p) : ∃ a x y, v = .ref a ∧ H a = some (.tup [x, y]) ∧ Ik H x p.1 ∧ Ik H y p.2 := by
  have h' : Dt H v (.tuple [Py.d p.1, Py.d p.2]) := h
  cases h' with
  | tup s a =>
    cases a with
    | cons h1 r => cases r with
      | cons h2 r2 => cases r2; exact ⟨_, _, _, rfl, s, h1, h2⟩
theorem Ik.three_of {t : T3 α β γ} (h : Ik H v t) : ∃ a x y z, v = .ref a ∧ H a = some (.tup [x, y, z]) ∧ Ik H x t.a ∧ Ik H y t.b ∧ Ik H z t.c := by
  have h' : Dt H v (.tuple [Py.d t.a, Py.d t.b, Py.d t.c]) := h
  cases h' with
  | tup s a =>
    cases a with
    | cons h1 r => cases r with
      | cons h2 r => cases r with
        | cons h3 r => cases r; exact ⟨_, _, _, _, rfl, s, h1, h2, h3⟩
theorem Ik.int_of {i : Int} (h : Ik H v i) : v = .int i := by
  have h' : Dt H v (.int i) := h
  cases h'
  rfl
theorem Ik.bl_of {i : Bool} (h : Ik H v i) : v = .bl i := by
  have h' : Dt H v (.bool i) := h
  cases h'
  rfl
theorem Ik.str_of {x : Tx} (h : Ik H v x) : v = .str x.1 := by
  have h' : Dt H v (.str x.1) := h
  cases h'
  rfl
theorem Ik.ent_of {e : Ent} (h : Ik H v e) : ∃ a, v = .ref a ∧ H a = some (.tup [.int e.1, .str e.2.1]) := by
  obtain ⟨a, x, y, h1, h2, h3, h4⟩ := h.pair_of
  rw [h3.int_of, h4.str_of] at h2
  exact ⟨a, h1, h2⟩
theorem Ik.ref_of {xs : List α} (h : Ik H v xs) : ∃ b, v = .ref b ∧ Ik H (.ref b) xs := by
  obtain ⟨b, vs, e, h6, h7⟩ := h.list
  exact ⟨b, e, e ▸ h⟩
theorem Ik.yard_of {y : Yard} (h : Ik H v y) : ∃ a b, v = .ref a ∧ H a = some (.tup [.int y.a, .int y.b, .ref b]) ∧ Ik H (.ref b) y.c := by
  obtain ⟨a, x1, x2, x3, h1, h2, h3, h4, h5⟩ := h.three_of
  obtain ⟨b, e, h6⟩ := h5.ref_of
  rw [h3.int_of, h4.int_of, e] at h2
  exact ⟨a, b, h1, h2, h6⟩
theorem itemK {vs : List V} {l : List α} (p : Paired (fun v x => Ik H v x) vs l) {i : Nat} {v : V} (h : vs[i]? = some v) : ∃ x, l[i]? = some x ∧ Ik H v x := pair_get' p h
end
section
variable {K : PySem.W.Frag} {Z H : Hp} {α β : Type} [Py α] [Py β] {v : V} {σ : L2.St} {R : L2.St → Hp → Prop} {Q : VK}
theorem t_ixP0 {p : α × β} (a : Ik Z v p) (e : Ex Z H) (q : ∀ w, Ik Z w p.1 → Q w H) : rIx K v (.int 0) H Q := by
  obtain ⟨b, x, y, rfl, h, h1, h2⟩ := a.pair_of
  exact s_ixT (st_of (e _ _ h)) (atI_lt (by decide) rfl) (q x h1)
theorem t_ixP1 {p : α × β} (a : Ik Z v p) (e : Ex Z H) (q : ∀ w, Ik Z w p.2 → Q w H) : rIx K v (.int 1) H Q := by
  obtain ⟨b, x, y, rfl, h, h1, h2⟩ := a.pair_of
  exact s_ixT (st_of (e _ _ h)) (atI_lt (by decide) rfl) (q y h2)
/-- the key | the thing of an entry -/
theorem t_ixE0 {p : Ent} (a : Ik Z v p) (e : Ex Z H) (q : Q (.int p.1) H) : rIx K v (.int 0) H Q := t_ixP0 a e fun w h => by rw [h.int_of]; exact q
theorem t_ixE1 {p : Ent} (a : Ik Z v p) (e : Ex Z H) (q : Q (.str p.2.1) H) : rIx K v (.int 1) H Q := t_ixP1 a e fun w h => by rw [h.str_of]; exact q
end
end TR

/-! T: from (Z, H) to (Z', H'). Z is what stays for ever; only M's things are changed -/
namespace TR
open PySem L2
structure T (M : List Addr) (Z H Z' H' : Hp) : Prop where
  z : Ex Z Z'
  zh : Ex Z' H'
  m : ∀ b o, b ∉ M → H b = some o → H' b = some o
  al : ∀ b o, H b = some o → ∃ o', H' b = some o'
  fr : ∀ b, b ∉ M → Z b = none → (∃ o, H b = some o) → Z' b = none
/-- p stands in H and may be changed -/
structure Mu (Z H : Hp) (p : Addr) : Prop where
  z : Z p = none
  a : ∃ o, H p = some o
/-- a list that stands in H, its things in Z -/
def Li (Z H : Hp) (p : Addr) {α : Type} [Py α] (l : List α) : Prop := ∃ vs, H p = some (.lst vs) ∧ Paired (fun v x => Ik Z v x) vs l
/-- .. and that stays as it is -/
def Ls (Z : Hp) (p : Addr) {α : Type} [Py α] (l : List α) : Prop := Li Z Z p l
/-- a list that is filled: it stands at D, its things in Z -/
structure Lm (Z H : Hp) (D : Addr) {α : Type} [Py α] (l : List α) : Prop where
  ex : ∃ vs, H D = some (.lst vs) ∧ Paired (fun v x => Ik Z v x) vs l
  zd : Z D = none
  zh : Ex Z H
theorem nm_nil {b : Addr} : b ∉ ([] : List Addr) := List.not_mem_nil
theorem nm_cons {b x : Addr} {M : List Addr} (h : b ≠ x) (t : b ∉ M) : b ∉ x :: M := fun z => by
  rcases List.mem_cons.mp z with z | z
  · exact h z
  · exact t z
theorem mm_nil {N : List Addr} {H : Hp} : ∀ x ∈ ([] : List Addr), x ∈ N ∨ H x = none := fun _ h => absurd h List.not_mem_nil
theorem mm_cons {N M : List Addr} {H : Hp} {y : Addr} (h : y ∈ N ∨ H y = none) (t : ∀ x ∈ M, x ∈ N ∨ H x = none) : ∀ x ∈ y :: M, x ∈ N ∨ H x = none := fun x hx => by
  rcases List.mem_cons.mp hx with e | hx
  · rw [e]; exact h
  · exact t x hx
theorem mm_same {N : List Addr} {H : Hp} : ∀ x ∈ N, x ∈ N ∨ H x = none := fun _ h => .inl h
section
variable {K : PySem.W.Frag} {M N : List Addr} {Z H Z1 H1 Z2 H2 Z' H' Z0 H0 : Hp} {p b h D : Addr} {o : HO} {v : V} {α : Type} {iα : Py α} {x : α} {l : List α} {n : Nat}
theorem T.refl (e : Ex Z H) : T M Z H Z H := ⟨Ex.refl _, e, fun _ _ _ h => h, fun _ o h => ⟨o, h⟩, fun _ _ h _ => h⟩
theorem T.step (a : T N Z H Z1 H1) (b : T M Z1 H1 Z2 H2) (h : ∀ x ∈ M, x ∈ N ∨ H x = none) : T N Z H Z2 H2 := by
  have nm : ∀ x, x ∉ N → (∃ o, H x = some o) → x ∉ M := fun x nx ⟨o, ho⟩ hx => by
    rcases h x hx with g | g
    · exact nx g
    · rw [ho] at g; cases g
  refine ⟨a.z.trans b.z, b.zh, fun c o nc hc => b.m c o (nm c nc ⟨o, hc⟩) (a.m c o nc hc), fun c o hc => ?_, fun c nc zc ⟨o, hc⟩ => ?_⟩
  · obtain ⟨o', ho'⟩ := a.al c o hc
    exact b.al c o' ho'
  · obtain ⟨o', ho'⟩ := a.al c o hc
    exact b.fr c (nm c nc ⟨o, hc⟩) (a.fr c nc zc ⟨o, hc⟩) ⟨o', ho'⟩
theorem T.nn (t : T M Z H Z' H') (n : H' b = none) : H b = none := by
  cases c : H b with
  | none => rfl
  | some o =>
    obtain ⟨o', ho'⟩ := t.al b o c
    rw [n] at ho'
    cases ho'
/-- all that stood stands: b is new -/
def AC (H H' : Hp) : Prop := ∀ b, H' b = none → H b = none
theorem AC.refl : AC H H := fun _ h => h
theorem T.ac (t : T M Z1 H1 Z2 H2) (a : AC H H1) : AC H H2 := fun b h => a b (t.nn h)
theorem fresh_of (n : H1 b = none) (c : AC H H1) : H b = none := c b n
theorem T.exz (t : T M Z1 H1 Z2 H2) (e : Ex Z Z1) : Ex Z Z2 := e.trans t.z
theorem Ik.tt (t : T M Z H Z' H') (h : Ik Z v x) : Ik Z' v x := Ik.ex t.z h
theorem T.sqz {xs : List V} (t : T M Z H Z' H') (h : SqL K Z p xs) : SqL K Z' p xs := t.z.sq h
theorem T.stz {xs : List V} (t : T M Z H Z' H') (h : SqT K Z p xs) : SqT K Z' p xs := t.z.st h
theorem T.pz (t : T M Z H Z' H') (h : Z p = some o) : Z' p = some o := t.z _ _ h
theorem T.hp (t : T M Z H Z' H') (n : p ∉ M) (h : H p = some o) : H' p = some o := t.m _ _ n h
theorem T.all (t : T M Z H Z' H') (h : ∃ o, H p = some o) : ∃ o, H' p = some o := by
  obtain ⟨o, ho⟩ := h
  exact t.al _ _ ho
theorem T.mu (t : T M Z H Z' H') (n : p ∉ M) (a : Mu Z H p) : Mu Z' H' p := ⟨t.fr _ n a.z a.a, t.all a.a⟩
theorem Hand.tt (t : T M Z H Z' H') (nm : h ∉ M) (a : Hand K Z H h n) : Hand K Z' H' h n := by
  obtain ⟨d, k, c, cells, h1, h3, h4, h5, z1, z2, z3⟩ := a
  exact ⟨d, k, c, cells, t.m _ _ nm h1, h3, h4, h5, t.zh, t.fr _ nm z2 ⟨_, h1⟩, t.z.sq z3⟩
theorem Hand.mu (a : Hand K Z H h n) : Mu Z H h := ⟨a.zn, a.at⟩
theorem Lm.up (a : Lm Z H D l) (e : Ex H H') : Lm Z H' D l := by
  obtain ⟨⟨vs, h1, h2⟩, h3, h4⟩ := a
  exact ⟨⟨vs, e _ _ h1, h2⟩, h3, h4.trans e⟩
theorem Lm.isH (a : Lm Z H D l) : Ik H (.ref D) l := by
  obtain ⟨⟨vs, h1, h2⟩, h3, h4⟩ := a
  exact Ik.of_list h1 (Paired.mapP h2 fun v x g => Ik.ex h4 g)
theorem Lm.at_ (a : Lm Z H D l) : ∃ o, H D = some o := by
  obtain ⟨⟨vs, h1, h2⟩, h3, h4⟩ := a
  exact ⟨_, h1⟩
theorem Lm.mu (a : Lm Z H D l) : Mu Z H D := ⟨a.zd, a.at_⟩
theorem Lm.tt (t : T M Z H Z' H') (nm : D ∉ M) (a : Lm Z H D l) : Lm Z' H' D l := by
  have hd := a.zd
  have ha := a.at_
  obtain ⟨⟨vs, h1, h2⟩, h3, h4⟩ := a
  exact ⟨⟨vs, t.m _ _ nm h1, Paired.mapP h2 fun v x h => Ik.ex t.z h⟩, t.fr _ nm hd ha, t.zh⟩
theorem Li.tt (t : T M Z H Z' H') (nm : p ∉ M) (a : Li Z H p l) : Li Z' H' p l := by
  obtain ⟨vs, h1, h2⟩ := a
  exact ⟨vs, t.m _ _ nm h1, Paired.mapP h2 fun v x h => Ik.ex t.z h⟩
theorem Ls.tt (t : T M Z H Z' H') (a : Ls Z p l) : Ls Z' p l := by
  obtain ⟨vs, h1, h2⟩ := a
  exact ⟨vs, t.z _ _ h1, Paired.mapP h2 fun v x h => Ik.ex t.z h⟩
theorem Ls.exz (t : Ex Z Z') (a : Ls Z p l) : Ls Z' p l := by
  obtain ⟨vs, h1, h2⟩ := a
  exact ⟨vs, t _ _ h1, Paired.mapP h2 fun v x h => Ik.ex t h⟩
theorem Ls.li (a : Ls Z p l) (e : Ex Z H) : Li Z H p l := by
  obtain ⟨vs, h1, h2⟩ := a
  exact ⟨vs, e _ _ h1, h2⟩
theorem Ls.is (a : Ls Z p l) : Ik Z (.ref p) l := by
  obtain ⟨vs, h1, h2⟩ := a
  exact Ik.of_list h1 h2
theorem Lm.li (a : Lm Z H D l) : Li Z H D l := a.ex
theorem Ls.ints {l : List Int} (a : Ls Z p l) : Z p = some (.lst (l.map V.int)) := by
  obtain ⟨vs, h1, h2⟩ := a
  rw [h1, pair_intsK h2]
theorem Li.ints {l : List Int} (a : Li Z H p l) : H p = some (.lst (l.map V.int)) := by
  obtain ⟨vs, h1, h2⟩ := a
  rw [h1, pair_intsK h2]
theorem Lm.ints {l : List Int} (a : Lm Z H D l) : H D = some (.lst (l.map V.int)) := a.li.ints
theorem Ik.sqI {l : List Int} (a : Ik Z (.ref p) l) : SqL K Z p (l.map V.int) := by
  obtain ⟨b, e, h⟩ := a.ints_of
  cases e
  exact sq_of h
theorem Ik.li {l : List α} (a : Ik Z (.ref p) l) : Ls Z p l := by
  obtain ⟨b, vs, e, h, pr⟩ := a.list
  cases e
  exact ⟨vs, h, pr⟩
theorem Ls.ofInts {l : List Int} (h : Z p = some (.lst (l.map V.int))) : Ls Z p l := ⟨_, h, ints_pairK⟩
theorem Ik.l1 {w : V} (h : Z p = some (.lst [w])) (i : Ik Z w x) : Ik Z (.ref p) [x] := Ik.of_list h (.cons i .nil)
theorem Ik.l2 {w u : V} {y : α} (h : Z p = some (.lst [w, u])) (i : Ik Z w x) (j : Ik Z u y) : Ik Z (.ref p) [x, y] := Ik.of_list h (.cons i (.cons j .nil))
theorem Ls.l0 (h : Z p = some (.lst [])) : Ls Z p ([] : List α) := ⟨_, h, .nil⟩
theorem Ls.l1 {w : V} (h : Z p = some (.lst [w])) (i : Ik Z w x) : Ls Z p [x] := ⟨_, h, .cons i .nil⟩
theorem Ls.l2 {w u : V} {y : α} (h : Z p = some (.lst [w, u])) (i : Ik Z w x) (j : Ik Z u y) : Ls Z p [x, y] := ⟨_, h, .cons i (.cons j .nil)⟩
/-! ways in: from the old words -/
theorem T.ofEx (e : Ex H H') (z : Ex Z H) : T M Z H Z H' := ⟨Ex.refl _, z.trans e, fun _ _ _ h => e _ _ h, fun _ o h => ⟨o, e _ _ h⟩, fun _ _ h _ => h⟩
theorem T.ofExM (m : ExM h H H') (a : ∃ o, H' h = some o) (z : Ex Z H) (zn : Z h = none) : T [h] Z H Z H' :=
  ⟨Ex.refl _, z.exm zn m, fun _ o n e => m _ o (fun z => n (by rw [z]; exact List.mem_cons_self)) e, fun b o e => by
    by_cases c : b = h
    · rw [c]; exact a
    · exact ⟨o, m _ _ c e⟩, fun _ _ h _ => h⟩
theorem upd_ex2 (z : Ex Z H) : Ex (upd Z p o) (upd H p o) := fun b u e => by
  by_cases c : b = p
  · rw [c, upd_same] at e ⊢
    exact e
  · rw [upd_ne c] at e ⊢
    exact z _ _ e
/-- a new thing that stays as it is -/
theorem T.new (n : H p = none) (z : Ex Z H) : T M Z H (upd Z p o) (upd H p o) :=
  ⟨Ex.new (Ex.back z n), upd_ex2 z, fun b u _ e => by rw [upd_ne (ne_of_none e n)]; exact e, fun b u e => ⟨u, by rw [upd_ne (ne_of_none e n)]; exact e⟩, fun b _ zb ⟨u, e⟩ => by rw [upd_ne (ne_of_none e n)]; exact zb⟩
/-- a new thing that may be changed -/
theorem T.newM (n : H p = none) (z : Ex Z H) : T M Z H Z (upd H p o) :=
  ⟨Ex.refl _, z.trans (Ex.new n), fun b u _ e => by rw [upd_ne (ne_of_none e n)]; exact e, fun b u e => ⟨u, by rw [upd_ne (ne_of_none e n)]; exact e⟩, fun b _ zb _ => zb⟩
/-- a thing is changed -/
theorem T.set (a : Mu Z H p) (z : Ex Z H) : T [p] Z H Z (upd H p o) :=
  ⟨Ex.refl _, fun b u e => by rw [upd_ne (ne_of_none e a.z)]; exact z _ _ e, fun b u nb e => by rw [upd_ne (fun c => nb (by rw [c]; exact List.mem_cons_self))]; exact e, fun b u e => by
    by_cases c : b = p
    · exact ⟨_, by rw [c]; exact upd_same⟩
    · exact ⟨u, by rw [upd_ne c]; exact e⟩, fun b _ zb _ => zb⟩
/-- a thing is to stay as it is from now on -/
theorem T.fz (z : Ex Z H) (zp : Z p = none) (hp : H p = some o) : T [p] Z H (upd Z p o) H :=
  ⟨Ex.new zp, fun b u e => by
    by_cases c : b = p
    · rw [c, upd_same] at e
      cases e
      rw [c]; exact hp
    · rw [upd_ne c] at e
      exact z _ _ e, fun _ _ _ h => h, fun _ o h => ⟨o, h⟩, fun b nb zb _ => by rw [upd_ne (fun c => nb (by rw [c]; exact List.mem_cons_self))]; exact zb⟩
/-- .. of old words: all that is new stays as it is -/
def grow (Z H H' : Hp) : Hp := fun b => match Z b with | some o => some o | none => match H b with | some _ => none | none => H' b
theorem grow_z (hz : Z b = some o) : grow Z H H' b = some o := by
  unfold grow
  rw [hz]
theorem grow_new (e : Ex Z H) (n : H b = none) (s : H' b = some o) : grow Z H H' b = some o := by
  unfold grow
  rw [Ex.back e n, n]
  exact s
theorem T.grow (z : Ex Z H) (zh : Ex Z H') (m : ∀ b o, b ∉ M → H b = some o → H' b = some o) (al : ∀ b o, H b = some o → ∃ o', H' b = some o') : T M Z H (grow Z H H') H' :=
  ⟨fun b o e => grow_z e, fun b o e => by
    unfold TR.grow at e
    cases c : Z b with
    | some u => rw [c] at e; cases e; exact zh _ _ c
    | none =>
      rw [c] at e
      cases d : H b with
      | some u => rw [d] at e; cases e
      | none => rw [d] at e; exact e, m, al, fun b _ zb ⟨u, hu⟩ => by
    unfold TR.grow
    rw [zb, hu]⟩
end
/-! ### new things: what is asked next -/
section
variable {K : PySem.W.Frag} {M : List Addr} {Z H : Hp} {Q : VK} {R : Hp → Prop} {p D a b : Addr} {v w : V} {α : Type} {iα : Py α} {x : α} {l r : List α} {xs : List V}
/-- an empty list that will be changed -/
theorem t_lst0 (z : Ex Z H) (q : ∀ p Z' H', H p = none → T [] Z H Z' H' → Mu Z' H' p → H' p = some (.lst []) → Q (.ref p) H') : NewL [] H Q :=
  ⟨sz_of (Nat.zero_le _), fun p hp => q p Z _ hp (T.newM hp z) ⟨Ex.back z hp, _, upd_same⟩ upd_same⟩
theorem t_lst (z : Ex Z H) (h : xs.length ≤ 100000) (q : ∀ p Z' H', H p = none → T [] Z H Z' H' → Z' p = some (.lst xs) → Q (.ref p) H') : NewL xs H Q :=
  ⟨sz_of h, fun p hp => q p _ _ hp (T.new hp z) upd_same⟩
theorem t_tup (z : Ex Z H) (h : xs.length ≤ 100000) (q : ∀ p Z' H', H p = none → T [] Z H Z' H' → Z' p = some (.tup xs) → Q (.ref p) H') : NewT xs H Q :=
  ⟨sz_of h, fun p hp => q p _ _ hp (T.new hp z) upd_same⟩
/-- the empty list that will be changed, as data -/
theorem Lm.of0 (m : Mu Z H p) (z : Ex Z H) (f : H p = some (.lst [])) : Lm Z H p ([] : List α) := ⟨⟨[], f, .nil⟩, m.z, z⟩
theorem t_app (a : Lm Z H D l) (i : Ik Z v x) (hz : l.length < 100000) (q : ∀ Z' H', T [D] Z H Z' H' → Lm Z' H' D (l ++ [x]) → Q .non H') : rAppend (.ref D) [v] H Q := by
  have mu := a.mu
  obtain ⟨⟨vs, h1, h2⟩, h3, h4⟩ := a
  have t : T [D] Z H Z (upd H D (.lst (vs ++ [v]))) := T.set mu h4
  exact ⟨D, vs, v, rfl, rfl, h1, sz_lt (by rw [Paired.length h2]; exact hz), q Z _ t ⟨⟨_, upd_same, Paired.snoc h2 i⟩, h3, t.zh⟩⟩
theorem t_tyLA {l : List α} {P : Prop} (a : Lm Z H D l) (q : P) : tyV K "list" (.ref D) H ∧ P := by
  obtain ⟨⟨vs, h1, h2⟩, h3, h4⟩ := a
  exact s_tyL (sq_of h1) q
/-- a list that was filled stays as it is from now on -/
theorem t_fz {G : Hp → Prop} (a : Lm Z H D l) (q : ∀ Z' H', T [D] Z H Z' H' → Ls Z' D l → G H') : G H := by
  obtain ⟨⟨vs, h1, h2⟩, h3, h4⟩ := a
  have t : T [D] Z H (upd Z D (.lst vs)) H := T.fz h4 h3 h1
  exact q _ _ t ⟨vs, upd_same, Paired.mapP h2 fun v x g => Ik.ex t.z g⟩
theorem t_fzV {G : Hp → Prop} (m : Mu Z H D) (z : Ex Z H) {o : HO} (f : H D = some o) (q : ∀ Z' H', T [D] Z H Z' H' → Z' D = some o → G H') : G H :=
  q _ _ (T.fz z m.z f) upd_same
/-- two lists one behind the other -/
theorem t_cat (z : Ex Z H) (h1 : Li Z H a l) (h2 : Li Z H b r) (hz : l.length + r.length ≤ 100000) (q : ∀ p Z' H', H p = none → T [] Z H Z' H' → Ls Z' p (l ++ r) → Q (.ref p) H') : rPlus (.ref a) (.ref b) H Q := by
  obtain ⟨vs, f1, g1⟩ := h1
  obtain ⟨us, f2, g2⟩ := h2
  have l1 := Paired.length g1
  have l2 := Paired.length g2
  refine .inr (.inl ⟨a, b, vs, us, rfl, rfl, f1, f2, sz_of (by omega), fun p hp => ?_⟩)
  have t : T [] Z H (upd Z p (.lst (vs ++ us))) (upd H p (.lst (vs ++ us))) := T.new hp z
  exact q p _ _ hp t ⟨_, upd_same, paired_append (Paired.mapP g1 fun v x g => Ik.ex t.z g) (Paired.mapP g2 fun v x g => Ik.ex t.z g)⟩
theorem t_slL {lo hi : Option Int} (z : Ex Z H) (h : SqL K H a xs) (q : ∀ p Z' H', H p = none → T [] Z H Z' H' → Z' p = some (.lst (cutV xs lo hi)) → Q (.ref p) H') : rSlL K (.ref a) lo hi H Q :=
  ⟨a, xs, rfl, h, fun p hp => q p _ _ hp (T.new hp z) upd_same⟩
theorem t_slIs {lo hi : Option Int} (z : Ex Z H) (h : Ik Z (.ref a) l) (q : ∀ p Z' H', H p = none → T [] Z H Z' H' → Ls Z' p (cutI l lo hi) → Q (.ref p) H') : rSlL K (.ref a) lo hi H Q := by
  obtain ⟨b, us, e, h1, h2⟩ := h.list
  cases e
  refine t_slL z (z.sq (sq_of h1)) fun p Z' H' n t f => q p Z' H' n t ⟨_, f, ?_⟩
  exact paired_cut (Paired.mapP h2 fun v x g => Ik.ex t.z g) lo hi
theorem t_slLi {lo hi : Option Int} (z : Ex Z H) (h : Li Z H a l) (q : ∀ p Z' H', H p = none → T [] Z H Z' H' → Ls Z' p (cutI l lo hi) → Q (.ref p) H') : rSlL K (.ref a) lo hi H Q := by
  obtain ⟨us, h1, h2⟩ := h
  refine t_slL z (sq_of h1) fun p Z' H' n t f => q p Z' H' n t ⟨_, f, ?_⟩
  exact paired_cut (Paired.mapP h2 fun v x g => Ik.ex t.z g) lo hi
theorem t_rev (z : Ex Z H) (h : Ik Z (.ref a) l) (q : ∀ p Z' H', H p = none → T [] Z H Z' H' → Ls Z' p l.reverse → Q (.ref p) H') : rRevL K (.ref a) H Q := by
  obtain ⟨b, us, e, h1, h2⟩ := h.list
  cases e
  refine ⟨a, us, rfl, z.sq (sq_of h1), fun p hp => ?_⟩
  have t : T [] Z H (upd Z p (.lst us.reverse)) (upd H p (.lst us.reverse)) := T.new hp z
  exact q p _ _ hp t ⟨_, upd_same, paired_reverse (Paired.mapP h2 fun v x g => Ik.ex t.z g)⟩
/-- a copy that stays | that will be changed -/
theorem t_list (z : Ex Z H) (h : Ik Z (.ref a) l) (q : ∀ p Z' H', H p = none → T [] Z H Z' H' → Ls Z' p l → Q (.ref p) H') : rList1 K [.ref a] H Q := by
  obtain ⟨b, us, e, h1, h2⟩ := h.list
  cases e
  refine ⟨a, us, rfl, .inl (z.sq (sq_of h1)), fun p hp => ?_⟩
  have t : T [] Z H (upd Z p (.lst us)) (upd H p (.lst us)) := T.new hp z
  exact q p _ _ hp t ⟨_, upd_same, Paired.mapP h2 fun v x g => Ik.ex t.z g⟩
theorem t_sorted {ns : List Int} (z : Ex Z H) (h : SqL K H a (ns.map V.int)) (q : ∀ p Z' H', H p = none → T [] Z H Z' H' → Ls Z' p (sortI ns) → Q (.ref p) H') : rSortedI K [.ref a] H Q :=
  ⟨a, ns, rfl, h, fun ns' p h1 h2 hp => by rw [sortI_of h1 h2]; exact q p _ _ hp (T.new hp z) (Ls.ofInts upd_same)⟩
theorem t_sortedE {l : Row} (z : Ex Z H) (h : Ik Z (.ref a) l) (k : OneK l) (q : ∀ p Z' H', H p = none → T [] Z H Z' H' → Ls Z' p (sortE l) → Q (.ref p) H') : rSortedPS K [.ref a] H Q := by
  obtain ⟨b, us, e, h1, h2⟩ := h.list
  cases e
  refine n_sortedEF (z.sq (sq_of h1)) (Paired.mapP h2 fun v x g => (Ik.ex z g).is) k fun p ws H' n e f pr => ?_
  have t : T [] Z H (grow Z H H') H' := T.grow z (z.trans e) (fun _ _ _ h => e _ _ h) fun _ o h => ⟨o, e _ _ h⟩
  refine q p _ H' n t ⟨ws, grow_new z n f, Paired.mapP (pr _ h2) fun v x g => Ik.ex t.z g⟩
theorem t_rg {i j : Int} (z : Ex Z H) (h : 0 ≤ i ∧ i ≤ 16000000 ∧ 0 ≤ j ∧ j ≤ 16000000) (q : ∀ p Z' H', H p = none → T [] Z H Z' H' → Z' p = some (.lst (rgV i j)) → Q (.ref p) H') : NewRg i j H Q :=
  ⟨.of_le (by omega) (by omega) (by omega) (by omega), fun p hp => q p _ _ hp (T.new hp z) upd_same⟩
/-! what is read -/
theorem t_len (z : Ex Z H) (h : Ik Z (.ref a) l) (q : Q (.int (l.length : Int)) H) : rLen K [.ref a] H Q := s_lenIs (Ik.ex z h).is q
theorem t_ix {i : Int} (z : Ex Z H) (h : Ik Z (.ref a) l) (e : atI l i = some x) (q : ∀ v, Ik Z v x → Q v H) : rIx K (.ref a) (.int i) H Q := by
  obtain ⟨b', vs, e', h1, h2⟩ := h.list
  cases e'
  obtain ⟨v, e2, g⟩ := atI_pair h2 e
  exact s_ixL (z.sq (sq_of h1)) e2 (q v g)
theorem t_lenLi (h : Li Z H a l) (q : Q (.int (l.length : Int)) H) : rLen K [.ref a] H Q := by
  obtain ⟨vs, h1, h2⟩ := h
  refine s_lenL (sq_of h1) ?_
  rw [Paired.length h2]
  exact q
theorem t_ixLi {i : Int} (h : Li Z H a l) (e : atI l i = some x) (q : ∀ v, Ik Z v x → Q v H) : rIx K (.ref a) (.int i) H Q := by
  obtain ⟨vs, h1, h2⟩ := h
  obtain ⟨v, e2, g⟩ := atI_pair h2 e
  exact s_ixL (sq_of h1) e2 (q v g)
theorem Li.isH (h : Li Z H a l) (z : Ex Z H) : Ik H (.ref a) l := by
  obtain ⟨vs, h1, h2⟩ := h
  exact Ik.of_list h1 (Paired.mapP h2 fun v x g => Ik.ex z g)
end
/-! ### draws -/
def spDraw (K : PySem.W.Frag) : Sp := fun vs H Q _ => ∃ (h : Addr) (m : Int) (n : Nat) (Z : Hp), vs = [.ref h, .int m] ∧ Hand K Z H h (n + 1) ∧ 0 < m ∧ m ≤ 4611686018427387904 ∧
  ∀ (r : Int) H', 0 ≤ r → r < m → ExM h H H' → Hand K Z H' h n → Q (.int r) H'
section
variable {K : PySem.W.Frag} {Z H : Hp} {h : Addr} {m : Int} {N : Nat} {Q : VK} {E : XK}
theorem Hand.t {H' : Hp} {n n' : Nat} (hh : Hand K Z H h n) (m : ExM h H H') (hh' : Hand K Z H' h n') : T [h] Z H Z H' := T.ofExM m hh'.at hh.z hh.zn
theorem drawT (hh : Hand K Z H h N) (hN : 1 ≤ N) (m0 : 0 < m) (m1 : m ≤ 4611686018427387904) (q : ∀ (r : Int) Z' H', 0 ≤ r → r < m → T [h] Z H Z' H' → Hand K Z' H' h (N - 1) → Q (.int r) H') : spDraw K [.ref h, .int m] H Q E :=
  ⟨h, m, N - 1, Z, rfl, hh.mono (by omega), m0, m1, fun r H' r0 r1 e hh' => q r Z H' r0 r1 (hh.t e hh') hh'⟩
def spFar (K : PySem.W.Frag) : Sp := fun vs H Q _ => ∃ (h : Addr) (m : Int) (n : Nat) (Z : Hp), vs = [.ref h, .int m] ∧ Hand K Z H h (n + 7) ∧ 0 < m ∧ m ≤ 4611686018427387904 ∧
  ∀ (r : Int) H', 0 ≤ r → r < m → ExM h H H' → Hand K Z H' h n → Q (.int r) H'
theorem farT (hh : Hand K Z H h N) (hN : 7 ≤ N) (m0 : 0 < m) (m1 : m ≤ 4611686018427387904) (q : ∀ (r : Int) Z' H', 0 ≤ r → r < m → T [h] Z H Z' H' → Hand K Z' H' h (N - 7) → Q (.int r) H') : spFar K [.ref h, .int m] H Q E :=
  ⟨h, m, N - 7, Z, rfl, hh.mono (by omega), m0, m1, fun r H' r0 r1 e hh' => q r Z H' r0 r1 (hh.t e hh') hh'⟩
def spKey (K : PySem.W.Frag) : Sp := fun vs H Q _ => ∃ (h : Addr) (n : Nat) (Z : Hp), vs = [.ref h] ∧ Hand K Z H h (n + 12) ∧
  ∀ (r : Int) H', 0 ≤ r → r < 1152921504606846976 → ExM h H H' → Hand K Z H' h n → Q (.int r) H'
theorem keyT (hh : Hand K Z H h N) (hN : 12 ≤ N) (q : ∀ (r : Int) Z' H', 0 ≤ r → r < 1152921504606846976 → T [h] Z H Z' H' → Hand K Z' H' h (N - 12) → Q (.int r) H') : spKey K [.ref h] H Q E :=
  ⟨h, N - 12, Z, rfl, hh.mono (by omega), fun r H' r0 r1 e hh' => q r Z H' r0 r1 (hh.t e hh') hh'⟩
def lettersS : Str := "abcdefghijklmnopqrstuvwxyz"
/-- a text of one to eight small letters -/
def nameB (x : Str) : Bool := decide (1 ≤ x.length ∧ x.length ≤ 8) && x.cps.toList.all fun c => decide (c ∈ lettersS.cps.toList)
def spThing (K : PySem.W.Frag) : Sp := fun vs H Q _ => ∃ (h : Addr) (n : Nat) (Z : Hp), vs = [.ref h] ∧ Hand K Z H h (n + 10) ∧
  ∀ (x : Tx) H', nameB x.1 = true → ExM h H H' → Hand K Z H' h n → Q (.str x.1) H'
theorem thingN {K : PySem.W.Frag} {Z H : Hp} {h : Addr} {N : Nat} {Q : VK} {E : XK} (hh : Hand K Z H h N) (hN : 10 ≤ N) (q : ∀ (x : Tx) Z' H', nameB x.1 = true → T [h] Z H Z' H' → Hand K Z' H' h (N - 10) → Q (.str x.1) H') : spThing K [.ref h] H Q E :=
  ⟨h, N - 10, Z, rfl, hh.mono (by omega), fun x H' nb e hh' => q x Z H' nb (T.ofExM e hh'.at hh.z hh.zn) hh'⟩
theorem thingT (hh : Hand K Z H h N) (hN : 10 ≤ N) (q : ∀ (x : Tx) Z' H', T [h] Z H Z' H' → Hand K Z' H' h (N - 10) → Q (.str x.1) H') : spThing K [.ref h] H Q E :=
  ⟨h, N - 10, Z, rfl, hh.mono (by omega), fun x H' _ e hh' => q x Z H' (hh.t e hh') hh'⟩
def spOpen (K : PySem.W.Frag) : Sp := fun vs H Q _ => ∃ (a : Addr) (ns : List Int) (x : Int), vs = [.ref a, .int x] ∧ SqL K H a (ns.map V.int) ∧ 0 ≤ x ∧ x ≤ 1000 ∧
  ∀ (h c : Addr) (d : Int) (cells : List Int) H', H h = none → H c = none → h ≠ c → Ex H H' → H' h = some (.lst [.int d, .int (1 + 1009 * x), .ref c]) → H' c = some (.lst (cells.map V.int)) → 0 < cells.length → Q (.ref h) H'
theorem openT {a : Addr} {ns : List Int} {x : Int} (z : Ex Z H) (s : SqL K H a (ns.map V.int)) (x0 : 0 ≤ x) (x1 : x ≤ 1000) (q : ∀ h Z' H', H h = none → T [] Z H Z' H' → Hand K Z' H' h 900000000000000000 → Q (.ref h) H') : spOpen K [.ref a, .int x] H Q E :=
  ⟨a, ns, x, rfl, s, x0, x1, fun h c d cells H' nh nc ne e fh fc c0 => by
    have zh : Ex (upd Z c (.lst (cells.map V.int))) H' := fun b o eb => by
      by_cases cc : b = c
      · rw [cc, upd_same] at eb
        cases eb
        rw [cc]; exact fc
      · rw [upd_ne cc] at eb
        exact e _ _ (z _ _ eb)
    refine q h _ H' nh ⟨Ex.new (Ex.back z nc), zh, fun _ _ _ h => e _ _ h, fun _ o h => ⟨o, e _ _ h⟩, fun b _ zb ⟨o, ho⟩ => by rw [upd_ne (ne_of_none ho nc)]; exact zb⟩ ⟨d, 1 + 1009 * x, c, cells, fh, c0, by omega, by omega, zh, ?_, sq_of upd_same⟩
    rw [upd_ne ne]
    exact Ex.back z nh⟩
end
end TR
namespace TR
open PySem L2
theorem ne_alF {H : Hp} {a b : Addr} (n : H a = none) (h : ∃ o, H b = some o) : a ≠ b := fun z => by
  obtain ⟨o, ho⟩ := h
  rw [z, ho] at n
  cases n
theorem ne_alB {H : Hp} {a b : Addr} (n : H b = none) (h : ∃ o, H a = some o) : a ≠ b := (ne_alF n h).symm
end TR
namespace TR
open PySem L2
/-! a place of a list, found once -/
def IxGo (xs : List V) (i : Int) (H : Hp) (Q : VK) : Prop := ∃ v, atI xs i = some v ∧ Q v H
section
variable {K : PySem.W.Frag} {H : Hp} {Q : VK} {a : Addr} {xs : List V} {i : Int} {v w : V}
theorem ixGo (h : SqL K H a xs) (q : IxGo xs i H Q) : rIx K (.ref a) (.int i) H Q := by
  obtain ⟨v, e, q⟩ := q
  exact s_ixL h e q
theorem ixGoT (h : SqT K H a xs) (q : IxGo xs i H Q) : rIx K (.ref a) (.int i) H Q := by
  obtain ⟨v, e, q⟩ := q
  exact s_ixT h e q
theorem ig_at (e : atI xs i = some v) (q : Q v H) : IxGo xs i H Q := ⟨v, e, q⟩
theorem ig_ints {l : List Int} (h0 : 0 ≤ i ∧ i < l.length) (q : ∀ v, l[i.toNat]? = some v → Q (.int v) H) : IxGo (l.map V.int) i H Q := by
  have hl : i.toNat < l.length := by omega
  exact ⟨_, atI_lt h0.1 (by rw [List.getElem?_map, List.getElem?_eq_getElem hl]; rfl), q _ (List.getElem?_eq_getElem hl)⟩
theorem ig_2b {x y : Int} {b : Bool} (q : ∀ v, (v = x ∨ v = y) → Q (.int v) H) : IxGo [.int x, .int y] (if b = true then 1 else 0) H Q := by
  cases b
  · exact ⟨_, rfl, q _ (.inl rfl)⟩
  · exact ⟨_, rfl, q _ (.inr rfl)⟩
theorem ig_2 {x y : Int} (h0 : 0 ≤ i ∧ i < 2) (q : ∀ v, (i = 0 ∧ v = x ∨ i = 1 ∧ v = y) → Q (.int v) H) : IxGo [.int x, .int y] i H Q := by
  have : i = 0 ∨ i = 1 := by omega
  rcases this with rfl | rfl
  · exact ⟨_, rfl, q _ (.inl ⟨rfl, rfl⟩)⟩
  · exact ⟨_, rfl, q _ (.inr ⟨rfl, rfl⟩)⟩
theorem ig_3 {x y z : Int} (h0 : 0 ≤ i ∧ i < 3) (q : ∀ v, (i = 0 ∧ v = x ∨ i = 1 ∧ v = y ∨ i = 2 ∧ v = z) → Q (.int v) H) : IxGo [.int x, .int y, .int z] i H Q := by
  have : i = 0 ∨ i = 1 ∨ i = 2 := by omega
  rcases this with rfl | rfl | rfl
  · exact ⟨_, rfl, q _ (.inl ⟨rfl, rfl⟩)⟩
  · exact ⟨_, rfl, q _ (.inr (.inl ⟨rfl, rfl⟩))⟩
  · exact ⟨_, rfl, q _ (.inr (.inr ⟨rfl, rfl⟩))⟩
theorem ig_4 {x y z t : Int} (h0 : 0 ≤ i ∧ i < 4) (q : ∀ v, (i = 0 ∧ v = x ∨ i = 1 ∧ v = y ∨ i = 2 ∧ v = z ∨ i = 3 ∧ v = t) → Q (.int v) H) : IxGo [.int x, .int y, .int z, .int t] i H Q := by
  have : i = 0 ∨ i = 1 ∨ i = 2 ∨ i = 3 := by omega
  rcases this with rfl | rfl | rfl | rfl
  · exact ⟨_, rfl, q _ (.inl ⟨rfl, rfl⟩)⟩
  · exact ⟨_, rfl, q _ (.inr (.inl ⟨rfl, rfl⟩))⟩
  · exact ⟨_, rfl, q _ (.inr (.inr (.inl ⟨rfl, rfl⟩)))⟩
  · exact ⟨_, rfl, q _ (.inr (.inr (.inr ⟨rfl, rfl⟩)))⟩
end
end TR
namespace TR
open PySem L2
end TR
namespace TR
open PySem L2
theorem Lm.frz {Z H : Hp} {D : Addr} {α : Type} {iα : Py α} {l : List α} (a : Lm Z H D l) : ∃ Z', T [D] Z H Z' H ∧ Ls Z' D l := by
  obtain ⟨⟨vs, h1, h2⟩, h3, h4⟩ := a
  have t : T [D] Z H (upd Z D (.lst vs)) H := T.fz h4 h3 h1
  exact ⟨_, t, vs, upd_same, Paired.mapP h2 fun v x g => Ik.ex t.z g⟩
end TR
namespace TR
open PySem L2
theorem Lm.frq {Z H : Hp} {D : Addr} {α : Type} {iα : Py α} {l : List α} (a : Lm Z H D l) : ∃ Z' H', H' = H ∧ T [D] Z H Z' H' ∧ Ls Z' D l := by
  obtain ⟨Z', t, ls⟩ := a.frz
  exact ⟨Z', H, rfl, t, ls⟩
end TR
namespace TR
open PySem L2
/-- .. of old words: a new thing that stays -/
theorem T.ofNew {M : List Addr} {Z H H' : Hp} {p : Addr} {o : HO} (z : Ex Z H) (n : H p = none) (e : Ex H H') (f : H' p = some o) : T M Z H (upd Z p o) H' :=
  ⟨Ex.new (Ex.back z n), fun b u eb => by
    by_cases c : b = p
    · rw [c, upd_same] at eb
      cases eb
      rw [c]; exact f
    · rw [upd_ne c] at eb
      exact e _ _ (z _ _ eb), fun _ _ _ h => e _ _ h, fun _ o h => ⟨o, e _ _ h⟩, fun b _ zb ⟨o, ho⟩ => by rw [upd_ne (ne_of_none ho n)]; exact zb⟩
/-- .. and one that may be changed -/
theorem T.ofNewM {M : List Addr} {Z H H' : Hp} (z : Ex Z H) (e : Ex H H') : T M Z H Z H' := T.ofEx e z
def spPlaces (lo : Int) (K : PySem.W.Frag) : Sp := fun vs H Q _ => ∃ (a : Addr) (ns : List Int) (x y : Int), vs = [.ref a, .int x, .int y] ∧ SqL K H a (ns.map V.int) ∧ 0 ≤ x ∧ x ≤ 100 ∧ 0 ≤ y ∧ y ≤ 100 ∧
  ∀ p H', H p = none → Ex H H' → H' p = some (.lst (rgV lo (lo + max x (min (ns.length : Int) y)))) → Q (.ref p) H'
theorem placesT {K : PySem.W.Frag} {Z H : Hp} {a : Addr} {ns : List Int} {lo x y : Int} {Q : VK} {E : XK} (z : Ex Z H) (s : SqL K H a (ns.map V.int)) (x0 : 0 ≤ x ∧ x ≤ 100 ∧ 0 ≤ y ∧ y ≤ 100)
    (q : ∀ p Z' H', H p = none → T [] Z H Z' H' → Z' p = some (.lst (rgV lo (lo + max x (min (ns.length : Int) y)))) → Q (.ref p) H') : spPlaces lo K [.ref a, .int x, .int y] H Q E :=
  ⟨a, ns, x, y, rfl, s, x0.1, x0.2.1, x0.2.2.1, x0.2.2.2, fun p H' n e f => q p _ H' n (T.ofNew z n e f) upd_same⟩
end TR
namespace TR
open PySem L2
theorem at_list {K : PySem.W.Frag} {xs : List V} {H : Hp} {Q : VK} (q : rList1 K xs H Q) : rList1 K xs H Q := q
end TR
namespace TR
open PySem L2
theorem at_newl {xs : List V} {H : Hp} {Q : VK} (q : NewL xs H Q) : NewL xs H Q := q
/-- a list of some things that will be changed -/
theorem t_lstM {Z H : Hp} {Q : VK} {xs : List V} {α : Type} {iα : Py α} {l : List α} (z : Ex Z H) (i : Paired (fun v x => Ik Z v x) xs l) (h : xs.length ≤ 100000) (q : ∀ p Z' H', H p = none → T [] Z H Z' H' → Lm Z' H' p l → Q (.ref p) H') : NewL xs H Q :=
  ⟨sz_of h, fun p hp => q p Z _ hp (T.newM hp z) ⟨⟨xs, upd_same, i⟩, Ex.back z hp, (T.newM (M := []) hp z).zh⟩⟩
end TR

/-! comprehensions and loops by T -/
namespace TR
open PySem L2
section
variable {K : PySem.W.Frag} {σ : L2.St} {H : Hp} {tt : TT} {te : TE} {Q : VK} {g : TG} {vs : List Nat}
theorem lcT {β : Type} {J : It} {n : Nat} {M : List Addr} {Z : Hp} (p : Nat → Bool) (I : Nat → Hp → Hp → Prop) (R : Nat → β → V → Hp → Prop)
    (mono : ∀ i x y Z1 Z2, Ex Z1 Z2 → R i x y Z1 → R i x y Z2)
    (stab : ∀ i Z1 H1 D o, I i Z1 H1 → H D = none → Z1 D = none → I i Z1 (upd H1 D o))
    (hz : n ≤ 40000) (zh : Ex Z H) (hM : ∀ b ∈ M, ∃ o, H b = some o) (h0 : I 0 Z H)
    (hgo : ∀ i Z1 H1, i < n → T M Z H Z1 H1 → J.go i H1) (hst : ∀ Z1 H1, T M Z H Z1 H1 → J.stop n H1)
    (turn : ∀ i, i < n → ∀ D Z1 H1, T M Z H Z1 H1 → H D = none → Mu Z1 H1 D → I i Z1 H1 → ∀ v H2, J.yld i H1 v H2 → ∀ (A : VK) (B : Hp → Prop),
      (p i = true → ∀ x y Z3 H3, T M Z1 H1 Z3 H3 → I (i + 1) Z3 H3 → R i x y Z3 → A y H3) → (p i = false → ∀ Z3 H3, T M Z1 H1 Z3 H3 → I (i + 1) Z3 H3 → B H3) →
      g v (wipe σ vs) H2 fun σ2 H2 => wipe σ2 vs = wipe σ vs ∧ tt σ2 H2 fun b H3 => if b = true then te σ2 H3 A else B H3)
    (fin : ∀ D ys (L : List (Nat × β)) Z' H', H D = none → T M Z H Z' H' → Mu Z' H' D → H' D = some (.lst ys) → I n Z' H' → L.map Prod.fst = (List.range n).filter p → Paired (fun y q => R q.1 q.2 y Z') ys L → Q (.ref D) H') : LcJ g tt te vs σ J H Q := by
  intro D hD
  have nD : D ∉ M := fun z => by
    obtain ⟨o, ho⟩ := hM D z
    rw [hD] at ho
    cases ho
  refine ⟨fun i m H' => m = n - i ∧ i ≤ n ∧ ∃ Z', T M Z H Z' H' ∧ Mu Z' H' D ∧ I i Z' H' ∧ ∃ (ys : List V) (L : List (Nat × β)), H' D = some (.lst ys) ∧ ys.length ≤ i ∧ L.map Prod.fst = (List.range i).filter p ∧ Paired (fun y q => R q.1 q.2 y Z') ys L,
    ⟨n, by omega, by omega, Z, T.newM hD zh, ⟨Ex.back zh hD, _, upd_same⟩, stab _ _ _ _ _ h0 hD (Ex.back zh hD), [], [], upd_same, Nat.le_refl _, rfl, .nil⟩, ?_⟩
  rintro i m H' ⟨rfl, hi, Z', t, mu, hI, ys, L, hys, hly, hL, pr⟩
  by_cases hlt : i < n
  · refine .inr ⟨hgo i Z' H' hlt t, fun H'' => i + 1 ≤ n ∧ ∃ Z'', T M Z H Z'' H'' ∧ Mu Z'' H'' D ∧ I (i + 1) Z'' H'' ∧ ∃ (ys : List V) (L : List (Nat × β)), H'' D = some (.lst ys) ∧ ys.length ≤ i + 1 ∧ L.map Prod.fst = (List.range (i + 1)).filter p ∧ Paired (fun y q => R q.1 q.2 y Z'') ys L,
      fun H'' q => ⟨n - (i + 1), by omega, rfl, q⟩, fun v H2 hy => ?_⟩
    refine turn i hlt D Z' H' t hD mu hI v H2 hy _ _ (fun hp x y Z3 H3 t3 hI3 r => ?_) (fun hp Z3 H3 t3 hI3 => ?_)
    · have t4 : T M Z H Z3 H3 := t.step t3 mm_same
      have mu3 := t3.mu nD mu
      have t5 : T M Z H Z3 (upd H3 D (.lst (ys ++ [y]))) := t4.step (T.set mu3 t4.zh) (mm_cons (.inr hD) mm_nil)
      refine ⟨ys, t3.hp nD hys, sz_lt (by omega), by omega, Z3, t5, ⟨mu3.z, _, upd_same⟩, stab _ _ _ _ _ hI3 hD mu3.z, ys ++ [y], L ++ [(i, x)], upd_same, by rw [List.length_append]; show _ + 1 ≤ _; omega, ?_, ?_⟩
      · rw [List.map_append, hL, List.range_succ, List.filter_append, List.filter_cons, if_pos hp]
        rfl
      · exact paired_snoc (Paired.mapP pr fun y q h => mono _ _ _ _ _ t3.z h) r
    · have t4 : T M Z H Z3 H3 := t.step t3 mm_same
      refine ⟨by omega, Z3, t4, t3.mu nD mu, hI3, ys, L, t3.hp nD hys, by omega, ?_, Paired.mapP pr fun y q h => mono _ _ _ _ _ t3.z h⟩
      rw [hL, List.range_succ, List.filter_append, List.filter_cons, if_neg (by rw [hp]; exact Bool.false_ne_true)]
      simp
  · have ei : i = n := by omega
    subst ei
    exact .inl ⟨hst Z' H' t, fin D ys L Z' H' hD t mu hys hI hL pr⟩
theorem rg_kept {β : Type} (xs : List β) (p : β → Bool) : ∀ k, k ≤ xs.length → ((List.range k).filter fun i => match xs[i]? with | some b => p b | none => false).filterMap (fun i => xs[i]?) = (xs.take k).filter p
  | 0, _ => rfl
  | k + 1, h => by
    have ek : xs[k]? = some xs[k] := List.getElem?_eq_getElem h
    rw [List.range_succ, List.filter_append, List.filterMap_append, rg_kept xs p k (by omega), List.take_add_one, ek, List.filter_append]
    congr 1
    show List.filterMap _ (List.filter _ [k]) = List.filter p [xs[k]]
    rw [List.filter_cons, List.filter_cons, ek]
    by_cases c : p xs[k] = true
    · simp [c, ek]
    · simp [c]
theorem kept_snd {β γ : Type} {xs : List β} {f : β → γ} : ∀ {L : List (Nat × γ)}, (∀ q ∈ L, ∃ b, xs[q.1]? = some b ∧ q.2 = f b) → L.map Prod.snd = ((L.map Prod.fst).filterMap fun i => xs[i]?).map f
  | [], _ => rfl
  | q :: L, h => by
    obtain ⟨b, h1, h2⟩ := h q List.mem_cons_self
    rw [List.map_cons, List.map_cons, List.filterMap_cons, h1, List.map_cons, ← kept_snd (L := L) fun r hr => h r (List.mem_cons_of_mem _ hr), h2]
theorem paired_r {β γ : Type} {F : β → γ → Prop} {xs : List β} {ys : List γ} (h : Paired F xs ys) : ∀ y ∈ ys, ∃ x, F x y := by
  induction h with
  | nil => exact fun _ h => absurd h List.not_mem_nil
  | cons a t ih =>
    intro y hy
    rcases List.mem_cons.mp hy with e | hy
    · rw [e]; exact ⟨_, a⟩
    · exact ih y hy
theorem paired_mapR {β γ δ : Type} {F : β → δ → Prop} {f : γ → δ} : ∀ {xs : List β} {ys : List γ}, Paired (fun x y => F x (f y)) xs ys → Paired F xs (ys.map f)
  | _, _, .nil => .nil
  | _, _, .cons a t => .cons a (paired_mapR t)
/-- a list of data, what is kept is told by f -/
theorem c_keepLA {β γ : Type} [Py β] [Py γ] {a : Addr} {xs : List β} {Z : Hp} (p : β → Bool) (f : β → γ) (zh : Ex Z H) (h : Ik Z (.ref a) xs) (hz : xs.length ≤ 40000)
    (turn : ∀ (i : Nat) v x, xs[i]? = some x → Ik Z v x → ∀ Z1 H1, T [] Z H Z1 H1 → ∀ (A : VK) (B : Hp → Prop), (p x = true → ∀ y Z3 H3, T [] Z1 H1 Z3 H3 → Ik Z3 y (f x) → A y H3) → (p x = false → ∀ Z3 H3, T [] Z1 H1 Z3 H3 → B H3) →
      g v (wipe σ vs) H1 fun σ2 H2 => wipe σ2 vs = wipe σ vs ∧ tt σ2 H2 fun b H3 => if b = true then te σ2 H3 A else B H3)
    (fin : ∀ D Z' H', H D = none → T [] Z H Z' H' → Lm Z' H' D ((xs.filter p).map f) → Q (.ref D) H') : LcL K g tt te vs σ (.ref a) H Q := by
  obtain ⟨b, us, e, h1, h2⟩ := h.list
  cases e
  have hl := Paired.length h2
  refine ⟨a, rfl, ⟨us, zh.sq (sq_of h1)⟩, lcT (n := xs.length) (M := []) (Z := Z) (fun i => match xs[i]? with | some b => p b | none => false) (fun _ _ _ => True) (fun i (x : γ) y Z => (∃ b, xs[i]? = some b ∧ x = f b) ∧ Ik Z y x) (fun i x y Z1 Z2 e r => ⟨r.1, Ik.ex e r.2⟩) (fun _ _ _ _ _ _ _ _ => trivial) hz zh (fun _ h => absurd h List.not_mem_nil) trivial
    (fun i Z1 H1 hi t => ⟨us, us[i]'(by omega), (t.z.trans t.zh).sq (sq_of h1), List.getElem?_eq_getElem (by omega)⟩) (fun Z1 H1 t => ⟨us, (t.z.trans t.zh).sq (sq_of h1), by omega⟩) (fun i hi D Z1 H1 t nD mu _ v H2 hy A B hA hB => ?_) (fun D ys L Z' H' nD t mu f1 _ hL pr => ?_)⟩
  · obtain ⟨rfl, fv⟩ := hy
    have hv := fv _ ((t.z.trans t.zh).sq (sq_of h1))
    obtain ⟨x, hx, ix⟩ := itemK h2 hv
    refine turn i v x hx ix Z1 H2 t A B (fun hp y Z3 H3 t3 iy => hA ?_ (f x) y Z3 H3 t3 trivial ⟨⟨x, hx, rfl⟩, iy⟩) (fun hp Z3 H3 t3 => hB ?_ Z3 H3 t3 trivial)
    · show (match xs[i]? with | some b => p b | none => false) = true
      rw [hx]
      exact hp
    · show (match xs[i]? with | some b => p b | none => false) = false
      rw [hx]
      exact hp
  · have e2 : L.map Prod.snd = (xs.filter p).map f := by
      rw [kept_snd (xs := xs) (f := f) (fun q hq => by
        obtain ⟨y, hy⟩ := paired_r pr q hq
        exact hy.1), hL, rg_kept xs p xs.length (Nat.le_refl _), List.take_length]
    have la : Lm Z' H' D ((xs.filter p).map f) := ⟨⟨ys, f1, by rw [← e2]; exact paired_mapR (Paired.mapP pr fun y q h => h.2)⟩, mu.z, t.zh⟩
    exact fin D Z' H' nD t la
/-- a list of data, what is kept is told by f -/
theorem c_keepL {β γ : Type} [Py β] [Py γ] {a : Addr} {xs : List β} {Z : Hp} (p : β → Bool) (f : β → γ) (zh : Ex Z H) (h : Ik Z (.ref a) xs) (hz : xs.length ≤ 40000)
    (turn : ∀ (i : Nat) v x, xs[i]? = some x → Ik Z v x → ∀ Z1 H1, T [] Z H Z1 H1 → ∀ (A : VK) (B : Hp → Prop), (p x = true → ∀ y Z3 H3, T [] Z1 H1 Z3 H3 → Ik Z3 y (f x) → A y H3) → (p x = false → ∀ Z3 H3, T [] Z1 H1 Z3 H3 → B H3) →
      g v (wipe σ vs) H1 fun σ2 H2 => wipe σ2 vs = wipe σ vs ∧ tt σ2 H2 fun b H3 => if b = true then te σ2 H3 A else B H3)
    (fin : ∀ D Z' H', H D = none → T [] Z H Z' H' → Ls Z' D ((xs.filter p).map f) → Q (.ref D) H') : LcL K g tt te vs σ (.ref a) H Q :=
  c_keepLA p f zh h hz turn fun D Z' H' nD t la => t_fz la fun Z2 H2 t2 ls => fin D Z2 H2 nD (t.step t2 (mm_cons (.inr nD) mm_nil)) ls
theorem c_mapL {β γ : Type} [Py β] [Py γ] {a : Addr} {xs : List β} {Z : Hp} (f : β → γ) (zh : Ex Z H) (h : Ik Z (.ref a) xs) (hz : xs.length ≤ 40000)
    (turn : ∀ (i : Nat) v x, xs[i]? = some x → Ik Z v x → ∀ Z1 H1, T [] Z H Z1 H1 → ∀ (A : VK), (∀ y Z3 H3, T [] Z1 H1 Z3 H3 → Ik Z3 y (f x) → A y H3) → g v (wipe σ vs) H1 fun σ2 H2 => wipe σ2 vs = wipe σ vs ∧ te σ2 H2 A)
    (fin : ∀ D Z' H', H D = none → T [] Z H Z' H' → Ls Z' D (xs.map f) → Q (.ref D) H') : LcL K g tYes te vs σ (.ref a) H Q :=
  c_keepL (fun _ => true) f zh h hz (fun i v x hx ix Z1 H1 t A B hA hB => by rw [lc_yes]; exact turn i v x hx ix Z1 H1 t A fun y Z3 H3 t3 iy => hA rfl y Z3 H3 t3 iy) (by rw [filter_yes]; exact fin)
/-- .. of a range -/
theorem c_keepR {γ : Type} [Py γ] {n : Int} {Z : Hp} (p : Nat → Bool) (f : Nat → γ) (zh : Ex Z H) (hz : -40000 ≤ n ∧ n ≤ 40000)
    (turn : ∀ i : Nat, (i : Int) < n → ∀ Z1 H1, T [] Z H Z1 H1 → ∀ (A : VK) (B : Hp → Prop), (p i = true → ∀ y Z3 H3, T [] Z1 H1 Z3 H3 → Ik Z3 y (f i) → A y H3) → (p i = false → ∀ Z3 H3, T [] Z1 H1 Z3 H3 → B H3) →
      g (.int (i : Int)) (wipe σ vs) H1 fun σ2 H2 => wipe σ2 vs = wipe σ vs ∧ tt σ2 H2 fun b H3 => if b = true then te σ2 H3 A else B H3)
    (fin : ∀ D Z' H', H D = none → T [] Z H Z' H' → Ls Z' D (((List.range n.toNat).filter p).map f) → Q (.ref D) H') : LcR1 g tt te vs σ [.int n] H Q := by
  have e62 : (2 : Int) ^ 62 = 4611686018427387904 := by decide
  refine ⟨n, rfl, by omega, by omega, lcT (n := n.toNat) (M := []) (Z := Z) p (fun _ _ _ => True) (fun i (x : γ) y Z => x = f i ∧ Ik Z y x) (fun i x y Z1 Z2 e r => ⟨r.1, Ik.ex e r.2⟩) (fun _ _ _ _ _ _ _ _ => trivial) (by omega) zh (fun _ h => absurd h List.not_mem_nil) trivial
    (fun i Z1 H1 hi t => hi) (fun Z1 H1 t => Nat.le_refl _) (fun i hi D Z1 H1 t nD mu _ v H2 hy A B hA hB => ?_) (fun D ys L Z' H' nD t mu f1 _ hL pr => ?_)⟩
  · obtain ⟨rfl, rfl⟩ := hy
    rw [Int.zero_add]
    exact turn i (by omega) Z1 H2 t A B (fun hp y Z3 H3 t3 iy => hA hp (f i) y Z3 H3 t3 trivial ⟨rfl, iy⟩) (fun hp Z3 H3 t3 => hB hp Z3 H3 t3 trivial)
  · have e2 : L.map Prod.snd = ((List.range n.toNat).filter p).map f := by
      rw [← hL, List.map_map]
      exact List.map_congr_left fun q hq => by
        obtain ⟨y, hy⟩ := paired_r pr q hq
        exact hy.1
    have la : Lm Z' H' D (((List.range n.toNat).filter p).map f) := ⟨⟨ys, f1, by rw [← e2]; exact paired_mapR (Paired.mapP pr fun y q h => h.2)⟩, mu.z, t.zh⟩
    exact t_fz la fun Z2 H2 t2 ls => fin D Z2 H2 nD (t.step t2 (mm_cons (.inr nD) mm_nil)) ls
end
section
variable {K : PySem.W.Frag} {σ : L2.St} {H : Hp} {D : Ends} {g : TG} {ts : TS}
/-- for over a list of data -/
theorem t_forL {β : Type} [Py β] {a : Addr} {xs : List β} {Z0 : Hp} (h : Ik Z0 (.ref a) xs) (Pv : Nat → L2.St → Hp → Prop) (hz : ∀ i σ H, Pv i σ H → Ex Z0 H) (h0 : Pv 0 σ H)
    (hs : ∀ (i : Nat) v x σ H, xs[i]? = some x → Ik Z0 v x → Pv i σ H → g v σ H fun σ2 H2 => ts { D with nx := Pv (i + 1), ct := Pv (i + 1), bk := D.nx } σ2 H2) (hd : ∀ σ H, Pv xs.length σ H → D.nx σ H) : ForL K g ts D σ (.ref a) H := by
  obtain ⟨b, us, e, h1, h2⟩ := h.list
  cases e
  have hl := Paired.length h2
  refine u_forL Pv ((hz _ _ _ h0).sq (sq_of h1)) h0 (fun i σ H _ p => (hz _ _ _ p).sq (sq_of h1)) (fun i v σ H hv p => ?_) (fun σ H p => hd σ H (by rw [← hl]; exact p))
  obtain ⟨x, hx, ix⟩ := itemK h2 hv
  exact hs i v x σ H hx ix p
end
end TR

/-! rooms that are changed: a list of lists of rows, beside a hand -/
namespace TR
open PySem L2
def offH (H : Hp) (ps : List Addr) : Hp := fun b => if b ∈ ps then none else H b
theorem off_none {H : Hp} {ps : List Addr} {b : Addr} (h : b ∈ ps) : offH H ps b = none := if_pos h
theorem off_some {H : Hp} {ps : List Addr} {b : Addr} (h : b ∉ ps) : offH H ps b = H b := if_neg h
theorem off_ex {H : Hp} {ps : List Addr} : Ex (offH H ps) H := fun b o e => by
  by_cases c : b ∈ ps
  · rw [off_none c] at e; cases e
  · rw [off_some c] at e; exact e
theorem off_big {Z H : Hp} {ps : List Addr} (e : Ex Z H) (h : ∀ q ∈ ps, Z q = none) : Ex Z (offH H ps) := fun b o q => by
  rw [off_some (fun c => by rw [h b c] at q; cases q)]
  exact e b o q
structure HL (K : PySem.W.Frag) (Z0 H : Hp) (h p : Addr) (qs : List Addr) {α : Type} [Py α] (rs : List (List α)) : Prop where
  own : H p = some (.lst (qs.map V.ref))
  nd : (h :: p :: qs).Nodup
  fr : ∀ q ∈ h :: p :: qs, Z0 q = none
  zh : Ex Z0 H
  rows : Paired (fun q r => ∃ vs, H q = some (.lst vs) ∧ Paired (fun v x => Is K (offH H (h :: p :: qs)) v x) vs r) qs rs
section
variable {K : PySem.W.Frag} {Z0 H0 H H1 H' : Hp} {h p q D : Addr} {qs qs2 : List Addr} {α : Type} [Py α] {rs : List (List α)} {Q : VK}
theorem HL.rw (a : HL K Z0 H h p qs rs) : RW K (offH H (h :: p :: qs)) H p qs rs :=
  ⟨a.own, (List.nodup_cons.mp a.nd).2, fun q hq => off_none (List.mem_cons_of_mem _ hq), off_ex, a.rows⟩
theorem HL.is (a : HL K Z0 H h p qs rs) : Is K H (.ref p) rs := a.rw.is
theorem HL.len (a : HL K Z0 H h p qs rs) : qs.length = rs.length := Paired.length a.rows
theorem HL.rebase (nd : (h :: p :: qs).Nodup) (fr : ∀ q ∈ h :: p :: qs, Z0 q = none) (zh : Ex Z0 H) {Z : Hp} (a : RW K Z H p qs rs) (zhn : Z h = none) : HL K Z0 H h p qs rs :=
  ⟨a.own, nd, fr, zh, Paired.mapP a.rows fun q r ⟨vs, h1, h2⟩ => ⟨vs, h1, Paired.mapP h2 fun v x g => Is.ex (off_big a.zh fun b hb => by
    rcases List.mem_cons.mp hb with e | hb
    · rw [e]; exact zhn
    · exact a.fr b hb) g⟩⟩
theorem HL.up (a : HL K Z0 H h p qs rs) (e : Ex H H') : HL K Z0 H' h p qs rs :=
  HL.rebase a.nd a.fr (a.zh.trans e) (a.rw.up e) (off_none List.mem_cons_self)
theorem HL.hand (a : HL K Z0 H h p qs rs) (m : ExM h H H') : HL K Z0 H' h p qs rs :=
  HL.rebase a.nd a.fr (a.zh.exm (a.fr h List.mem_cons_self) m) (a.rw.exm m (List.nodup_cons.mp a.nd).1 (off_none List.mem_cons_self)) (off_none List.mem_cons_self)
theorem HL.obj (a : HL K Z0 H h p qs rs) : ∀ q ∈ p :: qs, ∃ o, H q = some o := a.rw.obj
theorem HL.not_in (a : HL K Z0 H h p qs rs) (n : H q = none) : q ∉ p :: qs := a.rw.new n
/-- a new heap, p's list stays, as do the rooms -/
theorem HL.push {v : V} {x : α} {i : Nat} {r : List α} (a : HL K Z0 H0 h p qs rs) (e : Ex H0 H) (hh : ∃ o, H0 h = some o) (hi : qs[i]? = some q) (hr : rs[i]? = some r) (hv : ∀ Z1, Ex Z0 Z1 → (∀ b o, H0 b = none → H b = some o → Z1 b = some o) → Is K Z1 v x) (hz : r.length < 100000)
    (k : ∀ H2, ExM q H H2 → HL K Z0 H2 h p qs (rs.set i (r ++ [x])) → Q .non H2) : rAppend (.ref q) [v] H Q := by
  have a1 := a.up e
  refine n_pushRW a1.rw hi hr (hv _ (off_big (a.zh.trans e) a.fr) fun b o n1 s1 => ?_) hz fun H2 m R2 => k H2 m ?_
  · rw [off_some]
    · exact s1
    · intro hb
      rcases List.mem_cons.mp hb with hb | hb
      · obtain ⟨o2, h2⟩ := hh
        rw [hb, h2] at n1
        cases n1
      · exact a.not_in n1 hb
  · have hm := List.mem_of_getElem? hi
    exact HL.rebase a.nd a.fr (a1.zh.exm (a.fr q (List.mem_cons_of_mem _ (List.mem_cons_of_mem _ hm))) m) R2 (off_none List.mem_cons_self)
theorem paired_mem {β γ : Type} {F G : β → γ → Prop} : ∀ {xs : List β} {ys : List γ}, Paired F xs ys → (∀ x y, x ∈ xs → F x y → G x y) → Paired G xs ys
  | _, _, .nil, _ => .nil
  | _, _, .cons a t, f => .cons (f _ _ List.mem_cons_self a) (paired_mem t fun x y hx => f x y (List.mem_cons_of_mem _ hx))
/-- new rooms without rows behind -/
theorem HL.cat (a : HL K Z0 H h p qs rs) (e : Ex H H1) (hh : ∃ o, H h = some o) (nd2 : (D :: qs2).Nodup) (nn2 : ∀ q ∈ D :: qs2, H q = none) (f : H1 D = some (.lst (qs2.map V.ref))) (he : ∀ q ∈ qs2, H1 q = some (.lst [])) (hz : rs.length + qs2.length ≤ 100000)
    (k : ∀ p' H2, H1 p' = none → Ex H1 H2 → HL K Z0 H2 h p' (qs ++ qs2) (rs ++ List.replicate qs2.length []) → Q (.ref p') H2) : rPlus (.ref p) (.ref D) H1 Q := by
  have a1 := a.up e
  have hl := a.len
  refine n_cat a1.own f (by rw [List.length_map, List.length_map]; omega) fun p' H2 n2 e2 f2 => k p' H2 n2 e2 ?_
  have mo : ∀ b ∈ h :: (qs ++ qs2), ∃ o, H1 b = some o := fun b hb => by
    rcases List.mem_cons.mp hb with hb | hb
    · obtain ⟨o, ho⟩ := hh
      exact ⟨o, by rw [hb]; exact e _ _ ho⟩
    · rcases List.mem_append.mp hb with hb | hb
      · exact a1.obj b (List.mem_cons_of_mem _ hb)
      · exact ⟨_, he b hb⟩
  have np : p' ∉ h :: (qs ++ qs2) := fun z => by
    obtain ⟨o, ho⟩ := mo p' z
    rw [n2] at ho
    cases ho
  have n0 : ∀ b ∈ qs2, b ∉ h :: p :: qs := fun b hb z => by
    have nb := nn2 b (List.mem_cons_of_mem _ hb)
    rcases List.mem_cons.mp z with z | z
    · obtain ⟨o, ho⟩ := hh
      rw [← z, nb] at ho
      cases ho
    · exact a.not_in nb z
  obtain ⟨d1, d2⟩ := List.nodup_cons.mp a.nd
  obtain ⟨d3, d4⟩ := List.nodup_cons.mp d2
  have d5 := (List.nodup_cons.mp nd2).2
  have dq : (qs ++ qs2).Nodup := List.nodup_append.mpr ⟨d4, d5, fun x hx y hy z => n0 y hy (z ▸ List.mem_cons_of_mem _ (List.mem_cons_of_mem _ hx))⟩
  have nh : h ∉ qs ++ qs2 := fun z => by
    rcases List.mem_append.mp z with z | z
    · exact d1 (List.mem_cons_of_mem _ z)
    · exact n0 h z List.mem_cons_self
  refine ⟨by rw [f2, List.map_append], ?_, ?_, a1.zh.trans e2, ?_⟩
  · refine List.nodup_cons.mpr ⟨fun z => ?_, List.nodup_cons.mpr ⟨fun z => np (List.mem_cons_of_mem _ z), dq⟩⟩
    rcases List.mem_cons.mp z with z | z
    · exact np (z ▸ List.mem_cons_self)
    · exact nh z
  · intro b hb
    rcases List.mem_cons.mp hb with hb | hb
    · rw [hb]; exact a.fr h List.mem_cons_self
    · rcases List.mem_cons.mp hb with hb | hb
      · rw [hb]; exact Ex.back a1.zh n2
      · rcases List.mem_append.mp hb with hb | hb
        · exact a.fr b (List.mem_cons_of_mem _ (List.mem_cons_of_mem _ hb))
        · exact Ex.back a.zh (nn2 b (List.mem_cons_of_mem _ hb))
  · -- what the items stand in: all but the hand, the old list's rooms, the new ones
    have big : Ex (offH H (h :: p :: qs)) (offH H2 (h :: p' :: (qs ++ qs2))) := fun b o s => by
      have nb : b ∉ h :: p :: qs := fun z => by rw [off_none z] at s; cases s
      rw [off_some nb] at s
      rw [off_some]
      · exact e2 _ _ (e _ _ s)
      · intro z
        rcases List.mem_cons.mp z with z | z
        · exact nb (z ▸ List.mem_cons_self)
        · rcases List.mem_cons.mp z with z | z
          · have := e _ _ s
            rw [z, n2] at this
            cases this
          · rcases List.mem_append.mp z with z | z
            · exact nb (List.mem_cons_of_mem _ (List.mem_cons_of_mem _ z))
            · rw [nn2 b (List.mem_cons_of_mem _ z)] at s
              cases s
    refine paired_append (Paired.mapP a.rows fun q r ⟨vs, h1, h2⟩ => ⟨vs, e2 _ _ (e _ _ h1), Paired.mapP h2 fun v x g => Is.ex big g⟩) ?_
    generalize offH H2 (h :: p' :: (qs ++ qs2)) = ZZ
    clear f nn2 nd2 n0 mo np dq d5 nh big hz k f2
    induction qs2 with
    | nil => exact .nil
    | cons b t ih => exact .cons ⟨[], e2 _ _ (he b List.mem_cons_self), .nil⟩ (ih fun q hq => he q (List.mem_cons_of_mem _ hq))
/-- the last room goes -/
theorem HL.pop {qs0 : List Addr} {rs0 : List (List α)} {r0 : List α} (a : HL K Z0 H h p (qs0 ++ [q]) (rs0 ++ [r0])) (k : ∀ v H2, ExM p H H2 → HL K Z0 H2 h p qs0 rs0 → Q v H2) : rPop (.ref p) [] H Q := by
  have own := a.own
  refine ⟨p, _, .ref q, rfl, rfl, own, by rw [List.map_append, List.length_append]; simp, k _ _ ExM.upd ?_⟩
  obtain ⟨d1, d2⟩ := List.nodup_cons.mp a.nd
  obtain ⟨d3, d4⟩ := List.nodup_cons.mp d2
  have sub : (h :: p :: qs0).Sublist (h :: p :: (qs0 ++ [q])) := .cons₂ _ (.cons₂ _ (List.sublist_append_left _ _))
  refine ⟨by rw [upd_same, List.map_append]; simp, a.nd.sublist sub, fun b hb => a.fr b (sub.subset hb), a.zh.exm (a.fr p (List.mem_cons_of_mem _ List.mem_cons_self)) ExM.upd, ?_⟩
  obtain ⟨us, u, e, pr, _⟩ := paired_snoc_inv a.rows
  have hl := Paired.length pr
  have e2 := List.append_inj' e rfl
  have er : us = qs0 := e2.1.symm
  subst er
  have np : ∀ b ∈ us, b ≠ p := fun b hb z => d3 (z ▸ List.mem_append_left _ hb)
  have big : Ex (offH H (h :: p :: (us ++ [q]))) (offH (upd H p (.lst ((us ++ [q]).map V.ref).dropLast)) (h :: p :: us)) := fun b o s => by
    have nb : b ∉ h :: p :: (us ++ [q]) := fun z => by rw [off_none z] at s; cases s
    rw [off_some nb] at s
    rw [off_some fun z => nb (sub.subset z), upd_ne (fun z => nb (by rw [z]; exact List.mem_cons_of_mem _ List.mem_cons_self))]
    exact s
  exact paired_mem pr fun b r hb ⟨vs, h1, h2⟩ => ⟨vs, by rw [upd_ne (np b hb)]; exact h1, Paired.mapP h2 fun v x g => Is.ex big g⟩
/-- a new first room in the place of the old one -/
theorem HL.first {q0 L1 L2 : Addr} {vs0 : List V} {r0 : List α} (a : HL K Z0 H0 h p qs rs) (hh : ∃ o, H0 h = some o) (m : ExM h H0 H1) (hh1 : ∃ o, H1 h = some o) (n0 : H0 q0 = none) (g0 : H1 q0 = some (.lst vs0))
    (hv : ∀ Z1, Ex Z0 Z1 → (∀ b o, H0 b = none → b ≠ q0 → H1 b = some o → Z1 b = some o) → Paired (fun v x => Is K Z1 v x) vs0 r0) (e : Ex H1 H) (f1 : H L1 = some (.lst [.ref q0])) (f2 : H L2 = some (.lst ((qs.drop 1).map V.ref))) (hz : rs.length ≤ 10000)
    (k : ∀ p' H2, H p' = none → Ex H H2 → HL K Z0 H2 h p' (q0 :: qs.drop 1) (r0 :: rs.drop 1) → Q (.ref p') H2) : rPlus (.ref L1) (.ref L2) H Q := by
  have a0 := a.hand m
  have a1 := a0.up e
  have hl := a.len
  refine n_cat f1 f2 (by rw [List.length_singleton, List.length_map, List.length_drop]; omega) fun p' H2 n2 e2 f3 => k p' H2 n2 e2 ?_
  obtain ⟨oh, hoh⟩ := hh
  obtain ⟨d1, d2⟩ := List.nodup_cons.mp a.nd
  obtain ⟨d3, d4⟩ := List.nodup_cons.mp d2
  have sub : (qs.drop 1).Sublist qs := List.drop_sublist _ _
  have nq0 : q0 ∉ h :: p :: qs := fun z => by
    rcases List.mem_cons.mp z with z | z
    · rw [z, hoh] at n0
      cases n0
    · exact a.not_in n0 z
  have np : ∀ b ∈ h :: q0 :: qs, b ≠ p' := fun b hb z => by
    have : ∃ o, H b = some o := by
      rcases List.mem_cons.mp hb with hb | hb
      · obtain ⟨o, ho⟩ := hh1
        exact ⟨o, by rw [hb]; exact e _ _ ho⟩
      · rcases List.mem_cons.mp hb with hb | hb
        · exact ⟨_, by rw [hb]; exact e _ _ g0⟩
        · exact a1.obj b (List.mem_cons_of_mem _ hb)
    obtain ⟨o, ho⟩ := this
    rw [z, n2] at ho
    cases ho
  have nh : h ∉ q0 :: qs.drop 1 := fun z => by
    rcases List.mem_cons.mp z with z | z
    · exact nq0 (z ▸ List.mem_cons_self)
    · exact d1 (List.mem_cons_of_mem _ (sub.subset z))
  have up : ∀ b ∈ h :: q0 :: qs.drop 1, b ∈ h :: q0 :: qs := fun b hb => by
    rcases List.mem_cons.mp hb with hb | hb
    · rw [hb]; exact List.mem_cons_self
    · rcases List.mem_cons.mp hb with hb | hb
      · rw [hb]; exact List.mem_cons_of_mem _ List.mem_cons_self
      · exact List.mem_cons_of_mem _ (List.mem_cons_of_mem _ (sub.subset hb))
  have fr : ∀ b ∈ h :: p' :: q0 :: qs.drop 1, Z0 b = none := fun b hb => by
    rcases List.mem_cons.mp hb with hb | hb
    · rw [hb]; exact a.fr h List.mem_cons_self
    · rcases List.mem_cons.mp hb with hb | hb
      · rw [hb]; exact Ex.back a1.zh n2
      · rcases List.mem_cons.mp hb with hb | hb
        · rw [hb]; exact Ex.back a.zh n0
        · exact a.fr b (List.mem_cons_of_mem _ (List.mem_cons_of_mem _ (sub.subset hb)))
  refine ⟨f3, ?_, fr, a1.zh.trans e2, .cons ⟨vs0, e2 _ _ (e _ _ g0), hv _ (off_big (a1.zh.trans e2) fr) fun b o n1 nb s => ?_⟩ ?_⟩
  · refine List.nodup_cons.mpr ⟨fun z => ?_, List.nodup_cons.mpr ⟨fun z => ?_, List.nodup_cons.mpr ⟨fun z => nq0 (List.mem_cons_of_mem _ (List.mem_cons_of_mem _ (sub.subset z))), d4.sublist sub⟩⟩⟩
    · rcases List.mem_cons.mp z with z | z
      · exact np h List.mem_cons_self z
      · exact nh z
    · exact np p' (up p' (List.mem_cons_of_mem _ z)) rfl
  · rw [off_some]
    · exact e2 _ _ (e _ _ s)
    · intro hb
      rcases List.mem_cons.mp hb with hb | hb
      · rw [hb, hoh] at n1
        cases n1
      · rcases List.mem_cons.mp hb with hb | hb
        · have := e _ _ s
          rw [hb, n2] at this
          cases this
        · rcases List.mem_cons.mp hb with hb | hb
          · exact nb hb
          · exact a.not_in n1 (List.mem_cons_of_mem _ (sub.subset hb))
  · have big : Ex (offH H0 (h :: p :: qs)) (offH H2 (h :: p' :: q0 :: qs.drop 1)) := fun b o s => by
      have nb : b ∉ h :: p :: qs := fun z => by rw [off_none z] at s; cases s
      rw [off_some nb] at s
      have s2 := e _ _ (m _ _ (fun z => nb (z ▸ List.mem_cons_self)) s)
      rw [off_some]
      · exact e2 _ _ s2
      · intro z
        rcases List.mem_cons.mp z with z | z
        · exact nb (z ▸ List.mem_cons_self)
        · rcases List.mem_cons.mp z with z | z
          · rw [z, n2] at s2
            cases s2
          · rcases List.mem_cons.mp z with z | z
            · rw [z, n0] at s
              cases s
            · exact nb (List.mem_cons_of_mem _ (List.mem_cons_of_mem _ (sub.subset z)))
    have pr := paired_drop 1 a.rows
    refine paired_mem pr fun b r hb ⟨vs, h1, h2⟩ => ⟨vs, e2 _ _ (e _ _ (m _ _ (fun z => d1 (z ▸ List.mem_cons_of_mem _ (sub.subset hb))) h1)), Paired.mapP h2 fun v x g => Is.ex big g⟩
theorem cut_of {Z H : Hp} {h : Addr} (e : Ex Z H) (z : Z h = none) : Ex Z (cutH H h) := fun b o q => by
  show (if b = h then none else H b) = some o
  rw [if_neg (fun c => by rw [c, z] at q; cases q)]
  exact e b o q
theorem HL.base (a : HL K Z0 H h p qs rs) : HL K (offH H (h :: p :: qs)) H h p qs rs := ⟨a.own, a.nd, fun _ hq => off_none hq, off_ex, a.rows⟩
theorem HL.keep {Z : Hp} (a : HL K Z0 H h p qs rs) (e : Ex Z Z0) : Ex Z (offH H (h :: p :: qs)) := off_big (e.trans a.zh) fun q hq => Ex.back e (a.fr q hq)
end
section
variable {K : PySem.W.Frag} {σ : L2.St} {H : Hp} {te : TE} {Q : VK} {g : TG} {vs : List Nat}
end
/-- bounds of rooms: how many, how many rows each, how many entries each -/
def HB (n m k : Nat) (rss : List (List Row)) : Prop := rss.length ≤ n ∧ ∀ rs ∈ rss, rs.length ≤ m ∧ ∀ r ∈ rs, r.length ≤ k
theorem HB.mono {n m k n' m' k' : Nat} {rss : List (List Row)} (h : HB n m k rss) (hn : n ≤ n') (hm : m ≤ m') (hk : k ≤ k') : HB n' m' k' rss :=
  ⟨Nat.le_trans h.1 hn, fun rs hr => ⟨Nat.le_trans (h.2 rs hr).1 hm, fun r hr' => Nat.le_trans ((h.2 rs hr).2 r hr') hk⟩⟩
theorem HB.push {n m k : Nat} {rss : List (List Row)} (h : HB n m k rss) {i : Nat} {rs : List Row} {r : Row} (hr : rss[i]? = some rs) (hk : r.length ≤ k) : HB n (m + 1) k (rss.set i (rs ++ [r])) := by
  have hm := List.mem_of_getElem? hr
  refine ⟨by rw [List.length_set]; exact h.1, fun rs' hr' => ?_⟩
  rcases List.mem_or_eq_of_mem_set hr' with hr' | hr'
  · exact ⟨Nat.le_succ_of_le (h.2 rs' hr').1, (h.2 rs' hr').2⟩
  · rw [hr']
    refine ⟨by rw [List.length_append]; have := (h.2 rs hm).1; simp; omega, fun r' hr2 => ?_⟩
    rcases List.mem_append.mp hr2 with hr2 | hr2
    · exact (h.2 rs hm).2 r' hr2
    · rw [List.mem_singleton.mp hr2]; exact hk
theorem HB.cat {n m k j : Nat} {rss : List (List Row)} (h : HB n m k rss) : HB (n + j) m k (rss ++ List.replicate j []) := by
  refine ⟨by rw [List.length_append, List.length_replicate]; have := h.1; omega, fun rs hr => ?_⟩
  rcases List.mem_append.mp hr with hr | hr
  · exact h.2 rs hr
  · rw [List.eq_of_mem_replicate hr]
    exact ⟨Nat.zero_le _, fun _ h => absurd h List.not_mem_nil⟩
theorem HB.sub {n m k : Nat} {rss rs2 : List (List Row)} (h : HB n m k rss) (s : rs2.Sublist rss) : HB n m k rs2 := ⟨Nat.le_trans s.length_le h.1, fun rs hr => h.2 rs (s.subset hr)⟩
theorem HB.cons {n m k : Nat} {rss : List (List Row)} {rs : List Row} (h : HB n m k rss) (h1 : rs.length ≤ m) (h2 : ∀ r ∈ rs, r.length ≤ k) : HB (n + 1) m k (rs :: rss) := ⟨by rw [List.length_cons]; have := h.1; omega, fun r hr => by
  rcases List.mem_cons.mp hr with e | hr
  · rw [e]; exact ⟨h1, h2⟩
  · exact h.2 r hr⟩
end TR

/-! rooms of rows that are all an asker's own: D their list, qs the rooms, F the rows -/
namespace TR
open PySem L2
section
variable {K : PySem.W.Frag} {σ : L2.St} {H : Hp} {tt : TT} {te : TE} {Q : VK} {g : TG} {vs : List Nat}
/-- a comprehension whose things have feet: new addresses of their own -/
theorem lcTN {β : Type} {J : It} {n : Nat} {M : List Addr} {Z : Hp} (I : Nat → Hp → Hp → Prop) (R : Nat → β → List Addr → V → Hp → Prop)
    (mono : ∀ i x fp y Z1 Z2, Ex Z1 Z2 → R i x fp y Z1 → R i x fp y Z2)
    (stab : ∀ i Z1 H1 D o, I i Z1 H1 → H D = none → Z1 D = none → I i Z1 (upd H1 D o))
    (hz : n ≤ 40000) (zh : Ex Z H) (hM : ∀ b ∈ M, ∃ o, H b = some o) (h0 : I 0 Z H)
    (hgo : ∀ i Z1 H1, i < n → T M Z H Z1 H1 → J.go i H1) (hst : ∀ Z1 H1, T M Z H Z1 H1 → J.stop n H1)
    (turn : ∀ i, i < n → ∀ D Z1 H1, T M Z H Z1 H1 → H D = none → Mu Z1 H1 D → I i Z1 H1 → ∀ v H2, J.yld i H1 v H2 → ∀ (A : VK),
      (∀ x fp y Z3 H3, T M Z1 H1 Z3 H3 → I (i + 1) Z3 H3 → R i x fp y Z3 → fp.Nodup → (∀ q ∈ fp, H1 q = none) → (∀ q ∈ fp, ∃ o, H3 q = some o) → A y H3) →
      g v (wipe σ vs) H2 fun σ2 H2 => wipe σ2 vs = wipe σ vs ∧ te σ2 H2 A)
    (fin : ∀ D ys (L : List (β × List Addr)) Z' H', H D = none → T M Z H Z' H' → Mu Z' H' D → H' D = some (.lst ys) → I n Z' H' → L.length = n → ys.length = n → (∀ j y q, ys[j]? = some y → L[j]? = some q → R j q.1 q.2 y Z') → (D :: (L.map Prod.snd).flatten).Nodup → (∀ q ∈ (L.map Prod.snd).flatten, H q = none) → (∀ q ∈ (L.map Prod.snd).flatten, ∃ o, H' q = some o) → Q (.ref D) H') : LcJ g tYes te vs σ J H Q := by
  intro D hD
  have nD : D ∉ M := fun z => by
    obtain ⟨o, ho⟩ := hM D z
    rw [hD] at ho
    cases ho
  refine ⟨fun i m H' => m = n - i ∧ i ≤ n ∧ ∃ Z', T M Z H Z' H' ∧ Mu Z' H' D ∧ I i Z' H' ∧ ∃ (ys : List V) (L : List (β × List Addr)), H' D = some (.lst ys) ∧ ys.length = i ∧ L.length = i ∧ (∀ j y q, ys[j]? = some y → L[j]? = some q → R j q.1 q.2 y Z') ∧ (D :: (L.map Prod.snd).flatten).Nodup ∧ (∀ q ∈ (L.map Prod.snd).flatten, H q = none) ∧ (∀ q ∈ (L.map Prod.snd).flatten, ∃ o, H' q = some o),
    ⟨n, by omega, by omega, Z, T.newM hD zh, ⟨Ex.back zh hD, _, upd_same⟩, stab _ _ _ _ _ h0 hD (Ex.back zh hD), [], [], upd_same, rfl, rfl, fun j y q h => by simp at h, by simp, by simp, by simp⟩, ?_⟩
  rintro i m H' ⟨rfl, hi, Z', t, mu, hI, ys, L, hys, hly, hL, pr, nd, fr, al⟩
  by_cases hlt : i < n
  · refine .inr ⟨hgo i Z' H' hlt t, fun H'' => i + 1 ≤ n ∧ ∃ Z'', T M Z H Z'' H'' ∧ Mu Z'' H'' D ∧ I (i + 1) Z'' H'' ∧ ∃ (ys : List V) (L : List (β × List Addr)), H'' D = some (.lst ys) ∧ ys.length = i + 1 ∧ L.length = i + 1 ∧ (∀ j y q, ys[j]? = some y → L[j]? = some q → R j q.1 q.2 y Z'') ∧ (D :: (L.map Prod.snd).flatten).Nodup ∧ (∀ q ∈ (L.map Prod.snd).flatten, H q = none) ∧ (∀ q ∈ (L.map Prod.snd).flatten, ∃ o, H'' q = some o),
      fun H'' q => ⟨n - (i + 1), by omega, rfl, q⟩, fun v H2 hy => ?_⟩
    rw [lc_yes]
    refine turn i hlt D Z' H' t hD mu hI v H2 hy _ (fun x fp y Z3 H3 t3 hI3 r nfp frp alp => ?_)
    have t4 : T M Z H Z3 H3 := t.step t3 mm_same
    have mu3 := t3.mu nD mu
    have t5 : T M Z H Z3 (upd H3 D (.lst (ys ++ [y]))) := t4.step (T.set mu3 t4.zh) (mm_cons (.inr hD) mm_nil)
    have efl : (List.map Prod.snd (L ++ [(x, fp)])).flatten = (L.map Prod.snd).flatten ++ fp := by simp
    have Dfp : D ∉ fp := fun z => by
      obtain ⟨o, ho⟩ := mu.a
      rw [frp D z] at ho
      cases ho
    refine ⟨ys, t3.hp nD hys, sz_lt (by omega), by omega, Z3, t5, ⟨mu3.z, _, upd_same⟩, stab _ _ _ _ _ hI3 hD mu3.z, ys ++ [y], L ++ [(x, fp)], upd_same, by rw [List.length_append, hly]; rfl, by rw [List.length_append, hL]; rfl, fun j y' q' h1 h2 => ?_, ?_, ?_, ?_⟩
    · rw [List.getElem?_append] at h1 h2
      rw [hly] at h1
      rw [hL] at h2
      by_cases c : j < i
      · rw [if_pos c] at h1 h2
        exact mono _ _ _ _ _ _ t3.z (pr j y' q' h1 h2)
      · rw [if_neg c] at h1 h2
        have ej : j = i := by
          have := (List.getElem?_eq_some_iff.mp h1).1
          rw [List.length_singleton] at this
          omega
        subst ej
        rw [Nat.sub_self] at h1 h2
        cases h1
        cases h2
        exact r
    · rw [efl, ← List.cons_append]
      refine List.nodup_append.mpr ⟨nd, nfp, fun a ha b hb e => ?_⟩
      rcases List.mem_cons.mp ha with e2 | ha
      · exact Dfp (by rw [← e2, e]; exact hb)
      · obtain ⟨o, ho⟩ := al a ha
        rw [e, frp b hb] at ho
        cases ho
    · rw [efl]
      intro q hq
      rcases List.mem_append.mp hq with hq | hq
      · exact fr q hq
      · exact t.nn (frp q hq)
    · rw [efl]
      intro q hq
      rcases List.mem_append.mp hq with hq2 | hq2
      · by_cases c : q = D
        · exact ⟨_, by rw [c]; exact upd_same⟩
        · obtain ⟨o, ho⟩ := t3.all (al q hq2)
          exact ⟨o, by rw [upd_ne c]; exact ho⟩
      · by_cases c : q = D
        · exact ⟨_, by rw [c]; exact upd_same⟩
        · obtain ⟨o, ho⟩ := alp q hq2
          exact ⟨o, by rw [upd_ne c]; exact ho⟩
  · have ei : i = n := by omega
    subst ei
    exact .inl ⟨hst Z' H' t, fin D ys L Z' H' hD t mu hys hI hL hly pr nd fr al⟩
end
section
variable {K : PySem.W.Frag} {M N F : List Addr} {Z H Z1 H1 Z2 H2 Z' H' : Hp} {p q D : Addr} {o : HO} {v : V} {α : Type} [Py α]
/-- what was to stay, and is new, may be changed after all -/
theorem T.unfz (t : T M Z H Z' H') (e : Ex Z H) (f : ∀ w ∈ F, H w = none) : T M Z H (offH Z' F) H' :=
  ⟨off_big t.z fun q hq => Ex.back e (f q hq), (off_ex (H := Z') (ps := F)).trans t.zh, t.m, t.al, fun b nb zb a => by
    by_cases c : b ∈ F
    · exact off_none c
    · rw [off_some c]; exact t.fr b nb zb a⟩
/-- many things are to stay from now on -/
def onH (Z H : Hp) (F : List Addr) : Hp := fun b => if b ∈ F then H b else Z b
theorem on_in (h : p ∈ F) : onH Z H F p = H p := if_pos h
theorem on_out (h : p ∉ F) : onH Z H F p = Z p := if_neg h
theorem on_ex (h : ∀ q ∈ F, Z q = none) : Ex Z (onH Z H F) := fun b o e => by
  rw [on_out (fun c => by rw [h b c] at e; cases e)]
  exact e
theorem T.fzs (z : Ex Z H) (h : ∀ q ∈ F, Z q = none) : T F Z H (onH Z H F) H :=
  ⟨on_ex h, fun b o e => by
    by_cases c : b ∈ F
    · rw [on_in c] at e; exact e
    · rw [on_out c] at e; exact z _ _ e, fun _ _ _ h => h, fun _ o h => ⟨o, h⟩, fun b nb zb _ => by rw [on_out nb]; exact zb⟩
/-- a row that is one's own -/
def RowO (Z H : Hp) (w : Addr) (r : List α) : Prop := ∃ vs, H w = some (.lst vs) ∧ Paired (fun v x => Ik Z v x) vs r
def RoomO (Z H : Hp) (F : List Addr) (q : Addr) (rs : List (List α)) : Prop := ∃ ws : List Addr, H q = some (.lst (ws.map V.ref)) ∧ (∀ w ∈ ws, w ∈ F) ∧ Paired (fun w r => RowO Z H w r) ws rs
structure Y3 (Z H : Hp) (D : Addr) (qs F : List Addr) (rss : List (List (List α))) : Prop where
  own : H D = some (.lst (qs.map V.ref))
  nd : (D :: qs).Nodup
  nf : ∀ q ∈ D :: qs, q ∉ F
  z : ∀ q ∈ D :: (qs ++ F), Z q = none
  al : ∀ q ∈ D :: (qs ++ F), ∃ o, H q = some o
  zh : Ex Z H
  rows : Paired (fun q rs => RoomO Z H F q rs) qs rss
theorem RowO.tt {w : Addr} {r : List α} (t : T M Z H Z' H') (n : w ∉ M) (h : RowO Z H w r) : RowO Z' H' w r := by
  obtain ⟨vs, h1, h2⟩ := h
  exact ⟨vs, t.hp n h1, Paired.mapP h2 fun v x g => Ik.tt t g⟩
theorem RoomO.tt {rs : List (List α)} (t : T M Z H Z' H') (n : q ∉ M) (nF : ∀ w ∈ F, w ∉ M) (h : RoomO Z H F q rs) : RoomO Z' H' F q rs := by
  obtain ⟨ws, h1, h2, h3⟩ := h
  exact ⟨ws, t.hp n h1, h2, paired_mem h3 fun w r hw g => RowO.tt t (nF w (h2 w hw)) g⟩
theorem RoomO.sub {G : List Addr} {rs : List (List α)} (h : RoomO Z H F q rs) (s : ∀ w ∈ F, w ∈ G) : RoomO Z H G q rs := by
  obtain ⟨ws, h1, h2, h3⟩ := h
  exact ⟨ws, h1, fun w hw => s w (h2 w hw), h3⟩
theorem RoomO.isH {rs : List (List α)} (h : RoomO Z H F q rs) (z : Ex Z H) : Ik H (.ref q) rs := by
  obtain ⟨ws, h1, h2, h3⟩ := h
  refine Ik.of_list h1 ?_
  clear h1 h2
  induction h3 with
  | nil => exact .nil
  | cons a t ih =>
    obtain ⟨vs, g1, g2⟩ := a
    exact .cons (Ik.of_list g1 (Paired.mapP g2 fun v x g => Ik.ex z g)) ih
variable {qs : List Addr} {rss : List (List (List α))}
theorem Y3.tt (t : T M Z H Z' H') (n : ∀ q ∈ D :: (qs ++ F), q ∉ M) (a : Y3 Z H D qs F rss) : Y3 Z' H' D qs F rss := by
  refine ⟨t.hp (n D List.mem_cons_self) a.own, a.nd, a.nf, fun q hq => t.fr q (n q hq) (a.z q hq) (a.al q hq), fun q hq => t.all (a.al q hq), t.zh, ?_⟩
  exact paired_mem a.rows fun q rs hq g => g.tt t (n q (List.mem_cons_of_mem _ (List.mem_append_left _ hq))) fun w hw => n w (List.mem_cons_of_mem _ (List.mem_append_right _ hw))
theorem Y3.tt0 (t : T [] Z H Z' H') (a : Y3 Z H D qs F rss) : Y3 Z' H' D qs F rss := a.tt t fun _ _ => nm_nil
theorem Y3.len (a : Y3 Z H D qs F rss) : qs.length = rss.length := Paired.length a.rows
theorem Y3.is (a : Y3 Z H D qs F rss) : Ik H (.ref D) rss := by
  refine Ik.of_list a.own ?_
  have h := a.rows
  have z := a.zh
  clear a
  induction h with
  | nil => exact .nil
  | cons g t ih => exact .cons (g.isH z) ih
theorem Y3.at (a : Y3 Z H D qs F rss) {i : Nat} (h : qs[i]? = some q) : ∃ rs, rss[i]? = some rs ∧ RoomO Z H F q rs := RW.at' a.rows h
theorem Y3.frz (a : Y3 Z H D qs F rss) : ∃ Z', T (D :: (qs ++ F)) Z H Z' H ∧ Ls Z' D rss := by
  have t := T.fzs (F := D :: (qs ++ F)) a.zh a.z
  refine ⟨_, t, _, (on_in List.mem_cons_self).trans a.own, ?_⟩
  have h := a.rows
  have g : ∀ b ∈ qs ++ F, onH Z H (D :: (qs ++ F)) b = H b := fun b hb => on_in (List.mem_cons_of_mem _ hb)
  have e := t.z
  revert g e
  generalize onH Z H (D :: (qs ++ F)) = Z2
  intro g e
  clear t a
  have g' : ∀ b ∈ qs, Z2 b = H b := fun b hb => g b (List.mem_append_left _ hb)
  have g2 : ∀ b ∈ F, Z2 b = H b := fun b hb => g b (List.mem_append_right _ hb)
  clear g
  induction h with
  | nil => exact .nil
  | cons x t ih =>
    refine .cons ?_ (ih fun b hb => g' b (List.mem_cons_of_mem _ hb))
    obtain ⟨ws, h1, h2, h3⟩ := x
    refine Ik.of_list ((g' _ List.mem_cons_self).trans h1) ?_
    clear h1
    induction h3 with
    | nil => exact .nil
    | cons y t2 ih2 =>
      obtain ⟨vs, f1, f2⟩ := y
      exact .cons (Ik.of_list ((g2 _ (h2 _ List.mem_cons_self)).trans f1) (Paired.mapP f2 fun v x g => Ik.ex e g)) (ih2 fun w hw => h2 w (List.mem_cons_of_mem _ hw))
theorem Y3.frq (a : Y3 Z H D qs F rss) : ∃ Z' H', H' = H ∧ T (D :: (qs ++ F)) Z H Z' H' ∧ Ls Z' D rss := by
  obtain ⟨Z', t, ls⟩ := a.frz
  exact ⟨Z', H, rfl, t, ls⟩
theorem Y3.fz {G : Hp → Prop} (a : Y3 Z H D qs F rss) (k : ∀ Z' H', T (D :: (qs ++ F)) Z H Z' H' → Ls Z' D rss → G H') : G H := by
  obtain ⟨Z', t, ls⟩ := a.frz
  exact k Z' H t ls
variable {Q : VK} {R : Hp → Prop}
theorem set_mem {β : Type} {l : List β} {i : Nat} {x y : β} (h : y ∈ l.set i x) : y = x ∨ y ∈ l := by
  rcases List.mem_or_eq_of_mem_set h with h | h
  · exact .inr h
  · exact .inl h
/-- a new room behind | a row in a room | a room in the place of one -/
theorem Y3.push (a : Y3 Z H D qs F rss) (mq : Mu Z H q) {rs : List (List α)} (rq : RoomO Z H F q rs) (nq : q ∉ D :: (qs ++ F)) (hz : rss.length < 100000)
    (k : ∀ Z' H', T [D] Z H Z' H' → Y3 Z' H' D (qs ++ [q]) F (rss ++ [rs]) → Q .non H') : rAppend (.ref D) [.ref q] H Q := by
  have hl := a.len
  have md : Mu Z H D := ⟨a.z D List.mem_cons_self, a.al D List.mem_cons_self⟩
  have t : T [D] Z H Z (upd H D (.lst (qs.map V.ref ++ [.ref q]))) := T.set md a.zh
  refine ⟨D, _, _, rfl, rfl, a.own, sz_lt (by rw [List.length_map]; omega), k Z _ t ?_⟩
  obtain ⟨d1, d2⟩ := List.nodup_cons.mp a.nd
  have nD : ∀ b ∈ qs ++ F, b ∉ [D] := fun b hb => nm_cons (fun z => by
    rcases List.mem_append.mp hb with hb | hb
    · exact d1 (z ▸ hb)
    · exact a.nf D List.mem_cons_self (z ▸ hb)) nm_nil
  have nqD : q ∉ [D] := nm_cons (fun z => nq (z ▸ List.mem_cons_self)) nm_nil
  have mem : ∀ b ∈ D :: ((qs ++ [q]) ++ F), b = q ∨ b ∈ D :: (qs ++ F) := fun b hb => by
    rcases List.mem_cons.mp hb with e | hb
    · exact .inr (e ▸ List.mem_cons_self)
    · rcases List.mem_append.mp hb with hb | hb
      · rcases List.mem_append.mp hb with hb | hb
        · exact .inr (List.mem_cons_of_mem _ (List.mem_append_left _ hb))
        · exact .inl (List.mem_singleton.mp hb)
      · exact .inr (List.mem_cons_of_mem _ (List.mem_append_right _ hb))
  refine ⟨by rw [upd_same, List.map_append]; rfl, ?_, fun b hb => ?_, fun b hb => ?_, fun b hb => ?_, t.zh, ?_⟩
  · refine List.nodup_cons.mpr ⟨fun z => ?_, List.nodup_append.mpr ⟨d2, List.nodup_cons.mpr ⟨List.not_mem_nil, List.nodup_nil⟩, fun x hx y hy z => ?_⟩⟩
    · rcases List.mem_append.mp z with z | z
      · exact d1 z
      · exact nq (List.mem_singleton.mp z ▸ List.mem_cons_self)
    · rw [List.mem_singleton.mp hy] at z
      exact nq (z ▸ List.mem_cons_of_mem _ (List.mem_append_left _ hx))
  · rcases List.mem_cons.mp hb with e | hb
    · rw [e]; exact a.nf D List.mem_cons_self
    · rcases List.mem_append.mp hb with hb | hb
      · exact a.nf b (List.mem_cons_of_mem _ hb)
      · rw [List.mem_singleton.mp hb]
        exact fun z => nq (List.mem_cons_of_mem _ (List.mem_append_right _ z))
  · rcases mem b hb with e | hb
    · rw [e]; exact mq.z
    · exact a.z b hb
  · rcases mem b hb with e | hb
    · rw [e]; exact t.all mq.a
    · exact t.all (a.al b hb)
  · refine paired_snoc (paired_mem a.rows fun b rs hb g => g.tt t (nD b (List.mem_append_left _ hb)) fun w hw => nD w (List.mem_append_right _ hw)) (rq.tt t nqD fun w hw => nD w (List.mem_append_right _ hw))
theorem Y3.setRow (a : Y3 Z H D qs F rss) {i : Nat} {j : Int} {rs : List (List α)} {w : Addr} {r : List α} (hi : qs[i]? = some q) (hr : rss[i]? = some rs) (hj : 0 ≤ j ∧ j < rs.length) (mw : Mu Z H w) (rw_ : RowO Z H w r) (nw : w ∉ D :: qs)
    (k : ∀ Z' H', T [q] Z H Z' H' → Y3 Z' H' D qs (w :: F) (rss.set i (rs.set j.toNat r)) → R H') : rSetL (.ref q) (.int j) (.ref w) H R := by
  obtain ⟨rs', hr', ws, h1, h2, h3⟩ := a.at hi
  rw [hr] at hr'
  cases hr'
  have hm := List.mem_of_getElem? hi
  have mq : Mu Z H q := ⟨a.z q (List.mem_cons_of_mem _ (List.mem_append_left _ hm)), a.al q (List.mem_cons_of_mem _ (List.mem_append_left _ hm))⟩
  have t : T [q] Z H Z (upd H q (.lst ((ws.map V.ref).set j.toNat (.ref w)))) := T.set mq a.zh
  have hl := Paired.length h3
  refine ⟨q, _, j, j.toNat, rfl, rfl, h1, ixN_lt hj.1 (by rw [List.length_map]; omega), k Z _ t ?_⟩
  obtain ⟨d1, d2⟩ := List.nodup_cons.mp a.nd
  have nF : ∀ b ∈ w :: F, b ∉ [q] := fun b hb => nm_cons (fun z => by
    rcases List.mem_cons.mp hb with e | hb
    · exact nw (by rw [← e, z]; exact List.mem_cons_of_mem _ hm)
    · exact a.nf q (List.mem_cons_of_mem _ hm) (z ▸ hb)) nm_nil
  have mem : ∀ b ∈ D :: (qs ++ (w :: F)), b = w ∨ b ∈ D :: (qs ++ F) := fun b hb => by
    rcases List.mem_cons.mp hb with e | hb
    · exact .inr (e ▸ List.mem_cons_self)
    · rcases List.mem_append.mp hb with hb | hb
      · exact .inr (List.mem_cons_of_mem _ (List.mem_append_left _ hb))
      · rcases List.mem_cons.mp hb with e | hb
        · exact .inl e
        · exact .inr (List.mem_cons_of_mem _ (List.mem_append_right _ hb))
  refine ⟨t.hp (nm_cons (fun z => d1 (by rw [z]; exact hm)) nm_nil) a.own, a.nd, fun b hb z => ?_, fun b hb => ?_, fun b hb => ?_, t.zh, ?_⟩
  · rcases List.mem_cons.mp z with e | z
    · exact nw (e ▸ hb)
    · exact a.nf b hb z
  · rcases mem b hb with e | hb
    · rw [e]; exact mw.z
    · exact a.z b hb
  · rcases mem b hb with e | hb
    · rw [e]; exact t.all mw.a
    · exact t.all (a.al b hb)
  · refine RW.push' (m := fun b o n e => by rw [upd_ne n]; exact e) (F := fun b rs => RoomO Z H F b rs) (H := H) (H' := upd H q (.lst ((ws.map V.ref).set j.toNat (.ref w)))) (fun b rs nb g => ?_) a.rows d2 hi ?_
    · exact (g.tt t (nm_cons nb nm_nil) fun w hw => nF w (List.mem_cons_of_mem _ hw)).sub fun w hw => List.mem_cons_of_mem _ hw
    · refine ⟨ws.set j.toNat w, by rw [upd_same, List.map_set], fun b hb => ?_, paired_set _ (paired_mem h3 fun b r hb g => g.tt t (nF b (List.mem_cons_of_mem _ (h2 b hb)))) (rw_.tt t (nF w List.mem_cons_self))⟩
      rcases set_mem hb with hb | hb
      · rw [hb]; exact List.mem_cons_self
      · exact List.mem_cons_of_mem _ (h2 b hb)
theorem nodup_set {l : List Addr} {i : Nat} {x : Addr} (nd : l.Nodup) (h : x ∉ l) : (l.set i x).Nodup := by
  induction l generalizing i with
  | nil => exact nd
  | cons a l ih =>
    obtain ⟨d1, d2⟩ := List.nodup_cons.mp nd
    cases i with
    | zero => exact List.nodup_cons.mpr ⟨fun z => h (List.mem_cons_of_mem _ z), d2⟩
    | succ i => exact List.nodup_cons.mpr ⟨fun z => by
        rcases set_mem z with e | z
        · exact h (e ▸ List.mem_cons_self)
        · exact d1 z, ih d2 fun z => h (List.mem_cons_of_mem _ z)⟩
theorem Y3.setRoom (a : Y3 Z H D qs F rss) {i : Int} {rs : List (List α)} (hi : 0 ≤ i ∧ i < rss.length) (mq : Mu Z H q) (rq : RoomO Z H F q rs) (nq : q ∉ D :: (qs ++ F))
    (k : ∀ Z' H', T [D] Z H Z' H' → Y3 Z' H' D (qs.set i.toNat q) F (rss.set i.toNat rs) → R H') : rSetL (.ref D) (.int i) (.ref q) H R := by
  have hl := a.len
  have md : Mu Z H D := ⟨a.z D List.mem_cons_self, a.al D List.mem_cons_self⟩
  have t : T [D] Z H Z (upd H D (.lst ((qs.map V.ref).set i.toNat (.ref q)))) := T.set md a.zh
  refine ⟨D, _, i, i.toNat, rfl, rfl, a.own, ixN_lt hi.1 (by rw [List.length_map]; omega), k Z _ t ?_⟩
  obtain ⟨d1, d2⟩ := List.nodup_cons.mp a.nd
  have nD : ∀ b ∈ qs ++ F, b ∉ [D] := fun b hb => nm_cons (fun z => by
    rcases List.mem_append.mp hb with hb | hb
    · exact d1 (z ▸ hb)
    · exact a.nf D List.mem_cons_self (z ▸ hb)) nm_nil
  have nqD : q ∉ [D] := nm_cons (fun z => nq (z ▸ List.mem_cons_self)) nm_nil
  have mem : ∀ b ∈ D :: (qs.set i.toNat q ++ F), b = q ∨ b ∈ D :: (qs ++ F) := fun b hb => by
    rcases List.mem_cons.mp hb with e | hb
    · exact .inr (e ▸ List.mem_cons_self)
    · rcases List.mem_append.mp hb with hb | hb
      · rcases set_mem hb with hb | hb
        · exact .inl hb
        · exact .inr (List.mem_cons_of_mem _ (List.mem_append_left _ hb))
      · exact .inr (List.mem_cons_of_mem _ (List.mem_append_right _ hb))
  refine ⟨by rw [upd_same, List.map_set], ?_, fun b hb => ?_, fun b hb => ?_, fun b hb => ?_, t.zh, ?_⟩
  · refine List.nodup_cons.mpr ⟨fun z => ?_, nodup_set d2 fun z => nq (List.mem_cons_of_mem _ (List.mem_append_left _ z))⟩
    rcases set_mem z with z | z
    · exact nq (z ▸ List.mem_cons_self)
    · exact d1 z
  · rcases List.mem_cons.mp hb with e | hb
    · rw [e]; exact a.nf D List.mem_cons_self
    · rcases set_mem hb with hb | hb
      · rw [hb]
        exact fun z => nq (List.mem_cons_of_mem _ (List.mem_append_right _ z))
      · exact a.nf b (List.mem_cons_of_mem _ hb)
  · rcases mem b hb with e | hb
    · rw [e]; exact mq.z
    · exact a.z b hb
  · rcases mem b hb with e | hb
    · rw [e]; exact t.all mq.a
    · exact t.all (a.al b hb)
  · exact paired_set _ (paired_mem a.rows fun b rs hb g => g.tt t (nD b (List.mem_append_left _ hb)) fun w hw => nD w (List.mem_append_right _ hw)) (rq.tt t nqD fun w hw => nD w (List.mem_append_right _ hw))
/-- the first rooms, in a list of their own -/
theorem Y3.slice {lo hi : Option Int} (a : Y3 Z H D qs F rss) (k : ∀ p Z' H', H p = none → T [] Z H Z' H' → Y3 Z' H' p (cutI qs lo hi) F (cutI rss lo hi) → Q (.ref p) H') : rSlL K (.ref D) lo hi H Q := by
  refine ⟨D, _, rfl, sq_of a.own, fun p hp => ?_⟩
  have t : T [] Z H Z (upd H p (.lst (cutV (qs.map V.ref) lo hi))) := T.newM hp a.zh
  have hs := cutI_sub qs lo hi
  have np : p ∉ D :: (qs ++ F) := fun z => by
    obtain ⟨o, ho⟩ := a.al p z
    rw [hp] at ho
    cases ho
  refine k p Z _ hp t ⟨by rw [upd_same, cutV_map], ?_, fun b hb => ?_, fun b hb => ?_, fun b hb => ?_, t.zh, ?_⟩
  · exact List.nodup_cons.mpr ⟨fun z => np (List.mem_cons_of_mem _ (List.mem_append_left _ (hs.subset z))), (List.nodup_cons.mp a.nd).2.sublist hs⟩
  · rcases List.mem_cons.mp hb with e | hb
    · rw [e]; exact fun z => np (List.mem_cons_of_mem _ (List.mem_append_right _ z))
    · exact a.nf b (List.mem_cons_of_mem _ (hs.subset hb))
  · rcases List.mem_cons.mp hb with e | hb
    · rw [e]; exact Ex.back a.zh hp
    · rcases List.mem_append.mp hb with hb | hb
      · exact a.z b (List.mem_cons_of_mem _ (List.mem_append_left _ (hs.subset hb)))
      · exact a.z b (List.mem_cons_of_mem _ (List.mem_append_right _ hb))
  · rcases List.mem_cons.mp hb with e | hb
    · rw [e]; exact ⟨_, upd_same⟩
    · rcases List.mem_append.mp hb with hb | hb
      · exact t.all (a.al b (List.mem_cons_of_mem _ (List.mem_append_left _ (hs.subset hb))))
      · exact t.all (a.al b (List.mem_cons_of_mem _ (List.mem_append_right _ hb)))
  · exact paired_cut (Paired.mapP a.rows fun b rs g => g.tt t nm_nil fun _ _ => nm_nil) lo hi
/-- the first rows of a room, in a list of their own -/
theorem RoomO.slice {lo hi : Option Int} {rs : List (List α)} (a : RoomO Z H F q rs) (z : Ex Z H) (k : ∀ p Z' H', H p = none → T [] Z H Z' H' → Mu Z' H' p → RoomO Z' H' F p (cutI rs lo hi) → Q (.ref p) H') : rSlL K (.ref q) lo hi H Q := by
  obtain ⟨ws, h1, h2, h3⟩ := a
  refine ⟨q, _, rfl, sq_of h1, fun p hp => ?_⟩
  have t : T [] Z H Z (upd H p (.lst (cutV (ws.map V.ref) lo hi))) := T.newM hp z
  exact k p Z _ hp t ⟨Ex.back z hp, _, upd_same⟩ ⟨cutI ws lo hi, by rw [upd_same, cutV_map], fun w hw => h2 w ((cutI_sub _ _ _).subset hw), paired_cut (Paired.mapP h3 fun w r g => g.tt t nm_nil) lo hi⟩
end
end TR
namespace TR
open PySem L2
section
variable {K : PySem.W.Frag} {σ : L2.St} {H Z Z0 : Hp} {te : TE} {Q : VK} {g : TG} {vs : List Nat} {α : Type} [Py α]
/-- a new list of new lists: w, its things in Z0 -/
def RowF (Z0 Z : Hp) (w : Addr) (r : List α) : Prop := ∃ vs, Z w = some (.lst vs) ∧ Paired (fun v x => Ik Z0 v x) vs r
theorem c_rowsN {a : Addr} {rows : List (List α)} (zh : Ex Z H) (e0 : Ex Z0 Z) (h : Ik Z0 (.ref a) rows) (hz : rows.length ≤ 40000)
    (turn : ∀ v r, r ∈ rows → Ik Z0 v r → ∀ Z1 H1, T [] Z H Z1 H1 → ∀ A : VK, (∀ w Z3 H3, T [] Z1 H1 Z3 H3 → H1 w = none → RowF Z0 Z3 w r → A (.ref w) H3) → g v (wipe σ vs) H1 fun σ2 H2 => wipe σ2 vs = wipe σ vs ∧ te σ2 H2 A)
    (fin : ∀ (q : Addr) (ws : List Addr) Z' H', T [] Z H Z' H' → (q :: ws).Nodup → (∀ b ∈ q :: ws, H b = none) → (∀ b ∈ q :: ws, ∃ o, H' b = some o) → Z' q = some (.lst (ws.map V.ref)) → Paired (fun w r => RowF Z0 Z' w r) ws rows → Q (.ref q) H') : LcL K g tYes te vs σ (.ref a) H Q := by
  obtain ⟨b, us, e, h1, h2⟩ := h.list
  cases e
  have hl := Paired.length h2
  refine ⟨a, rfl, ⟨us, (e0.trans zh).sq (sq_of h1)⟩, lcTN (n := rows.length) (M := []) (Z := Z) (fun _ _ _ => True) (fun i (x : List α) fp y Z1 => rows[i]? = some x ∧ ∃ w, fp = [w] ∧ y = .ref w ∧ RowF Z0 Z1 w x) (fun i x fp y Z1 Z2 e r => ⟨r.1, by
    obtain ⟨w, r1, r2, us, r3, r4⟩ := r.2
    exact ⟨w, r1, r2, us, e _ _ r3, r4⟩⟩) (fun _ _ _ _ _ _ _ _ => trivial) hz zh (fun _ h => absurd h List.not_mem_nil) trivial
    (fun i Z1 H1 hi t => ⟨us, us[i]'(by omega), (e0.trans (t.z.trans t.zh)).sq (sq_of h1), List.getElem?_eq_getElem (by omega)⟩) (fun Z1 H1 t => ⟨us, (e0.trans (t.z.trans t.zh)).sq (sq_of h1), by omega⟩) (fun i hi D Z1 H1 t nD mu _ v H2 hy A hA => ?_) (fun D ys L Z' H' nD t mu f1 _ hL hY pr nd fr al => ?_)⟩
  · obtain ⟨rfl, fv⟩ := hy
    have hv := fv _ ((e0.trans (t.z.trans t.zh)).sq (sq_of h1))
    obtain ⟨x, hx, ix⟩ := itemK h2 hv
    refine turn v x (List.mem_of_getElem? hx) ix Z1 H2 t A fun w Z3 H3 t3 nw rf => hA x [w] (.ref w) Z3 H3 t3 trivial ⟨hx, w, rfl, rfl, rf⟩ (List.nodup_cons.mpr ⟨List.not_mem_nil, List.nodup_nil⟩) (fun q hq => by rw [List.mem_singleton.mp hq]; exact nw) (fun q hq => ?_)
    rw [List.mem_singleton.mp hq]
    obtain ⟨vs, r1, _⟩ := rf
    exact ⟨_, t3.zh _ _ r1⟩
  · have eL : L.map Prod.fst = rows := by
      refine List.ext_getElem? fun i => ?_
      rw [List.getElem?_map]
      by_cases c : i < L.length
      · have h1 := pr i (ys[i]'(by omega)) L[i] (List.getElem?_eq_getElem _) (List.getElem?_eq_getElem _)
        rw [List.getElem?_eq_getElem c, h1.1]
        rfl
      · rw [List.getElem?_eq_none_iff.mpr (by omega), List.getElem?_eq_none_iff.mpr (by omega)]
        rfl
    have prL : Paired (fun y q => ∃ w, q.2 = [w] ∧ y = .ref w ∧ RowF Z0 Z' w q.1) ys L := paired_of (by omega) fun i y q h1 h2 => (pr i y q h1 h2).2
    have key : ∃ ws : List Addr, ys = ws.map V.ref ∧ (L.map Prod.snd).flatten = ws ∧ Paired (fun w r => RowF Z0 Z' w r) ws (L.map Prod.fst) := by
      clear f1 hL nd fr al pr hY eL
      induction prL with
      | nil => exact ⟨[], rfl, rfl, .nil⟩
      | cons a t ih =>
        obtain ⟨ws, r1, r2, r3⟩ := ih
        obtain ⟨w, e1, e2, rf⟩ := a
        exact ⟨w :: ws, by rw [e2, r1]; rfl, by rw [List.map_cons, List.flatten_cons, e1, r2]; rfl, .cons rf r3⟩
    obtain ⟨ws, rfl, efl, prw⟩ := key
    rw [eL] at prw
    rw [efl] at nd fr al
    refine t_fzV mu t.zh f1 fun Z2 H2 t2 f2 => fin D ws Z2 H2 (t.step t2 (mm_cons (.inr nD) mm_nil)) nd (fun b hb => ?_) (fun b hb => ?_) f2 (Paired.mapP prw fun w r ⟨vs, g1, g2⟩ => ⟨vs, t2.z _ _ g1, g2⟩)
    · rcases List.mem_cons.mp hb with e | hb
      · rw [e]; exact nD
      · exact fr b hb
    · rcases List.mem_cons.mp hb with e | hb
      · rw [e]; exact ⟨_, t2.zh _ _ f2⟩
      · exact t2.all (al b hb)
/-- all of it is new -/
theorem feet_perm {β : Type} : ∀ {L : List (β × List Addr)} {qs : List Addr} {F : List (List Addr)}, Paired (fun q f => q.2 = f.1 :: f.2) L (qs.zip F) → qs.length = F.length → ((L.map Prod.snd).flatten).Perm (qs ++ F.flatten)
  | [], [], [], _, _ => .refl _
  | [], _ :: _, [], _, e => by cases e
  | [], _ :: _, _ :: _, h, _ => by cases h
  | q :: L, a :: qs, f :: F, .cons h t, e => by
    have ih := feet_perm (L := L) (qs := qs) (F := F) t (by simpa using e)
    rw [List.map_cons, List.flatten_cons, h, List.flatten_cons]
    show (a :: (f ++ (L.map Prod.snd).flatten)).Perm (a :: (qs ++ (f ++ F.flatten)))
    refine .cons a ((List.Perm.append_left f ih).trans ?_)
    rw [← List.append_assoc, ← List.append_assoc]
    exact List.Perm.append_right _ List.perm_append_comm
theorem c_roomsN {a : Addr} {rss : List (List (List α))} (zh : Ex Z H) (e0 : Ex Z0 Z) (h : Ik Z0 (.ref a) rss) (hz : rss.length ≤ 40000)
    (turn : ∀ v rs, rs ∈ rss → Ik Z0 v rs → ∀ Z1 H1, T [] Z H Z1 H1 → ∀ A : VK, (∀ (q : Addr) (ws : List Addr) Z3 H3, T [] Z1 H1 Z3 H3 → (q :: ws).Nodup → (∀ b ∈ q :: ws, H1 b = none) → (∀ b ∈ q :: ws, ∃ o, H3 b = some o) → Z3 q = some (.lst (ws.map V.ref)) → Paired (fun w r => RowF Z0 Z3 w r) ws rs → A (.ref q) H3) →
      g v (wipe σ vs) H1 fun σ2 H2 => wipe σ2 vs = wipe σ vs ∧ te σ2 H2 A)
    (fin : ∀ (D : Addr) (qs F : List Addr) Z' H', T [] Z H Z' H' → Y3 Z' H' D qs F rss → (∀ b ∈ D :: (qs ++ F), H b = none) → Q (.ref D) H') : LcL K g tYes te vs σ (.ref a) H Q := by
  obtain ⟨b, us, e, h1, h2⟩ := h.list
  cases e
  have hl := Paired.length h2
  refine ⟨a, rfl, ⟨us, (e0.trans zh).sq (sq_of h1)⟩, lcTN (n := rss.length) (M := []) (Z := Z) (fun _ _ _ => True) (fun i (x : List (List α)) fp y Z1 => rss[i]? = some x ∧ ∃ q ws, fp = q :: ws ∧ y = .ref q ∧ Z1 q = some (.lst (ws.map V.ref)) ∧ Paired (fun w r => RowF Z0 Z1 w r) ws x) (fun i x fp y Z1 Z2 e r => ⟨r.1, by
    obtain ⟨q, ws, r1, r2, r3, r4⟩ := r.2
    exact ⟨q, ws, r1, r2, e _ _ r3, Paired.mapP r4 fun w r ⟨vs, g1, g2⟩ => ⟨vs, e _ _ g1, g2⟩⟩⟩) (fun _ _ _ _ _ _ _ _ => trivial) hz zh (fun _ h => absurd h List.not_mem_nil) trivial
    (fun i Z1 H1 hi t => ⟨us, us[i]'(by omega), (e0.trans (t.z.trans t.zh)).sq (sq_of h1), List.getElem?_eq_getElem (by omega)⟩) (fun Z1 H1 t => ⟨us, (e0.trans (t.z.trans t.zh)).sq (sq_of h1), by omega⟩) (fun i hi D Z1 H1 t nD mu _ v H2 hy A hA => ?_) (fun D ys L Z' H' nD t mu f1 _ hL hY pr nd fr al => ?_)⟩
  · obtain ⟨rfl, fv⟩ := hy
    have hv := fv _ ((e0.trans (t.z.trans t.zh)).sq (sq_of h1))
    obtain ⟨x, hx, ix⟩ := itemK h2 hv
    exact turn v x (List.mem_of_getElem? hx) ix Z1 H2 t A fun q ws Z3 H3 t3 nd3 fr3 al3 f3 p3 => hA x (q :: ws) (.ref q) Z3 H3 t3 trivial ⟨hx, q, ws, rfl, rfl, f3, p3⟩ nd3 fr3 al3
  · have eL : L.map Prod.fst = rss := by
      refine List.ext_getElem? fun i => ?_
      rw [List.getElem?_map]
      by_cases c : i < L.length
      · have h1 := pr i (ys[i]'(by omega)) L[i] (List.getElem?_eq_getElem _) (List.getElem?_eq_getElem _)
        rw [List.getElem?_eq_getElem c, h1.1]
        rfl
      · rw [List.getElem?_eq_none_iff.mpr (by omega), List.getElem?_eq_none_iff.mpr (by omega)]
        rfl
    have prL : Paired (fun y q => ∃ a ws, q.2 = a :: ws ∧ y = V.ref a ∧ Z' a = some (.lst (ws.map V.ref)) ∧ Paired (fun w r => RowF Z0 Z' w r) ws q.1) ys L := paired_of (by omega) fun i y q h1 h2 => (pr i y q h1 h2).2
    have key : ∃ (qs : List Addr) (F : List (List Addr)), qs.length = F.length ∧ ys = qs.map V.ref ∧ Paired (fun q f => q.2 = f.1 :: f.2) L (qs.zip F) ∧ Paired (fun f r => Z' f.1 = some (.lst (f.2.map V.ref)) ∧ Paired (fun w r => RowF Z0 Z' w r) f.2 r) (qs.zip F) (L.map Prod.fst) := by
      clear f1 hL nd fr al pr hY eL
      induction prL with
      | nil => exact ⟨[], [], rfl, rfl, .nil, .nil⟩
      | cons a t ih =>
        obtain ⟨qs, F, r0, r1, r2, r3⟩ := ih
        obtain ⟨a, ws, e1, e2, e3, e4⟩ := a
        exact ⟨a :: qs, ws :: F, by rw [List.length_cons, r0]; rfl, by rw [e2, r1]; rfl, .cons e1 r2, .cons ⟨e3, e4⟩ r3⟩
    obtain ⟨qs, F, hqF, rfl, pL, pR⟩ := key
    have pm := feet_perm pL hqF
    rw [eL] at pR
    obtain ⟨dD, nd2⟩ := List.nodup_cons.mp nd
    have nd3 := pm.nodup nd2
    have memF : ∀ b ∈ qs ++ F.flatten, b ∈ (L.map Prod.snd).flatten := fun b hb => pm.mem_iff.mpr hb
    have fr' : ∀ b ∈ qs ++ F.flatten, H b = none := fun b hb => fr b (memF b hb)
    have t2 := t.unfz zh fr'
    have e0' : Ex Z0 (offH Z' (qs ++ F.flatten)) := e0.trans t2.z
    refine fin D qs F.flatten _ H' t2 ⟨f1, ?_, fun q hq z => ?_, fun q hq => ?_, fun q hq => ?_, t2.zh, ?_⟩ fun q hq => ?_
    · exact List.nodup_cons.mpr ⟨fun z => dD (memF D (List.mem_append_left _ z)), (List.nodup_append.mp nd3).1⟩
    · rcases List.mem_cons.mp hq with e | hq
      · exact dD (memF D (List.mem_append_right _ (e ▸ z)))
      · exact (List.nodup_append.mp nd3).2.2 q hq q z rfl
    · rcases List.mem_cons.mp hq with e | hq
      · rw [e, off_some fun z => dD (memF D z)]
        exact mu.z
      · exact off_none hq
    · rcases List.mem_cons.mp hq with e | hq
      · rw [e]; exact mu.a
      · exact al q (memF q hq)
    · have zh' := t.zh
      have e0'' := e0'
      revert e0''
      generalize offH Z' (qs ++ F.flatten) = Z2
      intro e2
      have sub : ∀ f ∈ F, ∀ w ∈ f, w ∈ F.flatten := fun f hf w hw => List.mem_flatten.mpr ⟨f, hf, hw⟩
      generalize F.flatten = G at sub
      clear f1 pL pm nd3 memF fr' t2 e0' eL prL pr nd dD nd2 fr al h1 h2 hl
      clear h hz turn fin hL hY
      induction qs generalizing F rss with
      | nil => cases pR; exact .nil
      | cons q qs ih =>
        cases F with
        | nil => cases hqF
        | cons f F =>
          cases pR with
          | cons a t3 =>
            refine .cons ⟨f, zh' _ _ a.1, sub f List.mem_cons_self, Paired.mapP a.2 fun w r ⟨vs, g1, g2⟩ => ⟨vs, zh' _ _ g1, Paired.mapP g2 fun v x g => Ik.ex e2 g⟩⟩ (ih (F := F) (by simpa using hqF) t3 fun f' hf' => sub f' (List.mem_cons_of_mem _ hf'))
    · rcases List.mem_cons.mp hq with e | hq
      · rw [e]; exact nD
      · exact fr' q hq
end
end TR

namespace TR
open PySem L2
/-- rooms of rows that an asker spoils: only the shape is known -/
structure Sh (Z H : Hp) (D : Addr) (qs F : List Addr) (n B : Nat) : Prop where
  own : H D = some (.lst (qs.map V.ref))
  nd : D ∉ qs
  nf : ∀ q ∈ D :: qs, q ∉ F
  z : ∀ q ∈ D :: (qs ++ F), Z q = none
  zh : Ex Z H
  rooms : ∀ q ∈ qs, ∃ ws : List Addr, H q = some (.lst (ws.map V.ref)) ∧ ws.length ≤ n ∧ ∀ w ∈ ws, w ∈ F
  rows : ∀ w ∈ F, ∃ vs, H w = some (.lst vs) ∧ vs.length ≤ B
section
variable {Z H Z' H' : Hp} {D q w e : Addr} {M qs F : List Addr} {n B : Nat} {Q : VK} {v : V}
theorem Sh.al (s : Sh Z H D qs F n B) : ∀ b ∈ D :: (qs ++ F), ∃ o, H b = some o := fun b hb => by
  rcases List.mem_cons.mp hb with h | hb
  · rw [h]; exact ⟨_, s.own⟩
  · rcases List.mem_append.mp hb with hb | hb
    · obtain ⟨ws, h, _⟩ := s.rooms b hb
      exact ⟨_, h⟩
    · obtain ⟨vs, h, _⟩ := s.rows b hb
      exact ⟨_, h⟩
theorem Sh.tt (t : T M Z H Z' H') (hM : ∀ b ∈ D :: (qs ++ F), b ∉ M) (s : Sh Z H D qs F n B) : Sh Z' H' D qs F n B :=
  ⟨t.hp (hM D List.mem_cons_self) s.own, s.nd, s.nf, fun b hb => t.fr b (hM b hb) (s.z b hb) (s.al b hb), t.zh, fun q hq => by
    obtain ⟨ws, h1, h2⟩ := s.rooms q hq
    exact ⟨ws, t.hp (hM q (List.mem_cons_of_mem _ (List.mem_append_left _ hq))) h1, h2⟩, fun w hw => by
    obtain ⟨vs, h1, h2⟩ := s.rows w hw
    exact ⟨vs, t.hp (hM w (List.mem_cons_of_mem _ (List.mem_append_right _ hw))) h1, h2⟩⟩
theorem Sh.tt0 (t : T [] Z H Z' H') (s : Sh Z H D qs F n B) : Sh Z' H' D qs F n B := s.tt t fun _ _ => nm_nil
theorem Sh.mono {n' B' : Nat} (s : Sh Z H D qs F n B) (hn : n ≤ n') (hB : B ≤ B') : Sh Z H D qs F n' B' :=
  ⟨s.own, s.nd, s.nf, s.z, s.zh, fun q hq => by
    obtain ⟨ws, h1, h2, h3⟩ := s.rooms q hq
    exact ⟨ws, h1, Nat.le_trans h2 hn, h3⟩, fun w hw => by
    obtain ⟨vs, h1, h2⟩ := s.rows w hw
    exact ⟨vs, h1, Nat.le_trans h2 hB⟩⟩
variable {α : Type} [Py α] {rss : List (List (List α))}
end
end TR
namespace TR
open PySem L2
section
variable {K : PySem.W.Frag} {Z H : Hp} {D q w : Addr} {qs F : List Addr} {n B : Nat} {Q : VK} {v : V}
theorem Sh.not (s : Sh Z H D qs F n B) (h : H q = none) : q ∉ D :: (qs ++ F) := fun z => by
  obtain ⟨o, ho⟩ := s.al q z
  rw [h] at ho
  cases ho
theorem Y3.yard {p : Addr} {y : Yard} (a : Y3 Z H D qs F y.c) (f : H p = some (.tup [.int y.a, .int y.b, .ref D])) : Ik H (.ref p) y := Ik.three f (Ik.int _) (Ik.int _) a.is
end
end TR

/-! steps as data -/
namespace TR
open PySem L2
inductive Stp where
  | rooms (m : Int)
  | cut (r m : Int)
  | row (r a : Int) (w : Row)
  deriving DecidableEq
def stpD : Stp → PyData
  | .rooms m => .tuple [.str "rooms", .int m]
  | .cut r m => .tuple [.str "cut", .int r, .int m]
  | .row r a w => .tuple [.str "row", .int r, .int a, Py.d w]
instance : Py Stp := ⟨stpD, 4, fun s => by
    cases s with
    | rooms m => simp [stpD, PyData.depth, PyData.depthAll]
    | cut r m => simp [stpD, PyData.depth, PyData.depthAll]
    | row r a w =>
      have h : (Py.d w).depth ≤ 3 := Nat.le_trans (Py.depth w) (by decide)
      simp [stpD, PyData.depth, PyData.depthAll]
      omega, fun s => by
    have h1 : PyData.strOk "rooms" = true := by decide +kernel
    have h2 : PyData.strOk "cut" = true := by decide +kernel
    have h3 : PyData.strOk "row" = true := by decide +kernel
    cases s <;> simp [stpD, PyData.canLay0, PyData.canLayAll0, Py.can, h1, h2, h3], fun a b => by
    have hr : ("rooms" : Str) ≠ "cut" := by decide
    have hs : ("cut" : Str) ≠ "rooms" := by decide
    cases a <;> cases b <;> simp [stpD, PyData.eqv, PyData.eqvAll, Py.eqv, hr, hs]⟩
section
variable {K : PySem.W.Frag} {H : Hp} {v : V} {p b : Addr} {r m a : Int} {w : Row}
theorem Ik.cut_of (h : Ik H v (Stp.cut r m)) : ∃ p, v = .ref p ∧ H p = some (.tup [.str "cut", .int r, .int m]) := by
  have h' : Dt H v (.tuple [.str "cut", .int r, .int m]) := h
  cases h' with
  | tup s a =>
    cases a with
    | cons h1 r => cases r with
      | cons h2 r => cases r with
        | cons h3 r => cases r; cases h1; cases h2; cases h3; exact ⟨_, rfl, s⟩
end
/-! what a step does -/
/-- so many things at least -/
def padTo {α : Type} (n : Nat) (d : α) (l : List α) : List α := l ++ List.replicate (n - l.length) d
theorem padTo_len {α : Type} {n : Nat} {d : α} {l : List α} : (padTo n d l).length = max n l.length := by
  unfold padTo
  rw [List.length_append, List.length_replicate]
  omega
def withRow (rss : List (List Row)) (room at_ : Int) (row : Row) : List (List Row) :=
  let p := padTo (room.toNat + 1) [] rss
  p.set room.toNat ((padTo (at_.toNat + 1) [] (p.getD room.toNat [])).set at_.toNat row)
/-- the last rooms without rows go -/
def trimR (rss : List (List Row)) : List (List Row) := (rss.reverse.dropWhile fun rs => decide (rs = [])).reverse
def doneY (y : Yard) : Stp → Yard
  | .rooms m => ⟨y.a, m, trimR y.c⟩
  | .cut r m => ⟨y.a, y.b, trimR (if r < y.c.length then y.c.set r.toNat ((y.c.getD r.toNat []).take m.toNat) else y.c)⟩
  | .row r a w => ⟨y.a, y.b, trimR (withRow y.c r a w)⟩
end TR
namespace TR
open PySem L2
section
variable {K : PySem.W.Frag} {M F : List Addr} {Z H Z1 H1 Z' H' : Hp} {D q a : Addr} {qs : List Addr} {α : Type} [Py α] {rss : List (List (List α))} {Q : VK}
theorem Y3.not (y : Y3 Z H D qs F rss) (n : H q = none) : q ∉ D :: (qs ++ F) := fun z => by
  obtain ⟨o, ho⟩ := y.al q z
  rw [n] at ho
  cases ho
theorem mm_1 {N : List Addr} {H : Hp} {y : Addr} (h : y ∈ N ∨ H y = none) : ∀ x ∈ [y], x ∈ N ∨ H x = none := mm_cons h mm_nil
end
end TR
namespace TR
open PySem L2
abbrev YLen (y : Yard) : Prop := y.c.length ≤ 10000 ∧ ∀ rs ∈ y.c, rs.length ≤ 10000
def StpOk : Stp → Prop
  | .rooms _ => True
  | .cut r m => 0 ≤ r ∧ 0 ≤ m
  | .row r a _ => 0 ≤ r ∧ r ≤ 1000 ∧ 0 ≤ a ∧ a ≤ 9000
end TR
namespace TR
open PySem L2
def StpB : Stp → Prop
  | .rooms _ => True
  | .cut r m => 0 ≤ r ∧ 0 ≤ m
  | .row r a w => 0 ≤ r ∧ r < 131 ∧ 0 ≤ a ∧ a < 131 ∧ w.length ≤ 8
theorem StpB.ok : ∀ {s : Stp}, StpB s → StpOk s
  | .rooms _, _ => trivial
  | .cut _ _, h => h
  | .row _ _ _, h => ⟨h.1, by have := h.2.1; omega, h.2.2.1, by have := h.2.2.2.1; omega⟩
end TR

namespace TR
/-- the rows that a room of so many keys takes -/
def rowsI (m w : Int) : Int := max 1 ((m + w - 1) / w)
def spillI (l : List Int) (w : Int) : Int := (l.map fun m => rowsI m w - 1).sum
end TR
namespace TR
end TR
namespace TR
/-- the rows of keys: sorted, cut -/
def cutR (l : List Int) (w : Int) (k : Nat) : List Int := cutI (sortI l) (some ((k : Int) * w)) (some ((k : Int) * w + w))
def rowsOf (l : List Int) (w : Int) : List (List Int) := (List.range (rowsI l.length w).toNat).map (cutR l w)
end TR
namespace TR
end TR
namespace TR
def lastGe (r : List Int) (key : Int) : Bool := match r.getLast? with | some v => decide (key ≤ v) | none => false
/-- what a look through rows finds: there, looks -/
def lookedI : List (List Int) → Int → Nat → Bool × Int
  | [], _, n => (false, (n : Int))
  | r :: rs, key, n => if lastGe r key = true then (decide (key ∈ r), (n : Int) + 1) else lookedI rs key (n + 1)
end TR
namespace TR
/-- how many are less -/
def less (l : List Int) (key : Int) : Nat := (l.filter fun x => decide (x < key)).length
end TR

/-! powers of two, levels, rooms -/
namespace TR
theorem two_pos (k : Nat) : (1 : Int) ≤ 2 ^ k := by
  have h : (1 : Nat) ≤ 2 ^ k := Nat.one_le_two_pow
  have e : ((2 ^ k : Nat) : Int) = (2 : Int) ^ k := by rw [Int.natCast_pow]; rfl
  omega
theorem two_succ (k : Nat) : (2 : Int) ^ (k + 1) = 2 * 2 ^ k := by rw [Int.pow_succ, Int.mul_comm]
theorem two_mono {a b : Nat} (h : a ≤ b) : (2 : Int) ^ a ≤ 2 ^ b := by
  have h1 : (2 : Nat) ^ a ≤ 2 ^ b := Nat.pow_le_pow_right (by decide) h
  have e1 : ((2 ^ a : Nat) : Int) = (2 : Int) ^ a := by rw [Int.natCast_pow]; rfl
  have e2 : ((2 ^ b : Nat) : Int) = (2 : Int) ^ b := by rw [Int.natCast_pow]; rfl
  omega
theorem two_lt {a b : Nat} (h : (2 : Int) ^ a < 2 ^ b) : a < b := by
  apply Decidable.byContradiction
  intro n
  have := two_mono (show b ≤ a by omega)
  omega
def lev (r : Int) : Nat := Nat.log2 r.toNat
def whole (r : Int) : Int := 2 ^ lev r
theorem whole_spec {r : Int} (h : 1 ≤ r) : 1 ≤ whole r ∧ whole r ≤ r ∧ r < 2 * whole r := by
  have h0 : r.toNat ≠ 0 := by omega
  have h1 := Nat.log2_self_le h0
  have h2 := Nat.lt_log2_self (n := r.toNat)
  have e1 : ((2 ^ Nat.log2 r.toNat : Nat) : Int) = whole r := by
    unfold whole lev
    rw [Int.natCast_pow]
    rfl
  have e2 : ((2 ^ (Nat.log2 r.toNat + 1) : Nat) : Int) = 2 * whole r := by
    rw [Nat.pow_succ, Int.natCast_mul, e1]
    omega
  have := two_pos (lev r)
  unfold whole at *
  omega
theorem lev_unique {r : Int} {k : Nat} (h1 : (2 : Int) ^ k ≤ r) (h2 : r < 2 * 2 ^ k) : lev r = k := by
  have hr : 1 ≤ r := by have := two_pos k; omega
  obtain ⟨a, b, c⟩ := whole_spec hr
  unfold whole at *
  rw [← two_succ] at c h2
  have l1 : k < lev r + 1 := two_lt (by omega)
  have l2 : lev r < k + 1 := two_lt (by omega)
  omega
theorem whole_unique {r : Int} {k : Nat} (h1 : (2 : Int) ^ k ≤ r) (h2 : r < 2 * 2 ^ k) : whole r = 2 ^ k := by
  unfold whole
  rw [lev_unique h1 h2]
def roomOf (key rooms : Int) : Int := if key % whole rooms < rooms - whole rooms then key % (2 * whole rooms) else key % whole rooms
theorem mod2 (x : Int) {w : Int} (h : 0 < w) : x % (2 * w) = x % w ∨ x % (2 * w) = x % w + w := by
  have e : x % (2 * w) % w = x % w := Int.emod_emod_of_dvd x ⟨2, Int.mul_comm 2 w⟩
  have l1 := Int.emod_nonneg x (show 2 * w ≠ 0 by omega)
  have l2 := Int.emod_lt_of_pos x (show 0 < 2 * w by omega)
  generalize x % (2 * w) = r at *
  by_cases h2 : r < w
  · left
    rw [← e, Int.emod_eq_of_lt l1 h2]
  · right
    have e2 : (r - w + w) % w = (r - w) % w := by rw [Int.add_emod_right]
    rw [Int.sub_add_cancel, Int.emod_eq_of_lt (show 0 ≤ r - w by omega) (by omega)] at e2
    omega
theorem roomOf_range {key rooms : Int} (h : 1 ≤ rooms) : 0 ≤ roomOf key rooms ∧ roomOf key rooms < rooms := by
  obtain ⟨a, b, c⟩ := whole_spec h
  have l1 := Int.emod_nonneg key (show whole rooms ≠ 0 by omega)
  have l2 := Int.emod_lt_of_pos key (show 0 < whole rooms by omega)
  have l3 := Int.emod_nonneg key (show 2 * whole rooms ≠ 0 by omega)
  have m := mod2 key (show 0 < whole rooms by omega)
  unfold roomOf
  split <;> omega
end TR
/-! bits, and keys turned about -/
namespace TR
def bit (x : Int) (k : Nat) : Int := x / 2 ^ k % 2
def rev : Nat → Int → Int
  | 0, _ => 0
  | n + 1, x => rev n x * 2 + bit x n
theorem mod_two (x : Int) {w : Int} (h : 0 < w) : x % (2 * w) = x % w + w * (x / w % 2) := by
  have e1 := Int.mul_ediv_add_emod x w
  have l1 := Int.emod_nonneg x (Int.ne_of_gt h)
  have l2 := Int.emod_lt_of_pos x h
  have e2 : x / w = 2 * (x / w / 2) + x / w % 2 := by omega
  have e3 : x = x % w + w * (x / w % 2) + 2 * w * (x / w / 2) := by
    have : w * (x / w) = w * (2 * (x / w / 2)) + w * (x / w % 2) := by rw [← Int.mul_add, ← e2]
    have : w * (2 * (x / w / 2)) = 2 * w * (x / w / 2) := by rw [← Int.mul_assoc, Int.mul_comm w 2]
    omega
  have b : x / w % 2 = 0 ∨ x / w % 2 = 1 := by omega
  have e4 : (x % w + w * (x / w % 2) + 2 * w * (x / w / 2)) % (2 * w) = (x % w + w * (x / w % 2)) % (2 * w) := Int.add_mul_emod_self_left _ _ _
  rw [← e3] at e4
  rw [e4]
  refine Int.emod_eq_of_lt ?_ ?_
  · rcases b with b | b <;> rw [b] <;> omega
  · rcases b with b | b <;> rw [b] <;> omega
/-- the first bit in which two differ -/
def Dif (x y : Int) (d : Nat) : Prop := (∀ k, k < d → bit x k = bit y k) ∧ bit x d ≠ bit y d
theorem Dif.symm {x y : Int} {d : Nat} (h : Dif x y d) : Dif y x d := ⟨fun k hk => (h.1 k hk).symm, fun e => h.2 e.symm⟩
def partedAt (x y : Int) (d : Nat) : Int := 1 + max (x % 2 ^ (d + 1)) (y % 2 ^ (d + 1))
end TR
namespace TR
end TR
namespace TR
end TR

namespace TR
def thingOf (r : Row) (key : Int) : Option Tx := ((r.filter fun e => decide (e.1 = key)).map Prod.snd)[0]?
def foundR : List Row → Int → Nat → Option Tx × Int
  | [], _, m => (none, (m : Int))
  | r :: rs, key, m => if lastGe (r.map Prod.fst) key = true then (thingOf r key, ((m + 1 : Nat) : Int)) else foundR rs key (m + 1)
def foundI (y : Yard) (key : Int) : Option Tx × Int := match y.c[(roomOf key y.b).toNat]? with
  | none => (none, 0)
  | some rows => foundR rows key 0
end TR

/-! rows of rising entries, clean yards -/
namespace TR
open PySem L2
theorem drop_lt {α : Type} {l : List α} {w : Nat} (h : ¬ (w = 0 ∨ l.length ≤ w)) : (l.drop w).length < l.length := by
  rw [List.length_drop]
  omega
def cutE (w : Nat) (l : Row) : List Row := if h : w = 0 ∨ l.length ≤ w then [l] else l.take w :: cutE w (l.drop w)
termination_by l.length
decreasing_by exact drop_lt h
theorem cutE_small {w : Nat} {l : Row} (h : l.length ≤ w) : cutE w l = [l] := by
  rw [cutE, dif_pos (.inr h)]
theorem cutE_big {w : Nat} {l : Row} (hw : 0 < w) (h : w < l.length) : cutE w l = l.take w :: cutE w (l.drop w) := by
  rw [cutE, dif_neg (by omega)]
theorem cutE_ne {w : Nat} {l : Row} : cutE w l ≠ [] := by
  rw [cutE]
  by_cases h : w = 0 ∨ l.length ≤ w
  · rw [dif_pos h]; exact List.cons_ne_nil _ _
  · rw [dif_neg h]; exact List.cons_ne_nil _ _
theorem cutE_drop {w : Nat} (hw : 0 < w) : ∀ (m : Nat) (l : Row), ((cutE w l).drop m).flatten = l.drop (m * w)
  | 0, l => by
    rw [Nat.zero_mul, List.drop_zero, List.drop_zero]
    generalize hn : l.length = n
    induction n using Nat.strongRecOn generalizing l with
    | ind n ih =>
      by_cases h : l.length ≤ w
      · rw [cutE_small h]; simp
      · rw [cutE_big hw (by omega), List.flatten_cons, ih (l.drop w).length (by rw [List.length_drop]; omega) (l.drop w) rfl, List.take_append_drop]
  | m + 1, l => by
    by_cases h : l.length ≤ w
    · rw [cutE_small h, List.drop_succ_cons, List.drop_nil, List.flatten_nil, List.drop_of_length_le]
      have : w ≤ (m + 1) * w := Nat.le_mul_of_pos_left w (Nat.succ_pos m)
      omega
    · rw [cutE_big hw (by omega), List.drop_succ_cons, cutE_drop hw m, List.drop_drop]
      congr 1
      rw [Nat.succ_mul, Nat.add_comm]
theorem cutE_flat {w : Nat} (hw : 0 < w) (l : Row) : (cutE w l).flatten = l := by
  have := cutE_drop hw 0 l
  simpa using this
/-- a look through rows that rise all the way -/
abbrev Rises (l : Row) : Prop := (l.map Prod.fst).Pairwise (· < ·)
theorem Rises.sub {l l' : Row} (h : Rises l) (s : l'.Sublist l) : Rises l' := List.Pairwise.sublist (s.map _) h
def fnd (R : List Row) (k : Int) : Option Tx := (foundR R k 0).1
theorem Rises.nodup {l : Row} (h : Rises l) : (l.map Prod.fst).Nodup := h.imp fun h => by omega
end TR

namespace TR
open PySem L2
/-! ### rooms that are rewritten -/
def putR (c : List (List Row)) (R : Nat) (X : List Row) : List (List Row) := (padTo (R + 1) [] c).set R X
def NE (c : List (List Row)) : Prop := ∀ rs ∈ c, rs ≠ []
theorem putR_len {c : List (List Row)} {R : Nat} {X : List Row} : (putR c R X).length = max (R + 1) c.length := by
  unfold putR
  rw [List.length_set, padTo_len]
theorem putR_self {c : List (List Row)} {R : Nat} {X : List Row} : (putR c R X)[R]? = some X := by
  unfold putR
  rw [List.getElem?_set_self (by rw [padTo_len]; omega)]
theorem putR_ne {c : List (List Row)} {R i : Nat} {X : List Row} (h : i ≠ R) (hi : i < c.length) : (putR c R X)[i]? = c[i]? := by
  unfold putR
  rw [List.getElem?_set_ne (Ne.symm h)]
  unfold padTo
  rw [List.getElem?_append_left hi]
theorem putR_out {c : List (List Row)} {R i : Nat} {X : List Row} (hR : R ≤ c.length) (h : i ≠ R) (hi : ¬ i < c.length) : (putR c R X)[i]? = none := by
  rw [List.getElem?_eq_none_iff, putR_len]
  omega
theorem NE.put {c : List (List Row)} {R : Nat} {X : List Row} (h : NE c) (hR : R ≤ c.length) (hX : X ≠ []) : NE (putR c R X) := fun rs hr => by
  obtain ⟨i, hi⟩ := List.mem_iff_getElem?.mp hr
  by_cases e : i = R
  · rw [e, putR_self] at hi
    rw [← Option.some.inj hi]; exact hX
  · by_cases l : i < c.length
    · rw [putR_ne e l] at hi
      exact h rs (List.mem_of_getElem? hi)
    · rw [putR_out hR e l] at hi
      cases hi
/-! ### the rows that aren't what stands there -/
def writF (R : Nat) (now : List Row) : Nat → List Row → List Stp
  | _, [] => []
  | i, r :: rs => if now[i]? = some r then writF R now (i + 1) rs else .row (R : Int) (i : Int) r :: writF R now (i + 1) rs
def writ (R : Nat) (rows now : List Row) : List Stp := writF R now 0 rows
def onw (R : Nat) (rows now : List Row) : List Stp := writ R rows now ++ (if rows.length < now.length then [.cut (R : Int) (rows.length : Int)] else [])
def backw (R : Nat) (rows now : List Row) : List Stp := (writ R rows now).reverse
end TR

namespace TR
open PySem L2
/-- from the last on: behind any of these steps the first rows are as they were, then rows without entries, then the new ones -/
def backS (rows now : List Row) (m : Nat) : List Row := now.take m ++ List.replicate (m - now.length) [] ++ rows.drop m
end TR

/-! yards amid a change -/
namespace TR
open PySem L2
def partE (r : Int) (es : Row) (i : Nat) : Row := sortE (es.filter fun e => decide (roomOf e.1 r = (i : Int)))
def cleanC (w : Nat) (r : Int) (es : Row) : List (List Row) := (List.range r.toNat).map fun i => cutE w (partE r es i)
def cleanY (w r : Int) (es : Row) : Yard := ⟨w, r, cleanC w.toNat r es⟩
def fY (y : Yard) (k : Int) : Option Tx := (foundI y k).1
/-- no key twice -/
abbrev Keys1 (es : Row) : Prop := (es.map Prod.fst).Nodup
theorem Keys1.one {es : Row} (h : Keys1 es) : OneK es := fun x hx y hy e => by
  obtain ⟨i, hi⟩ := List.mem_iff_getElem?.mp hx
  obtain ⟨j, hj⟩ := List.mem_iff_getElem?.mp hy
  have il := (List.getElem?_eq_some_iff.mp hi).1
  have h1 : (es.map Prod.fst)[i]? = some x.1 := by rw [List.getElem?_map, hi]; rfl
  have h2 : (es.map Prod.fst)[j]? = some x.1 := by rw [List.getElem?_map, hj, e]; rfl
  have := (List.getElem?_inj (by rw [List.length_map]; exact il) h).mp (h1.trans h2.symm)
  rw [this, hj] at hi
  rw [Option.some.inj hi]
theorem Keys1.sub {es l : Row} (h : Keys1 es) (s : l.Sublist es) : Keys1 l := List.Nodup.sublist (s.map _) h
theorem Keys1.filter {es : Row} (h : Keys1 es) (p : Ent → Bool) : Keys1 (es.filter p) := h.sub List.filter_sublist
theorem Keys1.perm {es l : Row} (h : Keys1 es) (p : l.Perm es) : Keys1 l := (p.map _).symm.nodup h
theorem Rises.sorted {l : Row} (h : Rises l) : sortE l = l := by
  refine (sortE_of (Keys1.one h.nodup) (.refl _) ?_).symm
  exact (List.pairwise_map.mp h).imp fun h => by omega
theorem sortE_mem {l : Row} {e : Ent} : e ∈ sortE l ↔ e ∈ l := (sortE_perm l).mem_iff
theorem partE_mem {r : Int} {es : Row} {i : Nat} {e : Ent} : e ∈ partE r es i ↔ e ∈ es ∧ roomOf e.1 r = (i : Int) := by
  unfold partE
  rw [sortE_mem, List.mem_filter, decide_eq_true_iff]
theorem cleanC_len {w : Nat} {r : Int} {es : Row} : (cleanC w r es).length = r.toNat := by
  unfold cleanC
  rw [List.length_map, List.length_range]
theorem cleanC_at {w : Nat} {r : Int} {es : Row} {i : Nat} (h : i < r.toNat) : (cleanC w r es)[i]? = some (cutE w (partE r es i)) := by
  unfold cleanC
  rw [List.getElem?_map, List.getElem?_range h]
  rfl
/-- a room that tells its keys rightly -/
def RoomG (es : Row) (b : Int) (i : Nat) (X : List Row) : Prop := (∀ e ∈ es, roomOf e.1 b = (i : Int) → fnd X e.1 = some e.2) ∧ ∀ r ∈ X, ∀ x ∈ r, x ∈ es
/-- all keys are found with their things, no others are -/
def GoodF (es : Row) (y : Yard) : Prop := (∀ e ∈ es, fY y e.1 = some e.2) ∧ ∀ k, k ∉ es.map Prod.fst → fY y k = none
theorem cutE_len {w : Nat} (hw : 0 < w) (l : Row) : (cutE w l).length = (l.length - 1) / w + 1 := by
  generalize hn : l.length = n
  induction n using Nat.strongRecOn generalizing l with
  | ind n ih =>
    by_cases h : l.length ≤ w
    · rw [cutE_small h, List.length_singleton]
      have : (n - 1) / w = 0 := Nat.div_eq_of_lt (by omega)
      omega
    · rw [cutE_big hw (by omega), List.length_cons, ih (l.drop w).length (by rw [List.length_drop]; omega) (l.drop w) rfl, List.length_drop]
      have : (n - 1) / w = (l.length - w - 1) / w + 1 := by
        rw [show n - 1 = (l.length - w - 1) + w by omega, Nat.add_div_right _ hw]
      omega
/-! ### splitting -/
def splitRoom (r : Int) : Nat := (r - whole r).toNat
def splitS (y : Yard) : List Stp :=
  let R := splitRoom y.b
  let A := (y.c.getD R []).flatten
  onw y.b.toNat (cutE y.a.toNat (sortE (A.filter fun e => decide (roomOf e.1 (y.b + 1) = y.b)))) [] ++ [.rooms (y.b + 1)] ++ onw R (cutE y.a.toNat (sortE (A.filter fun e => decide (roomOf e.1 (y.b + 1) ≠ y.b)))) (y.c.getD R [])
end TR

namespace TR
open PySem L2
end TR
namespace TR
open PySem L2
/-! ### joining -/
def joinS (y : Yard) : List Stp :=
  let last := (y.b - 1).toNat
  let into := splitRoom (y.b - 1)
  backw into (cutE y.a.toNat (sortE ((y.c.getD into []).flatten ++ (y.c.getD last []).flatten))) (y.c.getD into []) ++ [.rooms (y.b - 1), .cut (last : Int) 0]
end TR

/-! T: lists of own lists, reverse, extend, ranges with a step; found -/
namespace TR
open PySem L2
section
variable {K : PySem.W.Frag} {M qs : List Addr} {Z H Z' H' : Hp} {Q : VK} {D q a b : Addr} {v : V} {α : Type} {iα : Py α} {x : α} {l r : List α}
theorem t_reverse (a : Lm Z H D l) (q : ∀ Z' H', T [D] Z H Z' H' → Lm Z' H' D l.reverse → Q .non H') : rReverse (.ref D) [] H Q := by
  have mu := a.mu
  obtain ⟨⟨vs, h1, h2⟩, h3, h4⟩ := a
  have t : T [D] Z H Z (upd H D (.lst vs.reverse)) := T.set mu h4
  exact ⟨D, vs, rfl, rfl, h1, q Z _ t ⟨⟨_, upd_same, paired_reverse h2⟩, h3, t.zh⟩⟩
theorem t_extend (a : Lm Z H D l) (b' : Li Z H b r) (hz : l.length + r.length ≤ 100000) (q : ∀ Z' H', T [D] Z H Z' H' → Lm Z' H' D (l ++ r) → Q .non H') : rExtend (.ref D) [.ref b] H Q := by
  have mu := a.mu
  obtain ⟨⟨vs, h1, h2⟩, h3, h4⟩ := a
  obtain ⟨us, g1, g2⟩ := b'
  have t : T [D] Z H Z (upd H D (.lst (vs ++ us))) := T.set mu h4
  exact ⟨D, b, vs, us, rfl, rfl, h1, g1, sz_of (by rw [Paired.length h2, Paired.length g2]; exact hz), q Z _ t ⟨⟨_, upd_same, paired_append h2 g2⟩, h3, t.zh⟩⟩
end
/-! a list of own lists -/
structure Y2 (Z H : Hp) (D : Addr) (qs : List Addr) {α : Type} [Py α] (rs : List (List α)) : Prop where
  own : H D = some (.lst (qs.map V.ref))
  nd : (D :: qs).Nodup
  z : ∀ q ∈ D :: qs, Z q = none
  zh : Ex Z H
  rows : Paired (fun q r => RowO Z H q r) qs rs
section
variable {K : PySem.W.Frag} {M qs : List Addr} {Z H Z' H' : Hp} {Q : VK} {D q : Addr} {v : V} {α : Type} {iα : Py α} {x : α} {rs : List (List α)}
theorem Y2.len (a : Y2 Z H D qs rs) : qs.length = rs.length := Paired.length a.rows
theorem Y2.at (a : Y2 Z H D qs rs) {i : Nat} (h : qs[i]? = some q) : ∃ r, rs[i]? = some r ∧ RowO Z H q r := RW.at' a.rows h
theorem Y2.al (a : Y2 Z H D qs rs) : ∀ b ∈ D :: qs, ∃ o, H b = some o := fun b hb => by
  rcases List.mem_cons.mp hb with e | hb
  · rw [e]; exact ⟨_, a.own⟩
  · obtain ⟨i, hi⟩ := List.mem_iff_getElem?.mp hb
    obtain ⟨r, _, vs, h, _⟩ := a.at hi
    exact ⟨_, h⟩
theorem Y2.tt (t : T M Z H Z' H') (n : ∀ q ∈ D :: qs, q ∉ M) (a : Y2 Z H D qs rs) : Y2 Z' H' D qs rs :=
  ⟨t.hp (n D List.mem_cons_self) a.own, a.nd, fun q hq => t.fr q (n q hq) (a.z q hq) (a.al q hq), t.zh, paired_mem a.rows fun q r hq g => g.tt t (n q (List.mem_cons_of_mem _ hq))⟩
theorem Y2.tt0 (t : T [] Z H Z' H') (a : Y2 Z H D qs rs) : Y2 Z' H' D qs rs := a.tt t fun _ _ => nm_nil
theorem Y2.ix (a : Y2 Z H D qs rs) {i : Int} (h0 : 0 ≤ i) (hq : qs[i.toNat]? = some q) (k : Q (.ref q) H) : rIx K (.ref D) (.int i) H Q :=
  s_ixL (sq_of a.own) (v := .ref q) (atI_lt h0 (by rw [List.getElem?_map, hq]; rfl)) k
/-- a thing more in one of them -/
theorem Y2.push {i : Nat} {r : List α} (a : Y2 Z H D qs rs) (hi : qs[i]? = some q) (hr : rs[i]? = some r) (hv : Ik Z v x) (hz : r.length < 100000)
    (k : ∀ Z' H', T [q] Z H Z' H' → Y2 Z' H' D qs (rs.set i (r ++ [x])) → Q .non H') : rAppend (.ref q) [v] H Q := by
  obtain ⟨r', hr', vs, h1, h2⟩ := a.at hi
  rw [hr] at hr'
  cases hr'
  have hm := List.mem_of_getElem? hi
  obtain ⟨d1, d2⟩ := List.nodup_cons.mp a.nd
  have mq : Mu Z H q := ⟨a.z q (List.mem_cons_of_mem _ hm), _, h1⟩
  have t : T [q] Z H Z (upd H q (.lst (vs ++ [v]))) := T.set mq a.zh
  refine ⟨q, vs, v, rfl, rfl, h1, sz_lt (by rw [Paired.length h2]; exact hz), k Z _ t ⟨t.hp (nm_cons (fun z => d1 (by rw [z]; exact hm)) nm_nil) a.own, a.nd, a.z, t.zh, ?_⟩⟩
  exact RW.push' (m := fun b o n e => by rw [upd_ne n]; exact e) (F := fun b r => RowO Z H b r) (H := H) (H' := upd H q (.lst (vs ++ [v]))) (fun b r nb g => g.tt t (nm_cons nb nm_nil)) a.rows d2 hi ⟨_, upd_same, Paired.snoc h2 hv⟩
theorem Y2.frq (a : Y2 Z H D qs rs) : ∃ Z' H', H' = H ∧ T (D :: qs) Z H Z' H' ∧ Ls Z' D rs := by
  have t := T.fzs (F := D :: qs) a.zh a.z
  refine ⟨_, H, rfl, t, _, (on_in List.mem_cons_self).trans a.own, ?_⟩
  have h := a.rows
  have g : ∀ b ∈ qs, onH Z H (D :: qs) b = H b := fun b hb => on_in (List.mem_cons_of_mem _ hb)
  have e := t.z
  revert g e
  generalize onH Z H (D :: qs) = Z2
  intro g e
  clear t a
  induction h with
  | nil => exact .nil
  | cons y t ih =>
    obtain ⟨vs, f1, f2⟩ := y
    exact .cons (Ik.of_list ((g _ List.mem_cons_self).trans f1) (Paired.mapP f2 fun v x g => Ik.ex e g)) (ih fun b hb => g b (List.mem_cons_of_mem _ hb))
end
section
variable {K : PySem.W.Frag} {σ : L2.St} {H Z : Hp} {tt : TT} {te : TE} {Q : VK} {g : TG} {vs : List Nat}
/-- [[] for k in range(n)] -/
theorem c_newR {α : Type} [Py α] {n : Int} (zh : Ex Z H) (hz : -40000 ≤ n ∧ n ≤ 40000)
    (turn : ∀ i : Nat, (i : Int) < n → ∀ Z1 H1, T [] Z H Z1 H1 → ∀ A : VK, (∀ q Z3 H3, T [] Z1 H1 Z3 H3 → H1 q = none → Mu Z3 H3 q → H3 q = some (.lst []) → A (.ref q) H3) → g (.int (i : Int)) (wipe σ vs) H1 fun σ2 H2 => wipe σ2 vs = wipe σ vs ∧ te σ2 H2 A)
    (fin : ∀ (D : Addr) (qs : List Addr) Z' H', T [] Z H Z' H' → Y2 Z' H' D qs (List.replicate n.toNat ([] : List α)) → (∀ b ∈ D :: qs, H b = none) → Q (.ref D) H') : LcR1 g tYes te vs σ [.int n] H Q := by
  have e62 : (2 : Int) ^ 62 = 4611686018427387904 := by decide
  refine ⟨n, rfl, by omega, by omega, lcTN (n := n.toNat) (M := []) (Z := Z) (fun _ _ _ => True) (fun i (x : Unit) fp y Z1 => ∃ q, fp = [q] ∧ y = .ref q ∧ Z1 q = some (.lst [])) (fun i x fp y Z1 Z2 e r => by
    obtain ⟨q, h1, h2, h3⟩ := r
    exact ⟨q, h1, h2, e _ _ h3⟩) (fun _ _ _ _ _ _ _ _ => trivial) (by omega) zh (fun _ h => absurd h List.not_mem_nil) trivial
    (fun i Z1 H1 hi t => hi) (fun Z1 H1 t => Nat.le_refl _) (fun i hi D Z1 H1 t nD mu _ v H2 hy A hA => ?_) (fun D ys L Z' H' nD t mu f1 _ hL hY pr nd fr al => ?_)⟩
  · obtain ⟨rfl, rfl⟩ := hy
    rw [Int.zero_add]
    refine turn i (by omega) Z1 H2 t A fun q Z3 H3 t3 n3 m3 f3 => ?_
    have t4 : T [q] Z3 H3 (upd Z3 q (.lst [])) H3 := T.fz t3.zh m3.z f3
    refine hA () [q] (.ref q) _ H3 (t3.step t4 (mm_cons (.inr n3) mm_nil)) trivial ⟨q, rfl, rfl, upd_same⟩ (List.nodup_cons.mpr ⟨List.not_mem_nil, List.nodup_nil⟩) (fun b hb => by rw [List.mem_singleton.mp hb]; exact n3) (fun b hb => by rw [List.mem_singleton.mp hb]; exact ⟨_, f3⟩)
  · have prL : Paired (fun y q => ∃ b, q.2 = [b] ∧ y = V.ref b ∧ Z' b = some (.lst [])) ys L := paired_of (by omega) fun i y q h1 h2 => pr i y q h1 h2
    have key : ∃ qs : List Addr, ys = qs.map V.ref ∧ (L.map Prod.snd).flatten = qs ∧ qs.length = L.length ∧ ∀ q ∈ qs, Z' q = some (.lst []) := by
      clear f1 hL nd fr al pr hY
      induction prL with
      | nil => exact ⟨[], rfl, rfl, rfl, fun _ h => absurd h List.not_mem_nil⟩
      | cons a t ih =>
        obtain ⟨qs, r1, r2, r3, r4⟩ := ih
        obtain ⟨b, e1, e2, e3⟩ := a
        refine ⟨b :: qs, by rw [e2, r1]; rfl, by rw [List.map_cons, List.flatten_cons, e1, r2]; rfl, by rw [List.length_cons, List.length_cons, r3], fun q hq => ?_⟩
        rcases List.mem_cons.mp hq with e | hq
        · rw [e]; exact e3
        · exact r4 q hq
    obtain ⟨qs, rfl, efl, lq, hq⟩ := key
    rw [efl] at nd fr al
    obtain ⟨d1, d2⟩ := List.nodup_cons.mp nd
    have t2 := t.unfz zh fr
    refine fin D qs _ H' t2 ⟨f1, nd, fun b hb => ?_, t2.zh, ?_⟩ fun b hb => ?_
    · rcases List.mem_cons.mp hb with e | hb
      · rw [e, off_some d1]; exact mu.z
      · exact off_none hb
    · refine paired_of (by rw [lq, hL, List.length_replicate]) fun i q r h1 h2 => ?_
      have er := List.eq_of_mem_replicate (List.mem_of_getElem? h2)
      rw [er]
      exact ⟨[], t.zh _ _ (hq q (List.mem_of_getElem? h1)), .nil⟩
    · rcases List.mem_cons.mp hb with e | hb
      · rw [e]; exact nD
      · exact fr b hb
/-- ranges with a step -/
def LcR3 (g : TG) (tt : TT) (te : TE) (vs : List Nat) (σ : L2.St) (x : List V) (H1 : Hp) (Q : VK) : Prop := ∃ (i j c : Int) (n : Nat), x = [.int i, .int j, .int c] ∧ RgC i j c n ∧ LcJ g tt te vs σ (Itc i c n) H1 Q
theorem s_lcR3 {ta : TA} (q : ta σ H fun x H1 => LcR3 g tt te vs σ x H1 Q) : tLc (iRng3 ta) g tt te vs σ H Q := q
theorem RgC.up {j c : Int} (hc : 1 ≤ c) (hc2 : c < 1073741824) (hj : 1 ≤ j) (hj2 : j ≤ 100000) : RgC 0 j c ((j - 1) / c + 1).toNat := by
  have h0 : 0 ≤ (j - 1) / c := Int.ediv_nonneg (by omega) (by omega)
  have h1 : (j - 1) / c ≤ j - 1 := Int.ediv_le_self _ (by omega)
  have es : Builtin.Range.rangeSize 0 j c = (j - 1) / c + 1 := by
    unfold Builtin.Range.rangeSize
    rw [if_pos (by omega), if_pos (by omega), Int.sub_zero]
  refine ⟨by omega, by omega, ?_, by rw [es]; omega⟩
  unfold Builtin.Range.small
  rw [es]
  simp only [Builtin.Range.rangeFitsLong, Bool.and_eq_true, Bool.or_eq_true, decide_eq_true_eq, beq_iff_eq]
  have e63 : (2 : Int) ^ 63 = 9223372036854775808 := by decide
  rw [if_pos (show c > 0 by omega)]
  refine ⟨⟨⟨⟨⟨by omega, by omega⟩, by omega, by omega⟩, by omega, by omega⟩, by omega, by omega⟩, .inr ?_⟩
  rw [decide_eq_true (by omega), decide_eq_true (by omega)]
  rfl
end
theorem cutE_at {w : Nat} (hw : 0 < w) : ∀ (i : Nat) (l : Row), i < (cutE w l).length → (cutE w l)[i]? = some ((l.drop (i * w)).take w)
  | 0, l, _ => by
    rw [Nat.zero_mul, List.drop_zero]
    by_cases h : l.length ≤ w
    · rw [cutE_small h, List.take_of_length_le h]; rfl
    · rw [cutE_big hw (by omega)]; rfl
  | i + 1, l, hi => by
    by_cases h : l.length ≤ w
    · rw [cutE_small h] at hi
      simp at hi
    · rw [cutE_big hw (by omega)] at hi ⊢
      rw [List.getElem?_cons_succ, cutE_at hw i (l.drop w) (by simpa using hi), List.drop_drop, Nat.succ_mul, Nat.add_comm w]
theorem cutE_map {w : Nat} (hw : 0 < w) (l : Row) : (List.range (cutE w l).length).map (fun i => (l.drop (i * w)).take w) = cutE w l := by
  refine List.ext_getElem? fun i => ?_
  rw [List.getElem?_map]
  by_cases c : i < (cutE w l).length
  · rw [List.getElem?_range c, cutE_at hw i l c]
    rfl
  · rw [List.getElem?_eq_none_iff.mpr (by rw [List.length_range]; omega), List.getElem?_eq_none_iff.mpr (by omega)]
    rfl
/-! found -/
def YardOk (y : Yard) : Prop := 1 ≤ y.b ∧ y.c.length ≤ 10000 ∧ ∀ rs ∈ y.c, rs.length ≤ 10000 ∧ ∀ r ∈ rs, r.length ≤ 10000
def optS : Option Tx → V
  | none => .non
  | some x => .str x.1
def spFound (K : PySem.W.Frag) : Sp := fun vs H Q _ => ∃ (v : V) (y : Yard) (key : Int), vs = [v, .int key] ∧ Is K H v y ∧ YardOk y ∧
  ∀ (p : Addr) (v' : V) (H' : Hp), H p = none → Ex H H' → H' p = some (.tup [v', .int (foundI y key).2]) → Is K H' v' (foundI y key).1 → Q (.ref p) H'
def spLawFound (K : PySem.W.Frag) : Sp := fun vs H Q _ => ∃ (v : V) (y : Yard) (key : Int), vs = [v, .int key] ∧ Is K H v y ∧ 0 ≤ key ∧ (1 ≤ y.b ∧ ∀ rs ∈ y.c, rs.length ≤ 10000 ∧ ∀ r ∈ rs, r.length ≤ 10000) ∧
  ∀ (p : Addr) (v' : V) (H' : Hp), H p = none → Ex H H' → H' p = some (.tup [v', .int (foundI y key).2]) → Is K H' v' (foundI y key).1 → Q (.ref p) H'
/-- keys, drawn -/
def spKeys (K : PySem.W.Frag) : Sp := fun vs H Q _ => ∃ (h : Addr) (many : Int) (n : Nat) (Z : Hp), vs = [.ref h, .int many] ∧ 0 ≤ many ∧ many ≤ 160 ∧ Hand K Z H h (n + 2000) ∧
  ∀ (p : Addr) (ks : List Int) (H' : Hp), H p = none → ExM h H H' → Hand K Z H' h n → H' p = some (.lst (ks.map V.int)) → ks.length = many.toNat → ks.Nodup → (∀ k ∈ ks, 0 ≤ k ∧ k < 1152921504606846976) → Q (.ref p) H'
theorem keysT {K : PySem.W.Frag} {Z H : Hp} {h : Addr} {many : Int} {N : Nat} {Q : VK} {E : XK} (hh : Hand K Z H h N) (hN : 2000 ≤ N) (m : 0 ≤ many ∧ many ≤ 160)
    (q : ∀ p (ks : List Int) Z' H', H p = none → T [h] Z H Z' H' → Hand K Z' H' h (N - 2000) → Ls Z' p ks → (ks.length : Int) = many → ks.Nodup → (∀ k ∈ ks, 0 ≤ k ∧ k < 1152921504606846976) → Q (.ref p) H') : spKeys K [.ref h, .int many] H Q E :=
  ⟨h, many, N - 2000, Z, rfl, m.1, m.2, hh.mono (by omega), fun p ks H' n e hh' f l nd b => by
    have np : p ≠ h := hand_ne0 n hh
    have t : T [h] Z H Z H' := hh.t e hh'
    have t2 : T [p] Z H' (upd Z p (.lst (ks.map V.int))) H' := T.fz t.zh (Ex.back hh.z n) f
    exact q p ks _ H' n (t.step t2 (mm_cons (.inr n) mm_nil)) (Hand.tt t2 (nm_cons np.symm nm_nil) hh') (Ls.ofInts upd_same) (by omega) nd b⟩
end TR
namespace TR
open PySem L2
def partsL (r : Int) (l : Row) : List Row := (List.range r.toNat).map fun (i : Nat) => l.filter fun e => decide (roomOf e.1 r = (i : Int))
theorem partsL_nil (r : Int) : partsL r [] = List.replicate r.toNat [] := by
  unfold partsL
  simp only [List.filter_nil]
  rw [List.map_const', List.length_range]
theorem partsL_len (r : Int) (l : Row) : (partsL r l).length = r.toNat := by
  unfold partsL
  rw [List.length_map, List.length_range]
theorem partsL_at {r : Int} {l : Row} {i : Nat} (h : i < r.toNat) : (partsL r l)[i]? = some (l.filter fun e => decide (roomOf e.1 r = (i : Int))) := by
  unfold partsL
  rw [List.getElem?_map, List.getElem?_range h]
  rfl
theorem partsL_snoc {r : Int} (hr : 1 ≤ r) (l : Row) (e : Ent) : ∃ p, (partsL r l)[(roomOf e.1 r).toNat]? = some p ∧ p.length ≤ l.length ∧ (partsL r l).set (roomOf e.1 r).toNat (p ++ [e]) = partsL r (l ++ [e]) := by
  obtain ⟨h0, h1⟩ := roomOf_range (key := e.1) hr
  refine ⟨_, partsL_at (by omega), List.length_filter_le _ _, ?_⟩
  refine List.ext_getElem? fun i => ?_
  by_cases c : i < r.toNat
  · rw [partsL_at c]
    by_cases d : (roomOf e.1 r).toNat = i
    · subst d
      rw [List.getElem?_set_self (by rw [partsL_len]; exact c), List.filter_append, List.filter_cons, if_pos (decide_eq_true (by omega))]
      rfl
    · rw [List.getElem?_set_ne d, partsL_at c, List.filter_append, List.filter_cons, if_neg (by rw [decide_eq_false (by omega)]; exact Bool.false_ne_true)]
      simp
  · rw [List.getElem?_eq_none_iff.mpr (by rw [List.length_set, partsL_len]; omega), List.getElem?_eq_none_iff.mpr (by rw [partsL_len]; omega)]
theorem partsL_clean {w r : Int} {es : Row} : (partsL r es).map (fun p => cutE w.toNat (sortE p)) = cleanC w.toNat r es := by
  unfold partsL cleanC
  rw [List.map_map]
  rfl
theorem partsL_mem {r : Int} {es p : Row} (h : p ∈ partsL r es) : p.Sublist es := by
  obtain ⟨i, _, rfl⟩ := List.mem_map.mp h
  exact List.filter_sublist
end TR
namespace TR
open PySem L2
end TR
namespace TR
open PySem L2
section
variable {K : PySem.W.Frag} {σ : L2.St} {H : Hp} {tt : TT} {te : TE} {Q : VK} {g : TG} {vs : List Nat}
/-- things drawn, one to each thing of a list: what each keeps of its thing -/
theorem c_drawLK {β γ δ : Type} [Py β] [Py γ] {a : Addr} {xs : List γ} {Z : Hp} {h : Addr} {C : Nat} (P : β → Prop) (key : β → δ) (kx : γ → δ) (R c : Nat) (hh : Hand K Z H h C) (hx : Ik Z (.ref a) xs) (hz : xs.length ≤ 40000) (hC : R + c * xs.length ≤ C)
    (turn : ∀ (i : Nat) v x, xs[i]? = some x → Ik Z v x → ∀ Z1 H1 R', T [h] Z H Z1 H1 → Hand K Z1 H1 h (R' + c) → ∀ A : VK, (∀ x' y Z3 H3, T [h] Z1 H1 Z3 H3 → Hand K Z3 H3 h R' → Ik Z3 y x' → key x' = kx x → P x' → A y H3) → g v (wipe σ vs) H1 fun σ2 H2 => wipe σ2 vs = wipe σ vs ∧ te σ2 H2 A)
    (fin : ∀ D (l : List β) Z' H', H D = none → T [h] Z H Z' H' → Hand K Z' H' h R → Ls Z' D l → l.map key = xs.map kx → (∀ x ∈ l, P x) → Q (.ref D) H') : LcL K g tYes te vs σ (.ref a) H Q := by
  obtain ⟨b, us, e, h1, h2⟩ := hx.list
  cases e
  have hl := Paired.length h2
  refine ⟨a, rfl, ⟨us, hh.z.sq (sq_of h1)⟩, ?_⟩
  refine lcT (n := xs.length) (M := [h]) (Z := Z) (fun _ => true) (fun i Z1 H1 => Hand K Z1 H1 h (R + c * (xs.length - i))) (fun i (x : β) y Z => Ik Z y x ∧ P x ∧ ∃ x0, xs[i]? = some x0 ∧ key x = kx x0) (fun i x y Z1 Z2 e r => ⟨Ik.ex e r.1, r.2⟩) (fun i Z1 H1 D o hi nD zD => ?_) hz hh.z (fun b hb => by rw [List.mem_singleton.mp hb]; exact hh.at) (hh.mono (by simpa using hC))
    (fun i Z1 H1 hi t => ⟨us, us[i]'(by omega), (t.z.trans t.zh).sq (sq_of h1), List.getElem?_eq_getElem (by omega)⟩) (fun Z1 H1 t => ⟨us, (t.z.trans t.zh).sq (sq_of h1), by omega⟩) (fun i hi D Z1 H1 t nD mu hI v H2 hv A B hA hB => ?_) (fun D ys L Z' H' nD t mu f1 hI hL pr => ?_)
  · obtain ⟨o1, ho1⟩ := hh.at
    exact hi.exm ExM.upd (ne_of_none ho1 nD) zD
  · obtain ⟨rfl, fv⟩ := hv
    have hv := fv _ ((t.z.trans t.zh).sq (sq_of h1))
    obtain ⟨x, hx, ix⟩ := itemK h2 hv
    rw [lc_yes]
    have ec : R + c * (xs.length - i) = R + c * (xs.length - (i + 1)) + c := by
      rw [show xs.length - i = (xs.length - (i + 1)) + 1 by omega, Nat.mul_succ]
      omega
    rw [ec] at hI
    exact turn i v x hx ix Z1 _ _ t hI A fun x' y Z3 H3 t3 h3 ix' kk px => hA rfl x' y Z3 H3 t3 h3 ⟨ix', px, x, hx, kk⟩
  · have la : Lm Z' H' D (L.map Prod.snd) := ⟨⟨ys, f1, paired_mapR (Paired.mapP pr fun y q h => h.1)⟩, mu.z, t.zh⟩
    rw [filter_yes] at hL
    have hlen : L.length = xs.length := by
      have := congrArg List.length hL
      rw [List.length_map, List.length_range] at this
      exact this
    refine t_fz la fun Z2 H2 t2 ls => fin D (L.map Prod.snd) Z2 H2 nD (t.step t2 (mm_cons (.inr nD) mm_nil)) ((Hand.tt t2 (nm_cons (hand_ne0 nD hh).symm nm_nil) hI).mono (by omega)) ls ?_ fun x hx => ?_
    · refine List.ext_getElem? fun i => ?_
      rw [List.map_map, List.getElem?_map, List.getElem?_map]
      by_cases c : i < xs.length
      · have hq : L[i]? = some (L[i]'(by omega)) := List.getElem?_eq_getElem (by omega)
        generalize L[i]'(by omega) = q at hq
        have e1 : q.1 = i := by
          have := congrArg (fun l => l[i]?) hL
          simp only [List.getElem?_map, hq, List.getElem?_range c, Option.map_some] at this
          exact Option.some.inj this
        obtain ⟨y, _, _, x0, hx0, kk⟩ := paired_r pr q (List.mem_of_getElem? hq)
        rw [e1] at hx0
        rw [hq, hx0]
        exact congrArg some kk
      · rw [List.getElem?_eq_none_iff.mpr (by omega), List.getElem?_eq_none_iff.mpr (by omega)]
        rfl
    · obtain ⟨q, hq, rfl⟩ := List.mem_map.mp hx
      obtain ⟨y, hy⟩ := paired_r pr q hq
      exact hy.2.1
end
end TR

namespace TR
/-- how many bits tell a room's keys, and how long its stretch is -/
def deep (room r : Int) : Nat := if room < r - whole r ∨ room ≥ whole r then lev r + 1 else lev r
def lenI (room r : Int) : Int := 2 ^ (60 - deep room r)
/-- the rooms with their marks, by the marks -/
def lineP (r : Int) : List (Int × Int) := sortP ((List.range r.toNat).map fun (k : Nat) => (rev 60 (k : Int), (k : Int)))
def lineI (r : Int) : List Int := (lineP r).map Prod.snd
/-- a room told bit by bit -/
def lowRoom (x r : Int) (k : Nat) : Int := if k ≤ lev r then x % 2 ^ k else roomOf x r
theorem low_step {x r : Int} (h : 1 ≤ r) {k : Nat} (hk : (2 : Int) ^ k < r) : (if x / 2 ^ k % 2 = 1 ∧ lowRoom x r k + 2 ^ k < r then lowRoom x r k + 2 ^ k else lowRoom x r k) = lowRoom x r (k + 1) := by
  obtain ⟨a, b, c⟩ := whole_spec h
  have kl : k ≤ lev r := by
    have : (2 : Int) ^ k < 2 ^ (lev r + 1) := by rw [two_succ]; unfold whole at c; omega
    have := two_lt this
    omega
  have p := two_pos k
  have m := mod_two x (show (0 : Int) < 2 ^ k by omega)
  have l1 := Int.emod_nonneg x (show (2 : Int) ^ k ≠ 0 by omega)
  have l2 := Int.emod_lt_of_pos x (show (0 : Int) < 2 ^ k by omega)
  have bt : x / 2 ^ k % 2 = 0 ∨ x / 2 ^ k % 2 = 1 := by omega
  have e0 : lowRoom x r k = x % 2 ^ k := by unfold lowRoom; rw [if_pos kl]
  rw [e0]
  by_cases c1 : k < lev r
  · have e1 : lowRoom x r (k + 1) = x % 2 ^ (k + 1) := by unfold lowRoom; rw [if_pos (by omega)]
    have t := two_mono (show k + 1 ≤ lev r by omega)
    rw [two_succ] at t
    unfold whole at b
    rw [e1, two_succ, m]
    rcases bt with bt | bt
    · rw [bt, if_neg (by omega)]
      omega
    · rw [bt, if_pos ⟨rfl, by omega⟩]
      omega
  · have ek : k = lev r := by omega
    have e1 : lowRoom x r (k + 1) = roomOf x r := by unfold lowRoom; rw [if_neg (by omega)]
    have ew : (2 : Int) ^ k = whole r := by rw [ek]; rfl
    rw [e1]
    unfold roomOf
    rw [← ew, m]
    by_cases c2 : x % 2 ^ k < r - 2 ^ k
    · rw [if_pos c2]
      rcases bt with bt | bt
      · rw [bt, if_neg (by omega)]
        omega
      · rw [bt, if_pos ⟨rfl, by omega⟩]
        omega
    · rw [if_neg c2, if_neg (by omega)]
theorem low_end {x r : Int} (h : 1 ≤ r) {k : Nat} (h0 : 0 ≤ x) (hk : x / 2 ^ k = 0 ∨ r ≤ 2 ^ k) : lowRoom x r k = roomOf x r := by
  obtain ⟨a, b, c⟩ := whole_spec h
  unfold lowRoom
  by_cases kl : k ≤ lev r
  · rw [if_pos kl]
    have t := two_mono kl
    have p := two_pos k
    rcases hk with hk | hk
    · have lt : x < 2 ^ k := by
        have := Int.emod_add_mul_ediv x (2 ^ k)
        rw [hk, Int.mul_zero] at this
        have := Int.emod_lt_of_pos x (show (0 : Int) < 2 ^ k by omega)
        omega
      have e1 : x % 2 ^ k = x := Int.emod_eq_of_lt h0 lt
      have e2 : x % whole r = x := Int.emod_eq_of_lt h0 (by unfold whole; omega)
      have e3 : x % (2 * whole r) = x := Int.emod_eq_of_lt h0 (by unfold whole at *; omega)
      unfold roomOf
      rw [e1, e2, e3]
      split <;> rfl
    · have ew : (2 : Int) ^ k = whole r := by unfold whole at *; omega
      unfold roomOf
      rw [← ew, if_neg (by omega)]
  · rw [if_neg kl]
end TR

namespace TR
theorem nodup_le : ∀ {V L : List Int}, V.Nodup → (∀ x ∈ V, x ∈ L) → V.length ≤ L.length
  | [], _, _, _ => Nat.zero_le _
  | v :: V, L, h, s => by
    have h' := List.nodup_cons.mp h
    have hv := s v List.mem_cons_self
    have := nodup_le (L := L.erase v) h'.2 fun x hx => (List.mem_erase_of_ne (fun (z : x = v) => h'.1 (by rw [← z]; exact hx))).mpr (s x (List.mem_cons_of_mem _ hx))
    rw [List.length_erase_of_mem hv] at this
    have := List.length_pos_of_mem hv
    rw [List.length_cons]
    omega
end TR

/-! the law's doing of a step by the last room with rows -/
namespace TR
open PySem L2
def someR (rss : List (List Row)) : List Int := ((List.range rss.length).filter fun i => decide (rss.getD i [] ≠ [])).map fun (i : Nat) => (i : Int)
end TR
namespace TR
open PySem L2
/-! the steps of a split and of a join are small -/
def StpR : Stp → Prop
  | .rooms m => 1 ≤ m
  | s => StpB s
theorem StpR.b : ∀ {s : Stp}, StpR s → StpB s
  | .rooms _, _ => trivial
  | .cut _ _, h => h
  | .row _ _ _, h => h
theorem cutE_wide {w : Nat} (hw : 0 < w) {l r : Row} (h : r ∈ cutE w l) : r.length ≤ w := by
  obtain ⟨i, hi⟩ := List.mem_iff_getElem?.mp h
  rw [cutE_at hw i l (List.getElem?_eq_some_iff.mp hi).1] at hi
  rw [← Option.some.inj hi, List.length_take]
  exact Nat.min_le_left _ _
end TR

/-! putting and dropping: behind any steps the other keys are found, the change's own one as ahead up to one of the steps, as behind it from then on -/
namespace TR
open PySem L2
def outE (es : Row) (k : Int) : Row := es.filter fun e => decide (e.1 ≠ k)
def putE (es : Row) (k : Int) (t : Tx) : Row := outE es k ++ [(k, t)]
def loE (l : Row) (k : Int) : Row := l.filter fun e => decide (e.1 < k)
def hiE (l : Row) (k : Int) : Row := l.filter fun e => decide (k < e.1)
theorem sortE_congr {X Y : Row} (k : Keys1 X) (p : X.Perm Y) : sortE X = sortE Y := (sortE_of k.one ((sortE_perm Y).trans p.symm) (sortE_sorted Y)).symm
def putS (y : Yard) (k : Int) (t : Tx) : List Stp :=
  backw (roomOf k y.b).toNat (cutE y.a.toNat (sortE (outE (y.c.getD (roomOf k y.b).toNat []).flatten k ++ [(k, t)]))) (y.c.getD (roomOf k y.b).toNat [])
def dropS (y : Yard) (k : Int) : List Stp :=
  onw (roomOf k y.b).toNat (cutE y.a.toNat (sortE (outE (y.c.getD (roomOf k y.b).toNat []).flatten k))) (y.c.getD (roomOf k y.b).toNat [])
theorem room_nat {k r : Int} (h : 1 ≤ r) : roomOf k r = ((roomOf k r).toNat : Int) ∧ (roomOf k r).toNat < r.toNat := by
  obtain ⟨r0, r1⟩ := roomOf_range (key := k) h
  omega
end TR
namespace TR
open PySem L2
theorem clean_perm {w r : Int} {es es' : Row} (k : Keys1 es) (p : es.Perm es') : cleanY w r es = cleanY w r es' := by
  show (⟨w, r, _⟩ : Yard) = ⟨w, r, _⟩
  have : ∀ i, partE r es i = partE r es' i := fun i => sortE_congr (k.filter _) (p.filter _)
  unfold cleanC
  simp only [this]
end TR

/-! dicts of numbers and texts: d.items(), sorted(d.items()) -/
namespace L2
open PySem PySem.W PySem.Spec PyProof.Rows SrtO SrtS TR
def kvE (e : Ent) : Key × V := (Sum.inl e.1, .str e.2.1)
section
variable {X : Cx}
def rItemsK : V → List V → Hp → VK → Prop := fun x xs H Q => ∃ (a : Addr) (kvs : List (Key × V)), x = .ref a ∧ xs = [] ∧ H a = some (.dK kvs) ∧ ∀ p, H p = none → Q (.ref p) (upd H p (DX.itemsO p a))
def rSortIt : List V → Hp → VK → Prop := fun vs H Q => ∃ (p a : Addr) (l : List Ent), vs = [.ref p] ∧ H p = some (DX.itemsO p a) ∧ H a = some (.dK (l.map kvE)) ∧ Keys1 l ∧
  ∀ (H' : Hp) (q : Addr) (ws : List V), Ex H H' → H q = none → H' q = some (.lst ws) → Paired (fun v (e : Ent) => ∃ t, v = V.ref t ∧ H t = none ∧ H' t = some (.tup [.int e.1, .str e.2.1])) ws (sortE l) → Q (.ref q) H'
end
end L2

/-! sorted(d) of a dict of numbers, any number of them -/
namespace L2
open PySem PySem.W PySem.Spec PyProof.Rows SrtO TR
section
variable {X : Cx}
def rSortN : List V → Hp → VK → Prop := fun vs H Q => ∃ (b : Addr) (l : TR.Row), vs = [.ref b] ∧ H b = some (.dK (l.map kvE)) ∧ ∀ p, H p = none → Q (.ref p) (upd H p (.lst ((TR.sortI (l.map Prod.fst)).map V.int)))
end
end L2
namespace TR
open PySem L2
variable {Z H : Hp} {d : Addr} {l : Row} {Q : VK}
theorem t_sortN (z : Ex Z H) (h : H d = some (.dK (l.map kvE))) (q : ∀ p Z' H', H p = none → T [] Z H Z' H' → Ls Z' p (TR.sortI (l.map Prod.fst)) → Q (.ref p) H') : rSortN [.ref d] H Q :=
  ⟨d, l, rfl, h, fun p hp => q p _ _ hp (T.new hp z) (Ls.ofInts upd_same)⟩
end TR

/-! dicts of numbers and texts, in T -/
namespace TR
open PySem L2
/-- a dict that may be changed -/
structure Dm (Z H : Hp) (D : Addr) (l : Row) : Prop where
  h : H D = some (.dK (l.map kvE))
  zd : Z D = none
  zh : Ex Z H
def setE (l : Row) (k : Int) (t : Tx) : Row := if k ∈ l.map Prod.fst then l.map (fun e => if e.1 = k then (e.1, t) else e) else l ++ [(k, t)]
theorem thingOf_nil {k : Int} : thingOf [] k = none := rfl
theorem thingOf_pos {e : Ent} {l : Row} {k : Int} (h : e.1 = k) : thingOf (e :: l) k = some e.2 := by
  unfold thingOf
  rw [List.filter_cons_of_pos (by simpa using h)]
  rfl
theorem thingOf_neg {e : Ent} {l : Row} {k : Int} (h : e.1 ≠ k) : thingOf (e :: l) k = thingOf l k := by
  unfold thingOf
  rw [List.filter_cons_of_neg (by simpa using h)]
theorem thing_in {k : Int} : ∀ {l : Row} {t : Tx}, thingOf l k = some t → (k, t) ∈ l
  | [], _, h => by cases h
  | e :: l, t, h => by
    by_cases c : e.1 = k
    · rw [thingOf_pos c] at h
      have : e = (k, t) := Prod.ext c (Option.some.inj h)
      rw [this]
      exact List.mem_cons_self
    · rw [thingOf_neg c] at h
      exact List.mem_cons_of_mem _ (thing_in h)
theorem thing_none {k : Int} : ∀ {l : Row}, thingOf l k = none ↔ k ∉ l.map Prod.fst
  | [] => by simp [thingOf_nil]
  | e :: l => by
    by_cases c : e.1 = k
    · rw [thingOf_pos c]
      simp [c]
    · rw [thingOf_neg c, thing_none, List.map_cons, List.mem_cons]
      exact ⟨fun h z => z.elim (fun e' => c e'.symm) h, fun h z => h (.inr z)⟩
theorem valV_E {k : Int} : ∀ l : Row, valV (l.map kvE) (Sum.inl k) = (thingOf l k).map fun t => V.str t.1
  | [] => rfl
  | e :: l => by
    by_cases c : e.1 = k
    · rw [List.map_cons, valV_pos (show (kvE e).1 = Sum.inl k from congrArg Sum.inl c), thingOf_pos c]
      rfl
    · rw [List.map_cons, valV_neg (fun z => c (Sum.inl.inj z)), thingOf_neg c]
      exact valV_E l
theorem any_E {k : Int} (l : Row) : ((l.map kvE).any fun kv => decide (kv.1 = (Sum.inl k : L2.Key))) = decide (k ∈ l.map Prod.fst) := by
  rw [valV_any, valV_E]
  cases c : thingOf l k with
  | none => rw [decide_eq_false (thing_none.mp c)]; rfl
  | some t => rw [decide_eq_true (List.mem_map_of_mem (f := Prod.fst) (thing_in c))]; rfl
theorem putK_E {k : Int} {t : Tx} (l : Row) : putK (l.map kvE) (Sum.inl k) (.str t.1) = (setE l k t).map kvE := by
  unfold putK setE
  rw [any_E]
  by_cases c : k ∈ l.map Prod.fst
  · rw [if_pos (decide_eq_true c), if_pos c, List.map_map, List.map_map]
    refine List.map_congr_left fun e _ => ?_
    show (if (kvE e).1 = Sum.inl k then ((kvE e).1, V.str t.1) else kvE e) = kvE (if e.1 = k then (e.1, t) else e)
    by_cases ce : e.1 = k
    · rw [if_pos (show (kvE e).1 = Sum.inl k from congrArg Sum.inl ce), if_pos ce]
      rfl
    · rw [if_neg (show ¬ (kvE e).1 = Sum.inl k from fun z => ce (Sum.inl.inj z)), if_neg ce]
  · rw [if_neg (fun z => c (of_decide_eq_true z)), if_neg c, List.map_append]
    rfl
theorem mergeK_E : ∀ (l acc : Row), Keys1 (acc ++ l) → mergeK (acc.map kvE) (l.map kvE) = (acc ++ l).map kvE
  | [], acc, _ => by rw [List.append_nil]; rfl
  | e :: l, acc, h => by
    have hn : e.1 ∉ acc.map Prod.fst := fun z => by
      have h' : ((acc ++ e :: l).map Prod.fst).Nodup := h
      rw [List.map_append, List.map_cons] at h'
      exact (List.nodup_append.mp h').2.2 _ z _ List.mem_cons_self rfl
    have e1 : putK (acc.map kvE) (kvE e).1 (kvE e).2 = (acc ++ [e]).map kvE := by
      have := putK_E (k := e.1) (t := e.2) acc
      unfold setE at this
      rw [if_neg hn] at this
      exact this
    show mergeK (putK (acc.map kvE) (kvE e).1 (kvE e).2) (l.map kvE) = _
    rw [e1, mergeK_E l (acc ++ [e]) (by rw [List.append_assoc]; exact h), List.append_assoc]
    rfl
/-! the rules -/
def rSI (x : V) (H : Hp) (Q : VK) : Prop := ∃ (d : Addr) (l : Row), x = .ref d ∧ H d = some (.dK (l.map kvE)) ∧ Keys1 l ∧
  ∀ (H' : Hp) (q : Addr) (ws : List V), Ex H H' → H q = none → H' q = some (.lst ws) → Paired (fun v (e : Ent) => ∃ t, v = V.ref t ∧ H t = none ∧ H' t = some (.tup [.int e.1, .str e.2.1])) ws (sortE l) → Q (.ref q) H'
def tSI (te : TE) : TE := fun σ H Q => te σ H fun x H1 => rSI x H1 Q
section
variable {K : PySem.W.Frag} {M : List Addr} {Z H Z' H' : Hp} {p a d D : Addr} {l : Row} {k : Int} {t : Tx} {Q : VK}
theorem Dm.at_ (a : Dm Z H D l) : ∃ o, H D = some o := ⟨_, a.h⟩
theorem Dm.mu (a : Dm Z H D l) : Mu Z H D := ⟨a.zd, a.at_⟩
theorem Dm.tt (t : T M Z H Z' H') (nm : D ∉ M) (a : Dm Z H D l) : Dm Z' H' D l := ⟨t.m _ _ nm a.h, t.fr _ nm a.zd a.at_, t.zh⟩
theorem Dm.frq (a : Dm Z H D l) : ∃ Z' H', H' = H ∧ T [D] Z H Z' H' ∧ Z' D = some (.dK (l.map kvE)) := ⟨_, H, rfl, T.fz a.zh a.zd a.h, upd_same⟩
theorem s_SI {te : TE} {σ : L2.St} (q : te σ H fun x H1 => rSI x H1 Q) : tSI te σ H Q := q
theorem t_items (z : Ex Z H) (h : H d = some (.dK (l.map kvE))) (k1 : Keys1 l) (q : ∀ p Z' H', H p = none → T [] Z H Z' H' → Ls Z' p (sortE l) → Q (.ref p) H') : rSI (.ref d) H Q := by
  refine ⟨d, l, rfl, h, k1, fun H' p ws e n f pr => ?_⟩
  have t : T [] Z H (grow Z H H') H' := T.grow z (z.trans e) (fun _ _ _ h => e _ _ h) fun _ o h => ⟨o, e _ _ h⟩
  refine q p _ H' n t ⟨ws, grow_new z n f, Paired.mapP pr fun v x ⟨u, h1, h2, h3⟩ => ?_⟩
  rw [h1]
  exact Ik.pair (grow_new z h2 h3) (Ik.int _) (Ik.tx _)
def rDict (K : PySem.W.Frag) : List V → Hp → VK → Prop := fun xs H Q => ∃ (a : Addr) (ps : List Addr) (kvs : List (L2.Key × V)), xs = [.ref a] ∧ SqL K H a (ps.map V.ref) ∧ Paired (fun p kv => SqT K H p [kV kv.1, kv.2]) ps kvs ∧ ∀ p, H p = none → Q (.ref p) (upd H p (.dK (mergeK [] kvs)))
def rDictD : List V → Hp → VK → Prop := fun xs H Q => ∃ (a : Addr) (kvs : List (L2.Key × V)), xs = [.ref a] ∧ Rd H a (.dK kvs) ∧ ∀ p, H p = none → Q (.ref p) (upd H p (.dK kvs))
def rSortD : List V → Hp → VK → Prop := fun xs H Q => ∃ (a : Addr) (kvs : List (L2.Key × V)) (ks : List Int), xs = [.ref a] ∧ Rd H a (.dK kvs) ∧ kvs.map (·.1) = ks.map Sum.inl ∧ ks.length < 64 ∧ ∀ (ys : List Int) (p : Addr), ys.Perm ks → ys.Pairwise (· ≤ ·) → H p = none → Q (.ref p) (upd H p (.lst (ys.map V.int)))
def rLenDm : List V → Hp → VK → Prop := fun xs H Q => ∃ a kvs, xs = [V.ref a] ∧ H a = some (.dK kvs) ∧ Q (.int kvs.length) H
theorem Dm.new (n : H p = none) (z : Ex Z H) : T [] Z H Z (upd H p (.dK (l.map kvE))) ∧ Dm Z (upd H p (.dK (l.map kvE))) p l := by
  have t : T [] Z H Z (upd H p (.dK (l.map kvE))) := T.newM n z
  exact ⟨t, upd_same, Ex.back z n, t.zh⟩
theorem ents_refs : ∀ {vs : List V} {l : Row}, Paired (fun v x => Ik Z v x) vs l → ∃ ps : List Addr, vs = ps.map V.ref ∧ Paired (fun p (kv : L2.Key × V) => Z p = some (.tup [kV kv.1, kv.2])) ps (l.map kvE)
  | _, _, .nil => ⟨[], rfl, .nil⟩
  | _, _, .cons h r => by
    obtain ⟨ps, e, pr⟩ := ents_refs r
    obtain ⟨a, rfl, ha⟩ := h.ent_of
    exact ⟨a :: ps, by rw [e]; rfl, .cons ha pr⟩
theorem t_dnew (z : Ex Z H) (q : ∀ p Z' H', H p = none → T [] Z H Z' H' → Dm Z' H' p [] → Q (.ref p) H') {σ : L2.St} : tDNewK σ H Q := fun p hp => q p _ _ hp (Dm.new (l := []) hp z).1 (Dm.new (l := []) hp z).2
theorem t_dict (z : Ex Z H) (i : Ik Z (.ref a) l) (k1 : Keys1 l) (q : ∀ p Z' H', H p = none → T [] Z H Z' H' → Dm Z' H' p l → Q (.ref p) H') : rDict K [.ref a] H Q := by
  obtain ⟨b, vs, e, h, pr⟩ := i.list
  cases e
  obtain ⟨ps, rfl, pr2⟩ := ents_refs pr
  refine ⟨a, ps, _, rfl, sq_of (z _ _ h), Paired.mapP pr2 fun p kv g => st_of (z _ _ g), fun p hp => ?_⟩
  have e1 : mergeK [] (l.map kvE) = l.map kvE := mergeK_E l [] k1
  rw [e1]
  exact q p _ _ hp (Dm.new hp z).1 (Dm.new hp z).2
theorem t_dictD (z : Ex Z H) (h : H d = some (.dK (l.map kvE))) (q : ∀ p Z' H', H p = none → T [] Z H Z' H' → Dm Z' H' p l → Q (.ref p) H') : rDictD [.ref d] H Q :=
  ⟨d, _, rfl, .inl h, fun p hp => q p _ _ hp (Dm.new hp z).1 (Dm.new hp z).2⟩
theorem t_lenD (h : H d = some (.dK (l.map kvE))) (q : Q (.int (l.length : Int)) H) : rLenDm [.ref d] H Q := ⟨d, _, rfl, h, by rw [List.length_map]; exact q⟩
def DGb (x y : V) (H : Hp) (Q : VK) : Prop := ∃ a o, x = .ref a ∧ DGet H a y o ∧ Q (o.getD .non) H
def DGa (ty : TE) (σ : L2.St) (x : V) (H1 : Hp) (Q : VK) : Prop := ∃ a, x = .ref a ∧ IsD H1 a ∧ ty σ H1 fun y H2 => ∃ o, DGet H2 a y o ∧ Q (o.getD .non) H2
def DIx (x y : V) (H : Hp) (Q : VK) : Prop := ∃ a v, x = .ref a ∧ DGet H a y (some v) ∧ Q v H
def DInn (y x : V) (H : Hp) (Q : VK) : Prop := ∃ a o, x = .ref a ∧ DGet H a y o ∧ Q (.bl o.isSome) H
def DNin (y x : V) (H : Hp) (Q : VK) : Prop := ∃ a o, x = .ref a ∧ DGet H a y o ∧ Q (.bl (!o.isSome)) H
def DPa (ty : TE) (σ : L2.St) (x : V) (H1 : Hp) (Q : VK) : Prop := ∃ a, x = .ref a ∧ IsD H1 a ∧ ty σ H1 fun y H2 => ∃ kvs k v, H2 a = some (.dK kvs) ∧ y = kV k ∧ valV kvs k = some v ∧ Q v (upd H2 a (.dK (dropK kvs k)))
theorem s_dget1 {td ty : TE} {σ : L2.St} (q : td σ H fun x H1 => DGa ty σ x H1 Q) : tDGet1 td ty σ H Q := q
theorem s_dix {td ty : TE} {σ : L2.St} (q : td σ H fun x H1 => ty σ H1 fun y H2 => DIx x y H2 Q) : tDGet td ty σ H Q := q
theorem s_din {td ty : TE} {σ : L2.St} (q : ty σ H fun y H1 => td σ H1 fun x H2 => DInn y x H2 Q) : tDIn ty td σ H Q := q
theorem s_dnin {td ty : TE} {σ : L2.St} (q : ty σ H fun y H1 => td σ H1 fun x H2 => DNin y x H2 Q) : tDNotIn ty td σ H Q := q
theorem s_dpop1 {td ty : TE} {σ : L2.St} (q : td σ H fun x H1 => DPa ty σ x H1 Q) : tDPop1 td ty σ H Q := q
theorem t_dga {σ : L2.St} {i : Nat} (h : H d = some (.dK (l.map kvE))) (e : σ[i]? = some (some (.int k))) (q : Q (optS (thingOf l k)) H) : DGa (tVar i) σ (.ref d) H Q := by
  refine ⟨d, rfl, .inl ⟨_, .inl h⟩, .int k, e, _, DGet.k (k := Sum.inl k) h, ?_⟩
  rw [valV_E]
  cases c : thingOf l k with
  | none => rw [c] at q; exact q
  | some u => rw [c] at q; exact q
theorem t_din (h : H d = some (.dK (l.map kvE))) (q : Q (.bl (decide (k ∈ l.map Prod.fst))) H) : DInn (.int k) (.ref d) H Q := by
  refine ⟨d, _, rfl, DGet.k (k := Sum.inl k) h, ?_⟩
  rw [← any_E, valV_any] at q
  exact q
theorem t_dnin (h : H d = some (.dK (l.map kvE))) (q : Q (.bl (!decide (k ∈ l.map Prod.fst))) H) : DNin (.int k) (.ref d) H Q := by
  refine ⟨d, _, rfl, DGet.k (k := Sum.inl k) h, ?_⟩
  rw [← any_E, valV_any] at q
  exact q
theorem t_dput {R : Hp → Prop} (a : Dm Z H D l) (hz : l.length < 100000) (q : ∀ Z' H', T [D] Z H Z' H' → Dm Z' H' D (setE l k t) → R H') : DP (.ref D) (.int k) (.str t.1) H R := by
  refine ⟨D, _, rfl, DPut.k (k := Sum.inl k) a.h (sz_lt (by rw [List.length_map]; exact hz)), ?_⟩
  rw [putK_E]
  have tt : T [D] Z H Z (upd H D (.dK ((setE l k t).map kvE))) := T.set a.mu a.zh
  exact q Z _ tt ⟨upd_same, a.zd, tt.zh⟩
end
end TR
namespace TR
open PySem L2
end TR

/-! mended yards, and the steps that lead there -/
namespace TR
open PySem L2
/-! what a step does, room by room -/
/-- but for one room two yards are alike -/
def Else (R : Nat) (y y' : Yard) : Prop := y'.a = y.a ∧ y'.b = y.b ∧ ∀ q, q ≠ R → y'.c.getD q [] = y.c.getD q []
theorem Else.refl {R : Nat} (y : Yard) : Else R y y := ⟨rfl, rfl, fun _ _ => rfl⟩
theorem Else.trans {R : Nat} {x y z : Yard} (h : Else R x y) (g : Else R y z) : Else R x z := ⟨g.1.trans h.1, g.2.1.trans h.2.1, fun q hq => (g.2.2 q hq).trans (h.2.2 q hq)⟩
/-! what stands -/
def meetE (r : Int) (i : Nat) (acc : Row) (e : Ent) : Row := if roomOf e.1 r = (i : Int) ∧ e.1 ∉ acc.map Prod.fst then acc ++ [e] else acc
def standF (r : Int) : Nat → List (List Row) → Row → Row
  | _, [], acc => acc
  | i, X :: c, acc => standF r (i + 1) c (X.flatten.foldl (meetE r i) acc)
def standL (y : Yard) : Row := standF y.b 0 (y.c.take y.b.toNat) []
def standY (y : Yard) : Row := sortE (standL y)
/-- all that is held -/
def allE (c : List (List Row)) : Row := c.flatten.flatten
theorem allE_take (c : List (List Row)) (n : Nat) : (allE (c.take n)).length ≤ (allE c).length := by
  have h := congrArg (fun l => (allE l).length) (List.take_append_drop n c)
  simp only [allE, List.flatten_append, List.length_append] at h ⊢
  omega
/-! the steps -/
def cutsF (c : List (List Row)) (q : Nat) : List Stp := (((List.range (c.length - q)).map fun j => q + j).filter fun i => decide (c.getD i [] ≠ [])).reverse.map fun (i : Nat) => Stp.cut (i : Int) 0
def mendR (d c : List (List Row)) (n : Nat) : List Stp := (List.range n).flatMap fun i => onw i (d.getD i []) (c.getD i [])
def mendC (y : Yard) : List (List Row) := cleanC y.a.toNat y.b (standY y)
def mendS (y : Yard) : List Stp := mendR (mendC y) y.c y.b.toNat ++ cutsF y.c y.b.toNat
end TR

/-! lists of lists that are told apart: every row is a row of its own -/
namespace TR
open PySem L2
section
variable {K : PySem.W.Frag} {σ : L2.St} {H Z Z0 : Hp} {te : TE} {Q : VK} {g : TG} {vs : List Nat} {α : Type} [Py α]
theorem c_rowsR3 {i j c : Int} {n : Nat} (f : Nat → List α) (zh : Ex Z H) (hr : RgC i j c n) (hz : n ≤ 40000)
    (turn : ∀ k : Nat, k < n → ∀ Z1 H1, T [] Z H Z1 H1 → ∀ A : VK, (∀ w Z3 H3, T [] Z1 H1 Z3 H3 → H1 w = none → RowF Z0 Z3 w (f k) → A (.ref w) H3) → g (.int (i + (k : Nat) * c)) (wipe σ vs) H1 fun σ2 H2 => wipe σ2 vs = wipe σ vs ∧ te σ2 H2 A)
    (fin : ∀ (q : Addr) (ws : List Addr) Z' H', T [] Z H Z' H' → (q :: ws).Nodup → (∀ b ∈ q :: ws, H b = none) → (∀ b ∈ q :: ws, ∃ o, H' b = some o) → Z' q = some (.lst (ws.map V.ref)) → Paired (fun w r => RowF Z0 Z' w r) ws ((List.range n).map f) → Q (.ref q) H') : LcR3 g tYes te vs σ [.int i, .int j, .int c] H Q := by
  refine ⟨i, j, c, n, rfl, hr, lcTN (n := n) (M := []) (Z := Z) (fun _ _ _ => True) (fun i (x : List α) fp y Z1 => x = f i ∧ ∃ w, fp = [w] ∧ y = .ref w ∧ RowF Z0 Z1 w x) (fun i x fp y Z1 Z2 e r => ⟨r.1, by
    obtain ⟨w, r1, r2, us, r3, r4⟩ := r.2
    exact ⟨w, r1, r2, us, e _ _ r3, r4⟩⟩) (fun _ _ _ _ _ _ _ _ => trivial) hz zh (fun _ h => absurd h List.not_mem_nil) trivial
    (fun i Z1 H1 hi t => hi) (fun Z1 H1 t => Nat.le_refl _) (fun k hk D Z1 H1 t nD mu _ v H2 hy A hA => ?_) (fun D ys L Z' H' nD t mu f1 _ hL hY pr nd fr al => ?_)⟩
  · obtain ⟨rfl, rfl⟩ := hy
    refine turn k hk Z1 H2 t A fun w Z3 H3 t3 nw rf => hA (f k) [w] (.ref w) Z3 H3 t3 trivial ⟨rfl, w, rfl, rfl, rf⟩ (List.nodup_cons.mpr ⟨List.not_mem_nil, List.nodup_nil⟩) (fun q hq => by rw [List.mem_singleton.mp hq]; exact nw) (fun q hq => ?_)
    rw [List.mem_singleton.mp hq]
    obtain ⟨vs, r1, _⟩ := rf
    exact ⟨_, t3.zh _ _ r1⟩
  · have eL : L.map Prod.fst = (List.range n).map f := by
      refine List.ext_getElem? fun i => ?_
      rw [List.getElem?_map, List.getElem?_map]
      by_cases c : i < L.length
      · have h1 := pr i (ys[i]'(by omega)) L[i] (List.getElem?_eq_getElem _) (List.getElem?_eq_getElem _)
        rw [List.getElem?_eq_getElem c, List.getElem?_range (by omega)]
        exact congrArg some h1.1
      · rw [List.getElem?_eq_none_iff.mpr (by omega), List.getElem?_eq_none_iff.mpr (by rw [List.length_range]; omega)]
        rfl
    have prL : Paired (fun y q => ∃ w, q.2 = [w] ∧ y = .ref w ∧ RowF Z0 Z' w q.1) ys L := paired_of (by omega) fun i y q h1 h2 => (pr i y q h1 h2).2
    have key : ∃ ws : List Addr, ys = ws.map V.ref ∧ (L.map Prod.snd).flatten = ws ∧ Paired (fun w r => RowF Z0 Z' w r) ws (L.map Prod.fst) := by
      clear f1 hL nd fr al pr hY eL
      induction prL with
      | nil => exact ⟨[], rfl, rfl, .nil⟩
      | cons a t ih =>
        obtain ⟨ws, r1, r2, r3⟩ := ih
        obtain ⟨w, e1, e2, rf⟩ := a
        exact ⟨w :: ws, by rw [e2, r1]; rfl, by rw [List.map_cons, List.flatten_cons, e1, r2]; rfl, .cons rf r3⟩
    obtain ⟨ws, rfl, efl, prw⟩ := key
    rw [eL] at prw
    rw [efl] at nd fr al
    refine t_fzV mu t.zh f1 fun Z2 H2 t2 f2 => fin D ws Z2 H2 (t.step t2 (mm_cons (.inr nD) mm_nil)) nd (fun b hb => ?_) (fun b hb => ?_) f2 (Paired.mapP prw fun w r ⟨vs, g1, g2⟩ => ⟨vs, t2.z _ _ g1, g2⟩)
    · rcases List.mem_cons.mp hb with e | hb
      · rw [e]; exact nD
      · exact fr b hb
    · rcases List.mem_cons.mp hb with e | hb
      · rw [e]; exact ⟨_, t2.zh _ _ f2⟩
      · exact t2.all (al b hb)
end
/-- new rows, all told apart; they stay (Z') until they are let go -/
def NewRs (Z0 H Z' H' : Hp) (q : Addr) (ws : List Addr) {α : Type} [Py α] (rows : List (List α)) : Prop :=
  (q :: ws).Nodup ∧ (∀ b ∈ q :: ws, H b = none) ∧ (∀ b ∈ q :: ws, ∃ o, H' b = some o) ∧ Z' q = some (.lst (ws.map V.ref)) ∧ Paired (fun w r => RowF Z0 Z' w r) ws rows
theorem NewRs.ls {Z0 H Z' H' : Hp} {q : Addr} {ws : List Addr} {α : Type} [Py α] {rows : List (List α)} (h : NewRs Z0 H Z' H' q ws rows) (e : Ex Z0 Z') : Ls Z' q rows := by
  obtain ⟨h1, h2, h3, f, p⟩ := h
  refine ⟨_, f, ?_⟩
  clear f h1 h2 h3
  induction p with
  | nil => exact .nil
  | cons a t ih =>
    obtain ⟨vs, g1, g2⟩ := a
    exact .cons (Ik.of_list g1 (Paired.mapP g2 fun v x g => Ik.ex e g)) ih
/-- rooms of rows, all told apart -/
structure Y4 (Z H : Hp) (D : Addr) (qs : List Addr) (Fs : List (List Addr)) {α : Type} [Py α] (rss : List (List (List α))) : Prop where
  y : Y3 Z H D qs Fs.flatten rss
  nd : (D :: (qs ++ Fs.flatten)).Nodup
  at_ : Paired (fun f rs => H f.1 = some (.lst (f.2.map V.ref)) ∧ Paired (fun w r => RowO Z H w r) f.2 rs) (qs.zip Fs) rss
  ln : qs.length = Fs.length
section
variable {K : PySem.W.Frag} {σ : L2.St} {H Z Z0 : Hp} {te : TE} {Q : VK} {g : TG} {vs : List Nat} {α β : Type} [Py α] [Py β]
theorem c_roomsY {a : Addr} {xs : List β} (fn : β → List (List α)) (zh : Ex Z H) (e0 : Ex Z0 Z) (h : Ik Z (.ref a) xs) (hz : xs.length ≤ 40000)
    (turn : ∀ v x, x ∈ xs → Ik Z v x → ∀ Z1 H1, T [] Z H Z1 H1 → ∀ A : VK, (∀ (q : Addr) (ws : List Addr) Z3 H3, T [] Z1 H1 Z3 H3 → NewRs Z0 H1 Z3 H3 q ws (fn x) → A (.ref q) H3) →
      g v (wipe σ vs) H1 fun σ2 H2 => wipe σ2 vs = wipe σ vs ∧ te σ2 H2 A)
    (fin : ∀ (D : Addr) (qs : List Addr) (Fs : List (List Addr)) Z' H', T [] Z H Z' H' → Y4 Z' H' D qs Fs (xs.map fn) → (∀ b ∈ D :: (qs ++ Fs.flatten), H b = none) → Q (.ref D) H') : LcL K g tYes te vs σ (.ref a) H Q := by
  obtain ⟨b, us, e, h1, h2⟩ := h.list
  cases e
  have hl := Paired.length h2
  refine ⟨a, rfl, ⟨us, zh.sq (sq_of h1)⟩, lcTN (n := xs.length) (M := []) (Z := Z) (fun _ _ _ => True) (fun i (x : List (List α)) fp y Z1 => (xs.map fn)[i]? = some x ∧ ∃ q ws, fp = q :: ws ∧ y = .ref q ∧ Z1 q = some (.lst (ws.map V.ref)) ∧ Paired (fun w r => RowF Z0 Z1 w r) ws x) (fun i x fp y Z1 Z2 e r => ⟨r.1, by
    obtain ⟨q, ws, r1, r2, r3, r4⟩ := r.2
    exact ⟨q, ws, r1, r2, e _ _ r3, Paired.mapP r4 fun w r ⟨vs, g1, g2⟩ => ⟨vs, e _ _ g1, g2⟩⟩⟩) (fun _ _ _ _ _ _ _ _ => trivial) hz zh (fun _ h => absurd h List.not_mem_nil) trivial
    (fun i Z1 H1 hi t => ⟨us, us[i]'(by omega), (t.z.trans t.zh).sq (sq_of h1), List.getElem?_eq_getElem (by omega)⟩) (fun Z1 H1 t => ⟨us, (t.z.trans t.zh).sq (sq_of h1), by omega⟩) (fun i hi D Z1 H1 t nD mu _ v H2 hy A hA => ?_) (fun D ys L Z' H' nD t mu f1 _ hL hY pr nd fr al => ?_)⟩
  · obtain ⟨rfl, fv⟩ := hy
    have hv := fv _ ((t.z.trans t.zh).sq (sq_of h1))
    obtain ⟨x, hx, ix⟩ := itemK h2 hv
    exact turn v x (List.mem_of_getElem? hx) ix Z1 H2 t A fun q ws Z3 H3 t3 ⟨nd3, fr3, al3, f3, p3⟩ => hA (fn x) (q :: ws) (.ref q) Z3 H3 t3 trivial ⟨by rw [List.getElem?_map, hx]; rfl, q, ws, rfl, rfl, f3, p3⟩ nd3 fr3 al3
  · have eL : L.map Prod.fst = xs.map fn := by
      refine List.ext_getElem? fun i => ?_
      rw [List.getElem?_map]
      by_cases c : i < L.length
      · have h1 := pr i (ys[i]'(by omega)) L[i] (List.getElem?_eq_getElem _) (List.getElem?_eq_getElem _)
        rw [List.getElem?_eq_getElem c, h1.1]
        rfl
      · rw [List.getElem?_eq_none_iff.mpr (by omega), List.getElem?_eq_none_iff.mpr (by rw [List.length_map]; omega)]
        rfl
    have prL : Paired (fun y q => ∃ a ws, q.2 = a :: ws ∧ y = V.ref a ∧ Z' a = some (.lst (ws.map V.ref)) ∧ Paired (fun w r => RowF Z0 Z' w r) ws q.1) ys L := paired_of (by omega) fun i y q h1 h2 => (pr i y q h1 h2).2
    have key : ∃ (qs : List Addr) (F : List (List Addr)), qs.length = F.length ∧ ys = qs.map V.ref ∧ Paired (fun q f => q.2 = f.1 :: f.2) L (qs.zip F) ∧ Paired (fun f r => Z' f.1 = some (.lst (f.2.map V.ref)) ∧ Paired (fun w r => RowF Z0 Z' w r) f.2 r) (qs.zip F) (L.map Prod.fst) := by
      clear f1 hL nd fr al pr hY eL
      induction prL with
      | nil => exact ⟨[], [], rfl, rfl, .nil, .nil⟩
      | cons a t ih =>
        obtain ⟨qs, F, r0, r1, r2, r3⟩ := ih
        obtain ⟨a, ws, e1, e2, e3, e4⟩ := a
        exact ⟨a :: qs, ws :: F, by rw [List.length_cons, r0]; rfl, by rw [e2, r1]; rfl, .cons e1 r2, .cons ⟨e3, e4⟩ r3⟩
    obtain ⟨qs, F, hqF, rfl, pL, pR⟩ := key
    have pm := feet_perm pL hqF
    rw [eL] at pR
    obtain ⟨dD, nd2⟩ := List.nodup_cons.mp nd
    have nd3 := pm.nodup nd2
    have memF : ∀ b ∈ qs ++ F.flatten, b ∈ (L.map Prod.snd).flatten := fun b hb => pm.mem_iff.mpr hb
    have fr' : ∀ b ∈ qs ++ F.flatten, H b = none := fun b hb => fr b (memF b hb)
    have t2 := t.unfz zh fr'
    have e0' : Ex Z0 (offH Z' (qs ++ F.flatten)) := e0.trans t2.z
    have pA : Paired (fun f rs => H' f.1 = some (.lst (f.2.map V.ref)) ∧ Paired (fun w r => RowO (offH Z' (qs ++ F.flatten)) H' w r) f.2 rs) (qs.zip F) (xs.map fn) :=
      Paired.mapP pR fun f rs ⟨g1, g2⟩ => ⟨t.zh _ _ g1, Paired.mapP g2 fun w r ⟨vs, g3, g4⟩ => ⟨vs, t.zh _ _ g3, Paired.mapP g4 fun v x g => Ik.ex e0' g⟩⟩
    refine fin D qs F _ H' t2 ⟨⟨f1, ?_, fun q hq z => ?_, fun q hq => ?_, fun q hq => ?_, t2.zh, ?_⟩, ?_, pA, hqF⟩ fun q hq => ?_
    · exact List.nodup_cons.mpr ⟨fun z => dD (memF D (List.mem_append_left _ z)), (List.nodup_append.mp nd3).1⟩
    · rcases List.mem_cons.mp hq with e | hq
      · exact dD (memF D (List.mem_append_right _ (e ▸ z)))
      · exact (List.nodup_append.mp nd3).2.2 q hq q z rfl
    · rcases List.mem_cons.mp hq with e | hq
      · rw [e, off_some fun z => dD (memF D z)]
        exact mu.z
      · exact off_none hq
    · rcases List.mem_cons.mp hq with e | hq
      · rw [e]; exact mu.a
      · exact al q (memF q hq)
    · have sub : ∀ f ∈ F, ∀ w ∈ f, w ∈ F.flatten := fun f hf w hw => List.mem_flatten.mpr ⟨f, hf, hw⟩
      revert pA
      generalize offH Z' (qs ++ F.flatten) = Z2
      generalize F.flatten = G at sub
      generalize xs.map fn = rss
      intro pA
      clear f1 pL pm nd3 memF fr' t2 e0' eL prL pr nd dD nd2 fr al h1 h2 hl pR
      clear h hz turn fin hL hY
      induction qs generalizing F rss with
      | nil => cases pA; exact .nil
      | cons q qs ih =>
        cases F with
        | nil => cases hqF
        | cons f F =>
          cases pA with
          | cons a t3 => exact .cons ⟨f, a.1, sub f List.mem_cons_self, a.2⟩ (ih (F := F) (by simpa using hqF) (fun f' hf' => sub f' (List.mem_cons_of_mem _ hf')) _ t3)
    · exact List.nodup_cons.mpr ⟨fun z => dD (memF D z), nd3⟩
    · rcases List.mem_cons.mp hq with e | hq
      · rw [e]; exact nD
      · exact fr' q hq
end
section
variable {K : PySem.W.Frag} {H Z : Hp} {D : Addr} {qs : List Addr} {Fs : List (List Addr)} {α : Type} [Py α] {r0 : List α} {rs0 : List (List α)} {rss : List (List (List α))}
/-- all but the first room and its first row stays -/
theorem Y4.open0 (a : Y4 Z H D qs Fs ((r0 :: rs0) :: rss)) : ∃ (Z' H' : Hp) (q w : Addr) (qs' ws : List Addr), H' = H ∧ T (D :: (qs ++ Fs.flatten)) Z H Z' H' ∧ Z' D = some (.lst ((q :: qs').map V.ref)) ∧
    Mu Z' H' q ∧ H' q = some (.lst ((w :: ws).map V.ref)) ∧ q ≠ w ∧ Lm Z' H' w r0 ∧ Paired (fun v x => Ik Z' v x) (qs'.map V.ref) rss ∧ q ∈ D :: (qs ++ Fs.flatten) ∧ w ∈ D :: (qs ++ Fs.flatten) ∧ ws.length = rs0.length := by
  obtain ⟨y, nd, pr, ln⟩ := a
  cases qs with
  | nil => cases pr
  | cons q qs' =>
    cases Fs with
    | nil => cases ln
    | cons f Fs =>
      cases pr with
      | cons a0 prs =>
        obtain ⟨hq, pw⟩ := a0
        cases f with
        | nil => cases pw
        | cons w ws =>
          cases pw with
          | cons rw_ pws =>
            obtain ⟨us, g1, g2⟩ := rw_
            obtain ⟨d1, d2⟩ := List.nodup_cons.mp nd
            have d3 : (q :: (qs' ++ (w :: (ws ++ Fs.flatten)))).Nodup := d2
            obtain ⟨d4, d5⟩ := List.nodup_cons.mp d3
            have d6 := List.nodup_append.mp d5
            obtain ⟨d7, d8⟩ := List.nodup_cons.mp d6.2.1
            have eF : ((w :: ws) :: Fs).flatten = w :: (ws ++ Fs.flatten) := rfl
            have nDq : D ≠ q := fun z => d1 (z ▸ List.mem_cons_self)
            have nDw : D ≠ w := fun z => d1 (List.mem_append_right _ (by rw [eF, z]; exact List.mem_cons_self))
            have nqw : q ≠ w := fun z => d4 (List.mem_append_right _ (by rw [z]; exact List.mem_cons_self))
            let G := D :: (qs' ++ (ws ++ Fs.flatten))
            have hG : ∀ b ∈ G, b ∈ D :: ((q :: qs') ++ ((w :: ws) :: Fs).flatten) := fun b hb => by
              rcases List.mem_cons.mp hb with e | hb
              · rw [e]; exact List.mem_cons_self
              · refine List.mem_cons_of_mem _ ?_
                rcases List.mem_append.mp hb with hb | hb
                · exact List.mem_append_left _ (List.mem_cons_of_mem _ hb)
                · exact List.mem_append_right _ (List.mem_cons_of_mem _ hb)
            have qG : q ∉ G := fun z => by
              rcases List.mem_cons.mp z with e | z
              · exact nDq e.symm
              · rcases List.mem_append.mp z with z | z
                · exact d4 (List.mem_append_left _ z)
                · exact d4 (List.mem_append_right _ (List.mem_cons_of_mem _ z))
            have wG : w ∉ G := fun z => by
              rcases List.mem_cons.mp z with e | z
              · exact nDw e.symm
              · rcases List.mem_append.mp z with z | z
                · exact d6.2.2 w z w List.mem_cons_self rfl
                · exact d7 z
            have zG : ∀ b ∈ G, Z b = none := fun b hb => y.z b (hG b hb)
            have t := T.fzs (F := G) y.zh zG
            have t' : T (D :: ((q :: qs') ++ ((w :: ws) :: Fs).flatten)) Z H (onH Z H G) H := ⟨t.z, t.zh, fun _ _ _ h => h, fun _ o h => ⟨o, h⟩, fun b nb zb a => t.fr b (fun z => nb (hG b z)) zb a⟩
            refine ⟨onH Z H G, H, q, w, qs', ws, rfl, t', (on_in List.mem_cons_self).trans y.own, ⟨(on_out qG).trans (y.z q (by simp)), _, hq⟩, hq, nqw, ⟨⟨us, g1, Paired.mapP g2 fun v x g => Ik.ex t.z g⟩, (on_out wG).trans (y.z w (by rw [eF]; simp)), t.zh⟩, ?_, by simp, by rw [eF]; simp, Paired.length pws⟩
            have hin : ∀ b ∈ qs' ++ (ws ++ Fs.flatten), onH Z H G b = H b := fun b hb => on_in (List.mem_cons_of_mem _ hb)
            have zz := t.z
            have hq' : ∀ b ∈ qs', onH Z H G b = H b := fun b hb => hin b (List.mem_append_left _ hb)
            have hF' : ∀ f ∈ Fs, ∀ b ∈ f, onH Z H G b = H b := fun f hf b hb => hin b (List.mem_append_right _ (List.mem_append_right _ (List.mem_flatten.mpr ⟨f, hf, hb⟩)))
            have ln' : qs'.length = Fs.length := by simpa using ln
            revert zz hq' hF'
            generalize onH Z H G = Z2
            intro zz hq' hF'
            clear t t' hin zG wG qG hG y nd d1 d2 d3 d4 d5 d6 d7 d8 ln hq g1 g2 pws eF nDq nDw nqw G
            induction qs' generalizing Fs rss with
            | nil => cases prs; exact .nil
            | cons q2 qs2 ih =>
              cases Fs with
              | nil => cases ln'
              | cons f2 Fs2 =>
                cases prs with
                | cons a2 prs2 =>
                  refine .cons (Ik.of_list ((hq' q2 List.mem_cons_self).trans a2.1) ?_) (ih Fs2 prs2 (by simpa using ln') (fun b hb => hq' b (List.mem_cons_of_mem _ hb)) fun f hf => hF' f (List.mem_cons_of_mem _ hf))
                  have hf2 := hF' f2 List.mem_cons_self
                  obtain ⟨p1, p2⟩ := a2
                  have p3 : Paired (fun w r => RowO Z H w r) f2 _ := p2
                  clear ih prs2 hF' ln' hq' p1 p2
                  induction p3 with
                  | nil => exact .nil
                  | cons x xs ih2 =>
                    obtain ⟨us2, k1, k2⟩ := x
                    exact .cons (Ik.of_list ((hf2 _ List.mem_cons_self).trans k1) (Paired.mapP k2 fun v x g => Ik.ex zz g)) (ih2 fun b hb => hf2 b (List.mem_cons_of_mem _ hb))
end
section
variable {K : PySem.W.Frag} {M : List Addr} {H Z Z0 Z' H' : Hp} {a p D : Addr} {qs : List Addr} {Fs : List (List Addr)} {Q : VK}
theorem Y4.tt0 {α : Type} [Py α] {rss : List (List (List α))} (t : T [] Z H Z' H') (y : Y4 Z H D qs Fs rss) : Y4 Z' H' D qs Fs rss :=
  ⟨y.y.tt0 t, y.nd, Paired.mapP y.at_ fun f rs ⟨h1, h2⟩ => ⟨t.hp nm_nil h1, Paired.mapP h2 fun w r g => g.tt t nm_nil⟩, y.ln⟩
/-- all of it stays, and is a yard -/
theorem Y4.frY {y : Yard} (h : Y4 Z H D qs Fs y.c) (f : Z p = some (.tup [.int y.a, .int y.b, .ref D])) : ∃ Z' H', H' = H ∧ T (D :: (qs ++ Fs.flatten)) Z H Z' H' ∧ Ik Z' (.ref p) y := by
  obtain ⟨Z', H', e, t, ls⟩ := h.y.frq
  exact ⟨Z', H', e, t, Ik.three (t.z _ _ f) (Ik.int _) (Ik.int _) ls.is⟩
theorem t_sortedE0 {l : Row} (z : Ex Z H) (e0 : Ex Z0 Z) (h : Ik Z0 (.ref a) l) (k : OneK l) (q : ∀ p ws Z' H', H p = none → T [] Z H Z' H' → Z' p = some (.lst ws) → Paired (fun v x => Ik Z0 v x) ws (sortE l) → Q (.ref p) H') : rSortedPS K [.ref a] H Q := by
  obtain ⟨b, us, e, h1, h2⟩ := h.list
  cases e
  refine n_sortedEF ((e0.trans z).sq (sq_of h1)) (Paired.mapP h2 fun v x g => (Ik.ex (e0.trans z) g).is) k fun p ws H' n e f pr => ?_
  have t : T [] Z H (grow Z H H') H' := T.grow z (z.trans e) (fun _ _ _ h => e _ _ h) fun _ o h => ⟨o, e _ _ h⟩
  exact q p ws _ H' n t (grow_new z n f) (pr _ h2)
end
/-! for over a range that goes down -/
section
variable {σ : L2.St} {H : Hp} {D : Ends} {g : TG} {ts : TS}
def ForR3 (g : TG) (tb : TS) (D : Ends) (σ : L2.St) (vs : List V) (H1 : Hp) : Prop := ∃ (i j c : Int) (n : Nat), vs = [.int i, .int j, .int c] ∧ RgC i j c n ∧ ForJ g tb D σ (Itc i c n) H1
end
abbrev YB (y : Yard) : Prop := 1 ≤ y.a ∧ y.a ≤ 1000 ∧ 1 ≤ y.b ∧ y.b ≤ 1000 ∧ y.c.length ≤ 10000 ∧ (∀ rs ∈ y.c, rs.length ≤ 10000) ∧ (allE y.c).length ≤ 39000
theorem flat_le {c : List (List Row)} {X : List Row} (h : X ∈ c) : X.flatten.length ≤ (allE c).length := by
  obtain ⟨a, b, rfl⟩ := List.append_of_mem h
  simp only [allE, List.flatten_append, List.flatten_cons, List.length_append]
  omega
/-- how many steps a mending has -/
theorem cutE_le {w : Nat} (hw : 0 < w) (l : Row) : (cutE w l).length ≤ l.length + 1 := by
  rw [cutE_len hw]
  have := Nat.div_le_self (l.length - 1) w
  omega
theorem parts_sum {r : Int} : ∀ (es : Row) (n : Nat), ((List.range n).map fun (i : Nat) => (es.filter fun e => decide (roomOf e.1 r = (i : Int))).length).sum ≤ es.length
  | [], n => by
    have : (List.range n).map (fun (i : Nat) => (([] : Row).filter fun e => decide (roomOf e.1 r = (i : Int))).length) = (List.range n).map fun _ => 0 := rfl
    rw [this]
    induction n with
    | zero => exact Nat.le_refl _
    | succ n ih => rw [List.range_succ, List.map_append, List.sum_append]; simpa using ih rfl
  | e :: es, n => by
    have ih := parts_sum (r := r) es n
    have h2 : ∀ n : Nat, ((List.range n).map fun (i : Nat) => ((e :: es).filter fun e => decide (roomOf e.1 r = (i : Int))).length).sum ≤ ((List.range n).map fun (i : Nat) => (es.filter fun e => decide (roomOf e.1 r = (i : Int))).length).sum + (if 0 ≤ roomOf e.1 r ∧ roomOf e.1 r < n then 1 else 0) := fun n => by
      clear ih
      induction n with
      | zero => exact Nat.zero_le _
      | succ n ih =>
        rw [List.range_succ, List.map_append, List.map_append, List.sum_append, List.sum_append]
        simp only [List.map_cons, List.map_nil, List.sum_cons, List.sum_nil, Nat.add_zero]
        by_cases c : roomOf e.1 r = (n : Int)
        · rw [List.filter_cons_of_pos (by simpa using c), List.length_cons]
          rw [if_neg (by omega)] at ih
          rw [if_pos (by omega)]
          omega
        · rw [List.filter_cons_of_neg (by simpa using c)]
          by_cases c2 : 0 ≤ roomOf e.1 r ∧ roomOf e.1 r < (n : Int)
          · rw [if_pos c2] at ih
            rw [if_pos (by omega)]
            omega
          · rw [if_neg c2] at ih
            rw [if_neg (by omega)]
            omega
    have h3 := h2 n
    rw [List.length_cons]
    have h4 : (if 0 ≤ roomOf e.1 r ∧ roomOf e.1 r < (n : Int) then 1 else 0) ≤ 1 := by split <;> omega
    omega
section
variable {K : PySem.W.Frag} {H Z : Hp} {Q : VK} {l D : Addr} {v : V} {α : Type} [Py α] {x : α}
theorem Lm.last {xs : List α} (a : Lm Z H D (xs ++ [x])) (q : ∀ v, Ik Z v x → Q v H) : rIx K (.ref D) (.int (-1)) H Q := by
  obtain ⟨⟨vs, h1, h2⟩, _, _⟩ := a
  obtain ⟨vs', v, rfl, h3, h4⟩ := paired_snoc_inv h2
  exact s_ixL (sq_of h1) (v := v) (atI_last _ _) (q v h4)
end
/-! a clean yard stands as it is -/
theorem Keys1.nodup {l : Row} (h : Keys1 l) : l.Nodup := List.Pairwise.of_map Prod.fst (fun a b g e => g (congrArg Prod.fst e)) h
theorem allE_clean {w : Nat} (hw : 0 < w) {r : Int} {es : Row} : (allE (cleanC w r es)).length ≤ es.length := by
  have h := parts_sum (r := r) es r.toNat
  unfold cleanC
  revert h
  generalize r.toNat = n
  intro h
  refine Nat.le_trans (Nat.le_of_eq ?_) h
  clear h
  induction n with
  | zero => rfl
  | succ n ih =>
    have e2 : (allE [cutE w (partE r es n)]).length = (es.filter fun e => decide (roomOf e.1 r = (n : Int))).length := by
      show (List.flatten (List.flatten [cutE w (partE r es n)])).length = _
      rw [List.flatten_cons, List.flatten_nil, List.append_nil, cutE_flat hw]
      exact sortE_len _
    rw [List.range_succ, List.map_append, List.map_append, List.sum_append, ← ih]
    simp only [allE, List.flatten_append, List.length_append, List.map_cons, List.map_nil, List.sum_cons, List.sum_nil, Nat.add_zero] at e2 ⊢
    omega
theorem clean_YB {w r : Int} {es : Row} (hw : 1 ≤ w) (hw2 : w ≤ 1000) (hr : 1 ≤ r) (hr2 : r ≤ 1000) (hl : es.length ≤ 9000) : YB (cleanY w r es) := by
  have a := allE_clean (w := w.toNat) (by omega) (r := r) (es := es)
  refine ⟨hw, hw2, hr, hr2, by show (cleanC w.toNat r es).length ≤ _; rw [cleanC_len]; omega, fun rs h => ?_, by show (allE (cleanC w.toNat r es)).length ≤ _; omega⟩
  obtain ⟨i, _, rfl⟩ := List.mem_map.mp h
  have c := cutE_le (w := w.toNat) (by omega) (partE r es i)
  have p : (partE r es i).length = (es.filter fun e => decide (roomOf e.1 r = (i : Int))).length := sortE_len _
  have q := List.length_filter_le (fun e : Ent => decide (roomOf e.1 r = (i : Int))) es
  omega
theorem clean_mem {w r : Int} {es : Row} (hw : 1 ≤ w) {X : List Row} {x : Row} {e : Ent} (hX : X ∈ (cleanY w r es).c) (hx : x ∈ X) (he : e ∈ x) : e ∈ es := by
  obtain ⟨i, _, rfl⟩ := List.mem_map.mp hX
  have h : e ∈ (cutE w.toNat (partE r es i)).flatten := List.mem_flatten.mpr ⟨x, hx, he⟩
  rw [cutE_flat (by omega)] at h
  exact (partE_mem.mp h).1
end TR

/-! changes by their names -/
namespace TR
open PySem L2
def tSplit : Tx := ⟨"split", by decide +kernel⟩
def tJoin : Tx := ⟨"join", by decide +kernel⟩
def tPut : Tx := ⟨"put", by decide +kernel⟩
def tDrop : Tx := ⟨"drop", by decide +kernel⟩
def tRoom : Tx := ⟨"room", by decide +kernel⟩
def tLack : Tx := ⟨"lacking", by decide +kernel⟩
def tTold : Tx := ⟨"told", by decide +kernel⟩
def tNone : Tx := ⟨"", by decide +kernel⟩
def okC (r : Int) (es : Row) (way : Str) (k : Int) : Prop := ¬ (way = "join" ∧ r = 1) ∧ ¬ (way = "drop" ∧ k ∉ es.map Prod.fst)
def WayS (way : Str) : Prop := way = "split" ∨ way = "join" ∨ way = "drop" ∨ way = "put"
def chS (y : Yard) (way : Str) (k : Int) (t : Tx) : List Stp := if way = "split" then splitS y else if way = "join" then joinS y else if way = "drop" then dropS y k else putS y k t
def rN (r : Int) (way : Str) : Int := if way = "split" then r + 1 else if way = "join" then r - 1 else r
def esN (es : Row) (way : Str) (k : Int) (t : Tx) : Row := if way = "drop" then outE es k else if way = "put" then putE es k t else es
theorem perm_of_sub {α : Type} : ∀ {l m : List α}, l.Nodup → (∀ a ∈ l, a ∈ m) → m.length ≤ l.length → l.Perm m
  | [], m, _, _, h => by
    rw [List.eq_nil_of_length_eq_zero (Nat.le_zero.mp h)]
  | x :: l, m, n, s, h => by
    obtain ⟨a, b, rfl⟩ := List.append_of_mem (s x List.mem_cons_self)
    obtain ⟨n1, n2⟩ := List.nodup_cons.mp n
    have p := perm_of_sub (l := l) (m := a ++ b) n2 (fun y hy => by
      have := s y (List.mem_cons_of_mem _ hy)
      rw [List.mem_append, List.mem_cons] at this
      rw [List.mem_append]
      rcases this with h | h | h
      · exact .inl h
      · exact absurd (h ▸ hy) n1
      · exact .inr h) (by rw [List.length_append, List.length_cons, List.length_cons] at h; rw [List.length_append]; omega)
    exact (List.Perm.cons x p).trans List.perm_middle.symm
/-- all that a clean yard holds -/
theorem allE_perm {w r : Int} {es : Row} (hw : 1 ≤ w) (hr : 1 ≤ r) (k : Keys1 es) : (allE (cleanY w r es).c).Perm es := by
  refine (perm_of_sub k.nodup (fun e he => ?_) (allE_clean (w := w.toNat) (by omega))).symm
  obtain ⟨h1, h2⟩ := room_nat (k := e.1) hr
  have h3 : e ∈ (cutE w.toNat (partE r es (roomOf e.1 r).toNat)).flatten := by
    rw [cutE_flat (by omega)]
    exact partE_mem.mpr ⟨he, h1⟩
  obtain ⟨x, hx, he2⟩ := List.mem_flatten.mp h3
  exact List.mem_flatten.mpr ⟨x, List.mem_flatten.mpr ⟨_, List.mem_of_getElem? (cleanC_at h2), hx⟩, he2⟩
section
variable {r k : Int} {es : Row}
end
/-! a display of two pairs -/
def Disp2 (p : Addr) (x1 y1 x2 y2 : V) (H : Hp) (Q : VK) : Prop := H p = some (.dK []) ∧ ∃ kvs : List (L2.Key × V), [(x1, y1), (x2, y2)] = kvs.map (fun kv => (kV kv.1, kv.2)) ∧ kvs.length ≤ 15 ∧ Q (.ref p) (upd H p (.dK (mergeK [] kvs)))
theorem Ls.l3 {Z : Hp} {p : Addr} {α : Type} [Py α] {x y z : α} {u v w : V} (h : Z p = some (.lst [u, v, w])) (i : Ik Z u x) (j : Ik Z v y) (k : Ik Z w z) : Ls Z p [x, y, z] := ⟨_, h, .cons i (.cons j (.cons k .nil))⟩
end TR

/-! len(set(xs)): how many unlike ones; whether a yard is clean -/
namespace TR
open PySem L2 PySem.Spec PyProof.Rows
def unlike (ns : List Int) : Nat := (PyProof.Rows.firstMet (fun i => ns.getD i 0) ns.length).length
def tLenSetA (K : PySem.W.Frag) (ta : TE) : TE := fun σ H Q => ta σ H fun x H1 => ∃ (l : Addr) (ns : List Int), x = .ref l ∧ SqL K H1 l (ns.map V.int) ∧ ns.length ≤ 4000 ∧ Q (.int (unlike ns : Nat)) H1
theorem pe_lenSetA {X : Cx} {K : PySem.W.Frag} {a : Expr} {ta : TE} {p p2 q pos : Pos} (hK : X.K = K) (hg : Gl X "len") (hm : X.mg "len" = none) (hg2 : Gl X "set") (hm2 : X.mg "set" = none) (ha : PE X a ta) (hc : X.calm = true := by rfl)
    (na : starEach [a] X.env = (false, eval a X.env) :: starEach [] X.env := by rfl) : PE X (.Call (.Name "len" p) [.Call (.Name "set" p2) [a] [] q] [] pos) (tLenSetA K ta) := by
  subst hK
  refine ⟨fun pins s σ H Q I h => ?_⟩
  refine Call_ (ld_blt I hg hm boot_len ?_)
  refine PyProof.Rows.callWith_builtin1 (PyProof.Rows.args_cons ?_ rfl) rfl rfl
  refine Call_ (ld_blt I hg2 hm2 boot_set ?_)
  refine PyProof.Rows.callWith_type1 (PyProof.Rows.args_cons (thn (ha.run pins s σ H _ I h) fun v s1 ⟨x, H1, I1, r1, q1⟩ => PyProof.Rows.args_nil ?_) na) na rfl
  obtain ⟨l, ns, rfl, hq, hl, q1⟩ := q1
  cases r1
  obtain ⟨its, r, pl, hz⟩ := I1.list hq
  have hlen : its.toArray.size = ns.length := by rw [List.size_toArray, ← r.length, List.length_map]
  refine call_set_list (I1.ok.hd hc) pl.isList (by simpa using RZ.intsAre_vals r) (by rw [hlen]; unfold scanBound; omega) fun h' tk hS hk => ?_
  refine PyProof.Rows.args_nil ?_
  rw [hlen] at hS
  have ul : unlike ns ≤ ns.length := PyProof.Rows.firstMet_length_le _ _
  obtain ⟨o, es, ep, t, ho, hex, hd, _, _, _, hf, hn⟩ := hS
  have I2 : Inv X pins σ H1 { s1 with heap := h', toks := tk } := I1.kept fun b o e => hk b o (Heap.lt_size e) e
  exact call_len_set ho hex hd hf (by rw [hn]; unfold unlike at ul; omega) ⟨.int (unlike ns), H1, I2.tok _, ⟨_, by rw [hn]; rfl⟩, q1⟩
theorem s_lenSet {K : PySem.W.Frag} {ta : TE} {σ : L2.St} {H : Hp} {Q : VK} (q : ta σ H fun x H1 => ∃ (l : Addr) (ns : List Int), x = .ref l ∧ SqL K H1 l (ns.map V.int) ∧ ns.length ≤ 4000 ∧ Q (.int (unlike ns : Nat)) H1) : tLenSetA K ta σ H Q := q
theorem unlike_step {ns : List Int} : ∀ i, i ≤ ns.length → (PyProof.Rows.firstMet (fun i => ns.getD i 0) i).length = i → (ns.take i).Nodup ∧ PyProof.Rows.firstMet (fun i => ns.getD i 0) i = ns.take i
  | 0, _, _ => ⟨List.nodup_nil, rfl⟩
  | i + 1, hi, h => by
    have hlt : i < ns.length := hi
    have e1 : ns.getD i 0 = ns[i] := by rw [List.getD_eq_getElem?_getD, List.getElem?_eq_getElem hlt]; rfl
    have e2 : ns.take (i + 1) = ns.take i ++ [ns[i]] := by rw [List.take_add_one, List.getElem?_eq_getElem hlt]; rfl
    have hle := PyProof.Rows.firstMet_length_le (fun i => ns.getD i 0) i
    rw [PyProof.Rows.firstMet_succ] at h ⊢
    unfold PyProof.Rows.step_dedup at h ⊢
    by_cases c : (PyProof.Rows.firstMet (fun i => ns.getD i 0) i).any (· == ns.getD i 0) = true
    · rw [if_pos c] at h
      omega
    · rw [if_neg c] at h ⊢
      rw [List.length_append, List.length_singleton] at h
      obtain ⟨h1, h2⟩ := unlike_step i (Nat.le_of_lt hlt) (by omega)
      rw [h2] at c ⊢
      rw [e1] at c ⊢
      refine ⟨?_, e2.symm⟩
      rw [e2]
      refine List.nodup_append.mpr ⟨h1, List.nodup_cons.mpr ⟨List.not_mem_nil, List.nodup_nil⟩, fun a ha b hb e => ?_⟩
      rw [List.mem_singleton.mp hb] at e
      exact c (List.any_eq_true.mpr ⟨a, ha, by rw [e]; exact beq_self_eq_true _⟩)
theorem unlike_iff {ns : List Int} : unlike ns = ns.length ↔ ns.Nodup := by
  constructor
  · intro h
    have := (unlike_step ns.length (Nat.le_refl _) h).1
    rwa [List.take_length] at this
  · intro h
    unfold unlike
    rw [RZ.firstMet_nodup h ns.length (Nat.le_refl _), List.take_length]
/-- the clean yard of what it holds -/
def CleanP (y : Yard) : Prop := Keys1 (allE y.c) ∧ y = cleanY y.a y.b (allE y.c)
theorem clean_P {w r : Int} {es : Row} (hw : 1 ≤ w) (hr : 1 ≤ r) (k : Keys1 es) : CleanP (cleanY w r es) := by
  have p := allE_perm (w := w) (r := r) hw hr k
  exact ⟨k.perm p, clean_perm k p.symm⟩
end TR

/-! a yard's lists, each its asker's own, whichever stands where: only what each may hold is known -/
namespace TR
open PySem L2
structure LY (Z H : Hp) (D : Addr) (qs F : List Addr) (κ μ : Addr → Nat) (P : Ent → Prop) (S n m : Nat) : Prop where
  own : ∃ ps : List Addr, H D = some (.lst (ps.map V.ref)) ∧ ps.length ≤ n ∧ (∀ p ∈ ps, p ∈ qs) ∧ (ps.map μ).sum ≤ S
  nd : D ∉ qs
  nf : ∀ q ∈ D :: qs, q ∉ F
  z : ∀ q ∈ D :: (qs ++ F), Z q = none
  zh : Ex Z H
  rooms : ∀ q ∈ qs, ∃ ws : List Addr, H q = some (.lst (ws.map V.ref)) ∧ ws.length ≤ m ∧ (∀ w ∈ ws, w ∈ F) ∧ (ws.map κ).sum ≤ μ q
  rows : ∀ w ∈ F, ∃ r : Row, RowO Z H w r ∧ r.length ≤ κ w ∧ ∀ e ∈ r, P e
section
variable {Z H Z' H' : Hp} {D q w e : Addr} {M qs F : List Addr} {κ μ : Addr → Nat} {P : Ent → Prop} {S n m : Nat} {Q : VK} {v : V}
theorem LY.al (s : LY Z H D qs F κ μ P S n m) : ∀ b ∈ D :: (qs ++ F), ∃ o, H b = some o := fun b hb => by
  rcases List.mem_cons.mp hb with h | hb
  · obtain ⟨ps, h1, _⟩ := s.own
    rw [h]; exact ⟨_, h1⟩
  · rcases List.mem_append.mp hb with hb | hb
    · obtain ⟨ws, h, _⟩ := s.rooms b hb
      exact ⟨_, h⟩
    · obtain ⟨r, ⟨vs, h, _⟩, _⟩ := s.rows b hb
      exact ⟨_, h⟩
theorem LY.tt (t : T M Z H Z' H') (hM : ∀ b ∈ D :: (qs ++ F), b ∉ M) (s : LY Z H D qs F κ μ P S n m) : LY Z' H' D qs F κ μ P S n m := by
  refine ⟨?_, s.nd, s.nf, fun b hb => t.fr b (hM b hb) (s.z b hb) (s.al b hb), t.zh, fun q hq => ?_, fun w hw => ?_⟩
  · obtain ⟨ps, h1, h2⟩ := s.own
    exact ⟨ps, t.hp (hM D List.mem_cons_self) h1, h2⟩
  · obtain ⟨ws, h1, h2⟩ := s.rooms q hq
    exact ⟨ws, t.hp (hM q (List.mem_cons_of_mem _ (List.mem_append_left _ hq))) h1, h2⟩
  · obtain ⟨r, h1, h2⟩ := s.rows w hw
    exact ⟨r, h1.tt t (hM w (List.mem_cons_of_mem _ (List.mem_append_right _ hw))), h2⟩
theorem LY.tt0 (t : T [] Z H Z' H') (s : LY Z H D qs F κ μ P S n m) : LY Z' H' D qs F κ μ P S n m := s.tt t fun _ _ => nm_nil
theorem LY.memR (hq : q ∈ qs) : q ∈ D :: (qs ++ F) := List.mem_cons_of_mem _ (List.mem_append_left _ hq)
theorem LY.memW (hw : w ∈ F) : w ∈ D :: (qs ++ F) := List.mem_cons_of_mem _ (List.mem_append_right _ hw)
theorem LY.not (s : LY Z H D qs F κ μ P S n m) (h : H q = none) : q ∉ D :: (qs ++ F) := fun z => by
  obtain ⟨o, ho⟩ := s.al q z
  rw [h] at ho
  cases ho
/-- a row is written anew -/
theorem LY.setRow {vs : List V} {r : Row} (s : LY Z H D qs F κ μ P S n m) (hw : w ∈ F) (pr : Paired (fun v x => Ik Z v x) vs r) (hl : r.length ≤ κ w) (hp : ∀ e ∈ r, P e) :
    T [w] Z H Z (upd H w (.lst vs)) ∧ LY Z (upd H w (.lst vs)) D qs F κ μ P S n m := by
  have mw : Mu Z H w := ⟨s.z w (LY.memW hw), s.al w (LY.memW hw)⟩
  have t : T [w] Z H Z (upd H w (.lst vs)) := T.set mw s.zh
  refine ⟨t, ?_, s.nd, s.nf, s.z, t.zh, fun q hq => ?_, fun b hb => ?_⟩
  · obtain ⟨ps, h1, h2⟩ := s.own
    exact ⟨ps, t.hp (nm_cons (fun z => s.nf D List.mem_cons_self (z ▸ hw)) nm_nil) h1, h2⟩
  · obtain ⟨ws, h1, h2⟩ := s.rooms q hq
    exact ⟨ws, t.hp (nm_cons (fun z => s.nf q (List.mem_cons_of_mem _ hq) (z ▸ hw)) nm_nil) h1, h2⟩
  · by_cases c : b = w
    · subst c
      exact ⟨r, ⟨vs, upd_same, pr⟩, hl, hp⟩
    · obtain ⟨x, h1, h2⟩ := s.rows b hb
      exact ⟨x, h1.tt t (nm_cons c nm_nil), h2⟩
/-- a room is written anew -/
theorem LY.setRoom {ws : List Addr} (s : LY Z H D qs F κ μ P S n m) (hq : q ∈ qs) (hl : ws.length ≤ m) (hF : ∀ w ∈ ws, w ∈ F) (hs : (ws.map κ).sum ≤ μ q) :
    T [q] Z H Z (upd H q (.lst (ws.map V.ref))) ∧ LY Z (upd H q (.lst (ws.map V.ref))) D qs F κ μ P S n m := by
  have mq : Mu Z H q := ⟨s.z q (LY.memR hq), s.al q (LY.memR hq)⟩
  have t : T [q] Z H Z (upd H q (.lst (ws.map V.ref))) := T.set mq s.zh
  refine ⟨t, ?_, s.nd, s.nf, s.z, t.zh, fun b hb => ?_, fun b hb => ?_⟩
  · obtain ⟨ps, h1, h2⟩ := s.own
    exact ⟨ps, t.hp (nm_cons (fun z => s.nd (z ▸ hq)) nm_nil) h1, h2⟩
  · by_cases c : b = q
    · subst c
      exact ⟨ws, upd_same, hl, hF, hs⟩
    · obtain ⟨us, h1, h2⟩ := s.rooms b hb
      exact ⟨us, t.hp (nm_cons c nm_nil) h1, h2⟩
  · obtain ⟨x, h1, h2⟩ := s.rows b hb
    exact ⟨x, h1.tt t (nm_cons (fun z => s.nf q (List.mem_cons_of_mem _ hq) (z ▸ hb)) nm_nil), h2⟩
/-- the list of rooms is written anew -/
theorem LY.setD {ps : List Addr} (s : LY Z H D qs F κ μ P S n m) (hl : ps.length ≤ n) (hq : ∀ p ∈ ps, p ∈ qs) (hs : (ps.map μ).sum ≤ S) :
    T [D] Z H Z (upd H D (.lst (ps.map V.ref))) ∧ LY Z (upd H D (.lst (ps.map V.ref))) D qs F κ μ P S n m := by
  have md : Mu Z H D := ⟨s.z D List.mem_cons_self, s.al D List.mem_cons_self⟩
  have t : T [D] Z H Z (upd H D (.lst (ps.map V.ref))) := T.set md s.zh
  refine ⟨t, ⟨ps, upd_same, hl, hq, hs⟩, s.nd, s.nf, s.z, t.zh, fun b hb => ?_, fun b hb => ?_⟩
  · obtain ⟨us, h1, h2⟩ := s.rooms b hb
    exact ⟨us, t.hp (nm_cons (fun z => s.nd (z ▸ hb)) nm_nil) h1, h2⟩
  · obtain ⟨x, h1, h2⟩ := s.rows b hb
    exact ⟨x, h1.tt t (nm_cons (fun z => s.nf D List.mem_cons_self (z ▸ hb)) nm_nil), h2⟩
/-- one more row that may stand somewhere -/
theorem LY.addRow {vs : List V} {r : Row} (s : LY Z H D qs F κ μ P S n m) (me : Mu Z H e) (ne : e ∉ D :: (qs ++ F)) (fe : H e = some (.lst vs)) (pr : Paired (fun v x => Ik Z v x) vs r) (hp : ∀ x ∈ r, P x) (k : Nat) (hk : r.length ≤ k) :
    LY Z H D qs (e :: F) (fun a => if a = e then k else κ a) μ P S n m := by
  have nF : ∀ w ∈ F, w ≠ e := fun w hw z => ne (z ▸ LY.memW hw)
  refine ⟨s.own, s.nd, fun b hb z => ?_, fun b hb => ?_, s.zh, fun q hq => ?_, fun w hw => ?_⟩
  · rcases List.mem_cons.mp z with h | z
    · refine ne (h ▸ ?_)
      rcases List.mem_cons.mp hb with hb | hb
      · rw [hb]; exact List.mem_cons_self
      · exact LY.memR hb
    · exact s.nf b hb z
  · rcases List.mem_cons.mp hb with h | hb
    · rw [h]; exact s.z D List.mem_cons_self
    · rcases List.mem_append.mp hb with hb | hb
      · exact s.z b (LY.memR hb)
      · rcases List.mem_cons.mp hb with h | hb
        · rw [h]; exact me.z
        · exact s.z b (LY.memW hb)
  · obtain ⟨ws, h1, h2, h3, h4⟩ := s.rooms q hq
    refine ⟨ws, h1, h2, fun w hw => List.mem_cons_of_mem _ (h3 w hw), ?_⟩
    have : ws.map (fun a => if a = e then k else κ a) = ws.map κ := List.map_congr_left fun a ha => if_neg (nF a (h3 a ha))
    rw [this]
    exact h4
  · by_cases c : w = e
    · subst c
      exact ⟨r, ⟨vs, fe, pr⟩, by rw [if_pos rfl]; exact hk, hp⟩
    · obtain ⟨x, h1, h2, h3⟩ := s.rows w ((List.mem_cons.mp hw).resolve_left c)
      exact ⟨x, h1, by rw [if_neg c]; exact h2, h3⟩
/-- one more room that may stand somewhere -/
theorem LY.addRoom (s : LY Z H D qs F κ μ P S n m) (me : Mu Z H e) (ne : e ∉ D :: (qs ++ F)) (fe : H e = some (.lst [])) :
    LY Z H D (e :: qs) F κ (fun a => if a = e then 0 else μ a) P S n m := by
  have nq : ∀ w ∈ qs, w ≠ e := fun w hw z => ne (z ▸ LY.memR hw)
  refine ⟨?_, fun z => ?_, fun b hb z => ?_, fun b hb => ?_, s.zh, fun q hq => ?_, s.rows⟩
  · obtain ⟨ps, h1, h2, h3, h4⟩ := s.own
    refine ⟨ps, h1, h2, fun p hp => List.mem_cons_of_mem _ (h3 p hp), ?_⟩
    have : ps.map (fun a => if a = e then 0 else μ a) = ps.map μ := List.map_congr_left fun a ha => if_neg (nq a (h3 a ha))
    rw [this]
    exact h4
  · rcases List.mem_cons.mp z with h | z
    · exact ne (h ▸ List.mem_cons_self)
    · exact s.nd z
  · rcases List.mem_cons.mp hb with h | hb
    · exact s.nf b (h ▸ List.mem_cons_self) z
    · rcases List.mem_cons.mp hb with h | hb
      · exact ne (h ▸ LY.memW z)
      · exact s.nf b (List.mem_cons_of_mem _ hb) z
  · rcases List.mem_cons.mp hb with h | hb
    · rw [h]; exact s.z D List.mem_cons_self
    · rcases List.mem_append.mp hb with hb | hb
      · rcases List.mem_cons.mp hb with h | hb
        · rw [h]; exact me.z
        · exact s.z b (LY.memR hb)
      · exact s.z b (LY.memW hb)
  · by_cases c : q = e
    · subst c
      exact ⟨[], fe, Nat.zero_le _, fun w hw => absurd hw List.not_mem_nil, by rw [if_pos rfl]; exact Nat.le_refl _⟩
    · obtain ⟨ws, h1, h2, h3, h4⟩ := s.rooms q ((List.mem_cons.mp hq).resolve_left c)
      exact ⟨ws, h1, h2, h3, by rw [if_neg c]; exact h4⟩
/-- it stays as it is from now on -/
theorem LY.frq (s : LY Z H D qs F κ μ P S n m) : ∃ (c : List (List Row)) (Z' H' : Hp), H' = H ∧ T (D :: (qs ++ F)) Z H Z' H' ∧ Ls Z' D c ∧ c.length ≤ n ∧ (∀ X ∈ c, X.length ≤ m) ∧ (c.flatten.flatten.length ≤ S) ∧ (∀ X ∈ c, ∀ x ∈ X, ∀ e ∈ x, P e) := by
  have zf : ∀ q ∈ D :: (qs ++ F), Z q = none := s.z
  have t : T (D :: (qs ++ F)) Z H (onH Z H (D :: (qs ++ F))) H := T.fzs s.zh zf
  have onIn : ∀ b ∈ D :: (qs ++ F), onH Z H (D :: (qs ++ F)) b = H b := fun b hb => on_in hb
  generalize onH Z H (D :: (qs ++ F)) = Z' at t onIn
  have hrow : ∀ w ∈ F, ∃ r : Row, Ik Z' (.ref w) r ∧ r.length ≤ κ w ∧ ∀ e ∈ r, P e := fun w hw => by
    obtain ⟨r, ⟨vs, h1, h2⟩, h3⟩ := s.rows w hw
    exact ⟨r, Ik.of_list ((onIn w (LY.memW hw)).trans h1) (Paired.mapP h2 fun v x g => Ik.ex t.z g), h3⟩
  have hws : ∀ ws : List Addr, (∀ w ∈ ws, w ∈ F) → ∃ X : List Row, Paired (fun v x => Ik Z' v x) (ws.map V.ref) X ∧ X.flatten.length ≤ (ws.map κ).sum ∧ ∀ x ∈ X, ∀ e ∈ x, P e := by
    intro ws
    induction ws with
    | nil => exact fun _ => ⟨[], .nil, Nat.le_refl _, fun x hx => absurd hx List.not_mem_nil⟩
    | cons w ws ih =>
      intro h
      obtain ⟨X, x1, x2, x3⟩ := ih fun b hb => h b (List.mem_cons_of_mem _ hb)
      obtain ⟨r, r1, r2, r3⟩ := hrow w (h w List.mem_cons_self)
      refine ⟨r :: X, .cons r1 x1, ?_, fun x hx => ?_⟩
      · rw [List.flatten_cons, List.length_append, List.map_cons, List.sum_cons]
        omega
      · rcases List.mem_cons.mp hx with e | hx
        · rw [e]; exact r3
        · exact x3 x hx
  have hroom : ∀ q ∈ qs, ∃ X : List Row, Ik Z' (.ref q) X ∧ X.length ≤ m ∧ X.flatten.length ≤ μ q ∧ ∀ x ∈ X, ∀ e ∈ x, P e := fun q hq => by
    obtain ⟨ws, h1, h2, h3, h4⟩ := s.rooms q hq
    obtain ⟨X, x1, x2, x3⟩ := hws ws h3
    have lx := Paired.length x1
    rw [List.length_map] at lx
    exact ⟨X, Ik.of_list ((onIn q (LY.memR hq)).trans h1) x1, by omega, by omega, x3⟩
  have hps : ∀ ps : List Addr, (∀ p ∈ ps, p ∈ qs) → ∃ c : List (List Row), Paired (fun v x => Ik Z' v x) (ps.map V.ref) c ∧ c.flatten.flatten.length ≤ (ps.map μ).sum ∧ ∀ X ∈ c, X.length ≤ m ∧ ∀ x ∈ X, ∀ e ∈ x, P e := by
    intro ps
    induction ps with
    | nil => exact fun _ => ⟨[], .nil, Nat.le_refl _, fun x hx => absurd hx List.not_mem_nil⟩
    | cons p ps ih =>
      intro h
      obtain ⟨c, c1, c2, c3⟩ := ih fun b hb => h b (List.mem_cons_of_mem _ hb)
      obtain ⟨X, x1, x2, x3, x4⟩ := hroom p (h p List.mem_cons_self)
      refine ⟨X :: c, .cons x1 c1, ?_, fun Y hY => ?_⟩
      · rw [List.flatten_cons, List.flatten_append, List.length_append, List.map_cons, List.sum_cons]
        omega
      · rcases List.mem_cons.mp hY with e | hY
        · rw [e]; exact ⟨x2, x4⟩
        · exact c3 Y hY
  obtain ⟨ps, h1, h2, h3, h4⟩ := s.own
  obtain ⟨c, c1, c2, c3⟩ := hps ps h3
  have lc := Paired.length c1
  rw [List.length_map] at lc
  exact ⟨c, Z', H, rfl, t, ⟨_, (onIn D List.mem_cons_self).trans h1, c1⟩, by omega, fun X hX => (c3 X hX).1, by omega, fun X hX => (c3 X hX).2⟩
end
def kap (H : Hp) (w : Addr) : Nat := match H w with | some (.lst vs) => vs.length + 1 | _ => 0
def muu (H : Hp) (q : Addr) : Nat := match H q with | some (.lst us) => (us.map fun v => match v with | .ref w => kap H w | _ => 0).sum + 20 | _ => 0
theorem kap_at {H : Hp} {w : Addr} {vs : List V} (h : H w = some (.lst vs)) : kap H w = vs.length + 1 := by
  unfold kap
  rw [h]
theorem muu_at {H : Hp} {q : Addr} {ws : List Addr} (h : H q = some (.lst (ws.map V.ref))) : muu H q = (ws.map (kap H)).sum + 20 := by
  unfold muu
  rw [h]
  show ((ws.map V.ref).map _).sum + 20 = _
  rw [List.map_map]
  rfl
section
variable {Z H : Hp} {D : Addr} {qs F : List Addr} {rss : List (List Row)} {P : Ent → Prop} {S n m : Nat}
theorem kap_sum {ws : List Addr} {X : List Row} (h : Paired (fun w r => RowO Z H w r) ws X) : (ws.map (kap H)).sum = (X.map fun x => x.length + 1).sum := by
  induction h with
  | nil => rfl
  | cons a t ih =>
    obtain ⟨vs, h1, h2⟩ := a
    rw [List.map_cons, List.map_cons, List.sum_cons, List.sum_cons, ih, kap_at h1, Paired.length h2]
/-- a yard of its asker's own, as loose lists -/
theorem Y3.ly (y : Y3 Z H D qs F rss) (hn : rss.length ≤ n) (hm : ∀ X ∈ rss, X.length ≤ m) (hp : ∀ X ∈ rss, ∀ x ∈ X, ∀ e ∈ x, P e) (hS : (rss.map fun X => (X.map fun x => x.length + 1).sum + 20).sum ≤ S) :
    ∃ G : List Addr, (∀ w ∈ G, w ∈ F) ∧ LY Z H D qs G (kap H) (muu H) P S n m := by
  have key : ∀ {qs : List Addr} {rss : List (List Row)}, Paired (fun q rs => RoomO Z H F q rs) qs rss → (∀ X ∈ rss, X.length ≤ m) → (∀ X ∈ rss, ∀ x ∈ X, ∀ e ∈ x, P e) →
      ∃ G : List Addr, (∀ w ∈ G, w ∈ F) ∧ (∀ q ∈ qs, ∃ ws : List Addr, H q = some (.lst (ws.map V.ref)) ∧ ws.length ≤ m ∧ (∀ w ∈ ws, w ∈ G) ∧ (ws.map (kap H)).sum ≤ muu H q) ∧ (∀ w ∈ G, ∃ r : Row, RowO Z H w r ∧ r.length ≤ kap H w ∧ ∀ e ∈ r, P e) ∧
        (qs.map (muu H)).sum = (rss.map fun X => (X.map fun x => x.length + 1).sum + 20).sum := by
    intro qs rss h
    induction h with
    | nil => exact fun _ _ => ⟨[], by simp, by simp, by simp, rfl⟩
    | @cons q X qs rss a t ih =>
      intro hm hp
      obtain ⟨G, g1, g2, g3, g4⟩ := ih (fun X hX => hm X (List.mem_cons_of_mem _ hX)) (fun X hX => hp X (List.mem_cons_of_mem _ hX))
      obtain ⟨ws, h1, h2, h3⟩ := a
      have mq := muu_at h1
      have ks := kap_sum h3
      refine ⟨ws ++ G, fun w hw => ?_, fun b hb => ?_, fun w hw => ?_, ?_⟩
      · rcases List.mem_append.mp hw with hw | hw
        · exact h2 w hw
        · exact g1 w hw
      · rcases List.mem_cons.mp hb with e | hb
        · subst e
          exact ⟨ws, h1, by rw [Paired.length h3]; exact hm X List.mem_cons_self, fun w hw => List.mem_append_left _ hw, by omega⟩
        · obtain ⟨us, k1, k2, k3, k4⟩ := g2 b hb
          exact ⟨us, k1, k2, fun w hw => List.mem_append_right _ (k3 w hw), k4⟩
      · rcases List.mem_append.mp hw with hw | hw
        · obtain ⟨i, hi⟩ := List.mem_iff_getElem?.mp hw
          obtain ⟨r, hr, vs, k1, k2⟩ := RW.at' h3 hi
          exact ⟨r, ⟨vs, k1, k2⟩, by rw [kap_at k1, Paired.length k2]; exact Nat.le_succ _, hp X List.mem_cons_self r (List.mem_of_getElem? hr)⟩
        · exact g3 w hw
      · rw [List.map_cons, List.map_cons, List.sum_cons, List.sum_cons, g4, mq, ks]
  obtain ⟨G, g1, g2, g3, g4⟩ := key y.rows hm hp
  refine ⟨G, g1, ⟨qs, y.own, by rw [y.len]; exact hn, fun p hp => hp, by rw [g4]; exact hS⟩, (List.nodup_cons.mp y.nd).1, fun q hq z => y.nf q hq (g1 q z), fun q hq => y.z q ?_, y.zh, g2, g3⟩
  rcases List.mem_cons.mp hq with e | hq
  · rw [e]; exact List.mem_cons_self
  · rcases List.mem_append.mp hq with hq | hq
    · exact List.mem_cons_of_mem _ (List.mem_append_left _ hq)
    · exact List.mem_cons_of_mem _ (List.mem_append_right _ (g1 q hq))
end
end TR
namespace TR
open PySem L2
section
variable {K : PySem.W.Frag} {Z H : Hp} {Q : VK} {a : Addr} {α : Type} [Py α] {l : List α}
/-- a slice, the asker's own -/
theorem t_slLM {lo hi : Option Int} (z : Ex Z H) (h : Li Z H a l) (q : ∀ p H', H p = none → T [] Z H Z H' → Mu Z H' p → Li Z H' p (cutI l lo hi) → Q (.ref p) H') : rSlL K (.ref a) lo hi H Q := by
  obtain ⟨us, h1, h2⟩ := h
  refine s_slL (sq_of h1) fun p np => ?_
  exact q p _ np (T.newM np z) ⟨Ex.back z np, _, upd_same⟩ ⟨_, upd_same, paired_cut h2 lo hi⟩
/-- sorted entries, the asker's own -/
theorem t_sortedEM {l : Row} (z : Ex Z H) (h : Li Z H a l) (k : OneK l) (q : ∀ p H', H p = none → T [] Z H Z H' → Mu Z H' p → Li Z H' p (sortE l) → Q (.ref p) H') : rSortedPS K [.ref a] H Q := by
  obtain ⟨us, h1, h2⟩ := h
  refine n_sortedEF (sq_of h1) (Paired.mapP h2 fun v x g => (Ik.ex z g).is) k fun p ws H' n e f pr => ?_
  exact q p H' n (T.ofNewM z e) ⟨Ex.back z n, _, f⟩ ⟨ws, f, pr _ h2⟩
end
/-- the greatest of all, cut off and put on: unlike keys stay unlike -/
theorem keys_swap {X : List Row} (k : Keys1 X.flatten) {i j : Nat} {r1 r2 : Row} {a b : Ent} (hij : i < j) (h1 : X[i]? = some (r1 ++ [a])) (h2 : X[j]? = some (b :: r2)) : Keys1 (r1 ++ [b]) ∧ Keys1 (r2 ++ [a]) := by
  have s1 : (r1 ++ [a] ++ b :: r2).Sublist X.flatten := by
    have hj := List.getElem?_eq_some_iff.mp h2
    have e2 : X = X.take j ++ (b :: r2) :: X.drop (j + 1) := by
      obtain ⟨hl, he⟩ := hj
      rw [← he, ← List.drop_eq_getElem_cons hl, List.take_append_drop]
    have m1 : (r1 ++ [a]) ∈ X.take j := by
      refine List.mem_iff_getElem?.mpr ⟨i, ?_⟩
      rw [List.getElem?_take, if_pos hij]
      exact h1
    obtain ⟨A, B, eAB⟩ := List.append_of_mem m1
    rw [e2, eAB, List.flatten_append, List.flatten_append, List.flatten_cons, List.flatten_cons]
    exact ((List.sublist_append_left _ _).trans (List.sublist_append_right _ _)).append (List.sublist_append_left _ _)
  have k2 := k.sub s1
  refine ⟨k2.sub ?_, ?_⟩
  · rw [List.append_assoc]
    exact List.Sublist.append (List.Sublist.refl _) ((List.Sublist.cons_cons b (List.nil_sublist r2)).cons a)
  · have s3 : (a :: r2).Sublist (r1 ++ [a] ++ b :: r2) := by
      rw [List.append_assoc]
      exact (List.Sublist.cons_cons a (List.sublist_cons_self b r2)).trans (List.sublist_append_right r1 _)
    refine (k2.sub s3).perm ?_
    exact List.perm_append_singleton a r2
end TR

/-! a comprehension over a dict's keys -/
namespace TR
open PySem L2
section
variable {K : PySem.W.Frag} {σ : L2.St} {Z H : Hp} {tt : TT} {te td : TE} {Q : VK} {g : TG} {vs : List Nat} {d : Addr} {l : Row}
def keepAt (l : Row) (p : Ent → Bool) (i : Nat) : Bool := ((l[i]?).map p).getD false
end
end TR

/-! how many rooms so many keys ask -/
namespace TR
def roomsFor (c f : Int) : Int := max 1 (-((-c) / f))
end TR

namespace TR
/-- keys told apart by their rooms, each room's in their order -/
def spl (l : List Int) (n : Int) : List (List Int) := (List.range n.toNat).map fun (r : Nat) => l.filter fun x => decide (roomOf x n = (r : Int))
end TR

/-! tables: what an instance of Table is, in T -/
namespace TR
open PySem L2
/-- a value's kind -/
inductive KindV (K : PySem.W.Frag) (H : Hp) : V → String → Prop
  | int (i : Int) : KindV K H (.int i) "int"
  | bl (b : Bool) : KindV K H (.bl b) "bool"
  | str (x : Str) (h : x.length ≤ 100000) : KindV K H (.str x) "str"
  | non : KindV K H .non "NoneType"
  | lst {a : Addr} {xs : List V} (h : SqL K H a xs) : KindV K H (.ref a) "list"
  | tup {a : Addr} {xs : List V} (h : SqT K H a xs) : KindV K H (.ref a) "tuple"
  | dct {a : Addr} {l : List (L2.Key × V)} (h : H a = some (.dK l)) : KindV K H (.ref a) "dict"
def rListDm : List V → Hp → VK → Prop := fun xs H Q => ∃ p kvs, xs = [.ref p] ∧ H p = some (.dK kvs) ∧ ∀ q, H q = none → Q (.ref q) (upd H q (.lst (kvs.map fun kv => kV kv.1)))
def wholeV : V → Bool
  | .int _ => true
  | _ => false
def keyV : V → Bool
  | .int i => decide (0 ≤ i ∧ i < 1152921504606846976)
  | _ => false
def sizeV : V → Bool
  | .int i => decide (1 ≤ i ∧ i ≤ 8)
  | _ => false
def nameV : V → Bool
  | .str x => nameB x
  | _ => false
section
variable {K : PySem.W.Frag} {Z H Z' H' : Hp} {M : List Addr} {v : V} {n : String}
theorem KindV.ex (h : KindV K H v n) (e : Ex H H') : KindV K H' v n := by
  cases h with
  | int i => exact .int i
  | bl b => exact .bl b
  | str x h => exact .str x h
  | non => exact .non
  | lst h => exact .lst (e.sq h)
  | tup h => exact .tup (e.st h)
  | dct h => exact .dct (e _ _ h)
end
/-- the attributes of a table -/
def tfs (w f : V) (D : Addr) : List (Str × V) := [("wide", w), ("fill", f), ("things", .ref D)]
structure Tb (K : PySem.W.Frag) (Z H : Hp) (a D : Addr) (w f : Int) (l : Row) : Prop where
  at_ : ∃ dx, Z a = some (.ins (clsA K "Table") dx (tfs (.int w) (.int f) D))
  dm : Dm Z H D l
  k1 : Keys1 l
  w0 : 1 ≤ w ∧ w ≤ 8
  f0 : 1 ≤ f ∧ f ≤ 8
  le : l.length ≤ 64
  ks : ∀ e ∈ l, 0 ≤ e.1 ∧ e.1 < 1152921504606846976
/-- how many rooms a table has | a room's keys -/
def roomsT (f : Int) (l : Row) : Int := roomsFor (l.length : Int) f
def keysT_ (f : Int) (l : Row) (r : Int) : List Int := sortI ((l.filter fun e => decide (roomOf e.1 (roomsT f l) = r)).map Prod.fst)
section
variable {K : PySem.W.Frag} {Z H Z' H' : Hp} {M : List Addr} {a D p : Addr} {w f : Int} {l : Row} {Q : VK} {E : XK}
theorem Tb.tt (t : T M Z H Z' H') (nm : D ∉ M) (h : Tb K Z H a D w f l) : Tb K Z' H' a D w f l := by
  obtain ⟨⟨dx, e⟩, h2, h3, h4, h5, h6, h7⟩ := h
  exact ⟨⟨dx, t.z _ _ e⟩, h2.tt t nm, h3, h4, h5, h6, h7⟩
theorem Tb.dm' (h : Tb K Z H a D w f l) {l' : Row} (dm : Dm Z' H' D l') (e : Ex Z Z') (k1 : Keys1 l') (le : l'.length ≤ 64) (ks : ∀ e ∈ l', 0 ≤ e.1 ∧ e.1 < 1152921504606846976) : Tb K Z' H' a D w f l' := by
  obtain ⟨⟨dx, e'⟩, h2, h3, h4, h5, h6, h7⟩ := h
  exact ⟨⟨dx, e _ _ e'⟩, dm, k1, h4, h5, le, ks⟩
theorem Tb.al (h : Tb K Z H a D w f l) : ∃ o, H D = some o := h.dm.at_
/-! promises -/
def spTCount (K : PySem.W.Frag) : Sp := fun vs H Q _ => ∃ (a D : Addr) (w f : Int) (l : Row) (Z : Hp), vs = [.ref a] ∧ Tb K Z H a D w f l ∧ Q (.int (l.length : Int)) H
def spTRooms (K : PySem.W.Frag) : Sp := fun vs H Q _ => ∃ (a D : Addr) (w f : Int) (l : Row) (Z : Hp), vs = [.ref a] ∧ Tb K Z H a D w f l ∧ Q (.int (roomsT f l)) H
def spTKeysIn (K : PySem.W.Frag) : Sp := fun vs H Q _ => ∃ (a D : Addr) (w f r : Int) (l : Row) (Z : Hp), vs = [.ref a, .int r] ∧ Tb K Z H a D w f l ∧ ∀ p Z' H', H p = none → T [D] Z H Z' H' → Tb K Z' H' a D w f l → Lm Z' H' p (keysT_ f l r) → Q (.ref p) H'
def spTEntries (K : PySem.W.Frag) : Sp := fun vs H Q _ => ∃ (a D : Addr) (w f : Int) (l : Row) (Z : Hp), vs = [.ref a] ∧ Tb K Z H a D w f l ∧ ∀ p Z' H', H p = none → T [] Z H Z' H' → Lm Z' H' p (sortE l) → Q (.ref p) H'
def spTCounts (K : PySem.W.Frag) : Sp := fun vs H Q _ => ∃ (a D : Addr) (w f : Int) (l : Row) (Z : Hp), vs = [.ref a] ∧ Tb K Z H a D w f l ∧ ∀ p Z' H', H p = none → T [] Z H Z' H' → Ls Z' p ((spl (sortI (l.map Prod.fst)) (roomsT f l)).map fun r => (r.length : Int)) → Q (.ref p) H'
def spTSpill (K : PySem.W.Frag) : Sp := fun vs H Q _ => ∃ (a D : Addr) (w f : Int) (l : Row) (Z : Hp), vs = [.ref a] ∧ Tb K Z H a D w f l ∧ ∀ Z' H', T [] Z H Z' H' → Q (.int (spillI ((spl (sortI (l.map Prod.fst)) (roomsT f l)).map fun r => (r.length : Int)) w)) H'
/-- the most rows of a room, the first such room -/
def longI (ns : List Int) (w m : Int) (j : Nat) : Prop := m = maxI (ns.map fun m => rowsI m w) ∧ (ns.map fun m => rowsI m w)[j]? = some m ∧ ∀ i, i < j → (ns.map fun m => rowsI m w)[i]? ≠ some m
def spTLongest (K : PySem.W.Frag) : Sp := fun vs H Q _ => ∃ (a D : Addr) (w f : Int) (l : Row) (Z : Hp), vs = [.ref a] ∧ Tb K Z H a D w f l ∧ ∀ p m j Z' H', H p = none → T [] Z H Z' H' → longI ((spl (sortI (l.map Prod.fst)) (roomsT f l)).map fun r => (r.length : Int)) w m j → Z' p = some (.tup [.int m, .int (j : Nat)]) → Q (.ref p) H'
/-- what a put tells -/
def PutTold (Z H Z' H' : Hp) (f : Int) (l l' : Row) (r : V) : Prop :=
  if roomsT f l' = roomsT f l then r = .non else ∃ p c, r = .ref p ∧ H p = none ∧ H c = none ∧ Z' p = some (.tup [.int (roomsT f l - whole (roomsT f l)), .int (roomsT f l), .ref c]) ∧ Lm Z' H' c (keysT_ f l' (roomsT f l))
def spTPut (K : PySem.W.Frag) : Sp := fun vs H Q E => ∃ (a D : Addr) (w f : Int) (l : Row) (Z : Hp) (v t : V) (n m : String), vs = [.ref a, v, t] ∧ Tb K Z H a D w f l ∧ KindV K H v n ∧ KindV K H t m ∧
  (keyV v = false → ∀ d, H d = none → E (.ref (clsA K "NoKey")) (some d) (upd H d (.xd [("key", v)]))) ∧
  (keyV v = true → nameV t = false → ∀ d, H d = none → E (.ref (clsA K "NoThing")) (some d) (upd H d (.xd [("thing", t)]))) ∧
  ∀ k x, v = .int k → t = .str x.1 → keyV v = true → nameV t = true →
    (k ∉ l.map Prod.fst → l.length = 64 → ∀ d, H d = none → E (.ref (clsA K "Full")) (some d) (upd H d (.xd [("many", .int 64)]))) ∧
    ((k ∈ l.map Prod.fst ∨ l.length < 64) → ∀ r Z' H', T [D] Z H Z' H' → Tb K Z' H' a D w f (setE l k x) → PutTold Z H Z' H' f l (setE l k x) r → Q r H')
end
end TR
namespace TR
open PySem L2
section
variable {K : PySem.W.Frag} {Z H Z' H' : Hp} {M : List Addr} {a d p : Addr} {l : Row} {Q : VK}
end
end TR
namespace TR
open PySem L2
end TR

namespace TR
open PySem L2
/-- a room's rows of entries -/
def entOf (l : Row) (k : Int) : Ent := (k, (thingOf l k).getD ⟨"", by decide +kernel⟩)
def rowsE (w f : Int) (l : Row) (r : Int) : List Row := (rowsOf (keysT_ f l r) w).map fun ks => ks.map (entOf l)
theorem rows_ls {α : Type} {iα : Py α} {Z : Hp} {q : Addr} {ws : List Addr} {rows : List (List α)} (h : Z q = some (.lst (ws.map V.ref))) (p : Paired (fun w x => Ls Z w x) ws rows) : Ls Z q rows := by
  refine ⟨_, h, ?_⟩
  clear h
  induction p with
  | nil => exact .nil
  | cons a t ih => exact .cons a.is ih
def spTRoom (K : PySem.W.Frag) : Sp := fun vs H Q E => ∃ (a D : Addr) (w f : Int) (l : Row) (Z : Hp) (v : V) (n : String), vs = [.ref a, v] ∧ Tb K Z H a D w f l ∧ KindV K H v n ∧
  ((∀ r, v = .int r → ¬ (0 ≤ r ∧ r < roomsT f l)) → ∀ d, H d = none → E (.ref (clsA K "NoRoom")) (some d) (upd H d (.xd [("number", v)]))) ∧
  ∀ r, v = .int r → 0 ≤ r ∧ r < roomsT f l → ∀ (p : Addr) (ws : List Addr) Z' H', T [D] Z H Z' H' → Tb K Z' H' a D w f l → (p :: ws).Nodup → (∀ b ∈ p :: ws, H b = none) → Z' p = some (.lst (ws.map V.ref)) → Paired (fun x rw => Ls Z' x rw) ws (rowsE w f l r) → Q (.ref p) H'
def spTTwin (K : PySem.W.Frag) : Sp := fun vs H Q _ => ∃ (a D : Addr) (w f : Int) (l : Row) (Z : Hp), vs = [.ref a] ∧ Tb K Z H a D w f l ∧ ∀ b D2 Z' H', H b = none → H D2 = none → T [] Z H Z' H' → Tb K Z' H' b D2 w f l → Q (.ref b) H'
def spTInit (K : PySem.W.Frag) : Sp := fun vs H Q E => ∃ (a dx : Addr) (v u : V) (n m : String), vs = [.ref a, v, u] ∧ H a = some (.ins (clsA K "Table") dx []) ∧ KindV K H v n ∧ KindV K H u m ∧
  (sizeV v = true → sizeV u = true → ∀ D H', H D = none → (∀ b o, b ≠ a → H b = some o → H' b = some o) → H' a = some (.ins (clsA K "Table") dx (tfs v u D)) → H' D = some (.dK []) → Q .non H') ∧
  (sizeV v = false → ∀ H' d, Ex H H' → H' d = none → E (.ref (clsA K "NoSize")) (some d) (upd H' d (.xd [("thing", v)]))) ∧
  (sizeV v = true → sizeV u = false → ∀ H' d, Ex H H' → H' d = none → E (.ref (clsA K "NoSize")) (some d) (upd H' d (.xd [("thing", u)])))
end TR
namespace TR
open PySem L2
end TR

/-! laws over tables -/
namespace TR
open PySem L2
def cutG {α : Type} (w : Nat) (l : List α) : List (List α) := if h : w = 0 ∨ l.length ≤ w then [l] else l.take w :: cutG w (l.drop w)
termination_by l.length
decreasing_by exact drop_lt h
structure T6 (α β γ δ ε ζ : Type) where
  a : α
  b : β
  c : γ
  d : δ
  e : ε
  f : ζ
  deriving DecidableEq
instance {α β γ δ ε ζ : Type} [Py α] [Py β] [Py γ] [Py δ] [Py ε] [Py ζ] : Py (T6 α β γ δ ε ζ) := ⟨fun p => .tuple [Py.d p.a, Py.d p.b, Py.d p.c, Py.d p.d, Py.d p.e, Py.d p.f], max (Py.dep α) (max (Py.dep β) (max (Py.dep γ) (max (Py.dep δ) (max (Py.dep ε) (Py.dep ζ))))) + 1, fun p => by
    simp only [PyData.depth, PyData.depthAll]
    have h1 := Py.depth p.a
    have h2 := Py.depth p.b
    have h3 := Py.depth p.c
    have h4 := Py.depth p.d
    have h5 := Py.depth p.e
    have h6 := Py.depth p.f
    omega, fun p => by simp only [PyData.canLay0, PyData.canLayAll0, Py.can]; rfl, fun a b => by
    obtain ⟨a1, a2, a3, a4, a5, a6⟩ := a
    obtain ⟨b1, b2, b3, b4, b5, b6⟩ := b
    simp only [PyData.eqv, PyData.eqvAll, Bool.and_true, Bool.and_eq_true, Py.eqv, T6.mk.injEq]⟩
theorem Ik.six {H : Hp} {α β γ δ ε ζ : Type} [Py α] [Py β] [Py γ] [Py δ] [Py ε] [Py ζ] {a : Addr} {v1 v2 v3 v4 v5 v6 : V} {x : α} {y : β} {z : γ} {u : δ} {s : ε} {t : ζ} (h : H a = some (.tup [v1, v2, v3, v4, v5, v6])) (h1 : Ik H v1 x) (h2 : Ik H v2 y) (h3 : Ik H v3 z) (h4 : Ik H v4 u) (h5 : Ik H v5 s) (h6 : Ik H v6 t) : Ik H (.ref a) (T6.mk x y z u s t) :=
  .tup h (.cons h1 (.cons h2 (.cons h3 (.cons h4 (.cons h5 (.cons h6 .nil))))))
end TR
namespace TR
open PySem L2
section
variable {K : PySem.W.Frag} {σ : L2.St} {Z H : Hp} {te : TE} {Q : VK} {E : XK} {g : TG} {vs : List Nat} {a D : Addr} {w f : Int} {l : Row}
theorem Tb.tt' {M : List Addr} {Z' H' : Hp} (t : T M Z H Z' H') (h : Tb K Z H a D w f l) (nm : D ∉ M) : Tb K Z' H' a D w f l := h.tt t nm
theorem tb_count (tb : Tb K Z H a D w f l) (q : Q (.int (l.length : Int)) H) : spTCount K [.ref a] H Q E := ⟨a, D, w, f, l, Z, rfl, tb, q⟩
theorem tb_rooms (tb : Tb K Z H a D w f l) (q : Q (.int (roomsT f l)) H) : spTRooms K [.ref a] H Q E := ⟨a, D, w, f, l, Z, rfl, tb, q⟩
theorem tb_entries (tb : Tb K Z H a D w f l) (q : ∀ p Z' H', H p = none → T [] Z H Z' H' → Lm Z' H' p (sortE l) → Q (.ref p) H') : spTEntries K [.ref a] H Q E := ⟨a, D, w, f, l, Z, rfl, tb, q⟩
theorem tb_spill (tb : Tb K Z H a D w f l) (q : ∀ Z' H', T [] Z H Z' H' → Q (.int (spillI ((spl (sortI (l.map Prod.fst)) (roomsT f l)).map fun r => (r.length : Int)) w)) H') : spTSpill K [.ref a] H Q E := ⟨a, D, w, f, l, Z, rfl, tb, q⟩
theorem tb_longest (tb : Tb K Z H a D w f l) (q : ∀ p m j Z' H', H p = none → T [] Z H Z' H' → longI ((spl (sortI (l.map Prod.fst)) (roomsT f l)).map fun r => (r.length : Int)) w m j → Z' p = some (.tup [.int m, .int (j : Nat)]) → Q (.ref p) H') : spTLongest K [.ref a] H Q E := ⟨a, D, w, f, l, Z, rfl, tb, q⟩
theorem tb_room {r : Int} (tb : Tb K Z H a D w f l) (h : 0 ≤ r ∧ r < roomsT f l) (q : ∀ p Z' H', T [D] Z H Z' H' → Tb K Z' H' a D w f l → Ls Z' p (rowsE w f l r) → Q (.ref p) H') : spTRoom K [.ref a, .int r] H Q E :=
  ⟨a, D, w, f, l, Z, .int r, "int", rfl, tb, .int r, fun g => absurd h (g r rfl), fun r' e _ => by cases e; exact fun p ws Z' H' t tb' _ _ h pr => q p Z' H' t tb' (rows_ls h pr)⟩
end
end TR
namespace TR
open PySem L2
end TR
namespace TR
open PySem L2
section
variable {K : PySem.W.Frag} {Z H Z' H' : Hp} {Q : VK} {E : XK} {a D : Addr} {w f : Int} {l : Row}
end
end TR
namespace TR
open PySem L2
end TR
namespace TR
open PySem L2
end TR
namespace TR
open PySem L2
end TR

/-! isinstance of an exception that a suite holds: it has its own dict -/
namespace TR
open PySem L2 PySem.Spec PyProof.Rows
structure IsxC (K : PySem.W.Frag) (C : Addr) : Prop where
  x : XfC K C
  ha : PySem.W.findIn K (.ref C) "__class__" = some (some (.builtin "object.__class__"))
  hn : PySem.W.specialIn K (.builtin "object.__class__") "__get__" = some (some (.builtin "getset_descriptor.__get__"))
  ht : PySem.W.takesIn K (.builtin "object.__class__") = some true
  hm : PySem.W.mroIn K C (.type "object") = some true
/-- isinstance(e, c) | isinstance(e, (c1, c2, ..)): a the exception, cls its class, d its dict -/
def rIsX (K : PySem.W.Frag) (a : Addr) (cls : Value) (d : Option Addr) (D : Addr) : List V → Hp → VK → Prop := fun xs H Q => ∃ (c : V) (u : Value) (b : Bool) (dd : Addr) (fs : List (Str × V)), xs = [.ref a, c] ∧ cls = .ref D ∧ d = some dd ∧ H dd = some (.xd fs) ∧ ClsV c u ∧ PySem.W.kitOne K (.ref D) u = some b ∧ Q (.bl b) H
def rIsXT (K : PySem.W.Frag) (a : Addr) (cls : Value) (d : Option Addr) (D : Addr) : List V → Hp → VK → Prop := fun xs H Q => ∃ (tp : Addr) (cs : List V) (us : List Value) (b : Bool) (dd : Addr) (fs : List (Str × V)), xs = [.ref a, .ref tp] ∧ cls = .ref D ∧ d = some dd ∧ H dd = some (.xd fs) ∧ H tp = some (.tup cs) ∧ Paired ClsV cs us ∧ PySem.W.kitAny K (.ref D) us = some b ∧ Q (.bl b) H
section
variable {X : Cx} {K : PySem.W.Frag} {a D : Addr} {oe : Obj} {cls : Value} {d : Option Addr} {pn : List (Addr × Obj)}
end
section
variable {K : PySem.W.Frag} {H : Hp} {Q : VK} {a D dd tp : Addr} {fs : List (Str × V)} {b : Bool}
end
end TR

/-! d == {} -/
namespace L2
open PySem PySem.W PySem.Spec TR
section
variable {X : Cx}
def rEqD0 : R2 := fun x y H Q => ∃ a b ks, x = .ref a ∧ y = .ref b ∧ H a = some (.dK ks) ∧ H b = some (.dK []) ∧ Q (.bl (decide (ks.length = 0))) H
def rNeD0 : R2 := fun x y H Q => ∃ a b ks, x = .ref a ∧ y = .ref b ∧ H a = some (.dK ks) ∧ H b = some (.dK []) ∧ Q (.bl (!decide (ks.length = 0))) H
end
end L2

/-! odd things, in the place of a number, a text or a key -/
namespace TR
open PySem L2
inductive OddV (Z : Hp) : V → String → Prop
  | int (i : Int) : OddV Z (.int i) "int"
  | bl (b : Bool) : OddV Z (.bl b) "bool"
  | str (x : Tx) (h : x.1.length ≤ 100000) : OddV Z (.str x.1) "str"
  | non : OddV Z .non "NoneType"
  | lst {a : Addr} {i : Int} (h : Z a = some (.lst [.int i])) : OddV Z (.ref a) "list"
  | tup {a : Addr} {i : Int} (h : Z a = some (.tup [.int i])) : OddV Z (.ref a) "tuple"
  | dct {a : Addr} (h : Z a = some (.dK [])) : OddV Z (.ref a) "dict"
section
variable {K : PySem.W.Frag} {Z H Z' H' : Hp} {v : V} {n : String}
theorem OddV.ex (h : OddV Z v n) (e : Ex Z Z') : OddV Z' v n := by
  cases h with
  | int i => exact .int i
  | bl b => exact .bl b
  | str x h => exact .str x h
  | non => exact .non
  | lst h => exact .lst (e _ _ h)
  | tup h => exact .tup (e _ _ h)
  | dct h => exact .dct (e _ _ h)
theorem OddV.kind (h : OddV Z v n) (e : Ex Z H) : KindV K H v n := by
  cases h with
  | int i => exact .int i
  | bl b => exact .bl b
  | str x h => exact .str x.1 h
  | non => exact .non
  | lst h => exact .lst (sq_of (e _ _ h))
  | tup h => exact .tup (st_of (e _ _ h))
  | dct h => exact .dct (e _ _ h)
theorem ig_mem {Q : VK} {xs : List V} {i : Int} (h : 0 ≤ i ∧ i < xs.length) (q : ∀ v, v ∈ xs → xs[i.toNat]? = some v → Q v H) : IxGo xs i H Q := by
  have hl : i.toNat < xs.length := by omega
  exact ⟨xs[i.toNat], atI_lt h.1 (List.getElem?_eq_getElem hl), q _ (List.getElem_mem hl) (List.getElem?_eq_getElem hl)⟩
end
/-- a list of six things -/
structure HL6 (α β γ δ ε ζ : Type) where
  a : α
  b : β
  c : γ
  d : δ
  e : ε
  f : ζ
  deriving DecidableEq
instance {α β γ δ ε ζ : Type} [Py α] [Py β] [Py γ] [Py δ] [Py ε] [Py ζ] : Py (HL6 α β γ δ ε ζ) := ⟨fun p => .list [Py.d p.a, Py.d p.b, Py.d p.c, Py.d p.d, Py.d p.e, Py.d p.f], max (Py.dep α) (max (Py.dep β) (max (Py.dep γ) (max (Py.dep δ) (max (Py.dep ε) (Py.dep ζ))))) + 1, fun p => by
    simp only [PyData.depth, PyData.depthAll]
    have h1 := Py.depth p.a
    have h2 := Py.depth p.b
    have h3 := Py.depth p.c
    have h4 := Py.depth p.d
    have h5 := Py.depth p.e
    have h6 := Py.depth p.f
    omega, fun p => by simp only [PyData.canLay0, PyData.canLayAll0, Py.can]; rfl, fun a b => by
    obtain ⟨a1, a2, a3, a4, a5, a6⟩ := a
    obtain ⟨b1, b2, b3, b4, b5, b6⟩ := b
    simp only [PyData.eqv, PyData.eqvAll, Bool.and_true, Bool.and_eq_true, Py.eqv, HL6.mk.injEq]⟩
/-- what is asked with sizes -/
def TolD : Type := Tx × HL6 Int Int Int Int Row (List Row)
def toldS : Tx := ⟨"told", by decide +kernel⟩
def spAsked32 (K : PySem.W.Frag) : Sp := fun vs H Q _ => ∃ (v u : V) (n m : String) (Z : Hp), vs = [v, u] ∧ Ex Z H ∧ KindV K H v n ∧ KindV K H u m ∧
  (∀ w f, v = .int w → u = .int f → 1 ≤ w ∧ w ≤ 8 → 1 ≤ f ∧ f ≤ 8 → ∀ (p L e r : Addr) Z' H', T [] Z H Z' H' → Z' p = some (.tup [.str "told", .ref L]) → Z' L = some (.lst [.int w, .int f, .int 0, .int 1, .ref e, .ref r]) → Ik Z' (.ref p) ((toldS, HL6.mk w f 0 1 [] [[]]) : Tx × HL6 Int Int Int Int Row (List Row)) → Q (.ref p) H') ∧
  (∀ o, (sizeV v = false ∧ o = v ∨ sizeV v = true ∧ sizeV u = false ∧ o = u) → ∀ (p : Addr) Z' H', T [] Z H Z' H' → Z' p = some (.tup [.str "refused", o]) → Q (.ref p) H')
def spSame32 (K : PySem.W.Frag) : Sp := fun vs H Q _ => ∃ (p : Addr) (v : V) (n : String) (Z : Hp), vs = [.ref p, v] ∧ Ex Z H ∧ OddV Z v n ∧ Z p = some (.tup [.str "refused", v]) ∧ Q (.bl true) H
def spOdd32 (K : PySem.W.Frag) : Sp := fun vs H Q _ => ∃ (h : Addr) (n : Nat) (Z : Hp), vs = [.ref h] ∧ Hand K Z H h (n + 3) ∧
  ∀ (v : V) (m : String) Z' H', T [h] Z H Z' H' → Hand K Z' H' h n → OddV Z' v m → sizeV v = false → Q v H'
end TR
namespace TR
open PySem L2
end TR
namespace TR
open PySem L2
end TR
namespace TR
open PySem L2
end TR
namespace TR
open PySem L2
end TR

/-! a text among texts -/
namespace TR
open PySem L2
theorem T.more2 {Z H Z' H' : Hp} {M : List Addr} (t : T [] Z H Z' H') : T M Z H Z' H' := ⟨t.z, t.zh, fun b o _ hb => t.m b o nm_nil hb, t.al, fun b _ zb ha => t.fr b nm_nil zb ha⟩
end TR

/-! tables: what a drop tells -/
namespace TR
open PySem L2
def spTNeed (K : PySem.W.Frag) : Sp := fun vs H Q E => ∃ (a D : Addr) (w f : Int) (l : Row) (Z : Hp) (v : V) (n : String), vs = [.ref a, v] ∧ Tb K Z H a D w f l ∧ KindV K H v n ∧
  (keyV v = false → ∀ d, H d = none → E (.ref (clsA K "NoKey")) (some d) (upd H d (.xd [("key", v)]))) ∧
  ∀ k, v = .int k → keyV v = true →
    (k ∉ l.map Prod.fst → ∀ d, H d = none → E (.ref (clsA K "Lacking")) (some d) (upd H d (.xd [("key", v)]))) ∧
    (k ∈ l.map Prod.fst → Q .non H)
def DropTold (Z H Z' H' : Hp) (f : Int) (l : Row) (k : Int) (r : V) : Prop :=
  if roomsT f (outE l k) = roomsT f l then r = .non else ∃ p c, r = .ref p ∧ H p = none ∧ H c = none ∧ Z' p = some (.tup [.int (roomsT f l - 1), .int (roomsT f l - 1 - whole (roomsT f l - 1)), .ref c]) ∧ Lm Z' H' c ((keysT_ f l (roomsT f l - 1)).filter fun x => decide (x ≠ k))
def spTDrop (K : PySem.W.Frag) : Sp := fun vs H Q E => ∃ (a D : Addr) (w f : Int) (l : Row) (Z : Hp) (v : V) (n : String), vs = [.ref a, v] ∧ Tb K Z H a D w f l ∧ KindV K H v n ∧
  (keyV v = false → ∀ d, H d = none → E (.ref (clsA K "NoKey")) (some d) (upd H d (.xd [("key", v)]))) ∧
  ∀ k, v = .int k → keyV v = true →
    (k ∉ l.map Prod.fst → ∀ d, H d = none → E (.ref (clsA K "Lacking")) (some d) (upd H d (.xd [("key", v)]))) ∧
    (k ∈ l.map Prod.fst → ∀ r Z' H', T [D] Z H Z' H' → Tb K Z' H' a D w f (outE l k) → DropTold Z H Z' H' f l k r → Q r H')
end TR
namespace TR
open PySem L2
end TR

/-! tables: looks, find; tables of the same entries in another order -/
namespace TR
open PySem L2
def looksT (w f : Int) (l : Row) (k : Int) : Bool × Int := lookedI (rowsOf (keysT_ f l (roomOf k (roomsT f l))) w) k 0
def spTLooks (K : PySem.W.Frag) : Sp := fun vs H Q E => ∃ (a D : Addr) (w f : Int) (l : Row) (Z : Hp) (v : V) (n : String), vs = [.ref a, v] ∧ Tb K Z H a D w f l ∧ KindV K H v n ∧
  (keyV v = false → ∀ d, H d = none → E (.ref (clsA K "NoKey")) (some d) (upd H d (.xd [("key", v)]))) ∧
  ∀ k, v = .int k → keyV v = true → ∀ p Z' H', H p = none → T [D] Z H Z' H' → Tb K Z' H' a D w f l → Z' p = some (.tup [.bl (looksT w f l k).1, .int (looksT w f l k).2]) → Q (.ref p) H'
def spTFind (K : PySem.W.Frag) : Sp := fun vs H Q E => ∃ (a D : Addr) (w f : Int) (l : Row) (Z : Hp) (v : V) (n : String), vs = [.ref a, v] ∧ Tb K Z H a D w f l ∧ KindV K H v n ∧
  (keyV v = false → ∀ d, H d = none → E (.ref (clsA K "NoKey")) (some d) (upd H d (.xd [("key", v)]))) ∧
  ∀ k, v = .int k → keyV v = true →
    (k ∉ l.map Prod.fst → ∀ d, H d = none → E (.ref (clsA K "Lacking")) (some d) (upd H d (.xd [("key", v)]))) ∧
    (∀ t, thingOf l k = some t → ∀ p Z' H', H p = none → T [D] Z H Z' H' → Tb K Z' H' a D w f l → Z' p = some (.tup [.str t.1, .int (looksT w f l k).2]) → Q (.ref p) H')
section
variable {K : PySem.W.Frag} {Z H Z' H' : Hp} {Q : VK} {E : XK} {a D : Addr} {w f : Int} {l : Row} {k : Int}
end
/-! a looked for key -/
/-! the same entries in another order -/
section
variable {l m : Row} {w f r k : Int}
end
/-- what a law's state tells -/
def cntsT (f : Int) (l : Row) : List Int := (List.range (roomsT f l).toNat).map fun (i : Nat) => ((keysT_ f l (i : Int)).length : Int)
abbrev St6 : Type := T6 Int Int Row (List (List Row)) Int (Int × Int)
def st6 (w f : Int) (l : Row) (m : Int) (j : Nat) : St6 := T6.mk (l.length : Int) (roomsT f l) (sortE l) ((List.range (roomsT f l).toNat).map fun (i : Nat) => rowsE w f l (i : Int)) (spillI (cntsT f l) w) (m, (j : Int))
end TR
namespace TR
open PySem L2
section
variable {K : PySem.W.Frag} {Z H : Hp} {D : Addr} {α : Type} {iα : Py α} {l : List α} {Q : VK} {i : Int}
end
end TR
namespace TR
open PySem L2
end TR
namespace TR
open PySem L2
end TR
namespace TR
open PySem L2
theorem T.wide {M N : List Addr} {Z H Z' H' : Hp} (t : T M Z H Z' H') (s : ∀ x ∈ M, x ∈ N) : T N Z H Z' H' :=
  ⟨t.z, t.zh, fun b o nb hb => t.m b o (fun z => nb (s b z)) hb, t.al, fun b nb => t.fr b (fun z => nb (s b z))⟩
theorem Tb.fresh {K : PySem.W.Frag} {Z H : Hp} {a D p : Addr} {w f : Int} {l : Row} {o : HO} (h : Tb K Z H a D w f l) (ne : p ≠ D) (zp : Z p = none) : Tb K Z (upd H p o) a D w f l := by
  refine h.dm' ⟨by rw [upd_ne (Ne.symm ne)]; exact h.dm.h, h.dm.zd, fun b u e => ?_⟩ (Ex.refl _) h.k1 h.le h.ks
  rw [upd_ne (fun c => by rw [c, zp] at e; cases e)]
  exact h.dm.zh _ _ e
end TR
namespace TR
open PySem L2
def toldX : Tx := ⟨"told", by decide +kernel⟩
def lackX : Tx := ⟨"lacking", by decide +kernel⟩
end TR
namespace TR
end TR

/-! what is done to loose lists -/
namespace TR
open PySem L2
def rIns : V → List V → Hp → VK → Prop := fun x vs H Q => ∃ (l : Addr) (xs : List V) (i : Int) (y : V), x = .ref l ∧ vs = [.int i, y] ∧ H l = some (.lst xs) ∧ xs.length < PySem.sizeLine ∧ 0 ≤ i ∧ i < 2 ^ 63 ∧ Q .non (upd H l (.lst (xs.take i.toNat ++ [y] ++ xs.drop i.toNat)))
theorem mt_insertA {X : Cx} : MtR X "list.insert" rIns := mt_insert
section
variable {K : PySem.W.Frag} {Z H : Hp} {D q w e : Addr} {qs F ws : List Addr} {κ μ : Addr → Nat} {P : Ent → Prop} {S n m : Nat} {Q : VK} {v : V} {r : Row} {x : Ent}
theorem sum_set_le (f : Addr → Nat) (b : Addr) : ∀ (l : List Addr) (i : Nat), ((l.set i b).map f).sum ≤ (l.map f).sum + f b
  | [], _ => Nat.zero_le _
  | a :: l, 0 => by rw [List.set_cons_zero, List.map_cons, List.map_cons, List.sum_cons, List.sum_cons]; omega
  | a :: l, i + 1 => by
    have := sum_set_le f b l i
    rw [List.set_cons_succ, List.map_cons, List.map_cons, List.sum_cons, List.sum_cons]
    omega
theorem sum_erase_le (f : Addr → Nat) : ∀ (l : List Addr) (i : Nat), ((l.eraseIdx i).map f).sum ≤ (l.map f).sum
  | [], _ => Nat.le_refl _
  | a :: l, 0 => by rw [List.eraseIdx_cons_zero, List.map_cons, List.sum_cons]; omega
  | a :: l, i + 1 => by
    have := sum_erase_le f l i
    rw [List.eraseIdx_cons_succ, List.map_cons, List.map_cons, List.sum_cons, List.sum_cons]
    omega
theorem erase_map {β γ : Type} (f : β → γ) : ∀ (l : List β) (i : Nat), (l.map f).eraseIdx i = (l.eraseIdx i).map f
  | [], _ => rfl
  | _ :: _, 0 => rfl
  | a :: l, i + 1 => by
    rw [List.map_cons, List.eraseIdx_cons_succ, List.eraseIdx_cons_succ, List.map_cons, erase_map f l i]
theorem sum_ins (f : Addr → Nat) (b : Addr) (l : List Addr) (i : Nat) : ((l.take i ++ [b] ++ l.drop i).map f).sum = (l.map f).sum + f b := by
  have h : ((l.take i).map f).sum + ((l.drop i).map f).sum = (l.map f).sum := by
    conv => rhs; rw [← List.take_append_drop i l]
    rw [List.map_append, List.sum_append]
  rw [List.map_append, List.map_append, List.sum_append, List.sum_append]
  show _ + (f b + 0) + _ = _
  omega
theorem LY.pop {r0 : Row} (s : LY Z H D qs F κ μ P S n m) (hw : w ∈ F) (ro : RowO Z H w (r0 ++ [x])) (hl : r0.length ≤ κ w) (hp : ∀ e ∈ r0, P e) (k : ∀ v H', T [w] Z H Z H' → LY Z H' D qs F κ μ P S n m → RowO Z H' w r0 → Ik Z v x → Q v H') : rPop (.ref w) [] H Q := by
  obtain ⟨vs, h1, h2⟩ := ro
  obtain ⟨us, u, rfl, p1, p2⟩ := paired_snoc_inv h2
  obtain ⟨t, s2⟩ := s.setRow hw p1 hl hp
  refine ⟨w, us ++ [u], u, rfl, rfl, h1, ?_, ?_⟩
  · rw [List.length_append, show ([u] : List V).length = 1 from rfl, Nat.add_sub_cancel]
    simp
  · rw [List.dropLast_concat]
    exact k u _ t s2 ⟨us, upd_same, p1⟩ p2
theorem LY.pop0 {r0 : Row} (s : LY Z H D qs F κ μ P S n m) (hw : w ∈ F) (ro : RowO Z H w (x :: r0)) (hl : r0.length ≤ κ w) (hp : ∀ e ∈ r0, P e) (hz : r0.length ≤ 100000) (k : ∀ v H', T [w] Z H Z H' → LY Z H' D qs F κ μ P S n m → RowO Z H' w r0 → Ik Z v x → Q v H') : rPopAt (.ref w) [.int 0] H Q := by
  obtain ⟨vs, h1, h2⟩ := ro
  cases h2 with
  | cons a b =>
    obtain ⟨t, s2⟩ := s.setRow hw b hl hp
    exact ⟨w, _, 0, 0, _, rfl, rfl, h1, by decide, by decide, by simp [seqIndex?], rfl, k _ _ t s2 ⟨_, upd_same, b⟩ a⟩
theorem LY.app (s : LY Z H D qs F κ μ P S n m) (hw : w ∈ F) (ro : RowO Z H w r) (iv : Ik Z v x) (hl : r.length + 1 ≤ κ w) (hz : r.length < 100000) (hp : ∀ e ∈ r ++ [x], P e) (k : ∀ H', T [w] Z H Z H' → LY Z H' D qs F κ μ P S n m → Q .non H') : rAppend (.ref w) [v] H Q := by
  obtain ⟨vs, h1, h2⟩ := ro
  have p2 : Paired (fun v x => Ik Z v x) (vs ++ [v]) (r ++ [x]) := paired_append h2 (.cons iv .nil)
  obtain ⟨t, s2⟩ := s.setRow hw p2 (by rw [List.length_append]; exact hl) hp
  exact ⟨w, vs, v, rfl, rfl, h1, sz_lt (by rw [Paired.length h2]; exact hz), k _ t s2⟩
theorem LY.rev (s : LY Z H D qs F κ μ P S n m) (hw : w ∈ F) (k : ∀ H', T [w] Z H Z H' → LY Z H' D qs F κ μ P S n m → Q .non H') : rReverse (.ref w) [] H Q := by
  obtain ⟨r, ⟨vs, h1, h2⟩, h3, h4⟩ := s.rows w hw
  obtain ⟨t, s2⟩ := s.setRow hw (paired_reverse h2) (by rw [List.length_reverse]; exact h3) (fun e he => h4 e (List.mem_reverse.mp he))
  exact ⟨w, vs, rfl, rfl, h1, k _ t s2⟩
theorem LY.ins {i : Nat} (s : LY Z H D qs F κ μ P S n m) (hq : q ∈ qs) (h : H q = some (.lst (ws.map V.ref))) (hF : ∀ w ∈ ws, w ∈ F) (he : e ∈ F) (hm : ws.length + 1 ≤ m) (hz : ws.length < 100000) (hi : i ≤ 100000) (hs : (ws.map κ).sum + κ e ≤ μ q) (k : ∀ H', T [q] Z H Z H' → LY Z H' D qs F κ μ P S n m → Q .non H') :
    rIns (.ref q) [.int (i : Int), .ref e] H Q := by
  obtain ⟨t, s2⟩ := s.setRoom (ws := ws.take i ++ [e] ++ ws.drop i) hq (by
    rw [List.length_append, List.length_append, List.length_take, List.length_drop, List.length_singleton]; omega) (fun w hw => by
    rcases List.mem_append.mp hw with hw | hw
    · rcases List.mem_append.mp hw with hw | hw
      · exact hF w (List.mem_of_mem_take hw)
      · rw [List.mem_singleton.mp hw]; exact he
    · exact hF w (List.mem_of_mem_drop hw)) (by rw [sum_ins]; exact hs)
  refine ⟨q, ws.map V.ref, (i : Int), .ref e, rfl, rfl, h, sz_lt (by rw [List.length_map]; exact hz), Int.natCast_nonneg i, by omega, ?_⟩
  rw [Int.toNat_natCast]
  rw [List.map_append, List.map_append, List.map_take, List.map_drop] at t s2
  exact k _ t s2
theorem LY.appR (s : LY Z H D qs F κ μ P S n m) (hq : q ∈ qs) (h : H q = some (.lst (ws.map V.ref))) (hF : ∀ w ∈ ws, w ∈ F) (he : e ∈ F) (hm : ws.length + 1 ≤ m) (hz : ws.length < 100000) (hs : (ws.map κ).sum + κ e ≤ μ q) (k : ∀ H', T [q] Z H Z H' → LY Z H' D qs F κ μ P S n m → Q .non H') : rAppend (.ref q) [.ref e] H Q := by
  obtain ⟨t, s2⟩ := s.setRoom (ws := ws ++ [e]) hq (by rw [List.length_append]; exact hm) (fun w hw => by
    rcases List.mem_append.mp hw with hw | hw
    · exact hF w hw
    · rw [List.mem_singleton.mp hw]; exact he) (by rw [List.map_append, List.sum_append]; show _ + (κ e + 0) ≤ _; omega)
  rw [List.map_append] at t s2
  exact ⟨q, ws.map V.ref, .ref e, rfl, rfl, h, sz_lt (by rw [List.length_map]; exact hz), k _ t s2⟩
theorem LY.popR {i : Nat} (s : LY Z H D qs F κ μ P S n m) (hq : q ∈ qs) (h : H q = some (.lst (ws.map V.ref))) (hF : ∀ w ∈ ws, w ∈ F) (hi : ws[i]? = some w) (hm : ws.length ≤ m) (hz : ws.length ≤ 100000) (hs : (ws.map κ).sum ≤ μ q) (k : ∀ H', T [q] Z H Z H' → LY Z H' D qs F κ μ P S n m → H' q = some (.lst ((ws.eraseIdx i).map V.ref)) → Q (.ref w) H') : rPopAt (.ref q) [.int (i : Int)] H Q := by
  have hil := (List.getElem?_eq_some_iff.mp hi).1
  obtain ⟨t, s2⟩ := s.setRoom (ws := ws.eraseIdx i) hq (Nat.le_trans (List.length_eraseIdx_le ..) hm) (fun w hw => hF w (List.mem_of_mem_eraseIdx hw)) (Nat.le_trans (sum_erase_le κ ws i) hs)
  have eM : (ws.map V.ref).eraseIdx i = (ws.eraseIdx i).map V.ref := erase_map V.ref ws i
  refine ⟨q, ws.map V.ref, (i : Int), i, .ref w, rfl, rfl, h, by omega, by omega, ?_, by rw [List.getElem?_map, hi]; rfl, ?_⟩
  · unfold seqIndex?
    rw [List.length_map]
    simp
    omega
  · rw [eM]
    exact k _ t s2 upd_same
theorem LY.setR {i : Int} {j : Nat} (s : LY Z H D qs F κ μ P S n m) (hq : q ∈ qs) (h : H q = some (.lst (ws.map V.ref))) (hF : ∀ w ∈ ws, w ∈ F) (he : e ∈ F) (hj : ixN ws.length i = some j) (hm : ws.length ≤ m) (hs : (ws.map κ).sum + κ e ≤ μ q) {R : Hp → Prop} (k : ∀ H', T [q] Z H Z H' → LY Z H' D qs F κ μ P S n m → H' q = some (.lst ((ws.set j e).map V.ref)) → R H') : rSetL (.ref q) (.int i) (.ref e) H R := by
  obtain ⟨t, s2⟩ := s.setRoom (ws := ws.set j e) hq (by rw [List.length_set]; exact hm) (fun w hw => by
    rcases List.mem_or_eq_of_mem_set hw with hw | hw
    · exact hF w hw
    · rw [hw]; exact he) (Nat.le_trans (sum_set_le κ e ws j) hs)
  have eM : (ws.map V.ref).set j (V.ref e) = (ws.set j e).map V.ref := by rw [List.map_set]
  refine ⟨q, ws.map V.ref, i, j, rfl, rfl, h, by rw [List.length_map]; exact hj, ?_⟩
  rw [eM]
  exact k _ t s2 upd_same
theorem LY.setRooms {i : Int} {j : Nat} {ps : List Addr} (s : LY Z H D qs F κ μ P S n m) (h : H D = some (.lst (ps.map V.ref))) (hps : ∀ p ∈ ps, p ∈ qs) (he : e ∈ qs) (hj : ixN ps.length i = some j) (hm : ps.length ≤ n) (hs : (ps.map μ).sum + μ e ≤ S) {R : Hp → Prop} (k : ∀ H', T [D] Z H Z H' → LY Z H' D qs F κ μ P S n m → R H') : rSetL (.ref D) (.int i) (.ref e) H R := by
  obtain ⟨t, s2⟩ := s.setD (ps := ps.set j e) (by rw [List.length_set]; exact hm) (fun w hw => by
    rcases List.mem_or_eq_of_mem_set hw with hw | hw
    · exact hps w hw
    · rw [hw]; exact he) (Nat.le_trans (sum_set_le μ e ps j) hs)
  have eM : (ps.map V.ref).set j (V.ref e) = (ps.set j e).map V.ref := by rw [List.map_set]
  refine ⟨D, ps.map V.ref, i, j, rfl, rfl, h, by rw [List.length_map]; exact hj, ?_⟩
  rw [eM]
  exact k _ t s2
theorem sum_upd {k : Nat} (h : e ∉ ws) : (ws.map fun a => if a = e then k else κ a).sum = (ws.map κ).sum := by
  have : (ws.map fun a => if a = e then k else κ a) = ws.map κ := List.map_congr_left fun a ha => if_neg fun (z : a = e) => h (z ▸ ha)
  rw [this]
theorem refs_inj {us vs : List Addr} (h : us.map V.ref = vs.map V.ref) : us = vs := by
  have g : Function.Injective V.ref := fun a b e => by cases e; rfl
  exact (List.map_inj_right fun a b e => g e).mp h
end
theorem len_flat : ∀ X : List Row, (X.map fun x => x.length + 1).sum = X.flatten.length + X.length
  | [] => rfl
  | x :: X => by
    have := len_flat X
    rw [List.map_cons, List.sum_cons, List.flatten_cons, List.length_append, List.length_cons]
    omega
theorem sum_range_le {f g : Nat → Nat} (h : ∀ i, f i ≤ 2 * g i + 21) : ∀ n, ((List.range n).map f).sum ≤ 2 * ((List.range n).map g).sum + 21 * n
  | 0 => Nat.le_refl _
  | n + 1 => by
    have := sum_range_le h n
    have := h n
    rw [List.range_succ, List.map_append, List.map_append, List.sum_append, List.sum_append]
    show _ + (f n + 0) ≤ 2 * (_ + (g n + 0)) + _
    omega
theorem clean_sum {w r : Int} {es : Row} (hw : 1 ≤ w) : ((cleanC w.toNat r es).map fun X => (X.map fun x => x.length + 1).sum + 20).sum ≤ 2 * es.length + 21 * r.toNat := by
  unfold cleanC
  rw [List.map_map]
  have h := sum_range_le (f := (fun X : List Row => (X.map fun x => x.length + 1).sum + 20) ∘ fun i => cutE w.toNat (partE r es i)) (g := fun i => (es.filter fun e => decide (roomOf e.1 r = (i : Int))).length) (fun i => by
    show ((cutE w.toNat (partE r es i)).map fun x => x.length + 1).sum + 20 ≤ _
    have h1 := cutE_le (w := w.toNat) (by omega) (partE r es i)
    have h2 : (partE r es i).length = (es.filter fun e => decide (roomOf e.1 r = (i : Int))).length := sortE_len _
    rw [len_flat, cutE_flat (by omega)]
    omega) r.toNat
  have h3 := parts_sum (r := r) es r.toNat
  omega
/-- the loose lists of one that are its asker's own, new since H -/
def LB (h : Addr) (Z H Z' H' : Hp) (D : Addr) (P : Ent → Prop) : Prop := ∃ (qs F : List Addr) (κ μ : Addr → Nat), LY Z' H' D qs F κ μ P 3000 130 200 ∧ T [h] Z H Z' H' ∧ ∀ b ∈ D :: (qs ++ F), H b = none
theorem LB.of {h : Addr} {Z H Z1 H1 Z' H' : Hp} {D : Addr} {P : Ent → Prop} {M qs F : List Addr} {κ μ : Addr → Nat} {m : Nat} (t0 : T [h] Z H Z1 H1) (t : T M Z1 H1 Z' H') (hM : ∀ b ∈ M, H b = none) (s : LY Z' H' D qs F κ μ P 3000 130 m) (hm : m ≤ 200) (fr : ∀ b ∈ D :: (qs ++ F), H b = none) : LB h Z H Z' H' D P :=
  ⟨qs, F, κ, μ, ⟨s.own, s.nd, s.nf, s.z, s.zh, fun q hq => by
    obtain ⟨ws, h1, h2, h3⟩ := s.rooms q hq
    exact ⟨ws, h1, Nat.le_trans h2 hm, h3⟩, s.rows⟩, t0.step t fun b hb => .inr (hM b hb), fr⟩
theorem fr_row {H : Hp} {D e : Addr} {qs F : List Addr} (f : ∀ b ∈ D :: (qs ++ F), H b = none) (h : H e = none) : ∀ b ∈ D :: (qs ++ (e :: F)), H b = none := fun b hb => by
  rcases List.mem_cons.mp hb with hb | hb
  · rw [hb]; exact f D List.mem_cons_self
  · rcases List.mem_append.mp hb with hb | hb
    · exact f b (LY.memR hb)
    · rcases List.mem_cons.mp hb with hb | hb
      · rw [hb]; exact h
      · exact f b (LY.memW hb)
theorem fr_room {H : Hp} {D e : Addr} {qs F : List Addr} (f : ∀ b ∈ D :: (qs ++ F), H b = none) (h : H e = none) : ∀ b ∈ D :: ((e :: qs) ++ F), H b = none := fun b hb => by
  rcases List.mem_cons.mp hb with hb | hb
  · rw [hb]; exact f D List.mem_cons_self
  · rcases List.mem_append.mp hb with hb | hb
    · rcases List.mem_cons.mp hb with hb | hb
      · rw [hb]; exact h
      · exact f b (LY.memR hb)
    · exact f b (LY.memW hb)
theorem ix_last {α : Type} {l : List α} {x : α} : atI (l ++ [x]) (-1) = some x := by
  unfold atI
  rw [List.length_append, List.length_singleton, ixN_last]
  simp
theorem ix_last2 {α : Type} {l : List α} {x : α} {n : Nat} (hn : l.length = n + 1) (h : l[n]? = some x) : atI l (-1) = some x := by
  unfold atI
  rw [hn, ixN_last]
  exact h
theorem exists_snoc {α : Type} {l : List α} (h : l ≠ []) : ∃ r x, l = r ++ [x] := ⟨l.dropLast, l.getLast h, (List.dropLast_concat_getLast h).symm⟩
/-- two rows of unlike keys stand at two places -/
theorem rows_apart {Z H : Hp} {ws : List Addr} {X : List Row} (pw : Paired (fun w r => RowO Z H w r) ws X) (k : Keys1 X.flatten) {i j : Nat} {a b : Addr} {e d : Ent} {r s : Row} (hij : i < j) (hi : ws[i]? = some a) (hj : ws[j]? = some b) (xi : X[i]? = some (e :: r)) (xj : X[j]? = some (d :: s)) : a ≠ b := fun z => by
  subst z
  obtain ⟨r', h1, vs, g1, p1⟩ := RW.at' pw hi
  obtain ⟨s', h2, us, g2, p2⟩ := RW.at' pw hj
  rw [xi] at h1
  rw [xj] at h2
  cases h1
  cases h2
  rw [g1] at g2
  cases g2
  cases p1 with
  | cons q1 _ =>
    cases p2 with
    | cons q2 _ =>
      obtain ⟨c, rfl, f1⟩ := q1.ent_of
      obtain ⟨c2, e2, f2⟩ := q2.ent_of
      cases e2
      rw [f1] at f2
      have ek : e.1 = d.1 := by
        injection f2 with f2
        injection f2 with f2
        injection f2 with f2 _
        injection f2
      have e3 : X = X.take j ++ (d :: s) :: X.drop (j + 1) := by
        obtain ⟨hl, he⟩ := List.getElem?_eq_some_iff.mp xj
        rw [← he, ← List.drop_eq_getElem_cons hl, List.take_append_drop]
      have m1 : (e :: r) ∈ X.take j := by
        refine List.mem_iff_getElem?.mpr ⟨i, ?_⟩
        rw [List.getElem?_take, if_pos hij]
        exact xi
      rw [e3, List.flatten_append, List.flatten_cons] at k
      have k' : (((X.take j).flatten ++ (d :: s ++ (X.drop (j + 1)).flatten)).map Prod.fst).Nodup := k
      rw [List.map_append] at k'
      exact (List.nodup_append.mp k').2.2 e.1 (List.mem_map_of_mem (List.mem_flatten.mpr ⟨_, m1, List.mem_cons_self⟩)) d.1 (List.mem_map_of_mem (List.mem_append_left _ List.mem_cons_self)) ek
theorem LB.of2 {h : Addr} {Z H Z' H' : Hp} {D : Addr} {P : Ent → Prop} {qs F : List Addr} {κ μ : Addr → Nat} {m : Nat} (t0 : T [h] Z H Z' H') (s : LY Z' H' D qs F κ μ P 3000 130 m) (hm : m ≤ 200) (fr : ∀ b ∈ D :: (qs ++ F), H b = none) : LB h Z H Z' H' D P :=
  LB.of (M := []) t0 (T.refl s.zh) (fun b hb => absurd hb List.not_mem_nil) s hm fr
theorem strOk_it {x : Str} : PyData.strOk x = true ↔ ∀ c ∈ x.cps.toList, c < 0x110000 := by
  unfold PyData.strOk
  rw [← Array.all_toList, List.all_eq_true]
  simp
theorem strOk_part {x : Str} {lo hi : Option Int} (h : PyData.strOk x = true) : PyData.strOk (cutS x lo hi) = true := by
  rw [strOk_it] at h ⊢
  exact fun c hc => h c (List.mem_of_mem_drop (List.mem_of_mem_take hc))
theorem strOk_plus {x y : Str} (h : PyData.strOk x = true) (g : PyData.strOk y = true) : PyData.strOk (x ++ y) = true := by
  rw [strOk_it] at h g ⊢
  intro c hc
  have e : (x ++ y).cps.toList = x.cps.toList ++ y.cps.toList := Array.toList_append
  rw [e] at hc
  rcases List.mem_append.mp hc with hc | hc
  · exact h c hc
  · exact g c hc
theorem str_app_len (x y : Str) : (x ++ y).length = x.length + y.length := Array.size_append
section
variable {H : Hp} {Q : VK} {x y : Str} {lo hi : Option Int}
theorem s_slS (h : x.length ≤ 1000) (q : Q (.str (cutS x lo hi)) H) : rSlS (.str x) lo hi H Q := ⟨x, rfl, sz_of (by omega), q⟩
theorem s_plusS (h : x.length + y.length ≤ 1000) (q : Q (.str (x ++ y)) H) : rPlus (.str x) (.str y) H Q := .inr (.inr ⟨x, y, rfl, rfl, sz_of (by omega), q⟩)
end
theorem cut_len7 (x : Str) : (cutS x none (some 7)).length ≤ 7 := by
  show (((x.cps.toList.drop (HT.sIx x.length 0 none)).take (HT.sIx x.length x.length (some 7) - HT.sIx x.length 0 none)).toArray).size ≤ 7
  rw [List.size_toArray, List.length_take]
  have : HT.sIx x.length x.length (some 7) ≤ 7 := by
    unfold HT.sIx
    simp
    omega
  omega
end TR

namespace TR
open PySem L2
theorem strOk_iff {x : Str} : PyData.strOk x = true ↔ ∀ c ∈ TL.tl x, c < 0x110000 := by
  unfold PyData.strOk TL.tl
  rw [Array.all_eq_true']
  refine ⟨fun h c hc => of_decide_eq_true (h c (Array.mem_toList_iff.mp hc)), fun h c hc => decide_eq_true (h c (Array.mem_toList_iff.mpr hc))⟩
theorem joinL_mem {S : List Nat} : ∀ {ps : List (List Nat)} {c : Nat}, c ∈ TL.joinL S ps → c ∈ S ∨ ∃ p ∈ ps, c ∈ p
  | [], c, h => absurd h List.not_mem_nil
  | [p], c, h => .inr ⟨p, List.mem_cons_self, h⟩
  | p :: q :: r, c, h => by
    have h' : c ∈ p ++ (S ++ TL.joinL S (q :: r)) := h
    rcases List.mem_append.mp h' with h' | h'
    · exact .inr ⟨p, List.mem_cons_self, h'⟩
    · rcases List.mem_append.mp h' with h' | h'
      · exact .inl h'
      · rcases joinL_mem h' with g | ⟨p', g1, g2⟩
        · exact .inl g
        · exact .inr ⟨p', List.mem_cons_of_mem _ g1, g2⟩
theorem join_mem {y : Str} {l : List Str} {c : Nat} (h : c ∈ TL.tl (Txt.join y l)) : c ∈ TL.tl y ∨ ∃ x ∈ l, c ∈ TL.tl x := by
  rw [TL.join_eq, TL.tl_join] at h
  rcases joinL_mem h with g | ⟨p, g1, g2⟩
  · exact .inl g
  · obtain ⟨x, hx, rfl⟩ := List.mem_map.mp g1
    exact .inr ⟨x, hx, g2⟩
theorem join_ok {y : Str} {l : List Str} (hy : PyData.strOk y = true) (h : ∀ x ∈ l, PyData.strOk x = true) : PyData.strOk (Txt.join y l) = true :=
  strOk_iff.mpr fun c hc => by
    rcases join_mem hc with g | ⟨x, hx, g⟩
    · exact strOk_iff.mp hy c g
    · exact strOk_iff.mp (h x hx) c g
theorem joinL_len : ∀ {ps : List (List Nat)}, (TL.joinL [] ps).length = (ps.map List.length).sum
  | [] => rfl
  | [p] => by simp [TL.joinL]
  | p :: q :: r => by
    show (p ++ ([] ++ TL.joinL [] (q :: r))).length = _
    rw [List.length_append, List.nil_append, joinL_len (ps := q :: r)]
    simp
theorem s_ixStr {K : PySem.W.Frag} {H : Hp} {Q : VK} {z : Str} {i : Int} (h : 0 ≤ i ∧ i < (TL.tl z).length) (hz : z.length ≤ 100000) (q : ∀ c, c ∈ TL.tl z → Q (.str ⟨#[c]⟩) H) : rIx K (.str z) (.int i) H Q := by
  have hi : i.toNat < z.cps.toList.length := by have := h.2; show i.toNat < (TL.tl z).length; omega
  exact .inr (.inr ⟨z, i, _, rfl, rfl, sz_of hz, atI_lt h.1 (List.getElem?_eq_getElem hi), q _ (List.getElem_mem hi)⟩)
theorem s_joinL {K : PySem.W.Frag} {H : Hp} {Q : VK} {p : Addr} {y : Str} {l : List Str} (h : H p = some (.lst (l.map V.str))) (hz : (l.map (·.length)).sum + l.length * y.length ≤ 16777216) (q : Q (.str (Txt.join y l)) H) :
    ∃ (a : Str) (p' : Addr), ∃ ys : List Str, V.str y = .str a ∧ [V.ref p] = [.ref p'] ∧ (SqL K H p' (ys.map V.str) ∨ SqT K H p' (ys.map V.str)) ∧ (ys.map (·.length)).sum + ys.length * a.length ≤ 16777216 ∧ Q (.str (Txt.join a ys)) H :=
  ⟨y, p, l, rfl, rfl, .inl (sq_of h), hz, q⟩
end TR

/-! words of T: zh (all of Z stands), zz, pz (what stands in Z), hz (in H), iz (data in Z), sqz, stz, nm (not among), nez, al, hd (the hand), la, mu, li, ls, mm, fz (was not there), tt (the whole way); t, ts: steps -/
open PySem L2 TR
local macro_rules | `(tactic| walk_at "zh") => `(tactic| first
  | assumption
  | exact T.zh (by assumption)
  | exact Ex.refl _
  | exact Hand.z (by assumption))
local macro_rules | `(tactic| walk_at "zhx") => `(tactic| first
  | exact T.zh (by assumption)
  | assumption
  | exact Hand.z (by assumption))
local macro_rules | `(tactic| walk_at "pz") => `(tactic| first
  | assumption
  | (apply T.pz; (focus assumption); walk_at "pz"))
local macro_rules | `(tactic| walk_at "hz") => `(tactic| first
  | assumption
  | (apply T.hp; (focus assumption); (focus walk_at "nm"); walk_at "hz"))
local macro_rules | `(tactic| walk_at "nm") => `(tactic| first
  | exact nm_nil
  | assumption
  | (apply nm_cons; (focus walk_at "nez"); walk_at "nm"))
local macro_rules | `(tactic| walk_at "nez") => `(tactic| first
  | assumption
  | (apply Ne.symm; assumption)
  | (apply ne_alF; (focus assumption); (focus walk_at "al"))
  | (apply ne_alB; (focus assumption); (focus walk_at "al")))
local macro_rules | `(tactic| walk_at "al") => `(tactic| first
  | exact Hand.at (by assumption)
  | exact Mu.a (by assumption)
  | exact Lm.at_ (by assumption)
  | exact ⟨_, by assumption⟩
  | (apply T.all; (focus assumption); walk_at "al"))
local macro_rules | `(tactic| walk_at "hd") => `(tactic| first
  | assumption
  | (apply Hand.tt; (focus assumption); (focus walk_at "nm"); walk_at "hd"))
local macro_rules | `(tactic| walk_at "la") => `(tactic| first
  | assumption
  | (apply Lm.tt; (focus assumption); (focus walk_at "nm"); walk_at "la"))
local macro_rules | `(tactic| walk_at "ls") => `(tactic| first
  | assumption
  | (apply Ls.ofInts; walk_at "pz")
  | (apply Ls.tt; (focus assumption); walk_at "ls"))
local macro_rules | `(tactic| walk_at "lsn") => `(tactic| first
  | (walk_at "ls")
  | (apply Ls.l0; walk_at "pz")
  | (apply Ls.l1; (focus walk_at "pz"); walk_at "iz")
  | (apply Ls.l2; (focus walk_at "pz"); (focus walk_at "iz"); walk_at "iz"))
local macro_rules | `(tactic| walk_at "li") => `(tactic| first
  | (apply Ls.li; (focus first | walk_at "lsn" | (apply Ik.li; walk_at "izc")); walk_at "zh")
  | (apply Lm.li; walk_at "la"))
local macro_rules | `(tactic| walk_at "izc") => `(tactic| first
  | assumption
  | exact Ls.is (by assumption)
  | (apply Ik.tt; (focus assumption); walk_at "izc"))
local macro_rules | `(tactic| walk_at "iz") => `(tactic| first
  | exact Ik.int _
  | exact Ik.bl _
  | exact Ik.tx _
  | walk_at "izc"
  | exact Ik.no
  | exact Ik.yes _
  | exact Ik.opt _
  | exact Ik.noS
  | exact Ik.yesS _
  | (apply Ik.pair; (focus walk_at "pz"); (focus walk_at "iz"); walk_at "iz")
  | (apply Ik.three; (focus walk_at "pz"); (focus walk_at "iz"); (focus walk_at "iz"); walk_at "iz")
  | (apply Ik.four; (focus walk_at "pz"); (focus walk_at "iz"); (focus walk_at "iz"); (focus walk_at "iz"); walk_at "iz")
  | (apply Ik.nil; walk_at "pz")
  | (apply Ls.is; walk_at "lsn")
  | (apply Ik.ints; walk_at "pz"))
local macro_rules | `(tactic| walk_at "sqz") => `(tactic| first
  | assumption
  | (apply sq_of; walk_at "pz")
  | (apply Ik.sqI; assumption)
  | (apply T.sqz; (focus assumption); walk_at "sqz"))
local macro_rules | `(tactic| walk_at "stz") => `(tactic| first
  | assumption
  | (apply st_of; walk_at "pz")
  | (apply T.stz; (focus assumption); walk_at "stz"))
local macro_rules | `(tactic| walk_at "memz") => `(tactic| first
  | assumption
  | exact List.mem_cons_self
  | (apply List.mem_cons_of_mem; walk_at "memz"))
local macro_rules | `(tactic| walk_at "ac") => `(tactic| first
  | exact AC.refl
  | assumption
  | (apply T.ac; (focus assumption); walk_at "ac"))
local macro_rules | `(tactic| walk_at "fz") => `(tactic| first
  | assumption
  | (apply fresh_of; (focus assumption); walk_at "ac"))
local macro_rules | `(tactic| walk_at "mm") => `(tactic| first
  | exact mm_nil
  | exact mm_same
  | (apply mm_cons; (focus first | exact Or.inl (by walk_at "memz") | exact Or.inr (by walk_at "fz")); walk_at "mm"))
local macro_rules | `(tactic| walk_at "tt") => `(tactic| first | assumption | exact T.refl (by walk_at "zh") | (apply T.step; rotate_left; (focus assumption); (focus walk_at "mm"); walk_at "tt"))
/-! the old words, widened -/
local macro_rules | `(tactic| walk_at "hp") => `(tactic| first
  | assumption
  | exact T.zh (by assumption) _ _ (by assumption)
  | (apply ex_ap; (focus walk_at "zhx"); (focus walk_at "pz"))
  | walk_at "hz"
  | (apply ex_ap; (focus assumption); walk_at "hp")
  | (apply exm_ap; (focus assumption); (focus walk_at "ne"); walk_at "hp"))
local macro_rules | `(tactic| walk_at "sq") => `(tactic| first
  | assumption
  | exact RW.sq (by assumption)
  | (apply sq_of; (focus walk_at "hp"))
  | (apply Ex.sq; (focus walk_at "zhx"); walk_at "sqz")
  | (apply Ex.sq; rotate_left; (focus assumption); walk_at "ex"))
local macro_rules | `(tactic| walk_at "st") => `(tactic| first
  | assumption
  | (apply st_of; (focus walk_at "hp"))
  | (apply Ex.st; (focus walk_at "zhx"); walk_at "stz")
  | (apply Ex.st; rotate_left; (focus assumption); walk_at "ex"))
local macro_rules | `(tactic| walk_at "isK") => `(tactic| first
  | (apply Ik.ex; (focus walk_at "zhx"); walk_at "iz")
  | (apply Lm.isH; walk_at "la")
  | (apply Ik.nil; walk_at "hp"))
local macro_rules | `(tactic| walk_at "is") => `(tactic| first | exact Is.int _ | exact Is.bl _ | assumption | (apply Ik.is; walk_at "isK") | exact RW.is (by assumption) | (apply Is.nil; walk_at "sq") | (apply Is.ints; walk_at "sq"))
/-! steps -/
local macro_rules | `(tactic| walk_at "ig") => `(tactic| first
  | ((with_reducible apply ig_at); (focus walk_at "at"))
  | ((with_reducible apply ig_ints); (focus omega); intro _ _)
  | ((with_reducible apply ig_2b); intro _ _)
  | ((with_reducible apply ig_2); (focus omega); intro _ _)
  | ((with_reducible apply ig_3); (focus omega); intro _ _)
  | ((with_reducible apply ig_4); (focus omega); intro _ _))
local macro_rules | `(tactic| walk_at "q") => `(tactic| first
  | ((with_reducible apply s_var); (focus rfl))
  | (with_reducible (first | apply s_seq | apply s_asg | apply s_gname | apply s_cons | apply s_nil | apply s_call | apply s_op | apply s_c | apply s_if | apply s_test | apply s_ret | apply s_next | apply s_drop | apply s_bl | apply s_and | apply s_or | apply s_not | apply s_CB | apply s_tup | apply s_lst | apply s_tB | apply s_un | apply s_sl | apply s_np | apply s_part)))
local macro_rules | `(tactic| walk_at "t2") => `(tactic| first
  | (with_reducible (first | apply s_chain | apply s_andV | apply s_orV | apply s_notV | apply s_ifE | apply s_I0 | apply s_U | apply s_plusI | apply s_eqI | apply s_neI | apply s_eqB | apply s_neB | apply s_eqS | apply s_neS | apply s_int | apply s_BM | apply s_BM0 | apply s_gsub | apply s_augS | apply s_ipI | apply s_forL | apply s_forT | apply s_forR1 | apply s_forR2 | apply s_forE | apply s_forZ | apply s_forS | apply s_lcL | apply s_lcT | apply s_lcR1 | apply s_lcR2 | apply s_lcE | apply s_lcZ | apply s_yes | apply s_dget2 | apply s_dput))
  | ((with_reducible apply s_wp); (focus rfl))
  | (with_reducible (first | apply s_lstRg | apply s_Rg1 | apply s_Rg2 | apply s_int2))
  | ((with_reducible apply s_mod); (focus walk_at "od"); intro _ _)
  | ((with_reducible apply s_div); (focus walk_at "od"); (focus walk_at "od"))
  | (walk_at "pow")
  | ((with_reducible apply s_pow); (focus decide); (focus walk_at "od"))
  | ((with_reducible apply s_mulL); (focus walk_at "od"))
  | ((with_reducible apply s_mulR); (focus walk_at "od"))
  | ((with_reducible apply t_tup); (focus walk_at "zh"); (focus walk_at "od"); intro _ _ _ _ _ _)
  | ((with_reducible apply t_lst0); (focus walk_at "zh"); intro _ _ _ _ _ _ _)
  | ((with_reducible apply t_lst); (focus walk_at "zh"); (focus walk_at "od"); intro _ _ _ _ _ _)
  | ((with_reducible apply drawT); (focus walk_at "hd"); (focus walk_at "od"); (focus walk_at "od"); (focus walk_at "od"); intro _ _ _ _ _ _ _)
  | ((with_reducible apply farT); (focus walk_at "hd"); (focus walk_at "od"); (focus walk_at "od"); (focus walk_at "od"); intro _ _ _ _ _ _ _)
  | ((with_reducible apply keyT); (focus walk_at "hd"); (focus walk_at "od"); intro _ _ _ _ _ _ _)
  | ((with_reducible apply thingT); (focus walk_at "hd"); (focus walk_at "od"); intro _ _ _ _ _)
  | ((with_reducible apply openT); (focus walk_at "zh"); (focus walk_at "sq"); (focus walk_at "od"); (focus walk_at "od"); intro _ _ _ _ _ _)
  | ((with_reducible apply placesT); (focus walk_at "zh"); (focus walk_at "sq"); (focus walk_at "od"); intro _ _ _ _ _ _)
  | ((with_reducible apply t_rg); (focus walk_at "zh"); (focus omega); intro _ _ _ _ _ _)
  | ((with_reducible apply s_sum); (focus walk_at "sq"))
  | ((with_reducible apply s_all); (focus walk_at "sq"))
  | ((with_reducible apply s_any); (focus walk_at "sq"))
  | ((with_reducible apply s_maxL); (focus walk_at "sq"); (focus walk_at "len"))
  | ((with_reducible apply s_minL); (focus walk_at "sq"); (focus walk_at "len"))
  | ((with_reducible apply t_sorted); (focus walk_at "zh"); (focus walk_at "sq"); intro _ _ _ _ _ _)
  | ((with_reducible apply t_cat); (focus walk_at "zh"); (focus walk_at "li"); (focus walk_at "li"); (focus walk_at "len"); intro _ _ _ _ _ _)
  | ((with_reducible apply t_slIs); (focus walk_at "zh"); (focus walk_at "izc"); intro _ _ _ _ _ _)
  | ((with_reducible apply t_slLi); (focus walk_at "zh"); (focus walk_at "li"); intro _ _ _ _ _ _)
  | (with_reducible apply s_rev)
  | ((with_reducible apply t_rev); (focus walk_at "zh"); (focus walk_at "izc"); intro _ _ _ _ _ _)
  | ((with_reducible apply t_list); (focus walk_at "zh"); (focus walk_at "izc"); intro _ _ _ _ _ _)
  | ((with_reducible apply t_len); (focus walk_at "zh"); (focus walk_at "izc"))
  | ((with_reducible apply t_lenLi); (focus walk_at "li"))
  | ((with_reducible apply s_lenM); (focus walk_at "sq"))
  | ((with_reducible apply s_lenL); (focus walk_at "sq"))
  | ((with_reducible apply s_lenT); (focus walk_at "st"))
  | ((with_reducible apply s_gt2); (focus walk_at "st"))
  | ((with_reducible apply s_gt3); (focus walk_at "st"))
  | ((with_reducible apply s_gt4); (focus walk_at "st"))
  | (with_reducible (first | apply s_isN0 | apply s_isN1 | apply s_isN2 | apply s_isN3 | apply s_notN0 | apply s_notN1 | apply s_notN2 | apply s_notN3 | apply s_max2 | apply s_min2 | apply s_abs | apply s_int1 | apply s_int1b))
  | ((with_reducible apply s_isiI); (focus walk_at "kit"))
  | ((with_reducible apply s_isiB); (focus walk_at "kit"))
  | ((with_reducible apply s_isiS); (focus walk_at "kit"))
  | ((with_reducible apply s_isiN); (focus walk_at "kit"))
  | ((with_reducible apply s_isiT); (focus walk_at "st"); (focus walk_at "kit"))
  | ((with_reducible apply s_isiL); (focus walk_at "sq"); (focus walk_at "kit"))
  | ((with_reducible apply s_index); (focus walk_at "sq"); (focus assumption); intro _ _ _)
  | ((with_reducible apply s_niL); (focus walk_at "sq"))
  | ((with_reducible apply s_inL); (focus walk_at "sq"))
  | ((with_reducible apply s_niT); (focus walk_at "st"))
  | ((with_reducible apply s_inT); (focus walk_at "st"))
  | ((with_reducible apply t_tyLA); (focus walk_at "la"))
  | ((with_reducible apply s_tyL); (focus walk_at "sq"))
  | ((with_reducible apply t_app); (focus walk_at "la"); (focus walk_at "iz"); (focus walk_at "len"); intro _ _ _ _)
  | ((with_reducible apply s_aug); (focus rfl))
  | ((with_reducible apply ixGo); (focus walk_at "sq"); walk_at "ig")
  | ((with_reducible apply ixGoT); (focus walk_at "st"); walk_at "ig")
  | (with_reducible (first | apply i_t | apply i_f | apply i_nt | apply i_nf))
  | ((with_reducible apply i_dt); (focus (first | trivial | assumption | omega | rfl)))
  | ((with_reducible apply i_df); (focus (first | assumption | omega | exact (fun h => h rfl))))
  | ((with_reducible apply i_ndt); (focus (first | trivial | assumption | omega | rfl)))
  | ((with_reducible apply i_ndf); (focus (first | assumption | omega | exact (fun h => h rfl)))))
local macro_rules | `(tactic| walk_at "t") => `(tactic| first
  | walk_at "q"
  | walk_at "t2")
local macro_rules | `(tactic| walk_at "ts") => `(tactic| ((try dsimp only); (repeat walk_at "t")))
/-! as ts, but it stops at list(..) -/
/-! words for yards (math/yt) -/
local macro_rules | `(tactic| walk_at "ty2") => `(tactic| first
  | ((with_reducible apply keysT); (focus walk_at "hd"); (focus walk_at "od"); (focus walk_at "od"); intro _ _ _ _ _ _ _ _ _ _ _)
  | ((with_reducible apply t_sortedE); (focus walk_at "zh"); (focus walk_at "izc"); (focus assumption); intro _ _ _ _ _ _)
  | ((with_reducible apply t_reverse); (focus walk_at "la"); intro _ _ _ _)
  | ((with_reducible apply t_extend); (focus walk_at "la"); (focus walk_at "li"); (focus walk_at "len"); intro _ _ _ _)
  | ((with_reducible apply t_ixE0); (focus walk_at "izc"); (focus walk_at "zh"))
  | ((with_reducible apply t_ixE1); (focus walk_at "izc"); (focus walk_at "zh"))
  | (with_reducible apply s_lcR3)
  | walk_at "t2")
local macro_rules | `(tactic| walk_at "ty") => `(tactic| first
  | walk_at "q"
  | walk_at "ty2")
local macro_rules | `(tactic| walk_at "tys") => `(tactic| ((try dsimp only); (repeat walk_at "ty")))
local macro_rules | `(tactic| walk_at "tyN") => `(tactic| ((try dsimp only); (repeat ((fail_if_success (with_reducible apply at_newl)); walk_at "ty"))))

/-! words for dicts (math/dm) -/
local macro_rules | `(tactic| walk_at "al") => `(tactic| first
  | exact Hand.at (by assumption)
  | exact Mu.a (by assumption)
  | exact Lm.at_ (by assumption)
  | exact Dm.at_ (by assumption)
  | exact ⟨_, by assumption⟩
  | (apply T.all; (focus assumption); walk_at "al"))
/-! words for classes and exceptions -/
/-! words for tables -/
local macro_rules | `(tactic| walk_at "al") => `(tactic| first
  | exact Hand.at (by assumption)
  | exact Mu.a (by assumption)
  | exact Lm.at_ (by assumption)
  | exact Dm.at_ (by assumption)
  | exact Tb.al (by assumption)
  | exact ⟨_, by assumption⟩
  | (apply T.all; (focus assumption); walk_at "al"))
namespace Lw
open PySem L2 TR
open PySem.Spec PyProof.Rows

/-! ### the text -/
def topS (i : Nat) : Stmt := PySem.Challenge.pw_tailrooms_k41_clean_yards.main.body.getD i (.Pass ⟨0, 0, 0, 0⟩)

structure Z (K : PySem.W.Frag) (mg : Str → Option Value) : Prop where
  b_list : mg "list" = none
  b_range : mg "range" = none
  b_max : mg "max" = none
  b_min : mg "min" = none
  b_len : mg "len" = none
  b_sorted : mg "sorted" = none
  b_set : mg "set" = none
  b_isinstance : mg "isinstance" = none
  b_bool : mg "bool" = none
  b_int : mg "int" = none
  b_tuple : mg "tuple" = none
  b_abs : mg "abs" = none

abbrev s_law_places : Stmt := topS 24

abbrev s_law_cut : Stmt := topS 18

abbrev s_law_room : Stmt := topS 17

abbrev s_law_clean : Stmt := topS 19

abbrev s_law_all_of : Stmt := topS 20

abbrev s_law_is_clean : Stmt := topS 27

abbrev s_cut_rows : Stmt := topS 4

abbrev s_whole_rooms : Stmt := topS 1

abbrev s_room_of : Stmt := topS 2

abbrev s_yard_of : Stmt := topS 5

abbrev s_entries_in : Stmt := topS 6

abbrev s_is_clean : Stmt := topS 7

abbrev s_law_copy : Stmt := topS 21

abbrev s_law_looked : Stmt := topS 28

abbrev s_law_draw : Stmt := topS 10

abbrev s_law_one_room : Stmt := topS 25

abbrev s_law_spoilt : Stmt := topS 26

abbrev s_law_whole : Stmt := topS 16

abbrev s_law_is_yard : Stmt := topS 22

abbrev s_law_far : Stmt := topS 11

abbrev s_law_power : Stmt := topS 12

abbrev s_law_key : Stmt := topS 13

abbrev s_law_keys : Stmt := topS 15

abbrev s_law_thing : Stmt := topS 14

abbrev s_law_near : Stmt := topS 23

abbrev s_law_open : Stmt := topS 9

abbrev s_law : Stmt := topS 29

theorem sc_law_places : FnScope ["_law_script", "_law_least", "_law_most"] ["_law_script", "_law_least", "_law_most"] (defScope s_law_places) := ⟨rfl, rfl, rfl, by decide +kernel, rfl, by decide +kernel, by decide +kernel⟩

theorem sc_law_cut : FnScope ["_law_wide", "_law_entries", "_law_some", "_law_rows"] ["_law_wide", "_law_entries"] (defScope s_law_cut) := ⟨rfl, rfl, rfl, by decide +kernel, rfl, by decide +kernel, by decide +kernel⟩

theorem sc_law_room : FnScope ["_law_key_here", "_law_rooms", "_law_room_here", "_law_grade"] ["_law_key_here", "_law_rooms"] (defScope s_law_room) := ⟨rfl, rfl, rfl, by decide +kernel, rfl, by decide +kernel, by decide +kernel⟩

theorem sc_law_clean : FnScope ["_law_wide", "_law_rooms", "_law_entries", "_law_parts", "_law_entry", "_law_k", "_law_part"] ["_law_wide", "_law_rooms", "_law_entries"] (defScope s_law_clean) := ⟨rfl, rfl, rfl, by decide +kernel, rfl, by decide +kernel, by decide +kernel⟩

theorem sc_law_all_of : FnScope ["_law_yard", "_law_entries", "_law_rows", "_law_row"] ["_law_yard"] (defScope s_law_all_of) := ⟨rfl, rfl, rfl, by decide +kernel, rfl, by decide +kernel, by decide +kernel⟩

theorem sc_law_is_clean : FnScope ["_law_yard", "_law_entries", "_law_keys_here", "_law_at", "_law_key_here", "_law_thing_here"] ["_law_yard"] (defScope s_law_is_clean) := ⟨rfl, rfl, rfl, by decide +kernel, rfl, by decide +kernel, by decide +kernel⟩

theorem sc_cut_rows : FnScope ["wide", "entries", "rising", "at"] ["wide", "entries"] (defScope s_cut_rows) := ⟨rfl, rfl, rfl, by decide +kernel, rfl, by decide +kernel, by decide +kernel⟩

theorem sc_whole_rooms : FnScope ["rooms", "found"] ["rooms"] (defScope s_whole_rooms) := ⟨rfl, rfl, rfl, by decide +kernel, rfl, by decide +kernel, by decide +kernel⟩

theorem sc_room_of : FnScope ["key", "rooms", "whole"] ["key", "rooms"] (defScope s_room_of) := ⟨rfl, rfl, rfl, by decide +kernel, rfl, by decide +kernel, by decide +kernel⟩

theorem sc_yard_of : FnScope ["wide", "rooms", "entries", "parts", "entry", "room", "part"] ["wide", "rooms", "entries"] (defScope s_yard_of) := ⟨rfl, rfl, rfl, by decide +kernel, rfl, by decide +kernel, by decide +kernel⟩

theorem sc_entries_in : FnScope ["rows", "found", "row"] ["rows"] (defScope s_entries_in) := ⟨rfl, rfl, rfl, by decide +kernel, rfl, by decide +kernel, by decide +kernel⟩

theorem sc_is_clean : FnScope ["yard", "wide", "rooms", "held", "entries", "rows", "key", "thing"] ["yard"] (defScope s_is_clean) := ⟨rfl, rfl, rfl, by decide +kernel, rfl, by decide +kernel, by decide +kernel⟩

theorem sc_law_copy : FnScope ["_law_yard", "_law_rows", "_law_row"] ["_law_yard"] (defScope s_law_copy) := ⟨rfl, rfl, rfl, by decide +kernel, rfl, by decide +kernel, by decide +kernel⟩

theorem sc_law_looked : FnScope ["_law_yard", "_law_kept", "_law_got"] ["_law_yard"] (defScope s_law_looked) := ⟨rfl, rfl, rfl, by decide +kernel, rfl, by decide +kernel, by decide +kernel⟩

theorem sc_law_draw : FnScope ["_law_hand", "_law_many", "_law_got", "_law_k", "_law_number"] ["_law_hand", "_law_many"] (defScope s_law_draw) := ⟨rfl, rfl, rfl, by decide +kernel, rfl, by decide +kernel, by decide +kernel⟩

theorem sc_law_one_room : FnScope ["_law_hand", "_law_held", "_law_some", "_law_at"] ["_law_hand", "_law_held"] (defScope s_law_one_room) := ⟨rfl, rfl, rfl, by decide +kernel, rfl, by decide +kernel, by decide +kernel⟩

theorem sc_law_spoilt : FnScope ["_law_hand", "_law_yard", "_law_wide", "_law_rooms", "_law_held", "_law_way", "_law_room_here", "_law_rows", "_law_at", "_law_key_here", "_law_thing_here", "_law_one", "_law_other"] ["_law_hand", "_law_yard"] (defScope s_law_spoilt) := ⟨rfl, rfl, rfl, by decide +kernel, rfl, by decide +kernel, by decide +kernel⟩

theorem sc_law_whole : FnScope ["_law_got"] ["_law_got"] (defScope s_law_whole) := ⟨rfl, rfl, rfl, by decide +kernel, rfl, by decide +kernel, by decide +kernel⟩

theorem sc_law_is_yard : FnScope ["_law_got", "_law_due"] ["_law_got", "_law_due"] (defScope s_law_is_yard) := ⟨rfl, rfl, rfl, by decide +kernel, rfl, by decide +kernel, by decide +kernel⟩

theorem sc_law_far : FnScope ["_law_hand", "_law_many", "_law_number", "_law_k"] ["_law_hand", "_law_many"] (defScope s_law_far) := ⟨rfl, rfl, rfl, by decide +kernel, rfl, by decide +kernel, by decide +kernel⟩

theorem sc_law_power : FnScope ["_law_many", "_law_number", "_law_k"] ["_law_many"] (defScope s_law_power) := ⟨rfl, rfl, rfl, by decide +kernel, rfl, by decide +kernel, by decide +kernel⟩

theorem sc_law_key : FnScope ["_law_hand", "_law_way", "_law_low"] ["_law_hand"] (defScope s_law_key) := ⟨rfl, rfl, rfl, by decide +kernel, rfl, by decide +kernel, by decide +kernel⟩

theorem sc_law_keys : FnScope ["_law_hand", "_law_many", "_law_keys_here", "_law_k", "_law_key_here"] ["_law_hand", "_law_many"] (defScope s_law_keys) := ⟨rfl, rfl, rfl, by decide +kernel, rfl, by decide +kernel, by decide +kernel⟩

theorem sc_law_thing : FnScope ["_law_hand", "_law_letters", "_law_k"] ["_law_hand"] (defScope s_law_thing) := ⟨rfl, rfl, rfl, by decide +kernel, rfl, by decide +kernel, by decide +kernel⟩

theorem sc_law_near : FnScope ["_law_hand", "_law_many", "_law_near_here", "_law_keys_here", "_law_k", "_law_key_here"] ["_law_hand", "_law_many", "_law_near_here"] (defScope s_law_near) := ⟨rfl, rfl, rfl, by decide +kernel, rfl, by decide +kernel, by decide +kernel⟩

theorem sc_law_open : FnScope ["_law_script", "_law_place", "_law_cells", "_law_at", "_law_digits", "_law_cell"] ["_law_script", "_law_place"] (defScope s_law_open) := ⟨rfl, rfl, rfl, by decide +kernel, rfl, by decide +kernel, by decide +kernel⟩

theorem sc_law : FnScope ["_law_script", "_law_place", "_law_hand", "_law_way", "_law_rooms", "_law_wide", "_law_many", "_law_entries", "_law_handed", "_law_due", "_law_got", "_law_k", "_law_key_here"] ["_law_script"] (defScope s_law) := ⟨rfl, rfl, rfl, by decide +kernel, rfl, by decide +kernel, by decide +kernel⟩

section
variable {P : Program} {w : World} {K : PySem.W.Frag} {mg : Str → Option Value} {base : Heap}

/-! ### _law_places -/
def sp_law_places (K : PySem.W.Frag) : Sp := fun vs H Q _ => ∃ (a : Addr) (ns : List Int) (x y : Int), vs = [.ref a, .int x, .int y] ∧ SqL K H a (ns.map V.int) ∧ 0 ≤ x ∧ x ≤ 100 ∧ 0 ≤ y ∧ y ≤ 100 ∧
  ∀ p H', H p = none → Ex H H' → H' p = some (.lst (rgV 0 (max x (min (ns.length : Int) y)))) → Q (.ref p) H'
theorem has_law_places (z : Z K mg) (F : FunAt K mg "_law_places" s_law_places ["_law_script", "_law_least", "_law_most"])  : Has P w K mg base "_law_places" 1 (sp_law_places K) := by
  refine has_of F sc_law_places (fun vs H Q E h => ?_) (fun f cdv A outer s H vs Q E hr h => ?_)
  · obtain ⟨a, ns, x, y, rfl, _⟩ := h
    rfl
  · obtain ⟨a, ns, x, y, rfl, hS, h0, h1, h2, h3, q⟩ := h
    refine ⟨_, (pss_one (ps_ret (pe_listRg rfl (by rfl) z.b_list (prg_1 (by rfl) z.b_range (pe_callB (id := "max") (call_max2A rfl) (by rfl) z.b_max (by decide +kernel) (pa_cons (pv 1) (pa_cons (pe_callB (id := "min") (call_min2A rfl) (by rfl) z.b_min (by decide +kernel) (pa_cons (pe_callB (id := "len") (lenA (K := K) rfl) (by rfl) z.b_len (by decide +kernel) (pa_cons (pv 0) pa_nil)) (pa_cons (pv 2) pa_nil))) pa_nil))))))), ?_⟩
    walk_at "cx"
    walk_at "ss"
    rename_i p G n1 n2 n3
    exact q p G n1 n2 n3

/-! ### _law_cut -/
def sp_law_cut (K : PySem.W.Frag) : Sp := fun vs H Q _ => ∃ (wd : Int) (a : Addr) (Z : Hp) (es : TR.Row), vs = [.int wd, .ref a] ∧ Ex Z H ∧ Ik Z (.ref a) es ∧ OneK es ∧ 1 ≤ wd ∧ wd ≤ 1000 ∧ es.length ≤ 10000 ∧
  ∀ (D : Addr) Z' H', T [] Z H Z' H' → Ls Z' D (cutE wd.toNat (sortE es)) → Q (.ref D) H'
theorem has_law_cut (z : Z K mg) (F : FunAt K mg "_law_cut" s_law_cut ["_law_wide", "_law_entries"])  : Has P w K mg base "_law_cut" 1 (sp_law_cut K) := by
  refine has_of F sc_law_cut (fun vs H Q E h => ?_) (fun f cdv A outer s H vs Q E hr h => ?_)
  · obtain ⟨_, _, _, _, rfl, _⟩ := h
    rfl
  · obtain ⟨wd, a, Z, es, rfl, z0, is, ok, w0, w1, le, q⟩ := h
    refine ⟨_, (pss_cons (ps_set (i := 2) sc_law_cut.nd rfl (by first | exact Or.inl rfl | exact Or.inr rfl) (pe_callB (id := "sorted") (sortPSA (K := K) rfl) (by rfl) z.b_sorted (by decide +kernel) (pa_cons (pv 1) pa_nil)))
        (pss_cons (ps_set (i := 3) sc_law_cut.nd rfl (by first | exact Or.inl rfl | exact Or.inr rfl) (pe_lst (pa_cons (pe_slice (slA (K := K) rfl) (pv 2) po_none (po_some (pv 0))) pa_nil)))
        (pss_cons (ps_while PassesOwn.never (pt_cmpR op_gt (pe_callB (id := "len") (lenA (K := K) rfl) (by rfl) z.b_len (by decide +kernel) (pa_cons (pv 2) pa_nil)) (pv 0) (nomark _)) (pss_cons (ps_set (i := 2) sc_law_cut.nd rfl (by first | exact Or.inl rfl | exact Or.inr rfl) (pe_slice (slA (K := K) rfl) (pv 2) (po_some (pv 0)) po_none))
        (pss_one (ps_expr (pe_bm PySem.F.plainAttrs_list PySem.F.slot_list_append PySem.F.type_list_append mt_append (pv 3) (pa_cons (pe_slice (slA (K := K) rfl) (pv 2) po_none (po_some (pv 0))) pa_nil))))))
        (pss_one (ps_ret (pv 3)))))), ?_⟩
    walk_at "cx"
    walk_at "tyN"
    rename_i p1 Z1 H1 n1 t1 ls1 p2 Z2 H2 n2 t2 ls2
    rw [cutI_to _ (by omega)] at ls2
    have hw : 0 < wd.toNat := by omega
    have sl : (sortE es).length ≤ 10000 := by rw [sortE_len]; exact le
    refine t_lstM (l := [(sortE es).take wd.toNat]) t2.zh (.cons ls2.is .nil) (by show 1 ≤ 100000; decide) fun D Z3 H3 n3 t3 lm3 => ?_
    walk_at "tys"
    refine u_while (fun m σ H' => ∃ (Z' : Hp) (p : Addr) (l : TR.Row) (acc : List TR.Row), m = l.length ∧ σ = [some (.int wd), some (.ref a), some (.ref p), some (.ref D)] ∧ T [D] Z3 H3 Z' H' ∧ Ls Z' p l ∧ Lm Z' H' D (acc ++ [l.take wd.toNat]) ∧ acc ++ cutE wd.toNat l = cutE wd.toNat (sortE es) ∧ acc.length + l.length ≤ 10000) (sortE es).length ⟨Z3, p1, sortE es, [], rfl, rfl, T.refl t3.zh, by walk_at "ls", lm3, rfl, by simpa using sl⟩ (fun m σ H' hh => ?_)
    obtain ⟨Z4, p, l, acc, rfl, rfl, t4, ls4, lm4, ea, la⟩ := hh
    walk_at "tys"
    refine i_d (fun hd => ?_) (fun hd => ?_)
    · refine w_body ?_
      walk_at "tys"
      rename_i p5 Z5 H5 n5 t5 ls5 p6 Z6 H6 n6 t6 ls6 Z7 H7 t7 lm7
      rw [cutI_from l (show 0 ≤ wd by omega)] at ls5
      rw [cutI_from l (show 0 ≤ wd by omega), cutI_to _ (show 0 ≤ wd by omega)] at lm7
      refine ⟨(l.drop wd.toNat).length, by rw [List.length_drop]; omega, Z7, p5, l.drop wd.toNat, acc ++ [l.take wd.toNat], rfl, rfl, by walk_at "tt", by walk_at "ls", lm7, ?_, ?_⟩
      · rw [← ea, cutE_big (l := l) hw (by omega), List.append_assoc]
        rfl
      · rw [List.length_append, List.length_singleton, List.length_drop]
        omega
    · walk_at "tys"
      obtain ⟨Z5, t5, ls5⟩ := lm4.frz
      rw [cutE_small (by omega)] at ea
      rw [List.take_of_length_le (by omega), ea] at ls5
      exact q D Z5 H' (by walk_at "tt") ls5

/-! ### _law_room -/
def sp_law_room (K : PySem.W.Frag) : Sp := fun vs H Q _ => ∃ x r : Int, vs = [.int x, .int r] ∧ 0 ≤ x ∧ 1 ≤ r ∧ Q (.int (roomOf x r)) H
theorem has_law_room (z : Z K mg) (F : FunAt K mg "_law_room" s_law_room ["_law_key_here", "_law_rooms"])  : Has P w K mg base "_law_room" 1 (sp_law_room K) := by
  refine has_of F sc_law_room (fun vs H Q E h => ?_) (fun f cdv A outer s H vs Q E hr h => ?_)
  · obtain ⟨x, r, rfl, _⟩ := h
    rfl
  · obtain ⟨x, r, rfl, x0, r0, q⟩ := h
    refine ⟨_, (pss_cons (ps_set (i := 2) sc_law_room.nd rfl (by first | exact Or.inl rfl | exact Or.inr rfl) pe_int)
        (pss_cons (ps_set (i := 3) sc_law_room.nd rfl (by first | exact Or.inl rfl | exact Or.inr rfl) pe_int)
        (pss_cons (ps_while PassesOwn.never (PW.pt (pw_and (pt_cmpR op_gt (pv 0) pe_int (nomark _)) (pw_and1 (pt_cmpR op_lt (pv 3) (pv 1) (nomark _))))) (pss_cons (ps_if (PW.pt (pw_and (pt_cmpR (eqA (K := K) rfl hr.units) (pe_op op_mod (pv 0) pe_int) pe_int (nomark _)) (pw_and1 (pt_cmpR op_lt (pe_op op_plusA (pv 2) (pv 3)) (pv 1) (nomark _))))) (pss_one (ps_set (i := 2) sc_law_room.nd rfl (by first | exact Or.inl rfl | exact Or.inr rfl) (pe_op op_plusA (pv 2) (pv 3)))) pss_nil)
        (pss_cons (ps_set (i := 0) sc_law_room.nd rfl (by first | exact Or.inl rfl | exact Or.inr rfl) (pe_op op_fdivW (pv 0) pe_int))
        (pss_one (ps_set (i := 3) sc_law_room.nd rfl (by first | exact Or.inl rfl | exact Or.inr rfl) (pe_op op_multA (pv 3) pe_int))))))
        (pss_one (ps_ret (pv 2)))))), ?_⟩
    walk_at "cx"
    walk_at "ss"
    have l0 : lowRoom x r 0 = 0 := by
      unfold lowRoom
      rw [if_pos (Nat.zero_le _), show (2 : Int) ^ 0 = 1 from rfl]
      omega
    refine u_while (fun m σ H' => ∃ (k : Nat), σ = [some (.int (x / 2 ^ k)), some (.int r), some (.int (lowRoom x r k)), some (.int (2 ^ k))] ∧ H' = H ∧ m = (r - 2 ^ k).toNat) (r - 1).toNat ⟨0, by rw [l0, show (2 : Int) ^ 0 = 1 from rfl, Int.ediv_one]; rfl, rfl, rfl⟩ (fun m σ H' hh => ?_)
    obtain ⟨k, rfl, rfl, rfl⟩ := hh
    have p := two_pos k
    have st := low_step (x := x) r0 (k := k)
    have en := low_end (x := x) r0 (k := k) x0
    have xk : 0 ≤ x / 2 ^ k := Int.ediv_nonneg x0 (by omega)
    have e2 : x / 2 ^ (k + 1) = x / 2 ^ k / 2 := by rw [Int.pow_succ, Int.ediv_ediv_of_nonneg (by omega)]
    walk_at "ss"
    refine i_d (fun hd => ?_) (fun hd => ?_)
    · walk_at "ss"
      refine i_d (fun hd2 => ?_) (fun hd2 => ?_)
      · have st := st hd2
        refine w_body ?_
        have fin : ∀ (σ : L2.St), σ = [some (.int (x / 2 ^ (k + 1))), some (.int r), some (.int (lowRoom x r (k + 1))), some (.int (2 ^ (k + 1)))] → ∃ m', m' < (r - 2 ^ k).toNat ∧ ∃ k, σ = [some (.int (x / 2 ^ k)), some (.int r), some (.int (lowRoom x r k)), some (.int (2 ^ k))] ∧ H' = H' ∧ m' = (r - 2 ^ k).toNat := fun σ e => ⟨_, by rw [two_succ]; omega, k + 1, e, rfl, rfl⟩
        walk_at "ss"
        refine i_d (fun hd3 => ?_) (fun hd3 => ?_)
        · walk_at "ss"
          refine i_d (fun hd4 => ?_) (fun hd4 => ?_)
          · rw [if_pos ⟨hd3, hd4⟩] at st
            walk_at "ss"
            exact fin _ (by rw [e2, ← st, two_succ, Int.mul_comm 2]; rfl)
          · rw [if_neg (fun z => hd4 z.2)] at st
            walk_at "ss"
            exact fin _ (by rw [e2, ← st, two_succ, Int.mul_comm 2]; rfl)
        · rw [if_neg (fun z => hd3 z.1)] at st
          walk_at "ss"
          exact fin _ (by rw [e2, ← st, two_succ, Int.mul_comm 2]; rfl)
      · walk_at "ss"
        rw [en (.inr (by omega))]
        exact q
    · walk_at "ss"
      rw [en (.inl (by omega))]
      exact q

/-! ### _law_clean -/
def sp_law_clean (K : PySem.W.Frag) : Sp := fun vs H Q _ => ∃ (wd r : Int) (a : Addr) (Z : Hp) (es : TR.Row), vs = [.int wd, .int r, .ref a] ∧ Ex Z H ∧ Ik Z (.ref a) es ∧ Keys1 es ∧ (∀ e ∈ es, 0 ≤ e.1) ∧ 1 ≤ wd ∧ wd ≤ 1000 ∧ 1 ≤ r ∧ r ≤ 1000 ∧ es.length ≤ 9000 ∧
  ∀ (v : V) Z' H', T [] Z H Z' H' → Ik Z' v (cleanY wd r es) → Q v H'
theorem has_law_clean (z : Z K mg) (F : FunAt K mg "_law_clean" s_law_clean ["_law_wide", "_law_rooms", "_law_entries"]) (h_law_cut : Has P w K mg base "_law_cut" 1 (sp_law_cut K)) (h_law_room : Has P w K mg base "_law_room" 1 (sp_law_room K)) : Has P w K mg base "_law_clean" 2 (sp_law_clean K) := by
  refine has_of F sc_law_clean (fun vs H Q E h => ?_) (fun f cdv A outer s H vs Q E hr h => ?_)
  · obtain ⟨_, _, _, _, _, rfl, _⟩ := h
    rfl
  · obtain ⟨wd, r, a, Z, es, rfl, z0, is, k1, kp, w0, w1, r0, r1, le, q⟩ := h
    refine ⟨_, (pss_cons (ps_setLc (i := 3) (own := [("_law_k", 5)]) (g := gName 5) (tt := tYes) rfl sc_law_clean.nd rfl rfl (sw_true rfl rfl rfl (by decide +kernel)) (pi_range1 (by rfl) z.b_range (pa_cons (pv 1) pa_nil)) (blkOk_by (own := [("_law_k", 5)]) (N := ["_law_wide", "_law_rooms", "_law_entries", "_law_parts", "_law_entry", "_law_k", "_law_part"]) (sc := defScope s_law_clean) (by decide +kernel)) (fun _ _ _ _ _ => (pg_name (i := 5) sc_law_clean.nd rfl (by first | exact Or.inl rfl | exact Or.inr rfl))) (fun _ _ _ _ _ => pts_nil) (fun _ _ _ _ _ => (pe_lst pa_nil)))
        (pss_cons (ps_for PassesOwn.never rfl (piL (K := K) rfl (pv 2)) (pg_name (i := 4) sc_law_clean.nd rfl (by first | exact Or.inl rfl | exact Or.inr rfl)) (pss_one (ps_expr (pe_bm PySem.F.plainAttrs_list PySem.F.slot_list_append PySem.F.type_list_append mt_append (pe_ix (ixA (K := K) rfl) (pv 3) (pe_callH h_law_room (by decide) hr rfl (pa_cons (pe_ix (ixA (K := K) rfl) (pv 4) pe_int (fun _ _ => rfl)) (pa_cons (pv 1) pa_nil))) (fun _ _ => rfl)) (pa_cons (pv 4) pa_nil)))))
        (pss_one (ps_ret (pe_tup (pa_cons (pv 0) (pa_cons (pv 1) (pa_cons (pe_lc (own := [("_law_part", 6)]) (g := gName 6) (tt := tYes) rfl sc_law_clean.nd (piL (K := K) rfl (pv 3)) (blkOk_by (own := [("_law_part", 6)]) (N := ["_law_wide", "_law_rooms", "_law_entries", "_law_parts", "_law_entry", "_law_k", "_law_part"]) (sc := defScope s_law_clean) (by decide +kernel)) (fun _ _ _ _ _ => (pg_name (i := 6) sc_law_clean.nd rfl (by first | exact Or.inl rfl | exact Or.inr rfl))) (fun _ _ _ _ _ => pts_nil) (fun _ _ _ _ _ => (pe_callH h_law_cut (by decide) hr rfl (pa_cons (pv 0) (pa_cons (pv 6) pa_nil))))) pa_nil)))))))), ?_⟩
    walk_at "cx"
    walk_at "tys"
    refine c_newR (α := Ent) z0 (by omega) (fun i hi Z1 H1 t1 A hA => ?_) (fun D qs Z1 H1 t1 y1 fr1 => ?_)
    · walk_at "tys"
      rename_i p2 Z2 H2 n2 t2 m2 f2
      exact hA p2 Z2 H2 t2 n2 m2 f2
    walk_at "tys"
    refine t_forL is (fun i σ H' => ∃ (x1 x2 x3 : Option V) (Z' : Hp), σ = [some (.int wd), some (.int r), some (.ref a), some (.ref D), x1, x2, x3] ∧ T (D :: qs) Z1 H1 Z' H' ∧ Y2 Z' H' D qs (partsL r (es.take i))) (fun i σ H' hh => ?_) ⟨_, _, _, Z1, rfl, T.refl t1.zh, by rw [List.take_zero, partsL_nil]; exact y1⟩ (fun i v e σ H' he iv hh => ?_) (fun σ H' hh => ?_)
    · obtain ⟨x1, x2, x3, Z2, _, t2, _⟩ := hh
      exact (t1.z.trans t2.z).trans t2.zh
    · obtain ⟨x1, x2, x3, Z2, rfl, t2, y2⟩ := hh
      have iv2 : Ik Z2 v e := Ik.tt t2 (Ik.tt t1 iv)
      have e1 : es.take (i + 1) = es.take i ++ [e] := by rw [List.take_add_one, he]; rfl
      obtain ⟨p, hp, lp, ep⟩ := partsL_snoc r0 (es.take i) e
      obtain ⟨g0, g1⟩ := roomOf_range (key := e.1) r0
      obtain ⟨q1, hq1⟩ : ∃ q1, qs[(roomOf e.1 r).toNat]? = some q1 := ⟨_, List.getElem?_eq_getElem (by rw [y2.len, partsL_len]; omega)⟩
      have lt : (es.take i).length ≤ 9000 := by rw [List.length_take]; omega
      walk_at "tys"
      refine ⟨e.1, r, rfl, kp e (List.mem_of_getElem? he), r0, ?_⟩
      walk_at "tys"
      refine y2.ix g0 hq1 ?_
      walk_at "tys"
      obtain ⟨_, _, us, hus, _⟩ := y2.at hq1
      refine s_tyL (sq_of hus) ?_
      walk_at "tys"
      refine y2.push hq1 hp iv2 (by omega) fun Z3 H3 t3 y3 => ?_
      walk_at "tys"
      exact ⟨_, _, _, Z3, rfl, t2.step t3 (mm_1 (.inl (List.mem_cons_of_mem _ (List.mem_of_getElem? hq1)))), by rw [e1, ← ep]; exact y3⟩
    · obtain ⟨x1, x2, x3, Z2, rfl, t2, y2⟩ := hh
      rw [List.take_length] at y2
      obtain ⟨Z3, H3, e3, t3, ls3⟩ := y2.frq
      rw [← e3]
      clear e3
      have t03 : T [] Z H Z3 H3 := (t1.step t2 fun x hx => .inr (fr1 x hx)).step t3 fun x hx => .inr (fr1 x hx)
      walk_at "tys"
      refine c_mapL (fun p : TR.Row => cutE wd.toNat (sortE p)) t03.zh ls3.is (by rw [partsL_len]; omega) (fun i v p hp ip Z4 H4 t4 A hA => ?_) (fun D4 Z4 H4 n4 t4 ls4 => ?_)
      · have sp := partsL_mem (List.mem_of_getElem? hp)
        obtain ⟨pb, rfl, ip⟩ := ip.ref_of
        walk_at "tys"
        exact ⟨wd, pb, Z4, p, rfl, t4.zh, Ik.tt t4 ip, (k1.sub sp).one, w0, w1, by have := sp.length_le; omega, fun D5 Z5 H5 t5 ls5 => hA _ Z5 H5 t5 ls5.is⟩
      · rw [partsL_clean] at ls4
        walk_at "tys"
        rename_i p5 Z5 H5 n5 t5 f5
        exact q _ Z5 H5 ((t03.step t4 mm_nil).step t5 mm_nil) (Ik.three f5 (Ik.int _) (Ik.int _) (by walk_at "iz"))

/-! ### _law_all_of -/
def sp_law_all_of (K : PySem.W.Frag) : Sp := fun vs H Q _ => ∃ (v : V) (Z : Hp) (y : Yard), vs = [v] ∧ Ex Z H ∧ Ik Z v y ∧ (allE y.c).length ≤ 50000 ∧
  ∀ (D : Addr) Z' H', T [] Z H Z' H' → Ls Z' D (allE y.c) → Q (.ref D) H'
theorem has_law_all_of (z : Z K mg) (F : FunAt K mg "_law_all_of" s_law_all_of ["_law_yard"])  : Has P w K mg base "_law_all_of" 1 (sp_law_all_of K) := by
  refine has_of F sc_law_all_of (fun vs H Q E h => ?_) (fun f cdv A outer s H vs Q E hr h => ?_)
  · obtain ⟨_, _, _, rfl, _⟩ := h
    rfl
  · obtain ⟨v, Z, y, rfl, z0, iy, la, q⟩ := h
    refine ⟨_, (pss_cons (ps_set (i := 1) sc_law_all_of.nd rfl (by first | exact Or.inl rfl | exact Or.inr rfl) (pe_lst pa_nil))
        (pss_cons (ps_for PassesOwn.never rfl (piL (K := K) rfl (pe_ix (ixA (K := K) rfl) (pv 0) pe_int (fun _ _ => rfl))) (pg_name (i := 2) sc_law_all_of.nd rfl (by first | exact Or.inl rfl | exact Or.inr rfl)) (pss_one (ps_for PassesOwn.never rfl (piL (K := K) rfl (pv 2)) (pg_name (i := 3) sc_law_all_of.nd rfl (by first | exact Or.inl rfl | exact Or.inr rfl)) (pss_one (ps_set (i := 1) sc_law_all_of.nd rfl (by first | exact Or.inl rfl | exact Or.inr rfl) (pe_op op_plusA (pv 1) (pv 3)))))))
        (pss_one (ps_ret (pv 1))))), ?_⟩
    walk_at "cx"
    obtain ⟨a, b, rfl, ha, hb⟩ := iy.yard_of
    walk_at "tyN"
    refine t_lst z0 (by decide) fun p1 Z1 H1 n1 t1 f1 => ?_
    have ls1 : Ls Z1 p1 ([] : TR.Row) := Ls.l0 f1
    have ha1 := t1.z _ _ ha
    have hb1 : Ik Z1 (.ref b) y.c := Ik.tt t1 hb
    walk_at "tys"
    have tl : ∀ i, (allE (y.c.take i)).length ≤ 50000 := fun i => Nat.le_trans (allE_take y.c i) la
    refine t_forL hb1 (fun i σ H' => ∃ (p : Addr) (x2 x3 : Option V) (Z' : Hp), σ = [some (.ref a), some (.ref p), x2, x3] ∧ T [] Z1 H1 Z' H' ∧ Ls Z' p (allE (y.c.take i))) (fun i σ H' hh => ?_) ⟨p1, _, _, Z1, rfl, T.refl t1.zh, ls1⟩ (fun i v X σ H2 hX iX hh => ?_) (fun σ H2 hh => ?_)
    · obtain ⟨p, x2, x3, Z2, _, t2, _⟩ := hh
      exact t2.z.trans t2.zh
    · obtain ⟨p, x2, x3, Z2, rfl, t2, ls2⟩ := hh
      obtain ⟨xb, rfl, iX⟩ := iX.ref_of
      have e1 : y.c.take (i + 1) = y.c.take i ++ [X] := by rw [List.take_add_one, hX]; rfl
      have ef : allE (y.c.take (i + 1)) = allE (y.c.take i) ++ X.flatten := by
        rw [e1]
        simp only [allE, List.flatten_append, List.flatten_cons, List.flatten_nil, List.append_nil]
      have tl1 := tl (i + 1)
      rw [ef, List.length_append] at tl1
      have iX2 : Ik Z2 (.ref xb) X := Ik.tt t2 iX
      rw [ef]
      generalize allE (y.c.take i) = E0 at ls2 tl1
      walk_at "tys"
      refine t_forL iX2 (fun j σ H' => ∃ (p : Addr) (x3 : Option V) (Z' : Hp), σ = [some (.ref a), some (.ref p), some (.ref xb), x3] ∧ T [] Z2 H2 Z' H' ∧ Ls Z' p (E0 ++ (X.take j).flatten)) (fun j σ H' hh => ?_) ⟨p, _, Z2, rfl, T.refl t2.zh, by show Ls Z2 p (E0 ++ []); rw [List.append_nil]; exact ls2⟩ (fun j v r σ H3 hr ir hh => ?_) (fun σ H3 hh => ?_)
      · obtain ⟨p, x3, Z3, _, t3, _⟩ := hh
        exact t3.z.trans t3.zh
      · obtain ⟨p, x3, Z3, rfl, t3, ls3⟩ := hh
        obtain ⟨rb, rfl, ir⟩ := ir.ref_of
        have ir3 : Ls Z3 rb r := (Ik.tt t3 ir).li
        have e2 : X.take (j + 1) = X.take j ++ [r] := by rw [List.take_add_one, hr]; rfl
        have ef2 : (X.take (j + 1)).flatten = (X.take j).flatten ++ r := by rw [e2, List.flatten_append, List.flatten_cons, List.flatten_nil, List.append_nil]
        have lf : ((X.take j).flatten).length + r.length ≤ X.flatten.length := by
          have h2 := congrArg List.length (congrArg List.flatten (List.take_append_drop (j + 1) X))
          rw [List.flatten_append, List.length_append, ef2, List.length_append] at h2
          omega
        have l1 : (E0 ++ (X.take j).flatten).length + r.length ≤ 100000 := by rw [List.length_append]; omega
        walk_at "tys"
        rename_i p4 Z4 H4 n4 t4 ls4
        exact ⟨p4, _, Z4, rfl, t3.step t4 mm_nil, by rw [ef2, ← List.append_assoc]; exact ls4⟩
      · obtain ⟨p, x3, Z3, rfl, t3, ls3⟩ := hh
        rw [List.take_length] at ls3
        walk_at "tys"
        exact ⟨p, _, _, Z3, rfl, t2.step t3 mm_nil, ls3⟩
    · obtain ⟨p, x2, x3, Z2, rfl, t2, ls2⟩ := hh
      rw [List.take_length] at ls2
      walk_at "tys"
      exact q p Z2 H2 (t1.step t2 mm_nil) ls2

/-! ### _law_is_clean -/
def sp_law_is_clean (K : PySem.W.Frag) : Sp := fun vs H Q _ => ∃ (v : V) (Z : Hp) (y : Yard), vs = [v] ∧ Ex Z H ∧ Ik Z v y ∧ YB y ∧ (allE y.c).length ≤ 4000 ∧ y.b ≤ 900 ∧ y.a ≤ 900 ∧ (∀ e ∈ allE y.c, 0 ≤ e.1) ∧
  ∀ (b : Bool) Z' H', (b = true ↔ CleanP y) → T [] Z H Z' H' → Q (.bl b) H'
theorem has_law_is_clean (z : Z K mg) (F : FunAt K mg "_law_is_clean" s_law_is_clean ["_law_yard"]) (h_law_clean : Has P w K mg base "_law_clean" 2 (sp_law_clean K)) (h_law_all_of : Has P w K mg base "_law_all_of" 1 (sp_law_all_of K)) : Has P w K mg base "_law_is_clean" 3 (sp_law_is_clean K) := by
  refine has_of F sc_law_is_clean (fun vs H Q E h => ?_) (fun f cdv A outer s H vs Q E hr h => ?_)
  · obtain ⟨_, _, _, rfl, _⟩ := h
    rfl
  · obtain ⟨v, Z, y, rfl, z0, iy, yb, la, b9, a9, kb, q⟩ := h
    refine ⟨_, (pss_cons (ps_set (i := 1) sc_law_is_clean.nd rfl (by first | exact Or.inl rfl | exact Or.inr rfl) (pe_callH h_law_all_of (by decide) hr rfl (pa_cons (pv 0) pa_nil)))
        (pss_cons (ps_setLc (i := 2) (own := [("_law_key_here", 4), ("_law_thing_here", 5)]) (g := gTup K 2 (gCons (gName 4) (gCons (gName 5) gNil))) (tt := tYes) rfl sc_law_is_clean.nd rfl rfl (sw_true rfl rfl rfl (by decide +kernel)) (piL (K := K) rfl (pv 1)) (blkOk_by (own := [("_law_key_here", 4), ("_law_thing_here", 5)]) (N := ["_law_yard", "_law_entries", "_law_keys_here", "_law_at", "_law_key_here", "_law_thing_here"]) (sc := defScope s_law_is_clean) (by decide +kernel)) (fun _ _ _ _ _ => (pg_tup rfl (pgs_cons (pg_name (i := 4) sc_law_is_clean.nd rfl (by first | exact Or.inl rfl | exact Or.inr rfl)) (pgs_cons (pg_name (i := 5) sc_law_is_clean.nd rfl (by first | exact Or.inl rfl | exact Or.inr rfl)) pgs_nil)))) (fun _ _ _ _ _ => pts_nil) (fun _ _ _ _ _ => (pv 4)))
        (pss_cons (ps_for PassesOwn.never rfl (pi_range1 (by rfl) z.b_range (pa_cons (pe_callB (id := "len") (lenA (K := K) rfl) (by rfl) z.b_len (by decide +kernel) (pa_cons (pv 2) pa_nil)) pa_nil)) (pg_name (i := 3) sc_law_is_clean.nd rfl (by first | exact Or.inl rfl | exact Or.inr rfl)) (pss_one (ps_if (pt_cmpR (inA (K := K) rfl) (pe_ix (ixA (K := K) rfl) (pv 2) (pv 3) (fun _ _ => rfl)) (pe_slice (slA (K := K) rfl) (pv 2) po_none (po_some (pv 3))) (by rfl)) (pss_one (ps_ret pe_bl)) pss_nil)))
        (pss_one (ps_ret (pe_cmpR (eqA (K := K) rfl hr.units) (pv 0) (pe_callH h_law_clean (by decide) hr rfl (pa_cons (pe_ix (ixA (K := K) rfl) (pv 0) pe_int (fun _ _ => rfl)) (pa_cons (pe_ix (ixA (K := K) rfl) (pv 0) pe_int (fun _ _ => rfl)) (pa_cons (pv 1) pa_nil)))) (nomark _))))))), ?_⟩
    walk_at "cx"
    obtain ⟨ya, yc, rfl, hya, hyc⟩ := id iy.yard_of
    walk_at "tys"
    refine ⟨.ref ya, Z, y, rfl, z0, iy, by omega, fun D1 Z1 H1 t1 ls1 => ?_⟩
    have z1 := t1.zh
    walk_at "tys"
    refine c_mapL (fun e : Ent => e.1) z1 ls1.is (by omega) (fun i v e he iv Z2 H2 t2 A hA => ?_) (fun D2 Z2 H2 n2 t2 ls2 => ?_)
    · obtain ⟨pe, rfl, he1⟩ := (Ik.tt t2 iv).ent_of
      have z2 := t2.zh
      walk_at "tys"
      exact hA _ Z2 H2 (T.refl z2) (Ik.int _)
    have ls12 := ls1.tt t2
    have iy2 := Ik.tt t2 (Ik.tt t1 iy)
    have hya2 := t2.z _ _ (t1.z _ _ hya)
    have t02 := t1.step t2 mm_nil
    have z2 := t02.zh
    have f2 := ls2.ints
    have lk : ((allE y.c).map fun e : Ent => e.1).length ≤ 4000 := by rw [List.length_map]; exact la
    have ek : (allE y.c).map (fun e : Ent => e.1) = (allE y.c).map Prod.fst := rfl
    walk_at "tys"
    refine u_forR1 (fun i σ H' => ∃ (x3 x4 x5 : Option V) (Z' : Hp), σ = [some (.ref ya), some (.ref D1), some (.ref D2), x3, x4, x5] ∧ T [] Z2 H2 Z' H' ∧ (((allE y.c).map Prod.fst).take i).Nodup) (by omega) ⟨_, _, _, Z2, rfl, T.refl z2, List.nodup_nil⟩ (fun i σ H3 hi hq => ?_) (fun σ H3 hq => ?_)
    · obtain ⟨x3, x4, x5, Z3, rfl, t3, nd⟩ := hq
      have f3 := t3.z _ _ f2
      have z3 := t3.zh
      walk_at "tys"
      rename_i k hk p4 Z4 H4 n4 t4 ls4
      rw [Int.toNat_natCast] at hk
      rw [cutI_to _ (by omega), Int.toNat_natCast] at ls4
      refine s_inL _ (sq_of (t4.zh _ _ ls4.ints)) ?_
      have et : ((allE y.c).map Prod.fst).take (i + 1) = ((allE y.c).map Prod.fst).take i ++ [k] := by
        rw [List.take_add_one, show ((allE y.c).map Prod.fst)[i]? = some k from hk]
        rfl
      walk_at "tys"
      refine i_d (fun hd => ?_) (fun hd => ?_)
      · walk_at "tys"
        refine q false Z4 H4 ⟨fun h => absurd h (by decide), fun p => ?_⟩ ((t02.step t3 mm_nil).step t4 mm_nil)
        have k1 : ((allE y.c).map Prod.fst).Nodup := p.1
        have k2 := k1.sublist (List.take_sublist (i + 1) _)
        rw [et] at k2
        exact absurd rfl ((List.nodup_append.mp k2).2.2 k hd k (by simp))
      · walk_at "tys"
        refine ⟨_, _, _, Z4, rfl, t3.step t4 mm_nil, ?_⟩
        rw [et]
        refine List.nodup_append.mpr ⟨nd, List.nodup_cons.mpr ⟨List.not_mem_nil, List.nodup_nil⟩, fun a ha b hb e => ?_⟩
        rw [List.mem_singleton.mp hb] at e
        exact hd (e ▸ ha)
    · obtain ⟨x3, x4, x5, Z3, rfl, t3, nd⟩ := hq
      have k1 : Keys1 (allE y.c) := by
        rw [List.take_of_length_le (by rw [List.length_map]; omega)] at nd
        exact nd
      have iy3 := Ik.tt t3 iy2
      have hya3 := t3.z _ _ hya2
      have ls13 := ls12.tt t3
      have z3 := t3.zh
      obtain ⟨w0, w1, b0, b1, lc, lr, _⟩ := yb
      walk_at "tys"
      refine ⟨y.a, y.b, D1, Z3, allE y.c, rfl, z3, ls13.is, k1, kb, w0, by omega, b0, by omega, by omega, fun v4 Z4 H4 t4 i4 => ?_⟩
      refine s_eqP (x := y) (y := cleanY y.a y.b (allE y.c)) (Ik.ex t4.zh (Ik.tt t4 iy3)).is (Ik.ex t4.zh i4).is (by decide) ?_
      exact q _ Z4 H4 (by rw [decide_eq_true_iff]; exact ⟨fun e => ⟨k1, e⟩, fun p => p.2⟩) ((t02.step t3 mm_nil).step t4 mm_nil)

/-! ### cut_rows -/
def sp_cut_rows (K : PySem.W.Frag) : Sp := fun vs H Q _ => ∃ (wd : Int) (a : Addr) (Z Z0 : Hp) (es : TR.Row), vs = [.int wd, .ref a] ∧ Ex Z H ∧ Ex Z0 Z ∧ Ik Z0 (.ref a) es ∧ OneK es ∧ 1 ≤ wd ∧ wd ≤ 1000 ∧ es.length ≤ 39000 ∧
  ∀ (D : Addr) (ws : List Addr) Z' H', T [] Z H Z' H' → NewRs Z0 H Z' H' D ws (cutE wd.toNat (sortE es)) → Q (.ref D) H'
theorem has_cut_rows (z : Z K mg) (F : FunAt K mg "cut_rows" s_cut_rows ["wide", "entries"])  : Has P w K mg base "cut_rows" 1 (sp_cut_rows K) := by
  refine has_of F sc_cut_rows (fun vs H Q E h => ?_) (fun f cdv A outer s H vs Q E hr h => ?_)
  · obtain ⟨_, _, _, _, _, rfl, _⟩ := h
    rfl
  · obtain ⟨wd, a, Z, Z0, es, rfl, z0, z00, is, ok, w0, w1, le, q⟩ := h
    have okF : True → OneK es := fun _ => ok
    clear ok
    refine ⟨_, (pss_cons (ps_set (i := 2) sc_cut_rows.nd rfl (by first | exact Or.inl rfl | exact Or.inr rfl) (pe_callB (id := "sorted") (sortPSA (K := K) rfl) (by rfl) z.b_sorted (by decide +kernel) (pa_cons (pv 1) pa_nil)))
        (pss_one (ps_ret (pe_lc (own := [("at", 3)]) (g := gName 3) (tt := tYes) rfl sc_cut_rows.nd (pi_range3 (by rfl) z.b_range (pa_cons pe_int (pa_cons (pe_callB (id := "max") (call_max2A rfl) (by rfl) z.b_max (by decide +kernel) (pa_cons pe_int (pa_cons (pe_callB (id := "len") (lenA (K := K) rfl) (by rfl) z.b_len (by decide +kernel) (pa_cons (pv 2) pa_nil)) pa_nil))) (pa_cons (pv 0) pa_nil)))) (blkOk_by (own := [("at", 3)]) (N := ["wide", "entries", "rising", "at"]) (sc := defScope s_cut_rows) (by decide +kernel)) (fun _ _ _ _ _ => (pg_name (i := 3) sc_cut_rows.nd rfl (by first | exact Or.inl rfl | exact Or.inr rfl))) (fun _ _ _ _ _ => pts_nil) (fun _ _ _ _ _ => (pe_slice (slA (K := K) rfl) (pv 2) (po_some (pv 3)) (po_some (pe_op op_plusA (pv 3) (pv 0))))))))), ?_⟩
    walk_at "cx"
    walk_at "tys"
    refine t_sortedE0 z0 z00 is (okF trivial) fun p1 ws1 Z1 H1 n1 t1 f1 pr1 => ?_
    have ls1 : Ls Z1 p1 (sortE es) := ⟨ws1, f1, Paired.mapP pr1 fun v x g => Ik.ex (z00.trans t1.z) g⟩
    have l1 : (sortE es).length ≤ 39000 := by rw [sortE_len]; exact le
    have el : (((max 1 ((sortE es).length : Int)) - 1) / wd + 1).toNat = (cutE wd.toNat (sortE es)).length := by
      rw [cutE_len (by omega)]
      have h1 : max 1 ((sortE es).length : Int) - 1 = (((sortE es).length - 1 : Nat) : Int) := by omega
      have h3 : (((sortE es).length - 1 : Nat) : Int) / wd = ((((sortE es).length - 1) / wd.toNat : Nat) : Int) := by rw [Int.natCast_ediv, Int.toNat_of_nonneg (by omega)]
      rw [h1, h3]
      exact Int.toNat_natCast (((sortE es).length - 1) / wd.toNat + 1)
    have l2 : (cutE wd.toNat (sortE es)).length ≤ 39001 := by
      have := cutE_le (w := wd.toNat) (by omega) (sortE es)
      omega
    walk_at "tys"
    clear ls1
    refine c_rowsR3 (Z0 := Z0) (n := (cutE wd.toNat (sortE es)).length) (fun i => ((sortE es).drop (i * wd.toNat)).take wd.toNat) t1.zh (by rw [← el]; exact RgC.up w0 (by omega) (by omega) (by omega)) (by omega) (fun i hi Z2 H2 t2 A hA => ?_) (fun D ws Z2 H2 t2 nd fr al f2 pr2 => ?_)
    · walk_at "tys"
      refine t_slL t2.zh (sq_of ((t2.z.trans t2.zh) _ _ f1)) fun p3 Z3 H3 n3 t3 f3 => ?_
      have pc := paired_cut pr1 (some (0 + (i : Int) * wd)) (some (0 + (i : Int) * wd + wd))
      have h0 : (0 : Int) ≤ 0 + (i : Int) * wd := by
        have := Int.mul_nonneg (Int.natCast_nonneg i) (show 0 ≤ wd by omega)
        omega
      have e1 : (0 + (i : Int) * wd).toNat = i * wd.toNat := by
        have h2 : (wd : Int) = (wd.toNat : Int) := by omega
        rw [h2, Int.zero_add, ← Int.natCast_mul, Int.toNat_natCast, Int.toNat_natCast]
      have e4 : cutI (sortE es) (some (0 + (i : Int) * wd)) (some (0 + (i : Int) * wd + wd)) = ((sortE es).drop (i * wd.toNat)).take wd.toNat := by
        rw [cutI_mid _ h0 (by omega), e1, show (0 + (i : Int) * wd + wd).toNat - i * wd.toNat = wd.toNat by omega]
      rw [e4] at pc
      exact hA _ Z3 H3 t3 n3 ⟨_, f3, pc⟩
    · rw [cutE_map (by omega)] at pr2
      walk_at "tys"
      exact q D ws Z2 H2 (t1.step t2 mm_nil) ⟨nd, fun b hb => t1.nn (fr b hb), al, f2, pr2⟩

/-! ### whole_rooms -/
def sp_whole_rooms (K : PySem.W.Frag) : Sp := fun vs H Q _ => ∃ r : Int, vs = [.int r] ∧ 1 ≤ r ∧ Q (.int (whole r)) H
theorem has_whole_rooms (z : Z K mg) (F : FunAt K mg "whole_rooms" s_whole_rooms ["rooms"])  : Has P w K mg base "whole_rooms" 1 (sp_whole_rooms K) := by
  refine has_of F sc_whole_rooms (fun vs H Q E h => ?_) (fun f cdv A outer s H vs Q E hr h => ?_)
  · obtain ⟨r, rfl, _⟩ := h
    rfl
  · obtain ⟨r, rfl, h0, q⟩ := h
    refine ⟨_, (pss_cons (ps_set (i := 1) sc_whole_rooms.nd rfl (by first | exact Or.inl rfl | exact Or.inr rfl) pe_int)
        (pss_cons (ps_while PassesOwn.never (pt_cmpR op_le (pe_op op_multA pe_int (pv 1)) (pv 0) (nomark _)) (pss_one (ps_set (i := 1) sc_whole_rooms.nd rfl (by first | exact Or.inl rfl | exact Or.inr rfl) (pe_op op_multA pe_int (pv 1)))))
        (pss_one (ps_ret (pv 1))))), ?_⟩
    walk_at "cx"
    walk_at "ss"
    refine u_while (fun m σ H' => ∃ k : Nat, σ = [some (.int r), some (.int (2 ^ k))] ∧ H' = H ∧ (2 : Int) ^ k ≤ r ∧ m = (r - 2 ^ k).toNat) (r - 1).toNat ⟨0, rfl, rfl, h0, rfl⟩ (fun m σ H' hh => ?_)
    obtain ⟨k, rfl, rfl, hk, rfl⟩ := hh
    have hp := two_pos k
    walk_at "ss"
    refine i_d (fun hd => ?_) (fun hd => ?_)
    · refine w_body ?_
      walk_at "ss"
      exact ⟨(r - 2 ^ (k + 1)).toNat, by rw [two_succ]; omega, k + 1, by rw [two_succ]; rfl, rfl, by rw [two_succ]; omega, rfl⟩
    · walk_at "ss"
      rw [whole_unique hk (by omega)] at q
      exact q

/-! ### room_of -/
def sp_room_of (K : PySem.W.Frag) : Sp := fun vs H Q _ => ∃ c r : Int, vs = [.int c, .int r] ∧ 1 ≤ r ∧ Q (.int (roomOf c r)) H
theorem has_room_of (z : Z K mg) (F : FunAt K mg "room_of" s_room_of ["key", "rooms"]) (h_whole_rooms : Has P w K mg base "whole_rooms" 1 (sp_whole_rooms K)) : Has P w K mg base "room_of" 2 (sp_room_of K) := by
  refine has_of F sc_room_of (fun vs H Q E h => ?_) (fun f cdv A outer s H vs Q E hr h => ?_)
  · obtain ⟨c, r, rfl, _⟩ := h
    rfl
  · obtain ⟨c, r, rfl, h0, q⟩ := h
    refine ⟨_, (pss_cons (ps_set (i := 2) sc_room_of.nd rfl (by first | exact Or.inl rfl | exact Or.inr rfl) (pe_callH h_whole_rooms (by decide) hr rfl (pa_cons (pv 1) pa_nil)))
        (pss_cons (ps_if (pt_cmpR op_lt (pe_op op_mod (pv 0) (pv 2)) (pe_op op_sub (pv 1) (pv 2)) (nomark _)) (pss_one (ps_ret (pe_op op_mod (pv 0) (pe_op op_multA pe_int (pv 2))))) pss_nil)
        (pss_one (ps_ret (pe_op op_mod (pv 0) (pv 2)))))), ?_⟩
    walk_at "cx"
    walk_at "ss"
    refine ⟨_, rfl, h0, ?_⟩
    obtain ⟨a1, a2, a3⟩ := whole_spec h0
    unfold roomOf at q
    walk_at "ss"
    refine i_d (fun hd => ?_) (fun hd => ?_)
    · rw [if_pos hd] at q
      walk_at "ss"
      exact q
    · rw [if_neg hd] at q
      walk_at "ss"
      exact q

/-! ### yard_of -/
def sp_yard_of (K : PySem.W.Frag) : Sp := fun vs H Q _ => ∃ (wd r : Int) (a : Addr) (Z : Hp) (es : TR.Row), vs = [.int wd, .int r, .ref a] ∧ Ex Z H ∧ Ik Z (.ref a) es ∧ Keys1 es ∧ 1 ≤ wd ∧ wd ≤ 1000 ∧ 1 ≤ r ∧ r ≤ 1000 ∧ es.length ≤ 39000 ∧
  ∀ (p D : Addr) (qs : List Addr) (Fs : List (List Addr)) Z' H', T [] Z H Z' H' → Z' p = some (.tup [.int wd, .int r, .ref D]) → Y4 Z' H' D qs Fs (cleanC wd.toNat r es) → (∀ b ∈ D :: (qs ++ Fs.flatten), H b = none) → Q (.ref p) H'
theorem has_yard_of (z : Z K mg) (F : FunAt K mg "yard_of" s_yard_of ["wide", "rooms", "entries"]) (h_cut_rows : Has P w K mg base "cut_rows" 1 (sp_cut_rows K)) (h_room_of : Has P w K mg base "room_of" 2 (sp_room_of K)) : Has P w K mg base "yard_of" 3 (sp_yard_of K) := by
  refine has_of F sc_yard_of (fun vs H Q E h => ?_) (fun f cdv A outer s H vs Q E hr h => ?_)
  · obtain ⟨_, _, _, _, _, rfl, _⟩ := h
    rfl
  · obtain ⟨wd, r, a, Z, es, rfl, z0, is, k1, w0, w1, r0, r1, le, q⟩ := h
    refine ⟨_, (pss_cons (ps_setLc (i := 3) (own := [("room", 5)]) (g := gName 5) (tt := tYes) rfl sc_yard_of.nd rfl rfl (sw_true rfl rfl rfl (by decide +kernel)) (pi_range1 (by rfl) z.b_range (pa_cons (pv 1) pa_nil)) (blkOk_by (own := [("room", 5)]) (N := ["wide", "rooms", "entries", "parts", "entry", "room", "part"]) (sc := defScope s_yard_of) (by decide +kernel)) (fun _ _ _ _ _ => (pg_name (i := 5) sc_yard_of.nd rfl (by first | exact Or.inl rfl | exact Or.inr rfl))) (fun _ _ _ _ _ => pts_nil) (fun _ _ _ _ _ => (pe_lst pa_nil)))
        (pss_cons (ps_for PassesOwn.never rfl (piL (K := K) rfl (pv 2)) (pg_name (i := 4) sc_yard_of.nd rfl (by first | exact Or.inl rfl | exact Or.inr rfl)) (pss_one (ps_expr (pe_bm PySem.F.plainAttrs_list PySem.F.slot_list_append PySem.F.type_list_append mt_append (pe_ix (ixA (K := K) rfl) (pv 3) (pe_callH h_room_of (by decide) hr rfl (pa_cons (pe_ix (ixA (K := K) rfl) (pv 4) pe_int (fun _ _ => rfl)) (pa_cons (pv 1) pa_nil))) (fun _ _ => rfl)) (pa_cons (pv 4) pa_nil)))))
        (pss_one (ps_ret (pe_tup (pa_cons (pv 0) (pa_cons (pv 1) (pa_cons (pe_lc (own := [("part", 6)]) (g := gName 6) (tt := tYes) rfl sc_yard_of.nd (piL (K := K) rfl (pv 3)) (blkOk_by (own := [("part", 6)]) (N := ["wide", "rooms", "entries", "parts", "entry", "room", "part"]) (sc := defScope s_yard_of) (by decide +kernel)) (fun _ _ _ _ _ => (pg_name (i := 6) sc_yard_of.nd rfl (by first | exact Or.inl rfl | exact Or.inr rfl))) (fun _ _ _ _ _ => pts_nil) (fun _ _ _ _ _ => (pe_callH h_cut_rows (by decide) hr rfl (pa_cons (pv 0) (pa_cons (pv 6) pa_nil))))) pa_nil)))))))), ?_⟩
    walk_at "cx"
    walk_at "tys"
    refine c_newR (α := Ent) z0 (by omega) (fun i hi Z1 H1 t1 A hA => ?_) (fun D qs Z1 H1 t1 y1 fr1 => ?_)
    · walk_at "tys"
      rename_i p2 Z2 H2 n2 t2 m2 f2
      exact hA p2 Z2 H2 t2 n2 m2 f2
    walk_at "tys"
    refine t_forL is (fun i σ H' => ∃ (x1 x2 x3 : Option V) (Z' : Hp), σ = [some (.int wd), some (.int r), some (.ref a), some (.ref D), x1, x2, x3] ∧ T (D :: qs) Z1 H1 Z' H' ∧ Y2 Z' H' D qs (partsL r (es.take i))) (fun i σ H' hh => ?_) ⟨_, _, _, Z1, rfl, T.refl t1.zh, by rw [List.take_zero, partsL_nil]; exact y1⟩ (fun i v e σ H' he iv hh => ?_) (fun σ H' hh => ?_)
    · obtain ⟨x1, x2, x3, Z2, _, t2, _⟩ := hh
      exact (t1.z.trans t2.z).trans t2.zh
    · obtain ⟨x1, x2, x3, Z2, rfl, t2, y2⟩ := hh
      have iv2 : Ik Z2 v e := Ik.tt t2 (Ik.tt t1 iv)
      have e1 : es.take (i + 1) = es.take i ++ [e] := by rw [List.take_add_one, he]; rfl
      obtain ⟨p, hp, lp, ep⟩ := partsL_snoc r0 (es.take i) e
      obtain ⟨g0, g1⟩ := roomOf_range (key := e.1) r0
      obtain ⟨q1, hq1⟩ : ∃ q1, qs[(roomOf e.1 r).toNat]? = some q1 := ⟨_, List.getElem?_eq_getElem (by rw [y2.len, partsL_len]; omega)⟩
      have lt : (es.take i).length ≤ 39000 := by rw [List.length_take]; omega
      walk_at "tys"
      refine ⟨e.1, r, rfl, r0, ?_⟩
      walk_at "tys"
      refine y2.ix g0 hq1 ?_
      walk_at "tys"
      obtain ⟨_, _, us, hus, _⟩ := y2.at hq1
      refine s_tyL (sq_of hus) ?_
      walk_at "tys"
      refine y2.push hq1 hp iv2 (by omega) fun Z3 H3 t3 y3 => ?_
      walk_at "tys"
      exact ⟨_, _, _, Z3, rfl, t2.step t3 (mm_1 (.inl (List.mem_cons_of_mem _ (List.mem_of_getElem? hq1)))), by rw [e1, ← ep]; exact y3⟩
    · obtain ⟨x1, x2, x3, Z2, rfl, t2, y2⟩ := hh
      rw [List.take_length] at y2
      obtain ⟨Z3, H3, e3, t3, ls3⟩ := y2.frq
      rw [← e3]
      clear e3
      have t03 : T [] Z H Z3 H3 := (t1.step t2 fun x hx => .inr (fr1 x hx)).step t3 fun x hx => .inr (fr1 x hx)
      walk_at "tys"
      refine c_roomsY (Z0 := Z3) (fun p : TR.Row => cutE wd.toNat (sortE p)) t03.zh (Ex.refl _) ls3.is (by rw [partsL_len]; omega) (fun v p hp ip Z4 H4 t4 A hA => ?_) (fun D4 qs4 Fs4 Z4 H4 t4 y4 fr4 => ?_)
      · have sp := partsL_mem hp
        obtain ⟨pb, rfl, ip⟩ := ip.ref_of
        walk_at "tys"
        exact ⟨wd, pb, Z4, Z3, p, rfl, t4.zh, t4.z, ip, (k1.sub sp).one, w0, w1, by have := sp.length_le; omega, fun D5 ws5 Z5 H5 t5 nr5 => hA _ ws5 Z5 H5 t5 nr5⟩
      · rw [partsL_clean] at y4
        walk_at "tys"
        rename_i p5 Z5 H5 n5 t5 f5
        exact q p5 D4 qs4 Fs4 Z5 H5 ((t03.step t4 mm_nil).step t5 mm_nil) f5 (y4.tt0 t5) fun b hb => t03.nn (fr4 b hb)

/-! ### entries_in -/
def sp_entries_in (K : PySem.W.Frag) : Sp := fun vs H Q _ => ∃ (a : Addr) (Z : Hp) (rs : List TR.Row), vs = [.ref a] ∧ Ex Z H ∧ Ik Z (.ref a) rs ∧ rs.length ≤ 10000 ∧ rs.flatten.length ≤ 50000 ∧
  ∀ (D : Addr) Z' H', T [] Z H Z' H' → Lm Z' H' D rs.flatten → H D = none → Q (.ref D) H'
theorem has_entries_in (z : Z K mg) (F : FunAt K mg "entries_in" s_entries_in ["rows"])  : Has P w K mg base "entries_in" 1 (sp_entries_in K) := by
  refine has_of F sc_entries_in (fun vs H Q E h => ?_) (fun f cdv A outer s H vs Q E hr h => ?_)
  · obtain ⟨_, _, _, rfl, _⟩ := h
    rfl
  · obtain ⟨a, Z, rs, rfl, z0, is, l1, l2, q⟩ := h
    refine ⟨_, (pss_cons (ps_set (i := 1) sc_entries_in.nd rfl (by first | exact Or.inl rfl | exact Or.inr rfl) (pe_lst pa_nil))
        (pss_cons (ps_for PassesOwn.never rfl (piL (K := K) rfl (pv 0)) (pg_name (i := 2) sc_entries_in.nd rfl (by first | exact Or.inl rfl | exact Or.inr rfl)) (pss_one (ps_expr (pe_bm PySem.F.plainAttrs_list PySem.F.slot_list_extend PySem.F.type_list_extend mt_extend (pv 1) (pa_cons (pv 2) pa_nil)))))
        (pss_one (ps_ret (pv 1))))), ?_⟩
    walk_at "cx"
    walk_at "tys"
    rename_i D Z1 H1 n1 t1 m1 f1
    have lm1 : Lm Z1 H1 D ([] : TR.Row) := Lm.of0 m1 t1.zh f1
    refine t_forL is (fun i σ H' => ∃ (x : Option V) (Z' : Hp), σ = [some (.ref a), some (.ref D), x] ∧ T [D] Z1 H1 Z' H' ∧ Lm Z' H' D (rs.take i).flatten) (fun i σ H' hh => ?_) ⟨_, Z1, rfl, T.refl t1.zh, lm1⟩ (fun i v r σ H' hr iv hh => ?_) (fun σ H' hh => ?_)
    · obtain ⟨x, Z2, _, t2, _⟩ := hh
      exact (t1.z.trans t2.z).trans t2.zh
    · obtain ⟨x, Z2, rfl, t2, lm2⟩ := hh
      obtain ⟨b, rfl, iv⟩ := iv.ref_of
      have iv2 : Ik Z2 (.ref b) r := Ik.tt t2 (Ik.tt t1 iv)
      have e1 : rs.take (i + 1) = rs.take i ++ [r] := by rw [List.take_add_one, hr]; rfl
      have ef : (rs.take (i + 1)).flatten = (rs.take i).flatten ++ r := by
        rw [e1, List.flatten_append, List.flatten_cons, List.flatten_nil, List.append_nil]
      have lf : ((rs.take i).flatten).length + r.length ≤ 50000 := by
        have h2 := congrArg List.length (congrArg List.flatten (List.take_append_drop (i + 1) rs))
        rw [List.flatten_append, List.length_append, ef, List.length_append] at h2
        omega
      walk_at "tys"
      rename_i Z3 H3 t3 lm3
      refine ⟨_, Z3, rfl, t2.step t3 mm_same, ?_⟩
      rw [ef]
      exact lm3
    · obtain ⟨x, Z2, rfl, t2, lm2⟩ := hh
      rw [List.take_length] at lm2
      walk_at "tys"
      exact q D Z2 H' (by walk_at "tt") lm2 n1

/-! ### is_clean -/
def sp_is_clean (K : PySem.W.Frag) : Sp := fun vs H Q _ => ∃ (v : V) (Z : Hp) (y : Yard), vs = [v] ∧ Ex Z H ∧ Ik Z v y ∧ YB y ∧ (allE y.c).length ≤ 4000 ∧
  ∀ (b : Bool) Z' H', (b = true ↔ CleanP y) → T [] Z H Z' H' → Q (.bl b) H'
theorem has_is_clean (z : Z K mg) (F : FunAt K mg "is_clean" s_is_clean ["yard"]) (h_yard_of : Has P w K mg base "yard_of" 3 (sp_yard_of K)) (h_entries_in : Has P w K mg base "entries_in" 1 (sp_entries_in K)) : Has P w K mg base "is_clean" 4 (sp_is_clean K) := by
  refine has_of F sc_is_clean (fun vs H Q E h => ?_) (fun f cdv A outer s H vs Q E hr h => ?_)
  · obtain ⟨_, _, _, rfl, _⟩ := h
    rfl
  · obtain ⟨v, Z, y, rfl, z0, iy, yb, l4, q⟩ := h
    refine ⟨_, (pss_cons (ps_asg (pv 0) (pg_tup rfl (pgs_cons (pg_name (i := 1) sc_is_clean.nd rfl (by first | exact Or.inl rfl | exact Or.inr rfl)) (pgs_cons (pg_name (i := 2) sc_is_clean.nd rfl (by first | exact Or.inl rfl | exact Or.inr rfl)) (pgs_cons (pg_name (i := 3) sc_is_clean.nd rfl (by first | exact Or.inl rfl | exact Or.inr rfl)) pgs_nil)))))
        (pss_cons (ps_set (i := 4) sc_is_clean.nd rfl (by first | exact Or.inl rfl | exact Or.inr rfl) (pe_lst pa_nil))
        (pss_cons (ps_for PassesOwn.never rfl (piL (K := K) rfl (pv 3)) (pg_name (i := 5) sc_is_clean.nd rfl (by first | exact Or.inl rfl | exact Or.inr rfl)) (pss_one (ps_expr (pe_bm PySem.F.plainAttrs_list PySem.F.slot_list_extend PySem.F.type_list_extend mt_extend (pv 4) (pa_cons (pe_callH h_entries_in (by decide) hr rfl (pa_cons (pv 5) pa_nil)) pa_nil)))))
        (pss_cons (ps_if (pt_cmpR (neA (K := K) rfl hr.units) (pe_lenSetA (K := K) rfl (by rfl) z.b_len (by rfl) z.b_set (pe_lc (own := [("key", 6), ("thing", 7)]) (g := gTup K 2 (gCons (gName 6) (gCons (gName 7) gNil))) (tt := tYes) rfl sc_is_clean.nd (piL (K := K) rfl (pv 4)) (blkOk_by (own := [("key", 6), ("thing", 7)]) (N := ["yard", "wide", "rooms", "held", "entries", "rows", "key", "thing"]) (sc := defScope s_is_clean) (by decide +kernel)) (fun _ _ _ _ _ => (pg_tup rfl (pgs_cons (pg_name (i := 6) sc_is_clean.nd rfl (by first | exact Or.inl rfl | exact Or.inr rfl)) (pgs_cons (pg_name (i := 7) sc_is_clean.nd rfl (by first | exact Or.inl rfl | exact Or.inr rfl)) pgs_nil)))) (fun _ _ _ _ _ => pts_nil) (fun _ _ _ _ _ => (pv 6)))) (pe_callB (id := "len") (lenA (K := K) rfl) (by rfl) z.b_len (by decide +kernel) (pa_cons (pv 4) pa_nil)) (nomark _)) (pss_one (ps_ret pe_bl)) pss_nil)
        (pss_one (ps_ret (pe_cmpR (eqA (K := K) rfl hr.units) (pv 0) (pe_callH h_yard_of (by decide) hr rfl (pa_cons (pv 1) (pa_cons (pv 2) (pa_cons (pv 4) pa_nil)))) (nomark _)))))))), ?_⟩
    walk_at "cx"
    obtain ⟨a, b, rfl, ha, hb⟩ := iy.yard_of
    obtain ⟨w0, w1, b0, b1, lc, lr, la⟩ := yb
    walk_at "tys"
    refine s_gt3 (by walk_at "st") ?_
    walk_at "tys"
    rename_i D Z1 H1 n1 t1 m1 f1
    have lm1 : Lm Z1 H1 D ([] : TR.Row) := Lm.of0 m1 t1.zh f1
    have hb1 : Ik Z1 (.ref b) y.c := Ik.tt t1 hb
    have tl : ∀ i, (allE (y.c.take i)).length ≤ 4000 := fun i => Nat.le_trans (allE_take y.c i) l4
    refine t_forL hb1 (fun i σ H' => ∃ (x5 : Option V) (Z' : Hp) (x6 x7 : Option V), σ = [some (.ref a), some (.int y.a), some (.int y.b), some (.ref b), some (.ref D), x5, x6, x7] ∧ T [D] Z1 H1 Z' H' ∧ Lm Z' H' D (allE (y.c.take i))) (fun i σ H' hh => ?_) ⟨_, Z1, _, _, rfl, T.refl t1.zh, lm1⟩ (fun i v X σ H2 hX iX hh => ?_) (fun σ H2 hh => ?_)
    · obtain ⟨x5, Z2, x6, x7, _, t2, _⟩ := hh
      exact t2.z.trans t2.zh
    · obtain ⟨x5, Z2, x6, x7, rfl, t2, lm2⟩ := hh
      obtain ⟨xb, rfl, iX⟩ := iX.ref_of
      have e1 : y.c.take (i + 1) = y.c.take i ++ [X] := by rw [List.take_add_one, hX]; rfl
      have ef : allE (y.c.take (i + 1)) = allE (y.c.take i) ++ X.flatten := by
        rw [e1]
        simp only [allE, List.flatten_append, List.flatten_cons, List.flatten_nil, List.append_nil]
      have tl1 := tl (i + 1)
      rw [ef, List.length_append] at tl1
      have iX2 : Ik Z2 (.ref xb) X := Ik.tt t2 iX
      have rl := lr X (List.mem_of_getElem? hX)
      rw [ef]
      generalize allE (y.c.take i) = E0 at lm2 tl1
      walk_at "tys"
      refine ⟨xb, Z2, X, rfl, t2.zh, iX2, rl, by omega, fun D3 Z3 H3 t3 lm3 n3 => ?_⟩
      walk_at "tys"
      rename_i Z4 H4 t4 lm4
      exact ⟨_, Z4, _, _, rfl, (t2.step t3 mm_nil).step t4 mm_same, lm4⟩
    · obtain ⟨x5, Z2, x6, x7, rfl, t2, lm2⟩ := hh
      rw [List.take_length] at lm2
      obtain ⟨Z3, H3, e3, t3, ls3⟩ := lm2.frq
      rw [← e3]
      clear e3 lm2
      have t03 := (t1.step t2 (mm_1 (.inr n1))).step t3 (mm_1 (.inr n1))
      have iy3 := Ik.tt t03 iy
      have is3 := ls3.is
      clear t1 t2 t3 lm1 m1 f1 hb1
      walk_at "tys"
      refine s_lenSet ?_
      walk_at "tys"
      refine c_mapL (fun e : Ent => e.1) t03.zh is3 (by omega) (fun i v e he ie Z4 H4 t4 A hA => ?_) (fun D4 Z4 H4 n4 t4 ls4 => ?_)
      · obtain ⟨ea, rfl, fe⟩ := (Ik.tt t4 ie).ent_of
        walk_at "tys"
        exact hA _ Z4 H4 (T.refl t4.zh) (Ik.int _)
      · have ul := unlike_iff (ns := (allE y.c).map Prod.fst)
        refine ⟨D4, (allE y.c).map Prod.fst, rfl, sq_of (t4.zh _ _ ls4.ints), by rw [List.length_map]; exact l4, ?_⟩
        have is4 := Ik.tt t4 is3
        have iy4 := Ik.tt t4 iy3
        have t04 := t03.step t4 mm_nil
        rw [List.length_map] at ul
        clear t4 t03 is3 iy3 ls3 ls4
        walk_at "tys"
        refine i_d (fun hd => ?_) (fun hd => ?_)
        · walk_at "tys"
          refine q false Z4 H4 ⟨(fun z => nomatch z), fun z => ?_⟩ t04
          exact absurd (ul.mpr z.1) (fun z => hd (by omega))
        · have k1 : Keys1 (allE y.c) := ul.mp (by omega)
          walk_at "tys"
          refine ⟨y.a, y.b, D, Z4, allE y.c, rfl, t04.zh, is4, k1, w0, w1, b0, b1, la, fun p5 D5 qs5 Fs5 Z5 H5 t5 f5 y5 fr5 => ?_⟩
          refine s_eqP (x := y) (y := cleanY y.a y.b (allE y.c)) (Ik.ex t5.zh (Ik.tt t5 iy4)).is (Y3.yard (y := cleanY y.a y.b (allE y.c)) y5.y (t5.zh _ _ f5)).is (by decide) ?_
          exact q _ Z5 H5 ⟨fun z => ⟨k1, of_decide_eq_true z⟩, fun z => decide_eq_true z.2⟩ (t04.step t5 mm_nil)

/-! ### _law_copy -/
def sp_law_copy (K : PySem.W.Frag) : Sp := fun vs H Q _ => ∃ (v : V) (Z : Hp) (y : Yard), vs = [v] ∧ Ex Z H ∧ Ik Z v y ∧ YLen y ∧
  ∀ (p D : Addr) (qs F : List Addr) Z' H', T [] Z H Z' H' → Z' p = some (.tup [.int y.a, .int y.b, .ref D]) → Y3 Z' H' D qs F y.c → (∀ b ∈ D :: (qs ++ F), H b = none) → Q (.ref p) H'
theorem has_law_copy (z : Z K mg) (F : FunAt K mg "_law_copy" s_law_copy ["_law_yard"])  : Has P w K mg base "_law_copy" 1 (sp_law_copy K) := by
  refine has_of F sc_law_copy (fun vs H Q E h => ?_) (fun f cdv A outer s H vs Q E hr h => ?_)
  · obtain ⟨v, Z, y, rfl, _⟩ := h
    rfl
  · obtain ⟨v, Z, y, rfl, z0, iy, ⟨l1, l2⟩, q⟩ := h
    refine ⟨_, (pss_one (ps_ret (pe_tup (pa_cons (pe_ix (ixA (K := K) rfl) (pv 0) pe_int (fun _ _ => rfl)) (pa_cons (pe_ix (ixA (K := K) rfl) (pv 0) pe_int (fun _ _ => rfl)) (pa_cons (pe_lc (own := [("_law_rows", 1)]) (g := gName 1) (tt := tYes) rfl sc_law_copy.nd (piL (K := K) rfl (pe_ix (ixA (K := K) rfl) (pv 0) pe_int (fun _ _ => rfl))) (blkOk_by (own := [("_law_rows", 1)]) (N := ["_law_yard", "_law_rows", "_law_row"]) (sc := defScope s_law_copy) (by decide +kernel)) (fun _ _ _ _ _ => (pg_name (i := 1) sc_law_copy.nd rfl (by first | exact Or.inl rfl | exact Or.inr rfl))) (fun _ _ _ _ _ => pts_nil) (fun _ _ _ _ _ => (pe_lc (own := [("_law_row", 2)]) (g := gName 2) (tt := tYes) rfl sc_law_copy.nd (piL (K := K) rfl (pv 1)) (blkOk_by (own := [("_law_row", 2)]) (N := ["_law_yard", "_law_rows", "_law_row"]) (by rfl)) (fun _ _ _ _ _ => (pg_name (i := 2) sc_law_copy.nd rfl (by first | exact Or.inl rfl | exact Or.inr rfl))) (fun _ _ _ _ _ => pts_nil) (fun _ _ _ _ _ => (pe_callTy (T := "list") (listA (K := K) rfl) (by rfl) z.b_list (by decide +kernel) (pa_cons (pv 2) pa_nil)))))) pa_nil)))))), ?_⟩
    walk_at "cx"
    obtain ⟨a, b, rfl, ha, hb⟩ := iy.yard_of
    have ha0 := st_of (K := K) (z0 _ _ ha)
    walk_at "ts"
    refine c_roomsN z0 (Ex.refl _) hb (by omega) (fun v rs hr iv Z1 H1 t1 A hA => ?_) (fun D qs F Z1 H1 t1 y3 fr => ?_)
    · walk_at "ts"
      obtain ⟨b, rfl, iv⟩ := iv.ref_of
      refine c_rowsN t1.zh t1.z iv (by have := l2 rs hr; omega) (fun v r _ ir Z2 H2 t2 A2 hA2 => ?_) (fun q ws Z2 H2 t2 nd fr al f pr => hA q ws Z2 H2 t2 nd fr al f pr)
      walk_at "ts"
      obtain ⟨b2, us, rfl, s, pu⟩ := ir.list
      refine ⟨b2, us, rfl, .inl (sq_of ((t1.z.trans (t2.z.trans t2.zh)) _ _ s)), fun p hp => ?_⟩
      exact hA2 p _ _ (T.new hp t2.zh) hp ⟨us, upd_same, pu⟩
    · have z1 := t1.zh
      walk_at "ts"
      rename_i p2 Z2 H2 n2 t2 f2
      exact q p2 D qs F Z2 H2 (t1.step t2 mm_nil) f2 (y3.tt0 t2) fr

/-! ### _law_looked -/
def sp_law_looked (K : PySem.W.Frag) : Sp := fun vs H Q _ => ∃ (v : V) (Z : Hp) (y : Yard), vs = [v] ∧ Ex Z H ∧ Ik Z v y ∧ YB y ∧ (allE y.c).length ≤ 4000 ∧ y.b ≤ 900 ∧ y.a ≤ 900 ∧ (∀ e ∈ allE y.c, 0 ≤ e.1) ∧
  ∀ Z' H', T [] Z H Z' H' → Q (.bl true) H'
theorem has_law_looked (z : Z K mg) (F : FunAt K mg "_law_looked" s_law_looked ["_law_yard"]) (h_law_is_clean : Has P w K mg base "_law_is_clean" 3 (sp_law_is_clean K)) (h_is_clean : Has P w K mg base "is_clean" 4 (sp_is_clean K)) (h_law_copy : Has P w K mg base "_law_copy" 1 (sp_law_copy K)) : Has P w K mg base "_law_looked" 5 (sp_law_looked K) := by
  refine has_of F sc_law_looked (fun vs H Q E h => ?_) (fun f cdv A outer s H vs Q E hr h => ?_)
  · obtain ⟨_, _, _, rfl, _⟩ := h
    rfl
  · obtain ⟨v, Z, y, rfl, z0, iy, yb, la, b9, a9, kb, q⟩ := h
    refine ⟨_, (pss_cons (ps_set (i := 1) sc_law_looked.nd rfl (by first | exact Or.inl rfl | exact Or.inr rfl) (pe_callH h_law_copy (by decide) hr rfl (pa_cons (pv 0) pa_nil)))
        (pss_cons (ps_set (i := 2) sc_law_looked.nd rfl (by first | exact Or.inl rfl | exact Or.inr rfl) (pe_callH h_is_clean (by decide) hr rfl (pa_cons (pv 0) pa_nil)))
        (pss_one (ps_ret (pe_and (pe_callB (id := "isinstance") (isiA (K := K) rfl) (by rfl) z.b_isinstance (by decide +kernel) (pa_cons (pv 2) (pa_cons (pe_bltn (v := .ty "bool") (by rfl) z.b_bool (by decide +kernel) rfl) pa_nil))) (pe_and (pe_cmpR (eqA (K := K) rfl hr.units) (pv 2) (pe_callH h_law_is_clean (by decide) hr rfl (pa_cons (pv 1) pa_nil)) (nomark _)) (pe_one (pe_cmpR (eqA (K := K) rfl hr.units) (pv 0) (pv 1) (nomark _))))))))), ?_⟩
    walk_at "cx"
    walk_at "tys"
    refine ⟨v, Z, y, rfl, z0, iy, ⟨yb.2.2.2.2.1, yb.2.2.2.2.2.1⟩, fun p D qs F Z1 H1 t1 f1 y1 fr1 => ?_⟩
    obtain ⟨Z2, H2, e2, t2, ls2⟩ := y1.frq
    rw [← e2]
    clear e2
    have t02 : T [] Z H Z2 H2 := t1.step t2 fun x hx => .inr (fr1 x hx)
    have ik2 : Ik Z2 (.ref p) y := Ik.three (t2.pz f1) (Ik.int _) (Ik.int _) ls2.is
    have iy2 := Ik.tt t02 iy
    have z2 := t02.zh
    walk_at "tys"
    refine ⟨v, Z2, y, rfl, z2, iy2, yb, la, fun b3 Z3 H3 hb3 t3 => ?_⟩
    have ik3 := Ik.tt t3 ik2
    have iy3 := Ik.tt t3 iy2
    have z3 := t3.zh
    walk_at "tys"
    refine ⟨.ref p, Z3, y, rfl, z3, ik3, yb, la, b9, a9, kb, fun b4 Z4 H4 hb4 t4 => ?_⟩
    have eb : b3 = b4 := by
      rcases b3 with _ | _ <;> rcases b4 with _ | _
      · rfl
      · exact absurd (hb3.mpr (hb4.mp rfl)) (by decide)
      · exact absurd (hb4.mpr (hb3.mp rfl)) (by decide)
      · rfl
    subst eb
    have ik4 := Ik.tt t4 ik3
    have iy4 := Ik.tt t4 iy3
    have z4 := t4.zh
    walk_at "tys"
    refine s_eqP (x := y) (y := y) (Ik.ex z4 iy4).is (Ik.ex z4 ik4).is (by decide) ?_
    rw [decide_eq_true rfl]
    exact q Z4 H4 ((t02.step t3 mm_nil).step t4 mm_nil)

/-! ### _law_draw -/
abbrev sp_law_draw (K : PySem.W.Frag) : Sp := spDraw K
theorem has_law_draw (z : Z K mg) (F : FunAt K mg "_law_draw" s_law_draw ["_law_hand", "_law_many"])  : Has P w K mg base "_law_draw" 1 (sp_law_draw K) := by
  refine has_of F sc_law_draw (fun vs H Q E h => ?_) (fun f cdv A outer s H vs Q E hr h => ?_)
  · obtain ⟨a, m, n, Z, rfl, _⟩ := h
    rfl
  · obtain ⟨a, m, n, Z, rfl, ⟨d, k, c, cells, h1, h3, h4, h5, z1, z2, z3⟩, hm0, hm1, q⟩ := h
    refine ⟨_, (pss_cons (ps_if (pt_cmpR op_gt (pe_ix (ixA (K := K) rfl) (pv 0) pe_int (fun _ _ => rfl)) pe_int (nomark _)) (pss_cons (ps_set (i := 2) sc_law_draw.nd rfl (by first | exact Or.inl rfl | exact Or.inr rfl) (pe_op op_mod (pe_ix (ixA (K := K) rfl) (pv 0) pe_int (fun _ _ => rfl)) (pv 1)))
        (pss_cons (ps_asg (pe_op op_fdivW (pe_ix (ixA (K := K) rfl) (pv 0) pe_int (fun _ _ => rfl)) (pv 1)) (pg_sub (pv 0) pe_int set_list))
        (pss_one (ps_ret (pv 2))))) pss_nil)
        (pss_cons (ps_augS (pv 0) pe_int (getA (K := K) rfl) pe_int ip_add set_list)
        (pss_cons (ps_set (i := 3) sc_law_draw.nd rfl (by first | exact Or.inl rfl | exact Or.inr rfl) (pe_ix (ixA (K := K) rfl) (pv 0) pe_int (fun _ _ => rfl)))
        (pss_cons (ps_set (i := 4) sc_law_draw.nd rfl (by first | exact Or.inl rfl | exact Or.inr rfl) (pe_op op_mod (pe_op op_plusA (pe_op op_mod (pe_ix (ixA (K := K) rfl) (pe_ix (ixA (K := K) rfl) (pv 0) pe_int (fun _ _ => rfl)) (pe_op op_mod (pv 3) (pe_callB (id := "len") (lenA (K := K) rfl) (by rfl) z.b_len (by decide +kernel) (pa_cons (pe_ix (ixA (K := K) rfl) (pv 0) pe_int (fun _ _ => rfl)) pa_nil))) (fun _ _ => rfl)) pe_int) (pe_op op_multA pe_int (pv 3))) pe_int))
        (pss_cons (ps_set (i := 4) sc_law_draw.nd rfl (by first | exact Or.inl rfl | exact Or.inr rfl) (pe_op op_mod (pe_op op_plusA (pe_op op_plusA (pe_op op_pow (pv 4) pe_int) (pe_op op_multA (pe_op op_multA pe_int (pv 3)) (pv 3))) pe_int) pe_int))
        (pss_cons (ps_set (i := 4) sc_law_draw.nd rfl (by first | exact Or.inl rfl | exact Or.inr rfl) (pe_op op_mod (pe_op op_plusA (pe_op op_multA (pe_op op_pow (pv 4) pe_int) (pe_op op_plusA (pe_op op_multA pe_int (pv 3)) pe_int)) pe_int) pe_int))
        (pss_one (ps_ret (pe_op op_mod (pe_op op_fdivW (pe_op op_mod (pe_op op_multA (pv 4) pe_int) pe_int) pe_int) (pv 1)))))))))), ?_⟩
    walk_at "cx"
    walk_at "ss"
    refine i_d (fun hd => ?_) (fun hd => ?_)
    · walk_at "ss"
      rename_i G e1 e2
      exact q _ G (Int.emod_nonneg _ (by omega)) (Int.emod_lt_of_pos _ hm0) e1 ⟨_, k, c, cells, e2, h3, h4, by omega, z1.exm z2 e1, z2, z3⟩
    · walk_at "ss"
      rename_i G e1 e2 _ _ v hv _ _ _ _ _ _ _ _ _ _ b1 b2
      exact q _ G b1 b2 e1 ⟨d, k + 1, c, cells, e2, h3, by omega, by omega, z1.exm z2 e1, z2, z3⟩

/-! ### _law_one_room -/
def sp_law_one_room (K : PySem.W.Frag) : Sp := fun vs H Q _ => ∃ (h a : Addr) (c : List (List TR.Row)) (n : Nat) (Z : Hp), vs = [.ref h, .ref a] ∧ Hand K Z H h (n + 1) ∧ Ik H (.ref a) c ∧ 1 ≤ c.length ∧ c.length ≤ 1000 ∧
  ∀ (r : Nat) Z' H', T [h] Z H Z' H' → Hand K Z' H' h n → r < c.length → Q (.int (r : Int)) H'
theorem has_law_one_room (z : Z K mg) (F : FunAt K mg "_law_one_room" s_law_one_room ["_law_hand", "_law_held"]) (h_law_draw : Has P w K mg base "_law_draw" 1 (sp_law_draw K)) : Has P w K mg base "_law_one_room" 2 (sp_law_one_room K) := by
  refine has_of F sc_law_one_room (fun vs H Q E h => ?_) (fun f cdv A outer s H vs Q E hr h => ?_)
  · obtain ⟨_, _, _, _, _, rfl, _⟩ := h
    rfl
  · obtain ⟨h, a, c, n, Z, rfl, hh, ic, c1, c2, q⟩ := h
    refine ⟨_, (pss_cons (ps_setLc (i := 2) (own := [("_law_at", 3)]) (g := gName 3) rfl sc_law_one_room.nd rfl rfl (sw_true rfl rfl rfl (by decide +kernel)) (pi_range1 (by rfl) z.b_range (pa_cons (pe_callB (id := "len") (lenA (K := K) rfl) (by rfl) z.b_len (by decide +kernel) (pa_cons (pv 1) pa_nil)) pa_nil)) (blkOk_by (own := [("_law_at", 3)]) (N := ["_law_hand", "_law_held", "_law_some", "_law_at"]) (sc := defScope s_law_one_room) (by decide +kernel)) (fun _ _ _ _ _ => (pg_name (i := 3) sc_law_one_room.nd rfl (by first | exact Or.inl rfl | exact Or.inr rfl))) (fun _ _ _ _ _ => pts_one (pt_cmpR (neA (K := K) rfl hr.units) (pe_ix (ixA (K := K) rfl) (pv 1) (pv 3) (fun _ _ => rfl)) (pe_lst (pa_cons (pe_lst pa_nil) pa_nil)) (nomark _))) (fun _ _ _ _ _ => (pv 3)))
        (pss_one (ps_ret (pe_ix (ixA (K := K) rfl) (pe_op op_plusA (pv 2) (pe_lst (pa_cons pe_int pa_nil))) (pe_op op_mod (pe_callH h_law_draw (by decide) hr rfl (pa_cons (pv 0) (pa_cons pe_int pa_nil))) (pe_callB (id := "max") (call_max2A rfl) (by rfl) z.b_max (by decide +kernel) (pa_cons pe_int (pa_cons (pe_callB (id := "len") (lenA (K := K) rfl) (by rfl) z.b_len (by decide +kernel) (pa_cons (pv 2) pa_nil)) pa_nil)))) (fun _ _ => rfl))))), ?_⟩
    walk_at "cx"
    have z0 : Ex Z H := hh.z
    walk_at "tys"
    refine c_keepR (γ := Int) (fun i => decide (c.getD i [] ≠ [([] : TR.Row)])) (fun i => (i : Int)) z0 (by omega) (fun i hi Z1 H1 t1 A B hA hB => ?_) (fun D1 Z1 H1 n1 t1 ls1 => ?_)
    · have e1 : Ex H H1 := fun b o hb => t1.m b o nm_nil hb
      have z1 := t1.zh
      have hil : i < c.length := by omega
      have ei : c[i]? = some (c.getD i []) := by rw [List.getD_eq_getElem?_getD, List.getElem?_eq_getElem hil]; rfl
      walk_at "tys"
      refine t_ix (Ex.refl H1) (Ik.ex e1 ic) (atI_lt (by omega) (by rw [Int.toNat_natCast]; exact ei)) fun v iv => ?_
      walk_at "tys"
      rename_i p2 Z2 H2 n2 t2 m2 f2 p3 Z3 H3 n3 t3 f3
      have i3 : Ik H3 (.ref p3) [([] : TR.Row)] := Ik.l1 (t3.zh _ _ f3) (Ik.nil (t3.hp nm_nil f2))
      have e13 : Ex H1 H3 := fun b o hb => t3.m b o nm_nil (t2.m b o nm_nil hb)
      refine s_neP (x := c.getD i []) (y := [([] : TR.Row)]) (Ik.ex e13 iv).is i3.is (by decide) ?_
      walk_at "tys"
      refine i_d (fun hd => ?_) (fun hd => ?_)
      · walk_at "tys"
        exact hA (decide_eq_true hd) _ Z3 H3 (t2.step t3 mm_nil) (Ik.int _)
      · exact hB (decide_eq_false hd) Z3 H3 (t2.step t3 mm_nil)
    · have hh1 := hh.tt t1 nm_nil
      have z1 := t1.zh
      have lb : ∀ x ∈ ((List.range (c.length : Int).toNat).filter fun i => decide (c.getD i [] ≠ [([] : TR.Row)])).map (fun (i : Nat) => (i : Int)), 0 ≤ x ∧ x < c.length := fun x hx => by
        obtain ⟨i, hi, rfl⟩ := List.mem_map.mp hx
        have := List.mem_range.mp (List.mem_filter.mp hi).1
        omega
      have ll : (((List.range (c.length : Int).toNat).filter fun i => decide (c.getD i [] ≠ [([] : TR.Row)])).map (fun (i : Nat) => (i : Int))).length ≤ 1000 := by
        rw [List.length_map]
        have := List.length_filter_le (fun i => decide (c.getD i [] ≠ [([] : TR.Row)])) (List.range (c.length : Int).toNat)
        rw [List.length_range] at this
        omega
      generalize ((List.range (c.length : Int).toNat).filter fun i => decide (c.getD i [] ≠ [([] : TR.Row)])).map (fun (i : Nat) => (i : Int)) = l at ls1 lb ll
      walk_at "tys"
      rename_i p2 Z2 H2 n2 t2 f2 p3 Z3 H3 n3 t3 ls3 r Z4 H4 r0 r1 t4 hh4 m0 m1
      have il : (r % max 1 (l.length : Int)).toNat < (l ++ [0]).length := by
        rw [List.length_append, List.length_cons, List.length_nil]
        omega
      refine ixGo (sq_of (t4.zh _ _ (t4.z _ _ ls3.ints))) (ig_ints ⟨m0, by omega⟩ fun v hv => ?_)
      have hm := List.mem_of_getElem? hv
      have vb : 0 ≤ v ∧ v < c.length := by
        rcases List.mem_append.mp hm with hm | hm
        · exact lb v hm
        · rw [List.mem_singleton.mp hm]; omega
      obtain ⟨k, rfl⟩ : ∃ k : Nat, v = (k : Int) := ⟨v.toNat, by omega⟩
      exact q k Z4 H4 (T.step (T.more2 ((t1.step t2 mm_nil).step t3 mm_nil)) t4 (mm_1 (.inl (by simp)))) (hh4.mono (by omega)) (by omega)

/-! ### _law_spoilt -/
def PE8 (e : Ent) : Prop := 0 ≤ e.1 ∧ e.2.1.length ≤ 8
def sp_law_spoilt (K : PySem.W.Frag) : Sp := fun vs H Q _ => ∃ (h : Addr) (v : V) (w r : Int) (es : TR.Row) (n : Nat) (Z : Hp), vs = [.ref h, v] ∧ Hand K Z H h (n + 20) ∧ Ik Z v (cleanY w r es) ∧ Keys1 es ∧ (∀ e ∈ es, PE8 e) ∧ es.length ≤ 120 ∧ 1 ≤ w ∧ w ≤ 8 ∧ 1 ≤ r ∧ r ≤ 130 ∧
  ∀ v' (y' : Yard) Z' H', T [h] Z H Z' H' → Hand K Z' H' h n → Ik Z' v' y' → 1 ≤ y'.a → y'.a ≤ 8 → 1 ≤ y'.b → y'.b ≤ 130 → y'.c.length ≤ 1000 → (∀ X ∈ y'.c, X.length ≤ 1000) → (allE y'.c).length ≤ 4000 → (∀ e ∈ allE y'.c, 0 ≤ e.1) → Q v' H'
theorem has_law_spoilt (z : Z K mg) (F : FunAt K mg "_law_spoilt" s_law_spoilt ["_law_hand", "_law_yard"]) (h_law_draw : Has P w K mg base "_law_draw" 1 (sp_law_draw K)) (h_law_one_room : Has P w K mg base "_law_one_room" 2 (sp_law_one_room K)) (h_law_copy : Has P w K mg base "_law_copy" 1 (sp_law_copy K)) : Has P w K mg base "_law_spoilt" 3 (sp_law_spoilt K) := by
  refine has_of F sc_law_spoilt (fun vs H Q E h => ?_) (fun f cdv A outer s H vs Q E hr h => ?_)
  · obtain ⟨_, _, _, _, _, _, _, rfl, _⟩ := h
    rfl
  · obtain ⟨h, v, w, r, es, n, Z, rfl, hh, iy, k1, pe, le, w0, w8, r0, r1, q⟩ := h
    refine ⟨_, (pss_cons (ps_asg (pe_callH h_law_copy (by decide) hr rfl (pa_cons (pv 1) pa_nil)) (pg_tup rfl (pgs_cons (pg_name (i := 2) sc_law_spoilt.nd rfl (by first | exact Or.inl rfl | exact Or.inr rfl)) (pgs_cons (pg_name (i := 3) sc_law_spoilt.nd rfl (by first | exact Or.inl rfl | exact Or.inr rfl)) (pgs_cons (pg_name (i := 4) sc_law_spoilt.nd rfl (by first | exact Or.inl rfl | exact Or.inr rfl)) pgs_nil)))))
        (pss_cons (ps_set (i := 5) sc_law_spoilt.nd rfl (by first | exact Or.inl rfl | exact Or.inr rfl) (pe_callH h_law_draw (by decide) hr rfl (pa_cons (pv 0) (pa_cons pe_int pa_nil))))
        (pss_cons (ps_set (i := 6) sc_law_spoilt.nd rfl (by first | exact Or.inl rfl | exact Or.inr rfl) (pe_callH h_law_one_room (by decide) hr rfl (pa_cons (pv 0) (pa_cons (pv 4) pa_nil))))
        (pss_cons (ps_set (i := 7) sc_law_spoilt.nd rfl (by first | exact Or.inl rfl | exact Or.inr rfl) (pe_ix (ixA (K := K) rfl) (pv 4) (pv 6) (fun _ _ => rfl)))
        (pss_cons (ps_set (i := 8) sc_law_spoilt.nd rfl (by first | exact Or.inl rfl | exact Or.inr rfl) (pe_op op_mod (pe_callH h_law_draw (by decide) hr rfl (pa_cons (pv 0) (pa_cons pe_int pa_nil))) (pe_callB (id := "len") (lenA (K := K) rfl) (by rfl) z.b_len (by decide +kernel) (pa_cons (pv 7) pa_nil))))
        (Evl.pss_cut (ps_if (pt_cmpR (eqA (K := K) rfl hr.units) (pv 5) pe_int (nomark _)) (pss_one (ps_expr (pe_bm PySem.F.plainAttrs_list PySem.F.slot_list_insert PySem.F.type_list_insert mt_insertA (pv 7) (pa_cons (pv 8) (pa_cons (pe_lst pa_nil) pa_nil))))) (pss_one (ps_if (PW.pt (pw_and (pt_cmpR (eqA (K := K) rfl hr.units) (pv 5) pe_int (nomark _)) (pw_and1 (pt_cmpR (neA (K := K) rfl hr.units) (pe_ix (ixA (K := K) rfl) (pv 7) (pv 8) (fun _ _ => rfl)) (pe_lst pa_nil) (nomark _))))) (pss_one (ps_expr (pe_bm PySem.F.plainAttrs_list PySem.F.slot_list_append PySem.F.type_list_append mt_append (pe_ix (ixA (K := K) rfl) (pe_ix (ixA (K := K) rfl) (pv 4) (pe_op op_mod (pe_callH h_law_draw (by decide) hr rfl (pa_cons (pv 0) (pa_cons pe_int pa_nil))) (pv 3)) (fun _ _ => rfl)) pe_int (fun _ _ => rfl)) (pa_cons (pe_bm0 PySem.F.plainAttrs_list PySem.F.slot_list_pop PySem.F.type_list_pop mt_pop (pe_ix (ixA (K := K) rfl) (pv 7) (pv 8) (fun _ _ => rfl))) pa_nil)))) (pss_one (ps_if (PW.pt (pw_and (pt_cmpR (eqA (K := K) rfl hr.units) (pv 5) pe_int (nomark _)) (pw_and1 (pt_cmpR (neA (K := K) rfl hr.units) (pe_ix (ixA (K := K) rfl) (pv 7) (pv 8) (fun _ _ => rfl)) (pe_lst pa_nil) (nomark _))))) (pss_cons (ps_asg (pe_ix (ixA (K := K) rfl) (pe_ix (ixA (K := K) rfl) (pv 7) (pv 8) (fun _ _ => rfl)) (pe_un un_neg pe_int) (fun _ _ => rfl)) (pg_tup rfl (pgs_cons (pg_name (i := 9) sc_law_spoilt.nd rfl (by first | exact Or.inl rfl | exact Or.inr rfl)) (pgs_cons (pg_name (i := 10) sc_law_spoilt.nd rfl (by first | exact Or.inl rfl | exact Or.inr rfl)) pgs_nil))))
        (pss_one (ps_expr (pe_bm PySem.F.plainAttrs_list PySem.F.slot_list_append PySem.F.type_list_append mt_append (pe_ix (ixA (K := K) rfl) (pv 7) (pv 8) (fun _ _ => rfl)) (pa_cons (pe_ix (ixA (K := K) rfl) (pe_lst (pa_cons (pe_tup (pa_cons (pv 9) (pa_cons (pv 10) pa_nil))) (pa_cons (pe_tup (pa_cons (pv 9) (pa_cons (pe_op op_plusA (pe_slice sl_str (pv 10) po_none (po_some pe_int)) pe_str) pa_nil))) pa_nil))) (pe_callH h_law_draw (by decide) hr rfl (pa_cons (pv 0) (pa_cons pe_int pa_nil))) (fun _ _ => rfl)) pa_nil))))) (pss_one (ps_if (PW.pt (pw_and (pt_cmpR (eqA (K := K) rfl hr.units) (pv 5) pe_int (nomark _)) (pw_and1 (pt_cmpR op_lt (pv 6) (pe_op op_sub (pe_callB (id := "len") (lenA (K := K) rfl) (by rfl) z.b_len (by decide +kernel) (pa_cons (pv 4) pa_nil)) pe_int) (nomark _))))) (pss_one (ps_asg (pe_lst pa_nil) (pg_sub (pv 4) (pv 6) set_list))) (pss_one (ps_if (pt_cmpR (eqA (K := K) rfl hr.units) (pv 5) pe_int (nomark _)) (pss_one (ps_expr (pe_bm0 PySem.F.plainAttrs_list PySem.F.slot_list_reverse PySem.F.type_list_reverse mt_reverse (pe_ix (ixA (K := K) rfl) (pv 7) (pv 8) (fun _ _ => rfl))))) (pss_one (ps_if (PW.pt (pw_and (pt_cmpR (eqA (K := K) rfl hr.units) (pv 5) pe_int (nomark _)) (pw_and1 (pt_cmpR (neA (K := K) rfl hr.units) (pe_ix (ixA (K := K) rfl) (pv 7) (pv 8) (fun _ _ => rfl)) (pe_lst pa_nil) (nomark _))))) (pss_one (ps_expr (pe_bm PySem.F.plainAttrs_list PySem.F.slot_list_append PySem.F.type_list_append mt_append (pv 7) (pa_cons (pe_lst (pa_cons (pe_bm0 PySem.F.plainAttrs_list PySem.F.slot_list_pop PySem.F.type_list_pop mt_pop (pe_ix (ixA (K := K) rfl) (pv 7) (pv 8) (fun _ _ => rfl))) pa_nil)) pa_nil)))) (pss_one (ps_if (pt_cmpR (eqA (K := K) rfl hr.units) (pv 5) pe_int (nomark _)) (pss_one (ps_set (i := 3) sc_law_spoilt.nd rfl (by first | exact Or.inl rfl | exact Or.inr rfl) (pe_op op_sub (pe_op op_plusA (pv 3) pe_int) (pe_op op_multA pe_int (pe_callH h_law_draw (by decide) hr rfl (pa_cons (pv 0) (pa_cons pe_int pa_nil))))))) (pss_one (ps_if (pt_cmpR (eqA (K := K) rfl hr.units) (pv 5) pe_int (nomark _)) (pss_one (ps_set (i := 2) sc_law_spoilt.nd rfl (by first | exact Or.inl rfl | exact Or.inr rfl) (pe_op op_plusA pe_int (pe_callH h_law_draw (by decide) hr rfl (pa_cons (pv 0) (pa_cons pe_int pa_nil)))))) (pss_one (ps_if (pt_cmpR (eqA (K := K) rfl hr.units) (pv 5) pe_int (nomark _)) (pss_one (ps_asg (pe_slice (slA (K := K) rfl) (pe_ix (ixA (K := K) rfl) (pv 7) (pv 8) (fun _ _ => rfl)) (po_some pe_int) po_none) (pg_sub (pv 7) (pv 8) set_list))) (pss_one (ps_if (pt_cmpR (eqA (K := K) rfl hr.units) (pv 5) pe_int (nomark _)) (pss_one (ps_expr (pe_bm PySem.F.plainAttrs_list PySem.F.slot_list_insert PySem.F.type_list_insert mt_insertA (pv 7) (pa_cons pe_int (pa_cons (pe_bm PySem.F.plainAttrs_list PySem.F.slot_list_pop PySem.F.type_list_pop mt_popAt (pv 7) (pa_cons (pv 8) pa_nil)) pa_nil))))) (pss_one (ps_if (PW.pt (pw_and (pt_cmpR (eqA (K := K) rfl hr.units) (pv 5) pe_int (nomark _)) (pw_and (pt_cmpR (neA (K := K) rfl hr.units) (pe_ix (ixA (K := K) rfl) (pv 7) (pv 8) (fun _ _ => rfl)) (pe_lst pa_nil) (nomark _)) (pw_and (pt_cmpR (neA (K := K) rfl hr.units) (pe_ix (ixA (K := K) rfl) (pv 7) (pe_un un_neg pe_int) (fun _ _ => rfl)) (pe_lst pa_nil) (nomark _)) (pw_and1 (pt_cmpR op_lt (pv 8) (pe_op op_sub (pe_callB (id := "len") (lenA (K := K) rfl) (by rfl) z.b_len (by decide +kernel) (pa_cons (pv 7) pa_nil)) pe_int) (nomark _))))))) (pss_cons (ps_set (i := 11) sc_law_spoilt.nd rfl (by first | exact Or.inl rfl | exact Or.inr rfl) (pe_bm0 PySem.F.plainAttrs_list PySem.F.slot_list_pop PySem.F.type_list_pop mt_pop (pe_ix (ixA (K := K) rfl) (pv 7) (pv 8) (fun _ _ => rfl))))
        (pss_cons (ps_set (i := 12) sc_law_spoilt.nd rfl (by first | exact Or.inl rfl | exact Or.inr rfl) (pe_bm PySem.F.plainAttrs_list PySem.F.slot_list_pop PySem.F.type_list_pop mt_popAt (pe_ix (ixA (K := K) rfl) (pv 7) (pe_un un_neg pe_int) (fun _ _ => rfl)) (pa_cons pe_int pa_nil)))
        (pss_cons (ps_asg (pe_callB (id := "sorted") (sortPSA (K := K) rfl) (by rfl) z.b_sorted (by decide +kernel) (pa_cons (pe_op op_plusA (pe_ix (ixA (K := K) rfl) (pv 7) (pv 8) (fun _ _ => rfl)) (pe_lst (pa_cons (pv 12) pa_nil))) pa_nil)) (pg_sub (pv 7) (pv 8) set_list))
        (pss_one (ps_asg (pe_callB (id := "sorted") (sortPSA (K := K) rfl) (by rfl) z.b_sorted (by decide +kernel) (pa_cons (pe_op op_plusA (pe_ix (ixA (K := K) rfl) (pv 7) (pe_un un_neg pe_int) (fun _ _ => rfl)) (pe_lst (pa_cons (pv 11) pa_nil))) pa_nil)) (pg_sub (pv 7) (pe_un un_neg pe_int) set_list)))))) pss_nil)))))))))))))))))))))
        (pss_one (ps_ret (pe_tup (pa_cons (pv 2) (pa_cons (pe_callB (id := "min") (call_min2A rfl) (by rfl) z.b_min (by decide +kernel) (pa_cons pe_int (pa_cons (pe_callB (id := "max") (call_max2A rfl) (by rfl) z.b_max (by decide +kernel) (pa_cons pe_int (pa_cons (pv 3) pa_nil))) pa_nil))) (pa_cons (pv 4) pa_nil)))))))))))), ?_⟩
    walk_at "cx"
    have z0 : Ex Z H := hh.z
    have hal := hh.at
    have hne : ∀ b, H b = none → h ∉ [b] := fun b hb => nm_cons (fun z => by
      obtain ⟨o, ho⟩ := hal
      rw [z, hb] at ho
      cases ho) nm_nil
    have yb := clean_YB w0 (by omega) r0 (by omega) (by omega : es.length ≤ 9000)
    walk_at "tys"
    refine ⟨v, Z, cleanY w r es, rfl, z0, iy, ⟨yb.2.2.2.2.1, yb.2.2.2.2.2.1⟩, fun p D qs F Z1 H1 t1 f1 y1 fr1 => ?_⟩
    have z1 := t1.zh
    have hh1 := hh.tt t1 nm_nil
    have nhY : ∀ b ∈ D :: (qs ++ F), b ≠ h := fun b hb z => by
      have := fr1 b hb
      obtain ⟨o, ho⟩ := hh.at
      rw [z, ho] at this
      cases this
    have f1' : Z1 p = some (.tup [.int w, .int r, .ref D]) := f1
    clear f1
    walk_at "tys"
    refine s_gt3 (by walk_at "st") ?_
    walk_at "tys"
    rename_i way Z2 H2 wy0 wy1 t2 hh2
    have n2 : ∀ b ∈ D :: (qs ++ F), b ∉ [h] := fun b hb => nm_cons (nhY b hb) nm_nil
    have y2 := y1.tt t2 n2
    have hh2' : Hand K Z2 H2 h ((n + 18) + 1) := hh2.mono (by omega)
    have lc : (cleanY w r es).c.length = r.toNat := cleanC_len
    refine ⟨h, D, (cleanY w r es).c, n + 18, Z2, rfl, hh2', y2.is, by omega, by omega, fun ri Z3 H3 t3 hh3 hri => ?_⟩
    have y3 := y2.tt t3 n2
    have t13 : T [h] Z H Z3 H3 := ((T.more2 t1).step t2 mm_same).step t3 mm_same
    have z3 := t3.zh
    clear t1 t2 t3 y1 y2 hh hh1 hh2 hh2' z0 z1 f1'
    obtain ⟨X, hX⟩ : ∃ X, (cleanY w r es).c[ri]? = some X := ⟨_, List.getElem?_eq_getElem hri⟩
    obtain ⟨q0, hq0⟩ : ∃ q0, qs[ri]? = some q0 := ⟨_, List.getElem?_eq_getElem (by rw [y3.len]; exact hri)⟩
    obtain ⟨X', hX', ws, hws, wF, pws⟩ := y3.at hq0
    rw [hX] at hX'
    cases hX'
    have eX : X = cutE w.toNat (partE r es ri) := by
      have := cleanC_at (w := w.toNat) (r := r) (es := es) (i := ri) (by omega)
      rw [show (cleanY w r es).c = cleanC w.toNat r es from rfl, this] at hX
      exact (Option.some.inj hX).symm
    have kX : Keys1 X.flatten := by
      rw [eX, cutE_flat (by omega)]
      exact (k1.filter _).perm (sortE_perm _)
    have nX : X ≠ [] := by rw [eX]; exact cutE_ne
    have lX : X.length ≤ 121 := by
      rw [eX]
      have h1 := cutE_le (w := w.toNat) (by omega) (partE r es ri)
      have h2 : (partE r es ri).length ≤ es.length := by
        unfold partE
        rw [sortE_len]
        exact List.length_filter_le _ _
      omega
    have xX : ∀ x ∈ X, x.length ≤ 8 ∧ ∀ e ∈ x, PE8 e := fun x hx => by
      rw [eX] at hx
      refine ⟨by have := cutE_wide (by omega) hx; omega, fun e he => ?_⟩
      refine pe e ((partE_mem (r := r) (i := ri)).mp ?_).1
      rw [← cutE_flat (w := w.toNat) (by omega) (partE r es ri)]
      exact List.mem_flatten.mpr ⟨x, hx, he⟩
    obtain ⟨G, GF, ly3⟩ := y3.ly (n := 130) (m := 150) (P := PE8) (S := 3000) (by omega) (fun Y hY => by
      obtain ⟨i, hi⟩ := List.mem_iff_getElem?.mp hY
      have hil := (List.getElem?_eq_some_iff.mp hi).1
      have := cleanC_at (w := w.toNat) (r := r) (es := es) (i := i) (by omega)
      rw [show (cleanY w r es).c = cleanC w.toNat r es from rfl, this] at hi
      cases hi
      have h1 := cutE_le (w := w.toNat) (by omega) (partE r es i)
      have h2 : (partE r es i).length ≤ es.length := by
        unfold partE
        rw [sortE_len]
        exact List.length_filter_le _ _
      omega) (fun Y hY x hx e he => pe e (clean_mem w0 hY hx he)) (Nat.le_trans (clean_sum w0) (by omega))
    have nG : ∀ b ∈ D :: (qs ++ G), b ∈ D :: (qs ++ F) := fun b hb => by
      rcases List.mem_cons.mp hb with e | hb
      · rw [e]; exact List.mem_cons_self
      · rcases List.mem_append.mp hb with hb | hb
        · exact LY.memR hb
        · exact LY.memW (GF b hb)
    have frG : ∀ b ∈ D :: (qs ++ G), H b = none := fun b hb => fr1 b (nG b hb)
    have nhG : ∀ b ∈ D :: (qs ++ G), b ∉ [h] := fun b hb => n2 b (nG b hb)
    have q0m : q0 ∈ qs := List.mem_of_getElem? hq0
    have wG : ∀ w ∈ ws, w ∈ G := by
      obtain ⟨ws2, g1, g2, g3, g4⟩ := ly3.rooms q0 q0m
      rw [hws] at g1
      have := refs_inj (HO.lst.inj (Option.some.inj g1))
      rw [this]
      exact g3
    have mu0 := muu_at hws
    have lws : ws.length = X.length := Paired.length pws
    have lw0 : 0 < ws.length := by
      rw [lws]
      exact List.length_pos_iff.mpr nX
    have row : ∀ (i : Nat) (wi : Addr), ws[i]? = some wi → ∃ xi, X[i]? = some xi ∧ RowO Z3 H3 wi xi ∧ kap H3 wi = xi.length + 1 ∧ xi.length ≤ 8 ∧ ∀ e ∈ xi, PE8 e := fun i wi hi => by
      obtain ⟨xi, hxi, vs, g1, g2⟩ := RW.at' pws hi
      obtain ⟨x1, x2⟩ := xX xi (List.mem_of_getElem? hxi)
      exact ⟨xi, hxi, ⟨vs, g1, g2⟩, by rw [kap_at g1, Paired.length g2], x1, x2⟩
    have own3 := y3.own
    have yat : ∀ (i : Nat) (qi : Addr), qs[i]? = some qi → ∃ Y, (cleanY w r es).c[i]? = some Y ∧ RoomO Z3 H3 F qi Y := fun i qi hi => y3.at hi
    have qlen : qs.length = r.toNat := by rw [y3.len]; exact lc
    clear y3 fr1 nhY
    walk_at "tys"
    refine s_ixL (sq_of own3) (v := .ref q0) (atI_lt (by omega) (by rw [Int.toNat_natCast, List.getElem?_map, hq0]; rfl)) ?_
    have nqh : q0 ∉ [h] := nhG q0 (LY.memR q0m)
    walk_at "tys"
    rename_i at_ Z4 H4 a0 a1 t4 hh4 m0 m1
    obtain ⟨j, ej, hj⟩ : ∃ j : Nat, at_ % (ws.length : Int) = (j : Int) ∧ j < ws.length := ⟨(at_ % (ws.length : Int)).toNat, by omega, by omega⟩
    rw [ej]
    clear m0 m1 ej
    obtain ⟨wj, hwj⟩ : ∃ wj, ws[j]? = some wj := ⟨_, List.getElem?_eq_getElem hj⟩
    have ly4 := ly3.tt t4 nhG
    have hws4 := t4.hp nqh hws
    have own4 : H4 D = some (.lst (qs.map V.ref)) := t4.hp (nhG D List.mem_cons_self) own3
    have row4 : ∀ (i : Nat) (wi : Addr), ws[i]? = some wi → ∃ xi, X[i]? = some xi ∧ RowO Z4 H4 wi xi ∧ kap H3 wi = xi.length + 1 ∧ xi.length ≤ 8 ∧ ∀ e ∈ xi, PE8 e := fun i wi hi => by
      obtain ⟨xi, g1, g2, g3⟩ := row i wi hi
      exact ⟨xi, g1, g2.tt t4 (nhG wi (LY.memW (wG wi (List.mem_of_getElem? hi)))), g3⟩
    obtain ⟨xj, hxj, roj, kj, lj, pj⟩ := row4 j wj hwj
    have wjm : wj ∈ ws := List.mem_of_getElem? hwj
    have wjG := wG wj wjm
    have t04 := t13.step t4 mm_same
    have hh4' : Hand K Z4 H4 h (n + 12) := hh4.mono (by omega)
    have z4 := t4.zh
    have frA : ∀ a, H4 a = none → H a = none := fun a h => t04.nn h
    have other : ∀ (i : Nat), i < r.toNat → ∃ (qi : Addr) (w1 : Addr) (us : List Addr), qs[i]? = some qi ∧ H4 qi = some (.lst ((w1 :: us).map V.ref)) ∧ w1 ∈ G ∧ ∃ x1 : TR.Row, RowO Z4 H4 w1 x1 ∧ x1.length + 1 ≤ kap H3 w1 ∧ x1.length ≤ 8 ∧ ∀ e ∈ x1, PE8 e := fun i hi => by
      obtain ⟨qi, hqi⟩ : ∃ qi, qs[i]? = some qi := ⟨_, List.getElem?_eq_getElem (by omega)⟩
      have qim := List.mem_of_getElem? hqi
      obtain ⟨Y, hY, us, hus, _, pus⟩ := yat i qi hqi
      have eY : Y = cutE w.toNat (partE r es i) := by
        have h2 := hY
        rw [show (cleanY w r es).c = cleanC w.toNat r es from rfl, cleanC_at hi] at h2
        exact (Option.some.inj h2).symm
      have nY : Y ≠ [] := by rw [eY]; exact cutE_ne
      obtain ⟨ws2, g1, _, g3, _⟩ := ly3.rooms qi qim
      rw [hus] at g1
      have eu := refs_inj (HO.lst.inj (Option.some.inj g1))
      cases pus with
      | nil => exact absurd rfl nY
      | @cons w1 y1 us1 Y1 a b =>
        obtain ⟨vs, a1, a2⟩ := a
        have w1G : w1 ∈ G := g3 w1 (eu ▸ List.mem_cons_self)
        exact ⟨qi, w1, us1, hqi, t4.hp (nhG qi (LY.memR qim)) hus, w1G, y1, RowO.tt t4 (nhG w1 (LY.memW w1G)) ⟨vs, a1, a2⟩, by rw [kap_at a1, Paired.length a2]; exact Nat.le_refl _, by have := cutE_wide (w := w.toNat) (by omega) (eY ▸ List.mem_cons_self : y1 ∈ cutE w.toNat (partE r es i)); omega, fun e he => pe e (clean_mem w0 (List.mem_of_getElem? hY) List.mem_cons_self he)⟩
    have qsum : (qs.map (muu H3)).sum ≤ 3000 := by
      obtain ⟨ps, g1, _, _, g4⟩ := ly3.own
      rw [own3] at g1
      rw [refs_inj (HO.lst.inj (Option.some.inj g1))]
      exact g4
    clear ly3 hws own3 row t13 t4 hh4 hh3 z3
    refine s_cut (fun σ' H' => ∃ (w' r' : Int) (u1 u2 u3 u4 u5 u6 u7 u8 : Option V) (Z' : Hp), σ' = [some (.ref h), some v, some (.int w'), some (.int r'), some (.ref D), u1, u2, u3, u4, u5, u6, u7, u8] ∧ (1 ≤ w' ∧ w' ≤ 8) ∧ LB h Z H Z' H' D PE8 ∧ Hand K Z' H' h (n + 10)) ?_ ?_
    · walk_at "tys"
      refine i_d (fun hd0 => ?_) (fun hd0 => ?_)
      · walk_at "tys"
        rename_i p5 Z5 H5 n5 t5 m5 f5
        have np : p5 ∉ ws := fun z => ly4.not n5 (LY.memW (wG _ z))
        have ly5 := (ly4.tt0 t5).addRow m5 (ly4.not n5) f5 .nil (fun x hx => absurd hx List.not_mem_nil) 0 (Nat.le_refl _)
        refine ly5.ins (i := j) q0m (t5.hp nm_nil hws4) (fun b hb => List.mem_cons_of_mem _ (wG b hb)) List.mem_cons_self (by omega) (by omega) (by omega) (by rw [sum_upd np, if_pos rfl, mu0]; omega) fun H6 t6 ly6 => ?_
        walk_at "tys"
        exact ⟨w, r, _, _, _, _, _, _, _, _, Z5, rfl, ⟨w0, w8⟩, LB.of (t04.step t5 mm_nil) t6 (fun b hb => by rw [List.mem_singleton.mp hb]; exact frG _ (LY.memR q0m)) ly6 (by omega) (fr_row frG (frA _ n5)), ((hh4'.tt t5 nm_nil).tt t6 (hne _ (frG _ (LY.memR q0m)))).mono (by omega)⟩
      walk_at "tys"
      refine i_d (fun hd1 => ?_) (fun hd1 => ?_)
      · walk_at "tys"
        refine s_ixL (sq_of hws4) (v := .ref wj) (atI_lt (by omega) (by rw [Int.toNat_natCast, List.getElem?_map, hwj]; rfl)) ?_
        walk_at "tys"
        rename_i pN ZN HN nN tN mN fN
        have roN := roj.tt tN nm_nil
        refine s_neP (x := xj) (y := ([] : TR.Row)) (Li.isH roN tN.zh).is (Ik.nil fN).is (by decide) ?_
        have zN := tN.zh
        have lyN := ly4.tt0 tN
        have hwsN := tN.hp nm_nil hws4
        have ownN := tN.hp nm_nil own4
        have hhN := hh4'.tt tN nm_nil
        have t0N := t04.step tN mm_nil
        walk_at "tys"
        refine i_d (fun hdN => ?_) (fun hdN => ?_)
        · obtain ⟨r0', x, rfl⟩ := exists_snoc hdN
          walk_at "tys"
          rename_i d6 Z6 H6 d60 d61 t6 hh6 m60 m61
          obtain ⟨qi, w1, us, hqi, hqw, w1G, x1, ro1, k1', l1, p1⟩ := other (d6 % r).toNat (by omega)
          have qim := List.mem_of_getElem? hqi
          have ly6 := lyN.tt t6 nhG
          have own6 : H6 D = some (.lst (qs.map V.ref)) := t6.hp (nhG D List.mem_cons_self) ownN
          have hqw6 := t6.hp (nhG qi (LY.memR qim)) (tN.hp nm_nil hqw)
          have hws6 := t6.hp nqh hwsN
          have roj6 := roN.tt t6 (nhG wj (LY.memW wjG))
          have ro16 := (ro1.tt tN nm_nil).tt t6 (nhG w1 (LY.memW w1G))
          have z6 := t6.zh
          have t06 := t0N.step t6 mm_same
          refine s_ixL (sq_of own6) (v := .ref qi) (atI_lt (by omega) (by rw [List.getElem?_map, hqi]; rfl)) ?_
          obtain ⟨us1, hus1, _⟩ := id ro16
          walk_at "tys"
          refine s_ixL (sq_of hws6) (v := .ref wj) (atI_lt (by omega) (by rw [Int.toNat_natCast, List.getElem?_map, hwj]; rfl)) ?_
          obtain ⟨us2, hus2, _⟩ := id roj6
          walk_at "tys"
          have lx : r0'.length + 1 ≤ 8 := by rw [List.length_append] at lj; exact lj
          have px : ∀ e ∈ r0', PE8 e := fun e he => pj e (List.mem_append_left _ he)
          have kj' : kap H3 wj = r0'.length + 2 := by rw [kj, List.length_append]; rfl
          refine ly6.pop wjG roj6 (by omega) px fun vx H7 t7 ly7 ro7 ivx => ?_
          obtain ⟨x2, ro2, k2, l2, p2⟩ : ∃ x2 : TR.Row, RowO Z6 H7 w1 x2 ∧ x2.length + 1 ≤ kap H3 w1 ∧ x2.length ≤ 8 ∧ ∀ e ∈ x2, PE8 e := by
            by_cases c : w1 = wj
            · subst c
              exact ⟨r0', ro7, by omega, by omega, px⟩
            · exact ⟨x1, ro16.tt t7 (nm_cons c nm_nil), k1', l1, p1⟩
          walk_at "tys"
          refine ly7.app w1G ro2 ivx k2 (by omega) (fun e he => by
            rcases List.mem_append.mp he with he | he
            · exact p2 e he
            · rw [List.mem_singleton.mp he]; exact pj x (List.mem_append_right _ List.mem_cons_self)) fun H8 t8 ly8 => ?_
          walk_at "tys"
          exact ⟨w, r, _, _, _, _, _, _, _, _, Z6, rfl, ⟨w0, w8⟩, LB.of (t06.step t7 (fun b hb => by rw [List.mem_singleton.mp hb]; exact .inr (frG _ (LY.memW wjG)))) t8 (fun b hb => by rw [List.mem_singleton.mp hb]; exact frG _ (LY.memW w1G)) ly8 (by omega) frG, ((hh6.tt t7 (hne _ (frG _ (LY.memW wjG)))).tt t8 (hne _ (frG _ (LY.memW w1G)))).mono (by omega)⟩
        · walk_at "tys"
          exact ⟨w, r, _, _, _, _, _, _, _, _, ZN, rfl, ⟨by omega, by omega⟩, LB.of t04 tN (fun b hb => absurd hb List.not_mem_nil) lyN (by omega) frG, hhN.mono (by omega)⟩
      walk_at "tys"
      refine i_d (fun hd2 => ?_) (fun hd2 => ?_)
      · walk_at "tys"
        refine s_ixL (sq_of hws4) (v := .ref wj) (atI_lt (by omega) (by rw [Int.toNat_natCast, List.getElem?_map, hwj]; rfl)) ?_
        walk_at "tys"
        rename_i pN ZN HN nN tN mN fN
        have roN := roj.tt tN nm_nil
        refine s_neP (x := xj) (y := ([] : TR.Row)) (Li.isH roN tN.zh).is (Ik.nil fN).is (by decide) ?_
        have zN := tN.zh
        have lyN := ly4.tt0 tN
        have hwsN := tN.hp nm_nil hws4
        have ownN := tN.hp nm_nil own4
        have hhN := hh4'.tt tN nm_nil
        have t0N := t04.step tN mm_nil
        walk_at "tys"
        refine i_d (fun hdN => ?_) (fun hdN => ?_)
        · obtain ⟨r0', x, rfl⟩ := exists_snoc hdN
          walk_at "tys"
          refine s_ixL (sq_of hwsN) (v := .ref wj) (atI_lt (by omega) (by rw [Int.toNat_natCast, List.getElem?_map, hwj]; rfl)) ?_
          walk_at "tys"
          refine t_ixLi roN ix_last fun vx ivx => ?_
          obtain ⟨px, rfl, hpx⟩ := ivx.ent_of
          walk_at "tys"
          refine s_gt2 (by walk_at "st") ?_
          obtain ⟨us2, hus2, _⟩ := id roN
          walk_at "tys"
          refine s_ixL (sq_of hwsN) (v := .ref wj) (atI_lt (by omega) (by rw [Int.toNat_natCast, List.getElem?_map, hwj]; rfl)) ?_
          walk_at "tys"
          obtain ⟨x0, x8⟩ := pj x (List.mem_append_right _ List.mem_cons_self)
          have c7 := cut_len7 x.2.1
          refine s_slS (by omega) ?_
          walk_at "tys"
          refine s_plusS (by rw [show (("q" : Str)).length = 1 from rfl]; omega) ?_
          walk_at "tys"
          rename_i pa2 Za Ha na ta fa pb Zb Hb nb tb fb pc Zc Hc nc tc fc dd Zd Hd dd0 dd1 td hhd
          refine ixGo (sq_of (td.zh _ _ (td.z _ _ fc))) (ig_mem (xs := [.ref pa2, .ref pb]) ⟨dd0, by show dd < ((2 : Nat) : Int); omega⟩ fun vx hvx _ => ?_)
          have tad := ((ta.step tb mm_nil).step tc mm_nil)
          obtain ⟨x2, ix2, px2⟩ : ∃ x2 : Ent, Ik Zd vx x2 ∧ PE8 x2 := by
            rcases List.mem_cons.mp hvx with e | hvx
            · subst e
              exact ⟨(x.1, x.2), Ik.pair (td.z _ _ (tc.z _ _ (tb.z _ _ fa))) (Ik.int _) (Ik.tx x.2), x0, x8⟩
            · rcases List.mem_cons.mp hvx with e | hvx
              · subst e
                refine ⟨(x.1, ⟨cutS x.2.1 none (some 7) ++ "q", strOk_plus (strOk_part x.2.2) (by decide +kernel)⟩), Ik.pair (td.z _ _ (tc.z _ _ fb)) (Ik.int _) (Ik.tx (⟨cutS x.2.1 none (some 7) ++ "q", strOk_plus (strOk_part x.2.2) (by decide +kernel)⟩ : Tx)), x0, ?_⟩
                show (cutS x.2.1 none (some 7) ++ "q" : Str).length ≤ 8
                rw [str_app_len, show (("q" : Str)).length = 1 from rfl]
                omega
              · exact absurd hvx List.not_mem_nil
          have lyd := (lyN.tt0 tad).tt td nhG
          have rod := (roN.tt tad nm_nil).tt td (nhG wj (LY.memW wjG))
          have kj' : kap H3 wj = (r0' ++ [x]).length + 1 := kj
          have t0d := (t0N.step tad mm_nil).step td mm_same
          walk_at "tys"
          refine lyd.app wjG rod ix2 (by omega) (by omega) (fun e he => by
            rcases List.mem_append.mp he with he | he
            · exact pj e he
            · rw [List.mem_singleton.mp he]; exact px2) fun H8 t8 ly8 => ?_
          walk_at "tys"
          exact ⟨w, r, _, _, _, _, _, _, _, _, Zd, rfl, ⟨w0, w8⟩, LB.of t0d t8 (fun b hb => by rw [List.mem_singleton.mp hb]; exact frG _ (LY.memW wjG)) ly8 (by omega) frG, (hhd.tt t8 (hne _ (frG _ (LY.memW wjG)))).mono (by omega)⟩
        · walk_at "tys"
          exact ⟨w, r, _, _, _, _, _, _, _, _, ZN, rfl, ⟨by omega, by omega⟩, LB.of t04 tN (fun b hb => absurd hb List.not_mem_nil) lyN (by omega) frG, hhN.mono (by omega)⟩
      walk_at "tys"
      refine i_d (fun hd8 => ?_) (fun hd8 => ?_)
      · walk_at "tys"
        refine i_d (fun hd81 => ?_) (fun hd81 => ?_)
        · walk_at "tys"
          rename_i p5 Z5 H5 n5 t5 m5 f5
          have ly5 := (ly4.tt0 t5).addRoom m5 (ly4.not n5) f5
          have qu : (qs.map fun a => if a = p5 then 0 else muu H3 a).sum = (qs.map (muu H3)).sum := by
            have : (qs.map fun a => if a = p5 then 0 else muu H3 a) = qs.map (muu H3) := List.map_congr_left fun a ha => if_neg fun (z : a = p5) => ly4.not n5 (z ▸ LY.memR ha)
            rw [this]
          refine ly5.setRooms (ps := qs) (j := ri) (t5.hp nm_nil own4) (fun b hb => List.mem_cons_of_mem _ hb) List.mem_cons_self (by rw [ixN_lt (by omega) (by omega), Int.toNat_natCast]) (by omega) (by rw [qu, if_pos rfl]; exact qsum) fun H6 t6 ly6 => ?_
          exact ⟨w, r, _, _, _, _, _, _, _, _, Z5, rfl, ⟨w0, w8⟩, LB.of (t04.step t5 mm_nil) t6 (fun b hb => by rw [List.mem_singleton.mp hb]; exact frG _ List.mem_cons_self) ly6 (by omega) (fr_room frG (frA _ n5)), ((hh4'.tt t5 nm_nil).tt t6 (hne _ (frG _ List.mem_cons_self))).mono (by omega)⟩
        · walk_at "tys"
          exact ⟨w, r, _, _, _, _, _, _, _, _, Z4, rfl, ⟨w0, w8⟩, LB.of2 t04 ly4 (by omega) frG, hh4'.mono (by omega)⟩
      walk_at "tys"
      refine i_d (fun hd3 => ?_) (fun hd3 => ?_)
      · walk_at "tys"
        refine s_ixL (sq_of hws4) (v := .ref wj) (atI_lt (by omega) (by rw [Int.toNat_natCast, List.getElem?_map, hwj]; rfl)) ?_
        obtain ⟨us1, hus1, _⟩ := id roj
        walk_at "tys"
        refine ly4.rev wjG fun H5 t5 ly5 => ?_
        walk_at "tys"
        exact ⟨w, r, _, _, _, _, _, _, _, _, Z4, rfl, ⟨by omega, by omega⟩, LB.of t04 t5 (fun b hb => by rw [List.mem_singleton.mp hb]; exact frG _ (LY.memW wjG)) ly5 (by omega) frG, (hh4'.tt t5 (hne _ (frG _ (LY.memW wjG)))).mono (by omega)⟩
      walk_at "tys"
      refine i_d (fun hd4 => ?_) (fun hd4 => ?_)
      · walk_at "tys"
        refine s_ixL (sq_of hws4) (v := .ref wj) (atI_lt (by omega) (by rw [Int.toNat_natCast, List.getElem?_map, hwj]; rfl)) ?_
        walk_at "tys"
        rename_i pN ZN HN nN tN mN fN
        have roN := roj.tt tN nm_nil
        refine s_neP (x := xj) (y := ([] : TR.Row)) (Li.isH roN tN.zh).is (Ik.nil fN).is (by decide) ?_
        have zN := tN.zh
        have lyN := ly4.tt0 tN
        have hwsN := tN.hp nm_nil hws4
        have ownN := tN.hp nm_nil own4
        have hhN := hh4'.tt tN nm_nil
        have t0N := t04.step tN mm_nil
        walk_at "tys"
        refine i_d (fun hdN => ?_) (fun hdN => ?_)
        · obtain ⟨r0', x, rfl⟩ := exists_snoc hdN
          obtain ⟨us2, hus2, _⟩ := id roN
          walk_at "tys"
          refine s_ixL (sq_of hwsN) (v := .ref wj) (atI_lt (by omega) (by rw [Int.toNat_natCast, List.getElem?_map, hwj]; rfl)) ?_
          walk_at "tyN"
          have lx : r0'.length + 1 ≤ 8 := by rw [List.length_append] at lj; exact lj
          have px : ∀ e ∈ r0', PE8 e := fun e he => pj e (List.mem_append_left _ he)
          have kj' : kap H3 wj = r0'.length + 2 := by rw [kj, List.length_append]; rfl
          refine lyN.pop wjG roN (by omega) px fun vx H7 t7 ly7 ro7 ivx => ?_
          have z7 := t7.zh
          walk_at "tyN"
          refine t_lstM (xs := [vx]) (l := [x]) z7 (.cons ivx .nil) (by show 1 ≤ 100000; decide) fun p8 Z8 H8 n8 t8 lm8 => ?_
          obtain ⟨vs8, f8, pr8⟩ := lm8.ex
          have np : p8 ∉ ws := fun z => ly7.not n8 (LY.memW (wG _ z))
          have ly8 := (ly7.tt0 t8).addRow lm8.mu (ly7.not n8) f8 pr8 (fun e he => by rw [List.mem_singleton.mp he]; exact pj x (List.mem_append_right _ List.mem_cons_self)) 1 (Nat.le_refl _)
          have hws8 := t8.hp nm_nil (t7.hp (nm_cons (fun (z : q0 = wj) => ly4.nf q0 (List.mem_cons_of_mem _ q0m) (z ▸ wjG)) nm_nil) hwsN)
          walk_at "tys"
          refine ly8.appR q0m hws8 (fun b hb => List.mem_cons_of_mem _ (wG b hb)) List.mem_cons_self (by omega) (by omega) (by rw [sum_upd np, if_pos rfl, mu0]; omega) fun H9 t9 ly9 => ?_
          walk_at "tys"
          exact ⟨w, r, _, _, _, _, _, _, _, _, Z8, rfl, ⟨w0, w8⟩, LB.of ((t0N.step t7 (fun b hb => by rw [List.mem_singleton.mp hb]; exact .inr (frG _ (LY.memW wjG)))).step t8 mm_nil) t9 (fun b hb => by rw [List.mem_singleton.mp hb]; exact frG _ (LY.memR q0m)) ly9 (by omega) (fr_row frG (t0N.nn (t7.nn n8))), (((hhN.tt t7 (hne _ (frG _ (LY.memW wjG)))).tt t8 nm_nil).tt t9 (hne _ (frG _ (LY.memR q0m)))).mono (by omega)⟩
        · walk_at "tys"
          exact ⟨w, r, _, _, _, _, _, _, _, _, ZN, rfl, ⟨by omega, by omega⟩, LB.of t04 tN (fun b hb => absurd hb List.not_mem_nil) lyN (by omega) frG, hhN.mono (by omega)⟩
      walk_at "tys"
      refine i_d (fun hd5 => ?_) (fun hd5 => ?_)
      · walk_at "tys"
        rename_i d5 Z5 H5 d50 d51 t5 hh5
        exact ⟨w, _, _, _, _, _, _, _, _, _, Z5, rfl, ⟨by omega, by omega⟩, LB.of2 (t04.step t5 mm_same) (ly4.tt t5 nhG) (by omega) frG, hh5.mono (by omega)⟩
      walk_at "tys"
      refine i_d (fun hd6 => ?_) (fun hd6 => ?_)
      · walk_at "tys"
        rename_i d5 Z5 H5 d50 d51 t5 hh5
        exact ⟨_, r, _, _, _, _, _, _, _, _, Z5, rfl, ⟨by omega, by omega⟩, LB.of2 (t04.step t5 mm_same) (ly4.tt t5 nhG) (by omega) frG, hh5.mono (by omega)⟩
      walk_at "tys"
      refine i_d (fun hd7 => ?_) (fun hd7 => ?_)
      · walk_at "tys"
        refine s_ixL (sq_of hws4) (v := .ref wj) (atI_lt (by omega) (by rw [Int.toNat_natCast, List.getElem?_map, hwj]; rfl)) ?_
        walk_at "tys"
        refine t_slLM z4 roj fun p5 H5 n5 t5 m5 li5 => ?_
        obtain ⟨vs5, f5, pr5⟩ := li5
        have ll5 : (cutI xj (some 1) none).length ≤ 8 := Nat.le_trans (cutI_sub xj _ _).length_le lj
        have np : p5 ∉ ws := fun z => ly4.not n5 (LY.memW (wG _ z))
        have ly5 := (ly4.tt0 t5).addRow m5 (ly4.not n5) f5 pr5 (fun x hx => pj x ((cutI_sub xj _ _).subset hx)) _ (Nat.le_refl _)
        walk_at "tys"
        refine ly5.setR (i := (j : Int)) (j := j) q0m (t5.hp nm_nil hws4) (fun b hb => List.mem_cons_of_mem _ (wG b hb)) List.mem_cons_self (by rw [ixN_lt (by omega) (by omega), Int.toNat_natCast]) (by omega) (by rw [sum_upd np, if_pos rfl, mu0]; omega) fun H6 t6 ly6 _ => ?_
        exact ⟨w, r, _, _, _, _, _, _, _, _, Z4, rfl, ⟨w0, w8⟩, LB.of (t04.step t5 mm_nil) t6 (fun b hb => by rw [List.mem_singleton.mp hb]; exact frG _ (LY.memR q0m)) ly6 (by omega) (fr_row frG (frA _ n5)), ((hh4'.tt t5 nm_nil).tt t6 (hne _ (frG _ (LY.memR q0m)))).mono (by omega)⟩
      walk_at "tys"
      refine i_d (fun hd9 => ?_) (fun hd9 => ?_)
      · walk_at "tys"
        refine ly4.popR q0m hws4 wG hwj (by omega) (by omega) (by rw [mu0]; omega) fun H5 t5 ly5 hws5 => ?_
        walk_at "tys"
        have lE : (ws.eraseIdx j).length ≤ ws.length := List.length_eraseIdx_le ..
        refine ly5.ins (i := 0) q0m hws5 (fun b hb => wG b (List.mem_of_mem_eraseIdx hb)) wjG (by omega) (by omega) (by omega) (by
          have := sum_erase_le (kap H3) ws j
          rw [mu0]; omega) fun H6 t6 ly6 => ?_
        walk_at "tys"
        exact ⟨w, r, _, _, _, _, _, _, _, _, Z4, rfl, ⟨w0, w8⟩, LB.of (t04.step t5 (fun b hb => by rw [List.mem_singleton.mp hb]; exact .inr (frG _ (LY.memR q0m)))) t6 (fun b hb => by rw [List.mem_singleton.mp hb]; exact frG _ (LY.memR q0m)) ly6 (by omega) frG, ((hh4'.tt t5 (hne _ (frG _ (LY.memR q0m)))).tt t6 (hne _ (frG _ (LY.memR q0m)))).mono (by omega)⟩
      walk_at "tys"
      refine s_ixL (sq_of hws4) (v := .ref wj) (atI_lt (by omega) (by rw [Int.toNat_natCast, List.getElem?_map, hwj]; rfl)) ?_
      walk_at "tys"
      rename_i pN ZN HN nN tN mN fN
      have roN := roj.tt tN nm_nil
      refine s_neP (x := xj) (y := ([] : TR.Row)) (Li.isH roN tN.zh).is (Ik.nil fN).is (by decide) ?_
      have zN := tN.zh
      have lyN := ly4.tt0 tN
      have hwsN := tN.hp nm_nil hws4
      have ownN := tN.hp nm_nil own4
      have hhN := hh4'.tt tN nm_nil
      have t0N := t04.step tN mm_nil
      walk_at "tys"
      refine i_d (fun hdN => ?_) (fun hdN => ?_)
      · obtain ⟨L, hL⟩ : ∃ L, ws.length = L + 1 := ⟨ws.length - 1, by omega⟩
        obtain ⟨wl, hwl⟩ : ∃ wl, ws[L]? = some wl := ⟨_, List.getElem?_eq_getElem (by omega)⟩
        obtain ⟨xl, hxl, rol, kl, ll, pl⟩ := row4 L wl hwl
        have wlG := wG wl (List.mem_of_getElem? hwl)
        have atL : atI (ws.map V.ref) (-1) = some (.ref wl) := ix_last2 (by rw [List.length_map]; exact hL) (by rw [List.getElem?_map, hwl]; rfl)
        walk_at "tys"
        refine s_ixL (sq_of hwsN) (v := .ref wl) atL ?_
        walk_at "tys"
        rename_i pM ZM HM nM tM mM fM
        have rolM := (rol.tt tN nm_nil).tt tM nm_nil
        refine s_neP (x := xl) (y := ([] : TR.Row)) (Li.isH rolM tM.zh).is (Ik.nil fM).is (by decide) ?_
        have zM := tM.zh
        have lyM := lyN.tt0 tM
        have hwsM := tM.hp nm_nil hwsN
        have rojM := roN.tt tM nm_nil
        have hhM := hhN.tt tM nm_nil
        have t0M := t0N.step tM mm_nil
        clear lyN hwsN ownN roN hhN t0N zN
        walk_at "tys"
        refine i_d (fun hd11 => ?_) (fun hd11 => ?_)
        · walk_at "tys"
          refine i_d (fun hd12 => ?_) (fun hd12 => ?_)
          · walk_at "tys"
            obtain ⟨r0', x, rfl⟩ := exists_snoc hdN
            obtain ⟨b, s0, rfl⟩ : ∃ b s0, xl = b :: s0 := by
              cases xl with
              | nil => exact absurd rfl hd11
              | cons b s0 => exact ⟨b, s0, rfl⟩
            obtain ⟨ksA, ksB⟩ := keys_swap kX (show j < L by omega) hxj hxl
            have nwl : wj ≠ wl := by
              obtain ⟨e0, r00, e00⟩ : ∃ e0 r00, r0' ++ [x] = e0 :: r00 := by
                cases h : r0' ++ [x] with
                | nil => exact absurd h (by simp)
                | cons a c => exact ⟨a, c, rfl⟩
              exact rows_apart pws kX (show j < L by omega) hwj hwl (e00 ▸ hxj) hxl
            refine s_ixL (sq_of hwsM) (v := .ref wj) (atI_lt (by omega) (by rw [Int.toNat_natCast, List.getElem?_map, hwj]; rfl)) ?_
            obtain ⟨us2, hus2, _⟩ := id rojM
            walk_at "tys"
            have lx : r0'.length + 1 ≤ 8 := by rw [List.length_append] at lj; exact lj
            have ls : s0.length + 1 ≤ 8 := ll
            have px : ∀ e ∈ r0', PE8 e := fun e he => pj e (List.mem_append_left _ he)
            have ps : ∀ e ∈ s0, PE8 e := fun e he => pl e (List.mem_cons_of_mem _ he)
            have kj' : kap H3 wj = r0'.length + 2 := by rw [kj, List.length_append]; rfl
            have kl' : kap H3 wl = s0.length + 2 := kl
            refine lyM.pop wjG rojM (by omega) px fun vx H7 t7 ly7 ro7 ivx => ?_
            have z7 := t7.zh
            have q0j : q0 ≠ wj := fun (z : q0 = wj) => ly4.nf q0 (List.mem_cons_of_mem _ q0m) (z ▸ wjG)
            have q0l : q0 ≠ wl := fun (z : q0 = wl) => ly4.nf q0 (List.mem_cons_of_mem _ q0m) (z ▸ wlG)
            have hws7 := t7.hp (nm_cons q0j nm_nil) hwsM
            have rol7 := rolM.tt t7 (nm_cons (Ne.symm nwl) nm_nil)
            have t07 := t0M.step t7 (fun b hb => by rw [List.mem_singleton.mp hb]; exact .inr (frG _ (LY.memW wjG)))
            have hh7 := hhM.tt t7 (hne _ (frG _ (LY.memW wjG)))
            clear t7 lyM hwsM rojM rolM hhM t0M zM tM tN fM mM
            walk_at "tys"
            refine s_ixL (sq_of hws7) (v := .ref wl) atL ?_
            obtain ⟨us3, hus3, _⟩ := id rol7
            walk_at "tys"
            refine ly7.pop0 wlG rol7 (by omega) ps (by omega) fun vb H8 t8 ly8 ro8 ivb => ?_
            have z8 := t8.zh
            have hws8 := t8.hp (nm_cons q0l nm_nil) hws7
            have ro78 := ro7.tt t8 (nm_cons nwl nm_nil)
            have t08 := t07.step t8 (fun b hb => by rw [List.mem_singleton.mp hb]; exact .inr (frG _ (LY.memW wlG)))
            have hh8 := hh7.tt t8 (hne _ (frG _ (LY.memW wlG)))
            clear t8 ly7 hws7 ro7 rol7 hh7 t07 z7
            walk_at "tys"
            refine s_ixL (sq_of hws8) (v := .ref wj) (atI_lt (by omega) (by rw [Int.toNat_natCast, List.getElem?_map, hwj]; rfl)) ?_
            walk_at "tyN"
            refine t_lst z8 (by show 1 ≤ 100000; decide) fun p9 Z9 H9 n9 t9 f9 => ?_
            have z9 := t9.zh
            have l9 : Li Z9 H9 p9 [b] := ⟨_, z9 _ _ f9, .cons (Ik.tt t9 ivb) .nil⟩
            have ro9 := ro78.tt t9 nm_nil
            refine t_cat z9 ro9 l9 (by rw [List.length_singleton]; omega) fun pa2 Za Ha na ta lsa => ?_
            have za := ta.zh
            have t8a := t9.step ta mm_nil
            have lya := ly8.tt0 t8a
            have hwsa := t8a.hp nm_nil hws8
            have rola := ro8.tt t8a nm_nil
            have ivxa := Ik.tt t8a (Ik.tt (T.refl z8 : T [] _ _ _ _) ivx)
            have hha := hh8.tt t8a nm_nil
            have t0a := t08.step t8a mm_nil
            clear t9 ta t8a ly8 hws8 ro8 ro78 ro9 l9 hh8 t08 z8 z9
            walk_at "tys"
            refine t_sortedEM za (lsa.li za) ksA.one fun pb Hb nb tb mb lib => ?_
            obtain ⟨vsb, fb, prb⟩ := lib
            have npb : pb ∉ ws := fun z => lya.not nb (LY.memW (wG _ z))
            have lnb : (sortE (r0' ++ [b])).length ≤ 8 := by rw [sortE_len, List.length_append]; exact lx
            have lyb := (lya.tt0 tb).addRow mb (lya.not nb) fb prb (fun e he => by
              rcases List.mem_append.mp (sortE_mem.mp he) with he | he
              · exact px e he
              · rw [List.mem_singleton.mp he]; exact pl b List.mem_cons_self) _ (Nat.le_refl _)
            have zb := tb.zh
            have hwsb := tb.hp nm_nil hwsa
            have rolb := rola.tt tb nm_nil
            have hhb := hha.tt tb nm_nil
            have t0b := t0a.step tb mm_nil
            have frb := t0a.nn nb
            clear tb lya hwsa rola hha t0a lsa za mb
            walk_at "tys"
            refine lyb.setR (i := (j : Int)) (j := j) q0m hwsb (fun c hc => List.mem_cons_of_mem _ (wG c hc)) List.mem_cons_self (by rw [ixN_lt (by omega) (by omega), Int.toNat_natCast]) (by omega) (by rw [sum_upd npb, if_pos rfl, mu0]; omega) fun Hc tc lyc hwsc => ?_
            have hwl2 : (ws.set j pb)[L]? = some wl := by rw [List.getElem?_set_ne (by omega)]; exact hwl
            have atL2 : atI ((ws.set j pb).map V.ref) (-1) = some (.ref wl) := ix_last2 (by rw [List.length_map, List.length_set]; exact hL) (by rw [List.getElem?_map, hwl2]; rfl)
            have rolc := rolb.tt tc (nm_cons (Ne.symm q0l) nm_nil)
            have t0c := t0b.step tc (fun b hb => by rw [List.mem_singleton.mp hb]; exact .inr (frG _ (LY.memR q0m)))
            have hhc := hhb.tt tc (hne _ (frG _ (LY.memR q0m)))
            have zc := tc.zh
            have sc := sum_set_le (fun a => if a = pb then (sortE (r0' ++ [b])).length else kap H3 a) pb ws j
            rw [sum_upd npb, if_pos rfl] at sc
            clear tc lyb hwsb rolb hhb t0b zb fb
            walk_at "tys"
            refine s_ixL (sq_of hwsc) (v := .ref wl) atL2 ?_
            walk_at "tyN"
            refine t_lst zc (by show 1 ≤ 100000; decide) fun pd Zd Hd nd td fd => ?_
            have zd := td.zh
            have ld : Li Zd Hd pd [x] := ⟨_, zd _ _ fd, .cons (Ik.tt td ivxa) .nil⟩
            have rod := rolc.tt td nm_nil
            refine t_cat zd rod ld (by rw [List.length_singleton]; omega) fun pf Ze He ne te lse => ?_
            have ze := te.zh
            have tce := td.step te mm_nil
            have lye := lyc.tt0 tce
            have hwse := tce.hp nm_nil hwsc
            have hhe := hhc.tt tce nm_nil
            have t0e := t0c.step tce mm_nil
            clear td te tce lyc hwsc rolc rod ld hhc t0c zc zd
            walk_at "tys"
            refine t_sortedEM ze (lse.li ze) ksB.one fun pg Hg ng tg mg2 lig => ?_
            obtain ⟨vsg, fg, prg⟩ := lig
            have npg : pg ∉ ws.set j pb := fun z => by
              rcases List.mem_or_eq_of_mem_set z with z | z
              · exact lye.not ng (LY.memW (List.mem_cons_of_mem _ (wG _ z)))
              · exact lye.not ng (LY.memW (by rw [z]; exact List.mem_cons_self))
            have lng : (sortE (s0 ++ [x])).length ≤ 8 := by rw [sortE_len, List.length_append]; exact ls
            have lyg := (lye.tt0 tg).addRow mg2 (lye.not ng) fg prg (fun e he => by
              rcases List.mem_append.mp (sortE_mem.mp he) with he | he
              · exact ps e he
              · rw [List.mem_singleton.mp he]; exact pj x (List.mem_append_right _ List.mem_cons_self)) _ (Nat.le_refl _)
            have zg := tg.zh
            have hwsg := tg.hp nm_nil hwse
            have hhg := hhe.tt tg nm_nil
            have t0g := t0e.step tg mm_nil
            have frg := t0e.nn ng
            clear tg lye hwse hhe t0e lse ze mg2
            walk_at "tys"
            refine lyg.setR (i := -1) (j := L) q0m hwsg (fun c hc => by
              rcases List.mem_or_eq_of_mem_set hc with hc | hc
              · exact List.mem_cons_of_mem _ (List.mem_cons_of_mem _ (wG c hc))
              · rw [hc]; exact List.mem_cons_of_mem _ List.mem_cons_self) List.mem_cons_self (by rw [List.length_set, hL, ixN_last]) (by rw [List.length_set]; omega) (by rw [sum_upd npg, if_pos rfl, mu0]; omega) fun Hi ti lyi _ => ?_
            exact ⟨w, r, _, _, _, _, _, _, _, _, Ze, rfl, ⟨w0, w8⟩, LB.of t0g ti (fun b hb => by rw [List.mem_singleton.mp hb]; exact frG _ (LY.memR q0m)) lyi (by omega) (fr_row (fr_row frG frb) frg), (hhg.tt ti (hne _ (frG _ (LY.memR q0m)))).mono (by omega)⟩
          · walk_at "tys"
            exact ⟨w, r, _, _, _, _, _, _, _, _, ZM, rfl, ⟨w0, w8⟩, LB.of2 t0M lyM (by omega) frG, hhM.mono (by omega)⟩
        · walk_at "tys"
          exact ⟨w, r, _, _, _, _, _, _, _, _, ZM, rfl, ⟨w0, w8⟩, LB.of2 t0M lyM (by omega) frG, hhM.mono (by omega)⟩
      · walk_at "tys"
        exact ⟨w, r, _, _, _, _, _, _, _, _, ZN, rfl, ⟨by omega, by omega⟩, LB.of t04 tN (fun b hb => absurd hb List.not_mem_nil) lyN (by omega) frG, hhN.mono (by omega)⟩
    rintro σ' H5 ⟨w', r', u1, u2, u3, u4, u5, u6, u7, u8, Z5, rfl, w1', ⟨qs', F', κ', μ', ly5, t5, fr5⟩, hh5⟩
    have nh5 : h ∉ D :: (qs' ++ F') := fun z => by
      obtain ⟨o, ho⟩ := hal
      rw [fr5 h z] at ho
      cases ho
    obtain ⟨c, Z6, H6, e6, t6, ls6, c1, c2, c3, c4⟩ := ly5.frq
    rw [← e6]
    clear e6
    have z6 := t6.zh
    have hh6 := hh5.tt t6 nh5
    have t06 := t5.step t6 fun b hb => .inr (fr5 b hb)
    walk_at "tys"
    rename_i p7 Z7 H7 n7 t7 f7
    have ls7 := ls6.tt t7
    refine q (.ref p7) ⟨w', min 130 (max 1 r'), c⟩ Z7 H7 (t06.step t7 mm_nil) ((hh6.tt t7 nm_nil).mono (by omega)) (Ik.three f7 (Ik.int _) (Ik.int _) ls7.is) w1'.1 w1'.2 (by show 1 ≤ min 130 (max 1 r'); omega) (by show min 130 (max 1 r') ≤ 130; omega) (by show c.length ≤ 1000; omega) (fun X hX => Nat.le_trans (c2 X hX) (by decide)) (Nat.le_trans c3 (by decide)) (fun e he => ?_)
    obtain ⟨x, hx, he⟩ := List.mem_flatten.mp he
    obtain ⟨X, hX, hx⟩ := List.mem_flatten.mp hx
    exact (c4 X hX x hx e he).1

/-! ### _law_whole -/
def sp_law_whole (K : PySem.W.Frag) : Sp := fun vs H Q _ => ∃ c : Int, vs = [.int c] ∧ Q (.bl true) H
theorem has_law_whole (z : Z K mg) (F : FunAt K mg "_law_whole" s_law_whole ["_law_got"])  : Has P w K mg base "_law_whole" 1 (sp_law_whole K) := by
  refine has_of F sc_law_whole (fun vs H Q E h => ?_) (fun f cdv A outer s H vs Q E hr h => ?_)
  · obtain ⟨c, rfl, _⟩ := h
    rfl
  · obtain ⟨c, rfl, q⟩ := h
    refine ⟨_, (pss_one (ps_ret (pe_and (pe_callB (id := "isinstance") (isiA (K := K) rfl) (by rfl) z.b_isinstance (by decide +kernel) (pa_cons (pv 0) (pa_cons (pe_bltn (v := .ty "int") (by rfl) z.b_int (by decide +kernel) rfl) pa_nil))) (pe_one (pe_not (pe_callB (id := "isinstance") (isiA (K := K) rfl) (by rfl) z.b_isinstance (by decide +kernel) (pa_cons (pv 0) (pa_cons (pe_bltn (v := .ty "bool") (by rfl) z.b_bool (by decide +kernel) rfl) pa_nil)))))))), ?_⟩
    walk_at "cx"
    walk_at "ss"
    exact q

/-! ### _law_is_yard -/
def sp_law_is_yard (K : PySem.W.Frag) : Sp := fun vs H Q _ => ∃ (v w : V) (y : Yard), vs = [v, w] ∧ Ik H v y ∧ Ik H w y ∧ Q (.bl true) H
theorem has_law_is_yard (z : Z K mg) (F : FunAt K mg "_law_is_yard" s_law_is_yard ["_law_got", "_law_due"]) (h_law_whole : Has P w K mg base "_law_whole" 1 (sp_law_whole K)) : Has P w K mg base "_law_is_yard" 2 (sp_law_is_yard K) := by
  refine has_of F sc_law_is_yard (fun vs H Q E h => ?_) (fun f cdv A outer s H vs Q E hr h => ?_)
  · obtain ⟨_, _, _, rfl, _⟩ := h
    rfl
  · obtain ⟨v, w, y, rfl, iv, iw, q⟩ := h
    refine ⟨_, (pss_cons (ps_if (PW.pt (pw_or (pt_not (pt_val (pe_callB (id := "isinstance") (isiA (K := K) rfl) (by rfl) z.b_isinstance (by decide +kernel) (pa_cons (pv 0) (pa_cons (pe_bltn (v := .ty "tuple") (by rfl) z.b_tuple (by decide +kernel) rfl) pa_nil))))) (pw_or1 (pt_cmpR (neA (K := K) rfl hr.units) (pe_callB (id := "len") (lenA (K := K) rfl) (by rfl) z.b_len (by decide +kernel) (pa_cons (pv 0) pa_nil)) pe_int (nomark _))))) (pss_one (ps_ret pe_bl)) pss_nil)
        (pss_one (ps_ret (pe_and (pe_cmpR (eqA (K := K) rfl hr.units) (pv 0) (pv 1) (nomark _)) (pe_and (pe_callH h_law_whole (by decide) hr rfl (pa_cons (pe_ix (ixA (K := K) rfl) (pv 0) pe_int (fun _ _ => rfl)) pa_nil)) (pe_one (pe_callH h_law_whole (by decide) hr rfl (pa_cons (pe_ix (ixA (K := K) rfl) (pv 0) pe_int (fun _ _ => rfl)) pa_nil)))))))), ?_⟩
    walk_at "cx"
    obtain ⟨a, b, rfl, ha, hb⟩ := iv.yard_of
    walk_at "ts"
    refine s_eqP iv.is iw.is (by decide) ?_
    walk_at "ts"
    refine ⟨_, rfl, ?_⟩
    walk_at "ts"
    refine ⟨_, rfl, ?_⟩
    walk_at "ts"
    exact q

/-! ### _law_far -/
abbrev sp_law_far (K : PySem.W.Frag) : Sp := spFar K
theorem has_law_far (z : Z K mg) (F : FunAt K mg "_law_far" s_law_far ["_law_hand", "_law_many"]) (h_law_draw : Has P w K mg base "_law_draw" 1 (sp_law_draw K)) : Has P w K mg base "_law_far" 2 (sp_law_far K) := by
  refine has_of F sc_law_far (fun vs H Q E h => ?_) (fun f cdv A outer s H vs Q E hr h => ?_)
  · obtain ⟨a, m, n, Z, rfl, _⟩ := h
    rfl
  · obtain ⟨a, m, n, Z, rfl, hh, h0, h1, q⟩ := h
    obtain ⟨d, k, c, cells, g1, g3, g4, g5, z1, z2, z3⟩ := id hh
    refine ⟨_, (pss_cons (ps_if (pt_cmpR op_gt (pe_ix (ixA (K := K) rfl) (pv 0) pe_int (fun _ _ => rfl)) pe_int (nomark _)) (pss_one (ps_ret (pe_callH h_law_draw (by decide) hr rfl (pa_cons (pv 0) (pa_cons (pv 1) pa_nil))))) pss_nil)
        (pss_cons (ps_set (i := 2) sc_law_far.nd rfl (by first | exact Or.inl rfl | exact Or.inr rfl) pe_int)
        (pss_cons (ps_for PassesOwn.never rfl (pi_range1 (by rfl) z.b_range (pa_cons pe_int pa_nil)) (pg_name (i := 3) sc_law_far.nd rfl (by first | exact Or.inl rfl | exact Or.inr rfl)) (pss_one (ps_set (i := 2) sc_law_far.nd rfl (by first | exact Or.inl rfl | exact Or.inr rfl) (pe_op op_plusA (pe_op op_multA (pv 2) (pe_op op_pow pe_int pe_int)) (pe_callH h_law_draw (by decide) hr rfl (pa_cons (pv 0) (pa_cons (pe_op op_pow pe_int pe_int) pa_nil)))))))
        (pss_one (ps_ret (pe_op op_mod (pv 2) (pv 1))))))), ?_⟩
    walk_at "cx"
    walk_at "ss"
    refine i_d (fun hd => ?_) (fun hd => ?_)
    · walk_at "ss"
      exact ⟨a, m, n, Z, rfl, hh.mono (by omega), h0, h1, q⟩
    · walk_at "ss"
      refine u_forR1 (fun i σ H' => ∃ x y, σ = [some (.ref a), some (.int m), some (.int x), y] ∧ ExM a H H' ∧ Hand K Z H' a (n + (7 - i))) (by decide) ⟨_, _, rfl, ExM.refl _, hh⟩ (fun i σ H' hi hw => ?_) (fun σ H' hw => ?_)
      · obtain ⟨x, y, rfl, e, hw⟩ := hw
        have hw' : Hand K Z H' a (n + (7 - (i + 1)) + 1) := hw.mono (by omega)
        walk_at "ss"
        refine ⟨a, _, _, _, rfl, hw', by decide, by decide, fun r H2 r0 r1 m2 hh2 => ?_⟩
        walk_at "ss"
        exact ⟨_, _, rfl, e.trans m2, hh2⟩
      · obtain ⟨x, y, rfl, e, hw⟩ := hw
        walk_at "ss"
        exact q _ _ (by omega) (by omega) e (hw.mono (by omega))

/-! ### _law_power -/
def sp_law_power (K : PySem.W.Frag) : Sp := fun vs H Q _ => ∃ n : Int, vs = [.int n] ∧ 0 ≤ n ∧ n ≤ 1000 ∧ Q (.int (2 ^ n.toNat)) H
theorem has_law_power (z : Z K mg) (F : FunAt K mg "_law_power" s_law_power ["_law_many"])  : Has P w K mg base "_law_power" 1 (sp_law_power K) := by
  refine has_of F sc_law_power (fun vs H Q E h => ?_) (fun f cdv A outer s H vs Q E hr h => ?_)
  · obtain ⟨n, rfl, _⟩ := h
    rfl
  · obtain ⟨n, rfl, h0, h1, q⟩ := h
    refine ⟨_, (pss_cons (ps_set (i := 1) sc_law_power.nd rfl (by first | exact Or.inl rfl | exact Or.inr rfl) pe_int)
        (pss_cons (ps_for PassesOwn.never rfl (pi_range1 (by rfl) z.b_range (pa_cons (pv 0) pa_nil)) (pg_name (i := 2) sc_law_power.nd rfl (by first | exact Or.inl rfl | exact Or.inr rfl)) (pss_one (ps_set (i := 1) sc_law_power.nd rfl (by first | exact Or.inl rfl | exact Or.inr rfl) (pe_op op_multA (pv 1) pe_int))))
        (pss_one (ps_ret (pv 1))))), ?_⟩
    walk_at "cx"
    walk_at "ss"
    refine u_forR1 (fun i σ H' => ∃ x, σ = [some (.int n), some (.int (2 ^ i)), x] ∧ H' = H) (by omega) ⟨_, rfl, rfl⟩ (fun i σ H' hi hh => ?_) (fun σ H' hh => ?_)
    · obtain ⟨x, rfl, rfl⟩ := hh
      walk_at "ss"
      exact ⟨_, by rw [Int.pow_succ]; rfl, rfl⟩
    · obtain ⟨x, rfl, rfl⟩ := hh
      walk_at "ss"
      exact q

/-! ### _law_key -/
abbrev sp_law_key (K : PySem.W.Frag) : Sp := spKey K
theorem has_law_key (z : Z K mg) (F : FunAt K mg "_law_key" s_law_key ["_law_hand"]) (h_law_far : Has P w K mg base "_law_far" 2 (sp_law_far K)) (h_law_power : Has P w K mg base "_law_power" 1 (sp_law_power K)) (h_law_draw : Has P w K mg base "_law_draw" 1 (sp_law_draw K)) : Has P w K mg base "_law_key" 3 (sp_law_key K) := by
  refine has_of F sc_law_key (fun vs H Q E h => ?_) (fun f cdv A outer s H vs Q E hr h => ?_)
  · obtain ⟨a, n, Z, rfl, _⟩ := h
    rfl
  · obtain ⟨a, n, Z, rfl, hh, q⟩ := h
    refine ⟨_, (pss_cons (ps_set (i := 1) sc_law_key.nd rfl (by first | exact Or.inl rfl | exact Or.inr rfl) (pe_callH h_law_draw (by decide) hr rfl (pa_cons (pv 0) (pa_cons pe_int pa_nil))))
        (pss_cons (ps_set (i := 2) sc_law_key.nd rfl (by first | exact Or.inl rfl | exact Or.inr rfl) (pe_callH h_law_draw (by decide) hr rfl (pa_cons (pv 0) (pa_cons (pe_ix (ixA (K := K) rfl) (pe_lst (pa_cons pe_int (pa_cons pe_int (pa_cons pe_int pa_nil)))) (pe_callH h_law_draw (by decide) hr rfl (pa_cons (pv 0) (pa_cons pe_int pa_nil))) (fun _ _ => rfl)) pa_nil))))
        (pss_cons (ps_if (pt_cmpR op_lt (pv 1) pe_int (nomark _)) (pss_one (ps_ret (pv 2))) pss_nil)
        (pss_cons (ps_if (pt_cmpR (eqA (K := K) rfl hr.units) (pv 1) pe_int (nomark _)) (pss_one (ps_ret (pe_op op_sub (pe_op op_sub (pe_op op_pow pe_int pe_int) pe_int) (pv 2)))) pss_nil)
        (pss_cons (ps_if (pt_cmpR (eqA (K := K) rfl hr.units) (pv 1) pe_int (nomark _)) (pss_one (ps_ret (pe_op op_plusA (pv 2) (pe_callH h_law_power (by decide) hr rfl (pa_cons (pe_op op_plusA pe_int (pe_callH h_law_draw (by decide) hr rfl (pa_cons (pv 0) (pa_cons pe_int pa_nil)))) pa_nil))))) pss_nil)
        (pss_cons (ps_if (pt_cmpR (eqA (K := K) rfl hr.units) (pv 1) pe_int (nomark _)) (pss_one (ps_ret (pe_op op_plusA (pe_op op_mod (pv 2) pe_int) (pe_op op_multA pe_int (pe_callH h_law_far (by decide) hr rfl (pa_cons (pv 0) (pa_cons (pe_op op_pow pe_int pe_int) pa_nil))))))) pss_nil)
        (pss_one (ps_ret (pe_callH h_law_far (by decide) hr rfl (pa_cons (pv 0) (pa_cons (pe_op op_pow pe_int pe_int) pa_nil))))))))))), ?_⟩
    walk_at "cx"
    walk_at "ss"
    refine ⟨a, 7, _, _, rfl, hh, by walk_at "od", by walk_at "od", fun wy H1 wy0 wy1 m1 hh1 => ?_⟩
    walk_at "ss"
    rename_i p1 H2 n2 e2 f2
    refine ⟨a, 3, _, _, rfl, hh1.ex e2, by walk_at "od", by walk_at "od", fun x H3 x0 x1 m3 hh3 => ?_⟩
    walk_at "ss"
    rename_i b hb
    have hb2 : 0 < b ∧ b ≤ 200 := by omega
    refine ⟨a, b, _, _, rfl, hh3, by walk_at "od", by walk_at "od", fun lo H4 lo0 lo1 m4 hh4 => ?_⟩
    have M : ExM a H H4 := ((m1.trans e2.toM).trans m3).trans m4
    walk_at "ss"
    refine i_d (fun hd => ?_) (fun hd => ?_)
    · walk_at "ss"
      exact q _ _ lo0 (by omega) M (hh4.mono (by omega))
    walk_at "ss"
    refine i_d (fun hd => ?_) (fun hd => ?_)
    · walk_at "ss"
      exact q _ _ (by omega) (by omega) M (hh4.mono (by omega))
    walk_at "ss"
    refine i_d (fun hd => ?_) (fun hd => ?_)
    · walk_at "ss"
      refine ⟨a, 52, _, _, rfl, hh4, by walk_at "od", by walk_at "od", fun y H5 y0 y1 m5 hh5 => ?_⟩
      walk_at "ss"
      refine ⟨_, rfl, by omega, by omega, ?_⟩
      have hp := two_pos (8 + y).toNat
      have hp2 := two_mono (show (8 + y).toNat ≤ 59 by omega)
      have e59 : (2 : Int) ^ 59 = 576460752303423488 := by decide
      walk_at "ss"
      exact q _ _ (by omega) (by omega) (M.trans m5) (hh5.mono (by omega))
    walk_at "ss"
    refine i_d (fun hd => ?_) (fun hd => ?_)
    · walk_at "ss"
      refine ⟨a, _, _, _, rfl, hh4.mono (m := n + 7) (by omega), by decide, by decide, fun y H5 y0 y1 m5 hh5 => ?_⟩
      walk_at "ss"
      exact q _ _ (by omega) (by omega) (M.trans m5) (hh5.mono (by omega))
    · walk_at "ss"
      refine ⟨a, _, _, _, rfl, hh4.mono (m := n + 7) (by omega), by decide, by decide, fun y H5 y0 y1 m5 hh5 => ?_⟩
      walk_at "ss"
      exact q _ _ (by omega) (by omega) (M.trans m5) (hh5.mono (by omega))

/-! ### _law_keys -/
abbrev sp_law_keys (K : PySem.W.Frag) : Sp := spKeys K
theorem has_law_keys (z : Z K mg) (F : FunAt K mg "_law_keys" s_law_keys ["_law_hand", "_law_many"]) (h_law_key : Has P w K mg base "_law_key" 3 (sp_law_key K)) : Has P w K mg base "_law_keys" 4 (sp_law_keys K) := by
  refine has_of F sc_law_keys (fun vs H Q E h => ?_) (fun f cdv A outer s H vs Q E hr h => ?_)
  · obtain ⟨h, many, n, Z, rfl, _⟩ := h
    rfl
  · obtain ⟨h, many, n, Z, rfl, m0, m1, hh, q⟩ := h
    refine ⟨_, (pss_cons (ps_set (i := 2) sc_law_keys.nd rfl (by first | exact Or.inl rfl | exact Or.inr rfl) (pe_lst pa_nil))
        (pss_cons (ps_for PassesOwn.never rfl (pi_range1 (by rfl) z.b_range (pa_cons (pv 1) pa_nil)) (pg_name (i := 3) sc_law_keys.nd rfl (by first | exact Or.inl rfl | exact Or.inr rfl)) (pss_cons (ps_set (i := 4) sc_law_keys.nd rfl (by first | exact Or.inl rfl | exact Or.inr rfl) (pe_callH h_law_key (by decide) hr rfl (pa_cons (pv 0) pa_nil)))
        (pss_cons (ps_while PassesOwn.never (pt_cmpR (inA (K := K) rfl) (pv 4) (pv 2) (by rfl)) (pss_one (ps_set (i := 4) sc_law_keys.nd rfl (by first | exact Or.inl rfl | exact Or.inr rfl) (pe_op op_mod (pe_op op_plusA (pv 4) pe_int) (pe_op op_pow pe_int pe_int)))))
        (pss_one (ps_expr (pe_bm PySem.F.plainAttrs_list PySem.F.slot_list_append PySem.F.type_list_append mt_append (pv 2) (pa_cons (pv 4) pa_nil)))))))
        (pss_one (ps_ret (pv 2))))), ?_⟩
    walk_at "cx"
    walk_at "ss"
    rename_i p1 H1 n1 e1 f1
    have np : p1 ≠ h := by walk_at "ne"
    refine u_forR1 (fun i σ H' => ∃ (x1 x2 : Option V) (ks : List Int), σ = [some (.ref h), some (.int many), some (.ref p1), x1, x2] ∧ ExM h H H' ∧ Hand K Z H' h (n + 2000 - 12 * i) ∧ H' p1 = some (.lst (ks.map V.int)) ∧ ks.length = i ∧ ks.Nodup ∧ ∀ k ∈ ks, 0 ≤ k ∧ k < 1152921504606846976) (by omega)
      ⟨_, _, [], rfl, e1.toM, hh.ex e1, f1, rfl, List.nodup_nil, fun _ h => nomatch h⟩ (fun i σ H' hi hh => ?_) (fun σ H' hh => ?_)
    · obtain ⟨x1, x2, ks, rfl, m5, hh5, f5, l5, d5, b5⟩ := hh
      walk_at "ss"
      refine ⟨h, _, _, rfl, hh5.mono (m := n + 2000 - 12 * (i + 1) + 12) (by omega), fun x H6 x0 x1 m6 hh6 => ?_⟩
      have f6 : H6 p1 = some (.lst (ks.map V.int)) := m6 _ _ np f5
      walk_at "ss"
      refine u_while (fun m σ H' => ∃ (x : Int) (V : List Int), σ = [some (.ref h), some (.int many), some (.ref p1), some (.int (i : Int)), some (.int x)] ∧ H' = H6 ∧ 0 ≤ x ∧ x < 1152921504606846976 ∧ V.Nodup ∧ (∀ y ∈ V, y ∈ ks) ∧ (∀ y ∈ V, ∃ e : Nat, 1 ≤ e ∧ e ≤ V.length ∧ (y + e) % 1152921504606846976 = x) ∧ m = ks.length - V.length) ks.length
        ⟨x, [], rfl, rfl, x0, x1, List.nodup_nil, fun _ h => (nomatch h), fun _ h => (nomatch h), rfl⟩ (fun m σ H' hh => ?_)
      obtain ⟨x, V, rfl, rfl, x0, x1, dV, sV, tV, rfl⟩ := hh
      walk_at "ss"
      have xV : x ∉ V := fun z => by
        obtain ⟨e, e1, e2, e3⟩ := tV x z
        have := nodup_le dV sV
        omega
      refine i_d (fun hd => ?_) (fun hd => ?_)
      · refine w_body ?_
        have le := nodup_le (V := x :: V) (List.nodup_cons.mpr ⟨xV, dV⟩) (fun y hy => by
          rcases List.mem_cons.mp hy with rfl | hy
          · exact hd
          · exact sV y hy)
        rw [List.length_cons] at le
        walk_at "ss"
        rename_i u0 u1
        refine ⟨ks.length - (x :: V).length, by rw [List.length_cons]; omega, (x + 1) % 1152921504606846976, x :: V, rfl, rfl, u0, u1, List.nodup_cons.mpr ⟨xV, dV⟩, fun y hy => ?_, fun y hy => ?_, rfl⟩
        · rcases List.mem_cons.mp hy with rfl | hy
          · exact hd
          · exact sV y hy
        · rcases List.mem_cons.mp hy with rfl | hy
          · exact ⟨1, by omega, by rw [List.length_cons]; omega, rfl⟩
          · obtain ⟨e, e1, e2, e3⟩ := tV y hy
            exact ⟨e + 1, by omega, by rw [List.length_cons]; omega, by omega⟩
      · walk_at "ss"
        refine n_app f6 (by rw [List.length_map]; omega) fun H7 m7 f7 => ?_
        walk_at "ss"
        refine ⟨_, _, ks ++ [x], rfl, ?_, hh6.mut m7 hh n1, by rw [f7, List.map_append]; rfl, by rw [List.length_append, l5]; rfl, ?_, fun m hm => ?_⟩
        · intro b o nb g
          exact m7 b o (ne_of_none g n1) (m6 b o nb (m5 b o nb g))
        · rw [List.nodup_append]
          refine ⟨d5, List.nodup_cons.mpr ⟨List.not_mem_nil, List.nodup_nil⟩, fun a ha b hb z => ?_⟩
          rw [List.mem_singleton.mp hb] at z
          exact hd (z ▸ ha)
        · rcases List.mem_append.mp hm with hm | hm
          · exact b5 m hm
          · rw [List.mem_singleton.mp hm]
            exact ⟨x0, x1⟩
    · obtain ⟨x1, x2, ks, rfl, m5, hh5, f5, l5, d5, b5⟩ := hh
      walk_at "ss"
      exact q p1 ks _ n1 m5 (hh5.mono (by omega)) f5 l5 d5 b5

/-! ### _law_thing -/
abbrev sp_law_thing (K : PySem.W.Frag) : Sp := spThing K
theorem has_law_thing (z : Z K mg) (F : FunAt K mg "_law_thing" s_law_thing ["_law_hand"]) (h_law_draw : Has P w K mg base "_law_draw" 1 (sp_law_draw K)) : Has P w K mg base "_law_thing" 2 (sp_law_thing K) := by
  refine has_of F sc_law_thing (fun vs H Q E h => ?_) (fun f cdv A outer s H vs Q E hr h => ?_)
  · obtain ⟨a, n, Z, rfl, _⟩ := h
    rfl
  · obtain ⟨a, n, Z, rfl, hh, q⟩ := h
    refine ⟨_, (pss_cons (ps_set (i := 1) sc_law_thing.nd rfl (by first | exact Or.inl rfl | exact Or.inr rfl) pe_str)
        (pss_one (ps_ret (pe_join pe_str (pe_lc (own := [("_law_k", 2)]) (g := gName 2) (tt := tYes) rfl sc_law_thing.nd (pi_range1 (by rfl) z.b_range (pa_cons (pe_op op_plusA pe_int (pe_callH h_law_draw (by decide) hr rfl (pa_cons (pv 0) (pa_cons pe_int pa_nil)))) pa_nil)) (blkOk_by (own := [("_law_k", 2)]) (N := ["_law_hand", "_law_letters", "_law_k"]) (sc := defScope s_law_thing) (by decide +kernel)) (fun _ _ _ _ _ => (pg_name (i := 2) sc_law_thing.nd rfl (by first | exact Or.inl rfl | exact Or.inr rfl))) (fun _ _ _ _ _ => pts_nil) (fun _ _ _ _ _ => (pe_ix (ixA (K := K) rfl) (pv 1) (pe_callH h_law_draw (by decide) hr rfl (pa_cons (pv 0) (pa_cons pe_int pa_nil))) (fun _ _ => rfl)))))))), ?_⟩
    walk_at "cx"
    walk_at "ss"
    refine ⟨⟨_, rfl⟩, ?_⟩
    walk_at "ss"
    refine ⟨a, 8, n + 9, _, rfl, hh.mono (by omega), by decide, by decide, fun m H1 m0 m1 e1 hh1 => ?_⟩
    walk_at "ss"
    refine u_lcR1HR (fun (x : Str) y _ => y = .str x ∧ (PyData.strOk x = true ∧ ∀ c ∈ TL.tl x, c ∈ lettersS.cps.toList) ∧ x.length = 1) n 1 hh1 (by omega) (by omega) (fun i hi D H2 R' m2 nD oD hh2 A hA => ?_) (fun D ys l H2 nD m2 hh2 f2 hl hp => ?_)
    · walk_at "ss"
      refine ⟨a, 26, R', _, rfl, hh2, by decide, by decide, fun r H3 r0 r1 e3 hh3 => ?_⟩
      walk_at "ss"
      refine s_ixStr ⟨by omega, by show r < 26; omega⟩ (by decide) fun c hc => ?_
      refine hA ⟨#[c]⟩ _ H3 e3 hh3 fun _ _ _ => ⟨rfl, ⟨?_, fun c' hc' => ?_⟩, rfl⟩
      · refine strOk_iff.mpr fun c' hc' => ?_
        rw [List.mem_singleton.mp hc']
        exact strOk_iff.mp (by decide +kernel) c hc
      · rw [List.mem_singleton.mp hc']
        exact hc
    · have pr := hp H2 hh2.z fun b o _ _ s => s
      have pr : ys = l.map V.str ∧ (∀ x ∈ l, PyData.strOk x = true ∧ ∀ c ∈ TL.tl x, c ∈ lettersS.cps.toList) ∧ (l.map (·.length)).sum = l.length := by
        clear hl hp f2
        induction pr with
        | nil => exact ⟨rfl, fun _ h => absurd h List.not_mem_nil, rfl⟩
        | cons a t ih =>
          obtain ⟨i1, i2, i3⟩ := ih
          obtain ⟨a1, a2, a3⟩ := a
          refine ⟨by rw [a1, i1]; rfl, fun x hx => ?_, ?_⟩
          · rcases List.mem_cons.mp hx with e | hx
            · rw [e]; exact a2
            · exact i2 x hx
          · rw [List.map_cons, List.sum_cons, i3, a3, List.length_cons]
            omega
      obtain ⟨p1, p2, p3⟩ := pr
      rw [p1] at f2
      refine s_joinL f2 (by rw [p3]; show l.length + l.length * 0 ≤ _; omega) ?_
      walk_at "ss"
      refine q ⟨_, join_ok (by decide +kernel) fun x hx => (p2 x hx).1⟩ H2 ?_ (e1.trans m2) hh2
      have jl : (Txt.join "" l).length = l.length := by
        show (TL.tl (Txt.join "" l)).length = _
        rw [TL.join_eq, TL.tl_join]
        refine joinL_len.trans ?_
        rw [List.map_map, ← p3]
        rfl
      have jm : ∀ c ∈ TL.tl (Txt.join "" l), c ∈ lettersS.cps.toList := fun c hc => by
        rcases join_mem hc with g | ⟨x, hx, g⟩
        · exact absurd g List.not_mem_nil
        · exact (p2 x hx).2 c g
      unfold nameB
      rw [Bool.and_eq_true]
      exact ⟨decide_eq_true (by rw [jl]; omega), List.all_eq_true.mpr fun c hc => decide_eq_true (jm c hc)⟩

/-! ### _law_near -/
def sp_law_near (K : PySem.W.Frag) : Sp := fun vs H Q _ => ∃ (h : Addr) (many near : Int) (n : Nat) (Z : Hp), vs = [.ref h, .int many, .int near] ∧ 0 ≤ many ∧ many ≤ 160 ∧ 1 ≤ near ∧ near ≤ 16 ∧ Hand K Z H h (n + 5000) ∧
  ∀ (p : Addr) (es : TR.Row) Z' H', T [h] Z H Z' H' → Hand K Z' H' h n → Ls Z' p es → (es.length : Int) = many → Keys1 es → (∀ e ∈ es, 0 ≤ e.1 ∧ e.1 < 1152921504606846976) → (∀ e ∈ es, nameB e.2.1 = true) → Q (.ref p) H'
theorem has_law_near (z : Z K mg) (F : FunAt K mg "_law_near" s_law_near ["_law_hand", "_law_many", "_law_near_here"]) (h_law_thing : Has P w K mg base "_law_thing" 2 (sp_law_thing K)) (h_law_key : Has P w K mg base "_law_key" 3 (sp_law_key K)) (h_law_draw : Has P w K mg base "_law_draw" 1 (sp_law_draw K)) : Has P w K mg base "_law_near" 4 (sp_law_near K) := by
  refine has_of F sc_law_near (fun vs H Q E h => ?_) (fun f cdv A outer s H vs Q E hr h => ?_)
  · obtain ⟨_, _, _, _, _, rfl, _⟩ := h
    rfl
  · obtain ⟨h, many, near, n, Z, rfl, m0, m1, e0, e1, hh, q⟩ := h
    refine ⟨_, (pss_cons (ps_set (i := 3) sc_law_near.nd rfl (by first | exact Or.inl rfl | exact Or.inr rfl) (pe_lst pa_nil))
        (pss_cons (ps_for PassesOwn.never rfl (pi_range1 (by rfl) z.b_range (pa_cons (pv 1) pa_nil)) (pg_name (i := 4) sc_law_near.nd rfl (by first | exact Or.inl rfl | exact Or.inr rfl)) (pss_cons (ps_set (i := 5) sc_law_near.nd rfl (by first | exact Or.inl rfl | exact Or.inr rfl) (pe_op op_plusA (pe_op op_multA (pe_op op_fdivW (pe_callH h_law_key (by decide) hr rfl (pa_cons (pv 0) pa_nil)) pe_int) pe_int) (pe_callH h_law_draw (by decide) hr rfl (pa_cons (pv 0) (pa_cons (pv 2) pa_nil)))))
        (pss_cons (ps_while PassesOwn.never (pt_cmpR (inA (K := K) rfl) (pv 5) (pv 3) (by rfl)) (pss_one (ps_set (i := 5) sc_law_near.nd rfl (by first | exact Or.inl rfl | exact Or.inr rfl) (pe_op op_mod (pe_op op_plusA (pv 5) pe_int) (pe_op op_pow pe_int pe_int)))))
        (pss_one (ps_expr (pe_bm PySem.F.plainAttrs_list PySem.F.slot_list_append PySem.F.type_list_append mt_append (pv 3) (pa_cons (pv 5) pa_nil)))))))
        (pss_one (ps_ret (pe_lc (own := [("_law_key_here", 5)]) (g := gName 5) (tt := tYes) rfl sc_law_near.nd (piL (K := K) rfl (pv 3)) (blkOk_by (own := [("_law_key_here", 5)]) (N := ["_law_hand", "_law_many", "_law_near_here", "_law_keys_here", "_law_k", "_law_key_here"]) (sc := defScope s_law_near) (by decide +kernel)) (fun _ _ _ _ _ => (pg_name (i := 5) sc_law_near.nd rfl (by first | exact Or.inl rfl | exact Or.inr rfl))) (fun _ _ _ _ _ => pts_nil) (fun _ _ _ _ _ => (pe_tup (pa_cons (pv 5) (pa_cons (pe_callH h_law_thing (by decide) hr rfl (pa_cons (pv 0) pa_nil)) pa_nil))))))))), ?_⟩
    have z0 : Ex Z H := hh.z
    walk_at "cx"
    walk_at "tys"
    rename_i D Z1 H1 n1 t1 m1' f1
    have lm1 : Lm Z1 H1 D ([] : List Int) := Lm.of0 m1' t1.zh f1
    have hh1 : Hand K Z1 H1 h (n + 5000) := by walk_at "hd"
    refine u_forR1 (fun i σ H' => ∃ (x1 x2 : Option V) (Z' : Hp) (ks : List Int), σ = [some (.ref h), some (.int many), some (.int near), some (.ref D), x1, x2] ∧ T [h, D] Z1 H1 Z' H' ∧ Hand K Z' H' h (n + 5000 - 13 * i) ∧ Lm Z' H' D ks ∧ ks.length = i ∧ ks.Nodup ∧ ∀ k ∈ ks, 0 ≤ k ∧ k < 1152921504606846976) (by omega)
      ⟨_, _, Z1, [], rfl, T.refl t1.zh, hh1, lm1, rfl, List.nodup_nil, fun _ h => nomatch h⟩ (fun i σ H' hi hh => ?_) (fun σ H' hh => ?_)
    · obtain ⟨x1, x2, Z2, ks, rfl, t2, hh2, lm2, l2, d2, b2⟩ := hh
      walk_at "tys"
      rename_i r6 Z6 H6 r60 r61 t6 hh6
      rename_i r5 Z5 H5 r50 r51 t5 hh5
      have lm6 : Lm Z6 H6 D ks := by walk_at "la"
      have hh6' : Hand K Z6 H6 h (n + 5000 - 13 * (i + 1)) := hh6.mono (by omega)
      have t6' : T [h, D] Z1 H1 Z6 H6 := by walk_at "tt"
      refine u_while (fun m σ H' => ∃ (x : Int) (V : List Int), σ = [some (.ref h), some (.int many), some (.int near), some (.ref D), some (.int (i : Int)), some (.int x)] ∧ H' = H6 ∧ 0 ≤ x ∧ x < 1152921504606846976 ∧ V.Nodup ∧ (∀ y ∈ V, y ∈ ks) ∧ (∀ y ∈ V, ∃ e : Nat, 1 ≤ e ∧ e ≤ V.length ∧ (y + 16 * e) % 1152921504606846976 = x) ∧ m = ks.length - V.length) ks.length
        ⟨r5 / 16 * 16 + r6, [], rfl, rfl, by omega, by omega, List.nodup_nil, fun _ h => (nomatch h), fun _ h => (nomatch h), rfl⟩ (fun m σ H' hh => ?_)
      obtain ⟨x, V, rfl, rfl, x0, x1, dV, sV, tV, rfl⟩ := hh
      have f6 := lm6.ints
      walk_at "tys"
      have xV : x ∉ V := fun z => by
        obtain ⟨e, e1, e2, e3⟩ := tV x z
        have := nodup_le dV sV
        omega
      refine i_d (fun hd => ?_) (fun hd => ?_)
      · refine w_body ?_
        have le := nodup_le (V := x :: V) (List.nodup_cons.mpr ⟨xV, dV⟩) (fun y hy => by
          rcases List.mem_cons.mp hy with rfl | hy
          · exact hd
          · exact sV y hy)
        rw [List.length_cons] at le
        walk_at "tys"
        rename_i u0 u1
        refine ⟨ks.length - (x :: V).length, by rw [List.length_cons]; omega, (x + 16) % 1152921504606846976, x :: V, rfl, rfl, u0, u1, List.nodup_cons.mpr ⟨xV, dV⟩, fun y hy => ?_, fun y hy => ?_, rfl⟩
        · rcases List.mem_cons.mp hy with rfl | hy
          · exact hd
          · exact sV y hy
        · rcases List.mem_cons.mp hy with rfl | hy
          · exact ⟨1, by omega, by rw [List.length_cons]; omega, rfl⟩
          · obtain ⟨e, e1, e2, e3⟩ := tV y hy
            exact ⟨e + 1, by omega, by rw [List.length_cons]; omega, by omega⟩
      · walk_at "tys"
        rename_i Z7 H7 t7 lm7
        refine ⟨_, _, Z7, ks ++ [x], rfl, by walk_at "tt", Hand.tt t7 (nm_cons (hand_ne0 n1 hh).symm nm_nil) hh6', lm7, by rw [List.length_append, l2]; rfl, ?_, fun m hm => ?_⟩
        · rw [List.nodup_append]
          refine ⟨d2, List.nodup_cons.mpr ⟨List.not_mem_nil, List.nodup_nil⟩, fun a ha b hb z => ?_⟩
          rw [List.mem_singleton.mp hb] at z
          exact hd (z ▸ ha)
        · rcases List.mem_append.mp hm with hm | hm
          · exact b2 m hm
          · rw [List.mem_singleton.mp hm]
            exact ⟨x0, x1⟩
    · obtain ⟨x1, x2, Z2, ks, rfl, t2, hh2, lm2, l2, d2, b2⟩ := hh
      obtain ⟨Z3, H3, e3, t3, ls3⟩ := lm2.frq
      rw [← e3]
      clear e3
      have hh3 : Hand K Z3 H3 h (n + 5000 - 13 * many.toNat) := by walk_at "hd"
      walk_at "tys"
      refine c_drawLK (β := Ent) (fun e => nameB e.2.1 = true) Prod.fst (fun k : Int => k) (n + 1000) 10 hh3 ls3.is (by omega) (by omega) (fun i v k hk ik Z4 H4 R' t4 hh4 A hA => ?_) (fun D4 es Z4 H4 n4 t4 hh4 ls4 ek en => ?_)
      · obtain rfl := ik.int_of
        try dsimp only
        repeat ((fail_if_success (with_reducible apply thingT)); walk_at "ty")
        refine thingN (by walk_at "hd") (by omega) fun w Z8 H8 nb t8 hh8 => ?_
        walk_at "tys"
        rename_i p9 Z9 H9 n9 t9 f9
        exact hA (k, w) _ Z9 H9 (by walk_at "tt") (by walk_at "hd") (Ik.pair f9 (Ik.int _) (Ik.tx _)) rfl nb
      · walk_at "tys"
        rw [List.map_id'] at ek
        refine q _ es Z4 H4 (by walk_at "tt") (hh4.mono (by omega)) ls4 ?_ (by show (es.map Prod.fst).Nodup; rw [ek]; exact d2) (fun e he => b2 _ (ek ▸ List.mem_map_of_mem he)) en
        have := congrArg List.length ek
        rw [List.length_map] at this
        omega

/-! ### _law_open -/
abbrev sp_law_open (K : PySem.W.Frag) : Sp := spOpen K
theorem has_law_open (z : Z K mg) (F : FunAt K mg "_law_open" s_law_open ["_law_script", "_law_place"])  : Has P w K mg base "_law_open" 1 (sp_law_open K) := by
  refine has_of F sc_law_open (fun vs H Q E h => ?_) (fun f cdv A outer s H vs Q E hr h => ?_)
  · obtain ⟨a, ns, x, rfl, _⟩ := h
    rfl
  · obtain ⟨a, ns, x, rfl, hS, h0, h1, q⟩ := h
    refine ⟨_, (pss_cons (ps_setLc (i := 2) (own := [("_law_cell", 5)]) (g := gName 5) (tt := tYes) rfl sc_law_open.nd rfl rfl (sw_true rfl rfl rfl (by decide +kernel)) (piL (K := K) rfl (pe_slice (slA (K := K) rfl) (pv 0) po_none (po_some pe_int))) (blkOk_by (own := [("_law_cell", 5)]) (N := ["_law_script", "_law_place", "_law_cells", "_law_at", "_law_digits", "_law_cell"]) (sc := defScope s_law_open) (by decide +kernel)) (fun _ _ _ _ _ => (pg_name (i := 5) sc_law_open.nd rfl (by first | exact Or.inl rfl | exact Or.inr rfl))) (fun _ _ _ _ _ => pts_nil) (fun _ _ _ _ _ => (pe_callB (id := "abs") call_absA (by rfl) z.b_abs (by decide +kernel) (pa_cons (pv 5) pa_nil))))
        (Evl.pss_cut (ps_if (pt_cmpR (eqA (K := K) rfl hr.units) (pv 2) (pe_lst pa_nil) (nomark _)) (pss_one (ps_set (i := 2) sc_law_open.nd rfl (by first | exact Or.inl rfl | exact Or.inr rfl) (pe_lst (pa_cons pe_int pa_nil)))) pss_nil)
        (pss_cons (ps_set (i := 3) sc_law_open.nd rfl (by first | exact Or.inl rfl | exact Or.inr rfl) (pe_op op_mod (pv 1) (pe_callB (id := "len") (lenA (K := K) rfl) (by rfl) z.b_len (by decide +kernel) (pa_cons (pv 2) pa_nil))))
        (pss_cons (ps_set (i := 4) sc_law_open.nd rfl (by first | exact Or.inl rfl | exact Or.inr rfl) pe_int)
        (Evl.pss_cut (ps_if (PW.pt (pw_and (pt_cmpR op_ge (pe_ix (ixA (K := K) rfl) (pv 2) (pv 3) (fun _ _ => rfl)) (pe_op op_pow pe_int pe_int) (nomark _)) (pw_and1 (pt_cmpR op_lt (pv 1) (pe_callB (id := "len") (lenA (K := K) rfl) (by rfl) z.b_len (by decide +kernel) (pa_cons (pv 2) pa_nil)) (nomark _))))) (pss_one (ps_set (i := 4) sc_law_open.nd rfl (by first | exact Or.inl rfl | exact Or.inr rfl) (pe_ix (ixA (K := K) rfl) (pv 2) (pv 3) (fun _ _ => rfl)))) pss_nil)
        (pss_one (ps_ret (pe_lst (pa_cons (pv 4) (pa_cons (pe_op op_plusA pe_int (pe_op op_multA pe_int (pv 1))) (pa_cons (pe_op op_plusA (pe_slice (slA (K := K) rfl) (pv 2) (po_some (pv 3)) po_none) (pe_slice (slA (K := K) rfl) (pv 2) po_none (po_some (pv 3)))) pa_nil))))))))))), ?_⟩
    walk_at "cx"
    walk_at "ss"
    rename_i p1 H1 n1 e1 f1
    obtain ⟨cs, hc, hl⟩ : ∃ cs : List Int, cutV (ns.map V.int) none (some 63) = cs.map V.int ∧ cs.length ≤ 63 := ⟨cutI ns none (some 63), cutV_ints _ _ _, by
      rw [cutI_to _ (by decide), List.length_take]
      exact Nat.min_le_left _ _⟩
    rw [hc] at f1
    refine u_mapL V.int cs (fun i => V.int (if i < 0 then -i else i)) (sq_of f1) (by omega) (fun i hi H2 e2 A ha => ?_) (fun D H2 n2 e2 f2 => ?_)
    · walk_at "ss"
      exact ha _ (Ex.refl _)
    · obtain ⟨xs, hx, hxl⟩ : ∃ xs : List Int, cs.map (fun i => V.int (if i < 0 then -i else i)) = xs.map V.int ∧ xs.length ≤ 63 := ⟨cs.map fun i => if i < 0 then -i else i, by rw [List.map_map]; rfl, by rw [List.length_map]; exact hl⟩
      rw [hx] at f2
      walk_at "ss"
      refine s_cut (fun σ' H' => ∃ (D : Addr) (ys : List Int), σ' = [some (.ref a), some (.int x), some (.ref D), none, none, none] ∧ Ex H H' ∧ H' D = some (.lst (ys.map V.int)) ∧ 0 < ys.length ∧ ys.length ≤ 63) ?_ ?_
      · walk_at "ss"
        refine i_d (fun hd => ?_) (fun hd => ?_)
        · walk_at "ss"
          rename_i G n3 e3 f3
          exact ⟨_, [0], rfl, by walk_at "ex", f3, by decide, by decide⟩
        · walk_at "ss"
          exact ⟨_, xs, rfl, by walk_at "ex", by walk_at "hp", List.length_pos_iff.mpr hd, hxl⟩
      · rintro σ' H3 ⟨D2, ys, rfl, e3, f3, hy, hy2⟩
        walk_at "ss"
        rename_i b1 b2
        refine s_cut (fun σ' H' => ∃ (d : Int), σ' = [some (.ref a), some (.int x), some (.ref D2), some (.int (x % ys.length)), some (.int d), none] ∧ H' = H3) ?_ ?_
        · walk_at "ss"
          refine i_d (fun hd => ?_) (fun hd => ?_)
          · walk_at "ss"
            refine i_d (fun hd => ?_) (fun hd => ?_)
            · walk_at "ss"
              exact ⟨_, rfl, rfl⟩
            · walk_at "ss"
              exact ⟨_, rfl, rfl⟩
          · walk_at "ss"
            exact ⟨_, rfl, rfl⟩
        · rintro σ' H4 ⟨d, rfl, rfl⟩
          walk_at "ss"
          rename_i p2 G2 n4 e4 f4 p3 G3 n5 e5 f5
          rw [cutV_ints, cutI_from _ b1] at f4
          rw [cutV_ints, cutI_to _ b1] at f5
          refine n_cat (by walk_at "hp") f5 ?_ fun p4 G4 n6 e6 f6 => ?_
          · rw [List.length_map, List.length_map, List.length_drop, List.length_take]
            omega
          · walk_at "ss"
            rename_i p5 G5 n7 e7 f7
            rw [← List.map_append] at f6
            have n0 : H p5 = none := Ex.back (by walk_at "ex") n7
            have n4' : H p4 = none := Ex.back (by walk_at "ex") n6
            exact q p5 p4 d _ G5 n0 n4' (fun z => by rw [z, f6] at n7; cases n7) (by walk_at "ex") f7 (e7 _ _ f6) (by rw [List.length_append, List.length_drop, List.length_take]; omega)

/-! ### law -/
def sp_law (K : PySem.W.Frag) : Sp := fun vs H Q _ => ∃ (a : Addr) (ns : List Int), vs = [.ref a] ∧ SqL K H a (ns.map V.int) ∧ ns.length ≤ 63 ∧ ∀ H', Q (.bl true) H'
def oddT : Tx := ⟨"odd", by decide +kernel⟩
theorem ok_law {f : Addr} {fd : FuncData} (z : Z K mg) (F : Fun K "law" "law" s_law f fd) (h_law_places : Has P w K mg base "_law_places" 1 (sp_law_places K)) (h_law_looked : Has P w K mg base "_law_looked" 5 (sp_law_looked K)) (h_law_spoilt : Has P w K mg base "_law_spoilt" 3 (sp_law_spoilt K)) (h_is_clean : Has P w K mg base "is_clean" 4 (sp_is_clean K)) (h_law_is_yard : Has P w K mg base "_law_is_yard" 2 (sp_law_is_yard K)) (h_yard_of : Has P w K mg base "yard_of" 3 (sp_yard_of K)) (h_law_clean : Has P w K mg base "_law_clean" 2 (sp_law_clean K)) (h_law_keys : Has P w K mg base "_law_keys" 4 (sp_law_keys K)) (h_law_thing : Has P w K mg base "_law_thing" 2 (sp_law_thing K)) (h_law_near : Has P w K mg base "_law_near" 4 (sp_law_near K)) (h_law_draw : Has P w K mg base "_law_draw" 1 (sp_law_draw K)) (h_law_open : Has P w K mg base "_law_open" 1 (sp_law_open K)) : FnOk P w K mg base CX0 6 f fd ["_law_script"] (sp_law K) := by
  refine fnok_of F sc_law (fun vs H Q E h => ?_) (fun cdv A outer s H vs Q E hr h => ?_)
  · obtain ⟨a, ns, rfl, _⟩ := h
    rfl
  · obtain ⟨a, ns, rfl, hS, hl, q⟩ := h
    refine ⟨_, (pss_cons (ps_for PassesOwn.never rfl (piL (K := K) rfl (pe_callH h_law_places (by decide) hr rfl (pa_cons (pv 0) (pa_cons pe_int (pa_cons pe_int pa_nil))))) (pg_name (i := 1) sc_law.nd rfl (by first | exact Or.inl rfl | exact Or.inr rfl)) (pss_cons (ps_set (i := 2) sc_law.nd rfl (by first | exact Or.inl rfl | exact Or.inr rfl) (pe_callH h_law_open (by decide) hr rfl (pa_cons (pv 0) (pa_cons (pv 1) pa_nil))))
        (pss_cons (ps_set (i := 3) sc_law.nd rfl (by first | exact Or.inl rfl | exact Or.inr rfl) (pe_callH h_law_draw (by decide) hr rfl (pa_cons (pv 2) (pa_cons pe_int pa_nil))))
        (pss_cons (ps_set (i := 4) sc_law.nd rfl (by first | exact Or.inl rfl | exact Or.inr rfl) (pe_op op_plusA pe_int (pe_callH h_law_draw (by decide) hr rfl (pa_cons (pv 2) (pa_cons (pe_ix (ixA (K := K) rfl) (pe_lst (pa_cons pe_int (pa_cons pe_int (pa_cons pe_int pa_nil)))) (pe_callH h_law_draw (by decide) hr rfl (pa_cons (pv 2) (pa_cons pe_int pa_nil))) (fun _ _ => rfl)) pa_nil)))))
        (pss_cons (ps_set (i := 5) sc_law.nd rfl (by first | exact Or.inl rfl | exact Or.inr rfl) (pe_op op_plusA pe_int (pe_callH h_law_draw (by decide) hr rfl (pa_cons (pv 2) (pa_cons pe_int pa_nil)))))
        (pss_cons (ps_set (i := 6) sc_law.nd rfl (by first | exact Or.inl rfl | exact Or.inr rfl) (pe_callH h_law_draw (by decide) hr rfl (pa_cons (pv 2) (pa_cons (pe_ix (ixA (K := K) rfl) (pe_lst (pa_cons pe_int (pa_cons pe_int pa_nil))) (pe_callTy (T := "int") call_int1A (by rfl) z.b_int (by decide +kernel) (pa_cons (pe_cmpR (eqA (K := K) rfl hr.units) (pv 1) pe_int (nomark _)) pa_nil)) (fun _ _ => rfl)) pa_nil))))
        (pss_cons (ps_set (i := 7) sc_law.nd rfl (by first | exact Or.inl rfl | exact Or.inr rfl) (pe_callH h_law_near (by decide) hr rfl (pa_cons (pv 2) (pa_cons (pv 6) (pa_cons (pe_op op_plusA pe_int (pv 3)) pa_nil)))))
        (Evl.pss_cut (ps_if (pt_cmpR (eqA (K := K) rfl hr.units) (pv 3) pe_int (nomark _)) (pss_one (ps_setLc (i := 7) (own := [("_law_key_here", 12)]) (g := gName 12) (tt := tYes) rfl sc_law.nd rfl rfl (sw_true rfl rfl rfl (by decide +kernel)) (piL (K := K) rfl (pe_callH h_law_keys (by decide) hr rfl (pa_cons (pv 2) (pa_cons (pv 6) pa_nil)))) (blkOk_by (own := [("_law_key_here", 12)]) (N := ["_law_script", "_law_place", "_law_hand", "_law_way", "_law_rooms", "_law_wide", "_law_many", "_law_entries", "_law_handed", "_law_due", "_law_got", "_law_k", "_law_key_here"]) (sc := defScope s_law) (by decide +kernel)) (fun _ _ _ _ _ => (pg_name (i := 12) sc_law.nd rfl (by first | exact Or.inl rfl | exact Or.inr rfl))) (fun _ _ _ _ _ => pts_nil) (fun _ _ _ _ _ => (pe_tup (pa_cons (pv 12) (pa_cons (pe_callH h_law_thing (by decide) hr rfl (pa_cons (pv 2) pa_nil)) pa_nil)))))) pss_nil)
        (pss_cons (ps_set (i := 8) sc_law.nd rfl (by first | exact Or.inl rfl | exact Or.inr rfl) (pe_callTy (T := "list") (listA (K := K) rfl) (by rfl) z.b_list (by decide +kernel) (pa_cons (pv 7) pa_nil)))
        (pss_cons (ps_set (i := 9) sc_law.nd rfl (by first | exact Or.inl rfl | exact Or.inr rfl) (pe_callH h_law_clean (by decide) hr rfl (pa_cons (pv 5) (pa_cons (pv 4) (pa_cons (pv 7) pa_nil)))))
        (pss_cons (ps_set (i := 10) sc_law.nd rfl (by first | exact Or.inl rfl | exact Or.inr rfl) (pe_callH h_yard_of (by decide) hr rfl (pa_cons (pv 5) (pa_cons (pv 4) (pa_cons (pv 8) pa_nil)))))
        (pss_cons (ps_if (PW.pt (pw_or (pt_not (pt_val (pe_callH h_law_is_yard (by decide) hr rfl (pa_cons (pv 10) (pa_cons (pv 9) pa_nil))))) (pw_or1 (pt_cmpR (neA (K := K) rfl hr.units) (pv 8) (pv 7) (nomark _))))) (pss_one (ps_ret pe_bl)) pss_nil)
        (pss_cons (ps_expr (pe_bm PySem.F.plainAttrs_list PySem.F.slot_list_append PySem.F.type_list_append mt_append (pe_ix (ixA (K := K) rfl) (pe_ix (ixA (K := K) rfl) (pe_ix (ixA (K := K) rfl) (pv 10) pe_int (fun _ _ => rfl)) pe_int (fun _ _ => rfl)) pe_int (fun _ _ => rfl)) (pa_cons (pe_tup (pa_cons pe_int (pa_cons pe_str pa_nil))) pa_nil)))
        (pss_cons (ps_expr (pe_bm PySem.F.plainAttrs_list PySem.F.slot_list_append PySem.F.type_list_append mt_append (pe_ix (ixA (K := K) rfl) (pe_ix (ixA (K := K) rfl) (pv 10) pe_int (fun _ _ => rfl)) pe_int (fun _ _ => rfl)) (pa_cons (pe_lst pa_nil) pa_nil)))
        (pss_cons (ps_if (pt_cmpR (neA (K := K) rfl hr.units) (pe_slice (slA (K := K) rfl) (pe_ix (ixA (K := K) rfl) (pv 10) pe_int (fun _ _ => rfl)) (po_some pe_int) po_none) (pe_slice (slA (K := K) rfl) (pe_ix (ixA (K := K) rfl) (pv 9) pe_int (fun _ _ => rfl)) (po_some pe_int) po_none) (nomark _)) (pss_one (ps_ret pe_bl)) pss_nil)
        (pss_cons (ps_set (i := 10) sc_law.nd rfl (by first | exact Or.inl rfl | exact Or.inr rfl) (pe_callH h_yard_of (by decide) hr rfl (pa_cons (pv 5) (pa_cons (pv 4) (pa_cons (pv 8) pa_nil)))))
        (pss_cons (ps_if (pt_cmpR (neA (K := K) rfl hr.units) (pv 10) (pv 9) (nomark _)) (pss_one (ps_ret pe_bl)) pss_nil)
        (pss_cons (ps_if (pt_not (pt_val (pe_callH h_law_is_yard (by decide) hr rfl (pa_cons (pe_callH h_yard_of (by decide) hr rfl (pa_cons (pv 5) (pa_cons (pv 4) (pa_cons (pe_revK (K := K) rfl (pv 7)) pa_nil)))) (pa_cons (pv 9) pa_nil))))) (pss_one (ps_ret pe_bl)) pss_nil)
        (pss_cons (ps_if (PW.pt (pw_or (pt_not (pt_val (pe_callH h_law_looked (by decide) hr rfl (pa_cons (pv 10) pa_nil)))) (pw_or1 (pt_cmpR op_notBl (pe_callH h_is_clean (by decide) hr rfl (pa_cons (pv 9) pa_nil)) pe_bl (nomark _))))) (pss_one (ps_ret pe_bl)) pss_nil)
        (pss_one (ps_for PassesOwn.never rfl (pi_range1 (by rfl) z.b_range (pa_cons pe_int pa_nil)) (pg_name (i := 11) sc_law.nd rfl (by first | exact Or.inl rfl | exact Or.inr rfl)) (pss_one (ps_if (pt_not (pt_val (pe_callH h_law_looked (by decide) hr rfl (pa_cons (pe_callH h_law_spoilt (by decide) hr rfl (pa_cons (pv 2) (pa_cons (pv 9) pa_nil))) pa_nil)))) (pss_one (ps_ret pe_bl)) pss_nil)))))))))))))))))))))))
        (pss_one (ps_ret pe_bl))), ?_⟩
    walk_at "cx"
    have z0 : Ex H H := Ex.refl _
    walk_at "tys"
    refine ⟨a, ns, 6, 24, rfl, hS, by decide, by decide, by decide, by decide, fun pp H1 n1 e1 f1 => ?_⟩
    obtain ⟨Z1, H1', eH, t1, f1'⟩ : ∃ Z1 H1', H1' = H1 ∧ T [] H H Z1 H1' ∧ Z1 pp = some (.lst (rgV 0 (max 6 (min (ns.length : Int) 24)))) := ⟨_, H1, rfl, T.ofNew z0 n1 e1 f1, upd_same⟩
    rw [← eH]
    clear eH f1 e1 n1
    revert t1 f1'
    generalize H1' = H1
    intro t1 f1
    refine u_forL (fun j σ H' => ∃ (x1 x2 x3 x4 x5 x6 x7 x8 x9 x10 x11 x12 : Option V) (Z' : Hp), σ = [some (.ref a), x1, x2, x3, x4, x5, x6, x7, x8, x9, x10, x11, x12] ∧ T [] Z1 H1 Z' H') (sq_of (t1.zh _ _ f1)) ⟨_, _, _, _, _, _, _, _, _, _, _, _, Z1, rfl, T.refl t1.zh⟩ (fun j σ H' _ hh => ?_) (fun j v σ H0 hx hh => ?_) (fun σ H' hh => ?_)
    · obtain ⟨x1, x2, x3, x4, x5, x6, x7, x8, x9, x10, x11, x12, Z2, _, t2⟩ := hh
      exact sq_of (t2.zh _ _ (t2.z _ _ f1))
    · obtain ⟨x1, x2, x3, x4, x5, x6, x7, x8, x9, x10, x11, x12, Z2, rfl, t2⟩ := hh
      obtain ⟨place, rfl, pl0, pl1⟩ := rgV_at hx
      have S2 : SqL K Z2 a (ns.map V.int) := (t1.z.trans t2.z).sq hS
      have jl : j < 100 := by
        have := (List.getElem?_eq_some_iff.mp hx).1
        rw [rgV_length] at this
        omega
      walk_at "tys"
      rename_i h Z3 H3 n3 t3 hh3 way Z4 H4 wy0 wy1 t4 hh4 p5 Z5 H5 n5 t5 f5 r6 Z6 H6 r60 r61 t6 hh6 vr hvr rm Z7 H7 rm0 rm1 t7 hh7 wd Z8 H8 wd0 wd1 t8 hh8 p9 Z9 H9 n9 t9 f9 vm hvm many Z10 H10 my0 my1 t10 hh10
      have t2a : T [h] Z2 H0 Z10 H10 := by walk_at "tt"
      have nh0 : H0 h = none := by walk_at "fz"
      have rmB : 1 ≤ 1 + rm ∧ 1 + rm ≤ 130 := by omega
      have myB : 0 ≤ many ∧ many ≤ 120 := by omega
      clear t3 t4 t5 t6 t7 t8 t9 hh3 hh4 hh6 hh7 hh8 hvr hvm
      have hh10' : Hand K Z10 H10 h (20000 + 5000) := hh10.mono (by omega)
      refine ⟨h, many, 1 + way, 20000, Z10, rfl, by omega, by omega, by omega, by omega, hh10', fun p6 es0 Z8 H8 t8 hh8 ls8 l8 k8 b8 e8 => ?_⟩
      have t28 := t2a.step t8 mm_same
      clear t2a t8 t10 hh10 hh10'
      walk_at "tys"
      refine s_cut (fun σ' H' => ∃ (p : Addr) (es : TR.Row) (Z' : Hp) (y1 y2 y3 y4 y5 : Option V), σ' = [some (.ref a), some (.int place), some (.ref h), some (.int way), some (.int (1 + rm)), some (.int (1 + wd)), some (.int many), some (.ref p), y1, y2, y3, y4, y5] ∧ T [h] Z2 H0 Z' H' ∧ Hand K Z' H' h 10000 ∧ Ls Z' p es ∧ es.length ≤ 120 ∧ Keys1 es ∧ (∀ e ∈ es, 0 ≤ e.1 ∧ e.1 < 1152921504606846976) ∧ ∀ e ∈ es, nameB e.2.1 = true) ?_ ?_
      · walk_at "tys"
        refine i_d (fun hd => ?_) (fun hd => ?_)
        · walk_at "tys"
          rename_i ks pk Zk Hk nk tk hhk lsk lk ndk bk
          refine c_drawLK (β := Ent) (fun e => nameB e.2.1 = true) Prod.fst (fun k : Int => k) 10000 10 hhk lsk.is (by omega) (by omega) (fun i v k hk ik Z7 H7 R' t7 hh7 A hA => ?_) (fun D7 es Z7 H7 n7 t7 hh7 ls7 ek en => ?_)
          · obtain rfl := ik.int_of
            try dsimp only
            repeat ((fail_if_success (with_reducible apply thingT)); walk_at "ty")
            refine thingN hh7 (by omega) fun w Z8 H8 nb t8 hh8 => ?_
            have z8 := t8.zh
            walk_at "tys"
            rename_i p9 Z9 H9 n9 t9 f9
            exact hA (k, w) _ Z9 H9 (t8.step t9 mm_nil) ((Hand.tt t9 nm_nil hh8).mono (by omega)) (Ik.pair f9 (Ik.int _) (Ik.tx _)) rfl nb
          · rw [List.map_id'] at ek
            have := congrArg List.length ek
            rw [List.length_map] at this
            walk_at "tys"
            exact ⟨D7, es, Z7, _, _, _, _, _, rfl, (t28.step tk mm_same).step t7 mm_same, hh7, ls7, by omega, (by show (es.map Prod.fst).Nodup; rw [ek]; exact ndk), (fun e he => bk _ (ek ▸ List.mem_map_of_mem he)), en⟩
        · walk_at "tys"
          exact ⟨p6, es0, Z8, _, _, _, _, _, rfl, t28, hh8.mono (by omega), ls8, by omega, k8, b8, e8⟩
      clear t28 hh8 ls8
      rintro σ' H' ⟨p7, es, Z7, y1, y2, y3, y4, y5, rfl, t7, hh7, ls7, l7, k7, b7, e7⟩
      have is7 := ls7.is
      have z7 := t7.zh
      walk_at "tys"
      rename_i p8 Z8 H8 n8 t8 ls8
      have is78 := Ik.tt t8 is7
      have hh8 := hh7.tt t8 nm_nil
      have t28 := t7.step t8 mm_nil
      have z8 := t8.zh
      clear t7 t8 hh7 ls7 is7 z7
      refine ⟨1 + wd, 1 + rm, p7, Z8, es, rfl, z8, is78, k7, fun e he => (b7 e he).1, by omega, by omega, by omega, by omega, by omega, fun vd Z9 H9 t9 id9 => ?_⟩
      obtain ⟨da, db, rfl, fda, fdb⟩ := id id9.yard_of
      have is79 := Ik.tt t9 is78
      have ls9 := ls8.tt t9
      have hh9 := hh8.tt t9 nm_nil
      have t29 := t28.step t9 mm_nil
      have z9 := t9.zh
      clear t28 t9 hh8 is78 ls8 z8
      have is89 := ls9.is
      walk_at "tys"
      refine ⟨1 + wd, 1 + rm, p8, Z9, es, rfl, z9, is89, k7, by omega, by omega, by omega, by omega, by omega, fun p10 D10 qs10 Fs10 Z10 H10 t10 f10 y10 fr10 => ?_⟩
      have id10 := Ik.tt t10 id9
      have is710 := Ik.tt t10 is79
      have is810 := Ik.tt t10 is89
      have hh10 := hh9.tt t10 nm_nil
      have fda10 := t10.z _ _ fda
      have fdb10 := Ik.tt t10 fdb
      have t210 := t29.step t10 mm_nil
      have z10 := t10.zh
      have frh : ∀ b ∈ D10 :: (qs10 ++ Fs10.flatten), H0 b = none := fun b hb => t29.nn (fr10 b hb)
      have hal := hh9.at
      have nhD : h ∉ D10 :: (qs10 ++ Fs10.flatten) := fun z => by
        obtain ⟨o, ho⟩ := hal
        rw [fr10 h z] at ho
        cases ho
      clear t29 t10 hh9 id9 is79 is89 fda fdb ls9 z9 hal fr10
      walk_at "tys"
      refine ⟨.ref p10, .ref da, cleanY (1 + wd) (1 + rm) es, rfl, y10.y.yard (y := cleanY (1 + wd) (1 + rm) es) (z10 _ _ f10), Ik.ex z10 id10, ?_⟩
      walk_at "tys"
      refine s_neP (x := es) (y := es) (Ik.ex z10 is810).is (Ik.ex z10 is710).is (by decide) ?_
      obtain ⟨r0, rs0, rss, ec⟩ : ∃ r0 rs0 rss, cleanC (1 + wd).toNat (1 + rm) es = (r0 :: rs0) :: rss := by
        have h1 := cleanC_at (w := (1 + wd).toNat) (r := 1 + rm) (es := es) (i := 0) (by omega)
        cases hc : cleanC (1 + wd).toNat (1 + rm) es with
        | nil => rw [hc] at h1; cases h1
        | cons X rss =>
          cases X with
          | nil => rw [hc] at h1; exact absurd (Option.some.inj h1).symm cutE_ne
          | cons r0 rs0 => exact ⟨r0, rs0, rss, rfl⟩
      have lrs : r0.length < 100000 ∧ rs0.length < 90000 := by
        have h1 : (r0 :: rs0) ∈ cleanC (1 + wd).toNat (1 + rm) es := by rw [ec]; exact List.mem_cons_self
        have h2 := flat_le h1
        have h3 := allE_clean (w := (1 + wd).toNat) (by omega) (r := 1 + rm) (es := es)
        have h4 := cleanC_at (w := (1 + wd).toNat) (r := 1 + rm) (es := es) (i := 0) (by omega)
        rw [ec] at h4
        have h5 : r0 :: rs0 = cutE (1 + wd).toNat (partE (1 + rm) es 0) := Option.some.inj h4
        have h6 := cutE_le (w := (1 + wd).toNat) (by omega) (partE (1 + rm) es 0)
        have h7 : (partE (1 + rm) es 0).length ≤ es.length := by
          unfold partE
          rw [sortE_len]
          exact List.length_filter_le _ _
        rw [← h5, List.length_cons] at h6
        rw [List.flatten_cons, List.length_append] at h2
        omega
      rw [ec] at y10
      obtain ⟨Z12, H12, q0, w0, qs', ws, e12, t12, fD, mq, fq, nqw, lmw, pr, mq0, mw0, lws⟩ := y10.open0
      rw [← e12]
      clear e12 y10
      have id12 := Ik.tt t12 id10
      have is712 := Ik.tt t12 is710
      have is812 := Ik.tt t12 is810
      have hh12 := hh10.tt t12 nhD
      have fda12 := t12.z _ _ fda10
      have fdb12 := Ik.tt t12 fdb10
      have f12 := t12.z _ _ f10
      have t212 := t210.step t12 (fun x hx => .inr (frh x hx))
      have z12 := t12.zh
      have hnq : h ≠ q0 := fun z => nhD (z ▸ mq0)
      have hnw : h ≠ w0 := fun z => nhD (z ▸ mw0)
      have frq := frh _ mq0
      have frw := frh _ mw0
      clear t12 t210 id10 is710 is810 hh10 fda10 fdb10 f10 z10 frh nhD mq0 mw0
      walk_at "tys"
      rename_i p13 Z13 H13 n13 t13 f13
      refine t_app (lmw.tt t13 nm_nil) (Ik.pair f13 (Ik.int 7) (Ik.tx oddT)) lrs.1 fun Z14 H14 t14 lm14 => ?_
      have t1214 : T [w0] Z12 H12 Z14 H14 := T.step (T.more2 t13) t14 (mm_1 (.inl (by simp)))
      have id14 := Ik.tt t1214 id12
      have is714 := Ik.tt t1214 is712
      have is814 := Ik.tt t1214 is812
      have hh14 := hh12.tt t1214 (nm_cons hnw nm_nil)
      have fda14 := t1214.z _ _ fda12
      have fdb14 := Ik.tt t1214 fdb12
      have f14 := t1214.z _ _ f12
      have fD14 := t1214.z _ _ fD
      have fq14 := t1214.hp (nm_cons nqw nm_nil) fq
      have mq14 := t1214.mu (nm_cons nqw nm_nil) mq
      have pr14 := Paired.mapP pr fun v x g => Ik.tt t1214 g
      have t214 := t212.step t1214 (mm_1 (.inr frw))
      have z14 := t1214.zh
      clear t13 t14 t1214 t212 id12 is712 is812 hh12 fda12 fdb12 f12 fD fq mq lmw lm14 pr f13 z12
      walk_at "tys"
      rename_i p15 Z15 H15 n15 t15 m15 f15
      have fq15 := t15.hp nm_nil fq14
      have mq15 := t15.mu nm_nil mq14
      have t1516 : T [q0] Z15 H15 Z15 (upd H15 q0 (.lst ((w0 :: ws).map V.ref ++ [.ref p15]))) := T.set mq15 t15.zh
      refine ⟨q0, _, _, rfl, rfl, fq15, sz_lt (by rw [List.length_map, List.length_cons]; omega), ?_⟩
      generalize upd H15 q0 (.lst ((w0 :: ws).map V.ref ++ [.ref p15])) = H16 at t1516
      have t1416 : T [q0] Z14 H14 Z15 H16 := T.step (T.more2 t15) t1516 (mm_1 (.inl (by simp)))
      have id16 := Ik.tt t1416 id14
      have is716 := Ik.tt t1416 is714
      have is816 := Ik.tt t1416 is814
      have hh16 := hh14.tt t1416 (nm_cons hnq nm_nil)
      have fda16 := t1416.z _ _ fda14
      have fdb16 := Ik.tt t1416 fdb14
      have f16 := t1416.z _ _ f14
      have fD16 := t1416.z _ _ fD14
      have pr16 := Paired.mapP pr14 fun v x g => Ik.tt t1416 g
      have t216 := t214.step t1416 (mm_1 (.inr frq))
      have z16 := t1416.zh
      clear t15 t1516 t1416 t214 id14 is714 is814 hh14 fda14 fdb14 f14 fD14 fq14 mq14 fq15 mq15 m15 f15 pr14 z14
      walk_at "tys"
      refine t_slL z16 (sq_of (z16 _ _ fD16)) fun p17 Z17 H17 n17 t17 f17 => ?_
      have ls17 : Ls Z17 p17 rss := ⟨_, f17, by
        have e1 : cutV ((q0 :: qs').map V.ref) (some 1) none = qs'.map V.ref := cutI_from _ (show (0 : Int) ≤ 1 by decide)
        rw [e1]
        exact Paired.mapP pr16 fun v x g => Ik.tt t17 g⟩
      have fda17 := t17.z _ _ fda16
      have fdb17 := Ik.tt t17 fdb16
      have z17 := t17.zh
      walk_at "tys"
      rename_i p18 Z18 H18 n18 t18 ls18
      have e18 : cutI (cleanY (1 + wd) (1 + rm) es).c (some 1) none = rss := by
        rw [show (cleanY (1 + wd) (1 + rm) es).c = cleanC (1 + wd).toNat (1 + rm) es from rfl, ec]
        exact cutI_from _ (show (0 : Int) ≤ 1 by decide)
      rw [e18] at ls18
      refine s_neP (x := rss) (y := rss) (Ik.ex t18.zh (ls17.tt t18).is).is (Ik.ex t18.zh ls18.is).is (by decide) ?_
      have t1618 := t17.step t18 mm_nil
      have id18 := Ik.tt t1618 id16
      have is718 := Ik.tt t1618 is716
      have is818 := Ik.tt t1618 is816
      have hh18 := hh16.tt t1618 nm_nil
      have t218 := t216.step t1618 mm_nil
      have z18 := t1618.zh
      clear t17 t18 t1618 t216 id16 is716 is816 hh16 ls17 ls18 fda16 fdb16 fda17 fdb17 f16 fD16 pr16 z16 z17 f17 e18
      walk_at "tys"
      refine ⟨1 + wd, 1 + rm, p8, Z18, es, rfl, z18, is818, k7, by omega, by omega, by omega, by omega, by omega, fun p20 D20 qs20 Fs20 Z20 H20 t20 f20 y20 fr20 => ?_⟩
      have ig20 : Ik H20 (.ref p20) (cleanY (1 + wd) (1 + rm) es) := y20.y.yard (y := cleanY (1 + wd) (1 + rm) es) (t20.zh _ _ f20)
      obtain ⟨Z21, H21, e21, t21, ig21⟩ := Y4.frY (y := cleanY (1 + wd) (1 + rm) es) y20 f20
      rw [← e21]
      clear e21 ig20
      have t1821 : T [] Z18 H18 Z21 H21 := t20.step t21 fun x hx => .inr (fr20 x hx)
      have id21 := Ik.tt t1821 id18
      have is721 := Ik.tt t1821 is718
      have hh21 := hh18.tt t1821 nm_nil
      have t221 := t218.step t1821 mm_nil
      have z21 := t1821.zh
      clear t20 t21 t1821 t218 id18 is718 is818 hh18 y20 f20 fr20 z18
      walk_at "tys"
      refine s_neP (x := cleanY (1 + wd) (1 + rm) es) (y := cleanY (1 + wd) (1 + rm) es) (Ik.ex z21 ig21).is (Ik.ex z21 id21).is (by decide) ?_
      walk_at "tys"
      rename_i p22 Z22 H22 n22 t22 ls22
      have id22 := Ik.tt t22 id21
      have ig22 := Ik.tt t22 ig21
      have is22 := ls22.is
      have hh22 := hh21.tt t22 nm_nil
      have t222 := t221.step t22 mm_nil
      have z22 := t22.zh
      clear t22 t221 id21 ig21 is721 hh21 ls22 z21
      have kr : Keys1 es.reverse := k7.perm (List.reverse_perm es)
      refine ⟨1 + wd, 1 + rm, p22, Z22, es.reverse, rfl, z22, is22, kr, by omega, by omega, by omega, by omega, by rw [List.length_reverse]; omega, fun p23 D23 qs23 Fs23 Z23 H23 t23 f23 y23 fr23 => ?_⟩
      have er : cleanC (1 + wd).toNat (1 + rm) es.reverse = cleanC (1 + wd).toNat (1 + rm) es := congrArg T3.c (clean_perm (w := 1 + wd) (r := 1 + rm) kr (List.reverse_perm es))
      rw [er] at y23
      have id23 := Ik.tt t23 id22
      have ig23 := Ik.tt t23 ig22
      have hh23 := hh22.tt t23 nm_nil
      have t223 := t222.step t23 mm_nil
      have z23 := t23.zh
      clear t222 id22 ig22 hh22 is22 z22 er
      walk_at "tys"
      refine ⟨.ref p23, .ref da, cleanY (1 + wd) (1 + rm) es, rfl, y23.y.yard (y := cleanY (1 + wd) (1 + rm) es) (z23 _ _ f23), Ik.ex z23 id23, ?_⟩
      have yb := clean_YB (w := 1 + wd) (r := 1 + rm) (es := es) (by omega) (by omega) (by omega) (by omega) (by omega)
      have al := allE_clean (w := (1 + wd).toNat) (by omega) (r := 1 + rm) (es := es)
      have ae : ∀ e ∈ allE (cleanY (1 + wd) (1 + rm) es).c, 0 ≤ e.1 := fun e he => by
        obtain ⟨x, hx, he⟩ := List.mem_flatten.mp he
        obtain ⟨X, hX, hx⟩ := List.mem_flatten.mp hx
        exact (b7 e (clean_mem (by omega) hX hx he)).1
      have al2 : (allE (cleanY (1 + wd) (1 + rm) es).c).length ≤ 4000 := Nat.le_trans al (by omega)
      clear t23 f23 y23 fr23
      walk_at "tys"
      refine ⟨.ref p20, Z23, cleanY (1 + wd) (1 + rm) es, rfl, z23, ig23, yb, al2, by show 1 + rm ≤ 900; omega, by show 1 + wd ≤ 900; omega, ae, fun Z24 H24 t24 => ?_⟩
      have id24 := Ik.tt t24 id23
      have hh24 := hh23.tt t24 nm_nil
      have t224 := t223.step t24 mm_nil
      have z24 := t24.zh
      clear t24 t223 id23 ig23 hh23 z23
      walk_at "tys"
      refine ⟨.ref da, Z24, cleanY (1 + wd) (1 + rm) es, rfl, z24, id24, yb, al2, fun bc Z25 H25 hbc t25 => ?_⟩
      obtain rfl : bc = true := hbc.mpr (clean_P (by omega) (by omega) k7)
      have id25 := Ik.tt t25 id24
      have hh25 := hh24.tt t25 nm_nil
      have t225 := t224.step t25 mm_nil
      have z25 := t25.zh
      clear t25 t224 id24 hh24 z24 hbc
      walk_at "tys"
      refine ⟨true, true, rfl, rfl, ?_⟩
      walk_at "tys"
      have h8e : ∀ e ∈ es, PE8 e := fun e he => ⟨(b7 e he).1, by
        have := e7 e he
        unfold nameB at this
        rw [Bool.and_eq_true, decide_eq_true_iff] at this
        exact this.1.2⟩
      refine u_forR1 (fun i σ H' => ∃ (u1 u2 : Option V) (Z' : Hp), σ = [some (.ref a), some (.int place), some (.ref h), some (.int way), some (.int (1 + rm)), some (.int (1 + wd)), some (.int many), some (.ref p7), some (.ref p8), some (.ref da), some (.ref p20), u1, u2] ∧ T [h] Z25 H25 Z' H' ∧ Hand K Z' H' h (5000 - 100 * i)) (by omega) ⟨_, _, Z25, rfl, T.refl z25, hh25.mono (by omega)⟩ (fun i σ H26 hi hq => ?_) (fun σ H26 hq => ?_)
      · obtain ⟨u1, u2, Z26, rfl, t26, hh26⟩ := hq
        have id26 := Ik.tt t26 id25
        have z26 := t26.zh
        have hh26' : Hand K Z26 H26 h ((5000 - 100 * (i + 1)) + 20) := hh26.mono (by omega)
        walk_at "tys"
        refine ⟨h, .ref da, 1 + wd, 1 + rm, es, 5000 - 100 * (i + 1), Z26, rfl, hh26', id26, k7, h8e, l7, by omega, by omega, by omega, by omega, fun v' y' Z27 H27 t27 hh27 iy27 ya0 ya1 yb0 yb1 yc0 yc1 yal yk => ?_⟩
        have z27 := t27.zh
        walk_at "tys"
        refine ⟨v', Z27, y', rfl, z27, iy27, ⟨ya0, by omega, yb0, by omega, by omega, fun rs hr => Nat.le_trans (yc1 rs hr) (by decide), by omega⟩, yal, by omega, by omega, yk, fun Z28 H28 t28 => ?_⟩
        walk_at "tys"
        exact ⟨_, _, Z28, rfl, (t26.step t27 mm_same).step t28 mm_nil, hh27.tt t28 nm_nil⟩
      · obtain ⟨u1, u2, Z26, rfl, t26, hh26⟩ := hq
        walk_at "tys"
        exact ⟨_, _, _, _, _, _, _, _, _, _, _, _, Z26, rfl, t2.step (t225.step t26 mm_same) (mm_1 (.inr (t2.nn nh0)))⟩
    · obtain ⟨x1, x2, x3, x4, x5, x6, x7, x8, x9, x10, x11, x12, Z2, rfl, t2⟩ := hh
      walk_at "tys"
      exact q _

end

end Lw
open PySem PySem.W PyProof.Rows
set_option maxHeartbeats 0 in

theorem PySem.Challenge.cw_tailrooms_k41_clean_yards_holds : PySem.Challenge.rw_tailrooms_k41_clean_yards.Holds := by

  w_on; o_law; k_head; (case hw => w_witness2)
  k_fill

  refine L2.walk_of (l := PySem.Challenge.rw_tailrooms_k41_clean_yards) (n := 63) (k := 6) (x := "_law_script") (CX := fun _ => L2.CX0) (sp := fun w => Lw.sp_law _) rfl (by decide) rfl ⟨rfl, by decide, by decide⟩ (fun w h Y => PySem.W.kIn_of Y) ?F (fun _ _ a ns hl _ hS => ⟨a, ns, rfl, hS, hl, fun _ => rfl⟩) (fun _ _ _ _ _ h => h)

  case F =>
    intro w mg fa h KX G hmg

    have zz : Lw.Z (L2.KOf KX) mg := by
      refine' ⟨PySem.W.mg_none_of KX G ?z0, PySem.W.mg_none_of KX G ?z1, PySem.W.mg_none_of KX G ?z2, PySem.W.mg_none_of KX G ?z3, PySem.W.mg_none_of KX G ?z4, PySem.W.mg_none_of KX G ?z5, PySem.W.mg_none_of KX G ?z6, PySem.W.mg_none_of KX G ?z7, PySem.W.mg_none_of KX G ?z8, PySem.W.mg_none_of KX G ?z9, PySem.W.mg_none_of KX G ?z10, PySem.W.mg_none_of KX G ?z11⟩
      (case z0 => k_is)
      (case z1 => k_is)
      (case z2 => k_is)
      (case z3 => k_is)
      (case z4 => k_is)
      (case z5 => k_is)
      (case z6 => k_is)
      (case z7 => k_is)
      (case z8 => k_is)
      (case z9 => k_is)
      (case z10 => k_is)
      (case z11 => k_is)

    have F0 : TR.FunAt (L2.KOf KX) mg "_law_places" Lw.s_law_places ["_law_script", "_law_least", "_law_most"] := by
      refine' TR.funAt_mk KX G (x := "_law_places") (st := Lw.s_law_places) (ps := ["_law_script", "_law_least", "_law_most"]) ?a ?l ?c ?k (fun _ _ _ _ _ _ us hl => match us, hl with | [_, _, _], _ => rfl)
      (case a => k_is); (case l => k_is); (case c => k_is); (case k => k_is)

    have F1 : TR.FunAt (L2.KOf KX) mg "_law_cut" Lw.s_law_cut ["_law_wide", "_law_entries"] := by
      refine' TR.funAt_mk KX G (x := "_law_cut") (st := Lw.s_law_cut) (ps := ["_law_wide", "_law_entries"]) ?a ?l ?c ?k (fun _ _ _ _ _ _ us hl => match us, hl with | [_, _], _ => rfl)
      (case a => k_is); (case l => k_is); (case c => k_is); (case k => k_is)

    have F2 : TR.FunAt (L2.KOf KX) mg "_law_room" Lw.s_law_room ["_law_key_here", "_law_rooms"] := by
      refine' TR.funAt_mk KX G (x := "_law_room") (st := Lw.s_law_room) (ps := ["_law_key_here", "_law_rooms"]) ?a ?l ?c ?k (fun _ _ _ _ _ _ us hl => match us, hl with | [_, _], _ => rfl)
      (case a => k_is); (case l => k_is); (case c => k_is); (case k => k_is)

    have F3 : TR.FunAt (L2.KOf KX) mg "_law_clean" Lw.s_law_clean ["_law_wide", "_law_rooms", "_law_entries"] := by
      refine' TR.funAt_mk KX G (x := "_law_clean") (st := Lw.s_law_clean) (ps := ["_law_wide", "_law_rooms", "_law_entries"]) ?a ?l ?c ?k (fun _ _ _ _ _ _ us hl => match us, hl with | [_, _, _], _ => rfl)
      (case a => k_is); (case l => k_is); (case c => k_is); (case k => k_is)

    have F4 : TR.FunAt (L2.KOf KX) mg "_law_all_of" Lw.s_law_all_of ["_law_yard"] := by
      refine' TR.funAt_mk KX G (x := "_law_all_of") (st := Lw.s_law_all_of) (ps := ["_law_yard"]) ?a ?l ?c ?k (fun _ _ _ _ _ _ us hl => match us, hl with | [_], _ => rfl)
      (case a => k_is); (case l => k_is); (case c => k_is); (case k => k_is)

    have F5 : TR.FunAt (L2.KOf KX) mg "_law_is_clean" Lw.s_law_is_clean ["_law_yard"] := by
      refine' TR.funAt_mk KX G (x := "_law_is_clean") (st := Lw.s_law_is_clean) (ps := ["_law_yard"]) ?a ?l ?c ?k (fun _ _ _ _ _ _ us hl => match us, hl with | [_], _ => rfl)
      (case a => k_is); (case l => k_is); (case c => k_is); (case k => k_is)

    have F6 : TR.FunAt (L2.KOf KX) mg "cut_rows" Lw.s_cut_rows ["wide", "entries"] := by
      refine' TR.funAt_mk KX G (x := "cut_rows") (st := Lw.s_cut_rows) (ps := ["wide", "entries"]) ?a ?l ?c ?k (fun _ _ _ _ _ _ us hl => match us, hl with | [_, _], _ => rfl)
      (case a => k_is); (case l => k_is); (case c => k_is); (case k => k_is)

    have F7 : TR.FunAt (L2.KOf KX) mg "whole_rooms" Lw.s_whole_rooms ["rooms"] := by
      refine' TR.funAt_mk KX G (x := "whole_rooms") (st := Lw.s_whole_rooms) (ps := ["rooms"]) ?a ?l ?c ?k (fun _ _ _ _ _ _ us hl => match us, hl with | [_], _ => rfl)
      (case a => k_is); (case l => k_is); (case c => k_is); (case k => k_is)

    have F8 : TR.FunAt (L2.KOf KX) mg "room_of" Lw.s_room_of ["key", "rooms"] := by
      refine' TR.funAt_mk KX G (x := "room_of") (st := Lw.s_room_of) (ps := ["key", "rooms"]) ?a ?l ?c ?k (fun _ _ _ _ _ _ us hl => match us, hl with | [_, _], _ => rfl)
      (case a => k_is); (case l => k_is); (case c => k_is); (case k => k_is)

    have F9 : TR.FunAt (L2.KOf KX) mg "yard_of" Lw.s_yard_of ["wide", "rooms", "entries"] := by
      refine' TR.funAt_mk KX G (x := "yard_of") (st := Lw.s_yard_of) (ps := ["wide", "rooms", "entries"]) ?a ?l ?c ?k (fun _ _ _ _ _ _ us hl => match us, hl with | [_, _, _], _ => rfl)
      (case a => k_is); (case l => k_is); (case c => k_is); (case k => k_is)

    have F10 : TR.FunAt (L2.KOf KX) mg "entries_in" Lw.s_entries_in ["rows"] := by
      refine' TR.funAt_mk KX G (x := "entries_in") (st := Lw.s_entries_in) (ps := ["rows"]) ?a ?l ?c ?k (fun _ _ _ _ _ _ us hl => match us, hl with | [_], _ => rfl)
      (case a => k_is); (case l => k_is); (case c => k_is); (case k => k_is)

    have F11 : TR.FunAt (L2.KOf KX) mg "is_clean" Lw.s_is_clean ["yard"] := by
      refine' TR.funAt_mk KX G (x := "is_clean") (st := Lw.s_is_clean) (ps := ["yard"]) ?a ?l ?c ?k (fun _ _ _ _ _ _ us hl => match us, hl with | [_], _ => rfl)
      (case a => k_is); (case l => k_is); (case c => k_is); (case k => k_is)

    have F12 : TR.FunAt (L2.KOf KX) mg "_law_copy" Lw.s_law_copy ["_law_yard"] := by
      refine' TR.funAt_mk KX G (x := "_law_copy") (st := Lw.s_law_copy) (ps := ["_law_yard"]) ?a ?l ?c ?k (fun _ _ _ _ _ _ us hl => match us, hl with | [_], _ => rfl)
      (case a => k_is); (case l => k_is); (case c => k_is); (case k => k_is)

    have F13 : TR.FunAt (L2.KOf KX) mg "_law_looked" Lw.s_law_looked ["_law_yard"] := by
      refine' TR.funAt_mk KX G (x := "_law_looked") (st := Lw.s_law_looked) (ps := ["_law_yard"]) ?a ?l ?c ?k (fun _ _ _ _ _ _ us hl => match us, hl with | [_], _ => rfl)
      (case a => k_is); (case l => k_is); (case c => k_is); (case k => k_is)

    have F14 : TR.FunAt (L2.KOf KX) mg "_law_draw" Lw.s_law_draw ["_law_hand", "_law_many"] := by
      refine' TR.funAt_mk KX G (x := "_law_draw") (st := Lw.s_law_draw) (ps := ["_law_hand", "_law_many"]) ?a ?l ?c ?k (fun _ _ _ _ _ _ us hl => match us, hl with | [_, _], _ => rfl)
      (case a => k_is); (case l => k_is); (case c => k_is); (case k => k_is)

    have F15 : TR.FunAt (L2.KOf KX) mg "_law_one_room" Lw.s_law_one_room ["_law_hand", "_law_held"] := by
      refine' TR.funAt_mk KX G (x := "_law_one_room") (st := Lw.s_law_one_room) (ps := ["_law_hand", "_law_held"]) ?a ?l ?c ?k (fun _ _ _ _ _ _ us hl => match us, hl with | [_, _], _ => rfl)
      (case a => k_is); (case l => k_is); (case c => k_is); (case k => k_is)

    have F16 : TR.FunAt (L2.KOf KX) mg "_law_spoilt" Lw.s_law_spoilt ["_law_hand", "_law_yard"] := by
      refine' TR.funAt_mk KX G (x := "_law_spoilt") (st := Lw.s_law_spoilt) (ps := ["_law_hand", "_law_yard"]) ?a ?l ?c ?k (fun _ _ _ _ _ _ us hl => match us, hl with | [_, _], _ => rfl)
      (case a => k_is); (case l => k_is); (case c => k_is); (case k => k_is)

    have F17 : TR.FunAt (L2.KOf KX) mg "_law_whole" Lw.s_law_whole ["_law_got"] := by
      refine' TR.funAt_mk KX G (x := "_law_whole") (st := Lw.s_law_whole) (ps := ["_law_got"]) ?a ?l ?c ?k (fun _ _ _ _ _ _ us hl => match us, hl with | [_], _ => rfl)
      (case a => k_is); (case l => k_is); (case c => k_is); (case k => k_is)

    have F18 : TR.FunAt (L2.KOf KX) mg "_law_is_yard" Lw.s_law_is_yard ["_law_got", "_law_due"] := by
      refine' TR.funAt_mk KX G (x := "_law_is_yard") (st := Lw.s_law_is_yard) (ps := ["_law_got", "_law_due"]) ?a ?l ?c ?k (fun _ _ _ _ _ _ us hl => match us, hl with | [_, _], _ => rfl)
      (case a => k_is); (case l => k_is); (case c => k_is); (case k => k_is)

    have F19 : TR.FunAt (L2.KOf KX) mg "_law_far" Lw.s_law_far ["_law_hand", "_law_many"] := by
      refine' TR.funAt_mk KX G (x := "_law_far") (st := Lw.s_law_far) (ps := ["_law_hand", "_law_many"]) ?a ?l ?c ?k (fun _ _ _ _ _ _ us hl => match us, hl with | [_, _], _ => rfl)
      (case a => k_is); (case l => k_is); (case c => k_is); (case k => k_is)

    have F20 : TR.FunAt (L2.KOf KX) mg "_law_power" Lw.s_law_power ["_law_many"] := by
      refine' TR.funAt_mk KX G (x := "_law_power") (st := Lw.s_law_power) (ps := ["_law_many"]) ?a ?l ?c ?k (fun _ _ _ _ _ _ us hl => match us, hl with | [_], _ => rfl)
      (case a => k_is); (case l => k_is); (case c => k_is); (case k => k_is)

    have F21 : TR.FunAt (L2.KOf KX) mg "_law_key" Lw.s_law_key ["_law_hand"] := by
      refine' TR.funAt_mk KX G (x := "_law_key") (st := Lw.s_law_key) (ps := ["_law_hand"]) ?a ?l ?c ?k (fun _ _ _ _ _ _ us hl => match us, hl with | [_], _ => rfl)
      (case a => k_is); (case l => k_is); (case c => k_is); (case k => k_is)

    have F22 : TR.FunAt (L2.KOf KX) mg "_law_keys" Lw.s_law_keys ["_law_hand", "_law_many"] := by
      refine' TR.funAt_mk KX G (x := "_law_keys") (st := Lw.s_law_keys) (ps := ["_law_hand", "_law_many"]) ?a ?l ?c ?k (fun _ _ _ _ _ _ us hl => match us, hl with | [_, _], _ => rfl)
      (case a => k_is); (case l => k_is); (case c => k_is); (case k => k_is)

    have F23 : TR.FunAt (L2.KOf KX) mg "_law_thing" Lw.s_law_thing ["_law_hand"] := by
      refine' TR.funAt_mk KX G (x := "_law_thing") (st := Lw.s_law_thing) (ps := ["_law_hand"]) ?a ?l ?c ?k (fun _ _ _ _ _ _ us hl => match us, hl with | [_], _ => rfl)
      (case a => k_is); (case l => k_is); (case c => k_is); (case k => k_is)

    have F24 : TR.FunAt (L2.KOf KX) mg "_law_near" Lw.s_law_near ["_law_hand", "_law_many", "_law_near_here"] := by
      refine' TR.funAt_mk KX G (x := "_law_near") (st := Lw.s_law_near) (ps := ["_law_hand", "_law_many", "_law_near_here"]) ?a ?l ?c ?k (fun _ _ _ _ _ _ us hl => match us, hl with | [_, _, _], _ => rfl)
      (case a => k_is); (case l => k_is); (case c => k_is); (case k => k_is)

    have F25 : TR.FunAt (L2.KOf KX) mg "_law_open" Lw.s_law_open ["_law_script", "_law_place"] := by
      refine' TR.funAt_mk KX G (x := "_law_open") (st := Lw.s_law_open) (ps := ["_law_script", "_law_place"]) ?a ?l ?c ?k (fun _ _ _ _ _ _ us hl => match us, hl with | [_, _], _ => rfl)
      (case a => k_is); (case l => k_is); (case c => k_is); (case k => k_is)

    refine' TR.law_end (st := Lw.s_law) (x := "_law_script") KX G hmg ?a ?l ?c ?k (fun s v => .of_eq rfl) (fun base FF => ?b)
    (case a => k_is); (case l => k_is); (case c => k_is); (case k => k_is)

    case b =>

      have h0 := Lw.has_law_places (P := PySem.Challenge.rw_tailrooms_k41_clean_yards.prog) (w := w) (base := base) zz F0 

      have h1 := Lw.has_law_cut (P := PySem.Challenge.rw_tailrooms_k41_clean_yards.prog) (w := w) (base := base) zz F1 

      have h2 := Lw.has_law_room (P := PySem.Challenge.rw_tailrooms_k41_clean_yards.prog) (w := w) (base := base) zz F2 

      have h3 := Lw.has_law_clean (P := PySem.Challenge.rw_tailrooms_k41_clean_yards.prog) (w := w) (base := base) zz F3 h1 h2

      have h4 := Lw.has_law_all_of (P := PySem.Challenge.rw_tailrooms_k41_clean_yards.prog) (w := w) (base := base) zz F4 

      have h5 := Lw.has_law_is_clean (P := PySem.Challenge.rw_tailrooms_k41_clean_yards.prog) (w := w) (base := base) zz F5 h3 h4

      have h6 := Lw.has_cut_rows (P := PySem.Challenge.rw_tailrooms_k41_clean_yards.prog) (w := w) (base := base) zz F6 

      have h7 := Lw.has_whole_rooms (P := PySem.Challenge.rw_tailrooms_k41_clean_yards.prog) (w := w) (base := base) zz F7 

      have h8 := Lw.has_room_of (P := PySem.Challenge.rw_tailrooms_k41_clean_yards.prog) (w := w) (base := base) zz F8 h7

      have h9 := Lw.has_yard_of (P := PySem.Challenge.rw_tailrooms_k41_clean_yards.prog) (w := w) (base := base) zz F9 h6 h8

      have h10 := Lw.has_entries_in (P := PySem.Challenge.rw_tailrooms_k41_clean_yards.prog) (w := w) (base := base) zz F10 

      have h11 := Lw.has_is_clean (P := PySem.Challenge.rw_tailrooms_k41_clean_yards.prog) (w := w) (base := base) zz F11 h9 h10

      have h12 := Lw.has_law_copy (P := PySem.Challenge.rw_tailrooms_k41_clean_yards.prog) (w := w) (base := base) zz F12 

      have h13 := Lw.has_law_looked (P := PySem.Challenge.rw_tailrooms_k41_clean_yards.prog) (w := w) (base := base) zz F13 h5 h11 h12

      have h14 := Lw.has_law_draw (P := PySem.Challenge.rw_tailrooms_k41_clean_yards.prog) (w := w) (base := base) zz F14 

      have h15 := Lw.has_law_one_room (P := PySem.Challenge.rw_tailrooms_k41_clean_yards.prog) (w := w) (base := base) zz F15 h14

      have h16 := Lw.has_law_spoilt (P := PySem.Challenge.rw_tailrooms_k41_clean_yards.prog) (w := w) (base := base) zz F16 h14 h15 h12

      have h17 := Lw.has_law_whole (P := PySem.Challenge.rw_tailrooms_k41_clean_yards.prog) (w := w) (base := base) zz F17 

      have h18 := Lw.has_law_is_yard (P := PySem.Challenge.rw_tailrooms_k41_clean_yards.prog) (w := w) (base := base) zz F18 h17

      have h19 := Lw.has_law_far (P := PySem.Challenge.rw_tailrooms_k41_clean_yards.prog) (w := w) (base := base) zz F19 h14

      have h20 := Lw.has_law_power (P := PySem.Challenge.rw_tailrooms_k41_clean_yards.prog) (w := w) (base := base) zz F20 

      have h21 := Lw.has_law_key (P := PySem.Challenge.rw_tailrooms_k41_clean_yards.prog) (w := w) (base := base) zz F21 h19 h20 h14

      have h22 := Lw.has_law_keys (P := PySem.Challenge.rw_tailrooms_k41_clean_yards.prog) (w := w) (base := base) zz F22 h21

      have h23 := Lw.has_law_thing (P := PySem.Challenge.rw_tailrooms_k41_clean_yards.prog) (w := w) (base := base) zz F23 h14

      have h24 := Lw.has_law_near (P := PySem.Challenge.rw_tailrooms_k41_clean_yards.prog) (w := w) (base := base) zz F24 h23 h21 h14

      have h25 := Lw.has_law_open (P := PySem.Challenge.rw_tailrooms_k41_clean_yards.prog) (w := w) (base := base) zz F25 

      exact Lw.ok_law zz FF h0 h13 h16 h11 h18 h9 h3 h22 h23 h24 h14 h25

import PyProof.Rows.All
import Wide.All
import OpenK.AllK
import Wide.FinOn
import HandS.ForMost
import HandS.Wide
import HandS.SortInts
import HandS.IsInst
import HandS.Conv
import HandS.Evl
import HandS.Style
import HandS.SortRule
import HandS.ForExc
import HandS.ExcInit
import HandS.ExcField
import HandS.TryMany
import HandS.Small
import KE.GoesRaise
import HandS.Text
import PyProof.Rows.ChunkEnd
import HandS.DictTup
import KE.KItemsList
import HandS.More
import HandS.Zip
import PyProof.StrBlock2
import KE.KExcIs
import HandS.HotCalls
import HandS.Dict
import HandS.HeadHook3
import PyProof.ZipIter
import PyProof.Draws
import KE.KTurns
import HandS.RaiseMore
import KE.KStateDown
import HandS.Defaults
import HandS.HeadHook1
import HandS.HeadHook2
import HandS.Head0
import HandS.Head1
import HandS.Head2
import HandS.HeadEnd
import PySem.Challenge.RW_tailrooms_k94_lines_of_bits_and_spill
set_option Elab.async false
set_option linter.all false
set_option maxRecDepth 100000
set_option maxHeartbeats 4000000

/-! TR: joined rules, steps of a reading, the heap, the hand that is drawn from -/
noncomputable section
namespace TR
open PySem L2
open PySem.Spec PyProof.Rows

/-! ### joined rules -/
section
variable {X : Cx}
noncomputable def rPlus : R2 := fun x y H Q => (rI0 fun i j => .int (i + j)) x y H Q ∨ rCat x y H Q ∨
  (∃ i j, x = .str i ∧ y = .str j ∧ i.length + j.length ≤ sizeLine ∧ Q (.str (i ++ j)) H)
theorem op_plusA : OpR X (binaryOp .Add) rPlus := OpR.or op_add (OpR.or op_cat op_add_str)
noncomputable def rMult : R2 := fun x y H Q => (rI CMulW fun i j => .int (i * j)) x y H Q ∨ (rI CMul fun i j => .int (i * j)) x y H Q ∨ rRep x y H Q
theorem op_multA : OpR X (binaryOp .Mult) rMult := OpR.or op_mulW (OpR.or op_mul op_rep)
noncomputable def rEqA (K : PySem.W.Frag) : R2 := fun x y H Q => rEq x y H Q ∨ rEqD K x y H Q
noncomputable def rNeA (K : PySem.W.Frag) : R2 := fun x y H Q => rNe x y H Q ∨ rNeD K x y H Q
theorem op_eqA (hu : X.A.units + 64 < cLine) : OpR X (compareOp .Eq) (rEqA X.K) := OpR.or op_eq (op_eqD hu)
theorem op_neA (hu : X.A.units + 64 < cLine) : OpR X (compareOp .NotEq) (rNeA X.K) := OpR.or op_ne (op_neD hu)
theorem op_inA : OpR X (compareOp .In) (rIn X.K false) := op_in_seq
theorem op_notInA : OpR X (compareOp .NotIn) (rIn X.K true) := op_notIn_seq
noncomputable def rLenS (K : PySem.W.Frag) : List V → Hp → VK → Prop := Evl.rLenS K
noncomputable def rLenT : List V → Hp → VK → Prop := fun xs H Q => ∃ z, xs = [.str z] ∧ z.length ≤ sizeLine ∧ Q (.int z.length) H
noncomputable def rLen (K : PySem.W.Frag) : List V → Hp → VK → Prop := fun xs H Q => rLenS K xs H Q ∨ rLenT xs H Q
theorem call_lenA : CallR X (.builtin "len") (rLen X.K) := CallR.or call_len_seq call_len_str
theorem cr_sumA (hc : X.calm = true) : CallR X (.builtin "sum") (rSum X.K) := cr_sum hc
noncomputable def rGetL (K : PySem.W.Frag) : R2 := fun x y H Q => ∃ p xs i v, x = .ref p ∧ y = .int i ∧ SqL K H p xs ∧ 0 ≤ i ∧ atI xs i = some v ∧ Q v H
theorem pget_list : PGet X (rGetL X.K) := by
  intro pins s σ H x0 y0 v u Q I rx ru hh
  obtain ⟨p, xs, i, z, ex, ei, hq, h0, he, q⟩ := hh
  subst ex
  subst ei
  cases rx
  obtain ⟨t, et⟩ := ru
  subst et
  obtain ⟨its, r, pl, _⟩ := I.list hq
  obtain ⟨j, h1, h2, h3, _, h5⟩ := atI_get he
  obtain ⟨y, ey, ry⟩ := r.get h2
  have hl := r.length
  have hn := line63
  rw [seqIndex_of h0 h5] at h1
  have hj : i.toNat = j := Option.some.inj h1
  exact wpAny_getItem_list pl.isList h0 (by omega) (by rw [hj]; simpa using ey) ⟨z, H, I, ry, q⟩
noncomputable def rIsNA : R2 := fun x y H Q => y = .non ∧ Q (.bl (decide (x = .non))) H
noncomputable def rNotNA : R2 := fun x y H Q => y = .non ∧ Q (.bl (!decide (x = .non))) H
theorem op_isNA : OpR X (compareOp .Is) rIsNA := op_isN
noncomputable def rMax2 : List V → Hp → VK → Prop := fun xs H Q => ∃ i j, xs = [.int i, .int j] ∧ Q (.int (max i j)) H
noncomputable def rMin2 : List V → Hp → VK → Prop := fun xs H Q => ∃ i j, xs = [.int i, .int j] ∧ Q (.int (min i j)) H
noncomputable def rAbs : List V → Hp → VK → Prop := fun xs H Q => ∃ i, xs = [.int i] ∧ Q (.int (if i < 0 then -i else i)) H
theorem call_max2A (hc : X.calm = true) : CallR X (.builtin "max") rMax2 := by
  have e : rMax2 = fun xs H Q => ∃ i j, xs = [V.int i, V.int j] ∧ Q (.int (if j > i then j else i)) H := by
    funext xs H Q
    have e2 : ∀ i j : Int, max i j = if j > i then j else i := fun i j => by
      by_cases h : j > i
      · rw [if_pos h]
        omega
      · rw [if_neg h]
        omega
    show (∃ i j, xs = [V.int i, V.int j] ∧ Q (.int (max i j)) H) = _
    simp only [e2]
  rw [e]
  exact call_max2 hc
theorem call_min2A (hc : X.calm = true) : CallR X (.builtin "min") rMin2 := by
  have e : rMin2 = fun xs H Q => ∃ i j, xs = [V.int i, V.int j] ∧ Q (.int (if j < i then j else i)) H := by
    funext xs H Q
    have e2 : ∀ i j : Int, min i j = if j < i then j else i := fun i j => by
      by_cases h : j < i
      · rw [if_pos h]
        omega
      · rw [if_neg h]
        omega
    show (∃ i j, xs = [V.int i, V.int j] ∧ Q (.int (min i j)) H) = _
    simp only [e2]
  rw [e]
  exact call_min2 hc
theorem call_absA : CallR X (.builtin "abs") rAbs := call_abs
noncomputable def rInt1 : List V → Hp → VK → Prop := fun xs H Q => (∃ i, xs = [.int i] ∧ Q (.int i) H) ∨ ∃ k, xs = [.bl k] ∧ Q (.int (if k then 1 else 0)) H
theorem call_int1A : CallR X (.type "int") rInt1 := call_int1
noncomputable def rList1 (K : PySem.W.Frag) : List V → Hp → VK → Prop := Evl.rListS K
end

/-! ### the same rules, the written part K named (they may stand in a comprehension's block) -/
section
variable {X : Cx} {K : PySem.W.Frag}
theorem ixA (hk : X.K = K) : IxR X (rIx K) := hk ▸ ix_seq
theorem slA (hk : X.K = K) : SlR X (rSlL K) := hk ▸ sl_list
theorem lenA (hk : X.K = K) : CallR X (.builtin "len") (rLen K) := hk ▸ call_lenA
theorem eqA (hk : X.K = K) (hu : X.A.units + 64 < cLine) : OpR X (compareOp .Eq) (rEqA K) := hk ▸ op_eqA hu
theorem neA (hk : X.K = K) (hu : X.A.units + 64 < cLine) : OpR X (compareOp .NotEq) (rNeA K) := hk ▸ op_neA hu
theorem inA (hk : X.K = K) : OpR X (compareOp .In) (rIn K false) := hk ▸ op_inA
theorem niA (hk : X.K = K) : OpR X (compareOp .NotIn) (rIn K true) := hk ▸ op_notInA
theorem isiA (hk : X.K = K) : CallR X (.builtin "isinstance") (rIsi K) := hk ▸ call_isi
theorem sumA (hk : X.K = K) (hc : X.calm = true) : CallR X (.builtin "sum") (rSum K) := hk ▸ cr_sumA hc
theorem indexA (hk : X.K = K) : MtR X "list.index" (rIndex K) := hk ▸ mt_index
theorem getA (hk : X.K = K) : PGet X (rGetL K) := hk ▸ pget_list
theorem piL {tg l : Expr} {tl : TE} (hk : X.K = K) (hl : PE X l tl) : PI X tg l (iList K tl) := hk ▸ pi_list hl
theorem piT {tg l : Expr} {tl : TE} (hk : X.K = K) (hl : PE X l tl) : PI X tg l (iTup K tl) := hk ▸ pi_tup hl
end

/-! ### heaps -/
/-- all of H is there in H' -/
noncomputable abbrev Ex := Evl.Ex
/-- all of H but what stands at h -/
noncomputable def ExM (h : Addr) (H H' : Hp) : Prop := ∀ a o, a ≠ h → H a = some o → H' a = some o
theorem Ex.refl (H : Hp) : Ex H H := Evl.Ex.refl H
theorem Ex.trans {H G F : Hp} (a : Ex H G) (b : Ex G F) : Ex H F := Evl.Ex.trans a b
theorem Ex.new {H : Hp} {a : Addr} {u : HO} (h : H a = none) : Ex H (L2.upd H a u) := Evl.Ex.new h
theorem Ex.mut {H G : Hp} {a : Addr} {u : HO} (e : Ex H G) (h : H a = none) : Ex H (L2.upd G a u) := Evl.Ex.mut e h
theorem Ex.exm {Z H H' : Hp} {h : Addr} (e : Ex Z H) (hz : Z h = none) (m : ExM h H H') : Ex Z H' := fun a o ha => m a o (ne_of_none ha hz) (e a o ha)
theorem Ex.toM {H H' : Hp} {h : Addr} (e : Ex H H') : ExM h H H' := fun a o _ ha => e a o ha
theorem ExM.refl {h : Addr} (H : Hp) : ExM h H H := fun _ _ _ e => e
theorem ExM.trans {h : Addr} {H H1 H2 : Hp} (a : ExM h H H1) (b : ExM h H1 H2) : ExM h H H2 := fun x o n e => b x o n (a x o n e)
theorem ExM.upd {h : Addr} {H : Hp} {o : HO} : ExM h H (upd H h o) := fun a u n e => by
  rw [upd_ne n]
  exact e
/-- a heap without one object -/
noncomputable def cutH (H : Hp) (h : Addr) : Hp := fun b => if b = h then none else H b
theorem Ex.back {H H' : Hp} {p : Addr} (e : Ex H H') (h : H' p = none) : H p = none := by
  cases h1 : H p with
  | none => rfl
  | some o =>
    rw [e p o h1] at h
    cases h
theorem Ex.sq {K : PySem.W.Frag} {H G : Hp} {p : Addr} {ys : List V} (e : Ex H G) (h : SqL K H p ys) : SqL K G p ys := Evl.ex_l e h
theorem Ex.st {K : PySem.W.Frag} {H G : Hp} {p : Addr} {ys : List V} (e : Ex H G) (h : SqT K H p ys) : SqT K G p ys := Evl.ex_t e h
theorem sq_of {K : PySem.W.Frag} {H : Hp} {p : Addr} {ys : List V} (h : H p = some (.lst ys)) : SqL K H p ys := SqL.of h
theorem st_of {K : PySem.W.Frag} {H : Hp} {p : Addr} {ys : List V} (h : H p = some (.tup ys)) : SqT K H p ys := SqT.of h
theorem sz_of {m : Nat} (h : m ≤ 100000) : m ≤ sizeLine := Evl.sz_of h
theorem sz_lt {m : Nat} (h : m < 100000) : m < sizeLine := Evl.sz_lt h

/-! ### places, first -/
theorem atI_lt {α : Type} {xs : List α} {i : Int} {v : α} (h0 : 0 ≤ i) (h : xs[i.toNat]? = some v) : atI xs i = some v := by
  have e : ((i.toNat : Nat) : Int) = i := Int.toNat_of_nonneg h0
  have q := atI_nat (xs := xs) (j := i.toNat) h
  rw [e] at q
  exact q
theorem ixN_lt {n : Nat} {i : Int} (h0 : 0 ≤ i) (h : i < n) : ixN n i = some i.toNat := by
  unfold ixN
  rw [if_pos h0, if_pos h]

/-! ### steps of a reading: each turns what is to be shown into what it asks next -/
section
variable {K : PySem.W.Frag} {σ : L2.St} {H : Hp} {ta tb tc te : TE} {t u : TT} {D : Ends} {Q : VK} {QB : Bool → Hp → Prop} {v x y : V} {p : Prop} {A B : Prop}
theorem s_var {i : Nat} (h : σ[i]? = some (some v)) (q : Q v H) : tVar i σ H Q := ⟨v, h, q⟩
theorem s_c (q : Q v H) : tC v σ H Q := q
theorem s_op {r : R2} (q : ta σ H fun x H1 => tb σ H1 fun y H2 => r x y H2 Q) : tOp r ta tb σ H Q := q
theorem s_un {r : V → Hp → VK → Prop} (q : ta σ H fun x H1 => r x H1 Q) : tUn r ta σ H Q := q
theorem s_chain {r r' : R2} (q : ta σ H fun x H1 => tb σ H1 fun y H2 => r x y H2 fun z H3 => ∃ k, z = .bl k ∧ (if k = true then tc σ H3 fun w' H4 => r' y w' H4 Q else Q (.bl false) H3)) : tChain r r' ta tb tc σ H Q := q
theorem s_I0 {g : Int → Int → V} {i j : Int} (q : Q (g i j) H) : rI0 g (.int i) (.int j) H Q := ⟨i, j, rfl, rfl, q⟩
theorem s_U {g : Int → V} {i : Int} (q : Q (g i) H) : rU g (.int i) H Q := ⟨i, rfl, q⟩
theorem s_plusI {i j : Int} (q : Q (.int (i + j)) H) : rPlus (.int i) (.int j) H Q := .inl ⟨i, j, rfl, rfl, q⟩
theorem s_mulL {i j : Int} (c : -(2 ^ 64) < i ∧ i < 2 ^ 64) (q : Q (.int (i * j)) H) : rMult (.int i) (.int j) H Q := .inr (.inl ⟨i, j, rfl, rfl, .inl c, q⟩)
theorem s_mulR {i j : Int} (c : -(2 ^ 64) < j ∧ j < 2 ^ 64) (q : Q (.int (i * j)) H) : rMult (.int i) (.int j) H Q := .inr (.inl ⟨i, j, rfl, rfl, .inr c, q⟩)
theorem s_div {i j : Int} {g : Int → Int → V} (h : 0 < j) (h2 : j < 2 ^ 63) (q : Q (g i j) H) : rI CDivW g (.int i) (.int j) H Q :=
  ⟨i, j, rfl, rfl, wide_div (b := 63) h (by have e : (2 : Int) ^ 63 = 9223372036854775808 := by decide
                                            have e2 : (2 : Nat) ^ 63 = 9223372036854775808 := by decide
                                            omega) (by decide) (by decide), q⟩
theorem s_mod {i j : Int} (h : 0 < j) (q : 0 ≤ i % j → i % j < j → Q (.int (i % j)) H) : rI (fun _ j => 0 < j) (fun i j => .int (i % j)) (.int i) (.int j) H Q := ⟨i, j, rfl, rfl, h, q (Int.emod_nonneg i (Int.ne_of_gt h)) (Int.emod_lt_of_pos i h)⟩
theorem s_pow2_56 (q : Q (.int 72057594037927936) H) : rI CPow (fun i j => .int (i ^ j.toNat)) (.int 2) (.int 56) H Q := ⟨2, 56, rfl, rfl, ⟨by decide, by decide, by decide⟩, by
  have e : (2 : Int) ^ Int.toNat 56 = 72057594037927936 := by decide
  show Q (.int ((2 : Int) ^ Int.toNat 56)) H
  rw [e]
  exact q⟩
theorem s_pow2_60 (q : Q (.int 1152921504606846976) H) : rI CPow (fun i j => .int (i ^ j.toNat)) (.int 2) (.int 60) H Q := ⟨2, 60, rfl, rfl, ⟨by decide, by decide, by decide⟩, by
  have e : (2 : Int) ^ Int.toNat 60 = 1152921504606846976 := by decide
  show Q (.int ((2 : Int) ^ Int.toNat 60)) H
  rw [e]
  exact q⟩
theorem s_pow10_6 (q : Q (.int 1000000) H) : rI CPow (fun i j => .int (i ^ j.toNat)) (.int 10) (.int 6) H Q := ⟨10, 6, rfl, rfl, ⟨by decide, by decide, by decide⟩, by
  have e : (10 : Int) ^ Int.toNat 6 = 1000000 := by decide
  show Q (.int ((10 : Int) ^ Int.toNat 6)) H
  rw [e]
  exact q⟩
theorem s_pow10_9 (q : Q (.int 1000000000) H) : rI CPow (fun i j => .int (i ^ j.toNat)) (.int 10) (.int 9) H Q := ⟨10, 9, rfl, rfl, ⟨by decide, by decide, by decide⟩, by
  have e : (10 : Int) ^ Int.toNat 9 = 1000000000 := by decide
  show Q (.int ((10 : Int) ^ Int.toNat 9)) H
  rw [e]
  exact q⟩
theorem s_pow10_10 (q : Q (.int 10000000000) H) : rI CPow (fun i j => .int (i ^ j.toNat)) (.int 10) (.int 10) H Q := ⟨10, 10, rfl, rfl, ⟨by decide, by decide, by decide⟩, by
  have e : (10 : Int) ^ Int.toNat 10 = 10000000000 := by decide
  show Q (.int ((10 : Int) ^ Int.toNat 10)) H
  rw [e]
  exact q⟩
theorem s_pow10_18 (q : Q (.int 1000000000000000000) H) : rI CPow (fun i j => .int (i ^ j.toNat)) (.int 10) (.int 18) H Q := ⟨10, 18, rfl, rfl, ⟨by decide, by decide, by decide⟩, by
  have e : (10 : Int) ^ Int.toNat 18 = 1000000000000000000 := by decide
  show Q (.int ((10 : Int) ^ Int.toNat 18)) H
  rw [e]
  exact q⟩
theorem s_pow {i j : Int} {g : Int → Int → V} (h1 : 0 ≤ j ∧ j ≤ 1000) (h2 : i.natAbs < 2 ^ 64) (q : Q (g i j) H) : rI CPow g (.int i) (.int j) H Q := ⟨i, j, rfl, rfl, ⟨h1.1, by omega, h2⟩, q⟩
theorem s_eqI {a b : Int} (q : Q (.bl (decide (a = b))) H) : rEqA K (.int a) (.int b) H Q := .inl ⟨rfl, by
  have e : decide (V.int a = V.int b) = decide (a = b) := by rw [dec_int, Bool.beq_eq_decide_eq]
  rw [e]
  exact q⟩
theorem s_neI {a b : Int} (q : Q (.bl (decide (a ≠ b))) H) : rNeA K (.int a) (.int b) H Q := .inl ⟨rfl, by
  have e : (!decide (V.int a = V.int b)) = decide (a ≠ b) := by rw [dec_int, Bool.beq_eq_decide_eq, decide_not]
  rw [e]
  exact q⟩
theorem s_eqS {a b : Str} (q : Q (.bl (decide (a = b))) H) : rEqA K (.str a) (.str b) H Q := .inl ⟨rfl, by
  have e : decide (V.str a = V.str b) = decide (a = b) := by
    by_cases h : a = b
    · rw [h, decide_eq_true rfl, decide_eq_true rfl]
    · rw [decide_eq_false h, decide_eq_false (fun e => h (V.str.inj e))]
  rw [e]
  exact q⟩
theorem s_neS {a b : Str} (q : Q (.bl (decide (a ≠ b))) H) : rNeA K (.str a) (.str b) H Q := .inl ⟨rfl, by
  have e : (!decide (V.str a = V.str b)) = decide (a ≠ b) := by
    by_cases h : a = b
    · rw [h, decide_eq_true rfl, decide_eq_false (fun z => z rfl)]
      rfl
    · rw [decide_eq_false (fun e => h (V.str.inj e)), decide_eq_true h]
      rfl
  rw [e]
  exact q⟩
theorem s_isN0 (q : Q (.bl true) H) : rIsNA .non .non H Q := ⟨rfl, q⟩
theorem s_isN1 {i : Int} (q : Q (.bl false) H) : rIsNA (.int i) .non H Q := ⟨rfl, q⟩
theorem s_isN2 {i : Addr} (q : Q (.bl false) H) : rIsNA (.ref i) .non H Q := ⟨rfl, q⟩
theorem s_isN3 {i : Str} (q : Q (.bl false) H) : rIsNA (.str i) .non H Q := ⟨rfl, q⟩
/-- subscripts -/
theorem s_ixL {a : Addr} {xs : List V} {i : Int} (h : SqL K H a xs) (e : atI xs i = some v) (q : Q v H) : rIx K (.ref a) (.int i) H Q := .inl ⟨a, xs, i, v, rfl, rfl, h, e, q⟩
theorem s_ixT {a : Addr} {xs : List V} {i : Int} (h : SqT K H a xs) (e : atI xs i = some v) (q : Q v H) : rIx K (.ref a) (.int i) H Q := .inr (.inl ⟨a, xs, i, v, rfl, rfl, h, e, q⟩)
theorem s_getL {a : Addr} {xs : List V} {i : Int} (h : SqL K H a xs) (h0 : 0 ≤ i) (e : atI xs i = some v) (q : Q v H) : rGetL K (.ref a) (.int i) H Q := ⟨a, xs, i, v, rfl, rfl, h, h0, e, q⟩
/-- tests -/
theorem s_test (q : te σ H fun x H' => ∃ k, x = .bl k ∧ QB k H') : tTest te σ H QB := q
theorem s_tB (q : te σ H fun x H' => ∃ k, x = .bl k ∧ QB k H') : tB te σ H QB := q
theorem s_bl {b : Bool} {R : Bool → Prop} (q : R b) : ∃ k, V.bl b = V.bl k ∧ R k := ⟨b, rfl, q⟩
theorem s_and (q : t σ H fun c H1 => if c = true then u σ H1 QB else QB false H1) : tAnd t u σ H QB := q
theorem s_or (q : t σ H fun c H1 => if c = true then QB true H1 else u σ H1 QB) : tOr t u σ H QB := q
theorem s_not (q : t σ H fun c H1 => QB (!c) H1) : tNot t σ H QB := q
theorem s_andV (q : ta σ H fun x H1 => ∃ c, x = .bl c ∧ if c = true then tb σ H1 Q else Q (.bl false) H1) : tAndV ta tb σ H Q := q
theorem s_orV (q : ta σ H fun x H1 => ∃ c, x = .bl c ∧ if c = true then Q (.bl true) H1 else tb σ H1 Q) : tOrV ta tb σ H Q := q
theorem s_notV (q : ta σ H fun x H1 => ∃ c, x = .bl c ∧ Q (.bl (!c)) H1) : tNotV ta σ H Q := q
theorem s_ifE (q : t σ H fun c H1 => if c = true then ta σ H1 Q else tb σ H1 Q) : tIf t ta tb σ H Q := q
theorem i_d [Decidable p] (h1 : p → A) (h2 : ¬ p → B) : if decide p = true then A else B := by
  by_cases h : p
  · rw [if_pos (decide_eq_true h)]
    exact h1 h
  · rw [if_neg (fun z => h (of_decide_eq_true z))]
    exact h2 h
theorem i_n [Decidable p] (h1 : ¬ p → A) (h2 : p → B) : if (!decide p) = true then A else B := by
  by_cases h : p
  · rw [decide_eq_true h]
    exact h2 h
  · rw [decide_eq_false h]
    exact h1 h
theorem i_t (h : A) : if true = true then A else B := by
  rw [if_pos rfl]
  exact h
theorem i_f (h : B) : if false = true then A else B := by
  rw [if_neg Bool.false_ne_true]
  exact h
theorem i_nt (h : B) : if (!true) = true then A else B := i_f h
theorem i_nf (h : A) : if (!false) = true then A else B := i_t h
theorem i_dt [Decidable p] (hp : p) (h : A) : if decide p = true then A else B := i_d (fun _ => h) (fun n => absurd hp n)
theorem i_df [Decidable p] (hp : ¬ p) (h : B) : if decide p = true then A else B := i_d (fun z => absurd z hp) (fun _ => h)
theorem i_ndt [Decidable p] (hp : p) (h : B) : if (!decide p) = true then A else B := i_n (fun n => absurd hp n) (fun _ => h)
/-- calls, displays, slices -/
theorem s_nil {QA : List V → Hp → Prop} (q : QA [] H) : tNil σ H QA := q
theorem s_cons {tr : TA} {QA : List V → Hp → Prop} (q : ta σ H fun x H1 => tr σ H1 fun xs H2 => QA (x :: xs) H2) : tCons ta tr σ H QA := q
theorem s_call {sp : Sp} {E : XK} {tr : TA} (q : tr σ H fun vs H1 => sp vs H1 Q E) : tCall sp [] E tr σ H Q := by
  have e : (fun (vs : List V) H1 => sp (vs ++ []) H1 Q E) = fun vs H1 => sp vs H1 Q E := by
    funext vs H1
    rw [List.append_nil]
  show tr σ H fun vs H1 => sp (vs ++ []) H1 Q E
  rw [e]
  exact q
theorem s_CB {r : List V → Hp → VK → Prop} {tr : TA} (q : tr σ H fun vs H1 => r vs H1 Q) : tCB r tr σ H Q := q
noncomputable def NewL (xs : List V) (H : Hp) (Q : VK) : Prop := xs.length ≤ sizeLine ∧ ∀ p, H p = none → Q (.ref p) (upd H p (.lst xs))
noncomputable def NewT (xs : List V) (H : Hp) (Q : VK) : Prop := xs.length ≤ sizeLine ∧ ∀ p, H p = none → Q (.ref p) (upd H p (.tup xs))
noncomputable def NewRg (a b : Int) (H : Hp) (Q : VK) : Prop := RgOk a b ∧ ∀ p, H p = none → Q (.ref p) (upd H p (.lst (rgV a b)))
theorem s_lst {tr : TA} (q : tr σ H fun xs H1 => NewL xs H1 Q) : tLst tr σ H Q := q
theorem s_tup {tr : TA} (q : tr σ H fun xs H1 => NewT xs H1 Q) : tTup tr σ H Q := q
theorem s_lenL {a : Addr} {xs : List V} (h : SqL K H a xs) (q : Q (.int (xs.length : Int)) H) : rLen K [.ref a] H Q := .inl ⟨a, xs, rfl, .inl h, q⟩
theorem s_lenM {α : Type} {f : α → V} {l : List α} {a : Addr} (h : SqL K H a (l.map f)) (q : Q (.int (l.length : Int)) H) : rLen K [.ref a] H Q := .inl ⟨a, _, rfl, .inl h, by rw [List.length_map]; exact q⟩
theorem s_ixI {l : List Int} {a : Addr} {i : Int} (h : SqL K H a (l.map V.int)) (h0 : 0 ≤ i ∧ i < l.length) (q : ∀ v, l[i.toNat]? = some v → Q (.int v) H) : rIx K (.ref a) (.int i) H Q := by
  have hl : i.toNat < l.length := by omega
  exact .inl ⟨a, _, i, _, rfl, rfl, h, atI_lt h0.1 (by rw [List.getElem?_map, List.getElem?_eq_getElem hl]; rfl), q _ (List.getElem?_eq_getElem hl)⟩
theorem s_ix3 {a : Addr} {x y z i : Int} (h : SqL K H a [.int x, .int y, .int z]) (h0 : 0 ≤ i ∧ i < 3) (q : ∀ v, (i = 0 ∧ v = x ∨ i = 1 ∧ v = y ∨ i = 2 ∧ v = z) → Q (.int v) H) : rIx K (.ref a) (.int i) H Q := by
  have : i = 0 ∨ i = 1 ∨ i = 2 := by omega
  rcases this with rfl | rfl | rfl
  · exact .inl ⟨a, _, 0, _, rfl, rfl, h, rfl, q _ (.inl ⟨rfl, rfl⟩)⟩
  · exact .inl ⟨a, _, 1, _, rfl, rfl, h, rfl, q _ (.inr (.inl ⟨rfl, rfl⟩))⟩
  · exact .inl ⟨a, _, 2, _, rfl, rfl, h, rfl, q _ (.inr (.inr ⟨rfl, rfl⟩))⟩
theorem s_lenS {z : Str} (h : z.length ≤ 100000) (q : Q (.int (z.length : Int)) H) : rLen K [.str z] H Q := .inr ⟨z, rfl, sz_of h, q⟩
theorem s_sl {r : V → Option Int → Option Int → Hp → VK → Prop} {tl th : TO} (q : te σ H fun x H1 => tl σ H1 fun l H2 => th σ H2 fun u H3 => r x l u H3 Q) : tSl r te tl th σ H Q := q
theorem s_np {QO : Option Int → Hp → Prop} (q : QO none H) : tNoPart σ H QO := q
theorem s_part {QO : Option Int → Hp → Prop} (q : te σ H fun x H1 => ∃ i, x = .int i ∧ QO (some i) H1) : tPart te σ H QO := q
theorem s_int {i : Int} {R : Int → Prop} (q : R i) : ∃ k, V.int i = V.int k ∧ R k := ⟨i, rfl, q⟩
theorem s_BM {T : String} {r : V → List V → Hp → VK → Prop} {tr : TA} (q : ta σ H fun x H1 => tyV K T x H1 ∧ tr σ H1 fun xs H2 => r x xs H2 Q) : tBM K T r ta tr σ H Q := q
theorem s_tyL {a : Addr} {xs : List V} {R : Prop} (h : SqL K H a xs) (q : R) : tyV K "list" (.ref a) H ∧ R := ⟨Or.inl ⟨rfl, xs, h⟩, q⟩
/-- statements -/
theorem s_seq {t u : TS} (q : t { D with nx := u D } σ H) : tSeq t u D σ H := q
theorem s_cut {t u : TS} (Mid : L2.St → Hp → Prop) (h : t { D with nx := Mid } σ H) (q : ∀ σ' H', Mid σ' H' → u D σ' H') : Evl.tCut t u D σ H := ⟨Mid, h, q⟩
theorem s_next (q : D.nx σ H) : tNext D σ H := q
theorem s_drop (q : te σ H fun _ H1 => D.nx σ H1) : tDrop te D σ H := q
theorem s_ret (q : te σ H D.rt) : tRet te D σ H := q
theorem s_if {t u : TS} {c : TT} (q : c σ H fun b H1 => if b = true then t D σ H1 else u D σ H1) : tIfS c t u D σ H := q
theorem s_asg {g : TG} (q : te σ H fun x H1 => g x σ H1 D.nx) : tAsg te g D σ H := q
theorem s_gname {i : Nat} {R : L2.St → Hp → Prop} (q : R (σ.set i (some v)) H) : gName i v σ H R := q
theorem s_gsub {to ti : TE} {ts : TSet} {R : L2.St → Hp → Prop} (q : to σ H fun o H1 => ti σ H1 fun i H2 => ts o i v H2 fun H3 => R σ H3) : gSub to ti ts v σ H R := q
theorem s_ipI {f : Int → Int → Int} {i j : Int} (q : Q (.int (f i j)) H) : ipI f (.int i) (.int j) H Q := ⟨i, j, rfl, rfl, q⟩
theorem s_augS {to ti : TE} {tget : V → V → Hp → VK → Prop} {tip : TIp} {tset : TSet}
    (q : to σ H fun o H1 => ti σ H1 fun i H2 => tget o i H2 fun x H3 => te σ H3 fun y H4 => tip x y H4 fun z H5 => tset o i z H5 fun H6 => D.nx σ H6) : tAugS to ti te tget tip tset D σ H := q
theorem s_max2 {i j : Int} (q : Q (.int (max i j)) H) : rMax2 [.int i, .int j] H Q := ⟨i, j, rfl, q⟩
theorem s_min2 {i j : Int} (q : Q (.int (min i j)) H) : rMin2 [.int i, .int j] H Q := ⟨i, j, rfl, q⟩
theorem s_abs {i : Int} (q : Q (.int (if i < 0 then -i else i)) H) : rAbs [.int i] H Q := ⟨i, rfl, q⟩
theorem s_int1b {b : Bool} (q : Q (.int (if b then 1 else 0)) H) : rInt1 [.bl b] H Q := .inr ⟨b, rfl, q⟩
theorem s_isiI {n : String} {i : Int} {b : Bool} (h : kitB "int" n = some b) (q : Q (.bl b) H) : rIsi K [.int i, .ty n] H Q := ⟨.int i, .ty n, _, _, b, rfl, .ty n, .base (.int i), kit_ty h, q⟩
theorem s_isiB {n : String} {i : Bool} {b : Bool} (h : kitB "bool" n = some b) (q : Q (.bl b) H) : rIsi K [.bl i, .ty n] H Q := ⟨.bl i, .ty n, _, _, b, rfl, .ty n, .base (.bl i), kit_ty h, q⟩
theorem s_isiS {n : String} {i : Str} {b : Bool} (h : kitB "str" n = some b) (q : Q (.bl b) H) : rIsi K [.str i, .ty n] H Q := ⟨.str i, .ty n, _, _, b, rfl, .ty n, .base (.str i), kit_ty h, q⟩
theorem s_isiN {n : String} {b : Bool} (h : kitB "NoneType" n = some b) (q : Q (.bl b) H) : rIsi K [.non, .ty n] H Q := ⟨.non, .ty n, _, _, b, rfl, .ty n, .base .non, kit_ty h, q⟩
theorem ty_sq {a : Addr} {xs : List V} (h : SqL K H a xs) : TyX K H (.ref a) (.type "list") := by
  rcases h with (h | ⟨o, h⟩) | ⟨o, its, n, hk, hc, _⟩
  · exact .base (.lst h)
  · exact .base (.frz h)
  · exact .kList hk hc
theorem ty_st {a : Addr} {xs : List V} (h : SqT K H a xs) : TyX K H (.ref a) (.type "tuple") := by
  rcases h with (h | ⟨o, h⟩) | ⟨o, its, n, hk, hc, _⟩
  · exact .base (.tup h)
  · exact .fTuple h
  · exact .kTuple hk hc
theorem s_isiL {n : String} {a : Addr} {xs : List V} {b : Bool} (hs : SqL K H a xs) (h : kitB "list" n = some b) (q : Q (.bl b) H) : rIsi K [.ref a, .ty n] H Q := ⟨.ref a, .ty n, _, _, b, rfl, .ty n, ty_sq hs, kit_ty h, q⟩
theorem s_isiT {n : String} {a : Addr} {xs : List V} {b : Bool} (hs : SqT K H a xs) (h : kitB "tuple" n = some b) (q : Q (.bl b) H) : rIsi K [.ref a, .ty n] H Q := ⟨.ref a, .ty n, _, _, b, rfl, .ty n, ty_st hs, kit_ty h, q⟩
theorem k_ii : kitB "int" "int" = some true := by decide +kernel
theorem k_ib : kitB "int" "bool" = some false := by decide +kernel
end

section
variable {K : PySem.W.Frag} {σ : L2.St} {H : Hp} {ta tb tl te : TE} {tt : TT} {D : Ends} {Q : VK} {g : TG} {ts : TS} {vs : List Nat}
theorem s_wp {A B : L2.St} {R : Prop} (h : wipe A vs = wipe B vs) (q : R) : wipe A vs = wipe B vs ∧ R := ⟨h, q⟩
/-! lists of a range -/
/-! loops: what a for asks, and how it is answered by an invariant -/
noncomputable def ForJ (g : TG) (tb : TS) (D : Ends) (σ : L2.St) (J : It) (H1 : Hp) : Prop := tFor (fun _ H R => R J H) g tb D σ H1
noncomputable def ForL (K : PySem.W.Frag) (g : TG) (tb : TS) (D : Ends) (σ : L2.St) (x : V) (H1 : Hp) : Prop := ∃ a, x = .ref a ∧ (∃ xs, SqL K H1 a xs) ∧ ForJ g tb D σ (Itl K a) H1
noncomputable def ForT (K : PySem.W.Frag) (g : TG) (tb : TS) (D : Ends) (σ : L2.St) (x : V) (H1 : Hp) : Prop := ∃ a, x = .ref a ∧ (∃ xs, SqT K H1 a xs) ∧ ForJ g tb D σ (Itt K a) H1
noncomputable def ForR1 (g : TG) (tb : TS) (D : Ends) (σ : L2.St) (vs : List V) (H1 : Hp) : Prop := ∃ j : Int, vs = [.int j] ∧ -(2 ^ 62) ≤ j ∧ j < 2 ^ 62 ∧ ForJ g tb D σ (Itr 0 j.toNat) H1
noncomputable def ForR2 (g : TG) (tb : TS) (D : Ends) (σ : L2.St) (vs : List V) (H1 : Hp) : Prop := ∃ i j : Int, vs = [.int i, .int j] ∧ (-(2 ^ 62) ≤ i ∧ i < 2 ^ 62 ∧ -(2 ^ 62) ≤ j ∧ j < 2 ^ 62) ∧ ForJ g tb D σ (Itr i (j - i).toNat) H1
noncomputable def ForE (K : PySem.W.Frag) (g : TG) (tb : TS) (D : Ends) (σ : L2.St) (vs : List V) (H1 : Hp) : Prop := ∃ a xs, vs = [.ref a] ∧ SqL K H1 a xs ∧ ForJ g tb D σ (Ite K a) H1
noncomputable def ForZ (K : PySem.W.Frag) (g : TG) (tb : TS) (D : Ends) (σ : L2.St) (vs : List V) (H1 : Hp) : Prop := ∃ a b xs ys, vs = [.ref a, .ref b] ∧ SqL K H1 a xs ∧ SqL K H1 b ys ∧ ForJ g tb D σ (Itz K a b) H1
noncomputable def ForS (g : TG) (tb : TS) (D : Ends) (σ : L2.St) (v : V) (H1 : Hp) : Prop := ∃ x, v = .str x ∧ ForJ g tb D σ (Its x) H1
theorem s_forL (q : tl σ H fun x H1 => ForL K g ts D σ x H1) : tFor (iList K tl) g ts D σ H := q
theorem s_forT (q : tl σ H fun x H1 => ForT K g ts D σ x H1) : tFor (iTup K tl) g ts D σ H := q
theorem s_forR1 {ta : TA} (q : ta σ H fun x H1 => ForR1 g ts D σ x H1) : tFor (iRng1 ta) g ts D σ H := q
theorem s_forS (q : te σ H fun x H1 => ForS g ts D σ x H1) : tFor (iStr te) g ts D σ H := q
theorem u_forL {a : Addr} {xs : List V} (Pv : Nat → L2.St → Hp → Prop) (h : SqL K H a xs) (h0 : Pv 0 σ H) (hl : ∀ i σ H, i ≤ xs.length → Pv i σ H → SqL K H a xs)
    (hs : ∀ i x σ H, xs[i]? = some x → Pv i σ H → g x σ H fun σ2 H2 => ts { D with nx := Pv (i + 1), ct := Pv (i + 1), bk := D.nx } σ2 H2) (hd : ∀ σ H, Pv xs.length σ H → D.nx σ H) : ForL K g ts D σ (.ref a) H :=
  ⟨a, rfl, ⟨xs, h⟩, for_list Pv h0 hl hs hd⟩
theorem u_forT {a : Addr} {xs : List V} (Pv : Nat → L2.St → Hp → Prop) (h : SqT K H a xs) (h0 : Pv 0 σ H) (hl : ∀ i σ H, i ≤ xs.length → Pv i σ H → SqT K H a xs)
    (hs : ∀ i x σ H, xs[i]? = some x → Pv i σ H → g x σ H fun σ2 H2 => ts { D with nx := Pv (i + 1), ct := Pv (i + 1), bk := D.nx } σ2 H2) (hd : ∀ σ H, Pv xs.length σ H → D.nx σ H) : ForT K g ts D σ (.ref a) H :=
  ⟨a, rfl, ⟨xs, h⟩, for_tup Pv h0 hl hs hd⟩
theorem u_forR1 {n : Int} (Pv : Nat → L2.St → Hp → Prop) (hn : -1000000000000 ≤ n ∧ n ≤ 1000000000000) (h0 : Pv 0 σ H)
    (hs : ∀ (i : Nat) σ H, (i : Int) < n → Pv i σ H → g (.int (i : Int)) σ H fun σ2 H2 => ts { D with nx := Pv (i + 1), ct := Pv (i + 1), bk := D.nx } σ2 H2) (hd : ∀ σ H, Pv n.toNat σ H → D.nx σ H) : ForR1 g ts D σ [.int n] H := by
  have e62 : (2 : Int) ^ 62 = 4611686018427387904 := by decide
  refine ⟨n, rfl, by omega, by omega, for_range (lo := 0) (n := n.toNat) Pv h0 (fun i σ H hi p => ?_) hd⟩
  have e : (0 : Int) + (i : Int) = (i : Int) := Int.zero_add _
  rw [e]
  exact hs i σ H (by omega) p
theorem u_while {c : TT} (Pv : Nat → L2.St → Hp → Prop) (m0 : Nat) (h0 : Pv m0 σ H)
    (hs : ∀ m σ H, Pv m σ H → c σ H fun b H1 => if b = true then ∃ N : L2.St → Hp → Prop, (∀ σ' H', N σ' H' → ∃ m', m' < m ∧ Pv m' σ' H') ∧ ts { D with nx := N, ct := N, bk := D.nx } σ H1 else D.nx σ H1) : tWhile c ts D σ H := ⟨Pv, ⟨m0, h0⟩, hs⟩
theorem w_body {m : Nat} {Pv : Nat → L2.St → Hp → Prop} {rt : VK} {bk : L2.St → Hp → Prop} (q : ts ⟨fun σ' H' => ∃ m', m' < m ∧ Pv m' σ' H', rt, bk, fun σ' H' => ∃ m', m' < m ∧ Pv m' σ' H'⟩ σ H) :
    ∃ N : L2.St → Hp → Prop, (∀ σ' H', N σ' H' → ∃ m', m' < m ∧ Pv m' σ' H') ∧ ts ⟨N, rt, bk, N⟩ σ H := ⟨_, fun _ _ h => h, q⟩
/-! comprehensions -/
noncomputable def LcJ (g : TG) (tt : TT) (te : TE) (vs : List Nat) (σ : L2.St) (J : It) (H1 : Hp) (Q : VK) : Prop := tLc (fun _ H R => R J H) g tt te vs σ H1 Q
noncomputable def LcL (K : PySem.W.Frag) (g : TG) (tt : TT) (te : TE) (vs : List Nat) (σ : L2.St) (x : V) (H1 : Hp) (Q : VK) : Prop := ∃ a, x = .ref a ∧ (∃ xs, SqL K H1 a xs) ∧ LcJ g tt te vs σ (Itl K a) H1 Q
noncomputable def LcT (K : PySem.W.Frag) (g : TG) (tt : TT) (te : TE) (vs : List Nat) (σ : L2.St) (x : V) (H1 : Hp) (Q : VK) : Prop := ∃ a, x = .ref a ∧ (∃ xs, SqT K H1 a xs) ∧ LcJ g tt te vs σ (Itt K a) H1 Q
noncomputable def LcR1 (g : TG) (tt : TT) (te : TE) (vs : List Nat) (σ : L2.St) (x : List V) (H1 : Hp) (Q : VK) : Prop := ∃ j : Int, x = [.int j] ∧ -(2 ^ 62) ≤ j ∧ j < 2 ^ 62 ∧ LcJ g tt te vs σ (Itr 0 j.toNat) H1 Q
noncomputable def LcR2 (g : TG) (tt : TT) (te : TE) (vs : List Nat) (σ : L2.St) (x : List V) (H1 : Hp) (Q : VK) : Prop := ∃ i j : Int, x = [.int i, .int j] ∧ (-(2 ^ 62) ≤ i ∧ i < 2 ^ 62 ∧ -(2 ^ 62) ≤ j ∧ j < 2 ^ 62) ∧ LcJ g tt te vs σ (Itr i (j - i).toNat) H1 Q
noncomputable def LcE (K : PySem.W.Frag) (g : TG) (tt : TT) (te : TE) (vs : List Nat) (σ : L2.St) (x : List V) (H1 : Hp) (Q : VK) : Prop := ∃ a xs, x = [.ref a] ∧ SqL K H1 a xs ∧ LcJ g tt te vs σ (Ite K a) H1 Q
noncomputable def LcZ (K : PySem.W.Frag) (g : TG) (tt : TT) (te : TE) (vs : List Nat) (σ : L2.St) (x : List V) (H1 : Hp) (Q : VK) : Prop := ∃ a b xs ys, x = [.ref a, .ref b] ∧ SqL K H1 a xs ∧ SqL K H1 b ys ∧ LcJ g tt te vs σ (Itz K a b) H1 Q
theorem s_lcL (q : tl σ H fun x H1 => LcL K g tt te vs σ x H1 Q) : tLc (iList K tl) g tt te vs σ H Q := q
theorem s_lcR1 {ta : TA} (q : ta σ H fun x H1 => LcR1 g tt te vs σ x H1 Q) : tLc (iRng1 ta) g tt te vs σ H Q := q
theorem s_lcZ {ta : TA} (q : ta σ H fun x H1 => LcZ K g tt te vs σ x H1 Q) : tLc (iZip K ta) g tt te vs σ H Q := q
/-- the turns of a comprehension: what is kept stands in the relation R to its item; R is told at any heap that has all but the list that is made -/
theorem lc_turns {α : Type} {J : It} (l : List α) (p : α → Bool) (R : α → V → Hp → Prop) (mono : ∀ x y H1 H2, Ex H1 H2 → R x y H1 → R x y H2) (hz : l.length ≤ 40000)
    (hgo : ∀ i H', i < l.length → Ex H H' → J.go i H') (hst : ∀ H', Ex H H' → J.stop l.length H')
    (turn : ∀ D, H D = none → ∀ (i : Nat) x, l[i]? = some x → ∀ v H0 H', Ex H H0 → (∃ o, H0 D = some o) → J.yld i H0 v H' → Ex H0 H' ∧
      ∀ (A : VK) (B : Hp → Prop), (p x = true → ∀ y H4, Ex H' H4 → (∀ Z, ExM D H4 Z → Ex H Z → R x y Z) → A y H4) → (p x = false → ∀ H3, Ex H' H3 → B H3) →
        g v (wipe σ vs) H' fun σ2 H2 => wipe σ2 vs = wipe σ vs ∧ tt σ2 H2 fun b H3 => if b = true then te σ2 H3 A else B H3)
    (fin : ∀ D H' ys, H D = none → Ex H H' → H' D = some (.lst ys) → Paired (fun x y => R x y H') (l.filter p) ys → Q (.ref D) H') : LcJ g tt te vs σ J H Q := by
  intro D hD
  refine ⟨fun i m H' => m = l.length - i ∧ i ≤ l.length ∧ Ex H H' ∧ ∃ ys, H' D = some (.lst ys) ∧ ys.length ≤ i ∧ ∃ Z, Z D = none ∧ Ex Z H' ∧ ExM D H' Z ∧ Paired (fun x y => R x y Z) ((l.take i).filter p) ys,
    ⟨l.length, by omega, by omega, Ex.new hD, [], upd_same, Nat.le_refl _, H, hD, Ex.new hD, fun b o n e => by rw [upd_ne n] at e; exact e, .nil⟩, ?_⟩
  rintro i m H' ⟨rfl, hi, e, ys, hys, hly, Z, zD, zE, zM, pr⟩
  by_cases hlt : i < l.length
  · refine .inr ⟨hgo i H' hlt e, fun H'' => i + 1 ≤ l.length ∧ Ex H H'' ∧ ∃ ys, H'' D = some (.lst ys) ∧ ys.length ≤ i + 1 ∧ ∃ Z, Z D = none ∧ Ex Z H'' ∧ ExM D H'' Z ∧ Paired (fun x y => R x y Z) ((l.take (i + 1)).filter p) ys,
      fun H'' q => ⟨l.length - (i + 1), by omega, rfl, q⟩, fun v H2 hy => ?_⟩
    have ei : l[i]? = some l[i] := List.getElem?_eq_getElem hlt
    have e1 : l.take (i + 1) = l.take i ++ [l[i]] := by rw [List.take_add_one, ei]; rfl
    obtain ⟨ey, tn⟩ := turn D hD i _ ei v H' H2 e ⟨_, hys⟩ hy
    refine tn _ _ (fun hp y H4 e4 r => ?_) (fun hp H3 e3 => ?_)
    · have e5 := ey.trans e4
      have eD : Ex H (upd H4 D (.lst (ys ++ [y]))) := (e.trans e5).mut hD
      let Z4 : Hp := fun b => if b = D then none else H4 b
      have k1 : Z4 D = none := if_pos rfl
      have k2 : ExM D H4 Z4 := fun b o n q => by
        show (if b = D then none else H4 b) = some o
        rw [if_neg n]
        exact q
      have k3 : Ex Z Z4 := fun b o q => k2 b o (ne_of_none q zD) (e5 _ _ (zE b o q))
      have k4 : Ex H Z4 := fun b o q => k2 b o (ne_of_none q hD) (e5 _ _ (e b o q))
      refine ⟨ys, e5 _ _ hys, sz_lt (by omega), by omega, eD, _, upd_same, by rw [List.length_append]; show _ + 1 ≤ _; omega, Z4, k1, fun b o q => ?_, fun b o n q => ?_, ?_⟩
      · have nb : b ≠ D := ne_of_none q k1
        rw [upd_ne nb]
        have q' : (if b = D then none else H4 b) = some o := q
        rw [if_neg nb] at q'
        exact q'
      · rw [upd_ne n] at q
        exact k2 b o n q
      · rw [e1, List.filter_append, List.filter_cons, if_pos hp]
        exact Paired.snoc (Paired.mapP pr fun a b r => mono a b _ _ k3 r) (r Z4 k2 k4)
    · refine ⟨by omega, e.trans (ey.trans e3), ys, (ey.trans e3) _ _ hys, by omega, ?_⟩
      let Z4 : Hp := fun b => if b = D then none else H3 b
      have k1 : Z4 D = none := if_pos rfl
      have k2 : ExM D H3 Z4 := fun b o n q => by
        show (if b = D then none else H3 b) = some o
        rw [if_neg n]
        exact q
      have k3 : Ex Z Z4 := fun b o q => k2 b o (ne_of_none q zD) ((ey.trans e3) _ _ (zE b o q))
      refine ⟨Z4, k1, fun b o q => ?_, k2, ?_⟩
      · have nb : b ≠ D := ne_of_none q k1
        have q' : (if b = D then none else H3 b) = some o := q
        rw [if_neg nb] at q'
        exact q'
      · rw [e1, List.filter_append, List.filter_cons, if_neg (by rw [hp]; exact Bool.false_ne_true)]
        show Paired _ (_ ++ []) _
        rw [List.append_nil]
        exact Paired.mapP pr fun a b r => mono a b _ _ k3 r
  · have ei : i = l.length := by omega
    subst ei
    rw [List.take_length] at pr
    exact .inl ⟨hst H' e, fin D H' ys hD e hys (Paired.mapP pr fun a b r => mono a b _ _ zE r)⟩
theorem pair_map {α β : Type} {F : α → β} : ∀ {l : List α} {ys : List β}, Paired (fun x y => y = F x) l ys → ys = l.map F
  | _, _, .nil => rfl
  | _, _, .cons h t => by rw [h, pair_map t]; rfl
/-- values of a pure element over a list: they hang on the item alone -/
theorem u_lcL {α : Type} {a : Addr} (em : α → V) (l : List α) (p : α → Bool) (F : α → V) (hS : SqL K H a (l.map em)) (hz : l.length ≤ 40000)
    (turn : ∀ x ∈ l, ∀ H', Ex H H' → ∀ (A : VK) (B : Hp → Prop), (p x = true → ∀ H4, Ex H' H4 → A (F x) H4) → (p x = false → ∀ H3, Ex H' H3 → B H3) →
      g (em x) (wipe σ vs) H' fun σ2 H2 => wipe σ2 vs = wipe σ vs ∧ tt σ2 H2 fun b H3 => if b = true then te σ2 H3 A else B H3)
    (fin : ∀ D H', H D = none → Ex H H' → H' D = some (.lst ((l.filter p).map F)) → Q (.ref D) H') : LcL K g tt te vs σ (.ref a) H Q := by
  refine ⟨a, rfl, ⟨_, hS⟩, lc_turns l p (fun x y _ => y = F x) (fun _ _ _ _ _ r => r) hz (fun i H' hi e => ⟨_, em l[i], e.sq hS, by rw [List.getElem?_map, List.getElem?_eq_getElem hi]; rfl⟩) (fun H' e => ⟨_, e.sq hS, by rw [List.length_map]; exact Nat.le_refl _⟩)
    (fun D hD i x hx v H0 H' e _ hy => ?_) (fun D H' ys hD e h pr => fin D H' hD e (by rw [h, pair_map pr]))⟩
  obtain ⟨rfl, fv⟩ := hy
  have ev : v = em x := by
    have q := fv _ (e.sq hS)
    rw [List.getElem?_map, hx] at q
    exact (Option.some.inj q).symm
  subst ev
  exact ⟨Ex.refl _, fun A B h1 h2 => turn x (List.mem_of_getElem? hx) _ e A B (fun hp H4 e4 => h1 hp _ H4 e4 fun _ _ _ => rfl) h2⟩
theorem filter_yes {α : Type} : ∀ l : List α, l.filter (fun _ => true) = l
  | [] => rfl
  | x :: l => by rw [List.filter_cons, if_pos rfl, filter_yes l]
/-- .. without a test -/
theorem u_mapL {α : Type} {a : Addr} (em : α → V) (l : List α) (F : α → V) (hS : SqL K H a (l.map em)) (hz : l.length ≤ 40000)
    (turn : ∀ x ∈ l, ∀ H', Ex H H' → ∀ A : VK, (∀ H4, Ex H' H4 → A (F x) H4) → g (em x) (wipe σ vs) H' fun σ2 H2 => wipe σ2 vs = wipe σ vs ∧ te σ2 H2 A)
    (fin : ∀ D H', H D = none → Ex H H' → H' D = some (.lst (l.map F)) → Q (.ref D) H') : LcL K g tYes te vs σ (.ref a) H Q :=
  u_lcL em l (fun _ => true) F hS hz (fun x hx H' e A B h1 _ => by
    have e2 : (fun (σ2 : L2.St) H2 => wipe σ2 vs = wipe σ vs ∧ tYes σ2 H2 fun b H3 => if b = true then te σ2 H3 A else B H3) = fun σ2 H2 => wipe σ2 vs = wipe σ vs ∧ te σ2 H2 A := by
      funext σ2 H2
      show (_ ∧ if true = true then te σ2 H2 A else B H2) = _
      rw [if_pos rfl]
    rw [e2]
    exact turn x hx H' e A (h1 rfl)) (by rw [filter_yes]; exact fin)
theorem u_mapLI {α : Type} {a : Addr} (em : α → V) (l : List α) (f : α → Int) (hS : SqL K H a (l.map em)) (hz : l.length ≤ 40000)
    (turn : ∀ x ∈ l, ∀ H', Ex H H' → ∀ A : VK, (∀ H4, Ex H' H4 → A (.int (f x)) H4) → g (em x) (wipe σ vs) H' fun σ2 H2 => wipe σ2 vs = wipe σ vs ∧ te σ2 H2 A)
    (fin : ∀ D H', H D = none → Ex H H' → H' D = some (.lst ((l.map f).map V.int)) → Q (.ref D) H') : LcL K g tYes te vs σ (.ref a) H Q :=
  u_mapL em l (fun x => .int (f x)) hS hz turn fun D H' h1 h2 h3 => fin D H' h1 h2 (by rw [h3, List.map_map]; rfl)
end
/-! ### greatest, least, sorted -/
noncomputable def maxI (l : List Int) : Int := match l with | [] => 0 | a :: t => t.foldl max a
noncomputable def minI (l : List Int) : Int := match l with | [] => 0 | a :: t => t.foldl min a
noncomputable def sortI (l : List Int) : List Int := l.mergeSort (fun a b => decide (a ≤ b))
theorem sortI_perm (l : List Int) : (sortI l).Perm l := List.mergeSort_perm l _
theorem sortI_sorted (l : List Int) : (sortI l).Pairwise (· ≤ ·) := (List.pairwise_mergeSort (le := fun a b : Int => decide (a ≤ b)) (fun a b c h1 h2 => decide_eq_true (Int.le_trans (of_decide_eq_true h1) (of_decide_eq_true h2))) (fun a b => by
  rcases Int.le_total a b with h | h
  · rw [decide_eq_true h]; rfl
  · rw [decide_eq_true h, Bool.or_true]) l).imp fun h => of_decide_eq_true h
theorem sortI_of {l l' : List Int} (p : l'.Perm l) (s : l'.Pairwise (· ≤ ·)) : l' = sortI l :=
  List.Perm.eq_of_pairwise (le := fun a b : Int => a ≤ b) (fun a b _ _ h1 h2 => Int.le_antisymm h1 h2) s (sortI_sorted l) (p.trans (sortI_perm l).symm)
/-! ### heaps as letters: the next heap, and what is known of it -/
theorem ex_ap {H H' : Hp} {a : Addr} {o : HO} (e : Ex H H') (h : H a = some o) : H' a = some o := e a o h
theorem exm_ap {H H' : Hp} {h a : Addr} {o : HO} (e : ExM h H H') (n : a ≠ h) (hh : H a = some o) : H' a = some o := e a o n hh
section
variable {K : PySem.W.Frag} {σ : L2.St} {H : Hp} {Q : VK} {v : V} {R : Hp → Prop}
theorem n_lst {xs : List V} (h : xs.length ≤ 100000) (q : ∀ p H', H p = none → Ex H H' → H' p = some (.lst xs) → Q (.ref p) H') : NewL xs H Q := ⟨sz_of h, fun p hp => q p _ hp (Ex.new hp) upd_same⟩
theorem n_tup {xs : List V} (h : xs.length ≤ 100000) (q : ∀ p H', H p = none → Ex H H' → H' p = some (.tup xs) → Q (.ref p) H') : NewT xs H Q := ⟨sz_of h, fun p hp => q p _ hp (Ex.new hp) upd_same⟩
theorem n_slL {a : Addr} {xs : List V} {lo hi : Option Int} (h : SqL K H a xs) (q : ∀ p H', H p = none → Ex H H' → H' p = some (.lst (cutV xs lo hi)) → Q (.ref p) H') : rSlL K (.ref a) lo hi H Q := ⟨a, xs, rfl, h, fun p hp => q p _ hp (Ex.new hp) upd_same⟩
theorem n_cat {a b : Addr} {xs ys : List V} (h1 : H a = some (.lst xs)) (h2 : H b = some (.lst ys)) (hz : xs.length + ys.length ≤ 100000) (q : ∀ p H', H p = none → Ex H H' → H' p = some (.lst (xs ++ ys)) → Q (.ref p) H') : rPlus (.ref a) (.ref b) H Q :=
  .inr (.inl ⟨a, b, xs, ys, rfl, rfl, h1, h2, sz_of hz, fun p hp => q p _ hp (Ex.new hp) upd_same⟩)
theorem n_setL {a : Addr} {xs : List V} {k : Int} {j : Nat} (h : H a = some (.lst xs)) (hk : ixN xs.length k = some j) (q : ∀ H', ExM a H H' → H' a = some (.lst (xs.set j v)) → R H') : rSetL (.ref a) (.int k) v H R := ⟨a, xs, k, j, rfl, rfl, h, hk, q _ ExM.upd upd_same⟩
noncomputable def rRevL (K : PySem.W.Frag) (x : V) (H : Hp) (Q : VK) : Prop := ∃ a xs, x = .ref a ∧ SqL K H a xs ∧ ∀ p, H p = none → Q (.ref p) (upd H p (.lst xs.reverse))
theorem n_app {a : Addr} {xs : List V} (h : H a = some (.lst xs)) (hz : xs.length < 100000) (q : ∀ H', ExM a H H' → H' a = some (.lst (xs ++ [v])) → Q .non H') : rAppend (.ref a) [v] H Q := ⟨a, xs, v, rfl, rfl, h, sz_lt hz, q _ ExM.upd upd_same⟩
end

/-- the cut of a list, of anything -/
noncomputable def cutI {α : Type} (xs : List α) (lo hi : Option Int) : List α := (xs.drop (HT.sIx xs.length 0 lo)).take (HT.sIx xs.length xs.length hi - HT.sIx xs.length 0 lo)
theorem cutV_map {α : Type} (f : α → V) (xs : List α) (lo hi : Option Int) : cutV (xs.map f) lo hi = (cutI xs lo hi).map f := by
  unfold cutV cutI
  rw [List.length_map, ← List.map_drop, ← List.map_take]
theorem cutV_ints (xs : List Int) (lo hi : Option Int) : cutV (xs.map V.int) lo hi = (cutI xs lo hi).map V.int := cutV_map _ _ _ _
theorem cutI_to {α : Type} (xs : List α) {k : Int} (h : 0 ≤ k) : cutI xs none (some k) = xs.take k.toNat := by
  obtain ⟨n, rfl⟩ : ∃ n : Nat, k = (n : Int) := ⟨k.toNat, by omega⟩
  unfold cutI
  rw [HT.sIx_none, HT.sIx_nat, List.drop_zero, Nat.sub_zero, Int.toNat_natCast, List.take_eq_take_iff]
  omega
theorem cutI_from {α : Type} (xs : List α) {k : Int} (h : 0 ≤ k) : cutI xs (some k) none = xs.drop k.toNat := by
  obtain ⟨n, rfl⟩ : ∃ n : Nat, k = (n : Int) := ⟨k.toNat, by omega⟩
  unfold cutI
  rw [HT.sIx_none, HT.sIx_nat, Int.toNat_natCast]
  by_cases hn : n ≤ xs.length
  · rw [Nat.min_eq_left hn, List.take_of_length_le (by rw [List.length_drop]; exact Nat.le_refl _)]
  · rw [Nat.min_eq_right (by omega), Nat.sub_self, List.take_zero, List.drop_of_length_le (by omega)]
theorem cutI_mid {α : Type} (xs : List α) {k m : Int} (h : 0 ≤ k) (h2 : k ≤ m) : cutI xs (some k) (some m) = (xs.drop k.toNat).take (m.toNat - k.toNat) := by
  obtain ⟨n, rfl⟩ : ∃ n : Nat, k = (n : Int) := ⟨k.toNat, by omega⟩
  obtain ⟨r, rfl⟩ : ∃ n : Nat, m = (n : Int) := ⟨m.toNat, by omega⟩
  unfold cutI
  rw [HT.sIx_nat, HT.sIx_nat, Int.toNat_natCast, Int.toNat_natCast]
  by_cases hn : n ≤ xs.length
  · rw [Nat.min_eq_left hn, List.take_eq_take_iff, List.length_drop]
    omega
  · have h3 : min n xs.length = xs.length := Nat.min_eq_right (by omega)
    rw [h3, List.drop_of_length_le (Nat.le_refl _), List.drop_of_length_le (show xs.length ≤ n by omega)]
    simp
section
variable {K : PySem.W.Frag} {H : Hp} {Q : VK} {a : Addr}
theorem first_at : ∀ {ns : List Int} {i : Int}, i ∈ ns → ∃ j : Nat, ns[j]? = some i ∧ ∀ m, m < j → ns[m]? ≠ some i
  | [], i, h => nomatch h
  | n :: ns, i, h => by
    by_cases c : n = i
    · subst c
      exact ⟨0, rfl, fun m hm => absurd hm (Nat.not_lt_zero m)⟩
    · have h' : i ∈ ns := by
        rcases List.mem_cons.mp h with h | h
        · exact absurd h.symm c
        · exact h
      obtain ⟨j, e, f⟩ := first_at h'
      refine ⟨j + 1, e, fun m hm => ?_⟩
      cases m with
      | zero => exact fun z => c (Option.some.inj z)
      | succ m => exact f m (by omega)
theorem s_index {ns : List Int} {i : Int} (h : SqL K H a (ns.map V.int)) (hm : i ∈ ns) (q : ∀ j : Nat, ns[j]? = some i → (∀ m, m < j → ns[m]? ≠ some i) → Q (.int (j : Int)) H) : rIndex K (.ref a) [.int i] H Q := by
  obtain ⟨j, e, f⟩ := first_at hm
  refine ⟨a, _, .int i, j, .int i, rfl, rfl, h, rfl, List.all_eq_true.mpr (fun x hx => ?_), by rw [List.getElem?_map, e]; rfl, ?_, fun m z hm2 hz => ?_, q j e f⟩
  · obtain ⟨n, _, rfl⟩ := List.mem_map.mp hx
    rfl
  · show (i == i) = true
    exact beq_self_eq_true i
  · rw [List.getElem?_map] at hz
    cases e2 : ns[m]? with
    | none => rw [e2] at hz; cases hz
    | some k =>
      rw [e2] at hz
      cases hz
      show (k == i) = false
      rw [beq_eq_false_iff_ne]
      exact fun z => f m hm2 (by rw [e2, z])
theorem s_sum {ns : List Int} (h : SqL K H a (ns.map V.int)) (q : Q (.int ns.sum) H) : rSum K [.ref a] H Q := ⟨a, ns, rfl, h, q⟩
end
theorem inV_ints (i : Int) : ∀ ns : List Int, inV (.int i) (ns.map V.int) = decide (i ∈ ns)
  | [] => rfl
  | n :: ns => by
    have e : inV (.int i) ((n :: ns).map V.int) = (eqV (.int n) (.int i) || inV (.int i) (ns.map V.int)) := rfl
    have e2 : eqV (.int n) (.int i) = decide (n = i) := by
      show (n == i) = _
      exact Bool.beq_eq_decide_eq n i
    rw [e, e2, inV_ints i ns]
    by_cases h : n = i
    · subst h
      simp
    · have h' : ¬ i = n := fun z => h z.symm
      simp [h, h']
theorem flat_ints : ∀ ns : List Int, (ns.map V.int).all flatV = true
  | [] => rfl
  | n :: ns => flat_ints ns
section
variable {K : PySem.W.Frag} {H : Hp} {Q : VK} {a : Addr} {i : Int}
theorem s_niL (ns : List Int) (h : SqL K H a (ns.map V.int)) (q : Q (.bl (decide (i ∉ ns))) H) : rIn K true (.int i) (.ref a) H Q := ⟨a, _, rfl, .inl h, rfl, flat_ints ns, by
  rw [if_pos rfl, inV_ints, ← decide_not]
  exact q⟩
end
theorem cx_K {CX : CXT} {P : Program} {w : World} {K : PySem.W.Frag} {mg : Str → Option Value} {base : Heap} {N : List Str} {x : Str} {sc : Scope} {f : Addr} {cdv : Value} {A : Around} {outer : List Env} {s : Shared} {H : Hp} {E : XK} :
    (cxOf CX P w K mg base N x sc f cdv A outer s H E).nox.K = K := rfl
theorem cx_K2 {CX : CXT} {P : Program} {w : World} {K : PySem.W.Frag} {mg : Str → Option Value} {base : Heap} {N : List Str} {x : Str} {sc : Scope} {f : Addr} {cdv : Value} {A : Around} {outer : List Env} {s : Shared} {H : Hp} {E : XK} :
    (cxOf CX P w K mg base N x sc f cdv A outer s H E).K = K := rfl
/-! ### places -/
/-! ### data with types: what a value is as a thing of plain Lean -/
class Py (α : Type) where
  d : α → PyData
  dep : Nat
  depth : ∀ a, (d a).depth ≤ dep
  can : ∀ a, (d a).canLay0 = true
  eqv : ∀ a b, (PyData.eqv (d a) (d b) = true ↔ a = b)
instance : Py Int := ⟨PyData.int, 0, fun _ => Nat.le_refl _, fun _ => rfl, fun a b => by rw [PyData.eqv]; exact beq_iff_eq⟩
instance : Py Bool := ⟨PyData.bool, 0, fun _ => Nat.le_refl _, fun _ => rfl, fun a b => by rw [PyData.eqv]; exact beq_iff_eq⟩
theorem eqvAll_iff {α : Type} [Py α] : ∀ xs ys : List α, (PyData.eqvAll (xs.map Py.d) (ys.map Py.d) = true ↔ xs = ys)
  | [], [] => by simp [PyData.eqvAll]
  | [], _ :: _ => by simp [PyData.eqvAll]
  | _ :: _, [] => by simp [PyData.eqvAll]
  | x :: xs, y :: ys => by
    rw [List.map_cons, List.map_cons, PyData.eqvAll, Bool.and_eq_true, Py.eqv, eqvAll_iff xs ys, List.cons.injEq]
theorem canAll_of {α : Type} [Py α] : ∀ xs : List α, PyData.canLayAll0 (xs.map Py.d) = true
  | [] => rfl
  | x :: xs => by rw [List.map_cons, PyData.canLayAll0, Py.can, canAll_of xs]; rfl
theorem depthAll_of {α : Type} [Py α] : ∀ xs : List α, PyData.depthAll (xs.map Py.d) ≤ Py.dep α
  | [] => Nat.zero_le _
  | x :: xs => by
    rw [List.map_cons, PyData.depthAll]
    exact Nat.max_le.mpr ⟨Py.depth x, depthAll_of xs⟩
instance {α : Type} [Py α] : Py (List α) := ⟨fun xs => .list (xs.map Py.d), Py.dep α + 1, fun xs => by rw [PyData.depth]; exact Nat.succ_le_succ (depthAll_of xs), fun xs => by rw [PyData.canLay0]; exact canAll_of xs, fun a b => by rw [PyData.eqv]; exact eqvAll_iff a b⟩
instance {α β : Type} [Py α] [Py β] : Py (α × β) := ⟨fun p => .tuple [Py.d p.1, Py.d p.2], max (Py.dep α) (Py.dep β) + 1, fun p => by
    simp only [PyData.depth, PyData.depthAll]
    have h1 := Py.depth p.1
    have h2 := Py.depth p.2
    omega, fun p => by simp only [PyData.canLay0, PyData.canLayAll0, Py.can]; rfl, fun a b => by
    simp only [PyData.eqv, PyData.eqvAll, Bool.and_true, Bool.and_eq_true, Py.eqv]
    exact ⟨fun h => Prod.ext h.1 h.2, fun h => by rw [h]; exact ⟨rfl, rfl⟩⟩⟩
/-- a triple | four, as one tuple -/
structure T3 (α β γ : Type) where
  a : α
  b : β
  c : γ
  deriving DecidableEq
structure T4 (α β γ δ : Type) where
  a : α
  b : β
  c : γ
  d : δ
  deriving DecidableEq
instance {α β γ : Type} [Py α] [Py β] [Py γ] : Py (T3 α β γ) := ⟨fun p => .tuple [Py.d p.a, Py.d p.b, Py.d p.c], max (Py.dep α) (max (Py.dep β) (Py.dep γ)) + 1, fun p => by
    simp only [PyData.depth, PyData.depthAll]
    have h1 := Py.depth p.a
    have h2 := Py.depth p.b
    have h3 := Py.depth p.c
    omega, fun p => by simp only [PyData.canLay0, PyData.canLayAll0, Py.can]; rfl, fun a b => by
    obtain ⟨a1, a2, a3⟩ := a
    obtain ⟨b1, b2, b3⟩ := b
    simp only [PyData.eqv, PyData.eqvAll, Bool.and_true, Bool.and_eq_true, Py.eqv, T3.mk.injEq]⟩
instance {α β γ δ : Type} [Py α] [Py β] [Py γ] [Py δ] : Py (T4 α β γ δ) := ⟨fun p => .tuple [Py.d p.a, Py.d p.b, Py.d p.c, Py.d p.d], max (Py.dep α) (max (Py.dep β) (max (Py.dep γ) (Py.dep δ))) + 1, fun p => by
    simp only [PyData.depth, PyData.depthAll]
    have h1 := Py.depth p.a
    have h2 := Py.depth p.b
    have h3 := Py.depth p.c
    have h4 := Py.depth p.d
    omega, fun p => by simp only [PyData.canLay0, PyData.canLayAll0, Py.can]; rfl, fun a b => by
    obtain ⟨a1, a2, a3, a4⟩ := a
    obtain ⟨b1, b2, b3, b4⟩ := b
    simp only [PyData.eqv, PyData.eqvAll, Bool.and_true, Bool.and_eq_true, Py.eqv, T4.mk.injEq]⟩
theorem eqv_dec {α : Type} [Py α] [DecidableEq α] (a b : α) : PyData.eqv (Py.d a) (Py.d b) = decide (a = b) := by
  by_cases h : a = b
  · rw [decide_eq_true h]
    exact (Py.eqv a b).mpr h
  · rw [decide_eq_false h]
    cases e : PyData.eqv (Py.d a) (Py.d b) with
    | true => exact absurd ((Py.eqv a b).mp e) h
    | false => rfl
theorem shaped_of {α : Type} [Py α] (a : α) (h : Py.dep α ≤ 64) : SeqAt.shaped (Py.d a) = true := by
  unfold SeqAt.shaped
  rw [Py.can, decide_eq_true (Nat.le_trans (Py.depth a) h)]
  rfl
/-- the value v stands in H as the thing x -/
noncomputable abbrev Is (K : PySem.W.Frag) (H : Hp) {α : Type} [Py α] (v : V) (x : α) : Prop := Dp K H v (Py.d x)
mutual
theorem Dp.ex {K : PySem.W.Frag} {H H' : Hp} (e : Ex H H') : ∀ {v : V} {d : PyData}, Dp K H v d → Dp K H' v d
  | _, _, .non => .non
  | _, _, .bl b => .bl b
  | _, _, .int i => .int i
  | _, _, .str x => .str x
  | _, _, .lst s a => .lst (e.sq s) (DpAll.ex e a)
  | _, _, .tup s a => .tup (e.st s) (DpAll.ex e a)
theorem DpAll.ex {K : PySem.W.Frag} {H H' : Hp} (e : Ex H H') : ∀ {vs : List V} {ds : List PyData}, DpAll K H vs ds → DpAll K H' vs ds
  | _, _, .nil => .nil
  | _, _, .cons a r => .cons (Dp.ex e a) (DpAll.ex e r)
end
theorem Is.ex {K : PySem.W.Frag} {H H' : Hp} {α : Type} [Py α] {v : V} {x : α} (e : Ex H H') (h : Is K H v x) : Is K H' v x := Dp.ex e h
theorem Is.int {K : PySem.W.Frag} {H : Hp} (i : Int) : Is K H (.int i) i := Dp.int i
theorem Is.pair {K : PySem.W.Frag} {H : Hp} {α β : Type} [Py α] [Py β] {a : Addr} {v w : V} {x : α} {y : β} (h : SqT K H a [v, w]) (h1 : Is K H v x) (h2 : Is K H w y) : Is K H (.ref a) (x, y) := .tup h (.cons h1 (.cons h2 .nil))
/-- the items of a list of data -/
theorem Is.list {K : PySem.W.Frag} {H : Hp} {α : Type} [Py α] {v : V} {xs : List α} (h : Is K H v xs) : ∃ a vs, v = .ref a ∧ SqL K H a vs ∧ Paired (fun v x => Is K H v x) vs xs := by
  have go : ∀ (vs : List V) (ys : List α), DpAll K H vs (ys.map Py.d) → Paired (fun v x => Is K H v x) vs ys := by
    intro vs ys
    induction ys generalizing vs with
    | nil => intro h; cases h; exact .nil
    | cons y ys ih =>
      intro h
      cases h with
      | cons h1 h2 => exact .cons h1 (ih _ h2)
  have h' : Dp K H v (.list (xs.map Py.d)) := h
  cases h' with
  | lst s a => exact ⟨_, _, rfl, s, go _ _ a⟩
theorem Is.of_list {K : PySem.W.Frag} {H : Hp} {α : Type} [Py α] {a : Addr} {vs : List V} {xs : List α} (s : SqL K H a vs) (h : Paired (fun v x => Is K H v x) vs xs) : Is K H (.ref a) xs := by
  have go : ∀ {vs : List V} {ys : List α}, Paired (fun v x => Is K H v x) vs ys → DpAll K H vs (ys.map Py.d) := by
    intro vs ys h
    induction h with
    | nil => exact .nil
    | cons h1 _ ih => exact .cons h1 ih
  exact .lst s (go h)
theorem Is.pair_of {K : PySem.W.Frag} {H : Hp} {α β : Type} [Py α] [Py β] {v : V} {p : α × β} (h : Is K H v p) : ∃ a x y, v = .ref a ∧ SqT K H a [x, y] ∧ Is K H x p.1 ∧ Is K H y p.2 := by
  have h' : Dp K H v (.tuple [Py.d p.1, Py.d p.2]) := h
  cases h' with
  | tup s a =>
    cases a with
    | cons h1 r => cases r with
      | cons h2 r2 => cases r2; exact ⟨_, _, _, rfl, s, h1, h2⟩
theorem Is.int_of {K : PySem.W.Frag} {H : Hp} {v : V} {i : Int} (h : Is K H v i) : v = .int i := by
  have h' : Dp K H v (.int i) := h
  cases h'
  rfl
theorem s_eqP {α : Type} [Py α] [DecidableEq α] {K : PySem.W.Frag} {H : Hp} {Q : VK} {v w : V} {x y : α} (h1 : Is K H v x) (h2 : Is K H w y) (hd : Py.dep α ≤ 64) (q : Q (.bl (decide (x = y))) H) : rEqA K v w H Q :=
  .inr ⟨_, _, h1, h2, shaped_of x hd, shaped_of y hd, by rw [eqv_dec]; exact q⟩
theorem s_neP {α : Type} [Py α] [DecidableEq α] {K : PySem.W.Frag} {H : Hp} {Q : VK} {v w : V} {x y : α} (h1 : Is K H v x) (h2 : Is K H w y) (hd : Py.dep α ≤ 64) (q : Q (.bl (decide (x ≠ y))) H) : rNeA K v w H Q :=
  .inr ⟨_, _, h1, h2, shaped_of x hd, shaped_of y hd, by rw [eqv_dec, ← decide_not]; exact q⟩

/-! ### a list of data that is filled: it stands at D, its items in Z -/
instance : Py (Option Int) := ⟨fun o => match o with | none => .none | some i => .int i, 0, fun o => by cases o <;> exact Nat.le_refl _, fun o => by cases o <;> rfl, fun a b => by
  cases a <;> cases b
  · exact ⟨fun _ => rfl, fun _ => rfl⟩
  · exact ⟨fun h => (Bool.false_ne_true h).elim, fun h => nomatch h⟩
  · exact ⟨fun h => (Bool.false_ne_true h).elim, fun h => nomatch h⟩
  · rename_i x y
    show (x == y) = true ↔ some x = some y
    rw [beq_iff_eq, Option.some.injEq]⟩
/-- a number or nothing, as a value -/
noncomputable def optV : Option Int → V
  | none => .non
  | some i => .int i
structure LA (K : PySem.W.Frag) (Z H : Hp) (D : Addr) {α : Type} [Py α] (l : List α) : Prop where
  ex : ∃ vs, H D = some (.lst vs) ∧ Paired (fun v x => Is K Z v x) vs l
  zd : Z D = none
  zh : Ex Z H
section
variable {K : PySem.W.Frag} {Z H H' : Hp} {D : Addr} {α : Type} [Py α] {l : List α}
theorem pair_get {F : V → α → Prop} : ∀ {vs : List V} {l : List α}, Paired F vs l → ∀ {i : Nat} {x : α}, l[i]? = some x → ∃ v, vs[i]? = some v ∧ F v x
  | _, _, .nil, i, x, h => by simp at h
  | _, _, .cons a r, 0, x, h => by
    cases h
    exact ⟨_, rfl, a⟩
  | _, _, .cons a r, i + 1, x, h => pair_get r (i := i) h
theorem pair_get' {F : V → α → Prop} : ∀ {vs : List V} {l : List α}, Paired F vs l → ∀ {i : Nat} {v : V}, vs[i]? = some v → ∃ x, l[i]? = some x ∧ F v x
  | _, _, .nil, i, x, h => by simp at h
  | _, _, .cons a r, 0, x, h => by
    cases h
    exact ⟨_, rfl, a⟩
  | _, _, .cons a r, i + 1, x, h => pair_get' r (i := i) h
end

section
variable {K : PySem.W.Frag} {Z H : Hp} {D : Addr} {α β : Type} [Py α] [Py β] {l : List α} {Q : VK} {v : V}
theorem s_lenIs {b : Addr} (a : Is K H (.ref b) l) (q : Q (.int (l.length : Int)) H) : rLen K [.ref b] H Q := by
  obtain ⟨b', vs, e, h, p⟩ := a.list
  cases e
  refine s_lenL h ?_
  rw [Paired.length p]
  exact q
end
section
variable {K : PySem.W.Frag} {Z H : Hp} {α β γ : Type} [Py α] [Py β] [Py γ] {v : V} {σ : L2.St} {R : L2.St → Hp → Prop}
theorem s_gt2 {H : Hp} {b : Addr} {x y : V} {g1 g2 : TG} (h : SqT K H b [x, y]) (q : g1 x σ H fun σ1 H1 => g2 y σ1 H1 R) : gTup K 2 (gCons g1 (gCons g2 gNil)) (.ref b) σ H R := by
  refine ⟨b, _, rfl, h, rfl, x, [y], rfl, ?_⟩
  have e3 : (fun (σ1 : L2.St) H1 => g2 y σ1 H1 R) = fun σ1 H1 => g2 y σ1 H1 fun σ2 H2 => ([] : List V) = [] ∧ R σ2 H2 := by
    funext σ1 H1
    have : R = fun σ2 H2 => ([] : List V) = [] ∧ R σ2 H2 := by
      funext σ2 H2
      exact propext ⟨fun z => ⟨rfl, z⟩, fun z => z.2⟩
    rw [← this]
  rw [e3] at q
  have e4 : (fun (σ1 : L2.St) H1 => g2 y σ1 H1 fun σ2 H2 => ([] : List V) = [] ∧ R σ2 H2) = fun σ1 H1 => gCons g2 gNil [y] σ1 H1 R := by
    funext σ1 H1
    refine propext ⟨fun z => ⟨y, [], rfl, z⟩, fun z => ?_⟩
    obtain ⟨y', r', e, z⟩ := z
    cases e
    exact z
  rw [e4] at q
  exact q
theorem pair_all {F : V → α → Prop} : ∀ {vs : List V} {l : List α}, Paired F vs l → ∀ v ∈ vs, ∃ x ∈ l, F v x
  | _, _, .nil, v, h => nomatch h
  | _, _, .cons a r, v, h => by
    rcases List.mem_cons.mp h with rfl | h
    · exact ⟨_, List.mem_cons_self, a⟩
    · obtain ⟨x, hx, f⟩ := pair_all r v h
      exact ⟨x, List.mem_cons_of_mem _ hx, f⟩
end
/-! ### what a def is, and that it keeps its promise -/
/-- the def x stands in the module as its text says -/
noncomputable def FunAt (K : PySem.W.Frag) (mg : Str → Option Value) (x : Str) (st : Stmt) (ps : List Str) : Prop := ∃ f fd, Fun K x x st f fd ∧ mg x = some (.ref f) ∧ Binds K fd ps []
/-- the def x keeps the promise sp, by at most level k -/
noncomputable def Has (P : Program) (w : World) (K : PySem.W.Frag) (mg : Str → Option Value) (base : Heap) (x : Str) (k : Nat) (sp : Sp) : Prop :=
  ∃ f fd ps, FnOk P w K mg base CX0 k f fd ps sp ∧ mg x = some (.ref f) ∧ PySem.W.keepIn K (.ref f) = true ∧ Binds K fd ps []
section
variable {X : Cx} {k k' : Nat} {sp : Sp} {x : Str} {p pos : Pos} {e : Expr} {es : List Expr} {t : TA}
theorem pe_callH (h : Has X.prog X.w X.K X.mg X.base x k sp) (hk : k ≤ k') (hr : Room k' X.A) (hg : Gl X x) (ha : PA X (e :: es) t) (hdb : (x == ("__debug__" : Str)) = false := by decide)
    (he : starEach (e :: es) X.env = (false, eval e X.env) :: starEach es X.env := by rfl) (hpl : (backTo pos (starEach es X.env)).any (·.1) = false := by rfl) : PE X (.Call (.Name x p) (e :: es) [] pos) (tCall sp [] E0 t) := by
  obtain ⟨f, fd, ps, F, hm, kp, hb⟩ := h
  exact pe_call F (hr.mono hk) hg hm kp hb .nil pass0 ha hdb he hpl
theorem pe_constI {i : Int} (h : ∃ t, X.mg x = some (.int i t)) (hg : Gl X x) (hd : (x == ("__debug__" : Str)) = false := by decide) : PE X (.Name x pos) (tC (.int i)) := by
  obtain ⟨t, h⟩ := h
  exact pe_glob hg h ⟨t, rfl⟩ hd
theorem pe_constS {i : Str} (h : ∃ t, X.mg x = some (.str i t)) (hg : Gl X x) (hd : (x == ("__debug__" : Str)) = false := by decide) : PE X (.Name x pos) (tC (.str i)) := by
  obtain ⟨t, h⟩ := h
  exact pe_glob hg h ⟨t, rfl⟩ hd
end
section
variable {P : Program} {w : World} {K : PySem.W.Frag} {mg : Str → Option Value} {base : Heap}
theorem fnok_of {x : Str} {st : Stmt} {N ps : List Str} {k : Nat} {sp : Sp} {f : Addr} {fd : FuncData} (F : Fun K x x st f fd) (S : FnScope N ps (defScope st)) (len : ∀ vs H Q E, sp vs H Q E → vs.length = ps.length)
    (hbody : ∀ (cdv : Value) (A : Around) (outer : List Env) (s : Shared) (H : Hp) (vs : List V) (Q : VK) (E : XK), Room k (A.deeper (envOfC x (defScope st) s.heap.objs.size f cdv)) → sp vs H Q E →
      ∃ t, PSs (cxOf CX0 P w K mg base N x (defScope st) f cdv A outer s H E).nox (defBody st) t ∧ t { nx := fun _ H' => Q .non H', rt := Q } (start N vs) H) : FnOk P w K mg base CX0 (k + 1) f fd ps sp := F.ok S len hbody
/-- a def's promise by its body -/
theorem has_of {x : Str} {st : Stmt} {N ps : List Str} {k : Nat} {sp : Sp} (F : FunAt K mg x st ps) (S : FnScope N ps (defScope st)) (len : ∀ vs H Q E, sp vs H Q E → vs.length = ps.length)
    (hbody : ∀ (f : Addr) (cdv : Value) (A : Around) (outer : List Env) (s : Shared) (H : Hp) (vs : List V) (Q : VK) (E : XK), Room k (A.deeper (envOfC x (defScope st) s.heap.objs.size f cdv)) → sp vs H Q E →
      ∃ t, PSs (cxOf CX0 P w K mg base N x (defScope st) f cdv A outer s H E).nox (defBody st) t ∧ t { nx := fun _ H' => Q .non H', rt := Q } (start N vs) H) : Has P w K mg base x (k + 1) sp := by
  obtain ⟨f, fd, F, hm, hb⟩ := F
  exact ⟨f, fd, ps, F.ok S len (hbody f), hm, F.kp, hb⟩
/-- a def as the head's facts tell it -/
theorem funAt_mk {h : Heap} (X : K.In h) (G : h.Ns mainGlobals mg) {x : Str} {st : Stmt} {ps : List Str} {f : Addr} {oc : Value} {od an : Option Addr} {osl : Array (Option Value)} {kV doc pm cdv ct : Value}
    (a : PySem.W.nsIn K mainGlobals x = some (some (.ref f))) (l : K.lookup f = some ⟨oc, od, .func (PySem.W.fnOf x x (defArgs st) (defBody st) (defScope st) .none kV doc pm an cdv ct), osl⟩)
    (c : PySem.W.codeIn K cdv x = true) (k : PySem.W.keepIn K (.ref f) = true)
    (b : ∀ (kV doc pm : Value) (an : Option Addr) (cdv ct : Value) (us : List Value), us.length = ps.length → bindArgs (PySem.W.fnOf x x (defArgs st) (defBody st) (defScope st) .none kV doc pm an cdv ct) ⟨us, []⟩ = pure (ps.zip us)) : FunAt K mg x st ps :=
  ⟨f, _, fun_mk l c k, PySem.W.mg_of X G a, (fun_mk (st := st) l c k).binds b⟩
/-- the law itself at the end -/
theorem law_end {P : Program} {h : Heap} (X : K.In h) (G : h.Ns mainGlobals mg) {fa : Addr} (hfa : mg "law" = some (.ref fa)) {st : Stmt} {x : Str} {k : Nat} {sp : Sp} {f : Addr} {oc : Value} {od an : Option Addr} {osl : Array (Option Value)} {kV doc pm cdv ct : Value}
    (a : PySem.W.nsIn K mainGlobals "law" = some (some (.ref f))) (l : K.lookup f = some ⟨oc, od, .func (PySem.W.fnOf "law" "law" (defArgs st) (defBody st) (defScope st) .none kV doc pm an cdv ct), osl⟩)
    (c : PySem.W.codeIn K cdv "law" = true) (kp : PySem.W.keepIn K (.ref f) = true)
    (hb : ∀ (s : Shared) (v : Value), BindsTo s (PySem.W.fnOf "law" "law" (defArgs st) (defBody st) (defScope st) .none kV doc pm an cdv ct) ⟨[v], []⟩ [(x, v)])
    (b : ∀ base : Heap, Fun K "law" "law" st f (PySem.W.fnOf "law" "law" (defArgs st) (defBody st) (defScope st) .none kV doc pm an cdv ct) → FnOk P w K mg base CX0 k f (PySem.W.fnOf "law" "law" (defArgs st) (defBody st) (defScope st) .none kV doc pm an cdv ct) [x] sp) :
    ∃ fd : FuncData, (∀ (s : Shared) (v : Value), BindsTo s fd ⟨[v], []⟩ [(x, v)]) ∧ ∀ base : Heap, K.In base → base.Ns mainGlobals mg → FnOk P w K mg base CX0 k fa fd [x] sp := by
  have e := hfa.symm.trans (PySem.W.mg_of X G a)
  cases e
  exact ⟨_, hb, fun base _ _ => b base (fun_mk l c kp)⟩
end
end TR
/-! the hand that is drawn from: n draws are left (its counter stays below 2^60) -/
namespace TR
open PySem L2
noncomputable def Hand (K : PySem.W.Frag) (Z H : Hp) (h : Addr) (n : Nat) : Prop :=
  ∃ (d k : Int) (c : Addr) (cells : List Int), H h = some (.lst [.int d, .int k, .ref c]) ∧ 0 < cells.length ∧ 0 ≤ k ∧ k + n ≤ 1000000000000000000 ∧ Ex Z H ∧ Z h = none ∧ SqL K Z c (cells.map V.int)
theorem Hand.mono {K : PySem.W.Frag} {Z H : Hp} {h : Addr} {n m : Nat} (a : Hand K Z H h n) (l : m ≤ n) : Hand K Z H h m := by
  obtain ⟨d, k, c, cells, h1, h3, h4, h5, h6⟩ := a
  exact ⟨d, k, c, cells, h1, h3, h4, by omega, h6⟩
theorem Hand.ex {K : PySem.W.Frag} {Z H H' : Hp} {h : Addr} {n : Nat} (a : Hand K Z H h n) (e : Ex H H') : Hand K Z H' h n := by
  obtain ⟨d, k, c, cells, h1, h3, h4, h5, z1, z2, z3⟩ := a
  exact ⟨d, k, c, cells, e _ _ h1, h3, h4, h5, z1.trans e, z2, z3⟩
theorem Hand.exm {K : PySem.W.Frag} {Z H H' : Hp} {h g : Addr} {n : Nat} (a : Hand K Z H h n) (e : ExM g H H') (n1 : h ≠ g) (n2 : Z g = none) : Hand K Z H' h n := by
  obtain ⟨d, k, c, cells, h1, h3, h4, h5, z1, z2, z3⟩ := a
  exact ⟨d, k, c, cells, e _ _ n1 h1, h3, h4, h5, z1.exm n2 e, z2, z3⟩
theorem Hand.at {K : PySem.W.Frag} {Z H : Hp} {h : Addr} {n : Nat} (a : Hand K Z H h n) : ∃ o, H h = some o := by
  obtain ⟨d, k, c, cells, h1, _⟩ := a
  exact ⟨_, h1⟩
theorem Hand.z {K : PySem.W.Frag} {Z H : Hp} {h : Addr} {n : Nat} (a : Hand K Z H h n) : Ex Z H := by
  obtain ⟨d, k, c, cells, h1, h3, h4, h5, z1, z2, z3⟩ := a
  exact z1
theorem Hand.zn {K : PySem.W.Frag} {Z H : Hp} {h : Addr} {n : Nat} (a : Hand K Z H h n) : Z h = none := by
  obtain ⟨_, _, _, _, _, _, _, _, _, h6, _⟩ := a
  exact h6
theorem hand_ne {K : PySem.W.Frag} {Z H H' : Hp} {h p : Addr} {n : Nat} (hp : H' p = none) (a : Hand K Z H h n) (e : Ex H H') : p ≠ h := by
  obtain ⟨o, ho⟩ := a.at
  exact (ne_of_none (e _ _ ho) hp).symm
theorem hand_ne0 {K : PySem.W.Frag} {Z H : Hp} {h p : Addr} {n : Nat} (hp : H p = none) (a : Hand K Z H h n) : p ≠ h := hand_ne hp a (Ex.refl _)
section
variable {K : PySem.W.Frag} {σ : L2.St} {H : Hp} {te : TE} {Q : VK} {g : TG} {vs : List Nat}
end
theorem at_ints {ns : List Int} {i : Nat} {v : V} (h : (ns.map V.int)[i]? = some v) : ∃ m, v = .int m ∧ ns[i]? = some m := by
  rw [List.getElem?_map] at h
  cases e : ns[i]? with
  | none => rw [e] at h; cases h
  | some m => rw [e] at h; exact ⟨m, (Option.some.inj h).symm, rfl⟩
/-! ### rows: a list of lists, each of them an object of its own -/
structure RW (K : PySem.W.Frag) (Z H : Hp) (p : Addr) (qs : List Addr) {α : Type} [Py α] (rs : List (List α)) : Prop where
  own : H p = some (.lst (qs.map V.ref))
  nd : (p :: qs).Nodup
  fr : ∀ q ∈ p :: qs, Z q = none
  zh : Ex Z H
  rows : Paired (fun q r => ∃ vs, H q = some (.lst vs) ∧ Paired (fun v x => Is K Z v x) vs r) qs rs
section
variable {K : PySem.W.Frag} {Z H H1 H' : Hp} {p q : Addr} {qs : List Addr} {α : Type} [Py α] {rs : List (List α)} {Q : VK}
theorem RW.at' {qs : List Addr} {rs : List (List α)} {F : Addr → List α → Prop} : Paired F qs rs → ∀ {i : Nat} {q : Addr}, qs[i]? = some q → ∃ r, rs[i]? = some r ∧ F q r
  | .nil, i, q, h => by simp at h
  | .cons a t, 0, q, h => by cases h; exact ⟨_, rfl, a⟩
  | .cons a t, i + 1, q, h => RW.at' t h
theorem paired_snoc {β γ : Type} {F : β → γ → Prop} : ∀ {xs : List β} {ys : List γ} {x : β} {y : γ}, Paired F xs ys → F x y → Paired F (xs ++ [x]) (ys ++ [y])
  | _, _, _, _, .nil, h => .cons h .nil
  | _, _, _, _, .cons a t, h => .cons a (paired_snoc t h)
theorem RW.push' {m : ExM q H H'} {F : Addr → List α → Prop} {G : Addr → List α → Prop} (hF : ∀ b r, b ≠ q → F b r → G b r) : ∀ {qs : List Addr} {rs : List (List α)} {i : Nat} {r' : List α}, Paired F qs rs → qs.Nodup → qs[i]? = some q → G q r' → Paired G qs (rs.set i r')
  | [], _, i, r', .nil, _, h, _ => by simp at h
  | b :: qs, r :: rs, 0, r', .cons a t, nd, h, g => by
    cases h
    refine .cons g ?_
    have nb := (List.nodup_cons.mp nd).1
    clear nd
    induction t with
    | nil => exact .nil
    | cons a2 t2 ih => exact .cons (hF _ _ (fun z => nb (z ▸ List.mem_cons_self)) a2) (ih fun z => nb (List.mem_cons_of_mem _ z))
  | b :: qs, r :: rs, i + 1, r', .cons a t, nd, h, g => by
    have nb : b ≠ q := fun z => (List.nodup_cons.mp nd).1 (z ▸ List.mem_of_getElem? h)
    exact .cons (hF _ _ nb a) (RW.push' (m := m) hF t (List.nodup_cons.mp nd).2 h g)
end
section
variable {K : PySem.W.Frag} {σ : L2.St} {H : Hp} {te : TE} {Q : VK} {g : TG} {vs : List Nat}
theorem paired_of {β γ : Type} {F : β → γ → Prop} : ∀ {xs : List β} {ys : List γ}, xs.length = ys.length → (∀ (i : Nat) (x : β) (y : γ), xs[i]? = some x → ys[i]? = some y → F x y) → Paired F xs ys
  | [], [], _, _ => .nil
  | x :: xs, y :: ys, h, f => .cons (f 0 x y rfl rfl) (paired_of (by simpa using h) fun i a b ha hb => f (i + 1) a b ha hb)
end
section
variable {K : PySem.W.Frag} {σ : L2.St} {H : Hp} {te : TE} {Q : VK} {g : TG} {vs : List Nat}
theorem zip_mem {β γ : Type} {F : β → γ → Prop} : ∀ {xs : List β} {ys : List γ}, Paired F xs ys → ∀ p ∈ xs.zip ys, F p.1 p.2 ∧ p.2 ∈ ys
  | _, _, .nil, _, h => nomatch h
  | _, _, .cons a t, p, h => by
    rcases List.mem_cons.mp h with rfl | h
    · exact ⟨a, List.mem_cons_self⟩
    · obtain ⟨h1, h2⟩ := zip_mem t p h
      exact ⟨h1, List.mem_cons_of_mem _ h2⟩
theorem paired_append {β γ : Type} {F : β → γ → Prop} : ∀ {xs : List β} {ys : List γ} {zs : List β} {ws : List γ}, Paired F xs ys → Paired F zs ws → Paired F (xs ++ zs) (ys ++ ws)
  | _, _, _, _, .nil, h => h
  | _, _, _, _, .cons a t, h => .cons a (paired_append t h)
end
section
variable {K : PySem.W.Frag} {σ : L2.St} {H : Hp} {tt : TT} {te : TE} {Q : VK} {g : TG} {vs : List Nat}
end
section
variable {K : PySem.W.Frag} {H : Hp} {Q : VK}
theorem paired_drop {β γ : Type} {F : β → γ → Prop} : ∀ {xs : List β} {ys : List γ} (n : Nat), Paired F xs ys → Paired F (xs.drop n) (ys.drop n)
  | _, _, 0, h => h
  | _, _, _ + 1, .nil => .nil
  | _, _, n + 1, .cons _ t => paired_drop n t
theorem paired_take {β γ : Type} {F : β → γ → Prop} : ∀ {xs : List β} {ys : List γ} (n : Nat), Paired F xs ys → Paired F (xs.take n) (ys.take n)
  | _, _, 0, _ => by rw [List.take_zero, List.take_zero]; exact .nil
  | _, _, _ + 1, .nil => .nil
  | _, _, n + 1, .cons a t => .cons a (paired_take n t)
theorem paired_cut {β γ : Type} {F : β → γ → Prop} {xs : List β} {ys : List γ} (h : Paired F xs ys) (lo hi : Option Int) : Paired F (cutI xs lo hi) (cutI ys lo hi) := by
  unfold cutI
  rw [Paired.length h]
  exact paired_take _ (paired_drop _ h)
end
section
variable {K : PySem.W.Frag} {σ : L2.St} {H : Hp} {te : TE} {Q : VK} {g : TG} {vs : List Nat}
end
section
variable {K : PySem.W.Frag} {σ : L2.St} {H : Hp} {tt : TT} {te : TE} {Q : VK} {g : TG} {vs : List Nat}
/-- numbers of two lists side by side -/
theorem u_mapZI {a b : Addr} {xs ys : List Int} (f : Int → Int → Int) (hx : SqL K H a (xs.map V.int)) (hy : SqL K H b (ys.map V.int)) (hl : xs.length = ys.length) (hz : xs.length ≤ 40000)
    (turn : ∀ x y, x ∈ xs → y ∈ ys → ∀ T H', Ex H H' → H' T = some (.tup [.int x, .int y]) → ∀ A : VK, (∀ H4, Ex H' H4 → A (.int (f x y)) H4) → g (.ref T) (wipe σ vs) H' fun σ2 H2 => wipe σ2 vs = wipe σ vs ∧ te σ2 H2 A)
    (fin : ∀ D H', H D = none → Ex H H' → H' D = some (.lst (((xs.zip ys).map fun p => f p.1 p.2).map V.int)) → Q (.ref D) H') : LcZ K g tYes te vs σ [.ref a, .ref b] H Q := by
  have len : (xs.zip ys).length = xs.length := by rw [List.length_zip]; omega
  refine ⟨a, b, _, _, rfl, hx, hy, lc_turns (xs.zip ys) (fun _ => true) (fun p y _ => y = .int (f p.1 p.2)) (fun _ _ _ _ _ r => r) (by omega) (fun i H' hi e => ?_) (fun H' e => ⟨_, _, e.sq hx, e.sq hy, .inl (by rw [List.length_map]; omega)⟩)
    (fun D hD i p hp v H0 H' e _ hv => ?_) (fun D H' ws hD e h pr => fin D H' hD e (by rw [h, pair_map pr, filter_yes, List.map_map]; rfl))⟩
  · exact ⟨_, _, .int (xs[i]'(by omega)), .int (ys[i]'(by omega)), e.sq hx, e.sq hy, by rw [List.getElem?_map, List.getElem?_eq_getElem (by omega)]; rfl, by rw [List.getElem?_map, List.getElem?_eq_getElem (by omega)]; rfl⟩
  · obtain ⟨T, x, y, rfl, nT, rfl, gx, gy⟩ := hv
    have gx := gx _ (e.sq hx)
    have gy := gy _ (e.sq hy)
    obtain ⟨x', rfl, hx'⟩ := at_ints gx
    obtain ⟨y', rfl, hy'⟩ := at_ints gy
    have ep : p = (x', y') := by
      rw [List.getElem?_zip_eq_some.mpr (show xs[i]? = some (x', y').1 ∧ ys[i]? = some (x', y').2 from ⟨hx', hy'⟩)] at hp
      exact (Option.some.inj hp).symm
    subst ep
    refine ⟨Ex.new nT, fun A B h1 h2 => ?_⟩
    have e2 : (fun (σ2 : L2.St) H2 => wipe σ2 vs = wipe σ vs ∧ tYes σ2 H2 fun b H3 => if b = true then te σ2 H3 A else B H3) = fun σ2 H2 => wipe σ2 vs = wipe σ vs ∧ te σ2 H2 A := by
      funext σ2 H2
      show (_ ∧ if true = true then te σ2 H2 A else B H2) = _
      rw [if_pos rfl]
    rw [e2]
    exact turn x' y' (List.mem_of_getElem? hx') (List.mem_of_getElem? hy') T _ (e.trans (Ex.new nT)) upd_same A fun H4 e4 => h1 rfl _ H4 e4 fun _ _ _ => rfl
/-- a value that is a list of numbers of its own -/
noncomputable def Lp (H : Hp) (v : V) (r : List Int) : Prop := ∃ a, v = .ref a ∧ H a = some (.lst (r.map V.int))
end
section
variable {K : PySem.W.Frag} {σ : L2.St} {H : Hp} {tt : TT} {te : TE} {Q : VK} {g : TG} {vs : List Nat}
theorem lc_yes {A : VK} {B : Hp → Prop} : (fun (σ2 : L2.St) H2 => wipe σ2 vs = wipe σ vs ∧ tYes σ2 H2 fun b H3 => if b = true then te σ2 H3 A else B H3) = fun σ2 H2 => wipe σ2 vs = wipe σ vs ∧ te σ2 H2 A := by
  funext σ2 H2
  show (_ ∧ if true = true then te σ2 H2 A else B H2) = _
  rw [if_pos rfl]
end
/-! ### pairs of numbers, sorted -/
/-- a value that is a tuple of two numbers -/
noncomputable def Tp (H : Hp) (v : V) (r : Int × Int) : Prop := ∃ a, v = .ref a ∧ H a = some (.tup [.int r.1, .int r.2])
theorem Tp.ex {H H' : Hp} {v : V} {r : Int × Int} (e : Ex H H') (h : Tp H v r) : Tp H' v r := by
  obtain ⟨a, h1, h2⟩ := h
  exact ⟨a, h1, e _ _ h2⟩
theorem Tp.exm {H H' : Hp} {D : Addr} {xs : List V} {v : V} {r : Int × Int} (hD : H D = some (.lst xs)) (e : ExM D H H') (h : Tp H v r) : Tp H' v r := by
  obtain ⟨a, h1, h2⟩ := h
  refine ⟨a, h1, e _ _ (fun z => ?_) h2⟩
  rw [z, hD] at h2
  cases h2
theorem Tp.is {K : PySem.W.Frag} {H : Hp} {v : V} {r : Int × Int} (h : Tp H v r) : Is K H v r := by
  obtain ⟨a, rfl, h2⟩ := h
  exact Is.pair (st_of h2) (Is.int _) (Is.int _)
noncomputable def lexI (a b : Int × Int) : Bool := decide (a.1 < b.1 ∨ (a.1 = b.1 ∧ a.2 ≤ b.2))
theorem lexI_iff {a b : Int × Int} : lexI a b = true ↔ (a.1 < b.1 ∨ (a.1 = b.1 ∧ a.2 ≤ b.2)) := decide_eq_true_iff
noncomputable def sortP (l : List (Int × Int)) : List (Int × Int) := l.mergeSort lexI
theorem sortP_perm (l : List (Int × Int)) : (sortP l).Perm l := List.mergeSort_perm l _
theorem sortP_sorted (l : List (Int × Int)) : (sortP l).Pairwise (fun a b => lexI a b = true) := List.pairwise_mergeSort (le := lexI) (fun a b c h1 h2 => lexI_iff.mpr (by
  have h1 := lexI_iff.mp h1
  have h2 := lexI_iff.mp h2
  omega)) (fun a b => by
  by_cases c : lexI a b = true
  · rw [c]; rfl
  · have : lexI b a = true := lexI_iff.mpr (by
      have c : ¬ (a.1 < b.1 ∨ (a.1 = b.1 ∧ a.2 ≤ b.2)) := fun z => c (lexI_iff.mpr z)
      omega)
    rw [this, Bool.or_true]) l
theorem sortP_of {l l' : List (Int × Int)} (p : l'.Perm l) (s : l'.Pairwise (fun a b => lexI a b = true)) : l' = sortP l :=
  List.Perm.eq_of_pairwise (le := fun a b => lexI a b = true) (fun a b _ _ h1 h2 => by
    have h1 := lexI_iff.mp h1
    have h2 := lexI_iff.mp h2
    exact Prod.ext (by omega) (by omega)) s (sortP_sorted l) (p.trans (sortP_perm l).symm)
theorem sortP_len (l : List (Int × Int)) : (sortP l).length = l.length := (sortP_perm l).length_eq
theorem sortP_mem {l : List (Int × Int)} {a : Int × Int} : a ∈ sortP l ↔ a ∈ l := (sortP_perm l).mem_iff
theorem sortPA {X : Cx} {K : PySem.W.Frag} (hk : X.K = K) : CallR X (.builtin "sorted") (rSortedPO K) := hk ▸ cr_sortedPO
noncomputable def keyP (H : Hp) (v : V) : Int × Int := match v with
  | .ref t => match H t with
    | some (.tup [.int i, .int j]) => (i, j)
    | _ => (0, 0)
  | _ => (0, 0)
theorem keyP_of {H : Hp} {v : V} {r : Int × Int} (h : Tp H v r) : keyP H v = r := by
  obtain ⟨a, rfl, h2⟩ := h
  show (match H a with | some (.tup [.int i, .int j]) => (i, j) | _ => (0, 0)) = r
  rw [h2]
theorem keyP_map {H : Hp} : ∀ {vs : List V} {l : List (Int × Int)}, Paired (Tp H) vs l → vs.map (keyP H) = l
  | _, _, .nil => rfl
  | _, _, .cons a t => by rw [List.map_cons, keyP_of a, keyP_map t]
theorem n_sortedP {K : PySem.W.Frag} {H : Hp} {Q : VK} {a : Addr} {vs : List V} {l : List (Int × Int)} (h : SqL K H a vs) (pr : Paired (Tp H) vs l) (q : ∀ p ws H', H p = none → Ex H H' → H' p = some (.lst ws) → Paired (Tp H') ws (sortP l) → Q (.ref p) H') : rSortedPO K [.ref a] H Q := by
  have ho : ∀ x ∈ vs, Tp H x (keyP H x) := fun x hx => by
    obtain ⟨r, _, g⟩ := pair_all pr x hx
    rw [keyP_of g]
    exact g
  refine ⟨a, vs, keyP H, rfl, h, ho, fun ys p hs hb hp => ?_⟩
  have e : ys.map (keyP H) = sortP l := by
    refine sortP_of ?_ ?_
    · rw [← keyP_map pr]
      exact hb.perm.map _
    · refine List.pairwise_map.mpr (List.Pairwise.imp (fun {x y} z => ?_) hs)
      have z := SrtO.lexB_no.mp z
      exact lexI_iff.mpr (by omega)
  refine q p ys _ hp (Ex.new hp) upd_same ?_
  rw [← e]
  have hy : ∀ x ∈ ys, Tp H x (keyP H x) := fun x hx => ho x (hb.perm.mem_iff.mp hx)
  have e2 : Ex H (upd H p (.lst ys)) := Ex.new hp
  clear e hs hb ho
  generalize upd H p (.lst ys) = H' at e2
  induction ys with
  | nil => exact .nil
  | cons y ys ih => exact .cons (Tp.ex e2 (hy y List.mem_cons_self)) (ih fun x hx => hy x (List.mem_cons_of_mem _ hx))
/-- one thing, so many times -/
theorem n_rep {H : Hp} {Q : VK} {l : Addr} {v : V} {k : Int} (h : H l = some (.lst [v])) (hk : 0 ≤ k ∧ k ≤ 100000) (q : ∀ p H', H p = none → Ex H H' → H' p = some (.lst (List.replicate k.toNat v)) → Q (.ref p) H') : rMult (.ref l) (.int k) H Q := by
  have e63 : (2 : Int) ^ 63 = 9223372036854775808 := by decide
  refine .inr (.inr ⟨l, k, [v], rfl, rfl, h, by omega, by omega, sz_of (by rw [List.length_singleton]; omega), fun p hp => ?_⟩)
  have e : (List.replicate k.toNat [v]).flatten = List.replicate k.toNat v := by
    induction k.toNat with
    | zero => rfl
    | succ n ih => rw [List.replicate_succ, List.flatten_cons, ih, List.replicate_succ]; rfl
  rw [e]
  exact q p _ hp (Ex.new hp) upd_same
/-- values that are tuples of three, of four numbers -/
noncomputable def Rp (H : Hp) (v : V) (t : T3 Int Int Int) : Prop := ∃ a, v = .ref a ∧ H a = some (.tup [.int t.a, .int t.b, .int t.c])
noncomputable def Qp (H : Hp) (v : V) (t : T4 Int Int Int Int) : Prop := ∃ a, v = .ref a ∧ H a = some (.tup [.int t.a, .int t.b, .int t.c, .int t.d])
/-! ### a dict of counts -/
noncomputable def CntD (H : Hp) (p : Addr) (f : Int → Int) (n : Nat) : Prop := ∃ kvs : List (L2.Key × V), H p = some (.dK kvs) ∧ kvs.length ≤ n ∧ ∀ r : Int, (valV kvs (Sum.inl r)).getD (.int 0) = .int (f r)
noncomputable def DG1 (a : Addr) (y z : V) (H3 : Hp) (Q : VK) : Prop := ∃ o, DGet H3 a y o ∧ Q (o.getD z) H3
noncomputable def DG (ty tx : TE) (σ : L2.St) (x : V) (H1 : Hp) (Q : VK) : Prop := ∃ a, x = .ref a ∧ IsD H1 a ∧ ty σ H1 fun y H2 => tx σ H2 fun z H3 => DG1 a y z H3 Q
noncomputable def DP (x y v : V) (H : Hp) (R : Hp → Prop) : Prop := ∃ a H4, x = .ref a ∧ DPut H a y v H4 ∧ R H4
section
variable {σ : L2.St} {H : Hp} {td ty tx tv : TE} {Q : VK} {D : Ends} {p : Addr} {f : Int → Int} {n : Nat}
theorem s_dput (q : tv σ H fun v H1 => td σ H1 fun x H2 => ty σ H2 fun y H3 => DP x y v H3 fun H4 => D.nx σ H4) : sDPut td ty tv D σ H := q
end
/-- a value that is a list of numbers, not the one at p -/
noncomputable def Lq (p : Addr) (H : Hp) (v : V) (r : List Int) : Prop := ∃ a, v = .ref a ∧ a ≠ p ∧ H a = some (.lst (r.map V.int))
end TR
namespace TR
open PySem L2
/-- a test | a value, with a word behind it: what follows is shown once, from Mid -/
noncomputable def tTCut (t : TT) : TT := fun σ H QB => ∃ Mid : Bool → Hp → Prop, t σ H Mid ∧ ∀ b H1, Mid b H1 → QB b H1
theorem pt_cut {X : Cx} {e : Expr} {t : TT} (h : PT X e t) : PT X e (tTCut t) := ⟨fun pins s σ H Q I ⟨Mid, h1, h2⟩ => thn (h.run pins s σ H Mid I h1) fun b s' ⟨H', I', q⟩ => ⟨H', I', h2 b H' q⟩⟩
noncomputable def tECut (t : TE) : TE := fun σ H Q => ∃ Mid : VK, t σ H Mid ∧ ∀ v H1, Mid v H1 → Q v H1
theorem s_tcut {t : TT} {σ : L2.St} {H : Hp} {QB : Bool → Hp → Prop} (Mid : Bool → Hp → Prop) (h : t σ H Mid) (q : ∀ b H1, Mid b H1 → QB b H1) : tTCut t σ H QB := ⟨Mid, h, q⟩
end TR

/-! ### classes, methods, exceptions of the text -/
namespace TR
open PySem L2 PySem.Spec PyProof.Rows
/-- where a class of the text stands -/
noncomputable def clsA (K : PySem.W.Frag) (x : Str) : Addr := match PySem.W.nsIn K mainGlobals x with | some (some (.ref C)) => C | _ => 0
theorem clsA_of {K : PySem.W.Frag} {x : Str} {C : Addr} (h : PySem.W.nsIn K mainGlobals x = some (some (.ref C))) : clsA K x = C := by
  unfold clsA
  rw [h]
/-- a def that may raise keeps the promise -/
noncomputable def HasX (P : Program) (w : World) (K : PySem.W.Frag) (mg : Str → Option Value) (base : Heap) (x : Str) (k : Nat) (sp : Sp) : Prop :=
  ∃ f fd ps, FnOk P w K mg base (L2.CX P w) k f fd ps sp ∧ mg x = some (.ref f) ∧ PySem.W.keepIn K (.ref f) = true ∧ Binds K fd ps []
/-- a method -/
noncomputable def HasM (P : Program) (w : World) (K : PySem.W.Frag) (mg : Str → Option Value) (base : Heap) (x m : Str) (k : Nat) (sp : Sp) : Prop :=
  ∃ f fd ps, FnOk P w K mg base (L2.CX P w) k f fd ps sp ∧ Meth K (clsA K x) m f ∧ Binds K fd ps []
/-- a class that is made by its __init__ -/
noncomputable def HasK (P : Program) (w : World) (K : PySem.W.Frag) (mg : Str → Option Value) (base : Heap) (x : Str) (k : Nat) (sp : Sp) : Prop :=
  ∃ f fd ps, FnOk P w K mg base (L2.CX P w) k f fd ps sp ∧ Mk K (clsA K x) f ∧ mg x = some (.ref (clsA K x)) ∧ Binds K fd ps []
structure MethAt (K : PySem.W.Frag) (x m q : Str) (st : Stmt) (ps : List Str) : Prop where
  ex : ∃ f fd, Fun K m q st f fd ∧ Meth K (clsA K x) m f ∧ Binds K fd ps []
structure MakeAt (K : PySem.W.Frag) (mg : Str → Option Value) (x q : Str) (st : Stmt) (ps : List Str) : Prop where
  ex : ∃ f fd, Fun K "__init__" q st f fd ∧ Mk K (clsA K x) f ∧ mg x = some (.ref (clsA K x)) ∧ Binds K fd ps []
/-- an exception class with one field that its __init__ lays -/
structure ExF (K : PySem.W.Frag) (mg : Str → Option Value) (x f : Str) : Prop where
  o : OexC K (clsA K x)
  g : mg x = some (.ref (clsA K x))
  n : PySem.W.findIn K (.ref (clsA K x)) f = some none
structure ExAt (K : PySem.W.Frag) (x q : Str) (st : Stmt) (ps : List Str) : Prop where
  ex : ∃ fI fd, Fun K "__init__" q st fI fd ∧ PySem.W.findIn K (.ref (clsA K x)) "__init__" = some (some (.ref fI)) ∧ PySem.W.typeIn K (.ref fI) = some (.type "function") ∧ Binds K fd ps []
/-- the class over all own exceptions, itself right under ValueError -/
structure TeC (K : PySem.W.Frag) (mg : Str → Option Value) (x : Str) : Prop where
  g : mg x = some (.ref (clsA K x))
  ga : PySem.W.specialIn K (.ref (clsA K x)) "__getattribute__" = some (some (.builtin "type.__getattribute__"))
  rd : PySem.W.readsIn K (clsA K x) (.type "type") = true
  fi : PySem.W.findCls K (.ref (clsA K x)) (.type "type") "__init__" = some (.val (.builtin "ValueError.__init__"))
noncomputable def spInit (f : Str) (K : PySem.W.Frag) : Sp := fun vs H Q _ => ∃ (a C : Addr) (v : V), vs = [.ref a, v] ∧ OexC K C ∧ PySem.W.findIn K (.ref C) f = some none ∧ H a = some (exo a C none) ∧ ∀ d, H d = none → d ≠ a → Q .non (upd (upd H d (exd d [(f, v)])) a (exo a C (some d)))
noncomputable def HasE (P : Program) (w : World) (K : PySem.W.Frag) (mg : Str → Option Value) (base : Heap) (x f : Str) (k : Nat) : Prop :=
  ∃ fI fd ps, FnOk P w K mg base CX0 k fI fd ps (spInit f K) ∧ ExF K mg x f ∧ PySem.W.findIn K (.ref (clsA K x)) "__init__" = some (some (.ref fI)) ∧ PySem.W.typeIn K (.ref fI) = some (.type "function") ∧ Binds K fd ps []
/-- what may be let out at the slots σ -/
noncomputable abbrev Px (X : Cx) (E : L2.St → XK) : Prop := ∀ σ, PassesAt (L2.CX X.prog X.w) X σ (E σ)
theorem px0 {X : Cx} : Px X (fun _ => E0) := fun _ _ _ _ _ _ _ h => by
  obtain ⟨_, _, _, _, _, _, _, _, _, _, _, _, z⟩ := h
  exact z.elim
theorem pxT {X : Cx} {W : WX} (tk : Takes X W) : Px X (WE W) := fun σ => passAt tk σ
noncomputable def tCallE (sp : Sp) (E : L2.St → XK) (t : TA) : TE := fun σ H Q => t σ H fun vs H1 => sp vs H1 Q (E σ)
noncomputable def tMethE (C : Addr) (m : Str) (sp : Sp) (E : L2.St → XK) (ta : TE) (t : TA) : TE := fun σ H Q => ta σ H fun x H1 => ∃ a dx fs, x = .ref a ∧ H1 a = some (.ins C dx fs) ∧ fs.lookup m = none ∧ t σ H1 fun vs H2 => sp (x :: vs) H2 Q (E σ)
noncomputable def tMakeE (C : Addr) (sp : Sp) (E : L2.St → XK) (t : TA) : TE := fun σ H Q => t σ H fun vs H1 => ∀ x dx, H1 x = none → H1 dx = none → dx ≠ x → sp (.ref x :: vs) (upd (upd H1 dx (.own x)) x (.ins C dx [])) (fun v H2 => v = .non ∧ Q (.ref x) H2) (E σ)
section
variable {X : Cx} {k k' : Nat} {sp : Sp} {x m f : Str} {p p1 p2 pos pos2 apos : Pos} {e o : Expr} {es : List Expr} {t : TA} {ta : TE} {E : L2.St → XK} {W : WX}
theorem pe_callX (hx : Px X E) (h : HasX X.prog X.w X.K X.mg X.base x k sp) (hk : k ≤ k') (hr : Room k' X.A) (hg : Gl X x) (ha : PA X (e :: es) t) (hdb : (x == ("__debug__" : Str)) = false := by decide)
    (he : starEach (e :: es) X.env = (false, eval e X.env) :: starEach es X.env := by rfl) (hpl : (backTo pos (starEach es X.env)).any (·.1) = false := by rfl) : PE X (.Call (.Name x p) (e :: es) [] pos) (tCallE sp E t) := by
  obtain ⟨g, fd, ps, F, hm, kp, hb⟩ := h
  exact pe_callS F (hr.mono hk) hg hm kp hb hx ha hdb he hpl
theorem pe_methX {pl : Sem Bool} (hx : Px X E) (c : Cls X.K (clsA X.K x)) (h : HasM X.prog X.w X.K X.mg X.base x m k sp) (hk : k ≤ k') (hr : Room k' X.A) (he : PE X o ta) (ha : PA X (e :: es) t)
    (hst : starEach (e :: es) X.env = (false, eval e X.env) :: starEach es X.env := by rfl) (hpl : (backTo pos (starEach es X.env)).any (·.1) = false := by rfl)
    (ht : eval (.Call (.Attribute o m apos) (e :: es) [] pos) X.env = (do
      let ov ← eval o X.env
      standAt apos.atName
      let (f, first) ← holding [ov] (getMethod ov m pl)
      callWith pos f first (backTo pos (starEach (e :: es) X.env)) (backToKw pos (keywordEach [] X.env))) := by rfl) :
    PE X (.Call (.Attribute o m apos) (e :: es) [] pos) (tMethE (clsA X.K x) m sp E ta t) := by
  obtain ⟨g, fd, ps, F, hm, hb⟩ := h
  refine ⟨fun pins s σ H Q I h => ?_⟩
  refine PySem.W.methodCall_KW (pl := pl) (thn (he.run pins s σ H _ I h) fun u s1 ⟨x, H1, I1, rx, a, dx, fs, ex, ea, l, q⟩ => ?_) ht
  subst ex
  obtain rfl : u = Value.ref a := rx
  refine getmeth_ok I1 ea c hm l ?_
  refine PySem.W.callWith_K (first := [.ref a]) (h₀ := X.base) I.ok.mod.kin hm.kp (thn (ha.run pos pins s1 σ H1 _ I1 q) fun us s2 ⟨vs, H2, I2, r, q2⟩ => ⟨I2.kIn, ?_⟩) hst hpl
  exact run_fnS (us := .ref a :: us) (vs := .ref a :: vs) F (hr.mono hk) hb (hx σ) I2 (.cons rfl r) q2
end
section
variable {X : Cx} {k k' : Nat} {sp : Sp} {x m f : Str} {p p1 p2 pos pos2 apos : Pos} {e o : Expr} {es : List Expr} {t : TA} {ta : TE} {W : WX}
/-- X(e, ..) that lets out what W wants | nothing -/
theorem pe_makeX {E : XK} (hx : Passes (L2.CX X.prog X.w) X E) (h : HasK X.prog X.w X.K X.mg X.base x k sp) (hk : k ≤ k') (hr : Room (k' + 1) X.A) (hg : Gl X x) (ha : PA X (e :: es) t) (hdb : (x == ("__debug__" : Str)) = false := by decide)
    (he : starEach (e :: es) X.env = (false, eval e X.env) :: starEach es X.env := by rfl) (hpl : (backTo pos (starEach es X.env)).any (·.1) = false := by rfl) : PE X (.Call (.Name x p) (e :: es) [] pos) (tMake (clsA X.K x) sp [] E t) := by
  obtain ⟨g, fd, ps, F, M, hm, hb⟩ := h
  exact pe_make M F (hr.mono (Nat.succ_le_succ hk)) hg hm hb .nil hx ha hdb he hpl
theorem pass_T {E : XK} (tk : Takes X fun cls d _ H => E cls d H) : Passes (L2.CX X.prog X.w) X E := passes_call tk fun _ _ _ _ h => h
/-- TailError.__init__(self, ..) -/
theorem pe_teinit {pl : Sem Bool} (T : TeC X.K X.mg x) (hg : Gl X x) (ha : PA X (e :: es) t) (hdb : (x == ("__debug__" : Str)) = false := by decide)
    (hc : eval (.Call (.Attribute (.Name x p1) "__init__" p2) (e :: es) [] pos) X.env = (do
      let ov ← eval (.Name x p1) X.env
      standAt p2.atName
      let (f, first) ← holding [ov] (getMethod ov "__init__" pl)
      callWith pos f first (backTo pos (starEach (e :: es) X.env)) (backToKw pos (keywordEach [] X.env))) := by rfl)
    (he : starEach (e :: es) X.env = (false, eval e X.env) :: starEach es X.env := by rfl) (hpl : (backTo pos (starEach es X.env)).any (·.1) = false := by rfl) :
    PE X (.Call (.Attribute (.Name x p1) "__init__" p2) (e :: es) [] pos) (tVeI X.K t) := by
  refine ⟨fun pins s σ H Q I h => ?_⟩
  refine PySem.W.methodCall_KW (ld_glob I hg T.g ?_ hdb) hc
  refine PySem.W.method_cls I.kIn T.ga (PySem.W.cls_value I.kIn T.rd T.fi (by decide +kernel) ?_)
  show wpAny _ _ (callWith pos (Value.builtin "ValueError.__init__") [] (backTo pos (starEach (e :: es) X.env)) []) _ _ _
  refine PyProof.Rows.callWith_method1 (thn (ha.run pos pins _ σ H _ (I.tok _) h) fun us s1 ⟨vs, H1, I1, r1, a, C, ws, ev, hl, T, ea, q⟩ => ?_) he hpl
  subst ev
  cases r1 with
  | @cons _ u0 _ ur ra rw' =>
    obtain rfl : u0 = Value.ref a := ra
    have hlen : ur.length ≤ sizeLine := by
      rw [← Paired.length rw', sizeLine_eq]
      omega
    exact oinit_ok T I1 ea hlen fun s' J => ⟨.non, H1, J, rfl, q⟩
/-- raise X(e) -/
noncomputable def tRaise (C : Addr) (f : Str) (W : WX) (t : TA) : TS := fun _ σ H => t σ H fun vs H1 => ∃ v, vs = [v] ∧ ∀ d, H1 d = none → W (.ref C) (some d) σ (upd H1 d (.xd [(f, v)]))
theorem pa_weak {es : List Expr} (h : PA X es t) : PA X es (fun σ H Q' => ∃ Q0 : List V → Hp → Prop, t σ H Q0 ∧ ∀ vs H1, Q0 vs H1 → Q' vs H1) :=
  ⟨fun pos pins s σ H Q I ⟨Q0, h1, h2⟩ => wpAny_mono (h.run pos pins s σ H Q0 I h1) (fun us s' ⟨vs, H', I', r, q⟩ => ⟨vs, H', I', r, h2 vs H' q⟩) fun _ _ e => e⟩
theorem ps_raiseX (tk : Takes X W) (h : HasE X.prog X.w X.K X.mg X.base x f k) (hk : k ≤ k') (hr : Room (k' + 1) X.A) (hc : X.calm = true) (hg : Gl X x) (ha : PA X [e] t) (hdb : (x == ("__debug__" : Str)) = false := by decide)
    (he : starEach [e] X.env = (false, eval e X.env) :: starEach [] X.env := by rfl) (hpl : (backTo pos (starEach [] X.env)).any (·.1) = false := by rfl) : PS X (.Raise (some (.Call (.Name x p) [e] [] pos)) none pos2) (tRaise (clsA X.K x) f W t) := by
  obtain ⟨fI, fd, ps, F, T, iC, tI, hb⟩ := h
  have r := ps_raise (pos := pos2) hc tk (pmk_oex (p := p) T.o iC tI F (hr.mono (Nat.succ_le_succ hk)) hb .nil pass0 hg T.g (pa_weak ha) hdb he hpl)
  refine ⟨fun pins s σ H D I h => r.run pins s σ H D I ?_⟩
  refine ⟨_, h, fun vs H1 ⟨v, ev, q⟩ => ?_⟩
  subst ev
  refine ⟨by show 1 ≤ 1000; decide, fun a ha => ⟨a, clsA X.K x, v, rfl, T.o, T.n, upd_same, fun d hd hda => ⟨rfl, d, [(f, v)], upd_same, by rw [upd_ne hda, upd_same], by rw [upd_ne hda] at hd; exact hd, ?_⟩⟩⟩
  have e1 : upd (del (upd (upd (upd H1 a (exo a (clsA X.K x) none)) d (exd d [(f, v)])) a (exo a (clsA X.K x) (some d))) a) d (.xd [(f, v)]) = upd H1 d (.xd [(f, v)]) := by
    funext b
    by_cases c : b = d
    · rw [c, upd_same, upd_same]
    · rw [upd_ne c, upd_ne c]
      by_cases c2 : b = a
      · rw [c2, del_same, ha]
      · rw [del_ne c2, upd_ne c2, upd_ne c, upd_ne c2]
  rw [e1]
  exact q d (by rw [upd_ne hda] at hd; exact hd)
end
section
variable {P : Program} {w : World} {K : PySem.W.Frag} {mg : Str → Option Value} {base : Heap}
theorem has_ofX {x : Str} {st : Stmt} {N ps : List Str} {k : Nat} {sp : Sp} (F : FunAt K mg x st ps) (S : FnScope N ps (defScope st)) (len : ∀ vs H Q E, sp vs H Q E → vs.length = ps.length)
    (hbody : ∀ (f : Addr) (cdv : Value) (A : Around) (outer : List Env) (s : Shared) (H : Hp) (vs : List V) (Q : VK) (E : XK), Room k (A.deeper (envOfC x (defScope st) s.heap.objs.size f cdv)) → sp vs H Q E →
      ∃ t, PSs (cxOf (L2.CX P w) P w K mg base N x (defScope st) f cdv A outer s H E) (defBody st) t ∧ t { nx := fun _ H' => Q .non H', rt := Q } (start N vs) H) : HasX P w K mg base x (k + 1) sp := by
  obtain ⟨f, fd, F, hm, hb⟩ := F
  exact ⟨f, fd, ps, F.okX S len (hbody f), hm, F.kp, hb⟩
theorem has_ofM {x m q : Str} {st : Stmt} {N ps : List Str} {k : Nat} {sp : Sp} (F : MethAt K x m q st ps) (S : FnScope N ps (defScope st)) (len : ∀ vs H Q E, sp vs H Q E → vs.length = ps.length)
    (hbody : ∀ (f : Addr) (cdv : Value) (A : Around) (outer : List Env) (s : Shared) (H : Hp) (vs : List V) (Q : VK) (E : XK), Room k (A.deeper (envOfC q (defScope st) s.heap.objs.size f cdv)) → sp vs H Q E →
      ∃ t, PSs (cxOf (L2.CX P w) P w K mg base N q (defScope st) f cdv A outer s H E) (defBody st) t ∧ t { nx := fun _ H' => Q .non H', rt := Q } (start N vs) H) : HasM P w K mg base x m (k + 1) sp := by
  obtain ⟨f, fd, F, hm, hb⟩ := F.ex
  exact ⟨f, fd, ps, F.okX S len (hbody f), hm, hb⟩
theorem has_ofK {x q : Str} {st : Stmt} {N ps : List Str} {k : Nat} {sp : Sp} (F : MakeAt K mg x q st ps) (S : FnScope N ps (defScope st)) (len : ∀ vs H Q E, sp vs H Q E → vs.length = ps.length)
    (hbody : ∀ (f : Addr) (cdv : Value) (A : Around) (outer : List Env) (s : Shared) (H : Hp) (vs : List V) (Q : VK) (E : XK), Room k (A.deeper (envOfC q (defScope st) s.heap.objs.size f cdv)) → sp vs H Q E →
      ∃ t, PSs (cxOf (L2.CX P w) P w K mg base N q (defScope st) f cdv A outer s H E) (defBody st) t ∧ t { nx := fun _ H' => Q .non H', rt := Q } (start N vs) H) : HasK P w K mg base x (k + 1) sp := by
  obtain ⟨f, fd, F, M, hm, hb⟩ := F.ex
  exact ⟨f, fd, ps, F.okX S len (hbody f), M, hm, hb⟩
theorem has_ofE {x q g : Str} {st : Stmt} {N ps : List Str} {k : Nat} (T : ExF K mg x g) (F : ExAt K x q st ps) (S : FnScope N ps (defScope st)) (len : ∀ vs H Q E, spInit g K vs H Q E → vs.length = ps.length)
    (hbody : ∀ (f : Addr) (cdv : Value) (A : Around) (outer : List Env) (s : Shared) (H : Hp) (vs : List V) (Q : VK) (E : XK), Room k (A.deeper (envOfC q (defScope st) s.heap.objs.size f cdv)) → spInit g K vs H Q E →
      ∃ t, PSs (cxOf CX0 P w K mg base N q (defScope st) f cdv A outer s H E).nox (defBody st) t ∧ t { nx := fun _ H' => Q .non H', rt := Q } (start N vs) H) : HasE P w K mg base x g (k + 1) := by
  obtain ⟨f, fd, F, h1, h2, hb⟩ := F.ex
  exact ⟨f, fd, ps, F.ok S len (hbody f), T, h1, h2, hb⟩
theorem methAt_mk {h : Heap} (X : K.In h) {x m q : Str} {st : Stmt} {ps : List Str} {f C : Addr} {oc : Value} {od an : Option Addr} {osl : Array (Option Value)} {kV doc pm cdv ct : Value}
    (aC : PySem.W.nsIn K mainGlobals x = some (some (.ref C))) (a : PySem.W.findIn K (.ref C) m = some (some (.ref f))) (l : K.lookup f = some ⟨oc, od, .func (PySem.W.fnOf m q (defArgs st) (defBody st) (defScope st) .none kV doc pm an cdv ct), osl⟩)
    (c : PySem.W.codeIn K cdv q = true) (i : PySem.W.isFn K (.ref f) = true) (k : PySem.W.keepIn K (.ref f) = true)
    (b : ∀ (kV doc pm : Value) (an : Option Addr) (cdv ct : Value) (us : List Value), us.length = ps.length → bindArgs (PySem.W.fnOf m q (defArgs st) (defBody st) (defScope st) .none kV doc pm an cdv ct) ⟨us, []⟩ = pure (ps.zip us)) : MethAt K x m q st ps := by
  refine ⟨f, _, fun_mk l c k, ?_, (fun_mk (st := st) l c k).binds b⟩
  rw [clsA_of aC]
  exact ⟨a, i, k⟩
theorem makeAt_mk {h : Heap} (X : K.In h) (G : h.Ns mainGlobals mg) {x q : Str} {st : Stmt} {ps : List Str} {f C : Addr} {oc : Value} {od an : Option Addr} {osl : Array (Option Value)} {kV doc pm cdv ct : Value}
    (aC : PySem.W.nsIn K mainGlobals x = some (some (.ref C))) (a : PySem.W.findIn K (.ref C) "__init__" = some (some (.ref f))) (l : K.lookup f = some ⟨oc, od, .func (PySem.W.fnOf "__init__" q (defArgs st) (defBody st) (defScope st) .none kV doc pm an cdv ct), osl⟩)
    (c : PySem.W.codeIn K cdv q = true) (i : PySem.W.isFn K (.ref f) = true) (k : PySem.W.keepIn K (.ref f) = true) (mk : PySem.W.makesIn K C = true) (kC : PySem.W.keepIn K (.ref C) = true)
    (b : ∀ (kV doc pm : Value) (an : Option Addr) (cdv ct : Value) (us : List Value), us.length = ps.length → bindArgs (PySem.W.fnOf "__init__" q (defArgs st) (defBody st) (defScope st) .none kV doc pm an cdv ct) ⟨us, []⟩ = pure (ps.zip us)) : MakeAt K mg x q st ps := by
  refine ⟨f, _, fun_mk l c k, ?_, ?_, (fun_mk (st := st) l c k).binds b⟩
  · rw [clsA_of aC]
    exact ⟨mk, a, i, kC⟩
  · rw [clsA_of aC]
    exact PySem.W.mg_of X G aC
theorem exAt_mk {h : Heap} (X : K.In h) {x q : Str} {st : Stmt} {ps : List Str} {f C : Addr} {oc : Value} {od an : Option Addr} {osl : Array (Option Value)} {kV doc pm cdv ct : Value}
    (aC : PySem.W.nsIn K mainGlobals x = some (some (.ref C))) (a : PySem.W.findIn K (.ref C) "__init__" = some (some (.ref f))) (l : K.lookup f = some ⟨oc, od, .func (PySem.W.fnOf "__init__" q (defArgs st) (defBody st) (defScope st) .none kV doc pm an cdv ct), osl⟩)
    (c : PySem.W.codeIn K cdv q = true) (t : PySem.W.typeIn K (.ref f) = some (.type "function")) (k : PySem.W.keepIn K (.ref f) = true)
    (b : ∀ (kV doc pm : Value) (an : Option Addr) (cdv ct : Value) (us : List Value), us.length = ps.length → bindArgs (PySem.W.fnOf "__init__" q (defArgs st) (defBody st) (defScope st) .none kV doc pm an cdv ct) ⟨us, []⟩ = pure (ps.zip us)) : ExAt K x q st ps := by
  refine ⟨f, _, fun_mk l c k, ?_, t, (fun_mk (st := st) l c k).binds b⟩
  rw [clsA_of aC]
  exact a
theorem exF_mk {h : Heap} (X : K.In h) (G : h.Ns mainGlobals mg) {x f : Str} {C : Addr} (aC : PySem.W.nsIn K mainGlobals x = some (some (.ref C)))
    {nm q : Str} {N : Addr} {bs bm : List Value} {sn : List Str} {sub : List Value} {ab : Bool} {col : Option Bool} {dd : Option Addr} {k0 k1 k2 k3 k5 : Option Value}
    (l : K.lookup C = some (excClassObj nm q C N bs bm true sn sub ab col dd k0 k1 k2 k3 k5 "ValueError.__new__")) (r : PySem.HandSPX.refsVE bm = true)
    (sa : PySem.W.findIn K (.ref C) "__setattr__" = some (some (.builtin "object.__setattr__"))) (eC : PySem.W.subIn K (.ref C) (.type "BaseException") = some true) (tC : PySem.W.typeIn K (.ref C) = some (.type "type")) (kC : PySem.W.keepIn K (.ref C) = true)
    (n : PySem.W.findIn K (.ref C) f = some none) : ExF K mg x f := by
  refine ⟨?_, ?_, ?_⟩
  · rw [clsA_of aC]
    exact ⟨⟨nm, q, N, bs, bm, sn, sub, ab, col, dd, k0, k1, k2, k3, k5, l, r⟩, sa, eC, tC, kC⟩
  · rw [clsA_of aC]
    exact PySem.W.mg_of X G aC
  · rw [clsA_of aC]
    exact n
theorem teC_mk {h : Heap} (X : K.In h) (G : h.Ns mainGlobals mg) {x : Str} {C : Addr} (aC : PySem.W.nsIn K mainGlobals x = some (some (.ref C))) (ga : PySem.W.specialIn K (.ref C) "__getattribute__" = some (some (.builtin "type.__getattribute__")))
    (rd : PySem.W.readsIn K C (.type "type") = true) (fi : PySem.W.findCls K (.ref C) (.type "type") "__init__" = some (.val (.builtin "ValueError.__init__"))) : TeC K mg x := by
  refine ⟨?_, ?_, ?_, ?_⟩
  · rw [clsA_of aC]
    exact PySem.W.mg_of X G aC
  all_goals (rw [clsA_of aC]; assumption)
end
end TR
namespace TR
open PySem L2 PySem.Spec PyProof.Rows
end TR
namespace TR
open PySem L2 PySem.Spec PyProof.Rows
section
variable {P : Program} {w : World} {K : PySem.W.Frag} {mg : Str → Option Value} {base : Heap} {x y : Str} {k : Nat} {sp : Sp}
end
end TR
namespace TR
open PySem L2
section
variable {K : PySem.W.Frag} {H : Hp} {σ : L2.St} {Q : VK} {D : Ends} {C a dx : Addr} {f m : Str} {W : WX} {t : TA} {ta tv : TE} {E : L2.St → XK} {E1 : XK} {sp : Sp} {v : V} {fs : List (Str × V)}
noncomputable def RaP (C : Addr) (f : Str) (W : WX) (σ : L2.St) (vs : List V) (H : Hp) : Prop := ∃ v, vs = [v] ∧ ∀ d, H d = none → W (.ref C) (some d) σ (upd H d (.xd [(f, v)]))
theorem s_raise (q : t σ H fun vs H1 => RaP C f W σ vs H1) : tRaise C f W t D σ H := q
theorem n_raise (q : ∀ d, H d = none → W (.ref C) (some d) σ (upd H d (.xd [(f, v)]))) : RaP C f W σ [v] H := ⟨v, rfl, q⟩
theorem s_callE (q : t σ H fun vs H1 => sp vs H1 Q (E σ)) : tCallE sp E t σ H Q := q
noncomputable def MeP (C : Addr) (m : Str) (sp : Sp) (E1 : XK) (t : TA) (σ : L2.St) (x : V) (H1 : Hp) (Q : VK) : Prop := ∃ a dx fs, x = .ref a ∧ H1 a = some (.ins C dx fs) ∧ fs.lookup m = none ∧ t σ H1 fun vs H2 => sp (x :: vs) H2 Q E1
theorem s_meth (q : ta σ H fun x H1 => MeP C m sp (E σ) t σ x H1 Q) : tMethE C m sp E ta t σ H Q := q
theorem n_meth (h : H a = some (.ins C dx fs)) (l : fs.lookup m = none) (q : t σ H fun vs H2 => sp (.ref a :: vs) H2 Q E1) : MeP C m sp E1 t σ (.ref a) H Q := ⟨a, dx, fs, rfl, h, l, q⟩
noncomputable def FlP (K : PySem.W.Frag) (f : Str) (x : V) (H : Hp) (Q : VK) : Prop := ∃ a C dx fs v, x = .ref a ∧ H a = some (.ins C dx fs) ∧ Cls K C ∧ NoAttr K C f ∧ fs.lookup f = some v ∧ Q v H
theorem s_fld (q : ta σ H fun x H1 => FlP K f x H1 Q) : tFld K ta f σ H Q := q
theorem n_fld (h : H a = some (.ins C dx fs)) (c : Cls K C) (n : NoAttr K C f) (l : fs.lookup f = some v) (q : Q v H) : FlP K f (.ref a) H Q := ⟨a, C, dx, fs, v, rfl, h, c, n, l, q⟩
noncomputable def FsP (K : PySem.W.Frag) (f : Str) (y x : V) (H : Hp) (R : Hp → Prop) : Prop := ∃ a C dx fs, x = .ref a ∧ H a = some (.ins C dx fs) ∧ Cls K C ∧ NoAttr K C f ∧ fs.length < 1000 ∧ R (upd H a (.ins C dx (putF f y fs)))
theorem s_fset (q : tv σ H fun y H1 => ta σ H1 fun x H2 => FsP K f y x H2 (D.nx σ)) : sFld K ta tv f D σ H := q
theorem n_fset {y : V} {R : Hp → Prop} (h : H a = some (.ins C dx fs)) (c : Cls K C) (n : NoAttr K C f) (l : fs.length < 1000) (q : R (upd H a (.ins C dx (putF f y fs)))) : FsP K f y (.ref a) H R := ⟨a, C, dx, fs, rfl, h, c, n, l, q⟩
noncomputable def MkP' (C : Addr) (sp : Sp) (E1 : XK) (vs : List V) (H1 : Hp) (Q : VK) : Prop := ∀ x dx, H1 x = none → H1 dx = none → dx ≠ x → sp (.ref x :: vs) (upd (upd H1 dx (.own x)) x (.ins C dx [])) (fun v H2 => v = .non ∧ Q (.ref x) H2) E1
theorem s_make (q : t σ H fun vs H1 => MkP' C sp E1 vs H1 Q) : tMake C sp [] E1 t σ H Q := by
  have e : (fun (vs : List V) (H1 : Hp) => ∀ x dx, H1 x = none → H1 dx = none → dx ≠ x → sp (.ref x :: (vs ++ [])) (upd (upd H1 dx (.own x)) x (.ins C dx [])) (fun v H2 => v = .non ∧ Q (.ref x) H2) E1) = fun vs H1 => MkP' C sp E1 vs H1 Q := by
    funext vs H1
    rw [List.append_nil]
    rfl
  show t σ H _
  rw [e]
  exact q
end
end TR
namespace TR
open PySem L2
section
variable {K : PySem.W.Frag} {H : Hp} {σ : L2.St} {Q : VK} {D : Ends} {C a : Addr} {f : Str} {ta : TA} {to te : TE} {ws : List V} {y : V}
noncomputable def VeP (K : PySem.W.Frag) (vs : List V) (H1 : Hp) (Q : VK) : Prop := ∃ (a C : Addr) (ws : List V), vs = .ref a :: ws ∧ ws.length ≤ 1000 ∧ OexC K C ∧ H1 a = some (exo a C none) ∧ Q .non H1
theorem s_ve (q : ta σ H fun vs H1 => VeP K vs H1 Q) : tVeI K ta σ H Q := q
theorem n_ve (o : OexC K C) (h : H a = some (exo a C none)) (l : ws.length ≤ 1000) (q : Q .non H) : VeP K (.ref a :: ws) H Q := ⟨a, C, ws, rfl, l, o, h, q⟩
noncomputable def OsP (K : PySem.W.Frag) (f : Str) (y x : V) (H2 : Hp) (R : Hp → Prop) : Prop := ∃ a C : Addr, x = .ref a ∧ OexC K C ∧ PySem.W.findIn K (.ref C) f = some none ∧
  ((H2 a = some (exo a C none) ∧ ∀ dx, H2 dx = none → dx ≠ a → R (upd (upd H2 dx (exd dx [(f, y)])) a (exo a C (some dx)))) ∨
    ∃ (dx : Addr) (fs : List (Str × V)), H2 a = some (exo a C (some dx)) ∧ H2 dx = some (exd dx fs) ∧ fs.length ≤ 900 ∧ R (upd H2 dx (exd dx ((f, y) :: fs))))
theorem s_os (q : te σ H fun y H1 => to σ H1 fun x H2 => OsP K f y x H2 (D.nx σ)) : tOst K f to te D σ H := q
theorem n_os {R : Hp → Prop} (o : OexC K C) (n : PySem.W.findIn K (.ref C) f = some none) (h : H a = some (exo a C none)) (q : ∀ dx, H dx = none → dx ≠ a → R (upd (upd H dx (exd dx [(f, y)])) a (exo a C (some dx)))) : OsP K f y (.ref a) H R := ⟨a, C, rfl, o, n, .inl ⟨h, q⟩⟩
end
end TR
namespace TR
open PySem L2
theorem u_forS {g : TG} {ts : TS} {D : Ends} {σ : L2.St} {H : Hp} {x : Str} (Pv : Nat → L2.St → Hp → Prop) (h0 : Pv 0 σ H)
    (hs : ∀ (i : Nat) c σ H, x.cps[i]? = some c → Pv i σ H → g (.str ⟨#[c]⟩) σ H fun σ2 H2 => ts { D with nx := Pv (i + 1), ct := Pv (i + 1), bk := D.nx } σ2 H2) (hd : ∀ σ H, Pv x.cps.size σ H → D.nx σ H) : ForS g ts D σ (.str x) H := by
  refine ⟨x, rfl, fun i m σ H' => m = x.cps.size - i ∧ i ≤ x.cps.size ∧ Pv i σ H', ⟨x.cps.size, by simp, Nat.zero_le _, h0⟩, ?_⟩
  rintro i m σ H' ⟨rfl, hi, q⟩
  by_cases hlt : i < x.cps.size
  · refine .inr ⟨hlt, fun σ' H'' => Pv (i + 1) σ' H'', fun σ' H'' z => ⟨x.cps.size - (i + 1), by omega, rfl, hlt, z⟩, fun v H2 y => ?_⟩
    obtain ⟨rfl, c, hc, rfl⟩ := y
    exact hs i c σ _ hc q
  · have ei : i = x.cps.size := by omega
    subst ei
    exact .inl ⟨Nat.le_refl _, hd σ H' q⟩
end TR
namespace TR
open PySem L2 PySem.Spec PyProof.Rows
section
variable {X : Cx} {K : PySem.W.Frag} {k k' : Nat} {sp : Sp} {x m f : Str} {p pos apos : Pos} {e o : Expr} {es : List Expr} {t : TA} {ta : TE} {E : L2.St → XK}
theorem pe_fldK (hk : X.K = K) (he : PE X e ta) (hb : attributeBase e f X.env (eval e X.env) = eval e X.env) : PE X (.Attribute e f pos) (tFld K ta f) := hk ▸ pe_fld he hb
theorem pe_methK {pl : Sem Bool} (hk : X.K = K) (hx : Px X E) (c : Cls K (clsA K x)) (h : HasM X.prog X.w K X.mg X.base x m k sp) (hl : k ≤ k') (hr : Room k' X.A) (he : PE X o ta) (ha : PA X (e :: es) t)
    (hst : starEach (e :: es) X.env = (false, eval e X.env) :: starEach es X.env := by rfl) (hpl : (backTo pos (starEach es X.env)).any (·.1) = false := by rfl)
    (ht : eval (.Call (.Attribute o m apos) (e :: es) [] pos) X.env = (do
      let ov ← eval o X.env
      standAt apos.atName
      let (f, first) ← holding [ov] (getMethod ov m pl)
      callWith pos f first (backTo pos (starEach (e :: es) X.env)) (backToKw pos (keywordEach [] X.env))) := by rfl) :
    PE X (.Call (.Attribute o m apos) (e :: es) [] pos) (tMethE (clsA K x) m sp E ta t) := by
  subst hk
  exact pe_methX hx c h hl hr he ha hst hpl ht
end
end TR
namespace TR
open PySem L2
section
variable {K : PySem.W.Frag} {x y f : Str} {C D : Addr} {b : Bool}
end
section
variable {K : PySem.W.Frag} {c cls : Value} {i : Nat} {ts : Addr → Value → Option Addr → TS} {Wout : WX} {D : Ends} {d : Option Addr} {σ : L2.St} {H : Hp} {a dd C : Addr} {f : Str} {te : TE} {Q : VK} {fs : List (Str × V)} {v : V}
noncomputable def XfP (a : Addr) (cls : Value) (d : Option Addr) (C : Addr) (f : Str) (x : V) (H1 : Hp) (Q : VK) : Prop := x = .ref a ∧ cls = .ref C ∧ ∃ (dd : Addr) (fs : List (Str × V)) (v : V), d = some dd ∧ H1 dd = some (.xd fs) ∧ fs.lookup f = some v ∧ Q v H1
end
end TR
namespace TR
open PySem L2 PySem.Spec PyProof.Rows
/-- what isinstance(x, C) asks of an own class -/
structure IsiC (K : PySem.W.Frag) (C : Addr) : Prop where
  cl : Cls K C
  ha : PySem.W.findIn K (.ref C) "__class__" = some (some (.builtin "object.__class__"))
  hn : PySem.W.specialIn K (.builtin "object.__class__") "__get__" = some (some (.builtin "getset_descriptor.__get__"))
  htk : PySem.W.takesIn K (.builtin "object.__class__") = some true
  hm : PySem.W.mroIn K C (.type "object") = some true
  me : PySem.W.kitOne K (.ref C) (.ref C) = some true
end TR
namespace TR
open PySem L2 PySem.Spec PyProof.Rows
section
variable {X : Cx} {CX : CXT} {k k' : Nat} {f C : Addr} {fd : FuncData} {ps : List Str} {sp : Sp} {x : Str} {p pos : Pos} {e : Expr} {es : List Expr} {t : TA}
theorem run_makeS {E : L2.St → XK} {pins : List (Addr × Obj)} {σ : L2.St} {H : Hp} {s : Shared} {Q : VK} {us : List Value} {vs : List V} (M : Mk X.K C f) (F : FnOk X.prog X.w X.K X.mg X.base CX k f fd ps sp) (hr : Room (k + 1) X.A) (hb : Binds X.K fd ps [])
    (hx : PassesAt CX X σ (E σ)) (I : Inv X pins σ H s) (r : Vals vs us)
    (h : ∀ x dx, H x = none → H dx = none → dx ≠ x → sp (.ref x :: vs) (upd (upd H dx (.own x)) x (.ins C dx [])) (fun v H2 => v = .non ∧ Q (.ref x) H2) (E σ)) :
    wpAny (model X.prog X.w) X.A (call (.ref C) us) (EP X pins σ Q) X.xe s := by
  have hq := h (s.heap.objs.size + 1) s.heap.objs.size (I.hok.fresh (Nat.le_succ _)) (I.hok.fresh (Nat.le_refl _)) (Nat.ne_of_lt (Nat.lt_succ_self _))
  have I2 := Inv.made (C := C) I
  have r2 : Vals (V.ref (s.heap.objs.size + 1) :: vs) (Value.ref (s.heap.objs.size + 1) :: us) := .cons rfl r
  have hl : (Value.ref (s.heap.objs.size + 1) :: us).length = ps.length := by
    have e := r2.length
    rw [F.len _ _ _ _ hq] at e
    exact e.symm
  have b := hb _ (Value.ref (s.heap.objs.size + 1) :: us) I2.kIn (by rw [List.append_nil]; exact hl)
  rw [List.append_nil] at b
  refine wpAny_call (make_map (f := f) I.kIn M.makes M.init (beq_iff_eq.mp M.fn) (codeAny_mono (F.run _ X.stack _ _ ⟨Value.ref (s.heap.objs.size + 1) :: us, []⟩ (Value.ref (s.heap.objs.size + 1) :: us) _ _ (E σ) (hr.make C us [])
    (I2.env0.make C us []) b r2 hq) fun r s' hq' => ?_))
  cases r with
  | error e => exact hx pins _ _ e s' I2 hq'
  | ok fl =>
    cases fl with
    | ret u =>
      obtain ⟨v, H', I3, rv, ev, q3⟩ := I2.after hq'
      subst ev
      exact ⟨rv, ⟨V.ref (s.heap.objs.size + 1), H', I3, rfl, q3⟩⟩
    | next => exact False.elim hq'
    | brk => exact False.elim hq'
    | cont => exact False.elim hq'
end
theorem s_makeE {C : Addr} {sp : Sp} {E : L2.St → XK} {t : TA} {σ : L2.St} {H : Hp} {Q : VK} (q : t σ H fun vs H1 => MkP' C sp (E σ) vs H1 Q) : tMakeE C sp E t σ H Q := q
end TR
/-! an exception class without an __init__ of its own: raise X() -/
namespace TR
open PySem L2 PySem.Spec PyProof.Rows
noncomputable def bmVE : List Value := [.type "ValueError", .type "Exception", .type "BaseException", .type "object"]
structure ExB (K : PySem.W.Frag) (mg : Str → Option Value) (x : Str) : Prop where
  g : mg x = some (.ref (clsA K x))
  q : PySem.W.excIn K (clsA K x) bmVE "ValueError.__new__" = true
  kC : PySem.W.keepIn K (.ref (clsA K x)) = true
  exC : PySem.W.subIn K (.ref (clsA K x)) (.type "BaseException") = some true
  tyC : PySem.W.typeIn K (.ref (clsA K x)) = some (.type "type")
noncomputable def tRaise0 (C : Addr) (W : WX) : TS := fun _ σ H => W (.ref C) none σ H
section
variable {X : Cx} {x : Str} {p pos pos2 : Pos} {W : WX}
end
section
variable {K : PySem.W.Frag} {mg : Str → Option Value}
end
end TR
namespace TR
open PySem L2
end TR

/-! the head by one kernel run (HandS.Head0 to Head2), its facts by names (HandS.HeadHook1 to HeadHook3) -/
namespace TR
open PySem L2 PySem.Spec PyProof.Rows He
inductive Fz where
  | fa (f : He.Fa)
  | te (x : Str)
  | isi (x : Str)
  | isx (x : Str)
  | sve (x : Str)
  | xf (x : Str)
  | exf (x f : Str)
  | exi (x : Str)
  | al (y x : Str)
  | kv (x : Str) (kvs : List (Str × Str))
noncomputable def exfB (K : PySem.W.Frag) (C : Addr) : Bool := match K.lookup C with
  | some ⟨.type "type", _, .cls cd, sl⟩ => (match cd.mro, sl.toList with
    | .ref C' :: bm, [_, _, _, _, some (.builtin n), _] => C' == C && n == "ValueError.__new__" && !cd.hasDel && PySem.HandSPX.refsVE bm && cd.hasDict
    | _, _ => false)
  | _ => false
theorem exfB_ok {K : PySem.W.Frag} {C : Addr} (q : exfB K C = true) : ∃ nm qn N bs bm sn sub ab col dd k0 k1 k2 k3 k5, K.lookup C = some (excClassObj nm qn C N bs bm true sn sub ab col dd k0 k1 k2 k3 k5 "ValueError.__new__") ∧ PySem.HandSPX.refsVE bm = true := by
  unfold exfB at q
  split at q
  · rename_i dd cd sl ho
    split at q
    · rename_i C' bm k0 k1 k2 k3 n k5 hm hs
      simp only [Bool.and_eq_true, beq_iff_eq, Bool.not_eq_true'] at q
      obtain ⟨⟨⟨⟨rfl, rfl⟩, hdel⟩, ht⟩, hdi⟩ := q
      obtain ⟨nm, bs, mro, ns, qn, hd, sn, sub, ab, col, del⟩ := cd
      dsimp only at hm hdel hdi
      subst hm hdel hdi
      have hsl : sl = #[k0, k1, k2, k3, some (.builtin "ValueError.__new__"), k5] := by
        obtain ⟨l⟩ := sl
        simp only at hs
        rw [hs]
      subst hsl
      exact ⟨nm, qn, ns, bs, bm, sn, sub, ab, col, dd, k0, k1, k2, k3, k5, ho, ht⟩
    · cases q
  · cases q
noncomputable def clsB (K : PySem.W.Frag) (C : Addr) : Bool := eqO (PySem.W.findIn K (.ref C) "__class__") (some (some (.builtin "object.__class__"))) && (eqO (PySem.W.specialIn K (.builtin "object.__class__") "__get__") (some (some (.builtin "getset_descriptor.__get__"))) && (decide (PySem.W.takesIn K (.builtin "object.__class__") = some true) && decide (PySem.W.mroIn K C (.type "object") = some true)))
noncomputable def xfB (K : PySem.W.Frag) (C : Addr) : Bool := eqO (PySem.W.findIn K (.ref C) "__getattribute__") (some (some (.builtin "BaseException.__getattribute__"))) && (eqO (PySem.W.findIn K (.ref C) "__getattr__") (some none) && (decide (PySem.W.subIn K (.ref C) (.type "BaseException") = some true) && PySem.W.hasDictIn K C))
noncomputable def veInit : Option PySem.W.CFound → Bool
  | some (.val (.builtin n)) => decide (n = "ValueError.__init__")
  | _ => false
theorem veInit_ok {o : Option PySem.W.CFound} (h : veInit o = true) : o = some (.val (.builtin "ValueError.__init__")) := by
  unfold veInit at h
  split at h
  · rw [of_decide_eq_true h]
  · cases h
noncomputable def Fz.ok (K : PySem.W.Frag) : Fz → Bool
  | .fa f => f.ok K
  | .te x => (Fa.glo x).ok K && (eqO (PySem.W.specialIn K (.ref (ga K x)) "__getattribute__") (some (some (.builtin "type.__getattribute__"))) && (PySem.W.readsIn K (ga K x) (.type "type") && veInit (PySem.W.findCls K (.ref (ga K x)) (.type "type") "__init__")))
  | .isi x => (Fa.glo x).ok K && ((Fa.cls x).ok K && clsB K (ga K x))
  | .isx x => (Fa.glo x).ok K && (xfB K (ga K x) && clsB K (ga K x))
  | .sve x => (Fa.glo x).ok K && decide (PySem.W.subIn K (.ref (ga K x)) (.type "ValueError") = some true)
  | .xf x => (Fa.glo x).ok K && xfB K (ga K x)
  | .exf x f => (Fa.glo x).ok K && (exfB K (ga K x) && (eqO (PySem.W.findIn K (.ref (ga K x)) "__setattr__") (some (some (.builtin "object.__setattr__"))) && (decide (PySem.W.subIn K (.ref (ga K x)) (.type "BaseException") = some true) && (decide (PySem.W.typeIn K (.ref (ga K x)) = some (.type "type")) && (PySem.W.keepIn K (.ref (ga K x)) && eqO (PySem.W.findIn K (.ref (ga K x)) f) (some none))))))
  | .exi x => (Fa.glo x).ok K && (eqO (PySem.W.findIn K (.ref (ga K x)) "__init__") (some (some (.ref (ma K (ga K x) "__init__")))) && decide (PySem.W.typeIn K (.ref (ma K (ga K x) "__init__")) = some (.type "function")))
  | .kv x kvs => (Fa.glo x).ok K && valsB K (ga K x) (kvs.map fun q => (q.1, Dv.str q.2))
  | .al y x => (Fa.glo x).ok K && eqO (PySem.W.nsIn K mainGlobals y) (some (some (.ref (ga K x))))
section
variable {K : PySem.W.Frag} {h : Heap} {mg : Str → Option Value} {x y f m : Str}
theorem z_free (X : K.In h) (G : h.Ns mainGlobals mg) (c : (Fz.fa (.free x)).ok K = true) : mg x = none := free_ok X G c
theorem z_int {i : Int} (X : K.In h) (G : h.Ns mainGlobals mg) (c : (Fz.fa (.int x i)).ok K = true) : ∃ t, mg x = some (.int i t) := int_ok X G c
theorem z_str {i : Str} (X : K.In h) (G : h.Ns mainGlobals mg) (c : (Fz.fa (.str x i)).ok K = true) : ∃ t, mg x = some (.str i t) := str_ok X G c
theorem z_cls (c : (Fz.fa (.cls x)).ok K = true) : Cls K (clsA K x) := cls_ok c
theorem z_noat (c : (Fz.fa (.noat x f)).ok K = true) : NoAttr K (clsA K x) f := noat_ok c
theorem z_glo (X : K.In h) (G : h.Ns mainGlobals mg) (c : (Fz.fa (.glo x)).ok K = true) : mg x = some (.ref (clsA K x)) := glo_ok X G c
theorem z_exm {b : Bool} (c : (Fz.fa (.exm x y b)).ok K = true) : PySem.W.exmOne K (.ref (clsA K x)) (.ref (clsA K y)) = some b := exm_ok c
theorem z_te (X : K.In h) (G : h.Ns mainGlobals mg) (c : (Fz.te x).ok K = true) : TeC K mg x := by
  obtain ⟨c1, c⟩ := ba c
  obtain ⟨c2, c⟩ := ba c
  obtain ⟨c3, c4⟩ := ba c
  exact teC_mk X G (eqO_ok c1) (eqO_ok c2) c3 (veInit_ok c4)
theorem z_exf (X : K.In h) (G : h.Ns mainGlobals mg) (c : (Fz.exf x f).ok K = true) : ExF K mg x f := by
  obtain ⟨c1, c⟩ := ba c
  obtain ⟨c2, c⟩ := ba c
  obtain ⟨c3, c⟩ := ba c
  obtain ⟨c4, c⟩ := ba c
  obtain ⟨c5, c⟩ := ba c
  obtain ⟨c6, c7⟩ := ba c
  obtain ⟨nm, qn, N, bs, bm, sn, sub, ab, col, dd, k0, k1, k2, k3, k5, l, r⟩ := exfB_ok c2
  exact exF_mk X G (eqO_ok c1) l r (eqO_ok c3) (of_decide_eq_true c4) (of_decide_eq_true c5) c6 (eqO_ok c7)
theorem dflN {dV : Value} (h : DflV K dV []) : dV = .none := by
  rcases h with ⟨_, e⟩ | ⟨n, _⟩
  · exact e
  · exact absurd rfl n
theorem z_fun (X : K.In h) (G : h.Ns mainGlobals mg) {st : Stmt} {ps : List Str} (g : (Fz.fa (.glo x)).ok K = true) (D : ∃ fd, FunD K x x (defArgs st) (defBody st) (defScope st) [] [] (fAd K (x, none)) fd)
    (b : ∀ (kV doc pm : Value) (an : Option Addr) (cdv ct : Value) (us : List Value), us.length = ps.length → bindArgs (PySem.W.fnOf x x (defArgs st) (defBody st) (defScope st) .none kV doc pm an cdv ct) ⟨us, []⟩ = pure (ps.zip us)) : FunAt K mg x st ps := by
  obtain ⟨fd, ⟨oc, od, dV, kV, doc, pm, an, cdv, ct, osl, rfl, l, c, dv, _⟩, kp⟩ := D
  have e := dflN dv
  subst e
  exact funAt_mk X G (eqO_ok g) l c kp b
theorem z_meth (X : K.In h) {q : Str} {st : Stmt} {ps : List Str} (g : (Fz.fa (.glo x)).ok K = true) (e : (Fz.fa (.meth x m)).ok K = true) (D : ∃ fd, FunD K m q (defArgs st) (defBody st) (defScope st) [] [] (fAd K (x, some m)) fd)
    (b : ∀ (kV doc pm : Value) (an : Option Addr) (cdv ct : Value) (us : List Value), us.length = ps.length → bindArgs (PySem.W.fnOf m q (defArgs st) (defBody st) (defScope st) .none kV doc pm an cdv ct) ⟨us, []⟩ = pure (ps.zip us)) : MethAt K x m q st ps := by
  obtain ⟨fd, ⟨oc, od, dV, kV, doc, pm, an, cdv, ct, osl, rfl, l, c, dv, _⟩, kp⟩ := D
  have e0 := dflN dv
  subst e0
  obtain ⟨c1, c⟩ := ba e
  obtain ⟨c2, c3⟩ := ba c
  exact methAt_mk X (eqO_ok g) (eqO_ok c1) l ‹_› c2 c3 b
theorem z_make (X : K.In h) (G : h.Ns mainGlobals mg) {q : Str} {st : Stmt} {ps : List Str} (g : (Fz.fa (.glo x)).ok K = true) (e : (Fz.fa (.mkr x)).ok K = true) (D : ∃ fd, FunD K "__init__" q (defArgs st) (defBody st) (defScope st) [] [] (fAd K (x, some "__init__")) fd)
    (b : ∀ (kV doc pm : Value) (an : Option Addr) (cdv ct : Value) (us : List Value), us.length = ps.length → bindArgs (PySem.W.fnOf "__init__" q (defArgs st) (defBody st) (defScope st) .none kV doc pm an cdv ct) ⟨us, []⟩ = pure (ps.zip us)) : MakeAt K mg x q st ps := by
  obtain ⟨fd, ⟨oc, od, dV, kV, doc, pm, an, cdv, ct, osl, rfl, l, c0, dv, _⟩, kp⟩ := D
  have e0 := dflN dv
  subst e0
  obtain ⟨c1, c⟩ := ba e
  obtain ⟨c2, c⟩ := ba c
  obtain ⟨c3, c4⟩ := ba c
  exact makeAt_mk X G (eqO_ok g) (eqO_ok c2) l c0 c3 kp c1 c4 b
theorem z_exat (X : K.In h) {q : Str} {st : Stmt} {ps : List Str} (e : (Fz.exi x).ok K = true) (D : ∃ fd, FunD K "__init__" q (defArgs st) (defBody st) (defScope st) [] [] (fAd K (x, some "__init__")) fd)
    (b : ∀ (kV doc pm : Value) (an : Option Addr) (cdv ct : Value) (us : List Value), us.length = ps.length → bindArgs (PySem.W.fnOf "__init__" q (defArgs st) (defBody st) (defScope st) .none kV doc pm an cdv ct) ⟨us, []⟩ = pure (ps.zip us)) : ExAt K x q st ps := by
  obtain ⟨fd, ⟨oc, od, dV, kV, doc, pm, an, cdv, ct, osl, rfl, l, c0, dv, _⟩, kp⟩ := D
  have e0 := dflN dv
  subst e0
  obtain ⟨c1, c⟩ := ba e
  obtain ⟨c2, c3⟩ := ba c
  exact exAt_mk X (eqO_ok c1) (eqO_ok c2) l c0 (of_decide_eq_true c3) kp b
theorem law_endZ {P : Program} {w : World} (X : K.In h) (G : h.Ns mainGlobals mg) {fa : Addr} (hfa : mg "law" = some (.ref fa)) {st : Stmt} {x : Str} {k : Nat} {sp : Sp} (g : (Fz.fa (.glo "law")).ok K = true)
    (D : ∃ fd, FunD K "law" "law" (defArgs st) (defBody st) (defScope st) [] [] (fAd K ("law", none)) fd)
    (hb : ∀ (kV doc pm : Value) (an : Option Addr) (cdv ct : Value) (s : Shared) (v : Value), BindsTo s (PySem.W.fnOf "law" "law" (defArgs st) (defBody st) (defScope st) .none kV doc pm an cdv ct) ⟨[v], []⟩ [(x, v)])
    (b : ∀ (base : Heap) (f : Addr) (fd : FuncData), Fun K "law" "law" st f fd → FnOk P w K mg base CX0 k f fd [x] sp) :
    ∃ fd : FuncData, (∀ (s : Shared) (v : Value), BindsTo s fd ⟨[v], []⟩ [(x, v)]) ∧ ∀ base : Heap, K.In base → base.Ns mainGlobals mg → FnOk P w K mg base CX0 k fa fd [x] sp := by
  obtain ⟨fd, ⟨oc, od, dV, kV, doc, pm, an, cdv, ct, osl, rfl, l, c, dv, _⟩, kp⟩ := D
  have e := dflN dv
  subst e
  exact law_end X G hfa (eqO_ok g) l c kp (hb kV doc pm an cdv ct) fun base F => b base _ _ F
end
/-! the Hook -/
/-- what is looked at: the module's names, their functions' codes and classes' dicts, the methods there, their codes -/
noncomputable def codeR : Option Obj → List Addr
  | some ⟨_, _, .func fd, _⟩ => refV fd.code
  | _ => []
noncomputable def nextR : Option Obj → List Addr
  | some ⟨_, _, .func fd, _⟩ => refV fd.code
  | some ⟨_, _, .cls cd, _⟩ => [cd.ns]
  | _ => []
noncomputable def dictR : Option Obj → List Addr
  | some ⟨_, _, .dict es _, _⟩ => es.toList.flatMap fun e => refV e.val
  | _ => []
noncomputable def asW (g : Addr → Option Obj) : List Addr :=
  (fun l1 => (fun l2 => (fun l3 => mainGlobals :: (l1 ++ (l2 ++ (l3 ++ ((l3.flatMap fun a => codeR (g a)) ++ [cStatics]))))) (l2.flatMap fun a => dictR (g a))) (l1.flatMap fun a => nextR (g a))) (dictR (g mainGlobals))
noncomputable abbrev AlZ : Type := (Bool × List FnW) × List (Option (List (Option (Str × Int))))
noncomputable def obsZ (fz : List Fz) (fn : List DefD) (ts : List Tab) (K : PySem.W.Frag) : AlZ := (((fz.all fun f => f.ok K) && fn.all fun d => d.ok K, fn.map fun d => fnW K d.at_), ts.map fun t => dicW K (t.1 K))
noncomputable def valZ (fn : List DefD) (ts : List Tab) (w : World) : AlZ := ((true, fn.map DefD.val), ts.map fun t => some (keysIn w.params t.2))
noncomputable def SaysZ (fz : List Fz) (fn : List DefD) (ts : List Tab) (w : World) (K : PySem.W.Frag) : Prop := obsZ fz fn ts K = valZ fn ts w
noncomputable def obsZG (fz : List Fz) (fn : List DefD) (ts : List Tab) (g : Addr → Option Obj) : AlZ := obsZ fz fn ts (frG g (asW g))
noncomputable def hookZ (fz : List Fz) (fn : List DefD) (ts : List Tab) : PySem.W.Hook where
  α := AlZ
  obs := fun s => obsZG fz fn ts s.heap.get?
  val := fun w => valZ fn ts w
  says := fun w h => ∃ K : PySem.W.Frag, K.In h ∧ SaysZ fz fn ts w K
  of := fun _ _ e => ⟨_, frG_in, e⟩
  keeps := fun _ _ _ ⟨K, hK, c⟩ k => ⟨K, PySem.W.Frag.In.keeps hK k, c⟩
theorem obsZG_eq {fz : List Fz} {fn : List DefD} {ts : List Tab} {g : Addr → Option Obj} {s : Shared} (h : ∀ a, g a = s.heap.get? a) : obsZG fz fn ts g = (hookZ fz fn ts).obs s := by
  have e : g = s.heap.get? := funext h
  rw [e] <;> rfl
section
variable {fz : List Fz} {fn : List DefD} {ts : List Tab} {w : World} {K : PySem.W.Frag}
theorem SaysZ.fact (c : SaysZ fz fn ts w K) (i : Nat) {f : Fz} (h : fz[i]? = some f := by rfl) : f.ok K = true := by
  have c1 := (ba (show ((fz.all fun f => f.ok K) && fn.all fun d => d.ok K) = true from congrArg (fun z : AlZ => z.1.1) c)).1
  exact List.all_eq_true.mp c1 f (List.mem_of_getElem? h)
theorem SaysZ.def_ (c : SaysZ fz fn ts w K) (i : Nat) {d : DefD} (h : fn[i]? = some d := by rfl) : ∃ fd, FunD K d.name d.qual d.params d.body d.scope (d.dvs K) (d.kws K) (fAd K d.at_) fd := by
  have c2 := (ba (show ((fz.all fun f => f.ok K) && fn.all fun d => d.ok K) = true from congrArg (fun z : AlZ => z.1.1) c)).2
  have e : fn.map (fun d => fnW K d.at_) = fn.map DefD.val := congrArg (fun z : AlZ => z.1.2) c
  have e2 : (fn.map fun d => fnW K d.at_)[i]? = (fn.map DefD.val)[i]? := by rw [e]
  rw [List.getElem?_map, List.getElem?_map, h] at e2
  exact DefD.funD (Option.some.inj e2) (List.all_eq_true.mp c2 d (List.mem_of_getElem? h))
theorem SaysZ.tabW (c : SaysZ fz fn ts w K) (i : Nat) {t : Tab} (h : ts[i]? = some t := by rfl) : dicW K (t.1 K) = some (keysIn w.params t.2) := by
  have e : ts.map (fun t => dicW K (t.1 K)) = ts.map fun t => some (keysIn w.params t.2) := congrArg (fun z : AlZ => z.2) c
  have e2 : (ts.map fun t => dicW K (t.1 K))[i]? = (ts.map fun t => some (keysIn w.params t.2))[i]? := by rw [e]
  rw [List.getElem?_map, List.getElem?_map, h] at e2
  exact Option.some.inj e2
end
end TR

/-! short words: hp (what stands at an address), ex (a heap grows into another), ne, fr, sq, st; s (one step of a reading), ss (steps as far as they go) -/
open PySem L2 TR
local macro_rules | `(tactic| walk_at "ex") => `(tactic| first
  | exact Ex.refl _
  | assumption
  | focus (apply Ex.trans; rotate_left; assumption; walk_at "ex")
  | focus (apply Ex.exm; rotate_left; rotate_left; assumption; walk_at "ex"; (walk_at "fr2")))
local macro_rules | `(tactic| walk_at "fr2") => `(tactic| first
  | assumption
  | focus (apply Ex.back; rotate_left; assumption; walk_at "ex"))
local macro_rules | `(tactic| walk_at "hp") => `(tactic| first
  | assumption
  | (apply ex_ap; assumption; walk_at "hp")
  | (apply exm_ap; assumption; walk_at "ne"; walk_at "hp"))
local macro_rules | `(tactic| walk_at "ne") => `(tactic| first
  | assumption
  | (apply Ne.symm; assumption)
  | exact TR.hand_ne0 (by assumption) (by assumption))
local macro_rules | `(tactic| walk_at "sq") => `(tactic| first
  | assumption
  | (apply sq_of; walk_at "hp")
  | focus (apply Ex.sq; rotate_left; assumption; walk_at "ex"))
local macro_rules | `(tactic| walk_at "st") => `(tactic| first
  | assumption
  | (apply st_of; walk_at "hp")
  | focus (apply Ex.st; rotate_left; assumption; walk_at "ex"))
local macro_rules | `(tactic| walk_at "is") => `(tactic| first
  | exact Is.int _
  | assumption
  | (apply Is.pair; walk_at "st"; walk_at "is"; walk_at "is")
  | focus (apply Is.ex; rotate_left; assumption; walk_at "ex"))
local macro_rules | `(tactic| walk_at "la") => `(tactic| first
  | assumption)
local macro_rules | `(tactic| walk_at "at") => `(tactic| first
  | exact atI_lt (by decide) rfl
  | rfl)
local macro_rules | `(tactic| walk_at "ixn") => `(tactic| first
  | exact ixN_lt (by decide) (by decide)
  | rfl)
local macro_rules | `(tactic| walk_at "len") => `(tactic| first
  | omega
  | (simp only [List.length_map, List.length_range, List.length_append, List.length_cons, List.length_nil, List.length_reverse, List.length_set]; omega))
local macro_rules | `(tactic| walk_at "od") => `(tactic| first
  | decide
  | omega
  | exact Nat.le_of_ble_eq_true rfl)
local macro_rules | `(tactic| walk_at "kit") => `(tactic| first
  | exact k_ii
  | exact k_ib)
local macro_rules | `(tactic| walk_at "s") => `(tactic| first
  | (with_reducible (first | apply s_seq | apply s_asg | apply s_gname | apply s_ret | apply s_if | apply s_next | apply s_drop))
  | ((with_reducible apply s_var); rfl)
  | (with_reducible (first | apply s_c | apply s_op | apply s_un | apply s_chain | apply s_test | apply s_tB | apply s_bl | apply s_and | apply s_or | apply s_not | apply s_andV | apply s_orV | apply s_notV | apply s_ifE | apply s_I0 | apply s_U | apply s_plusI | apply s_eqI | apply s_neI | apply s_eqS | apply s_neS))
  | ((with_reducible apply s_mod); walk_at "od"; intro _ _)
  | ((with_reducible apply s_div); walk_at "od"; walk_at "od")
  | (walk_at "pow")
  | ((with_reducible apply s_pow); decide; walk_at "od")
  | ((with_reducible apply s_mulL); walk_at "od")
  | ((with_reducible apply s_mulR); walk_at "od")
  | (with_reducible (first | apply s_nil | apply s_cons | apply s_call | apply s_CB | apply s_lst | apply s_tup | apply s_sl | apply s_np | apply s_part | apply s_int | apply s_BM | apply s_gsub | apply s_augS | apply s_ipI | apply s_forL | apply s_forT | apply s_forR1 | apply s_forS | apply s_lcL | apply s_lcR1 | apply s_lcZ | apply s_dput))
  | ((with_reducible apply s_wp); rfl)
  | ((with_reducible apply s_sum); walk_at "sq")
  | ((with_reducible apply s_gt2); walk_at "st")
  | (with_reducible (first | apply s_isN0 | apply s_isN1 | apply s_isN2 | apply s_isN3 | apply s_max2 | apply s_min2 | apply s_abs | apply s_int1b))
  | ((with_reducible apply s_isiI); walk_at "kit")
  | ((with_reducible apply s_isiB); walk_at "kit")
  | ((with_reducible apply s_isiS); walk_at "kit")
  | ((with_reducible apply s_isiN); walk_at "kit")
  | ((with_reducible apply s_isiL); walk_at "sq"; walk_at "kit")
  | ((with_reducible apply s_isiT); walk_at "st"; walk_at "kit")
  | ((with_reducible apply s_lenM); walk_at "sq")
  | ((with_reducible apply s_lenL); walk_at "sq")
  | ((with_reducible apply n_slL); walk_at "sq"; intro _ _ _ _ _)
  | ((with_reducible apply s_index); walk_at "sq"; assumption; intro _ _ _)
  | ((with_reducible apply s_niL); walk_at "sq")
  | ((with_reducible apply s_tyL); walk_at "sq")
  | ((with_reducible apply n_lst); walk_at "od"; intro _ _ _ _ _)
  | ((with_reducible apply n_tup); walk_at "od"; intro _ _ _ _ _)
  | ((with_reducible apply n_cat); walk_at "hp"; walk_at "hp"; walk_at "len"; intro _ _ _ _ _)
  | ((with_reducible apply s_ixL); walk_at "sq"; walk_at "at")
  | ((with_reducible apply s_ixT); walk_at "st"; walk_at "at")
  | ((with_reducible apply s_ix3); walk_at "sq"; omega; intro _ _)
  | ((with_reducible apply s_ixI); walk_at "sq"; omega; intro _ _)
  | ((with_reducible apply s_getL); walk_at "sq"; decide; walk_at "at")
  | ((with_reducible apply n_setL); walk_at "hp"; walk_at "ixn"; intro _ _ _)
  | ((with_reducible apply s_eqP (α := List Int)); walk_at "is"; walk_at "is"; decide)
  | ((with_reducible apply s_neP (α := List Int)); walk_at "is"; walk_at "is"; decide)
  | ((with_reducible apply s_eqP (α := Int × Int)); walk_at "is"; walk_at "is"; decide)
  | ((with_reducible apply s_neP (α := Int × Int)); walk_at "is"; walk_at "is"; decide)
  | ((with_reducible apply s_eqP (α := Bool × Int)); walk_at "is"; walk_at "is"; decide)
  | ((with_reducible apply s_neP (α := Bool × Int)); walk_at "is"; walk_at "is"; decide)
  | ((with_reducible apply s_eqP (α := Int × Option Int)); walk_at "is"; walk_at "is"; decide)
  | ((with_reducible apply s_neP (α := Int × Option Int)); walk_at "is"; walk_at "is"; decide)
  | ((with_reducible apply s_eqP (α := T3 Int Int Int)); walk_at "is"; walk_at "is"; decide)
  | ((with_reducible apply s_neP (α := T3 Int Int Int)); walk_at "is"; walk_at "is"; decide)
  | ((with_reducible apply s_eqP (α := T4 Int Int Int Int)); walk_at "is"; walk_at "is"; decide)
  | ((with_reducible apply s_neP (α := T4 Int Int Int Int)); walk_at "is"; walk_at "is"; decide)
  | ((with_reducible apply s_eqP (α := List (Int × Int))); walk_at "is"; walk_at "is"; decide)
  | ((with_reducible apply s_neP (α := List (Int × Int))); walk_at "is"; walk_at "is"; decide)
  | ((with_reducible apply s_eqP (α := List (T3 Int Int Int))); walk_at "is"; walk_at "is"; decide)
  | ((with_reducible apply s_neP (α := List (T3 Int Int Int))); walk_at "is"; walk_at "is"; decide)
  | ((with_reducible apply s_eqP (α := List (T4 Int Int Int Int))); walk_at "is"; walk_at "is"; decide)
  | ((with_reducible apply s_neP (α := List (T4 Int Int Int Int))); walk_at "is"; walk_at "is"; decide)
  | ((with_reducible apply s_eqP (α := List (List Int))); walk_at "is"; walk_at "is"; decide)
  | ((with_reducible apply s_neP (α := List (List Int))); walk_at "is"; walk_at "is"; decide)
  | (with_reducible (first | apply i_t | apply i_f | apply i_nt | apply i_nf))
  | ((with_reducible apply i_dt); (focus (first | trivial | assumption | omega | rfl)))
  | ((with_reducible apply i_df); (focus (first | assumption | omega | exact (fun h => h rfl))))
  | ((with_reducible apply i_ndt); (focus (first | trivial | assumption | omega | rfl))))
local macro_rules | `(tactic| walk_at "pow") => `(tactic| first
  | (with_reducible (first | apply s_pow2_56 | apply s_pow2_60 | apply s_pow10_6 | apply s_pow10_9 | apply s_pow10_10 | apply s_pow10_18)))
local macro_rules | `(tactic| walk_at "cx") => `(tactic| try dsimp only [cx_K, cx_K2])
local macro_rules | `(tactic| walk_at "ss") => `(tactic| ((try dsimp only); (repeat walk_at "s")))
/-! the slots made plain again (many names, comprehensions): reading them is slow otherwise -/
local macro_rules | `(tactic| walk_at "nm") => `(tactic| simp only [List.set_cons_succ, List.set_cons_zero, wipe, List.map_cons, List.map_nil])

/-! powers of two, levels, rooms -/
namespace TR
theorem two_pos (k : Nat) : (1 : Int) ≤ 2 ^ k := by
  have h : (1 : Nat) ≤ 2 ^ k := Nat.one_le_two_pow
  have e : ((2 ^ k : Nat) : Int) = (2 : Int) ^ k := by rw [Int.natCast_pow]; rfl
  omega
theorem two_succ (k : Nat) : (2 : Int) ^ (k + 1) = 2 * 2 ^ k := by rw [Int.pow_succ, Int.mul_comm]
theorem two_mono {a b : Nat} (h : a ≤ b) : (2 : Int) ^ a ≤ 2 ^ b := by
  have h1 : (2 : Nat) ^ a ≤ 2 ^ b := Nat.pow_le_pow_right (by decide) h
  have e1 : ((2 ^ a : Nat) : Int) = (2 : Int) ^ a := by rw [Int.natCast_pow]; rfl
  have e2 : ((2 ^ b : Nat) : Int) = (2 : Int) ^ b := by rw [Int.natCast_pow]; rfl
  omega
theorem two_lt {a b : Nat} (h : (2 : Int) ^ a < 2 ^ b) : a < b := by
  apply Decidable.byContradiction
  intro n
  have := two_mono (show b ≤ a by omega)
  omega
theorem two_add (a b : Nat) : (2 : Int) ^ (a + b) = 2 ^ a * 2 ^ b := Int.pow_add 2 a b
theorem two60 : (2 : Int) ^ 60 = 1152921504606846976 := by decide
theorem two_le60 {k : Nat} (h : k ≤ 60) : (2 : Int) ^ k ≤ 1152921504606846976 := by
  have := two_mono h
  rw [two60] at this
  exact this
noncomputable def lev (r : Int) : Nat := Nat.log2 r.toNat
noncomputable def whole (r : Int) : Int := 2 ^ lev r
theorem whole_spec {r : Int} (h : 1 ≤ r) : 1 ≤ whole r ∧ whole r ≤ r ∧ r < 2 * whole r := by
  have h0 : r.toNat ≠ 0 := by omega
  have h1 := Nat.log2_self_le h0
  have h2 := Nat.lt_log2_self (n := r.toNat)
  have e1 : ((2 ^ Nat.log2 r.toNat : Nat) : Int) = whole r := by
    unfold whole lev
    rw [Int.natCast_pow]
    rfl
  have e2 : ((2 ^ (Nat.log2 r.toNat + 1) : Nat) : Int) = 2 * whole r := by
    rw [Nat.pow_succ, Int.natCast_mul, e1]
    omega
  have := two_pos (lev r)
  unfold whole at *
  omega
theorem lev_unique {r : Int} {k : Nat} (h1 : (2 : Int) ^ k ≤ r) (h2 : r < 2 * 2 ^ k) : lev r = k := by
  have hr : 1 ≤ r := by have := two_pos k; omega
  obtain ⟨a, b, c⟩ := whole_spec hr
  unfold whole at *
  rw [← two_succ] at c h2
  have l1 : k < lev r + 1 := two_lt (by omega)
  have l2 : lev r < k + 1 := two_lt (by omega)
  omega
theorem whole_unique {r : Int} {k : Nat} (h1 : (2 : Int) ^ k ≤ r) (h2 : r < 2 * 2 ^ k) : whole r = 2 ^ k := by
  unfold whole
  rw [lev_unique h1 h2]
noncomputable def roomOf (key rooms : Int) : Int := if key % whole rooms < rooms - whole rooms then key % (2 * whole rooms) else key % whole rooms
theorem mod2 (x : Int) {w : Int} (h : 0 < w) : x % (2 * w) = x % w ∨ x % (2 * w) = x % w + w := by
  have e : x % (2 * w) % w = x % w := Int.emod_emod_of_dvd x ⟨2, Int.mul_comm 2 w⟩
  have l1 := Int.emod_nonneg x (show 2 * w ≠ 0 by omega)
  have l2 := Int.emod_lt_of_pos x (show 0 < 2 * w by omega)
  generalize x % (2 * w) = r at *
  by_cases h2 : r < w
  · left
    rw [← e, Int.emod_eq_of_lt l1 h2]
  · right
    have e2 : (r - w + w) % w = (r - w) % w := by rw [Int.add_emod_right]
    rw [Int.sub_add_cancel, Int.emod_eq_of_lt (show 0 ≤ r - w by omega) (by omega)] at e2
    omega
theorem roomOf_range {key rooms : Int} (h : 1 ≤ rooms) : 0 ≤ roomOf key rooms ∧ roomOf key rooms < rooms := by
  obtain ⟨a, b, c⟩ := whole_spec h
  have l1 := Int.emod_nonneg key (show whole rooms ≠ 0 by omega)
  have l2 := Int.emod_lt_of_pos key (show 0 < whole rooms by omega)
  have l3 := Int.emod_nonneg key (show 2 * whole rooms ≠ 0 by omega)
  have m := mod2 key (show 0 < whole rooms by omega)
  unfold roomOf
  split <;> omega
end TR
/-! bits, and keys turned about -/
namespace TR
noncomputable def bit (x : Int) (k : Nat) : Int := x / 2 ^ k % 2
theorem bit_succ (x : Int) (k : Nat) : bit x (k + 1) = bit (x / 2) k := by
  unfold bit
  rw [two_succ, Int.ediv_ediv_of_nonneg (by decide : (0 : Int) ≤ 2)]
theorem bit_zero (x : Int) : bit x 0 = x % 2 := by
  unfold bit
  rw [show (2 : Int) ^ 0 = 1 from rfl, Int.ediv_one]
theorem bit01 (x : Int) (k : Nat) : bit x k = 0 ∨ bit x k = 1 := by
  unfold bit
  omega
noncomputable def rev : Nat → Int → Int
  | 0, _ => 0
  | n + 1, x => rev n x * 2 + bit x n
theorem mod_two (x : Int) {w : Int} (h : 0 < w) : x % (2 * w) = x % w + w * (x / w % 2) := by
  have e1 := Int.mul_ediv_add_emod x w
  have l1 := Int.emod_nonneg x (Int.ne_of_gt h)
  have l2 := Int.emod_lt_of_pos x h
  have e2 : x / w = 2 * (x / w / 2) + x / w % 2 := by omega
  have e3 : x = x % w + w * (x / w % 2) + 2 * w * (x / w / 2) := by
    have : w * (x / w) = w * (2 * (x / w / 2)) + w * (x / w % 2) := by rw [← Int.mul_add, ← e2]
    have : w * (2 * (x / w / 2)) = 2 * w * (x / w / 2) := by rw [← Int.mul_assoc, Int.mul_comm w 2]
    omega
  have b : x / w % 2 = 0 ∨ x / w % 2 = 1 := by omega
  have e4 : (x % w + w * (x / w % 2) + 2 * w * (x / w / 2)) % (2 * w) = (x % w + w * (x / w % 2)) % (2 * w) := Int.add_mul_emod_self_left _ _ _
  rw [← e3] at e4
  rw [e4]
  refine Int.emod_eq_of_lt ?_ ?_
  · rcases b with b | b <;> rw [b] <;> omega
  · rcases b with b | b <;> rw [b] <;> omega
/-- the first bit in which two differ -/
noncomputable def Dif (x y : Int) (d : Nat) : Prop := (∀ k, k < d → bit x k = bit y k) ∧ bit x d ≠ bit y d
theorem dif_of : ∀ (n : Nat) (x y : Int), 0 ≤ x → x < 2 ^ n → 0 ≤ y → y < 2 ^ n → x ≠ y → ∃ d, d < n ∧ Dif x y d
  | 0, x, y, h0, h1, h2, h3, h => by
    have : (2 : Int) ^ 0 = 1 := rfl
    omega
  | n + 1, x, y, h0, h1, h2, h3, h => by
    rw [two_succ] at h1 h3
    by_cases e : x % 2 = y % 2
    · obtain ⟨d, hd, g1, g2⟩ := dif_of n (x / 2) (y / 2) (by omega) (by omega) (by omega) (by omega) (by omega)
      refine ⟨d + 1, by omega, fun k hk => ?_, by rw [bit_succ, bit_succ]; exact g2⟩
      cases k with
      | zero => rw [bit_zero, bit_zero, e]
      | succ k => rw [bit_succ, bit_succ]; exact g1 k (by omega)
    · exact ⟨0, by omega, fun k hk => absurd hk (Nat.not_lt_zero k), by rw [bit_zero, bit_zero]; exact e⟩
noncomputable def partedAt (x y : Int) (d : Nat) : Int := 1 + max (x % 2 ^ (d + 1)) (y % 2 ^ (d + 1))
end TR
namespace TR
end TR
namespace TR
end TR

/-! a comprehension whose step may raise -/
namespace TR
open PySem L2 PySem.Spec PyProof.Rows
open PySem.Sem (wp)
section
variable {X : Cx} {pins : List (Addr × Obj)} {σ : L2.St} {H : Hp} {s s' : Shared} {W : WX} {E : XK}
end
/-- [elt for tg in iter if ..] whose element may let out what W wants -/
noncomputable def tLcX (W : WX) (wi : TI) (g : TG) (tt : TT) (te : XK → TE) (vs : List Nat) : TE := fun σ H Q => tLc wi g tt (te fun cls d H' => W cls d σ H') vs σ H Q
section
variable {X : Cx} {W : WX} {pins : List (Addr × Obj)} {s : Shared} {σ : L2.St} {H : Hp} {Q : VK} {elt tg iter : Expr} {ifs : List Expr} {scope : Scope} {own : List (Str × Nat)} {pos pos' : Pos} {wi : TI} {g : TG} {tt : TT} {te : XK → TE} {use : Option (Value → Sem Unit)} {Qf : Value → Shared → Prop}
end
end TR

/-! sorted of pairs of a number and a text, no two unlike ones of the same number -/
namespace SrtS
open PySem PySem.W PyProof.Rows SrtO
section
variable {prog : Program} {w : World} {A : Around} {E : Value → Shared → Prop} {s : Shared}
noncomputable def IsPS (h : Heap) (v : Value) (x : Int) (y : Str) : Prop := ∃ a o t u n, v = .ref a ∧ h.get? a = some o ∧ o.cls = .type "tuple" ∧ o.data = .seq #[.int x t, .str y u] n
theorem IsPS.keeps {h h' : Heap} {v : Value} {x : Int} {y : Str} (p : IsPS h v x y) (k : ∀ b o, h.get? b = some o → o.cls = .type "tuple" → h'.get? b = some o) : IsPS h' v x y := by
  obtain ⟨a, o, t, u, n, e, ho, hc, hd⟩ := p
  exact ⟨a, o, t, u, n, e, k _ _ ho hc, hc, hd⟩
noncomputable def ltI (p q : Int × Str) : Bool := decide (p.1 < q.1)
theorem swo_I {α : Type} (k : α → Int × Str) : Swo fun v u => ltI (k v) (k u) := by
  unfold ltI
  refine ⟨fun x y h => ?_, fun x y z h1 h2 => ?_⟩
  · have a := of_decide_eq_true h
    exact decide_eq_false (by omega)
  · have a := of_decide_eq_false h1
    have b := of_decide_eq_false h2
    exact decide_eq_false (by omega)
theorem ps_cmp {vs : List Value} {k : Value → Int × Str} (hp : ∀ v ∈ vs, IsPS s.heap v (k v).1 (k v).2) (hk : ∀ v ∈ vs, ∀ u ∈ vs, (k v).1 = (k u).1 → (k v).2 = (k u).2) :
    SrtO.Cmp prog w A s (tuples' true) (fun p => p.1 ∈ vs) (lt2 fun v u => ltI (k v) (k u)) := by
  intro p q hm hm'
  have h1 := hp _ hm
  have h2 := hp _ hm'
  have h3 := hk _ hm _ hm'
  show wpAny (model prog w) A (keyLt' (tuples' true) p.1 q.1) (fun r s' => s' = s ∧ r = ltI (k p.1) (k q.1)) (fun _ _ => False) s
  unfold ltI
  generalize (k p.1).1 = x at h1 h3 ⊢
  generalize (k p.1).2 = y at h1 h3 ⊢
  generalize (k q.1).1 = x' at h2 h3 ⊢
  generalize (k q.1).2 = y' at h2 h3 ⊢
  obtain ⟨a, o, t, u, n, e, ho, hc, hd⟩ := h1
  obtain ⟨a', o', t', u', n', e', ho', hc', hd'⟩ := h2
  rw [e, e']
  refine PySem.W.kat_lt ho hd ho' hd' ?_
  show PySem.W.KatLex prog w A true (decide (2 < 2)) _ [(.int x t, .int x' t'), (.str y u, .str y' u')] 0 s
  refine PySem.W.kat_cons (SeqAt.EqAt.int_int x t x' t' prog w _ _ ?_)
  refine PySem.W.kat_go (fun e1 => ?_) (fun e1 => ?_)
  · have ex : x = x' := by simpa using e1
    have ey : y = y' := h3 ex
    subst ex
    subst ey
    refine PySem.W.kat_yes (PySem.W.kat_cons (SeqAt.EqAt.str_str y u y u' prog w _ _ ?_))
    refine PySem.W.kat_go (fun e2 => ?_) (fun e2 => ?_)
    · exact PySem.W.kat_yes (PySem.W.kat_nil ⟨rfl, (decide_eq_false (Int.lt_irrefl _)).symm⟩)
    · exact absurd e2 (by simp)
  · exact PySem.W.kat_no (oneLt_int ⟨rfl, rfl⟩)
theorem firstsS_of {h : Heap} : ∀ {vs : List Value}, (∀ v ∈ vs, ∃ x y, IsPS h v x y) → ∃ fs : List Value, PySem.W.KatTups h vs fs ∧ fs.length = vs.length ∧ ∀ f ∈ fs, ∃ x t, f = Value.int x t
  | [], _ => ⟨[], PySem.W.KatTups.nil, rfl, fun _ hm => by simp at hm⟩
  | v :: vs, hp => by
    obtain ⟨fs, h1, h2, h3⟩ := firstsS_of (vs := vs) fun v' hm => hp v' (List.mem_cons_of_mem _ hm)
    obtain ⟨x, y, a, o, t, u, n, e, ho, hc, hd⟩ := hp v (List.mem_cons_self ..)
    subst e
    refine ⟨.int x t :: fs, PySem.W.KatTups.cons ho hc hd rfl h1, by rw [List.length_cons, List.length_cons, h2], fun f hm => ?_⟩
    rcases List.mem_cons.mp hm with rfl | hm
    · exact ⟨x, t, rfl⟩
    · exact h3 f hm
theorem ps_sortable {a : Addr} {vs : List Value} {k : Value → Int × Str} (h0 : 0 < vs.length) (hp : ∀ v ∈ vs, IsPS s.heap v (k v).1 (k v).2) (hk : ∀ v ∈ vs, ∀ u ∈ vs, (k v).1 = (k u).1 → (k v).2 = (k u).2)
    (ha : ∀ o, s.heap.get? a = some o → o.cls ≠ .type "tuple") : SortableO prog w A s a vs fun v u => ltI (k v) (k u) := by
  intro h' keep
  have hp' : ∀ v ∈ vs, IsPS h' v (k v).1 (k v).2 := fun v hm => (hp v hm).keeps fun b o e c => keep b o (fun z => by subst z; exact ha o e c) e
  obtain ⟨fs, h1, h2, h3⟩ := firstsS_of fun v hm => ⟨_, _, hp' v hm⟩
  refine ⟨tuples' true, fun Q E hq => ?_, ps_cmp hp' hk⟩
  refine PySem.W.kat_kind (T := .type "int") h1 (by omega) (fun f hm => ?_) (by rfl) ?_
  · obtain ⟨x, t, rfl⟩ := h3 f hm
    exact PySem.W.Looks.now
  · have e : (Value.type "int" != Value.type "tuple") = true := by first | decide +kernel | rfl | decide
    rw [e]
    exact hq
theorem sorted_ps {l : Addr} {vs : List Value} {k : Value → Int × Str} {Q : Value → Shared → Prop} (hl : s.heap.IsList l vs.toArray) (hz : vs.length ≤ sizeLine) (hp : ∀ v ∈ vs, IsPS s.heap v (k v).1 (k v).2)
    (hk : ∀ v ∈ vs, ∀ u ∈ vs, (k v).1 = (k u).1 → (k v).2 = (k u).2)
    (h : ∀ (h' : Heap) (d : Addr) (out : List Value), Srtd (fun v u => ltI (k v) (k u)) out → Stb (fun v u => ltI (k v) (k u)) out vs → (∀ b o, s.heap.get? b = some o → h'.get? b = some o) → s.heap.objs.size ≤ d → (∃ n, h'.get? d = some (seqObj "list" out.toArray n)) → Q (.ref d) { s with heap := h' }) :
    wpAny (model prog w) A (call (.builtin "sorted") [.ref l]) Q E s := by
  refine sorted_ord (swo_I k) hl hz (fun h2 h₁ a ha kk => ?_) fun out hs hb => ?_
  · refine ps_sortable (s := { s with heap := h₁ }) (by omega) (fun v hm => (hp v hm).keeps fun b o e _ => (kk b o e).2) hk fun o e => ?_
    have e' : some o = some (seqObj "list" vs.toArray 0) := e.symm.trans ha
    cases e'
    intro c
    exact absurd (Value.type.inj c) (by decide)
  · exact h _ _ out hs hb (fun b o e => sortedAll_old e) (Nat.le_succ _) (sortedAll_at s.heap vs out.toArray)
end
end SrtS
namespace L2
open PySem PySem.Spec PyProof.Rows
noncomputable def EntV (K : PySem.W.Frag) (H : Hp) (x : V) (e : Int × Str) : Prop := ∃ t, x = V.ref t ∧ SqT K H t [.int e.1, .str e.2]
noncomputable def rSortedPS (K : PySem.W.Frag) : List V → Hp → VK → Prop := fun vs H Q => ∃ (a : Addr) (xs : List V) (l : List (Int × Str)), vs = [V.ref a] ∧ SqL K H a xs ∧ Paired (EntV K H) xs l ∧
  (∀ x ∈ l, ∀ y ∈ l, x.1 = y.1 → x.2 = y.2) ∧
  ∀ (ps : List (V × (Int × Str))) p, ps.Pairwise (fun x y => x.2.1 ≤ y.2.1) → ps.Perm (xs.zip l) → H p = none → Q (.ref p) (upd H p (.lst (ps.map Prod.fst)))
theorem cr_sortedPS {X : Cx} : CallR X (.builtin "sorted") (rSortedPS X.K) := by
  intro pins s σ H vs us Q I r h
  obtain ⟨a, xs, l, rfl, hs, hx, hk, q⟩ := h
  obtain ⟨its, rv, hl, hz⟩ := I.list hs
  obtain ⟨u, rfl, ru⟩ := vals1 r
  obtain rfl : u = Value.ref a := ru
  have hm : ∀ {xs : List V} {l : List (Int × Str)}, Paired (EntV X.K H) xs l → ∀ x ∈ xs, ∃ e ∈ l, EntV X.K H x e := by
    intro xs l h
    induction h with
    | nil => exact fun _ h => absurd h List.not_mem_nil
    | cons a t ih =>
      intro x hx
      rcases List.mem_cons.mp hx with e | hx
      · rw [e]
        exact ⟨_, List.mem_cons_self, a⟩
      · obtain ⟨e, h1, h2⟩ := ih x hx
        exact ⟨e, List.mem_cons_of_mem _ h1, h2⟩
  have inj : ∀ {x : V} {e f : Int × Str}, EntV X.K H x e → EntV X.K H x f → e = f := by
    intro x e f ⟨t, h1, h2⟩ ⟨t', h3, h4⟩
    rw [h1] at h3
    cases h3
    have h := I.tuple_inj h2 h4
    cases e
    cases f
    cases h
    rfl
  obtain ⟨k, kv⟩ : ∃ k : V → Int × Str, ∀ x ∈ xs, EntV X.K H x (k x) := by
    classical
    refine ⟨fun x => if c : ∃ e, EntV X.K H x e then Classical.choose c else (0, ⟨#[]⟩), fun x hx' => ?_⟩
    obtain ⟨e, _, he⟩ := hm hx x hx'
    have c : ∃ e, EntV X.K H x e := ⟨e, he⟩
    show EntV X.K H x (if c : ∃ e, EntV X.K H x e then Classical.choose c else (0, ⟨#[]⟩))
    rw [dif_pos c]
    exact Classical.choose_spec c
  have ez : xs.zip l = xs.map fun v => (v, k v) := by
    clear hk q hs rv hz hm
    induction hx with
    | nil => rfl
    | cons a t ih =>
      rw [List.zip_cons_cons, List.map_cons, ih (fun x h => kv x (List.mem_cons_of_mem _ h)), inj a (kv _ List.mem_cons_self)]
  have el : ∀ x ∈ xs, k x ∈ l := fun x h => by
    obtain ⟨e, h1, h2⟩ := hm hx x h
    rw [inj (kv x h) h2]
    exact h1
  obtain ⟨e1, e2⟩ := refs_back rv fun x m => by
    obtain ⟨t, e, _⟩ := kv x m
    exact ⟨t, e⟩
  have mem : ∀ v ∈ its, backV v ∈ xs := fun v hv => by
    rw [e1]
    exact List.mem_map.mpr ⟨v, hv, rfl⟩
  refine SrtS.sorted_ps (k := fun u => k (backV u)) hl.isList (by rw [← rv.length]; exact hz) (fun v hv => ?_) (fun v hv u hu => hk _ (el _ (mem v hv)) _ (el _ (mem u hu))) fun h' d out h1 h2 kp hd hn => ?_
  · obtain ⟨t, rfl⟩ := e2 v hv
    have hm : V.ref t ∈ xs := mem _ hv
    obtain ⟨t', e, ht⟩ := kv _ hm
    cases e
    obtain ⟨its2, r2, ⟨o, ho, hc, n, hd⟩, _⟩ := I.tuple ht
    obtain ⟨u1, u2, rfl, ri, rj⟩ := vals2 r2
    obtain ⟨t1, rfl⟩ := ri
    obtain ⟨t2, rfl⟩ := rj
    exact ⟨t, o, t1, t2, n, rfl, ho, hc, hd⟩
  · have h3 : ∀ u ∈ out, ∃ a, u = Value.ref a := fun u hu => e2 u (h2.perm.mem_iff.mp hu)
    obtain ⟨n, hn⟩ := hn
    have hb : (out.map backV).Perm xs := by
      rw [e1]
      exact h2.perm.map backV
    have em : ((out.map backV).map fun v => (v, k v)).map Prod.fst = out.map backV := by
      rw [List.map_map]
      exact (List.map_congr_left fun _ _ => rfl).trans (List.map_id _)
    have q2 := q ((out.map backV).map fun v => (v, k v)) d ?_ (by rw [ez]; exact hb.map _) (I.hok.fresh hd)
    · rw [em] at q2
      refine ⟨.ref d, upd H d (.lst (out.map backV)), I.laid (t' := s.toks) kp hd ⟨?_, out, n, vals_back h3, hn⟩, rfl, q2⟩
      rw [hb.length_eq]
      exact hz
    · exact List.pairwise_map.mpr (List.pairwise_map.mpr (h1.imp fun h => by
        have := of_decide_eq_false h
        show (k (backV _)).1 ≤ (k (backV _)).1
        omega))
end L2

/-! entries, rows, rooms, yards as data; comprehensions that draw -/
namespace TR
open PySem L2
/-- a text of signs that there are -/
noncomputable abbrev Tx := {x : Str // PyData.strOk x = true}
instance : Inhabited Tx := ⟨⟨⟨#[]⟩, by simp [PyData.strOk]⟩⟩
instance : Py Tx := ⟨fun x => .str x.1, 0, fun _ => Nat.le_refl _, fun x => x.2, fun a b => by
  rw [PyData.eqv, beq_iff_eq]
  exact Subtype.ext_iff.symm⟩
instance : Py (Option Tx) := ⟨fun o => match o with | none => .none | some i => .str i.1, 0, fun o => by cases o <;> exact Nat.le_refl _, fun o => by
  cases o with
  | none => rfl
  | some x => exact x.2, fun a b => by
  cases a <;> cases b
  · exact ⟨fun _ => rfl, fun _ => rfl⟩
  · exact ⟨fun h => (Bool.false_ne_true h).elim, fun h => nomatch h⟩
  · exact ⟨fun h => (Bool.false_ne_true h).elim, fun h => nomatch h⟩
  · rename_i x y
    show (x.1 == y.1) = true ↔ some x = some y
    rw [beq_iff_eq, Option.some.injEq]
    exact Subtype.ext_iff.symm⟩
theorem perm_of_map {α β : Type} {f : α → β} : ∀ {l : List α} {ps : List β}, ps.Perm (l.map f) → ∃ qs : List α, qs.Perm l ∧ ps = qs.map f := by
  intro l ps h
  generalize e : l.map f = m at h
  induction h generalizing l with
  | nil => exact ⟨l, .refl _, by rw [e]⟩
  | cons x h ih =>
    cases l with
    | nil => cases e
    | cons a l =>
      rw [List.map_cons] at e
      cases e
      obtain ⟨qs, h1, h2⟩ := ih rfl
      exact ⟨a :: qs, h1.cons a, by rw [h2]; rfl⟩
  | swap x y t =>
    match l, e with
    | a :: b :: l, e =>
      rw [List.map_cons, List.map_cons] at e
      cases e
      exact ⟨b :: a :: l, .swap _ _ _, rfl⟩
  | trans h1 h2 ih1 ih2 =>
    obtain ⟨q2, g1, g2⟩ := ih2 e
    obtain ⟨q1, g3, g4⟩ := ih1 g2.symm
    exact ⟨q1, g3.trans g1, g4⟩
noncomputable abbrev Ent := Int × Tx
noncomputable abbrev Row := List Ent
noncomputable abbrev Yard := T3 Int Int (List (List Row))
instance : DecidableEq Tx := fun a b => decidable_of_iff (a.1 = b.1) Subtype.ext_iff.symm
instance : DecidableEq Yard := fun a b => decidable_of_iff (a.a = b.a ∧ a.b = b.b ∧ a.c = b.c) (by
  obtain ⟨a1, a2, a3⟩ := a
  obtain ⟨b1, b2, b3⟩ := b
  exact T3.mk.injEq .. ▸ Iff.rfl)
section
variable {K : PySem.W.Frag} {H : Hp} {v : V}
theorem Is.str_of {x : Tx} (h : Is K H v x) : v = .str x.1 := by
  have h' : Dp K H v (.str x.1) := h
  cases h'
  rfl
theorem Is.ent_of {e : Ent} (h : Is K H v e) : ∃ a, v = .ref a ∧ SqT K H a [.int e.1, .str e.2.1] := by
  obtain ⟨a, x, y, h1, h2, h3, h4⟩ := h.pair_of
  rw [h3.int_of, h4.str_of] at h2
  exact ⟨a, h1, h2⟩
end
/-! ### rows sorted by their keys -/
noncomputable def sortE (l : Row) : Row := l.mergeSort (fun a b => decide (a.1 ≤ b.1))
theorem sortE_perm (l : Row) : (sortE l).Perm l := List.mergeSort_perm l _
theorem sortE_sorted (l : Row) : (sortE l).Pairwise (fun a b => a.1 ≤ b.1) := (List.pairwise_mergeSort (le := fun a b : Ent => decide (a.1 ≤ b.1)) (fun a b c h1 h2 => decide_eq_true (Int.le_trans (of_decide_eq_true h1) (of_decide_eq_true h2))) (fun a b => by
  rcases Int.le_total a.1 b.1 with h | h
  · rw [decide_eq_true h]; rfl
  · rw [decide_eq_true h, Bool.or_true]) l).imp fun h => of_decide_eq_true h
/-- no two unlike entries of one key -/
noncomputable def OneK (l : Row) : Prop := ∀ x ∈ l, ∀ y ∈ l, x.1 = y.1 → x.2 = y.2
theorem sortE_of {l l' : Row} (k : OneK l) (p : l'.Perm l) (s : l'.Pairwise (fun a b => a.1 ≤ b.1)) : l' = sortE l :=
  List.Perm.eq_of_pairwise (le := fun a b : Ent => a.1 ≤ b.1) (fun a b ha hb h1 h2 => by
    have e : a.1 = b.1 := Int.le_antisymm h1 h2
    exact Prod.ext e (k a (p.mem_iff.mp ha) b ((sortE_perm l).mem_iff.mp hb) e)) s (sortE_sorted l) (p.trans (sortE_perm l).symm)
theorem sortE_len (l : Row) : (sortE l).length = l.length := (sortE_perm l).length_eq
theorem sortPSA {X : Cx} {K : PySem.W.Frag} (hk : X.K = K) : CallR X (.builtin "sorted") (rSortedPS K) := hk ▸ cr_sortedPS
theorem Is.entV {K : PySem.W.Frag} {H : Hp} {v : V} {e : Ent} (h : Is K H v e) : EntV K H v (e.1, e.2.1) := by
  obtain ⟨a, h1, h2⟩ := h.ent_of
  exact ⟨a, h1, h2⟩
/-- sorted(entries): the values as they were, in the order of their keys -/
theorem n_sortedEF {K : PySem.W.Frag} {H : Hp} {Q : VK} {a : Addr} {vs : List V} {l : Row} (h : SqL K H a vs) (pr : Paired (fun v x => Is K H v x) vs l) (k : OneK l)
    (q : ∀ p ws H', H p = none → Ex H H' → H' p = some (.lst ws) → (∀ F : V → Ent → Prop, Paired F vs l → Paired F ws (sortE l)) → Q (.ref p) H') : rSortedPS K [.ref a] H Q := by
  refine ⟨a, vs, l.map fun e => (e.1, e.2.1), rfl, h, ?_, ?_, fun ps p srt perm hp => q p _ _ hp (Ex.new hp) upd_same fun F1 pr1 => ?_⟩
  · clear k h q
    induction pr with
    | nil => exact .nil
    | cons a t ih => exact .cons a.entV ih
  · intro x hx y hy e
    obtain ⟨x', h1, rfl⟩ := List.mem_map.mp hx
    obtain ⟨y', h2, rfl⟩ := List.mem_map.mp hy
    exact congrArg Subtype.val (k x' h1 y' h2 e)
  · have len := Paired.length pr
    -- each pair of ps comes of a pair of vs and l
    have ez : vs.zip (l.map fun e => (e.1, e.2.1)) = (vs.zip l).map fun q => (q.1, (q.2.1, q.2.2.1)) := by
      rw [List.zip_map_right]
      rfl
    rw [ez] at perm
    obtain ⟨qs, hq1, hq2⟩ : ∃ qs : List (V × Ent), qs.Perm (vs.zip l) ∧ ps = qs.map fun q => (q.1, (q.2.1, q.2.2.1)) := by
      classical
      have inj : Function.Injective fun q : V × Ent => (q.1, (q.2.1, q.2.2.1)) := fun x y e => by
        have e1 := congrArg (fun z : V × (Int × Str) => z.1) e
        have e2 := congrArg (fun z : V × (Int × Str) => z.2.1) e
        have e3 := congrArg (fun z : V × (Int × Str) => z.2.2) e
        exact Prod.ext e1 (Prod.ext e2 (Subtype.ext e3))
      exact perm_of_map perm
    subst hq2
    have e1 : (qs.map Prod.snd).Perm l := by
      have := hq1.map Prod.snd
      rw [List.map_snd_zip (by omega)] at this
      exact this
    have e2 : qs.map Prod.snd = sortE l := sortE_of k e1 (by
      have srt2 := List.pairwise_map.mp srt
      exact List.pairwise_map.mpr (srt2.imp fun h => h))
    rw [← e2, List.map_map]
    have hm : ∀ q ∈ qs, F1 q.1 q.2 := fun q hq => (zip_mem pr1 q (hq1.mem_iff.mp hq)).1
    clear e2 e1 hq1 srt perm ez
    induction qs with
    | nil => exact .nil
    | cons q qs ih => exact .cons (hm q List.mem_cons_self) (ih fun x hx => hm x (List.mem_cons_of_mem _ hx))
end TR
namespace TR
open PySem L2
/-! ### pure values out of data, some of them -/
section
variable {K : PySem.W.Frag} {σ : L2.St} {H : Hp} {tt : TT} {te : TE} {Q : VK} {g : TG} {vs : List Nat}
end
/-! ### comprehensions that draw -/
section
variable {K : PySem.W.Frag} {σ : L2.St} {H : Hp} {te : TE} {Q : VK} {g : TG} {vs : List Nat}
end
end TR

/-! data that stands in plain lists and tuples: all its lists are tracked -/
namespace TR
open PySem L2
mutual
inductive Dt (H : Hp) : V → PyData → Prop
  | non : Dt H .non .none
  | bl (b : Bool) : Dt H (.bl b) (.bool b)
  | int (i : Int) : Dt H (.int i) (.int i)
  | str (x : Str) : Dt H (.str x) (.str x)
  | lst {a : Addr} {vs : List V} {ds : List PyData} : H a = some (.lst vs) → DtAll H vs ds → Dt H (.ref a) (.list ds)
  | tup {a : Addr} {vs : List V} {ds : List PyData} : H a = some (.tup vs) → DtAll H vs ds → Dt H (.ref a) (.tuple ds)
inductive DtAll (H : Hp) : List V → List PyData → Prop
  | nil : DtAll H [] []
  | cons {v : V} {vs : List V} {d : PyData} {ds : List PyData} : Dt H v d → DtAll H vs ds → DtAll H (v :: vs) (d :: ds)
end
mutual
theorem Dt.ex {H H' : Hp} (e : Ex H H') : ∀ {v : V} {d : PyData}, Dt H v d → Dt H' v d
  | _, _, .non => .non
  | _, _, .bl b => .bl b
  | _, _, .int i => .int i
  | _, _, .str x => .str x
  | _, _, .lst s a => .lst (e _ _ s) (DtAll.ex e a)
  | _, _, .tup s a => .tup (e _ _ s) (DtAll.ex e a)
theorem DtAll.ex {H H' : Hp} (e : Ex H H') : ∀ {vs : List V} {ds : List PyData}, DtAll H vs ds → DtAll H' vs ds
  | _, _, .nil => .nil
  | _, _, .cons a r => .cons (Dt.ex e a) (DtAll.ex e r)
end
mutual
theorem Dt.dp {K : PySem.W.Frag} {H : Hp} : ∀ {v : V} {d : PyData}, Dt H v d → Dp K H v d
  | _, _, .non => .non
  | _, _, .bl b => .bl b
  | _, _, .int i => .int i
  | _, _, .str x => .str x
  | _, _, .lst s a => .lst (sq_of s) (DtAll.dp a)
  | _, _, .tup s a => .tup (st_of s) (DtAll.dp a)
theorem DtAll.dp {K : PySem.W.Frag} {H : Hp} : ∀ {vs : List V} {ds : List PyData}, DtAll H vs ds → DpAll K H vs ds
  | _, _, .nil => .nil
  | _, _, .cons a r => .cons (Dt.dp a) (DtAll.dp r)
end
/-- the value v stands in H as the thing x -/
noncomputable abbrev Ik (H : Hp) {α : Type} [Py α] (v : V) (x : α) : Prop := Dt H v (Py.d x)
section
variable {K : PySem.W.Frag} {H H' : Hp} {α β γ δ : Type} [Py α] [Py β] [Py γ] [Py δ] {v w u t : V} {x : α} {y : β} {z : γ} {r : δ} {a : Addr}
theorem Ik.is (h : Ik H v x) : Is K H v x := Dt.dp h
theorem Ik.ex (e : Ex H H') (h : Ik H v x) : Ik H' v x := Dt.ex e h
theorem Ik.int (i : Int) : Ik H (.int i) i := Dt.int i
theorem Ik.nil (h : H a = some (.lst [])) : Ik H (.ref a) ([] : List α) := .lst h .nil
theorem Ik.pair (h : H a = some (.tup [v, w])) (h1 : Ik H v x) (h2 : Ik H w y) : Ik H (.ref a) (x, y) := .tup h (.cons h1 (.cons h2 .nil))
theorem Ik.three (h : H a = some (.tup [v, w, u])) (h1 : Ik H v x) (h2 : Ik H w y) (h3 : Ik H u z) : Ik H (.ref a) (T3.mk x y z) := .tup h (.cons h1 (.cons h2 (.cons h3 .nil)))
theorem Ik.tx (x : Tx) : Ik H (.str x.1) x := Dt.str x.1
theorem Ik.list {xs : List α} (h : Ik H v xs) : ∃ a vs, v = .ref a ∧ H a = some (.lst vs) ∧ Paired (fun v x => Ik H v x) vs xs := by
  have go : ∀ (vs : List V) (ys : List α), DtAll H vs (ys.map Py.d) → Paired (fun v x => Ik H v x) vs ys := by
    intro vs ys
    induction ys generalizing vs with
    | nil => intro h; cases h; exact .nil
    | cons y ys ih =>
      intro h
      cases h with
      | cons h1 h2 => exact .cons h1 (ih _ h2)
  have h' : Dt H v (.list (xs.map Py.d)) := h
  cases h' with
  | lst s a => exact ⟨_, _, rfl, s, go _ _ a⟩
theorem Ik.of_list {vs : List V} {xs : List α} (s : H a = some (.lst vs)) (h : Paired (fun v x => Ik H v x) vs xs) : Ik H (.ref a) xs := by
  have go : ∀ {vs : List V} {ys : List α}, Paired (fun v x => Ik H v x) vs ys → DtAll H vs (ys.map Py.d) := by
    intro vs ys h
    induction h with
    | nil => exact .nil
    | cons h1 _ ih => exact .cons h1 ih
  exact .lst s (go h)
theorem pair_intsK : ∀ {vs : List V} {xs : List Int}, Paired (fun v x => Ik H v x) vs xs → vs = xs.map V.int
  | _, _, .nil => rfl
  | _, _, .cons (a := v) (b := i) h r => by
    have h' : Dt H v (.int i) := h
    cases h'
    rw [pair_intsK r]
    rfl
theorem ints_pairK : ∀ {xs : List Int}, Paired (fun v x => Ik H v x) (xs.map V.int) xs
  | [] => .nil
  | _ :: _ => .cons (Ik.int _) ints_pairK
theorem Ik.ints_of {xs : List Int} (h : Ik H v xs) : ∃ a, v = .ref a ∧ H a = some (.lst (xs.map V.int)) := by
  obtain ⟨a, vs, rfl, s, p⟩ := h.list
  exact ⟨a, rfl, pair_intsK p ▸ s⟩
theorem Ik.pair_of {p : α × β} (h : Ik H v p) : ∃ a x y, v = .ref a ∧ H a = some (.tup [x, y]) ∧ Ik H x p.1 ∧ Ik H y p.2 := by
  have h' : Dt H v (.tuple [Py.d p.1, Py.d p.2]) := h
  cases h' with
  | tup s a =>
    cases a with
    | cons h1 r => cases r with
      | cons h2 r2 => cases r2; exact ⟨_, _, _, rfl, s, h1, h2⟩
theorem Ik.int_of {i : Int} (h : Ik H v i) : v = .int i := by
  have h' : Dt H v (.int i) := h
  cases h'
  rfl
theorem Ik.ref_of {xs : List α} (h : Ik H v xs) : ∃ b, v = .ref b ∧ Ik H (.ref b) xs := by
  obtain ⟨b, vs, e, h6, h7⟩ := h.list
  exact ⟨b, e, e ▸ h⟩
theorem itemK {vs : List V} {l : List α} (p : Paired (fun v x => Ik H v x) vs l) {i : Nat} {v : V} (h : vs[i]? = some v) : ∃ x, l[i]? = some x ∧ Ik H v x := pair_get' p h
end
section
variable {K : PySem.W.Frag} {Z H : Hp} {α β : Type} [Py α] [Py β] {v : V} {σ : L2.St} {R : L2.St → Hp → Prop} {Q : VK}
theorem t_ixP0 {p : α × β} (a : Ik Z v p) (e : Ex Z H) (q : ∀ w, Ik Z w p.1 → Q w H) : rIx K v (.int 0) H Q := by
  obtain ⟨b, x, y, rfl, h, h1, h2⟩ := a.pair_of
  exact s_ixT (st_of (e _ _ h)) (atI_lt (by decide) rfl) (q x h1)
/-- the key | the thing of an entry -/
theorem t_ixE0 {p : Ent} (a : Ik Z v p) (e : Ex Z H) (q : Q (.int p.1) H) : rIx K v (.int 0) H Q := t_ixP0 a e fun w h => by rw [h.int_of]; exact q
end
end TR

/-! T: from (Z, H) to (Z', H'). Z is what stays for ever; only M's things are changed -/
namespace TR
open PySem L2
structure T (M : List Addr) (Z H Z' H' : Hp) : Prop where
  z : Ex Z Z'
  zh : Ex Z' H'
  m : ∀ b o, b ∉ M → H b = some o → H' b = some o
  al : ∀ b o, H b = some o → ∃ o', H' b = some o'
  fr : ∀ b, b ∉ M → Z b = none → (∃ o, H b = some o) → Z' b = none
/-- p stands in H and may be changed -/
structure Mu (Z H : Hp) (p : Addr) : Prop where
  z : Z p = none
  a : ∃ o, H p = some o
/-- a list that stands in H, its things in Z -/
noncomputable def Li (Z H : Hp) (p : Addr) {α : Type} [Py α] (l : List α) : Prop := ∃ vs, H p = some (.lst vs) ∧ Paired (fun v x => Ik Z v x) vs l
/-- .. and that stays as it is -/
noncomputable def Ls (Z : Hp) (p : Addr) {α : Type} [Py α] (l : List α) : Prop := Li Z Z p l
/-- a list that is filled: it stands at D, its things in Z -/
structure Lm (Z H : Hp) (D : Addr) {α : Type} [Py α] (l : List α) : Prop where
  ex : ∃ vs, H D = some (.lst vs) ∧ Paired (fun v x => Ik Z v x) vs l
  zd : Z D = none
  zh : Ex Z H
theorem nm_nil {b : Addr} : b ∉ ([] : List Addr) := List.not_mem_nil
theorem nm_cons {b x : Addr} {M : List Addr} (h : b ≠ x) (t : b ∉ M) : b ∉ x :: M := fun z => by
  rcases List.mem_cons.mp z with z | z
  · exact h z
  · exact t z
theorem mm_nil {N : List Addr} {H : Hp} : ∀ x ∈ ([] : List Addr), x ∈ N ∨ H x = none := fun _ h => absurd h List.not_mem_nil
theorem mm_cons {N M : List Addr} {H : Hp} {y : Addr} (h : y ∈ N ∨ H y = none) (t : ∀ x ∈ M, x ∈ N ∨ H x = none) : ∀ x ∈ y :: M, x ∈ N ∨ H x = none := fun x hx => by
  rcases List.mem_cons.mp hx with e | hx
  · rw [e]; exact h
  · exact t x hx
theorem mm_same {N : List Addr} {H : Hp} : ∀ x ∈ N, x ∈ N ∨ H x = none := fun _ h => .inl h
section
variable {K : PySem.W.Frag} {M N : List Addr} {Z H Z1 H1 Z2 H2 Z' H' Z0 H0 : Hp} {p b h D : Addr} {o : HO} {v : V} {α : Type} {iα : Py α} {x : α} {l : List α} {n : Nat}
theorem T.refl (e : Ex Z H) : T M Z H Z H := ⟨Ex.refl _, e, fun _ _ _ h => h, fun _ o h => ⟨o, h⟩, fun _ _ h _ => h⟩
theorem T.step (a : T N Z H Z1 H1) (b : T M Z1 H1 Z2 H2) (h : ∀ x ∈ M, x ∈ N ∨ H x = none) : T N Z H Z2 H2 := by
  have nm : ∀ x, x ∉ N → (∃ o, H x = some o) → x ∉ M := fun x nx ⟨o, ho⟩ hx => by
    rcases h x hx with g | g
    · exact nx g
    · rw [ho] at g; cases g
  refine ⟨a.z.trans b.z, b.zh, fun c o nc hc => b.m c o (nm c nc ⟨o, hc⟩) (a.m c o nc hc), fun c o hc => ?_, fun c nc zc ⟨o, hc⟩ => ?_⟩
  · obtain ⟨o', ho'⟩ := a.al c o hc
    exact b.al c o' ho'
  · obtain ⟨o', ho'⟩ := a.al c o hc
    exact b.fr c (nm c nc ⟨o, hc⟩) (a.fr c nc zc ⟨o, hc⟩) ⟨o', ho'⟩
theorem T.nn (t : T M Z H Z' H') (n : H' b = none) : H b = none := by
  cases c : H b with
  | none => rfl
  | some o =>
    obtain ⟨o', ho'⟩ := t.al b o c
    rw [n] at ho'
    cases ho'
/-- all that stood stands: b is new -/
noncomputable def AC (H H' : Hp) : Prop := ∀ b, H' b = none → H b = none
theorem Ik.tt (t : T M Z H Z' H') (h : Ik Z v x) : Ik Z' v x := Ik.ex t.z h
theorem T.sqz {xs : List V} (t : T M Z H Z' H') (h : SqL K Z p xs) : SqL K Z' p xs := t.z.sq h
theorem T.pz (t : T M Z H Z' H') (h : Z p = some o) : Z' p = some o := t.z _ _ h
theorem T.hp (t : T M Z H Z' H') (n : p ∉ M) (h : H p = some o) : H' p = some o := t.m _ _ n h
theorem T.all (t : T M Z H Z' H') (h : ∃ o, H p = some o) : ∃ o, H' p = some o := by
  obtain ⟨o, ho⟩ := h
  exact t.al _ _ ho
theorem T.mu (t : T M Z H Z' H') (n : p ∉ M) (a : Mu Z H p) : Mu Z' H' p := ⟨t.fr _ n a.z a.a, t.all a.a⟩
theorem Hand.tt (t : T M Z H Z' H') (nm : h ∉ M) (a : Hand K Z H h n) : Hand K Z' H' h n := by
  obtain ⟨d, k, c, cells, h1, h3, h4, h5, z1, z2, z3⟩ := a
  exact ⟨d, k, c, cells, t.m _ _ nm h1, h3, h4, h5, t.zh, t.fr _ nm z2 ⟨_, h1⟩, t.z.sq z3⟩
theorem Lm.at_ (a : Lm Z H D l) : ∃ o, H D = some o := by
  obtain ⟨⟨vs, h1, h2⟩, h3, h4⟩ := a
  exact ⟨_, h1⟩
theorem Lm.mu (a : Lm Z H D l) : Mu Z H D := ⟨a.zd, a.at_⟩
theorem Lm.tt (t : T M Z H Z' H') (nm : D ∉ M) (a : Lm Z H D l) : Lm Z' H' D l := by
  have hd := a.zd
  have ha := a.at_
  obtain ⟨⟨vs, h1, h2⟩, h3, h4⟩ := a
  exact ⟨⟨vs, t.m _ _ nm h1, Paired.mapP h2 fun v x h => Ik.ex t.z h⟩, t.fr _ nm hd ha, t.zh⟩
theorem Ls.tt (t : T M Z H Z' H') (a : Ls Z p l) : Ls Z' p l := by
  obtain ⟨vs, h1, h2⟩ := a
  exact ⟨vs, t.z _ _ h1, Paired.mapP h2 fun v x h => Ik.ex t.z h⟩
theorem Ls.is (a : Ls Z p l) : Ik Z (.ref p) l := by
  obtain ⟨vs, h1, h2⟩ := a
  exact Ik.of_list h1 h2
theorem Ik.sqI {l : List Int} (a : Ik Z (.ref p) l) : SqL K Z p (l.map V.int) := by
  obtain ⟨b, e, h⟩ := a.ints_of
  cases e
  exact sq_of h
theorem Ls.ofInts {l : List Int} (h : Z p = some (.lst (l.map V.int))) : Ls Z p l := ⟨_, h, ints_pairK⟩
/-! ways in: from the old words -/
theorem T.ofEx (e : Ex H H') (z : Ex Z H) : T M Z H Z H' := ⟨Ex.refl _, z.trans e, fun _ _ _ h => e _ _ h, fun _ o h => ⟨o, e _ _ h⟩, fun _ _ h _ => h⟩
theorem T.ofExM (m : ExM h H H') (a : ∃ o, H' h = some o) (z : Ex Z H) (zn : Z h = none) : T [h] Z H Z H' :=
  ⟨Ex.refl _, z.exm zn m, fun _ o n e => m _ o (fun z => n (by rw [z]; exact List.mem_cons_self)) e, fun b o e => by
    by_cases c : b = h
    · rw [c]; exact a
    · exact ⟨o, m _ _ c e⟩, fun _ _ h _ => h⟩
theorem upd_ex2 (z : Ex Z H) : Ex (upd Z p o) (upd H p o) := fun b u e => by
  by_cases c : b = p
  · rw [c, upd_same] at e ⊢
    exact e
  · rw [upd_ne c] at e ⊢
    exact z _ _ e
/-- a new thing that stays as it is -/
theorem T.new (n : H p = none) (z : Ex Z H) : T M Z H (upd Z p o) (upd H p o) :=
  ⟨Ex.new (Ex.back z n), upd_ex2 z, fun b u _ e => by rw [upd_ne (ne_of_none e n)]; exact e, fun b u e => ⟨u, by rw [upd_ne (ne_of_none e n)]; exact e⟩, fun b _ zb ⟨u, e⟩ => by rw [upd_ne (ne_of_none e n)]; exact zb⟩
/-- a new thing that may be changed -/
theorem T.newM (n : H p = none) (z : Ex Z H) : T M Z H Z (upd H p o) :=
  ⟨Ex.refl _, z.trans (Ex.new n), fun b u _ e => by rw [upd_ne (ne_of_none e n)]; exact e, fun b u e => ⟨u, by rw [upd_ne (ne_of_none e n)]; exact e⟩, fun b _ zb _ => zb⟩
/-- a thing is changed -/
theorem T.set (a : Mu Z H p) (z : Ex Z H) : T [p] Z H Z (upd H p o) :=
  ⟨Ex.refl _, fun b u e => by rw [upd_ne (ne_of_none e a.z)]; exact z _ _ e, fun b u nb e => by rw [upd_ne (fun c => nb (by rw [c]; exact List.mem_cons_self))]; exact e, fun b u e => by
    by_cases c : b = p
    · exact ⟨_, by rw [c]; exact upd_same⟩
    · exact ⟨u, by rw [upd_ne c]; exact e⟩, fun b _ zb _ => zb⟩
/-- a thing is to stay as it is from now on -/
theorem T.fz (z : Ex Z H) (zp : Z p = none) (hp : H p = some o) : T [p] Z H (upd Z p o) H :=
  ⟨Ex.new zp, fun b u e => by
    by_cases c : b = p
    · rw [c, upd_same] at e
      cases e
      rw [c]; exact hp
    · rw [upd_ne c] at e
      exact z _ _ e, fun _ _ _ h => h, fun _ o h => ⟨o, h⟩, fun b nb zb _ => by rw [upd_ne (fun c => nb (by rw [c]; exact List.mem_cons_self))]; exact zb⟩
/-- .. of old words: all that is new stays as it is -/
noncomputable def grow (Z H H' : Hp) : Hp := fun b => match Z b with | some o => some o | none => match H b with | some _ => none | none => H' b
theorem grow_z (hz : Z b = some o) : grow Z H H' b = some o := by
  unfold grow
  rw [hz]
theorem grow_new (e : Ex Z H) (n : H b = none) (s : H' b = some o) : grow Z H H' b = some o := by
  unfold grow
  rw [Ex.back e n, n]
  exact s
theorem T.grow (z : Ex Z H) (zh : Ex Z H') (m : ∀ b o, b ∉ M → H b = some o → H' b = some o) (al : ∀ b o, H b = some o → ∃ o', H' b = some o') : T M Z H (grow Z H H') H' :=
  ⟨fun b o e => grow_z e, fun b o e => by
    unfold TR.grow at e
    cases c : Z b with
    | some u => rw [c] at e; cases e; exact zh _ _ c
    | none =>
      rw [c] at e
      cases d : H b with
      | some u => rw [d] at e; cases e
      | none => rw [d] at e; exact e, m, al, fun b _ zb ⟨u, hu⟩ => by
    unfold TR.grow
    rw [zb, hu]⟩
end
/-! ### new things: what is asked next -/
section
variable {K : PySem.W.Frag} {M : List Addr} {Z H : Hp} {Q : VK} {R : Hp → Prop} {p D a b : Addr} {v w : V} {α : Type} {iα : Py α} {x : α} {l r : List α} {xs : List V}
/-- an empty list that will be changed -/
theorem t_lst0 (z : Ex Z H) (q : ∀ p Z' H', H p = none → T [] Z H Z' H' → Mu Z' H' p → H' p = some (.lst []) → Q (.ref p) H') : NewL [] H Q :=
  ⟨sz_of (Nat.zero_le _), fun p hp => q p Z _ hp (T.newM hp z) ⟨Ex.back z hp, _, upd_same⟩ upd_same⟩
theorem t_lst (z : Ex Z H) (h : xs.length ≤ 100000) (q : ∀ p Z' H', H p = none → T [] Z H Z' H' → Z' p = some (.lst xs) → Q (.ref p) H') : NewL xs H Q :=
  ⟨sz_of h, fun p hp => q p _ _ hp (T.new hp z) upd_same⟩
theorem t_tup (z : Ex Z H) (h : xs.length ≤ 100000) (q : ∀ p Z' H', H p = none → T [] Z H Z' H' → Z' p = some (.tup xs) → Q (.ref p) H') : NewT xs H Q :=
  ⟨sz_of h, fun p hp => q p _ _ hp (T.new hp z) upd_same⟩
/-- the empty list that will be changed, as data -/
theorem Lm.of0 (m : Mu Z H p) (z : Ex Z H) (f : H p = some (.lst [])) : Lm Z H p ([] : List α) := ⟨⟨[], f, .nil⟩, m.z, z⟩
theorem t_app (a : Lm Z H D l) (i : Ik Z v x) (hz : l.length < 100000) (q : ∀ Z' H', T [D] Z H Z' H' → Lm Z' H' D (l ++ [x]) → Q .non H') : rAppend (.ref D) [v] H Q := by
  have mu := a.mu
  obtain ⟨⟨vs, h1, h2⟩, h3, h4⟩ := a
  have t : T [D] Z H Z (upd H D (.lst (vs ++ [v]))) := T.set mu h4
  exact ⟨D, vs, v, rfl, rfl, h1, sz_lt (by rw [Paired.length h2]; exact hz), q Z _ t ⟨⟨_, upd_same, Paired.snoc h2 i⟩, h3, t.zh⟩⟩
theorem t_tyLA {l : List α} {P : Prop} (a : Lm Z H D l) (q : P) : tyV K "list" (.ref D) H ∧ P := by
  obtain ⟨⟨vs, h1, h2⟩, h3, h4⟩ := a
  exact s_tyL (sq_of h1) q
/-- a list that was filled stays as it is from now on -/
theorem t_fz {G : Hp → Prop} (a : Lm Z H D l) (q : ∀ Z' H', T [D] Z H Z' H' → Ls Z' D l → G H') : G H := by
  obtain ⟨⟨vs, h1, h2⟩, h3, h4⟩ := a
  have t : T [D] Z H (upd Z D (.lst vs)) H := T.fz h4 h3 h1
  exact q _ _ t ⟨vs, upd_same, Paired.mapP h2 fun v x g => Ik.ex t.z g⟩
theorem t_fzV {G : Hp → Prop} (m : Mu Z H D) (z : Ex Z H) {o : HO} (f : H D = some o) (q : ∀ Z' H', T [D] Z H Z' H' → Z' D = some o → G H') : G H :=
  q _ _ (T.fz z m.z f) upd_same
theorem t_slL {lo hi : Option Int} (z : Ex Z H) (h : SqL K H a xs) (q : ∀ p Z' H', H p = none → T [] Z H Z' H' → Z' p = some (.lst (cutV xs lo hi)) → Q (.ref p) H') : rSlL K (.ref a) lo hi H Q :=
  ⟨a, xs, rfl, h, fun p hp => q p _ _ hp (T.new hp z) upd_same⟩
/-! what is read -/
theorem t_len (z : Ex Z H) (h : Ik Z (.ref a) l) (q : Q (.int (l.length : Int)) H) : rLen K [.ref a] H Q := s_lenIs (Ik.ex z h).is q
end
/-! ### draws -/
noncomputable def spDraw (K : PySem.W.Frag) : Sp := fun vs H Q _ => ∃ (h : Addr) (m : Int) (n : Nat) (Z : Hp), vs = [.ref h, .int m] ∧ Hand K Z H h (n + 1) ∧ 0 < m ∧ m ≤ 4611686018427387904 ∧
  ∀ (r : Int) H', 0 ≤ r → r < m → ExM h H H' → Hand K Z H' h n → Q (.int r) H'
section
variable {K : PySem.W.Frag} {Z H : Hp} {h : Addr} {m : Int} {N : Nat} {Q : VK} {E : XK}
theorem Hand.t {H' : Hp} {n n' : Nat} (hh : Hand K Z H h n) (m : ExM h H H') (hh' : Hand K Z H' h n') : T [h] Z H Z H' := T.ofExM m hh'.at hh.z hh.zn
theorem drawT (hh : Hand K Z H h N) (hN : 1 ≤ N) (m0 : 0 < m) (m1 : m ≤ 4611686018427387904) (q : ∀ (r : Int) Z' H', 0 ≤ r → r < m → T [h] Z H Z' H' → Hand K Z' H' h (N - 1) → Q (.int r) H') : spDraw K [.ref h, .int m] H Q E :=
  ⟨h, m, N - 1, Z, rfl, hh.mono (by omega), m0, m1, fun r H' r0 r1 e hh' => q r Z H' r0 r1 (hh.t e hh') hh'⟩
noncomputable def spFar (K : PySem.W.Frag) : Sp := fun vs H Q _ => ∃ (h : Addr) (m : Int) (n : Nat) (Z : Hp), vs = [.ref h, .int m] ∧ Hand K Z H h (n + 7) ∧ 0 < m ∧ m ≤ 4611686018427387904 ∧
  ∀ (r : Int) H', 0 ≤ r → r < m → ExM h H H' → Hand K Z H' h n → Q (.int r) H'
theorem farT (hh : Hand K Z H h N) (hN : 7 ≤ N) (m0 : 0 < m) (m1 : m ≤ 4611686018427387904) (q : ∀ (r : Int) Z' H', 0 ≤ r → r < m → T [h] Z H Z' H' → Hand K Z' H' h (N - 7) → Q (.int r) H') : spFar K [.ref h, .int m] H Q E :=
  ⟨h, m, N - 7, Z, rfl, hh.mono (by omega), m0, m1, fun r H' r0 r1 e hh' => q r Z H' r0 r1 (hh.t e hh') hh'⟩
noncomputable def spKey (K : PySem.W.Frag) : Sp := fun vs H Q _ => ∃ (h : Addr) (n : Nat) (Z : Hp), vs = [.ref h] ∧ Hand K Z H h (n + 12) ∧
  ∀ (r : Int) H', 0 ≤ r → r < 1152921504606846976 → ExM h H H' → Hand K Z H' h n → Q (.int r) H'
theorem keyT (hh : Hand K Z H h N) (hN : 12 ≤ N) (q : ∀ (r : Int) Z' H', 0 ≤ r → r < 1152921504606846976 → T [h] Z H Z' H' → Hand K Z' H' h (N - 12) → Q (.int r) H') : spKey K [.ref h] H Q E :=
  ⟨h, N - 12, Z, rfl, hh.mono (by omega), fun r H' r0 r1 e hh' => q r Z H' r0 r1 (hh.t e hh') hh'⟩
noncomputable def lettersS : Str := "abcdefghijklmnopqrstuvwxyz"
/-- a text of one to eight small letters -/
noncomputable def nameB (x : Str) : Bool := decide (1 ≤ x.length ∧ x.length ≤ 8) && x.cps.toList.all fun c => decide (c ∈ lettersS.cps.toList)
noncomputable def spThing (K : PySem.W.Frag) : Sp := fun vs H Q _ => ∃ (h : Addr) (n : Nat) (Z : Hp), vs = [.ref h] ∧ Hand K Z H h (n + 10) ∧
  ∀ (x : Tx) H', nameB x.1 = true → ExM h H H' → Hand K Z H' h n → Q (.str x.1) H'
noncomputable def spOpen (K : PySem.W.Frag) : Sp := fun vs H Q _ => ∃ (a : Addr) (ns : List Int) (x : Int), vs = [.ref a, .int x] ∧ SqL K H a (ns.map V.int) ∧ 0 ≤ x ∧ x ≤ 1000 ∧
  ∀ (h c : Addr) (d : Int) (cells : List Int) H', H h = none → H c = none → h ≠ c → Ex H H' → H' h = some (.lst [.int d, .int (1 + 1009 * x), .ref c]) → H' c = some (.lst (cells.map V.int)) → 0 < cells.length → Q (.ref h) H'
theorem openT {a : Addr} {ns : List Int} {x : Int} (z : Ex Z H) (s : SqL K H a (ns.map V.int)) (x0 : 0 ≤ x) (x1 : x ≤ 1000) (q : ∀ h Z' H', H h = none → T [] Z H Z' H' → Hand K Z' H' h 900000000000000000 → Q (.ref h) H') : spOpen K [.ref a, .int x] H Q E :=
  ⟨a, ns, x, rfl, s, x0, x1, fun h c d cells H' nh nc ne e fh fc c0 => by
    have zh : Ex (upd Z c (.lst (cells.map V.int))) H' := fun b o eb => by
      by_cases cc : b = c
      · rw [cc, upd_same] at eb
        cases eb
        rw [cc]; exact fc
      · rw [upd_ne cc] at eb
        exact e _ _ (z _ _ eb)
    refine q h _ H' nh ⟨Ex.new (Ex.back z nc), zh, fun _ _ _ h => e _ _ h, fun _ o h => ⟨o, e _ _ h⟩, fun b _ zb ⟨o, ho⟩ => by rw [upd_ne (ne_of_none ho nc)]; exact zb⟩ ⟨d, 1 + 1009 * x, c, cells, fh, c0, by omega, by omega, zh, ?_, sq_of upd_same⟩
    rw [upd_ne ne]
    exact Ex.back z nh⟩
end
end TR
namespace TR
open PySem L2
theorem ne_alF {H : Hp} {a b : Addr} (n : H a = none) (h : ∃ o, H b = some o) : a ≠ b := fun z => by
  obtain ⟨o, ho⟩ := h
  rw [z, ho] at n
  cases n
theorem ne_alB {H : Hp} {a b : Addr} (n : H b = none) (h : ∃ o, H a = some o) : a ≠ b := (ne_alF n h).symm
end TR
namespace TR
open PySem L2
/-! a place of a list, found once -/
noncomputable def IxGo (xs : List V) (i : Int) (H : Hp) (Q : VK) : Prop := ∃ v, atI xs i = some v ∧ Q v H
section
variable {K : PySem.W.Frag} {H : Hp} {Q : VK} {a : Addr} {xs : List V} {i : Int} {v w : V}
theorem ixGo (h : SqL K H a xs) (q : IxGo xs i H Q) : rIx K (.ref a) (.int i) H Q := by
  obtain ⟨v, e, q⟩ := q
  exact s_ixL h e q
theorem ixGoT (h : SqT K H a xs) (q : IxGo xs i H Q) : rIx K (.ref a) (.int i) H Q := by
  obtain ⟨v, e, q⟩ := q
  exact s_ixT h e q
theorem ig_at (e : atI xs i = some v) (q : Q v H) : IxGo xs i H Q := ⟨v, e, q⟩
theorem ig_2b {x y : Int} {b : Bool} (q : ∀ v, (v = x ∨ v = y) → Q (.int v) H) : IxGo [.int x, .int y] (if b = true then 1 else 0) H Q := by
  cases b
  · exact ⟨_, rfl, q _ (.inl rfl)⟩
  · exact ⟨_, rfl, q _ (.inr rfl)⟩
theorem ig_2 {x y : Int} (h0 : 0 ≤ i ∧ i < 2) (q : ∀ v, (i = 0 ∧ v = x ∨ i = 1 ∧ v = y) → Q (.int v) H) : IxGo [.int x, .int y] i H Q := by
  have : i = 0 ∨ i = 1 := by omega
  rcases this with rfl | rfl
  · exact ⟨_, rfl, q _ (.inl ⟨rfl, rfl⟩)⟩
  · exact ⟨_, rfl, q _ (.inr ⟨rfl, rfl⟩)⟩
theorem ig_3 {x y z : Int} (h0 : 0 ≤ i ∧ i < 3) (q : ∀ v, (i = 0 ∧ v = x ∨ i = 1 ∧ v = y ∨ i = 2 ∧ v = z) → Q (.int v) H) : IxGo [.int x, .int y, .int z] i H Q := by
  have : i = 0 ∨ i = 1 ∨ i = 2 := by omega
  rcases this with rfl | rfl | rfl
  · exact ⟨_, rfl, q _ (.inl ⟨rfl, rfl⟩)⟩
  · exact ⟨_, rfl, q _ (.inr (.inl ⟨rfl, rfl⟩))⟩
  · exact ⟨_, rfl, q _ (.inr (.inr ⟨rfl, rfl⟩))⟩
theorem ig_4 {x y z t : Int} (h0 : 0 ≤ i ∧ i < 4) (q : ∀ v, (i = 0 ∧ v = x ∨ i = 1 ∧ v = y ∨ i = 2 ∧ v = z ∨ i = 3 ∧ v = t) → Q (.int v) H) : IxGo [.int x, .int y, .int z, .int t] i H Q := by
  have : i = 0 ∨ i = 1 ∨ i = 2 ∨ i = 3 := by omega
  rcases this with rfl | rfl | rfl | rfl
  · exact ⟨_, rfl, q _ (.inl ⟨rfl, rfl⟩)⟩
  · exact ⟨_, rfl, q _ (.inr (.inl ⟨rfl, rfl⟩))⟩
  · exact ⟨_, rfl, q _ (.inr (.inr (.inl ⟨rfl, rfl⟩)))⟩
  · exact ⟨_, rfl, q _ (.inr (.inr (.inr ⟨rfl, rfl⟩)))⟩
end
end TR
namespace TR
open PySem L2
end TR
namespace TR
open PySem L2
theorem Lm.frz {Z H : Hp} {D : Addr} {α : Type} {iα : Py α} {l : List α} (a : Lm Z H D l) : ∃ Z', T [D] Z H Z' H ∧ Ls Z' D l := by
  obtain ⟨⟨vs, h1, h2⟩, h3, h4⟩ := a
  have t : T [D] Z H (upd Z D (.lst vs)) H := T.fz h4 h3 h1
  exact ⟨_, t, vs, upd_same, Paired.mapP h2 fun v x g => Ik.ex t.z g⟩
end TR
namespace TR
open PySem L2
theorem Lm.frq {Z H : Hp} {D : Addr} {α : Type} {iα : Py α} {l : List α} (a : Lm Z H D l) : ∃ Z' H', H' = H ∧ T [D] Z H Z' H' ∧ Ls Z' D l := by
  obtain ⟨Z', t, ls⟩ := a.frz
  exact ⟨Z', H, rfl, t, ls⟩
end TR
namespace TR
open PySem L2
noncomputable def spPlaces (lo : Int) (K : PySem.W.Frag) : Sp := fun vs H Q _ => ∃ (a : Addr) (ns : List Int) (x y : Int), vs = [.ref a, .int x, .int y] ∧ SqL K H a (ns.map V.int) ∧ 0 ≤ x ∧ x ≤ 100 ∧ 0 ≤ y ∧ y ≤ 100 ∧
  ∀ p H', H p = none → Ex H H' → H' p = some (.lst (rgV lo (lo + max x (min (ns.length : Int) y)))) → Q (.ref p) H'
end TR
namespace TR
open PySem L2
theorem at_list {K : PySem.W.Frag} {xs : List V} {H : Hp} {Q : VK} (q : rList1 K xs H Q) : rList1 K xs H Q := q
end TR
namespace TR
open PySem L2
theorem at_newl {xs : List V} {H : Hp} {Q : VK} (q : NewL xs H Q) : NewL xs H Q := q
/-- a list of some things that will be changed -/
theorem t_lstM {Z H : Hp} {Q : VK} {xs : List V} {α : Type} {iα : Py α} {l : List α} (z : Ex Z H) (i : Paired (fun v x => Ik Z v x) xs l) (h : xs.length ≤ 100000) (q : ∀ p Z' H', H p = none → T [] Z H Z' H' → Lm Z' H' p l → Q (.ref p) H') : NewL xs H Q :=
  ⟨sz_of h, fun p hp => q p Z _ hp (T.newM hp z) ⟨⟨xs, upd_same, i⟩, Ex.back z hp, (T.newM (M := []) hp z).zh⟩⟩
end TR

/-! comprehensions and loops by T -/
namespace TR
open PySem L2
section
variable {K : PySem.W.Frag} {σ : L2.St} {H : Hp} {tt : TT} {te : TE} {Q : VK} {g : TG} {vs : List Nat}
theorem lcT {β : Type} {J : It} {n : Nat} {M : List Addr} {Z : Hp} (p : Nat → Bool) (I : Nat → Hp → Hp → Prop) (R : Nat → β → V → Hp → Prop)
    (mono : ∀ i x y Z1 Z2, Ex Z1 Z2 → R i x y Z1 → R i x y Z2)
    (stab : ∀ i Z1 H1 D o, I i Z1 H1 → H D = none → Z1 D = none → I i Z1 (upd H1 D o))
    (hz : n ≤ 40000) (zh : Ex Z H) (hM : ∀ b ∈ M, ∃ o, H b = some o) (h0 : I 0 Z H)
    (hgo : ∀ i Z1 H1, i < n → T M Z H Z1 H1 → J.go i H1) (hst : ∀ Z1 H1, T M Z H Z1 H1 → J.stop n H1)
    (turn : ∀ i, i < n → ∀ D Z1 H1, T M Z H Z1 H1 → H D = none → Mu Z1 H1 D → I i Z1 H1 → ∀ v H2, J.yld i H1 v H2 → ∀ (A : VK) (B : Hp → Prop),
      (p i = true → ∀ x y Z3 H3, T M Z1 H1 Z3 H3 → I (i + 1) Z3 H3 → R i x y Z3 → A y H3) → (p i = false → ∀ Z3 H3, T M Z1 H1 Z3 H3 → I (i + 1) Z3 H3 → B H3) →
      g v (wipe σ vs) H2 fun σ2 H2 => wipe σ2 vs = wipe σ vs ∧ tt σ2 H2 fun b H3 => if b = true then te σ2 H3 A else B H3)
    (fin : ∀ D ys (L : List (Nat × β)) Z' H', H D = none → T M Z H Z' H' → Mu Z' H' D → H' D = some (.lst ys) → I n Z' H' → L.map Prod.fst = (List.range n).filter p → Paired (fun y q => R q.1 q.2 y Z') ys L → Q (.ref D) H') : LcJ g tt te vs σ J H Q := by
  intro D hD
  have nD : D ∉ M := fun z => by
    obtain ⟨o, ho⟩ := hM D z
    rw [hD] at ho
    cases ho
  refine ⟨fun i m H' => m = n - i ∧ i ≤ n ∧ ∃ Z', T M Z H Z' H' ∧ Mu Z' H' D ∧ I i Z' H' ∧ ∃ (ys : List V) (L : List (Nat × β)), H' D = some (.lst ys) ∧ ys.length ≤ i ∧ L.map Prod.fst = (List.range i).filter p ∧ Paired (fun y q => R q.1 q.2 y Z') ys L,
    ⟨n, by omega, by omega, Z, T.newM hD zh, ⟨Ex.back zh hD, _, upd_same⟩, stab _ _ _ _ _ h0 hD (Ex.back zh hD), [], [], upd_same, Nat.le_refl _, rfl, .nil⟩, ?_⟩
  rintro i m H' ⟨rfl, hi, Z', t, mu, hI, ys, L, hys, hly, hL, pr⟩
  by_cases hlt : i < n
  · refine .inr ⟨hgo i Z' H' hlt t, fun H'' => i + 1 ≤ n ∧ ∃ Z'', T M Z H Z'' H'' ∧ Mu Z'' H'' D ∧ I (i + 1) Z'' H'' ∧ ∃ (ys : List V) (L : List (Nat × β)), H'' D = some (.lst ys) ∧ ys.length ≤ i + 1 ∧ L.map Prod.fst = (List.range (i + 1)).filter p ∧ Paired (fun y q => R q.1 q.2 y Z'') ys L,
      fun H'' q => ⟨n - (i + 1), by omega, rfl, q⟩, fun v H2 hy => ?_⟩
    refine turn i hlt D Z' H' t hD mu hI v H2 hy _ _ (fun hp x y Z3 H3 t3 hI3 r => ?_) (fun hp Z3 H3 t3 hI3 => ?_)
    · have t4 : T M Z H Z3 H3 := t.step t3 mm_same
      have mu3 := t3.mu nD mu
      have t5 : T M Z H Z3 (upd H3 D (.lst (ys ++ [y]))) := t4.step (T.set mu3 t4.zh) (mm_cons (.inr hD) mm_nil)
      refine ⟨ys, t3.hp nD hys, sz_lt (by omega), by omega, Z3, t5, ⟨mu3.z, _, upd_same⟩, stab _ _ _ _ _ hI3 hD mu3.z, ys ++ [y], L ++ [(i, x)], upd_same, by rw [List.length_append]; show _ + 1 ≤ _; omega, ?_, ?_⟩
      · rw [List.map_append, hL, List.range_succ, List.filter_append, List.filter_cons, if_pos hp]
        rfl
      · exact paired_snoc (Paired.mapP pr fun y q h => mono _ _ _ _ _ t3.z h) r
    · have t4 : T M Z H Z3 H3 := t.step t3 mm_same
      refine ⟨by omega, Z3, t4, t3.mu nD mu, hI3, ys, L, t3.hp nD hys, by omega, ?_, Paired.mapP pr fun y q h => mono _ _ _ _ _ t3.z h⟩
      rw [hL, List.range_succ, List.filter_append, List.filter_cons, if_neg (by rw [hp]; exact Bool.false_ne_true)]
      simp
  · have ei : i = n := by omega
    subst ei
    exact .inl ⟨hst Z' H' t, fin D ys L Z' H' hD t mu hys hI hL pr⟩
theorem kept_snd {β γ : Type} {xs : List β} {f : β → γ} : ∀ {L : List (Nat × γ)}, (∀ q ∈ L, ∃ b, xs[q.1]? = some b ∧ q.2 = f b) → L.map Prod.snd = ((L.map Prod.fst).filterMap fun i => xs[i]?).map f
  | [], _ => rfl
  | q :: L, h => by
    obtain ⟨b, h1, h2⟩ := h q List.mem_cons_self
    rw [List.map_cons, List.map_cons, List.filterMap_cons, h1, List.map_cons, ← kept_snd (L := L) fun r hr => h r (List.mem_cons_of_mem _ hr), h2]
theorem paired_r {β γ : Type} {F : β → γ → Prop} {xs : List β} {ys : List γ} (h : Paired F xs ys) : ∀ y ∈ ys, ∃ x, F x y := by
  induction h with
  | nil => exact fun _ h => absurd h List.not_mem_nil
  | cons a t ih =>
    intro y hy
    rcases List.mem_cons.mp hy with e | hy
    · rw [e]; exact ⟨_, a⟩
    · exact ih y hy
theorem paired_mapR {β γ δ : Type} {F : β → δ → Prop} {f : γ → δ} : ∀ {xs : List β} {ys : List γ}, Paired (fun x y => F x (f y)) xs ys → Paired F xs (ys.map f)
  | _, _, .nil => .nil
  | _, _, .cons a t => .cons a (paired_mapR t)
/-- things drawn, c draws a turn -/
theorem c_drawJ {β : Type} [Py β] {J : It} {n : Nat} {Z : Hp} {h : Addr} {C : Nat} (P : β → Prop) (R c : Nat) (xs : Nat → V) (hh : Hand K Z H h C) (hC : R + c * n ≤ C) (hz : n ≤ 40000)
    (hgo : ∀ i Z1 H1, i < n → T [h] Z H Z1 H1 → J.go i H1) (hst : ∀ Z1 H1, T [h] Z H Z1 H1 → J.stop n H1) (hy : ∀ i v Z1 H1 H2, i < n → T [h] Z H Z1 H1 → J.yld i H1 v H2 → H2 = H1 ∧ v = xs i)
    (turn : ∀ i : Nat, i < n → ∀ Z1 H1 R', T [h] Z H Z1 H1 → Hand K Z1 H1 h (R' + c) → ∀ A : VK, (∀ x y Z3 H3, T [h] Z1 H1 Z3 H3 → Hand K Z3 H3 h R' → Ik Z3 y x → P x → A y H3) → g (xs i) (wipe σ vs) H1 fun σ2 H2 => wipe σ2 vs = wipe σ vs ∧ te σ2 H2 A)
    (fin : ∀ D (l : List β) Z' H', H D = none → T [h] Z H Z' H' → Hand K Z' H' h R → Ls Z' D l → l.length = n → (∀ x ∈ l, P x) → Q (.ref D) H') : LcJ g tYes te vs σ J H Q := by
  refine lcT (n := n) (M := [h]) (Z := Z) (fun _ => true) (fun i Z1 H1 => Hand K Z1 H1 h (R + c * (n - i))) (fun i (x : β) y Z => Ik Z y x ∧ P x) (fun i x y Z1 Z2 e r => ⟨Ik.ex e r.1, r.2⟩) (fun i Z1 H1 D o hi nD zD => ?_) hz hh.z (fun b hb => by rw [List.mem_singleton.mp hb]; exact hh.at) (hh.mono (by simpa using hC))
    hgo hst (fun i hi D Z1 H1 t nD mu hI v H2 hv A B hA hB => ?_) (fun D ys L Z' H' nD t mu f1 hI hL pr => ?_)
  · obtain ⟨o1, ho1⟩ := hh.at
    exact hi.exm ExM.upd (ne_of_none ho1 nD) zD
  · obtain ⟨rfl, rfl⟩ := hy i v Z1 H1 H2 hi t hv
    rw [lc_yes]
    have ec : R + c * (n - i) = R + c * (n - (i + 1)) + c := by
      rw [show n - i = (n - (i + 1)) + 1 by omega, Nat.mul_succ]
      omega
    rw [ec] at hI
    exact turn i hi Z1 H2 _ t hI A fun x y Z3 H3 t3 h3 ix px => hA rfl x y Z3 H3 t3 h3 ⟨ix, px⟩
  · have la : Lm Z' H' D (L.map Prod.snd) := ⟨⟨ys, f1, paired_mapR (Paired.mapP pr fun y q h => h.1)⟩, mu.z, t.zh⟩
    refine t_fz la fun Z2 H2 t2 ls => fin D (L.map Prod.snd) Z2 H2 nD (t.step t2 (mm_cons (.inr nD) mm_nil)) ((Hand.tt t2 (nm_cons (hand_ne0 nD hh).symm nm_nil) hI).mono (by omega)) ls ?_ fun x hx => ?_
    · have := congrArg List.length hL
      rw [filter_yes, List.length_map, List.length_range] at this
      rw [List.length_map, this]
    · obtain ⟨q, hq, rfl⟩ := List.mem_map.mp hx
      obtain ⟨y, hy⟩ := paired_r pr q hq
      exact hy.2
theorem c_drawR {β : Type} [Py β] {n : Int} {Z : Hp} {h : Addr} {C : Nat} (P : β → Prop) (R c : Nat) (hh : Hand K Z H h C) (hz : 0 ≤ n ∧ n ≤ 40000) (hC : R + c * n.toNat ≤ C)
    (turn : ∀ i : Nat, (i : Int) < n → ∀ Z1 H1 R', T [h] Z H Z1 H1 → Hand K Z1 H1 h (R' + c) → ∀ A : VK, (∀ x y Z3 H3, T [h] Z1 H1 Z3 H3 → Hand K Z3 H3 h R' → Ik Z3 y x → P x → A y H3) → g (.int (i : Int)) (wipe σ vs) H1 fun σ2 H2 => wipe σ2 vs = wipe σ vs ∧ te σ2 H2 A)
    (fin : ∀ D (l : List β) Z' H', H D = none → T [h] Z H Z' H' → Hand K Z' H' h R → Ls Z' D l → (l.length : Int) = n → (∀ x ∈ l, P x) → Q (.ref D) H') : LcR1 g tYes te vs σ [.int n] H Q := by
  have e62 : (2 : Int) ^ 62 = 4611686018427387904 := by decide
  refine ⟨n, rfl, by omega, by omega, c_drawJ P R c (n := n.toNat) (fun i => .int (i : Int)) hh hC (by omega) (fun i Z1 H1 hi t => hi) (fun Z1 H1 t => Nat.le_refl _) (fun i v Z1 H1 H2 hi t hy => ?_) (fun i hi => turn i (by omega)) (fun D l Z' H' n1 t h1 ls hl => fin D l Z' H' n1 t h1 ls (by omega))⟩
  obtain ⟨rfl, rfl⟩ := hy
  exact ⟨rfl, by rw [Int.zero_add]⟩
end
section
variable {K : PySem.W.Frag} {σ : L2.St} {H : Hp} {D : Ends} {g : TG} {ts : TS}
/-- for over a list of data -/
theorem t_forL {β : Type} [Py β] {a : Addr} {xs : List β} {Z0 : Hp} (h : Ik Z0 (.ref a) xs) (Pv : Nat → L2.St → Hp → Prop) (hz : ∀ i σ H, Pv i σ H → Ex Z0 H) (h0 : Pv 0 σ H)
    (hs : ∀ (i : Nat) v x σ H, xs[i]? = some x → Ik Z0 v x → Pv i σ H → g v σ H fun σ2 H2 => ts { D with nx := Pv (i + 1), ct := Pv (i + 1), bk := D.nx } σ2 H2) (hd : ∀ σ H, Pv xs.length σ H → D.nx σ H) : ForL K g ts D σ (.ref a) H := by
  obtain ⟨b, us, e, h1, h2⟩ := h.list
  cases e
  have hl := Paired.length h2
  refine u_forL Pv ((hz _ _ _ h0).sq (sq_of h1)) h0 (fun i σ H _ p => (hz _ _ _ p).sq (sq_of h1)) (fun i v σ H hv p => ?_) (fun σ H p => hd σ H (by rw [← hl]; exact p))
  obtain ⟨x, hx, ix⟩ := itemK h2 hv
  exact hs i v x σ H hx ix p
end
end TR

/-! rooms that are changed: a list of lists of rows, beside a hand -/
namespace TR
open PySem L2
noncomputable def offH (H : Hp) (ps : List Addr) : Hp := fun b => if b ∈ ps then none else H b
theorem off_none {H : Hp} {ps : List Addr} {b : Addr} (h : b ∈ ps) : offH H ps b = none := if_pos h
theorem off_some {H : Hp} {ps : List Addr} {b : Addr} (h : b ∉ ps) : offH H ps b = H b := if_neg h
theorem off_ex {H : Hp} {ps : List Addr} : Ex (offH H ps) H := fun b o e => by
  by_cases c : b ∈ ps
  · rw [off_none c] at e; cases e
  · rw [off_some c] at e; exact e
theorem off_big {Z H : Hp} {ps : List Addr} (e : Ex Z H) (h : ∀ q ∈ ps, Z q = none) : Ex Z (offH H ps) := fun b o q => by
  rw [off_some (fun c => by rw [h b c] at q; cases q)]
  exact e b o q
structure HL (K : PySem.W.Frag) (Z0 H : Hp) (h p : Addr) (qs : List Addr) {α : Type} [Py α] (rs : List (List α)) : Prop where
  own : H p = some (.lst (qs.map V.ref))
  nd : (h :: p :: qs).Nodup
  fr : ∀ q ∈ h :: p :: qs, Z0 q = none
  zh : Ex Z0 H
  rows : Paired (fun q r => ∃ vs, H q = some (.lst vs) ∧ Paired (fun v x => Is K (offH H (h :: p :: qs)) v x) vs r) qs rs
section
variable {K : PySem.W.Frag} {Z0 H0 H H1 H' : Hp} {h p q D : Addr} {qs qs2 : List Addr} {α : Type} [Py α] {rs : List (List α)} {Q : VK}
theorem paired_mem {β γ : Type} {F G : β → γ → Prop} : ∀ {xs : List β} {ys : List γ}, Paired F xs ys → (∀ x y, x ∈ xs → F x y → G x y) → Paired G xs ys
  | _, _, .nil, _ => .nil
  | _, _, .cons a t, f => .cons (f _ _ List.mem_cons_self a) (paired_mem t fun x y hx => f x y (List.mem_cons_of_mem _ hx))
end
section
variable {K : PySem.W.Frag} {σ : L2.St} {H : Hp} {te : TE} {Q : VK} {g : TG} {vs : List Nat}
end
/-- bounds of rooms: how many, how many rows each, how many entries each -/
noncomputable def HB (n m k : Nat) (rss : List (List Row)) : Prop := rss.length ≤ n ∧ ∀ rs ∈ rss, rs.length ≤ m ∧ ∀ r ∈ rs, r.length ≤ k
end TR

/-! rooms of rows that are all an asker's own: D their list, qs the rooms, F the rows -/
namespace TR
open PySem L2
section
variable {K : PySem.W.Frag} {σ : L2.St} {H : Hp} {tt : TT} {te : TE} {Q : VK} {g : TG} {vs : List Nat}
/-- a comprehension whose things have feet: new addresses of their own -/
theorem lcTN {β : Type} {J : It} {n : Nat} {M : List Addr} {Z : Hp} (I : Nat → Hp → Hp → Prop) (R : Nat → β → List Addr → V → Hp → Prop)
    (mono : ∀ i x fp y Z1 Z2, Ex Z1 Z2 → R i x fp y Z1 → R i x fp y Z2)
    (stab : ∀ i Z1 H1 D o, I i Z1 H1 → H D = none → Z1 D = none → I i Z1 (upd H1 D o))
    (hz : n ≤ 40000) (zh : Ex Z H) (hM : ∀ b ∈ M, ∃ o, H b = some o) (h0 : I 0 Z H)
    (hgo : ∀ i Z1 H1, i < n → T M Z H Z1 H1 → J.go i H1) (hst : ∀ Z1 H1, T M Z H Z1 H1 → J.stop n H1)
    (turn : ∀ i, i < n → ∀ D Z1 H1, T M Z H Z1 H1 → H D = none → Mu Z1 H1 D → I i Z1 H1 → ∀ v H2, J.yld i H1 v H2 → ∀ (A : VK),
      (∀ x fp y Z3 H3, T M Z1 H1 Z3 H3 → I (i + 1) Z3 H3 → R i x fp y Z3 → fp.Nodup → (∀ q ∈ fp, H1 q = none) → (∀ q ∈ fp, ∃ o, H3 q = some o) → A y H3) →
      g v (wipe σ vs) H2 fun σ2 H2 => wipe σ2 vs = wipe σ vs ∧ te σ2 H2 A)
    (fin : ∀ D ys (L : List (β × List Addr)) Z' H', H D = none → T M Z H Z' H' → Mu Z' H' D → H' D = some (.lst ys) → I n Z' H' → L.length = n → ys.length = n → (∀ j y q, ys[j]? = some y → L[j]? = some q → R j q.1 q.2 y Z') → (D :: (L.map Prod.snd).flatten).Nodup → (∀ q ∈ (L.map Prod.snd).flatten, H q = none) → (∀ q ∈ (L.map Prod.snd).flatten, ∃ o, H' q = some o) → Q (.ref D) H') : LcJ g tYes te vs σ J H Q := by
  intro D hD
  have nD : D ∉ M := fun z => by
    obtain ⟨o, ho⟩ := hM D z
    rw [hD] at ho
    cases ho
  refine ⟨fun i m H' => m = n - i ∧ i ≤ n ∧ ∃ Z', T M Z H Z' H' ∧ Mu Z' H' D ∧ I i Z' H' ∧ ∃ (ys : List V) (L : List (β × List Addr)), H' D = some (.lst ys) ∧ ys.length = i ∧ L.length = i ∧ (∀ j y q, ys[j]? = some y → L[j]? = some q → R j q.1 q.2 y Z') ∧ (D :: (L.map Prod.snd).flatten).Nodup ∧ (∀ q ∈ (L.map Prod.snd).flatten, H q = none) ∧ (∀ q ∈ (L.map Prod.snd).flatten, ∃ o, H' q = some o),
    ⟨n, by omega, by omega, Z, T.newM hD zh, ⟨Ex.back zh hD, _, upd_same⟩, stab _ _ _ _ _ h0 hD (Ex.back zh hD), [], [], upd_same, rfl, rfl, fun j y q h => by simp at h, by simp, by simp, by simp⟩, ?_⟩
  rintro i m H' ⟨rfl, hi, Z', t, mu, hI, ys, L, hys, hly, hL, pr, nd, fr, al⟩
  by_cases hlt : i < n
  · refine .inr ⟨hgo i Z' H' hlt t, fun H'' => i + 1 ≤ n ∧ ∃ Z'', T M Z H Z'' H'' ∧ Mu Z'' H'' D ∧ I (i + 1) Z'' H'' ∧ ∃ (ys : List V) (L : List (β × List Addr)), H'' D = some (.lst ys) ∧ ys.length = i + 1 ∧ L.length = i + 1 ∧ (∀ j y q, ys[j]? = some y → L[j]? = some q → R j q.1 q.2 y Z'') ∧ (D :: (L.map Prod.snd).flatten).Nodup ∧ (∀ q ∈ (L.map Prod.snd).flatten, H q = none) ∧ (∀ q ∈ (L.map Prod.snd).flatten, ∃ o, H'' q = some o),
      fun H'' q => ⟨n - (i + 1), by omega, rfl, q⟩, fun v H2 hy => ?_⟩
    rw [lc_yes]
    refine turn i hlt D Z' H' t hD mu hI v H2 hy _ (fun x fp y Z3 H3 t3 hI3 r nfp frp alp => ?_)
    have t4 : T M Z H Z3 H3 := t.step t3 mm_same
    have mu3 := t3.mu nD mu
    have t5 : T M Z H Z3 (upd H3 D (.lst (ys ++ [y]))) := t4.step (T.set mu3 t4.zh) (mm_cons (.inr hD) mm_nil)
    have efl : (List.map Prod.snd (L ++ [(x, fp)])).flatten = (L.map Prod.snd).flatten ++ fp := by simp
    have Dfp : D ∉ fp := fun z => by
      obtain ⟨o, ho⟩ := mu.a
      rw [frp D z] at ho
      cases ho
    refine ⟨ys, t3.hp nD hys, sz_lt (by omega), by omega, Z3, t5, ⟨mu3.z, _, upd_same⟩, stab _ _ _ _ _ hI3 hD mu3.z, ys ++ [y], L ++ [(x, fp)], upd_same, by rw [List.length_append, hly]; rfl, by rw [List.length_append, hL]; rfl, fun j y' q' h1 h2 => ?_, ?_, ?_, ?_⟩
    · rw [List.getElem?_append] at h1 h2
      rw [hly] at h1
      rw [hL] at h2
      by_cases c : j < i
      · rw [if_pos c] at h1 h2
        exact mono _ _ _ _ _ _ t3.z (pr j y' q' h1 h2)
      · rw [if_neg c] at h1 h2
        have ej : j = i := by
          have := (List.getElem?_eq_some_iff.mp h1).1
          rw [List.length_singleton] at this
          omega
        subst ej
        rw [Nat.sub_self] at h1 h2
        cases h1
        cases h2
        exact r
    · rw [efl, ← List.cons_append]
      refine List.nodup_append.mpr ⟨nd, nfp, fun a ha b hb e => ?_⟩
      rcases List.mem_cons.mp ha with e2 | ha
      · exact Dfp (by rw [← e2, e]; exact hb)
      · obtain ⟨o, ho⟩ := al a ha
        rw [e, frp b hb] at ho
        cases ho
    · rw [efl]
      intro q hq
      rcases List.mem_append.mp hq with hq | hq
      · exact fr q hq
      · exact t.nn (frp q hq)
    · rw [efl]
      intro q hq
      rcases List.mem_append.mp hq with hq2 | hq2
      · by_cases c : q = D
        · exact ⟨_, by rw [c]; exact upd_same⟩
        · obtain ⟨o, ho⟩ := t3.all (al q hq2)
          exact ⟨o, by rw [upd_ne c]; exact ho⟩
      · by_cases c : q = D
        · exact ⟨_, by rw [c]; exact upd_same⟩
        · obtain ⟨o, ho⟩ := alp q hq2
          exact ⟨o, by rw [upd_ne c]; exact ho⟩
  · have ei : i = n := by omega
    subst ei
    exact .inl ⟨hst Z' H' t, fin D ys L Z' H' hD t mu hys hI hL hly pr nd fr al⟩
end
section
variable {K : PySem.W.Frag} {M N F : List Addr} {Z H Z1 H1 Z2 H2 Z' H' : Hp} {p q D : Addr} {o : HO} {v : V} {α : Type} [Py α]
/-- what was to stay, and is new, may be changed after all -/
theorem T.unfz (t : T M Z H Z' H') (e : Ex Z H) (f : ∀ w ∈ F, H w = none) : T M Z H (offH Z' F) H' :=
  ⟨off_big t.z fun q hq => Ex.back e (f q hq), (off_ex (H := Z') (ps := F)).trans t.zh, t.m, t.al, fun b nb zb a => by
    by_cases c : b ∈ F
    · exact off_none c
    · rw [off_some c]; exact t.fr b nb zb a⟩
/-- many things are to stay from now on -/
noncomputable def onH (Z H : Hp) (F : List Addr) : Hp := fun b => if b ∈ F then H b else Z b
theorem on_in (h : p ∈ F) : onH Z H F p = H p := if_pos h
theorem on_out (h : p ∉ F) : onH Z H F p = Z p := if_neg h
theorem on_ex (h : ∀ q ∈ F, Z q = none) : Ex Z (onH Z H F) := fun b o e => by
  rw [on_out (fun c => by rw [h b c] at e; cases e)]
  exact e
theorem T.fzs (z : Ex Z H) (h : ∀ q ∈ F, Z q = none) : T F Z H (onH Z H F) H :=
  ⟨on_ex h, fun b o e => by
    by_cases c : b ∈ F
    · rw [on_in c] at e; exact e
    · rw [on_out c] at e; exact z _ _ e, fun _ _ _ h => h, fun _ o h => ⟨o, h⟩, fun b nb zb _ => by rw [on_out nb]; exact zb⟩
/-- a row that is one's own -/
noncomputable def RowO (Z H : Hp) (w : Addr) (r : List α) : Prop := ∃ vs, H w = some (.lst vs) ∧ Paired (fun v x => Ik Z v x) vs r
noncomputable def RoomO (Z H : Hp) (F : List Addr) (q : Addr) (rs : List (List α)) : Prop := ∃ ws : List Addr, H q = some (.lst (ws.map V.ref)) ∧ (∀ w ∈ ws, w ∈ F) ∧ Paired (fun w r => RowO Z H w r) ws rs
structure Y3 (Z H : Hp) (D : Addr) (qs F : List Addr) (rss : List (List (List α))) : Prop where
  own : H D = some (.lst (qs.map V.ref))
  nd : (D :: qs).Nodup
  nf : ∀ q ∈ D :: qs, q ∉ F
  z : ∀ q ∈ D :: (qs ++ F), Z q = none
  al : ∀ q ∈ D :: (qs ++ F), ∃ o, H q = some o
  zh : Ex Z H
  rows : Paired (fun q rs => RoomO Z H F q rs) qs rss
theorem RowO.tt {w : Addr} {r : List α} (t : T M Z H Z' H') (n : w ∉ M) (h : RowO Z H w r) : RowO Z' H' w r := by
  obtain ⟨vs, h1, h2⟩ := h
  exact ⟨vs, t.hp n h1, Paired.mapP h2 fun v x g => Ik.tt t g⟩
theorem RoomO.tt {rs : List (List α)} (t : T M Z H Z' H') (n : q ∉ M) (nF : ∀ w ∈ F, w ∉ M) (h : RoomO Z H F q rs) : RoomO Z' H' F q rs := by
  obtain ⟨ws, h1, h2, h3⟩ := h
  exact ⟨ws, t.hp n h1, h2, paired_mem h3 fun w r hw g => RowO.tt t (nF w (h2 w hw)) g⟩
variable {qs : List Addr} {rss : List (List (List α))}
theorem Y3.tt (t : T M Z H Z' H') (n : ∀ q ∈ D :: (qs ++ F), q ∉ M) (a : Y3 Z H D qs F rss) : Y3 Z' H' D qs F rss := by
  refine ⟨t.hp (n D List.mem_cons_self) a.own, a.nd, a.nf, fun q hq => t.fr q (n q hq) (a.z q hq) (a.al q hq), fun q hq => t.all (a.al q hq), t.zh, ?_⟩
  exact paired_mem a.rows fun q rs hq g => g.tt t (n q (List.mem_cons_of_mem _ (List.mem_append_left _ hq))) fun w hw => n w (List.mem_cons_of_mem _ (List.mem_append_right _ hw))
theorem Y3.tt0 (t : T [] Z H Z' H') (a : Y3 Z H D qs F rss) : Y3 Z' H' D qs F rss := a.tt t fun _ _ => nm_nil
theorem Y3.frz (a : Y3 Z H D qs F rss) : ∃ Z', T (D :: (qs ++ F)) Z H Z' H ∧ Ls Z' D rss := by
  have t := T.fzs (F := D :: (qs ++ F)) a.zh a.z
  refine ⟨_, t, _, (on_in List.mem_cons_self).trans a.own, ?_⟩
  have h := a.rows
  have g : ∀ b ∈ qs ++ F, onH Z H (D :: (qs ++ F)) b = H b := fun b hb => on_in (List.mem_cons_of_mem _ hb)
  have e := t.z
  revert g e
  generalize onH Z H (D :: (qs ++ F)) = Z2
  intro g e
  clear t a
  have g' : ∀ b ∈ qs, Z2 b = H b := fun b hb => g b (List.mem_append_left _ hb)
  have g2 : ∀ b ∈ F, Z2 b = H b := fun b hb => g b (List.mem_append_right _ hb)
  clear g
  induction h with
  | nil => exact .nil
  | cons x t ih =>
    refine .cons ?_ (ih fun b hb => g' b (List.mem_cons_of_mem _ hb))
    obtain ⟨ws, h1, h2, h3⟩ := x
    refine Ik.of_list ((g' _ List.mem_cons_self).trans h1) ?_
    clear h1
    induction h3 with
    | nil => exact .nil
    | cons y t2 ih2 =>
      obtain ⟨vs, f1, f2⟩ := y
      exact .cons (Ik.of_list ((g2 _ (h2 _ List.mem_cons_self)).trans f1) (Paired.mapP f2 fun v x g => Ik.ex e g)) (ih2 fun w hw => h2 w (List.mem_cons_of_mem _ hw))
theorem Y3.frq (a : Y3 Z H D qs F rss) : ∃ Z' H', H' = H ∧ T (D :: (qs ++ F)) Z H Z' H' ∧ Ls Z' D rss := by
  obtain ⟨Z', t, ls⟩ := a.frz
  exact ⟨Z', H, rfl, t, ls⟩
variable {Q : VK} {R : Hp → Prop}
end
end TR
namespace TR
open PySem L2
section
variable {K : PySem.W.Frag} {σ : L2.St} {H Z Z0 : Hp} {te : TE} {Q : VK} {g : TG} {vs : List Nat} {α : Type} [Py α]
/-- a new list of new lists: w, its things in Z0 -/
noncomputable def RowF (Z0 Z : Hp) (w : Addr) (r : List α) : Prop := ∃ vs, Z w = some (.lst vs) ∧ Paired (fun v x => Ik Z0 v x) vs r
/-- all of it is new -/
theorem feet_perm {β : Type} : ∀ {L : List (β × List Addr)} {qs : List Addr} {F : List (List Addr)}, Paired (fun q f => q.2 = f.1 :: f.2) L (qs.zip F) → qs.length = F.length → ((L.map Prod.snd).flatten).Perm (qs ++ F.flatten)
  | [], [], [], _, _ => .refl _
  | [], _ :: _, [], _, e => by cases e
  | [], _ :: _, _ :: _, h, _ => by cases h
  | q :: L, a :: qs, f :: F, .cons h t, e => by
    have ih := feet_perm (L := L) (qs := qs) (F := F) t (by simpa using e)
    rw [List.map_cons, List.flatten_cons, h, List.flatten_cons]
    show (a :: (f ++ (L.map Prod.snd).flatten)).Perm (a :: (qs ++ (f ++ F.flatten)))
    refine .cons a ((List.Perm.append_left f ih).trans ?_)
    rw [← List.append_assoc, ← List.append_assoc]
    exact List.Perm.append_right _ List.perm_append_comm
end
end TR

namespace TR
open PySem L2
/-- rooms of rows that an asker spoils: only the shape is known -/
structure Sh (Z H : Hp) (D : Addr) (qs F : List Addr) (n B : Nat) : Prop where
  own : H D = some (.lst (qs.map V.ref))
  nd : D ∉ qs
  nf : ∀ q ∈ D :: qs, q ∉ F
  z : ∀ q ∈ D :: (qs ++ F), Z q = none
  zh : Ex Z H
  rooms : ∀ q ∈ qs, ∃ ws : List Addr, H q = some (.lst (ws.map V.ref)) ∧ ws.length ≤ n ∧ ∀ w ∈ ws, w ∈ F
  rows : ∀ w ∈ F, ∃ vs, H w = some (.lst vs) ∧ vs.length ≤ B
section
variable {Z H Z' H' : Hp} {D q w e : Addr} {M qs F : List Addr} {n B : Nat} {Q : VK} {v : V}
variable {α : Type} [Py α] {rss : List (List (List α))}
end
end TR
namespace TR
open PySem L2
section
variable {K : PySem.W.Frag} {Z H : Hp} {D q w : Addr} {qs F : List Addr} {n B : Nat} {Q : VK} {v : V}
end
end TR

/-! steps as data -/
namespace TR
open PySem L2
inductive Stp where
  | rooms (m : Int)
  | cut (r m : Int)
  | row (r a : Int) (w : Row)
  deriving DecidableEq
noncomputable def stpD : Stp → PyData
  | .rooms m => .tuple [.str "rooms", .int m]
  | .cut r m => .tuple [.str "cut", .int r, .int m]
  | .row r a w => .tuple [.str "row", .int r, .int a, Py.d w]
instance : Py Stp := ⟨stpD, 4, fun s => by
    cases s with
    | rooms m => simp [stpD, PyData.depth, PyData.depthAll]
    | cut r m => simp [stpD, PyData.depth, PyData.depthAll]
    | row r a w =>
      have h : (Py.d w).depth ≤ 3 := Nat.le_trans (Py.depth w) (by decide)
      simp [stpD, PyData.depth, PyData.depthAll]
      omega, fun s => by
    have h1 : PyData.strOk "rooms" = true := by decide +kernel
    have h2 : PyData.strOk "cut" = true := by decide +kernel
    have h3 : PyData.strOk "row" = true := by decide +kernel
    cases s <;> simp [stpD, PyData.canLay0, PyData.canLayAll0, Py.can, h1, h2, h3], fun a b => by
    have hr : ("rooms" : Str) ≠ "cut" := by decide
    have hs : ("cut" : Str) ≠ "rooms" := by decide
    cases a <;> cases b <;> simp [stpD, PyData.eqv, PyData.eqvAll, Py.eqv, hr, hs]⟩
section
variable {K : PySem.W.Frag} {H : Hp} {v : V} {p b : Addr} {r m a : Int} {w : Row}
end
/-! what a step does -/
/-- so many things at least -/
noncomputable def padTo {α : Type} (n : Nat) (d : α) (l : List α) : List α := l ++ List.replicate (n - l.length) d
noncomputable def withRow (rss : List (List Row)) (room at_ : Int) (row : Row) : List (List Row) :=
  let p := padTo (room.toNat + 1) [] rss
  p.set room.toNat ((padTo (at_.toNat + 1) [] (p.getD room.toNat [])).set at_.toNat row)
/-- the last rooms without rows go -/
noncomputable def trimR (rss : List (List Row)) : List (List Row) := (rss.reverse.dropWhile fun rs => decide (rs = [])).reverse
noncomputable def doneY (y : Yard) : Stp → Yard
  | .rooms m => ⟨y.a, m, trimR y.c⟩
  | .cut r m => ⟨y.a, y.b, trimR (if r < y.c.length then y.c.set r.toNat ((y.c.getD r.toNat []).take m.toNat) else y.c)⟩
  | .row r a w => ⟨y.a, y.b, trimR (withRow y.c r a w)⟩
end TR
namespace TR
open PySem L2
section
variable {K : PySem.W.Frag} {M F : List Addr} {Z H Z1 H1 Z' H' : Hp} {D q a : Addr} {qs : List Addr} {α : Type} [Py α] {rss : List (List (List α))} {Q : VK}
theorem mm_1 {N : List Addr} {H : Hp} {y : Addr} (h : y ∈ N ∨ H y = none) : ∀ x ∈ [y], x ∈ N ∨ H x = none := mm_cons h mm_nil
end
end TR
namespace TR
open PySem L2
noncomputable abbrev YLen (y : Yard) : Prop := y.c.length ≤ 10000 ∧ ∀ rs ∈ y.c, rs.length ≤ 10000
noncomputable def StpOk : Stp → Prop
  | .rooms _ => True
  | .cut r m => 0 ≤ r ∧ 0 ≤ m
  | .row r a _ => 0 ≤ r ∧ r ≤ 1000 ∧ 0 ≤ a ∧ a ≤ 9000
end TR
namespace TR
open PySem L2
noncomputable def StpB : Stp → Prop
  | .rooms _ => True
  | .cut r m => 0 ≤ r ∧ 0 ≤ m
  | .row r a w => 0 ≤ r ∧ r < 131 ∧ 0 ≤ a ∧ a < 131 ∧ w.length ≤ 8
end TR

namespace TR
/-- the rows that a room of so many keys takes -/
noncomputable def rowsI (m w : Int) : Int := max 1 ((m + w - 1) / w)
noncomputable def spillI (l : List Int) (w : Int) : Int := (l.map fun m => rowsI m w - 1).sum
theorem rowsI_more {m w : Int} (hm : 0 ≤ m) (hw : 1 ≤ w) : rowsI m w = 1 + max 0 (m - 1) / w := by
  unfold rowsI
  by_cases c : m = 0
  · subst c
    rw [show (0 : Int) + w - 1 = w - 1 by omega, Int.ediv_eq_zero_of_lt (by omega) (by omega)]
    rw [Int.max_eq_left (show (0 : Int) - 1 ≤ 0 by omega), Int.zero_ediv]
    rfl
  · have e : (m + w - 1) / w = (m - 1) / w + 1 := by
      have := Int.add_mul_ediv_right (m - 1) 1 (show w ≠ 0 by omega)
      rw [Int.one_mul] at this
      rw [show m + w - 1 = m - 1 + w by omega, this]
    have h0 : 0 ≤ (m - 1) / w := Int.ediv_nonneg (by omega) (by omega)
    rw [e, Int.max_eq_right (by omega), Int.max_eq_right (show 0 ≤ m - 1 by omega)]
    omega
theorem rowsI_pos (m w : Int) : 1 ≤ rowsI m w := Int.le_max_left _ _
end TR
namespace TR
end TR
namespace TR
/-- the rows of keys: sorted, cut -/
noncomputable def cutR (l : List Int) (w : Int) (k : Nat) : List Int := cutI (sortI l) (some ((k : Int) * w)) (some ((k : Int) * w + w))
noncomputable def rowsOf (l : List Int) (w : Int) : List (List Int) := (List.range (rowsI l.length w).toNat).map (cutR l w)
end TR
namespace TR
theorem rowsI_facts {m w : Int} (hm : 0 ≤ m) (hw : 0 < w) : m ≤ rowsI m w * w ∧ w ≤ rowsI m w * w ∧ (rowsI m w = 1 ∨ (rowsI m w - 1) * w < m) ∧ rowsI m w * w < m + w + (if m = 0 then 1 else 0) ∧ rowsI m w ≤ m + 1 := by
  have h1 := Int.emod_add_mul_ediv (m + w - 1) w
  have h2 := Int.emod_nonneg (m + w - 1) (show w ≠ 0 by omega)
  have h3 := Int.emod_lt_of_pos (m + w - 1) hw
  have h4 : 0 ≤ (m + w - 1) / w := Int.ediv_nonneg (by omega) (by omega)
  unfold rowsI
  rw [Int.mul_comm w] at h1
  by_cases c : (m + w - 1) / w = 0
  · rw [c, Int.max_eq_left (by decide), Int.one_mul]
    rw [c, Int.zero_mul] at h1
    have : m = 0 := by omega
    subst this
    refine ⟨by omega, by omega, .inl rfl, by rw [if_pos rfl]; omega, by omega⟩
  · have c1 : 1 ≤ (m + w - 1) / w := by omega
    rw [Int.max_eq_right c1]
    have h5 := Int.mul_le_mul_of_nonneg_right c1 (show (0 : Int) ≤ w by omega)
    rw [Int.one_mul] at h5
    have h6 : (m + w - 1) / w < m + 2 := by
      refine Int.ediv_lt_of_lt_mul hw ?_
      have := Int.mul_le_mul_of_nonneg_left (show (1 : Int) ≤ w by omega) hm
      rw [Int.add_mul]
      omega
    have h7 : m ≠ 0 := fun z => c (by rw [z]; exact Int.ediv_eq_zero_of_lt (by omega) (by omega))
    refine ⟨by omega, by omega, .inr ?_, by rw [if_neg h7]; omega, by omega⟩
    rw [Int.sub_mul, Int.one_mul]
    omega
end TR
namespace TR
noncomputable def lastGe (r : List Int) (key : Int) : Bool := match r.getLast? with | some v => decide (key ≤ v) | none => false
/-- what a look through rows finds: there, looks -/
noncomputable def lookedI : List (List Int) → Int → Nat → Bool × Int
  | [], _, n => (false, (n : Int))
  | r :: rs, key, n => if lastGe r key = true then (decide (key ∈ r), (n : Int) + 1) else lookedI rs key (n + 1)
end TR
namespace TR
/-- how many are less -/
noncomputable def less (l : List Int) (key : Int) : Nat := (l.filter fun x => decide (x < key)).length
end TR

namespace TR
noncomputable def thingOf (r : Row) (key : Int) : Option Tx := ((r.filter fun e => decide (e.1 = key)).map Prod.snd)[0]?
noncomputable def foundR : List Row → Int → Nat → Option Tx × Int
  | [], _, m => (none, (m : Int))
  | r :: rs, key, m => if lastGe (r.map Prod.fst) key = true then (thingOf r key, ((m + 1 : Nat) : Int)) else foundR rs key (m + 1)
noncomputable def foundI (y : Yard) (key : Int) : Option Tx × Int := match y.c[(roomOf key y.b).toNat]? with
  | none => (none, 0)
  | some rows => foundR rows key 0
end TR

/-! rows of rising entries, clean yards -/
namespace TR
open PySem L2
theorem drop_lt {α : Type} {l : List α} {w : Nat} (h : ¬ (w = 0 ∨ l.length ≤ w)) : (l.drop w).length < l.length := by
  rw [List.length_drop]
  omega
noncomputable def cutE (w : Nat) (l : Row) : List Row := if h : w = 0 ∨ l.length ≤ w then [l] else l.take w :: cutE w (l.drop w)
termination_by l.length
decreasing_by exact drop_lt h
theorem cutE_small {w : Nat} {l : Row} (h : l.length ≤ w) : cutE w l = [l] := by
  rw [cutE, dif_pos (.inr h)]
theorem cutE_big {w : Nat} {l : Row} (hw : 0 < w) (h : w < l.length) : cutE w l = l.take w :: cutE w (l.drop w) := by
  rw [cutE, dif_neg (by omega)]
/-- a look through rows that rise all the way -/
noncomputable abbrev Rises (l : Row) : Prop := (l.map Prod.fst).Pairwise (· < ·)
noncomputable def fnd (R : List Row) (k : Int) : Option Tx := (foundR R k 0).1
end TR

namespace TR
open PySem L2
/-! ### rooms that are rewritten -/
noncomputable def putR (c : List (List Row)) (R : Nat) (X : List Row) : List (List Row) := (padTo (R + 1) [] c).set R X
noncomputable def NE (c : List (List Row)) : Prop := ∀ rs ∈ c, rs ≠ []
/-! ### the rows that aren't what stands there -/
noncomputable def writF (R : Nat) (now : List Row) : Nat → List Row → List Stp
  | _, [] => []
  | i, r :: rs => if now[i]? = some r then writF R now (i + 1) rs else .row (R : Int) (i : Int) r :: writF R now (i + 1) rs
noncomputable def writ (R : Nat) (rows now : List Row) : List Stp := writF R now 0 rows
noncomputable def onw (R : Nat) (rows now : List Row) : List Stp := writ R rows now ++ (if rows.length < now.length then [.cut (R : Int) (rows.length : Int)] else [])
noncomputable def backw (R : Nat) (rows now : List Row) : List Stp := (writ R rows now).reverse
end TR

namespace TR
open PySem L2
/-- from the last on: behind any of these steps the first rows are as they were, then rows without entries, then the new ones -/
noncomputable def backS (rows now : List Row) (m : Nat) : List Row := now.take m ++ List.replicate (m - now.length) [] ++ rows.drop m
end TR

/-! yards amid a change -/
namespace TR
open PySem L2
noncomputable def partE (r : Int) (es : Row) (i : Nat) : Row := sortE (es.filter fun e => decide (roomOf e.1 r = (i : Int)))
noncomputable def cleanC (w : Nat) (r : Int) (es : Row) : List (List Row) := (List.range r.toNat).map fun i => cutE w (partE r es i)
noncomputable def cleanY (w r : Int) (es : Row) : Yard := ⟨w, r, cleanC w.toNat r es⟩
noncomputable def fY (y : Yard) (k : Int) : Option Tx := (foundI y k).1
/-- no key twice -/
noncomputable abbrev Keys1 (es : Row) : Prop := (es.map Prod.fst).Nodup
theorem Keys1.one {es : Row} (h : Keys1 es) : OneK es := fun x hx y hy e => by
  obtain ⟨i, hi⟩ := List.mem_iff_getElem?.mp hx
  obtain ⟨j, hj⟩ := List.mem_iff_getElem?.mp hy
  have il := (List.getElem?_eq_some_iff.mp hi).1
  have h1 : (es.map Prod.fst)[i]? = some x.1 := by rw [List.getElem?_map, hi]; rfl
  have h2 : (es.map Prod.fst)[j]? = some x.1 := by rw [List.getElem?_map, hj, e]; rfl
  have := (List.getElem?_inj (by rw [List.length_map]; exact il) h).mp (h1.trans h2.symm)
  rw [this, hj] at hi
  rw [Option.some.inj hi]
theorem Keys1.sub {es l : Row} (h : Keys1 es) (s : l.Sublist es) : Keys1 l := List.Nodup.sublist (s.map _) h
/-- a room that tells its keys rightly -/
noncomputable def RoomG (es : Row) (b : Int) (i : Nat) (X : List Row) : Prop := (∀ e ∈ es, roomOf e.1 b = (i : Int) → fnd X e.1 = some e.2) ∧ ∀ r ∈ X, ∀ x ∈ r, x ∈ es
/-- all keys are found with their things, no others are -/
noncomputable def GoodF (es : Row) (y : Yard) : Prop := (∀ e ∈ es, fY y e.1 = some e.2) ∧ ∀ k, k ∉ es.map Prod.fst → fY y k = none
theorem cutE_len {w : Nat} (hw : 0 < w) (l : Row) : (cutE w l).length = (l.length - 1) / w + 1 := by
  generalize hn : l.length = n
  induction n using Nat.strongRecOn generalizing l with
  | ind n ih =>
    by_cases h : l.length ≤ w
    · rw [cutE_small h, List.length_singleton]
      have : (n - 1) / w = 0 := Nat.div_eq_of_lt (by omega)
      omega
    · rw [cutE_big hw (by omega), List.length_cons, ih (l.drop w).length (by rw [List.length_drop]; omega) (l.drop w) rfl, List.length_drop]
      have : (n - 1) / w = (l.length - w - 1) / w + 1 := by
        rw [show n - 1 = (l.length - w - 1) + w by omega, Nat.add_div_right _ hw]
      omega
/-! ### splitting -/
noncomputable def splitRoom (r : Int) : Nat := (r - whole r).toNat
noncomputable def splitS (y : Yard) : List Stp :=
  let R := splitRoom y.b
  let A := (y.c.getD R []).flatten
  onw y.b.toNat (cutE y.a.toNat (sortE (A.filter fun e => decide (roomOf e.1 (y.b + 1) = y.b)))) [] ++ [.rooms (y.b + 1)] ++ onw R (cutE y.a.toNat (sortE (A.filter fun e => decide (roomOf e.1 (y.b + 1) ≠ y.b)))) (y.c.getD R [])
end TR

namespace TR
open PySem L2
end TR
namespace TR
open PySem L2
/-! ### joining -/
noncomputable def joinS (y : Yard) : List Stp :=
  let last := (y.b - 1).toNat
  let into := splitRoom (y.b - 1)
  backw into (cutE y.a.toNat (sortE ((y.c.getD into []).flatten ++ (y.c.getD last []).flatten))) (y.c.getD into []) ++ [.rooms (y.b - 1), .cut (last : Int) 0]
end TR

/-! T: lists of own lists, reverse, extend, ranges with a step; found -/
namespace TR
open PySem L2
section
variable {K : PySem.W.Frag} {M qs : List Addr} {Z H Z' H' : Hp} {Q : VK} {D q a b : Addr} {v : V} {α : Type} {iα : Py α} {x : α} {l r : List α}
end
/-! a list of own lists -/
structure Y2 (Z H : Hp) (D : Addr) (qs : List Addr) {α : Type} [Py α] (rs : List (List α)) : Prop where
  own : H D = some (.lst (qs.map V.ref))
  nd : (D :: qs).Nodup
  z : ∀ q ∈ D :: qs, Z q = none
  zh : Ex Z H
  rows : Paired (fun q r => RowO Z H q r) qs rs
section
variable {K : PySem.W.Frag} {M qs : List Addr} {Z H Z' H' : Hp} {Q : VK} {D q : Addr} {v : V} {α : Type} {iα : Py α} {x : α} {rs : List (List α)}
theorem Y2.len (a : Y2 Z H D qs rs) : qs.length = rs.length := Paired.length a.rows
theorem Y2.at (a : Y2 Z H D qs rs) {i : Nat} (h : qs[i]? = some q) : ∃ r, rs[i]? = some r ∧ RowO Z H q r := RW.at' a.rows h
theorem Y2.ix (a : Y2 Z H D qs rs) {i : Int} (h0 : 0 ≤ i) (hq : qs[i.toNat]? = some q) (k : Q (.ref q) H) : rIx K (.ref D) (.int i) H Q :=
  s_ixL (sq_of a.own) (v := .ref q) (atI_lt h0 (by rw [List.getElem?_map, hq]; rfl)) k
/-- a thing more in one of them -/
theorem Y2.push {i : Nat} {r : List α} (a : Y2 Z H D qs rs) (hi : qs[i]? = some q) (hr : rs[i]? = some r) (hv : Ik Z v x) (hz : r.length < 100000)
    (k : ∀ Z' H', T [q] Z H Z' H' → Y2 Z' H' D qs (rs.set i (r ++ [x])) → Q .non H') : rAppend (.ref q) [v] H Q := by
  obtain ⟨r', hr', vs, h1, h2⟩ := a.at hi
  rw [hr] at hr'
  cases hr'
  have hm := List.mem_of_getElem? hi
  obtain ⟨d1, d2⟩ := List.nodup_cons.mp a.nd
  have mq : Mu Z H q := ⟨a.z q (List.mem_cons_of_mem _ hm), _, h1⟩
  have t : T [q] Z H Z (upd H q (.lst (vs ++ [v]))) := T.set mq a.zh
  refine ⟨q, vs, v, rfl, rfl, h1, sz_lt (by rw [Paired.length h2]; exact hz), k Z _ t ⟨t.hp (nm_cons (fun z => d1 (by rw [z]; exact hm)) nm_nil) a.own, a.nd, a.z, t.zh, ?_⟩⟩
  exact RW.push' (m := fun b o n e => by rw [upd_ne n]; exact e) (F := fun b r => RowO Z H b r) (H := H) (H' := upd H q (.lst (vs ++ [v]))) (fun b r nb g => g.tt t (nm_cons nb nm_nil)) a.rows d2 hi ⟨_, upd_same, Paired.snoc h2 hv⟩
theorem Y2.frq (a : Y2 Z H D qs rs) : ∃ Z' H', H' = H ∧ T (D :: qs) Z H Z' H' ∧ Ls Z' D rs := by
  have t := T.fzs (F := D :: qs) a.zh a.z
  refine ⟨_, H, rfl, t, _, (on_in List.mem_cons_self).trans a.own, ?_⟩
  have h := a.rows
  have g : ∀ b ∈ qs, onH Z H (D :: qs) b = H b := fun b hb => on_in (List.mem_cons_of_mem _ hb)
  have e := t.z
  revert g e
  generalize onH Z H (D :: qs) = Z2
  intro g e
  clear t a
  induction h with
  | nil => exact .nil
  | cons y t ih =>
    obtain ⟨vs, f1, f2⟩ := y
    exact .cons (Ik.of_list ((g _ List.mem_cons_self).trans f1) (Paired.mapP f2 fun v x g => Ik.ex e g)) (ih fun b hb => g b (List.mem_cons_of_mem _ hb))
end
section
variable {K : PySem.W.Frag} {σ : L2.St} {H Z : Hp} {tt : TT} {te : TE} {Q : VK} {g : TG} {vs : List Nat}
/-- [[] for k in range(n)] -/
theorem c_newR {α : Type} [Py α] {n : Int} (zh : Ex Z H) (hz : -40000 ≤ n ∧ n ≤ 40000)
    (turn : ∀ i : Nat, (i : Int) < n → ∀ Z1 H1, T [] Z H Z1 H1 → ∀ A : VK, (∀ q Z3 H3, T [] Z1 H1 Z3 H3 → H1 q = none → Mu Z3 H3 q → H3 q = some (.lst []) → A (.ref q) H3) → g (.int (i : Int)) (wipe σ vs) H1 fun σ2 H2 => wipe σ2 vs = wipe σ vs ∧ te σ2 H2 A)
    (fin : ∀ (D : Addr) (qs : List Addr) Z' H', T [] Z H Z' H' → Y2 Z' H' D qs (List.replicate n.toNat ([] : List α)) → (∀ b ∈ D :: qs, H b = none) → Q (.ref D) H') : LcR1 g tYes te vs σ [.int n] H Q := by
  have e62 : (2 : Int) ^ 62 = 4611686018427387904 := by decide
  refine ⟨n, rfl, by omega, by omega, lcTN (n := n.toNat) (M := []) (Z := Z) (fun _ _ _ => True) (fun i (x : Unit) fp y Z1 => ∃ q, fp = [q] ∧ y = .ref q ∧ Z1 q = some (.lst [])) (fun i x fp y Z1 Z2 e r => by
    obtain ⟨q, h1, h2, h3⟩ := r
    exact ⟨q, h1, h2, e _ _ h3⟩) (fun _ _ _ _ _ _ _ _ => trivial) (by omega) zh (fun _ h => absurd h List.not_mem_nil) trivial
    (fun i Z1 H1 hi t => hi) (fun Z1 H1 t => Nat.le_refl _) (fun i hi D Z1 H1 t nD mu _ v H2 hy A hA => ?_) (fun D ys L Z' H' nD t mu f1 _ hL hY pr nd fr al => ?_)⟩
  · obtain ⟨rfl, rfl⟩ := hy
    rw [Int.zero_add]
    refine turn i (by omega) Z1 H2 t A fun q Z3 H3 t3 n3 m3 f3 => ?_
    have t4 : T [q] Z3 H3 (upd Z3 q (.lst [])) H3 := T.fz t3.zh m3.z f3
    refine hA () [q] (.ref q) _ H3 (t3.step t4 (mm_cons (.inr n3) mm_nil)) trivial ⟨q, rfl, rfl, upd_same⟩ (List.nodup_cons.mpr ⟨List.not_mem_nil, List.nodup_nil⟩) (fun b hb => by rw [List.mem_singleton.mp hb]; exact n3) (fun b hb => by rw [List.mem_singleton.mp hb]; exact ⟨_, f3⟩)
  · have prL : Paired (fun y q => ∃ b, q.2 = [b] ∧ y = V.ref b ∧ Z' b = some (.lst [])) ys L := paired_of (by omega) fun i y q h1 h2 => pr i y q h1 h2
    have key : ∃ qs : List Addr, ys = qs.map V.ref ∧ (L.map Prod.snd).flatten = qs ∧ qs.length = L.length ∧ ∀ q ∈ qs, Z' q = some (.lst []) := by
      clear f1 hL nd fr al pr hY
      induction prL with
      | nil => exact ⟨[], rfl, rfl, rfl, fun _ h => absurd h List.not_mem_nil⟩
      | cons a t ih =>
        obtain ⟨qs, r1, r2, r3, r4⟩ := ih
        obtain ⟨b, e1, e2, e3⟩ := a
        refine ⟨b :: qs, by rw [e2, r1]; rfl, by rw [List.map_cons, List.flatten_cons, e1, r2]; rfl, by rw [List.length_cons, List.length_cons, r3], fun q hq => ?_⟩
        rcases List.mem_cons.mp hq with e | hq
        · rw [e]; exact e3
        · exact r4 q hq
    obtain ⟨qs, rfl, efl, lq, hq⟩ := key
    rw [efl] at nd fr al
    obtain ⟨d1, d2⟩ := List.nodup_cons.mp nd
    have t2 := t.unfz zh fr
    refine fin D qs _ H' t2 ⟨f1, nd, fun b hb => ?_, t2.zh, ?_⟩ fun b hb => ?_
    · rcases List.mem_cons.mp hb with e | hb
      · rw [e, off_some d1]; exact mu.z
      · exact off_none hb
    · refine paired_of (by rw [lq, hL, List.length_replicate]) fun i q r h1 h2 => ?_
      have er := List.eq_of_mem_replicate (List.mem_of_getElem? h2)
      rw [er]
      exact ⟨[], t.zh _ _ (hq q (List.mem_of_getElem? h1)), .nil⟩
    · rcases List.mem_cons.mp hb with e | hb
      · rw [e]; exact nD
      · exact fr b hb
/-- ranges with a step -/
noncomputable def LcR3 (g : TG) (tt : TT) (te : TE) (vs : List Nat) (σ : L2.St) (x : List V) (H1 : Hp) (Q : VK) : Prop := ∃ (i j c : Int) (n : Nat), x = [.int i, .int j, .int c] ∧ RgC i j c n ∧ LcJ g tt te vs σ (Itc i c n) H1 Q
theorem s_lcR3 {ta : TA} (q : ta σ H fun x H1 => LcR3 g tt te vs σ x H1 Q) : tLc (iRng3 ta) g tt te vs σ H Q := q
theorem RgC.up {j c : Int} (hc : 1 ≤ c) (hc2 : c < 1073741824) (hj : 1 ≤ j) (hj2 : j ≤ 100000) : RgC 0 j c ((j - 1) / c + 1).toNat := by
  have h0 : 0 ≤ (j - 1) / c := Int.ediv_nonneg (by omega) (by omega)
  have h1 : (j - 1) / c ≤ j - 1 := Int.ediv_le_self _ (by omega)
  have es : Builtin.Range.rangeSize 0 j c = (j - 1) / c + 1 := by
    unfold Builtin.Range.rangeSize
    rw [if_pos (by omega), if_pos (by omega), Int.sub_zero]
  refine ⟨by omega, by omega, ?_, by rw [es]; omega⟩
  unfold Builtin.Range.small
  rw [es]
  simp only [Builtin.Range.rangeFitsLong, Bool.and_eq_true, Bool.or_eq_true, decide_eq_true_eq, beq_iff_eq]
  have e63 : (2 : Int) ^ 63 = 9223372036854775808 := by decide
  rw [if_pos (show c > 0 by omega)]
  refine ⟨⟨⟨⟨⟨by omega, by omega⟩, by omega, by omega⟩, by omega, by omega⟩, by omega, by omega⟩, .inr ?_⟩
  rw [decide_eq_true (by omega), decide_eq_true (by omega)]
  rfl
end
theorem cutE_at {w : Nat} (hw : 0 < w) : ∀ (i : Nat) (l : Row), i < (cutE w l).length → (cutE w l)[i]? = some ((l.drop (i * w)).take w)
  | 0, l, _ => by
    rw [Nat.zero_mul, List.drop_zero]
    by_cases h : l.length ≤ w
    · rw [cutE_small h, List.take_of_length_le h]; rfl
    · rw [cutE_big hw (by omega)]; rfl
  | i + 1, l, hi => by
    by_cases h : l.length ≤ w
    · rw [cutE_small h] at hi
      simp at hi
    · rw [cutE_big hw (by omega)] at hi ⊢
      rw [List.getElem?_cons_succ, cutE_at hw i (l.drop w) (by simpa using hi), List.drop_drop, Nat.succ_mul, Nat.add_comm w]
theorem cutE_map {w : Nat} (hw : 0 < w) (l : Row) : (List.range (cutE w l).length).map (fun i => (l.drop (i * w)).take w) = cutE w l := by
  refine List.ext_getElem? fun i => ?_
  rw [List.getElem?_map]
  by_cases c : i < (cutE w l).length
  · rw [List.getElem?_range c, cutE_at hw i l c]
    rfl
  · rw [List.getElem?_eq_none_iff.mpr (by rw [List.length_range]; omega), List.getElem?_eq_none_iff.mpr (by omega)]
    rfl
/-! found -/
noncomputable def YardOk (y : Yard) : Prop := 1 ≤ y.b ∧ y.c.length ≤ 10000 ∧ ∀ rs ∈ y.c, rs.length ≤ 10000 ∧ ∀ r ∈ rs, r.length ≤ 10000
noncomputable def optS : Option Tx → V
  | none => .non
  | some x => .str x.1
noncomputable def spFound (K : PySem.W.Frag) : Sp := fun vs H Q _ => ∃ (v : V) (y : Yard) (key : Int), vs = [v, .int key] ∧ Is K H v y ∧ YardOk y ∧
  ∀ (p : Addr) (v' : V) (H' : Hp), H p = none → Ex H H' → H' p = some (.tup [v', .int (foundI y key).2]) → Is K H' v' (foundI y key).1 → Q (.ref p) H'
noncomputable def spLawFound (K : PySem.W.Frag) : Sp := fun vs H Q _ => ∃ (v : V) (y : Yard) (key : Int), vs = [v, .int key] ∧ Is K H v y ∧ 0 ≤ key ∧ (1 ≤ y.b ∧ ∀ rs ∈ y.c, rs.length ≤ 10000 ∧ ∀ r ∈ rs, r.length ≤ 10000) ∧
  ∀ (p : Addr) (v' : V) (H' : Hp), H p = none → Ex H H' → H' p = some (.tup [v', .int (foundI y key).2]) → Is K H' v' (foundI y key).1 → Q (.ref p) H'
/-- keys, drawn -/
noncomputable def spKeys (K : PySem.W.Frag) : Sp := fun vs H Q _ => ∃ (h : Addr) (many : Int) (n : Nat) (Z : Hp), vs = [.ref h, .int many] ∧ 0 ≤ many ∧ many ≤ 160 ∧ Hand K Z H h (n + 2000) ∧
  ∀ (p : Addr) (ks : List Int) (H' : Hp), H p = none → ExM h H H' → Hand K Z H' h n → H' p = some (.lst (ks.map V.int)) → ks.length = many.toNat → ks.Nodup → (∀ k ∈ ks, 0 ≤ k ∧ k < 1152921504606846976) → Q (.ref p) H'
end TR
namespace TR
open PySem L2
noncomputable def partsL (r : Int) (l : Row) : List Row := (List.range r.toNat).map fun (i : Nat) => l.filter fun e => decide (roomOf e.1 r = (i : Int))
theorem partsL_nil (r : Int) : partsL r [] = List.replicate r.toNat [] := by
  unfold partsL
  simp only [List.filter_nil]
  rw [List.map_const', List.length_range]
theorem partsL_len (r : Int) (l : Row) : (partsL r l).length = r.toNat := by
  unfold partsL
  rw [List.length_map, List.length_range]
theorem partsL_at {r : Int} {l : Row} {i : Nat} (h : i < r.toNat) : (partsL r l)[i]? = some (l.filter fun e => decide (roomOf e.1 r = (i : Int))) := by
  unfold partsL
  rw [List.getElem?_map, List.getElem?_range h]
  rfl
theorem partsL_snoc {r : Int} (hr : 1 ≤ r) (l : Row) (e : Ent) : ∃ p, (partsL r l)[(roomOf e.1 r).toNat]? = some p ∧ p.length ≤ l.length ∧ (partsL r l).set (roomOf e.1 r).toNat (p ++ [e]) = partsL r (l ++ [e]) := by
  obtain ⟨h0, h1⟩ := roomOf_range (key := e.1) hr
  refine ⟨_, partsL_at (by omega), List.length_filter_le _ _, ?_⟩
  refine List.ext_getElem? fun i => ?_
  by_cases c : i < r.toNat
  · rw [partsL_at c]
    by_cases d : (roomOf e.1 r).toNat = i
    · subst d
      rw [List.getElem?_set_self (by rw [partsL_len]; exact c), List.filter_append, List.filter_cons, if_pos (decide_eq_true (by omega))]
      rfl
    · rw [List.getElem?_set_ne d, partsL_at c, List.filter_append, List.filter_cons, if_neg (by rw [decide_eq_false (by omega)]; exact Bool.false_ne_true)]
      simp
  · rw [List.getElem?_eq_none_iff.mpr (by rw [List.length_set, partsL_len]; omega), List.getElem?_eq_none_iff.mpr (by rw [partsL_len]; omega)]
theorem partsL_clean {w r : Int} {es : Row} : (partsL r es).map (fun p => cutE w.toNat (sortE p)) = cleanC w.toNat r es := by
  unfold partsL cleanC
  rw [List.map_map]
  rfl
theorem partsL_mem {r : Int} {es p : Row} (h : p ∈ partsL r es) : p.Sublist es := by
  obtain ⟨i, _, rfl⟩ := List.mem_map.mp h
  exact List.filter_sublist
end TR
namespace TR
open PySem L2
end TR
namespace TR
open PySem L2
section
variable {K : PySem.W.Frag} {σ : L2.St} {H : Hp} {tt : TT} {te : TE} {Q : VK} {g : TG} {vs : List Nat}
end
end TR

namespace TR
end TR

/-! the law's doing of a step by the last room with rows -/
namespace TR
open PySem L2
noncomputable def someR (rss : List (List Row)) : List Int := ((List.range rss.length).filter fun i => decide (rss.getD i [] ≠ [])).map fun (i : Nat) => (i : Int)
end TR
namespace TR
open PySem L2
/-! the steps of a split and of a join are small -/
noncomputable def StpR : Stp → Prop
  | .rooms m => 1 ≤ m
  | s => StpB s
end TR

/-! putting and dropping: behind any steps the other keys are found, the change's own one as ahead up to one of the steps, as behind it from then on -/
namespace TR
open PySem L2
noncomputable def outE (es : Row) (k : Int) : Row := es.filter fun e => decide (e.1 ≠ k)
noncomputable def putE (es : Row) (k : Int) (t : Tx) : Row := outE es k ++ [(k, t)]
noncomputable def loE (l : Row) (k : Int) : Row := l.filter fun e => decide (e.1 < k)
noncomputable def hiE (l : Row) (k : Int) : Row := l.filter fun e => decide (k < e.1)
noncomputable def putS (y : Yard) (k : Int) (t : Tx) : List Stp :=
  backw (roomOf k y.b).toNat (cutE y.a.toNat (sortE (outE (y.c.getD (roomOf k y.b).toNat []).flatten k ++ [(k, t)]))) (y.c.getD (roomOf k y.b).toNat [])
noncomputable def dropS (y : Yard) (k : Int) : List Stp :=
  onw (roomOf k y.b).toNat (cutE y.a.toNat (sortE (outE (y.c.getD (roomOf k y.b).toNat []).flatten k))) (y.c.getD (roomOf k y.b).toNat [])
end TR
namespace TR
open PySem L2
end TR

/-! dicts of numbers and texts: d.items(), sorted(d.items()) -/
namespace L2
open PySem PySem.W PySem.Spec PyProof.Rows SrtO SrtS TR
noncomputable def kvE (e : Ent) : Key × V := (Sum.inl e.1, .str e.2.1)
section
variable {X : Cx}
noncomputable def rItemsK : V → List V → Hp → VK → Prop := fun x xs H Q => ∃ (a : Addr) (kvs : List (Key × V)), x = .ref a ∧ xs = [] ∧ H a = some (.dK kvs) ∧ ∀ p, H p = none → Q (.ref p) (upd H p (DX.itemsO p a))
noncomputable def rSortIt : List V → Hp → VK → Prop := fun vs H Q => ∃ (p a : Addr) (l : List Ent), vs = [.ref p] ∧ H p = some (DX.itemsO p a) ∧ H a = some (.dK (l.map kvE)) ∧ Keys1 l ∧
  ∀ (H' : Hp) (q : Addr) (ws : List V), Ex H H' → H q = none → H' q = some (.lst ws) → Paired (fun v (e : Ent) => ∃ t, v = V.ref t ∧ H t = none ∧ H' t = some (.tup [.int e.1, .str e.2.1])) ws (sortE l) → Q (.ref q) H'
end
end L2

/-! sorted(d) of a dict of numbers, any number of them -/
namespace L2
open PySem PySem.W PySem.Spec PyProof.Rows SrtO TR
section
variable {X : Cx}
noncomputable def rSortN : List V → Hp → VK → Prop := fun vs H Q => ∃ (b : Addr) (l : TR.Row), vs = [.ref b] ∧ H b = some (.dK (l.map kvE)) ∧ ∀ p, H p = none → Q (.ref p) (upd H p (.lst ((TR.sortI (l.map Prod.fst)).map V.int)))
end
end L2
namespace TR
open PySem L2
variable {Z H : Hp} {d : Addr} {l : Row} {Q : VK}
end TR

/-! dicts of numbers and texts, in T -/
namespace TR
open PySem L2
/-- a dict that may be changed -/
structure Dm (Z H : Hp) (D : Addr) (l : Row) : Prop where
  h : H D = some (.dK (l.map kvE))
  zd : Z D = none
  zh : Ex Z H
noncomputable def setE (l : Row) (k : Int) (t : Tx) : Row := if k ∈ l.map Prod.fst then l.map (fun e => if e.1 = k then (e.1, t) else e) else l ++ [(k, t)]
/-! the rules -/
noncomputable def rSI (x : V) (H : Hp) (Q : VK) : Prop := ∃ (d : Addr) (l : Row), x = .ref d ∧ H d = some (.dK (l.map kvE)) ∧ Keys1 l ∧
  ∀ (H' : Hp) (q : Addr) (ws : List V), Ex H H' → H q = none → H' q = some (.lst ws) → Paired (fun v (e : Ent) => ∃ t, v = V.ref t ∧ H t = none ∧ H' t = some (.tup [.int e.1, .str e.2.1])) ws (sortE l) → Q (.ref q) H'
noncomputable def tSI (te : TE) : TE := fun σ H Q => te σ H fun x H1 => rSI x H1 Q
section
variable {K : PySem.W.Frag} {M : List Addr} {Z H Z' H' : Hp} {p a d D : Addr} {l : Row} {k : Int} {t : Tx} {Q : VK}
noncomputable def rDict (K : PySem.W.Frag) : List V → Hp → VK → Prop := fun xs H Q => ∃ (a : Addr) (ps : List Addr) (kvs : List (L2.Key × V)), xs = [.ref a] ∧ SqL K H a (ps.map V.ref) ∧ Paired (fun p kv => SqT K H p [kV kv.1, kv.2]) ps kvs ∧ ∀ p, H p = none → Q (.ref p) (upd H p (.dK (mergeK [] kvs)))
noncomputable def rDictD : List V → Hp → VK → Prop := fun xs H Q => ∃ (a : Addr) (kvs : List (L2.Key × V)), xs = [.ref a] ∧ Rd H a (.dK kvs) ∧ ∀ p, H p = none → Q (.ref p) (upd H p (.dK kvs))
noncomputable def rSortD : List V → Hp → VK → Prop := fun xs H Q => ∃ (a : Addr) (kvs : List (L2.Key × V)) (ks : List Int), xs = [.ref a] ∧ Rd H a (.dK kvs) ∧ kvs.map (·.1) = ks.map Sum.inl ∧ ks.length < 64 ∧ ∀ (ys : List Int) (p : Addr), ys.Perm ks → ys.Pairwise (· ≤ ·) → H p = none → Q (.ref p) (upd H p (.lst (ys.map V.int)))
noncomputable def rLenDm : List V → Hp → VK → Prop := fun xs H Q => ∃ a kvs, xs = [V.ref a] ∧ H a = some (.dK kvs) ∧ Q (.int kvs.length) H
theorem Dm.new (n : H p = none) (z : Ex Z H) : T [] Z H Z (upd H p (.dK (l.map kvE))) ∧ Dm Z (upd H p (.dK (l.map kvE))) p l := by
  have t : T [] Z H Z (upd H p (.dK (l.map kvE))) := T.newM n z
  exact ⟨t, upd_same, Ex.back z n, t.zh⟩
theorem t_dnew (z : Ex Z H) (q : ∀ p Z' H', H p = none → T [] Z H Z' H' → Dm Z' H' p [] → Q (.ref p) H') {σ : L2.St} : tDNewK σ H Q := fun p hp => q p _ _ hp (Dm.new (l := []) hp z).1 (Dm.new (l := []) hp z).2
noncomputable def DGb (x y : V) (H : Hp) (Q : VK) : Prop := ∃ a o, x = .ref a ∧ DGet H a y o ∧ Q (o.getD .non) H
noncomputable def DGa (ty : TE) (σ : L2.St) (x : V) (H1 : Hp) (Q : VK) : Prop := ∃ a, x = .ref a ∧ IsD H1 a ∧ ty σ H1 fun y H2 => ∃ o, DGet H2 a y o ∧ Q (o.getD .non) H2
noncomputable def DIx (x y : V) (H : Hp) (Q : VK) : Prop := ∃ a v, x = .ref a ∧ DGet H a y (some v) ∧ Q v H
noncomputable def DInn (y x : V) (H : Hp) (Q : VK) : Prop := ∃ a o, x = .ref a ∧ DGet H a y o ∧ Q (.bl o.isSome) H
noncomputable def DNin (y x : V) (H : Hp) (Q : VK) : Prop := ∃ a o, x = .ref a ∧ DGet H a y o ∧ Q (.bl (!o.isSome)) H
noncomputable def DPa (ty : TE) (σ : L2.St) (x : V) (H1 : Hp) (Q : VK) : Prop := ∃ a, x = .ref a ∧ IsD H1 a ∧ ty σ H1 fun y H2 => ∃ kvs k v, H2 a = some (.dK kvs) ∧ y = kV k ∧ valV kvs k = some v ∧ Q v (upd H2 a (.dK (dropK kvs k)))
theorem s_din {td ty : TE} {σ : L2.St} (q : ty σ H fun y H1 => td σ H1 fun x H2 => DInn y x H2 Q) : tDIn ty td σ H Q := q
end
end TR
namespace TR
open PySem L2
end TR

/-! mended yards, and the steps that lead there -/
namespace TR
open PySem L2
/-! what a step does, room by room -/
/-- but for one room two yards are alike -/
noncomputable def Else (R : Nat) (y y' : Yard) : Prop := y'.a = y.a ∧ y'.b = y.b ∧ ∀ q, q ≠ R → y'.c.getD q [] = y.c.getD q []
/-! what stands -/
noncomputable def meetE (r : Int) (i : Nat) (acc : Row) (e : Ent) : Row := if roomOf e.1 r = (i : Int) ∧ e.1 ∉ acc.map Prod.fst then acc ++ [e] else acc
noncomputable def standF (r : Int) : Nat → List (List Row) → Row → Row
  | _, [], acc => acc
  | i, X :: c, acc => standF r (i + 1) c (X.flatten.foldl (meetE r i) acc)
noncomputable def standL (y : Yard) : Row := standF y.b 0 (y.c.take y.b.toNat) []
noncomputable def standY (y : Yard) : Row := sortE (standL y)
/-- all that is held -/
noncomputable def allE (c : List (List Row)) : Row := c.flatten.flatten
/-! the steps -/
noncomputable def cutsF (c : List (List Row)) (q : Nat) : List Stp := (((List.range (c.length - q)).map fun j => q + j).filter fun i => decide (c.getD i [] ≠ [])).reverse.map fun (i : Nat) => Stp.cut (i : Int) 0
noncomputable def mendR (d c : List (List Row)) (n : Nat) : List Stp := (List.range n).flatMap fun i => onw i (d.getD i []) (c.getD i [])
noncomputable def mendC (y : Yard) : List (List Row) := cleanC y.a.toNat y.b (standY y)
noncomputable def mendS (y : Yard) : List Stp := mendR (mendC y) y.c y.b.toNat ++ cutsF y.c y.b.toNat
end TR

/-! lists of lists that are told apart: every row is a row of its own -/
namespace TR
open PySem L2
section
variable {K : PySem.W.Frag} {σ : L2.St} {H Z Z0 : Hp} {te : TE} {Q : VK} {g : TG} {vs : List Nat} {α : Type} [Py α]
theorem c_rowsR3 {i j c : Int} {n : Nat} (f : Nat → List α) (zh : Ex Z H) (hr : RgC i j c n) (hz : n ≤ 40000)
    (turn : ∀ k : Nat, k < n → ∀ Z1 H1, T [] Z H Z1 H1 → ∀ A : VK, (∀ w Z3 H3, T [] Z1 H1 Z3 H3 → H1 w = none → RowF Z0 Z3 w (f k) → A (.ref w) H3) → g (.int (i + (k : Nat) * c)) (wipe σ vs) H1 fun σ2 H2 => wipe σ2 vs = wipe σ vs ∧ te σ2 H2 A)
    (fin : ∀ (q : Addr) (ws : List Addr) Z' H', T [] Z H Z' H' → (q :: ws).Nodup → (∀ b ∈ q :: ws, H b = none) → (∀ b ∈ q :: ws, ∃ o, H' b = some o) → Z' q = some (.lst (ws.map V.ref)) → Paired (fun w r => RowF Z0 Z' w r) ws ((List.range n).map f) → Q (.ref q) H') : LcR3 g tYes te vs σ [.int i, .int j, .int c] H Q := by
  refine ⟨i, j, c, n, rfl, hr, lcTN (n := n) (M := []) (Z := Z) (fun _ _ _ => True) (fun i (x : List α) fp y Z1 => x = f i ∧ ∃ w, fp = [w] ∧ y = .ref w ∧ RowF Z0 Z1 w x) (fun i x fp y Z1 Z2 e r => ⟨r.1, by
    obtain ⟨w, r1, r2, us, r3, r4⟩ := r.2
    exact ⟨w, r1, r2, us, e _ _ r3, r4⟩⟩) (fun _ _ _ _ _ _ _ _ => trivial) hz zh (fun _ h => absurd h List.not_mem_nil) trivial
    (fun i Z1 H1 hi t => hi) (fun Z1 H1 t => Nat.le_refl _) (fun k hk D Z1 H1 t nD mu _ v H2 hy A hA => ?_) (fun D ys L Z' H' nD t mu f1 _ hL hY pr nd fr al => ?_)⟩
  · obtain ⟨rfl, rfl⟩ := hy
    refine turn k hk Z1 H2 t A fun w Z3 H3 t3 nw rf => hA (f k) [w] (.ref w) Z3 H3 t3 trivial ⟨rfl, w, rfl, rfl, rf⟩ (List.nodup_cons.mpr ⟨List.not_mem_nil, List.nodup_nil⟩) (fun q hq => by rw [List.mem_singleton.mp hq]; exact nw) (fun q hq => ?_)
    rw [List.mem_singleton.mp hq]
    obtain ⟨vs, r1, _⟩ := rf
    exact ⟨_, t3.zh _ _ r1⟩
  · have eL : L.map Prod.fst = (List.range n).map f := by
      refine List.ext_getElem? fun i => ?_
      rw [List.getElem?_map, List.getElem?_map]
      by_cases c : i < L.length
      · have h1 := pr i (ys[i]'(by omega)) L[i] (List.getElem?_eq_getElem _) (List.getElem?_eq_getElem _)
        rw [List.getElem?_eq_getElem c, List.getElem?_range (by omega)]
        exact congrArg some h1.1
      · rw [List.getElem?_eq_none_iff.mpr (by omega), List.getElem?_eq_none_iff.mpr (by rw [List.length_range]; omega)]
        rfl
    have prL : Paired (fun y q => ∃ w, q.2 = [w] ∧ y = .ref w ∧ RowF Z0 Z' w q.1) ys L := paired_of (by omega) fun i y q h1 h2 => (pr i y q h1 h2).2
    have key : ∃ ws : List Addr, ys = ws.map V.ref ∧ (L.map Prod.snd).flatten = ws ∧ Paired (fun w r => RowF Z0 Z' w r) ws (L.map Prod.fst) := by
      clear f1 hL nd fr al pr hY eL
      induction prL with
      | nil => exact ⟨[], rfl, rfl, .nil⟩
      | cons a t ih =>
        obtain ⟨ws, r1, r2, r3⟩ := ih
        obtain ⟨w, e1, e2, rf⟩ := a
        exact ⟨w :: ws, by rw [e2, r1]; rfl, by rw [List.map_cons, List.flatten_cons, e1, r2]; rfl, .cons rf r3⟩
    obtain ⟨ws, rfl, efl, prw⟩ := key
    rw [eL] at prw
    rw [efl] at nd fr al
    refine t_fzV mu t.zh f1 fun Z2 H2 t2 f2 => fin D ws Z2 H2 (t.step t2 (mm_cons (.inr nD) mm_nil)) nd (fun b hb => ?_) (fun b hb => ?_) f2 (Paired.mapP prw fun w r ⟨vs, g1, g2⟩ => ⟨vs, t2.z _ _ g1, g2⟩)
    · rcases List.mem_cons.mp hb with e | hb
      · rw [e]; exact nD
      · exact fr b hb
    · rcases List.mem_cons.mp hb with e | hb
      · rw [e]; exact ⟨_, t2.zh _ _ f2⟩
      · exact t2.all (al b hb)
end
/-- new rows, all told apart; they stay (Z') until they are let go -/
noncomputable def NewRs (Z0 H Z' H' : Hp) (q : Addr) (ws : List Addr) {α : Type} [Py α] (rows : List (List α)) : Prop :=
  (q :: ws).Nodup ∧ (∀ b ∈ q :: ws, H b = none) ∧ (∀ b ∈ q :: ws, ∃ o, H' b = some o) ∧ Z' q = some (.lst (ws.map V.ref)) ∧ Paired (fun w r => RowF Z0 Z' w r) ws rows
/-- rooms of rows, all told apart -/
structure Y4 (Z H : Hp) (D : Addr) (qs : List Addr) (Fs : List (List Addr)) {α : Type} [Py α] (rss : List (List (List α))) : Prop where
  y : Y3 Z H D qs Fs.flatten rss
  nd : (D :: (qs ++ Fs.flatten)).Nodup
  at_ : Paired (fun f rs => H f.1 = some (.lst (f.2.map V.ref)) ∧ Paired (fun w r => RowO Z H w r) f.2 rs) (qs.zip Fs) rss
  ln : qs.length = Fs.length
section
variable {K : PySem.W.Frag} {σ : L2.St} {H Z Z0 : Hp} {te : TE} {Q : VK} {g : TG} {vs : List Nat} {α β : Type} [Py α] [Py β]
theorem c_roomsY {a : Addr} {xs : List β} (fn : β → List (List α)) (zh : Ex Z H) (e0 : Ex Z0 Z) (h : Ik Z (.ref a) xs) (hz : xs.length ≤ 40000)
    (turn : ∀ v x, x ∈ xs → Ik Z v x → ∀ Z1 H1, T [] Z H Z1 H1 → ∀ A : VK, (∀ (q : Addr) (ws : List Addr) Z3 H3, T [] Z1 H1 Z3 H3 → NewRs Z0 H1 Z3 H3 q ws (fn x) → A (.ref q) H3) →
      g v (wipe σ vs) H1 fun σ2 H2 => wipe σ2 vs = wipe σ vs ∧ te σ2 H2 A)
    (fin : ∀ (D : Addr) (qs : List Addr) (Fs : List (List Addr)) Z' H', T [] Z H Z' H' → Y4 Z' H' D qs Fs (xs.map fn) → (∀ b ∈ D :: (qs ++ Fs.flatten), H b = none) → Q (.ref D) H') : LcL K g tYes te vs σ (.ref a) H Q := by
  obtain ⟨b, us, e, h1, h2⟩ := h.list
  cases e
  have hl := Paired.length h2
  refine ⟨a, rfl, ⟨us, zh.sq (sq_of h1)⟩, lcTN (n := xs.length) (M := []) (Z := Z) (fun _ _ _ => True) (fun i (x : List (List α)) fp y Z1 => (xs.map fn)[i]? = some x ∧ ∃ q ws, fp = q :: ws ∧ y = .ref q ∧ Z1 q = some (.lst (ws.map V.ref)) ∧ Paired (fun w r => RowF Z0 Z1 w r) ws x) (fun i x fp y Z1 Z2 e r => ⟨r.1, by
    obtain ⟨q, ws, r1, r2, r3, r4⟩ := r.2
    exact ⟨q, ws, r1, r2, e _ _ r3, Paired.mapP r4 fun w r ⟨vs, g1, g2⟩ => ⟨vs, e _ _ g1, g2⟩⟩⟩) (fun _ _ _ _ _ _ _ _ => trivial) hz zh (fun _ h => absurd h List.not_mem_nil) trivial
    (fun i Z1 H1 hi t => ⟨us, us[i]'(by omega), (t.z.trans t.zh).sq (sq_of h1), List.getElem?_eq_getElem (by omega)⟩) (fun Z1 H1 t => ⟨us, (t.z.trans t.zh).sq (sq_of h1), by omega⟩) (fun i hi D Z1 H1 t nD mu _ v H2 hy A hA => ?_) (fun D ys L Z' H' nD t mu f1 _ hL hY pr nd fr al => ?_)⟩
  · obtain ⟨rfl, fv⟩ := hy
    have hv := fv _ ((t.z.trans t.zh).sq (sq_of h1))
    obtain ⟨x, hx, ix⟩ := itemK h2 hv
    exact turn v x (List.mem_of_getElem? hx) ix Z1 H2 t A fun q ws Z3 H3 t3 ⟨nd3, fr3, al3, f3, p3⟩ => hA (fn x) (q :: ws) (.ref q) Z3 H3 t3 trivial ⟨by rw [List.getElem?_map, hx]; rfl, q, ws, rfl, rfl, f3, p3⟩ nd3 fr3 al3
  · have eL : L.map Prod.fst = xs.map fn := by
      refine List.ext_getElem? fun i => ?_
      rw [List.getElem?_map]
      by_cases c : i < L.length
      · have h1 := pr i (ys[i]'(by omega)) L[i] (List.getElem?_eq_getElem _) (List.getElem?_eq_getElem _)
        rw [List.getElem?_eq_getElem c, h1.1]
        rfl
      · rw [List.getElem?_eq_none_iff.mpr (by omega), List.getElem?_eq_none_iff.mpr (by rw [List.length_map]; omega)]
        rfl
    have prL : Paired (fun y q => ∃ a ws, q.2 = a :: ws ∧ y = V.ref a ∧ Z' a = some (.lst (ws.map V.ref)) ∧ Paired (fun w r => RowF Z0 Z' w r) ws q.1) ys L := paired_of (by omega) fun i y q h1 h2 => (pr i y q h1 h2).2
    have key : ∃ (qs : List Addr) (F : List (List Addr)), qs.length = F.length ∧ ys = qs.map V.ref ∧ Paired (fun q f => q.2 = f.1 :: f.2) L (qs.zip F) ∧ Paired (fun f r => Z' f.1 = some (.lst (f.2.map V.ref)) ∧ Paired (fun w r => RowF Z0 Z' w r) f.2 r) (qs.zip F) (L.map Prod.fst) := by
      clear f1 hL nd fr al pr hY eL
      induction prL with
      | nil => exact ⟨[], [], rfl, rfl, .nil, .nil⟩
      | cons a t ih =>
        obtain ⟨qs, F, r0, r1, r2, r3⟩ := ih
        obtain ⟨a, ws, e1, e2, e3, e4⟩ := a
        exact ⟨a :: qs, ws :: F, by rw [List.length_cons, r0]; rfl, by rw [e2, r1]; rfl, .cons e1 r2, .cons ⟨e3, e4⟩ r3⟩
    obtain ⟨qs, F, hqF, rfl, pL, pR⟩ := key
    have pm := feet_perm pL hqF
    rw [eL] at pR
    obtain ⟨dD, nd2⟩ := List.nodup_cons.mp nd
    have nd3 := pm.nodup nd2
    have memF : ∀ b ∈ qs ++ F.flatten, b ∈ (L.map Prod.snd).flatten := fun b hb => pm.mem_iff.mpr hb
    have fr' : ∀ b ∈ qs ++ F.flatten, H b = none := fun b hb => fr b (memF b hb)
    have t2 := t.unfz zh fr'
    have e0' : Ex Z0 (offH Z' (qs ++ F.flatten)) := e0.trans t2.z
    have pA : Paired (fun f rs => H' f.1 = some (.lst (f.2.map V.ref)) ∧ Paired (fun w r => RowO (offH Z' (qs ++ F.flatten)) H' w r) f.2 rs) (qs.zip F) (xs.map fn) :=
      Paired.mapP pR fun f rs ⟨g1, g2⟩ => ⟨t.zh _ _ g1, Paired.mapP g2 fun w r ⟨vs, g3, g4⟩ => ⟨vs, t.zh _ _ g3, Paired.mapP g4 fun v x g => Ik.ex e0' g⟩⟩
    refine fin D qs F _ H' t2 ⟨⟨f1, ?_, fun q hq z => ?_, fun q hq => ?_, fun q hq => ?_, t2.zh, ?_⟩, ?_, pA, hqF⟩ fun q hq => ?_
    · exact List.nodup_cons.mpr ⟨fun z => dD (memF D (List.mem_append_left _ z)), (List.nodup_append.mp nd3).1⟩
    · rcases List.mem_cons.mp hq with e | hq
      · exact dD (memF D (List.mem_append_right _ (e ▸ z)))
      · exact (List.nodup_append.mp nd3).2.2 q hq q z rfl
    · rcases List.mem_cons.mp hq with e | hq
      · rw [e, off_some fun z => dD (memF D z)]
        exact mu.z
      · exact off_none hq
    · rcases List.mem_cons.mp hq with e | hq
      · rw [e]; exact mu.a
      · exact al q (memF q hq)
    · have sub : ∀ f ∈ F, ∀ w ∈ f, w ∈ F.flatten := fun f hf w hw => List.mem_flatten.mpr ⟨f, hf, hw⟩
      revert pA
      generalize offH Z' (qs ++ F.flatten) = Z2
      generalize F.flatten = G at sub
      generalize xs.map fn = rss
      intro pA
      clear f1 pL pm nd3 memF fr' t2 e0' eL prL pr nd dD nd2 fr al h1 h2 hl pR
      clear h hz turn fin hL hY
      induction qs generalizing F rss with
      | nil => cases pA; exact .nil
      | cons q qs ih =>
        cases F with
        | nil => cases hqF
        | cons f F =>
          cases pA with
          | cons a t3 => exact .cons ⟨f, a.1, sub f List.mem_cons_self, a.2⟩ (ih (F := F) (by simpa using hqF) (fun f' hf' => sub f' (List.mem_cons_of_mem _ hf')) _ t3)
    · exact List.nodup_cons.mpr ⟨fun z => dD (memF D z), nd3⟩
    · rcases List.mem_cons.mp hq with e | hq
      · rw [e]; exact nD
      · exact fr' q hq
end
section
variable {K : PySem.W.Frag} {H Z : Hp} {D : Addr} {qs : List Addr} {Fs : List (List Addr)} {α : Type} [Py α] {r0 : List α} {rs0 : List (List α)} {rss : List (List (List α))}
end
section
variable {K : PySem.W.Frag} {M : List Addr} {H Z Z0 Z' H' : Hp} {a p D : Addr} {qs : List Addr} {Fs : List (List Addr)} {Q : VK}
theorem Y4.tt0 {α : Type} [Py α] {rss : List (List (List α))} (t : T [] Z H Z' H') (y : Y4 Z H D qs Fs rss) : Y4 Z' H' D qs Fs rss :=
  ⟨y.y.tt0 t, y.nd, Paired.mapP y.at_ fun f rs ⟨h1, h2⟩ => ⟨t.hp nm_nil h1, Paired.mapP h2 fun w r g => g.tt t nm_nil⟩, y.ln⟩
/-- all of it stays, and is a yard -/
theorem Y4.frY {y : Yard} (h : Y4 Z H D qs Fs y.c) (f : Z p = some (.tup [.int y.a, .int y.b, .ref D])) : ∃ Z' H', H' = H ∧ T (D :: (qs ++ Fs.flatten)) Z H Z' H' ∧ Ik Z' (.ref p) y := by
  obtain ⟨Z', H', e, t, ls⟩ := h.y.frq
  exact ⟨Z', H', e, t, Ik.three (t.z _ _ f) (Ik.int _) (Ik.int _) ls.is⟩
theorem t_sortedE0 {l : Row} (z : Ex Z H) (e0 : Ex Z0 Z) (h : Ik Z0 (.ref a) l) (k : OneK l) (q : ∀ p ws Z' H', H p = none → T [] Z H Z' H' → Z' p = some (.lst ws) → Paired (fun v x => Ik Z0 v x) ws (sortE l) → Q (.ref p) H') : rSortedPS K [.ref a] H Q := by
  obtain ⟨b, us, e, h1, h2⟩ := h.list
  cases e
  refine n_sortedEF ((e0.trans z).sq (sq_of h1)) (Paired.mapP h2 fun v x g => (Ik.ex (e0.trans z) g).is) k fun p ws H' n e f pr => ?_
  have t : T [] Z H (grow Z H H') H' := T.grow z (z.trans e) (fun _ _ _ h => e _ _ h) fun _ o h => ⟨o, e _ _ h⟩
  exact q p ws _ H' n t (grow_new z n f) (pr _ h2)
end
/-! for over a range that goes down -/
section
variable {σ : L2.St} {H : Hp} {D : Ends} {g : TG} {ts : TS}
noncomputable def ForR3 (g : TG) (tb : TS) (D : Ends) (σ : L2.St) (vs : List V) (H1 : Hp) : Prop := ∃ (i j c : Int) (n : Nat), vs = [.int i, .int j, .int c] ∧ RgC i j c n ∧ ForJ g tb D σ (Itc i c n) H1
end
noncomputable abbrev YB (y : Yard) : Prop := 1 ≤ y.a ∧ y.a ≤ 1000 ∧ 1 ≤ y.b ∧ y.b ≤ 1000 ∧ y.c.length ≤ 10000 ∧ (∀ rs ∈ y.c, rs.length ≤ 10000) ∧ (allE y.c).length ≤ 39000
/-- how many steps a mending has -/
theorem cutE_le {w : Nat} (hw : 0 < w) (l : Row) : (cutE w l).length ≤ l.length + 1 := by
  rw [cutE_len hw]
  have := Nat.div_le_self (l.length - 1) w
  omega
section
variable {K : PySem.W.Frag} {H Z : Hp} {Q : VK} {l D : Addr} {v : V} {α : Type} [Py α] {x : α}
end
/-! a clean yard stands as it is -/
end TR

/-! changes by their names -/
namespace TR
open PySem L2
noncomputable def tSplit : Tx := ⟨"split", by decide +kernel⟩
noncomputable def tJoin : Tx := ⟨"join", by decide +kernel⟩
noncomputable def tPut : Tx := ⟨"put", by decide +kernel⟩
noncomputable def tDrop : Tx := ⟨"drop", by decide +kernel⟩
noncomputable def tRoom : Tx := ⟨"room", by decide +kernel⟩
noncomputable def tLack : Tx := ⟨"lacking", by decide +kernel⟩
noncomputable def tTold : Tx := ⟨"told", by decide +kernel⟩
noncomputable def tNone : Tx := ⟨"", by decide +kernel⟩
noncomputable def okC (r : Int) (es : Row) (way : Str) (k : Int) : Prop := ¬ (way = "join" ∧ r = 1) ∧ ¬ (way = "drop" ∧ k ∉ es.map Prod.fst)
noncomputable def WayS (way : Str) : Prop := way = "split" ∨ way = "join" ∨ way = "drop" ∨ way = "put"
noncomputable def chS (y : Yard) (way : Str) (k : Int) (t : Tx) : List Stp := if way = "split" then splitS y else if way = "join" then joinS y else if way = "drop" then dropS y k else putS y k t
noncomputable def rN (r : Int) (way : Str) : Int := if way = "split" then r + 1 else if way = "join" then r - 1 else r
noncomputable def esN (es : Row) (way : Str) (k : Int) (t : Tx) : Row := if way = "drop" then outE es k else if way = "put" then putE es k t else es
section
variable {r k : Int} {es : Row}
end
/-! a display of two pairs -/
noncomputable def Disp2 (p : Addr) (x1 y1 x2 y2 : V) (H : Hp) (Q : VK) : Prop := H p = some (.dK []) ∧ ∃ kvs : List (L2.Key × V), [(x1, y1), (x2, y2)] = kvs.map (fun kv => (kV kv.1, kv.2)) ∧ kvs.length ≤ 15 ∧ Q (.ref p) (upd H p (.dK (mergeK [] kvs)))
end TR

/-! len(set(xs)): how many unlike ones; whether a yard is clean -/
namespace TR
open PySem L2 PySem.Spec PyProof.Rows
noncomputable def unlike (ns : List Int) : Nat := (PyProof.Rows.firstMet (fun i => ns.getD i 0) ns.length).length
noncomputable def tLenSetA (K : PySem.W.Frag) (ta : TE) : TE := fun σ H Q => ta σ H fun x H1 => ∃ (l : Addr) (ns : List Int), x = .ref l ∧ SqL K H1 l (ns.map V.int) ∧ ns.length ≤ 4000 ∧ Q (.int (unlike ns : Nat)) H1
/-- the clean yard of what it holds -/
noncomputable def CleanP (y : Yard) : Prop := Keys1 (allE y.c) ∧ y = cleanY y.a y.b (allE y.c)
end TR

/-! a comprehension over a dict's keys -/
namespace TR
open PySem L2
section
variable {K : PySem.W.Frag} {σ : L2.St} {Z H : Hp} {tt : TT} {te td : TE} {Q : VK} {g : TG} {vs : List Nat} {d : Addr} {l : Row}
noncomputable def keepAt (l : Row) (p : Ent → Bool) (i : Nat) : Bool := ((l[i]?).map p).getD false
end
end TR

/-! how many rooms so many keys ask -/
namespace TR
noncomputable def roomsFor (c f : Int) : Int := max 1 (-((-c) / f))
end TR

namespace TR
/-- keys told apart by their rooms, each room's in their order -/
noncomputable def spl (l : List Int) (n : Int) : List (List Int) := (List.range n.toNat).map fun (r : Nat) => l.filter fun x => decide (roomOf x n = (r : Int))
end TR

/-! tables: what an instance of Table is, in T -/
namespace TR
open PySem L2
/-- a value's kind -/
inductive KindV (K : PySem.W.Frag) (H : Hp) : V → String → Prop
  | int (i : Int) : KindV K H (.int i) "int"
  | bl (b : Bool) : KindV K H (.bl b) "bool"
  | str (x : Str) (h : x.length ≤ 100000) : KindV K H (.str x) "str"
  | non : KindV K H .non "NoneType"
  | lst {a : Addr} {xs : List V} (h : SqL K H a xs) : KindV K H (.ref a) "list"
  | tup {a : Addr} {xs : List V} (h : SqT K H a xs) : KindV K H (.ref a) "tuple"
  | dct {a : Addr} {l : List (L2.Key × V)} (h : H a = some (.dK l)) : KindV K H (.ref a) "dict"
theorem s_isiDk {K : PySem.W.Frag} {H : Hp} {Q : VK} {n : String} {a : Addr} {l : List (L2.Key × V)} {b : Bool} (hs : H a = some (.dK l)) (h : kitB "dict" n = some b) (q : Q (.bl b) H) : rIsi K [.ref a, .ty n] H Q := ⟨.ref a, .ty n, _, _, b, rfl, .ty n, .base (.dK hs), kit_ty h, q⟩
theorem k_di : kitB "dict" "int" = some false := by decide +kernel
theorem k_ds : kitB "dict" "str" = some false := by decide +kernel
noncomputable def rListDm : List V → Hp → VK → Prop := fun xs H Q => ∃ p kvs, xs = [.ref p] ∧ H p = some (.dK kvs) ∧ ∀ q, H q = none → Q (.ref q) (upd H q (.lst (kvs.map fun kv => kV kv.1)))
noncomputable def wholeV : V → Bool
  | .int _ => true
  | _ => false
noncomputable def keyV : V → Bool
  | .int i => decide (0 ≤ i ∧ i < 1152921504606846976)
  | _ => false
noncomputable def sizeV : V → Bool
  | .int i => decide (1 ≤ i ∧ i ≤ 8)
  | _ => false
noncomputable def nameV : V → Bool
  | .str x => nameB x
  | _ => false
section
variable {K : PySem.W.Frag} {Z H Z' H' : Hp} {M : List Addr} {v : V} {n : String}
theorem KindV.ex (h : KindV K H v n) (e : Ex H H') : KindV K H' v n := by
  cases h with
  | int i => exact .int i
  | bl b => exact .bl b
  | str x h => exact .str x h
  | non => exact .non
  | lst h => exact .lst (e.sq h)
  | tup h => exact .tup (e.st h)
  | dct h => exact .dct (e _ _ h)
theorem KindV.cases' {motive : Prop} (h : KindV K H v n) (int : ∀ i, v = .int i → motive) (other : wholeV v = false → motive) : motive := by
  cases h with
  | int i => exact int i rfl
  | bl b => exact other rfl
  | str x h => exact other rfl
  | non => exact other rfl
  | lst h => exact other rfl
  | tup h => exact other rfl
  | dct h => exact other rfl
end
theorem keyV_no {v : V} (h : wholeV v = false) : keyV v = false := by
  cases v <;> first | rfl | cases h
theorem sizeV_no {v : V} (h : wholeV v = false) : sizeV v = false := by
  cases v <;> first | rfl | cases h
/-- the attributes of a table -/
noncomputable def tfs (w f : V) (D : Addr) : List (Str × V) := [("wide", w), ("fill", f), ("things", .ref D)]
structure Tb (K : PySem.W.Frag) (Z H : Hp) (a D : Addr) (w f : Int) (l : Row) : Prop where
  at_ : ∃ dx, Z a = some (.ins (clsA K "Table") dx (tfs (.int w) (.int f) D))
  dm : Dm Z H D l
  k1 : Keys1 l
  w0 : 1 ≤ w ∧ w ≤ 8
  f0 : 1 ≤ f ∧ f ≤ 8
  le : l.length ≤ 64
  ks : ∀ e ∈ l, 0 ≤ e.1 ∧ e.1 < 1152921504606846976
/-- how many rooms a table has | a room's keys -/
noncomputable def roomsT (f : Int) (l : Row) : Int := roomsFor (l.length : Int) f
noncomputable def keysT_ (f : Int) (l : Row) (r : Int) : List Int := sortI ((l.filter fun e => decide (roomOf e.1 (roomsT f l) = r)).map Prod.fst)
section
variable {K : PySem.W.Frag} {Z H Z' H' : Hp} {M : List Addr} {a D p : Addr} {w f : Int} {l : Row} {Q : VK} {E : XK}
/-! promises -/
noncomputable def spTCount (K : PySem.W.Frag) : Sp := fun vs H Q _ => ∃ (a D : Addr) (w f : Int) (l : Row) (Z : Hp), vs = [.ref a] ∧ Tb K Z H a D w f l ∧ Q (.int (l.length : Int)) H
noncomputable def spTRooms (K : PySem.W.Frag) : Sp := fun vs H Q _ => ∃ (a D : Addr) (w f : Int) (l : Row) (Z : Hp), vs = [.ref a] ∧ Tb K Z H a D w f l ∧ Q (.int (roomsT f l)) H
noncomputable def spTKeysIn (K : PySem.W.Frag) : Sp := fun vs H Q _ => ∃ (a D : Addr) (w f r : Int) (l : Row) (Z : Hp), vs = [.ref a, .int r] ∧ Tb K Z H a D w f l ∧ ∀ p Z' H', H p = none → T [D] Z H Z' H' → Tb K Z' H' a D w f l → Lm Z' H' p (keysT_ f l r) → Q (.ref p) H'
noncomputable def spTEntries (K : PySem.W.Frag) : Sp := fun vs H Q _ => ∃ (a D : Addr) (w f : Int) (l : Row) (Z : Hp), vs = [.ref a] ∧ Tb K Z H a D w f l ∧ ∀ p Z' H', H p = none → T [] Z H Z' H' → Lm Z' H' p (sortE l) → Q (.ref p) H'
noncomputable def spTCounts (K : PySem.W.Frag) : Sp := fun vs H Q _ => ∃ (a D : Addr) (w f : Int) (l : Row) (Z : Hp), vs = [.ref a] ∧ Tb K Z H a D w f l ∧ ∀ p Z' H', H p = none → T [] Z H Z' H' → Ls Z' p ((spl (sortI (l.map Prod.fst)) (roomsT f l)).map fun r => (r.length : Int)) → Q (.ref p) H'
noncomputable def spTSpill (K : PySem.W.Frag) : Sp := fun vs H Q _ => ∃ (a D : Addr) (w f : Int) (l : Row) (Z : Hp), vs = [.ref a] ∧ Tb K Z H a D w f l ∧ ∀ Z' H', T [] Z H Z' H' → Q (.int (spillI ((spl (sortI (l.map Prod.fst)) (roomsT f l)).map fun r => (r.length : Int)) w)) H'
/-- the most rows of a room, the first such room -/
noncomputable def longI (ns : List Int) (w m : Int) (j : Nat) : Prop := m = maxI (ns.map fun m => rowsI m w) ∧ (ns.map fun m => rowsI m w)[j]? = some m ∧ ∀ i, i < j → (ns.map fun m => rowsI m w)[i]? ≠ some m
noncomputable def spTLongest (K : PySem.W.Frag) : Sp := fun vs H Q _ => ∃ (a D : Addr) (w f : Int) (l : Row) (Z : Hp), vs = [.ref a] ∧ Tb K Z H a D w f l ∧ ∀ p m j Z' H', H p = none → T [] Z H Z' H' → longI ((spl (sortI (l.map Prod.fst)) (roomsT f l)).map fun r => (r.length : Int)) w m j → Z' p = some (.tup [.int m, .int (j : Nat)]) → Q (.ref p) H'
/-- what a put tells -/
noncomputable def PutTold (Z H Z' H' : Hp) (f : Int) (l l' : Row) (r : V) : Prop :=
  if roomsT f l' = roomsT f l then r = .non else ∃ p c, r = .ref p ∧ H p = none ∧ H c = none ∧ Z' p = some (.tup [.int (roomsT f l - whole (roomsT f l)), .int (roomsT f l), .ref c]) ∧ Lm Z' H' c (keysT_ f l' (roomsT f l))
noncomputable def spTPut (K : PySem.W.Frag) : Sp := fun vs H Q E => ∃ (a D : Addr) (w f : Int) (l : Row) (Z : Hp) (v t : V) (n m : String), vs = [.ref a, v, t] ∧ Tb K Z H a D w f l ∧ KindV K H v n ∧ KindV K H t m ∧
  (keyV v = false → ∀ d, H d = none → E (.ref (clsA K "NoKey")) (some d) (upd H d (.xd [("key", v)]))) ∧
  (keyV v = true → nameV t = false → ∀ d, H d = none → E (.ref (clsA K "NoThing")) (some d) (upd H d (.xd [("thing", t)]))) ∧
  ∀ k x, v = .int k → t = .str x.1 → keyV v = true → nameV t = true →
    (k ∉ l.map Prod.fst → l.length = 64 → ∀ d, H d = none → E (.ref (clsA K "Full")) (some d) (upd H d (.xd [("many", .int 64)]))) ∧
    ((k ∈ l.map Prod.fst ∨ l.length < 64) → ∀ r Z' H', T [D] Z H Z' H' → Tb K Z' H' a D w f (setE l k x) → PutTold Z H Z' H' f l (setE l k x) r → Q r H')
end
end TR
namespace TR
open PySem L2
section
variable {K : PySem.W.Frag} {Z H Z' H' : Hp} {M : List Addr} {a d p : Addr} {l : Row} {Q : VK}
end
end TR
namespace TR
open PySem L2
end TR

namespace TR
open PySem L2
/-- a room's rows of entries -/
noncomputable def entOf (l : Row) (k : Int) : Ent := (k, (thingOf l k).getD ⟨"", by decide +kernel⟩)
noncomputable def rowsE (w f : Int) (l : Row) (r : Int) : List Row := (rowsOf (keysT_ f l r) w).map fun ks => ks.map (entOf l)
noncomputable def spTRoom (K : PySem.W.Frag) : Sp := fun vs H Q E => ∃ (a D : Addr) (w f : Int) (l : Row) (Z : Hp) (v : V) (n : String), vs = [.ref a, v] ∧ Tb K Z H a D w f l ∧ KindV K H v n ∧
  ((∀ r, v = .int r → ¬ (0 ≤ r ∧ r < roomsT f l)) → ∀ d, H d = none → E (.ref (clsA K "NoRoom")) (some d) (upd H d (.xd [("number", v)]))) ∧
  ∀ r, v = .int r → 0 ≤ r ∧ r < roomsT f l → ∀ (p : Addr) (ws : List Addr) Z' H', T [D] Z H Z' H' → Tb K Z' H' a D w f l → (p :: ws).Nodup → (∀ b ∈ p :: ws, H b = none) → Z' p = some (.lst (ws.map V.ref)) → Paired (fun x rw => Ls Z' x rw) ws (rowsE w f l r) → Q (.ref p) H'
noncomputable def spTTwin (K : PySem.W.Frag) : Sp := fun vs H Q _ => ∃ (a D : Addr) (w f : Int) (l : Row) (Z : Hp), vs = [.ref a] ∧ Tb K Z H a D w f l ∧ ∀ b D2 Z' H', H b = none → H D2 = none → T [] Z H Z' H' → Tb K Z' H' b D2 w f l → Q (.ref b) H'
noncomputable def spTInit (K : PySem.W.Frag) : Sp := fun vs H Q E => ∃ (a dx : Addr) (v u : V) (n m : String), vs = [.ref a, v, u] ∧ H a = some (.ins (clsA K "Table") dx []) ∧ KindV K H v n ∧ KindV K H u m ∧
  (sizeV v = true → sizeV u = true → ∀ D H', H D = none → (∀ b o, b ≠ a → H b = some o → H' b = some o) → H' a = some (.ins (clsA K "Table") dx (tfs v u D)) → H' D = some (.dK []) → Q .non H') ∧
  (sizeV v = false → ∀ H' d, Ex H H' → H' d = none → E (.ref (clsA K "NoSize")) (some d) (upd H' d (.xd [("thing", v)]))) ∧
  (sizeV v = true → sizeV u = false → ∀ H' d, Ex H H' → H' d = none → E (.ref (clsA K "NoSize")) (some d) (upd H' d (.xd [("thing", u)])))
end TR
namespace TR
open PySem L2
end TR

/-! keepers: a yard, and the steps that are left -/
namespace TR
open PySem L2
noncomputable def kfs (w f : Int) (u : V) (P : Addr) : List (Str × V) := [("wide", .int w), ("fill", .int f), ("now", u), ("waiting", .ref P)]
structure Kp (K : PySem.W.Frag) (Z H : Hp) (a P : Addr) (w f : Int) (y : Yard) (ss : List Stp) : Prop where
  ob : ∃ dx u, H a = some (.ins (clsA K "Keeper") dx (kfs w f u P)) ∧ Ik Z u y
  wl : Lm Z H P ss
  za : Z a = none
  na : a ≠ P
  w0 : 1 ≤ w ∧ w ≤ 8
  f0 : 1 ≤ f ∧ f ≤ 8
  ya : y.a = w
section
variable {K : PySem.W.Frag} {Z H Z' H' : Hp} {M : List Addr} {a P : Addr} {w f : Int} {y : Yard} {ss : List Stp}
end
/-- how many rooms there have to be -/
noncomputable def wantK (f : Int) (y : Yard) : Int := roomsFor ((standY y).length : Int) f
noncomputable def SettledP (f : Int) (y : Yard) (ss : List Stp) : Prop := ss = [] ∧ CleanP y ∧ y.b = wantK f y
/-- rooms more or fewer, one by one -/
noncomputable def growN (w want : Int) (es : Row) : Nat → Int → List Stp
  | 0, _ => []
  | n + 1, r => if want < r then joinS (cleanY w r es) ++ growN w want es n (r - 1) else splitS (cleanY w r es) ++ growN w want es n (r + 1)
noncomputable def growS (w f : Int) (es : Row) (r : Int) : List Stp := growN w (roomsFor (es.length : Int) f) es (r - roomsFor (es.length : Int) f).natAbs r
noncomputable def spKInit (K : PySem.W.Frag) : Sp := fun vs H Q E => ∃ (a dx : Addr) (v u : V) (n m : String) (Z : Hp), vs = [.ref a, v, u] ∧ H a = some (.ins (clsA K "Keeper") dx []) ∧ Ex Z H ∧ Z a = none ∧ KindV K H v n ∧ KindV K H u m ∧
  (∀ w f, v = .int w → u = .int f → 1 ≤ w ∧ w ≤ 8 → 1 ≤ f ∧ f ≤ 8 → ∀ P Z' H', T [a] Z H Z' H' → H P = none → Kp K Z' H' a P w f (cleanY w 1 []) [] → Q .non H') ∧
  (sizeV v = false → ∀ H' d, Ex H H' → H' d = none → E (.ref (clsA K "NoSize")) (some d) (upd H' d (.xd [("thing", v)]))) ∧
  (sizeV v = true → sizeV u = false → ∀ H' d, Ex H H' → H' d = none → E (.ref (clsA K "NoSize")) (some d) (upd H' d (.xd [("thing", u)])))
noncomputable def spKWanted (K : PySem.W.Frag) : Sp := fun vs H Q _ => ∃ (a P : Addr) (w f : Int) (y0 : Yard) (ss : List Stp) (Z : Hp) (v : V) (y : Yard), vs = [.ref a, v] ∧ Kp K Z H a P w f y0 ss ∧ Ik Z v y ∧ YB y ∧
  ∀ Z' H', T [] Z H Z' H' → Q (.int (wantK f y)) H'
noncomputable def spKSettled (K : PySem.W.Frag) : Sp := fun vs H Q _ => ∃ (a P : Addr) (w f : Int) (y : Yard) (ss : List Stp) (Z : Hp), vs = [.ref a] ∧ Kp K Z H a P w f y ss ∧ YB y ∧ (allE y.c).length ≤ 4000 ∧
  ∀ (b : Bool) Z' H', (b = true ↔ SettledP f y ss) → T [] Z H Z' H' → Q (.bl b) H'
noncomputable def spKNeed (K : PySem.W.Frag) : Sp := fun vs H Q E => ∃ (a P : Addr) (w f : Int) (y : Yard) (ss : List Stp) (Z : Hp), vs = [.ref a] ∧ Kp K Z H a P w f y ss ∧ YB y ∧ (allE y.c).length ≤ 4000 ∧
  (SettledP f y ss → ∀ Z' H', T [] Z H Z' H' → Q .non H') ∧ (¬ SettledP f y ss → ∀ Z' H', T [] Z H Z' H' → E (.ref (clsA K "Busy")) none H')
noncomputable def spKBegin (K : PySem.W.Frag) : Sp := fun vs H Q _ => ∃ (a P : Addr) (w f : Int) (y : Yard) (ss : List Stp) (Z : Hp) (sv : V) (st : List Stp) (r : Int) (es : Row), vs = [.ref a, sv] ∧ Kp K Z H a P w f y ss ∧ Ik Z sv st ∧ YLen y ∧ (∀ s ∈ st, StpOk s) ∧ st.length ≤ 40000 ∧
  st.foldl doneY y = cleanY w r es ∧ Keys1 es ∧ es.length ≤ 100 ∧ 1 ≤ r ∧ r ≤ 130 ∧
  ∀ P' Z' H', T [a] Z H Z' H' → H P' = none → Kp K Z' H' a P' w f y (st ++ growS w f es r) → Q (.int ((st ++ growS w f es r).length : Int)) H'
end TR
namespace TR
open PySem L2
noncomputable def spKEntries (K : PySem.W.Frag) : Sp := fun vs H Q _ => ∃ (a P : Addr) (w f : Int) (y : Yard) (ss : List Stp) (Z : Hp), vs = [.ref a] ∧ Kp K Z H a P w f y ss ∧ YB y ∧
  ∀ D Z' H', T [] Z H Z' H' → Ls Z' D (standY y) → Q (.ref D) H'
noncomputable def spKYard (K : PySem.W.Frag) : Sp := fun vs H Q _ => ∃ (a P : Addr) (w f : Int) (y : Yard) (ss : List Stp) (Z : Hp), vs = [.ref a] ∧ Kp K Z H a P w f y ss ∧ YLen y ∧
  ∀ (p D : Addr) (qs F : List Addr) Z' H', T [] Z H Z' H' → Z' p = some (.tup [.int y.a, .int y.b, .ref D]) → Y3 Z' H' D qs F y.c → (∀ b ∈ D :: (qs ++ F), H b = none) → Q (.ref p) H'
/-- stop | run -/
noncomputable def spKStop (K : PySem.W.Frag) : Sp := fun vs H Q _ => ∃ (a P : Addr) (w f : Int) (y : Yard) (ss : List Stp) (Z : Hp), vs = [.ref a] ∧ Kp K Z H a P w f y ss ∧
  ∀ P' Z' H', T [a] Z H Z' H' → H P' = none → Kp K Z' H' a P' w f y [] → Q (.int (ss.length : Int)) H'
noncomputable def spKRun (K : PySem.W.Frag) : Sp := fun vs H Q _ => ∃ (a P : Addr) (w f : Int) (y : Yard) (ss : List Stp) (Z : Hp), vs = [.ref a] ∧ Kp K Z H a P w f y ss ∧ YLen y ∧ (∀ s ∈ ss, StpOk s) ∧
  ∀ P' Z' H', T [a, P] Z H Z' H' → H P' = none → Kp K Z' H' a P' w f (ss.foldl doneY y) [] → Q (.int (ss.length : Int)) H'
/-- a told step: its row is the asker's own -/
noncomputable def ToldS (Z H : Hp) (v : V) : Stp → Prop
  | .row r b w => ∃ p q, v = .ref p ∧ Z p = some (.tup [.str "row", .int r, .int b, .ref q]) ∧ Lm Z H q w
  | s => Ik Z v s
/-- the rows that the asker may change -/
noncomputable def toldA : V → Hp → List Addr
  | .ref p, Z => match Z p with | some (.tup [.str _, .int _, .int _, .ref q]) => [q] | _ => []
  | _, _ => []
noncomputable def spToldStep (K : PySem.W.Frag) : Sp := fun vs H Q _ => ∃ (v : V) (Z Z0 : Hp) (s : Stp), vs = [v] ∧ Ex Z H ∧ Ex Z0 Z ∧ Ik Z0 v s ∧
  (∀ r b w, s = .row r b w → ∀ p q Z' H', T [] Z H Z' H' → H q = none → Z' p = some (.tup [.str "row", .int r, .int b, .ref q]) → Mu Z' H' q → RowF Z0 H' q w → Q (.ref p) H') ∧
  ((∀ r b w, s ≠ .row r b w) → Q v H)
end TR
namespace TR
open PySem L2
noncomputable def ToldV (H Z' H' : Hp) (v : V) : Stp → Prop
  | .row r b w => ∃ p q, v = .ref p ∧ Z' p = some (.tup [.str "row", .int r, .int b, .ref q]) ∧ Lm Z' H' q w ∧ H q = none
  | s => Ik Z' v s
noncomputable def spKStep (K : PySem.W.Frag) : Sp := fun vs H Q _ => ∃ (a P : Addr) (w f : Int) (y : Yard) (ss : List Stp) (Z : Hp), vs = [.ref a] ∧ Kp K Z H a P w f y ss ∧ YLen y ∧ (∀ s ∈ ss, StpOk s) ∧ ss.length ≤ 90000 ∧
  (ss = [] → ∀ Z' H', T [] Z H Z' H' → Q .non H') ∧
  (∀ s ss', ss = s :: ss' → ∀ v Z' H', T [a, P] Z H Z' H' → Kp K Z' H' a P w f (doneY y s) ss' → ToldV H Z' H' v s → Q v H')
noncomputable def spKMend (K : PySem.W.Frag) : Sp := fun vs H Q E => ∃ (a P : Addr) (w f : Int) (y : Yard) (ss : List Stp) (Z : Hp), vs = [.ref a] ∧ Kp K Z H a P w f y ss ∧ YB y ∧ (allE y.c).length ≤ 9000 ∧ trimR y.c = y.c ∧ (standY y).length ≤ 100 ∧ y.b ≤ 130 ∧ y.a ≤ 8 ∧
  (ss ≠ [] → ∀ Z' H', T [] Z H Z' H' → E (.ref (clsA K "Busy")) none H') ∧
  (ss = [] → ∀ P' Z' H', T [a] Z H Z' H' → H P' = none → Kp K Z' H' a P' w f y (mendS y ++ growS w f (standY y) y.b) → Q (.int ((mendS y ++ growS w f (standY y) y.b).length : Int)) H')
noncomputable def dropKS (f : Int) (y : Yard) (k : Int) : List Stp := dropS y k ++ growS y.a f (outE (standY y) k) y.b
noncomputable def putKS (f : Int) (y : Yard) (k : Int) (t : Tx) : List Stp := putS y k t ++ growS y.a f (putE (standY y) k t) y.b
noncomputable def spKDrop (K : PySem.W.Frag) : Sp := fun vs H Q E => ∃ (a P : Addr) (w f : Int) (y : Yard) (ss : List Stp) (Z : Hp) (v : V) (n : String), vs = [.ref a, v] ∧ Kp K Z H a P w f y ss ∧ YB y ∧ (allE y.c).length ≤ 4000 ∧ (standY y).length ≤ 64 ∧ y.b ≤ 130 ∧ KindV K H v n ∧
  (keyV v = false → ∀ d, H d = none → E (.ref (clsA K "NoKey")) (some d) (upd H d (.xd [("key", v)]))) ∧
  ∀ k, v = .int k → keyV v = true →
    (¬ SettledP f y ss → ∀ Z' H', T [] Z H Z' H' → E (.ref (clsA K "Busy")) none H') ∧
    (SettledP f y ss → k ∉ (standY y).map Prod.fst → ∀ d Z' H', T [] Z H Z' H' → H' d = none → E (.ref (clsA K "Lacking")) (some d) (upd H' d (.xd [("key", .int k)]))) ∧
    (SettledP f y ss → k ∈ (standY y).map Prod.fst → ∀ P' Z' H', T [a] Z H Z' H' → H P' = none → Kp K Z' H' a P' w f y (dropKS f y k) → Q (.int ((dropKS f y k).length : Int)) H')
noncomputable def spKPut (K : PySem.W.Frag) : Sp := fun vs H Q E => ∃ (a P : Addr) (w f : Int) (y : Yard) (ss : List Stp) (Z : Hp) (v t : V) (n m : String), vs = [.ref a, v, t] ∧ Kp K Z H a P w f y ss ∧ YB y ∧ (allE y.c).length ≤ 4000 ∧ (standY y).length ≤ 64 ∧ y.b ≤ 130 ∧ KindV K H v n ∧ KindV K H t m ∧
  (keyV v = false → ∀ d, H d = none → E (.ref (clsA K "NoKey")) (some d) (upd H d (.xd [("key", v)]))) ∧
  (keyV v = true → nameV t = false → ∀ d, H d = none → E (.ref (clsA K "NoThing")) (some d) (upd H d (.xd [("thing", t)]))) ∧
  ∀ k x, v = .int k → t = .str x.1 → keyV v = true → nameV t = true →
    (¬ SettledP f y ss → ∀ Z' H', T [] Z H Z' H' → E (.ref (clsA K "Busy")) none H') ∧
    (SettledP f y ss → k ∉ (standY y).map Prod.fst → (standY y).length = 64 → ∀ d Z' H', T [] Z H Z' H' → H' d = none → E (.ref (clsA K "Full")) (some d) (upd H' d (.xd [("many", .int 64)]))) ∧
    (SettledP f y ss → (k ∈ (standY y).map Prod.fst ∨ (standY y).length < 64) → ∀ P' Z' H', T [a] Z H Z' H' → H P' = none → Kp K Z' H' a P' w f y (putKS f y k x) → Q (.int ((putKS f y k x).length : Int)) H')
end TR
namespace TR
open PySem L2
section
variable {K : PySem.W.Frag} {Z H Z' H' : Hp} {a P P' : Addr} {w f : Int} {y y' : Yard} {ss ss' : List Stp} {v : V} {R : Hp → Prop}
end
end TR
namespace TR
open PySem L2
end TR
namespace TR
open PySem L2
theorem size_intK {v : V} (h : sizeV v = true) : ∃ w, v = .int w ∧ 1 ≤ w ∧ w ≤ 8 := by
  cases v <;> first | cases h | skip
  exact ⟨_, rfl, of_decide_eq_true h⟩
end TR
namespace TR
open PySem L2
end TR
namespace TR
open PySem L2
noncomputable def spKFind (K : PySem.W.Frag) : Sp := fun vs H Q E => ∃ (a P : Addr) (w f : Int) (y : Yard) (ss : List Stp) (Z : Hp) (v : V) (n : String), vs = [.ref a, v] ∧ Kp K Z H a P w f y ss ∧ YardOk y ∧ KindV K H v n ∧
  (keyV v = false → ∀ d, H d = none → E (.ref (clsA K "NoKey")) (some d) (upd H d (.xd [("key", v)]))) ∧
  ∀ k, v = .int k → keyV v = true →
    (fY y k = none → ∀ d Z' H', T [] Z H Z' H' → H' d = none → E (.ref (clsA K "Lacking")) (some d) (upd H' d (.xd [("key", .int k)]))) ∧
    (∀ x, fY y k = some x → ∀ p Z' H', T [] Z H Z' H' → H p = none → Z' p = some (.tup [.str x.1, .int (foundI y k).2]) → Q (.ref p) H')
end TR

/-! what is due of a settled keeper -/
namespace TR
open PySem L2
end TR
namespace TR
open PySem L2
/-- all the stops of a keeper's steps are small yards -/
structure FitK (y : Yard) (ss : List Stp) : Prop where
  yb : ∀ m, YB ((ss.take m).foldl doneY y) ∧ (allE ((ss.take m).foldl doneY y).c).length ≤ 4000
  ok : ∀ s ∈ ss, StpOk s
  ln : ss.length ≤ 39000
end TR
namespace TR
open PySem L2
theorem t_keeperX {K : PySem.W.Frag} {Z H : Hp} {Q : VK} {E : XK} {v u : V} {n m : String} (z : Ex Z H) (kv : KindV K H v n) (ku : KindV K H u m)
    (good : ∀ w f, v = .int w → u = .int f → 1 ≤ w ∧ w ≤ 8 → 1 ≤ f ∧ f ≤ 8 → ∀ a P Z' H', H a = none → H P = none → T [] Z H Z' H' → Kp K Z' H' a P w f (cleanY w 1 []) [] → Q (.ref a) H')
    (bad : ∀ o, (sizeV v = false ∧ o = v ∨ sizeV v = true ∧ sizeV u = false ∧ o = u) → ∀ H' d, Ex H H' → H' d = none → E (.ref (clsA K "NoSize")) (some d) (upd H' d (.xd [("thing", o)]))) : MkP' (clsA K "Keeper") (spKInit K) E [v, u] H Q := by
  intro x dx nx ndx hne
  have e2 : Ex H (upd (upd H dx (.own x)) x (.ins (clsA K "Keeper") dx [])) := fun b c hb => by
    have b1 : b ≠ x := fun e => by rw [e, nx] at hb; cases hb
    have b2 : b ≠ dx := fun e => by rw [e, ndx] at hb; cases hb
    rw [upd_ne b1, upd_ne b2]
    exact hb
  have zx : Z x = none := by
    cases h : Z x with
    | none => rfl
    | some o =>
      have := z _ _ h
      rw [nx] at this
      cases this
  have t2 : T [] Z H Z (upd (upd H dx (.own x)) x (.ins (clsA K "Keeper") dx [])) := T.ofEx e2 z
  refine ⟨x, dx, v, u, n, m, Z, rfl, upd_same, z.trans e2, zx, kv.ex e2, ku.ex e2, fun w f ew ef w0 f0 P Z' H' t nP kp => ?_, fun c H' d e nd => ?_, fun c c' H' d e nd => ?_⟩
  · exact ⟨rfl, good w f ew ef w0 f0 x P Z' H' nx (t2.nn nP) (t2.step t (mm_1 (.inr nx))) kp⟩
  · exact bad v (.inl ⟨c, rfl⟩) H' d (e2.trans e) nd
  · exact bad u (.inr ⟨c, c', rfl⟩) H' d (e2.trans e) nd
theorem t_keeper {K : PySem.W.Frag} {Z H : Hp} {Q : VK} {E : XK} {w f : Int} (z : Ex Z H) (w0 : 1 ≤ w ∧ w ≤ 8) (f0 : 1 ≤ f ∧ f ≤ 8)
    (q : ∀ a P Z' H', H a = none → H P = none → T [] Z H Z' H' → Kp K Z' H' a P w f (cleanY w 1 []) [] → Q (.ref a) H') : MkP' (clsA K "Keeper") (spKInit K) E [.int w, .int f] H Q := by
  refine t_keeperX z (.int w) (.int f) (fun w' f' ew ef _ _ a P Z' H' na nP t kp => ?_) (fun o ho => ?_)
  · cases ew
    cases ef
    exact q a P Z' H' na nP t kp
  · rcases ho with ⟨h, _⟩ | ⟨_, h, _⟩
    · exact absurd (decide_eq_true w0) (by rw [show decide (1 ≤ w ∧ w ≤ 8) = false from h]; decide)
    · exact absurd (decide_eq_true f0) (by rw [show decide (1 ≤ f ∧ f ≤ 8) = false from h]; decide)
end TR

/-! a bound for all that a keeper can reach: rooms and places below N, rows of at most 8, keys out of ks -/
namespace TR
open PySem L2
noncomputable def StpN (N : Nat) (ks : List Int) : Stp → Prop
  | .rooms m => 1 ≤ m ∧ m ≤ N
  | .cut r m => 0 ≤ r ∧ r < N ∧ 0 ≤ m
  | .row r b w => 0 ≤ r ∧ r < N ∧ 0 ≤ b ∧ b < N ∧ w.length ≤ 8 ∧ ∀ e ∈ w, e.1 ∈ ks
end TR
namespace TR
open PySem L2
/-- all rows are so -/
noncomputable def AllR (P : Row → Prop) (c : List (List Row)) : Prop := ∀ rs ∈ c, ∀ r ∈ rs, P r
end TR
namespace TR
open PySem L2
/-- a yard within the bound -/
structure YN (N : Nat) (w : Int) (ks : List Int) (y : Yard) : Prop where
  a : y.a = w
  b : 1 ≤ y.b ∧ y.b ≤ N
  hb : HB N N 8 y.c
  ky : AllR (fun r => ∀ e ∈ r, e.1 ∈ ks) y.c
  tr : trimR y.c = y.c
end TR
namespace TR
open PySem L2
end TR
namespace TR
open PySem L2
/-! the steps of the changes are within the bound -/
section
variable {N R : Nat} {ks : List Int} {rows now : List Row} {w r k : Int} {es : Row} {t : Tx}
noncomputable def RowsN (N : Nat) (ks : List Int) (rows : List Row) : Prop := rows.length ≤ N ∧ ∀ x ∈ rows, x.length ≤ 8 ∧ ∀ e ∈ x, e.1 ∈ ks
/-- entries within the bound -/
structure EsN (N : Nat) (ks : List Int) (es : Row) : Prop where
  k1 : Keys1 es
  ky : ∀ e ∈ es, e.1 ∈ ks
  ln : es.length + 2 ≤ N
end
end TR
namespace TR
open PySem L2
section
variable {N R : Nat} {ks : List Int} {w r k f : Int} {es : Row} {t : Tx} {y : Yard} {ss : List Stp}
/-- what a keeper can reach: within the bound, and settled in the end -/
structure KI (N : Nat) (w f : Int) (ks : List Int) (y : Yard) (ss : List Stp) : Prop where
  yn : YN N w ks y
  ok : ∀ s ∈ ss, StpN N ks s
  ln : ss.length ≤ N * (3 * N + 4)
  en : SettledP f (ss.foldl doneY y) []
end
end TR

/-! stops, room by room: what stands there is found, and the rows ahead of it are passed -/
namespace TR
open PySem L2
noncomputable def PassR (w : Nat) (L : Row) (X : List Row) : Prop := ∀ (p : Nat) (e : Ent), L[p]? = some e → ∀ row ∈ X.take (p / w), lastGe (row.map Prod.fst) e.1 = false
noncomputable def RoomI (w : Nat) (es : Row) (b : Int) (i : Nat) (X : List Row) : Prop := RoomG es b i X ∧ X ≠ [] ∧ PassR w (partE b es i) X
noncomputable def GoodI (w : Nat) (es : Row) (y : Yard) : Prop := 1 ≤ y.b ∧ ∀ i, i < y.b.toNat → ∃ X, y.c[i]? = some X ∧ RoomI w es y.b i X
end TR
namespace TR
open PySem L2
end TR

/-! laws over tables -/
namespace TR
open PySem L2
noncomputable def cutG {α : Type} (w : Nat) (l : List α) : List (List α) := if h : w = 0 ∨ l.length ≤ w then [l] else l.take w :: cutG w (l.drop w)
termination_by l.length
decreasing_by exact drop_lt h
structure T6 (α β γ δ ε ζ : Type) where
  a : α
  b : β
  c : γ
  d : δ
  e : ε
  f : ζ
  deriving DecidableEq
instance {α β γ δ ε ζ : Type} [Py α] [Py β] [Py γ] [Py δ] [Py ε] [Py ζ] : Py (T6 α β γ δ ε ζ) := ⟨fun p => .tuple [Py.d p.a, Py.d p.b, Py.d p.c, Py.d p.d, Py.d p.e, Py.d p.f], max (Py.dep α) (max (Py.dep β) (max (Py.dep γ) (max (Py.dep δ) (max (Py.dep ε) (Py.dep ζ))))) + 1, fun p => by
    simp only [PyData.depth, PyData.depthAll]
    have h1 := Py.depth p.a
    have h2 := Py.depth p.b
    have h3 := Py.depth p.c
    have h4 := Py.depth p.d
    have h5 := Py.depth p.e
    have h6 := Py.depth p.f
    omega, fun p => by simp only [PyData.canLay0, PyData.canLayAll0, Py.can]; rfl, fun a b => by
    obtain ⟨a1, a2, a3, a4, a5, a6⟩ := a
    obtain ⟨b1, b2, b3, b4, b5, b6⟩ := b
    simp only [PyData.eqv, PyData.eqvAll, Bool.and_true, Bool.and_eq_true, Py.eqv, T6.mk.injEq]⟩
end TR
namespace TR
open PySem L2
section
variable {K : PySem.W.Frag} {σ : L2.St} {Z H : Hp} {te : TE} {Q : VK} {E : XK} {g : TG} {vs : List Nat} {a D : Addr} {w f : Int} {l : Row}
end
end TR
namespace TR
open PySem L2
end TR
namespace TR
open PySem L2
section
variable {K : PySem.W.Frag} {Z H Z' H' : Hp} {Q : VK} {E : XK} {a D : Addr} {w f : Int} {l : Row}
end
end TR
namespace TR
open PySem L2
end TR
namespace TR
open PySem L2
end TR
namespace TR
open PySem L2
end TR

/-! tables: what a drop tells -/
namespace TR
open PySem L2
noncomputable def spTNeed (K : PySem.W.Frag) : Sp := fun vs H Q E => ∃ (a D : Addr) (w f : Int) (l : Row) (Z : Hp) (v : V) (n : String), vs = [.ref a, v] ∧ Tb K Z H a D w f l ∧ KindV K H v n ∧
  (keyV v = false → ∀ d, H d = none → E (.ref (clsA K "NoKey")) (some d) (upd H d (.xd [("key", v)]))) ∧
  ∀ k, v = .int k → keyV v = true →
    (k ∉ l.map Prod.fst → ∀ d, H d = none → E (.ref (clsA K "Lacking")) (some d) (upd H d (.xd [("key", v)]))) ∧
    (k ∈ l.map Prod.fst → Q .non H)
noncomputable def DropTold (Z H Z' H' : Hp) (f : Int) (l : Row) (k : Int) (r : V) : Prop :=
  if roomsT f (outE l k) = roomsT f l then r = .non else ∃ p c, r = .ref p ∧ H p = none ∧ H c = none ∧ Z' p = some (.tup [.int (roomsT f l - 1), .int (roomsT f l - 1 - whole (roomsT f l - 1)), .ref c]) ∧ Lm Z' H' c ((keysT_ f l (roomsT f l - 1)).filter fun x => decide (x ≠ k))
noncomputable def spTDrop (K : PySem.W.Frag) : Sp := fun vs H Q E => ∃ (a D : Addr) (w f : Int) (l : Row) (Z : Hp) (v : V) (n : String), vs = [.ref a, v] ∧ Tb K Z H a D w f l ∧ KindV K H v n ∧
  (keyV v = false → ∀ d, H d = none → E (.ref (clsA K "NoKey")) (some d) (upd H d (.xd [("key", v)]))) ∧
  ∀ k, v = .int k → keyV v = true →
    (k ∉ l.map Prod.fst → ∀ d, H d = none → E (.ref (clsA K "Lacking")) (some d) (upd H d (.xd [("key", v)]))) ∧
    (k ∈ l.map Prod.fst → ∀ r Z' H', T [D] Z H Z' H' → Tb K Z' H' a D w f (outE l k) → DropTold Z H Z' H' f l k r → Q r H')
end TR
namespace TR
open PySem L2
end TR

/-! all the stops of a keeper's steps: what stands there is found, and there are about as many rooms as there have to be -/
namespace TR
open PySem L2
/-- steps whose numbers of rooms are q alone -/
noncomputable def RoomsQ (q : Int) (ss : List Stp) : Prop := ∀ s ∈ ss, ∀ m, s = .rooms m → m = q
section
variable {w r k want f : Int} {es : Row} {t : Tx} {y : Yard} {ss : List Stp}
/-- what stands at a stop, and how many rooms there are -/
structure GoodK (w f : Int) (es : Row) (y : Yard) : Prop where
  ya : y.a = w
  g : GoodI w.toNat es y
  n : (y.b - roomsFor (es.length : Int) f).natAbs ≤ 1
/-- all the stops -/
noncomputable def KG (w f : Int) (y : Yard) (ss : List Stp) : Prop := ∀ m, ∃ es, Keys1 es ∧ GoodK w f es ((ss.take m).foldl doneY y)
end
end TR

/-! a text among texts -/
namespace TR
open PySem L2
theorem inV_strs (x : Str) : ∀ ns : List Str, inV (.str x) (ns.map V.str) = decide (x ∈ ns)
  | [] => rfl
  | n :: ns => by
    have e : inV (.str x) ((n :: ns).map V.str) = (eqV (.str n) (.str x) || inV (.str x) (ns.map V.str)) := rfl
    have e2 : eqV (.str n) (.str x) = decide (n = x) := by
      show (n == x) = _
      exact Bool.beq_eq_decide_eq n x
    rw [e, e2, inV_strs x ns]
    by_cases h : n = x
    · subst h
      simp
    · have h' : ¬ x = n := fun z => h z.symm
      simp [h, h']
theorem flat_strs : ∀ ns : List Str, (ns.map V.str).all flatV = true
  | [] => rfl
  | n :: ns => flat_strs ns
theorem s_inTS {K : PySem.W.Frag} {H : Hp} {Q : VK} {a : Addr} {x : Str} (ns : List Str) (h : SqT K H a (ns.map V.str)) (q : Q (.bl (decide (x ∈ ns))) H) : rIn K false (.str x) (.ref a) H Q := ⟨a, _, rfl, .inr h, rfl, flat_strs ns, by
  rw [if_neg Bool.false_ne_true, inV_strs]
  exact q⟩
end TR

/-! what is seen of keys -/
namespace TR
open PySem L2
noncomputable def tNoneT : Tx := ⟨"none", by decide +kernel⟩
/-- what asking for a key tells: the thing and the looks, or none and the key -/
noncomputable def askD (y : Yard) (k : Int) : Tx × Int := match fY y k with | some x => (x, (foundI y k).2) | none => (tNoneT, k)
noncomputable def seenE (es : Row) (ks : List Int) : Row := ks.filterMap fun k => (thingOf es k).map fun t => (k, t)
end TR

/-! the changes of a clean yard by the words of a law, their stops, and what mends them -/
namespace TR
open PySem L2
noncomputable def chgW (way : Str) (y : Yard) (k : Int) (t : Tx) : List Stp := if way = "split" then splitS y else if way = "join" then joinS y else if way = "drop" then dropS y k else putS y k t
section
variable {N : Nat} {w r k : Int} {es : Row} {t : Tx} {way : Str} {ks : List Int} {y : Yard}
end
section
variable {N : Nat} {w : Int} {ks : List Int} {y : Yard}
/-- a yard that can be mended: what stands in it, and its bounds -/
structure MY (w : Int) (ks : List Int) (es : Row) (y : Yard) : Prop where
  k1 : Keys1 es
  g : GoodI w.toNat es y
  yn : YN 27 w ks y
end
noncomputable def isRowB : Stp → Bool
  | .row _ _ _ => true
  | _ => false
end TR

/-! told steps: a list of them, each row the asker's own -/
namespace TR
open PySem L2
/-- a told step as it stands (its row with it): fp the row -/
noncomputable def ToldF (Z0 Z : Hp) (fp : List Addr) (v : V) : Stp → Prop
  | .row r b w => ∃ p q, fp = [q] ∧ v = .ref p ∧ Z p = some (.tup [.str "row", .int r, .int b, .ref q]) ∧ RowF Z0 Z q w
  | s => fp = [] ∧ Ik Z0 v s
/-- a list of told steps: D the list, vs what it holds, L the rows -/
structure Told (Z H : Hp) (D : Addr) (vs : List V) (L : List (List Addr)) (ss : List Stp) : Prop where
  own : H D = some (.lst vs)
  nd : (D :: L.flatten).Nodup
  z : ∀ q ∈ D :: L.flatten, Z q = none
  zh : Ex Z H
  ln : L.length = ss.length
  it : ∀ (i : Nat) v (s : Stp) fp, vs[i]? = some v → ss[i]? = some s → L[i]? = some fp → match s with
    | .row r b w => ∃ p q, fp = [q] ∧ v = .ref p ∧ Z p = some (.tup [.str "row", .int r, .int b, .ref q]) ∧ RowO Z H q w
    | s => fp = [] ∧ Ik Z v s
  lv : vs.length = ss.length
section
variable {K : PySem.W.Frag} {σ : L2.St} {H Z : Hp} {te : TE} {Q : VK} {g : TG} {vs : List Nat}
end
noncomputable def spKLeft (K : PySem.W.Frag) : Sp := fun vs H Q _ => ∃ (a P : Addr) (w f : Int) (y : Yard) (ss : List Stp) (Z : Hp), vs = [.ref a] ∧ Kp K Z H a P w f y ss ∧ ss.length ≤ 40000 ∧
  ∀ (D : Addr) (ys : List V) (L : List (List Addr)) Z' H', T [] Z H Z' H' → Told Z' H' D ys L ss → (∀ b ∈ D :: L.flatten, H b = none) → Q (.ref D) H'
end TR

/-! told steps that stay as they are; a told step as data -/
namespace TR
open PySem L2
section
variable {K : PySem.W.Frag} {Z H Z' H' : Hp} {M : List Addr} {D : Addr} {vs : List V} {L : List (List Addr)} {ss : List Stp}
end
noncomputable def StpW : Stp → Prop
  | .row _ _ w => w.length ≤ 1000
  | _ => True
noncomputable def tZz : Tx := ⟨"zz", by decide +kernel⟩
/-- the first word of a step -/
noncomputable def stpN : Stp → Str
  | .rooms _ => "rooms"
  | .cut _ _ => "cut"
  | .row _ _ _ => "row"
end TR

/-! lists within lists, to any depth, that the asker may change -/
namespace TR
open PySem L2
noncomputable def notL : PyData → Bool
  | .list _ => false
  | _ => true
/-- v stands in H as x; its lists are M, and may be changed; what is no list stays -/
noncomputable def Ow : Nat → Hp → Hp → V → PyData → List Addr → Prop
  | 0, _, _, _, _, _ => False
  | d + 1, Z, H, v, x, M => (notL x = true ∧ Dt Z v x ∧ M = []) ∨
      ∃ (p : Addr) (us : List V) (L : List (PyData × List Addr)), v = .ref p ∧ H p = some (.lst us) ∧ Z p = none ∧ x = .list (L.map Prod.fst) ∧ M = p :: (L.map Prod.snd).flatten ∧ L.length ≤ 40000 ∧ Paired (fun u q => Ow d Z H u q.1 q.2) us L
theorem rg_take {β : Type} (xs : List β) : ∀ k, (List.range k).filterMap (fun i => xs[i]?) = xs.take k
  | 0 => rfl
  | k + 1 => by
    rw [List.range_succ, List.filterMap_append, rg_take xs k, List.take_add_one]
    congr 1
    all_goals (cases h : xs[k]? <;> simp [List.filterMap, h])
theorem pair_at {β γ : Type} {F : β → γ → Prop} : ∀ {xs : List β} {ys : List γ}, Paired F xs ys → ∀ {i : Nat} {x : β}, xs[i]? = some x → ∃ y, ys[i]? = some y ∧ F x y
  | _, _, .nil, i, x, h => by simp at h
  | _, _, .cons a t, 0, x, h => by cases h; exact ⟨_, rfl, a⟩
  | _, _, .cons a t, i + 1, x, h => pair_at t h
section
variable {K : PySem.W.Frag} {M N : List Addr} {Z H Z' H' : Hp} {v : V} {x : PyData} {d : Nat}
end
section
variable {K : PySem.W.Frag} {σ : L2.St} {H Z : Hp} {te : TE} {Q : VK} {g : TG} {vs : List Nat} {d : Nat} {p : Addr} {us : List V} {L : List (PyData × List Addr)}
end
section
variable {K : PySem.W.Frag} {σ : L2.St} {H Z : Hp} {D : Ends} {g : TG} {ts : TS} {d : Nat} {p : Addr} {us : List V} {L : List (PyData × List Addr)}
end
end TR

namespace TR
/-- the keys of a key's room, and how many looks it costs -/
noncomputable def rowK (ks : List Int) (n k : Int) : List Int := (sortI ks).filter fun x => decide (roomOf x n = roomOf k n)
noncomputable def lookI (ks : List Int) (n w k : Int) : Int := 1 + (less (rowK ks n k) k : Int) / w
noncomputable def looksP (ks : List Int) (n w : Int) : List (Int × Int) := (sortI ks).map fun k => (k, lookI ks n w k)
/-- the keys of a room among the first ones -/
noncomputable def cntS (ks : List Int) (n : Int) (j : Nat) (r : Int) : Int := ((((sortI ks).take j).filter fun x => decide (roomOf x n = r)).length : Int)
/-- the looks of a room's keys, and their sum -/
noncomputable def lookRow (m : Nat) (w : Int) : List Int := (List.range m).map fun (i : Nat) => 1 + (i : Int) / w
end TR
namespace TR
open PySem L2
/-- a dict from rooms to lists of looks -/
noncomputable def DL (H : Hp) (d : Addr) (w : Int) (f : Int → Nat) (n : Nat) : Prop := ∃ kvs : List (L2.Key × V), H d = some (.dK kvs) ∧ kvs.length ≤ n ∧
  (∀ e ∈ kvs, ∃ (m : Nat) (a : Addr), m ≤ 1000 ∧ e.2 = .ref a ∧ a ≠ d ∧ H a = some (.lst ((lookRow m w).map V.int))) ∧
  ∀ r : Int, (valV kvs (Sum.inl r) = none ∧ f r = 0) ∨ ∃ a, valV kvs (Sum.inl r) = some (.ref a) ∧ a ≠ d ∧ H a = some (.lst ((lookRow (f r) w).map V.int))
section
variable {H : Hp} {Q : VK} {d : Addr} {w : Int} {f : Int → Nat} {n : Nat}
end
end TR

/-! what six questions answer, as own lists -/
namespace TR
open PySem L2
section
variable {K : PySem.W.Frag} {Z H H' : Hp} {p : Addr} {qs : List Addr} {v : V} {us : List V} {d : Nat}
end
/-- the first place of m -/
noncomputable def posI : List Int → Int → Nat
  | [], _ => 0
  | x :: l, m => if x = m then 0 else posI l m + 1
noncomputable def rowLensI (ks : List Int) (n w : Int) : List Int := ((spl (sortI ks) n).map fun r => (r.length : Int)).map fun m => rowsI m w
noncomputable def ansI (way : Int) (ks : List Int) (n w : Int) : PyData :=
  if way = 0 then Py.d (spl (sortI ks) n) else
  if way = 1 then Py.d ((spl (sortI ks) n).map fun r => (r.length : Int)) else
  if way = 2 then Py.d (rowsOf ks w) else
  if way = 3 then Py.d (looksP ks n w) else
  if way = 4 then Py.d (maxI (rowLensI ks n w), ((posI (rowLensI ks n w) (maxI (rowLensI ks n w)) : Nat) : Int)) else
  Py.d ((cutI ks none (some 9)).map fun k => lookedI (rowsOf ks w) k 0)
/-- told twice it is alike -/
noncomputable def OkD (x : PyData) : Prop := SeqAt.shaped x = true ∧ PyData.eqv x x = true
section
variable {K : PySem.W.Frag} {H : Hp} {Q : VK}
end
end TR

/-! steps whose rows are the asker's own; what stays for a while only -/
namespace TR
open PySem L2
noncomputable def isRow : Stp → Bool
  | .row _ _ _ => true
  | _ => false
/-- vs stand as the steps ss; F: the rows, each its own -/
inductive SA (Z H : Hp) : List V → List Addr → List Stp → Prop
  | nil : SA Z H [] [] []
  | flat {v : V} {s : Stp} {vs : List V} {F : List Addr} {ss : List Stp} : isRow s = false → Ik Z v s → SA Z H vs F ss → SA Z H (v :: vs) F (s :: ss)
  | row {p q : Addr} {r a : Int} {w : Row} {vs : List V} {F : List Addr} {ss : List Stp} : Z p = some (.tup [.str "row", .int r, .int a, .ref q]) → RowO Z H q w → SA Z H vs F ss → SA Z H (.ref p :: vs) (q :: F) (.row r a w :: ss)
structure Sm (Z H : Hp) (D : Addr) (F : List Addr) (ss : List Stp) : Prop where
  ex : ∃ vs, H D = some (.lst vs) ∧ SA Z H vs F ss
  nd : (D :: F).Nodup
  z : ∀ q ∈ D :: F, Z q = none
  zh : Ex Z H
section
variable {K : PySem.W.Frag} {Z H Z' H' Z1 : Hp} {M F G : List Addr} {vs us : List V} {ss s2 : List Stp} {D D' q p : Addr} {v : V} {Q : VK}
end
/-! what stays for a while -/
structure Tmp (F : List Addr) (Z H Z1 : Hp) : Prop where
  z : ∀ q ∈ F, Z q = none
  l : ∀ q ∈ F, ∃ us, H q = some (.lst us)
  e : Ex Z Z1
  eh : Ex Z1 H
  i : ∀ q ∈ F, Z1 q = H q
  o : ∀ q, q ∉ F → Z1 q = Z q
/-- no list in it -/
noncomputable def noL : PyData → Bool
  | .list _ => false
  | .tuple xs => noLs xs
  | _ => true
where noLs : List PyData → Bool
  | [] => true
  | x :: xs => noL x && noLs xs
section
variable {K : PySem.W.Frag} {Z H Z' H' Z1 : Hp} {M F G : List Addr} {vs us : List V} {ss s2 : List Stp} {D D' q p : Addr} {v : V} {Q : VK}
end
end TR
namespace TR
open PySem L2
section
variable {K : PySem.W.Frag} {Z H Z' H' Z1 : Hp} {M F G : List Addr} {us : List V} {ss : List Stp} {D D' q p a : Addr} {v : V} {Q : VK} {α : Type} {iα : Py α} {l : List α}
end
section
variable {K : PySem.W.Frag} {σ : L2.St} {H Z : Hp} {te : TE} {tx : TT} {Q : VK} {g : TG} {vs : List Nat} {p D : Addr} {us : List V} {F : List Addr} {ss : List Stp}
end
section
variable {K : PySem.W.Frag} {σ : L2.St} {H Z : Hp} {D : Ends} {g : TG} {ts : TS} {p : Addr} {us : List V} {Ms : List (List Addr)}
end
end TR
namespace TR
open PySem L2
/-! data of any make, equal to itself -/
noncomputable def OkN (n : Nat) (x : PyData) : Prop := x.depth ≤ n ∧ x.canLay0 = true ∧ PyData.eqv x x = true
noncomputable def cleanB (y : Yard) : Bool := @decide (CleanP y) (Classical.propDecidable _)
noncomputable def optD : Option Tx → PyData
  | none => .none
  | some x => .str x.1
section
variable {K : PySem.W.Frag} {Z H Z' H' : Hp} {M F G : List Addr} {us : List V} {ss : List Stp} {D q p : Addr} {v : V} {Q : VK}
end
end TR
namespace TR
open PySem L2
section
variable {w r k : Int} {es : Row} {way : Str} {t : Tx}
end
section
variable {w : Int} {ks : List Int} {y : Yard}
/-- what is told of a yard and its change -/
noncomputable def ansY (way : Str) (y : Yard) (k : Int) (t : Tx) : PyData :=
  let ss := chgW way y k t
  let y1 := (ss.take 1).foldl doneY y
  .list ([Py.d ss, Py.d (mendS y1)] ++ ([y1, ⟨y1.a, y1.b, mendC y1⟩, ss.foldl doneY y, doneY y (.rooms (1 + y.b % 5)), y] : List Yard).map Py.d ++ [.tuple [optD (fY y1 k), .int (foundI y1 k).2], .bool (cleanB y1)] ++ [.bool true])
end
end TR
namespace TR
open PySem L2
section
variable {K : PySem.W.Frag} {Z H Z' H' Zt : Hp} {A F : List Addr} {D p : Addr} {qs : List Addr} {rss : List (List Row)} {o : List V}
noncomputable def Dis (X Y : List Addr) : Prop := ∀ b ∈ Y, b ∉ X
/-- a yard that may be spoilt -/
noncomputable def SpP (u : V) (M : List Addr) (Z H : Hp) : Prop := ∃ (p D : Addr) (qs G : List Addr) (a b : Int), u = .ref p ∧ M = D :: (qs ++ G) ∧ Z p = some (.tup [.int a, .int b, .ref D]) ∧ Sh Z H D qs G 27 8 ∧ qs.length ≤ 60
end
end TR
namespace TR
open PySem L2
section
variable {K : PySem.W.Frag} {σ : L2.St} {H Z : Hp} {te : TE} {Q : VK} {g : TG} {vs : List Nat}
end
end TR
namespace TR
open PySem L2
end TR
namespace TR
open PySem L2
end TR

/-! data in lists and tuples: the asker's own lists within, or such that stay -/
namespace TR
open PySem L2
mutual
/-- v stands as x; M: its own lists. b: no other lists in it -/
inductive Ot (b : Bool) (Z H : Hp) : V → PyData → List Addr → Prop
  | fr {v : V} {x : PyData} : (b = true → noL x = true) → Dt Z v x → Ot b Z H v x []
  | lst {p : Addr} {us : List V} {xs : List PyData} {M : List Addr} : H p = some (.lst us) → Z p = none → OtAll b Z H us xs M → Ot b Z H (.ref p) (.list xs) (p :: M)
  | tup {p : Addr} {us : List V} {xs : List PyData} {M : List Addr} : Z p = some (.tup us) → OtAll b Z H us xs M → Ot b Z H (.ref p) (.tuple xs) M
inductive OtAll (b : Bool) (Z H : Hp) : List V → List PyData → List Addr → Prop
  | nil : OtAll b Z H [] [] []
  | cons {v : V} {x : PyData} {vs : List V} {xs : List PyData} {M N : List Addr} : Ot b Z H v x M → OtAll b Z H vs xs N → OtAll b Z H (v :: vs) (x :: xs) (M ++ N)
end
section
variable {K : PySem.W.Frag} {b : Bool} {M N F : List Addr} {Z H Z' H' Z1 : Hp} {v : V} {x : PyData} {us : List V} {xs : List PyData}
end
end TR

/-! comprehensions and loops over lists and tuples of any data -/
namespace TR
open PySem L2 RZ PySem.Spec PyProof.Rows
/-- what is walked is one of two kinds -/
noncomputable def iOr (w1 w2 : TI) : TI := fun σ H R => w1 σ H R ∨ w2 σ H R
/-- tuple(..) of a list that is made -/
noncomputable def rTupL (K : PySem.W.Frag) : List V → Hp → VK → Prop := fun xs H Q => ∃ p ys, xs = [.ref p] ∧ ((SqL K H p ys ∧ ∀ l, H l = none → Q (.ref l) (upd H l (.tup ys))) ∨ (SqT K H p ys ∧ Q (.ref p) H))
section
variable {K : PySem.W.Frag} {σ : L2.St} {H Z : Hp} {te : TE} {tx : TT} {Q : VK} {g : TG} {ts : TS} {D : Ends} {vs : List Nat} {w1 w2 : TI}
noncomputable def LcZA (K : PySem.W.Frag) (g : TG) (tt : TT) (te : TE) (vs : List Nat) (σ : L2.St) (x : List V) (H1 : Hp) (Q : VK) : Prop := ∃ a b xs ys, x = [.ref a, .ref b] ∧ ((SqL K H1 a xs ∧ SqL K H1 b ys ∧ LcJ g tt te vs σ (Itz K a b) H1 Q) ∨ (SqT K H1 a xs ∧ SqT K H1 b ys ∧ LcJ g tt te vs σ (ItzT K a b) H1 Q))
variable {b b' : Bool} {M N : List Addr} {us ws : List V} {xs : List PyData} {p q : Addr}
end
end TR
namespace TR
open PySem L2
/-- every list and tuple in it has at most a thousand things -/
noncomputable def wid : PyData → Bool
  | .list xs => decide (xs.length ≤ 1000) && wids xs
  | .tuple xs => decide (xs.length ≤ 1000) && wids xs
  | _ => true
where wids : List PyData → Bool
  | [] => true
  | x :: xs => wid x && wids xs
end TR
namespace TR
open PySem L2
end TR

/-! rows that an asker of a table may change: the list and its rows are new -/
namespace TR
open PySem L2
end TR

/-! entries, rows, steps and yards as texts -/
namespace TR
open PySem L2 TL
noncomputable def numS (i : Int) : Str := Str.ofString (toString i)
noncomputable def entS (e : Ent) : Str := numS e.1 ++ "=" ++ e.2.1
noncomputable def rowS (r : Row) : Str := if r = [] then "-" else Txt.join "," (r.map entS)
noncomputable def rowsS (rs : List Row) : Str := if rs = [] then "none" else Txt.join ";" (rs.map rowS)
noncomputable def stepS : Stp → Str
  | .row r a w => Txt.join " " ["row", numS r, numS a, rowS w]
  | .cut r a => Txt.join " " ["cut", numS r, numS a]
  | .rooms m => Txt.join " " ["rooms", numS m]
noncomputable def yardS (y : Yard) : Str := Txt.join " " ([numS y.a, numS y.b] ++ y.c.map rowsS)
theorem tl_ext {x y : Str} (h : tl x = tl y) : x = y := by rw [← mk_tl x, ← mk_tl y, h]
theorem tl_numS {i : Int} (h : 0 ≤ i) : tl (numS i) = numL i.toNat := by
  obtain ⟨n, rfl⟩ : ∃ n : Nat, i = (n : Int) := ⟨i.toNat, by omega⟩
  exact tl_num n
theorem tl_joinS (s : Str) (xs : List Str) : tl (Txt.join s xs) = joinL (tl s) (xs.map tl) := by rw [join_eq, tl_join]
theorem mem_joinL {S : List Nat} {c : Nat} : ∀ {ps : List (List Nat)}, c ∈ joinL S ps → c ∈ S ∨ ∃ p ∈ ps, c ∈ p
  | [], h => absurd h List.not_mem_nil
  | [p], h => .inr ⟨p, List.mem_cons_self, h⟩
  | p :: q :: r, h => by
    rcases List.mem_append.mp h with h | h
    · exact .inr ⟨p, List.mem_cons_self, h⟩
    · rcases List.mem_append.mp h with h | h
      · exact .inl h
      · rcases mem_joinL h with h | ⟨x, hx, h⟩
        · exact .inl h
        · exact .inr ⟨x, List.mem_cons_of_mem _ hx, h⟩
/-- an entry that can be written -/
noncomputable def EntW (e : Ent) : Prop := 0 ≤ e.1 ∧ e.1 < 1152921504606846976 ∧ nameB e.2.1 = true
theorem nameB_low {x : Str} (h : nameB x = true) : 1 ≤ x.length ∧ x.length ≤ 8 ∧ ∀ c ∈ tl x, 97 ≤ c ∧ c ≤ 122 := by
  unfold nameB at h
  rw [Bool.and_eq_true] at h
  obtain ⟨h1, h2⟩ := h
  have h1 := of_decide_eq_true h1
  refine ⟨h1.1, h1.2, fun c hc => ?_⟩
  have h3 := of_decide_eq_true (List.all_eq_true.mp h2 c hc)
  have key : ∀ c ∈ lettersS.cps.toList, 97 ≤ c ∧ c ≤ 122 := by decide +kernel
  exact key c h3
theorem numL_low {n c : Nat} (h : c ∈ numL n) : 48 ≤ c ∧ c ≤ 57 := by
  refine ⟨Decidable.byContradiction fun g => ?_, Decidable.byContradiction fun g => ?_⟩
  · exact numL_free (n := n) (s := c) (.inl (by omega)) h
  · exact numL_free (n := n) (s := c) (.inr (by omega)) h
/-! the read-back -/
theorem split_words {ws : List Str} (n : ws ≠ []) (h : ∀ w ∈ ws, 32 ∉ tl w) : Txt.split (Txt.join " " ws) " " = ws :=
  split_join (s := 32) (S := []) rfl (by decide +kernel) n h
theorem num_free {i : Int} (h : 0 ≤ i) : 32 ∉ tl (numS i) := fun hc => by
  rw [tl_numS h] at hc
  have := numL_low hc
  omega
/-! lengths -/
theorem num_len {i : Int} (h : 0 ≤ i) (h2 : i < 1000000000000000000000000000000) : (numS i).length ≤ 30 := by
  rw [len_tl, tl_numS h]
  exact numL_len (by decide) (by omega)
end TR

/-! comprehensions whose things are the asker's own -/
namespace TR
open PySem L2
mutual
/-- own things that stay for a while: M their lists -/
inductive Fo (Z : Hp) : V → PyData → List Addr → Prop
  | fr {v : V} {x : PyData} : noL x = true → Dt Z v x → Fo Z v x []
  | lst {p : Addr} {us : List V} {xs : List PyData} {M : List Addr} : Z p = some (.lst us) → FoAll Z us xs M → Fo Z (.ref p) (.list xs) (p :: M)
  | tup {p : Addr} {us : List V} {xs : List PyData} {M : List Addr} : Z p = some (.tup us) → FoAll Z us xs M → Fo Z (.ref p) (.tuple xs) M
inductive FoAll (Z : Hp) : List V → List PyData → List Addr → Prop
  | nil : FoAll Z [] [] []
  | cons {v : V} {x : PyData} {vs : List V} {xs : List PyData} {M N : List Addr} : Fo Z v x M → FoAll Z vs xs N → FoAll Z (v :: vs) (x :: xs) (M ++ N)
end
section
variable {M N F : List Addr} {Z H Z' H' Z1 : Hp} {v : V} {x : PyData} {us : List V} {xs : List PyData}
end
section
variable {K : PySem.W.Frag} {σ : L2.St} {H Z : Hp} {te : TE} {Q : VK} {g : TG} {vs : List Nat} {a : Addr} {us : List V}
end
end TR

namespace TR
open PySem L2
theorem strOk_iff {x : Str} : PyData.strOk x = true ↔ ∀ c ∈ TL.tl x, c < 0x110000 := by
  unfold PyData.strOk TL.tl
  rw [Array.all_eq_true']
  refine ⟨fun h c hc => of_decide_eq_true (h c (Array.mem_toList_iff.mp hc)), fun h c hc => decide_eq_true (h c (Array.mem_toList_iff.mpr hc))⟩
end TR

/-! texts: split, join, int(text), str(number), a sign at a place -/
namespace TR
open PySem L2 TL PySem.Spec PyProof.Rows
noncomputable def rSplit : V → List V → Hp → VK → Prop := fun x xs H Q => ∃ a b, x = .str a ∧ xs = [.str b] ∧ (b.length == 0) = false ∧ a.length + 2 ≤ sizeLine ∧ rNewStrs (Txt.split a b) H Q
noncomputable def rJoin (K : PySem.W.Frag) : V → List V → Hp → VK → Prop := fun x xs H Q => ∃ a p, ∃ ys : List Str, x = .str a ∧ xs = [.ref p] ∧ (SqL K H p (ys.map V.str) ∨ SqT K H p (ys.map V.str)) ∧ (ys.map (·.length)).sum + ys.length * a.length ≤ 16777216 ∧ Q (.str (Txt.join a ys)) H
noncomputable def rIntT : List V → Hp → VK → Prop := fun xs H Q => ∃ a n, xs = [.str a] ∧ PySem.intText? a = some n ∧ a.length ≤ 640 ∧ Q (.int n) H
noncomputable def rStrI : List V → Hp → VK → Prop := fun xs H Q => ∃ i, xs = [.int i] ∧ i.natAbs.log2 < 1920 ∧ Q (.str (toString i)) H
theorem intTA {X : Cx} : CallR X (.type "int") rIntT := call_int_str
theorem strIA {X : Cx} : CallR X (.type "str") rStrI := call_str_int
theorem pe_m1 {X : Cx} {e : Expr} {r : V → List V → Hp → VK → Prop} {to te : TE} (h : PE X e (tM1 r to te)) : PE X e (tM1 r to te) := h
theorem pe_joinK {X : Cx} {K : PySem.W.Frag} (hk : X.K = K) {e : Expr} {to te : TE} (h : PE X e (tM1 (rJoin X.K) to te)) : PE X e (tM1 (rJoin K) to te) := hk ▸ h
section
variable {K : PySem.W.Frag} {σ : L2.St} {H Z : Hp} {to te : TE} {Q : VK} {r : V → List V → Hp → VK → Prop} {a b : Str} {p : Addr} {i : Int}
noncomputable def M1P (r : V → List V → Hp → VK → Prop) (te : TE) (σ : L2.St) (x : V) (H1 : Hp) (Q : VK) : Prop := (∃ a, x = .str a) ∧ te σ H1 fun y H2 => r x [y] H2 Q
theorem s_m1 (q : to σ H fun x H1 => M1P r te σ x H1 Q) : tM1 r to te σ H Q := q
theorem n_m1 (q : te σ H fun y H2 => r (.str a) [y] H2 Q) : M1P r te σ (.str a) H Q := ⟨⟨a, rfl⟩, q⟩
theorem t_split (z : Ex Z H) (hb : (b.length == 0) = false) (ha : a.length ≤ 16000000) (k : ∀ p Z' H', H p = none → T [] Z H Z' H' → Z' p = some (.lst ((Txt.split a b).map V.str)) → Q (.ref p) H') : rSplit (.str a) [.str b] H Q :=
  ⟨a, b, rfl, rfl, hb, by rw [sizeLine_eq]; omega, fun p hp => k p _ _ hp (T.new hp z) upd_same⟩
theorem t_join {ys : List Str} (h : SqL K H p (ys.map V.str)) (hz : (ys.map (·.length)).sum + ys.length * a.length ≤ 16777216) (q : Q (.str (Txt.join a ys)) H) : rJoin K (.str a) [.ref p] H Q :=
  ⟨a, p, ys, rfl, rfl, .inl h, hz, q⟩
theorem t_strI (h0 : 0 ≤ i) (h1 : i < 1000000000000000000000000000000000000000000000000000000000000) (q : Q (.str (numS i)) H) : rStrI [.int i] H Q := by
  refine ⟨i, rfl, ?_, q⟩
  have h2 : i.natAbs < 2 ^ 200 := Nat.lt_of_lt_of_le (show i.natAbs < 1000000000000000000000000000000000000000000000000000000000000 by omega) (by decide)
  by_cases c : i.natAbs = 0
  · rw [c]; decide
  · have := (Nat.log2_lt c).mpr h2
    omega
theorem t_intT {n : Int} (h0 : 0 ≤ n) (h1 : n < 1000000000000000000000000000000) (q : Q (.int n) H) : rIntT [.str (numS n)] H Q := by
  obtain ⟨m, rfl⟩ : ∃ m : Nat, n = (m : Int) := ⟨n.toNat, by omega⟩
  have hl := num_len h0 h1
  refine ⟨numS (m : Int), (m : Int), rfl, int_num ?_, by omega, q⟩
  rw [len_tl, tl_numS h0] at hl
  show (numL m).length ≤ 4300
  have : ((m : Int)).toNat = m := Int.toNat_natCast m
  rw [this] at hl
  omega
theorem s_plusS (h : a.length + b.length ≤ 16000000) (q : Q (.str (a ++ b)) H) : rPlus (.str a) (.str b) H Q := .inr (.inr ⟨a, b, rfl, rfl, by rw [sizeLine_eq]; omega, q⟩)
/-- the sign at a place -/
theorem s_ixSign {z : Str} {c : Nat} (h0 : 0 ≤ i) (hc : (tl z)[i.toNat]? = some c) (hz : z.length ≤ 16000000) (q : Q (.str ⟨#[c]⟩) H) : rIx K (.str z) (.int i) H Q :=
  .inr (.inr ⟨z, i, c, rfl, rfl, by rw [sizeLine_eq]; omega, atI_lt h0 hc, q⟩)
theorem s_lenTx {z : Str} (h : z.length ≤ 16000000) (q : Q (.int (z.length : Int)) H) : rLen K [.str z] H Q := .inr ⟨z, rfl, by rw [sizeLine_eq]; omega, q⟩
end
/-- no number but 0 begins with 0 -/
theorem numL_head : ∀ n : Nat, 0 < n → (numL n)[0]? ≠ some 48 := by
  intro n
  induction n using Nat.strongRecOn with
  | ind n ih =>
    intro h
    by_cases c : n < 10
    · rw [numL_lt c]
      intro e
      have : 48 + n = 48 := Option.some.inj e
      omega
    · rw [numL_step (by omega)]
      have h1 := ih (n / 10) (by omega) (by omega)
      intro e
      rw [List.getElem?_append] at e
      by_cases c2 : 0 < (numL (n / 10)).length
      · rw [if_pos c2] at e
        exact h1 e
      · exact numL_ne (n / 10) (List.eq_nil_of_length_eq_zero (by omega))
theorem numS_head {n : Int} (h : 0 ≤ n) : ∃ c, (tl (numS n))[0]? = some c ∧ (c = 48 → (numS n).length = 1) := by
  rw [tl_numS h]
  have ne := numL_ne n.toNat
  obtain ⟨c, r, e⟩ := List.exists_cons_of_ne_nil ne
  refine ⟨c, by rw [e]; rfl, fun hc => ?_⟩
  by_cases c0 : n.toNat = 0
  · rw [len_tl, tl_numS h, c0]
    rfl
  · exact absurd (by rw [e, hc]; rfl) (numL_head n.toNat (by omega))
theorem numS_pos {n : Int} (h : 0 ≤ n) : 1 ≤ (numS n).length := by
  rw [len_tl, tl_numS h]
  have ne := numL_ne n.toNat
  cases e : numL n.toNat with
  | nil => exact absurd e ne
  | cons c r => simp
noncomputable def figS : Str := "0123456789"
theorem fig_mem {c : Nat} (h : 48 ≤ c ∧ c ≤ 57) : c ∈ figS.cps.toList := by
  have e : figS.cps.toList = [48, 49, 50, 51, 52, 53, 54, 55, 56, 57] := by decide +kernel
  rw [e]
  simp only [List.mem_cons, List.not_mem_nil, or_false]
  omega
end TR
namespace TR
open PySem L2 TL
section
variable {K : PySem.W.Frag} {σ : L2.St} {H Z : Hp} {te : TE} {Q : VK} {g : TG} {vs : List Nat} {p : Addr} {us : List V}
end
end TR
namespace TR
open PySem L2 TL
theorem sum_le {b n : Nat} : ∀ {xs : List Str}, (∀ x ∈ xs, x.length ≤ b) → xs.length = n → (xs.map (·.length)).sum ≤ n * b
  | [], _, h => by rw [← h]; exact Nat.zero_le _
  | x :: xs, h, e => by
    rw [← e, List.length_cons, Nat.succ_mul, List.map_cons, List.sum_cons]
    have h1 := h x List.mem_cons_self
    have h2 := sum_le (xs := xs) (b := b) (fun y hy => h y (List.mem_cons_of_mem _ hy)) rfl
    omega
section
variable {K : PySem.W.Frag} {σ : L2.St} {H Z : Hp} {te : TE} {Q : VK} {g : TG} {vs : List Nat} {a : Addr}
/-- texts of the things of a list of data -/
theorem c_mapS {β : Type} [Py β] {xs : List β} (f : β → Str) (zh : Ex Z H) (h : Ik Z (.ref a) xs) (hz : xs.length ≤ 40000)
    (turn : ∀ u x Z1 H1, x ∈ xs → Ik Z u x → T [] Z H Z1 H1 → ∀ A : VK, (∀ Z3 H3, T [] Z1 H1 Z3 H3 → A (.str (f x)) H3) → g u (wipe σ vs) H1 fun σ2 H2 => wipe σ2 vs = wipe σ vs ∧ te σ2 H2 A)
    (fin : ∀ D Z' H', H D = none → T [] Z H Z' H' → Z' D = some (.lst ((xs.map f).map V.str)) → Q (.ref D) H') : LcL K g tYes te vs σ (.ref a) H Q := by
  obtain ⟨b, us, e, h1, h2⟩ := h.list
  cases e
  have hl := Paired.length h2
  refine ⟨a, rfl, ⟨us, zh.sq (sq_of h1)⟩, lcT (n := xs.length) (M := []) (Z := Z) (fun _ => true) (fun _ _ _ => True) (fun i (x : Str) y Z => (∃ b, xs[i]? = some b ∧ x = f b) ∧ y = .str x) (fun i x y Z1 Z2 e r => r) (fun _ _ _ _ _ _ _ _ => trivial) hz zh (fun _ h => absurd h List.not_mem_nil) trivial
    (fun i Z1 H1 hi t => ⟨us, us[i]'(by omega), (t.z.trans t.zh).sq (sq_of h1), List.getElem?_eq_getElem (by omega)⟩) (fun Z1 H1 t => ⟨us, (t.z.trans t.zh).sq (sq_of h1), by omega⟩) (fun i hi D Z1 H1 t nD mu _ v H2 hy A B hA hB => ?_) (fun D ys L Z' H' nD t mu f1 _ hL pr => ?_)⟩
  · obtain ⟨rfl, fv⟩ := hy
    have hv := fv _ ((t.z.trans t.zh).sq (sq_of h1))
    obtain ⟨x, hx, ix⟩ := itemK h2 hv
    rw [lc_yes]
    exact turn v x Z1 H2 (List.mem_of_getElem? hx) ix t A fun Z3 H3 t3 => hA rfl (f x) _ Z3 H3 t3 trivial ⟨⟨x, hx, rfl⟩, rfl⟩
  · have e2 : L.map Prod.snd = xs.map f := by
      rw [kept_snd (xs := xs) (f := f) (fun q hq => by
        obtain ⟨y, hy⟩ := paired_r pr q hq
        exact hy.1), hL, filter_yes, rg_take, List.take_length]
    have e3 : ys = (L.map Prod.snd).map V.str := by
      clear e2 hL f1
      induction pr with
      | nil => rfl
      | cons a t ih => rw [List.map_cons, List.map_cons, ← ih, a.2]
    rw [e3, e2] at f1
    exact t_fzV mu t.zh f1 fun Z2 H2 t2 z2 => fin D Z2 H2 nD (t.step t2 (mm_cons (.inr nD) mm_nil)) z2
end
end TR
namespace TR
open PySem L2 TL
/-- a step that can be written -/
noncomputable def StpT : Stp → Prop
  | .rooms m => 0 ≤ m ∧ m ≤ 130
  | .cut r m => 0 ≤ r ∧ r ≤ 130 ∧ 0 ≤ m ∧ m ≤ 130
  | .row r a w => 0 ≤ r ∧ r ≤ 130 ∧ 0 ≤ a ∧ a ≤ 130 ∧ (∀ e ∈ w, EntW e) ∧ w.length ≤ 150
theorem len_app (x y : Str) : (x ++ y).length = x.length + y.length := by rw [len_tl, tl_append, List.length_append, ← len_tl, ← len_tl]
end TR
namespace TR
open PySem L2 TL
section
variable {K : PySem.W.Frag} {σ : L2.St} {H Z : Hp} {te : TE} {Q : VK} {g : TG} {vs : List Nat} {a : Addr} {us : List V}
/-- a yard that can be written -/
noncomputable def YardT (y : Yard) : Prop := (1 ≤ y.a ∧ y.a ≤ 8) ∧ (1 ≤ y.b ∧ y.b ≤ 130) ∧ y.c.length ≤ 200 ∧ (y.c.map List.length).sum ≤ 600 ∧ (∀ rs ∈ y.c, ∀ r ∈ rs, (∀ e ∈ r, EntW e) ∧ r.length ≤ 20) ∧ y.c.getLast? ≠ some []
end
end TR
namespace TR
open PySem L2 TL
end TR
namespace TR
open PySem L2 TL
theorem joinT_len {s : Str} {xs : List Str} : (Txt.join s xs).length ≤ (xs.map (·.length)).sum + xs.length * s.length := by
  rw [join_eq]
  have key : ∀ xs : List Str, (Str.join s xs).length ≤ (xs.map (·.length)).sum + xs.length * s.length := by
    intro xs
    induction xs with
    | nil => exact Nat.zero_le _
    | cons x xs ih =>
      cases xs with
      | nil =>
        show x.length ≤ x.length + 0 + 1 * s.length
        omega
      | cons z r =>
        show (x ++ s ++ Str.join s (z :: r)).length ≤ _
        rw [len_app, len_app, List.map_cons, List.sum_cons, List.length_cons (as := z :: r), Nat.succ_mul]
        omega
  exact key xs
end TR
namespace TR
open PySem L2
end TR
namespace TR
open PySem L2
end TR
namespace TR
open PySem L2
/-- a part of a step, and its text -/
noncomputable def PartT (Z : Hp) (u : V) (x : Str) : Prop := (∃ i : Int, u = .int i ∧ 0 ≤ i ∧ i ≤ 130 ∧ x = numS i) ∨ ∃ (b : Addr) (w : Row), u = .ref b ∧ Ik Z (.ref b) w ∧ (∀ e ∈ w, EntW e) ∧ w.length ≤ 150 ∧ x = rowS w
end TR
namespace TR
open PySem L2
section
variable {K : PySem.W.Frag} {Z H : Hp} {Q : VK} {D q : Addr} {qs : List Addr} {α : Type} {iα : Py α} {rs : List (List α)} {r : List α}
end
end TR

/-! tables: looks, find; tables of the same entries in another order -/
namespace TR
open PySem L2
noncomputable def looksT (w f : Int) (l : Row) (k : Int) : Bool × Int := lookedI (rowsOf (keysT_ f l (roomOf k (roomsT f l))) w) k 0
noncomputable def spTLooks (K : PySem.W.Frag) : Sp := fun vs H Q E => ∃ (a D : Addr) (w f : Int) (l : Row) (Z : Hp) (v : V) (n : String), vs = [.ref a, v] ∧ Tb K Z H a D w f l ∧ KindV K H v n ∧
  (keyV v = false → ∀ d, H d = none → E (.ref (clsA K "NoKey")) (some d) (upd H d (.xd [("key", v)]))) ∧
  ∀ k, v = .int k → keyV v = true → ∀ p Z' H', H p = none → T [D] Z H Z' H' → Tb K Z' H' a D w f l → Z' p = some (.tup [.bl (looksT w f l k).1, .int (looksT w f l k).2]) → Q (.ref p) H'
noncomputable def spTFind (K : PySem.W.Frag) : Sp := fun vs H Q E => ∃ (a D : Addr) (w f : Int) (l : Row) (Z : Hp) (v : V) (n : String), vs = [.ref a, v] ∧ Tb K Z H a D w f l ∧ KindV K H v n ∧
  (keyV v = false → ∀ d, H d = none → E (.ref (clsA K "NoKey")) (some d) (upd H d (.xd [("key", v)]))) ∧
  ∀ k, v = .int k → keyV v = true →
    (k ∉ l.map Prod.fst → ∀ d, H d = none → E (.ref (clsA K "Lacking")) (some d) (upd H d (.xd [("key", v)]))) ∧
    (∀ t, thingOf l k = some t → ∀ p Z' H', H p = none → T [D] Z H Z' H' → Tb K Z' H' a D w f l → Z' p = some (.tup [.str t.1, .int (looksT w f l k).2]) → Q (.ref p) H')
section
variable {K : PySem.W.Frag} {Z H Z' H' : Hp} {Q : VK} {E : XK} {a D : Addr} {w f : Int} {l : Row} {k : Int}
end
/-! a looked for key -/
/-! the same entries in another order -/
section
variable {l m : Row} {w f r k : Int}
end
/-- what a law's state tells -/
noncomputable def cntsT (f : Int) (l : Row) : List Int := (List.range (roomsT f l).toNat).map fun (i : Nat) => ((keysT_ f l (i : Int)).length : Int)
noncomputable abbrev St6 : Type := T6 Int Int Row (List (List Row)) Int (Int × Int)
noncomputable def st6 (w f : Int) (l : Row) (m : Int) (j : Nat) : St6 := T6.mk (l.length : Int) (roomsT f l) (sortE l) ((List.range (roomsT f l).toNat).map fun (i : Nat) => rowsE w f l (i : Int)) (spillI (cntsT f l) w) (m, (j : Int))
end TR
namespace TR
open PySem L2
section
variable {K : PySem.W.Frag} {Z H : Hp} {D : Addr} {α : Type} {iα : Py α} {l : List α} {Q : VK} {i : Int}
end
end TR
namespace TR
open PySem L2
end TR
namespace TR
open PySem L2
end TR
namespace TR
open PySem L2
end TR
namespace TR
open PySem L2
noncomputable def toldX : Tx := ⟨"told", by decide +kernel⟩
noncomputable def lackX : Tx := ⟨"lacking", by decide +kernel⟩
end TR
namespace TR
end TR

/-! keepers and tables -/
namespace TR
open PySem L2
section
variable {w f k : Int} {l : Row}
end
end TR

/-! a call by one of two classes; every second thing of a list -/
namespace TR
open PySem L2 PySem.Spec PyProof.Rows
noncomputable def tOr2 (t1 t2 : TE) : TE := fun σ H Q => t1 σ H Q ∨ t2 σ H Q
noncomputable def tSl2 (K : PySem.W.Frag) (te : TE) : TE := fun σ H Q => te σ H fun x H1 => ∃ a xs, x = .ref a ∧ SqL K H1 a xs ∧ ∀ p (ys : List V), H1 p = none → (∀ y ∈ ys, y ∈ xs) → ys.length ≤ xs.length → Q (.ref p) (upd H1 p (.lst ys))
end TR

/-! the steps that are due: of a change, of a mending -/
namespace TR
open PySem L2
section
variable {w r k f : Int} {es : Row} {t : Tx} {y : Yard} {ss : List Stp}
/-- one room more, or fewer, where there have to be -/
noncomputable def moreS (w f : Int) (es : Row) (r : Int) : List Stp := if r < roomsFor (es.length : Int) f then splitS (cleanY w r es) else if roomsFor (es.length : Int) f < r then joinS (cleanY w r es) else []
/-- what is due of a deed -/
noncomputable def dueS (f : Int) (y : Yard) (d : T3 Tx Int Tx) : List Stp := if d.a.1 = "put" then putKS f y d.b d.c else dropKS f y d.b
end
end TR
namespace TR
open PySem L2
end TR
namespace TR
open PySem L2
/-- all the stops, all things are names -/
structure KGN (w f : Int) (y : Yard) (ss : List Stp) : Prop where
  kg : KG w f y ss
  nm : ∀ m, ∀ e ∈ standY ((ss.take m).foldl doneY y), nameB e.2.1 = true
section
variable {w f k : Int} {t : Tx} {y : Yard} {ss : List Stp}
end
end TR

/-! what a keeper and a table tell alike -/
namespace TR
open PySem L2
instance {α β : Type} [Py α] [Py β] : Py (Option (α × β)) := ⟨fun o => match o with | none => .none | some p => Py.d p, Py.dep (α × β), fun o => by
  cases o with
  | none => exact Nat.zero_le _
  | some p => exact Py.depth p, fun o => by
  cases o with
  | none => rfl
  | some p => exact Py.can p, fun a b => by
  cases a <;> cases b
  · exact ⟨fun _ => rfl, fun _ => rfl⟩
  · exact ⟨fun h => (Bool.false_ne_true h).elim, fun h => nomatch h⟩
  · exact ⟨fun h => (Bool.false_ne_true h).elim, fun h => nomatch h⟩
  · rename_i x y
    show (PyData.eqv (Py.d x) (Py.d y) = true) ↔ some x = some y
    rw [Py.eqv]
    exact ⟨fun h => congrArg some h, fun h => Option.some.inj h⟩⟩
section
variable {K : PySem.W.Frag} {H : Hp} {α β : Type} [Py α] [Py β]
end
/-- the thing and the looks, None where there is none -/
noncomputable def findD (y : Yard) (k : Int) : Option (Tx × Int) := (fY y k).map fun x => (x, (foundI y k).2)
noncomputable def findT (w f : Int) (l : Row) (k : Int) : Option (Tx × Int) := (thingOf l k).map fun x => (x, (looksT w f l k).2)
end TR
namespace TR
open PySem L2
/-- a keeper that is as a table -/
structure Twin (K : PySem.W.Frag) (Z H : Hp) (a P t D : Addr) (w f : Int) (ks : List Int) (y : Yard) (l : Row) : Prop where
  kp : Kp K Z H a P w f y []
  tb : Tb K Z H t D w f l
  aD : a ≠ D
  PD : P ≠ D
  ki : KI 66 w f ks y []
  st : sortE l = standY y
section
variable {K : PySem.W.Frag} {Z H Z' H' : Hp} {a P t D : Addr} {w f : Int} {ks : List Int} {y : Yard} {l : Row}
end
end TR
namespace TR
open PySem L2
end TR
namespace TR
open PySem L2
end TR
namespace TR
open PySem L2
/-- the entries behind a deed -/
noncomputable def newL (l : Row) (d : T3 Tx Int Tx) : Row := if d.a.1 = "put" then setE l d.b d.c else outE l d.b
section
variable {w f : Int} {y : Yard} {ss : List Stp} {l : Row} {d : T3 Tx Int Tx}
end
end TR
namespace TR
open PySem L2
noncomputable def tZ1 : Tx := ⟨"z", by decide +kernel⟩
noncomputable def tA1 : Tx := ⟨"a", by decide +kernel⟩
end TR

/-! any text, read: what is written, or nothing -/
namespace TR
open PySem L2 TL
/-! ### numbers -/
noncomputable def figsB (x : Str) : Bool := decide (1 ≤ x.length ∧ x.length ≤ 30) && !(decide ((tl x)[0]? = some 48) && decide (1 < x.length)) && (tl x).all fun c => decide (48 ≤ c ∧ c ≤ 57)
noncomputable def numO (x : Str) : Option Int := if figsB x = true then some ((NumText.digitsVal (tl x) : Nat) : Int) else none
theorem figs_back : ∀ (n : Nat) (l : List Nat), l.length = n → l ≠ [] → (∀ c ∈ l, 48 ≤ c ∧ c ≤ 57) → (l[0]? = some 48 → l.length = 1) → numL (NumText.digitsVal l) = l ∧ NumText.digitsVal l < 10 ^ l.length := by
  intro n
  induction n with
  | zero => intro l hl hn; exact absurd (List.eq_nil_of_length_eq_zero hl) hn
  | succ n ih =>
    intro l hl hn hd h0
    obtain ⟨l', c, rfl⟩ : ∃ l' c, l = l' ++ [c] := ⟨l.dropLast, l.getLast hn, (List.dropLast_concat_getLast hn).symm⟩
    have hc := hd c (List.mem_append_right _ List.mem_cons_self)
    rw [NumText.digitsVal_snoc]
    rw [List.length_append] at hl
    by_cases e : l' = []
    · subst e
      have e0 : NumText.digitsVal [] = 0 := rfl
      rw [e0, Nat.zero_mul, Nat.zero_add, numL_lt (by omega)]
      refine ⟨?_, ?_⟩
      · show [48 + (c - 48)] = [c]
        congr 1
        omega
      · show c - 48 < 10 ^ 1
        omega
    · have hl' : l'.length = n := by
        have : [c].length = 1 := rfl
        omega
      have p1 : 1 ≤ l'.length := List.length_pos_iff.mpr e
      have hx : (l' ++ [c])[0]? = l'[0]? := List.getElem?_append_left (by omega)
      have no : l'[0]? ≠ some 48 := fun z => by
        have := h0 (hx.trans z)
        rw [List.length_append] at this
        have : [c].length = 1 := rfl
        omega
      obtain ⟨i1, i2⟩ := ih l' hl' e (fun d m => hd d (List.mem_append_left _ m)) (fun z => absurd z no)
      have pos : 1 ≤ NumText.digitsVal l' := by
        refine Nat.pos_of_ne_zero fun z => ?_
        rw [z, numL_lt (by omega)] at i1
        rw [← i1] at no
        exact no rfl
      rw [numL_step (by omega)]
      have d1 : (NumText.digitsVal l' * 10 + (c - 48)) / 10 = NumText.digitsVal l' := by omega
      have d2 : (NumText.digitsVal l' * 10 + (c - 48)) % 10 = c - 48 := by omega
      rw [d1, d2, i1]
      refine ⟨?_, ?_⟩
      · congr 2
        omega
      · rw [List.length_append]
        show _ < 10 ^ (l'.length + 1)
        rw [Nat.pow_succ]
        omega
theorem figs_num {x : Str} (h : figsB x = true) : ∃ n : Nat, x = numS (n : Int) ∧ (n : Int) < 1000000000000000000000000000000 ∧ numO x = some (n : Int) := by
  have h' := h
  unfold figsB at h
  simp only [Bool.and_eq_true, Bool.not_eq_true', Bool.and_eq_false_iff, decide_eq_true_eq, decide_eq_false_iff_not, List.all_eq_true] at h
  obtain ⟨⟨⟨l1, l2⟩, z⟩, d⟩ := h
  have ll : (tl x).length = x.length := (len_tl x).symm
  obtain ⟨b1, b2⟩ := figs_back (tl x).length (tl x) rfl (fun e => by rw [e] at ll; have : ([] : List Nat).length = 0 := rfl; omega) d (fun e => by
    rcases z with z | z
    · exact absurd e z
    · omega)
  refine ⟨NumText.digitsVal (tl x), tl_ext ?_, ?_, ?_⟩
  · rw [tl_numS (by omega)]
    exact b1.symm
  · have : 10 ^ (tl x).length ≤ 10 ^ 30 := Nat.pow_le_pow_right (by decide) (by omega)
    have e30 : (10 : Nat) ^ 30 = 1000000000000000000000000000000 := by decide
    omega
  · unfold numO
    rw [if_pos h']
theorem figs_no {x : Str} (h : figsB x = false) : numO x = none := by
  unfold numO
  rw [h]
  rfl
noncomputable def fewO (x : Str) (a b : Int) : Option Int := match numO x with
  | some n => if a ≤ n ∧ n ≤ b then some n else none
  | none => none
/-! ### lists of what may be nothing -/
noncomputable def allO {α : Type} : List (Option α) → Option (List α)
  | [] => some []
  | none :: _ => none
  | some a :: r => match allO r with
    | some l => some (a :: l)
    | none => none
theorem allO_some {α : Type} : ∀ {l : List (Option α)} {r : List α}, allO l = some r → l = r.map some
  | [], r, h => by cases h; rfl
  | none :: _, _, h => by cases h
  | some a :: l, r, h => by
    unfold allO at h
    split at h
    · cases h
      rename_i e
      rw [List.map_cons, ← allO_some e]
    · cases h
theorem allO_map {α : Type} : ∀ r : List α, allO (r.map some) = some r
  | [] => rfl
  | a :: r => by
    rw [List.map_cons]
    unfold allO
    rw [allO_map r]
theorem allO_none {α : Type} {l : List (Option α)} : allO l = none ↔ none ∈ l := by
  induction l with
  | nil => exact ⟨fun h => (nomatch h), fun h => absurd h List.not_mem_nil⟩
  | cons a l ih =>
    cases a with
    | none => exact ⟨fun _ => List.mem_cons_self, fun _ => rfl⟩
    | some a =>
      unfold allO
      constructor
      · intro h
        split at h
        · cases h
        · rename_i e
          exact List.mem_cons_of_mem _ (ih.mp e)
      · intro h
        rcases List.mem_cons.mp h with h | h
        · cases h
        · rw [ih.mpr h]
theorem allO_snoc {α : Type} {l : List (Option α)} {r : List α} {a : α} (h : allO l = some r) : allO (l ++ [some a]) = some (r ++ [a]) := by
  rw [allO_some h]
  have : r.map some ++ [some a] = (r ++ [a]).map some := by rw [List.map_append]; rfl
  rw [this, allO_map]
/-! ### what a text writes -/
theorem nameB_strOk {x : Str} (h : nameB x = true) : PyData.strOk x = true := strOk_iff.mpr fun c hc => by
  have := (nameB_low h).2.2 c hc
  omega
noncomputable def entO (x : Str) : Option Ent := match Txt.split x "=" with
  | [a, b] => (match fewO a 0 1152921504606846975 with
    | some n => if h : nameB b = true then some (n, ⟨b, nameB_strOk h⟩) else none
    | none => none)
  | _ => none
noncomputable def rowO (x : Str) : Option Row := if x = "-" then some [] else allO ((Txt.split x ",").map entO)
noncomputable def rowsO (x : Str) : Option (List Row) := if x = "none" then some [] else allO ((Txt.split x ";").map rowO)
noncomputable def stepR : Option Int → Option Int → Option Row → Option Stp
  | some m, some n, some r => some (.row m n r)
  | _, _, _ => none
noncomputable def stepC : Option Int → Option Int → Option Stp
  | some m, some n => some (.cut m n)
  | _, _ => none
noncomputable def stepM : Option Int → Option Stp
  | some m => some (.rooms m)
  | none => none
noncomputable def stepP : List Str → Option Stp
  | [a, b, c, d] => if a = "row" then stepR (fewO b 0 130) (fewO c 0 130) (rowO d) else none
  | [a, b, c] => if a = "cut" then stepC (fewO b 0 130) (fewO c 0 130) else none
  | [a, b] => if a = "rooms" then stepM (fewO b 1 130) else none
  | _ => none
noncomputable def stepO (x : Str) : Option Stp := stepP (Txt.split x " ")
noncomputable def lastE (h : List (List Row)) : Bool := decide (h ≠ []) && decide (h.getLast? = some [])
noncomputable def yardQ : Option Int → Option Int → Option (List (List Row)) → Option Yard
  | some m, some n, some h => if lastE h = true then none else some ⟨m, n, h⟩
  | _, _, _ => none
noncomputable def yardP : List Str → Option Yard
  | a :: b :: r => yardQ (fewO a 1 8) (fewO b 1 130) (allO (r.map rowsO))
  | _ => none
noncomputable def yardO (x : Str) : Option Yard := yardP (Txt.split x " ")
section
variable {a b : Str} {r : List Str}
end
/-! ### split, by one sign -/
theorem spl_ne (S : List Nat) : ∀ (l : List Nat) (k : Nat) (acc : List Nat), TL.spl S k acc l ≠ []
  | [], k, acc => by rw [TL.spl_nil]; exact List.cons_ne_nil _ _
  | c :: r, 0, acc => by
    show (if pre S (c :: r) = true then acc :: TL.spl S (S.length - 1) [] r else TL.spl S 0 (acc ++ [c]) r) ≠ []
    split
    · exact List.cons_ne_nil _ _
    · exact spl_ne S r _ _
  | _ :: r, k + 1, acc => spl_ne S r k acc
/-- a separator of one sign -/
noncomputable def Sep (y : Str) (s : Nat) : Prop := tl y = [s] ∧ y.cps.all (· < 256) = true
theorem Sep.spl {x y : Str} {s : Nat} (h : Sep y s) : (Txt.split x y).map tl = TL.spl [s] 0 [] (tl x) := by
  have := split_spl x y (by rw [h.1]; exact List.cons_ne_nil _ _) (kind_ok h.2)
  rw [this, h.1]
theorem Sep.len {y : Str} {s : Nat} (h : Sep y s) : y.length = 1 := by rw [len_tl, h.1]; rfl
theorem split_sum {x y : Str} {s : Nat} (h : Sep y s) : ((Txt.split x y).map (·.length)).sum + (Txt.split x y).length ≤ x.length + 1 ∧ 1 ≤ (Txt.split x y).length := by
  have e := PySem.StrLaws.join_split x y
  have hy := h.len
  have go : ∀ l : List Str, l ≠ [] → (l.map (·.length)).sum + l.length ≤ (Str.join y l).length + 1 := by
    intro l
    induction l with
    | nil => intro h; exact absurd rfl h
    | cons a l ih =>
      intro _
      cases l with
      | nil =>
        show a.length + 0 + 1 ≤ a.length + 1
        omega
      | cons b l =>
        have := ih (List.cons_ne_nil _ _)
        have e2 : (Str.join y (a :: b :: l)).length = a.length + y.length + (Str.join y (b :: l)).length := by
          show (a ++ y ++ Str.join y (b :: l)).length = _
          rw [len_app, len_app]
        rw [e2, List.map_cons, List.sum_cons, List.length_cons]
        omega
  have ne : Txt.split x y ≠ [] := fun z => spl_ne [s] (tl x) 0 [] (by rw [← h.spl, z]; rfl)
  have := go _ ne
  rw [e] at this
  exact ⟨this, List.length_pos_iff.mpr ne⟩
theorem split_part {x y p : Str} {s : Nat} (h : Sep y s) (hp : p ∈ Txt.split x y) : p.length ≤ x.length := by
  have h1 := (split_sum (x := x) h).1
  have h2 : p.length ≤ ((Txt.split x y).map (·.length)).sum := by
    have : ∀ l : List Str, p ∈ l → p.length ≤ (l.map (·.length)).sum := by
      intro l
      induction l with
      | nil => intro h; exact absurd h List.not_mem_nil
      | cons a l ih =>
        intro h
        rw [List.map_cons, List.sum_cons]
        rcases List.mem_cons.mp h with h | h
        · rw [h]; omega
        · have := ih h
          omega
    exact this _ hp
  have h3 := (split_sum (x := x) h).2
  omega
/-! ### an entry, by partition -/
end TR

/-! == of two tuples whose things are data, or the very same thing -/
namespace L2
open PySem PySem.W PySem.Spec TR
inductive EqV (K : PySem.W.Frag) (H : Hp) : V → V → Bool → Prop where
  | dat {x y : V} {d e : PyData} (h1 : Dp K H x d) (h2 : Dp K H y e) (s1 : SeqAt.shaped d = true) (s2 : SeqAt.shaped e = true) : EqV K H x y (PyData.eqv d e)
  | same (a : Addr) : EqV K H (.ref a) (.ref a) true
noncomputable def rEqT (K : PySem.W.Frag) : R2 := fun x y H Q => ∃ (a b : Addr) (xs ys : List V) (e : Nat → Bool), x = .ref a ∧ y = .ref b ∧ SqT K H a xs ∧ SqT K H b ys ∧ xs.length = ys.length ∧ (∀ (j : Nat) v w, xs[j]? = some v → ys[j]? = some w → EqV K H v w (e j)) ∧ Q (.bl ((List.range xs.length).all e)) H
section
variable {X : Cx}
end
end L2

/-! rules for any text, read: a raising comprehension over a list, None in a list, a call by value, '1' * n, partition -/
namespace L2
open PySem PySem.W PySem.Spec TR
/-- None among data -/
noncomputable def rNoneD (K : PySem.W.Frag) (neg : Bool) : R2 := fun x y H Q => ∃ p xs, x = .non ∧ y = .ref p ∧ SqL K H p xs ∧ (∀ z ∈ xs, ∃ d, Dp K H z d ∧ SeqAt.shaped d = true ∧ PyData.eqv d .none = isNon z) ∧ Q (.bl (if neg then !xs.any isNon else xs.any isNon)) H
section
variable {X : Cx}
/-- a text, so many times -/
noncomputable def rMulS : R2 := fun x y H Q => ∃ a n, x = .str a ∧ y = .int n ∧ MulOk a n ∧ Q (.str (Txt.mul a n)) H
theorem op_mulS : OpR X (binaryOp .Mult) rMulS := by
  intro pins s σ H x y v u Q I rx ry h
  obtain ⟨a, n, rfl, rfl, ok, q⟩ := h
  obtain ⟨t, rfl⟩ := rx
  obtain ⟨t', rfl⟩ := ry
  exact PySem.SB.mul ok fun t2 k => ⟨.str _, H, I.tok k, ⟨t2, rfl⟩, q⟩
end
end L2
namespace TR
open PySem L2 PySem.Spec PyProof.Rows
/-- one of several defs, by value -/
noncomputable def tCallV (mg : Str → Option Value) (A : List (Str × Sp)) (tf : TE) (t : TA) : TE := fun σ H Q => tf σ H fun v H1 => ∃ x sp f, (x, sp) ∈ A ∧ mg x = some (.ref f) ∧ v = .ref f ∧ t σ H1 fun vs H2 => sp vs H2 Q E0
noncomputable def fnA (mg : Str → Option Value) (x : Str) : Addr := match mg x with
  | some (.ref f) => f
  | _ => 0
noncomputable def rPart : V → List V → Hp → VK → Prop := fun x xs H Q => ∃ a b, x = .str a ∧ xs = [.str b] ∧ (b.length == 0) = false ∧ a.length ≤ sizeLine ∧
  ∀ p, H p = none → Q (.ref p) (upd H p (.tup [.str (Txt.partition a b).1, .str (Txt.partition a b).2.1, .str (Txt.partition a b).2.2]))
section
variable {K : PySem.W.Frag} {σ : L2.St} {H Z : Hp} {te : TE} {Q : VK} {g : TG} {vs : List Nat} {p : Addr} {us : List V}
/-- over a list: what each thing gives, or nothing: then it is left -/
theorem c_mapXO {β γ : Type} [Py γ] {G : V → β → Prop} {L : List β} {Er : Hp → Prop} (F : β → Option γ) (zh : Ex Z H) (h1 : H p = some (.lst us)) (pr : Paired G us L) (hz : L.length ≤ 4000000)
    (turn : ∀ u x Z1 H1, G u x → x ∈ L → T [] Z H Z1 H1 → ∀ A : VK, (∀ v y Z3 H3, F x = some v → T [] Z1 H1 Z3 H3 → Ik Z3 y v → A y H3) → (F x = none → ∀ Z3 H3, T [] Z1 H1 Z3 H3 → Er H3) → g u (wipe σ vs) H1 fun σ2 H2 => wipe σ2 vs = wipe σ vs ∧ te σ2 H2 A)
    (fin : ∀ D l Z' H', H D = none → allO (L.map F) = some l → T [] Z H Z' H' → Lm Z' H' D l → Q (.ref D) H')
    (err : allO (L.map F) = none → ∀ Z' H', T [] Z H Z' H' → Er H') : LcL K g tYes te vs σ (.ref p) H Q := by
  have hl := Paired.length pr
  refine ⟨p, rfl, ⟨us, sq_of h1⟩, fun D hD => ?_⟩
  refine ⟨fun i m H' => m = L.length - i ∧ i ≤ L.length ∧ ∃ Z', T [] Z H Z' H' ∧ ∃ l : List γ, allO ((L.take i).map F) = some l ∧ l.length ≤ i ∧ Lm Z' H' D l,
    ⟨L.length, by omega, by omega, Z, T.newM hD zh, [], rfl, Nat.le_refl _, ⟨⟨[], upd_same, .nil⟩, Ex.back zh hD, (T.newM (M := []) (o := .lst []) hD zh).zh⟩⟩, ?_⟩
  rintro i m H' ⟨rfl, hi, Z', t, l, hA, hlen, lm⟩
  by_cases hlt : i < L.length
  · refine .inr ⟨⟨us, us[i]'(by omega), sq_of (t.hp nm_nil h1), List.getElem?_eq_getElem (by omega)⟩, fun H'' => i + 1 ≤ L.length ∧ ∃ Z', T [] Z H Z' H'' ∧ ∃ l : List γ, allO ((L.take (i + 1)).map F) = some l ∧ l.length ≤ i + 1 ∧ Lm Z' H'' D l,
      fun H'' q => ⟨L.length - (i + 1), by omega, rfl, q⟩, fun v H2 hy => ?_⟩
    obtain ⟨rfl, fv⟩ := hy
    have hv := fv _ (sq_of (t.hp nm_nil h1))
    obtain ⟨q, hq, gq⟩ := pair_at pr hv
    rw [lc_yes]
    have et : L.take (i + 1) = L.take i ++ [q] := by rw [List.take_add_one, hq]; rfl
    refine turn v q Z' H2 gq (List.mem_of_getElem? hq) t _ (fun w y Z3 H3 hF t3 iy => ?_) fun hF Z3 H3 t3 => ?_
    · have lm3 := lm.tt t3 nm_nil
      have t4 : T [] Z H Z3 H3 := t.step t3 mm_nil
      obtain ⟨⟨ws, f1, f2⟩, z1, z2⟩ := id lm3
      have t5 : T [D] Z3 H3 Z3 (upd H3 D (.lst (ws ++ [y]))) := T.set lm3.mu t4.zh
      have hw := Paired.length f2
      refine ⟨ws, f1, ?_, by omega, Z3, t4.step t5 (mm_cons (.inr hD) mm_nil), l ++ [w], ?_, ?_, ⟨⟨_, upd_same, Paired.snoc f2 iy⟩, z1, t5.zh⟩⟩
      · rw [sizeLine_eq]
        omega
      · rw [et, List.map_append]
        show allO (_ ++ [F q]) = _
        rw [hF]
        exact allO_snoc hA
      · rw [List.length_append]
        show _ + 1 ≤ _
        omega
    · refine err (allO_none.mpr ?_) Z3 H3 (t.step t3 mm_nil)
      rw [← hF]
      exact List.mem_map_of_mem (List.mem_of_getElem? hq)
  · have ei : i = L.length := by omega
    subst ei
    rw [List.take_length] at hA
    exact .inl ⟨⟨us, sq_of (t.hp nm_nil h1), by omega⟩, fin D l Z' H' hD hA t lm⟩
/-- .. nothing is left -/
theorem c_mapB {β γ : Type} [Py γ] {G : V → β → Prop} {L : List β} (F : β → γ) (zh : Ex Z H) (h1 : H p = some (.lst us)) (pr : Paired G us L) (hz : L.length ≤ 4000000)
    (turn : ∀ u x Z1 H1, G u x → x ∈ L → T [] Z H Z1 H1 → ∀ A : VK, (∀ y Z3 H3, T [] Z1 H1 Z3 H3 → Ik Z3 y (F x) → A y H3) → g u (wipe σ vs) H1 fun σ2 H2 => wipe σ2 vs = wipe σ vs ∧ te σ2 H2 A)
    (fin : ∀ D Z' H', H D = none → T [] Z H Z' H' → Lm Z' H' D (L.map F) → Q (.ref D) H') : LcL K g tYes te vs σ (.ref p) H Q := by
  have e : allO (L.map fun x => some (F x)) = some (L.map F) := by
    rw [show (L.map fun x => some (F x)) = (L.map F).map some by rw [List.map_map]; rfl, allO_map]
  refine c_mapXO (Er := fun _ => False) (fun x => some (F x)) zh h1 pr hz (fun u x Z1 H1 hG hx t A hA _ => turn u x Z1 H1 hG hx t A fun y Z3 H3 t3 iy => hA _ y Z3 H3 rfl t3 iy) (fun D l Z' H' nD hl t lm => ?_) fun h => ?_
  · rw [e] at hl
    cases hl
    exact fin D Z' H' nD t lm
  · rw [e] at h
    cases h
end
end TR

/-! what is handed to the readers: a text, or no text -/
namespace TR
open PySem L2
noncomputable def AnyT (K : PySem.W.Frag) (H : Hp) (v : V) : Prop := (∃ x, v = .str x ∧ x.length ≤ 3000000) ∨ ((∃ n, KindV K H v n) ∧ ∀ x, v ≠ .str x)
noncomputable def ofT {α : Type} (F : Str → Option α) : V → Option α
  | .str x => F x
  | _ => none
section
variable {Z H Z1 H1 : Hp} {D : Addr} {α : Type} [Py α] {l : List α}
theorem lm_fin (t : T [] Z H Z1 H1) (n : H D = none) (lm : Lm Z1 H1 D l) : ∃ Z2, T [] Z H Z2 H1 ∧ Ls Z2 D l := by
  obtain ⟨Z2, H2, e, t2, ls⟩ := lm.frq
  subst e
  exact ⟨Z2, t.step t2 (mm_1 (.inr n)), ls⟩
end
end TR

namespace TR
open PySem L2
section
variable {a b c d : Str} {r : List Str}
theorem len4 (h : (a :: r).length = 4) : ∃ b c d, r = [b, c, d] := by
  rcases r with _ | ⟨b, _ | ⟨c, _ | ⟨d, _ | ⟨e, r⟩⟩⟩⟩ <;> first | exact ⟨_, _, _, rfl⟩ | (simp at h)
end
end TR

/-! what may be nothing, as data -/
namespace TR
open PySem L2
instance {α : Type} [Py α] : Py (Option (List α)) := ⟨fun o => match o with | none => .none | some p => Py.d p, Py.dep (List α), fun o => by
  cases o with
  | none => exact Nat.zero_le _
  | some p => exact Py.depth p, fun o => by
  cases o with
  | none => rfl
  | some p => exact Py.can p, fun a b => by
  cases a <;> cases b
  · exact ⟨fun _ => rfl, fun _ => rfl⟩
  · exact ⟨fun h => (Bool.false_ne_true h).elim, fun h => (nomatch h)⟩
  · exact ⟨fun h => (Bool.false_ne_true h).elim, fun h => (nomatch h)⟩
  · rename_i x y
    show (PyData.eqv (Py.d x) (Py.d y) = true) ↔ some x = some y
    rw [Py.eqv]
    exact ⟨fun h => congrArg some h, fun h => Option.some.inj h⟩⟩
noncomputable def optY {α : Type} [Py α] : Option α → PyData
  | none => .none
  | some a => Py.d a
section
variable {K : PySem.W.Frag} {Z H : Hp} {Q : VK} {p : Addr} {γ : Type} [Py γ] [Py (Option γ)] {l : List (Option γ)}
end
end TR

/-! isinstance of an exception that a suite holds: it has its own dict -/
namespace TR
open PySem L2 PySem.Spec PyProof.Rows
structure IsxC (K : PySem.W.Frag) (C : Addr) : Prop where
  x : XfC K C
  ha : PySem.W.findIn K (.ref C) "__class__" = some (some (.builtin "object.__class__"))
  hn : PySem.W.specialIn K (.builtin "object.__class__") "__get__" = some (some (.builtin "getset_descriptor.__get__"))
  ht : PySem.W.takesIn K (.builtin "object.__class__") = some true
  hm : PySem.W.mroIn K C (.type "object") = some true
/-- isinstance(e, c) | isinstance(e, (c1, c2, ..)): a the exception, cls its class, d its dict -/
noncomputable def rIsX (K : PySem.W.Frag) (a : Addr) (cls : Value) (d : Option Addr) (D : Addr) : List V → Hp → VK → Prop := fun xs H Q => ∃ (c : V) (u : Value) (b : Bool) (dd : Addr) (fs : List (Str × V)), xs = [.ref a, c] ∧ cls = .ref D ∧ d = some dd ∧ H dd = some (.xd fs) ∧ ClsV c u ∧ PySem.W.kitOne K (.ref D) u = some b ∧ Q (.bl b) H
noncomputable def rIsXT (K : PySem.W.Frag) (a : Addr) (cls : Value) (d : Option Addr) (D : Addr) : List V → Hp → VK → Prop := fun xs H Q => ∃ (tp : Addr) (cs : List V) (us : List Value) (b : Bool) (dd : Addr) (fs : List (Str × V)), xs = [.ref a, .ref tp] ∧ cls = .ref D ∧ d = some dd ∧ H dd = some (.xd fs) ∧ H tp = some (.tup cs) ∧ Paired ClsV cs us ∧ PySem.W.kitAny K (.ref D) us = some b ∧ Q (.bl b) H
section
variable {X : Cx} {K : PySem.W.Frag} {a D : Addr} {oe : Obj} {cls : Value} {d : Option Addr} {pn : List (Addr × Obj)}
end
section
variable {K : PySem.W.Frag} {H : Hp} {Q : VK} {a D dd tp : Addr} {fs : List (Str × V)} {b : Bool}
end
end TR

/-! several except clauses, with names or without -/
namespace TR
open PySem L2 PySem.Spec PyProof.Rows
noncomputable abbrev Cl : Type := Value × Option Nat × (Addr → Value → Option Addr → TS)
/-- what the clauses wish of an exception of the body, one behind the other -/
noncomputable def wCl (K : PySem.W.Frag) (Wout : WX) (D : Ends) : List Cl → WX
  | [] => Wout
  | (c, some i, ts) :: r => wAs K c i ts (wCl K Wout D r) D
  | (c, none, ts) :: r => wMany K (wCl K Wout D r) D [(c, ts)]
inductive ClOk (X : Cx) : ExceptHandler → Cl → Prop
  | plain {x : Str} {c : Value} {ts : Addr → Value → Option Addr → TS} {s₀ : Stmt} {ss : List Stmt} {np p : Pos} (hc : Names X x c)
      (hs : ∀ (a : Addr) (oe : Obj) (cls : Value) (d : Option Addr) (pn : List (Addr × Obj)), Zc cls d oe → (∃ vs, oe.data = .fields vs) → PSs (X.suite a ((a, oe) :: pn)) (s₀ :: ss) (ts a cls d)) :
      ClOk X (.ExceptHandler (some (.Name x np)) none (s₀ :: ss) p) (c, none, ts)
  | named {x n : Str} {c : Value} {i : Nat} {ts : Addr → Value → Option Addr → TS} {s₀ : Stmt} {ss : List Stmt} {np p : Pos} (hc : Names X x c) (hi : X.N[i]? = some n) (hl : X.env.kindOf n = some .local)
      (hs : ∀ (a : Addr) (oe : Obj) (cls : Value) (d : Option Addr) (pn : List (Addr × Obj)), Zc cls d oe → (∃ vs, oe.data = .fields vs) → PSs (X.suite a ((a, oe) :: pn)) (s₀ :: ss) (ts a cls d)) :
      ClOk X (.ExceptHandler (some (.Name x np)) (some n) (s₀ :: ss) p) (c, some i, ts)
inductive ClsOk (X : Cx) : List ExceptHandler → List Cl → Prop
  | nil : ClsOk X [] []
  | cons {h : ExceptHandler} {l : Cl} {hs : List ExceptHandler} {ls : List Cl} (a : ClOk X h l) (r : ClsOk X hs ls) : ClsOk X (h :: hs) (l :: ls)
section
variable {X : Cx} {body : List Stmt} {h0 : ExceptHandler} {hs0 : List ExceptHandler} {ls0 : List Cl} {pos : Pos} {tb : WX → TS} {Wout : WX}
theorem ps_try_cls (st : X.stack = X.env :: X.outer) (fr : X.env.frame = some X.env.locals) (nd : X.N.Nodup) (tk : Takes X Wout)
    (hb : ∀ (W : WX) (pn : List (Addr × Obj)) (xe : Value → Shared → Prop), Takes (X.tr pn xe) W → PassesOwn (model X.prog X.w) X.A X.env xe → PSs (X.tr pn xe) body (tb W))
    (hh : ClsOk X (h0 :: hs0) ls0) : PS X (.Try body (h0 :: hs0) [] [] pos) (fun D σ H => tb (wCl X.K Wout D ls0) D σ H) := by
  refine ⟨fun pins s σ H D I h => ?_⟩
  have ok := I.ok
  have fA : X.A.frames = some (X.env :: X.outer) := by rw [ok.frames, st]
  refine wpAny_Try_except ?_
  refine wpAny_mono ((hb (wCl X.K Wout D ls0) (X.pn ++ pins) (fun e s₁ => wpAny (model X.prog X.w) X.A (noteFrame e X.env) (fun _ s₂ => wpAny (model X.prog X.w) X.A (setFlight e none) (fun _ s₃ =>
    wpAny (model X.prog X.w) X.A (handleBy e X.env (h0 :: hs0)) (SP X pins D) X.xe s₃) X.xe s₂) X.xe s₁) (fun u s' xx => ?_) PassesOwn.looking).run [] s σ H D (I.toTry _) h) (fun f s1 q => ?_) (fun e s1 he => he)
  · obtain ⟨a, B, sI, pins', σ', H', cls, d, rfl, Jt, nb, up, sky, na, os, ag, w⟩ := xx
    have J := Jt.ofTry ok
    rw [st] at sky
    show wpAny (model X.prog X.w) X.A (noteFrame (.ref a) X.env) _ _ _
    refine Sky.land Zc.steady fA fr sky fun h3 fl3 up3 => ?_
    have J3 : Inv X pins σ' H' { s' with heap := h3 } := J.landed nb fl3.1 (up.trans up3) os ag
    obtain ⟨o3, v3, e3, z3, d3⟩ := fl3.there
    have out : a ∉ frs (X.env :: X.outer) := fun m => by
      obtain ⟨_, o', e', nf⟩ := fl3.2.2.1.mem m
      rw [e3] at e'; cases e'
      exact nf _ d3
    have nL : a ≠ X.env.locals := fun z => out (List.mem_filterMap.mpr ⟨X.env, List.mem_cons_self, by rw [fr, z]⟩)
    have nF : a ∉ X.fs := fun m => by
      obtain ⟨e, he, q⟩ := List.mem_filterMap.mp m
      exact out (List.mem_filterMap.mpr ⟨e, List.mem_cons_of_mem _ he, q⟩)
    have S3 := J3.suite e3 d3 na nL nF
    have look : PySem.W.Looks (model X.prog X.w) h3 (typeOf (.ref a)) cls := fun A Q E s k q => wpAny_typeOf_ref (k _ _ e3) (by rw [z3.1]; exact q)
    have name : ∀ {x : Str} {c : Value} {np : Pos} {Q E : Value → Shared → Prop}, Names X x c → Q c { s' with heap := h3 } → wpAny (model X.prog X.w) (X.A.mark (some (.ref a))) (eval (.Name x np) X.env) Q E { s' with heap := h3 } := fun {x c np Q E} hc q => by
      obtain ⟨g, gd, m | ⟨m, v, nn⟩⟩ := hc
      · exact ld_glob (X := X.suite a ((a, o3) :: (X.pn ++ pins))) S3 g m q gd
      · exact ld_blt (X := X.suite a ((a, o3) :: (X.pn ++ pins))) S3 g m v q nn gd
    have go : ∀ {hs : List ExceptHandler} {ls : List Cl}, ClsOk X hs ls → wCl X.K Wout D ls cls d σ' H' → wpAny (model X.prog X.w) X.A (handleBy (.ref a) X.env hs) (SP X pins D) X.xe { s' with heap := h3 } := by
      intro hs ls hk
      induction hk with
      | nil =>
        intro w
        refine wpAny_handleBy_nil ?_
        obtain ⟨k1, k2, k3, oe, vs, T, oT, ts', he, hz, hd, h1, hr⟩ := id fl3
        unfold PySem.passOn
        refine wpAny_bind (wpAny_field he hd h1 ?_)
        rw [if_neg (show ¬ ((Value.ref T == Value.none) = true) from by simp)]
        have fin : wpAny (model X.prog X.w) X.A (setFlight (.ref a) X.env.frame) (fun _ s4 => wpAny (model X.prog X.w) X.A (throw (.ref a) : Sem Flow) (SP X pins D) X.xe s4) X.xe { s' with heap := h3 } := by
          rw [fr]
          refine HandSPX.setFlight_upZ fl3 fun h4 hh4 up4 => wpAny_throw (tk _ _ ?_)
          exact ⟨a, B, sI, pins, σ', H', cls, d, rfl, J, nb, (up.trans up3).trans up4, .inr (.inr (by rw [st]; exact hh4)), na, os, ag, w⟩
        first
          | exact wpAny_bind (wpAny_pure (wpAny_bind fin))
          | exact wpAny_bind fin
      | @cons h l hs2 ls2 hk1 r ih =>
        intro w
        cases hk1 with
        | @plain x c ts s₀ ss np p hc hsu =>
          obtain ⟨b, hb1, hyes, hno⟩ := w
          refine wpAny_handleBy_cons (codeAny_handlers_test ?_) (by intro q; cases q)
          refine name hc ((PySem.W.exm_one (M := model X.prog X.w) J3.kIn look hb1).here ?_)
          cases b with
          | true =>
            refine codeAny_handlers_suite ?_
            refine HandSPX.lands_againZ fl3 fun h4 fl4 up4 => ?_
            have J4 : Inv X pins σ' H' { s' with heap := h4 } := J.landed nb fl4.1 ((up.trans up3).trans up4) os ag
            obtain ⟨o4, v4, e4, z4, d4⟩ := fl4.there
            refine wpAny_mono ((hsu a o4 cls d (X.pn ++ pins) z4 ⟨_, d4⟩).run [] _ _ H' _ (J4.suite e4 d4 na nL nF) (hyes rfl a na)) (fun f s6 q => ?_) (fun _ _ z => False.elim z)
            cases f with
            | next => obtain ⟨σ6, H6, S6, q6⟩ := q; exact ⟨_, _, S6.unsuite ok, q6⟩
            | brk => obtain ⟨σ6, H6, S6, q6⟩ := q; exact ⟨_, _, S6.unsuite ok, q6⟩
            | cont => obtain ⟨σ6, H6, S6, q6⟩ := q; exact ⟨_, _, S6.unsuite ok, q6⟩
            | ret u => obtain ⟨v6, σ6, H6, S6, r6, q6⟩ := q; exact ⟨_, _, _, S6.unsuite ok, r6, q6⟩
          | false => exact ih (hno rfl)
        | @named x n c i ts s₀ ss np p hc hi hl hsu =>
          obtain ⟨b, hb1, hyes, hno⟩ := w
          refine wpAny_handleBy_cons (codeAny_handlers_test ?_) (by intro q; cases q)
          refine name hc ((PySem.W.exm_one (M := model X.prog X.w) J3.kIn look hb1).here ?_)
          cases b with
          | true =>
            refine codeAny_handlers_suite_as ?_
            refine HandSPX.lands_againZ fl3 fun h4 fl4 up4 => ?_
            have J4 : Inv X pins σ' H' { s' with heap := h4 } := J.landed nb fl4.1 ((up.trans up3).trans up4) os ag
            obtain ⟨o4, v4, e4, z4, d4⟩ := fl4.there
            refine store_ok (X := X.suite a ((a, o4) :: (X.pn ++ pins))) (v := .ref a) (J4.suite e4 d4 na nL nF) nd hi (.inl hl) rfl (fun s5 S5 => ?_) (.inr hl)
            refine wpAny_mono ((hsu a o4 cls d (X.pn ++ pins) z4 ⟨_, d4⟩).run [] s5 _ H' _ S5 (hyes rfl a na)) (fun f s6 q => ?_) (fun _ _ z => False.elim z)
            have bye : ∀ {σ6 : L2.St} {H6 : Hp} {Q : Shared → Prop}, Inv (X.suite a ((a, o4) :: (X.pn ++ pins))) [] σ6 H6 s6 → (∀ s7, Inv X pins (σ6.set i none) H6 s7 → Q s7) →
                wpAny (model X.prog X.w) X.A (do bindName X.env n .none; unbindBehindTheSuite X.env n p) (fun _ s7 => Q s7) X.xe s6 := fun S6 hq => gone_ok (S6.unsuite ok) nd hi hl hq
            cases f with
            | next => obtain ⟨σ6, H6, S6, q6⟩ := q; exact bye S6 fun s7 J7 => ⟨_, _, J7, q6⟩
            | brk => obtain ⟨σ6, H6, S6, q6⟩ := q; exact bye S6 fun s7 J7 => ⟨_, _, J7, q6⟩
            | cont => obtain ⟨σ6, H6, S6, q6⟩ := q; exact bye S6 fun s7 J7 => ⟨_, _, J7, q6⟩
            | ret u => obtain ⟨v6, σ6, H6, S6, r6, q6⟩ := q; exact bye S6 fun s7 J7 => ⟨_, _, _, J7, r6, q6⟩
          | false => exact ih (hno rfl)
    exact go hh w
  · cases f with
    | next => obtain ⟨σ', H', J', q⟩ := q; exact wpAny_execs_nil ⟨σ', H', J'.ofTry ok, q⟩
    | brk => obtain ⟨σ', H', J', q⟩ := q; exact ⟨σ', H', J'.ofTry ok, q⟩
    | cont => obtain ⟨σ', H', J', q⟩ := q; exact ⟨σ', H', J'.ofTry ok, q⟩
    | ret u => obtain ⟨v, σ', H', J', r, q⟩ := q; exact ⟨v, σ', H', J'.ofTry ok, r, q⟩
end
end TR

/-! an exception that a suite holds, handed to a def: isinstance and fields there -/
namespace TR
open PySem L2 PySem.Spec PyProof.Rows
/-- the promise of a def that is handed the exception: where it is, its class, its dict -/
noncomputable abbrev SpV := Addr → Value → Option Addr → Hp → VK → Prop
structure FnV (P : Program) (w : World) (K : PySem.W.Frag) (mg : Str → Option Value) (base : Heap) (k : Nat) (f : Addr) (fd : FuncData) (y : Str) (sp : SpV) : Prop where
  run : ∀ (A : Around) (outer : List Env) (s : Shared) (H : Hp) (args : Args) (p : Addr × Obj) (cls : Value) (d : Option Addr) (Q : VK), L2H.RoomH k A → L2H.PinOk outer H s p → Zc cls d p.2 → (∃ vs, p.2.data = .fields vs) → Env0 P w K mg base A outer s H → BindsTo s fd args [(y, .ref p.1)] → sp p.1 cls d H Q →
    codeAny (model P w) A (.call (.ref f) args) (CR CX0 outer P w H s Q E0) s
noncomputable def HasV (P : Program) (w : World) (K : PySem.W.Frag) (mg : Str → Option Value) (base : Heap) (x : Str) (k : Nat) (sp : SpV) : Prop :=
  ∃ f fd y, FnV P w K mg base k f fd y sp ∧ mg x = some (.ref f) ∧ PySem.W.keepIn K (.ref f) = true ∧ Binds K fd [y] []
section
variable {P : Program} {w : World} {K : PySem.W.Frag} {mg : Str → Option Value} {base : Heap}
theorem has_ofV {x y : Str} {st : Stmt} {N : List Str} {k : Nat} {sp : SpV} (F : FunAt K mg x st [y]) (S : FnScope N [y] (defScope st))
    (hbody : ∀ (f : Addr) (cdv : Value) (A : Around) (outer : List Env) (s : Shared) (H : Hp) (Q : VK) (a : Addr) (oe : Obj) (cls : Value) (d : Option Addr), L2H.RoomH k (A.deeper (envOfC x (defScope st) s.heap.objs.size f cdv)) → Zc cls d oe → (∃ vs, oe.data = .fields vs) → sp a cls d H Q →
      ∃ t, PSs (L2H.cxH CX0 P w K mg base N x (defScope st) f cdv A outer s H E0 (a, oe)) (defBody st) t ∧ t { nx := fun _ H' => Q .non H', rt := Q } (start N [.ref a]) H) : HasV P w K mg base x (k + 1) sp := by
  obtain ⟨f, fd, F, hm, hb⟩ := F
  have kp := F.kp
  obtain ⟨oc, od, kV, doc, pm, an, cdv, ct, osl, rfl, lk, hcd⟩ := F.ex
  refine ⟨f, _, y, ⟨fun A outer s H args p cls d Q hr hpin hz hf e0 hbt hsp => ?_⟩, hm, kp, hb⟩
  have KX : K.In s.heap := e0.mod.kin.keeps fun b o e => (e0.bs b o e).1
  have lim : s.heap.NoLimit := e0.mod.nolimit.keeps fun b o e => (e0.bs b o e).1
  have hkind : ∀ z ∈ ([y] : List Str).zip [Value.ref p.1], (defScope st).names.lookup z.1 = some .local ∨ ((defScope st).names.lookup z.1 = some .cell ∧ ((cellsFrom (s.heap.objs.size + 1) (defScope st).names []).lookup z.1).isSome = true) := fun ⟨n, v⟩ hy => by
    rcases S.par n (List.of_mem_zip hy).1 with q | q
    · exact .inl q
    · exact .inr ⟨q, PySem.W.cellsFrom_some _ _ _ (.inl q)⟩
  refine codeAny_call_function hr.depth (KX _ _ lk) rfl S.co S.gen rfl (PySem.W.codeRec_of KX hcd) (hbt _ _ _ _ ?_)
  refine wpAny_newFunctionEnv_cells S.kind hkind fun env he s1 x1 => ?_
  subst he
  refine ⟨lim.keeps x1.toInCall.keep, codeAny_func ?_⟩
  obtain ⟨t, ht, hq⟩ := hbody f cdv A outer s H Q p.1 p.2 cls d (hr.deeper _) hz hf hsp
  have I : Inv (L2H.cxH CX0 P w K mg base N x (defScope st) f cdv A outer s H E0 p) [] (L2.start N [.ref p.1]) H s1 := L2H.inv_startH (us := [Value.ref p.1]) S hpin e0 rfl (.cons rfl .nil) x1
  refine wpAny_mono (ht.run [] s1 (L2.start N [.ref p.1]) H _ I hq) (fun fl s' hs => ?_) fun e s' hs => hs
  have fin : ∀ {σ' : L2.St} {H' : Hp} {v : V} {u : Value}, Inv (L2H.cxH CX0 P w K mg base N x (defScope st) f cdv A outer s H E0 p) [] σ' H' s' → RelV v u → Q v H' → CE outer P w H s Q u s' :=
    fun {σ' H' v u} J rv q => ⟨v, H', J.os, J.bare, J.base, J.hok, rv, q⟩
  cases fl with
  | ret u =>
    obtain ⟨v, σ', H', J, rv, q⟩ := hs
    exact fin J rv q
  | next =>
    obtain ⟨σ', H', J, q⟩ := hs
    exact fin (v := V.non) (u := Value.none) J rfl q
  | brk =>
    obtain ⟨_, _, _, q⟩ := hs
    exact False.elim q
  | cont =>
    obtain ⟨_, _, _, q⟩ := hs
    exact False.elim q
end
/-- f(e) within the suite -/
noncomputable def tCallSx (sp : SpV) (a : Addr) (cls : Value) (d : Option Addr) (te : TE) : TE := fun σ H Q => te σ H fun x H1 => x = .ref a ∧ sp a cls d H1 Q
section
variable {X : Cx} {a : Addr} {oe : Obj} {cls : Value} {d : Option Addr} {pn : List (Addr × Obj)}
theorem pe_callSx {k k' : Nat} {sp : SpV} {x : Str} {p pos : Pos} {e : Expr} {te : TE} (hz : Zc cls d oe) (hf : ∃ vs, oe.data = .fields vs)
    (h : HasV X.prog X.w X.K X.mg X.base x k sp) (hr : Room k' X.A) (hk : k ≤ k') (hg : Gl X x) (he : PE (X.suite a ((a, oe) :: pn)) e te) (hdb : (x == ("__debug__" : Str)) = false := by decide)
    (hst : starEach [e] X.env = (false, eval e X.env) :: starEach [] X.env := by rfl) (hpl : (backTo pos (starEach [] X.env)).any (·.1) = false := by rfl) : PE (X.suite a ((a, oe) :: pn)) (.Call (.Name x p) [e] [] pos) (tCallSx sp a cls d te) := by
  obtain ⟨f, fd, y, F, hm, kp, hb⟩ := h
  refine ⟨fun pins s σ H Q I h => ?_⟩
  refine wpAny_Call_Name_kw (ld_glob (X := X.suite a ((a, oe) :: pn)) I hg hm ?_ hdb)
  have ha : PA (X.suite a ((a, oe) :: pn)) [e] (tCons te tNil) := pa_cons he pa_nil hst
  refine PySem.W.callWith_K (h₀ := X.base) I.ok.mod.kin kp (thn (ha.run pos pins s σ H (fun vs H1 => ∃ y, vs = [y] ∧ y = .ref a ∧ sp a cls d H1 Q) I (by
    show te σ H fun x H1 => tNil σ H1 fun xs H2 => _
    have e' : (fun (x : V) (H1 : Hp) => tNil σ H1 fun xs H2 => ∃ y, x :: xs = [y] ∧ y = V.ref a ∧ sp a cls d H2 Q) = fun x H1 => x = .ref a ∧ sp a cls d H1 Q := by
      funext y H1
      exact propext ⟨fun ⟨y', e1, e2, e3⟩ => by cases e1; exact ⟨e2, e3⟩, fun ⟨e2, e3⟩ => ⟨y, rfl, e2, e3⟩⟩
    rw [e']
    exact h)) fun us s1 ⟨vs, H1, I1, r, y, e1, e2, q⟩ => ⟨I1.kIn, ?_⟩) hst hpl
  subst e1
  subst e2
  obtain ⟨u, rfl⟩ : ∃ u, us = [u] := by
    cases r with
    | cons _ t => cases t; exact ⟨_, rfl⟩
  obtain rfl : u = Value.ref a := by
    cases r with
    | cons r1 _ => exact r1
  have P1 := I1.pin (a, oe) (List.mem_append_left _ List.mem_cons_self)
  have hpin : L2H.PinOk (X.suite a ((a, oe) :: pn)).stack H1 s1 (a, oe) := ⟨P1.1, P1.2.1, fun hm => (List.mem_cons.mp (I1.stkSub a hm)).elim P1.2.2.1 P1.2.2.2.1, P1.2.2.2.2⟩
  have b := hb s1 [Value.ref a] I1.kIn (by rfl)
  have hrH : L2H.RoomH k (X.suite a ((a, oe) :: pn)).A := ⟨(hr.mono hk).dp, (hr.mono hk).un⟩
  refine wpAny_call (codeAny_mono (F.run _ (X.suite a ((a, oe) :: pn)).stack s1 H1 ⟨[Value.ref a], []⟩ (a, oe) cls d Q hrH hpin hz hf I1.env0 b q) fun r' s' hq => ?_)
  cases r' with
  | error e => exact (pass0 (X := X.suite a ((a, oe) :: pn))) pins σ H1 s1 e s' I1 hq
  | ok fl =>
    cases fl with
    | ret v => exact I1.after hq
    | next => exact False.elim hq
    | brk => exact False.elim hq
    | cont => exact False.elim hq
end
/-- isinstance(e, C) | isinstance(e, (C1, ..)) of the exception that stands in the pins -/
noncomputable def rIsV (K : PySem.W.Frag) (a : Addr) (cls : Value) (d : Option Addr) : List V → Hp → VK → Prop := fun xs H Q => ∃ (D : Addr) (c : V) (u : Value) (b : Bool), xs = [.ref a, c] ∧ cls = .ref D ∧ IsxC K D ∧ (∀ dd, d = some dd → ∃ fs, H dd = some (.xd fs)) ∧ ClsV c u ∧ PySem.W.kitOne K (.ref D) u = some b ∧ Q (.bl b) H
noncomputable def rIsVT (K : PySem.W.Frag) (a : Addr) (cls : Value) (d : Option Addr) : List V → Hp → VK → Prop := fun xs H Q => ∃ (D tp : Addr) (cs : List V) (us : List Value) (b : Bool), xs = [.ref a, .ref tp] ∧ cls = .ref D ∧ IsxC K D ∧ (∀ dd, d = some dd → ∃ fs, H dd = some (.xd fs)) ∧ H tp = some (.tup cs) ∧ Paired ClsV cs us ∧ PySem.W.kitAny K (.ref D) us = some b ∧ Q (.bl b) H
section
variable {X : Cx} {K : PySem.W.Frag} {a : Addr} {oe : Obj} {cls : Value} {d : Option Addr}
/-- e.f of it -/
noncomputable def tXfV (K : PySem.W.Frag) (a : Addr) (cls : Value) (d : Option Addr) (f : Str) (te : TE) : TE := fun σ H Q => te σ H fun x H1 => ∃ (C dd : Addr) (fs : List (Str × V)) (v : V), x = .ref a ∧ cls = .ref C ∧ d = some dd ∧ XfC K C ∧ PySem.W.findIn K (.ref C) f = some none ∧ H1 dd = some (.xd fs) ∧ fs.lookup f = some v ∧ Q v H1
end
section
variable {K : PySem.W.Frag} {H : Hp} {Q : VK} {a D tp C dd : Addr} {d : Option Addr} {b : Bool} {cls : Value}
/-- the field of an exception that stands in the pins -/
noncomputable def XfVP (K : PySem.W.Frag) (a : Addr) (cls : Value) (d : Option Addr) (f : Str) (x : V) (H1 : Hp) (Q : VK) : Prop := ∃ (C dd : Addr) (fs : List (Str × V)) (v : V), x = .ref a ∧ cls = .ref C ∧ d = some dd ∧ XfC K C ∧ PySem.W.findIn K (.ref C) f = some none ∧ H1 dd = some (.xd fs) ∧ fs.lookup f = some v ∧ Q v H1
/-! the suite's exception handed on -/
noncomputable def SxP (sp : SpV) (a : Addr) (cls : Value) (d : Option Addr) (x : V) (H1 : Hp) (Q : VK) : Prop := x = .ref a ∧ sp a cls d H1 Q
end
end TR

/-! what is told of a text -/
namespace TR
open PySem L2 PySem.Spec PyProof.Rows
section
variable {X : Cx} {K : PySem.W.Frag} {a : Addr} {oe : Obj} {cls : Value} {d : Option Addr}
end
noncomputable def dueY (way : Int) (v : V) : Option PyData := if way = 0 then (ofT rowsO v).map Py.d else if way = 1 then (ofT stepO v).map Py.d else (ofT yardO v).map Py.d
noncomputable def toldY : Option PyData → PyData
  | some d => .tuple [.str "told", d]
  | none => .tuple [.str "none", .int 0]
end TR

namespace TR
open PySem L2
noncomputable def noneT : Tx := ⟨"none", by decide +kernel⟩
noncomputable def toldT : Tx := ⟨"told", by decide +kernel⟩
noncomputable def noneY : Tx × Int := (noneT, 0)
end TR

/-! texts cut, put together, split and joined: any length -/
namespace TR
open PySem L2 TL
section
variable {K : PySem.W.Frag} {Z H : Hp} {Q : VK} {a b : Addr} {xs ys : List V}
theorem t_catW (z : Ex Z H) (h : Z a = some (.lst xs)) (g : Z b = some (.lst ys)) (hz : xs.length + ys.length ≤ 16000000) (k : ∀ p Z' H', H p = none → T [] Z H Z' H' → Z' p = some (.lst (xs ++ ys)) → Q (.ref p) H') : rPlus (.ref a) (.ref b) H Q :=
  .inr (.inl ⟨a, b, xs, ys, rfl, rfl, z _ _ h, z _ _ g, by rw [sizeLine_eq]; omega, fun p hp => k p _ _ hp (T.new hp z) upd_same⟩)
theorem t_slW {lo hi : Option Int} {ps : List Str} (z : Ex Z H) (h : Z a = some (.lst (ps.map V.str))) (q : ∀ p Z' H', H p = none → T [] Z H Z' H' → Z' p = some (.lst ((cutI ps lo hi).map V.str)) → Q (.ref p) H') : rSlL K (.ref a) lo hi H Q :=
  t_slL z (sq_of (z _ _ h)) fun p Z' H' n t f => q p Z' H' n t (by rw [f, cutV_map])
end
noncomputable def lenS (ps : List Str) : Nat := (ps.map (·.length)).sum
end TR

/-! for k92's law: raw lists, a text so many times -/
namespace TR
open PySem L2
theorem t_newW {Z H : Hp} {Q : VK} {vs : List V} (z : Ex Z H) (h : vs.length ≤ 100000) (q : ∀ p Z' H', H p = none → T [] Z H Z' H' → Z' p = some (.lst vs) → Q (.ref p) H') : NewL vs H Q := ⟨sz_of h, fun p hp => q p _ _ hp (T.new hp z) upd_same⟩
end TR

/-! a table of texts by texts that the module binds: get -/
namespace TR
open PySem PySem.Spec PyProof.Rows L2
/-- at d: a written dict, its entries those of kvs -/
structure KForm (K : PySem.W.Frag) (w : World) (d : Addr) (kvs : List (Str × Str)) : Prop where
  ex : ∃ es n, KDict K w d es n ∧ ∀ z : Str, (∀ v, kvs.lookup z = some v → ∃ u, findBy Value.isStrOf es z = some u ∧ RelV (.str v) u) ∧ (kvs.lookup z = none → findBy Value.isStrOf es z = none)
noncomputable def KFormAt (w : World) (K : PySem.W.Frag) (mg : Str → Option Value) (x : Str) (kvs : List (Str × Str)) : Prop := ∃ d, mg x = some (.ref d) ∧ KForm K w d kvs
noncomputable def kget (kvs : List (Str × Str)) (z : Str) (o : V) : V := match kvs.lookup z with
  | some v => .str v
  | none => o
noncomputable def tKGet1 (kvs : List (Str × Str)) (ty : TE) : TE := fun σ H Q => ty σ H fun y H1 => ∃ z : Str, y = .str z ∧ Q (kget kvs z .non) H1
noncomputable def tKGet2 (kvs : List (Str × Str)) (ty tx : TE) : TE := fun σ H Q => ty σ H fun y H1 => tx σ H1 fun o H2 => ∃ z : Str, y = .str z ∧ Q (kget kvs z o) H2
theorem KForm.rel {K : PySem.W.Frag} {w : World} {d : Addr} {kvs : List (Str × Str)} {es : Array DictEntry} {z : Str} {o : V} {r : Value} (hz : (∀ v, kvs.lookup z = some v → ∃ u, findBy Value.isStrOf es z = some u ∧ RelV (.str v) u) ∧ (kvs.lookup z = none → findBy Value.isStrOf es z = none)) (ro : RelV o r) :
    RelV (kget kvs z o) ((findBy Value.isStrOf es z).getD r) := by
  unfold kget
  cases e : kvs.lookup z with
  | none =>
    rw [hz.2 e]
    exact ro
  | some v =>
    obtain ⟨u, e2, ru⟩ := hz.1 v e
    rw [e2]
    exact ru
section
variable {X : Cx} {x : Str} {kvs : List (Str × Str)} {e f : Expr} {ty tx : TE} {p apos cpos : Pos}
theorem pe_kget1 (h : KFormAt X.w X.K X.mg x kvs) (hg : Gl X x) (he : PE X e ty) (m : M1 X (.Name x p) "get" apos e cpos) (hdb : (x == ("__debug__" : Str)) = false := by decide) : PE X (.Call (.Attribute (.Name x p) "get" apos) [e] [] cpos) (tKGet1 kvs ty) := by
  obtain ⟨d, hm, ⟨es, n, D, fz⟩⟩ := h
  have ho : PE X (.Name x p) (tC (.ref d)) := pe_glob hg hm rfl hdb
  refine ⟨fun pins s σ H Q I h => ?_⟩
  have h0 : tC (.ref d) σ H fun y H1 => y = .ref d ∧ H1 = H := ⟨rfl, rfl⟩
  refine wpAny_Call_method m.base m.few m.line PySem.F.plainAttrs_dict PySem.F.slot_dict_get PySem.F.type_dict_get (thn (ho.run pins s σ H _ I h0) fun u s1 ⟨y, H1, I1, r1, e1, e2⟩ => ?_)
  subst e1 e2
  obtain rfl : u = Value.ref d := r1
  refine ⟨kd_type D I1, fun b q => by cases q; exact ⟨_, I1.kIn _ _ D.at_, rfl⟩, ?_⟩
  rw [m.trees]
  refine Calls.callWith_builtin rfl (Calls.evalArgs_plain (Calls.spliced_cons (thn (he.run pins s1 σ H1 _ I1 h) fun iv s2 ⟨y, H2, I2, ry, z, ey, q2⟩ => Calls.spliced_nil ?_)))
  subst ey
  obtain ⟨t, rfl⟩ := ry
  exact call_meetsIn PySem.F.slot_dict_get (kd_type D I2) PySem.F.entry_dict_get (PySem.F.args_dict_get_2 _ _) (meets_dict_get (strKind X.prog X.w) d (strKind_is X.prog X.w z t) D.low) ⟨_, PySem.W.mapOf_K (prog := X.prog) I2.kIn D.at_ D.lit, _, H2, I2.tok _, KForm.rel (K := X.K) (w := X.w) (d := d) (fz z) (show RelV .non .none from rfl), q2⟩
theorem pe_kget2 (h : KFormAt X.w X.K X.mg x kvs) (hg : Gl X x) (he : PE X e ty) (hf : PE X f tx) (m : M2 X (.Name x p) "get" apos e f cpos) (hdb : (x == ("__debug__" : Str)) = false := by decide) : PE X (.Call (.Attribute (.Name x p) "get" apos) [e, f] [] cpos) (tKGet2 kvs ty tx) := by
  obtain ⟨d, hm, ⟨es, n, D, fz⟩⟩ := h
  have ho : PE X (.Name x p) (tC (.ref d)) := pe_glob hg hm rfl hdb
  refine ⟨fun pins s σ H Q I h => ?_⟩
  have h0 : tC (.ref d) σ H fun y H1 => y = .ref d ∧ H1 = H := ⟨rfl, rfl⟩
  refine wpAny_Call_method m.base m.few m.line PySem.F.plainAttrs_dict PySem.F.slot_dict_get PySem.F.type_dict_get (thn (ho.run pins s σ H _ I h0) fun u s1 ⟨y, H1, I1, r1, e1, e2⟩ => ?_)
  subst e1 e2
  obtain rfl : u = Value.ref d := r1
  refine ⟨kd_type D I1, fun b q => by cases q; exact ⟨_, I1.kIn _ _ D.at_, rfl⟩, ?_⟩
  rw [m.trees]
  refine Calls.callWith_builtin rfl (Calls.evalArgs_plain (Calls.spliced_cons (thn (he.run pins s1 σ H1 _ I1 h) fun iv s2 ⟨y, H2, I2, ry, q2⟩ => Calls.spliced_cons (thn (hf.run pins s2 σ H2 _ I2 q2) fun jv s3 ⟨o, H3, I3, ro, z, ey, q3⟩ => Calls.spliced_nil ?_))))
  subst ey
  obtain ⟨t, rfl⟩ := ry
  exact call_meetsIn PySem.F.slot_dict_get (kd_type D I3) PySem.F.entry_dict_get (PySem.F.args_dict_get_3 _ _ _) (meets_dict_get_default (strKind X.prog X.w) d (strKind_is X.prog X.w z t) D.low _) ⟨_, PySem.W.mapOf_K (prog := X.prog) I3.kIn D.at_ D.lit, _, H3, I3.tok _, KForm.rel (K := X.K) (w := X.w) (d := d) (fz z) ro, q3⟩
end
theorem s_kget1 {kvs : List (Str × Str)} {ty : TE} {σ : L2.St} {H : Hp} {Q : VK} (q : ty σ H fun y H1 => ∃ z : Str, y = .str z ∧ Q (kget kvs z .non) H1) : tKGet1 kvs ty σ H Q := q
theorem s_kget2 {kvs : List (Str × Str)} {ty tx : TE} {σ : L2.St} {H : Hp} {Q : VK} (q : ty σ H fun y H1 => tx σ H1 fun o H2 => ∃ z : Str, y = .str z ∧ Q (kget kvs z o) H2) : tKGet2 kvs ty tx σ H Q := q
theorem n_kget {z : Str} {R : Str → Prop} (q : R z) : ∃ x : Str, V.str z = .str x ∧ R x := ⟨z, rfl, q⟩
/-- from what the head tells -/
theorem keyOf_in {P : Params} : ∀ {l : List DictEntry} {ks : List Str}, l.map He.keyOf = He.keysIn P ks → ∀ e ∈ l, ∃ x t, e.key = .str x t ∧ x ∈ ks
  | [], _, _, e, he => by cases he
  | a :: r, [], h, _, _ => by cases h
  | a :: r, k :: ks, h, e, he => by
    have h1 : He.keyOf a :: r.map He.keyOf = some (k, PyData.keyHash P k) :: He.keysIn P ks := h
    injection h1 with h2 h3
    rcases List.mem_cons.mp he with q | q
    · subst q
      unfold He.keyOf at h2
      split at h2
      · rename_i x t z
        have h4 := Option.some.inj h2
        obtain ⟨h5, _⟩ := Prod.mk.inj h4
        exact ⟨x, t, z, h5 ▸ List.mem_cons_self⟩
      · cases h2
    · obtain ⟨x, t, z, m⟩ := keyOf_in h3 e q
      exact ⟨x, t, z, List.mem_cons_of_mem _ m⟩
theorem lookup_none_of {kvs : List (Str × Str)} {z : Str} : kvs.lookup z = none → z ∉ kvs.map Prod.fst := by
  induction kvs with
  | nil => exact fun _ h => absurd h List.not_mem_nil
  | cons a r ih =>
    obtain ⟨k, v⟩ := a
    intro h m
    rw [List.lookup_cons] at h
    cases q : (z == k) with
    | true => rw [q] at h; cases h
    | false =>
      rw [q] at h
      rcases List.mem_cons.mp m with e | m
      · rw [show z = k from e, beq_self_eq_true] at q
        cases q
      · exact ih h m
theorem lookup_mem_of {kvs : List (Str × Str)} {z v : Str} : kvs.lookup z = some v → (z, v) ∈ kvs := by
  induction kvs with
  | nil => exact fun h => (nomatch h)
  | cons a r ih =>
    obtain ⟨k, u⟩ := a
    intro h
    rw [List.lookup_cons] at h
    cases q : (z == k) with
    | true =>
      rw [q] at h
      have e1 := Option.some.inj h
      have e2 : z = k := by simpa using q
      rw [e2, show u = v from e1]
      exact List.mem_cons_self
    | false =>
      rw [q] at h
      exact List.mem_cons_of_mem _ (ih h)
theorem kform_mk {K : PySem.W.Frag} {w : World} {a : Addr} {kvs : List (Str × Str)} (h : He.dicW K a = some (He.keysIn w.params (kvs.map Prod.fst))) (hv : He.valsB K a (kvs.map fun q => (q.1, He.Dv.str q.2)) = true) : KForm K w a kvs := by
  obtain ⟨es, n, D⟩ := He.dicW_ok h
  have hk : es.toList.map He.keyOf = He.keysIn w.params (kvs.map Prod.fst) := by
    unfold He.dicW at h
    rw [D.at_] at h
    dsimp only at h
    split at h
    · exact Option.some.inj h
    · cases h
  refine ⟨es, n, D, fun z => ⟨fun v hz => ?_, fun hz => ?_⟩⟩
  · obtain ⟨u, e1, e2⟩ := He.valsB_ok hv (q := (z, He.Dv.str v)) (List.mem_map.mpr ⟨(z, v), lookup_mem_of hz, rfl⟩)
    exact ⟨u, PySem.W.find_K D.at_ e1, e2⟩
  · unfold findBy
    have nf : es.find? (fun d => Value.isStrOf z d.key) = none := by
      rw [Array.find?_eq_none]
      intro e he
      obtain ⟨x, t, ek, xm⟩ := keyOf_in hk e (Array.mem_toList_iff.mpr he)
      rw [ek]
      intro q
      have q' : Value.isStrOf z (.str x t) = true := by simpa using q
      have : x = z ∨ z = x := by
        have : (z == x) = true ∨ (x == z) = true := by first | exact .inl q' | exact .inr q'
        rcases this with c | c
        · exact .inr (by simpa using c)
        · exact .inl (by simpa using c)
      exact lookup_none_of hz (by rcases this with c | c; exact c ▸ xm; exact c ▸ xm)
    rw [nf]
    rfl
end TR

/-! zip of a text and a list -/
namespace TR
open PySem PySem.Spec PyProof.Rows L2
open PySem.Sem (wp)
section
variable {prog : Program} {w : World} {A : Around} {E : Value → Shared → Prop} {s : Shared}
noncomputable abbrev AscAt (h : Heap) (i : Addr) (tx : Str) (tk : Tok) (n : Nat) : Prop := h.IsStrIter i "str_ascii_iterator" tx tk n
theorem asc_at {g g' : Heap} {i : Addr} {tx : Str} {tk : Tok} {n : Nat} (a : AscAt g i tx tk n) (e : ∀ o, g.get? i = some o → g'.get? i = some o) : AscAt g' i tx tk n := by
  obtain ⟨o, k, r⟩ := a
  exact ⟨o, e o k, r⟩
theorem zs_item {z p q i j l : Addr} {n m : Nat} {tx : Str} {tk : Tok} {ys : Array Value} {c : Nat} {y u v : Value} {R : Value → Shared → Prop} (D : ZipApart z p q i j l l) (iz : IsZip s.heap z p q .none) (ip : IsPair s.heap p (.ref i) (.ref j)) (iq : IsPair s.heap q u v)
    (si : AscAt s.heap i tx tk n) (li : s.heap.IsListIter j l m) (hl : s.heap.IsList l ys) (gx : tx.cps[n]? = some c) (gy : ys[m]? = some y)
    (fin : ∀ g, IsZip g z p q (rawInt s.heap.objs.size) → IsPair g q (.str ⟨#[c]⟩ s.toks) y → AscAt g i tx tk (n + 1) → g.IsListIter j l (m + 1) → IsPair g s.heap.objs.size (.str ⟨#[c]⟩ s.toks) y → g.objs.size = s.heap.objs.size + 1 →
      (∀ d o, d ≠ z → d ≠ q → d ≠ i → d ≠ j → s.heap.get? d = some o → g.get? d = some o) → R (.ref s.heap.objs.size) { s with heap := g, toks := s.toks + 1 }) :
    wpAny (model prog w) A (Builtin.«zip.__next__» ⟨[.ref z], []⟩) (fun o s' => ∃ r, o = .done (.ret r) ∧ R r s') E s := by
  show wpAny _ _ (field (.ref z) 2 >>= _) _ _ _
  refine wpAny_bind (wpAny_field iz rfl (x := .bool false) rfl ?_)
  show wpAny _ _ (field (.ref z) 3 >>= _) _ _ _
  refine wpAny_bind (wpAny_field iz rfl (x := .ref p) rfl ?_)
  refine wpAny_bind (wpAny_seqItems ip rfl ?_)
  show wpAny _ _ (Builtin.SmallTypes.ownedTupleIsFree (.ref z) >>= _) _ _ _
  refine wpAny_bind ?_
  unfold Builtin.SmallTypes.ownedTupleIsFree
  refine wpAny_bind (wpAny_field iz rfl (x := .none) rfl (wpAny_pure ?_))
  simp only [if_true]
  refine wpAny_bind (wpAny_rule ?_)
  refine wpAny_bind (wpAny_field iz rfl (x := .ref q) rfl ?_)
  refine wpAny_bind (wpAny_setField_rec iz (by simp) fun g1 iz1 b1 => ?_)
  replace iz1 : IsZip g1 z p q .ellipsis := iz1
  refine wpAny_bind ?_
  simp only [List.zipIdx_cons, List.zipIdx_nil, List.forIn_cons, List.forIn_nil]
  refine wpAny_bind (wpAny_bind (wpAny_onRaise ?_))
  show wpAny _ _ (Builtin.SmallTypes.nextOf (.ref i) >>= _) _ _ _
  refine wpAny_bind (wpAny_nextOf_ascii_item (asc_at si fun o e => b1.extBut _ _ D.i1z e) gx fun g2 si2 b2 => wpAny_pure ?_)
  have iq2 : IsPair g2 q u v := b2.extBut _ _ D.TOi1 (b1.extBut _ _ D.TOz iq)
  refine wpAny_bind (wpAny_seqItems iq2 rfl ?_)
  refine wpAny_bind (wpAny_updateSeq_pair iq2 fun g3 iq3 b3 => ?_)
  replace iq3 : IsPair g3 q (.str ⟨#[c]⟩ s.toks) v := iq3
  refine wpAny_bind (wpAny_letGo (wpAny_pure ?_))
  refine wpAny_bind (wpAny_bind (wpAny_onRaise ?_))
  show wpAny _ _ (Builtin.SmallTypes.nextOf (.ref j) >>= _) _ _ _
  refine wpAny_bind (wpAny_nextOf_list_item (((li.extBut b1.extBut D.i2z).extBut b2.extBut D.i12.symm).extBut b3.extBut D.TOi2.symm) (((hl.extBut b1.extBut D.l2z).extBut b2.extBut D.l2i1).extBut b3.extBut D.l2TO) gy fun g4 li4 b4 => wpAny_pure ?_)
  have iq4 : IsPair g4 q (.str ⟨#[c]⟩ s.toks) v := b4.extBut _ _ D.TOi2 iq3
  refine wpAny_bind (wpAny_seqItems iq4 rfl ?_)
  refine wpAny_bind (wpAny_updateSeq_pair iq4 fun g5 iq5 b5 => ?_)
  replace iq5 : IsPair g5 q (.str ⟨#[c]⟩ s.toks) y := iq5
  refine wpAny_bind (wpAny_letGo (wpAny_pure (wpAny_pure ?_)))
  refine wpAny_bind (wpAny_seqItems iq5 rfl ?_)
  refine wpAny_bind (wpAny_newTuple ?_)
  have n5 : g5.objs.size = s.heap.objs.size := by rw [b5.1, b4.1, b3.1, b2.1, b1.1]
  have iz5 : IsZip g5 z p q .ellipsis := b5.extBut _ _ D.TOz.symm (b4.extBut _ _ D.i2z.symm (b3.extBut _ _ D.TOz.symm (b2.extBut _ _ D.i1z.symm iz1)))
  have k5 : ∀ d o, d ≠ z → d ≠ q → d ≠ i → d ≠ j → s.heap.get? d = some o → g5.get? d = some o := fun d o e1 e2 e3 e4 e =>
    b5.extBut _ _ e2 (b4.extBut _ _ e4 (b3.extBut _ _ e2 (b2.extBut _ _ e3 (b1.extBut _ _ e1 e))))
  have si5 : AscAt g5 i tx tk (n + 1) := asc_at si2 fun o e => b5.extBut _ _ D.TOi1.symm (b4.extBut _ _ D.i12 (b3.extBut _ _ D.TOi1.symm e))
  have li5 : g5.IsListIter j l (m + 1) := li4.extBut b5.extBut D.TOi2.symm
  have zl : z < g5.objs.size := Heap.lt_size iz5
  show wpAny _ _ (Builtin.SmallTypes.ownedTupleHandOut (.ref z) (.ref g5.objs.size) >>= _) _ _ _
  refine wpAny_bind ?_
  unfold Builtin.SmallTypes.ownedTupleHandOut
  have iz6 : IsZip (g5.push { cls := .type "tuple", data := .seq #[.str ⟨#[c]⟩ s.toks, y] }) z p q .ellipsis := Heap.get?_push_of_some _ iz5
  refine wpAny_bind (wpAny_setField_rec iz6 (by simp) fun g7 iz7 b7 => ?_)
  replace iz7 : IsZip g7 z p q (rawInt g5.objs.size) := iz7
  refine wpAny_setField_rec iz7 (by simp) fun g8 iz8 b8 => ?_
  replace iz8 : IsZip g8 z p q (rawInt g5.objs.size) := iz8
  have up : ∀ d o, d ≠ z → g5.get? d = some o → g8.get? d = some o := fun d o e1 e => b8.extBut _ _ e1 (b7.extBut _ _ e1 (Heap.get?_push_of_some _ e))
  have t8 : IsPair g8 g5.objs.size (.str ⟨#[c]⟩ s.toks) y := b8.extBut _ _ (Nat.ne_of_gt zl) (b7.extBut _ _ (Nat.ne_of_gt zl) (Heap.get?_push_size _ rfl))
  have n8 : g8.objs.size = g5.objs.size + 1 := by rw [b8.1, b7.1, Heap.size_push]
  rw [n5] at iz8 t8 n8
  refine wpAny_pure ⟨_, rfl, ?_⟩
  show R (.ref g5.objs.size) _
  rw [n5]
  exact fin g8 iz8 (up _ _ D.TOz iq5) (asc_at si5 fun o e => up _ o D.i1z e) (li5.at fun o e => up _ o D.i2z e) t8 n8 fun d o e1 e2 e3 e4 e => up d o e1 (k5 d o e1 e2 e3 e4 e)
theorem zs_end {z p q i j l : Addr} {n m : Nat} {tx : Str} {tk : Tok} {ys : Array Value} {u v : Value} {R : Fin → Shared → Prop} (hh : A.handled = none) (D : ZipApart z p q i j l l) (iz : IsZip s.heap z p q .none) (ip : IsPair s.heap p (.ref i) (.ref j)) (iq : IsPair s.heap q u v)
    (si : AscAt s.heap i tx tk n) (li : s.heap.IsListIter j l m) (hl : s.heap.IsList l ys) (over : tx.cps[n]? = none ∨ ys[m]? = none)
    (out : ∀ g e k, (∀ d o, d ≠ z → d ≠ q → d ≠ i → d ≠ j → s.heap.get? d = some o → g.get? d = some o) → (∃ o, g.get? e = some o ∧ o.cls = .type "StopIteration") → E (.ref e) { s with heap := g, toks := k }) :
    wpAny (model prog w) A (Builtin.«zip.__next__» ⟨[.ref z], []⟩) R E s := by
  show wpAny _ _ (field (.ref z) 2 >>= _) _ _ _
  refine wpAny_bind (wpAny_field iz rfl (x := .bool false) rfl ?_)
  show wpAny _ _ (field (.ref z) 3 >>= _) _ _ _
  refine wpAny_bind (wpAny_field iz rfl (x := .ref p) rfl ?_)
  refine wpAny_bind (wpAny_seqItems ip rfl ?_)
  show wpAny _ _ (Builtin.SmallTypes.ownedTupleIsFree (.ref z) >>= _) _ _ _
  refine wpAny_bind ?_
  unfold Builtin.SmallTypes.ownedTupleIsFree
  refine wpAny_bind (wpAny_field iz rfl (x := .none) rfl (wpAny_pure ?_))
  simp only [if_true]
  refine wpAny_bind (wpAny_rule ?_)
  refine wpAny_bind (wpAny_field iz rfl (x := .ref q) rfl ?_)
  refine wpAny_bind (wpAny_setField_rec iz (by simp) fun g1 iz1 b1 => ?_)
  replace iz1 : IsZip g1 z p q .ellipsis := iz1
  refine wpAny_bind ?_
  simp only [List.zipIdx_cons, List.zipIdx_nil, List.forIn_cons, List.forIn_nil]
  refine wpAny_bind (wpAny_bind (wpAny_onRaise ?_))
  show wpAny _ _ (Builtin.SmallTypes.nextOf (.ref i) >>= _) _ _ _
  cases gx : tx.cps[n]? with
  | none =>
    refine wpAny_bind (wpAny_nextOf_ascii_end hh (asc_at si fun o e => b1.extBut _ _ D.i1z e) gx fun g2 e b2 he => ?_)
    obtain ⟨oe, ge, ce⟩ := he
    have iz2 : IsZip g2 z p q .ellipsis := b2 _ _ D.i1z.symm iz1
    have ez : e ≠ z := fun x => by subst x; rw [iz2] at ge; cases ge; simp at ce
    exact wpAny_setField_rec iz2 (by simp) fun g3 _ b3 => out g3 e s.toks (fun d o e1 _ e3 _ x => b3.extBut _ _ e1 (b2 _ _ e3 (b1.extBut _ _ e1 x))) ⟨oe, b3.extBut _ _ ez ge, ce⟩
  | some c =>
    have gy : ys[m]? = none := by rcases over with h | h; rw [gx] at h; cases h; exact h
    refine wpAny_bind (wpAny_nextOf_ascii_item (asc_at si fun o e => b1.extBut _ _ D.i1z e) gx fun g2 si2 b2 => wpAny_pure ?_)
    have iq2 : IsPair g2 q u v := b2.extBut _ _ D.TOi1 (b1.extBut _ _ D.TOz iq)
    refine wpAny_bind (wpAny_seqItems iq2 rfl ?_)
    refine wpAny_bind (wpAny_updateSeq_pair iq2 fun g3 iq3 b3 => ?_)
    refine wpAny_bind (wpAny_letGo (wpAny_pure ?_))
    refine wpAny_bind (wpAny_bind (wpAny_onRaise ?_))
    show wpAny _ _ (Builtin.SmallTypes.nextOf (.ref j) >>= _) _ _ _
    refine wpAny_bind (wpAny_nextOf_list_end hh (((li.extBut b1.extBut D.i2z).extBut b2.extBut D.i12.symm).extBut b3.extBut D.TOi2.symm) (((hl.extBut b1.extBut D.l2z).extBut b2.extBut D.l2i1).extBut b3.extBut D.l2TO) gy fun g4 e b4 he => ?_)
    obtain ⟨oe, ge, ce⟩ := he
    have iz4 : IsZip g4 z p q .ellipsis := b4 _ _ D.i2z.symm (b3.extBut _ _ D.TOz.symm (b2.extBut _ _ D.i1z.symm iz1))
    have ez : e ≠ z := fun x => by subst x; rw [iz4] at ge; cases ge; simp at ce
    exact wpAny_setField_rec iz4 (by simp) fun g5 _ b5 => out g5 e _ (fun d o e1 e2 e3 e4 x => b5.extBut _ _ e1 (b4 _ _ e4 (b3.extBut _ _ e2 (b2.extBut _ _ e3 (b1.extBut _ _ e1 x))))) ⟨oe, b5.extBut _ _ ez ge, ce⟩
theorem pn_zs_item {z p q i j l : Addr} {n m : Nat} {tx : Str} {tk : Tok} {ys : Array Value} {c : Nat} {y u v : Value} {R : Option Value → Shared → Prop} (D : ZipApart z p q i j l l) (iz : IsZip s.heap z p q .none) (ip : IsPair s.heap p (.ref i) (.ref j)) (iq : IsPair s.heap q u v)
    (si : AscAt s.heap i tx tk n) (li : s.heap.IsListIter j l m) (hl : s.heap.IsList l ys) (gx : tx.cps[n]? = some c) (gy : ys[m]? = some y)
    (fin : ∀ g, IsZip g z p q (rawInt s.heap.objs.size) → IsPair g q (.str ⟨#[c]⟩ s.toks) y → AscAt g i tx tk (n + 1) → g.IsListIter j l (m + 1) → IsPair g s.heap.objs.size (.str ⟨#[c]⟩ s.toks) y → g.objs.size = s.heap.objs.size + 1 →
      (∀ d o, d ≠ z → d ≠ q → d ≠ i → d ≠ j → s.heap.get? d = some o → g.get? d = some o) → R (some (.ref s.heap.objs.size)) { s with heap := g, toks := s.toks + 1 }) :
    wpAny (model prog w) A (pyNext (.ref z)) R E s := by
  have ty : s.TypeIs (.ref z) "zip" := ⟨_, iz, rfl⟩
  unfold pyNext
  exact wpAny_bind (wpAny_attempt (wpAny_callSpecial?_slot (name := Str.ofString "__next__") ty F.slot_zip_next (wpAny_call_entry F.slot_zip_next ty F.entry_zip_next
    (zs_item D iz ip iq si li hl gx gy fun g a1 a2 a3 a4 a5 a6 a7 => wpAny_pure (fin g a1 a2 a3 a4 a5 a6 a7)) (F.args_zip_next_1 _))))
theorem pn_zs_end {z p q i j l : Addr} {n m : Nat} {tx : Str} {tk : Tok} {ys : Array Value} {u v : Value} {R : Option Value → Shared → Prop} (hh : A.handled = none) (D : ZipApart z p q i j l l) (iz : IsZip s.heap z p q .none) (ip : IsPair s.heap p (.ref i) (.ref j)) (iq : IsPair s.heap q u v)
    (si : AscAt s.heap i tx tk n) (li : s.heap.IsListIter j l m) (hl : s.heap.IsList l ys) (over : tx.cps[n]? = none ∨ ys[m]? = none)
    (fin : ∀ g k, (∀ d o, d ≠ z → d ≠ q → d ≠ i → d ≠ j → s.heap.get? d = some o → g.get? d = some o) → R none { s with heap := g, toks := k }) : wpAny (model prog w) A (pyNext (.ref z)) R E s := by
  have ty : s.TypeIs (.ref z) "zip" := ⟨_, iz, rfl⟩
  unfold pyNext
  refine wpAny_bind (wpAny_attempt (wpAny_callSpecial?_slot (name := Str.ofString "__next__") ty F.slot_zip_next (wpAny_call_entry F.slot_zip_next ty F.entry_zip_next (zs_end hh D iz ip iq si li hl over fun g e k hk he => ?_) (F.args_zip_next_1 _))))
  obtain ⟨o, ho, hc⟩ := he
  refine wpAny_bind (wpAny_isInstance (T := "StopIteration") (b := true) ⟨o, ho, hc⟩ isSubtype_stop ?_)
  exact wpAny_pure (fin g k hk)
end
noncomputable abbrev zsA (h : Heap) (tx : Str) (tk : Tok) : Heap := h.push { cls := .type "str_ascii_iterator", data := .fields #[.str tx tk, .int 0 0] }
noncomputable abbrev zsB (h : Heap) (tx : Str) (tk : Tok) (l : Addr) : Heap := (zsA h tx tk).push { cls := .type "list_iterator", data := .fields #[.ref l, .int 0 0] }
noncomputable abbrev zsC (h : Heap) (tx : Str) (tk : Tok) (l : Addr) : Heap := (zsB h tx tk l).push { cls := .type "tuple", data := .seq #[.ref h.objs.size, .ref (zsA h tx tk).objs.size] }
noncomputable abbrev zsD (h : Heap) (tx : Str) (tk : Tok) (l : Addr) : Heap := (zsC h tx tk l).push { cls := .type "tuple", data := .seq #[.none, .none] }
noncomputable abbrev zsE (h : Heap) (tx : Str) (tk : Tok) (l : Addr) : Heap := (zsD h tx tk l).push { cls := .type "zip", data := .fields #[.none, .bool false, .bool false, .ref (zsB h tx tk l).objs.size, .ref (zsC h tx tk l).objs.size] }
theorem meets_zs (tx : Str) (tk : Tok) (l : Addr) (ys : Array Value) (asc : tx.cps.all (· < 128) = true) :
    Meets (Builtin.«zip.__new__» ⟨[.type "zip", .str tx tk, .ref l], []⟩) (fun _ R s => s.heap.IsList l ys ∧ R (.ok (.ret (.ref (zsD s.heap tx tk l).objs.size))) { s with heap := zsE s.heap tx tk l }) :=
  .of_wp fun prog w A R s h => by
    obtain ⟨hp, gs, d, k, os⟩ := s
    obtain ⟨hl, h⟩ := h
    have hsub := sub_zip
    have hL : Heap.IsList (Shared.heap ⟨hp.push { cls := .type "str_ascii_iterator", data := .fields #[.str tx tk, .int 0 0] }, gs, d, k, os⟩) l ys := Heap.IsList.push hl _
    wp_walk using wpAny_pyIter_ascii asc, wpAny_pyIter_list hL
    exact ⟨_, rfl, h⟩
section
variable {prog : Program} {w : World} {A : Around} {E : Value → Shared → Prop} {s : Shared}
theorem call_zs {tx : Str} {tk : Tok} {l : Addr} {ys : Array Value} {R : Value → Shared → Prop} (asc : tx.cps.all (· < 128) = true) (hl : s.heap.IsList l ys)
    (fin : ∀ g, IsZip g (s.heap.objs.size + 4) (s.heap.objs.size + 2) (s.heap.objs.size + 3) .none → IsPair g (s.heap.objs.size + 2) (.ref s.heap.objs.size) (.ref (s.heap.objs.size + 1)) →
      IsPair g (s.heap.objs.size + 3) .none .none → AscAt g s.heap.objs.size tx tk 0 → g.IsListIter (s.heap.objs.size + 1) l 0 → g.objs.size = s.heap.objs.size + 5 →
      (∀ d o, s.heap.get? d = some o → g.get? d = some o) → R (.ref (s.heap.objs.size + 4)) { s with heap := g }) :
    wpAny (model prog w) A (call (.type "zip") [.str tx tk, .ref l]) R E s := by
  refine callType_new F.called_zip (by decide) (F.typeCall_zip_2 _ _) (F.newCall_zip_2 _ _) (fun obj => F.args_object_init_3 obj _ _) F.entry_zip_new (meets_zs tx tk l ys asc) ⟨hl, ?_⟩
  have na : (zsA s.heap tx tk).objs.size = s.heap.objs.size + 1 := Heap.size_push ..
  have nb : (zsB s.heap tx tk l).objs.size = s.heap.objs.size + 2 := by rw [Heap.size_push, na]
  have nc : (zsC s.heap tx tk l).objs.size = s.heap.objs.size + 3 := by rw [Heap.size_push, nb]
  have nd : (zsD s.heap tx tk l).objs.size = s.heap.objs.size + 4 := by rw [Heap.size_push, nc]
  have ne : (zsE s.heap tx tk l).objs.size = s.heap.objs.size + 5 := by rw [Heap.size_push, nd]
  have ge : (zsE s.heap tx tk l).get? (zsD s.heap tx tk l).objs.size = some _ := Heap.get?_push_size _ rfl
  have gd : (zsE s.heap tx tk l).get? (zsC s.heap tx tk l).objs.size = some _ := Heap.get?_push_of_some _ (Heap.get?_push_size _ rfl)
  have gc : (zsE s.heap tx tk l).get? (zsB s.heap tx tk l).objs.size = some _ := Heap.get?_push_of_some _ (Heap.get?_push_of_some _ (Heap.get?_push_size _ rfl))
  have gb : (zsE s.heap tx tk l).get? (zsA s.heap tx tk).objs.size = some _ := Heap.get?_push_of_some _ (Heap.get?_push_of_some _ (Heap.get?_push_of_some _ (Heap.get?_push_size _ rfl)))
  have gz : (zsE s.heap tx tk l).get? s.heap.objs.size = some _ := Heap.get?_push_of_some _ (Heap.get?_push_of_some _ (Heap.get?_push_of_some _ (Heap.get?_push_of_some _ (Heap.get?_push_size _ rfl))))
  show _ ∧ _
  rw [nb, nc, nd] at ge
  rw [na, nb] at gc
  rw [nc] at gd
  rw [na] at gb
  rw [nd]
  exact ⟨⟨_, ge, rfl⟩, fin _ ge gc gd ⟨_, gz, rfl, rfl⟩ ⟨_, gb, rfl, rfl⟩ ne fun d o x => Heap.get?_push_of_some _ (Heap.get?_push_of_some _ (Heap.get?_push_of_some _ (Heap.get?_push_of_some _ (Heap.get?_push_of_some _ x))))⟩
end
noncomputable def ItzS (K : PySem.W.Frag) (tx : Str) (b : Addr) : It :=
  ⟨fun i H => ∃ (ys : List V) (c : Nat) (y : V), SqL K H b ys ∧ tx.cps[i]? = some c ∧ ys[i]? = some y,
    fun i H v H' => ∃ T c y, v = .ref T ∧ H T = none ∧ H' = upd H T (.tup [.str ⟨#[c]⟩, y]) ∧ tx.cps[i]? = some c ∧ ∀ ys, SqL K H b ys → ys[i]? = some y,
    fun i H => ∃ ys : List V, SqL K H b ys ∧ (tx.cps[i]? = none ∨ ys.length ≤ i)⟩
theorem turn_zs {P : Program} {w : World} {K : PySem.W.Frag} {elts : List Expr} {kk : Nat} {tpos : Pos} {tx : Str} {tk : Tok} {b z p q i1 i2 : Addr} (D : ZipApart z p q i1 i2 b b) :
    Turn P w K (.Tuple elts kk tpos) (ItzS K tx b) [z, p, q, i1, i2] z (fun i h => IsZip h z p q .none ∧ IsPair h p (.ref i1) (.ref i2) ∧ (∃ x y, IsPair h q x y) ∧ AscAt h i1 tx tk i ∧ h.IsListIter i2 b i) where
  mem := List.mem_cons_self
  obj := fun i h st c hc => by
    obtain ⟨iz, ip, ⟨x, y, iq⟩, ⟨o1, e1, _, d1⟩, ⟨o2, e2, _, d2⟩⟩ := st
    have hc' : c = z ∨ c = p ∨ c = q ∨ c = i1 ∨ c = i2 := by simpa using hc
    rcases hc' with r | r | r | r | r <;> rw [r]
    · exact ⟨_, iz, fun v q => nomatch q⟩
    · exact ⟨_, ip, fun v q => nomatch q⟩
    · exact ⟨_, iq, fun v q => nomatch q⟩
    · exact ⟨o1, e1, fun v q => by rw [d1] at q; cases q⟩
    · exact ⟨o2, e2, fun v q => by rw [d2] at q; cases q⟩
  keep := fun i h h' st k => by
    obtain ⟨iz, ip, ⟨x, y, iq⟩, h1, h2⟩ := st
    exact ⟨k z (by simp) _ iz, k p (by simp) _ ip, ⟨x, y, k q (by simp) _ iq⟩, asc_at h1 fun o q => k i1 (by simp) o q, h2.at fun o q => k i2 (by simp) o q⟩
  item := by
    intro X hP hw hK hc i pins s σ H E I hf st hg
    subst hP hw hK
    obtain ⟨iz, ip, ⟨x0, y0, iq⟩, h1, h2⟩ := st
    obtain ⟨ys, c, y, hqy, hx, hy⟩ := hg
    obtain ⟨its2, rv2, p2, _⟩ := I.list hqy
    obtain ⟨u2, hu2, ru2⟩ := rv2.get hy
    have zl : z < s.heap.objs.size := Heap.lt_size iz
    refine pn_zs_item D iz ip iq h1 h2 p2.isList hx (y := u2) (by simpa using hu2) fun h' z' TO' h1' h2' hT hsz hk => ?_
    refine ⟨_, rfl, wpAny_letOwnedTupleGo_zip (s := { s with heap := h', toks := s.toks + 1 }) z' fun h'' z'' sb => ?_⟩
    have hT2 : h''.get? s.heap.objs.size = some { cls := .type "tuple", data := .seq #[.str ⟨#[c]⟩ s.toks, u2] } := (sb.2 _ (Nat.ne_of_gt zl)).trans hT
    have new : ObjOk X.prog X.w (upd H s.heap.objs.size (.tup [.str ⟨#[c]⟩, y])) h'' s.heap.objs.size (.tup [.str ⟨#[c]⟩, y]) :=
      ⟨by show 2 ≤ sizeLine; decide, [.str ⟨#[c]⟩ s.toks, u2], .cons ⟨_, rfl⟩ (.cons ru2 .nil), ⟨_, hT2, rfl, _, rfl⟩⟩
    have I1 : Inv X pins σ (upd H s.heap.objs.size (.tup [.str ⟨#[c]⟩, y])) { s with heap := h'', toks := s.toks + 1 } :=
      I.turnedNew (t' := s.toks + 1) (ch := [z, p, q, i1, i2]) (fun d o hb r => (sb.2 d (fun r' => hb (by simp [r']))).trans (hk d o (fun r' => hb (by simp [r'])) (fun r' => hb (by simp [r'])) (fun r' => hb (by simp [r'])) (fun r' => hb (by simp [r'])) r)) hf (Nat.le_refl _) new
    refine ⟨.ref s.heap.objs.size, _, I1, rfl, ⟨_, c, y, rfl, I.hok.fresh (Nat.le_refl _), rfl, hx, fun l hl => by rw [I.list_inj hl hqy]; exact hy⟩, ⟨z'', ?_, ⟨.str ⟨#[c]⟩ s.toks, u2, ?_⟩, ?_, ?_⟩, fun d hdm => ?_⟩
    · exact (sb.2 _ D.TIz).trans (hk _ _ D.TIz D.TITO D.TIi1 D.TIi2 ip)
    · exact (sb.2 _ D.TOz).trans TO'
    · exact asc_at h1' fun o r => (sb.2 _ D.i1z).trans r
    · exact h2'.at fun o r => (sb.2 _ D.i2z).trans r
    · have hlt : d < s.heap.objs.size := by
        have hd' : d = z ∨ d = p ∨ d = q ∨ d = i1 ∨ d = i2 := by simpa using hdm
        rcases hd' with r | r | r | r | r <;> rw [r]
        · exact zl
        · exact Heap.lt_size ip
        · exact Heap.lt_size iq
        · obtain ⟨_, e1, _⟩ := h1; exact Heap.lt_size e1
        · obtain ⟨_, e2, _⟩ := h2; exact Heap.lt_size e2
      rw [upd_ne (Nat.ne_of_lt hlt)]
      exact (hf d hdm).1
  done := by
    intro X hP hw hK hc i pins s σ H E I hf st hg
    subst hP hw hK
    obtain ⟨iz, ip, ⟨x0, y0, iq⟩, h1, h2⟩ := st
    obtain ⟨ys, hqy, hend⟩ := hg
    obtain ⟨its2, rv2, p2, _⟩ := I.list hqy
    have l2 := rv2.length
    have over : tx.cps[i]? = none ∨ its2.toArray[i]? = none := hend.imp id fun r => by simp; omega
    exact pn_zs_end (I.ok.hd hc) D iz ip iq h1 h2 p2.isList over fun h' k hk => ⟨rfl, I.turnedL (t' := k) (ch := [z, p, q, i1, i2]) (fun d o hb r =>
      hk d o (fun r' => hb (by simp [r'])) (fun r' => hb (by simp [r'])) (fun r' => hb (by simp [r'])) (fun r' => hb (by simp [r'])) r) hf⟩
  self := fun A i s Q E st h => wpAny_pyIter_zip st.1 h
noncomputable def iZipS (K : PySem.W.Frag) (ta : TA) : TI := fun σ H R => ta σ H fun vs H1 => ∃ tx b ys, vs = [.str tx, .ref b] ∧ tx.cps.all (· < 128) = true ∧ SqL K H1 b ys ∧ R (ItzS K tx b) H1
theorem pi_zipS {X : Cx} {e e2 : Expr} {ta : TA} {p pos tpos : Pos} {elts : List Expr} {kk : Nat} (hg : Gl X "zip") (hm : X.mg "zip" = none) (ha : PA X [e, e2] ta)
    (hs : starEach [e, e2] X.env = (false, eval e X.env) :: starEach [e2] X.env := by rfl) (hpl : (backTo pos (starEach [e2] X.env)).any (·.1) = false := by rfl) :
    PI X (.Tuple elts kk tpos) (.Call (.Name "zip" p) [e, e2] [] pos) (iZipS X.K ta) := by
  refine ⟨fun pins s σ H R I h => ?_⟩
  refine Call_ (ld_blt I hg hm PyProof.Rows.boot_zip (PyProof.Rows.callWith_type1 (thn (ha.run pos pins s σ H _ I h) fun us s1 ⟨vs, H1, I1, r1, q1⟩ => ?_) hs hpl))
  obtain ⟨tx, b, ys, ex, asc, hqy, q⟩ := q1
  subst ex
  obtain ⟨u1, u2, rfl, ra, rb⟩ := vals2 r1
  obtain ⟨tk, rfl⟩ := (show ∃ tk, u1 = Value.str tx tk from ra)
  cases (show u2 = Value.ref b from rb)
  obtain ⟨its2, rv2, p2, _⟩ := I1.list hqy
  have lb : b < s1.heap.objs.size := p2.lt
  refine call_zs asc p2.isList fun h' iz ip iq h1 h2 hsz hk => wpAny_pyIter_zip iz ?_
  have I2 : Inv X pins σ H1 { s1 with heap := h' } := I1.kept (t' := s1.toks) hk
  refine ⟨s1.heap.objs.size + 4, [s1.heap.objs.size + 4, s1.heap.objs.size + 2, s1.heap.objs.size + 3, s1.heap.objs.size, s1.heap.objs.size + 1], _, _, H1, rfl, I2, turn_zs (PySem.W.ktu_apart s1.heap.objs.size b b lb lb), ⟨iz, ip, ⟨_, _, iq⟩, h1, h2⟩, fun d hdm => ?_, q⟩
  have hle : s1.heap.objs.size ≤ d := by
    have hd' : d = s1.heap.objs.size + 4 ∨ d = s1.heap.objs.size + 2 ∨ d = s1.heap.objs.size + 3 ∨ d = s1.heap.objs.size ∨ d = s1.heap.objs.size + 1 := by simpa using hdm
    rcases hd' with r | r | r | r | r <;> rw [r]
    · exact Nat.le_add_right _ 4
    · exact Nat.le_add_right _ 2
    · exact Nat.le_add_right _ 3
    · exact Nat.le_refl _
    · exact Nat.le_add_right _ 1
  exact I1.fpOk hle (I1.hok.fresh hle)
end TR

/-! the desk's lines: forms, words, lines -/
namespace TR
open PySem L2 TL
noncomputable def formsL : List (Str × Str) := [("keep", "ngg"), ("put", "nkt"), ("drop", "nk"), ("mend", "n"), ("run", "n"), ("stop", "n"), ("step", "n"), ("left", "n"), ("find", "nk"), ("rooms", "n"), ("room", "ng"), ("keys", "n"), ("settled", "n"), ("where", "kr"), ("trail", "kr"), ("stay", "kh"), ("parted", "kk")]
noncomputable def isOfB (c : Nat) (n : Int) : Bool := if c = 107 ∨ c = 104 then decide (0 ≤ n ∧ n < 1152921504606846976) else if c = 114 then decide (1 ≤ n ∧ n ≤ 1152921504606846976) else if c = 119 then decide (1 ≤ n ∧ n ≤ 8) else if c = 109 then decide (n ≤ 10000000000) else decide (c = 103 ∨ n ≤ 1000000000)
noncomputable def wordF (c : Nat) (x : Str) : Option V := if c = 110 ∨ c = 116 then (if nameB x = true then some (.str x) else none) else match numO x with
  | some n => if isOfB c n = true then some (.int n) else none
  | none => none
noncomputable def stayS (m : Int) : Option Int → Str
  | none => numS m ++ " ever"
  | some r => numS m ++ " " ++ numS r
noncomputable def cS (n : Nat) : Str := ⟨(List.replicate n 99).toArray⟩
noncomputable def spillW (w : Str) (n : Nat) : Prop := w ∈ (["greatest", "least"] : List Str) ∧ 4 ≤ n ∧ n ≤ 123
instance (w : Str) (n : Nat) : Decidable (spillW w n) := inferInstanceAs (Decidable (_ ∧ _ ∧ _))
noncomputable def formX (w : Str) (n : Nat) : Option Str := if spillW w n then some ("wm" ++ cS (n - 3)) else formsL.lookup w
noncomputable def optSV : Option Str → V
  | some f => .str f
  | none => .non
theorem kget_opt (w : Str) : kget formsL w .non = optSV (formsL.lookup w) := by
  unfold kget
  cases formsL.lookup w <;> rfl
noncomputable def formO (w : Str) (n : Nat) : Option Str := match formX w n with
  | some f => if f.length + 1 = n then some f else none
  | none => none
noncomputable def lineO (x : Str) : Option (Str × List V) := match Txt.split x " " with
  | [] => none
  | w :: r => (match formO w (r.length + 1) with
    | some f => (match allO (List.zipWith wordF (tl f) r) with
      | some l => some (w, l)
      | none => none)
    | none => none)
theorem chr_eq {c d : Nat} : (⟨#[c]⟩ : Str) = ⟨#[d]⟩ ↔ c = d := ⟨fun e => by
  have := congrArg tl e
  have h : [c] = [d] := this
  cases h
  rfl, fun e => by rw [e]⟩
theorem chr_is {c d : Nat} {s : Str} (h : s = ⟨#[d]⟩) : (⟨#[c]⟩ : Str) = s ↔ c = d := by
  rw [h]
  exact chr_eq
theorem chr_k {c : Nat} : (⟨#[c]⟩ : Str) = "k" ↔ c = 107 := chr_is (by decide +kernel)
theorem chr_h {c : Nat} : (⟨#[c]⟩ : Str) = "h" ↔ c = 104 := chr_is (by decide +kernel)
theorem chr_r {c : Nat} : (⟨#[c]⟩ : Str) = "r" ↔ c = 114 := chr_is (by decide +kernel)
theorem chr_w {c : Nat} : (⟨#[c]⟩ : Str) = "w" ↔ c = 119 := chr_is (by decide +kernel)
theorem chr_m {c : Nat} : (⟨#[c]⟩ : Str) = "m" ↔ c = 109 := chr_is (by decide +kernel)
theorem chr_g {c : Nat} : (⟨#[c]⟩ : Str) = "g" ↔ c = 103 := chr_is (by decide +kernel)
theorem chr_n {c : Nat} : (⟨#[c]⟩ : Str) = "n" ↔ c = 110 := chr_is (by decide +kernel)
theorem chr_t {c : Nat} : (⟨#[c]⟩ : Str) = "t" ↔ c = 116 := chr_is (by decide +kernel)
theorem mul_c {n : Int} (h : 1 ≤ n) : Txt.mul "c" n = cS n.toNat := by
  have go : ∀ (k : Nat) (b : Array Nat), ((List.replicate k (#[99] : Array Nat)).foldl (· ++ ·) b) = b ++ (List.replicate k 99).toArray := by
    intro k
    induction k with
    | zero =>
      intro b
      show b = b ++ #[]
      rw [Array.append_empty]
    | succ k ih =>
      intro b
      show ((List.replicate k (#[99] : Array Nat)).foldl (· ++ ·) (b ++ #[99])) = _
      rw [ih]
      apply Array.ext'
      simp [List.replicate_succ]
  have hc : ("c" : Str).cps = #[99] := by decide +kernel
  unfold Txt.mul
  rw [if_neg (by omega)]
  by_cases e : n = 1
  · subst e
    have : ("c" : Str) = cS (Int.toNat 1) := by decide +kernel
    rw [← this]
    rfl
  · have hl : ("c" : Str).length = 1 := rfl
    rw [show (n == 1 || ("c" : Str).length == 0) = false from by
      rw [hl, show (n == 1) = false from by rw [beq_eq_false_iff_ne]; exact e]
      rfl, if_neg (by decide), hc, go]
    unfold cS
    congr 1
    rw [Array.empty_append]
theorem s_mulC {H : Hp} {Q : VK} {n : Int} (h1 : 1 ≤ n) (h2 : n ≤ 16000000) (q : Q (.str (cS n.toNat)) H) : rMulS (.str "c") (.int n) H Q := by
  have hl : ("c" : Str).length = 1 := rfl
  have e63 : (2 : Int) ^ 63 = 9223372036854775808 := by decide
  refine ⟨"c", n, rfl, rfl, ⟨?_, fun _ _ => ?_, fun _ _ => ?_⟩, ?_⟩
  · rw [decide_eq_false (by omega), decide_eq_false (by omega)]
    rfl
  · rw [hl, e63]
    have : (1 : Int) ≤ (9223372036854775808 - 1) / n := Int.le_ediv_of_mul_le (by omega) (by omega)
    omega
  · rw [hl, Nat.one_mul]
    show decide (n.toNat > sizeLine) = false
    rw [sizeLine_eq]
    exact decide_eq_false (by omega)
  · rw [mul_c h1]
    exact q
theorem cS_len (n : Nat) : (cS n).length = n := by
  show (List.replicate n 99).toArray.size = n
  rw [List.size_toArray, List.length_replicate]
noncomputable def wordV (c : Nat) : V → Option V
  | .str x => wordF c x
  | _ => none
theorem zip_wordV (cs : List Nat) (r : List Str) : List.zipWith wordV cs (r.map V.str) = List.zipWith wordF cs r := by
  induction cs generalizing r with
  | nil => rfl
  | cons c cs ih =>
    cases r with
    | nil => rfl
    | cons x r =>
      show wordF c x :: List.zipWith wordV cs (r.map V.str) = wordF c x :: List.zipWith wordF cs r
      rw [ih]
theorem formO_some {w f : Str} {n : Nat} (h : formO w n = some f) : formX w n = some f ∧ f.length + 1 = n := by
  unfold formO at h
  cases e : formX w n with
  | none => rw [e] at h; cases h
  | some g =>
    rw [e] at h
    have h' : (if g.length + 1 = n then some g else none) = some f := h
    split at h'
    · cases h'
      exact ⟨rfl, by assumption⟩
    · cases h'
theorem form_asc {w f : Str} {n : Nat} (h : formX w n = some f) : f.cps.all (· < 128) = true := by
  unfold formX at h
  split at h
  · cases h
    rw [Array.all_eq_true']
    intro c hc
    have hm : c ∈ tl ("wm" ++ cS (n - 3)) := Array.mem_toList_iff.mpr hc
    rw [tl_append] at hm
    rcases List.mem_append.mp hm with m | m
    · have : ∀ c ∈ tl "wm", c < 128 := by decide +kernel
      simpa using this c m
    · have m' : c ∈ List.replicate (n - 3) 99 := by
        have e : tl (cS (n - 3)) = List.replicate (n - 3) 99 := by
          show (List.replicate (n - 3) 99).toArray.toList = _
          simp
        rw [e] at m
        exact m
      rw [List.eq_of_mem_replicate m']
      decide
  · have all : ∀ q ∈ formsL, q.2.cps.all (· < 128) = true := by decide +kernel
    exact all (w, f) (lookup_mem_of h)
theorem numO_num {x : Str} {n : Int} (h : numO x = some n) : ∃ m : Nat, n = (m : Int) ∧ x = numS (m : Int) ∧ (m : Int) < 1000000000000000000000000000000 := by
  cases f : figsB x with
  | false => rw [figs_no f] at h; cases h
  | true =>
    obtain ⟨m, e, lt, e2⟩ := figs_num f
    rw [e2] at h
    cases h
    exact ⟨m, rfl, e, lt⟩
section
variable {K : PySem.W.Frag} {σ : L2.St} {H Z : Hp} {te : TE} {Q : VK} {g : TG} {vs : List Nat} {b : Addr} {us : List V} {tx : Str}
theorem s_lcZS {ta : TA} {tt : TT} (q : ta σ H fun xs H1 => ∃ tx b ys, xs = [.str tx, .ref b] ∧ tx.cps.all (· < 128) = true ∧ SqL K H1 b ys ∧ LcJ g tt te vs σ (ItzS K tx b) H1 Q) : tLc (iZipS K ta) g tt te vs σ H Q := q
/-- over a text and a list, sign by sign: what each pair gives, or nothing: then it is left -/
theorem c_zipXV {Er : Hp → Prop} (F : Nat → V → Option V) (zh : Ex Z H) (h1 : Z b = some (.lst us)) (hl : (tl tx).length = us.length) (hz : us.length ≤ 4000000)
    (turn : ∀ (i c : Nat) (u : V) (Tp : Addr) (Z1 H1 : Hp), (tl tx)[i]? = some c → us[i]? = some u → T [] Z H Z1 H1 → Z1 Tp = some (.tup [.str ⟨#[c]⟩, u]) → ∀ A : VK, (∀ y Z3 H3, F c u = some y → T [] Z1 H1 Z3 H3 → A y H3) → (F c u = none → ∀ Z3 H3, T [] Z1 H1 Z3 H3 → Er H3) → g (.ref Tp) (wipe σ vs) H1 fun σ2 H2 => wipe σ2 vs = wipe σ vs ∧ te σ2 H2 A)
    (fin : ∀ D l Z' H', H D = none → allO (List.zipWith F (tl tx) us) = some l → T [] Z H Z' H' → Z' D = some (.lst l) → Q (.ref D) H')
    (err : allO (List.zipWith F (tl tx) us) = none → ∀ Z' H', T [] Z H Z' H' → Er H') : LcJ g tYes te vs σ (ItzS K tx b) H Q := by
  have hzl : (List.zipWith F (tl tx) us).length = us.length := by rw [List.length_zipWith]; omega
  intro D hD
  refine ⟨fun i m H' => m = us.length - i ∧ i ≤ us.length ∧ ∃ Z', T [] Z H Z' H' ∧ Z' D = none ∧ ∃ l : List V, allO ((List.zipWith F (tl tx) us).take i) = some l ∧ l.length ≤ i ∧ H' D = some (.lst l),
    ⟨us.length, by omega, by omega, Z, T.newM hD zh, Ex.back zh hD, [], rfl, Nat.le_refl _, upd_same⟩, ?_⟩
  rintro i m H' ⟨rfl, hi, Z', t, zD, l, hA, hlen, hH⟩
  have zh' := t.zh
  have hb := zh' _ _ (t.z _ _ h1)
  by_cases hlt : i < us.length
  · have ec : (tl tx)[i]? = some ((tl tx)[i]'(by omega)) := List.getElem?_eq_getElem (by omega)
    have eu : us[i]? = some (us[i]'hlt) := List.getElem?_eq_getElem hlt
    generalize (tl tx)[i]'(by omega) = c at ec
    generalize us[i]'hlt = u at eu
    have ec' : tx.cps[i]? = some c := by
      have : tx.cps.toList[i]? = some c := ec
      rw [Array.getElem?_toList] at this
      exact this
    refine .inr ⟨⟨us, c, u, sq_of hb, ec', eu⟩, fun H'' => i + 1 ≤ us.length ∧ ∃ Z', T [] Z H Z' H'' ∧ Z' D = none ∧ ∃ l : List V, allO ((List.zipWith F (tl tx) us).take (i + 1)) = some l ∧ l.length ≤ i + 1 ∧ H'' D = some (.lst l),
      fun H'' q => ⟨us.length - (i + 1), by omega, rfl, q⟩, fun v H2 hy => ?_⟩
    obtain ⟨Tp, c', y, rfl, hT, rfl, hc', hys⟩ := hy
    rw [ec'] at hc'
    cases hc'
    have hy' := hys _ (sq_of hb)
    rw [eu] at hy'
    cases hy'
    have t2 : T [] Z' H' (upd Z' Tp (.tup [.str ⟨#[c]⟩, u])) (upd H' Tp (.tup [.str ⟨#[c]⟩, u])) := T.new hT zh'
    have nDT : D ≠ Tp := fun e => by rw [← e, hH] at hT; cases hT
    have zD2 : upd Z' Tp (.tup [.str ⟨#[c]⟩, u]) D = none := by rw [upd_ne nDT]; exact zD
    have hH2 : upd H' Tp (.tup [.str ⟨#[c]⟩, u]) D = some (.lst l) := by rw [upd_ne nDT]; exact hH
    have et : (List.zipWith F (tl tx) us).take (i + 1) = (List.zipWith F (tl tx) us).take i ++ [F c u] := by
      rw [List.take_add_one, List.getElem?_zipWith, ec, eu]
      rfl
    rw [lc_yes]
    refine turn i c u Tp _ _ ec eu (t.step t2 mm_nil) upd_same _ (fun y Z3 H3 hF t3 => ?_) fun hF Z3 H3 t3 => ?_
    · have hH3 := t3.hp nm_nil hH2
      have zD3 : Z3 D = none := t3.fr D nm_nil zD2 ⟨_, hH2⟩
      have t4 : T [] Z H Z3 H3 := (t.step t2 mm_nil).step t3 mm_nil
      have t5 : T [D] Z3 H3 Z3 (upd H3 D (.lst (l ++ [y]))) := T.set ⟨zD3, _, hH3⟩ t4.zh
      refine ⟨l, hH3, ?_, by omega, Z3, t4.step t5 (mm_cons (.inr hD) mm_nil), zD3, l ++ [y], ?_, ?_, upd_same⟩
      · rw [sizeLine_eq]
        omega
      · rw [et, hF]
        exact allO_snoc hA
      · rw [List.length_append]
        show _ + 1 ≤ _
        omega
    · refine err (allO_none.mpr ?_) Z3 H3 ((t.step t2 mm_nil).step t3 mm_nil)
      rw [← hF]
      have : (List.zipWith F (tl tx) us)[i]? = some (F c u) := by
        rw [List.getElem?_zipWith, ec, eu]
      exact List.mem_of_getElem? this
  · have ei : i = us.length := by omega
    subst ei
    rw [List.take_of_length_le (by omega)] at hA
    refine .inl ⟨⟨us, sq_of hb, .inr (Nat.le_refl _)⟩, ?_⟩
    exact fin D l (upd Z' D (.lst l)) H' hD hA (t.step (T.fz zh' zD hH) (mm_1 (.inr hD))) upd_same
end
end TR

/-! the rooms through which a key goes -/
namespace TR
theorem mod_step (x : Int) (k : Nat) : x % 2 ^ (k + 1) = x % 2 ^ k + 2 ^ k * bit x k := by
  rw [two_succ, mod_two x (by have := two_pos k; omega)]
  rfl
theorem mod_more (x : Int) {k m : Nat} (h : k ≤ m) : ∃ c : Int, 0 ≤ c ∧ x % 2 ^ m = x % 2 ^ k + 2 ^ k * c := by
  have p := two_pos k
  have q := two_pos m
  have d := Int.mul_ediv_add_emod (x % 2 ^ m) (2 ^ k)
  have e : x % 2 ^ m % 2 ^ k = x % 2 ^ k := Int.emod_emod_of_dvd x ⟨2 ^ (m - k), by rw [← two_add]; congr 1; omega⟩
  rw [e] at d
  refine ⟨x % 2 ^ m / 2 ^ k, Int.ediv_nonneg (Int.emod_nonneg x (by omega)) (by omega), by omega⟩
theorem mod_le (x : Int) {k m : Nat} (h : k ≤ m) : x % 2 ^ k ≤ x % 2 ^ m := by
  obtain ⟨c, h0, e⟩ := mod_more x h
  have p := two_pos k
  have := Int.mul_nonneg (show (0 : Int) ≤ 2 ^ k by omega) h0
  omega
noncomputable def turnsN (x : Int) : Nat → List Int
  | 0 => [0]
  | n + 1 => if bit x n = 1 then turnsN x n ++ [x % 2 ^ (n + 1)] else turnsN x n
theorem turns_le (x : Int) : ∀ n t, t ∈ turnsN x n → t ≤ x % 2 ^ n
  | 0, t, h => by
    rw [List.mem_singleton.mp h]
    exact Int.emod_nonneg x (by decide)
  | n + 1, t, h => by
    unfold turnsN at h
    split at h
    · rcases List.mem_append.mp h with h | h
      · exact Int.le_trans (turns_le x n t h) (mod_le x (Nat.le_succ n))
      · rw [List.mem_singleton.mp h]
        exact Int.le_refl _
    · exact Int.le_trans (turns_le x n t h) (mod_le x (Nat.le_succ n))
theorem turns_sorted (x : Int) : ∀ n, (turnsN x n).Pairwise (· < ·)
  | 0 => List.pairwise_singleton _ _
  | n + 1 => by
    unfold turnsN
    split
    · rename_i hb
      refine List.pairwise_append.mpr ⟨turns_sorted x n, List.pairwise_singleton _ _, fun a ha b hb2 => ?_⟩
      rw [List.mem_singleton.mp hb2, mod_step, hb]
      have := turns_le x n a ha
      have := two_pos n
      omega
    · exact turns_sorted x n
theorem turns_mem (x : Int) : ∀ (n : Nat) (t : Int), t ∈ turnsN x n ↔ ∃ k, k ≤ n ∧ t = x % 2 ^ k
  | 0, t => by
    have e : x % 2 ^ 0 = 0 := Int.emod_one x
    constructor
    · intro h
      exact ⟨0, Nat.le_refl _, by rw [e]; exact List.mem_singleton.mp h⟩
    · rintro ⟨k, hk, rfl⟩
      have : k = 0 := by omega
      subst this
      rw [e]
      exact List.mem_singleton.mpr rfl
  | n + 1, t => by
    have ih := turns_mem x n t
    have b := bit01 x n
    unfold turnsN
    constructor
    · intro h
      split at h
      · rcases List.mem_append.mp h with h | h
        · obtain ⟨k, hk, e⟩ := ih.mp h
          exact ⟨k, by omega, e⟩
        · exact ⟨n + 1, Nat.le_refl _, List.mem_singleton.mp h⟩
      · obtain ⟨k, hk, e⟩ := ih.mp h
        exact ⟨k, by omega, e⟩
    · rintro ⟨k, hk, e⟩
      by_cases hk2 : k ≤ n
      · have := ih.mpr ⟨k, hk2, e⟩
        split
        · exact List.mem_append.mpr (.inl this)
        · exact this
      · have ek : k = n + 1 := by omega
        subst ek
        split
        · exact List.mem_append.mpr (.inr (List.mem_singleton.mpr e))
        · rename_i hb
          refine ih.mpr ⟨n, Nat.le_refl _, ?_⟩
          rw [e, mod_step, show bit x n = 0 by omega]
          omega
theorem turns_len (x : Int) : ∀ n, (turnsN x n).length ≤ n + 1
  | 0 => Nat.le_refl _
  | n + 1 => by
    unfold turnsN
    have := turns_len x n
    split
    · rw [List.length_append]
      show _ + 1 ≤ _
      omega
    · omega
/-- the trail up to a number of rooms -/
noncomputable def byBits (x r : Int) : Nat → List (Int × Int)
  | 0 => [(1, 0)]
  | n + 1 => if bit x n = 1 ∧ x % 2 ^ (n + 1) < r then byBits x r n ++ [(x % 2 ^ (n + 1) + 1, x % 2 ^ (n + 1))] else byBits x r n
noncomputable def trailOf (l : List Int) (r : Int) : List (Int × Int) := (1, 0) :: (l.filter fun m => decide (0 < m ∧ m < r)).map fun m => (m + 1, m)
theorem trailOf_snoc (l : List Int) (m r : Int) : trailOf (l ++ [m]) r = if 0 < m ∧ m < r then trailOf l r ++ [(m + 1, m)] else trailOf l r := by
  unfold trailOf
  rw [List.filter_append, List.map_append]
  by_cases h : 0 < m ∧ m < r
  · rw [if_pos h, List.filter_cons, if_pos (decide_eq_true h)]
    rfl
  · rw [if_neg h, List.filter_cons, if_neg (by rw [decide_eq_false h]; exact Bool.false_ne_true)]
    show _ :: (_ ++ []) = _
    rw [List.append_nil]
theorem byBits_eq (x r : Int) : ∀ n, byBits x r n = trailOf (turnsN x n) r
  | 0 => by
    show [(1, 0)] = trailOf ([] ++ [0]) r
    rw [trailOf_snoc, if_neg (by omega)]
    rfl
  | n + 1 => by
    unfold byBits turnsN
    have p := two_pos n
    have l := Int.emod_nonneg x (show (2 : Int) ^ n ≠ 0 by omega)
    by_cases hb : bit x n = 1
    · have ms := mod_step x n
      rw [hb] at ms
      rw [if_pos hb, trailOf_snoc, byBits_eq x r n]
      by_cases h : x % 2 ^ (n + 1) < r
      · rw [if_pos ⟨hb, h⟩, if_pos ⟨by omega, h⟩]
      · rw [if_neg (fun z => h z.2), if_neg (fun z => h z.2)]
    · rw [if_neg (fun z => hb z.1), if_neg hb, byBits_eq x r n]
theorem byBits_len (x r : Int) (n : Nat) : (byBits x r n).length ≤ n + 1 := by
  induction n with
  | zero => exact Nat.le_refl _
  | succ n ih =>
    unfold byBits
    split
    · rw [List.length_append]
      show _ + 1 ≤ _
      omega
    · omega
end TR
namespace TR
end TR
namespace TR
/-- the next room that comes behind a room -/
noncomputable def nxt (l : List Int) (m : Int) : Option Int := (l.find? fun t => decide (m < t)).map fun t => t + 1
theorem find_next : ∀ {l : List Int} {j : Nat} {m : Int}, l.Pairwise (· < ·) → l[j]? = some m → l.find? (fun t => decide (m < t)) = l[j + 1]?
  | [], j, m, _, h => by simp at h
  | a :: l, 0, m, h, e => by
    cases e
    rw [List.find?_cons, decide_eq_false (Int.lt_irrefl a)]
    cases l with
    | nil => rfl
    | cons b l => 
      have := (List.pairwise_cons.mp h).1 b List.mem_cons_self
      rw [List.find?_cons, decide_eq_true this]
      rfl
  | a :: l, j + 1, m, h, e => by
    have e' : l[j]? = some m := e
    have lt := (List.pairwise_cons.mp h).1 m (List.mem_of_getElem? e')
    rw [List.find?_cons, decide_eq_false (by omega)]
    exact find_next (List.pairwise_cons.mp h).2 e'
end TR

namespace TR
/-- keys put to the rooms' counts -/
noncomputable def addI (ms p : List Int) : List Int := (ms.zip p).map fun q => q.1 + q.2
noncomputable def freeI (m w : Int) : Int := w * rowsI m w - m
noncomputable def Put (ms p : List Int) (more : Int) : Prop := p.length = ms.length ∧ (∀ x ∈ p, 0 ≤ x) ∧ p.sum = more
theorem addI_len {ms p : List Int} (h : p.length = ms.length) : (addI ms p).length = ms.length := by
  unfold addI
  rw [List.length_map, List.length_zip]
  omega
theorem spillI_cons (m : Int) (ms : List Int) (w : Int) : spillI (m :: ms) w = rowsI m w - 1 + spillI ms w := rfl
theorem rowsI_mono {m t w : Int} (hw : 0 < w) (ht : 0 ≤ t) : rowsI m w ≤ rowsI (m + t) w := by
  have : (m + w - 1) / w ≤ (m + t + w - 1) / w := Int.ediv_le_ediv hw (by omega)
  unfold rowsI
  omega
theorem free_pos {m w : Int} (hm : 0 ≤ m) (hw : 0 < w) : 0 ≤ freeI m w := by
  have := (rowsI_facts hm hw).1
  unfold freeI
  rw [Int.mul_comm]
  omega
theorem rows_same {m t w : Int} (hm : 0 ≤ m) (ht : 0 ≤ t) (hw : 0 < w) (hf : t ≤ freeI m w) : rowsI (m + t) w = rowsI m w := by
  have h1 := rowsI_mono (m := m) hw ht
  have h2 := rowsI_pos m w
  unfold freeI at hf
  have : (m + t + w - 1) / w < rowsI m w + 1 := Int.ediv_lt_of_lt_mul hw (by rw [Int.add_mul, Int.one_mul, Int.mul_comm]; omega)
  have e : rowsI (m + t) w = max 1 ((m + t + w - 1) / w) := rfl
  omega
noncomputable def ceilI (x w : Int) : Int := (max 0 x + w - 1) / w
theorem ceil_zero {x w : Int} (hw : 0 < w) (h : x ≤ 0) : ceilI x w = 0 := by
  unfold ceilI
  rw [Int.max_eq_left h]
  exact Int.ediv_eq_zero_of_lt (by omega) (by omega)
theorem ceil_pos {x w : Int} (hw : 0 < w) : 0 ≤ ceilI x w := Int.ediv_nonneg (by omega) (by omega)
noncomputable def freeS (ms : List Int) (w : Int) : Int := (ms.map fun m => freeI m w).sum
/-- what a put of more keys costs at least -/
noncomputable def leastI (ms : List Int) (w more : Int) : Int := spillI ms w + ceilI (more - freeS ms w) w
/-- the way of least_spill -/
noncomputable def leastF (w : Int) (s : List Int × Int) (m : Int) : List Int × Int := (s.1 ++ [min s.2 (freeI m w)], s.2 - min s.2 (freeI m w))
noncomputable def leastSt (ms : List Int) (w more : Int) : List Int × Int := ms.foldl (leastF w) ([], more)
noncomputable def leastGo : List Int → Int → Int → List Int × Int
  | [], _, l => ([], l)
  | m :: ms, w, l => (min l (freeI m w) :: (leastGo ms w (l - min l (freeI m w))).1, (leastGo ms w (l - min l (freeI m w))).2)
theorem leastSt_go : ∀ (ms : List Int) (w l : Int) (pre : List Int), ms.foldl (leastF w) (pre, l) = (pre ++ (leastGo ms w l).1, (leastGo ms w l).2)
  | [], _, _, pre => by simp [leastGo]
  | m :: ms, w, l, pre => by
    rw [List.foldl_cons]
    show ms.foldl (leastF w) (pre ++ [min l (freeI m w)], l - min l (freeI m w)) = _
    rw [leastSt_go ms w _ _]
    simp [leastGo]
theorem leastGo_facts : ∀ (ms : List Int) {w l : Int}, 0 < w → 0 ≤ l → (∀ m ∈ ms, 0 ≤ m) →
    (leastGo ms w l).1.length = ms.length ∧ (∀ x ∈ (leastGo ms w l).1, 0 ≤ x ∧ x ≤ l) ∧ (leastGo ms w l).1.sum + (leastGo ms w l).2 = l ∧ (leastGo ms w l).2 = max 0 (l - freeS ms w) ∧ spillI (addI ms (leastGo ms w l).1) w = spillI ms w
  | [], w, l, _, hl, _ => by
    refine ⟨rfl, fun x hx => absurd hx List.not_mem_nil, ?_, ?_, rfl⟩
    · show (0 : Int) + l = l
      omega
    · show l = max 0 (l - 0)
      omega
  | m :: ms, w, l, hw, hl, hm => by
    have hf := free_pos (hm m List.mem_cons_self) hw
    obtain ⟨t, ht⟩ : ∃ t, t = min l (freeI m w) := ⟨_, rfl⟩
    obtain ⟨i1, i2, i3, i4, i5⟩ := leastGo_facts ms (w := w) (l := l - t) hw (by omega) (fun x hx => hm x (List.mem_cons_of_mem _ hx))
    have eg : leastGo (m :: ms) w l = (t :: (leastGo ms w (l - t)).1, (leastGo ms w (l - t)).2) := by rw [ht]; rfl
    have es : freeS (m :: ms) w = freeI m w + freeS ms w := rfl
    rw [eg, es]
    refine ⟨by simp [i1], fun x hx => ?_, by simp only [List.sum_cons]; omega, ?_, ?_⟩
    · rcases List.mem_cons.mp hx with rfl | hx
      · omega
      · have := i2 x hx
        omega
    · rw [i4]
      have : 0 ≤ freeS ms w := by
        have : ∀ l : List Int, (∀ m ∈ l, 0 ≤ m) → 0 ≤ freeS l w := by
          intro l
          induction l with
          | nil => intro _; exact Int.le_refl _
          | cons a l ih =>
            intro h
            have := free_pos (h a List.mem_cons_self) hw
            have := ih fun x hx => h x (List.mem_cons_of_mem _ hx)
            show 0 ≤ freeI a w + freeS l w
            omega
        exact this ms fun x hx => hm x (List.mem_cons_of_mem _ hx)
      omega
    · show spillI ((m + t) :: addI ms _) w = _
      rw [spillI_cons, spillI_cons, i5, rows_same (hm m List.mem_cons_self) (by omega) hw (by omega)]
theorem freeS_pos {w : Int} (hw : 0 < w) : ∀ {l : List Int}, (∀ m ∈ l, 0 ≤ m) → 0 ≤ freeS l w
  | [], _ => Int.le_refl _
  | a :: l, h => by
    have := free_pos (h a List.mem_cons_self) hw
    have := freeS_pos hw (l := l) fun x hx => h x (List.mem_cons_of_mem _ hx)
    show 0 ≤ freeI a w + freeS l w
    omega
noncomputable def leastPut (ms : List Int) (w more : Int) : List Int := (leastSt ms w more).1.set 0 ((leastSt ms w more).1.getD 0 0 + (leastSt ms w more).2)
theorem leastPut_facts {ms : List Int} {w more : Int} (hw : 0 < w) (h0 : 0 ≤ more) (hm : ∀ m ∈ ms, 0 ≤ m) (hn : ms ≠ []) : Put ms (leastPut ms w more) more ∧ spillI (addI ms (leastPut ms w more)) w = leastI ms w more := by
  cases ms with
  | nil => exact absurd rfl hn
  | cons m ms =>
    have e : leastSt (m :: ms) w more = leastGo (m :: ms) w more := by
      unfold leastSt
      rw [leastSt_go]
      rfl
    have hf := free_pos (hm m List.mem_cons_self) hw
    obtain ⟨t, ht⟩ : ∃ t, t = min more (freeI m w) := ⟨_, rfl⟩
    have hm' : ∀ x ∈ ms, 0 ≤ x := fun x hx => hm x (List.mem_cons_of_mem _ hx)
    obtain ⟨i1, i2, i3, i4, i5⟩ := leastGo_facts ms (w := w) (l := more - t) hw (by omega) hm'
    have fp := freeS_pos hw hm'
    have eg : leastGo (m :: ms) w more = (t :: (leastGo ms w (more - t)).1, (leastGo ms w (more - t)).2) := by rw [ht]; rfl
    have ep : leastPut (m :: ms) w more = (t + (leastGo ms w (more - t)).2) :: (leastGo ms w (more - t)).1 := by
      unfold leastPut
      rw [e, eg]
      rfl
    rw [ep]
    have es : freeS (m :: ms) w = freeI m w + freeS ms w := rfl
    refine ⟨⟨by simp [i1], fun x hx => ?_, by simp only [List.sum_cons]; omega⟩, ?_⟩
    · rcases List.mem_cons.mp hx with rfl | hx
      · omega
      · exact (i2 x hx).1
    · show spillI ((m + (t + _)) :: addI ms _) w = _
      unfold leastI
      rw [spillI_cons, spillI_cons, i5, es]
      by_cases c : more - (freeI m w + freeS ms w) ≤ 0
      · rw [ceil_zero hw c, show (leastGo ms w (more - t)).2 = 0 by omega, Int.add_zero, rows_same (hm m List.mem_cons_self) (by omega) hw (by omega)]
        omega
      · have e1 : (leastGo ms w (more - t)).2 = more - (freeI m w + freeS ms w) := by omega
        have e2 : t = freeI m w := by omega
        rw [e1, e2]
        generalize more - (freeI m w + freeS ms w) = x at *
        have e3 : m + (freeI m w + x) = w * rowsI m w + x := by unfold freeI; omega
        have e4 : rowsI (w * rowsI m w + x) w = rowsI m w + ceilI x w := by
          have hp := rowsI_pos m w
          have hc := ceil_pos (x := x) hw
          have : (w * rowsI m w + x + w - 1) / w = rowsI m w + ceilI x w := by
            unfold ceilI
            rw [Int.max_eq_right (by omega), show w * rowsI m w + x + w - 1 = (x + w - 1) + w * rowsI m w by omega, Int.add_mul_ediv_left _ _ (by omega)]
            omega
          show max 1 ((w * rowsI m w + x + w - 1) / w) = _
          rw [this]
          omega
        rw [e3, e4]
        omega
end TR
namespace TR
/-- all puts, as lists -/
noncomputable def putsG : Nat → Int → List (List Int)
  | 0, _ => [[]]
  | k + 1, more => (putsG k more).flatMap fun p => (List.range (more - p.sum + 1).toNat).map fun (i : Nat) => p ++ [(i : Int)]
noncomputable def putsI (rooms : Nat) (more : Int) : List (List Int) := (putsG (rooms - 1) more).map fun p => p ++ [more - p.sum]
end TR

namespace TR
/-- what so many keys more get out of the needs, least first -/
noncomputable def greatG : List Int → Int → Int → Int
  | [], w, left => left / w
  | n :: ns, w, left => if left < n then 0 else 1 + greatG ns w (left - n)
noncomputable def over (l : Int) (ns : List Int) : Int := (ns.map fun n => max 0 (l - n)).sum
/-- the needs of the rooms that have keys -/
noncomputable def needV (ms : List Int) (w : Int) : List Int := (ms.filter fun m => decide (m > 0)).map fun m => freeI m w + 1
theorem needV_cons (m : Int) (ms : List Int) (w : Int) : needV (m :: ms) w = if m > 0 then (freeI m w + 1) :: needV ms w else needV ms w := by
  unfold needV
  by_cases c : m > 0
  · rw [if_pos c, List.filter_cons, if_pos (decide_eq_true c)]
    rfl
  · rw [if_neg c, List.filter_cons, if_neg (fun z => c (of_decide_eq_true z))]
theorem free_lt {m w : Int} (hm : 0 < m) (hw : 0 < w) : freeI m w < w := by
  have h := (rowsI_facts (show 0 ≤ m by omega) hw).2.2.2.1
  rw [if_neg (by omega)] at h
  unfold freeI
  rw [Int.mul_comm]
  omega
/-- the greatest spill behind any put -/
noncomputable def greatI (ms : List Int) (w more : Int) : Int := spillI ms w + (if needV ms w = [] then max 0 (more - 1) / w else greatG (sortI (needV ms w)) w more)
theorem zero_all {ms : List Int} {w : Int} (hm : ∀ m ∈ ms, 0 ≤ m) (h : needV ms w = []) : ∀ m ∈ ms, m = 0 := fun m hx => by
  unfold needV at h
  have h := List.map_eq_nil_iff.mp h
  have := List.filter_eq_nil_iff.mp h m hx
  have : ¬ m > 0 := fun z => this (decide_eq_true z)
  have := hm m hx
  omega
end TR
namespace TR
/-- the way of greatest_spill -/
noncomputable def greatF (s : List Int × Int) (nr : Int × Int) : List Int × Int := if nr.1 ≤ s.2 then (s.1.set nr.2.toNat nr.1, s.2 - nr.1) else s
/-- room by room: what a room needs for one row more -/
noncomputable def needP (ms : List Int) (w : Int) (j : Nat) : List (Int × Int) := ((List.range j).filter fun r => decide (ms.getD r 0 > 0)).map fun r => (freeI (ms.getD r 0) w + 1, (r : Int))
theorem needP_succ (ms : List Int) (w : Int) (j : Nat) : needP ms w (j + 1) = if ms.getD j 0 > 0 then needP ms w j ++ [(freeI (ms.getD j 0) w + 1, (j : Int))] else needP ms w j := by
  unfold needP
  rw [List.range_succ, List.filter_append, List.map_append]
  by_cases c : ms.getD j 0 > 0
  · rw [if_pos c, List.filter_cons, if_pos (decide_eq_true c)]
    rfl
  · rw [if_neg c, List.filter_cons, if_neg (fun z => c (of_decide_eq_true z))]
    simp
theorem needP_len (ms : List Int) (w : Int) (j : Nat) : (needP ms w j).length ≤ j := by
  unfold needP
  rw [List.length_map]
  have := List.length_filter_le (fun r => decide (ms.getD r 0 > 0)) (List.range j)
  rw [List.length_range] at this
  exact this
theorem needP_fst (ms : List Int) (w : Int) : (needP ms w ms.length).map Prod.fst = needV ms w := by
  have h : ∀ j, j ≤ ms.length → (needP ms w j).map Prod.fst = needV (ms.take j) w := by
    intro j
    induction j with
    | zero => intro _; rfl
    | succ j ih =>
      intro hj
      have hx : ms[j]? = some (ms.getD j 0) := by
        rw [List.getD_eq_getElem?_getD, List.getElem?_eq_getElem (by omega)]
        rfl
      rw [needP_succ, List.take_add_one, hx]
      show _ = needV (ms.take j ++ [ms.getD j 0]) w
      have e : needV (ms.take j ++ [ms.getD j 0]) w = needV (ms.take j) w ++ needV [ms.getD j 0] w := by
        unfold needV
        rw [List.filter_append, List.map_append]
      rw [e, needV_cons]
      by_cases c : ms.getD j 0 > 0
      · rw [if_pos c, if_pos c, List.map_append, ih (by omega)]
        rfl
      · rw [if_neg c, if_neg c, ih (by omega)]
        show _ = _ ++ []
        rw [List.append_nil]
  have := h ms.length (Nat.le_refl _)
  rw [List.take_length] at this
  exact this
/-- a room of the list, with its need -/
noncomputable def NR (ms : List Int) (w : Int) (q : Int × Int) : Prop := ∃ r : Nat, r < ms.length ∧ q.2 = (r : Int) ∧ ms.getD r 0 > 0 ∧ q.1 = freeI (ms.getD r 0) w + 1
theorem needP_all {ms : List Int} {w : Int} : ∀ q ∈ needP ms w ms.length, NR ms w q := fun q hq => by
  obtain ⟨r, hr, rfl⟩ := List.mem_map.mp hq
  obtain ⟨h1, h2⟩ := List.mem_filter.mp hr
  exact ⟨r, List.mem_range.mp h1, rfl, of_decide_eq_true h2, rfl⟩
theorem needP_nd (ms : List Int) (w : Int) (j : Nat) : (needP ms w j).Pairwise (fun a b => a.2 ≠ b.2) := by
  unfold needP
  refine List.pairwise_map.mpr (List.Pairwise.imp (fun {a b} h z => ?_) (List.Pairwise.filter _ (List.pairwise_lt_range (n := j))))
  have z : (a : Int) = (b : Int) := z
  omega
theorem set_spill {w : Int} : ∀ {ms p : List Int} {r : Nat} {x : Int}, p.length = ms.length → r < ms.length → spillI (addI ms (p.set r x)) w = spillI (addI ms p) w - rowsI (ms.getD r 0 + p.getD r 0) w + rowsI (ms.getD r 0 + x) w
  | m :: ms, t :: p, 0, x, hl, hr => by
    show spillI ((m + x) :: addI ms p) w = spillI ((m + t) :: addI ms p) w - rowsI (m + t) w + rowsI (m + x) w
    rw [spillI_cons, spillI_cons]
    omega
  | m :: ms, t :: p, r + 1, x, hl, hr => by
    have ih := set_spill (w := w) (ms := ms) (p := p) (r := r) (x := x) (by simpa using hl) (by simpa using hr)
    show spillI ((m + t) :: addI ms (p.set r x)) w = spillI ((m + t) :: addI ms p) w - rowsI (ms.getD r 0 + p.getD r 0) w + rowsI (ms.getD r 0 + x) w
    rw [spillI_cons, spillI_cons, ih]
    omega
theorem set_sum : ∀ {p : List Int} {r : Nat} {x : Int}, r < p.length → (p.set r x).sum = p.sum - p.getD r 0 + x
  | t :: p, 0, x, hr => by
    show x + p.sum = t + p.sum - t + x
    omega
  | t :: p, r + 1, x, hr => by
    have ih := set_sum (p := p) (r := r) (x := x) (by simpa using hr)
    show t + (p.set r x).sum = t + p.sum - p.getD r 0 + x
    omega
theorem set_get {p : List Int} {r q : Nat} {x : Int} (h : r ≠ q) : (p.set r x).getD q 0 = p.getD q 0 := by
  rw [List.getD_eq_getElem?_getD, List.getD_eq_getElem?_getD, List.getElem?_set_ne h]
theorem set_own {p : List Int} {r : Nat} {x : Int} (h : r < p.length) : (p.set r x).getD r 0 = x := by
  rw [List.getD_eq_getElem?_getD, List.getElem?_set_self h]
  rfl
theorem rows_step {m w x : Int} (hw : 0 < w) (hx : 0 ≤ x) : rowsI (m + (freeI m w + 1 + x)) w = rowsI m w + 1 + x / w := by
  have e : m + (freeI m w + 1 + x) = w * rowsI m w + 1 + x := by unfold freeI; omega
  have hp := rowsI_pos m w
  have h0 : 0 ≤ x / w := Int.ediv_nonneg hx (by omega)
  rw [e]
  show max 1 ((w * rowsI m w + 1 + x + w - 1) / w) = _
  rw [show w * rowsI m w + 1 + x + w - 1 = x + w * (rowsI m w + 1) by rw [Int.mul_add, Int.mul_one]; omega, Int.add_mul_ediv_left _ _ (by omega)]
  omega
/-- a put on the way: what stands, what is left -/
structure Way (ms p : List Int) (left more : Int) : Prop where
  len : p.length = ms.length
  nn : ∀ x ∈ p, 0 ≤ x
  sum : p.sum + left = more
  lf : 0 ≤ left
theorem fold_stop : ∀ {L : List (Int × Int)} {s : List Int × Int}, (∀ q ∈ L, s.2 < q.1) → L.foldl greatF s = s
  | [], _, _ => rfl
  | q :: L, s, h => by
    have h0 := h q List.mem_cons_self
    rw [List.foldl_cons]
    have e : greatF s q = s := by
      unfold greatF
      rw [if_neg (by omega)]
    rw [e]
    exact fold_stop fun x hx => h x (List.mem_cons_of_mem _ hx)
theorem fold_great {ms : List Int} {w more : Int} (hw : 0 < w) (hm : ∀ m ∈ ms, 0 ≤ m) : ∀ {L : List (Int × Int)} {p : List Int} {left : Int}, L.Pairwise (fun a b => a.1 ≤ b.1) → L.Pairwise (fun a b => a.2 ≠ b.2) → (∀ q ∈ L, NR ms w q) → Way ms p left more → (∀ q ∈ L, p.getD q.2.toNat 0 = 0) →
    Way ms (L.foldl greatF (p, left)).1 (L.foldl greatF (p, left)).2 more ∧ spillI (addI ms (L.foldl greatF (p, left)).1) w + (L.foldl greatF (p, left)).2 / w = spillI (addI ms p) w + greatG (L.map Prod.fst) w left ∧
    ∀ r : Nat, (∀ q ∈ L, q.2 ≠ (r : Int)) → (L.foldl greatF (p, left)).1.getD r 0 = p.getD r 0
  | [], p, left, _, _, _, h, _ => ⟨h, rfl, fun _ _ => rfl⟩
  | q :: L, p, left, hs, hd, hn, h, hz => by
    have hs' := List.pairwise_cons.mp hs
    have hd' := List.pairwise_cons.mp hd
    obtain ⟨r, r1, r2, r3, r4⟩ := hn q List.mem_cons_self
    have z0 := hz q List.mem_cons_self
    have rt : q.2.toNat = r := by omega
    rw [rt] at z0
    have mm := hm (ms.getD r 0) (by
      rw [List.getD_eq_getElem?_getD, List.getElem?_eq_getElem r1]
      exact List.getElem_mem r1)
    have fp := free_pos mm hw
    have fl := free_lt r3 hw
    by_cases c : left < q.1
    · rw [fold_stop (L := q :: L) (s := (p, left)) (fun x hx => by
        rcases List.mem_cons.mp hx with rfl | hx
        · exact c
        · exact Int.lt_of_lt_of_le c (hs'.1 x hx))]
      refine ⟨h, ?_, fun _ _ => rfl⟩
      have e : greatG ((q :: L).map Prod.fst) w left = 0 := by
        show (if left < q.1 then (0 : Int) else _) = 0
        rw [if_pos c]
      have e2 : left / w = 0 := Int.ediv_eq_zero_of_lt h.lf (by omega)
      rw [e]
      show _ + left / w = _
      rw [e2]
    · have ef : greatF (p, left) q = (p.set r q.1, left - q.1) := by
        unfold greatF
        rw [if_pos (by show q.1 ≤ left; omega), rt]
      rw [List.foldl_cons, ef]
      have rl : r < p.length := by rw [h.len]; exact r1
      have ss := set_sum (x := q.1) rl
      have hl := h.lf
      have hsum := h.sum
      obtain ⟨j1, j2, j3⟩ := fold_great (more := more) hw hm (L := L) (p := p.set r q.1) (left := left - q.1) hs'.2 hd'.2 (fun x hx => hn x (List.mem_cons_of_mem _ hx))
        ⟨by rw [List.length_set]; exact h.len, fun x hx => by
          rcases List.mem_or_eq_of_mem_set hx with hx | rfl
          · exact h.nn x hx
          · omega, by rw [ss, z0]; omega, by omega⟩ (fun x hx => by
          have ne := hd'.1 x hx
          obtain ⟨r', _, k2, _, _⟩ := hn x (List.mem_cons_of_mem _ hx)
          rw [set_get (by omega)]
          exact hz x (List.mem_cons_of_mem _ hx))
      refine ⟨j1, ?_, fun k hk => ?_⟩
      · rw [j2, set_spill h.len r1, z0, Int.add_zero]
        have e := rows_step (m := ms.getD r 0) (x := 0) hw (Int.le_refl 0)
        rw [Int.add_zero, Int.zero_ediv, Int.add_zero] at e
        rw [r4, e]
        have e2 : greatG ((q :: L).map Prod.fst) w left = 1 + greatG (L.map Prod.fst) w (left - q.1) := by
          show (if left < q.1 then (0 : Int) else _) = _
          rw [if_neg c]
        rw [e2, r4]
        omega
      · have hk0 := hk q List.mem_cons_self
        rw [j3 k (fun x hx => hk x (List.mem_cons_of_mem _ hx)), set_get (by omega)]
noncomputable def greatSt (ms : List Int) (w more : Int) : List Int × Int := (sortP (needP ms w ms.length)).foldl greatF (List.replicate ms.length 0, more)
noncomputable def restOf (L : List (Int × Int)) : Int := match L with | [] => 0 | q :: _ => q.2
noncomputable def greatPut (ms : List Int) (w more : Int) : List Int := (greatSt ms w more).1.set (restOf (sortP (needP ms w ms.length))).toNat ((greatSt ms w more).1.getD (restOf (sortP (needP ms w ms.length))).toNat 0 + (greatSt ms w more).2)
theorem rep_get (n r : Nat) : (List.replicate n (0 : Int)).getD r 0 = 0 := by
  rw [List.getD_eq_getElem?_getD, List.getElem?_replicate]
  split <;> rfl
theorem way_start (ms : List Int) {more : Int} (h0 : 0 ≤ more) : Way ms (List.replicate ms.length 0) more more := by
  refine ⟨List.length_replicate, fun x hx => by rw [List.eq_of_mem_replicate hx]; exact Int.le_refl _, ?_, h0⟩
  have : ∀ n : Nat, (List.replicate n (0 : Int)).sum = 0 := by
    intro n
    induction n with
    | zero => rfl
    | succ n ih => rw [List.replicate_succ, List.sum_cons, ih]; rfl
  rw [this]
  omega
theorem spill_rep (w : Int) : ∀ ms : List Int, spillI (addI ms (List.replicate ms.length 0)) w = spillI ms w
  | [] => rfl
  | m :: ms => by
    show spillI ((m + 0) :: addI ms (List.replicate ms.length 0)) w = _
    rw [spillI_cons, spillI_cons, spill_rep w ms, Int.add_zero]
theorem great_last {ms p : List Int} {w left more : Int} {r : Nat} (h : Way ms p left more) (hr : r < ms.length) : Put ms (p.set r (p.getD r 0 + left)) more ∧ spillI (addI ms (p.set r (p.getD r 0 + left))) w = spillI (addI ms p) w - rowsI (ms.getD r 0 + p.getD r 0) w + rowsI (ms.getD r 0 + (p.getD r 0 + left)) w := by
  have rl : r < p.length := by rw [h.len]; exact hr
  have hs := h.sum
  have hl := h.lf
  have h0 : 0 ≤ p.getD r 0 := by
    rw [List.getD_eq_getElem?_getD, List.getElem?_eq_getElem rl]
    exact h.nn _ (List.getElem_mem rl)
  refine ⟨⟨by rw [List.length_set]; exact h.len, fun x hx => ?_, by rw [set_sum rl]; omega⟩, set_spill h.len hr⟩
  rcases List.mem_or_eq_of_mem_set hx with hx | rfl
  · exact h.nn x hx
  · omega
theorem greatPut_facts {ms : List Int} {w more : Int} (hw : 0 < w) (h0 : 0 ≤ more) (hm : ∀ m ∈ ms, 0 ≤ m) (hn : ms ≠ []) :
    Put ms (greatPut ms w more) more ∧ spillI (addI ms (greatPut ms w more)) w = greatI ms w more ∧ 0 ≤ restOf (sortP (needP ms w ms.length)) ∧ restOf (sortP (needP ms w ms.length)) < ms.length ∧ (greatSt ms w more).1.length = ms.length := by
  have lp := List.length_pos_iff.mpr hn
  have hp := sortP_perm (needP ms w ms.length)
  have hs : (sortP (needP ms w ms.length)).Pairwise (fun a b => a.1 ≤ b.1) := (sortP_sorted _).imp fun h => by
    have := lexI_iff.mp h
    omega
  have hd : (sortP (needP ms w ms.length)).Pairwise (fun a b => a.2 ≠ b.2) := (hp.symm.pairwise_iff (fun {a b} h z => h z.symm)).mp (needP_nd ms w ms.length)
  have ha : ∀ q ∈ sortP (needP ms w ms.length), NR ms w q := fun q hq => needP_all q (sortP_mem.mp hq)
  have hv : (sortP (needP ms w ms.length)).map Prod.fst = sortI (needV ms w) := by
    refine sortI_of ?_ (List.pairwise_map.mpr hs)
    rw [← needP_fst]
    exact hp.map _
  have hz : ∀ q ∈ sortP (needP ms w ms.length), (List.replicate ms.length (0 : Int)).getD q.2.toNat 0 = 0 := fun q _ => rep_get _ _
  obtain ⟨f1, f2, f3⟩ := fold_great hw hm hs hd ha (way_start ms h0) hz
  rw [hv, spill_rep] at f2
  have hne : needV ms w = [] ↔ sortP (needP ms w ms.length) = [] := by
    rw [← needP_fst, List.map_eq_nil_iff]
    exact ⟨fun z => List.eq_nil_of_length_eq_zero (by rw [sortP_len, z]; rfl), fun z => List.eq_nil_of_length_eq_zero (by rw [← sortP_len, z]; rfl)⟩
  have ep : greatPut ms w more = (greatSt ms w more).1.set (restOf (sortP (needP ms w ms.length))).toNat ((greatSt ms w more).1.getD (restOf (sortP (needP ms w ms.length))).toNat 0 + (greatSt ms w more).2) := rfl
  have es : greatSt ms w more = (sortP (needP ms w ms.length)).foldl greatF (List.replicate ms.length 0, more) := rfl
  rw [← es] at f1 f2 f3
  rw [ep]
  unfold greatI
  by_cases c : needV ms w = []
  · have c2 := hne.mp c
    rw [if_pos c]
    have e0 : greatSt ms w more = (List.replicate ms.length 0, more) := by rw [es, c2]; rfl
    rw [c2]
    have er : restOf [] = 0 := rfl
    obtain ⟨k1, k2⟩ := great_last (w := w) f1 (r := 0) lp
    refine ⟨k1, ?_, Int.le_refl 0, by show (0 : Int) < _; omega, f1.len⟩
    show spillI (addI ms ((greatSt ms w more).1.set 0 ((greatSt ms w more).1.getD 0 0 + (greatSt ms w more).2))) w = _
    rw [k2, e0]
    show spillI (addI ms (List.replicate ms.length 0)) w - rowsI (ms.getD 0 0 + (List.replicate ms.length (0 : Int)).getD 0 0) w + rowsI (ms.getD 0 0 + ((List.replicate ms.length (0 : Int)).getD 0 0 + more)) w = _
    have em : ms.getD 0 0 = 0 := by
      rw [List.getD_eq_getElem?_getD, List.getElem?_eq_getElem lp]
      exact zero_all hm c _ (List.getElem_mem lp)
    rw [spill_rep, rep_get, em, rowsI_more (show (0 : Int) ≤ 0 + 0 by decide) hw, rowsI_more (show (0 : Int) ≤ 0 + (0 + more) by omega) hw]
    have : max 0 ((0 : Int) + 0 - 1) / w = 0 := by
      rw [show max 0 ((0 : Int) + 0 - 1) = 0 from rfl, Int.zero_ediv]
    rw [this, show (0 : Int) + (0 + more) - 1 = more - 1 by omega]
    omega
  · rw [if_neg c]
    have c2 := fun z => c (hne.mpr z)
    obtain ⟨q, L, hL⟩ : ∃ q L, sortP (needP ms w ms.length) = q :: L := by
      cases h : sortP (needP ms w ms.length) with
      | nil => exact absurd h c2
      | cons q L => exact ⟨q, L, rfl⟩
    obtain ⟨r, r1, r2, r3, r4⟩ := ha q (by rw [hL]; exact List.mem_cons_self)
    have er : restOf (sortP (needP ms w ms.length)) = (r : Int) := by rw [hL]; exact r2
    rw [er, Int.toNat_natCast]
    obtain ⟨k1, k2⟩ := great_last (w := w) f1 r1
    refine ⟨k1, ?_, by omega, by omega, f1.len⟩
    rw [k2]
    have mm := hm (ms.getD r 0) (by
      rw [List.getD_eq_getElem?_getD, List.getElem?_eq_getElem r1]
      exact List.getElem_mem r1)
    have fl := free_lt r3 hw
    have lf := f1.lf
    by_cases cq : q.1 ≤ more
    · have hs2 := es
      rw [hL, List.foldl_cons] at hs2
      have ef : greatF (List.replicate ms.length 0, more) q = ((List.replicate ms.length 0).set r q.1, more - q.1) := by
        unfold greatF
        rw [if_pos cq, r2, Int.toNat_natCast]
      rw [ef] at hs2
      rw [hL] at hs hd ha
      have hd' := List.pairwise_cons.mp hd
      have rl : r < (List.replicate ms.length (0 : Int)).length := by rw [List.length_replicate]; exact r1
      have w1 := way_start ms h0
      have fp := free_pos mm hw
      obtain ⟨_, _, g3⟩ := fold_great (ms := ms) (w := w) (more := more) hw hm (L := L) (p := (List.replicate ms.length 0).set r q.1) (left := more - q.1) (List.pairwise_cons.mp hs).2 hd'.2 (fun x hx => ha x (List.mem_cons_of_mem _ hx))
        ⟨by rw [List.length_set]; exact w1.len, fun x hx => by
          rcases List.mem_or_eq_of_mem_set hx with hx | rfl
          · exact w1.nn x hx
          · omega, by rw [set_sum rl, rep_get]; have := w1.sum; omega, by omega⟩ (fun x hx => by
          have ne := hd'.1 x hx
          obtain ⟨r', _, k2, _, _⟩ := ha x (List.mem_cons_of_mem _ hx)
          rw [set_get (by omega)]
          exact rep_get _ _)
      have g3 := g3 r (fun x hx z => hd'.1 x hx (by rw [z, r2]))
      rw [← hs2, set_own rl] at g3
      have st := rows_step (m := ms.getD r 0) (x := (greatSt ms w more).2) hw lf
      have s0 := rows_step (m := ms.getD r 0) (x := 0) hw (Int.le_refl 0)
      rw [Int.add_zero, Int.zero_ediv, Int.add_zero] at s0
      rw [g3, r4, st, s0]
      omega
    · have e0 : greatSt ms w more = (List.replicate ms.length 0, more) := by
        rw [es]
        refine fold_stop fun x hx => ?_
        show more < x.1
        rw [hL] at hx hs
        rcases List.mem_cons.mp hx with rfl | hx
        · omega
        · have := (List.pairwise_cons.mp hs).1 x hx
          omega
      have eg : greatG (sortI (needV ms w)) w more = 0 := by
        rw [← hv, hL]
        show (if more < q.1 then (0 : Int) else _) = 0
        rw [if_pos (by omega)]
      rw [eg, e0]
      show spillI (addI ms (List.replicate ms.length 0)) w - rowsI (ms.getD r 0 + (List.replicate ms.length (0 : Int)).getD r 0) w + rowsI (ms.getD r 0 + ((List.replicate ms.length (0 : Int)).getD r 0 + more)) w = _
      rw [spill_rep, rep_get, Int.add_zero, Int.zero_add, rows_same mm h0 hw (by omega)]
      omega
end TR
namespace TR
end TR
namespace TR
/-- what so many rows more cost at least -/
noncomputable def costG (ns : List Int) (w : Int) (E : Nat) : Int := (ns.take E).sum + w * ((E - ns.length : Nat) : Int)
/-- the fewest keys behind which the spill may be so great -/
noncomputable def fewestI (ms : List Int) (w limit : Int) : Int :=
  if limit - spillI ms w ≤ 0 then 0 else if needV ms w = [] then (limit - spillI ms w) * w + 1 else costG (sortI (needV ms w)) w (limit - spillI ms w).toNat
noncomputable def mostI (ms : List Int) (w limit : Int) : Int := (limit - spillI ms w) * w + freeS ms w
end TR

/-! plain questions and their answers -/
namespace TR
open PySem L2 TL
noncomputable def trailS (p : Int × Int) : Str := numS p.1 ++ ":" ++ numS p.2
noncomputable def stayA (k h : Int) : Str := if h ∈ turnsN k 60 then stayS (h + 1) (nxt (turnsN k 60) h) else "never"
inductive PlainA : Str → List V → Str → Prop
  | where_ (k r : Int) (k0 : 0 ≤ k) (k1 : k < 1152921504606846976) (r0 : 1 ≤ r) (r1 : r ≤ 1152921504606846976) : PlainA "where" [.int k, .int r] (numS (roomOf k r))
  | trail (k r : Int) (k0 : 0 ≤ k) (k1 : k < 1152921504606846976) (r0 : 1 ≤ r) (r1 : r ≤ 1152921504606846976) : PlainA "trail" [.int k, .int r] (Txt.join " " ((byBits k r 60).map trailS))
  | stay (k r : Int) (k0 : 0 ≤ k) (k1 : k < 1152921504606846976) (r0 : 0 ≤ r) (r1 : r < 1152921504606846976) : PlainA "stay" [.int k, .int r] (stayA k r)
  | great (w m : Int) (ms : List Int) (w0 : 1 ≤ w) (w1 : w ≤ 8) (m0 : 0 ≤ m) (m1 : m ≤ 10000000000) (hne : ms ≠ []) (hms : ∀ x ∈ ms, 0 ≤ x ∧ x ≤ 1000000000) (hl : ms.length ≤ 120) : PlainA "greatest" ([.int w, .int m] ++ ms.map V.int) (numS (greatI ms w m))
  | least (w m : Int) (ms : List Int) (w0 : 1 ≤ w) (w1 : w ≤ 8) (m0 : 0 ≤ m) (m1 : m ≤ 10000000000) (hne : ms ≠ []) (hms : ∀ x ∈ ms, 0 ≤ x ∧ x ≤ 1000000000) (hl : ms.length ≤ 120) : PlainA "least" ([.int w, .int m] ++ ms.map V.int) (numS (leastI ms w m))
  | alike (k : Int) (k0 : 0 ≤ k) (k1 : k < 1152921504606846976) : PlainA "parted" [.int k, .int k] "alike"
  | parted (k r : Int) (d : Nat) (k0 : 0 ≤ k) (k1 : k < 1152921504606846976) (r0 : 0 ≤ r) (r1 : r < 1152921504606846976) (ne : k ≠ r) (hd : Dif k r d) (dl : d < 60) : PlainA "parted" [.int k, .int r] (numS (partedAt k r d))
theorem spill_room {w : Int} (hw : 1 ≤ w) : ∀ {l : List Int}, (∀ m ∈ l, 0 ≤ m) → 0 ≤ spillI l w ∧ spillI l w ≤ l.sum
  | [], _ => ⟨Int.le_refl _, Int.le_refl _⟩
  | m :: l, h => by
    obtain ⟨a, b⟩ := spill_room hw (l := l) fun x hx => h x (List.mem_cons_of_mem _ hx)
    have m0 := h m List.mem_cons_self
    rw [spillI_cons, List.sum_cons, rowsI_more m0 hw]
    have p : 0 ≤ max 0 (m - 1) / w := Int.ediv_nonneg (by omega) (by omega)
    have q : max 0 (m - 1) / w ≤ max 0 (m - 1) := Int.ediv_le_self _ (by omega)
    omega
theorem addI_sum : ∀ {ms p : List Int}, p.length = ms.length → (addI ms p).sum = ms.sum + p.sum
  | [], [], _ => rfl
  | m :: ms, t :: p, h => by
    have ih := addI_sum (ms := ms) (p := p) (by simpa using h)
    have e : addI (m :: ms) (t :: p) = (m + t) :: addI ms p := rfl
    rw [e, List.sum_cons, List.sum_cons, List.sum_cons, ih]
    omega
theorem addI_nn : ∀ {ms p : List Int}, (∀ x ∈ ms, 0 ≤ x) → (∀ x ∈ p, 0 ≤ x) → ∀ x ∈ addI ms p, 0 ≤ x
  | [], _, _, _ => fun x hx => absurd hx List.not_mem_nil
  | _ :: _, [], _, _ => fun x hx => absurd hx List.not_mem_nil
  | m :: ms, t :: p, hm, hp => fun x hx => by
    have e : addI (m :: ms) (t :: p) = (m + t) :: addI ms p := rfl
    rw [e] at hx
    rcases List.mem_cons.mp hx with e | hx
    · have := hm m List.mem_cons_self
      have := hp t List.mem_cons_self
      omega
    · exact addI_nn (fun y hy => hm y (List.mem_cons_of_mem _ hy)) (fun y hy => hp y (List.mem_cons_of_mem _ hy)) x hx
theorem sum_max : ∀ {ms : List Int} {b : Int}, (∀ x ∈ ms, 0 ≤ x ∧ x ≤ b) → ms.sum ≤ b * ms.length
  | [], b, _ => by
    show (0 : Int) ≤ b * 0
    omega
  | m :: ms, b, h => by
    have ih := sum_max (ms := ms) (b := b) fun x hx => h x (List.mem_cons_of_mem _ hx)
    have := (h m List.mem_cons_self).2
    rw [List.sum_cons, List.length_cons]
    have e : b * ((ms.length + 1 : Nat) : Int) = b * ms.length + b := by
      rw [Int.natCast_add, Int.mul_add]
      omega
    omega
theorem mod_room {k : Int} (k0 : 0 ≤ k) (k1 : k < 1152921504606846976) (n : Nat) : 0 ≤ k % 2 ^ n ∧ k % 2 ^ n < 1152921504606846976 := by
  have p := two_pos n
  refine ⟨Int.emod_nonneg k (by omega), ?_⟩
  by_cases c : k < 2 ^ n
  · rw [Int.emod_eq_of_lt k0 c]
    exact k1
  · have := Int.emod_lt_of_pos k (show 0 < (2 : Int) ^ n by omega)
    omega
theorem turn_room {k : Int} (k0 : 0 ≤ k) (k1 : k < 1152921504606846976) : ∀ t ∈ turnsN k 60, 0 ≤ t ∧ t < 1152921504606846976 := fun t ht => by
  obtain ⟨n, _, rfl⟩ := (turns_mem k 60 t).mp ht
  exact mod_room k0 k1 n
theorem trail_room {k r : Int} (k0 : 0 ≤ k) (k1 : k < 1152921504606846976) : ∀ e ∈ byBits k r 60, 0 ≤ e.2 ∧ e.1 = e.2 + 1 ∧ e.2 < 1152921504606846976 := fun e he => by
  rw [byBits_eq] at he
  unfold trailOf at he
  rcases List.mem_cons.mp he with rfl | he
  · exact ⟨by decide, rfl, by decide⟩
  · obtain ⟨t, ht, rfl⟩ := List.mem_map.mp he
    have := turn_room k0 k1 t (List.mem_filter.mp ht).1
    exact ⟨this.1, rfl, this.2⟩
theorem nxt_room {k m u : Int} (k0 : 0 ≤ k) (k1 : k < 1152921504606846976) (h : nxt (turnsN k 60) m = some u) : 0 ≤ u ∧ u < 2000000000000000000 := by
  unfold nxt at h
  cases e : (turnsN k 60).find? fun t => decide (m < t) with
  | none => rw [e] at h; cases h
  | some t =>
    rw [e] at h
    cases h
    have := turn_room k0 k1 t (List.mem_of_find?_eq_some e)
    show 0 ≤ t + 1 ∧ t + 1 < _
    omega
theorem parted_room {k r : Int} (k0 : 0 ≤ k) (k1 : k < 1152921504606846976) (r0 : 0 ≤ r) (r1 : r < 1152921504606846976) (d : Nat) : 0 ≤ partedAt k r d ∧ partedAt k r d < 2000000000000000000 := by
  have a := mod_room k0 k1 (d + 1)
  have b := mod_room r0 r1 (d + 1)
  unfold partedAt
  omega
/-- what a spill comes to -/
theorem put_room {ms p : List Int} {w m : Int} (w0 : 1 ≤ w) (hms : ∀ x ∈ ms, 0 ≤ x ∧ x ≤ 1000000000) (hl : ms.length ≤ 120) (m1 : m ≤ 10000000000) (h : Put ms p m) : 0 ≤ spillI (addI ms p) w ∧ spillI (addI ms p) w ≤ 200000000000 := by
  obtain ⟨pl, pn, ps⟩ := h
  obtain ⟨a, b⟩ := spill_room w0 (l := addI ms p) (addI_nn (fun x hx => (hms x hx).1) pn)
  have s1 := addI_sum pl
  have s2 := sum_max hms
  have : (1000000000 : Int) * ms.length ≤ 1000000000 * 120 := Int.mul_le_mul_of_nonneg_left (by omega) (by omega)
  omega
/-- a desk: its keepers by names -/
noncomputable def Dsk (K : PySem.W.Frag) (Z H : Hp) (d kp : Addr) (kvs : List (L2.Key × V)) : Prop := ∃ dx, H d = some (.ins (clsA K "Desk") dx [("keepers", .ref kp)]) ∧ Z d = none ∧ H kp = some (.dK kvs) ∧ Z kp = none ∧ d ≠ kp ∧ Ex Z H
section
variable {K : PySem.W.Frag} {Z H Z' H' : Hp} {d kp : Addr} {kvs : List (L2.Key × V)} {M : List Addr}
theorem Dsk.zh (h : Dsk K Z H d kp kvs) : Ex Z H := by
  obtain ⟨_, _, _, _, _, _, z⟩ := h
  exact z
theorem Dsk.at_ (h : Dsk K Z H d kp kvs) : (∃ o, H d = some o) ∧ ∃ o, H kp = some o := by
  obtain ⟨_, e, _, e2, _⟩ := h
  exact ⟨⟨_, e⟩, _, e2⟩
theorem Dsk.tt (h : Dsk K Z H d kp kvs) (t : TR.T M Z H Z' H') (n1 : d ∉ M) (n2 : kp ∉ M) : Dsk K Z' H' d kp kvs := by
  obtain ⟨dx, h1, z1, h2, z2, n, z⟩ := h
  exact ⟨dx, t.hp n1 h1, (t.mu n1 ⟨z1, _, h1⟩).z, t.hp n2 h2, (t.mu n2 ⟨z2, _, h2⟩).z, n, t.zh⟩
theorem Dsk.tt0 (h : Dsk K Z H d kp kvs) (t : TR.T [] Z H Z' H') : Dsk K Z' H' d kp kvs := h.tt t nm_nil nm_nil
theorem Dsk.put (h : Dsk K Z H d kp kvs) (kvs' : List (L2.Key × V)) : TR.T [kp] Z H Z (upd H kp (.dK kvs')) ∧ Dsk K Z (upd H kp (.dK kvs')) d kp kvs' := by
  obtain ⟨dx, h1, z1, h2, z2, n, z⟩ := h
  have t : TR.T [kp] Z H Z (upd H kp (.dK kvs')) := T.set ⟨z2, _, h2⟩ z
  exact ⟨t, dx, by rw [upd_ne n]; exact h1, z1, upd_same, z2, n, t.zh⟩
end
theorem plain_form {w y : Str} {l : List V} (h : PlainA w l y) : ∃ s, kget formsL w (.str "k") = .str s ∧ (tl s)[0]? = some 107 ∧ s.length ≤ 10 ∧ w ≠ "keep" := by
  cases h with
  | where_ => exact ⟨"kr", rfl, rfl, by decide, by decide +kernel⟩
  | trail => exact ⟨"kr", rfl, rfl, by decide, by decide +kernel⟩
  | stay => exact ⟨"kh", rfl, rfl, by decide, by decide +kernel⟩
  | great => exact ⟨"k", rfl, rfl, by decide, by decide +kernel⟩
  | least => exact ⟨"k", rfl, rfl, by decide, by decide +kernel⟩
  | alike => exact ⟨"kk", rfl, rfl, by decide, by decide +kernel⟩
  | parted => exact ⟨"kk", rfl, rfl, by decide, by decide +kernel⟩
end TR

/-! the lines of plain questions, as they are written -/
namespace TR
open PySem L2 TL
theorem digits_num (n : Nat) : NumText.digitsVal (numL n) = n := by
  induction n using Nat.strongRecOn with
  | ind n ih =>
    by_cases c : n < 10
    · rw [numL_lt c]
      have e : ([48 + n] : List Nat) = [] ++ [48 + n] := rfl
      rw [e, NumText.digitsVal_snoc]
      have e0 : NumText.digitsVal [] = 0 := rfl
      omega
    · rw [numL_step (by omega), NumText.digitsVal_snoc, ih (n / 10) (by omega)]
      omega
theorem numO_numS {n : Int} (h0 : 0 ≤ n) (h1 : n < 1000000000000000000000000000000) : numO (numS n) = some n := by
  have hl := num_len h0 h1
  have hp := numS_pos h0
  obtain ⟨c, hc, h48⟩ := numS_head h0
  have f : figsB (numS n) = true := by
    unfold figsB
    rw [decide_eq_true (And.intro hp hl), hc, Bool.true_and, Bool.and_eq_true]
    refine ⟨?_, ?_⟩
    · by_cases e : c = 48
      · have := h48 e
        rw [decide_eq_false (show ¬ 1 < (numS n).length by omega), Bool.and_false]
        rfl
      · rw [decide_eq_false (fun z => e (Option.some.inj z)), Bool.false_and]
        rfl
    · rw [List.all_eq_true]
      intro d hd
      rw [tl_numS h0] at hd
      exact decide_eq_true (numL_low hd)
  unfold numO
  rw [if_pos f, tl_numS h0, digits_num]
  congr 1
  omega
theorem wordF_num {c : Nat} {n : Int} (hc : ¬ (c = 110 ∨ c = 116)) (h0 : 0 ≤ n) (h1 : n < 1000000000000000000000000000000) (b : isOfB c n = true) : wordF c (numS n) = some (.int n) := by
  unfold wordF
  rw [if_neg hc, numO_numS h0 h1]
  exact if_pos b
theorem lineO_of {x w f : Str} {r : List Str} {l : List V} (hx : Txt.split x " " = w :: r) (hf : formO w (r.length + 1) = some f) (hl : allO (List.zipWith wordF (tl f) r) = some l) : lineO x = some (w, l) := by
  unfold lineO
  rw [hx]
  dsimp only
  rw [hf]
  dsimp only
  rw [hl]
/-- a word and two numbers -/
theorem line_two {w wb f : Str} {a b : Int} {c d : Nat} (hw : 32 ∉ tl w) (hwb : tl wb = tl w ++ [32]) (hf : formO w 3 = some f) (ht : tl f = [c, d]) (nc : ¬ (c = 110 ∨ c = 116)) (nd : ¬ (d = 110 ∨ d = 116))
    (a0 : 0 ≤ a) (a1 : a < 1000000000000000000000000000000) (b0 : 0 ≤ b) (b1 : b < 1000000000000000000000000000000) (ka : isOfB c a = true) (kb : isOfB d b = true) : lineO (wb ++ numS a ++ " " ++ numS b) = some (w, [.int a, .int b]) := by
  have e : wb ++ numS a ++ " " ++ numS b = Txt.join " " [w, numS a, numS b] := tl_ext (by
    rw [tl_joinS, tl_append, tl_append, tl_append, hwb]
    show (tl w ++ [32]) ++ tl (numS a) ++ [32] ++ tl (numS b) = tl w ++ ([32] ++ (tl (numS a) ++ ([32] ++ tl (numS b))))
    simp only [List.append_assoc])
  refine lineO_of (r := [numS a, numS b]) (f := f) ?_ hf ?_
  · rw [e]
    exact split_words (by simp) fun z hz => by
      rcases List.mem_cons.mp hz with rfl | hz
      · exact hw
      rcases List.mem_cons.mp hz with rfl | hz
      · exact num_free a0
      rcases List.mem_cons.mp hz with rfl | hz
      · exact num_free b0
      cases hz
  · rw [ht]
    show allO [wordF c (numS a), wordF d (numS b)] = _
    rw [wordF_num nc a0 a1 ka, wordF_num nd b0 b1 kb]
    rfl
theorem form_spill {w : Str} {m : Nat} (hw : w ∈ (["greatest", "least"] : List Str)) (m0 : 1 ≤ m) (m1 : m ≤ 120) : formO w (m + 2 + 1) = some ("wm" ++ cS m) := by
  unfold formO formX
  rw [if_pos ⟨hw, by omega, by omega⟩]
  show (if ("wm" ++ cS (m + 2 + 1 - 3)).length + 1 = m + 2 + 1 then some ("wm" ++ cS (m + 2 + 1 - 3)) else none) = _
  have e : m + 2 + 1 - 3 = m := by omega
  rw [e, if_pos]
  rw [len_app, cS_len]
  have : ("wm" : Str).length = 2 := rfl
  omega
theorem allO_num {m : Nat} : ∀ {ms : List Int}, ms.length = m → (∀ x ∈ ms, 0 ≤ x ∧ x ≤ 1000000000) → allO (List.zipWith wordF (List.replicate m 99) (ms.map numS)) = some (ms.map V.int) := by
  induction m with
  | zero =>
    intro ms h _
    rw [List.length_eq_zero_iff.mp h]
    rfl
  | succ m ih =>
    intro ms h hb
    cases ms with
    | nil => cases h
    | cons a ms =>
      obtain ⟨a0, a1⟩ := hb a List.mem_cons_self
      have ih' := ih (ms := ms) (by simpa using h) fun x hx => hb x (List.mem_cons_of_mem _ hx)
      rw [List.replicate_succ]
      show allO (wordF 99 (numS a) :: List.zipWith wordF (List.replicate m 99) (ms.map numS)) = _
      rw [wordF_num (by decide) a0 (by omega) (show isOfB 99 a = true from decide_eq_true (.inr a1))]
      unfold allO
      rw [ih']
      rfl
/-- the words of a spill's line behind the first -/
noncomputable def spillS (w m : Int) (ms : List Int) : Str := Txt.join " " (([("" : Str), numS w, numS m] : List Str) ++ ms.map numS)
theorem line_spill {z : Str} {w m : Int} {ms : List Int} (hz : z ∈ (["greatest", "least"] : List Str)) (w0 : 1 ≤ w) (w1 : w ≤ 8) (m0 : 0 ≤ m) (m1 : m ≤ 10000000000) (hne : ms ≠ []) (hms : ∀ x ∈ ms, 0 ≤ x ∧ x ≤ 1000000000) (hl : ms.length ≤ 120) :
    lineO (z ++ spillS w m ms) = some (z, [.int w, .int m] ++ ms.map V.int) := by
  have zf : 32 ∉ tl z := by
    have all : ∀ z ∈ (["greatest", "least"] : List Str), 32 ∉ tl z := by decide +kernel
    exact all z hz
  have e : z ++ spillS w m ms = Txt.join " " (z :: numS w :: numS m :: ms.map numS) := tl_ext (by
    unfold spillS
    rw [tl_append, tl_joinS, tl_joinS]
    rfl)
  have lp : 1 ≤ ms.length := List.length_pos_iff.mpr hne
  have en : (numS w :: numS m :: ms.map numS).length + 1 = ms.length + 2 + 1 := by
    rw [List.length_cons, List.length_cons, List.length_map]
  refine lineO_of (r := numS w :: numS m :: ms.map numS) (f := "wm" ++ cS ms.length) ?_ ?_ ?_
  · rw [e]
    exact split_words (by simp) fun y hy => by
      rcases List.mem_cons.mp hy with rfl | hy
      · exact zf
      rcases List.mem_cons.mp hy with rfl | hy
      · exact num_free (by omega)
      rcases List.mem_cons.mp hy with rfl | hy
      · exact num_free m0
      obtain ⟨x, hx, rfl⟩ := List.mem_map.mp hy
      exact num_free (hms x hx).1
  · rw [en]
    exact form_spill hz lp hl
  · have ef : tl ("wm" ++ cS ms.length) = 119 :: 109 :: List.replicate ms.length 99 := by
      rw [tl_append]
      have e2 : tl (cS ms.length) = List.replicate ms.length 99 := by
        show (List.replicate ms.length 99).toArray.toList = _
        simp
      rw [e2]
      rfl
    rw [ef]
    show allO (wordF 119 (numS w) :: wordF 109 (numS m) :: List.zipWith wordF (List.replicate ms.length 99) (ms.map numS)) = _
    rw [wordF_num (by decide) (by omega) (by omega) (show isOfB 119 w = true from decide_eq_true ⟨w0, w1⟩), wordF_num (by decide) m0 (by omega) (show isOfB 109 m = true from decide_eq_true m1)]
    unfold allO
    unfold allO
    rw [allO_num rfl hms]
    rfl
theorem line_keep : lineO "keep where 1 1" = some (("keep" : Str), ([.str "where", .int 1, .int 1] : List V)) := by
  have e : ("keep where 1 1" : Str) = Txt.join " " ["keep", "where", numS 1, numS 1] := tl_ext (by
    rw [tl_joinS]
    decide +kernel)
  refine lineO_of (r := ["where", numS 1, numS 1]) (f := "ngg") ?_ (by decide +kernel) ?_
  · rw [e]
    exact split_words (by simp) fun y hy => by
      have all : ∀ y ∈ (["keep", "where", numS 1, numS 1] : List Str), 32 ∉ tl y := by decide +kernel
      exact all y hy
  · have ef : tl ("ngg" : Str) = [110, 103, 103] := by decide +kernel
    rw [ef]
    show allO [wordF 110 "where", wordF 103 (numS 1), wordF 103 (numS 1)] = _
    rw [wordF_num (by decide) (by decide) (by decide) (show isOfB 103 1 = true by decide)]
    rfl
/-- a line and its answer -/
noncomputable def LineQ (q : Str × Str) : Prop := q.1.length ≤ 16000 ∧ PyData.strOk q.2 = true ∧ ∃ w l, lineO q.1 = some (w, l) ∧ PlainA w l q.2
/-- such pairs, as they stand in a list -/
noncomputable def PairsAt (Z : Hp) (us : List V) (ps : List (Str × Str)) : Prop := Paired (fun u q => ∃ a, u = .ref a ∧ Z a = some (.tup [.str q.1, .str q.2])) us ps
theorem PairsAt.ex {Z Z' : Hp} {us : List V} {ps : List (Str × Str)} (h : PairsAt Z us ps) (e : Ex Z Z') : PairsAt Z' us ps := by
  unfold PairsAt at *
  induction h with
  | nil => exact .nil
  | cons a _ ih =>
    obtain ⟨b, h1, h2⟩ := a
    exact .cons ⟨b, h1, e _ _ h2⟩ ih
theorem PairsAt.app {Z : Hp} {us vs : List V} {ps qs : List (Str × Str)} (h : PairsAt Z us ps) (g : PairsAt Z vs qs) : PairsAt Z (us ++ vs) (ps ++ qs) := by
  unfold PairsAt at *
  induction h with
  | nil => exact g
  | cons a _ ih => exact .cons a ih
theorem PairsAt.one {Z : Hp} {a : Addr} {x y : Str} (h : Z a = some (.tup [.str x, .str y])) : PairsAt Z [.ref a] [(x, y)] := .cons ⟨a, rfl, h⟩ .nil
noncomputable def spDInit (K : PySem.W.Frag) : Sp := fun vs H Q _ => ∃ (d dx : Addr) (Z : Hp), vs = [.ref d] ∧ Ex Z H ∧ Z d = none ∧ H d = some (.ins (clsA K "Desk") dx []) ∧ ∀ kp Z' H', T [d] Z H Z' H' → H kp = none → Dsk K Z' H' d kp [] → Q .non H'
theorem t_desk {K : PySem.W.Frag} {Z H : Hp} {Q : VK} {E : XK} (z : Ex Z H) (q : ∀ d kp Z' H', H d = none → H kp = none → d ≠ kp → T [] Z H Z' H' → Dsk K Z' H' d kp [] → Q (.ref d) H') : MkP' (clsA K "Desk") (spDInit K) E [] H Q := by
  intro x dx nx ndx ne
  have e1 : Ex H (upd H dx (.own x)) := Ex.new ndx
  have nx1 : upd H dx (.own x) x = none := by rw [upd_ne ne.symm]; exact nx
  have e2 : Ex H (upd (upd H dx (.own x)) x (.ins (clsA K "Desk") dx [])) := e1.trans (Ex.new nx1)
  have zx : Z x = none := Ex.back z nx
  have t2 : T [] Z H Z (upd (upd H dx (.own x)) x (.ins (clsA K "Desk") dx [])) := T.ofEx e2 z
  refine ⟨x, dx, Z, rfl, z.trans e2, zx, upd_same, fun kp Z' H' t nk dk => ⟨rfl, ?_⟩⟩
  have nk1 : H kp = none := t2.nn nk
  have nxk : x ≠ kp := fun e => by rw [← e, upd_same] at nk; cases nk
  exact q x kp Z' H' nx nk1 nxk (t2.step t (mm_1 (.inr nx))) dk
end TR
namespace TR
open PySem L2 PySem.Spec PyProof.Rows
/-- a class is made without arguments -/
theorem pe_make0 {X : Cx} {K : PySem.W.Frag} {k k' : Nat} {sp : Sp} {x : Str} {p pos : Pos} {E : L2.St → XK} (kk : X.K = K) (hx : Px X E) (h : HasK X.prog X.w K X.mg X.base x k sp) (hk : k ≤ k') (hr : Room (k' + 1) X.A) (hg : Gl X x) (hdb : (x == ("__debug__" : Str)) = false := by decide) :
    PE X (.Call (.Name x p) [] [] pos) (tMakeE (clsA K x) sp E tNil) := by
  subst kk
  obtain ⟨g, fd, ps, F, M, hm, hb⟩ := h
  refine ⟨fun pins s σ H Q I h => ?_⟩
  refine wpAny_Call_Name_kw (ld_glob I hg hm ?_ hdb)
  exact PySem.W.callWith_K0 I.kIn M.kp (run_makeS (us := []) (vs := []) M F (hr.mono (Nat.succ_le_succ hk)) hb (hx σ) I .nil h)
end TR
namespace TR
open PySem L2 TL
theorem asc_ok {y : Str} (h : ∀ c ∈ tl y, c < 128) : PyData.strOk y = true := strOk_iff.mpr fun c hc => by
  have := h c hc
  omega
theorem num_asc {n : Int} (h : 0 ≤ n) : ∀ c ∈ tl (numS n), c < 128 := fun c hc => by
  rw [tl_numS h] at hc
  have := numL_low hc
  omega
theorem app_asc {x y : Str} (hx : ∀ c ∈ tl x, c < 128) (hy : ∀ c ∈ tl y, c < 128) : ∀ c ∈ tl (x ++ y), c < 128 := fun c hc => by
  rw [tl_append] at hc
  rcases List.mem_append.mp hc with h | h
  · exact hx c h
  · exact hy c h
theorem trail_ok {k r : Int} (k0 : 0 ≤ k) (k1 : k < 1152921504606846976) : PyData.strOk (Txt.join " " ((byBits k r 60).map trailS)) = true := asc_ok fun c hc => by
  rw [tl_joinS] at hc
  rcases mem_joinL hc with h | ⟨x, hx, h⟩
  · have : ∀ c ∈ tl " ", c < 128 := by decide +kernel
    exact this c h
  · obtain ⟨y, hy, rfl⟩ := List.mem_map.mp hx
    obtain ⟨e, he, rfl⟩ := List.mem_map.mp hy
    obtain ⟨b0, b1, b2⟩ := trail_room (r := r) k0 k1 e he
    exact app_asc (app_asc (num_asc (by omega)) (by decide +kernel)) (num_asc b0) c h
theorem stay_ok {k r : Int} (k0 : 0 ≤ k) (k1 : k < 1152921504606846976) (r0 : 0 ≤ r) : PyData.strOk (stayA k r) = true := asc_ok fun c hc => by
  unfold stayA at hc
  split at hc
  · cases e : nxt (turnsN k 60) r with
    | none =>
      rw [e] at hc
      exact app_asc (num_asc (show 0 ≤ r + 1 by omega)) (by decide +kernel) c hc
    | some u =>
      rw [e] at hc
      exact app_asc (app_asc (num_asc (show 0 ≤ r + 1 by omega)) (by decide +kernel)) (num_asc (nxt_room k0 k1 e).1) c hc
  · have : ∀ c ∈ tl "never", c < 128 := by decide +kernel
    exact this c hc
end TR

/-! a table's twin: a new table that is made, then given a new dict -/
namespace TR
open PySem L2
end TR

/-! a list of tables and a list of their asker's dicts -/
namespace TR
open PySem L2
structure TD where
  a : Addr
  D : Addr
  d : Addr
  l : Row
/-- the tables at tA, the asker's dicts at mA -/
structure Ts (K : PySem.W.Frag) (Z H : Hp) (tA mA : Addr) (w f : Int) (xs : List TD) : Prop where
  ta : H tA = some (.lst (xs.map fun x => V.ref x.a))
  ma : H mA = some (.lst (xs.map fun x => V.ref x.d))
  zt : Z tA = none
  zm : Z mA = none
  zh : Ex Z H
  tm : tA ≠ mA
  nd : ∀ (i j : Nat) x y, xs[i]? = some x → xs[j]? = some y → x.D ≠ y.d ∧ (i ≠ j → x.D ≠ y.D ∧ x.d ≠ y.d)
  ea : ∀ (i : Nat) x, xs[i]? = some x → Tb K Z H x.a x.D w f x.l ∧ Dm Z H x.d x.l
section
variable {K : PySem.W.Frag} {Z H Z' H' : Hp} {tA mA h : Addr} {w f : Int} {xs : List TD} {x y : TD} {M : List Addr} {i : Nat} {Q : VK}
/-- h is none of them -/
noncomputable def Ts.out (h tA mA : Addr) (xs : List TD) : Prop := h ≠ tA ∧ h ≠ mA ∧ ∀ (i : Nat) x, xs[i]? = some x → h ≠ x.D ∧ h ≠ x.d
end
/-- a list of two things of two kinds -/
structure HL2 (α β : Type) where
  a : α
  b : β
  deriving DecidableEq
instance {α β : Type} [Py α] [Py β] : Py (HL2 α β) := ⟨fun p => .list [Py.d p.a, Py.d p.b], max (Py.dep α) (Py.dep β) + 1, fun p => by
    simp only [PyData.depth, PyData.depthAll]
    have h1 := Py.depth p.a
    have h2 := Py.depth p.b
    omega, fun p => by simp only [PyData.canLay0, PyData.canLayAll0, Py.can]; rfl, fun a b => by
    obtain ⟨a1, a2⟩ := a
    obtain ⟨b1, b2⟩ := b
    simp only [PyData.eqv, PyData.eqvAll, Bool.and_true, Bool.and_eq_true, Py.eqv, HL2.mk.injEq]⟩
end TR
namespace TR
open PySem L2
section
variable {K : PySem.W.Frag} {Z H : Hp} {tA mA ta D d p : Addr} {w f : Int} {l : Row} {Q : VK} {v : V} {vs : List V}
/-- a list that will be changed: what stands in it is no data -/
theorem t_newR (z : Ex Z H) (h : vs.length ≤ 100000) (q : ∀ p Z' H', H p = none → T [] Z H Z' H' → H' p = some (.lst vs) → Z' p = none → Q (.ref p) H') : NewL vs H Q :=
  ⟨sz_of h, fun p hp => q p Z _ hp (T.newM hp z) upd_same (Ex.back z hp)⟩
theorem t_appR (z : Ex Z H) (h : H p = some (.lst vs)) (zp : Z p = none) (hz : vs.length < 100000) (q : ∀ Z' H', T [p] Z H Z' H' → H' p = some (.lst (vs ++ [v])) → Z' p = none → Q .non H') : rAppend (.ref p) [v] H Q :=
  ⟨p, vs, v, rfl, rfl, h, sz_lt hz, q Z _ (T.set ⟨zp, _, h⟩ z) upd_same zp⟩
end
end TR
namespace TR
open PySem L2
end TR
namespace TR
open PySem L2
end TR
namespace TR
open PySem L2
end TR
namespace TR
open PySem L2
end TR

namespace TR
open PySem L2 PySem.Spec PyProof.Rows He
end TR

namespace TR
open PySem L2 PySem.Spec PyProof.Rows He
theorem z_kform {K : PySem.W.Frag} {h : Heap} {mg : Str → Option Value} {w : World} {x : Str} {kvs : List (Str × Str)} (X : K.In h) (G : h.Ns mainGlobals mg) (c : (Fz.kv x kvs).ok K = true) (t : dicW K (ga K x) = some (keysIn w.params (kvs.map Prod.fst))) : KFormAt w K mg x kvs := by
  obtain ⟨c1, c2⟩ := ba c
  exact ⟨ga K x, glo_ok X G c1, kform_mk t c2⟩
end TR

/-! words of T: zh (all of Z stands), zz, pz (what stands in Z), hz (in H), iz (data in Z), sqz, stz, nm (not among), nez, al, hd (the hand), la, mu, li, ls, mm, fz (was not there), tt (the whole way); t, ts: steps -/
open PySem L2 TR
local macro_rules | `(tactic| walk_at "zh") => `(tactic| first
  | assumption
  | exact T.zh (by assumption)
  | exact Ex.refl _
  | exact Hand.z (by assumption))
local macro_rules | `(tactic| walk_at "zhx") => `(tactic| first
  | exact T.zh (by assumption)
  | assumption
  | exact Hand.z (by assumption))
local macro_rules | `(tactic| walk_at "pz") => `(tactic| first
  | assumption
  | (apply T.pz; assumption; walk_at "pz"))
local macro_rules | `(tactic| walk_at "hz") => `(tactic| first
  | assumption
  | (apply T.hp; assumption; walk_at "nm"; walk_at "hz"))
local macro_rules | `(tactic| walk_at "nm") => `(tactic| first
  | exact nm_nil
  | assumption
  | (apply nm_cons; walk_at "nez"; walk_at "nm"))
local macro_rules | `(tactic| walk_at "nez") => `(tactic| first
  | assumption
  | (apply Ne.symm; assumption)
  | (apply ne_alF; assumption; walk_at "al")
  | (apply ne_alB; assumption; walk_at "al"))
local macro_rules | `(tactic| walk_at "al") => `(tactic| first
  | exact Hand.at (by assumption)
  | exact Mu.a (by assumption)
  | exact Lm.at_ (by assumption)
  | exact ⟨_, by assumption⟩
  | (apply T.all; assumption; walk_at "al"))
local macro_rules | `(tactic| walk_at "hd") => `(tactic| first
  | assumption
  | (apply Hand.tt; assumption; walk_at "nm"; walk_at "hd"))
local macro_rules | `(tactic| walk_at "la") => `(tactic| first
  | assumption
  | (apply Lm.tt; assumption; walk_at "nm"; walk_at "la"))
local macro_rules | `(tactic| walk_at "ls") => `(tactic| first
  | assumption
  | (apply Ls.ofInts; walk_at "pz")
  | (apply Ls.tt; assumption; walk_at "ls"))
local macro_rules | `(tactic| walk_at "lsn") => `(tactic| first
  | (walk_at "ls"))
local macro_rules | `(tactic| walk_at "izc") => `(tactic| first
  | assumption
  | exact Ls.is (by assumption)
  | (apply Ik.tt; assumption; walk_at "izc"))
local macro_rules | `(tactic| walk_at "iz") => `(tactic| first
  | exact Ik.int _
  | exact Ik.tx _
  | walk_at "izc"
  | (apply Ik.pair; walk_at "pz"; walk_at "iz"; walk_at "iz")
  | (apply Ik.three; walk_at "pz"; walk_at "iz"; walk_at "iz"; walk_at "iz")
  | (apply Ik.nil; walk_at "pz")
  | (apply Ls.is; walk_at "lsn"))
local macro_rules | `(tactic| walk_at "sqz") => `(tactic| first
  | assumption
  | (apply sq_of; walk_at "pz")
  | (apply Ik.sqI; assumption)
  | (apply T.sqz; assumption; walk_at "sqz"))
local macro_rules | `(tactic| walk_at "stz") => `(tactic| first
  | assumption
  | (apply st_of; walk_at "pz"))
/-! the old words, widened -/
local macro_rules | `(tactic| walk_at "hp") => `(tactic| first
  | assumption
  | exact T.zh (by assumption) _ _ (by assumption)
  | (apply ex_ap; walk_at "zhx"; walk_at "pz")
  | walk_at "hz"
  | (apply ex_ap; assumption; walk_at "hp")
  | (apply exm_ap; assumption; walk_at "ne"; walk_at "hp"))
local macro_rules | `(tactic| walk_at "sq") => `(tactic| first
  | assumption
  | (apply sq_of; walk_at "hp")
  | (apply Ex.sq; walk_at "zhx"; walk_at "sqz")
  | focus (apply Ex.sq; rotate_left; assumption; walk_at "ex"))
local macro_rules | `(tactic| walk_at "st") => `(tactic| first
  | assumption
  | (apply st_of; walk_at "hp")
  | (apply Ex.st; walk_at "zhx"; walk_at "stz")
  | focus (apply Ex.st; rotate_left; assumption; walk_at "ex"))
local macro_rules | `(tactic| walk_at "isK") => `(tactic| first
  | (apply Ik.ex; walk_at "zhx"; walk_at "iz")
  | (apply Ik.nil; walk_at "hp"))
local macro_rules | `(tactic| walk_at "is") => `(tactic| first
  | exact Is.int _
  | assumption
  | (apply Ik.is; walk_at "isK"))
/-! steps -/
local macro_rules | `(tactic| walk_at "ig") => `(tactic| first
  | ((with_reducible apply ig_at); walk_at "at")
  | ((with_reducible apply ig_2b); intro _ _)
  | ((with_reducible apply ig_2); omega; intro _ _)
  | ((with_reducible apply ig_3); omega; intro _ _)
  | ((with_reducible apply ig_4); omega; intro _ _))
local macro_rules | `(tactic| walk_at "q") => `(tactic| first
  | ((with_reducible apply s_var); rfl)
  | (with_reducible (first | apply s_seq | apply s_asg | apply s_gname | apply s_cons | apply s_nil | apply s_call | apply s_op | apply s_c | apply s_if | apply s_test | apply s_ret | apply s_next | apply s_drop | apply s_bl | apply s_and | apply s_or | apply s_not | apply s_CB | apply s_tup | apply s_lst | apply s_tB | apply s_un | apply s_sl | apply s_np | apply s_part)))
local macro_rules | `(tactic| walk_at "t2") => `(tactic| first
  | (with_reducible (first | apply s_chain | apply s_andV | apply s_orV | apply s_notV | apply s_ifE | apply s_I0 | apply s_U | apply s_plusI | apply s_eqI | apply s_neI | apply s_eqS | apply s_neS | apply s_int | apply s_BM | apply s_gsub | apply s_augS | apply s_ipI | apply s_forL | apply s_forT | apply s_forR1 | apply s_forS | apply s_lcL | apply s_lcR1 | apply s_lcZ | apply s_dput))
  | ((with_reducible apply s_wp); rfl)
  | ((with_reducible apply s_mod); walk_at "od"; intro _ _)
  | ((with_reducible apply s_div); walk_at "od"; walk_at "od")
  | (walk_at "pow")
  | ((with_reducible apply s_pow); decide; walk_at "od")
  | ((with_reducible apply s_mulL); walk_at "od")
  | ((with_reducible apply s_mulR); walk_at "od")
  | ((with_reducible apply t_tup); walk_at "zh"; walk_at "od"; intro _ _ _ _ _ _)
  | ((with_reducible apply t_lst0); walk_at "zh"; intro _ _ _ _ _ _ _)
  | ((with_reducible apply t_lst); walk_at "zh"; walk_at "od"; intro _ _ _ _ _ _)
  | ((with_reducible apply drawT); walk_at "hd"; walk_at "od"; walk_at "od"; walk_at "od"; intro _ _ _ _ _ _ _)
  | ((with_reducible apply farT); walk_at "hd"; walk_at "od"; walk_at "od"; walk_at "od"; intro _ _ _ _ _ _ _)
  | ((with_reducible apply keyT); walk_at "hd"; walk_at "od"; intro _ _ _ _ _ _ _)
  | ((with_reducible apply openT); walk_at "zh"; walk_at "sq"; walk_at "od"; walk_at "od"; intro _ _ _ _ _ _)
  | ((with_reducible apply s_sum); walk_at "sq")
  | ((with_reducible apply t_len); walk_at "zh"; walk_at "izc")
  | ((with_reducible apply s_lenM); walk_at "sq")
  | ((with_reducible apply s_lenL); walk_at "sq")
  | ((with_reducible apply s_gt2); walk_at "st")
  | (with_reducible (first | apply s_isN0 | apply s_isN1 | apply s_isN2 | apply s_isN3 | apply s_max2 | apply s_min2 | apply s_abs | apply s_int1b))
  | ((with_reducible apply s_isiI); walk_at "kit")
  | ((with_reducible apply s_isiB); walk_at "kit")
  | ((with_reducible apply s_isiS); walk_at "kit")
  | ((with_reducible apply s_isiN); walk_at "kit")
  | ((with_reducible apply s_isiT); walk_at "st"; walk_at "kit")
  | ((with_reducible apply s_isiL); walk_at "sq"; walk_at "kit")
  | ((with_reducible apply s_index); walk_at "sq"; assumption; intro _ _ _)
  | ((with_reducible apply s_niL); walk_at "sq")
  | ((with_reducible apply t_tyLA); walk_at "la")
  | ((with_reducible apply s_tyL); walk_at "sq")
  | ((with_reducible apply t_app); walk_at "la"; walk_at "iz"; walk_at "len"; intro _ _ _ _)
  | ((with_reducible apply ixGo); walk_at "sq"; walk_at "ig")
  | ((with_reducible apply ixGoT); walk_at "st"; walk_at "ig")
  | (with_reducible (first | apply i_t | apply i_f | apply i_nt | apply i_nf))
  | ((with_reducible apply i_dt); (focus (first | trivial | assumption | omega | rfl)))
  | ((with_reducible apply i_df); (focus (first | assumption | omega | exact (fun h => h rfl))))
  | ((with_reducible apply i_ndt); (focus (first | trivial | assumption | omega | rfl))))
local macro_rules | `(tactic| walk_at "t") => `(tactic| first
  | walk_at "q"
  | walk_at "t2")
local macro_rules | `(tactic| walk_at "ts") => `(tactic| ((try dsimp only); (repeat walk_at "t")))
/-! as ts, but it stops at list(..) -/
/-! words for yards (math/yt) -/
local macro_rules | `(tactic| walk_at "ty2") => `(tactic| first
  | ((with_reducible apply t_ixE0); walk_at "izc"; walk_at "zh")
  | (with_reducible apply s_lcR3)
  | walk_at "t2")
local macro_rules | `(tactic| walk_at "ty") => `(tactic| first
  | walk_at "q"
  | walk_at "ty2")
local macro_rules | `(tactic| walk_at "tys") => `(tactic| ((try dsimp only); (repeat walk_at "ty")))
local macro_rules | `(tactic| walk_at "tyN") => `(tactic| ((try dsimp only); (repeat ((fail_if_success (with_reducible apply at_newl)); walk_at "ty"))))

/-! words for dicts (math/dm) -/
local macro_rules | `(tactic| walk_at "al") => `(tactic| first
  | exact Hand.at (by assumption)
  | exact Mu.a (by assumption)
  | exact Lm.at_ (by assumption)
  | exact ⟨_, by assumption⟩
  | (apply T.all; assumption; walk_at "al"))
local macro_rules | `(tactic| walk_at "tv2") => `(tactic| first
  | (with_reducible (first | apply s_din))
  | ((with_reducible apply t_dnew); walk_at "zh"; intro _ _ _ _ _ _)
  | walk_at "ty2")
/-! words for classes and exceptions -/
local macro_rules | `(tactic| walk_at "tx2") => `(tactic| first
  | (with_reducible (first | apply s_raise))
  | ((with_reducible apply n_raise); intro _ _)
  | (with_reducible (first | apply s_callE | apply s_meth | apply s_fld | apply s_fset | apply s_make | apply s_makeE))
  | ((with_reducible apply n_meth); walk_at "hp"; rfl)
  | ((with_reducible apply n_fld); walk_at "hp"; walk_at "ck"; walk_at "fl"; rfl)
  | walk_at "tv2")
local macro_rules | `(tactic| walk_at "tx") => `(tactic| first
  | walk_at "q"
  | walk_at "tx2")
local macro_rules | `(tactic| walk_at "txs") => `(tactic| ((try dsimp only); (repeat walk_at "tx")))

/-! words for tables -/
local macro_rules | `(tactic| walk_at "al") => `(tactic| first
  | exact Hand.at (by assumption)
  | exact Mu.a (by assumption)
  | exact Lm.at_ (by assumption)
  | exact ⟨_, by assumption⟩
  | (apply T.all; assumption; walk_at "al"))
namespace Lw
open PySem L2 TR
open PySem.Spec PyProof.Rows

/-! ### the text -/
def topS (i : Nat) : Stmt := PySem.Challenge.pw_tailrooms_k94_lines_of_bits_and_spill.main.body.getD i (.Pass ⟨0, 0, 0, 0⟩)

structure Z (K : PySem.W.Frag) (mg : Str → Option Value) : Prop where
  b_max : mg "max" = none
  b_str : mg "str" = none
  b_range : mg "range" = none
  b_len : mg "len" = none
  b_min : mg "min" = none
  b_int : mg "int" = none
  b_abs : mg "abs" = none
  b_sum : mg "sum" = none
  b_zip : mg "zip" = none
  b_sorted : mg "sorted" = none
  b_isinstance : mg "isinstance" = none
  b_bool : mg "bool" = none
  c_BITS : ∃ t, mg "BITS" = some (.int 60 t)
  c_GREATEST : ∃ t, mg "GREATEST" = some (.int 8 t)
  c_KEYS : ∃ t, mg "KEYS" = some (.int 1152921504606846976 t)
  c_COUNT : ∃ t, mg "COUNT" = some (.int 1000000000 t)
  c_MORE : ∃ t, mg "MORE" = some (.int 10000000000 t)
  c_ROOMS : ∃ t, mg "ROOMS" = some (.int 1152921504606846976 t)
  c_FIGURES : ∃ t, mg "FIGURES" = some (.str "0123456789" t)
  c_LONGEST_texts : ∃ t, mg "LONGEST_texts" = some (.int 30 t)
  c_LETTERS : ∃ t, mg "LETTERS" = some (.str "abcdefghijklmnopqrstuvwxyz" t)
  c_LONGEST_kinds : ∃ t, mg "LONGEST_kinds" = some (.int 8 t)
  c_COUNTS : ∃ t, mg "COUNTS" = some (.int 120 t)
  k_Keeper : Cls K (clsA K "Keeper")
  k_Desk : Cls K (clsA K "Desk")
  n_Keeper_wide : NoAttr K (clsA K "Keeper") "wide"
  n_Keeper_fill : NoAttr K (clsA K "Keeper") "fill"
  n_Keeper_now : NoAttr K (clsA K "Keeper") "now"
  n_Keeper_waiting : NoAttr K (clsA K "Keeper") "waiting"
  n_Desk_keepers : NoAttr K (clsA K "Desk") "keepers"
  t_TailError : TeC K mg "TailError"
  g_NoText : mg "NoText" = some (.ref (clsA K "NoText"))
  g_TailError : mg "TailError" = some (.ref (clsA K "TailError"))
  m_NoSize_NoText : PySem.W.exmOne K (.ref (clsA K "NoSize")) (.ref (clsA K "NoText")) = some false
  m_NoName_NoText : PySem.W.exmOne K (.ref (clsA K "NoName")) (.ref (clsA K "NoText")) = some false
  m_Taken_NoText : PySem.W.exmOne K (.ref (clsA K "Taken")) (.ref (clsA K "NoText")) = some false
  m_NoSize_TailError : PySem.W.exmOne K (.ref (clsA K "NoSize")) (.ref (clsA K "TailError")) = some true
  m_NoName_TailError : PySem.W.exmOne K (.ref (clsA K "NoName")) (.ref (clsA K "TailError")) = some true
  m_Taken_TailError : PySem.W.exmOne K (.ref (clsA K "Taken")) (.ref (clsA K "TailError")) = some true

local macro_rules | `(tactic| walk_at "ck") => `(tactic| first
  | assumption
  | exact Z.k_Keeper (by assumption)
  | exact Z.k_Desk (by assumption))
local macro_rules | `(tactic| walk_at "fl") => `(tactic| first
  | assumption
  | exact Z.n_Keeper_wide (by assumption)
  | exact Z.n_Keeper_fill (by assumption)
  | exact Z.n_Keeper_now (by assumption)
  | exact Z.n_Keeper_waiting (by assumption)
  | exact Z.n_Desk_keepers (by assumption))
noncomputable abbrev s_parted : Stmt := topS 86

noncomputable abbrev s_law_stay_text : Stmt := topS 112

noncomputable abbrev s_rooms_in_turn : Stmt := topS 83

noncomputable abbrev s_stay : Stmt := topS 85

noncomputable abbrev s_whole_rooms : Stmt := topS 2

noncomputable abbrev s_room_of : Stmt := topS 4

noncomputable abbrev s_trail : Stmt := topS 84

noncomputable abbrev s_law_draw : Stmt := topS 106

noncomputable abbrev s_law_far : Stmt := topS 107

noncomputable abbrev s_law_power : Stmt := topS 108

noncomputable abbrev s_law_key : Stmt := topS 109

noncomputable abbrev s_law_lines : Stmt := topS 113

noncomputable abbrev s_law_open : Stmt := topS 105

noncomputable abbrev s_law_what : Stmt := topS 110

noncomputable abbrev s_asked_answer : Stmt := topS 101

noncomputable abbrev s_deed_answer : Stmt := topS 102

noncomputable abbrev s_rows_for : Stmt := topS 31

noncomputable abbrev s_spill : Stmt := topS 34

noncomputable abbrev s_spill_behind : Stmt := topS 38

noncomputable abbrev s_free_of : Stmt := topS 37

noncomputable abbrev s_least_spill : Stmt := topS 40

noncomputable abbrev s_needs_of : Stmt := topS 36

noncomputable abbrev s_greatest_spill : Stmt := topS 39

noncomputable abbrev s_stay_told : Stmt := topS 98

noncomputable abbrev s_plain_answer : Stmt := topS 99

noncomputable abbrev s_is_whole : Stmt := topS 26

noncomputable abbrev s_is_size : Stmt := topS 29

noncomputable abbrev s_is_key : Stmt := topS 27

noncomputable abbrev s_is_of : Stmt := topS 94

noncomputable abbrev s_read_number : Stmt := topS 81

noncomputable abbrev s_is_name : Stmt := topS 28

noncomputable abbrev s_read_word : Stmt := topS 95

noncomputable abbrev s_read_line : Stmt := topS 96

noncomputable abbrev s_cut_rows : Stmt := topS 42

noncomputable abbrev s_yard_of : Stmt := topS 43

noncomputable abbrev s_NoSize___init : Stmt := inClass (topS 9) 0

noncomputable abbrev s_need_sizes : Stmt := topS 67

noncomputable abbrev s_Keeper___init : Stmt := inClass (topS 72) 0

noncomputable abbrev s_NoName___init : Stmt := inClass (topS 19) 0

noncomputable abbrev s_Taken___init : Stmt := inClass (topS 20) 0

noncomputable abbrev s_Desk_say : Stmt := inClass (topS 103) 1

noncomputable abbrev s_law_said : Stmt := topS 111

noncomputable abbrev s_law_spills : Stmt := topS 114

noncomputable abbrev s_Desk___init : Stmt := inClass (topS 103) 0

noncomputable abbrev s_law : Stmt := topS 115

theorem sc_parted : FnScope ["one", "other", "place"] ["one", "other"] (defScope s_parted) := ⟨rfl, rfl, rfl, by decide +kernel, rfl, by decide +kernel, by decide +kernel⟩

theorem sc_law_stay_text : FnScope ["_law_told"] ["_law_told"] (defScope s_law_stay_text) := ⟨rfl, rfl, rfl, by decide +kernel, rfl, by decide +kernel, by decide +kernel⟩

theorem sc_rooms_in_turn : FnScope ["key", "found", "place", "k"] ["key"] (defScope s_rooms_in_turn) := ⟨rfl, rfl, rfl, by decide +kernel, rfl, by decide +kernel, by decide +kernel⟩

theorem sc_stay : FnScope ["key", "room", "rooms", "at"] ["key", "room"] (defScope s_stay) := ⟨rfl, rfl, rfl, by decide +kernel, rfl, by decide +kernel, by decide +kernel⟩

theorem sc_whole_rooms : FnScope ["rooms", "found"] ["rooms"] (defScope s_whole_rooms) := ⟨rfl, rfl, rfl, by decide +kernel, rfl, by decide +kernel, by decide +kernel⟩

theorem sc_room_of : FnScope ["key", "rooms", "whole"] ["key", "rooms"] (defScope s_room_of) := ⟨rfl, rfl, rfl, by decide +kernel, rfl, by decide +kernel, by decide +kernel⟩

theorem sc_trail : FnScope ["key", "rooms", "found", "room"] ["key", "rooms"] (defScope s_trail) := ⟨rfl, rfl, rfl, by decide +kernel, rfl, by decide +kernel, by decide +kernel⟩

theorem sc_law_draw : FnScope ["_law_hand", "_law_many", "_law_got", "_law_k", "_law_number"] ["_law_hand", "_law_many"] (defScope s_law_draw) := ⟨rfl, rfl, rfl, by decide +kernel, rfl, by decide +kernel, by decide +kernel⟩

theorem sc_law_far : FnScope ["_law_hand", "_law_many", "_law_number", "_law_k"] ["_law_hand", "_law_many"] (defScope s_law_far) := ⟨rfl, rfl, rfl, by decide +kernel, rfl, by decide +kernel, by decide +kernel⟩

theorem sc_law_power : FnScope ["_law_many", "_law_number", "_law_k"] ["_law_many"] (defScope s_law_power) := ⟨rfl, rfl, rfl, by decide +kernel, rfl, by decide +kernel, by decide +kernel⟩

theorem sc_law_key : FnScope ["_law_hand", "_law_way", "_law_low"] ["_law_hand"] (defScope s_law_key) := ⟨rfl, rfl, rfl, by decide +kernel, rfl, by decide +kernel, by decide +kernel⟩

theorem sc_law_lines : FnScope ["_law_hand", "_law_way", "_law_key_here", "_law_other", "_law_rooms", "_law_room", "_law_some", "_law_lines_here", "_law_due", "_law_many", "_law_at"] ["_law_hand"] (defScope s_law_lines) := ⟨rfl, rfl, rfl, by decide +kernel, rfl, by decide +kernel, by decide +kernel⟩

theorem sc_law_open : FnScope ["_law_script", "_law_place", "_law_cells", "_law_at", "_law_digits", "_law_cell"] ["_law_script", "_law_place"] (defScope s_law_open) := ⟨rfl, rfl, rfl, by decide +kernel, rfl, by decide +kernel, by decide +kernel⟩

theorem sc_law_what : FnScope ["_law_e", "_law_some"] ["_law_e"] (defScope s_law_what) := ⟨rfl, rfl, rfl, by decide +kernel, rfl, by decide +kernel, by decide +kernel⟩

theorem sc_asked_answer : FnScope ["keeper", "word", "some", "thing", "looks", "step", "key"] ["keeper", "word", "some"] (defScope s_asked_answer) := ⟨rfl, rfl, rfl, by decide +kernel, rfl, by decide +kernel, by decide +kernel⟩

theorem sc_deed_answer : FnScope ["keeper", "word", "some", "step"] ["keeper", "word", "some"] (defScope s_deed_answer) := ⟨rfl, rfl, rfl, by decide +kernel, rfl, by decide +kernel, by decide +kernel⟩

theorem sc_rows_for : FnScope ["many", "wide"] ["many", "wide"] (defScope s_rows_for) := ⟨rfl, rfl, rfl, by decide +kernel, rfl, by decide +kernel, by decide +kernel⟩

theorem sc_spill : FnScope ["sizes", "wide", "many"] ["sizes", "wide"] (defScope s_spill) := ⟨rfl, rfl, rfl, by decide +kernel, rfl, by decide +kernel, by decide +kernel⟩

theorem sc_spill_behind : FnScope ["sizes", "wide", "put", "many", "more"] ["sizes", "wide", "put"] (defScope s_spill_behind) := ⟨rfl, rfl, rfl, by decide +kernel, rfl, by decide +kernel, by decide +kernel⟩

theorem sc_free_of : FnScope ["many", "wide"] ["many", "wide"] (defScope s_free_of) := ⟨rfl, rfl, rfl, by decide +kernel, rfl, by decide +kernel, by decide +kernel⟩

theorem sc_least_spill : FnScope ["sizes", "wide", "more", "put", "left", "many"] ["sizes", "wide", "more"] (defScope s_least_spill) := ⟨rfl, rfl, rfl, by decide +kernel, rfl, by decide +kernel, by decide +kernel⟩

theorem sc_needs_of : FnScope ["sizes", "wide", "needs", "room"] ["sizes", "wide"] (defScope s_needs_of) := ⟨rfl, rfl, rfl, by decide +kernel, rfl, by decide +kernel, by decide +kernel⟩

theorem sc_greatest_spill : FnScope ["sizes", "wide", "more", "put", "needs", "left", "need", "room", "rest"] ["sizes", "wide", "more"] (defScope s_greatest_spill) := ⟨rfl, rfl, rfl, by decide +kernel, rfl, by decide +kernel, by decide +kernel⟩

theorem sc_stay_told : FnScope ["told"] ["told"] (defScope s_stay_told) := ⟨rfl, rfl, rfl, by decide +kernel, rfl, by decide +kernel, by decide +kernel⟩

theorem sc_plain_answer : FnScope ["word", "some", "many", "room"] ["word", "some"] (defScope s_plain_answer) := ⟨rfl, rfl, rfl, by decide +kernel, rfl, by decide +kernel, by decide +kernel⟩

theorem sc_is_whole : FnScope ["thing"] ["thing"] (defScope s_is_whole) := ⟨rfl, rfl, rfl, by decide +kernel, rfl, by decide +kernel, by decide +kernel⟩

theorem sc_is_size : FnScope ["thing"] ["thing"] (defScope s_is_size) := ⟨rfl, rfl, rfl, by decide +kernel, rfl, by decide +kernel, by decide +kernel⟩

theorem sc_is_key : FnScope ["thing"] ["thing"] (defScope s_is_key) := ⟨rfl, rfl, rfl, by decide +kernel, rfl, by decide +kernel, by decide +kernel⟩

theorem sc_is_of : FnScope ["sign", "number"] ["sign", "number"] (defScope s_is_of) := ⟨rfl, rfl, rfl, by decide +kernel, rfl, by decide +kernel, by decide +kernel⟩

theorem sc_read_number : FnScope ["text", "sign"] ["text"] (defScope s_read_number) := ⟨rfl, rfl, rfl, by decide +kernel, rfl, by decide +kernel, by decide +kernel⟩

theorem sc_is_name : FnScope ["thing", "sign"] ["thing"] (defScope s_is_name) := ⟨rfl, rfl, rfl, by decide +kernel, rfl, by decide +kernel, by decide +kernel⟩

theorem sc_read_word : FnScope ["sign", "word", "number"] ["sign", "word"] (defScope s_read_word) := ⟨rfl, rfl, rfl, by decide +kernel, rfl, by decide +kernel, by decide +kernel⟩

theorem sc_read_line : FnScope ["line", "words", "form", "sign", "word"] ["line"] (defScope s_read_line) := ⟨rfl, rfl, rfl, by decide +kernel, rfl, by decide +kernel, by decide +kernel⟩

theorem sc_cut_rows : FnScope ["wide", "entries", "rising", "at"] ["wide", "entries"] (defScope s_cut_rows) := ⟨rfl, rfl, rfl, by decide +kernel, rfl, by decide +kernel, by decide +kernel⟩

theorem sc_yard_of : FnScope ["wide", "rooms", "entries", "parts", "entry", "room", "part"] ["wide", "rooms", "entries"] (defScope s_yard_of) := ⟨rfl, rfl, rfl, by decide +kernel, rfl, by decide +kernel, by decide +kernel⟩

theorem sc_NoSize___init : FnScope ["self", "thing"] ["self", "thing"] (defScope s_NoSize___init) := ⟨rfl, rfl, rfl, by decide +kernel, rfl, by decide +kernel, by decide +kernel⟩

theorem sc_need_sizes : FnScope ["wide", "fill", "thing"] ["wide", "fill"] (defScope s_need_sizes) := ⟨rfl, rfl, rfl, by decide +kernel, rfl, by decide +kernel, by decide +kernel⟩

theorem sc_Keeper___init : FnScope ["self", "wide", "fill"] ["self", "wide", "fill"] (defScope s_Keeper___init) := ⟨rfl, rfl, rfl, by decide +kernel, rfl, by decide +kernel, by decide +kernel⟩

theorem sc_NoName___init : FnScope ["self", "name"] ["self", "name"] (defScope s_NoName___init) := ⟨rfl, rfl, rfl, by decide +kernel, rfl, by decide +kernel, by decide +kernel⟩

theorem sc_Taken___init : FnScope ["self", "name"] ["self", "name"] (defScope s_Taken___init) := ⟨rfl, rfl, rfl, by decide +kernel, rfl, by decide +kernel, by decide +kernel⟩

theorem sc_Desk_say : FnScope ["self", "line", "word", "some", "name", "answer"] ["self", "line"] (defScope s_Desk_say) := ⟨rfl, rfl, rfl, by decide +kernel, rfl, by decide +kernel, by decide +kernel⟩

theorem sc_law_said : FnScope ["_law_desk", "_law_line", "_law_e", "_law_told"] ["_law_desk", "_law_line"] (defScope s_law_said) := ⟨rfl, rfl, rfl, by decide +kernel, rfl, by decide +kernel, by decide +kernel⟩

theorem sc_law_spills : FnScope ["_law_hand", "_law_wide", "_law_more", "_law_most", "_law_many", "_law_sizes", "_law_tail", "_law_lines_here", "_law_k", "_law_one"] ["_law_hand"] (defScope s_law_spills) := ⟨rfl, rfl, rfl, by decide +kernel, rfl, by decide +kernel, by decide +kernel⟩

theorem sc_Desk___init : FnScope ["self"] ["self"] (defScope s_Desk___init) := ⟨rfl, rfl, rfl, by decide +kernel, rfl, by decide +kernel, by decide +kernel⟩

theorem sc_law : FnScope ["_law_script", "_law_desk", "_law_other", "_law_place", "_law_hand", "_law_spills_here", "_law_line", "_law_due"] ["_law_script"] (defScope s_law) := ⟨rfl, rfl, rfl, by decide +kernel, rfl, by decide +kernel, by decide +kernel⟩

section
variable {P : Program} {w : World} {K : PySem.W.Frag} {mg : Str → Option Value} {base : Heap}

/-! ### parted -/
noncomputable def sp_parted (K : PySem.W.Frag) : Sp := fun vs H Q _ => ∃ (x y : Int) (d : Nat), vs = [.int x, .int y] ∧ Dif x y d ∧ d < 60 ∧ Q (.int (partedAt x y d)) H
theorem has_parted (z : Z K mg) (F : FunAt K mg "parted" s_parted ["one", "other"])  : Has P w K mg base "parted" 1 (sp_parted K) := by
  refine has_of F sc_parted (fun vs H Q E h => ?_) (fun f cdv A outer s H vs Q E hr h => ?_)
  · obtain ⟨x, y, d, rfl, _⟩ := h
    rfl
  · obtain ⟨x, y, d, rfl, hd, hd60, q⟩ := h
    refine ⟨_, (pss_cons (ps_set (i := 2) sc_parted.nd rfl (by first | exact Or.inl rfl | exact Or.inr rfl) pe_int)
        (pss_cons (ps_while PassesOwn.never (pt_cmpR (eqA (K := K) rfl hr.units) (pe_op op_mod (pe_op op_fdivW (pv 0) (pv 2)) pe_int) (pe_op op_mod (pe_op op_fdivW (pv 1) (pv 2)) pe_int) (nomark _)) (pss_one (ps_set (i := 2) sc_parted.nd rfl (by first | exact Or.inl rfl | exact Or.inr rfl) (pe_op op_multA (pv 2) pe_int))))
        (pss_one (ps_ret (pe_op op_plusA (pe_callB (id := "max") (call_max2A rfl) (by rfl) z.b_max (by decide +kernel) (pa_cons (pe_op op_mod (pv 0) (pe_op op_multA pe_int (pv 2))) (pa_cons (pe_op op_mod (pv 1) (pe_op op_multA pe_int (pv 2))) pa_nil))) pe_int))))), ?_⟩
    walk_at "cx"
    walk_at "ss"
    refine u_while (fun m σ H' => ∃ k : Nat, σ = [some (.int x), some (.int y), some (.int (2 ^ k))] ∧ H' = H ∧ k ≤ d ∧ m = d - k) d ⟨0, rfl, rfl, Nat.zero_le _, rfl⟩ (fun m σ H' hh => ?_)
    obtain ⟨k, rfl, rfl, hk, rfl⟩ := hh
    have p := two_pos k
    have p2 := two_le60 (show k ≤ 60 by omega)
    walk_at "ss"
    refine i_d (fun hb => ?_) (fun hb => ?_)
    · have kd : k ≠ d := fun e => by
        subst e
        exact hd.2 hb
      refine w_body ?_
      walk_at "ss"
      exact ⟨d - (k + 1), by omega, k + 1, by rw [Int.pow_succ]; rfl, rfl, by omega, rfl⟩
    · have kd : k = d := by
        apply Decidable.byContradiction
        intro n
        exact hb (hd.1 k (by omega))
      subst kd
      walk_at "ss"
      have e : max (x % (2 * 2 ^ k)) (y % (2 * 2 ^ k)) + 1 = partedAt x y k := by
        unfold partedAt
        rw [two_succ]
        omega
      rw [e]
      exact q

/-! ### _law_stay_text -/
noncomputable def sp_law_stay_text (K : PySem.W.Frag) : Sp := fun vs H Q _ => ∃ (v : V) (Z : Hp), vs = [v] ∧ Ex Z H ∧ (v = .non ∧ Q (.str "never") H ∨ ∃ p m o, v = .ref p ∧ SqT K H p [.int m, optV o] ∧ 0 ≤ m ∧ m < 2000000000000000000 ∧ (∀ r, o = some r → 0 ≤ r ∧ r < 2000000000000000000) ∧ ∀ Z' H', TR.T [] Z H Z' H' → Q (.str (stayS m o)) H')
theorem has_law_stay_text (z : Z K mg) (F : FunAt K mg "_law_stay_text" s_law_stay_text ["_law_told"])  : Has P w K mg base "_law_stay_text" 1 (sp_law_stay_text K) := by
  refine has_of F sc_law_stay_text (fun vs H Q E h => ?_) (fun f cdv A outer s H vs Q E hr h => ?_)
  · obtain ⟨_, _, rfl, _⟩ := h
    rfl
  · obtain ⟨v, Z, rfl, zh, hv⟩ := h
    refine ⟨_, (pss_cons (ps_if (pt_cmpR op_isNA (pv 0) pe_non (nomark _)) (pss_one (ps_ret pe_str)) pss_nil)
        (pss_one (ps_ret (pe_op op_plusA (pe_op op_plusA (pe_callTy (T := "str") strIA (by rfl) z.b_str (by decide +kernel) (pa_cons (pe_ix (ixA (K := K) rfl) (pv 0) pe_int (fun _ _ => rfl)) pa_nil)) pe_str) (pe_callTy (T := "str") (CallR.or strIA SkE.call_str_str) (by rfl) z.b_str (by decide +kernel) (pa_cons (pe_ix (ixA (K := K) rfl) (pe_lst (pa_cons (pe_ifExp (pt_cmpR op_isNA (pe_ix (ixA (K := K) rfl) (pv 0) pe_int (fun _ _ => rfl)) pe_non (nomark _)) pe_str (pe_ix (ixA (K := K) rfl) (pv 0) pe_int (fun _ _ => rfl))) pa_nil)) pe_int (fun _ _ => rfl)) pa_nil)))))), ?_⟩
    walk_at "cx"
    walk_at "tys"
    rcases hv with ⟨rfl, q⟩ | ⟨p, m, o, rfl, sT, m0, m1, ho, q⟩
    · walk_at "tys"
      exact q
    · walk_at "tys"
      refine t_strI (by omega) (by omega) ?_
      walk_at "tys"
      have l1 := num_len m0 (by omega)
      have l3 : (" " : Str).length = 1 := rfl
      refine s_plusS (by omega) ?_
      walk_at "tyN"
      cases o with
      | none =>
        walk_at "tyN"
        refine s_isN0 ?_
        walk_at "tyN"
        refine t_newW zh (by show 1 ≤ 100000; decide) fun p1 Z1 H1 n1 t1 f1 => ?_
        have z1 := t1.zh
        have sq1 := sq_of (K := K) (z1 _ _ f1)
        walk_at "tys"
        try (refine ixGo sq1 ⟨.str "ever", rfl, ?_⟩)
        walk_at "tys"
        refine .inr ⟨"ever", rfl, ?_⟩
        have e : numS m ++ " " ++ "ever" = stayS m none := tl_ext (by
          show TL.tl (numS m ++ " " ++ "ever") = TL.tl (numS m ++ " ever")
          rw [TL.tl_append, TL.tl_append, TL.tl_append, List.append_assoc]
          rfl)
        refine s_plusS (by rw [len_app]; have : ("ever" : Str).length = 4 := rfl; omega) ?_
        rw [e]
        exact q Z1 H1 t1
      | some r =>
        obtain ⟨r0, r1⟩ := ho r rfl
        walk_at "tyN"
        refine s_isN1 ?_
        walk_at "tyN"
        refine t_newW zh (by show 1 ≤ 100000; decide) fun p1 Z1 H1 n1 t1 f1 => ?_
        have z1 := t1.zh
        have sq1 := sq_of (K := K) (z1 _ _ f1)
        walk_at "tys"
        try (refine ixGo sq1 ⟨.int r, rfl, ?_⟩)
        walk_at "tys"
        refine .inl (t_strI r0 (by omega) ?_)
        have l2 := num_len r0 (by omega)
        refine s_plusS (by rw [len_app]; omega) ?_
        exact q Z1 H1 t1

/-! ### rooms_in_turn -/
noncomputable def sp_rooms_in_turn (K : PySem.W.Frag) : Sp := fun vs H Q _ => ∃ x : Int, vs = [.int x] ∧ ∀ p H', H p = none → Ex H H' → H' p = some (.lst ((turnsN x 60).map V.int)) → Q (.ref p) H'
theorem has_rooms_in_turn (z : Z K mg) (F : FunAt K mg "rooms_in_turn" s_rooms_in_turn ["key"])  : Has P w K mg base "rooms_in_turn" 1 (sp_rooms_in_turn K) := by
  refine has_of F sc_rooms_in_turn (fun vs H Q E h => ?_) (fun f cdv A outer s H vs Q E hr h => ?_)
  · obtain ⟨n, rfl, _⟩ := h
    rfl
  · obtain ⟨x, rfl, q⟩ := h
    refine ⟨_, (pss_cons (ps_set (i := 1) sc_rooms_in_turn.nd rfl (by first | exact Or.inl rfl | exact Or.inr rfl) (pe_lst (pa_cons pe_int pa_nil)))
        (pss_cons (ps_set (i := 2) sc_rooms_in_turn.nd rfl (by first | exact Or.inl rfl | exact Or.inr rfl) pe_int)
        (pss_cons (ps_for PassesOwn.never rfl (pi_range1 (by rfl) z.b_range (pa_cons (pe_constI z.c_BITS rfl) pa_nil)) (pg_name (i := 3) sc_rooms_in_turn.nd rfl (by first | exact Or.inl rfl | exact Or.inr rfl)) (pss_cons (ps_if (pt_cmpR (eqA (K := K) rfl hr.units) (pe_op op_mod (pe_op op_fdivW (pv 0) (pv 2)) pe_int) pe_int (nomark _)) (pss_one (ps_expr (pe_bm PySem.F.plainAttrs_list PySem.F.slot_list_append PySem.F.type_list_append mt_append (pv 1) (pa_cons (pe_op op_mod (pv 0) (pe_op op_multA pe_int (pv 2))) pa_nil)))) pss_nil)
        (pss_one (ps_set (i := 2) sc_rooms_in_turn.nd rfl (by first | exact Or.inl rfl | exact Or.inr rfl) (pe_op op_multA (pv 2) pe_int)))))
        (pss_one (ps_ret (pv 1)))))), ?_⟩
    walk_at "cx"
    walk_at "ss"
    refine u_forR1 (fun i σ H' => ∃ (p : Addr) (y : Option V), σ = [some (.int x), some (.ref p), some (.int (2 ^ i)), y] ∧ Ex H H' ∧ H p = none ∧ H' p = some (.lst ((turnsN x i).map V.int))) (by decide) ⟨_, _, rfl, by walk_at "ex", by assumption, by assumption⟩ (fun i σ H' hi hh => ?_) (fun σ H' hh => ?_)
    · obtain ⟨p, y, rfl, e1, n1, f1⟩ := hh
      have q1 := two_pos i
      have q2 := two_le60 (show i ≤ 60 by omega)
      have q3 : x % 2 ^ (i + 1) = x % (2 * 2 ^ i) := by rw [two_succ]
      have q4 := turns_len x i
      have q5 : (2 : Int) ^ (i + 1) = 2 ^ i * 2 := Int.pow_succ _ _
      walk_at "ss"
      refine i_d (fun hd => ?_) (fun hd => ?_)
      · walk_at "ss"
        refine n_app f1 (by rw [List.length_map]; omega) fun H2 m2 f2 => ?_
        walk_at "ss"
        refine ⟨p, _, by rw [q5]; rfl, e1.exm n1 m2, n1, ?_⟩
        have e : turnsN x (i + 1) = turnsN x i ++ [x % 2 ^ (i + 1)] := if_pos hd
        rw [f2, e, q3, List.map_append]
        rfl
      · walk_at "ss"
        refine ⟨p, _, by rw [q5]; rfl, e1, n1, ?_⟩
        rw [f1]
        have : turnsN x (i + 1) = turnsN x i := if_neg hd
        rw [this]
    · obtain ⟨p, y, rfl, e1, n1, f1⟩ := hh
      walk_at "ss"
      exact q p _ n1 e1 f1

/-! ### stay -/
noncomputable def sp_stay (K : PySem.W.Frag) : Sp := fun vs H Q _ => ∃ x m : Int, vs = [.int x, .int m] ∧ (m ∉ turnsN x 60 → ∀ H', Ex H H' → Q .non H') ∧
  (m ∈ turnsN x 60 → ∀ p H', H p = none → Ex H H' → H' p = some (.tup [.int (m + 1), optV (nxt (turnsN x 60) m)]) → Q (.ref p) H')
theorem has_stay (z : Z K mg) (F : FunAt K mg "stay" s_stay ["key", "room"]) (h_rooms_in_turn : Has P w K mg base "rooms_in_turn" 1 (sp_rooms_in_turn K)) : Has P w K mg base "stay" 2 (sp_stay K) := by
  refine has_of F sc_stay (fun vs H Q E h => ?_) (fun f cdv A outer s H vs Q E hr h => ?_)
  · obtain ⟨x, m, rfl, _⟩ := h
    rfl
  · obtain ⟨x, m, rfl, q0, q1⟩ := h
    refine ⟨_, (pss_cons (ps_set (i := 2) sc_stay.nd rfl (by first | exact Or.inl rfl | exact Or.inr rfl) (pe_callH h_rooms_in_turn (by decide) hr rfl (pa_cons (pv 0) pa_nil)))
        (pss_cons (ps_if (pt_cmpR (niA (K := K) rfl) (pv 1) (pv 2) (by rfl)) (pss_one (ps_ret pe_non)) pss_nil)
        (pss_cons (ps_set (i := 3) sc_stay.nd rfl (by first | exact Or.inl rfl | exact Or.inr rfl) (pe_bm PySem.F.plainAttrs_list PySem.F.slot_list_index PySem.F.type_list_index (indexA (K := K) rfl) (pv 2) (pa_cons (pv 1) pa_nil)))
        (pss_cons (ps_if (pt_cmpR (eqA (K := K) rfl hr.units) (pv 3) (pe_op op_sub (pe_callB (id := "len") (lenA (K := K) rfl) (by rfl) z.b_len (by decide +kernel) (pa_cons (pv 2) pa_nil)) pe_int) (nomark _)) (pss_one (ps_ret (pe_tup (pa_cons (pe_op op_plusA (pv 1) pe_int) (pa_cons pe_non pa_nil))))) pss_nil)
        (pss_one (ps_ret (pe_tup (pa_cons (pe_op op_plusA (pv 1) pe_int) (pa_cons (pe_op op_plusA (pe_ix (ixA (K := K) rfl) (pv 2) (pe_op op_plusA (pv 3) pe_int) (fun _ _ => rfl)) pe_int) pa_nil))))))))), ?_⟩
    walk_at "cx"
    walk_at "ss"
    refine ⟨_, rfl, fun p1 H1 n1 e1 f1 => ?_⟩
    walk_at "ss"
    refine i_d (fun hd => ?_) (fun hd => ?_)
    · walk_at "ss"
      exact q0 hd _ e1
    have hm := Decidable.not_not.mp hd
    have hl := turns_len x 60
    walk_at "ss"
    rename_i j hj hf
    have fn := find_next (turns_sorted x 60) hj
    have jl := (List.getElem?_eq_some_iff.mp hj).1
    refine i_d (fun hd => ?_) (fun hd => ?_)
    · rw [List.getElem?_eq_none (by omega)] at fn
      walk_at "ss"
      rename_i p2 H2 n2 e2 f2
      refine q1 hm p2 H2 (Ex.back e1 n2) (e1.trans e2) ?_
      rw [f2]
      unfold nxt
      rw [fn]
      rfl
    · walk_at "ss"
      rename_i v hv p2 H2 n2 e2 f2
      rw [show ((j : Int) + 1).toNat = j + 1 by omega] at hv
      refine q1 hm p2 H2 (Ex.back e1 n2) (e1.trans e2) ?_
      rw [f2]
      unfold nxt
      rw [fn, hv]
      rfl

/-! ### whole_rooms -/
noncomputable def sp_whole_rooms (K : PySem.W.Frag) : Sp := fun vs H Q _ => ∃ r : Int, vs = [.int r] ∧ 1 ≤ r ∧ Q (.int (whole r)) H
theorem has_whole_rooms (z : Z K mg) (F : FunAt K mg "whole_rooms" s_whole_rooms ["rooms"])  : Has P w K mg base "whole_rooms" 1 (sp_whole_rooms K) := by
  refine has_of F sc_whole_rooms (fun vs H Q E h => ?_) (fun f cdv A outer s H vs Q E hr h => ?_)
  · obtain ⟨r, rfl, _⟩ := h
    rfl
  · obtain ⟨r, rfl, h0, q⟩ := h
    refine ⟨_, (pss_cons (ps_set (i := 1) sc_whole_rooms.nd rfl (by first | exact Or.inl rfl | exact Or.inr rfl) pe_int)
        (pss_cons (ps_while PassesOwn.never (pt_cmpR op_le (pe_op op_multA pe_int (pv 1)) (pv 0) (nomark _)) (pss_one (ps_set (i := 1) sc_whole_rooms.nd rfl (by first | exact Or.inl rfl | exact Or.inr rfl) (pe_op op_multA pe_int (pv 1)))))
        (pss_one (ps_ret (pv 1))))), ?_⟩
    walk_at "cx"
    walk_at "ss"
    refine u_while (fun m σ H' => ∃ k : Nat, σ = [some (.int r), some (.int (2 ^ k))] ∧ H' = H ∧ (2 : Int) ^ k ≤ r ∧ m = (r - 2 ^ k).toNat) (r - 1).toNat ⟨0, rfl, rfl, h0, rfl⟩ (fun m σ H' hh => ?_)
    obtain ⟨k, rfl, rfl, hk, rfl⟩ := hh
    have hp := two_pos k
    walk_at "ss"
    refine i_d (fun hd => ?_) (fun hd => ?_)
    · refine w_body ?_
      walk_at "ss"
      exact ⟨(r - 2 ^ (k + 1)).toNat, by rw [two_succ]; omega, k + 1, by rw [two_succ]; rfl, rfl, by rw [two_succ]; omega, rfl⟩
    · walk_at "ss"
      rw [whole_unique hk (by omega)] at q
      exact q

/-! ### room_of -/
noncomputable def sp_room_of (K : PySem.W.Frag) : Sp := fun vs H Q _ => ∃ c r : Int, vs = [.int c, .int r] ∧ 1 ≤ r ∧ Q (.int (roomOf c r)) H
theorem has_room_of (z : Z K mg) (F : FunAt K mg "room_of" s_room_of ["key", "rooms"]) (h_whole_rooms : Has P w K mg base "whole_rooms" 1 (sp_whole_rooms K)) : Has P w K mg base "room_of" 2 (sp_room_of K) := by
  refine has_of F sc_room_of (fun vs H Q E h => ?_) (fun f cdv A outer s H vs Q E hr h => ?_)
  · obtain ⟨c, r, rfl, _⟩ := h
    rfl
  · obtain ⟨c, r, rfl, h0, q⟩ := h
    refine ⟨_, (pss_cons (ps_set (i := 2) sc_room_of.nd rfl (by first | exact Or.inl rfl | exact Or.inr rfl) (pe_callH h_whole_rooms (by decide) hr rfl (pa_cons (pv 1) pa_nil)))
        (pss_cons (ps_if (pt_cmpR op_lt (pe_op op_mod (pv 0) (pv 2)) (pe_op op_sub (pv 1) (pv 2)) (nomark _)) (pss_one (ps_ret (pe_op op_mod (pv 0) (pe_op op_multA pe_int (pv 2))))) pss_nil)
        (pss_one (ps_ret (pe_op op_mod (pv 0) (pv 2)))))), ?_⟩
    walk_at "cx"
    walk_at "ss"
    refine ⟨_, rfl, h0, ?_⟩
    obtain ⟨a1, a2, a3⟩ := whole_spec h0
    unfold roomOf at q
    walk_at "ss"
    refine i_d (fun hd => ?_) (fun hd => ?_)
    · rw [if_pos hd] at q
      walk_at "ss"
      exact q
    · rw [if_neg hd] at q
      walk_at "ss"
      exact q

/-! ### trail -/
noncomputable def sp_trail (K : PySem.W.Frag) : Sp := fun vs H Q _ => ∃ (x r : Int) (Z : Hp), vs = [.int x, .int r] ∧ Ex Z H ∧ ∀ p Z' H', T [] Z H Z' H' → Ls Z' p (byBits x r 60) → Q (.ref p) H'
theorem has_trail (z : Z K mg) (F : FunAt K mg "trail" s_trail ["key", "rooms"]) (h_rooms_in_turn : Has P w K mg base "rooms_in_turn" 1 (sp_rooms_in_turn K)) : Has P w K mg base "trail" 2 (sp_trail K) := by
  refine has_of F sc_trail (fun vs H Q E h => ?_) (fun f cdv A outer s H vs Q E hr h => ?_)
  · obtain ⟨_, _, _, rfl, _⟩ := h
    rfl
  · obtain ⟨x, r, Z, rfl, zh, q⟩ := h
    refine ⟨_, (pss_cons (ps_set (i := 2) sc_trail.nd rfl (by first | exact Or.inl rfl | exact Or.inr rfl) (pe_lst (pa_cons (pe_tup (pa_cons pe_int (pa_cons pe_int pa_nil))) pa_nil)))
        (pss_cons (ps_for PassesOwn.never rfl (piL (K := K) rfl (pe_callH h_rooms_in_turn (by decide) hr rfl (pa_cons (pv 0) pa_nil))) (pg_name (i := 3) sc_trail.nd rfl (by first | exact Or.inl rfl | exact Or.inr rfl)) (pss_one (ps_if (pt_chain op_lt op_lt pe_int (pv 3) (pv 1)) (pss_one (ps_expr (pe_bm PySem.F.plainAttrs_list PySem.F.slot_list_append PySem.F.type_list_append mt_append (pv 2) (pa_cons (pe_tup (pa_cons (pe_op op_plusA (pv 3) pe_int) (pa_cons (pv 3) pa_nil))) pa_nil)))) pss_nil)))
        (pss_one (ps_ret (pv 2))))), ?_⟩
    walk_at "cx"
    walk_at "tyN"
    rename_i pt Z1 H1 n1 t1 f1
    refine t_lstM (l := [((1 : Int), (0 : Int))]) t1.zh (.cons (Ik.pair f1 (Ik.int 1) (Ik.int 0)) .nil) (by show 1 ≤ 100000; decide) fun p Z2 H2 n2 t2 lm2 => ?_
    walk_at "tyN"
    refine ⟨x, rfl, fun p3 H3 n3 e3 f3 => ?_⟩
    have np : p3 ≠ p := ne_alF n3 lm2.at_
    have t3 : T [] Z2 H2 Z2 H3 := T.ofEx e3 t2.zh
    have lm3 := lm2.tt t3 nm_nil
    have n20 : H p = none := t1.nn n2
    have T3 : T [] Z H Z2 H3 := (t1.step t2 mm_nil).step t3 mm_nil
    clear t1 t2 t3 lm2
    have et : trailOf ((turnsN x 60).take 0) r = [((1 : Int), (0 : Int))] := rfl
    walk_at "tyN"
    refine u_forL (fun i σ H' => ∃ x1 Z', σ = [some (.int x), some (.int r), some (.ref p), x1] ∧ T [] Z H Z' H' ∧ Lm Z' H' p (trailOf ((turnsN x 60).take i) r) ∧ H' p3 = some (.lst ((turnsN x 60).map V.int))) (sq_of f3) ⟨_, Z2, rfl, T3, lm3, f3⟩ (fun i σ H' _ hh => ?_) (fun i v σ H' hx hh => ?_) (fun σ H' hh => ?_)
    · obtain ⟨x1, Z4, _, _, _, f⟩ := hh
      exact sq_of f
    · obtain ⟨x1, Z4, rfl, t4, lm4, f4⟩ := hh
      obtain ⟨m, rfl, hm⟩ : ∃ m, v = .int m ∧ (turnsN x 60)[i]? = some m := by
        rw [List.getElem?_map] at hx
        cases e : (turnsN x 60)[i]? with
        | none => rw [e] at hx; cases hx
        | some m => rw [e] at hx; exact ⟨m, (Option.some.inj hx).symm, rfl⟩
      have et : (turnsN x 60).take (i + 1) = (turnsN x 60).take i ++ [m] := by rw [List.take_add_one, hm]; rfl
      rw [et, trailOf_snoc]
      have hlen : (trailOf ((turnsN x 60).take i) r).length ≤ 62 := by
        have l1 := turns_len x 60
        have l2 := List.length_filter_le (fun m => decide (0 < m ∧ m < r)) ((turnsN x 60).take i)
        have l3 : ((turnsN x 60).take i).length ≤ (turnsN x 60).length := by rw [List.length_take]; exact Nat.min_le_right _ _
        unfold trailOf
        rw [List.length_cons, List.length_map]
        omega
      have z4 := t4.zh
      walk_at "tys"
      refine i_d (fun hd => ?_) (fun hd => ?_)
      · walk_at "tys"
        refine i_d (fun hd2 => ?_) (fun hd2 => ?_)
        · rw [if_pos ⟨hd, hd2⟩]
          walk_at "tys"
          rename_i p5 Z5 H5 n5 t5 f5 Z6 H6 t6 lm6
          exact ⟨_, Z6, rfl, (t4.step t5 mm_nil).step t6 (mm_1 (.inr n20)), lm6, t6.hp (nm_cons np nm_nil) (t5.hp nm_nil f4)⟩
        · rw [if_neg (fun z => hd2 z.2)]
          walk_at "tys"
          exact ⟨_, Z4, rfl, t4, lm4, f4⟩
      · rw [if_neg (fun z => hd z.1)]
        walk_at "tys"
        exact ⟨_, Z4, rfl, t4, lm4, f4⟩
    · obtain ⟨x1, Z4, rfl, t4, lm4, f4⟩ := hh
      rw [List.length_map, List.take_length, ← byBits_eq] at lm4
      obtain ⟨Z5, t5, ls5⟩ := lm_fin t4 n20 lm4
      walk_at "tys"
      exact q p Z5 H' t5 ls5

/-! ### _law_draw -/
noncomputable abbrev sp_law_draw (K : PySem.W.Frag) : Sp := spDraw K
theorem has_law_draw (z : Z K mg) (F : FunAt K mg "_law_draw" s_law_draw ["_law_hand", "_law_many"])  : Has P w K mg base "_law_draw" 1 (sp_law_draw K) := by
  refine has_of F sc_law_draw (fun vs H Q E h => ?_) (fun f cdv A outer s H vs Q E hr h => ?_)
  · obtain ⟨a, m, n, Z, rfl, _⟩ := h
    rfl
  · obtain ⟨a, m, n, Z, rfl, ⟨d, k, c, cells, h1, h3, h4, h5, z1, z2, z3⟩, hm0, hm1, q⟩ := h
    refine ⟨_, (pss_cons (ps_if (pt_cmpR op_gt (pe_ix (ixA (K := K) rfl) (pv 0) pe_int (fun _ _ => rfl)) pe_int (nomark _)) (pss_cons (ps_set (i := 2) sc_law_draw.nd rfl (by first | exact Or.inl rfl | exact Or.inr rfl) (pe_op op_mod (pe_ix (ixA (K := K) rfl) (pv 0) pe_int (fun _ _ => rfl)) (pv 1)))
        (pss_cons (ps_asg (pe_op op_fdivW (pe_ix (ixA (K := K) rfl) (pv 0) pe_int (fun _ _ => rfl)) (pv 1)) (pg_sub (pv 0) pe_int set_list))
        (pss_one (ps_ret (pv 2))))) pss_nil)
        (pss_cons (ps_augS (pv 0) pe_int (getA (K := K) rfl) pe_int ip_add set_list)
        (pss_cons (ps_set (i := 3) sc_law_draw.nd rfl (by first | exact Or.inl rfl | exact Or.inr rfl) (pe_ix (ixA (K := K) rfl) (pv 0) pe_int (fun _ _ => rfl)))
        (pss_cons (ps_set (i := 4) sc_law_draw.nd rfl (by first | exact Or.inl rfl | exact Or.inr rfl) (pe_op op_mod (pe_op op_plusA (pe_op op_mod (pe_ix (ixA (K := K) rfl) (pe_ix (ixA (K := K) rfl) (pv 0) pe_int (fun _ _ => rfl)) (pe_op op_mod (pv 3) (pe_callB (id := "len") (lenA (K := K) rfl) (by rfl) z.b_len (by decide +kernel) (pa_cons (pe_ix (ixA (K := K) rfl) (pv 0) pe_int (fun _ _ => rfl)) pa_nil))) (fun _ _ => rfl)) pe_int) (pe_op op_multA pe_int (pv 3))) pe_int))
        (pss_cons (ps_set (i := 4) sc_law_draw.nd rfl (by first | exact Or.inl rfl | exact Or.inr rfl) (pe_op op_mod (pe_op op_plusA (pe_op op_plusA (pe_op op_pow (pv 4) pe_int) (pe_op op_multA (pe_op op_multA pe_int (pv 3)) (pv 3))) pe_int) pe_int))
        (pss_cons (ps_set (i := 4) sc_law_draw.nd rfl (by first | exact Or.inl rfl | exact Or.inr rfl) (pe_op op_mod (pe_op op_plusA (pe_op op_multA (pe_op op_pow (pv 4) pe_int) (pe_op op_plusA (pe_op op_multA pe_int (pv 3)) pe_int)) pe_int) pe_int))
        (pss_one (ps_ret (pe_op op_mod (pe_op op_fdivW (pe_op op_mod (pe_op op_multA (pv 4) pe_int) pe_int) pe_int) (pv 1)))))))))), ?_⟩
    walk_at "cx"
    walk_at "ss"
    refine i_d (fun hd => ?_) (fun hd => ?_)
    · walk_at "ss"
      rename_i G e1 e2
      exact q _ G (Int.emod_nonneg _ (by omega)) (Int.emod_lt_of_pos _ hm0) e1 ⟨_, k, c, cells, e2, h3, h4, by omega, z1.exm z2 e1, z2, z3⟩
    · walk_at "ss"
      rename_i G e1 e2 _ _ v hv _ _ _ _ _ _ _ _ _ _ b1 b2
      exact q _ G b1 b2 e1 ⟨d, k + 1, c, cells, e2, h3, by omega, by omega, z1.exm z2 e1, z2, z3⟩

/-! ### _law_far -/
noncomputable abbrev sp_law_far (K : PySem.W.Frag) : Sp := spFar K
theorem has_law_far (z : Z K mg) (F : FunAt K mg "_law_far" s_law_far ["_law_hand", "_law_many"]) (h_law_draw : Has P w K mg base "_law_draw" 1 (sp_law_draw K)) : Has P w K mg base "_law_far" 2 (sp_law_far K) := by
  refine has_of F sc_law_far (fun vs H Q E h => ?_) (fun f cdv A outer s H vs Q E hr h => ?_)
  · obtain ⟨a, m, n, Z, rfl, _⟩ := h
    rfl
  · obtain ⟨a, m, n, Z, rfl, hh, h0, h1, q⟩ := h
    obtain ⟨d, k, c, cells, g1, g3, g4, g5, z1, z2, z3⟩ := id hh
    refine ⟨_, (pss_cons (ps_if (pt_cmpR op_gt (pe_ix (ixA (K := K) rfl) (pv 0) pe_int (fun _ _ => rfl)) pe_int (nomark _)) (pss_one (ps_ret (pe_callH h_law_draw (by decide) hr rfl (pa_cons (pv 0) (pa_cons (pv 1) pa_nil))))) pss_nil)
        (pss_cons (ps_set (i := 2) sc_law_far.nd rfl (by first | exact Or.inl rfl | exact Or.inr rfl) pe_int)
        (pss_cons (ps_for PassesOwn.never rfl (pi_range1 (by rfl) z.b_range (pa_cons pe_int pa_nil)) (pg_name (i := 3) sc_law_far.nd rfl (by first | exact Or.inl rfl | exact Or.inr rfl)) (pss_one (ps_set (i := 2) sc_law_far.nd rfl (by first | exact Or.inl rfl | exact Or.inr rfl) (pe_op op_plusA (pe_op op_multA (pv 2) (pe_op op_pow pe_int pe_int)) (pe_callH h_law_draw (by decide) hr rfl (pa_cons (pv 0) (pa_cons (pe_op op_pow pe_int pe_int) pa_nil)))))))
        (pss_one (ps_ret (pe_op op_mod (pv 2) (pv 1))))))), ?_⟩
    walk_at "cx"
    walk_at "ss"
    refine i_d (fun hd => ?_) (fun hd => ?_)
    · walk_at "ss"
      exact ⟨a, m, n, Z, rfl, hh.mono (by omega), h0, h1, q⟩
    · walk_at "ss"
      refine u_forR1 (fun i σ H' => ∃ x y, σ = [some (.ref a), some (.int m), some (.int x), y] ∧ ExM a H H' ∧ Hand K Z H' a (n + (7 - i))) (by decide) ⟨_, _, rfl, ExM.refl _, hh⟩ (fun i σ H' hi hw => ?_) (fun σ H' hw => ?_)
      · obtain ⟨x, y, rfl, e, hw⟩ := hw
        have hw' : Hand K Z H' a (n + (7 - (i + 1)) + 1) := hw.mono (by omega)
        walk_at "ss"
        refine ⟨a, _, _, _, rfl, hw', by decide, by decide, fun r H2 r0 r1 m2 hh2 => ?_⟩
        walk_at "ss"
        exact ⟨_, _, rfl, e.trans m2, hh2⟩
      · obtain ⟨x, y, rfl, e, hw⟩ := hw
        walk_at "ss"
        exact q _ _ (by omega) (by omega) e (hw.mono (by omega))

/-! ### _law_power -/
noncomputable def sp_law_power (K : PySem.W.Frag) : Sp := fun vs H Q _ => ∃ n : Int, vs = [.int n] ∧ 0 ≤ n ∧ n ≤ 1000 ∧ Q (.int (2 ^ n.toNat)) H
theorem has_law_power (z : Z K mg) (F : FunAt K mg "_law_power" s_law_power ["_law_many"])  : Has P w K mg base "_law_power" 1 (sp_law_power K) := by
  refine has_of F sc_law_power (fun vs H Q E h => ?_) (fun f cdv A outer s H vs Q E hr h => ?_)
  · obtain ⟨n, rfl, _⟩ := h
    rfl
  · obtain ⟨n, rfl, h0, h1, q⟩ := h
    refine ⟨_, (pss_cons (ps_set (i := 1) sc_law_power.nd rfl (by first | exact Or.inl rfl | exact Or.inr rfl) pe_int)
        (pss_cons (ps_for PassesOwn.never rfl (pi_range1 (by rfl) z.b_range (pa_cons (pv 0) pa_nil)) (pg_name (i := 2) sc_law_power.nd rfl (by first | exact Or.inl rfl | exact Or.inr rfl)) (pss_one (ps_set (i := 1) sc_law_power.nd rfl (by first | exact Or.inl rfl | exact Or.inr rfl) (pe_op op_multA (pv 1) pe_int))))
        (pss_one (ps_ret (pv 1))))), ?_⟩
    walk_at "cx"
    walk_at "ss"
    refine u_forR1 (fun i σ H' => ∃ x, σ = [some (.int n), some (.int (2 ^ i)), x] ∧ H' = H) (by omega) ⟨_, rfl, rfl⟩ (fun i σ H' hi hh => ?_) (fun σ H' hh => ?_)
    · obtain ⟨x, rfl, rfl⟩ := hh
      walk_at "ss"
      exact ⟨_, by rw [Int.pow_succ]; rfl, rfl⟩
    · obtain ⟨x, rfl, rfl⟩ := hh
      walk_at "ss"
      exact q

/-! ### _law_key -/
noncomputable abbrev sp_law_key (K : PySem.W.Frag) : Sp := spKey K
theorem has_law_key (z : Z K mg) (F : FunAt K mg "_law_key" s_law_key ["_law_hand"]) (h_law_far : Has P w K mg base "_law_far" 2 (sp_law_far K)) (h_law_power : Has P w K mg base "_law_power" 1 (sp_law_power K)) (h_law_draw : Has P w K mg base "_law_draw" 1 (sp_law_draw K)) : Has P w K mg base "_law_key" 3 (sp_law_key K) := by
  refine has_of F sc_law_key (fun vs H Q E h => ?_) (fun f cdv A outer s H vs Q E hr h => ?_)
  · obtain ⟨a, n, Z, rfl, _⟩ := h
    rfl
  · obtain ⟨a, n, Z, rfl, hh, q⟩ := h
    refine ⟨_, (pss_cons (ps_set (i := 1) sc_law_key.nd rfl (by first | exact Or.inl rfl | exact Or.inr rfl) (pe_callH h_law_draw (by decide) hr rfl (pa_cons (pv 0) (pa_cons pe_int pa_nil))))
        (pss_cons (ps_set (i := 2) sc_law_key.nd rfl (by first | exact Or.inl rfl | exact Or.inr rfl) (pe_callH h_law_draw (by decide) hr rfl (pa_cons (pv 0) (pa_cons (pe_ix (ixA (K := K) rfl) (pe_lst (pa_cons pe_int (pa_cons pe_int (pa_cons pe_int pa_nil)))) (pe_callH h_law_draw (by decide) hr rfl (pa_cons (pv 0) (pa_cons pe_int pa_nil))) (fun _ _ => rfl)) pa_nil))))
        (pss_cons (ps_if (pt_cmpR op_lt (pv 1) pe_int (nomark _)) (pss_one (ps_ret (pv 2))) pss_nil)
        (pss_cons (ps_if (pt_cmpR (eqA (K := K) rfl hr.units) (pv 1) pe_int (nomark _)) (pss_one (ps_ret (pe_op op_sub (pe_op op_sub (pe_op op_pow pe_int pe_int) pe_int) (pv 2)))) pss_nil)
        (pss_cons (ps_if (pt_cmpR (eqA (K := K) rfl hr.units) (pv 1) pe_int (nomark _)) (pss_one (ps_ret (pe_op op_plusA (pv 2) (pe_callH h_law_power (by decide) hr rfl (pa_cons (pe_op op_plusA pe_int (pe_callH h_law_draw (by decide) hr rfl (pa_cons (pv 0) (pa_cons pe_int pa_nil)))) pa_nil))))) pss_nil)
        (pss_cons (ps_if (pt_cmpR (eqA (K := K) rfl hr.units) (pv 1) pe_int (nomark _)) (pss_one (ps_ret (pe_op op_plusA (pe_op op_mod (pv 2) pe_int) (pe_op op_multA pe_int (pe_callH h_law_far (by decide) hr rfl (pa_cons (pv 0) (pa_cons (pe_op op_pow pe_int pe_int) pa_nil))))))) pss_nil)
        (pss_one (ps_ret (pe_callH h_law_far (by decide) hr rfl (pa_cons (pv 0) (pa_cons (pe_op op_pow pe_int pe_int) pa_nil))))))))))), ?_⟩
    walk_at "cx"
    walk_at "ss"
    refine ⟨a, 7, _, _, rfl, hh, by walk_at "od", by walk_at "od", fun wy H1 wy0 wy1 m1 hh1 => ?_⟩
    walk_at "ss"
    rename_i p1 H2 n2 e2 f2
    refine ⟨a, 3, _, _, rfl, hh1.ex e2, by walk_at "od", by walk_at "od", fun x H3 x0 x1 m3 hh3 => ?_⟩
    walk_at "ss"
    rename_i b hb
    have hb2 : 0 < b ∧ b ≤ 200 := by omega
    refine ⟨a, b, _, _, rfl, hh3, by walk_at "od", by walk_at "od", fun lo H4 lo0 lo1 m4 hh4 => ?_⟩
    have M : ExM a H H4 := ((m1.trans e2.toM).trans m3).trans m4
    walk_at "ss"
    refine i_d (fun hd => ?_) (fun hd => ?_)
    · walk_at "ss"
      exact q _ _ lo0 (by omega) M (hh4.mono (by omega))
    walk_at "ss"
    refine i_d (fun hd => ?_) (fun hd => ?_)
    · walk_at "ss"
      exact q _ _ (by omega) (by omega) M (hh4.mono (by omega))
    walk_at "ss"
    refine i_d (fun hd => ?_) (fun hd => ?_)
    · walk_at "ss"
      refine ⟨a, 52, _, _, rfl, hh4, by walk_at "od", by walk_at "od", fun y H5 y0 y1 m5 hh5 => ?_⟩
      walk_at "ss"
      refine ⟨_, rfl, by omega, by omega, ?_⟩
      have hp := two_pos (8 + y).toNat
      have hp2 := two_mono (show (8 + y).toNat ≤ 59 by omega)
      have e59 : (2 : Int) ^ 59 = 576460752303423488 := by decide
      walk_at "ss"
      exact q _ _ (by omega) (by omega) (M.trans m5) (hh5.mono (by omega))
    walk_at "ss"
    refine i_d (fun hd => ?_) (fun hd => ?_)
    · walk_at "ss"
      refine ⟨a, _, _, _, rfl, hh4.mono (m := n + 7) (by omega), by decide, by decide, fun y H5 y0 y1 m5 hh5 => ?_⟩
      walk_at "ss"
      exact q _ _ (by omega) (by omega) (M.trans m5) (hh5.mono (by omega))
    · walk_at "ss"
      refine ⟨a, _, _, _, rfl, hh4.mono (m := n + 7) (by omega), by decide, by decide, fun y H5 y0 y1 m5 hh5 => ?_⟩
      walk_at "ss"
      exact q _ _ (by omega) (by omega) (M.trans m5) (hh5.mono (by omega))

/-! ### _law_lines -/
noncomputable def sp_law_lines (K : PySem.W.Frag) : Sp := fun vs H Q _ => ∃ (h : Addr) (n : Nat) (Z : Hp), vs = [.ref h] ∧ Hand K Z H h (n + 100) ∧
  ∀ p us ps Z' H', TR.T [h] Z H Z' H' → Hand K Z' H' h n → Z' p = some (.lst us) → PairsAt Z' us ps → (∀ q ∈ ps, LineQ q) → us.length ≤ 10 → Q (.ref p) H'
noncomputable def RawL (Z H : Hp) (p : Addr) (vs : List V) : Prop := H p = some (.lst vs) ∧ Z p = none
theorem RawL.tt {Z H Z' H' : Hp} {p : Addr} {vs : List V} {M : List Addr} (r : RawL Z H p vs) (t : TR.T M Z H Z' H') (n : p ∉ M) : RawL Z' H' p vs := ⟨t.hp n r.1, t.fr p n r.2 ⟨_, r.1⟩⟩
theorem RawL.fz {Z H : Hp} {p : Addr} {vs : List V} (r : RawL Z H p vs) (z : Ex Z H) : ∃ Z', TR.T [p] Z H Z' H ∧ Z' p = some (.lst vs) := ⟨_, T.fz z r.2 r.1, upd_same⟩
theorem stay_key {K : PySem.W.Frag} {Z H : Hp} {x m : Int} {C : VK} {σ : L2.St} (z : Ex Z H) (k0 : 0 ≤ x) (k1 : x < 1152921504606846976) (m0 : 0 ≤ m) (m1 : m < 1152921504606846976) (q : ∀ Z' H', TR.T [] Z H Z' H' → C (.str (stayA x m)) H') : sp_stay K [.int x, .int m] H (fun v H1 => tNil σ H1 fun xs H2 => sp_law_stay_text K (v :: xs) H2 C E0) E0 := by
  refine ⟨x, m, rfl, fun hn H1 e1 => ?_, fun hm p H1 n1 e1 f1 => ?_⟩
  · have t1 : TR.T [] Z H Z H1 := T.ofEx e1 z
    have ey : stayA x m = "never" := if_neg hn
    rw [ey] at q
    exact ⟨.non, Z, rfl, t1.zh, .inl ⟨rfl, q Z H1 t1⟩⟩
  · have t1 : TR.T [] Z H Z H1 := T.ofEx e1 z
    have ey : stayA x m = stayS (m + 1) (nxt (turnsN x 60) m) := if_pos hm
    rw [ey] at q
    exact ⟨.ref p, Z, rfl, t1.zh, .inr ⟨p, m + 1, nxt (turnsN x 60) m, rfl, st_of f1, by omega, by omega, fun u hu => nxt_room k0 k1 hu, fun Z2 H2 t2 => q Z2 H2 (t1.step t2 mm_nil)⟩⟩
theorem has_law_lines (z : Z K mg) (F : FunAt K mg "_law_lines" s_law_lines ["_law_hand"]) (h_parted : Has P w K mg base "parted" 1 (sp_parted K)) (h_law_stay_text : Has P w K mg base "_law_stay_text" 1 (sp_law_stay_text K)) (h_stay : Has P w K mg base "stay" 2 (sp_stay K)) (h_room_of : Has P w K mg base "room_of" 2 (sp_room_of K)) (h_trail : Has P w K mg base "trail" 2 (sp_trail K)) (h_law_far : Has P w K mg base "_law_far" 2 (sp_law_far K)) (h_law_power : Has P w K mg base "_law_power" 1 (sp_law_power K)) (h_law_draw : Has P w K mg base "_law_draw" 1 (sp_law_draw K)) (h_law_key : Has P w K mg base "_law_key" 3 (sp_law_key K)) : Has P w K mg base "_law_lines" 4 (sp_law_lines K) := by
  refine has_of F sc_law_lines (fun vs H Q E h => ?_) (fun f cdv A outer s H vs Q E hr h => ?_)
  · obtain ⟨_, _, _, rfl, _⟩ := h
    rfl
  · obtain ⟨h, n, Z, rfl, hh, q⟩ := h
    refine ⟨_, (pss_cons (ps_set (i := 1) sc_law_lines.nd rfl (by first | exact Or.inl rfl | exact Or.inr rfl) (pe_callH h_law_draw (by decide) hr rfl (pa_cons (pv 0) (pa_cons pe_int pa_nil))))
        (pss_cons (ps_set (i := 2) sc_law_lines.nd rfl (by first | exact Or.inl rfl | exact Or.inr rfl) (pe_callH h_law_key (by decide) hr rfl (pa_cons (pv 0) pa_nil)))
        (pss_cons (ps_set (i := 3) sc_law_lines.nd rfl (by first | exact Or.inl rfl | exact Or.inr rfl) (pe_ix (ixA (K := K) rfl) (pe_lst (pa_cons (pe_callH h_law_key (by decide) hr rfl (pa_cons (pv 0) pa_nil)) (pa_cons (pv 2) pa_nil))) (pe_callTy (T := "int") call_int1A (by rfl) z.b_int (by decide +kernel) (pa_cons (pe_cmpR (eqA (K := K) rfl hr.units) (pe_callH h_law_draw (by decide) hr rfl (pa_cons (pv 0) (pa_cons pe_int pa_nil))) pe_int (nomark _)) pa_nil)) (fun _ _ => rfl)))
        (pss_cons (ps_set (i := 4) sc_law_lines.nd rfl (by first | exact Or.inl rfl | exact Or.inr rfl) (pe_op op_plusA pe_int (pe_ix (ixA (K := K) rfl) (pe_lst (pa_cons (pe_callH h_law_draw (by decide) hr rfl (pa_cons (pv 0) (pa_cons pe_int pa_nil))) (pa_cons (pe_callH h_law_far (by decide) hr rfl (pa_cons (pv 0) (pa_cons (pe_op op_pow pe_int pe_int) pa_nil))) (pa_cons (pe_callB (id := "min") (call_min2A rfl) (by rfl) z.b_min (by decide +kernel) (pa_cons (pe_op op_sub (pe_op op_pow pe_int pe_int) pe_int) (pa_cons (pv 2) pa_nil))) (pa_cons (pe_op op_sub (pe_callB (id := "max") (call_max2A rfl) (by rfl) z.b_max (by decide +kernel) (pa_cons pe_int (pa_cons (pv 2) pa_nil))) pe_int) pa_nil))))) (pv 1) (fun _ _ => rfl))))
        (pss_cons (ps_set (i := 5) sc_law_lines.nd rfl (by first | exact Or.inl rfl | exact Or.inr rfl) (pe_ix (ixA (K := K) rfl) (pe_lst (pa_cons (pe_op op_mod (pv 2) (pe_callH h_law_power (by decide) hr rfl (pa_cons (pe_callH h_law_draw (by decide) hr rfl (pa_cons (pv 0) (pa_cons pe_int pa_nil))) pa_nil))) (pa_cons (pe_callH h_law_far (by decide) hr rfl (pa_cons (pv 0) (pa_cons (pe_op op_pow pe_int pe_int) pa_nil))) (pa_cons pe_int (pa_cons (pe_op op_sub (pe_callB (id := "max") (call_max2A rfl) (by rfl) z.b_max (by decide +kernel) (pa_cons pe_int (pa_cons (pv 2) pa_nil))) pe_int) pa_nil))))) (pe_callH h_law_draw (by decide) hr rfl (pa_cons (pv 0) (pa_cons pe_int pa_nil))) (fun _ _ => rfl)))
        (pss_cons (ps_setLc (i := 6) (own := [("_law_many", 9), ("_law_at", 10)]) (g := gTup K 2 (gCons (gName 9) (gCons (gName 10) gNil))) (tt := tYes) rfl sc_law_lines.nd rfl rfl (sw_true rfl rfl rfl (by decide +kernel)) (piL (K := K) rfl (pe_callH h_trail (by decide) hr rfl (pa_cons (pv 2) (pa_cons (pv 4) pa_nil)))) (blkOk_by (own := [("_law_many", 9), ("_law_at", 10)]) (N := ["_law_hand", "_law_way", "_law_key_here", "_law_other", "_law_rooms", "_law_room", "_law_some", "_law_lines_here", "_law_due", "_law_many", "_law_at"]) (sc := defScope s_law_lines) (by decide +kernel)) (fun _ _ _ _ _ => (pg_tup rfl (pgs_cons (pg_name (i := 9) sc_law_lines.nd rfl (by first | exact Or.inl rfl | exact Or.inr rfl)) (pgs_cons (pg_name (i := 10) sc_law_lines.nd rfl (by first | exact Or.inl rfl | exact Or.inr rfl)) pgs_nil)))) (fun _ _ _ _ _ => pts_nil) (fun _ _ _ _ _ => (pe_tup (pa_cons (pv 9) (pa_cons (pv 10) pa_nil)))))
        (pss_cons (ps_set (i := 7) sc_law_lines.nd rfl (by first | exact Or.inl rfl | exact Or.inr rfl) (pe_lst (pa_cons (pe_tup (pa_cons (pe_op op_plusA (pe_op op_plusA (pe_op op_plusA pe_str (pe_callTy (T := "str") strIA (by rfl) z.b_str (by decide +kernel) (pa_cons (pv 2) pa_nil))) pe_str) (pe_callTy (T := "str") strIA (by rfl) z.b_str (by decide +kernel) (pa_cons (pv 4) pa_nil))) (pa_cons (pe_callTy (T := "str") strIA (by rfl) z.b_str (by decide +kernel) (pa_cons (pe_callH h_room_of (by decide) hr rfl (pa_cons (pv 2) (pa_cons (pv 4) pa_nil))) pa_nil)) pa_nil))) pa_nil)))
        (pss_cons (ps_expr (pe_bm PySem.F.plainAttrs_list PySem.F.slot_list_append PySem.F.type_list_append mt_append (pv 7) (pa_cons (pe_tup (pa_cons (pe_op op_plusA (pe_op op_plusA (pe_op op_plusA pe_str (pe_callTy (T := "str") strIA (by rfl) z.b_str (by decide +kernel) (pa_cons (pv 2) pa_nil))) pe_str) (pe_callTy (T := "str") strIA (by rfl) z.b_str (by decide +kernel) (pa_cons (pv 4) pa_nil))) (pa_cons (pe_joinK (K := K) rfl (pe_join pe_str (pe_lc (own := [("_law_many", 9), ("_law_at", 10)]) (g := gTup K 2 (gCons (gName 9) (gCons (gName 10) gNil))) (tt := tYes) rfl sc_law_lines.nd (piL (K := K) rfl (pv 6)) (blkOk_by (own := [("_law_many", 9), ("_law_at", 10)]) (N := ["_law_hand", "_law_way", "_law_key_here", "_law_other", "_law_rooms", "_law_room", "_law_some", "_law_lines_here", "_law_due", "_law_many", "_law_at"]) (sc := defScope s_law_lines) (by decide +kernel)) (fun _ _ _ _ _ => (pg_tup rfl (pgs_cons (pg_name (i := 9) sc_law_lines.nd rfl (by first | exact Or.inl rfl | exact Or.inr rfl)) (pgs_cons (pg_name (i := 10) sc_law_lines.nd rfl (by first | exact Or.inl rfl | exact Or.inr rfl)) pgs_nil)))) (fun _ _ _ _ _ => pts_nil) (fun _ _ _ _ _ => (pe_op op_plusA (pe_op op_plusA (pe_callTy (T := "str") strIA (by rfl) z.b_str (by decide +kernel) (pa_cons (pv 9) pa_nil)) pe_str) (pe_callTy (T := "str") strIA (by rfl) z.b_str (by decide +kernel) (pa_cons (pv 10) pa_nil))))))) pa_nil))) pa_nil)))
        (pss_cons (ps_expr (pe_bm PySem.F.plainAttrs_list PySem.F.slot_list_append PySem.F.type_list_append mt_append (pv 7) (pa_cons (pe_tup (pa_cons (pe_op op_plusA (pe_op op_plusA (pe_op op_plusA pe_str (pe_callTy (T := "str") strIA (by rfl) z.b_str (by decide +kernel) (pa_cons (pv 2) pa_nil))) pe_str) (pe_callTy (T := "str") strIA (by rfl) z.b_str (by decide +kernel) (pa_cons (pv 5) pa_nil))) (pa_cons (pe_callH h_law_stay_text (by decide) hr rfl (pa_cons (pe_callH h_stay (by decide) hr rfl (pa_cons (pv 2) (pa_cons (pv 5) pa_nil))) pa_nil)) pa_nil))) pa_nil)))
        (pss_cons (ps_set (i := 8) sc_law_lines.nd rfl (by first | exact Or.inl rfl | exact Or.inr rfl) pe_str)
        (pss_cons (ps_if (pt_cmpR (neA (K := K) rfl hr.units) (pv 2) (pv 3) (nomark _)) (pss_one (ps_set (i := 8) sc_law_lines.nd rfl (by first | exact Or.inl rfl | exact Or.inr rfl) (pe_callTy (T := "str") strIA (by rfl) z.b_str (by decide +kernel) (pa_cons (pe_callH h_parted (by decide) hr rfl (pa_cons (pv 2) (pa_cons (pv 3) pa_nil))) pa_nil)))) pss_nil)
        (pss_one (ps_ret (pe_op op_plusA (pv 7) (pe_lst (pa_cons (pe_tup (pa_cons (pe_op op_plusA (pe_op op_plusA (pe_op op_plusA pe_str (pe_callTy (T := "str") strIA (by rfl) z.b_str (by decide +kernel) (pa_cons (pv 2) pa_nil))) pe_str) (pe_callTy (T := "str") strIA (by rfl) z.b_str (by decide +kernel) (pa_cons (pv 3) pa_nil))) (pa_cons (pv 8) pa_nil))) pa_nil)))))))))))))))), ?_⟩
    walk_at "cx"
    have z0 := hh.z
    walk_at "tys"
    rename_i way Z1 H1 y0 y1 t1 hh1 ky Z2 H2 k0 k1 t2 hh2 k2 Z3 H3 l0 l1 t3 hh3 pA Z4 H4 nA t4 fA rB Z5 H5 rB0 rB1 t5 hh5 ot hO rC Z6 H6 rC0 rC1 t6 hh6 fa Z7 H7 fa0 fa1 t7 hh7 pD Z8 H8 nD t8 fD vD hD rE Z9 H9 rE0 rE1 t9 hh9
    have T9 : TR.T [h] Z H Z9 H9 := (((((((((T.refl z0 : TR.T [h] Z H Z H).step t1 mm_same).step t2 mm_same).step t3 mm_same).step t4 mm_nil).step t5 mm_same).step t6 mm_same).step t7 mm_same).step t8 mm_nil).step t9 mm_same
    have hh9' : Hand K Z9 H9 h (n + 40) := hh9.mono (by omega)
    have hv : 0 ≤ vD ∧ vD < 1152921504606846976 := by omega
    have ho : 0 ≤ ot ∧ ot < 1152921504606846976 := by omega
    clear t1 t2 t3 t4 t5 t6 t7 t8 t9 hh1 hh2 hh3 hh5 hh6 hh7 hh9 fA fD
    have z9 := T9.zh
    refine ⟨rE, rfl, rE0, by omega, ?_⟩
    have mr := mod_room k0 k1 rE.toNat
    have tp := two_pos rE.toNat
    refine s_mod tp fun _ _ => ?_
    generalize ky % 2 ^ rE.toNat = rm0 at mr ⊢
    walk_at "tys"
    rename_i fb Za Ha fb0 fb1 ta hha pB Zb Hb nB tb fB rF Zc Hc rF0 rF1 tc hhc rm hR
    have hr : 0 ≤ rm ∧ rm < 1152921504606846976 := by omega
    have Tc : TR.T [h] Z H Zc Hc := ((T9.step ta mm_same).step tb mm_nil).step tc mm_same
    have hhc' : Hand K Zc Hc h n := hhc.mono (by omega)
    clear T9 ta tb tc hha hhc hh9' fB hR hD hO
    have zc := Tc.zh
    generalize er : 1 + vD = rooms
    have r0 : 1 ≤ rooms := by omega
    have r1 : rooms ≤ 1152921504606846976 := by omega
    walk_at "tys"
    refine ⟨ky, rooms, Zc, rfl, zc, fun pt Zd Hd td lsd => ?_⟩
    have zd := td.zh
    have bl := byBits_len ky rooms 60
    have bb := trail_room (r := rooms) k0 k1
    obtain ⟨bu, bf, bp⟩ := id lsd
    refine c_mapB (F := fun e : Int × Int => e) zd (zd _ _ bf) bp (by omega) (fun u e Ze He he hm te A hA => ?_) (fun pS Ze He nS te lmS => ?_)
    · obtain ⟨b, v1, v2, rfl, hb, i1, i2⟩ := (Ik.tt te he).pair_of
      have e1 := Ik.int_of i1
      have e2 := Ik.int_of i2
      subst e1 e2
      have ze := te.zh
      refine s_gt2 (st_of (ze _ _ hb)) ?_
      walk_at "tys"
      rename_i pq Zf Hf nf tf ff
      exact hA (.ref pq) Zf Hf tf (Ik.pair ff (Ik.int _) (Ik.int _))
    obtain ⟨Zf, tf, lsS⟩ := lm_fin te nS lmS
    have lsS : Ls Zf pS (byBits ky rooms 60) := by rw [List.map_id'] at lsS; exact lsS
    have Tf := (Tc.step td mm_nil).step tf mm_nil
    have hhf := (hhc'.tt td nm_nil).tt tf nm_nil
    clear Tc td te tf hhc' lsd bf bp lmS zd zc
    have zf := Tf.zh
    have lk := num_len k0 (by omega)
    have lr := num_len (i := rooms) (by omega) (by omega)
    have lm := num_len hr.1 (by omega)
    have lo := num_len ho.1 (by omega)
    have w1 : (" " : Str).length = 1 := rfl
    have w2 : ("where " : Str).length = 6 := rfl
    have w3 : ("trail " : Str).length = 6 := rfl
    have w4 : ("stay " : Str).length = 5 := rfl
    have w5 : ("parted " : Str).length = 7 := rfl
    walk_at "tyN"
    refine t_strI k0 (by omega) ?_
    walk_at "tyN"
    refine s_plusS (by (try simp only [len_app]); omega) ?_
    walk_at "tyN"
    refine s_plusS (by (try simp only [len_app]); omega) ?_
    walk_at "tyN"
    refine t_strI (by omega) (by omega) ?_
    walk_at "tyN"
    refine s_plusS (by (try simp only [len_app]); omega) ?_
    walk_at "tyN"
    refine ⟨ky, rooms, rfl, r0, ?_⟩
    have rr := roomOf_range (key := ky) r0
    walk_at "tyN"
    refine t_strI rr.1 (by omega) ?_
    walk_at "tyN"
    rename_i a1 Zg Hg ng tg fg
    have q1 : LineQ ("where " ++ numS ky ++ " " ++ numS rooms, numS (roomOf ky rooms)) := ⟨by simp only [len_app]; omega, asc_ok (num_asc rr.1), _, _, line_two (w := "where") (wb := "where ") (f := "kr") (c := 107) (d := 114) (by decide +kernel) (by decide +kernel) (by decide +kernel) (by decide +kernel) (by decide) (by decide) k0 (by omega) (by omega) (by omega) (decide_eq_true ⟨k0, k1⟩) (decide_eq_true ⟨r0, r1⟩), .where_ ky rooms k0 k1 r0 r1⟩
    refine t_newR tg.zh (by show 1 ≤ 100000; decide) fun pL Zh Hh nL th fL zL => ?_
    have rl : RawL Zh Hh pL [.ref a1] := ⟨fL, zL⟩
    have fg := th.z _ _ fg
    have nLh : Hg pL = none := nL
    have nL0 : H pL = none := Tf.nn (tg.nn nL)
    have npL : pL ≠ h := ne_alF nL (hhf.tt tg nm_nil).at
    have Th := (Tf.step tg mm_nil).step th mm_nil
    have hhh := (hhf.tt tg nm_nil).tt th nm_nil
    have lsS := (lsS.tt tg).tt th
    clear Tf tg th hhf fL zL nL
    have zh := Th.zh
    walk_at "tyN"
    refine s_tyL (sq_of rl.1) ?_
    walk_at "tyN"
    refine t_strI k0 (by omega) ?_
    walk_at "tyN"
    refine s_plusS (by (try simp only [len_app]); omega) ?_
    walk_at "tyN"
    refine s_plusS (by (try simp only [len_app]); omega) ?_
    walk_at "tyN"
    refine t_strI (by omega) (by omega) ?_
    walk_at "tyN"
    refine s_plusS (by (try simp only [len_app]); omega) ?_
    walk_at "tyN"
    try (refine s_m1 ?_)
    walk_at "tyN"
    try (refine n_m1 ?_)
    walk_at "tyN"
    refine c_mapS trailS zh lsS.is (by omega) (fun u e Zi Hi he hu ti A hA => ?_) (fun D Zi Hi nD ti fD => ?_)
    · obtain ⟨b, v1, v2, rfl, hb, i1, i2⟩ := (Ik.tt ti hu).pair_of
      have e1 := Ik.int_of i1
      have e2 := Ik.int_of i2
      subst e1 e2
      obtain ⟨b0, b1, b2⟩ := bb e he
      have zi := ti.zh
      have sb := st_of (K := K) (zi _ _ hb)
      have l1 := num_len (i := e.1) (by omega) (by omega)
      have l2 := num_len (i := e.2) (by omega) (by omega)
      have l3 : (":" : Str).length = 1 := rfl
      refine s_gt2 sb ?_
      walk_at "tys"
      refine t_strI (by omega) (by omega) ?_
      walk_at "tys"
      refine s_plusS (by omega) ?_
      walk_at "tys"
      refine t_strI (by omega) (by omega) ?_
      refine s_plusS (by rw [len_app]; omega) ?_
      exact hA Zi Hi (T.refl zi)
    have sD := sq_of (K := K) (ti.zh _ _ fD)
    walk_at "tyN"
    have sz : (((byBits ky rooms 60).map trailS).map (·.length)).sum ≤ (byBits ky rooms 60).length * 130 := sum_le (fun x hx => by
      obtain ⟨e, he, rfl⟩ := List.mem_map.mp hx
      obtain ⟨b0, b1, b2⟩ := bb e he
      have l1 := num_len (i := e.1) (by omega) (by omega)
      have l2 := num_len (i := e.2) (by omega) (by omega)
      have l3 : (":" : Str).length = 1 := rfl
      unfold trailS
      rw [len_app, len_app]
      omega) (by rw [List.length_map])
    refine t_join sD (by rw [List.length_map]; show _ + _ * 1 ≤ _; omega) ?_
    have q2 : LineQ ("trail " ++ numS ky ++ " " ++ numS rooms, Txt.join " " ((byBits ky rooms 60).map trailS)) := ⟨by simp only [len_app]; omega, trail_ok k0 k1, _, _, line_two (w := "trail") (wb := "trail ") (f := "kr") (c := 107) (d := 114) (by decide +kernel) (by decide +kernel) (by decide +kernel) (by decide +kernel) (by decide) (by decide) k0 (by omega) (by omega) (by omega) (decide_eq_true ⟨k0, k1⟩) (decide_eq_true ⟨r0, r1⟩), .trail ky rooms k0 k1 r0 r1⟩
    generalize Txt.join " " ((byBits ky rooms 60).map trailS) = tr at q2 ⊢
    have rl := rl.tt ti nm_nil
    have zi := ti.zh
    walk_at "tyN"
    rename_i a2 Zj Hj nj tj fj
    have rl := rl.tt tj nm_nil
    refine t_appR tj.zh rl.1 rl.2 (by show 1 < 100000; decide) fun Zk Hk tk fk zk => ?_
    have rl : RawL Zk Hk pL [.ref a1, .ref a2] := ⟨fk, zk⟩
    have fg := tk.z _ _ (tj.z _ _ (ti.z _ _ fg))
    have fj := tk.z _ _ fj
    have Tk := ((Th.step ti mm_nil).step tj mm_nil).step tk (mm_1 (.inr nL0))
    have hhk := ((hhh.tt ti nm_nil).tt tj nm_nil).tt tk (nm_cons npL.symm nm_nil)
    clear Th ti tj tk hhh fk zk fD lsS sz sD zh zi
    have zk := Tk.zh
    walk_at "tyN"
    refine s_tyL (sq_of rl.1) ?_
    walk_at "tyN"
    refine t_strI k0 (by omega) ?_
    walk_at "tyN"
    refine s_plusS (by (try simp only [len_app]); omega) ?_
    walk_at "tyN"
    refine s_plusS (by (try simp only [len_app]); omega) ?_
    walk_at "tyN"
    refine t_strI hr.1 (by omega) ?_
    walk_at "tyN"
    refine s_plusS (by (try simp only [len_app]); omega) ?_
    walk_at "tyN"
    refine stay_key zk k0 k1 hr.1 hr.2 fun Zl Hl tl => ?_
    have zl := tl.zh
    have q3 : LineQ ("stay " ++ numS ky ++ " " ++ numS rm, stayA ky rm) := ⟨by simp only [len_app]; omega, stay_ok k0 k1 hr.1, _, _, line_two (w := "stay") (wb := "stay ") (f := "kh") (c := 107) (d := 104) (by decide +kernel) (by decide +kernel) (by decide +kernel) (by decide +kernel) (by decide) (by decide) k0 (by omega) hr.1 (by omega) (decide_eq_true ⟨k0, k1⟩) (decide_eq_true hr), .stay ky rm k0 k1 hr.1 hr.2⟩
    generalize stayA ky rm = sy at q3 ⊢
    have rl := rl.tt tl nm_nil
    walk_at "tyN"
    rename_i a3 Zm Hm nm' tm fm
    have rl := rl.tt tm nm_nil
    refine t_appR tm.zh rl.1 rl.2 (by show 2 < 100000; decide) fun Zn Hn tn fn zn => ?_
    have rl : RawL Zn Hn pL [.ref a1, .ref a2, .ref a3] := ⟨fn, zn⟩
    have fg := tn.z _ _ (tm.z _ _ (tl.z _ _ fg))
    have fj := tn.z _ _ (tm.z _ _ (tl.z _ _ fj))
    have fm := tn.z _ _ fm
    obtain ⟨Zo, to, fo⟩ := rl.fz tn.zh
    have fg := to.z _ _ fg
    have fj := to.z _ _ fj
    have fm := to.z _ _ fm
    have To := (((Tk.step tl mm_nil).step tm mm_nil).step tn (mm_1 (.inr nL0))).step to (mm_1 (.inr nL0))
    have hho := (((hhk.tt tl nm_nil).tt tm nm_nil).tt tn (nm_cons npL.symm nm_nil)).tt to (nm_cons npL.symm nm_nil)
    clear Tk tl tm tn to hhk fn zn rl zk zl
    have zo := To.zh
    have pr : PairsAt Zo [.ref a1, .ref a2, .ref a3] [("where " ++ numS ky ++ " " ++ numS rooms, numS (roomOf ky rooms)), ("trail " ++ numS ky ++ " " ++ numS rooms, tr), ("stay " ++ numS ky ++ " " ++ numS rm, sy)] := .cons ⟨a1, rfl, fg⟩ (.cons ⟨a2, rfl, fj⟩ (.cons ⟨a3, rfl, fm⟩ .nil))
    walk_at "tyN"
    have last : ∀ (y : Str), LineQ ("parted " ++ numS ky ++ " " ++ numS ot, y) → ∀ q ∈ ([("where " ++ numS ky ++ " " ++ numS rooms, numS (roomOf ky rooms)), ("trail " ++ numS ky ++ " " ++ numS rooms, tr), ("stay " ++ numS ky ++ " " ++ numS rm, sy)] ++ [("parted " ++ numS ky ++ " " ++ numS ot, y)] : List (Str × Str)), LineQ q := fun y hy q hq => by
      simp only [List.mem_append, List.mem_cons, List.not_mem_nil, or_false] at hq
      rcases hq with (rfl | rfl | rfl) | rfl
      · exact q1
      · exact q2
      · exact q3
      · exact hy
    have len4 : ("parted " ++ numS ky ++ " " ++ numS ot : Str).length ≤ 16000 := by simp only [len_app]; omega
    have lp := line_two (w := "parted") (wb := "parted ") (f := "kk") (c := 107) (d := 107) (by decide +kernel) (by decide +kernel) (by decide +kernel) (by decide +kernel) (by decide) (by decide) k0 (by omega) ho.1 (by omega) (decide_eq_true ⟨k0, k1⟩) (decide_eq_true ho)
    refine i_d (fun ne => ?_) (fun eq => ?_)
    · walk_at "tyN"
      obtain ⟨d, dl, hd⟩ := dif_of 60 ky ot k0 (by have : (2 : Int) ^ 60 = 1152921504606846976 := by decide
                                                   omega) ho.1 (by have : (2 : Int) ^ 60 = 1152921504606846976 := by decide
                                                                   omega) ne
      obtain ⟨p0, p1⟩ := parted_room k0 k1 ho.1 ho.2 d
      refine ⟨ky, ot, d, rfl, hd, dl, ?_⟩
      walk_at "tyN"
      refine t_strI p0 (by omega) ?_
      walk_at "tyN"
      refine t_strI k0 (by omega) ?_
      walk_at "tyN"
      refine s_plusS (by (try simp only [len_app]); omega) ?_
      walk_at "tyN"
      refine s_plusS (by (try simp only [len_app]); omega) ?_
      walk_at "tyN"
      refine t_strI ho.1 (by omega) ?_
      walk_at "tyN"
      refine s_plusS (by (try simp only [len_app]); omega) ?_
      walk_at "tyN"
      rename_i a4 Zp Hp' np tp fp
      refine t_newW tp.zh (by show 1 ≤ 100000; decide) fun p5 Zq Hq nq tq fq => ?_
      refine t_catW tq.zh (tq.z _ _ (tp.z _ _ fo)) fq (by show 3 + 1 ≤ 16000000; decide) fun p6 Zr Hr nr tr' fr => ?_
      have hq4 : LineQ ("parted " ++ numS ky ++ " " ++ numS ot, numS (partedAt ky ot d)) := ⟨len4, asc_ok (num_asc p0), _, _, lp, .parted ky ot d k0 k1 ho.1 ho.2 ne hd dl⟩
      exact q p6 _ _ Zr Hr (((To.step tp mm_nil).step tq mm_nil).step tr' mm_nil) (((hho.tt tp nm_nil).tt tq nm_nil).tt tr' nm_nil) fr (((pr.ex ((tp.z.trans tq.z).trans tr'.z))).app (.one (tr'.z _ _ (tq.z _ _ fp)))) (last _ hq4) (by show 3 + 1 ≤ 10; decide)
    · have eq' : ky = ot := Decidable.not_not.mp eq
      walk_at "tyN"
      refine t_strI k0 (by omega) ?_
      walk_at "tyN"
      refine s_plusS (by (try simp only [len_app]); omega) ?_
      walk_at "tyN"
      refine s_plusS (by (try simp only [len_app]); omega) ?_
      walk_at "tyN"
      refine t_strI ho.1 (by omega) ?_
      walk_at "tyN"
      refine s_plusS (by (try simp only [len_app]); omega) ?_
      walk_at "tyN"
      rename_i a4 Zp Hp' np tp fp
      refine t_newW tp.zh (by show 1 ≤ 100000; decide) fun p5 Zq Hq nq tq fq => ?_
      refine t_catW tq.zh (tq.z _ _ (tp.z _ _ fo)) fq (by show 3 + 1 ≤ 16000000; decide) fun p6 Zr Hr nr tr' fr => ?_
      have hq4 : LineQ ("parted " ++ numS ky ++ " " ++ numS ot, "alike") := ⟨len4, (show PyData.strOk ("alike" : Str) = true by decide +kernel), _, _, lp, by rw [← eq']; exact .alike ky k0 k1⟩
      exact q p6 _ _ Zr Hr (((To.step tp mm_nil).step tq mm_nil).step tr' mm_nil) (((hho.tt tp nm_nil).tt tq nm_nil).tt tr' nm_nil) fr (((pr.ex ((tp.z.trans tq.z).trans tr'.z))).app (.one (tr'.z _ _ (tq.z _ _ fp)))) (last _ hq4) (by show 3 + 1 ≤ 10; decide)

/-! ### _law_open -/
noncomputable abbrev sp_law_open (K : PySem.W.Frag) : Sp := spOpen K
theorem has_law_open (z : Z K mg) (F : FunAt K mg "_law_open" s_law_open ["_law_script", "_law_place"])  : Has P w K mg base "_law_open" 1 (sp_law_open K) := by
  refine has_of F sc_law_open (fun vs H Q E h => ?_) (fun f cdv A outer s H vs Q E hr h => ?_)
  · obtain ⟨a, ns, x, rfl, _⟩ := h
    rfl
  · obtain ⟨a, ns, x, rfl, hS, h0, h1, q⟩ := h
    refine ⟨_, (pss_cons (ps_setLc (i := 2) (own := [("_law_cell", 5)]) (g := gName 5) (tt := tYes) rfl sc_law_open.nd rfl rfl (sw_true rfl rfl rfl (by decide +kernel)) (piL (K := K) rfl (pe_slice (slA (K := K) rfl) (pv 0) po_none (po_some pe_int))) (blkOk_by (own := [("_law_cell", 5)]) (N := ["_law_script", "_law_place", "_law_cells", "_law_at", "_law_digits", "_law_cell"]) (sc := defScope s_law_open) (by decide +kernel)) (fun _ _ _ _ _ => (pg_name (i := 5) sc_law_open.nd rfl (by first | exact Or.inl rfl | exact Or.inr rfl))) (fun _ _ _ _ _ => pts_nil) (fun _ _ _ _ _ => (pe_callB (id := "abs") call_absA (by rfl) z.b_abs (by decide +kernel) (pa_cons (pv 5) pa_nil))))
        (Evl.pss_cut (ps_if (pt_cmpR (eqA (K := K) rfl hr.units) (pv 2) (pe_lst pa_nil) (nomark _)) (pss_one (ps_set (i := 2) sc_law_open.nd rfl (by first | exact Or.inl rfl | exact Or.inr rfl) (pe_lst (pa_cons pe_int pa_nil)))) pss_nil)
        (pss_cons (ps_set (i := 3) sc_law_open.nd rfl (by first | exact Or.inl rfl | exact Or.inr rfl) (pe_op op_mod (pv 1) (pe_callB (id := "len") (lenA (K := K) rfl) (by rfl) z.b_len (by decide +kernel) (pa_cons (pv 2) pa_nil))))
        (pss_cons (ps_set (i := 4) sc_law_open.nd rfl (by first | exact Or.inl rfl | exact Or.inr rfl) pe_int)
        (Evl.pss_cut (ps_if (PW.pt (pw_and (pt_cmpR op_ge (pe_ix (ixA (K := K) rfl) (pv 2) (pv 3) (fun _ _ => rfl)) (pe_op op_pow pe_int pe_int) (nomark _)) (pw_and1 (pt_cmpR op_lt (pv 1) (pe_callB (id := "len") (lenA (K := K) rfl) (by rfl) z.b_len (by decide +kernel) (pa_cons (pv 2) pa_nil)) (nomark _))))) (pss_one (ps_set (i := 4) sc_law_open.nd rfl (by first | exact Or.inl rfl | exact Or.inr rfl) (pe_ix (ixA (K := K) rfl) (pv 2) (pv 3) (fun _ _ => rfl)))) pss_nil)
        (pss_one (ps_ret (pe_lst (pa_cons (pv 4) (pa_cons (pe_op op_plusA pe_int (pe_op op_multA pe_int (pv 1))) (pa_cons (pe_op op_plusA (pe_slice (slA (K := K) rfl) (pv 2) (po_some (pv 3)) po_none) (pe_slice (slA (K := K) rfl) (pv 2) po_none (po_some (pv 3)))) pa_nil))))))))))), ?_⟩
    walk_at "cx"
    walk_at "ss"
    rename_i p1 H1 n1 e1 f1
    obtain ⟨cs, hc, hl⟩ : ∃ cs : List Int, cutV (ns.map V.int) none (some 63) = cs.map V.int ∧ cs.length ≤ 63 := ⟨cutI ns none (some 63), cutV_ints _ _ _, by
      rw [cutI_to _ (by decide), List.length_take]
      exact Nat.min_le_left _ _⟩
    rw [hc] at f1
    refine u_mapL V.int cs (fun i => V.int (if i < 0 then -i else i)) (sq_of f1) (by omega) (fun i hi H2 e2 A ha => ?_) (fun D H2 n2 e2 f2 => ?_)
    · walk_at "ss"
      exact ha _ (Ex.refl _)
    · obtain ⟨xs, hx, hxl⟩ : ∃ xs : List Int, cs.map (fun i => V.int (if i < 0 then -i else i)) = xs.map V.int ∧ xs.length ≤ 63 := ⟨cs.map fun i => if i < 0 then -i else i, by rw [List.map_map]; rfl, by rw [List.length_map]; exact hl⟩
      rw [hx] at f2
      walk_at "ss"
      refine s_cut (fun σ' H' => ∃ (D : Addr) (ys : List Int), σ' = [some (.ref a), some (.int x), some (.ref D), none, none, none] ∧ Ex H H' ∧ H' D = some (.lst (ys.map V.int)) ∧ 0 < ys.length ∧ ys.length ≤ 63) ?_ ?_
      · walk_at "ss"
        refine i_d (fun hd => ?_) (fun hd => ?_)
        · walk_at "ss"
          rename_i G n3 e3 f3
          exact ⟨_, [0], rfl, by walk_at "ex", f3, by decide, by decide⟩
        · walk_at "ss"
          exact ⟨_, xs, rfl, by walk_at "ex", by walk_at "hp", List.length_pos_iff.mpr hd, hxl⟩
      · rintro σ' H3 ⟨D2, ys, rfl, e3, f3, hy, hy2⟩
        walk_at "ss"
        rename_i b1 b2
        refine s_cut (fun σ' H' => ∃ (d : Int), σ' = [some (.ref a), some (.int x), some (.ref D2), some (.int (x % ys.length)), some (.int d), none] ∧ H' = H3) ?_ ?_
        · walk_at "ss"
          refine i_d (fun hd => ?_) (fun hd => ?_)
          · walk_at "ss"
            refine i_d (fun hd => ?_) (fun hd => ?_)
            · walk_at "ss"
              exact ⟨_, rfl, rfl⟩
            · walk_at "ss"
              exact ⟨_, rfl, rfl⟩
          · walk_at "ss"
            exact ⟨_, rfl, rfl⟩
        · rintro σ' H4 ⟨d, rfl, rfl⟩
          walk_at "ss"
          rename_i p2 G2 n4 e4 f4 p3 G3 n5 e5 f5
          rw [cutV_ints, cutI_from _ b1] at f4
          rw [cutV_ints, cutI_to _ b1] at f5
          refine n_cat (by walk_at "hp") f5 ?_ fun p4 G4 n6 e6 f6 => ?_
          · rw [List.length_map, List.length_map, List.length_drop, List.length_take]
            omega
          · walk_at "ss"
            rename_i p5 G5 n7 e7 f7
            rw [← List.map_append] at f6
            have n0 : H p5 = none := Ex.back (by walk_at "ex") n7
            have n4' : H p4 = none := Ex.back (by walk_at "ex") n6
            exact q p5 p4 d _ G5 n0 n4' (fun z => by rw [z, f6] at n7; cases n7) (by walk_at "ex") f7 (e7 _ _ f6) (by rw [List.length_append, List.length_drop, List.length_take]; omega)

/-! ### _law_what -/
noncomputable def sp_law_what (K : PySem.W.Frag) : SpV := fun _ _ _ _ _ => False
theorem has_law_what (z : Z K mg) (F : FunAt K mg "_law_what" s_law_what ["_law_e"]) : HasV P w K mg base "_law_what" 1 (sp_law_what K) := by
  refine has_ofV F sc_law_what (fun f cdv A outer s H Q a oe cls d hr hz hf h => ?_)
  exact h.elim

/-! ### asked_answer -/
noncomputable def sp_asked_answer (K : PySem.W.Frag) : Sp := fun _ _ _ _ => False
theorem has_asked_answer (z : Z K mg) (F : FunAt K mg "asked_answer" s_asked_answer ["keeper", "word", "some"])  : Has P w K mg base "asked_answer" 1 (sp_asked_answer K) := by
  refine has_of F sc_asked_answer (fun vs H Q E h => ?_) (fun f cdv A outer s H vs Q E hr h => ?_)
  · exact h.elim
  · exact h.elim

/-! ### deed_answer -/
noncomputable def sp_deed_answer (K : PySem.W.Frag) : Sp := fun _ _ _ _ => False
theorem has_deed_answer (z : Z K mg) (F : FunAt K mg "deed_answer" s_deed_answer ["keeper", "word", "some"])  : Has P w K mg base "deed_answer" 1 (sp_deed_answer K) := by
  refine has_of F sc_deed_answer (fun vs H Q E h => ?_) (fun f cdv A outer s H vs Q E hr h => ?_)
  · exact h.elim
  · exact h.elim

/-! ### rows_for -/
noncomputable def sp_rows_for (K : PySem.W.Frag) : Sp := fun vs H Q _ => ∃ m w : Int, vs = [.int m, .int w] ∧ 0 < w ∧ w < 4611686018427387904 ∧ Q (.int (rowsI m w)) H
theorem has_rows_for (z : Z K mg) (F : FunAt K mg "rows_for" s_rows_for ["many", "wide"])  : Has P w K mg base "rows_for" 1 (sp_rows_for K) := by
  refine has_of F sc_rows_for (fun vs H Q E h => ?_) (fun f cdv A outer s H vs Q E hr h => ?_)
  · obtain ⟨m, w, rfl, _⟩ := h
    rfl
  · obtain ⟨m, w, rfl, w0, w1, q⟩ := h
    refine ⟨_, (pss_one (ps_ret (pe_callB (id := "max") (call_max2A rfl) (by rfl) z.b_max (by decide +kernel) (pa_cons pe_int (pa_cons (pe_op op_fdivW (pe_op op_sub (pe_op op_plusA (pv 0) (pv 1)) pe_int) (pv 1)) pa_nil))))), ?_⟩
    walk_at "cx"
    walk_at "ss"
    exact q

/-! ### spill -/
noncomputable def sp_spill (K : PySem.W.Frag) : Sp := fun vs H Q _ => ∃ (a : Addr) (ns : List Int) (w : Int), vs = [.ref a, .int w] ∧ SqL K H a (ns.map V.int) ∧ ns.length ≤ 40000 ∧ 0 < w ∧ w < 4611686018427387904 ∧ ∀ H', Ex H H' → Q (.int (spillI ns w)) H'
theorem has_spill (z : Z K mg) (F : FunAt K mg "spill" s_spill ["sizes", "wide"]) (h_rows_for : Has P w K mg base "rows_for" 1 (sp_rows_for K)) : Has P w K mg base "spill" 2 (sp_spill K) := by
  refine has_of F sc_spill (fun vs H Q E h => ?_) (fun f cdv A outer s H vs Q E hr h => ?_)
  · obtain ⟨a, ns, w, rfl, _⟩ := h
    rfl
  · obtain ⟨a, ns, w, rfl, hs, hl, w0, w1, q⟩ := h
    refine ⟨_, (pss_one (ps_ret (pe_callB (id := "sum") (sumA (K := K) rfl rfl) (by rfl) z.b_sum (by decide +kernel) (pa_cons (pe_lc (own := [("many", 2)]) (g := gName 2) (tt := tYes) rfl sc_spill.nd (piL (K := K) rfl (pv 0)) (blkOk_by (own := [("many", 2)]) (N := ["sizes", "wide", "many"]) (sc := defScope s_spill) (by decide +kernel)) (fun _ _ _ _ _ => (pg_name (i := 2) sc_spill.nd rfl (by first | exact Or.inl rfl | exact Or.inr rfl))) (fun _ _ _ _ _ => pts_nil) (fun _ _ _ _ _ => (pe_op op_sub (pe_callH h_rows_for (by decide) hr rfl (pa_cons (pv 2) (pa_cons (pv 1) pa_nil))) pe_int))) pa_nil)))), ?_⟩
    walk_at "cx"
    walk_at "ss"
    refine u_mapLI V.int ns (fun m => rowsI m w - 1) hs hl (fun m hm H1 e1 A hA => ?_) (fun D H1 n1 e1 f1 => ?_)
    · walk_at "ss"
      refine ⟨_, _, rfl, w0, w1, ?_⟩
      walk_at "ss"
      exact hA _ (Ex.refl _)
    · walk_at "ss"
      exact q _ e1

/-! ### spill_behind -/
noncomputable def sp_spill_behind (K : PySem.W.Frag) : Sp := fun vs H Q _ => ∃ (a b : Addr) (ms p : List Int) (w : Int), vs = [.ref a, .int w, .ref b] ∧ SqL K H a (ms.map V.int) ∧ SqL K H b (p.map V.int) ∧ p.length = ms.length ∧ ms.length ≤ 30000 ∧ 0 < w ∧ w ≤ 1000 ∧ ∀ H', Ex H H' → Q (.int (spillI (addI ms p) w)) H'
theorem has_spill_behind (z : Z K mg) (F : FunAt K mg "spill_behind" s_spill_behind ["sizes", "wide", "put"]) (h_spill : Has P w K mg base "spill" 2 (sp_spill K)) : Has P w K mg base "spill_behind" 3 (sp_spill_behind K) := by
  refine has_of F sc_spill_behind (fun vs H Q E h => ?_) (fun f cdv A outer s H vs Q E hr h => ?_)
  · obtain ⟨a, b, ms, p, w, rfl, _⟩ := h
    rfl
  · obtain ⟨a, b, ms, p, w, rfl, ha, hb, hl, hz, w0, w1, q⟩ := h
    refine ⟨_, (pss_one (ps_ret (pe_callH h_spill (by decide) hr rfl (pa_cons (pe_lc (own := [("many", 3), ("more", 4)]) (g := gTup K 2 (gCons (gName 3) (gCons (gName 4) gNil))) (tt := tYes) rfl sc_spill_behind.nd (pi_zip (by rfl) z.b_zip (pa_cons (pv 0) (pa_cons (pv 2) pa_nil))) (blkOk_by (own := [("many", 3), ("more", 4)]) (N := ["sizes", "wide", "put", "many", "more"]) (sc := defScope s_spill_behind) (by decide +kernel)) (fun _ _ _ _ _ => (pg_tup rfl (pgs_cons (pg_name (i := 3) sc_spill_behind.nd rfl (by first | exact Or.inl rfl | exact Or.inr rfl)) (pgs_cons (pg_name (i := 4) sc_spill_behind.nd rfl (by first | exact Or.inl rfl | exact Or.inr rfl)) pgs_nil)))) (fun _ _ _ _ _ => pts_nil) (fun _ _ _ _ _ => (pe_op op_plusA (pv 3) (pv 4)))) (pa_cons (pv 1) pa_nil))))), ?_⟩
    walk_at "cx"
    walk_at "ss"
    refine u_mapZI (fun x y => x + y) ha hb hl.symm (by omega) (fun x y hx hy T H1 e1 fT A hA => ?_) (fun D H1 n1 e1 f1 => ?_)
    · refine s_gt2 (st_of fT) ?_
      walk_at "ss"
      exact hA _ (Ex.refl _)
    walk_at "ss"
    refine ⟨D, addI ms p, w, rfl, sq_of f1, by rw [addI_len hl]; omega, w0, by omega, fun H2 e2 => ?_⟩
    exact q _ (e1.trans e2)

/-! ### free_of -/
noncomputable def sp_free_of (K : PySem.W.Frag) : Sp := fun vs H Q _ => ∃ m w : Int, vs = [.int m, .int w] ∧ 0 < w ∧ w ≤ 1000 ∧ Q (.int (freeI m w)) H
theorem has_free_of (z : Z K mg) (F : FunAt K mg "free_of" s_free_of ["many", "wide"]) (h_rows_for : Has P w K mg base "rows_for" 1 (sp_rows_for K)) : Has P w K mg base "free_of" 2 (sp_free_of K) := by
  refine has_of F sc_free_of (fun vs H Q E h => ?_) (fun f cdv A outer s H vs Q E hr h => ?_)
  · obtain ⟨m, w, rfl, _⟩ := h
    rfl
  · obtain ⟨m, w, rfl, w0, w1, q⟩ := h
    refine ⟨_, (pss_one (ps_ret (pe_op op_sub (pe_op op_multA (pv 1) (pe_callH h_rows_for (by decide) hr rfl (pa_cons (pv 0) (pa_cons (pv 1) pa_nil)))) (pv 0)))), ?_⟩
    walk_at "cx"
    walk_at "ss"
    refine ⟨_, _, rfl, w0, by omega, ?_⟩
    walk_at "ss"
    exact q

/-! ### least_spill -/
noncomputable def sp_least_spill (K : PySem.W.Frag) : Sp := fun vs H Q _ => ∃ (a : Addr) (ms : List Int) (w more : Int), vs = [.ref a, .int w, .int more] ∧ SqL K H a (ms.map V.int) ∧ ms ≠ [] ∧ (∀ m ∈ ms, 0 ≤ m) ∧ ms.length ≤ 30000 ∧ 0 < w ∧ w ≤ 1000 ∧ 0 ≤ more ∧
  ∀ (T P : Addr) (p : List Int) (H' : Hp), H P = none → H T = none → T ≠ P → Ex H H' → H' P = some (.lst (p.map V.int)) → H' T = some (.tup [.int (leastI ms w more), .ref P]) → Put ms p more → spillI (addI ms p) w = leastI ms w more → Q (.ref T) H'
theorem has_least_spill (z : Z K mg) (F : FunAt K mg "least_spill" s_least_spill ["sizes", "wide", "more"]) (h_spill_behind : Has P w K mg base "spill_behind" 3 (sp_spill_behind K)) (h_free_of : Has P w K mg base "free_of" 2 (sp_free_of K)) : Has P w K mg base "least_spill" 4 (sp_least_spill K) := by
  refine has_of F sc_least_spill (fun vs H Q E h => ?_) (fun f cdv A outer s H vs Q E hr h => ?_)
  · obtain ⟨a, ms, w, more, rfl, _⟩ := h
    rfl
  · obtain ⟨a, ms, w, more, rfl, ha, hn, hm, hl, w0, w1, m0, q⟩ := h
    refine ⟨_, (pss_cons (ps_set (i := 3) sc_least_spill.nd rfl (by first | exact Or.inl rfl | exact Or.inr rfl) (pe_lst pa_nil))
        (pss_cons (ps_set (i := 4) sc_least_spill.nd rfl (by first | exact Or.inl rfl | exact Or.inr rfl) (pv 2))
        (pss_cons (ps_for PassesOwn.never rfl (piL (K := K) rfl (pv 0)) (pg_name (i := 5) sc_least_spill.nd rfl (by first | exact Or.inl rfl | exact Or.inr rfl)) (pss_cons (ps_expr (pe_bm PySem.F.plainAttrs_list PySem.F.slot_list_append PySem.F.type_list_append mt_append (pv 3) (pa_cons (pe_callB (id := "min") (call_min2A rfl) (by rfl) z.b_min (by decide +kernel) (pa_cons (pv 4) (pa_cons (pe_callH h_free_of (by decide) hr rfl (pa_cons (pv 5) (pa_cons (pv 1) pa_nil))) pa_nil))) pa_nil)))
        (pss_one (ps_set (i := 4) sc_least_spill.nd rfl (by first | exact Or.inl rfl | exact Or.inr rfl) (pe_op op_sub (pv 4) (pe_ix (ixA (K := K) rfl) (pv 3) (pe_un un_neg pe_int) (fun _ _ => rfl)))))))
        (pss_cons (ps_asg (pe_op op_plusA (pe_ix (ixA (K := K) rfl) (pv 3) pe_int (fun _ _ => rfl)) (pv 4)) (pg_sub (pv 3) pe_int set_list))
        (pss_one (ps_ret (pe_tup (pa_cons (pe_callH h_spill_behind (by decide) hr rfl (pa_cons (pv 0) (pa_cons (pv 1) (pa_cons (pv 3) pa_nil)))) (pa_cons (pv 3) pa_nil))))))))), ?_⟩
    walk_at "cx"
    walk_at "ss"
    rename_i p1 H1 n1 e1 f1
    have s1 := e1.sq ha
    obtain ⟨g1, g2⟩ := leastPut_facts w0 m0 hm hn
    refine u_forL (fun j σ H' => ∃ x1, σ = [some (.ref a), some (.int w), some (.int more), some (.ref p1), some (.int (leastSt (ms.take j) w more).2), x1] ∧ Ex H H' ∧ H' p1 = some (.lst ((leastSt (ms.take j) w more).1.map V.int)) ∧ (leastSt (ms.take j) w more).1.length = j) s1 ⟨_, rfl, e1, f1, rfl⟩ (fun j σ H' _ hh => ?_) (fun j v σ H' hx hh => ?_) (fun σ H' hh => ?_)
    · obtain ⟨_, _, e, _⟩ := hh
      exact e.sq ha
    · obtain ⟨x1, rfl, e2, f2, l2⟩ := hh
      obtain ⟨m, rfl, hk⟩ := at_ints hx
      have jl := (List.getElem?_eq_some_iff.mp hk).1
      have st : leastSt (ms.take (j + 1)) w more = leastF w (leastSt (ms.take j) w more) m := by
        unfold leastSt
        rw [List.take_add_one, hk]
        show List.foldl _ _ (ms.take j ++ [m]) = _
        rw [List.foldl_append]
        rfl
      generalize leastSt (ms.take j) w more = S at *
      walk_at "ss"
      refine ⟨m, w, rfl, w0, w1, ?_⟩
      walk_at "ss"
      refine n_app f2 (by rw [List.length_map]; omega) fun H3 m3 f3 => ?_
      rw [show S.1.map V.int ++ [V.int (min S.2 (freeI m w))] = (S.1 ++ [min S.2 (freeI m w)]).map V.int by rw [List.map_append]; rfl] at f3
      walk_at "ss"
      refine s_ixL (sq_of f3) (v := .int (min S.2 (freeI m w))) ?_ ?_
      · rw [List.map_append]
        exact atI_last _ _
      walk_at "ss"
      rw [st]
      exact ⟨_, rfl, e2.exm n1 m3, f3, by show (S.1 ++ [_]).length = _; rw [List.length_append, l2]; rfl⟩
    · obtain ⟨x1, rfl, e2, f2, l2⟩ := hh
      rw [List.length_map, List.take_length] at f2 l2
      have lp := List.length_pos_iff.mpr hn
      rw [List.length_map, List.take_length]
      have ep : leastPut ms w more = (leastSt ms w more).1.set 0 ((leastSt ms w more).1.getD 0 0 + (leastSt ms w more).2) := rfl
      generalize leastSt ms w more = S at *
      have hv : S.1[0]? = some (S.1.getD 0 0) := by
        rw [List.getD_eq_getElem?_getD, List.getElem?_eq_getElem (by omega)]
        rfl
      walk_at "ss"
      rename_i v hv2
      have ev : v = S.1.getD 0 0 := by
        have : S.1[0]? = some v := hv2
        rw [hv] at this
        exact (Option.some.inj this).symm
      refine n_setL (j := 0) f2 (ixN_lt (by decide) (by rw [List.length_map]; omega)) fun H3 m3 f3 => ?_
      have f3 : H3 p1 = some (.lst ((leastPut ms w more).map V.int)) := by
        rw [f3, ep, ev, List.map_set]
      have e3 := e2.exm n1 m3
      walk_at "ss"
      refine ⟨a, p1, ms, _, w, rfl, e3.sq ha, sq_of f3, g1.1, hl, w0, w1, fun H4 e4 => ?_⟩
      walk_at "ss"
      rename_i p5 H5 n5 e5 f5
      rw [g2] at f5
      have e45 := e4.trans e5
      exact q p5 p1 _ H5 n1 (Ex.back e3 (Ex.back e4 n5)) (ne_of_none (e4 _ _ f3) n5).symm (e3.trans e45) (e45 _ _ f3) f5 g1 g2

/-! ### needs_of -/
noncomputable def sp_needs_of (K : PySem.W.Frag) : Sp := fun vs H Q _ => ∃ (a : Addr) (ms : List Int) (w : Int), vs = [.ref a, .int w] ∧ SqL K H a (ms.map V.int) ∧ ms.length ≤ 30000 ∧ 0 < w ∧ w ≤ 1000 ∧
  ∀ (D : Addr) (ws : List V) (H' : Hp), H D = none → Ex H H' → H' D = some (.lst ws) → Paired (Tp H') ws (sortP (needP ms w ms.length)) → Q (.ref D) H'
theorem has_needs_of (z : Z K mg) (F : FunAt K mg "needs_of" s_needs_of ["sizes", "wide"]) (h_rows_for : Has P w K mg base "rows_for" 1 (sp_rows_for K)) : Has P w K mg base "needs_of" 2 (sp_needs_of K) := by
  refine has_of F sc_needs_of (fun vs H Q E h => ?_) (fun f cdv A outer s H vs Q E hr h => ?_)
  · obtain ⟨a, ms, w, rfl, _⟩ := h
    rfl
  · obtain ⟨a, ms, w, rfl, ha, hl, w0, w1, q⟩ := h
    refine ⟨_, (pss_cons (ps_set (i := 2) sc_needs_of.nd rfl (by first | exact Or.inl rfl | exact Or.inr rfl) (pe_lst pa_nil))
        (pss_cons (ps_for PassesOwn.never rfl (pi_range1 (by rfl) z.b_range (pa_cons (pe_callB (id := "len") (lenA (K := K) rfl) (by rfl) z.b_len (by decide +kernel) (pa_cons (pv 0) pa_nil)) pa_nil)) (pg_name (i := 3) sc_needs_of.nd rfl (by first | exact Or.inl rfl | exact Or.inr rfl)) (pss_one (ps_if (pt_cmpR op_gt (pe_ix (ixA (K := K) rfl) (pv 0) (pv 3) (fun _ _ => rfl)) pe_int (nomark _)) (pss_one (ps_expr (pe_bm PySem.F.plainAttrs_list PySem.F.slot_list_append PySem.F.type_list_append mt_append (pv 2) (pa_cons (pe_tup (pa_cons (pe_op op_sub (pe_op op_plusA (pe_op op_multA (pv 1) (pe_callH h_rows_for (by decide) hr rfl (pa_cons (pe_ix (ixA (K := K) rfl) (pv 0) (pv 3) (fun _ _ => rfl)) (pa_cons (pv 1) pa_nil)))) pe_int) (pe_ix (ixA (K := K) rfl) (pv 0) (pv 3) (fun _ _ => rfl))) (pa_cons (pv 3) pa_nil))) pa_nil)))) pss_nil)))
        (pss_one (ps_ret (pe_callB (id := "sorted") (sortPA (K := K) rfl) (by rfl) z.b_sorted (by decide +kernel) (pa_cons (pv 2) pa_nil)))))), ?_⟩
    walk_at "cx"
    walk_at "ss"
    rename_i p1 H1 n1 e1 f1
    have s1 := e1.sq ha
    walk_at "ss"
    refine u_forR1 (fun i σ H' => ∃ (ys : List V) (x : Option V), σ = [some (.ref a), some (.int w), some (.ref p1), x] ∧ Ex H H' ∧ H' p1 = some (.lst ys) ∧ Paired (Tp H') ys (needP ms w i)) (by omega) ⟨[], _, rfl, e1, f1, .nil⟩ (fun i σ H' hi hh => ?_) (fun σ H' hh => ?_)
    · obtain ⟨ys, x, rfl, e2, f2, pr2⟩ := hh
      have s2 := e2.sq ha
      have il : i < ms.length := by omega
      have hg : ms[i]? = some (ms.getD i 0) := by
        rw [List.getD_eq_getElem?_getD, List.getElem?_eq_getElem il]
        rfl
      have yl := Paired.length pr2
      have nl := needP_len ms w i
      have ns := needP_succ ms w i
      generalize ms.getD i 0 = m at *
      have same : ∀ v, ms[((i : Nat) : Int).toNat]? = some v → v = m := fun v hv => by
        rw [show ((i : Int)).toNat = i by omega, hg] at hv
        exact (Option.some.inj hv).symm
      walk_at "ss"
      rename_i v1 hv1
      obtain rfl := same _ hv1
      refine i_d (fun hd => ?_) (fun hd => ?_)
      · rw [if_pos hd] at ns
        walk_at "ss"
        rename_i v2 hv2
        obtain rfl := same _ hv2
        refine ⟨_, _, rfl, w0, by omega, ?_⟩
        walk_at "ss"
        rename_i v3 hv3 p3 H3 n3 e3 f3
        obtain rfl := same _ hv3
        refine n_app (e3 _ _ f2) (by omega) fun H4 m4 f4 => ?_
        walk_at "ss"
        have np : p3 ≠ p1 := (ne_of_none f2 n3).symm
        refine ⟨_, _, rfl, (e2.trans e3).exm n1 m4, f4, ?_⟩
        rw [ns]
        exact paired_append (Paired.mapP pr2 fun v r h => Tp.exm (e3 _ _ f2) m4 (Tp.ex e3 h)) (.cons ⟨p3, rfl, by rw [m4 _ _ np f3]; unfold freeI; congr 4; omega⟩ .nil)
      · rw [if_neg hd] at ns
        walk_at "ss"
        exact ⟨ys, _, rfl, e2, f2, by rw [ns]; exact pr2⟩
    · obtain ⟨ys, x, rfl, e2, f2, pr2⟩ := hh
      rw [show ((ms.length : Int)).toNat = ms.length by omega] at pr2
      walk_at "ss"
      refine n_sortedP (sq_of f2) pr2 fun p ws H3 n3 e3 f3 pr3 => ?_
      exact q p ws H3 (Ex.back e2 n3) (e2.trans e3) f3 pr3

/-! ### greatest_spill -/
noncomputable def sp_greatest_spill (K : PySem.W.Frag) : Sp := fun vs H Q _ => ∃ (a : Addr) (ms : List Int) (w more : Int), vs = [.ref a, .int w, .int more] ∧ SqL K H a (ms.map V.int) ∧ ms ≠ [] ∧ (∀ m ∈ ms, 0 ≤ m) ∧ ms.length ≤ 30000 ∧ 0 < w ∧ w ≤ 1000 ∧ 0 ≤ more ∧
  ∀ (T P : Addr) (p : List Int) (H' : Hp), H P = none → H T = none → T ≠ P → Ex H H' → H' P = some (.lst (p.map V.int)) → H' T = some (.tup [.int (greatI ms w more), .ref P]) → Put ms p more → spillI (addI ms p) w = greatI ms w more → Q (.ref T) H'
theorem has_greatest_spill (z : Z K mg) (F : FunAt K mg "greatest_spill" s_greatest_spill ["sizes", "wide", "more"]) (h_spill_behind : Has P w K mg base "spill_behind" 3 (sp_spill_behind K)) (h_needs_of : Has P w K mg base "needs_of" 2 (sp_needs_of K)) : Has P w K mg base "greatest_spill" 4 (sp_greatest_spill K) := by
  refine has_of F sc_greatest_spill (fun vs H Q E h => ?_) (fun f cdv A outer s H vs Q E hr h => ?_)
  · obtain ⟨a, ms, w, more, rfl, _⟩ := h
    rfl
  · obtain ⟨a, ms, w, more, rfl, ha, hn, hm, hl, w0, w1, m0, q⟩ := h
    refine ⟨_, (pss_cons (ps_set (i := 3) sc_greatest_spill.nd rfl (by first | exact Or.inl rfl | exact Or.inr rfl) (pe_op op_multA (pe_lst (pa_cons pe_int pa_nil)) (pe_callB (id := "len") (lenA (K := K) rfl) (by rfl) z.b_len (by decide +kernel) (pa_cons (pv 0) pa_nil))))
        (pss_cons (ps_set (i := 4) sc_greatest_spill.nd rfl (by first | exact Or.inl rfl | exact Or.inr rfl) (pe_callH h_needs_of (by decide) hr rfl (pa_cons (pv 0) (pa_cons (pv 1) pa_nil))))
        (pss_cons (ps_set (i := 5) sc_greatest_spill.nd rfl (by first | exact Or.inl rfl | exact Or.inr rfl) (pv 2))
        (pss_cons (ps_for PassesOwn.never rfl (piL (K := K) rfl (pv 4)) (pg_tup rfl (pgs_cons (pg_name (i := 6) sc_greatest_spill.nd rfl (by first | exact Or.inl rfl | exact Or.inr rfl)) (pgs_cons (pg_name (i := 7) sc_greatest_spill.nd rfl (by first | exact Or.inl rfl | exact Or.inr rfl)) pgs_nil))) (pss_one (ps_if (pt_cmpR op_le (pv 6) (pv 5) (nomark _)) (pss_cons (ps_asg (pv 6) (pg_sub (pv 3) (pv 7) set_list))
        (pss_one (ps_set (i := 5) sc_greatest_spill.nd rfl (by first | exact Or.inl rfl | exact Or.inr rfl) (pe_op op_sub (pv 5) (pv 6))))) pss_nil)))
        (pss_cons (ps_set (i := 8) sc_greatest_spill.nd rfl (by first | exact Or.inl rfl | exact Or.inr rfl) pe_int)
        (Evl.pss_cut (ps_if (pt_cmpR (neA (K := K) rfl hr.units) (pv 4) (pe_lst pa_nil) (nomark _)) (pss_one (ps_set (i := 8) sc_greatest_spill.nd rfl (by first | exact Or.inl rfl | exact Or.inr rfl) (pe_ix (ixA (K := K) rfl) (pe_ix (ixA (K := K) rfl) (pv 4) pe_int (fun _ _ => rfl)) pe_int (fun _ _ => rfl)))) pss_nil)
        (pss_cons (ps_asg (pe_op op_plusA (pe_ix (ixA (K := K) rfl) (pv 3) (pv 8) (fun _ _ => rfl)) (pv 5)) (pg_sub (pv 3) (pv 8) set_list))
        (pss_one (ps_ret (pe_tup (pa_cons (pe_callH h_spill_behind (by decide) hr rfl (pa_cons (pv 0) (pa_cons (pv 1) (pa_cons (pv 3) pa_nil)))) (pa_cons (pv 3) pa_nil)))))))))))), ?_⟩
    walk_at "cx"
    walk_at "ss"
    rename_i p1 H1 n1 e1 f1
    have s1 := e1.sq ha
    walk_at "ss"
    refine n_rep f1 (by omega) fun p2 H2 n2 e2 f2 => ?_
    rw [Int.toNat_natCast, show List.replicate ms.length (V.int 0) = (List.replicate ms.length (0 : Int)).map V.int by rw [List.map_replicate]] at f2
    have s2 := e2.sq s1
    walk_at "ss"
    refine ⟨a, ms, w, rfl, s2, hl, w0, w1, fun D ws H3 n3 e3 f3 pr3 => ?_⟩
    obtain ⟨g1, g2, g3, g4, g5⟩ := greatPut_facts w0 m0 hm hn
    have ep : greatPut ms w more = (greatSt ms w more).1.set (restOf (sortP (needP ms w ms.length))).toNat ((greatSt ms w more).1.getD (restOf (sortP (needP ms w ms.length))).toNat 0 + (greatSt ms w more).2) := rfl
    have es : greatSt ms w more = (sortP (needP ms w ms.length)).foldl greatF (List.replicate ms.length 0, more) := rfl
    have nr : ∀ q ∈ sortP (needP ms w ms.length), NR ms w q := fun q hq => needP_all q (sortP_mem.mp hq)
    have n02 : H p2 = none := Ex.back e1 n2
    generalize hL : sortP (needP ms w ms.length) = L at *
    obtain ⟨S, hS⟩ : ∃ S : Nat → List Int × Int, ∀ j, S j = (L.take j).foldl greatF (List.replicate ms.length 0, more) := ⟨_, fun _ => rfl⟩
    have hs0 : S 0 = (List.replicate ms.length 0, more) := hS 0
    have f23 := e3 _ _ f2
    have wl := Paired.length pr3
    have nD : D ≠ p2 := (ne_of_none f2 n3).symm
    walk_at "ss"
    refine u_forL (fun j σ H' => ∃ x1 x2 x3, σ = [some (.ref a), some (.int w), some (.int more), some (.ref p2), some (.ref D), some (.int (S j).2), x1, x2, x3] ∧ Ex H H' ∧ ExM p2 H3 H' ∧ H' p2 = some (.lst ((S j).1.map V.int)) ∧ (S j).1.length = ms.length) (sq_of f3) ⟨_, _, _, by rw [hs0]; rfl, (e1.trans e2).trans e3, ExM.refl _, by rw [hs0]; exact f23, by rw [hs0]; exact List.length_replicate⟩ (fun j σ H' _ hh => ?_) (fun j v σ H' hx hh => ?_) (fun σ H' hh => ?_)
    · obtain ⟨_, _, _, _, _, m, _⟩ := hh
      exact sq_of (m _ _ nD f3)
    · obtain ⟨x1, x2, x3, rfl, e4, m4, f4, l4⟩ := hh
      obtain ⟨q, hq, t, rfl, ft⟩ := pair_get' pr3 hx
      obtain ⟨r, r1, r2, r3, r4⟩ := nr q (List.mem_of_getElem? hq)
      have st : S (j + 1) = greatF (S j) q := by
        rw [hS, hS, List.take_add_one, hq]
        show List.foldl _ _ (L.take j ++ [q]) = _
        rw [List.foldl_append]
        rfl
      have ft4 : H' t = some (.tup [.int q.1, .int q.2]) := m4 _ _ (fun z => by rw [z, f23] at ft; cases ft) ft
      refine s_gt2 (st_of ft4) ?_
      unfold greatF at st
      generalize S j = T at *
      walk_at "ss"
      refine i_d (fun hd => ?_) (fun hd => ?_)
      · rw [if_pos hd] at st
        walk_at "ss"
        refine n_setL (j := r) f4 (by rw [r2, List.length_map, l4]; exact (ixN_lt (by omega) (by omega)).trans (by rw [Int.toNat_natCast])) fun H5 m5 f5 => ?_
        walk_at "ss"
        refine ⟨_, _, _, by rw [st]; rfl, e4.exm n02 m5, m4.trans m5, by rw [f5, st, r2, Int.toNat_natCast, List.map_set], by rw [st]; show (List.set _ _ _).length = _; rw [List.length_set]; exact l4⟩
      · rw [if_neg hd] at st
        walk_at "ss"
        exact ⟨_, _, _, by rw [st]; rfl, e4, m4, by rw [st]; exact f4, by rw [st]; exact l4⟩
    · obtain ⟨x1, x2, x3, rfl, e4, m4, f4, l4⟩ := hh
      have hSe : S ws.length = greatSt ms w more := by rw [hS, wl, List.take_length, es]
      rw [hSe] at f4 l4 ⊢
      have fD : H' D = some (.lst ws) := m4 _ _ nD f3
      have prD : Paired (Tp H') ws L := by
        have h : ∀ v r, Tp H3 v r → Tp H' v r := fun v r h => Tp.exm f23 m4 h
        exact Paired.mapP pr3 h
      have iD : Is K H' (.ref D) L := Is.of_list (sq_of fD) (Paired.mapP prD fun v r h => Tp.is h)
      generalize greatSt ms w more = T at *
      have n03 : H D = none := Ex.back (e1.trans e2) n3
      walk_at "ss"
      refine s_cut (fun σ' H5 => ∃ x1 x2, σ' = [some (.ref a), some (.int w), some (.int more), some (.ref p2), some (.ref D), some (.int T.2), x1, x2, some (.int (restOf L))] ∧ Ex H' H5) ?_ ?_
      · walk_at "ss"
        rename_i p5 H5 n5 e5 f5
        refine i_d (fun hd => ?_) (fun hd => ?_)
        · obtain ⟨q0, L0, rfl⟩ : ∃ q0 L0, L = q0 :: L0 := by
            cases L with
            | nil => exact absurd rfl hd
            | cons q0 L0 => exact ⟨q0, L0, rfl⟩
          obtain ⟨v0, hv0, t0, rfl, ft0⟩ := pair_get prD (show (q0 :: L0)[0]? = some q0 from rfl)
          walk_at "ss"
          refine s_ixL (sq_of (e5 _ _ fD)) (atI_lt (by decide) hv0) ?_
          refine s_ixT (st_of (e5 _ _ ft0)) (atI_lt (by decide) rfl) ?_
          walk_at "ss"
          exact ⟨_, _, rfl, e5⟩
        · have hL0 : L = [] := Decidable.not_not.mp hd
          subst hL0
          walk_at "ss"
          exact ⟨_, _, rfl, e5⟩
      rintro σ' H5 ⟨x1, x2, rfl, e5⟩
      have f5 := e5 _ _ f4
      walk_at "ss"
      rename_i v hv
      have ev : v = T.1.getD (restOf L).toNat 0 := by
        rw [List.getD_eq_getElem?_getD, hv]
        rfl
      refine n_setL (j := (restOf L).toNat) f5 (ixN_lt g3 (by rw [List.length_map]; omega)) fun H6 m6 f6 => ?_
      have e6 := (e4.trans e5).exm n02 m6
      have f6 : H6 p2 = some (.lst ((greatPut ms w more).map V.int)) := by rw [f6, ep, ev, List.map_set]
      walk_at "ss"
      refine ⟨a, p2, ms, _, w, rfl, e6.sq ha, sq_of f6, g1.1, hl, w0, w1, fun H7 e7 => ?_⟩
      walk_at "ss"
      rename_i p8 H8 n8 e8 f8
      rw [g2] at f8
      have e78 := e7.trans e8
      exact q p8 p2 _ H8 n02 (Ex.back e6 (Ex.back e7 n8)) (ne_of_none (e7 _ _ f6) n8).symm (e6.trans e78) (e78 _ _ f6) f8 g1 g2

/-! ### stay_told -/
noncomputable def sp_stay_told (K : PySem.W.Frag) : Sp := fun vs H Q _ => ∃ (v : V), vs = [v] ∧ (v = .non ∧ Q (.str "never") H ∨ ∃ p m o, v = .ref p ∧ SqT K H p [.int m, optV o] ∧ 0 ≤ m ∧ m < 2000000000000000000 ∧ (∀ r, o = some r → 0 ≤ r ∧ r < 2000000000000000000) ∧ Q (.str (stayS m o)) H)
theorem has_stay_told (z : Z K mg) (F : FunAt K mg "stay_told" s_stay_told ["told"])  : Has P w K mg base "stay_told" 1 (sp_stay_told K) := by
  refine has_of F sc_stay_told (fun vs H Q E h => ?_) (fun f cdv A outer s H vs Q E hr h => ?_)
  · obtain ⟨_, rfl, _⟩ := h
    rfl
  · obtain ⟨v, rfl, hv⟩ := h
    refine ⟨_, (pss_cons (ps_if (pt_cmpR op_isNA (pv 0) pe_non (nomark _)) (pss_one (ps_ret pe_str)) pss_nil)
        (pss_cons (ps_if (pt_cmpR op_isNA (pe_ix (ixA (K := K) rfl) (pv 0) pe_int (fun _ _ => rfl)) pe_non (nomark _)) (pss_one (ps_ret (pe_op op_plusA (pe_callTy (T := "str") strIA (by rfl) z.b_str (by decide +kernel) (pa_cons (pe_ix (ixA (K := K) rfl) (pv 0) pe_int (fun _ _ => rfl)) pa_nil)) pe_str))) pss_nil)
        (pss_one (ps_ret (pe_op op_plusA (pe_op op_plusA (pe_callTy (T := "str") strIA (by rfl) z.b_str (by decide +kernel) (pa_cons (pe_ix (ixA (K := K) rfl) (pv 0) pe_int (fun _ _ => rfl)) pa_nil)) pe_str) (pe_callTy (T := "str") strIA (by rfl) z.b_str (by decide +kernel) (pa_cons (pe_ix (ixA (K := K) rfl) (pv 0) pe_int (fun _ _ => rfl)) pa_nil))))))), ?_⟩
    walk_at "cx"
    walk_at "tys"
    rcases hv with ⟨rfl, q⟩ | ⟨p, m, o, rfl, sT, m0, m1, ho, q⟩
    · walk_at "tys"
      exact q
    · cases o with
      | none =>
        walk_at "tys"
        refine s_isN0 ?_
        walk_at "tys"
        refine t_strI (by omega) (by omega) ?_
        walk_at "tys"
        have l1 := num_len m0 (by omega)
        refine s_plusS (by have : (" ever" : Str).length = 5 := rfl; omega) ?_
        exact q
      | some r =>
        obtain ⟨r0, r1⟩ := ho r rfl
        walk_at "tys"
        refine s_isN1 ?_
        walk_at "tys"
        refine t_strI (by omega) (by omega) ?_
        walk_at "tys"
        have l1 := num_len m0 (by omega)
        have l2 := num_len r0 (by omega)
        have l3 : (" " : Str).length = 1 := rfl
        refine s_plusS (by omega) ?_
        walk_at "tys"
        refine t_strI (by omega) (by omega) ?_
        refine s_plusS (by rw [len_app]; omega) ?_
        exact q

/-! ### plain_answer -/
noncomputable def sp_plain_answer (K : PySem.W.Frag) : Sp := fun vs H Q _ => ∃ (w : Str) (a : Addr) (l : List V) (y : Str) (Z : Hp), vs = [.str w, .ref a] ∧ Ex Z H ∧ Z a = some (.lst l) ∧ PlainA w l y ∧ ∀ Z' H', TR.T [] Z H Z' H' → Q (.str y) H'
theorem has_plain_answer (z : Z K mg) (F : FunAt K mg "plain_answer" s_plain_answer ["word", "some"]) (h_parted : Has P w K mg base "parted" 1 (sp_parted K)) (h_least_spill : Has P w K mg base "least_spill" 4 (sp_least_spill K)) (h_greatest_spill : Has P w K mg base "greatest_spill" 4 (sp_greatest_spill K)) (h_stay_told : Has P w K mg base "stay_told" 1 (sp_stay_told K)) (h_stay : Has P w K mg base "stay" 2 (sp_stay K)) (h_trail : Has P w K mg base "trail" 2 (sp_trail K)) (h_room_of : Has P w K mg base "room_of" 2 (sp_room_of K)) : Has P w K mg base "plain_answer" 5 (sp_plain_answer K) := by
  refine has_of F sc_plain_answer (fun vs H Q E h => ?_) (fun f cdv A outer s H vs Q E hr h => ?_)
  · obtain ⟨_, _, _, _, _, rfl, _⟩ := h
    rfl
  · obtain ⟨w, a, l, y, Z, rfl, zh, ha, hp, q⟩ := h
    refine ⟨_, (pss_cons (ps_if (pt_cmpR (eqA (K := K) rfl hr.units) (pv 0) pe_str (nomark _)) (pss_one (ps_ret (pe_callTy (T := "str") strIA (by rfl) z.b_str (by decide +kernel) (pa_cons (pe_callH h_room_of (by decide) hr rfl (pa_cons (pe_ix (ixA (K := K) rfl) (pv 1) pe_int (fun _ _ => rfl)) (pa_cons (pe_ix (ixA (K := K) rfl) (pv 1) pe_int (fun _ _ => rfl)) pa_nil))) pa_nil)))) pss_nil)
        (pss_cons (ps_if (pt_cmpR (eqA (K := K) rfl hr.units) (pv 0) pe_str (nomark _)) (pss_one (ps_ret (pe_joinK (K := K) rfl (pe_join pe_str (pe_lc (own := [("many", 2), ("room", 3)]) (g := gTup K 2 (gCons (gName 2) (gCons (gName 3) gNil))) (tt := tYes) rfl sc_plain_answer.nd (piL (K := K) rfl (pe_callH h_trail (by decide) hr rfl (pa_cons (pe_ix (ixA (K := K) rfl) (pv 1) pe_int (fun _ _ => rfl)) (pa_cons (pe_ix (ixA (K := K) rfl) (pv 1) pe_int (fun _ _ => rfl)) pa_nil)))) (blkOk_by (own := [("many", 2), ("room", 3)]) (N := ["word", "some", "many", "room"]) (sc := defScope s_plain_answer) (by decide +kernel)) (fun _ _ _ _ _ => (pg_tup rfl (pgs_cons (pg_name (i := 2) sc_plain_answer.nd rfl (by first | exact Or.inl rfl | exact Or.inr rfl)) (pgs_cons (pg_name (i := 3) sc_plain_answer.nd rfl (by first | exact Or.inl rfl | exact Or.inr rfl)) pgs_nil)))) (fun _ _ _ _ _ => pts_nil) (fun _ _ _ _ _ => (pe_op op_plusA (pe_op op_plusA (pe_callTy (T := "str") strIA (by rfl) z.b_str (by decide +kernel) (pa_cons (pv 2) pa_nil)) pe_str) (pe_callTy (T := "str") strIA (by rfl) z.b_str (by decide +kernel) (pa_cons (pv 3) pa_nil))))))))) pss_nil)
        (pss_cons (ps_if (pt_cmpR (eqA (K := K) rfl hr.units) (pv 0) pe_str (nomark _)) (pss_one (ps_ret (pe_callH h_stay_told (by decide) hr rfl (pa_cons (pe_callH h_stay (by decide) hr rfl (pa_cons (pe_ix (ixA (K := K) rfl) (pv 1) pe_int (fun _ _ => rfl)) (pa_cons (pe_ix (ixA (K := K) rfl) (pv 1) pe_int (fun _ _ => rfl)) pa_nil))) pa_nil)))) pss_nil)
        (pss_cons (ps_if (pt_cmpR (eqA (K := K) rfl hr.units) (pv 0) pe_str (nomark _)) (pss_one (ps_ret (pe_callTy (T := "str") strIA (by rfl) z.b_str (by decide +kernel) (pa_cons (pe_ix (ixA (K := K) rfl) (pe_callH h_greatest_spill (by decide) hr rfl (pa_cons (pe_slice (slA (K := K) rfl) (pv 1) (po_some pe_int) po_none) (pa_cons (pe_ix (ixA (K := K) rfl) (pv 1) pe_int (fun _ _ => rfl)) (pa_cons (pe_ix (ixA (K := K) rfl) (pv 1) pe_int (fun _ _ => rfl)) pa_nil)))) pe_int (fun _ _ => rfl)) pa_nil)))) pss_nil)
        (pss_cons (ps_if (pt_cmpR (eqA (K := K) rfl hr.units) (pv 0) pe_str (nomark _)) (pss_one (ps_ret (pe_callTy (T := "str") strIA (by rfl) z.b_str (by decide +kernel) (pa_cons (pe_ix (ixA (K := K) rfl) (pe_callH h_least_spill (by decide) hr rfl (pa_cons (pe_slice (slA (K := K) rfl) (pv 1) (po_some pe_int) po_none) (pa_cons (pe_ix (ixA (K := K) rfl) (pv 1) pe_int (fun _ _ => rfl)) (pa_cons (pe_ix (ixA (K := K) rfl) (pv 1) pe_int (fun _ _ => rfl)) pa_nil)))) pe_int (fun _ _ => rfl)) pa_nil)))) pss_nil)
        (pss_cons (ps_if (pt_cmpR (eqA (K := K) rfl hr.units) (pe_ix (ixA (K := K) rfl) (pv 1) pe_int (fun _ _ => rfl)) (pe_ix (ixA (K := K) rfl) (pv 1) pe_int (fun _ _ => rfl)) (nomark _)) (pss_one (ps_ret pe_str)) pss_nil)
        (pss_one (ps_ret (pe_callTy (T := "str") strIA (by rfl) z.b_str (by decide +kernel) (pa_cons (pe_callH h_parted (by decide) hr rfl (pa_cons (pe_ix (ixA (K := K) rfl) (pv 1) pe_int (fun _ _ => rfl)) (pa_cons (pe_ix (ixA (K := K) rfl) (pv 1) pe_int (fun _ _ => rfl)) pa_nil))) pa_nil)))))))))), ?_⟩
    walk_at "cx"
    cases hp with
    | where_ k r k0 k1 r0 r1 =>
      walk_at "tys"
      refine ⟨k, r, rfl, r0, ?_⟩
      have rr := roomOf_range (key := k) r0
      walk_at "tys"
      refine t_strI rr.1 (by omega) ?_
      walk_at "tys"
      exact q Z H (T.refl zh)
    | trail k r k0 k1 r0 r1 =>
      walk_at "tys"
      refine i_d (fun h => absurd h (by decide +kernel)) (fun _ => ?_)
      walk_at "tys"
      refine s_m1 ?_
      walk_at "tys"
      refine n_m1 ?_
      walk_at "tys"
      refine ⟨k, r, Z, rfl, zh, fun p Z1 H1 t1 ls1 => ?_⟩
      have z1 := t1.zh
      have bl := byBits_len k r 60
      have bb : ∀ e ∈ byBits k r 60, 0 ≤ e.2 ∧ e.1 = e.2 + 1 ∧ e.2 < 1152921504606846976 := trail_room k0 k1
      refine c_mapS trailS z1 ls1.is (by omega) (fun u e Z2 H2 he hu t2 A hA => ?_) (fun D Z2 H2 nD t2 fD => ?_)
      · obtain ⟨b, v1, v2, rfl, hb, i1, i2⟩ := (Ik.tt t2 hu).pair_of
        have e1 := Ik.int_of i1
        have e2 := Ik.int_of i2
        subst e1 e2
        obtain ⟨b0, b1, b2⟩ := bb e he
        have z2 := t2.zh
        have sb := st_of (K := K) (z2 _ _ hb)
        have l1 := num_len (i := e.1) (by omega) (by omega)
        have l2 := num_len (i := e.2) (by omega) (by omega)
        have l3 : (":" : Str).length = 1 := rfl
        refine s_gt2 sb ?_
        walk_at "tys"
        refine t_strI (by omega) (by omega) ?_
        walk_at "tys"
        refine s_plusS (by omega) ?_
        walk_at "tys"
        refine t_strI (by omega) (by omega) ?_
        refine s_plusS (by rw [len_app]; omega) ?_
        exact hA Z2 H2 (T.refl z2)
      · have sD := sq_of (K := K) (t2.zh _ _ fD)
        walk_at "tys"
        have sz : (((byBits k r 60).map trailS).map (·.length)).sum ≤ (byBits k r 60).length * 130 := sum_le (fun x hx => by
          obtain ⟨e, he, rfl⟩ := List.mem_map.mp hx
          obtain ⟨b0, b1, b2⟩ := bb e he
          have l1 := num_len (i := e.1) (by omega) (by omega)
          have l2 := num_len (i := e.2) (by omega) (by omega)
          have l3 : (":" : Str).length = 1 := rfl
          unfold trailS
          rw [len_app, len_app]
          omega) (by rw [List.length_map])
        refine t_join sD (by rw [List.length_map]; show _ + _ * 1 ≤ _; omega) ?_
        exact q Z2 H2 (t1.step t2 mm_nil)
    | stay k r k0 k1 r0 r1 =>
      walk_at "tys"
      refine i_d (fun h => absurd h (by decide +kernel)) (fun _ => ?_)
      walk_at "tys"
      refine i_d (fun h => absurd h (by decide +kernel)) (fun _ => ?_)
      walk_at "tys"
      refine ⟨k, r, rfl, fun hn H1 e1 => ?_, fun hm p H1 n1 e1 f1 => ?_⟩
      · have t1 : T [] Z H Z H1 := T.ofEx e1 zh
        have ey : stayA k r = "never" := if_neg hn
        rw [ey] at q
        refine ⟨.non, rfl, .inl ⟨rfl, ?_⟩⟩
        walk_at "tys"
        exact q Z H1 t1
      · have t1 : T [] Z H Z H1 := T.ofEx e1 zh
        have ey : stayA k r = stayS (r + 1) (nxt (turnsN k 60) r) := if_pos hm
        rw [ey] at q
        refine ⟨.ref p, rfl, .inr ⟨p, r + 1, nxt (turnsN k 60) r, rfl, st_of f1, by omega, by omega, fun u hu => nxt_room k0 k1 hu, ?_⟩⟩
        walk_at "tys"
        exact q Z H1 t1
    | great w m ms w0 w1 m0 m1 hne hms hl =>
      walk_at "tys"
      refine i_d (fun h => absurd h (by decide +kernel)) (fun _ => ?_)
      walk_at "tys"
      refine i_d (fun h => absurd h (by decide +kernel)) (fun _ => ?_)
      walk_at "tys"
      refine i_d (fun h => absurd h (by decide +kernel)) (fun _ => ?_)
      walk_at "tys"
      have e2 : cutI ([V.int w, V.int m] ++ ms.map V.int) (some 2) none = ms.map V.int := by
        rw [cutI_from _ (show (0 : Int) ≤ 2 by decide)]
        rfl
      refine t_slL zh (sq_of (zh _ _ ha)) fun p1 Z1 H1 n1 t1 f1 => ?_
      have z1 := t1.zh
      have f1 : Z1 p1 = some (.lst (ms.map V.int)) := f1.trans (by rw [show cutV ([V.int w, V.int m] ++ ms.map V.int) (some 2) none = ms.map V.int from e2])
      have ha1 := t1.z _ _ ha
      walk_at "tys"
      refine ⟨p1, ms, w, m, rfl, sq_of (z1 _ _ f1), hne, fun x hx => (hms x hx).1, by omega, by omega, by omega, m0, fun Ta P p H2 nP nT nTP e2 hP hT hput hsp => ?_⟩
      obtain ⟨g0, g1⟩ := put_room w0 hms hl m1 hput
      rw [hsp] at g0 g1
      have t2 : T [] Z1 H1 Z1 H2 := T.ofEx e2 z1
      have t02 := t1.step t2 mm_nil
      clear t2
      walk_at "tys"
      refine t_strI g0 (by omega) ?_
      walk_at "tys"
      exact q Z1 H2 t02
    | least w m ms w0 w1 m0 m1 hne hms hl =>
      walk_at "tys"
      refine i_d (fun h => absurd h (by decide +kernel)) (fun _ => ?_)
      walk_at "tys"
      refine i_d (fun h => absurd h (by decide +kernel)) (fun _ => ?_)
      walk_at "tys"
      refine i_d (fun h => absurd h (by decide +kernel)) (fun _ => ?_)
      walk_at "tys"
      refine i_d (fun h => absurd h (by decide +kernel)) (fun _ => ?_)
      walk_at "tys"
      have e2 : cutI ([V.int w, V.int m] ++ ms.map V.int) (some 2) none = ms.map V.int := by
        rw [cutI_from _ (show (0 : Int) ≤ 2 by decide)]
        rfl
      refine t_slL zh (sq_of (zh _ _ ha)) fun p1 Z1 H1 n1 t1 f1 => ?_
      have z1 := t1.zh
      have f1 : Z1 p1 = some (.lst (ms.map V.int)) := f1.trans (by rw [show cutV ([V.int w, V.int m] ++ ms.map V.int) (some 2) none = ms.map V.int from e2])
      have ha1 := t1.z _ _ ha
      walk_at "tys"
      refine ⟨p1, ms, w, m, rfl, sq_of (z1 _ _ f1), hne, fun x hx => (hms x hx).1, by omega, by omega, by omega, m0, fun Ta P p H2 nP nT nTP e2 hP hT hput hsp => ?_⟩
      obtain ⟨g0, g1⟩ := put_room w0 hms hl m1 hput
      rw [hsp] at g0 g1
      have t2 : T [] Z1 H1 Z1 H2 := T.ofEx e2 z1
      have t02 := t1.step t2 mm_nil
      clear t2
      walk_at "tys"
      refine t_strI g0 (by omega) ?_
      walk_at "tys"
      exact q Z1 H2 t02
    | alike k k0 k1 =>
      walk_at "tys"
      refine i_d (fun h => absurd h (by decide +kernel)) (fun _ => ?_)
      walk_at "tys"
      refine i_d (fun h => absurd h (by decide +kernel)) (fun _ => ?_)
      walk_at "tys"
      refine i_d (fun h => absurd h (by decide +kernel)) (fun _ => ?_)
      walk_at "tys"
      refine i_d (fun h => absurd h (by decide +kernel)) (fun _ => ?_)
      walk_at "tys"
      refine i_d (fun h => absurd h (by decide +kernel)) (fun _ => ?_)
      walk_at "tys"
      exact q Z H (T.refl zh)
    | parted k r d k0 k1 r0 r1 ne hd dl =>
      walk_at "tys"
      refine i_d (fun h => absurd h (by decide +kernel)) (fun _ => ?_)
      walk_at "tys"
      refine i_d (fun h => absurd h (by decide +kernel)) (fun _ => ?_)
      walk_at "tys"
      refine i_d (fun h => absurd h (by decide +kernel)) (fun _ => ?_)
      walk_at "tys"
      refine i_d (fun h => absurd h (by decide +kernel)) (fun _ => ?_)
      walk_at "tys"
      refine i_d (fun h => absurd h (by decide +kernel)) (fun _ => ?_)
      walk_at "tys"
      refine ⟨k, r, d, rfl, hd, dl, ?_⟩
      obtain ⟨p0, p1⟩ := parted_room k0 k1 r0 r1 d
      walk_at "tys"
      refine t_strI p0 (by omega) ?_
      walk_at "tys"
      exact q Z H (T.refl zh)

/-! ### is_whole -/
noncomputable def sp_is_whole (K : PySem.W.Frag) : Sp := fun vs H Q _ => ∃ (v : V) (n : String), vs = [v] ∧ KindV K H v n ∧ Q (.bl (wholeV v)) H
theorem has_is_whole (z : Z K mg) (F : FunAt K mg "is_whole" s_is_whole ["thing"])  : Has P w K mg base "is_whole" 1 (sp_is_whole K) := by
  refine has_of F sc_is_whole (fun vs H Q E h => ?_) (fun f cdv A outer s H vs Q E hr h => ?_)
  · obtain ⟨v, n, rfl, _⟩ := h
    rfl
  · obtain ⟨v, n, rfl, kv, q⟩ := h
    refine ⟨_, (pss_one (ps_ret (pe_and (pe_callB (id := "isinstance") (isiA (K := K) rfl) (by rfl) z.b_isinstance (by decide +kernel) (pa_cons (pv 0) (pa_cons (pe_bltn (v := .ty "int") (by rfl) z.b_int (by decide +kernel) rfl) pa_nil))) (pe_one (pe_not (pe_callB (id := "isinstance") (isiA (K := K) rfl) (by rfl) z.b_isinstance (by decide +kernel) (pa_cons (pv 0) (pa_cons (pe_bltn (v := .ty "bool") (by rfl) z.b_bool (by decide +kernel) rfl) pa_nil)))))))), ?_⟩
    walk_at "cx"
    cases kv with
    | dct h =>
      walk_at "ss"
      refine s_isiDk h k_di ?_
      walk_at "ss"
      exact q
    | _ =>
      walk_at "ss"
      exact q

/-! ### is_size -/
noncomputable def sp_is_size (K : PySem.W.Frag) : Sp := fun vs H Q _ => ∃ (v : V) (n : String), vs = [v] ∧ KindV K H v n ∧ Q (.bl (sizeV v)) H
theorem has_is_size (z : Z K mg) (F : FunAt K mg "is_size" s_is_size ["thing"]) (h_is_whole : Has P w K mg base "is_whole" 1 (sp_is_whole K)) : Has P w K mg base "is_size" 2 (sp_is_size K) := by
  refine has_of F sc_is_size (fun vs H Q E h => ?_) (fun f cdv A outer s H vs Q E hr h => ?_)
  · obtain ⟨v, n, rfl, _⟩ := h
    rfl
  · obtain ⟨v, n, rfl, kv, q⟩ := h
    refine ⟨_, (pss_one (ps_ret (pe_and (pe_callH h_is_whole (by decide) hr rfl (pa_cons (pv 0) pa_nil)) (pe_one (pe_chain op_le op_le pe_int (pv 0) (pe_constI z.c_GREATEST rfl)))))), ?_⟩
    walk_at "cx"
    walk_at "ss"
    refine ⟨_, _, rfl, kv, ?_⟩
    refine kv.cases' (fun i e => ?_) (fun e => ?_)
    · subst e
      rw [show wholeV (V.int i) = true from rfl]
      walk_at "ss"
      refine i_d (fun h1 => ?_) (fun h1 => ?_)
      · walk_at "ss"
        have e : sizeV (V.int i) = decide (i ≤ 8) := by
          show decide (_ ∧ _) = _
          by_cases c : i ≤ 8
          · rw [decide_eq_true c, decide_eq_true ⟨h1, c⟩]
          · rw [decide_eq_false c, decide_eq_false fun z => c z.2]
        rw [e] at q
        exact q
      · have e : sizeV (V.int i) = false := decide_eq_false fun z => h1 z.1
        rw [e] at q
        exact q
    · rw [e]
      walk_at "ss"
      rw [sizeV_no e] at q
      exact q

/-! ### is_key -/
noncomputable def sp_is_key (K : PySem.W.Frag) : Sp := fun vs H Q _ => ∃ (v : V) (n : String), vs = [v] ∧ KindV K H v n ∧ Q (.bl (keyV v)) H
theorem has_is_key (z : Z K mg) (F : FunAt K mg "is_key" s_is_key ["thing"]) (h_is_whole : Has P w K mg base "is_whole" 1 (sp_is_whole K)) : Has P w K mg base "is_key" 2 (sp_is_key K) := by
  refine has_of F sc_is_key (fun vs H Q E h => ?_) (fun f cdv A outer s H vs Q E hr h => ?_)
  · obtain ⟨v, n, rfl, _⟩ := h
    rfl
  · obtain ⟨v, n, rfl, kv, q⟩ := h
    refine ⟨_, (pss_one (ps_ret (pe_and (pe_callH h_is_whole (by decide) hr rfl (pa_cons (pv 0) pa_nil)) (pe_one (pe_chain op_le op_lt pe_int (pv 0) (pe_constI z.c_KEYS rfl)))))), ?_⟩
    walk_at "cx"
    walk_at "ss"
    refine ⟨_, _, rfl, kv, ?_⟩
    refine kv.cases' (fun i e => ?_) (fun e => ?_)
    · subst e
      rw [show wholeV (V.int i) = true from rfl]
      walk_at "ss"
      refine i_d (fun h1 => ?_) (fun h1 => ?_)
      · walk_at "ss"
        have e : keyV (V.int i) = decide (i < 1152921504606846976) := by
          show decide (_ ∧ _) = _
          by_cases c : i < 1152921504606846976
          · rw [decide_eq_true c, decide_eq_true ⟨h1, c⟩]
          · rw [decide_eq_false c, decide_eq_false fun z => c z.2]
        rw [e] at q
        exact q
      · have e : keyV (V.int i) = false := decide_eq_false fun z => h1 z.1
        rw [e] at q
        exact q
    · rw [e]
      walk_at "ss"
      rw [keyV_no e] at q
      exact q

/-! ### is_of -/
noncomputable def sp_is_of (K : PySem.W.Frag) : Sp := fun vs H Q _ => ∃ (c : Nat) (n : Int), vs = [.str ⟨#[c]⟩, .int n] ∧ Q (.bl (isOfB c n)) H
theorem has_is_of (z : Z K mg) (F : FunAt K mg "is_of" s_is_of ["sign", "number"]) (h_is_size : Has P w K mg base "is_size" 2 (sp_is_size K)) (h_is_key : Has P w K mg base "is_key" 2 (sp_is_key K)) : Has P w K mg base "is_of" 3 (sp_is_of K) := by
  refine has_of F sc_is_of (fun vs H Q E h => ?_) (fun f cdv A outer s H vs Q E hr h => ?_)
  · obtain ⟨_, _, rfl, _⟩ := h
    rfl
  · obtain ⟨c, n, rfl, q⟩ := h
    refine ⟨_, (pss_cons (ps_if (PW.pt (pw_or (pt_cmpR (eqA (K := K) rfl hr.units) (pv 0) pe_str (nomark _)) (pw_or1 (pt_cmpR (eqA (K := K) rfl hr.units) (pv 0) pe_str (nomark _))))) (pss_one (ps_ret (pe_callH h_is_key (by decide) hr rfl (pa_cons (pv 1) pa_nil)))) pss_nil)
        (pss_cons (ps_if (pt_cmpR (eqA (K := K) rfl hr.units) (pv 0) pe_str (nomark _)) (pss_one (ps_ret (pe_chain op_le op_le pe_int (pv 1) (pe_constI z.c_ROOMS rfl)))) pss_nil)
        (pss_cons (ps_if (pt_cmpR (eqA (K := K) rfl hr.units) (pv 0) pe_str (nomark _)) (pss_one (ps_ret (pe_callH h_is_size (by decide) hr rfl (pa_cons (pv 1) pa_nil)))) pss_nil)
        (pss_cons (ps_if (pt_cmpR (eqA (K := K) rfl hr.units) (pv 0) pe_str (nomark _)) (pss_one (ps_ret (pe_cmpR op_le (pv 1) (pe_constI z.c_MORE rfl) (nomark _)))) pss_nil)
        (pss_one (ps_ret (pe_or (pe_cmpR (eqA (K := K) rfl hr.units) (pv 0) pe_str (nomark _)) (pe_one (pe_cmpR op_le (pv 1) (pe_constI z.c_COUNT rfl) (nomark _)))))))))), ?_⟩
    walk_at "cx"
    unfold isOfB at q
    walk_at "ts"
    refine i_d (fun h1 => ?_) (fun h1 => ?_)
    · rw [if_pos (.inl (chr_k.mp h1))] at q
      walk_at "ts"
      exact ⟨.int n, _, rfl, .int _, q⟩
    · walk_at "ts"
      refine i_d (fun h2 => ?_) (fun h2 => ?_)
      · rw [if_pos (.inr (chr_h.mp h2))] at q
        walk_at "ts"
        exact ⟨.int n, _, rfl, .int _, q⟩
      · rw [if_neg (fun z => z.elim (fun z => h1 (chr_k.mpr z)) fun z => h2 (chr_h.mpr z))] at q
        walk_at "ts"
        refine i_d (fun h3 => ?_) (fun h3 => ?_)
        · rw [if_pos (chr_r.mp h3)] at q
          walk_at "ts"
          refine i_d (fun h => ?_) (fun h => ?_)
          · have e : decide (1 ≤ n ∧ n ≤ 1152921504606846976) = decide (n ≤ 1152921504606846976) := decide_eq_decide.mpr ⟨And.right, fun b => ⟨h, b⟩⟩
            rw [e] at q
            walk_at "ts"
            exact q
          · rw [decide_eq_false (fun z => h z.1)] at q
            exact q
        · rw [if_neg (fun z => h3 (chr_r.mpr z))] at q
          walk_at "ts"
          refine i_d (fun h4 => ?_) (fun h4 => ?_)
          · rw [if_pos (chr_w.mp h4)] at q
            walk_at "ts"
            exact ⟨.int n, _, rfl, .int _, q⟩
          · rw [if_neg (fun z => h4 (chr_w.mpr z))] at q
            walk_at "ts"
            refine i_d (fun h5 => ?_) (fun h5 => ?_)
            · rw [if_pos (chr_m.mp h5)] at q
              walk_at "ts"
              exact q
            · rw [if_neg (fun z => h5 (chr_m.mpr z))] at q
              walk_at "ts"
              refine i_d (fun h => ?_) (fun h => ?_)
              · rw [decide_eq_true (.inl (chr_g.mp h))] at q
                exact q
              · have e : decide (c = 103 ∨ n ≤ 1000000000) = decide (n ≤ 1000000000) := decide_eq_decide.mpr ⟨fun z => z.elim (fun z => absurd (chr_g.mpr z) h) id, .inr⟩
                rw [e] at q
                walk_at "ts"
                exact q

/-! ### read_number -/
noncomputable def sp_read_number (K : PySem.W.Frag) : Sp := fun vs H Q _ => ∃ n : Int, vs = [.str (numS n)] ∧ 0 ≤ n ∧ n < 1000000000000000000000000000000 ∧ Q (.int n) H
theorem has_read_number (z : Z K mg) (F : FunAt K mg "read_number" s_read_number ["text"])  : Has P w K mg base "read_number" 1 (sp_read_number K) := by
  refine has_of F sc_read_number (fun vs H Q E h => ?_) (fun f cdv A outer s H vs Q E hr h => ?_)
  · obtain ⟨n, rfl, _⟩ := h
    rfl
  · obtain ⟨n, rfl, n0, n1, q⟩ := h
    refine ⟨_, (pss_cons (ps_if (PW.pt (pw_or (pt_not (pt_chain op_le op_le pe_int (pe_callB (id := "len") (lenA (K := K) rfl) (by rfl) z.b_len (by decide +kernel) (pa_cons (pv 0) pa_nil)) (pe_constI z.c_LONGEST_texts rfl))) (pw_or1 (PW.pt (pw_and (pt_cmpR (eqA (K := K) rfl hr.units) (pe_ix (ixA (K := K) rfl) (pv 0) pe_int (fun _ _ => rfl)) pe_str (nomark _)) (pw_and1 (pt_cmpR op_gt (pe_callB (id := "len") (lenA (K := K) rfl) (by rfl) z.b_len (by decide +kernel) (pa_cons (pv 0) pa_nil)) pe_int (nomark _)))))))) (pss_one ps_never) pss_nil)
        (pss_cons (ps_for PassesOwn.never rfl (pi_str (pv 0)) (pg_name (i := 1) sc_read_number.nd rfl (by first | exact Or.inl rfl | exact Or.inr rfl)) (pss_one (ps_if (pt_cmpR op_notIn_sign (pv 1) (pe_constS z.c_FIGURES rfl) (by rfl)) (pss_one ps_never) pss_nil)))
        (pss_one (ps_ret (pe_callTy (T := "int") intTA (by rfl) z.b_int (by decide +kernel) (pa_cons (pv 0) pa_nil)))))), ?_⟩
    walk_at "cx"
    have hl := num_len n0 n1
    have hp := numS_pos n0
    obtain ⟨c, hc, h48⟩ := numS_head n0
    walk_at "ts"
    refine s_lenTx (by omega) ?_
    walk_at "ts"
    refine s_ixSign (by decide) hc (by omega) ?_
    walk_at "ts"
    have one : (⟨#[c]⟩ : Str) = "0" → c = 48 := fun e => by
      have := congrArg TL.tl e
      have : [c] = [48] := this
      cases this
      rfl
    have digits : ∀ c' ∈ (numS n).cps.toList, 48 ≤ c' ∧ c' ≤ 57 := fun c' hc' => by
      have : c' ∈ TL.tl (numS n) := hc'
      rw [tl_numS n0] at this
      exact numL_low this
    refine i_d (fun e => ?_) (fun e => ?_)
    · have l1 := h48 (one e)
      walk_at "ts"
      refine s_lenTx (by omega) ?_
      walk_at "ts"
      refine u_forS (fun i σ H' => ∃ x1, σ = [some (.str (numS n)), x1] ∧ H' = H) ⟨_, rfl, rfl⟩ (fun i c σ H' hc hh => ?_) (fun σ H' hh => ?_)
      · obtain ⟨x1, rfl, rfl⟩ := hh
        walk_at "ts"
        have hf := fig_mem (digits c (List.mem_of_getElem? (by rw [Array.getElem?_toList]; exact hc)))
        refine ⟨c, figS, rfl, rfl, ?_⟩
        walk_at "ts"
        exact ⟨_, rfl, rfl⟩
      · obtain ⟨x1, rfl, rfl⟩ := hh
        walk_at "ts"
        exact t_intT n0 n1 q
    · walk_at "ts"
      refine u_forS (fun i σ H' => ∃ x1, σ = [some (.str (numS n)), x1] ∧ H' = H) ⟨_, rfl, rfl⟩ (fun i c σ H' hc hh => ?_) (fun σ H' hh => ?_)
      · obtain ⟨x1, rfl, rfl⟩ := hh
        walk_at "ts"
        have hf := fig_mem (digits c (List.mem_of_getElem? (by rw [Array.getElem?_toList]; exact hc)))
        refine ⟨c, figS, rfl, rfl, ?_⟩
        walk_at "ts"
        exact ⟨_, rfl, rfl⟩
      · obtain ⟨x1, rfl, rfl⟩ := hh
        walk_at "ts"
        exact t_intT n0 n1 q

/-! ### is_name -/
noncomputable def sp_is_name (K : PySem.W.Frag) : Sp := fun vs H Q _ => ∃ (v : V) (n : String), vs = [v] ∧ KindV K H v n ∧ Q (.bl (nameV v)) H
theorem has_is_name (z : Z K mg) (F : FunAt K mg "is_name" s_is_name ["thing"])  : Has P w K mg base "is_name" 1 (sp_is_name K) := by
  refine has_of F sc_is_name (fun vs H Q E h => ?_) (fun f cdv A outer s H vs Q E hr h => ?_)
  · obtain ⟨v, n, rfl, _⟩ := h
    rfl
  · obtain ⟨v, n, rfl, kv, q⟩ := h
    refine ⟨_, (pss_cons (ps_if (PW.pt (pw_or (pt_not (pt_val (pe_callB (id := "isinstance") (isiA (K := K) rfl) (by rfl) z.b_isinstance (by decide +kernel) (pa_cons (pv 0) (pa_cons (pe_bltn (v := .ty "str") (by rfl) z.b_str (by decide +kernel) rfl) pa_nil))))) (pw_or1 (pt_not (pt_chain op_le op_le pe_int (pe_callB (id := "len") (lenA (K := K) rfl) (by rfl) z.b_len (by decide +kernel) (pa_cons (pv 0) pa_nil)) (pe_constI z.c_LONGEST_kinds rfl)))))) (pss_one (ps_ret pe_bl)) pss_nil)
        (pss_cons (ps_for PassesOwn.never rfl (pi_str (pv 0)) (pg_name (i := 1) sc_is_name.nd rfl (by first | exact Or.inl rfl | exact Or.inr rfl)) (pss_one (ps_if (pt_cmpR op_notIn_sign (pv 1) (pe_constS z.c_LETTERS rfl) (by rfl)) (pss_one (ps_ret pe_bl)) pss_nil)))
        (pss_one (ps_ret pe_bl)))), ?_⟩
    walk_at "cx"
    cases kv with
    | str x hx =>
      walk_at "ss"
      refine s_lenS hx ?_
      walk_at "ss"
      have no : ¬ (1 ≤ x.length ∧ x.length ≤ 8) → nameB x = false := fun h => by
        unfold nameB
        rw [decide_eq_false h]
        rfl
      refine i_d (fun h1 => ?_) (fun h1 => ?_)
      · walk_at "ss"
        refine i_n (fun h2 => ?_) (fun h2 => ?_)
        · walk_at "ss"
          have e : nameV (V.str x) = false := no fun z => h2 (by omega)
          rw [e] at q
          exact q
        · walk_at "ss"
          refine u_forS (fun i σ H' => (∀ c ∈ x.cps.toList.take i, c ∈ lettersS.cps.toList) ∧ ∃ x1 : Option V, σ = [some (.str x), x1] ∧ H' = H) ⟨fun c hc => by simp at hc, _, rfl, rfl⟩ (fun i c σ H' hc hh => ?_) (fun σ H' hh => ?_)
          · obtain ⟨g, x1, rfl, rfl⟩ := hh
            walk_at "ss"
            refine ⟨c, _, rfl, rfl, ?_⟩
            have hc' : x.cps.toList[i]? = some c := by rw [Array.getElem?_toList]; exact hc
            walk_at "ss"
            refine i_n (fun h3 => ?_) (fun h3 => ?_)
            · walk_at "ss"
              have e : nameV (V.str x) = false := by
                show nameB x = false
                unfold nameB
                rw [Bool.and_eq_false_iff]
                exact .inr (List.all_eq_false.mpr ⟨c, List.mem_of_getElem? hc', fun z => h3 (of_decide_eq_true z)⟩)
              rw [e] at q
              exact q
            · walk_at "ss"
              refine ⟨fun c' hc2 => ?_, _, rfl, rfl⟩
              rw [List.take_add_one, hc'] at hc2
              rcases List.mem_append.mp hc2 with hc2 | hc2
              · exact g c' hc2
              · rw [List.mem_singleton.mp hc2]
                exact h3
          · obtain ⟨g, x1, rfl, rfl⟩ := hh
            walk_at "ss"
            have e : nameV (V.str x) = true := by
              show nameB x = true
              unfold nameB
              rw [Bool.and_eq_true]
              refine ⟨decide_eq_true (by omega), List.all_eq_true.mpr fun c hc => decide_eq_true (g c ?_)⟩
              rw [← Array.length_toList, List.take_length]
              exact hc
            rw [e] at q
            exact q
      · walk_at "ss"
        have e : nameV (V.str x) = false := no fun z => h1 (by omega)
        rw [e] at q
        exact q
    | dct h =>
      walk_at "ss"
      refine s_isiDk h k_ds ?_
      walk_at "ss"
      exact q
    | _ =>
      walk_at "ss"
      exact q

/-! ### read_word -/
noncomputable def sp_read_word (K : PySem.W.Frag) : Sp := fun vs H Q _ => ∃ (c : Nat) (x : Str) (v : V), vs = [.str ⟨#[c]⟩, .str x] ∧ x.length ≤ 100000 ∧ wordF c x = some v ∧ Q v H
theorem has_read_word (z : Z K mg) (F : FunAt K mg "read_word" s_read_word ["sign", "word"]) (h_is_of : Has P w K mg base "is_of" 3 (sp_is_of K)) (h_read_number : Has P w K mg base "read_number" 1 (sp_read_number K)) (h_is_name : Has P w K mg base "is_name" 1 (sp_is_name K)) : Has P w K mg base "read_word" 4 (sp_read_word K) := by
  refine has_of F sc_read_word (fun vs H Q E h => ?_) (fun f cdv A outer s H vs Q E hr h => ?_)
  · obtain ⟨_, _, _, rfl, _⟩ := h
    rfl
  · obtain ⟨c, x, v, rfl, hx, hw, q⟩ := h
    refine ⟨_, (pss_cons (ps_if (PW.pt (pw_or (pt_cmpR (eqA (K := K) rfl hr.units) (pv 0) pe_str (nomark _)) (pw_or1 (pt_cmpR (eqA (K := K) rfl hr.units) (pv 0) pe_str (nomark _))))) (pss_cons (ps_if (pt_not (pt_val (pe_callH h_is_name (by decide) hr rfl (pa_cons (pv 1) pa_nil)))) (pss_one ps_never) pss_nil)
        (pss_one (ps_ret (pv 1)))) pss_nil)
        (pss_cons (ps_try_only (Wout := fun _ _ _ _ => False) rfl rfl ⟨rfl, by decide, Or.inl z.g_NoText⟩ takes0 (fun W pn xe tk pq => (pss_one (ps_set (i := 2) sc_read_word.nd rfl (by first | exact Or.inl rfl | exact Or.inr rfl) (pe_callH h_read_number (by decide) hr rfl (pa_cons (pv 1) pa_nil))))) (fun a oe cls d pn hz hf => (pss_one ps_never)))
        (pss_cons (ps_if (pt_not (pt_val (pe_callH h_is_of (by decide) hr rfl (pa_cons (pv 0) (pa_cons (pv 2) pa_nil))))) (pss_one ps_never) pss_nil)
        (pss_one (ps_ret (pv 2)))))), ?_⟩
    walk_at "cx"
    unfold wordF at hw
    have num : ¬ (c = 110 ∨ c = 116) → ∃ n : Int, x = numS n ∧ 0 ≤ n ∧ n < 1000000000000000000000000000000 ∧ isOfB c n = true ∧ v = .int n := fun h => by
      rw [if_neg h] at hw
      cases e : numO x with
      | none => rw [e] at hw; cases hw
      | some n =>
        rw [e] at hw
        have hw' : (if isOfB c n = true then some (V.int n) else none) = some v := hw
        split at hw'
        · rename_i b
          cases hw'
          obtain ⟨m, rfl, e1, n1⟩ := numO_num e
          exact ⟨m, e1, by omega, n1, b, rfl⟩
        · cases hw'
    walk_at "ts"
    refine i_d (fun h1 => ?_) (fun h1 => ?_)
    · rw [if_pos (.inl (chr_n.mp h1))] at hw
      split at hw
      · rename_i nb
        cases hw
        walk_at "ts"
        refine ⟨.str x, _, rfl, .str x hx, ?_⟩
        have e : nameV (.str x) = true := nb
        rw [e]
        walk_at "ts"
        exact q
      · cases hw
    · walk_at "ts"
      refine i_d (fun h2 => ?_) (fun h2 => ?_)
      · rw [if_pos (.inr (chr_t.mp h2))] at hw
        split at hw
        · rename_i nb
          cases hw
          walk_at "ts"
          refine ⟨.str x, _, rfl, .str x hx, ?_⟩
          have e : nameV (.str x) = true := nb
          rw [e]
          walk_at "ts"
          exact q
        · cases hw
      · obtain ⟨n, rfl, n0, n1, b, rfl⟩ := num fun z => z.elim (fun z => h1 (chr_n.mpr z)) fun z => h2 (chr_t.mpr z)
        walk_at "ts"
        refine ⟨n, rfl, n0, n1, ?_⟩
        walk_at "ts"
        refine ⟨c, n, rfl, ?_⟩
        rw [b]
        walk_at "ts"
        exact q

/-! ### read_line -/
noncomputable def sp_read_line (K : PySem.W.Frag) : Sp := fun vs H Q _ => ∃ (x w : Str) (l : List V) (Z : Hp), vs = [.str x] ∧ Ex Z H ∧ x.length ≤ 16000 ∧ lineO x = some (w, l) ∧
  ∀ p q Z' H', T [] Z H Z' H' → Z' p = some (.tup [.str w, .ref q]) → Z' q = some (.lst l) → Q (.ref p) H'
theorem has_read_line (z : Z K mg) (F : FunAt K mg "read_line" s_read_line ["line"]) (h_read_word : Has P w K mg base "read_word" 4 (sp_read_word K)) (k_FORMS : KFormAt w K mg "FORMS" formsL) : Has P w K mg base "read_line" 5 (sp_read_line K) := by
  refine has_of F sc_read_line (fun vs H Q E h => ?_) (fun f cdv A outer s H vs Q E hr h => ?_)
  · obtain ⟨_, _, _, _, rfl, _⟩ := h
    rfl
  · obtain ⟨x, w, l, Z, rfl, zh, hx, hL, q⟩ := h
    refine ⟨_, (pss_cons (ps_if (pt_not (pt_val (pe_callB (id := "isinstance") (isiA (K := K) rfl) (by rfl) z.b_isinstance (by decide +kernel) (pa_cons (pv 0) (pa_cons (pe_bltn (v := .ty "str") (by rfl) z.b_str (by decide +kernel) rfl) pa_nil))))) (pss_one ps_never) pss_nil)
        (pss_cons (ps_set (i := 1) sc_read_line.nd rfl (by first | exact Or.inl rfl | exact Or.inr rfl) (pe_m1 (r := rSplit) (pe_split (pv 0) pe_str)))
        (pss_cons (ps_set (i := 2) sc_read_line.nd rfl (by first | exact Or.inl rfl | exact Or.inr rfl) (pe_kget1 k_FORMS rfl (pe_ix (ixA (K := K) rfl) (pv 1) pe_int (fun _ _ => rfl)) ⟨rfl, rfl, rfl, rfl⟩))
        (Evl.pss_cut (ps_if (pt_cut (PW.pt (pw_and (pt_cmpR (inA (K := K) rfl) (pe_ix (ixA (K := K) rfl) (pv 1) pe_int (fun _ _ => rfl)) (pe_tup (pa_cons pe_str (pa_cons pe_str pa_nil))) (by rfl)) (pw_and1 (pt_chain op_le op_le pe_int (pe_callB (id := "len") (lenA (K := K) rfl) (by rfl) z.b_len (by decide +kernel) (pa_cons (pv 1) pa_nil)) (pe_op op_plusA (pe_constI z.c_COUNTS rfl) pe_int)))))) (pss_one (ps_set (i := 2) sc_read_line.nd rfl (by first | exact Or.inl rfl | exact Or.inr rfl) (pe_op op_plusA pe_str (pe_op op_mulS pe_str (pe_op op_sub (pe_callB (id := "len") (lenA (K := K) rfl) (by rfl) z.b_len (by decide +kernel) (pa_cons (pv 1) pa_nil)) pe_int))))) pss_nil)
        (pss_cons (ps_if (PW.pt (pw_or (pt_cmpR op_isNA (pv 2) pe_non (nomark _)) (pw_or1 (pt_cmpR (neA (K := K) rfl hr.units) (pe_op op_plusA (pe_callB (id := "len") (lenA (K := K) rfl) (by rfl) z.b_len (by decide +kernel) (pa_cons (pv 2) pa_nil)) pe_int) (pe_callB (id := "len") (lenA (K := K) rfl) (by rfl) z.b_len (by decide +kernel) (pa_cons (pv 1) pa_nil)) (nomark _))))) (pss_one ps_never) pss_nil)
        (pss_one (ps_ret (pe_tup (pa_cons (pe_ix (ixA (K := K) rfl) (pv 1) pe_int (fun _ _ => rfl)) (pa_cons (pe_lc (own := [("sign", 3), ("word", 4)]) (g := gTup K 2 (gCons (gName 3) (gCons (gName 4) gNil))) (tt := tYes) rfl sc_read_line.nd (pi_zipS (by rfl) z.b_zip (pa_cons (pv 2) (pa_cons (pe_slice (slA (K := K) rfl) (pv 1) (po_some pe_int) po_none) pa_nil))) (blkOk_by (own := [("sign", 3), ("word", 4)]) (N := ["line", "words", "form", "sign", "word"]) (sc := defScope s_read_line) (by decide +kernel)) (fun _ _ _ _ _ => (pg_tup rfl (pgs_cons (pg_name (i := 3) sc_read_line.nd rfl (by first | exact Or.inl rfl | exact Or.inr rfl)) (pgs_cons (pg_name (i := 4) sc_read_line.nd rfl (by first | exact Or.inl rfl | exact Or.inr rfl)) pgs_nil)))) (fun _ _ _ _ _ => pts_nil) (fun _ _ _ _ _ => (pe_callH h_read_word (by decide) hr rfl (pa_cons (pv 3) (pa_cons (pv 4) pa_nil))))) pa_nil)))))))))), ?_⟩
    walk_at "cx"
    walk_at "tys"
    refine s_m1 ?_
    walk_at "tys"
    refine n_m1 ?_
    walk_at "tys"
    refine t_split zh rfl (by omega) fun p Z1 H1 np t1 f1 => ?_
    have z1 := t1.zh
    unfold lineO at hL
    have sp : TR.Sep " " 32 := ⟨rfl, by decide +kernel⟩
    have ps := split_sum (x := x) sp
    have pl := fun p hp => split_part (x := x) (p := p) sp hp
    generalize Txt.split x " " = ws at hL f1 ps pl
    cases ws with
    | nil => cases hL
    | cons w0 r =>
      have hL : (match formO w0 (r.length + 1) with
        | some f => (match allO (List.zipWith wordF (TL.tl f) r) with
          | some l => some (w0, l)
          | none => none)
        | none => none) = some (w, l) := hL
      have rl : r.length ≤ 16000 := by
        have : (w0 :: r).length = r.length + 1 := rfl
        omega
      walk_at "tys"
      refine s_kget1 ?_
      walk_at "tys"
      refine n_kget ?_
      rw [kget_opt]
      walk_at "tys"
      obtain ⟨f, eF⟩ : ∃ f, formO w0 (r.length + 1) = some f := by
        cases e : formO w0 (r.length + 1) with
        | none => rw [e] at hL; cases hL
        | some f => exact ⟨f, rfl⟩
      rw [eF] at hL
      obtain ⟨eX, fl⟩ := formO_some eF
      have hA : allO (List.zipWith wordF (TL.tl f) r) = some l ∧ w0 = w := by
        have hL' : (match allO (List.zipWith wordF (TL.tl f) r) with
          | some l => some (w0, l)
          | none => none) = some (w, l) := hL
        cases e : allO (List.zipWith wordF (TL.tl f) r) with
        | none => rw [e] at hL'; cases hL'
        | some l2 => rw [e] at hL'; cases hL'; exact ⟨rfl, rfl⟩
      obtain ⟨hA, rfl⟩ := hA
      refine s_cut (fun σ' H' => ∃ x1 x2 Z', σ' = [some (.str x), some (.ref p), some (optSV (some f)), x1, x2] ∧ T [] Z H Z' H' ∧ Z' p = some (.lst ((w0 :: r).map V.str))) ?_ ?_
      · walk_at "tys"
        refine s_tcut (fun b H' => b = decide (spillW w0 (r.length + 1)) ∧ ∃ Z', T [] Z H Z' H' ∧ Z' p = some (.lst ((w0 :: r).map V.str))) ?_ ?_
        · walk_at "tys"
          rename_i p2 Z2 H2 n2 t2 f2
          have z2 := t2.zh
          have T2 := t1.step t2 mm_nil
          have g2 := t2.z _ _ f1
          refine s_inTS ["greatest", "least"] (st_of (z2 _ _ f2)) ?_
          walk_at "tys"
          have ln : (((w0 :: r).length : Nat) : Int) = (r.length : Int) + 1 := rfl
          refine i_d (fun c1 => ?_) (fun c1 => ?_)
          · walk_at "tys"
            refine i_d (fun c2 => ?_) (fun c2 => ?_)
            · walk_at "tys"
              exact ⟨decide_eq_decide.mpr ⟨fun h => ⟨c1, by omega, by omega⟩, fun h => by have := h.2.2; omega⟩, Z2, T2, g2⟩
            · exact ⟨false, rfl, (decide_eq_false (fun z => c2 (by have := z.2.1; omega))).symm, Z2, T2, g2⟩
          · exact ⟨(decide_eq_false (fun z => c1 z.1)).symm, Z2, T2, g2⟩
        · rintro b H2 ⟨rfl, Z2, t2, f2⟩
          have z2 := t2.zh
          walk_at "tys"
          refine i_d (fun c1 => ?_) (fun c1 => ?_)
          · have eX' : some ("wm" ++ cS (r.length + 1 - 3)) = some f := by
              have := eX
              unfold formX at this
              rw [if_pos c1] at this
              exact this
            cases eX'
            have ln : (((w0 :: r).length : Nat) : Int) = (r.length : Int) + 1 := rfl
            have c4 := c1.2.1
            walk_at "tys"
            refine s_mulC (by omega) (by omega) ?_
            have en : (((w0 :: r).length : Nat) - 3 : Int).toNat = r.length + 1 - 3 := by omega
            rw [en]
            refine s_plusS (by rw [cS_len]; have : ("wm" : Str).length = 2 := rfl; omega) ?_
            walk_at "tys"
            exact ⟨_, _, Z2, rfl, t2, f2⟩
          · have eX' : formsL.lookup w0 = some f := by
              have := eX
              unfold formX at this
              rw [if_neg c1] at this
              exact this
            rw [eX']
            walk_at "tys"
            exact ⟨_, _, Z2, rfl, t2, f2⟩
      · rintro σ' H' ⟨x1, x2, Z2, rfl, t2, f2⟩
        have z2 := t2.zh
        walk_at "tys"
        refine s_isN3 ?_
        have fll : f.length ≤ 100000 := by omega
        walk_at "tys"
        refine s_lenTx (by omega) ?_
        walk_at "tys"
        have ln : (((w0 :: r).length : Nat) : Int) = (r.length : Int) + 1 := rfl
        refine i_d (fun c => absurd (by omega) c) (fun _ => ?_)
        walk_at "tys"
        try (refine s_lcZS ?_)
        walk_at "tys"
        refine t_slW z2 f2 fun pr Z3 H3 n3 t3 f3 => ?_
        have z3 := t3.zh
        rw [cutI_from (w0 :: r) (show (0 : Int) ≤ 1 by decide)] at f3
        have f3 : Z3 pr = some (.lst (r.map V.str)) := f3
        walk_at "tys"
        refine ⟨f, pr, r.map V.str, rfl, form_asc eX, sq_of (z3 _ _ f3), ?_⟩
        have lf : (TL.tl f).length = (r.map V.str).length := by
          rw [List.length_map, ← TL.len_tl]
          omega
        refine c_zipXV (Er := fun _ => False) wordV z3 f3 lf (by rw [List.length_map]; omega) (fun i c u Tp Z4 H4 ec eu t4 fT A hAd _ => ?_) (fun D l' Z4 H4 nD hl t4 f4 => ?_) (fun h => ?_)
        · have z4 := t4.zh
          obtain ⟨x', hx', rfl⟩ : ∃ x', r[i]? = some x' ∧ u = .str x' := by
            rw [List.getElem?_map] at eu
            cases e : r[i]? with
            | none => rw [e] at eu; cases eu
            | some x' => rw [e] at eu; cases eu; exact ⟨x', rfl, rfl⟩
          have hl' : (List.zipWith wordF (TL.tl f) r)[i]? = some (wordF c x') := by
            rw [List.getElem?_zipWith, ec, hx']
          rw [allO_some hA, List.getElem?_map] at hl'
          obtain ⟨v, hw⟩ : ∃ v, wordF c x' = some v := by
            cases e : l[i]? with
            | none => rw [e] at hl'; cases hl'
            | some v => rw [e] at hl'; exact ⟨v, (Option.some.inj hl').symm⟩
          have xl := pl x' (List.mem_cons_of_mem _ (List.mem_of_getElem? hx'))
          refine s_gt2 (st_of (z4 _ _ fT)) ?_
          walk_at "tys"
          refine ⟨c, x', v, rfl, by omega, hw, ?_⟩
          exact hAd v Z4 H4 hw (T.refl z4)
        · rw [zip_wordV, hA] at hl
          cases hl
          have z4 := t4.zh
          walk_at "tys"
          rename_i p5 Z5 H5 n5 t5 f5
          exact q p5 D Z5 H5 (((t2.step t3 mm_nil).step t4 mm_nil).step t5 mm_nil) f5 (t5.z _ _ f4)
        · rw [zip_wordV, hA] at h
          cases h

/-! ### cut_rows -/
noncomputable def sp_cut_rows (K : PySem.W.Frag) : Sp := fun vs H Q _ => ∃ (wd : Int) (a : Addr) (Z Z0 : Hp) (es : TR.Row), vs = [.int wd, .ref a] ∧ Ex Z H ∧ Ex Z0 Z ∧ Ik Z0 (.ref a) es ∧ OneK es ∧ 1 ≤ wd ∧ wd ≤ 1000 ∧ es.length ≤ 39000 ∧
  ∀ (D : Addr) (ws : List Addr) Z' H', T [] Z H Z' H' → NewRs Z0 H Z' H' D ws (cutE wd.toNat (sortE es)) → Q (.ref D) H'
theorem has_cut_rows (z : Z K mg) (F : FunAt K mg "cut_rows" s_cut_rows ["wide", "entries"])  : Has P w K mg base "cut_rows" 1 (sp_cut_rows K) := by
  refine has_of F sc_cut_rows (fun vs H Q E h => ?_) (fun f cdv A outer s H vs Q E hr h => ?_)
  · obtain ⟨_, _, _, _, _, rfl, _⟩ := h
    rfl
  · obtain ⟨wd, a, Z, Z0, es, rfl, z0, z00, is, ok, w0, w1, le, q⟩ := h
    have okF : True → OneK es := fun _ => ok
    clear ok
    refine ⟨_, (pss_cons (ps_set (i := 2) sc_cut_rows.nd rfl (by first | exact Or.inl rfl | exact Or.inr rfl) (pe_callB (id := "sorted") (sortPSA (K := K) rfl) (by rfl) z.b_sorted (by decide +kernel) (pa_cons (pv 1) pa_nil)))
        (pss_one (ps_ret (pe_lc (own := [("at", 3)]) (g := gName 3) (tt := tYes) rfl sc_cut_rows.nd (pi_range3 (by rfl) z.b_range (pa_cons pe_int (pa_cons (pe_callB (id := "max") (call_max2A rfl) (by rfl) z.b_max (by decide +kernel) (pa_cons pe_int (pa_cons (pe_callB (id := "len") (lenA (K := K) rfl) (by rfl) z.b_len (by decide +kernel) (pa_cons (pv 2) pa_nil)) pa_nil))) (pa_cons (pv 0) pa_nil)))) (blkOk_by (own := [("at", 3)]) (N := ["wide", "entries", "rising", "at"]) (sc := defScope s_cut_rows) (by decide +kernel)) (fun _ _ _ _ _ => (pg_name (i := 3) sc_cut_rows.nd rfl (by first | exact Or.inl rfl | exact Or.inr rfl))) (fun _ _ _ _ _ => pts_nil) (fun _ _ _ _ _ => (pe_slice (slA (K := K) rfl) (pv 2) (po_some (pv 3)) (po_some (pe_op op_plusA (pv 3) (pv 0))))))))), ?_⟩
    walk_at "cx"
    walk_at "tys"
    refine t_sortedE0 z0 z00 is (okF trivial) fun p1 ws1 Z1 H1 n1 t1 f1 pr1 => ?_
    have ls1 : Ls Z1 p1 (sortE es) := ⟨ws1, f1, Paired.mapP pr1 fun v x g => Ik.ex (z00.trans t1.z) g⟩
    have l1 : (sortE es).length ≤ 39000 := by rw [sortE_len]; exact le
    have el : (((max 1 ((sortE es).length : Int)) - 1) / wd + 1).toNat = (cutE wd.toNat (sortE es)).length := by
      rw [cutE_len (by omega)]
      have h1 : max 1 ((sortE es).length : Int) - 1 = (((sortE es).length - 1 : Nat) : Int) := by omega
      have h3 : (((sortE es).length - 1 : Nat) : Int) / wd = ((((sortE es).length - 1) / wd.toNat : Nat) : Int) := by rw [Int.natCast_ediv, Int.toNat_of_nonneg (by omega)]
      rw [h1, h3]
      exact Int.toNat_natCast (((sortE es).length - 1) / wd.toNat + 1)
    have l2 : (cutE wd.toNat (sortE es)).length ≤ 39001 := by
      have := cutE_le (w := wd.toNat) (by omega) (sortE es)
      omega
    walk_at "tys"
    clear ls1
    refine c_rowsR3 (Z0 := Z0) (n := (cutE wd.toNat (sortE es)).length) (fun i => ((sortE es).drop (i * wd.toNat)).take wd.toNat) t1.zh (by rw [← el]; exact RgC.up w0 (by omega) (by omega) (by omega)) (by omega) (fun i hi Z2 H2 t2 A hA => ?_) (fun D ws Z2 H2 t2 nd fr al f2 pr2 => ?_)
    · walk_at "tys"
      refine t_slL t2.zh (sq_of ((t2.z.trans t2.zh) _ _ f1)) fun p3 Z3 H3 n3 t3 f3 => ?_
      have pc := paired_cut pr1 (some (0 + (i : Int) * wd)) (some (0 + (i : Int) * wd + wd))
      have h0 : (0 : Int) ≤ 0 + (i : Int) * wd := by
        have := Int.mul_nonneg (Int.natCast_nonneg i) (show 0 ≤ wd by omega)
        omega
      have e1 : (0 + (i : Int) * wd).toNat = i * wd.toNat := by
        have h2 : (wd : Int) = (wd.toNat : Int) := by omega
        rw [h2, Int.zero_add, ← Int.natCast_mul, Int.toNat_natCast, Int.toNat_natCast]
      have e4 : cutI (sortE es) (some (0 + (i : Int) * wd)) (some (0 + (i : Int) * wd + wd)) = ((sortE es).drop (i * wd.toNat)).take wd.toNat := by
        rw [cutI_mid _ h0 (by omega), e1, show (0 + (i : Int) * wd + wd).toNat - i * wd.toNat = wd.toNat by omega]
      rw [e4] at pc
      exact hA _ Z3 H3 t3 n3 ⟨_, f3, pc⟩
    · rw [cutE_map (by omega)] at pr2
      walk_at "tys"
      exact q D ws Z2 H2 (t1.step t2 mm_nil) ⟨nd, fun b hb => t1.nn (fr b hb), al, f2, pr2⟩

/-! ### yard_of -/
noncomputable def sp_yard_of (K : PySem.W.Frag) : Sp := fun vs H Q _ => ∃ (wd r : Int) (a : Addr) (Z : Hp) (es : TR.Row), vs = [.int wd, .int r, .ref a] ∧ Ex Z H ∧ Ik Z (.ref a) es ∧ Keys1 es ∧ 1 ≤ wd ∧ wd ≤ 1000 ∧ 1 ≤ r ∧ r ≤ 1000 ∧ es.length ≤ 39000 ∧
  ∀ (p D : Addr) (qs : List Addr) (Fs : List (List Addr)) Z' H', T [] Z H Z' H' → Z' p = some (.tup [.int wd, .int r, .ref D]) → Y4 Z' H' D qs Fs (cleanC wd.toNat r es) → (∀ b ∈ D :: (qs ++ Fs.flatten), H b = none) → Q (.ref p) H'
theorem has_yard_of (z : Z K mg) (F : FunAt K mg "yard_of" s_yard_of ["wide", "rooms", "entries"]) (h_cut_rows : Has P w K mg base "cut_rows" 1 (sp_cut_rows K)) (h_room_of : Has P w K mg base "room_of" 2 (sp_room_of K)) : Has P w K mg base "yard_of" 3 (sp_yard_of K) := by
  refine has_of F sc_yard_of (fun vs H Q E h => ?_) (fun f cdv A outer s H vs Q E hr h => ?_)
  · obtain ⟨_, _, _, _, _, rfl, _⟩ := h
    rfl
  · obtain ⟨wd, r, a, Z, es, rfl, z0, is, k1, w0, w1, r0, r1, le, q⟩ := h
    refine ⟨_, (pss_cons (ps_setLc (i := 3) (own := [("room", 5)]) (g := gName 5) (tt := tYes) rfl sc_yard_of.nd rfl rfl (sw_true rfl rfl rfl (by decide +kernel)) (pi_range1 (by rfl) z.b_range (pa_cons (pv 1) pa_nil)) (blkOk_by (own := [("room", 5)]) (N := ["wide", "rooms", "entries", "parts", "entry", "room", "part"]) (sc := defScope s_yard_of) (by decide +kernel)) (fun _ _ _ _ _ => (pg_name (i := 5) sc_yard_of.nd rfl (by first | exact Or.inl rfl | exact Or.inr rfl))) (fun _ _ _ _ _ => pts_nil) (fun _ _ _ _ _ => (pe_lst pa_nil)))
        (pss_cons (ps_for PassesOwn.never rfl (piL (K := K) rfl (pv 2)) (pg_name (i := 4) sc_yard_of.nd rfl (by first | exact Or.inl rfl | exact Or.inr rfl)) (pss_one (ps_expr (pe_bm PySem.F.plainAttrs_list PySem.F.slot_list_append PySem.F.type_list_append mt_append (pe_ix (ixA (K := K) rfl) (pv 3) (pe_callH h_room_of (by decide) hr rfl (pa_cons (pe_ix (ixA (K := K) rfl) (pv 4) pe_int (fun _ _ => rfl)) (pa_cons (pv 1) pa_nil))) (fun _ _ => rfl)) (pa_cons (pv 4) pa_nil)))))
        (pss_one (ps_ret (pe_tup (pa_cons (pv 0) (pa_cons (pv 1) (pa_cons (pe_lc (own := [("part", 6)]) (g := gName 6) (tt := tYes) rfl sc_yard_of.nd (piL (K := K) rfl (pv 3)) (blkOk_by (own := [("part", 6)]) (N := ["wide", "rooms", "entries", "parts", "entry", "room", "part"]) (sc := defScope s_yard_of) (by decide +kernel)) (fun _ _ _ _ _ => (pg_name (i := 6) sc_yard_of.nd rfl (by first | exact Or.inl rfl | exact Or.inr rfl))) (fun _ _ _ _ _ => pts_nil) (fun _ _ _ _ _ => (pe_callH h_cut_rows (by decide) hr rfl (pa_cons (pv 0) (pa_cons (pv 6) pa_nil))))) pa_nil)))))))), ?_⟩
    walk_at "cx"
    walk_at "tys"
    refine c_newR (α := Ent) z0 (by omega) (fun i hi Z1 H1 t1 A hA => ?_) (fun D qs Z1 H1 t1 y1 fr1 => ?_)
    · walk_at "tys"
      rename_i p2 Z2 H2 n2 t2 m2 f2
      exact hA p2 Z2 H2 t2 n2 m2 f2
    walk_at "tys"
    refine t_forL is (fun i σ H' => ∃ (x1 x2 x3 : Option V) (Z' : Hp), σ = [some (.int wd), some (.int r), some (.ref a), some (.ref D), x1, x2, x3] ∧ T (D :: qs) Z1 H1 Z' H' ∧ Y2 Z' H' D qs (partsL r (es.take i))) (fun i σ H' hh => ?_) ⟨_, _, _, Z1, rfl, T.refl t1.zh, by rw [List.take_zero, partsL_nil]; exact y1⟩ (fun i v e σ H' he iv hh => ?_) (fun σ H' hh => ?_)
    · obtain ⟨x1, x2, x3, Z2, _, t2, _⟩ := hh
      exact (t1.z.trans t2.z).trans t2.zh
    · obtain ⟨x1, x2, x3, Z2, rfl, t2, y2⟩ := hh
      have iv2 : Ik Z2 v e := Ik.tt t2 (Ik.tt t1 iv)
      have e1 : es.take (i + 1) = es.take i ++ [e] := by rw [List.take_add_one, he]; rfl
      obtain ⟨p, hp, lp, ep⟩ := partsL_snoc r0 (es.take i) e
      obtain ⟨g0, g1⟩ := roomOf_range (key := e.1) r0
      obtain ⟨q1, hq1⟩ : ∃ q1, qs[(roomOf e.1 r).toNat]? = some q1 := ⟨_, List.getElem?_eq_getElem (by rw [y2.len, partsL_len]; omega)⟩
      have lt : (es.take i).length ≤ 39000 := by rw [List.length_take]; omega
      walk_at "tys"
      refine ⟨e.1, r, rfl, r0, ?_⟩
      walk_at "tys"
      refine y2.ix g0 hq1 ?_
      walk_at "tys"
      obtain ⟨_, _, us, hus, _⟩ := y2.at hq1
      refine s_tyL (sq_of hus) ?_
      walk_at "tys"
      refine y2.push hq1 hp iv2 (by omega) fun Z3 H3 t3 y3 => ?_
      walk_at "tys"
      exact ⟨_, _, _, Z3, rfl, t2.step t3 (mm_1 (.inl (List.mem_cons_of_mem _ (List.mem_of_getElem? hq1)))), by rw [e1, ← ep]; exact y3⟩
    · obtain ⟨x1, x2, x3, Z2, rfl, t2, y2⟩ := hh
      rw [List.take_length] at y2
      obtain ⟨Z3, H3, e3, t3, ls3⟩ := y2.frq
      rw [← e3]
      clear e3
      have t03 : T [] Z H Z3 H3 := (t1.step t2 fun x hx => .inr (fr1 x hx)).step t3 fun x hx => .inr (fr1 x hx)
      walk_at "tys"
      refine c_roomsY (Z0 := Z3) (fun p : TR.Row => cutE wd.toNat (sortE p)) t03.zh (Ex.refl _) ls3.is (by rw [partsL_len]; omega) (fun v p hp ip Z4 H4 t4 A hA => ?_) (fun D4 qs4 Fs4 Z4 H4 t4 y4 fr4 => ?_)
      · have sp := partsL_mem hp
        obtain ⟨pb, rfl, ip⟩ := ip.ref_of
        walk_at "tys"
        exact ⟨wd, pb, Z4, Z3, p, rfl, t4.zh, t4.z, ip, (k1.sub sp).one, w0, w1, by have := sp.length_le; omega, fun D5 ws5 Z5 H5 t5 nr5 => hA _ ws5 Z5 H5 t5 nr5⟩
      · rw [partsL_clean] at y4
        walk_at "tys"
        rename_i p5 Z5 H5 n5 t5 f5
        exact q p5 D4 qs4 Fs4 Z5 H5 ((t03.step t4 mm_nil).step t5 mm_nil) f5 (y4.tt0 t5) fun b hb => t03.nn (fr4 b hb)

/-! ### NoSize.__init__ -/
theorem has_NoSize___init (z : Z K mg) (T : ExF K mg "NoSize" "thing") (F : ExAt K "NoSize" "NoSize.__init__" s_NoSize___init ["self", "thing"]) : HasE P w K mg base "NoSize" "thing" 1 := by
  refine has_ofE T F sc_NoSize___init (fun vs H Q E h => ?_) (fun f cdv A outer s H vs Q E hr h => ?_)
  · obtain ⟨_, _, _, rfl, _⟩ := h
    rfl
  · obtain ⟨a, C, v, rfl, o, n, ha, q⟩ := h
    refine ⟨_, (pss_cons (ps_expr (pe_teinit z.t_TailError rfl (pa_cons (pv 0) (pa_cons pe_str pa_nil))))
        (pss_one (ps_ost (pv 0) (pv 1)))), ?_⟩
    walk_at "cx"
    walk_at "ss"
    refine s_ve ?_
    walk_at "ss"
    refine n_ve o ha (by show 1 ≤ 1000; decide) ?_
    walk_at "ss"
    refine s_os ?_
    walk_at "ss"
    exact n_os o n ha q

/-! ### need_sizes -/
noncomputable def sp_need_sizes (K : PySem.W.Frag) : Sp := fun vs H Q E => ∃ (v u : V) (n m : String), vs = [v, u] ∧ KindV K H v n ∧ KindV K H u m ∧ (sizeV v = true → sizeV u = true → ∀ H', Ex H H' → Q .non H') ∧
  (sizeV v = false → ∀ H' d, Ex H H' → H' d = none → E (.ref (clsA K "NoSize")) (some d) (upd H' d (.xd [("thing", v)]))) ∧
  (sizeV v = true → sizeV u = false → ∀ H' d, Ex H H' → H' d = none → E (.ref (clsA K "NoSize")) (some d) (upd H' d (.xd [("thing", u)])))
theorem has_need_sizes (z : Z K mg) (F : FunAt K mg "need_sizes" s_need_sizes ["wide", "fill"]) (h_is_size : Has P w K mg base "is_size" 2 (sp_is_size K)) (e_NoSize : HasE P w K mg base "NoSize" "thing" 1) : HasX P w K mg base "need_sizes" 3 (sp_need_sizes K) := by
  refine has_ofX F sc_need_sizes (fun vs H Q E h => ?_) (fun f cdv A outer s H vs Q E hr h => ?_)
  · obtain ⟨v, u, n, m, rfl, _⟩ := h
    rfl
  · obtain ⟨v, u, n, m, rfl, kv, ku, q1, q2, q3⟩ := h
    refine ⟨_, (pss_one (ps_for (passes_of rfl) rfl (piT (K := K) rfl (pe_tup (pa_cons (pv 0) (pa_cons (pv 1) pa_nil)))) (pg_name (i := 2) sc_need_sizes.nd rfl (by first | exact Or.inl rfl | exact Or.inr rfl)) (pss_one (ps_if (pt_not (pt_val (pe_callH h_is_size (by decide) hr rfl (pa_cons (pv 2) pa_nil)))) (pss_one (ps_raiseX (takes_of rfl rfl rfl rfl) e_NoSize (Nat.le_refl _) (hr.mono (by decide)) rfl rfl (pa_cons (pv 2) pa_nil))) pss_nil)))), ?_⟩
    walk_at "cx"
    have z0 : Ex H H := Ex.refl _
    walk_at "txs"
    rename_i p Z1 H1 n1 t1 f1
    have e1 : Ex H H1 := t1.z.trans t1.zh
    refine u_forT (fun i σ H' => i ≤ 2 ∧ (1 ≤ i → sizeV v = true) ∧ (2 ≤ i → sizeV u = true) ∧ ∃ x1 : Option V, σ = [some v, some u, x1] ∧ H' = H1) (st_of (t1.zh _ _ f1)) ⟨by omega, fun h => by omega, fun h => by omega, _, rfl, rfl⟩ (fun i σ H' _ hh => by
      obtain ⟨_, _, _, _, _, rfl⟩ := hh
      exact st_of (t1.zh _ _ f1)) (fun i x σ H' hx hh => ?_) (fun σ H' hh => ?_)
    · obtain ⟨i2, s1, s2, x1, rfl, rfl⟩ := hh
      match i, hx with
      | 0, hx =>
        cases hx
        walk_at "txs"
        refine ⟨_, _, rfl, kv.ex e1, ?_⟩
        cases c : sizeV v with
        | true =>
          walk_at "txs"
          exact ⟨by omega, fun _ => rfl, fun h => by omega, _, rfl, rfl⟩
        | false =>
          walk_at "txs"
          exact q2 c _ _ e1 (by assumption)
      | 1, hx =>
        cases hx
        walk_at "txs"
        refine ⟨_, _, rfl, ku.ex e1, ?_⟩
        cases c : sizeV u with
        | true =>
          walk_at "txs"
          exact ⟨by omega, fun _ => s1 (Nat.le_refl _), fun h => rfl, _, rfl, rfl⟩
        | false =>
          walk_at "txs"
          exact q3 (s1 (Nat.le_refl _)) c _ _ e1 (by assumption)
    · obtain ⟨i2, s1, s2, x1, rfl, rfl⟩ := hh
      walk_at "txs"
      exact q1 (s1 (by show 1 ≤ 2; omega)) (s2 (by show 2 ≤ 2; omega)) _ e1

/-! ### Keeper.__init__ -/
noncomputable abbrev sp_Keeper___init (K : PySem.W.Frag) : Sp := spKInit K
theorem has_Keeper___init (z : Z K mg) (F : MakeAt K mg "Keeper" "Keeper.__init__" s_Keeper___init ["self", "wide", "fill"]) (h_yard_of : Has P w K mg base "yard_of" 3 (sp_yard_of K)) (h_need_sizes : HasX P w K mg base "need_sizes" 3 (sp_need_sizes K)) : HasK P w K mg base "Keeper" 4 (sp_Keeper___init K) := by
  refine has_ofK F sc_Keeper___init (fun vs H Q E h => ?_) (fun f cdv A outer s H vs Q E hr h => ?_)
  · obtain ⟨_, _, _, _, _, _, _, rfl, _⟩ := h
    rfl
  · obtain ⟨a, dx, v, u, n, m, Z, rfl, ha, z0, za, kv, ku, q1, q2, q3⟩ := h
    refine ⟨_, (pss_cons (ps_expr (pe_callX (pxT (takes_of rfl rfl rfl rfl)) h_need_sizes (by decide) hr rfl (pa_cons (pv 1) (pa_cons (pv 2) pa_nil))))
        (pss_cons (ps_fld (pv 0) (pv 1) rfl)
        (pss_cons (ps_fld (pv 0) (pv 2) rfl)
        (pss_cons (ps_fld (pv 0) (pe_callH h_yard_of (by decide) hr rfl (pa_cons (pv 1) (pa_cons pe_int (pa_cons (pe_lst pa_nil) pa_nil)))) rfl)
        (pss_one (ps_fld (pv 0) (pe_lst pa_nil) rfl)))))), ?_⟩
    walk_at "cx"
    walk_at "txs"
    refine ⟨v, u, n, m, rfl, kv, ku, fun s1 s2 H1 e1 => ?_, q2, q3⟩
    obtain ⟨w, rfl, w0⟩ := size_intK s1
    obtain ⟨f, rfl, f0⟩ := size_intK s2
    have ha1 := e1 _ _ ha
    have t1 : T [a] Z H Z H1 := T.ofEx e1 z0
    walk_at "txs"
    refine n_fset ha1 (by walk_at "ck") (by walk_at "fl") (by show 0 < 1000; decide) ?_
    have t2 : T [a] Z H1 Z (upd H1 a (.ins (clsA K "Keeper") dx [("wide", .int w)])) := T.set ⟨za, _, ha1⟩ t1.zh
    have ha2 : upd H1 a (.ins (clsA K "Keeper") dx [("wide", .int w)]) a = some (.ins (clsA K "Keeper") dx [("wide", .int w)]) := upd_same
    have t02 := t1.step t2 mm_same
    show tSeq _ _ _ _ (upd H1 a (.ins (clsA K "Keeper") dx [("wide", .int w)]))
    revert ha2 t02
    generalize upd H1 a (.ins (clsA K "Keeper") dx [("wide", .int w)]) = H2
    intro ha2 t02
    clear t1 t2 ha1 e1
    walk_at "txs"
    refine n_fset ha2 (by walk_at "ck") (by walk_at "fl") (by show 1 < 1000; decide) ?_
    have t2 : T [a] Z H2 Z (upd H2 a (.ins (clsA K "Keeper") dx [("wide", .int w), ("fill", .int f)])) := T.set ⟨za, _, ha2⟩ t02.zh
    have ha3 : upd H2 a (.ins (clsA K "Keeper") dx [("wide", .int w), ("fill", .int f)]) a = some (.ins (clsA K "Keeper") dx [("wide", .int w), ("fill", .int f)]) := upd_same
    have t03 := t02.step t2 mm_same
    show tSeq _ _ _ _ (upd H2 a (.ins (clsA K "Keeper") dx [("wide", .int w), ("fill", .int f)]))
    revert ha3 t03
    generalize upd H2 a (.ins (clsA K "Keeper") dx [("wide", .int w), ("fill", .int f)]) = H3
    intro ha3 t03
    clear t2 t02 ha2
    have z3 := t03.zh
    walk_at "txs"
    rename_i p4 Z4 H4 n4 t4 m4 f4
    obtain ⟨Z5, H5, e5, t5, f5⟩ : ∃ Z5 H5, H5 = H4 ∧ T [p4] Z4 H4 Z5 H5 ∧ Z5 p4 = some (.lst []) := ⟨_, H4, rfl, T.fz t4.zh m4.z f4, upd_same⟩
    rw [← e5]
    clear e5
    have nap : a ≠ p4 := ne_alB n4 ⟨_, ha3⟩
    have ha5 := t5.hp (nm_cons nap nm_nil) (t4.hp nm_nil ha3)
    have mu5 := t5.mu (nm_cons nap nm_nil) (t4.mu nm_nil ⟨za, _, ha3⟩)
    have t05 := t03.step (t4.step t5 (mm_1 (.inr n4))) mm_nil
    have i5 : Ik Z5 (.ref p4) ([] : TR.Row) := Ik.nil f5
    clear t4 t5 t03 z3 m4 f4
    refine ⟨w, 1, p4, Z5, [], rfl, t05.zh, i5, List.nodup_nil, w0.1, by omega, by omega, by omega, Nat.zero_le _, fun p6 D6 qs6 Fs6 Z6 H6 t6 f6 y6 fr6 => ?_⟩
    obtain ⟨Z7, H7, e7, t7, i7⟩ := Y4.frY (y := cleanY w 1 []) y6 f6
    rw [← e7]
    clear e7
    have na7 : a ∉ D6 :: (qs6 ++ Fs6.flatten) := fun z => by
      have := fr6 a z
      rw [ha5] at this
      cases this
    have ha7 := t7.hp na7 (t6.hp nm_nil ha5)
    have mu7 := t7.mu na7 (t6.mu nm_nil mu5)
    have t07 := t05.step (t6.step t7 fun x hx => .inr (fr6 x hx)) mm_nil
    clear t6 t7 t05 y6 f6 ha5 mu5
    walk_at "txs"
    refine n_fset ha7 (by walk_at "ck") (by walk_at "fl") (by show 2 < 1000; decide) ?_
    have t8 : T [a] Z7 H7 Z7 (upd H7 a (.ins (clsA K "Keeper") dx [("wide", .int w), ("fill", .int f), ("now", .ref p6)])) := T.set mu7 t07.zh
    have ha8 : upd H7 a (.ins (clsA K "Keeper") dx [("wide", .int w), ("fill", .int f), ("now", .ref p6)]) a = some (.ins (clsA K "Keeper") dx [("wide", .int w), ("fill", .int f), ("now", .ref p6)]) := upd_same
    have mu8 : Mu Z7 (upd H7 a (.ins (clsA K "Keeper") dx [("wide", .int w), ("fill", .int f), ("now", .ref p6)])) a := ⟨mu7.z, _, ha8⟩
    have t08 := t07.step t8 mm_same
    revert ha8 t08 mu8
    show upd H7 a (.ins (clsA K "Keeper") dx [("wide", .int w), ("fill", .int f), ("now", .ref p6)]) a = _ → _ → _ → sFld K _ _ _ _ _ (upd H7 a (.ins (clsA K "Keeper") dx [("wide", .int w), ("fill", .int f), ("now", .ref p6)]))
    generalize upd H7 a (.ins (clsA K "Keeper") dx [("wide", .int w), ("fill", .int f), ("now", .ref p6)]) = H8
    intro ha8 mu8 t08
    clear t8 t07 ha7 mu7
    have z8 := t08.zh
    walk_at "txs"
    rename_i p9 Z9 H9 n9 t9 m9 f9
    have ha9 := t9.hp nm_nil ha8
    have mu9 := t9.mu nm_nil mu8
    refine n_fset ha9 (by walk_at "ck") (by walk_at "fl") (by show 3 < 1000; decide) ?_
    have na : a ≠ p9 := ne_alB n9 ⟨_, ha8⟩
    have t10 : T [a] Z9 H9 Z9 (upd H9 a (.ins (clsA K "Keeper") dx (kfs w f (.ref p6) p9))) := T.set mu9 t9.zh
    walk_at "txs"
    exact q1 w f rfl rfl w0 f0 p9 Z9 _ ((t08.step t9 mm_nil).step t10 mm_same) (t08.nn n9) ⟨⟨dx, _, upd_same, Ik.tt t9 i7⟩, (Lm.of0 m9 t9.zh f9).tt t10 (nm_cons na.symm nm_nil), mu9.z, na, w0, f0, rfl⟩

/-! ### NoName.__init__ -/
theorem has_NoName___init (z : Z K mg) (T : ExF K mg "NoName" "name") (F : ExAt K "NoName" "NoName.__init__" s_NoName___init ["self", "name"]) : HasE P w K mg base "NoName" "name" 1 := by
  refine has_ofE T F sc_NoName___init (fun vs H Q E h => ?_) (fun f cdv A outer s H vs Q E hr h => ?_)
  · obtain ⟨_, _, _, rfl, _⟩ := h
    rfl
  · obtain ⟨a, C, v, rfl, o, n, ha, q⟩ := h
    refine ⟨_, (pss_cons (ps_expr (pe_teinit z.t_TailError rfl (pa_cons (pv 0) (pa_cons pe_str pa_nil))))
        (pss_one (ps_ost (pv 0) (pv 1)))), ?_⟩
    walk_at "cx"
    walk_at "ss"
    refine s_ve ?_
    walk_at "ss"
    refine n_ve o ha (by show 1 ≤ 1000; decide) ?_
    walk_at "ss"
    refine s_os ?_
    walk_at "ss"
    exact n_os o n ha q

/-! ### Taken.__init__ -/
theorem has_Taken___init (z : Z K mg) (T : ExF K mg "Taken" "name") (F : ExAt K "Taken" "Taken.__init__" s_Taken___init ["self", "name"]) : HasE P w K mg base "Taken" "name" 1 := by
  refine has_ofE T F sc_Taken___init (fun vs H Q E h => ?_) (fun f cdv A outer s H vs Q E hr h => ?_)
  · obtain ⟨_, _, _, rfl, _⟩ := h
    rfl
  · obtain ⟨a, C, v, rfl, o, n, ha, q⟩ := h
    refine ⟨_, (pss_cons (ps_expr (pe_teinit z.t_TailError rfl (pa_cons (pv 0) (pa_cons pe_str pa_nil))))
        (pss_one (ps_ost (pv 0) (pv 1)))), ?_⟩
    walk_at "cx"
    walk_at "ss"
    refine s_ve ?_
    walk_at "ss"
    refine n_ve o ha (by show 1 ≤ 1000; decide) ?_
    walk_at "ss"
    refine s_os ?_
    walk_at "ss"
    exact n_os o n ha q

/-! ### Desk.say -/
noncomputable def sp_Desk_say (K : PySem.W.Frag) : Sp := fun vs H Q _ => ∃ (d kp : Addr) (x w : Str) (l : List V) (kvs : List (L2.Key × V)) (Z : Hp), vs = [.ref d, .str x] ∧ Dsk K Z H d kp kvs ∧ x.length ≤ 16000 ∧ lineO x = some (w, l) ∧
  ((∃ y, PlainA w l y ∧ ∀ Z' H', TR.T [] Z H Z' H' → Q (.str y) H') ∨
    (w = "keep" ∧ l = [.str "where", .int 1, .int 1] ∧ kvs = [] ∧ ∀ kvs' Z' H', TR.T [kp] Z H Z' H' → Dsk K Z' H' d kp kvs' → Q (.str "ok") H'))
theorem has_Desk_say (z : Z K mg) (F : MethAt K "Desk" "say" "Desk.say" s_Desk_say ["self", "line"]) (h_asked_answer : Has P w K mg base "asked_answer" 1 (sp_asked_answer K)) (h_deed_answer : Has P w K mg base "deed_answer" 1 (sp_deed_answer K)) (h_plain_answer : Has P w K mg base "plain_answer" 5 (sp_plain_answer K)) (h_read_line : Has P w K mg base "read_line" 5 (sp_read_line K)) (mk_Keeper : HasK P w K mg base "Keeper" 4 (sp_Keeper___init K)) (e_NoName : HasE P w K mg base "NoName" "name" 1) (e_Taken : HasE P w K mg base "Taken" "name" 1) (k_FORMS : KFormAt w K mg "FORMS" formsL) : HasM P w K mg base "Desk" "say" 6 (sp_Desk_say K) := by
  refine has_ofM F sc_Desk_say (fun vs H Q E h => ?_) (fun f cdv A outer s H vs Q E hr h => ?_)
  · obtain ⟨_, _, _, _, _, _, _, rfl, _⟩ := h
    rfl
  · obtain ⟨d, kp, x, w, l, kvs, Z, rfl, dk, hx, hL, hq⟩ := h
    refine ⟨_, (pss_cons (ps_asg (pe_callH h_read_line (by decide) hr rfl (pa_cons (pv 1) pa_nil)) (pg_tup rfl (pgs_cons (pg_name (i := 2) sc_Desk_say.nd rfl (by first | exact Or.inl rfl | exact Or.inr rfl)) (pgs_cons (pg_name (i := 3) sc_Desk_say.nd rfl (by first | exact Or.inl rfl | exact Or.inr rfl)) pgs_nil))))
        (pss_cons (ps_if (pt_cmpR (neA (K := K) rfl hr.units) (pe_ix (ixA (K := K) rfl) (pe_kget2 k_FORMS rfl (pv 2) pe_str ⟨rfl, rfl, rfl, rfl⟩) pe_int (fun _ _ => rfl)) pe_str (nomark _)) (pss_one (ps_ret (pe_callH h_plain_answer (by decide) hr rfl (pa_cons (pv 2) (pa_cons (pv 3) pa_nil))))) pss_nil)
        (pss_cons (ps_set (i := 4) sc_Desk_say.nd rfl (by first | exact Or.inl rfl | exact Or.inr rfl) (pe_ix (ixA (K := K) rfl) (pv 3) pe_int (fun _ _ => rfl)))
        (pss_cons (ps_if (pt_cmpR (eqA (K := K) rfl hr.units) (pv 2) pe_str (nomark _)) (pss_cons (ps_if (pt_cmp (pc_din (hu_of hr) (pv 4) (pe_fldK (K := K) rfl (pv 0) rfl))) (pss_one (ps_raiseX (takes_of rfl rfl rfl rfl) e_Taken (Nat.le_refl _) (hr.mono (by decide)) rfl rfl (pa_cons (pv 4) pa_nil))) pss_nil)
        (pss_cons (ps_dput (hu_of hr) (pe_fldK (K := K) rfl (pv 0) rfl) (pv 4) (pe_makeX (pass_T (takes_of rfl rfl rfl rfl)) mk_Keeper (Nat.le_refl _) (hr.mono (by decide)) rfl (pa_cons (pe_ix (ixA (K := K) rfl) (pv 3) pe_int (fun _ _ => rfl)) (pa_cons (pe_ix (ixA (K := K) rfl) (pv 3) pe_int (fun _ _ => rfl)) pa_nil))) rfl)
        (pss_one (ps_ret pe_str)))) pss_nil)
        (pss_cons (ps_if (pt_cmp (pc_dnotin (hu_of hr) (pv 4) (pe_fldK (K := K) rfl (pv 0) rfl))) (pss_one (ps_raiseX (takes_of rfl rfl rfl rfl) e_NoName (Nat.le_refl _) (hr.mono (by decide)) rfl rfl (pa_cons (pv 4) pa_nil))) pss_nil)
        (pss_cons (ps_set (i := 5) sc_Desk_say.nd rfl (by first | exact Or.inl rfl | exact Or.inr rfl) (pe_callH h_deed_answer (by decide) hr rfl (pa_cons (pe_dget (hu_of hr) (pe_fldK (K := K) rfl (pv 0) rfl) (pv 4) (fun _ _ => rfl)) (pa_cons (pv 2) (pa_cons (pe_slice (slA (K := K) rfl) (pv 3) (po_some pe_int) po_none) pa_nil)))))
        (pss_cons (ps_if (pt_cmpR op_isNA (pv 5) pe_non (nomark _)) (pss_one (ps_ret (pe_callH h_asked_answer (by decide) hr rfl (pa_cons (pe_dget (hu_of hr) (pe_fldK (K := K) rfl (pv 0) rfl) (pv 4) (fun _ _ => rfl)) (pa_cons (pv 2) (pa_cons (pe_slice (slA (K := K) rfl) (pv 3) (po_some pe_int) po_none) pa_nil)))))) pss_nil)
        (pss_one (ps_ret (pv 5)))))))))), ?_⟩
    walk_at "cx"
    have zh := dk.zh
    walk_at "txs"
    refine ⟨x, w, l, Z, rfl, zh, hx, hL, fun p pl Z1 H1 t1 f1 g1 => ?_⟩
    have z1 := t1.zh
    have dk1 := dk.tt0 t1
    walk_at "txs"
    refine s_gt2 (st_of (z1 _ _ f1)) ?_
    walk_at "txs"
    refine s_kget2 ?_
    walk_at "txs"
    refine n_kget ?_
    rcases hq with ⟨y, hp, q⟩ | ⟨rfl, rfl, rfl, q⟩
    · obtain ⟨s0, es, e0, sl, nk⟩ := plain_form hp
      rw [es]
      walk_at "txs"
      refine s_ixSign (by decide) e0 (by omega) ?_
      walk_at "txs"
      refine ⟨w, pl, l, y, Z1, rfl, z1, g1, hp, fun Z2 H2 t2 => ?_⟩
      walk_at "txs"
      exact q Z2 H2 (t1.step t2 mm_nil)
    · have es : kget formsL "keep" (.str "k") = .str "ngg" := rfl
      rw [es]
      obtain ⟨dx, hd, zd, hk, zk, nd, _⟩ := id dk1
      walk_at "txs"
      refine s_ixSign (c := 110) (by decide) rfl (by decide) ?_
      walk_at "txs"
      refine ⟨kp, _, rfl, DGet.k (k := Sum.inr "where") hk, ?_⟩
      rw [show (valV ([] : List (L2.Key × V)) (Sum.inr "where")).isSome = false from rfl]
      walk_at "txs"
      refine t_keeper (w := 1) (f := 1) z1 ⟨by decide, by decide⟩ ⟨by decide, by decide⟩ fun a P Z2 H2 na nP t2 kp2 => ?_
      have z2 := t2.zh
      have dk2 := dk1.tt0 t2
      clear hd zd hk zk nd
      obtain ⟨dx2, hd, zd, hk, zk, nd, _⟩ := id dk2
      walk_at "txs"
      refine ⟨kp, _, rfl, DPut.k (k := Sum.inr "where") hk (by show 1 ≤ sizeLine; decide), ?_⟩
      obtain ⟨t3, dk3⟩ := dk2.put (putK [] (Sum.inr "where") (.ref a))
      walk_at "txs"
      exact q _ Z2 _ (((T.refl zh : TR.T [kp] Z H Z H).step t1 mm_nil).step t2 mm_nil |>.step t3 mm_same) dk3

/-! ### _law_said -/
noncomputable def sp_law_said (K : PySem.W.Frag) : Sp := fun vs H Q _ => ∃ (d kp : Addr) (x w : Str) (l : List V) (kvs : List (L2.Key × V)) (Z : Hp), vs = [.ref d, .str x] ∧ Dsk K Z H d kp kvs ∧ x.length ≤ 16000 ∧ lineO x = some (w, l) ∧
  ((∃ y, PlainA w l y ∧ ∀ p Z' H', TR.T [] Z H Z' H' → Z' p = some (.tup [.str "told", .str y]) → Q (.ref p) H') ∨
    (w = "keep" ∧ l = [.str "where", .int 1, .int 1] ∧ kvs = [] ∧ ∀ p kvs' Z' H', TR.T [kp] Z H Z' H' → Dsk K Z' H' d kp kvs' → Z' p = some (.tup [.str "told", .str "ok"]) → Q (.ref p) H'))
theorem has_law_said (z : Z K mg) (F : FunAt K mg "_law_said" s_law_said ["_law_desk", "_law_line"]) (h_law_what : HasV P w K mg base "_law_what" 1 (sp_law_what K)) (hm_Desk_say : HasM P w K mg base "Desk" "say" 6 (sp_Desk_say K)) : Has P w K mg base "_law_said" 7 (sp_law_said K) := by
  refine has_of F sc_law_said (fun vs H Q E h => ?_) (fun f cdv A outer s H vs Q E hr h => ?_)
  · obtain ⟨_, _, _, _, _, _, _, rfl, _⟩ := h
    rfl
  · obtain ⟨d, kp, x, w, l, kvs, Z, rfl, dk, hx, hL, hq⟩ := h
    refine ⟨_, (pss_cons (ps_try_cls (Wout := fun _ _ _ _ => False) rfl rfl sc_law_said.nd takes0 (fun W pn xe tk pq => (pss_one (ps_set (i := 3) sc_law_said.nd rfl (by first | exact Or.inl rfl | exact Or.inr rfl) (pe_methK (K := K) rfl (pxT tk) z.k_Desk hm_Desk_say (by decide) hr (pv 0) (pa_cons (pv 1) pa_nil))))) (ClsOk.cons (ClOk.named (i := 2) ⟨rfl, by decide, Or.inl z.g_TailError⟩ rfl rfl (fun a oe cls d pn hz hf => (pss_one (ps_ret (pe_callSx hz hf h_law_what hr (by decide) rfl (pv 2)))))) ClsOk.nil))
        (pss_one (ps_ret (pe_tup (pa_cons (pe_ix (ixA (K := K) rfl) (pe_lst (pa_cons pe_str (pa_cons pe_str pa_nil))) (pe_callTy (T := "int") call_int1A (by rfl) z.b_int (by decide +kernel) (pa_cons (pe_callB (id := "isinstance") (isiA (K := K) rfl) (by rfl) z.b_isinstance (by decide +kernel) (pa_cons (pv 3) (pa_cons (pe_bltn (v := .ty "str") (by rfl) z.b_str (by decide +kernel) rfl) pa_nil))) pa_nil)) (fun _ _ => rfl)) (pa_cons (pv 3) pa_nil)))))), ?_⟩
    walk_at "cx"
    have zh := dk.zh
    obtain ⟨dx, hd, zd, hk, zk, nd, _⟩ := id dk
    walk_at "txs"
    refine ⟨d, kp, x, w, l, kvs, Z, rfl, dk, hx, hL, ?_⟩
    rcases hq with ⟨y, hp, q⟩ | ⟨rfl, rfl, rfl, q⟩
    · refine .inl ⟨y, hp, fun Z1 H1 t1 => ?_⟩
      walk_at "txs"
      rename_i p4 Z4 H4 n4 t4 f4 p5 Z5 H5 n5 t5 f5
      exact q p5 Z5 H5 ((t1.step t4 mm_nil).step t5 mm_nil) f5
    · refine .inr ⟨rfl, rfl, rfl, fun kvs' Z1 H1 t1 dk1 => ?_⟩
      walk_at "txs"
      rename_i p4 Z4 H4 n4 t4 f4 p5 Z5 H5 n5 t5 f5
      exact q p5 kvs' Z5 H5 ((t1.step t4 mm_nil).step t5 mm_nil) ((dk1.tt0 t4).tt0 t5) f5

/-! ### _law_spills -/
noncomputable def sp_law_spills (K : PySem.W.Frag) : Sp := fun vs H Q _ => ∃ (h : Addr) (n : Nat) (Z : Hp), vs = [.ref h] ∧ Hand K Z H h (n + 2000) ∧
  ∀ p us ps Z' H', TR.T [h] Z H Z' H' → Hand K Z' H' h n → Z' p = some (.lst us) → PairsAt Z' us ps → (∀ q ∈ ps, LineQ q) → us.length ≤ 10 → Q (.ref p) H'
theorem has_law_spills (z : Z K mg) (F : FunAt K mg "_law_spills" s_law_spills ["_law_hand"]) (h_least_spill : Has P w K mg base "least_spill" 4 (sp_least_spill K)) (h_greatest_spill : Has P w K mg base "greatest_spill" 4 (sp_greatest_spill K)) (h_law_far : Has P w K mg base "_law_far" 2 (sp_law_far K)) (h_law_draw : Has P w K mg base "_law_draw" 1 (sp_law_draw K)) : Has P w K mg base "_law_spills" 5 (sp_law_spills K) := by
  refine has_of F sc_law_spills (fun vs H Q E h => ?_) (fun f cdv A outer s H vs Q E hr h => ?_)
  · obtain ⟨_, _, _, rfl, _⟩ := h
    rfl
  · obtain ⟨h, n, Z, rfl, hh, q⟩ := h
    refine ⟨_, (pss_cons (ps_set (i := 1) sc_law_spills.nd rfl (by first | exact Or.inl rfl | exact Or.inr rfl) (pe_op op_plusA pe_int (pe_callH h_law_draw (by decide) hr rfl (pa_cons (pv 0) (pa_cons pe_int pa_nil)))))
        (pss_cons (ps_set (i := 2) sc_law_spills.nd rfl (by first | exact Or.inl rfl | exact Or.inr rfl) (pe_callH h_law_far (by decide) hr rfl (pa_cons (pv 0) (pa_cons (pe_ix (ixA (K := K) rfl) (pe_lst (pa_cons pe_int (pa_cons (pe_op op_plusA (pe_op op_pow pe_int pe_int) pe_int) pa_nil))) (pe_callH h_law_draw (by decide) hr rfl (pa_cons (pv 0) (pa_cons pe_int pa_nil))) (fun _ _ => rfl)) pa_nil))))
        (pss_cons (ps_set (i := 3) sc_law_spills.nd rfl (by first | exact Or.inl rfl | exact Or.inr rfl) (pe_ix (ixA (K := K) rfl) (pe_lst (pa_cons pe_int (pa_cons pe_int (pa_cons (pe_op op_plusA (pe_op op_pow pe_int pe_int) pe_int) pa_nil)))) (pe_callH h_law_draw (by decide) hr rfl (pa_cons (pv 0) (pa_cons pe_int pa_nil))) (fun _ _ => rfl)))
        (pss_cons (ps_set (i := 4) sc_law_spills.nd rfl (by first | exact Or.inl rfl | exact Or.inr rfl) (pe_ix (ixA (K := K) rfl) (pe_lst (pa_cons (pe_op op_plusA pe_int (pe_callH h_law_draw (by decide) hr rfl (pa_cons (pv 0) (pa_cons pe_int pa_nil)))) (pa_cons pe_int pa_nil))) (pe_callTy (T := "int") call_int1A (by rfl) z.b_int (by decide +kernel) (pa_cons (pe_cmpR (eqA (K := K) rfl hr.units) (pe_callH h_law_draw (by decide) hr rfl (pa_cons (pv 0) (pa_cons pe_int pa_nil))) pe_int (nomark _)) pa_nil)) (fun _ _ => rfl)))
        (pss_cons (ps_setLc (i := 5) (own := [("_law_k", 8)]) (g := gName 8) (tt := tYes) rfl sc_law_spills.nd rfl rfl (sw_true rfl rfl rfl (by decide +kernel)) (pi_range1 (by rfl) z.b_range (pa_cons (pv 4) pa_nil)) (blkOk_by (own := [("_law_k", 8)]) (N := ["_law_hand", "_law_wide", "_law_more", "_law_most", "_law_many", "_law_sizes", "_law_tail", "_law_lines_here", "_law_k", "_law_one"]) (sc := defScope s_law_spills) (by decide +kernel)) (fun _ _ _ _ _ => (pg_name (i := 8) sc_law_spills.nd rfl (by first | exact Or.inl rfl | exact Or.inr rfl))) (fun _ _ _ _ _ => pts_nil) (fun _ _ _ _ _ => (pe_callH h_law_far (by decide) hr rfl (pa_cons (pv 0) (pa_cons (pv 3) pa_nil)))))
        (pss_cons (ps_set (i := 6) sc_law_spills.nd rfl (by first | exact Or.inl rfl | exact Or.inr rfl) (pe_joinK (K := K) rfl (pe_join pe_str (pe_op op_plusA (pe_lst (pa_cons pe_str (pa_cons (pe_callTy (T := "str") strIA (by rfl) z.b_str (by decide +kernel) (pa_cons (pv 1) pa_nil)) (pa_cons (pe_callTy (T := "str") strIA (by rfl) z.b_str (by decide +kernel) (pa_cons (pv 2) pa_nil)) pa_nil)))) (pe_lc (own := [("_law_one", 9)]) (g := gName 9) (tt := tYes) rfl sc_law_spills.nd (piL (K := K) rfl (pv 5)) (blkOk_by (own := [("_law_one", 9)]) (N := ["_law_hand", "_law_wide", "_law_more", "_law_most", "_law_many", "_law_sizes", "_law_tail", "_law_lines_here", "_law_k", "_law_one"]) (sc := defScope s_law_spills) (by decide +kernel)) (fun _ _ _ _ _ => (pg_name (i := 9) sc_law_spills.nd rfl (by first | exact Or.inl rfl | exact Or.inr rfl))) (fun _ _ _ _ _ => pts_nil) (fun _ _ _ _ _ => (pe_callTy (T := "str") strIA (by rfl) z.b_str (by decide +kernel) (pa_cons (pv 9) pa_nil))))))))
        (pss_cons (ps_set (i := 7) sc_law_spills.nd rfl (by first | exact Or.inl rfl | exact Or.inr rfl) (pe_lst (pa_cons (pe_tup (pa_cons (pe_op op_plusA pe_str (pv 6)) (pa_cons (pe_callTy (T := "str") strIA (by rfl) z.b_str (by decide +kernel) (pa_cons (pe_ix (ixA (K := K) rfl) (pe_callH h_greatest_spill (by decide) hr rfl (pa_cons (pv 5) (pa_cons (pv 1) (pa_cons (pv 2) pa_nil)))) pe_int (fun _ _ => rfl)) pa_nil)) pa_nil))) pa_nil)))
        (pss_one (ps_ret (pe_op op_plusA (pv 7) (pe_lst (pa_cons (pe_tup (pa_cons (pe_op op_plusA pe_str (pv 6)) (pa_cons (pe_callTy (T := "str") strIA (by rfl) z.b_str (by decide +kernel) (pa_cons (pe_ix (ixA (K := K) rfl) (pe_callH h_least_spill (by decide) hr rfl (pa_cons (pv 5) (pa_cons (pv 1) (pa_cons (pv 2) pa_nil)))) pe_int (fun _ _ => rfl)) pa_nil)) pa_nil))) pa_nil)))))))))))), ?_⟩
    walk_at "cx"
    have z0 := hh.z
    walk_at "tys"
    rename_i wd Z1 H1 w0 w1 t1 hh1 pA Z2 H2 nA t2 fA rB Z3 H3 rB0 rB1 t3 hh3 vB hB mo Z4 H4 mo0 mo1 t4 hh4 pC Z5 H5 nC t5 fC rD Z6 H6 rD0 rD1 t6 hh6 mst hD rE Z7 H7 rE0 rE1 t7 hh7 pF Z8 H8 nF t8 fF rG Z9 H9 rG0 rG1 t9 hh9 mn hG
    have T9 : TR.T [h] Z H Z9 H9 := (((((((((T.refl z0 : TR.T [h] Z H Z H).step t1 mm_same).step t2 mm_nil).step t3 mm_same).step t4 mm_same).step t5 mm_nil).step t6 mm_same).step t7 mm_same).step t8 mm_nil).step t9 mm_same
    have hh9' : Hand K Z9 H9 h (n + 1900) := hh9.mono (by omega)
    have b1 : mo ≤ 10000000000 := by omega
    have b2 : 0 < mst ∧ mst ≤ 1000000001 := by omega
    have b3 : 1 ≤ mn ∧ mn ≤ 120 := by omega
    clear t1 t2 t3 t4 t5 t6 t7 t8 t9 hh1 hh3 hh4 hh6 hh7 hh9 fA fC fF
    have z9 := T9.zh
    generalize ew : 1 + wd = wide
    have wd0 : 1 ≤ wide ∧ wide ≤ 8 := by omega
    refine c_drawR (β := Int) (fun x => 0 ≤ x ∧ x ≤ 1000000000) n 8 hh9' (by omega) (by omega) (fun i hi Za Ha R' ta hha A hA => ?_) (fun pS sz Za Ha nS ta hha lsS slen sP => ?_)
    · have za := ta.zh
      walk_at "tys"
      rename_i r Zb Hb r0 r1 tb hhb
      exact hA r _ Zb Hb tb (hhb.mono (by omega)) (Ik.int _) ⟨r0, by omega⟩
    have Ta : TR.T [h] Z H Za Ha := T9.step ta mm_same
    clear T9 ta hh9' z9
    have za := Ta.zh
    walk_at "tys"
    refine s_m1 ?_
    walk_at "tys"
    refine n_m1 ?_
    have lw := num_len (i := wide) (by omega) (by omega)
    have lmo := num_len mo0 (by omega)
    walk_at "tyN"
    refine t_strI (by omega) (by omega) ?_
    walk_at "tyN"
    refine t_strI mo0 (by omega) ?_
    walk_at "tyN"
    refine t_newW za (by show 3 ≤ 100000; decide) fun p3 Zb Hb n3 tb f3 => ?_
    have zb := tb.zh
    have lsb := lsS.tt tb
    have sl : sz.length ≤ 120 := by omega
    walk_at "tyN"
    refine c_mapS numS zb lsb.is (by omega) (fun u e Zc Hc he hu tc A hA => ?_) (fun D Zc Hc nD tc fD => ?_)
    · have e1 := Ik.int_of hu
      subst e1
      obtain ⟨b0, b1⟩ := sP e he
      walk_at "tys"
      refine t_strI b0 (by omega) ?_
      walk_at "tys"
      exact hA Zc Hc (T.refl tc.zh)
    have zc := tc.zh
    walk_at "tyN"
    refine t_catW zc (tc.z _ _ f3) fD (by simp only [List.length_map]; show 3 + sz.length ≤ _; omega) fun pc Zd Hd nc td fc => ?_
    have zd := td.zh
    have fc : Zd pc = some (.lst (((([("" : Str), numS wide, numS mo] : List Str) ++ sz.map numS)).map V.str)) := fc.trans (by rw [List.map_append]; rfl)
    have lens : ((([("" : Str), numS wide, numS mo] : List Str) ++ sz.map numS).map (·.length)).sum ≤ 100 + 120 * 30 := by
      rw [List.map_append, List.sum_append]
      have a1 : ((([("" : Str), numS wide, numS mo] : List Str)).map (·.length)).sum = 0 + ((numS wide).length + ((numS mo).length + 0)) := rfl
      have a2 : ((sz.map numS).map (·.length)).sum ≤ sz.length * 30 := sum_le (fun x hx => by
        obtain ⟨e, he, rfl⟩ := List.mem_map.mp hx
        exact num_len (sP e he).1 (by have := (sP e he).2; omega)) (by rw [List.length_map])
      omega
    have ll : (([("" : Str), numS wide, numS mo] : List Str) ++ sz.map numS).length ≤ 123 := by
      rw [List.length_append, List.length_map]
      show 3 + _ ≤ _
      omega
    walk_at "tyN"
    refine t_join (sq_of (zd _ _ fc)) (by show _ + _ * 1 ≤ _; omega) ?_
    have tail : Txt.join " " (([("" : Str), numS wide, numS mo] : List Str) ++ sz.map numS) = spillS wide mo sz := rfl
    rw [tail]
    have tlen : (spillS wide mo sz).length ≤ 5000 := by
      have := joinT_len (s := " ") (xs := (([("" : Str), numS wide, numS mo] : List Str) ++ sz.map numS))
      have w1 : (" " : Str).length = 1 := rfl
      rw [w1] at this
      unfold spillS
      omega
    have hne : sz ≠ [] := fun e => by rw [e] at slen; have : (([] : List Int).length : Int) = 0 := rfl; omega
    have g1 := line_spill (z := "greatest") (by decide) wd0.1 wd0.2 mo0 b1 hne sP sl
    have g2 := line_spill (z := "least") (by decide) wd0.1 wd0.2 mo0 b1 hne sP sl
    have Td := ((Ta.step tb mm_nil).step tc mm_nil).step td mm_nil
    have hhd := ((hha.tt tb nm_nil).tt tc nm_nil).tt td nm_nil
    have lsd := ((lsb.tt tc).tt td)
    clear Ta tb tc td hha lsS lsb f3 fD fc lens za zb zc lw lmo ll
    generalize spillS wide mo sz = tl at tlen g1 g2 ⊢
    have si := lsd.is
    clear lsd
    walk_at "tyN"
    refine s_plusS (by have : ("greatest" : Str).length = 8 := rfl; omega) ?_
    walk_at "tyN"
    refine ⟨pS, sz, wide, mo, rfl, zd.sq (Ik.sqI si), hne, fun x hx => (sP x hx).1, by omega, by omega, by omega, mo0, fun Tq P p H2 nP nT nTP e2 hP hT hput hsp => ?_⟩
    obtain ⟨v0, v1⟩ := put_room wd0.1 sP sl b1 hput
    rw [hsp] at v0 v1
    have t2 : TR.T [] Zd Hd Zd H2 := T.ofEx e2 zd
    have T2 := Td.step t2 mm_nil
    have hh2 := hhd.tt t2 nm_nil
    have z2 := t2.zh
    clear Td hhd t2
    walk_at "tyN"
    refine t_strI v0 (by omega) ?_
    walk_at "tyN"
    rename_i a1 Ze He ne te fe
    refine t_newW te.zh (by show 1 ≤ 100000; decide) fun p1 Zf Hf n1 tf ff => ?_
    have zf := tf.zh
    have fe := tf.z _ _ fe
    have si := Ik.tt tf (Ik.tt te si)
    have Tf := (T2.step te mm_nil).step tf mm_nil
    have hhf := (hh2.tt te nm_nil).tt tf nm_nil
    clear T2 hh2 te tf hP hT z2 zd
    walk_at "tyN"
    refine s_plusS (by have : ("least" : Str).length = 5 := rfl; omega) ?_
    walk_at "tyN"
    refine ⟨pS, sz, wide, mo, rfl, zf.sq (Ik.sqI si), hne, fun x hx => (sP x hx).1, by omega, by omega, by omega, mo0, fun Tq2 P2 p2 H3 nP2 nT2 nTP2 e3 hP2 hT2 hput2 hsp2 => ?_⟩
    obtain ⟨x0, x1⟩ := put_room wd0.1 sP sl b1 hput2
    rw [hsp2] at x0 x1
    have t3 : TR.T [] Zf Hf Zf H3 := T.ofEx e3 zf
    have T3 := Tf.step t3 mm_nil
    have hh3 := hhf.tt t3 nm_nil
    have z3 := t3.zh
    clear Tf hhf t3
    walk_at "tyN"
    refine t_strI x0 (by omega) ?_
    walk_at "tyN"
    rename_i a2 Zg Hg ng tg fg
    refine t_newW tg.zh (by show 1 ≤ 100000; decide) fun p9 Zh Hh nh th fh => ?_
    refine t_catW th.zh (th.z _ _ (tg.z _ _ ff)) fh (by show 1 + 1 ≤ 16000000; decide) fun p8 Zi Hi ni ti fi => ?_
    have pr : PairsAt Zi ([.ref a1] ++ [.ref a2]) ([("greatest" ++ tl, numS (greatI sz wide mo))] ++ [("least" ++ tl, numS (leastI sz wide mo))]) := (PairsAt.one (ti.z _ _ (th.z _ _ (tg.z _ _ fe)))).app (.one (ti.z _ _ (th.z _ _ fg)))
    refine q p8 _ _ Zi Hi (((T3.step tg mm_nil).step th mm_nil).step ti mm_nil) (((hh3.tt tg nm_nil).tt th nm_nil).tt ti nm_nil) fi pr (fun q hq => ?_) (by show 1 + 1 ≤ 10; decide)
    simp only [List.mem_append, List.mem_cons, List.not_mem_nil, or_false] at hq
    rcases hq with rfl | rfl
    · exact ⟨by rw [len_app]; have : ("greatest" : Str).length = 8 := rfl; omega, asc_ok (num_asc v0), _, _, g1, .great wide mo sz wd0.1 wd0.2 mo0 b1 hne sP sl⟩
    · exact ⟨by rw [len_app]; have : ("least" : Str).length = 5 := rfl; omega, asc_ok (num_asc x0), _, _, g2, .least wide mo sz wd0.1 wd0.2 mo0 b1 hne sP sl⟩

/-! ### Desk.__init__ -/
noncomputable abbrev sp_Desk___init (K : PySem.W.Frag) : Sp := spDInit K
theorem has_Desk___init (z : Z K mg) (F : MakeAt K mg "Desk" "Desk.__init__" s_Desk___init ["self"])  : HasK P w K mg base "Desk" 1 (sp_Desk___init K) := by
  refine has_ofK F sc_Desk___init (fun vs H Q E h => ?_) (fun f cdv A outer s H vs Q E hr h => ?_)
  · obtain ⟨_, _, _, rfl, _⟩ := h
    rfl
  · obtain ⟨d, dx, Z, rfl, zh, zd, hd, q⟩ := h
    refine ⟨_, (pss_one (ps_fld (pv 0) pe_dnewK rfl)), ?_⟩
    walk_at "cx"
    walk_at "txs"
    rename_i kp Z1 H1 n1 t1 dm1
    have ndk : d ≠ kp := ne_alB n1 ⟨_, hd⟩
    have hd1 := t1.hp nm_nil hd
    have zd1 : Z1 d = none := (t1.mu nm_nil ⟨zd, _, hd⟩).z
    refine n_fset hd1 (by walk_at "ck") (by walk_at "fl") (by show 0 < 1000; decide) ?_
    have t2 : TR.T [d] Z1 H1 Z1 (upd H1 d (.ins (clsA K "Desk") dx [("keepers", .ref kp)])) := T.set ⟨zd1, _, hd1⟩ t1.zh
    exact q kp Z1 _ (((T.refl zh : TR.T [d] Z H Z H).step t1 mm_nil).step t2 mm_same) n1 ⟨dx, upd_same, zd1, by rw [upd_ne ndk.symm]; exact dm1.h, dm1.zd, ndk, t2.zh⟩

/-! ### law -/
noncomputable def sp_law (K : PySem.W.Frag) : Sp := fun vs H Q _ => ∃ (a : Addr) (ns : List Int), vs = [.ref a] ∧ SqL K H a (ns.map V.int) ∧ ns.length ≤ 63 ∧ ∀ H', Q (.bl true) H'
theorem ok_law {f : Addr} {fd : FuncData} (z : Z K mg) (F : Fun K "law" "law" s_law f fd) (h_law_lines : Has P w K mg base "_law_lines" 4 (sp_law_lines K)) (h_law_open : Has P w K mg base "_law_open" 1 (sp_law_open K)) (h_law_said : Has P w K mg base "_law_said" 7 (sp_law_said K)) (h_law_spills : Has P w K mg base "_law_spills" 5 (sp_law_spills K)) (mk_Desk : HasK P w K mg base "Desk" 1 (sp_Desk___init K)) : FnOk P w K mg base CX0 8 f fd ["_law_script"] (sp_law K) := by
  refine fnok_of F sc_law (fun vs H Q E h => ?_) (fun cdv A outer s H vs Q E hr h => ?_)
  · obtain ⟨a, ns, rfl, _⟩ := h
    rfl
  · obtain ⟨a, ns, rfl, hS, hl, q⟩ := h
    refine ⟨_, (pss_cons (ps_set (i := 1) sc_law.nd rfl (by first | exact Or.inl rfl | exact Or.inr rfl) (pe_make0 (K := K) rfl px0 mk_Desk (Nat.le_refl _) (hr.mono (by decide)) rfl))
        (pss_cons (ps_set (i := 2) sc_law.nd rfl (by first | exact Or.inl rfl | exact Or.inr rfl) (pe_make0 (K := K) rfl px0 mk_Desk (Nat.le_refl _) (hr.mono (by decide)) rfl))
        (pss_cons (ps_if (pt_cmpR (neA (K := K) rfl hr.units) (pe_callH h_law_said (by decide) hr rfl (pa_cons (pv 2) (pa_cons pe_str pa_nil))) (pe_tup (pa_cons pe_str (pa_cons pe_str pa_nil))) (nomark _)) (pss_one (ps_ret pe_bl)) pss_nil)
        (pss_cons (ps_for PassesOwn.never rfl (pi_range1 (by rfl) z.b_range (pa_cons pe_int pa_nil)) (pg_name (i := 3) sc_law.nd rfl (by first | exact Or.inl rfl | exact Or.inr rfl)) (pss_cons (ps_set (i := 4) sc_law.nd rfl (by first | exact Or.inl rfl | exact Or.inr rfl) (pe_callH h_law_open (by decide) hr rfl (pa_cons (pv 0) (pa_cons (pv 3) pa_nil))))
        (pss_cons (ps_set (i := 5) sc_law.nd rfl (by first | exact Or.inl rfl | exact Or.inr rfl) (pe_callH h_law_spills (by decide) hr rfl (pa_cons (pv 4) pa_nil)))
        (pss_one (ps_for PassesOwn.never rfl (piL (K := K) rfl (pe_op op_plusA (pe_callH h_law_lines (by decide) hr rfl (pa_cons (pe_callH h_law_open (by decide) hr rfl (pa_cons (pv 0) (pa_cons (pe_op op_plusA (pv 3) pe_int) pa_nil))) pa_nil)) (pv 5))) (pg_tup rfl (pgs_cons (pg_name (i := 6) sc_law.nd rfl (by first | exact Or.inl rfl | exact Or.inr rfl)) (pgs_cons (pg_name (i := 7) sc_law.nd rfl (by first | exact Or.inl rfl | exact Or.inr rfl)) pgs_nil))) (pss_one (ps_if (PW.pt (pw_or (pt_cmpR (neA (K := K) rfl hr.units) (pe_callH h_law_said (by decide) hr rfl (pa_cons (pv 1) (pa_cons (pv 6) pa_nil))) (pe_tup (pa_cons pe_str (pa_cons (pv 7) pa_nil))) (nomark _)) (pw_or1 (pt_cmpR (neA (K := K) rfl hr.units) (pe_callH h_law_said (by decide) hr rfl (pa_cons (pv 2) (pa_cons (pv 6) pa_nil))) (pe_tup (pa_cons pe_str (pa_cons (pv 7) pa_nil))) (nomark _))))) (pss_one (ps_ret pe_bl)) pss_nil)))))))
        (pss_one (ps_ret pe_bl)))))), ?_⟩
    walk_at "cx"
    have z0 : Ex H H := Ex.refl _
    walk_at "txs"
    refine t_desk z0 fun d1 kp1 Z1 H1 nd1 nk1 ne1 t1 dk1 => ?_
    have z1 := t1.zh
    walk_at "txs"
    refine t_desk z1 fun d2 kp2 Z2 H2 nd2 nk2 ne2 t2 dk2 => ?_
    obtain ⟨a1, a2⟩ := dk1.at_
    have n1 : d1 ≠ kp2 := (ne_alF nk2 a1).symm
    have n2 : kp1 ≠ kp2 := (ne_alF nk2 a2).symm
    have nk20 : H kp2 = none := t1.nn nk2
    have dk1 := dk1.tt0 t2
    have T2 := t1.step t2 mm_nil
    clear t1 t2 z1 a1 a2
    have z2 := T2.zh
    walk_at "txs"
    refine ⟨d2, kp2, "keep where 1 1", "keep", _, [], Z2, rfl, dk2, by decide +kernel, line_keep, .inr ⟨rfl, rfl, rfl, fun p kvs' Z3 H3 t3 dk3 f3 => ?_⟩⟩
    have dk1 := dk1.tt t3 (nm_cons n1 nm_nil) (nm_cons n2 nm_nil)
    have T3 := T2.step t3 (mm_1 (.inr nk20))
    clear T2 t3 dk2 z2
    have z3 := T3.zh
    walk_at "txs"
    rename_i p4 Z4 H4 n4 t4 f4
    have ok1 : PyData.strOk ("told" : Str) = true := by decide +kernel
    have ok2 : PyData.strOk ("ok" : Str) = true := by decide +kernel
    refine s_neP (x := ((⟨"told", ok1⟩, ⟨"ok", ok2⟩) : Tx × Tx)) (y := ((⟨"told", ok1⟩, ⟨"ok", ok2⟩) : Tx × Tx)) (Ik.is (Ik.ex t4.zh (Ik.tt t4 (Ik.pair f3 (Ik.tx ⟨"told", ok1⟩) (Ik.tx ⟨"ok", ok2⟩))))) (Ik.is (Ik.ex t4.zh (Ik.pair f4 (Ik.tx ⟨"told", ok1⟩) (Ik.tx ⟨"ok", ok2⟩)))) (by decide) ?_
    have dk1 := dk1.tt0 t4
    have dk3 := dk3.tt0 t4
    have T4 := T3.step t4 mm_nil
    clear T3 t4 z3 f3 f4
    walk_at "txs"
    refine u_forR1 (fun i σ H' => ∃ x1 x2 x3 x4 x5 Z', σ = [some (.ref a), some (.ref d1), some (.ref d2), x1, x2, x3, x4, x5] ∧ TR.T [] H H Z' H' ∧ Dsk K Z' H' d1 kp1 [] ∧ Dsk K Z' H' d2 kp2 kvs') (by omega) ⟨_, _, _, _, _, Z4, rfl, T4, dk1, dk3⟩ (fun i σ H5 hi hh => ?_) (fun σ H5 hh => ?_)
    · obtain ⟨x1, x2, x3, x4, x5, Z5, rfl, t5, da, db⟩ := hh
      have hp : 0 ≤ (i : Int) ∧ (i : Int) < 10 := by omega
      generalize (i : Int) = pl at hi hp
      have z5 := t5.zh
      clear T4 dk1 dk3
      walk_at "txs"
      rename_i h Z6 H6 nh t6 hd6
      refine ⟨h, 100000, Z6, rfl, hd6.mono (by omega), fun ps us qs Z7 H7 t7 hd7 f7 pr7 lq7 ul7 => ?_⟩
      have nh0 : H h = none := t5.nn nh
      have nd1h : d1 ≠ h := (ne_alF nh da.at_.1).symm
      have nk1h : kp1 ≠ h := (ne_alF nh da.at_.2).symm
      have nd2h : d2 ≠ h := (ne_alF nh db.at_.1).symm
      have nk2h : kp2 ≠ h := (ne_alF nh db.at_.2).symm
      have da := (da.tt0 t6).tt t7 (nm_cons nd1h nm_nil) (nm_cons nk1h nm_nil)
      have db := (db.tt0 t6).tt t7 (nm_cons nd2h nm_nil) (nm_cons nk2h nm_nil)
      have T7 := (t5.step t6 mm_nil).step t7 (mm_1 (.inr nh0))
      clear t5 t6 t7 z5 hd6 hd7
      have z7 := T7.zh
      walk_at "txs"
      rename_i o Z8 H8 no t8 hd8
      refine ⟨o, 100000, Z8, rfl, hd8.mono (by omega), fun pt vs rs Z9 H9 t9 hd9 f9 pr9 lq9 ul9 => ?_⟩
      have no0 : H o = none := T7.nn no
      have nd1o : d1 ≠ o := (ne_alF no da.at_.1).symm
      have nk1o : kp1 ≠ o := (ne_alF no da.at_.2).symm
      have nd2o : d2 ≠ o := (ne_alF no db.at_.1).symm
      have nk2o : kp2 ≠ o := (ne_alF no db.at_.2).symm
      have da := (da.tt0 t8).tt t9 (nm_cons nd1o nm_nil) (nm_cons nk1o nm_nil)
      have db := (db.tt0 t8).tt t9 (nm_cons nd2o nm_nil) (nm_cons nk2o nm_nil)
      have T9 := (T7.step t8 mm_nil).step t9 (mm_1 (.inr no0))
      have f7 := t9.z _ _ (t8.z _ _ f7)
      have pr7 := (pr7.ex t8.z).ex t9.z
      clear T7 t8 t9 z7 hd8 hd9
      have z9 := T9.zh
      walk_at "txs"
      refine t_catW z9 f9 f7 (by omega) fun pc Za Ha nc ta fa => ?_
      have da := da.tt0 ta
      have db := db.tt0 ta
      have Ta := T9.step ta mm_nil
      have pr := (pr9.ex ta.z).app (pr7.ex ta.z)
      have lq : ∀ q ∈ rs ++ qs, LineQ q := fun q hq => by
        rcases List.mem_append.mp hq with h | h
        · exact lq9 q h
        · exact lq7 q h
      clear T9 ta pr9 pr7 lq9 lq7 f9 f7 z9
      have za := Ta.zh
      generalize vs ++ us = xs at fa pr
      generalize rs ++ qs = ys at pr lq
      walk_at "txs"
      refine u_forL (fun j σ H' => ∃ x1 x2 x3 x4 x5 Z', σ = [some (.ref a), some (.ref d1), some (.ref d2), x1, x2, x3, x4, x5] ∧ TR.T [] Za Ha Z' H') (sq_of (za _ _ fa)) ⟨_, _, _, _, _, Za, rfl, T.refl za⟩ (fun j σ H' _ hh => ?_) (fun j v σ H' hv hh => ?_) (fun σ H' hh => ?_)
      · obtain ⟨x1, x2, x3, x4, x5, Zb, rfl, tb⟩ := hh
        exact sq_of (tb.zh _ _ (tb.z _ _ fa))
      · obtain ⟨x1, x2, x3, x4, x5, Zb, rfl, tb⟩ := hh
        obtain ⟨⟨x, y⟩, hq, ⟨b, rfl, fb⟩⟩ := pair_at pr hv
        obtain ⟨xl, yo, w, l, hL, hP⟩ := lq _ (List.mem_of_getElem? hq)
        have zb := tb.zh
        have fb := tb.z _ _ fb
        have da := da.tt0 tb
        have db := db.tt0 tb
        walk_at "txs"
        refine s_gt2 (st_of (zb _ _ fb)) ?_
        walk_at "txs"
        refine ⟨d1, kp1, x, w, l, [], Zb, rfl, da, xl, hL, .inl ⟨y, hP, fun p5 Zc Hc tc fc => ?_⟩⟩
        have zc := tc.zh
        walk_at "txs"
        rename_i p6 Zd Hd nd td fd
        refine s_neP (x := ((⟨"told", ok1⟩, ⟨y, yo⟩) : Tx × Tx)) (y := ((⟨"told", ok1⟩, ⟨y, yo⟩) : Tx × Tx)) (Ik.is (Ik.ex td.zh (Ik.tt td (Ik.pair fc (Ik.tx ⟨"told", ok1⟩) (Ik.tx ⟨y, yo⟩))))) (Ik.is (Ik.ex td.zh (Ik.pair fd (Ik.tx ⟨"told", ok1⟩) (Ik.tx ⟨y, yo⟩)))) (by decide) ?_
        have Td := (tb.step tc mm_nil).step td mm_nil
        have db := (db.tt0 tc).tt0 td
        clear tb tc td zc fc fd da zb
        have zd := Td.zh
        walk_at "txs"
        refine ⟨d2, kp2, x, w, l, kvs', Zd, rfl, db, xl, hL, .inl ⟨y, hP, fun p7 Ze He te fe => ?_⟩⟩
        have ze := te.zh
        walk_at "txs"
        rename_i p8 Zf Hf nf tf ff
        refine s_neP (x := ((⟨"told", ok1⟩, ⟨y, yo⟩) : Tx × Tx)) (y := ((⟨"told", ok1⟩, ⟨y, yo⟩) : Tx × Tx)) (Ik.is (Ik.ex tf.zh (Ik.tt tf (Ik.pair fe (Ik.tx ⟨"told", ok1⟩) (Ik.tx ⟨y, yo⟩))))) (Ik.is (Ik.ex tf.zh (Ik.pair ff (Ik.tx ⟨"told", ok1⟩) (Ik.tx ⟨y, yo⟩)))) (by decide) ?_
        walk_at "txs"
        exact ⟨_, _, _, _, _, Zf, rfl, (Td.step te mm_nil).step tf mm_nil⟩
      · obtain ⟨x1, x2, x3, x4, x5, Zb, rfl, tb⟩ := hh
        walk_at "txs"
        exact ⟨_, _, _, _, _, Zb, rfl, Ta.step tb mm_nil, da.tt0 tb, db.tt0 tb⟩
    · obtain ⟨x1, x2, x3, x4, x5, Z5, rfl, t5, da, db⟩ := hh
      walk_at "txs"
      exact q H5

end

/-! ### the head -/

noncomputable abbrev RR : PySem.W.OpenRow := PySem.W.OpenLaw.row PySem.Challenge.rw_tailrooms_k94_lines_of_bits_and_spill
noncomputable abbrev qv : Program := PySem.W.view RR.prog [115]

noncomputable def names0 : List Str := ["__name__", "BITS", "whole_rooms", "turn", "room_of", "split_of", "joined_of", "TailError", "NoSize", "NoKey", "NoThing", "NoRoom", "Lacking", "Full", "NoMark", "Busy", "NoText", "NoLine", "NoName", "Taken", "KEYS", "LETTERS", "LONGEST_kinds", "GREATEST", "is_whole", "is_key", "is_name", "is_size", "rows_for", "looked"]
noncomputable def names1 : List Str := ["spill", "needs_of", "free_of", "spill_behind", "greatest_spill", "least_spill", "cut_rows", "yard_of", "entries_in", "is_clean", "copied", "rooms_told", "with_row", "done", "done_all", "found", "written", "onward", "backward", "splitting", "joining", "putting", "dropping", "standing", "mended", "mending", "MOST", "rooms_for", "need_sizes", "need_key"]
noncomputable def names2 : List Str := ["need_thing", "told_step", "Keeper", "FIGURES", "LONGEST_texts", "NONE_texts", "BARE", "show_row", "show_rows", "show_step", "read_number", "rooms_in_turn", "trail", "stay", "parted", "ROOMS", "MORE", "COUNT", "COUNTS", "NONE_desk", "FORMS", "is_of", "read_word", "read_line", "joined_words", "stay_told", "plain_answer", "room_told", "asked_answer", "deed_answer"]
noncomputable def names3 : List Str := ["Desk", "_law_open", "_law_draw", "_law_far", "_law_power", "_law_key", "_law_what", "_law_said", "_law_stay_text", "_law_lines", "_law_spills"]
noncomputable def names : List Str := (names0 ++ (names1 ++ (names2 ++ names3)))

noncomputable def fz0 : List TR.Fz := [.fa (.free "max"), .fa (.free "str"), .fa (.free "range"), .fa (.free "len"), .fa (.free "min"), .fa (.free "int"), .fa (.free "abs"), .fa (.free "sum"), .fa (.free "zip"), .fa (.free "sorted"), .fa (.free "isinstance"), .fa (.free "bool"), .fa (.int "BITS" 60), .fa (.int "GREATEST" 8), .fa (.int "KEYS" 1152921504606846976), .fa (.int "COUNT" 1000000000), .fa (.int "MORE" 10000000000), .fa (.int "ROOMS" 1152921504606846976), .fa (.str "FIGURES" "0123456789"), .fa (.int "LONGEST_texts" 30), .fa (.str "LETTERS" "abcdefghijklmnopqrstuvwxyz"), .fa (.int "LONGEST_kinds" 8), .fa (.int "COUNTS" 120), .fa (.cls "Keeper"), .fa (.cls "Desk"), .fa (.noat "Keeper" "wide"), .fa (.noat "Keeper" "fill"), .fa (.noat "Keeper" "now"), .fa (.noat "Keeper" "waiting"), .fa (.noat "Desk" "keepers")]
noncomputable def fz1 : List TR.Fz := [.te "TailError", .fa (.glo "NoText"), .fa (.glo "TailError"), .fa (.exm "NoSize" "NoText" false), .fa (.exm "NoName" "NoText" false), .fa (.exm "Taken" "NoText" false), .fa (.exm "NoSize" "TailError" true), .fa (.exm "NoName" "TailError" true), .fa (.exm "Taken" "TailError" true), .fa (.glo "parted"), .fa (.glo "_law_stay_text"), .fa (.glo "rooms_in_turn"), .fa (.glo "stay"), .fa (.glo "whole_rooms"), .fa (.glo "room_of"), .fa (.glo "trail"), .fa (.glo "_law_draw"), .fa (.glo "_law_far"), .fa (.glo "_law_power"), .fa (.glo "_law_key"), .fa (.glo "_law_lines"), .fa (.glo "_law_open"), .fa (.glo "_law_what"), .fa (.glo "asked_answer"), .fa (.glo "deed_answer"), .fa (.glo "rows_for"), .fa (.glo "spill"), .fa (.glo "spill_behind"), .fa (.glo "free_of"), .fa (.glo "least_spill")]
noncomputable def fz2 : List TR.Fz := [.fa (.glo "needs_of"), .fa (.glo "greatest_spill"), .fa (.glo "stay_told"), .fa (.glo "plain_answer"), .fa (.glo "is_whole"), .fa (.glo "is_size"), .fa (.glo "is_key"), .fa (.glo "is_of"), .fa (.glo "read_number"), .fa (.glo "is_name"), .fa (.glo "read_word"), .fa (.glo "read_line"), .fa (.glo "cut_rows"), .fa (.glo "yard_of"), .exi "NoSize", .exf "NoSize" "thing", .fa (.glo "need_sizes"), .fa (.glo "Keeper"), .fa (.mkr "Keeper"), .exi "NoName", .exf "NoName" "name", .exi "Taken", .exf "Taken" "name", .fa (.glo "Desk"), .fa (.meth "Desk" "say"), .fa (.glo "_law_said"), .fa (.glo "_law_spills"), .fa (.mkr "Desk"), .fa (.glo "law"), .kv "FORMS" TR.formsL]
noncomputable def fz : List TR.Fz := (fz0 ++ (fz1 ++ fz2))

noncomputable def fns0 : List He.DefD := [⟨("parted", none), "parted", "parted", defArgs s_parted, defBody s_parted, defScope s_parted, [], []⟩, ⟨("_law_stay_text", none), "_law_stay_text", "_law_stay_text", defArgs s_law_stay_text, defBody s_law_stay_text, defScope s_law_stay_text, [], []⟩, ⟨("rooms_in_turn", none), "rooms_in_turn", "rooms_in_turn", defArgs s_rooms_in_turn, defBody s_rooms_in_turn, defScope s_rooms_in_turn, [], []⟩, ⟨("stay", none), "stay", "stay", defArgs s_stay, defBody s_stay, defScope s_stay, [], []⟩, ⟨("whole_rooms", none), "whole_rooms", "whole_rooms", defArgs s_whole_rooms, defBody s_whole_rooms, defScope s_whole_rooms, [], []⟩, ⟨("room_of", none), "room_of", "room_of", defArgs s_room_of, defBody s_room_of, defScope s_room_of, [], []⟩, ⟨("trail", none), "trail", "trail", defArgs s_trail, defBody s_trail, defScope s_trail, [], []⟩, ⟨("_law_draw", none), "_law_draw", "_law_draw", defArgs s_law_draw, defBody s_law_draw, defScope s_law_draw, [], []⟩, ⟨("_law_far", none), "_law_far", "_law_far", defArgs s_law_far, defBody s_law_far, defScope s_law_far, [], []⟩, ⟨("_law_power", none), "_law_power", "_law_power", defArgs s_law_power, defBody s_law_power, defScope s_law_power, [], []⟩, ⟨("_law_key", none), "_law_key", "_law_key", defArgs s_law_key, defBody s_law_key, defScope s_law_key, [], []⟩, ⟨("_law_lines", none), "_law_lines", "_law_lines", defArgs s_law_lines, defBody s_law_lines, defScope s_law_lines, [], []⟩, ⟨("_law_open", none), "_law_open", "_law_open", defArgs s_law_open, defBody s_law_open, defScope s_law_open, [], []⟩, ⟨("_law_what", none), "_law_what", "_law_what", defArgs s_law_what, defBody s_law_what, defScope s_law_what, [], []⟩, ⟨("asked_answer", none), "asked_answer", "asked_answer", defArgs s_asked_answer, defBody s_asked_answer, defScope s_asked_answer, [], []⟩]
noncomputable def fns1 : List He.DefD := [⟨("deed_answer", none), "deed_answer", "deed_answer", defArgs s_deed_answer, defBody s_deed_answer, defScope s_deed_answer, [], []⟩, ⟨("rows_for", none), "rows_for", "rows_for", defArgs s_rows_for, defBody s_rows_for, defScope s_rows_for, [], []⟩, ⟨("spill", none), "spill", "spill", defArgs s_spill, defBody s_spill, defScope s_spill, [], []⟩, ⟨("spill_behind", none), "spill_behind", "spill_behind", defArgs s_spill_behind, defBody s_spill_behind, defScope s_spill_behind, [], []⟩, ⟨("free_of", none), "free_of", "free_of", defArgs s_free_of, defBody s_free_of, defScope s_free_of, [], []⟩, ⟨("least_spill", none), "least_spill", "least_spill", defArgs s_least_spill, defBody s_least_spill, defScope s_least_spill, [], []⟩, ⟨("needs_of", none), "needs_of", "needs_of", defArgs s_needs_of, defBody s_needs_of, defScope s_needs_of, [], []⟩, ⟨("greatest_spill", none), "greatest_spill", "greatest_spill", defArgs s_greatest_spill, defBody s_greatest_spill, defScope s_greatest_spill, [], []⟩, ⟨("stay_told", none), "stay_told", "stay_told", defArgs s_stay_told, defBody s_stay_told, defScope s_stay_told, [], []⟩, ⟨("plain_answer", none), "plain_answer", "plain_answer", defArgs s_plain_answer, defBody s_plain_answer, defScope s_plain_answer, [], []⟩, ⟨("is_whole", none), "is_whole", "is_whole", defArgs s_is_whole, defBody s_is_whole, defScope s_is_whole, [], []⟩, ⟨("is_size", none), "is_size", "is_size", defArgs s_is_size, defBody s_is_size, defScope s_is_size, [], []⟩, ⟨("is_key", none), "is_key", "is_key", defArgs s_is_key, defBody s_is_key, defScope s_is_key, [], []⟩, ⟨("is_of", none), "is_of", "is_of", defArgs s_is_of, defBody s_is_of, defScope s_is_of, [], []⟩, ⟨("read_number", none), "read_number", "read_number", defArgs s_read_number, defBody s_read_number, defScope s_read_number, [], []⟩]
noncomputable def fns2 : List He.DefD := [⟨("is_name", none), "is_name", "is_name", defArgs s_is_name, defBody s_is_name, defScope s_is_name, [], []⟩, ⟨("read_word", none), "read_word", "read_word", defArgs s_read_word, defBody s_read_word, defScope s_read_word, [], []⟩, ⟨("read_line", none), "read_line", "read_line", defArgs s_read_line, defBody s_read_line, defScope s_read_line, [], []⟩, ⟨("cut_rows", none), "cut_rows", "cut_rows", defArgs s_cut_rows, defBody s_cut_rows, defScope s_cut_rows, [], []⟩, ⟨("yard_of", none), "yard_of", "yard_of", defArgs s_yard_of, defBody s_yard_of, defScope s_yard_of, [], []⟩, ⟨("NoSize", some "__init__"), "__init__", "NoSize.__init__", defArgs s_NoSize___init, defBody s_NoSize___init, defScope s_NoSize___init, [], []⟩, ⟨("need_sizes", none), "need_sizes", "need_sizes", defArgs s_need_sizes, defBody s_need_sizes, defScope s_need_sizes, [], []⟩, ⟨("Keeper", some "__init__"), "__init__", "Keeper.__init__", defArgs s_Keeper___init, defBody s_Keeper___init, defScope s_Keeper___init, [], []⟩, ⟨("NoName", some "__init__"), "__init__", "NoName.__init__", defArgs s_NoName___init, defBody s_NoName___init, defScope s_NoName___init, [], []⟩, ⟨("Taken", some "__init__"), "__init__", "Taken.__init__", defArgs s_Taken___init, defBody s_Taken___init, defScope s_Taken___init, [], []⟩, ⟨("Desk", some "say"), "say", "Desk.say", defArgs s_Desk_say, defBody s_Desk_say, defScope s_Desk_say, [], []⟩, ⟨("_law_said", none), "_law_said", "_law_said", defArgs s_law_said, defBody s_law_said, defScope s_law_said, [], []⟩, ⟨("_law_spills", none), "_law_spills", "_law_spills", defArgs s_law_spills, defBody s_law_spills, defScope s_law_spills, [], []⟩, ⟨("Desk", some "__init__"), "__init__", "Desk.__init__", defArgs s_Desk___init, defBody s_Desk___init, defScope s_Desk___init, [], []⟩, ⟨("law", none), "law", "law", defArgs s_law, defBody s_law, defScope s_law, [], []⟩]
noncomputable def fns : List He.DefD := (fns0 ++ (fns1 ++ fns2))

noncomputable def tbs : List He.Tab := [((fun K => He.ga K "FORMS"), TR.formsL.map Prod.fst)]

noncomputable abbrev hk : PySem.W.Hook := TR.hookZ fz fns tbs
noncomputable def ob (s : PySem.W.SharedT) : TR.AlZ := TR.obsZG fz fns tbs (HandSHeadRun.getT s)
theorem ob_eq (s : PySem.W.SharedT) : ob s = hk.obs s.abs := TR.obsZG_eq (HandSHeadRun.getT_eq s)

theorem runF (w : World) : HandSHeadRun.RunEq RR qv hk ob 20000 names (w.withFollow "special-get-raises" false) := by
  intro os
  kernel_rfl

theorem runT (w : World) : HandSHeadRun.RunEq RR qv hk ob 20000 names (w.withFollow "special-get-raises" true) := by
  intro os
  kernel_rfl

theorem run (w : World) : HandSHeadRun.RunEq RR qv hk ob 20000 names w := PySem.W.byRow2 "special-get-raises" (P := fun w => HandSHeadRun.RunEq RR qv hk ob 20000 names w) runF runT w

theorem zz_of {K : PySem.W.Frag} {mg : Str → Option Value} {h : Heap} {w : World} (KX : K.In h) (G : h.Ns mainGlobals mg) (c : TR.SaysZ fz fns tbs w K) : Z K mg := ⟨TR.z_free KX G (TR.SaysZ.fact c 0),
  TR.z_free KX G (TR.SaysZ.fact c 1),
  TR.z_free KX G (TR.SaysZ.fact c 2),
  TR.z_free KX G (TR.SaysZ.fact c 3),
  TR.z_free KX G (TR.SaysZ.fact c 4),
  TR.z_free KX G (TR.SaysZ.fact c 5),
  TR.z_free KX G (TR.SaysZ.fact c 6),
  TR.z_free KX G (TR.SaysZ.fact c 7),
  TR.z_free KX G (TR.SaysZ.fact c 8),
  TR.z_free KX G (TR.SaysZ.fact c 9),
  TR.z_free KX G (TR.SaysZ.fact c 10),
  TR.z_free KX G (TR.SaysZ.fact c 11),
  TR.z_int KX G (TR.SaysZ.fact c 12),
  TR.z_int KX G (TR.SaysZ.fact c 13),
  TR.z_int KX G (TR.SaysZ.fact c 14),
  TR.z_int KX G (TR.SaysZ.fact c 15),
  TR.z_int KX G (TR.SaysZ.fact c 16),
  TR.z_int KX G (TR.SaysZ.fact c 17),
  TR.z_str KX G (TR.SaysZ.fact c 18),
  TR.z_int KX G (TR.SaysZ.fact c 19),
  TR.z_str KX G (TR.SaysZ.fact c 20),
  TR.z_int KX G (TR.SaysZ.fact c 21),
  TR.z_int KX G (TR.SaysZ.fact c 22),
  TR.z_cls (TR.SaysZ.fact c 23),
  TR.z_cls (TR.SaysZ.fact c 24),
  TR.z_noat (TR.SaysZ.fact c 25),
  TR.z_noat (TR.SaysZ.fact c 26),
  TR.z_noat (TR.SaysZ.fact c 27),
  TR.z_noat (TR.SaysZ.fact c 28),
  TR.z_noat (TR.SaysZ.fact c 29),
  TR.z_te KX G (TR.SaysZ.fact c 30),
  TR.z_glo KX G (TR.SaysZ.fact c 31),
  TR.z_glo KX G (TR.SaysZ.fact c 32),
  TR.z_exm (TR.SaysZ.fact c 33),
  TR.z_exm (TR.SaysZ.fact c 34),
  TR.z_exm (TR.SaysZ.fact c 35),
  TR.z_exm (TR.SaysZ.fact c 36),
  TR.z_exm (TR.SaysZ.fact c 37),
  TR.z_exm (TR.SaysZ.fact c 38)⟩

end Lw
open PySem PySem.W PyProof.Rows
set_option maxHeartbeats 0 in

theorem PySem.Challenge.cw_tailrooms_k94_lines_of_bits_and_spill_holds : PySem.Challenge.rw_tailrooms_k94_lines_of_bits_and_spill.Holds := by

  w_on; o_law

  refine HandSHeadRun.head_any (r := OpenLaw.row PySem.Challenge.rw_tailrooms_k94_lines_of_bits_and_spill) (q := Lw.qv) (H := Lw.hk) (ob := Lw.ob) (M := 20000) (loose := Lw.names) (d := HandSHeadRun.topDef (OpenLaw.row PySem.Challenge.rw_tailrooms_k94_lines_of_bits_and_spill).prog 115) (kwd := []) Lw.ob_eq
    (by kernel_rfl) (fun s => by kernel_rfl) Lw.run (by kernel_rfl) (by kernel_rfl) (by kernel_rfl) (by rfl) (by first | assumption | decide +kernel) (by decide +kernel) ⟨rfl, rfl, rfl, rfl, rfl, by decide +kernel⟩ ?hw ?hc
  case hw => w_witness2
  case hc =>

    refine L2.walk_ofE (l := PySem.Challenge.rw_tailrooms_k94_lines_of_bits_and_spill) (n := 63) (k := 8) (x := "_law_script") (CX := L2.CX0) rfl (by decide) (by kernel_rfl) ⟨rfl, by decide, by decide⟩ ?F (fun _ _ _ _ z => z)

    intro w mg fa h Y G hmg0
    obtain ⟨K, KX, c⟩ := Y
    have hmg : mg ("law" : PySem.Str) = some (.ref fa) := by
      have e : (HandSHeadRun.topDef (OpenLaw.row PySem.Challenge.rw_tailrooms_k94_lines_of_bits_and_spill).prog 115).name = ("law" : PySem.Str) := by kernel_rfl
      rw [← e]
      exact hmg0
    have zz : Lw.Z K mg := Lw.zz_of KX G c

    have F0 : TR.FunAt K mg "parted" Lw.s_parted ["one", "other"] := TR.z_fun KX G (TR.SaysZ.fact c 39) (TR.SaysZ.def_ c 0) (fun _ _ _ _ _ _ us hl => match us, hl with | [_, _], _ => rfl)

    have F1 : TR.FunAt K mg "_law_stay_text" Lw.s_law_stay_text ["_law_told"] := TR.z_fun KX G (TR.SaysZ.fact c 40) (TR.SaysZ.def_ c 1) (fun _ _ _ _ _ _ us hl => match us, hl with | [_], _ => rfl)

    have F2 : TR.FunAt K mg "rooms_in_turn" Lw.s_rooms_in_turn ["key"] := TR.z_fun KX G (TR.SaysZ.fact c 41) (TR.SaysZ.def_ c 2) (fun _ _ _ _ _ _ us hl => match us, hl with | [_], _ => rfl)

    have F3 : TR.FunAt K mg "stay" Lw.s_stay ["key", "room"] := TR.z_fun KX G (TR.SaysZ.fact c 42) (TR.SaysZ.def_ c 3) (fun _ _ _ _ _ _ us hl => match us, hl with | [_, _], _ => rfl)

    have F4 : TR.FunAt K mg "whole_rooms" Lw.s_whole_rooms ["rooms"] := TR.z_fun KX G (TR.SaysZ.fact c 43) (TR.SaysZ.def_ c 4) (fun _ _ _ _ _ _ us hl => match us, hl with | [_], _ => rfl)

    have F5 : TR.FunAt K mg "room_of" Lw.s_room_of ["key", "rooms"] := TR.z_fun KX G (TR.SaysZ.fact c 44) (TR.SaysZ.def_ c 5) (fun _ _ _ _ _ _ us hl => match us, hl with | [_, _], _ => rfl)

    have F6 : TR.FunAt K mg "trail" Lw.s_trail ["key", "rooms"] := TR.z_fun KX G (TR.SaysZ.fact c 45) (TR.SaysZ.def_ c 6) (fun _ _ _ _ _ _ us hl => match us, hl with | [_, _], _ => rfl)

    have F7 : TR.FunAt K mg "_law_draw" Lw.s_law_draw ["_law_hand", "_law_many"] := TR.z_fun KX G (TR.SaysZ.fact c 46) (TR.SaysZ.def_ c 7) (fun _ _ _ _ _ _ us hl => match us, hl with | [_, _], _ => rfl)

    have F8 : TR.FunAt K mg "_law_far" Lw.s_law_far ["_law_hand", "_law_many"] := TR.z_fun KX G (TR.SaysZ.fact c 47) (TR.SaysZ.def_ c 8) (fun _ _ _ _ _ _ us hl => match us, hl with | [_, _], _ => rfl)

    have F9 : TR.FunAt K mg "_law_power" Lw.s_law_power ["_law_many"] := TR.z_fun KX G (TR.SaysZ.fact c 48) (TR.SaysZ.def_ c 9) (fun _ _ _ _ _ _ us hl => match us, hl with | [_], _ => rfl)

    have F10 : TR.FunAt K mg "_law_key" Lw.s_law_key ["_law_hand"] := TR.z_fun KX G (TR.SaysZ.fact c 49) (TR.SaysZ.def_ c 10) (fun _ _ _ _ _ _ us hl => match us, hl with | [_], _ => rfl)

    have F11 : TR.FunAt K mg "_law_lines" Lw.s_law_lines ["_law_hand"] := TR.z_fun KX G (TR.SaysZ.fact c 50) (TR.SaysZ.def_ c 11) (fun _ _ _ _ _ _ us hl => match us, hl with | [_], _ => rfl)

    have F12 : TR.FunAt K mg "_law_open" Lw.s_law_open ["_law_script", "_law_place"] := TR.z_fun KX G (TR.SaysZ.fact c 51) (TR.SaysZ.def_ c 12) (fun _ _ _ _ _ _ us hl => match us, hl with | [_, _], _ => rfl)

    have F13 : TR.FunAt K mg "_law_what" Lw.s_law_what ["_law_e"] := TR.z_fun KX G (TR.SaysZ.fact c 52) (TR.SaysZ.def_ c 13) (fun _ _ _ _ _ _ us hl => match us, hl with | [_], _ => rfl)

    have F14 : TR.FunAt K mg "asked_answer" Lw.s_asked_answer ["keeper", "word", "some"] := TR.z_fun KX G (TR.SaysZ.fact c 53) (TR.SaysZ.def_ c 14) (fun _ _ _ _ _ _ us hl => match us, hl with | [_, _, _], _ => rfl)

    have F15 : TR.FunAt K mg "deed_answer" Lw.s_deed_answer ["keeper", "word", "some"] := TR.z_fun KX G (TR.SaysZ.fact c 54) (TR.SaysZ.def_ c 15) (fun _ _ _ _ _ _ us hl => match us, hl with | [_, _, _], _ => rfl)

    have F16 : TR.FunAt K mg "rows_for" Lw.s_rows_for ["many", "wide"] := TR.z_fun KX G (TR.SaysZ.fact c 55) (TR.SaysZ.def_ c 16) (fun _ _ _ _ _ _ us hl => match us, hl with | [_, _], _ => rfl)

    have F17 : TR.FunAt K mg "spill" Lw.s_spill ["sizes", "wide"] := TR.z_fun KX G (TR.SaysZ.fact c 56) (TR.SaysZ.def_ c 17) (fun _ _ _ _ _ _ us hl => match us, hl with | [_, _], _ => rfl)

    have F18 : TR.FunAt K mg "spill_behind" Lw.s_spill_behind ["sizes", "wide", "put"] := TR.z_fun KX G (TR.SaysZ.fact c 57) (TR.SaysZ.def_ c 18) (fun _ _ _ _ _ _ us hl => match us, hl with | [_, _, _], _ => rfl)

    have F19 : TR.FunAt K mg "free_of" Lw.s_free_of ["many", "wide"] := TR.z_fun KX G (TR.SaysZ.fact c 58) (TR.SaysZ.def_ c 19) (fun _ _ _ _ _ _ us hl => match us, hl with | [_, _], _ => rfl)

    have F20 : TR.FunAt K mg "least_spill" Lw.s_least_spill ["sizes", "wide", "more"] := TR.z_fun KX G (TR.SaysZ.fact c 59) (TR.SaysZ.def_ c 20) (fun _ _ _ _ _ _ us hl => match us, hl with | [_, _, _], _ => rfl)

    have F21 : TR.FunAt K mg "needs_of" Lw.s_needs_of ["sizes", "wide"] := TR.z_fun KX G (TR.SaysZ.fact c 60) (TR.SaysZ.def_ c 21) (fun _ _ _ _ _ _ us hl => match us, hl with | [_, _], _ => rfl)

    have F22 : TR.FunAt K mg "greatest_spill" Lw.s_greatest_spill ["sizes", "wide", "more"] := TR.z_fun KX G (TR.SaysZ.fact c 61) (TR.SaysZ.def_ c 22) (fun _ _ _ _ _ _ us hl => match us, hl with | [_, _, _], _ => rfl)

    have F23 : TR.FunAt K mg "stay_told" Lw.s_stay_told ["told"] := TR.z_fun KX G (TR.SaysZ.fact c 62) (TR.SaysZ.def_ c 23) (fun _ _ _ _ _ _ us hl => match us, hl with | [_], _ => rfl)

    have F24 : TR.FunAt K mg "plain_answer" Lw.s_plain_answer ["word", "some"] := TR.z_fun KX G (TR.SaysZ.fact c 63) (TR.SaysZ.def_ c 24) (fun _ _ _ _ _ _ us hl => match us, hl with | [_, _], _ => rfl)

    have F25 : TR.FunAt K mg "is_whole" Lw.s_is_whole ["thing"] := TR.z_fun KX G (TR.SaysZ.fact c 64) (TR.SaysZ.def_ c 25) (fun _ _ _ _ _ _ us hl => match us, hl with | [_], _ => rfl)

    have F26 : TR.FunAt K mg "is_size" Lw.s_is_size ["thing"] := TR.z_fun KX G (TR.SaysZ.fact c 65) (TR.SaysZ.def_ c 26) (fun _ _ _ _ _ _ us hl => match us, hl with | [_], _ => rfl)

    have F27 : TR.FunAt K mg "is_key" Lw.s_is_key ["thing"] := TR.z_fun KX G (TR.SaysZ.fact c 66) (TR.SaysZ.def_ c 27) (fun _ _ _ _ _ _ us hl => match us, hl with | [_], _ => rfl)

    have F28 : TR.FunAt K mg "is_of" Lw.s_is_of ["sign", "number"] := TR.z_fun KX G (TR.SaysZ.fact c 67) (TR.SaysZ.def_ c 28) (fun _ _ _ _ _ _ us hl => match us, hl with | [_, _], _ => rfl)

    have F29 : TR.FunAt K mg "read_number" Lw.s_read_number ["text"] := TR.z_fun KX G (TR.SaysZ.fact c 68) (TR.SaysZ.def_ c 29) (fun _ _ _ _ _ _ us hl => match us, hl with | [_], _ => rfl)

    have F30 : TR.FunAt K mg "is_name" Lw.s_is_name ["thing"] := TR.z_fun KX G (TR.SaysZ.fact c 69) (TR.SaysZ.def_ c 30) (fun _ _ _ _ _ _ us hl => match us, hl with | [_], _ => rfl)

    have F31 : TR.FunAt K mg "read_word" Lw.s_read_word ["sign", "word"] := TR.z_fun KX G (TR.SaysZ.fact c 70) (TR.SaysZ.def_ c 31) (fun _ _ _ _ _ _ us hl => match us, hl with | [_, _], _ => rfl)

    have F32 : TR.FunAt K mg "read_line" Lw.s_read_line ["line"] := TR.z_fun KX G (TR.SaysZ.fact c 71) (TR.SaysZ.def_ c 32) (fun _ _ _ _ _ _ us hl => match us, hl with | [_], _ => rfl)

    have F33 : TR.FunAt K mg "cut_rows" Lw.s_cut_rows ["wide", "entries"] := TR.z_fun KX G (TR.SaysZ.fact c 72) (TR.SaysZ.def_ c 33) (fun _ _ _ _ _ _ us hl => match us, hl with | [_, _], _ => rfl)

    have F34 : TR.FunAt K mg "yard_of" Lw.s_yard_of ["wide", "rooms", "entries"] := TR.z_fun KX G (TR.SaysZ.fact c 73) (TR.SaysZ.def_ c 34) (fun _ _ _ _ _ _ us hl => match us, hl with | [_, _, _], _ => rfl)

    have F35 : TR.ExAt K "NoSize" "NoSize.__init__" Lw.s_NoSize___init ["self", "thing"] := TR.z_exat KX (TR.SaysZ.fact c 74) (TR.SaysZ.def_ c 35) (fun _ _ _ _ _ _ us hl => match us, hl with | [_, _], _ => rfl)

    have T35 : TR.ExF K mg "NoSize" "thing" := TR.z_exf KX G (TR.SaysZ.fact c 75)

    have F36 : TR.FunAt K mg "need_sizes" Lw.s_need_sizes ["wide", "fill"] := TR.z_fun KX G (TR.SaysZ.fact c 76) (TR.SaysZ.def_ c 36) (fun _ _ _ _ _ _ us hl => match us, hl with | [_, _], _ => rfl)

    have F37 : TR.MakeAt K mg "Keeper" "Keeper.__init__" Lw.s_Keeper___init ["self", "wide", "fill"] := TR.z_make KX G (TR.SaysZ.fact c 77) (TR.SaysZ.fact c 78) (TR.SaysZ.def_ c 37) (fun _ _ _ _ _ _ us hl => match us, hl with | [_, _, _], _ => rfl)

    have F38 : TR.ExAt K "NoName" "NoName.__init__" Lw.s_NoName___init ["self", "name"] := TR.z_exat KX (TR.SaysZ.fact c 79) (TR.SaysZ.def_ c 38) (fun _ _ _ _ _ _ us hl => match us, hl with | [_, _], _ => rfl)

    have T38 : TR.ExF K mg "NoName" "name" := TR.z_exf KX G (TR.SaysZ.fact c 80)

    have F39 : TR.ExAt K "Taken" "Taken.__init__" Lw.s_Taken___init ["self", "name"] := TR.z_exat KX (TR.SaysZ.fact c 81) (TR.SaysZ.def_ c 39) (fun _ _ _ _ _ _ us hl => match us, hl with | [_, _], _ => rfl)

    have T39 : TR.ExF K mg "Taken" "name" := TR.z_exf KX G (TR.SaysZ.fact c 82)

    have F40 : TR.MethAt K "Desk" "say" "Desk.say" Lw.s_Desk_say ["self", "line"] := TR.z_meth KX (TR.SaysZ.fact c 83) (TR.SaysZ.fact c 84) (TR.SaysZ.def_ c 40) (fun _ _ _ _ _ _ us hl => match us, hl with | [_, _], _ => rfl)

    have F41 : TR.FunAt K mg "_law_said" Lw.s_law_said ["_law_desk", "_law_line"] := TR.z_fun KX G (TR.SaysZ.fact c 85) (TR.SaysZ.def_ c 41) (fun _ _ _ _ _ _ us hl => match us, hl with | [_, _], _ => rfl)

    have F42 : TR.FunAt K mg "_law_spills" Lw.s_law_spills ["_law_hand"] := TR.z_fun KX G (TR.SaysZ.fact c 86) (TR.SaysZ.def_ c 42) (fun _ _ _ _ _ _ us hl => match us, hl with | [_], _ => rfl)

    have F43 : TR.MakeAt K mg "Desk" "Desk.__init__" Lw.s_Desk___init ["self"] := TR.z_make KX G (TR.SaysZ.fact c 83) (TR.SaysZ.fact c 87) (TR.SaysZ.def_ c 43) (fun _ _ _ _ _ _ us hl => match us, hl with | [_], _ => rfl)

    have kf_FORMS : TR.KFormAt w K mg "FORMS" TR.formsL := TR.z_kform KX G (TR.SaysZ.fact c 89) (TR.SaysZ.tabW c 0)

    have hl : ∃ fd : FuncData, (∀ (s : Shared) (v : Value), BindsTo s fd ⟨[v], []⟩ [("_law_script", v)]) ∧ ∀ base : Heap, K.In base → base.Ns mainGlobals mg → L2.FnOk (PySem.Challenge.rw_tailrooms_k94_lines_of_bits_and_spill).prog w K mg base L2.CX0 8 fa fd ["_law_script"] (Lw.sp_law K) := by
      refine TR.law_endZ (st := Lw.s_law) (x := "_law_script") KX G hmg (TR.SaysZ.fact c 88) (TR.SaysZ.def_ c 44) (fun _ _ _ _ _ _ s v => .of_eq rfl) fun base f0 fd0 FF => ?_

      have h0 := Lw.has_parted (P := PySem.Challenge.rw_tailrooms_k94_lines_of_bits_and_spill.prog) (w := w) (base := base) zz F0 

      have h1 := Lw.has_law_stay_text (P := PySem.Challenge.rw_tailrooms_k94_lines_of_bits_and_spill.prog) (w := w) (base := base) zz F1 

      have h2 := Lw.has_rooms_in_turn (P := PySem.Challenge.rw_tailrooms_k94_lines_of_bits_and_spill.prog) (w := w) (base := base) zz F2 

      have h3 := Lw.has_stay (P := PySem.Challenge.rw_tailrooms_k94_lines_of_bits_and_spill.prog) (w := w) (base := base) zz F3 h2

      have h4 := Lw.has_whole_rooms (P := PySem.Challenge.rw_tailrooms_k94_lines_of_bits_and_spill.prog) (w := w) (base := base) zz F4 

      have h5 := Lw.has_room_of (P := PySem.Challenge.rw_tailrooms_k94_lines_of_bits_and_spill.prog) (w := w) (base := base) zz F5 h4

      have h6 := Lw.has_trail (P := PySem.Challenge.rw_tailrooms_k94_lines_of_bits_and_spill.prog) (w := w) (base := base) zz F6 h2

      have h7 := Lw.has_law_draw (P := PySem.Challenge.rw_tailrooms_k94_lines_of_bits_and_spill.prog) (w := w) (base := base) zz F7 

      have h8 := Lw.has_law_far (P := PySem.Challenge.rw_tailrooms_k94_lines_of_bits_and_spill.prog) (w := w) (base := base) zz F8 h7

      have h9 := Lw.has_law_power (P := PySem.Challenge.rw_tailrooms_k94_lines_of_bits_and_spill.prog) (w := w) (base := base) zz F9 

      have h10 := Lw.has_law_key (P := PySem.Challenge.rw_tailrooms_k94_lines_of_bits_and_spill.prog) (w := w) (base := base) zz F10 h8 h9 h7

      have h11 := Lw.has_law_lines (P := PySem.Challenge.rw_tailrooms_k94_lines_of_bits_and_spill.prog) (w := w) (base := base) zz F11 h0 h1 h3 h5 h6 h8 h9 h7 h10

      have h12 := Lw.has_law_open (P := PySem.Challenge.rw_tailrooms_k94_lines_of_bits_and_spill.prog) (w := w) (base := base) zz F12 

      have h13 := Lw.has_law_what (P := PySem.Challenge.rw_tailrooms_k94_lines_of_bits_and_spill.prog) (w := w) (base := base) zz F13 

      have h14 := Lw.has_asked_answer (P := PySem.Challenge.rw_tailrooms_k94_lines_of_bits_and_spill.prog) (w := w) (base := base) zz F14 

      have h15 := Lw.has_deed_answer (P := PySem.Challenge.rw_tailrooms_k94_lines_of_bits_and_spill.prog) (w := w) (base := base) zz F15 

      have h16 := Lw.has_rows_for (P := PySem.Challenge.rw_tailrooms_k94_lines_of_bits_and_spill.prog) (w := w) (base := base) zz F16 

      have h17 := Lw.has_spill (P := PySem.Challenge.rw_tailrooms_k94_lines_of_bits_and_spill.prog) (w := w) (base := base) zz F17 h16

      have h18 := Lw.has_spill_behind (P := PySem.Challenge.rw_tailrooms_k94_lines_of_bits_and_spill.prog) (w := w) (base := base) zz F18 h17

      have h19 := Lw.has_free_of (P := PySem.Challenge.rw_tailrooms_k94_lines_of_bits_and_spill.prog) (w := w) (base := base) zz F19 h16

      have h20 := Lw.has_least_spill (P := PySem.Challenge.rw_tailrooms_k94_lines_of_bits_and_spill.prog) (w := w) (base := base) zz F20 h18 h19

      have h21 := Lw.has_needs_of (P := PySem.Challenge.rw_tailrooms_k94_lines_of_bits_and_spill.prog) (w := w) (base := base) zz F21 h16

      have h22 := Lw.has_greatest_spill (P := PySem.Challenge.rw_tailrooms_k94_lines_of_bits_and_spill.prog) (w := w) (base := base) zz F22 h18 h21

      have h23 := Lw.has_stay_told (P := PySem.Challenge.rw_tailrooms_k94_lines_of_bits_and_spill.prog) (w := w) (base := base) zz F23 

      have h24 := Lw.has_plain_answer (P := PySem.Challenge.rw_tailrooms_k94_lines_of_bits_and_spill.prog) (w := w) (base := base) zz F24 h0 h20 h22 h23 h3 h6 h5

      have h25 := Lw.has_is_whole (P := PySem.Challenge.rw_tailrooms_k94_lines_of_bits_and_spill.prog) (w := w) (base := base) zz F25 

      have h26 := Lw.has_is_size (P := PySem.Challenge.rw_tailrooms_k94_lines_of_bits_and_spill.prog) (w := w) (base := base) zz F26 h25

      have h27 := Lw.has_is_key (P := PySem.Challenge.rw_tailrooms_k94_lines_of_bits_and_spill.prog) (w := w) (base := base) zz F27 h25

      have h28 := Lw.has_is_of (P := PySem.Challenge.rw_tailrooms_k94_lines_of_bits_and_spill.prog) (w := w) (base := base) zz F28 h26 h27

      have h29 := Lw.has_read_number (P := PySem.Challenge.rw_tailrooms_k94_lines_of_bits_and_spill.prog) (w := w) (base := base) zz F29 

      have h30 := Lw.has_is_name (P := PySem.Challenge.rw_tailrooms_k94_lines_of_bits_and_spill.prog) (w := w) (base := base) zz F30 

      have h31 := Lw.has_read_word (P := PySem.Challenge.rw_tailrooms_k94_lines_of_bits_and_spill.prog) (w := w) (base := base) zz F31 h28 h29 h30

      have h32 := Lw.has_read_line (P := PySem.Challenge.rw_tailrooms_k94_lines_of_bits_and_spill.prog) (w := w) (base := base) zz F32 h31 kf_FORMS

      have h33 := Lw.has_cut_rows (P := PySem.Challenge.rw_tailrooms_k94_lines_of_bits_and_spill.prog) (w := w) (base := base) zz F33 

      have h34 := Lw.has_yard_of (P := PySem.Challenge.rw_tailrooms_k94_lines_of_bits_and_spill.prog) (w := w) (base := base) zz F34 h33 h5

      have h35 := Lw.has_NoSize___init (P := PySem.Challenge.rw_tailrooms_k94_lines_of_bits_and_spill.prog) (w := w) (base := base) zz T35 F35 

      have h36 := Lw.has_need_sizes (P := PySem.Challenge.rw_tailrooms_k94_lines_of_bits_and_spill.prog) (w := w) (base := base) zz F36 h26 h35

      have h37 := Lw.has_Keeper___init (P := PySem.Challenge.rw_tailrooms_k94_lines_of_bits_and_spill.prog) (w := w) (base := base) zz F37 h34 h36

      have h38 := Lw.has_NoName___init (P := PySem.Challenge.rw_tailrooms_k94_lines_of_bits_and_spill.prog) (w := w) (base := base) zz T38 F38 

      have h39 := Lw.has_Taken___init (P := PySem.Challenge.rw_tailrooms_k94_lines_of_bits_and_spill.prog) (w := w) (base := base) zz T39 F39 

      have h40 := Lw.has_Desk_say (P := PySem.Challenge.rw_tailrooms_k94_lines_of_bits_and_spill.prog) (w := w) (base := base) zz F40 h14 h15 h24 h32 h37 h38 h39 kf_FORMS

      have h41 := Lw.has_law_said (P := PySem.Challenge.rw_tailrooms_k94_lines_of_bits_and_spill.prog) (w := w) (base := base) zz F41 h13 h40

      have h42 := Lw.has_law_spills (P := PySem.Challenge.rw_tailrooms_k94_lines_of_bits_and_spill.prog) (w := w) (base := base) zz F42 h20 h22 h8 h7

      have h43 := Lw.has_Desk___init (P := PySem.Challenge.rw_tailrooms_k94_lines_of_bits_and_spill.prog) (w := w) (base := base) zz F43 

      exact Lw.ok_law zz FF h11 h12 h41 h42 h43

    obtain ⟨fd, hb, hF⟩ := hl
    exact ⟨K, fd, Lw.sp_law K, KX, hb, fun H a ns hl _ hS => ⟨a, ns, rfl, hS, hl, fun _ => rfl⟩, hF⟩

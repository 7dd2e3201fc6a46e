import PyProof.Rows.All
import Wide.All
import OpenK.AllK
import Wide.FinOn
import HandS.ForMost
import HandS.Wide
import HandS.SortInts
import HandS.IsInst
import HandS.Conv
import HandS.Evl
import HandS.Style
import HandS.SortRule
import HandS.ForExc
import HandS.ExcInit
import HandS.ExcField
import HandS.TryMany
import HandS.Small
import HandS.Text
import PyProof.Rows.ChunkEnd
import HandS.DictTup
import KE.KItemsList
import HandS.More
import HandS.Zip
import KE.KExcIs
import HandS.DictComp
import HandS.HotCalls
import PySem.Challenge.RW_tailrooms_k37_refused_in_order
set_option Elab.async false
set_option linter.all false
set_option maxRecDepth 100000
set_option maxHeartbeats 4000000

/-! TR: joined rules, steps of a reading, the heap, the hand that is drawn from -/
noncomputable section
namespace TR
open PySem L2
open PySem.Spec PyProof.Rows

/-! ### joined rules -/
section
variable {X : Cx}
noncomputable def rPlus : R2 := fun x y H Q => (rI0 fun i j => .int (i + j)) x y H Q ∨ rCat x y H Q ∨
  (∃ i j, x = .str i ∧ y = .str j ∧ i.length + j.length ≤ sizeLine ∧ Q (.str (i ++ j)) H)
theorem op_plusA : OpR X (binaryOp .Add) rPlus := OpR.or op_add (OpR.or op_cat op_add_str)
noncomputable def rMult : R2 := fun x y H Q => (rI CMulW fun i j => .int (i * j)) x y H Q ∨ (rI CMul fun i j => .int (i * j)) x y H Q ∨ rRep x y H Q
theorem op_multA : OpR X (binaryOp .Mult) rMult := OpR.or op_mulW (OpR.or op_mul op_rep)
noncomputable def rEqA (K : PySem.W.Frag) : R2 := fun x y H Q => rEq x y H Q ∨ rEqD K x y H Q
noncomputable def rNeA (K : PySem.W.Frag) : R2 := fun x y H Q => rNe x y H Q ∨ rNeD K x y H Q
theorem op_eqA (hu : X.A.units + 64 < cLine) : OpR X (compareOp .Eq) (rEqA X.K) := OpR.or op_eq (op_eqD hu)
theorem op_neA (hu : X.A.units + 64 < cLine) : OpR X (compareOp .NotEq) (rNeA X.K) := OpR.or op_ne (op_neD hu)
theorem op_inA : OpR X (compareOp .In) (rIn X.K false) := op_in_seq
noncomputable def rLenS (K : PySem.W.Frag) : List V → Hp → VK → Prop := Evl.rLenS K
noncomputable def rLenT : List V → Hp → VK → Prop := fun xs H Q => ∃ z, xs = [.str z] ∧ z.length ≤ sizeLine ∧ Q (.int z.length) H
noncomputable def rLen (K : PySem.W.Frag) : List V → Hp → VK → Prop := fun xs H Q => rLenS K xs H Q ∨ rLenT xs H Q
theorem call_lenA : CallR X (.builtin "len") (rLen X.K) := CallR.or call_len_seq call_len_str
theorem cr_sumA (hc : X.calm = true) : CallR X (.builtin "sum") (rSum X.K) := cr_sum hc
theorem cr_maxA (hc : X.calm = true) : CallR X (.builtin "max") (rMax X.K) := cr_max hc
noncomputable def rGetL (K : PySem.W.Frag) : R2 := fun x y H Q => ∃ p xs i v, x = .ref p ∧ y = .int i ∧ SqL K H p xs ∧ 0 ≤ i ∧ atI xs i = some v ∧ Q v H
theorem pget_list : PGet X (rGetL X.K) := by
  intro pins s σ H x0 y0 v u Q I rx ru hh
  obtain ⟨p, xs, i, z, ex, ei, hq, h0, he, q⟩ := hh
  subst ex
  subst ei
  cases rx
  obtain ⟨t, et⟩ := ru
  subst et
  obtain ⟨its, r, pl, _⟩ := I.list hq
  obtain ⟨j, h1, h2, h3, _, h5⟩ := atI_get he
  obtain ⟨y, ey, ry⟩ := r.get h2
  have hl := r.length
  have hn := line63
  rw [seqIndex_of h0 h5] at h1
  have hj : i.toNat = j := Option.some.inj h1
  exact wpAny_getItem_list pl.isList h0 (by omega) (by rw [hj]; simpa using ey) ⟨z, H, I, ry, q⟩
noncomputable def rIsNA : R2 := fun x y H Q => y = .non ∧ Q (.bl (decide (x = .non))) H
noncomputable def rNotNA : R2 := fun x y H Q => y = .non ∧ Q (.bl (!decide (x = .non))) H
noncomputable def rMax2 : List V → Hp → VK → Prop := fun xs H Q => ∃ i j, xs = [.int i, .int j] ∧ Q (.int (max i j)) H
noncomputable def rMin2 : List V → Hp → VK → Prop := fun xs H Q => ∃ i j, xs = [.int i, .int j] ∧ Q (.int (min i j)) H
noncomputable def rAbs : List V → Hp → VK → Prop := fun xs H Q => ∃ i, xs = [.int i] ∧ Q (.int (if i < 0 then -i else i)) H
theorem call_max2A (hc : X.calm = true) : CallR X (.builtin "max") rMax2 := by
  have e : rMax2 = fun xs H Q => ∃ i j, xs = [V.int i, V.int j] ∧ Q (.int (if j > i then j else i)) H := by
    funext xs H Q
    have e2 : ∀ i j : Int, max i j = if j > i then j else i := fun i j => by
      by_cases h : j > i
      · rw [if_pos h]
        omega
      · rw [if_neg h]
        omega
    show (∃ i j, xs = [V.int i, V.int j] ∧ Q (.int (max i j)) H) = _
    simp only [e2]
  rw [e]
  exact call_max2 hc
theorem call_min2A (hc : X.calm = true) : CallR X (.builtin "min") rMin2 := by
  have e : rMin2 = fun xs H Q => ∃ i j, xs = [V.int i, V.int j] ∧ Q (.int (if j < i then j else i)) H := by
    funext xs H Q
    have e2 : ∀ i j : Int, min i j = if j < i then j else i := fun i j => by
      by_cases h : j < i
      · rw [if_pos h]
        omega
      · rw [if_neg h]
        omega
    show (∃ i j, xs = [V.int i, V.int j] ∧ Q (.int (min i j)) H) = _
    simp only [e2]
  rw [e]
  exact call_min2 hc
theorem call_absA : CallR X (.builtin "abs") rAbs := call_abs
noncomputable def rInt1 : List V → Hp → VK → Prop := fun xs H Q => (∃ i, xs = [.int i] ∧ Q (.int i) H) ∨ ∃ k, xs = [.bl k] ∧ Q (.int (if k then 1 else 0)) H
theorem call_int1A : CallR X (.type "int") rInt1 := call_int1
noncomputable def rList1 (K : PySem.W.Frag) : List V → Hp → VK → Prop := Evl.rListS K
end

/-! ### the same rules, the written part K named (they may stand in a comprehension's block) -/
section
variable {X : Cx} {K : PySem.W.Frag}
theorem ixA (hk : X.K = K) : IxR X (rIx K) := hk ▸ ix_seq
theorem slA (hk : X.K = K) : SlR X (rSlL K) := hk ▸ sl_list
theorem lenA (hk : X.K = K) : CallR X (.builtin "len") (rLen K) := hk ▸ call_lenA
theorem eqA (hk : X.K = K) (hu : X.A.units + 64 < cLine) : OpR X (compareOp .Eq) (rEqA K) := hk ▸ op_eqA hu
theorem neA (hk : X.K = K) (hu : X.A.units + 64 < cLine) : OpR X (compareOp .NotEq) (rNeA K) := hk ▸ op_neA hu
theorem inA (hk : X.K = K) : OpR X (compareOp .In) (rIn K false) := hk ▸ op_inA
theorem isiA (hk : X.K = K) : CallR X (.builtin "isinstance") (rIsi K) := hk ▸ call_isi
theorem sumA (hk : X.K = K) (hc : X.calm = true) : CallR X (.builtin "sum") (rSum K) := hk ▸ cr_sumA hc
theorem maxA (hk : X.K = K) (hc : X.calm = true) : CallR X (.builtin "max") (rMax K) := hk ▸ cr_maxA hc
theorem sortA (hk : X.K = K) : CallR X (.builtin "sorted") (rSortedI K) := hk ▸ cr_sortedI
theorem indexA (hk : X.K = K) : MtR X "list.index" (rIndex K) := hk ▸ mt_index
theorem getA (hk : X.K = K) : PGet X (rGetL K) := hk ▸ pget_list
theorem piL {tg l : Expr} {tl : TE} (hk : X.K = K) (hl : PE X l tl) : PI X tg l (iList K tl) := hk ▸ pi_list hl
theorem piT {tg l : Expr} {tl : TE} (hk : X.K = K) (hl : PE X l tl) : PI X tg l (iTup K tl) := hk ▸ pi_tup hl
end

/-! ### heaps -/
/-- all of H is there in H' -/
noncomputable abbrev Ex := Evl.Ex
/-- all of H but what stands at h -/
noncomputable def ExM (h : Addr) (H H' : Hp) : Prop := ∀ a o, a ≠ h → H a = some o → H' a = some o
theorem Ex.refl (H : Hp) : Ex H H := Evl.Ex.refl H
theorem Ex.trans {H G F : Hp} (a : Ex H G) (b : Ex G F) : Ex H F := Evl.Ex.trans a b
theorem Ex.new {H : Hp} {a : Addr} {u : HO} (h : H a = none) : Ex H (L2.upd H a u) := Evl.Ex.new h
theorem Ex.mut {H G : Hp} {a : Addr} {u : HO} (e : Ex H G) (h : H a = none) : Ex H (L2.upd G a u) := Evl.Ex.mut e h
theorem Ex.exm {Z H H' : Hp} {h : Addr} (e : Ex Z H) (hz : Z h = none) (m : ExM h H H') : Ex Z H' := fun a o ha => m a o (ne_of_none ha hz) (e a o ha)
theorem Ex.toM {H H' : Hp} {h : Addr} (e : Ex H H') : ExM h H H' := fun a o _ ha => e a o ha
theorem ExM.refl {h : Addr} (H : Hp) : ExM h H H := fun _ _ _ e => e
theorem ExM.trans {h : Addr} {H H1 H2 : Hp} (a : ExM h H H1) (b : ExM h H1 H2) : ExM h H H2 := fun x o n e => b x o n (a x o n e)
theorem ExM.upd {h : Addr} {H : Hp} {o : HO} : ExM h H (upd H h o) := fun a u n e => by
  rw [upd_ne n]
  exact e
/-- a heap without one object -/
noncomputable def cutH (H : Hp) (h : Addr) : Hp := fun b => if b = h then none else H b
theorem Ex.back {H H' : Hp} {p : Addr} (e : Ex H H') (h : H' p = none) : H p = none := by
  cases h1 : H p with
  | none => rfl
  | some o =>
    rw [e p o h1] at h
    cases h
theorem Ex.sq {K : PySem.W.Frag} {H G : Hp} {p : Addr} {ys : List V} (e : Ex H G) (h : SqL K H p ys) : SqL K G p ys := Evl.ex_l e h
theorem Ex.st {K : PySem.W.Frag} {H G : Hp} {p : Addr} {ys : List V} (e : Ex H G) (h : SqT K H p ys) : SqT K G p ys := Evl.ex_t e h
theorem sq_of {K : PySem.W.Frag} {H : Hp} {p : Addr} {ys : List V} (h : H p = some (.lst ys)) : SqL K H p ys := SqL.of h
theorem st_of {K : PySem.W.Frag} {H : Hp} {p : Addr} {ys : List V} (h : H p = some (.tup ys)) : SqT K H p ys := SqT.of h
theorem sz_of {m : Nat} (h : m ≤ 100000) : m ≤ sizeLine := Evl.sz_of h
theorem sz_lt {m : Nat} (h : m < 100000) : m < sizeLine := Evl.sz_lt h

/-! ### places, first -/
theorem atI_lt {α : Type} {xs : List α} {i : Int} {v : α} (h0 : 0 ≤ i) (h : xs[i.toNat]? = some v) : atI xs i = some v := by
  have e : ((i.toNat : Nat) : Int) = i := Int.toNat_of_nonneg h0
  have q := atI_nat (xs := xs) (j := i.toNat) h
  rw [e] at q
  exact q
/-! ### steps of a reading: each turns what is to be shown into what it asks next -/
section
variable {K : PySem.W.Frag} {σ : L2.St} {H : Hp} {ta tb tc te : TE} {t u : TT} {D : Ends} {Q : VK} {QB : Bool → Hp → Prop} {v x y : V} {p : Prop} {A B : Prop}
theorem s_var {i : Nat} (h : σ[i]? = some (some v)) (q : Q v H) : tVar i σ H Q := ⟨v, h, q⟩
theorem s_c (q : Q v H) : tC v σ H Q := q
theorem s_op {r : R2} (q : ta σ H fun x H1 => tb σ H1 fun y H2 => r x y H2 Q) : tOp r ta tb σ H Q := q
theorem s_un {r : V → Hp → VK → Prop} (q : ta σ H fun x H1 => r x H1 Q) : tUn r ta σ H Q := q
theorem s_chain {r r' : R2} (q : ta σ H fun x H1 => tb σ H1 fun y H2 => r x y H2 fun z H3 => ∃ k, z = .bl k ∧ (if k = true then tc σ H3 fun w' H4 => r' y w' H4 Q else Q (.bl false) H3)) : tChain r r' ta tb tc σ H Q := q
theorem s_I0 {g : Int → Int → V} {i j : Int} (q : Q (g i j) H) : rI0 g (.int i) (.int j) H Q := ⟨i, j, rfl, rfl, q⟩
theorem s_U {g : Int → V} {i : Int} (q : Q (g i) H) : rU g (.int i) H Q := ⟨i, rfl, q⟩
theorem s_plusI {i j : Int} (q : Q (.int (i + j)) H) : rPlus (.int i) (.int j) H Q := .inl ⟨i, j, rfl, rfl, q⟩
theorem s_mulL {i j : Int} (c : -(2 ^ 64) < i ∧ i < 2 ^ 64) (q : Q (.int (i * j)) H) : rMult (.int i) (.int j) H Q := .inr (.inl ⟨i, j, rfl, rfl, .inl c, q⟩)
theorem s_mulR {i j : Int} (c : -(2 ^ 64) < j ∧ j < 2 ^ 64) (q : Q (.int (i * j)) H) : rMult (.int i) (.int j) H Q := .inr (.inl ⟨i, j, rfl, rfl, .inr c, q⟩)
theorem s_div {i j : Int} {g : Int → Int → V} (h : 0 < j) (h2 : j < 2 ^ 63) (q : Q (g i j) H) : rI CDivW g (.int i) (.int j) H Q :=
  ⟨i, j, rfl, rfl, wide_div (b := 63) h (by have e : (2 : Int) ^ 63 = 9223372036854775808 := by decide
                                            have e2 : (2 : Nat) ^ 63 = 9223372036854775808 := by decide
                                            omega) (by decide) (by decide), q⟩
theorem s_mod {i j : Int} (h : 0 < j) (q : 0 ≤ i % j → i % j < j → Q (.int (i % j)) H) : rI (fun _ j => 0 < j) (fun i j => .int (i % j)) (.int i) (.int j) H Q := ⟨i, j, rfl, rfl, h, q (Int.emod_nonneg i (Int.ne_of_gt h)) (Int.emod_lt_of_pos i h)⟩
theorem s_pow2_56 (q : Q (.int 72057594037927936) H) : rI CPow (fun i j => .int (i ^ j.toNat)) (.int 2) (.int 56) H Q := ⟨2, 56, rfl, rfl, ⟨by decide, by decide, by decide⟩, by
  have e : (2 : Int) ^ Int.toNat 56 = 72057594037927936 := by decide
  show Q (.int ((2 : Int) ^ Int.toNat 56)) H
  rw [e]
  exact q⟩
theorem s_pow2_60 (q : Q (.int 1152921504606846976) H) : rI CPow (fun i j => .int (i ^ j.toNat)) (.int 2) (.int 60) H Q := ⟨2, 60, rfl, rfl, ⟨by decide, by decide, by decide⟩, by
  have e : (2 : Int) ^ Int.toNat 60 = 1152921504606846976 := by decide
  show Q (.int ((2 : Int) ^ Int.toNat 60)) H
  rw [e]
  exact q⟩
theorem s_pow10_6 (q : Q (.int 1000000) H) : rI CPow (fun i j => .int (i ^ j.toNat)) (.int 10) (.int 6) H Q := ⟨10, 6, rfl, rfl, ⟨by decide, by decide, by decide⟩, by
  have e : (10 : Int) ^ Int.toNat 6 = 1000000 := by decide
  show Q (.int ((10 : Int) ^ Int.toNat 6)) H
  rw [e]
  exact q⟩
theorem s_pow10_18 (q : Q (.int 1000000000000000000) H) : rI CPow (fun i j => .int (i ^ j.toNat)) (.int 10) (.int 18) H Q := ⟨10, 18, rfl, rfl, ⟨by decide, by decide, by decide⟩, by
  have e : (10 : Int) ^ Int.toNat 18 = 1000000000000000000 := by decide
  show Q (.int ((10 : Int) ^ Int.toNat 18)) H
  rw [e]
  exact q⟩
theorem s_pow {i j : Int} {g : Int → Int → V} (h1 : 0 ≤ j ∧ j ≤ 1000) (h2 : i.natAbs < 2 ^ 64) (q : Q (g i j) H) : rI CPow g (.int i) (.int j) H Q := ⟨i, j, rfl, rfl, ⟨h1.1, by omega, h2⟩, q⟩
theorem s_eqI {a b : Int} (q : Q (.bl (decide (a = b))) H) : rEqA K (.int a) (.int b) H Q := .inl ⟨rfl, by
  have e : decide (V.int a = V.int b) = decide (a = b) := by rw [dec_int, Bool.beq_eq_decide_eq]
  rw [e]
  exact q⟩
theorem s_neI {a b : Int} (q : Q (.bl (decide (a ≠ b))) H) : rNeA K (.int a) (.int b) H Q := .inl ⟨rfl, by
  have e : (!decide (V.int a = V.int b)) = decide (a ≠ b) := by rw [dec_int, Bool.beq_eq_decide_eq, decide_not]
  rw [e]
  exact q⟩
theorem s_eqB {a b : Bool} (q : Q (.bl (decide (a = b))) H) : rEqA K (.bl a) (.bl b) H Q := .inl ⟨rfl, by
  have e : decide (V.bl a = V.bl b) = decide (a = b) := by cases a <;> cases b <;> rfl
  rw [e]
  exact q⟩
theorem s_neS {a b : Str} (q : Q (.bl (decide (a ≠ b))) H) : rNeA K (.str a) (.str b) H Q := .inl ⟨rfl, by
  have e : (!decide (V.str a = V.str b)) = decide (a ≠ b) := by
    by_cases h : a = b
    · rw [h, decide_eq_true rfl, decide_eq_false (fun z => z rfl)]
      rfl
    · rw [decide_eq_false (fun e => h (V.str.inj e)), decide_eq_true h]
      rfl
  rw [e]
  exact q⟩
/-- subscripts -/
theorem s_ixL {a : Addr} {xs : List V} {i : Int} (h : SqL K H a xs) (e : atI xs i = some v) (q : Q v H) : rIx K (.ref a) (.int i) H Q := .inl ⟨a, xs, i, v, rfl, rfl, h, e, q⟩
theorem s_ixT {a : Addr} {xs : List V} {i : Int} (h : SqT K H a xs) (e : atI xs i = some v) (q : Q v H) : rIx K (.ref a) (.int i) H Q := .inr (.inl ⟨a, xs, i, v, rfl, rfl, h, e, q⟩)
theorem s_getL {a : Addr} {xs : List V} {i : Int} (h : SqL K H a xs) (h0 : 0 ≤ i) (e : atI xs i = some v) (q : Q v H) : rGetL K (.ref a) (.int i) H Q := ⟨a, xs, i, v, rfl, rfl, h, h0, e, q⟩
/-- tests -/
theorem s_test (q : te σ H fun x H' => ∃ k, x = .bl k ∧ QB k H') : tTest te σ H QB := q
theorem s_tB (q : te σ H fun x H' => ∃ k, x = .bl k ∧ QB k H') : tB te σ H QB := q
theorem s_bl {b : Bool} {R : Bool → Prop} (q : R b) : ∃ k, V.bl b = V.bl k ∧ R k := ⟨b, rfl, q⟩
theorem s_and (q : t σ H fun c H1 => if c = true then u σ H1 QB else QB false H1) : tAnd t u σ H QB := q
theorem s_or (q : t σ H fun c H1 => if c = true then QB true H1 else u σ H1 QB) : tOr t u σ H QB := q
theorem s_not (q : t σ H fun c H1 => QB (!c) H1) : tNot t σ H QB := q
theorem s_andV (q : ta σ H fun x H1 => ∃ c, x = .bl c ∧ if c = true then tb σ H1 Q else Q (.bl false) H1) : tAndV ta tb σ H Q := q
theorem s_notV (q : ta σ H fun x H1 => ∃ c, x = .bl c ∧ Q (.bl (!c)) H1) : tNotV ta σ H Q := q
theorem i_d [Decidable p] (h1 : p → A) (h2 : ¬ p → B) : if decide p = true then A else B := by
  by_cases h : p
  · rw [if_pos (decide_eq_true h)]
    exact h1 h
  · rw [if_neg (fun z => h (of_decide_eq_true z))]
    exact h2 h
theorem i_n [Decidable p] (h1 : ¬ p → A) (h2 : p → B) : if (!decide p) = true then A else B := by
  by_cases h : p
  · rw [decide_eq_true h]
    exact h2 h
  · rw [decide_eq_false h]
    exact h1 h
theorem i_t (h : A) : if true = true then A else B := by
  rw [if_pos rfl]
  exact h
theorem i_f (h : B) : if false = true then A else B := by
  rw [if_neg Bool.false_ne_true]
  exact h
theorem i_nt (h : B) : if (!true) = true then A else B := i_f h
theorem i_nf (h : A) : if (!false) = true then A else B := i_t h
theorem i_dt [Decidable p] (hp : p) (h : A) : if decide p = true then A else B := i_d (fun _ => h) (fun n => absurd hp n)
theorem i_df [Decidable p] (hp : ¬ p) (h : B) : if decide p = true then A else B := i_d (fun z => absurd z hp) (fun _ => h)
/-- calls, displays, slices -/
theorem s_nil {QA : List V → Hp → Prop} (q : QA [] H) : tNil σ H QA := q
theorem s_cons {tr : TA} {QA : List V → Hp → Prop} (q : ta σ H fun x H1 => tr σ H1 fun xs H2 => QA (x :: xs) H2) : tCons ta tr σ H QA := q
theorem s_call {sp : Sp} {E : XK} {tr : TA} (q : tr σ H fun vs H1 => sp vs H1 Q E) : tCall sp [] E tr σ H Q := by
  have e : (fun (vs : List V) H1 => sp (vs ++ []) H1 Q E) = fun vs H1 => sp vs H1 Q E := by
    funext vs H1
    rw [List.append_nil]
  show tr σ H fun vs H1 => sp (vs ++ []) H1 Q E
  rw [e]
  exact q
theorem s_CB {r : List V → Hp → VK → Prop} {tr : TA} (q : tr σ H fun vs H1 => r vs H1 Q) : tCB r tr σ H Q := q
noncomputable def NewL (xs : List V) (H : Hp) (Q : VK) : Prop := xs.length ≤ sizeLine ∧ ∀ p, H p = none → Q (.ref p) (upd H p (.lst xs))
noncomputable def NewT (xs : List V) (H : Hp) (Q : VK) : Prop := xs.length ≤ sizeLine ∧ ∀ p, H p = none → Q (.ref p) (upd H p (.tup xs))
noncomputable def NewRg (a b : Int) (H : Hp) (Q : VK) : Prop := RgOk a b ∧ ∀ p, H p = none → Q (.ref p) (upd H p (.lst (rgV a b)))
theorem s_lst {tr : TA} (q : tr σ H fun xs H1 => NewL xs H1 Q) : tLst tr σ H Q := q
theorem s_tup {tr : TA} (q : tr σ H fun xs H1 => NewT xs H1 Q) : tTup tr σ H Q := q
theorem s_lenL {a : Addr} {xs : List V} (h : SqL K H a xs) (q : Q (.int (xs.length : Int)) H) : rLen K [.ref a] H Q := .inl ⟨a, xs, rfl, .inl h, q⟩
theorem s_lenM {α : Type} {f : α → V} {l : List α} {a : Addr} (h : SqL K H a (l.map f)) (q : Q (.int (l.length : Int)) H) : rLen K [.ref a] H Q := .inl ⟨a, _, rfl, .inl h, by rw [List.length_map]; exact q⟩
theorem s_ixI {l : List Int} {a : Addr} {i : Int} (h : SqL K H a (l.map V.int)) (h0 : 0 ≤ i ∧ i < l.length) (q : ∀ v, l[i.toNat]? = some v → Q (.int v) H) : rIx K (.ref a) (.int i) H Q := by
  have hl : i.toNat < l.length := by omega
  exact .inl ⟨a, _, i, _, rfl, rfl, h, atI_lt h0.1 (by rw [List.getElem?_map, List.getElem?_eq_getElem hl]; rfl), q _ (List.getElem?_eq_getElem hl)⟩
theorem s_ix3 {a : Addr} {x y z i : Int} (h : SqL K H a [.int x, .int y, .int z]) (h0 : 0 ≤ i ∧ i < 3) (q : ∀ v, (i = 0 ∧ v = x ∨ i = 1 ∧ v = y ∨ i = 2 ∧ v = z) → Q (.int v) H) : rIx K (.ref a) (.int i) H Q := by
  have : i = 0 ∨ i = 1 ∨ i = 2 := by omega
  rcases this with rfl | rfl | rfl
  · exact .inl ⟨a, _, 0, _, rfl, rfl, h, rfl, q _ (.inl ⟨rfl, rfl⟩)⟩
  · exact .inl ⟨a, _, 1, _, rfl, rfl, h, rfl, q _ (.inr (.inl ⟨rfl, rfl⟩))⟩
  · exact .inl ⟨a, _, 2, _, rfl, rfl, h, rfl, q _ (.inr (.inr ⟨rfl, rfl⟩))⟩
theorem s_lenS {z : Str} (h : z.length ≤ 100000) (q : Q (.int (z.length : Int)) H) : rLen K [.str z] H Q := .inr ⟨z, rfl, sz_of h, q⟩
theorem s_sl {r : V → Option Int → Option Int → Hp → VK → Prop} {tl th : TO} (q : te σ H fun x H1 => tl σ H1 fun l H2 => th σ H2 fun u H3 => r x l u H3 Q) : tSl r te tl th σ H Q := q
theorem s_np {QO : Option Int → Hp → Prop} (q : QO none H) : tNoPart σ H QO := q
theorem s_part {QO : Option Int → Hp → Prop} (q : te σ H fun x H1 => ∃ i, x = .int i ∧ QO (some i) H1) : tPart te σ H QO := q
theorem s_int {i : Int} {R : Int → Prop} (q : R i) : ∃ k, V.int i = V.int k ∧ R k := ⟨i, rfl, q⟩
theorem s_BM {T : String} {r : V → List V → Hp → VK → Prop} {tr : TA} (q : ta σ H fun x H1 => tyV K T x H1 ∧ tr σ H1 fun xs H2 => r x xs H2 Q) : tBM K T r ta tr σ H Q := q
theorem s_tyL {a : Addr} {xs : List V} {R : Prop} (h : SqL K H a xs) (q : R) : tyV K "list" (.ref a) H ∧ R := ⟨Or.inl ⟨rfl, xs, h⟩, q⟩
/-- statements -/
theorem s_seq {t u : TS} (q : t { D with nx := u D } σ H) : tSeq t u D σ H := q
theorem s_cut {t u : TS} (Mid : L2.St → Hp → Prop) (h : t { D with nx := Mid } σ H) (q : ∀ σ' H', Mid σ' H' → u D σ' H') : Evl.tCut t u D σ H := ⟨Mid, h, q⟩
theorem s_next (q : D.nx σ H) : tNext D σ H := q
theorem s_drop (q : te σ H fun _ H1 => D.nx σ H1) : tDrop te D σ H := q
theorem s_ret (q : te σ H D.rt) : tRet te D σ H := q
theorem s_if {t u : TS} {c : TT} (q : c σ H fun b H1 => if b = true then t D σ H1 else u D σ H1) : tIfS c t u D σ H := q
theorem s_asg {g : TG} (q : te σ H fun x H1 => g x σ H1 D.nx) : tAsg te g D σ H := q
theorem s_gname {i : Nat} {R : L2.St → Hp → Prop} (q : R (σ.set i (some v)) H) : gName i v σ H R := q
theorem s_gsub {to ti : TE} {ts : TSet} {R : L2.St → Hp → Prop} (q : to σ H fun o H1 => ti σ H1 fun i H2 => ts o i v H2 fun H3 => R σ H3) : gSub to ti ts v σ H R := q
theorem s_aug {i : Nat} {ti : TIp} (h : σ[i]? = some (some x)) (q : te σ H fun y H1 => ti x y H1 fun z H2 => D.nx (σ.set i (some z)) H2) : tAug i te ti D σ H := ⟨x, h, q⟩
theorem s_ipI {f : Int → Int → Int} {i j : Int} (q : Q (.int (f i j)) H) : ipI f (.int i) (.int j) H Q := ⟨i, j, rfl, rfl, q⟩
theorem s_augS {to ti : TE} {tget : V → V → Hp → VK → Prop} {tip : TIp} {tset : TSet}
    (q : to σ H fun o H1 => ti σ H1 fun i H2 => tget o i H2 fun x H3 => te σ H3 fun y H4 => tip x y H4 fun z H5 => tset o i z H5 fun H6 => D.nx σ H6) : tAugS to ti te tget tip tset D σ H := q
theorem s_max2 {i j : Int} (q : Q (.int (max i j)) H) : rMax2 [.int i, .int j] H Q := ⟨i, j, rfl, q⟩
theorem s_min2 {i j : Int} (q : Q (.int (min i j)) H) : rMin2 [.int i, .int j] H Q := ⟨i, j, rfl, q⟩
theorem s_abs {i : Int} (q : Q (.int (if i < 0 then -i else i)) H) : rAbs [.int i] H Q := ⟨i, rfl, q⟩
theorem s_int1b {b : Bool} (q : Q (.int (if b then 1 else 0)) H) : rInt1 [.bl b] H Q := .inr ⟨b, rfl, q⟩
theorem s_isiI {n : String} {i : Int} {b : Bool} (h : kitB "int" n = some b) (q : Q (.bl b) H) : rIsi K [.int i, .ty n] H Q := ⟨.int i, .ty n, _, _, b, rfl, .ty n, .base (.int i), kit_ty h, q⟩
theorem s_isiB {n : String} {i : Bool} {b : Bool} (h : kitB "bool" n = some b) (q : Q (.bl b) H) : rIsi K [.bl i, .ty n] H Q := ⟨.bl i, .ty n, _, _, b, rfl, .ty n, .base (.bl i), kit_ty h, q⟩
theorem s_isiS {n : String} {i : Str} {b : Bool} (h : kitB "str" n = some b) (q : Q (.bl b) H) : rIsi K [.str i, .ty n] H Q := ⟨.str i, .ty n, _, _, b, rfl, .ty n, .base (.str i), kit_ty h, q⟩
theorem s_isiN {n : String} {b : Bool} (h : kitB "NoneType" n = some b) (q : Q (.bl b) H) : rIsi K [.non, .ty n] H Q := ⟨.non, .ty n, _, _, b, rfl, .ty n, .base .non, kit_ty h, q⟩
theorem ty_sq {a : Addr} {xs : List V} (h : SqL K H a xs) : TyX K H (.ref a) (.type "list") := by
  rcases h with (h | ⟨o, h⟩) | ⟨o, its, n, hk, hc, _⟩
  · exact .base (.lst h)
  · exact .base (.frz h)
  · exact .kList hk hc
theorem ty_st {a : Addr} {xs : List V} (h : SqT K H a xs) : TyX K H (.ref a) (.type "tuple") := by
  rcases h with (h | ⟨o, h⟩) | ⟨o, its, n, hk, hc, _⟩
  · exact .base (.tup h)
  · exact .fTuple h
  · exact .kTuple hk hc
theorem s_isiL {n : String} {a : Addr} {xs : List V} {b : Bool} (hs : SqL K H a xs) (h : kitB "list" n = some b) (q : Q (.bl b) H) : rIsi K [.ref a, .ty n] H Q := ⟨.ref a, .ty n, _, _, b, rfl, .ty n, ty_sq hs, kit_ty h, q⟩
theorem s_isiT {n : String} {a : Addr} {xs : List V} {b : Bool} (hs : SqT K H a xs) (h : kitB "tuple" n = some b) (q : Q (.bl b) H) : rIsi K [.ref a, .ty n] H Q := ⟨.ref a, .ty n, _, _, b, rfl, .ty n, ty_st hs, kit_ty h, q⟩
theorem k_ii : kitB "int" "int" = some true := by decide +kernel
theorem k_ib : kitB "int" "bool" = some false := by decide +kernel
theorem k_is : kitB "int" "str" = some false := by decide +kernel
end

section
variable {K : PySem.W.Frag} {σ : L2.St} {H : Hp} {ta tb tl te : TE} {tt : TT} {D : Ends} {Q : VK} {g : TG} {ts : TS} {vs : List Nat}
theorem s_wp {A B : L2.St} {R : Prop} (h : wipe A vs = wipe B vs) (q : R) : wipe A vs = wipe B vs ∧ R := ⟨h, q⟩
/-! lists of a range -/
theorem s_lstRg {te : L2.St → Hp → (Int → Int → Hp → Prop) → Prop} (q : te σ H fun a b H1 => NewRg a b H1 Q) : tLstRg te σ H Q := q
theorem s_Rg2 {QR : Int → Int → Hp → Prop} (q : ta σ H fun x H1 => tb σ H1 fun y H2 => ∃ i j, x = .int i ∧ y = .int j ∧ QR i j H2) : tRg2 ta tb σ H QR := q
theorem s_int2 {i j : Int} {R : Int → Int → Prop} (q : R i j) : ∃ k l, V.int i = V.int k ∧ V.int j = V.int l ∧ R k l := ⟨i, j, rfl, rfl, q⟩
theorem n_rg {a b : Int} (h : 0 ≤ a ∧ a ≤ 16000000 ∧ 0 ≤ b ∧ b ≤ 16000000) (q : ∀ p H', H p = none → Ex H H' → H' p = some (.lst (rgV a b)) → Q (.ref p) H') : NewRg a b H Q :=
  ⟨.of_le (by omega) (by omega) (by omega) (by omega), fun p hp => q p _ hp (Ex.new hp) upd_same⟩
/-! loops: what a for asks, and how it is answered by an invariant -/
noncomputable def ForJ (g : TG) (tb : TS) (D : Ends) (σ : L2.St) (J : It) (H1 : Hp) : Prop := tFor (fun _ H R => R J H) g tb D σ H1
noncomputable def ForL (K : PySem.W.Frag) (g : TG) (tb : TS) (D : Ends) (σ : L2.St) (x : V) (H1 : Hp) : Prop := ∃ a, x = .ref a ∧ (∃ xs, SqL K H1 a xs) ∧ ForJ g tb D σ (Itl K a) H1
noncomputable def ForT (K : PySem.W.Frag) (g : TG) (tb : TS) (D : Ends) (σ : L2.St) (x : V) (H1 : Hp) : Prop := ∃ a, x = .ref a ∧ (∃ xs, SqT K H1 a xs) ∧ ForJ g tb D σ (Itt K a) H1
noncomputable def ForR1 (g : TG) (tb : TS) (D : Ends) (σ : L2.St) (vs : List V) (H1 : Hp) : Prop := ∃ j : Int, vs = [.int j] ∧ -(2 ^ 62) ≤ j ∧ j < 2 ^ 62 ∧ ForJ g tb D σ (Itr 0 j.toNat) H1
noncomputable def ForR2 (g : TG) (tb : TS) (D : Ends) (σ : L2.St) (vs : List V) (H1 : Hp) : Prop := ∃ i j : Int, vs = [.int i, .int j] ∧ (-(2 ^ 62) ≤ i ∧ i < 2 ^ 62 ∧ -(2 ^ 62) ≤ j ∧ j < 2 ^ 62) ∧ ForJ g tb D σ (Itr i (j - i).toNat) H1
noncomputable def ForE (K : PySem.W.Frag) (g : TG) (tb : TS) (D : Ends) (σ : L2.St) (vs : List V) (H1 : Hp) : Prop := ∃ a xs, vs = [.ref a] ∧ SqL K H1 a xs ∧ ForJ g tb D σ (Ite K a) H1
noncomputable def ForZ (K : PySem.W.Frag) (g : TG) (tb : TS) (D : Ends) (σ : L2.St) (vs : List V) (H1 : Hp) : Prop := ∃ a b xs ys, vs = [.ref a, .ref b] ∧ SqL K H1 a xs ∧ SqL K H1 b ys ∧ ForJ g tb D σ (Itz K a b) H1
noncomputable def ForS (g : TG) (tb : TS) (D : Ends) (σ : L2.St) (v : V) (H1 : Hp) : Prop := ∃ x, v = .str x ∧ ForJ g tb D σ (Its x) H1
theorem s_forL (q : tl σ H fun x H1 => ForL K g ts D σ x H1) : tFor (iList K tl) g ts D σ H := q
theorem s_forT (q : tl σ H fun x H1 => ForT K g ts D σ x H1) : tFor (iTup K tl) g ts D σ H := q
theorem s_forR1 {ta : TA} (q : ta σ H fun x H1 => ForR1 g ts D σ x H1) : tFor (iRng1 ta) g ts D σ H := q
theorem s_forS (q : te σ H fun x H1 => ForS g ts D σ x H1) : tFor (iStr te) g ts D σ H := q
theorem u_forL {a : Addr} {xs : List V} (Pv : Nat → L2.St → Hp → Prop) (h : SqL K H a xs) (h0 : Pv 0 σ H) (hl : ∀ i σ H, i ≤ xs.length → Pv i σ H → SqL K H a xs)
    (hs : ∀ i x σ H, xs[i]? = some x → Pv i σ H → g x σ H fun σ2 H2 => ts { D with nx := Pv (i + 1), ct := Pv (i + 1), bk := D.nx } σ2 H2) (hd : ∀ σ H, Pv xs.length σ H → D.nx σ H) : ForL K g ts D σ (.ref a) H :=
  ⟨a, rfl, ⟨xs, h⟩, for_list Pv h0 hl hs hd⟩
theorem u_forT {a : Addr} {xs : List V} (Pv : Nat → L2.St → Hp → Prop) (h : SqT K H a xs) (h0 : Pv 0 σ H) (hl : ∀ i σ H, i ≤ xs.length → Pv i σ H → SqT K H a xs)
    (hs : ∀ i x σ H, xs[i]? = some x → Pv i σ H → g x σ H fun σ2 H2 => ts { D with nx := Pv (i + 1), ct := Pv (i + 1), bk := D.nx } σ2 H2) (hd : ∀ σ H, Pv xs.length σ H → D.nx σ H) : ForT K g ts D σ (.ref a) H :=
  ⟨a, rfl, ⟨xs, h⟩, for_tup Pv h0 hl hs hd⟩
theorem u_forR1 {n : Int} (Pv : Nat → L2.St → Hp → Prop) (hn : -1000000000000 ≤ n ∧ n ≤ 1000000000000) (h0 : Pv 0 σ H)
    (hs : ∀ (i : Nat) σ H, (i : Int) < n → Pv i σ H → g (.int (i : Int)) σ H fun σ2 H2 => ts { D with nx := Pv (i + 1), ct := Pv (i + 1), bk := D.nx } σ2 H2) (hd : ∀ σ H, Pv n.toNat σ H → D.nx σ H) : ForR1 g ts D σ [.int n] H := by
  have e62 : (2 : Int) ^ 62 = 4611686018427387904 := by decide
  refine ⟨n, rfl, by omega, by omega, for_range (lo := 0) (n := n.toNat) Pv h0 (fun i σ H hi p => ?_) hd⟩
  have e : (0 : Int) + (i : Int) = (i : Int) := Int.zero_add _
  rw [e]
  exact hs i σ H (by omega) p
theorem u_while {c : TT} (Pv : Nat → L2.St → Hp → Prop) (m0 : Nat) (h0 : Pv m0 σ H)
    (hs : ∀ m σ H, Pv m σ H → c σ H fun b H1 => if b = true then ∃ N : L2.St → Hp → Prop, (∀ σ' H', N σ' H' → ∃ m', m' < m ∧ Pv m' σ' H') ∧ ts { D with nx := N, ct := N, bk := D.nx } σ H1 else D.nx σ H1) : tWhile c ts D σ H := ⟨Pv, ⟨m0, h0⟩, hs⟩
theorem w_body {m : Nat} {Pv : Nat → L2.St → Hp → Prop} {rt : VK} {bk : L2.St → Hp → Prop} (q : ts ⟨fun σ' H' => ∃ m', m' < m ∧ Pv m' σ' H', rt, bk, fun σ' H' => ∃ m', m' < m ∧ Pv m' σ' H'⟩ σ H) :
    ∃ N : L2.St → Hp → Prop, (∀ σ' H', N σ' H' → ∃ m', m' < m ∧ Pv m' σ' H') ∧ ts ⟨N, rt, bk, N⟩ σ H := ⟨_, fun _ _ h => h, q⟩
/-! comprehensions -/
noncomputable def LcJ (g : TG) (tt : TT) (te : TE) (vs : List Nat) (σ : L2.St) (J : It) (H1 : Hp) (Q : VK) : Prop := tLc (fun _ H R => R J H) g tt te vs σ H1 Q
noncomputable def LcL (K : PySem.W.Frag) (g : TG) (tt : TT) (te : TE) (vs : List Nat) (σ : L2.St) (x : V) (H1 : Hp) (Q : VK) : Prop := ∃ a, x = .ref a ∧ (∃ xs, SqL K H1 a xs) ∧ LcJ g tt te vs σ (Itl K a) H1 Q
noncomputable def LcT (K : PySem.W.Frag) (g : TG) (tt : TT) (te : TE) (vs : List Nat) (σ : L2.St) (x : V) (H1 : Hp) (Q : VK) : Prop := ∃ a, x = .ref a ∧ (∃ xs, SqT K H1 a xs) ∧ LcJ g tt te vs σ (Itt K a) H1 Q
noncomputable def LcR1 (g : TG) (tt : TT) (te : TE) (vs : List Nat) (σ : L2.St) (x : List V) (H1 : Hp) (Q : VK) : Prop := ∃ j : Int, x = [.int j] ∧ -(2 ^ 62) ≤ j ∧ j < 2 ^ 62 ∧ LcJ g tt te vs σ (Itr 0 j.toNat) H1 Q
noncomputable def LcR2 (g : TG) (tt : TT) (te : TE) (vs : List Nat) (σ : L2.St) (x : List V) (H1 : Hp) (Q : VK) : Prop := ∃ i j : Int, x = [.int i, .int j] ∧ (-(2 ^ 62) ≤ i ∧ i < 2 ^ 62 ∧ -(2 ^ 62) ≤ j ∧ j < 2 ^ 62) ∧ LcJ g tt te vs σ (Itr i (j - i).toNat) H1 Q
noncomputable def LcE (K : PySem.W.Frag) (g : TG) (tt : TT) (te : TE) (vs : List Nat) (σ : L2.St) (x : List V) (H1 : Hp) (Q : VK) : Prop := ∃ a xs, x = [.ref a] ∧ SqL K H1 a xs ∧ LcJ g tt te vs σ (Ite K a) H1 Q
noncomputable def LcZ (K : PySem.W.Frag) (g : TG) (tt : TT) (te : TE) (vs : List Nat) (σ : L2.St) (x : List V) (H1 : Hp) (Q : VK) : Prop := ∃ a b xs ys, x = [.ref a, .ref b] ∧ SqL K H1 a xs ∧ SqL K H1 b ys ∧ LcJ g tt te vs σ (Itz K a b) H1 Q
theorem s_lcL (q : tl σ H fun x H1 => LcL K g tt te vs σ x H1 Q) : tLc (iList K tl) g tt te vs σ H Q := q
theorem s_lcR1 {ta : TA} (q : ta σ H fun x H1 => LcR1 g tt te vs σ x H1 Q) : tLc (iRng1 ta) g tt te vs σ H Q := q
/-- the turns of a comprehension: what is kept stands in the relation R to its item; R is told at any heap that has all but the list that is made -/
theorem lc_turns {α : Type} {J : It} (l : List α) (p : α → Bool) (R : α → V → Hp → Prop) (mono : ∀ x y H1 H2, Ex H1 H2 → R x y H1 → R x y H2) (hz : l.length ≤ 40000)
    (hgo : ∀ i H', i < l.length → Ex H H' → J.go i H') (hst : ∀ H', Ex H H' → J.stop l.length H')
    (turn : ∀ D, H D = none → ∀ (i : Nat) x, l[i]? = some x → ∀ v H0 H', Ex H H0 → (∃ o, H0 D = some o) → J.yld i H0 v H' → Ex H0 H' ∧
      ∀ (A : VK) (B : Hp → Prop), (p x = true → ∀ y H4, Ex H' H4 → (∀ Z, ExM D H4 Z → Ex H Z → R x y Z) → A y H4) → (p x = false → ∀ H3, Ex H' H3 → B H3) →
        g v (wipe σ vs) H' fun σ2 H2 => wipe σ2 vs = wipe σ vs ∧ tt σ2 H2 fun b H3 => if b = true then te σ2 H3 A else B H3)
    (fin : ∀ D H' ys, H D = none → Ex H H' → H' D = some (.lst ys) → Paired (fun x y => R x y H') (l.filter p) ys → Q (.ref D) H') : LcJ g tt te vs σ J H Q := by
  intro D hD
  refine ⟨fun i m H' => m = l.length - i ∧ i ≤ l.length ∧ Ex H H' ∧ ∃ ys, H' D = some (.lst ys) ∧ ys.length ≤ i ∧ ∃ Z, Z D = none ∧ Ex Z H' ∧ ExM D H' Z ∧ Paired (fun x y => R x y Z) ((l.take i).filter p) ys,
    ⟨l.length, by omega, by omega, Ex.new hD, [], upd_same, Nat.le_refl _, H, hD, Ex.new hD, fun b o n e => by rw [upd_ne n] at e; exact e, .nil⟩, ?_⟩
  rintro i m H' ⟨rfl, hi, e, ys, hys, hly, Z, zD, zE, zM, pr⟩
  by_cases hlt : i < l.length
  · refine .inr ⟨hgo i H' hlt e, fun H'' => i + 1 ≤ l.length ∧ Ex H H'' ∧ ∃ ys, H'' D = some (.lst ys) ∧ ys.length ≤ i + 1 ∧ ∃ Z, Z D = none ∧ Ex Z H'' ∧ ExM D H'' Z ∧ Paired (fun x y => R x y Z) ((l.take (i + 1)).filter p) ys,
      fun H'' q => ⟨l.length - (i + 1), by omega, rfl, q⟩, fun v H2 hy => ?_⟩
    have ei : l[i]? = some l[i] := List.getElem?_eq_getElem hlt
    have e1 : l.take (i + 1) = l.take i ++ [l[i]] := by rw [List.take_add_one, ei]; rfl
    obtain ⟨ey, tn⟩ := turn D hD i _ ei v H' H2 e ⟨_, hys⟩ hy
    refine tn _ _ (fun hp y H4 e4 r => ?_) (fun hp H3 e3 => ?_)
    · have e5 := ey.trans e4
      have eD : Ex H (upd H4 D (.lst (ys ++ [y]))) := (e.trans e5).mut hD
      let Z4 : Hp := fun b => if b = D then none else H4 b
      have k1 : Z4 D = none := if_pos rfl
      have k2 : ExM D H4 Z4 := fun b o n q => by
        show (if b = D then none else H4 b) = some o
        rw [if_neg n]
        exact q
      have k3 : Ex Z Z4 := fun b o q => k2 b o (ne_of_none q zD) (e5 _ _ (zE b o q))
      have k4 : Ex H Z4 := fun b o q => k2 b o (ne_of_none q hD) (e5 _ _ (e b o q))
      refine ⟨ys, e5 _ _ hys, sz_lt (by omega), by omega, eD, _, upd_same, by rw [List.length_append]; show _ + 1 ≤ _; omega, Z4, k1, fun b o q => ?_, fun b o n q => ?_, ?_⟩
      · have nb : b ≠ D := ne_of_none q k1
        rw [upd_ne nb]
        have q' : (if b = D then none else H4 b) = some o := q
        rw [if_neg nb] at q'
        exact q'
      · rw [upd_ne n] at q
        exact k2 b o n q
      · rw [e1, List.filter_append, List.filter_cons, if_pos hp]
        exact Paired.snoc (Paired.mapP pr fun a b r => mono a b _ _ k3 r) (r Z4 k2 k4)
    · refine ⟨by omega, e.trans (ey.trans e3), ys, (ey.trans e3) _ _ hys, by omega, ?_⟩
      let Z4 : Hp := fun b => if b = D then none else H3 b
      have k1 : Z4 D = none := if_pos rfl
      have k2 : ExM D H3 Z4 := fun b o n q => by
        show (if b = D then none else H3 b) = some o
        rw [if_neg n]
        exact q
      have k3 : Ex Z Z4 := fun b o q => k2 b o (ne_of_none q zD) ((ey.trans e3) _ _ (zE b o q))
      refine ⟨Z4, k1, fun b o q => ?_, k2, ?_⟩
      · have nb : b ≠ D := ne_of_none q k1
        have q' : (if b = D then none else H3 b) = some o := q
        rw [if_neg nb] at q'
        exact q'
      · rw [e1, List.filter_append, List.filter_cons, if_neg (by rw [hp]; exact Bool.false_ne_true)]
        show Paired _ (_ ++ []) _
        rw [List.append_nil]
        exact Paired.mapP pr fun a b r => mono a b _ _ k3 r
  · have ei : i = l.length := by omega
    subst ei
    rw [List.take_length] at pr
    exact .inl ⟨hst H' e, fin D H' ys hD e hys (Paired.mapP pr fun a b r => mono a b _ _ zE r)⟩
theorem pair_map {α β : Type} {F : α → β} : ∀ {l : List α} {ys : List β}, Paired (fun x y => y = F x) l ys → ys = l.map F
  | _, _, .nil => rfl
  | _, _, .cons h t => by rw [h, pair_map t]; rfl
/-- values of a pure element over a list: they hang on the item alone -/
theorem u_lcL {α : Type} {a : Addr} (em : α → V) (l : List α) (p : α → Bool) (F : α → V) (hS : SqL K H a (l.map em)) (hz : l.length ≤ 40000)
    (turn : ∀ x ∈ l, ∀ H', Ex H H' → ∀ (A : VK) (B : Hp → Prop), (p x = true → ∀ H4, Ex H' H4 → A (F x) H4) → (p x = false → ∀ H3, Ex H' H3 → B H3) →
      g (em x) (wipe σ vs) H' fun σ2 H2 => wipe σ2 vs = wipe σ vs ∧ tt σ2 H2 fun b H3 => if b = true then te σ2 H3 A else B H3)
    (fin : ∀ D H', H D = none → Ex H H' → H' D = some (.lst ((l.filter p).map F)) → Q (.ref D) H') : LcL K g tt te vs σ (.ref a) H Q := by
  refine ⟨a, rfl, ⟨_, hS⟩, lc_turns l p (fun x y _ => y = F x) (fun _ _ _ _ _ r => r) hz (fun i H' hi e => ⟨_, em l[i], e.sq hS, by rw [List.getElem?_map, List.getElem?_eq_getElem hi]; rfl⟩) (fun H' e => ⟨_, e.sq hS, by rw [List.length_map]; exact Nat.le_refl _⟩)
    (fun D hD i x hx v H0 H' e _ hy => ?_) (fun D H' ys hD e h pr => fin D H' hD e (by rw [h, pair_map pr]))⟩
  obtain ⟨rfl, fv⟩ := hy
  have ev : v = em x := by
    have q := fv _ (e.sq hS)
    rw [List.getElem?_map, hx] at q
    exact (Option.some.inj q).symm
  subst ev
  exact ⟨Ex.refl _, fun A B h1 h2 => turn x (List.mem_of_getElem? hx) _ e A B (fun hp H4 e4 => h1 hp _ H4 e4 fun _ _ _ => rfl) h2⟩
theorem filter_yes {α : Type} : ∀ l : List α, l.filter (fun _ => true) = l
  | [] => rfl
  | x :: l => by rw [List.filter_cons, if_pos rfl, filter_yes l]
/-- .. without a test -/
theorem u_mapL {α : Type} {a : Addr} (em : α → V) (l : List α) (F : α → V) (hS : SqL K H a (l.map em)) (hz : l.length ≤ 40000)
    (turn : ∀ x ∈ l, ∀ H', Ex H H' → ∀ A : VK, (∀ H4, Ex H' H4 → A (F x) H4) → g (em x) (wipe σ vs) H' fun σ2 H2 => wipe σ2 vs = wipe σ vs ∧ te σ2 H2 A)
    (fin : ∀ D H', H D = none → Ex H H' → H' D = some (.lst (l.map F)) → Q (.ref D) H') : LcL K g tYes te vs σ (.ref a) H Q :=
  u_lcL em l (fun _ => true) F hS hz (fun x hx H' e A B h1 _ => by
    have e2 : (fun (σ2 : L2.St) H2 => wipe σ2 vs = wipe σ vs ∧ tYes σ2 H2 fun b H3 => if b = true then te σ2 H3 A else B H3) = fun σ2 H2 => wipe σ2 vs = wipe σ vs ∧ te σ2 H2 A := by
      funext σ2 H2
      show (_ ∧ if true = true then te σ2 H2 A else B H2) = _
      rw [if_pos rfl]
    rw [e2]
    exact turn x hx H' e A (h1 rfl)) (by rw [filter_yes]; exact fin)
theorem u_mapLI {α : Type} {a : Addr} (em : α → V) (l : List α) (f : α → Int) (hS : SqL K H a (l.map em)) (hz : l.length ≤ 40000)
    (turn : ∀ x ∈ l, ∀ H', Ex H H' → ∀ A : VK, (∀ H4, Ex H' H4 → A (.int (f x)) H4) → g (em x) (wipe σ vs) H' fun σ2 H2 => wipe σ2 vs = wipe σ vs ∧ te σ2 H2 A)
    (fin : ∀ D H', H D = none → Ex H H' → H' D = some (.lst ((l.map f).map V.int)) → Q (.ref D) H') : LcL K g tYes te vs σ (.ref a) H Q :=
  u_mapL em l (fun x => .int (f x)) hS hz turn fun D H' h1 h2 h3 => fin D H' h1 h2 (by rw [h3, List.map_map]; rfl)
end
/-! ### greatest, least, sorted -/
noncomputable def maxI (l : List Int) : Int := match l with | [] => 0 | a :: t => t.foldl max a
noncomputable def minI (l : List Int) : Int := match l with | [] => 0 | a :: t => t.foldl min a
theorem fold_max : ∀ (l : List Int) (a : Int), a ≤ l.foldl max a ∧ (∀ y ∈ l, y ≤ l.foldl max a) ∧ (l.foldl max a = a ∨ l.foldl max a ∈ l)
  | [], a => ⟨Int.le_refl _, fun _ h => (nomatch h), .inl rfl⟩
  | b :: l, a => by
    obtain ⟨h1, h2, h3⟩ := fold_max l (max a b)
    rw [List.foldl_cons]
    have k1 : a ≤ max a b := Int.le_max_left _ _
    have k2 : b ≤ max a b := Int.le_max_right _ _
    refine ⟨Int.le_trans k1 h1, fun y hy => ?_, ?_⟩
    · rcases List.mem_cons.mp hy with rfl | hy
      · exact Int.le_trans k2 h1
      · exact h2 y hy
    · rcases h3 with h3 | h3
      · rw [h3]
        by_cases c : a ≤ b
        · rw [Int.max_eq_right c]
          exact .inr List.mem_cons_self
        · rw [Int.max_eq_left (by omega)]
          exact .inl rfl
      · exact .inr (List.mem_cons_of_mem _ h3)
theorem maxI_mem {l : List Int} (h : 0 < l.length) : maxI l ∈ l := by
  cases l with
  | nil => exact absurd h (Nat.lt_irrefl 0)
  | cons a t =>
    rcases (fold_max t a).2.2 with e | e
    · exact List.mem_cons.mpr (.inl e)
    · exact List.mem_cons_of_mem _ e
theorem maxI_ge {l : List Int} : ∀ y ∈ l, y ≤ maxI l := fun y hy => by
  cases l with
  | nil => exact absurd hy List.not_mem_nil
  | cons a t =>
    rcases List.mem_cons.mp hy with rfl | hy
    · exact (fold_max t y).1
    · exact (fold_max t a).2.1 y hy
theorem maxI_of {l : List Int} {m : Int} (h : m ∈ l) (g : ∀ y ∈ l, y ≤ m) : m = maxI l := Int.le_antisymm (maxI_ge m h) (g _ (maxI_mem (List.length_pos_of_mem h)))
noncomputable def sortI (l : List Int) : List Int := l.mergeSort (fun a b => decide (a ≤ b))
theorem sortI_perm (l : List Int) : (sortI l).Perm l := List.mergeSort_perm l _
theorem sortI_sorted (l : List Int) : (sortI l).Pairwise (· ≤ ·) := (List.pairwise_mergeSort (le := fun a b : Int => decide (a ≤ b)) (fun a b c h1 h2 => decide_eq_true (Int.le_trans (of_decide_eq_true h1) (of_decide_eq_true h2))) (fun a b => by
  rcases Int.le_total a b with h | h
  · rw [decide_eq_true h]; rfl
  · rw [decide_eq_true h, Bool.or_true]) l).imp fun h => of_decide_eq_true h
theorem sortI_of {l l' : List Int} (p : l'.Perm l) (s : l'.Pairwise (· ≤ ·)) : l' = sortI l :=
  List.Perm.eq_of_pairwise (le := fun a b : Int => a ≤ b) (fun a b _ _ h1 h2 => Int.le_antisymm h1 h2) s (sortI_sorted l) (p.trans (sortI_perm l).symm)
theorem sortI_len (l : List Int) : (sortI l).length = l.length := (sortI_perm l).length_eq
theorem sortI_mem {l : List Int} {a : Int} : a ∈ sortI l ↔ a ∈ l := (sortI_perm l).mem_iff
/-! ### heaps as letters: the next heap, and what is known of it -/
theorem ex_ap {H H' : Hp} {a : Addr} {o : HO} (e : Ex H H') (h : H a = some o) : H' a = some o := e a o h
theorem exm_ap {H H' : Hp} {h a : Addr} {o : HO} (e : ExM h H H') (n : a ≠ h) (hh : H a = some o) : H' a = some o := e a o n hh
section
variable {K : PySem.W.Frag} {σ : L2.St} {H : Hp} {Q : VK} {v : V} {R : Hp → Prop}
theorem n_lst {xs : List V} (h : xs.length ≤ 100000) (q : ∀ p H', H p = none → Ex H H' → H' p = some (.lst xs) → Q (.ref p) H') : NewL xs H Q := ⟨sz_of h, fun p hp => q p _ hp (Ex.new hp) upd_same⟩
theorem n_tup {xs : List V} (h : xs.length ≤ 100000) (q : ∀ p H', H p = none → Ex H H' → H' p = some (.tup xs) → Q (.ref p) H') : NewT xs H Q := ⟨sz_of h, fun p hp => q p _ hp (Ex.new hp) upd_same⟩
theorem n_slL {a : Addr} {xs : List V} {lo hi : Option Int} (h : SqL K H a xs) (q : ∀ p H', H p = none → Ex H H' → H' p = some (.lst (cutV xs lo hi)) → Q (.ref p) H') : rSlL K (.ref a) lo hi H Q := ⟨a, xs, rfl, h, fun p hp => q p _ hp (Ex.new hp) upd_same⟩
theorem n_cat {a b : Addr} {xs ys : List V} (h1 : H a = some (.lst xs)) (h2 : H b = some (.lst ys)) (hz : xs.length + ys.length ≤ 100000) (q : ∀ p H', H p = none → Ex H H' → H' p = some (.lst (xs ++ ys)) → Q (.ref p) H') : rPlus (.ref a) (.ref b) H Q :=
  .inr (.inl ⟨a, b, xs, ys, rfl, rfl, h1, h2, sz_of hz, fun p hp => q p _ hp (Ex.new hp) upd_same⟩)
theorem n_setL {a : Addr} {xs : List V} {k : Int} {j : Nat} (h : H a = some (.lst xs)) (hk : ixN xs.length k = some j) (q : ∀ H', ExM a H H' → H' a = some (.lst (xs.set j v)) → R H') : rSetL (.ref a) (.int k) v H R := ⟨a, xs, k, j, rfl, rfl, h, hk, q _ ExM.upd upd_same⟩
noncomputable def rRevL (K : PySem.W.Frag) (x : V) (H : Hp) (Q : VK) : Prop := ∃ a xs, x = .ref a ∧ SqL K H a xs ∧ ∀ p, H p = none → Q (.ref p) (upd H p (.lst xs.reverse))
theorem s_maxL {a : Addr} {ns : List Int} (h : SqL K H a (ns.map V.int)) (hn : 0 < ns.length) (q : Q (.int (maxI ns)) H) : rMax K [.ref a] H Q := ⟨a, ns, rfl, h, hn, fun m h1 h2 => by rw [maxI_of h1 h2]; exact q⟩
theorem n_sorted {a : Addr} {ns : List Int} (h : SqL K H a (ns.map V.int)) (q : ∀ p H', H p = none → Ex H H' → H' p = some (.lst ((sortI ns).map V.int)) → Q (.ref p) H') : rSortedI K [.ref a] H Q := ⟨a, ns, rfl, h, fun ns' p h1 h2 hp => by rw [sortI_of h1 h2]; exact q p _ hp (Ex.new hp) upd_same⟩
theorem n_app {a : Addr} {xs : List V} (h : H a = some (.lst xs)) (hz : xs.length < 100000) (q : ∀ H', ExM a H H' → H' a = some (.lst (xs ++ [v])) → Q .non H') : rAppend (.ref a) [v] H Q := ⟨a, xs, v, rfl, rfl, h, sz_lt hz, q _ ExM.upd upd_same⟩
end

/-- the cut of a list, of anything -/
noncomputable def cutI {α : Type} (xs : List α) (lo hi : Option Int) : List α := (xs.drop (HT.sIx xs.length 0 lo)).take (HT.sIx xs.length xs.length hi - HT.sIx xs.length 0 lo)
theorem cutV_map {α : Type} (f : α → V) (xs : List α) (lo hi : Option Int) : cutV (xs.map f) lo hi = (cutI xs lo hi).map f := by
  unfold cutV cutI
  rw [List.length_map, ← List.map_drop, ← List.map_take]
theorem cutV_ints (xs : List Int) (lo hi : Option Int) : cutV (xs.map V.int) lo hi = (cutI xs lo hi).map V.int := cutV_map _ _ _ _
theorem cutI_to {α : Type} (xs : List α) {k : Int} (h : 0 ≤ k) : cutI xs none (some k) = xs.take k.toNat := by
  obtain ⟨n, rfl⟩ : ∃ n : Nat, k = (n : Int) := ⟨k.toNat, by omega⟩
  unfold cutI
  rw [HT.sIx_none, HT.sIx_nat, List.drop_zero, Nat.sub_zero, Int.toNat_natCast, List.take_eq_take_iff]
  omega
theorem cutI_from {α : Type} (xs : List α) {k : Int} (h : 0 ≤ k) : cutI xs (some k) none = xs.drop k.toNat := by
  obtain ⟨n, rfl⟩ : ∃ n : Nat, k = (n : Int) := ⟨k.toNat, by omega⟩
  unfold cutI
  rw [HT.sIx_none, HT.sIx_nat, Int.toNat_natCast]
  by_cases hn : n ≤ xs.length
  · rw [Nat.min_eq_left hn, List.take_of_length_le (by rw [List.length_drop]; exact Nat.le_refl _)]
  · rw [Nat.min_eq_right (by omega), Nat.sub_self, List.take_zero, List.drop_of_length_le (by omega)]
theorem cutI_mid {α : Type} (xs : List α) {k m : Int} (h : 0 ≤ k) (h2 : k ≤ m) : cutI xs (some k) (some m) = (xs.drop k.toNat).take (m.toNat - k.toNat) := by
  obtain ⟨n, rfl⟩ : ∃ n : Nat, k = (n : Int) := ⟨k.toNat, by omega⟩
  obtain ⟨r, rfl⟩ : ∃ n : Nat, m = (n : Int) := ⟨m.toNat, by omega⟩
  unfold cutI
  rw [HT.sIx_nat, HT.sIx_nat, Int.toNat_natCast, Int.toNat_natCast]
  by_cases hn : n ≤ xs.length
  · rw [Nat.min_eq_left hn, List.take_eq_take_iff, List.length_drop]
    omega
  · have h3 : min n xs.length = xs.length := Nat.min_eq_right (by omega)
    rw [h3, List.drop_of_length_le (Nat.le_refl _), List.drop_of_length_le (show xs.length ≤ n by omega)]
    simp
section
variable {K : PySem.W.Frag} {H : Hp} {Q : VK} {a : Addr}
theorem first_at : ∀ {ns : List Int} {i : Int}, i ∈ ns → ∃ j : Nat, ns[j]? = some i ∧ ∀ m, m < j → ns[m]? ≠ some i
  | [], i, h => nomatch h
  | n :: ns, i, h => by
    by_cases c : n = i
    · subst c
      exact ⟨0, rfl, fun m hm => absurd hm (Nat.not_lt_zero m)⟩
    · have h' : i ∈ ns := by
        rcases List.mem_cons.mp h with h | h
        · exact absurd h.symm c
        · exact h
      obtain ⟨j, e, f⟩ := first_at h'
      refine ⟨j + 1, e, fun m hm => ?_⟩
      cases m with
      | zero => exact fun z => c (Option.some.inj z)
      | succ m => exact f m (by omega)
theorem s_index {ns : List Int} {i : Int} (h : SqL K H a (ns.map V.int)) (hm : i ∈ ns) (q : ∀ j : Nat, ns[j]? = some i → (∀ m, m < j → ns[m]? ≠ some i) → Q (.int (j : Int)) H) : rIndex K (.ref a) [.int i] H Q := by
  obtain ⟨j, e, f⟩ := first_at hm
  refine ⟨a, _, .int i, j, .int i, rfl, rfl, h, rfl, List.all_eq_true.mpr (fun x hx => ?_), by rw [List.getElem?_map, e]; rfl, ?_, fun m z hm2 hz => ?_, q j e f⟩
  · obtain ⟨n, _, rfl⟩ := List.mem_map.mp hx
    rfl
  · show (i == i) = true
    exact beq_self_eq_true i
  · rw [List.getElem?_map] at hz
    cases e2 : ns[m]? with
    | none => rw [e2] at hz; cases hz
    | some k =>
      rw [e2] at hz
      cases hz
      show (k == i) = false
      rw [beq_eq_false_iff_ne]
      exact fun z => f m hm2 (by rw [e2, z])
theorem s_sum {ns : List Int} (h : SqL K H a (ns.map V.int)) (q : Q (.int ns.sum) H) : rSum K [.ref a] H Q := ⟨a, ns, rfl, h, q⟩
end
theorem inV_ints (i : Int) : ∀ ns : List Int, inV (.int i) (ns.map V.int) = decide (i ∈ ns)
  | [] => rfl
  | n :: ns => by
    have e : inV (.int i) ((n :: ns).map V.int) = (eqV (.int n) (.int i) || inV (.int i) (ns.map V.int)) := rfl
    have e2 : eqV (.int n) (.int i) = decide (n = i) := by
      show (n == i) = _
      exact Bool.beq_eq_decide_eq n i
    rw [e, e2, inV_ints i ns]
    by_cases h : n = i
    · subst h
      simp
    · have h' : ¬ i = n := fun z => h z.symm
      simp [h, h']
theorem flat_ints : ∀ ns : List Int, (ns.map V.int).all flatV = true
  | [] => rfl
  | n :: ns => flat_ints ns
section
variable {K : PySem.W.Frag} {H : Hp} {Q : VK} {a : Addr} {i : Int}
theorem s_inL (ns : List Int) (h : SqL K H a (ns.map V.int)) (q : Q (.bl (decide (i ∈ ns))) H) : rIn K false (.int i) (.ref a) H Q := ⟨a, _, rfl, .inl h, rfl, flat_ints ns, by
  rw [if_neg Bool.false_ne_true, inV_ints]
  exact q⟩
end
theorem rgV_at {a b : Int} {i : Nat} {x : V} (h : (rgV a b)[i]? = some x) : ∃ v, x = .int v ∧ a ≤ v ∧ v < b := by
  have hi := (List.getElem?_eq_some_iff.mp h).1
  rw [rgV_length] at hi
  unfold rgV at h
  rw [List.getElem?_map, List.getElem?_range hi] at h
  exact ⟨_, (Option.some.inj h).symm, by omega, by omega⟩
theorem cx_K {CX : CXT} {P : Program} {w : World} {K : PySem.W.Frag} {mg : Str → Option Value} {base : Heap} {N : List Str} {x : Str} {sc : Scope} {f : Addr} {cdv : Value} {A : Around} {outer : List Env} {s : Shared} {H : Hp} {E : XK} :
    (cxOf CX P w K mg base N x sc f cdv A outer s H E).nox.K = K := rfl
theorem cx_K2 {CX : CXT} {P : Program} {w : World} {K : PySem.W.Frag} {mg : Str → Option Value} {base : Heap} {N : List Str} {x : Str} {sc : Scope} {f : Addr} {cdv : Value} {A : Around} {outer : List Env} {s : Shared} {H : Hp} {E : XK} :
    (cxOf CX P w K mg base N x sc f cdv A outer s H E).K = K := rfl
/-! ### places -/
/-! ### data with types: what a value is as a thing of plain Lean -/
class Py (α : Type) where
  d : α → PyData
  dep : Nat
  depth : ∀ a, (d a).depth ≤ dep
  can : ∀ a, (d a).canLay0 = true
  eqv : ∀ a b, (PyData.eqv (d a) (d b) = true ↔ a = b)
instance : Py Int := ⟨PyData.int, 0, fun _ => Nat.le_refl _, fun _ => rfl, fun a b => by rw [PyData.eqv]; exact beq_iff_eq⟩
instance : Py Bool := ⟨PyData.bool, 0, fun _ => Nat.le_refl _, fun _ => rfl, fun a b => by rw [PyData.eqv]; exact beq_iff_eq⟩
theorem eqvAll_iff {α : Type} [Py α] : ∀ xs ys : List α, (PyData.eqvAll (xs.map Py.d) (ys.map Py.d) = true ↔ xs = ys)
  | [], [] => by simp [PyData.eqvAll]
  | [], _ :: _ => by simp [PyData.eqvAll]
  | _ :: _, [] => by simp [PyData.eqvAll]
  | x :: xs, y :: ys => by
    rw [List.map_cons, List.map_cons, PyData.eqvAll, Bool.and_eq_true, Py.eqv, eqvAll_iff xs ys, List.cons.injEq]
theorem canAll_of {α : Type} [Py α] : ∀ xs : List α, PyData.canLayAll0 (xs.map Py.d) = true
  | [] => rfl
  | x :: xs => by rw [List.map_cons, PyData.canLayAll0, Py.can, canAll_of xs]; rfl
theorem depthAll_of {α : Type} [Py α] : ∀ xs : List α, PyData.depthAll (xs.map Py.d) ≤ Py.dep α
  | [] => Nat.zero_le _
  | x :: xs => by
    rw [List.map_cons, PyData.depthAll]
    exact Nat.max_le.mpr ⟨Py.depth x, depthAll_of xs⟩
instance {α : Type} [Py α] : Py (List α) := ⟨fun xs => .list (xs.map Py.d), Py.dep α + 1, fun xs => by rw [PyData.depth]; exact Nat.succ_le_succ (depthAll_of xs), fun xs => by rw [PyData.canLay0]; exact canAll_of xs, fun a b => by rw [PyData.eqv]; exact eqvAll_iff a b⟩
instance {α β : Type} [Py α] [Py β] : Py (α × β) := ⟨fun p => .tuple [Py.d p.1, Py.d p.2], max (Py.dep α) (Py.dep β) + 1, fun p => by
    simp only [PyData.depth, PyData.depthAll]
    have h1 := Py.depth p.1
    have h2 := Py.depth p.2
    omega, fun p => by simp only [PyData.canLay0, PyData.canLayAll0, Py.can]; rfl, fun a b => by
    simp only [PyData.eqv, PyData.eqvAll, Bool.and_true, Bool.and_eq_true, Py.eqv]
    exact ⟨fun h => Prod.ext h.1 h.2, fun h => by rw [h]; exact ⟨rfl, rfl⟩⟩⟩
/-- a triple | four, as one tuple -/
structure T3 (α β γ : Type) where
  a : α
  b : β
  c : γ
  deriving DecidableEq
structure T4 (α β γ δ : Type) where
  a : α
  b : β
  c : γ
  d : δ
  deriving DecidableEq
instance {α β γ : Type} [Py α] [Py β] [Py γ] : Py (T3 α β γ) := ⟨fun p => .tuple [Py.d p.a, Py.d p.b, Py.d p.c], max (Py.dep α) (max (Py.dep β) (Py.dep γ)) + 1, fun p => by
    simp only [PyData.depth, PyData.depthAll]
    have h1 := Py.depth p.a
    have h2 := Py.depth p.b
    have h3 := Py.depth p.c
    omega, fun p => by simp only [PyData.canLay0, PyData.canLayAll0, Py.can]; rfl, fun a b => by
    obtain ⟨a1, a2, a3⟩ := a
    obtain ⟨b1, b2, b3⟩ := b
    simp only [PyData.eqv, PyData.eqvAll, Bool.and_true, Bool.and_eq_true, Py.eqv, T3.mk.injEq]⟩
instance {α β γ δ : Type} [Py α] [Py β] [Py γ] [Py δ] : Py (T4 α β γ δ) := ⟨fun p => .tuple [Py.d p.a, Py.d p.b, Py.d p.c, Py.d p.d], max (Py.dep α) (max (Py.dep β) (max (Py.dep γ) (Py.dep δ))) + 1, fun p => by
    simp only [PyData.depth, PyData.depthAll]
    have h1 := Py.depth p.a
    have h2 := Py.depth p.b
    have h3 := Py.depth p.c
    have h4 := Py.depth p.d
    omega, fun p => by simp only [PyData.canLay0, PyData.canLayAll0, Py.can]; rfl, fun a b => by
    obtain ⟨a1, a2, a3, a4⟩ := a
    obtain ⟨b1, b2, b3, b4⟩ := b
    simp only [PyData.eqv, PyData.eqvAll, Bool.and_true, Bool.and_eq_true, Py.eqv, T4.mk.injEq]⟩
theorem eqv_dec {α : Type} [Py α] [DecidableEq α] (a b : α) : PyData.eqv (Py.d a) (Py.d b) = decide (a = b) := by
  by_cases h : a = b
  · rw [decide_eq_true h]
    exact (Py.eqv a b).mpr h
  · rw [decide_eq_false h]
    cases e : PyData.eqv (Py.d a) (Py.d b) with
    | true => exact absurd ((Py.eqv a b).mp e) h
    | false => rfl
theorem shaped_of {α : Type} [Py α] (a : α) (h : Py.dep α ≤ 64) : SeqAt.shaped (Py.d a) = true := by
  unfold SeqAt.shaped
  rw [Py.can, decide_eq_true (Nat.le_trans (Py.depth a) h)]
  rfl
/-- the value v stands in H as the thing x -/
noncomputable abbrev Is (K : PySem.W.Frag) (H : Hp) {α : Type} [Py α] (v : V) (x : α) : Prop := Dp K H v (Py.d x)
mutual
theorem Dp.ex {K : PySem.W.Frag} {H H' : Hp} (e : Ex H H') : ∀ {v : V} {d : PyData}, Dp K H v d → Dp K H' v d
  | _, _, .non => .non
  | _, _, .bl b => .bl b
  | _, _, .int i => .int i
  | _, _, .str x => .str x
  | _, _, .lst s a => .lst (e.sq s) (DpAll.ex e a)
  | _, _, .tup s a => .tup (e.st s) (DpAll.ex e a)
theorem DpAll.ex {K : PySem.W.Frag} {H H' : Hp} (e : Ex H H') : ∀ {vs : List V} {ds : List PyData}, DpAll K H vs ds → DpAll K H' vs ds
  | _, _, .nil => .nil
  | _, _, .cons a r => .cons (Dp.ex e a) (DpAll.ex e r)
end
theorem Is.ex {K : PySem.W.Frag} {H H' : Hp} {α : Type} [Py α] {v : V} {x : α} (e : Ex H H') (h : Is K H v x) : Is K H' v x := Dp.ex e h
theorem Is.int {K : PySem.W.Frag} {H : Hp} (i : Int) : Is K H (.int i) i := Dp.int i
theorem dpAll_ints {K : PySem.W.Frag} {H : Hp} : ∀ ns : List Int, DpAll K H (ns.map V.int) (ns.map Py.d)
  | [] => .nil
  | n :: ns => .cons (.int n) (dpAll_ints ns)
theorem Is.ints {K : PySem.W.Frag} {H : Hp} {a : Addr} {ns : List Int} (h : SqL K H a (ns.map V.int)) : Is K H (.ref a) ns := .lst h (dpAll_ints ns)
/-- the items of a list of data -/
theorem Is.list {K : PySem.W.Frag} {H : Hp} {α : Type} [Py α] {v : V} {xs : List α} (h : Is K H v xs) : ∃ a vs, v = .ref a ∧ SqL K H a vs ∧ Paired (fun v x => Is K H v x) vs xs := by
  have go : ∀ (vs : List V) (ys : List α), DpAll K H vs (ys.map Py.d) → Paired (fun v x => Is K H v x) vs ys := by
    intro vs ys
    induction ys generalizing vs with
    | nil => intro h; cases h; exact .nil
    | cons y ys ih =>
      intro h
      cases h with
      | cons h1 h2 => exact .cons h1 (ih _ h2)
  have h' : Dp K H v (.list (xs.map Py.d)) := h
  cases h' with
  | lst s a => exact ⟨_, _, rfl, s, go _ _ a⟩
theorem Is.of_list {K : PySem.W.Frag} {H : Hp} {α : Type} [Py α] {a : Addr} {vs : List V} {xs : List α} (s : SqL K H a vs) (h : Paired (fun v x => Is K H v x) vs xs) : Is K H (.ref a) xs := by
  have go : ∀ {vs : List V} {ys : List α}, Paired (fun v x => Is K H v x) vs ys → DpAll K H vs (ys.map Py.d) := by
    intro vs ys h
    induction h with
    | nil => exact .nil
    | cons h1 _ ih => exact .cons h1 ih
  exact .lst s (go h)
theorem pair_ints {K : PySem.W.Frag} {H : Hp} : ∀ {vs : List V} {xs : List Int}, Paired (fun v x => Is K H v x) vs xs → vs = xs.map V.int
  | _, _, .nil => rfl
  | _, _, .cons (a := v) (b := i) h r => by
    have h' : Dp K H v (.int i) := h
    cases h'
    rw [pair_ints r]
    rfl
theorem Is.ints_of {K : PySem.W.Frag} {H : Hp} {v : V} {xs : List Int} (h : Is K H v xs) : ∃ a, v = .ref a ∧ SqL K H a (xs.map V.int) := by
  obtain ⟨a, vs, rfl, s, p⟩ := h.list
  exact ⟨a, rfl, pair_ints p ▸ s⟩
theorem s_eqP {α : Type} [Py α] [DecidableEq α] {K : PySem.W.Frag} {H : Hp} {Q : VK} {v w : V} {x y : α} (h1 : Is K H v x) (h2 : Is K H w y) (hd : Py.dep α ≤ 64) (q : Q (.bl (decide (x = y))) H) : rEqA K v w H Q :=
  .inr ⟨_, _, h1, h2, shaped_of x hd, shaped_of y hd, by rw [eqv_dec]; exact q⟩
theorem s_neP {α : Type} [Py α] [DecidableEq α] {K : PySem.W.Frag} {H : Hp} {Q : VK} {v w : V} {x y : α} (h1 : Is K H v x) (h2 : Is K H w y) (hd : Py.dep α ≤ 64) (q : Q (.bl (decide (x ≠ y))) H) : rNeA K v w H Q :=
  .inr ⟨_, _, h1, h2, shaped_of x hd, shaped_of y hd, by rw [eqv_dec, ← decide_not]; exact q⟩

/-! ### a list of data that is filled: it stands at D, its items in Z -/
instance : Py (Option Int) := ⟨fun o => match o with | none => .none | some i => .int i, 0, fun o => by cases o <;> exact Nat.le_refl _, fun o => by cases o <;> rfl, fun a b => by
  cases a <;> cases b
  · exact ⟨fun _ => rfl, fun _ => rfl⟩
  · exact ⟨fun h => (Bool.false_ne_true h).elim, fun h => nomatch h⟩
  · exact ⟨fun h => (Bool.false_ne_true h).elim, fun h => nomatch h⟩
  · rename_i x y
    show (x == y) = true ↔ some x = some y
    rw [beq_iff_eq, Option.some.injEq]⟩
/-- a number or nothing, as a value -/
noncomputable def optV : Option Int → V
  | none => .non
  | some i => .int i
structure LA (K : PySem.W.Frag) (Z H : Hp) (D : Addr) {α : Type} [Py α] (l : List α) : Prop where
  ex : ∃ vs, H D = some (.lst vs) ∧ Paired (fun v x => Is K Z v x) vs l
  zd : Z D = none
  zh : Ex Z H
section
variable {K : PySem.W.Frag} {Z H H' : Hp} {D : Addr} {α : Type} [Py α] {l : List α}
theorem pair_get' {F : V → α → Prop} : ∀ {vs : List V} {l : List α}, Paired F vs l → ∀ {i : Nat} {v : V}, vs[i]? = some v → ∃ x, l[i]? = some x ∧ F v x
  | _, _, .nil, i, x, h => by simp at h
  | _, _, .cons a r, 0, x, h => by
    cases h
    exact ⟨_, rfl, a⟩
  | _, _, .cons a r, i + 1, x, h => pair_get' r (i := i) h
end

section
variable {K : PySem.W.Frag} {Z H : Hp} {D : Addr} {α β : Type} [Py α] [Py β] {l : List α} {Q : VK} {v : V}
theorem s_lenIs {b : Addr} (a : Is K H (.ref b) l) (q : Q (.int (l.length : Int)) H) : rLen K [.ref b] H Q := by
  obtain ⟨b', vs, e, h, p⟩ := a.list
  cases e
  refine s_lenL h ?_
  rw [Paired.length p]
  exact q
end
section
variable {K : PySem.W.Frag} {Z H : Hp} {α β γ : Type} [Py α] [Py β] [Py γ] {v : V} {σ : L2.St} {R : L2.St → Hp → Prop}
theorem s_gt2 {H : Hp} {b : Addr} {x y : V} {g1 g2 : TG} (h : SqT K H b [x, y]) (q : g1 x σ H fun σ1 H1 => g2 y σ1 H1 R) : gTup K 2 (gCons g1 (gCons g2 gNil)) (.ref b) σ H R := by
  refine ⟨b, _, rfl, h, rfl, x, [y], rfl, ?_⟩
  have e3 : (fun (σ1 : L2.St) H1 => g2 y σ1 H1 R) = fun σ1 H1 => g2 y σ1 H1 fun σ2 H2 => ([] : List V) = [] ∧ R σ2 H2 := by
    funext σ1 H1
    have : R = fun σ2 H2 => ([] : List V) = [] ∧ R σ2 H2 := by
      funext σ2 H2
      exact propext ⟨fun z => ⟨rfl, z⟩, fun z => z.2⟩
    rw [← this]
  rw [e3] at q
  have e4 : (fun (σ1 : L2.St) H1 => g2 y σ1 H1 fun σ2 H2 => ([] : List V) = [] ∧ R σ2 H2) = fun σ1 H1 => gCons g2 gNil [y] σ1 H1 R := by
    funext σ1 H1
    refine propext ⟨fun z => ⟨y, [], rfl, z⟩, fun z => ?_⟩
    obtain ⟨y', r', e, z⟩ := z
    cases e
    exact z
  rw [e4] at q
  exact q
end
/-- the items that stand behind: a for over a list of data -/
theorem item_of {K : PySem.W.Frag} {H : Hp} {α : Type} [Py α] {vs : List V} {l : List α} (p : Paired (fun v x => Is K H v x) vs l) {i : Nat} {v : V} (h : vs[i]? = some v) : ∃ x, l[i]? = some x ∧ Is K H v x := pair_get' p h

/-! ### what a def is, and that it keeps its promise -/
/-- the def x stands in the module as its text says -/
noncomputable def FunAt (K : PySem.W.Frag) (mg : Str → Option Value) (x : Str) (st : Stmt) (ps : List Str) : Prop := ∃ f fd, Fun K x x st f fd ∧ mg x = some (.ref f) ∧ Binds K fd ps []
/-- the def x keeps the promise sp, by at most level k -/
noncomputable def Has (P : Program) (w : World) (K : PySem.W.Frag) (mg : Str → Option Value) (base : Heap) (x : Str) (k : Nat) (sp : Sp) : Prop :=
  ∃ f fd ps, FnOk P w K mg base CX0 k f fd ps sp ∧ mg x = some (.ref f) ∧ PySem.W.keepIn K (.ref f) = true ∧ Binds K fd ps []
section
variable {X : Cx} {k k' : Nat} {sp : Sp} {x : Str} {p pos : Pos} {e : Expr} {es : List Expr} {t : TA}
theorem pe_callH (h : Has X.prog X.w X.K X.mg X.base x k sp) (hk : k ≤ k') (hr : Room k' X.A) (hg : Gl X x) (ha : PA X (e :: es) t) (hdb : (x == ("__debug__" : Str)) = false := by decide)
    (he : starEach (e :: es) X.env = (false, eval e X.env) :: starEach es X.env := by rfl) (hpl : (backTo pos (starEach es X.env)).any (·.1) = false := by rfl) : PE X (.Call (.Name x p) (e :: es) [] pos) (tCall sp [] E0 t) := by
  obtain ⟨f, fd, ps, F, hm, kp, hb⟩ := h
  exact pe_call F (hr.mono hk) hg hm kp hb .nil pass0 ha hdb he hpl
theorem pe_constI {i : Int} (h : ∃ t, X.mg x = some (.int i t)) (hg : Gl X x) (hd : (x == ("__debug__" : Str)) = false := by decide) : PE X (.Name x pos) (tC (.int i)) := by
  obtain ⟨t, h⟩ := h
  exact pe_glob hg h ⟨t, rfl⟩ hd
theorem pe_constS {i : Str} (h : ∃ t, X.mg x = some (.str i t)) (hg : Gl X x) (hd : (x == ("__debug__" : Str)) = false := by decide) : PE X (.Name x pos) (tC (.str i)) := by
  obtain ⟨t, h⟩ := h
  exact pe_glob hg h ⟨t, rfl⟩ hd
end
section
variable {P : Program} {w : World} {K : PySem.W.Frag} {mg : Str → Option Value} {base : Heap}
theorem fnok_of {x : Str} {st : Stmt} {N ps : List Str} {k : Nat} {sp : Sp} {f : Addr} {fd : FuncData} (F : Fun K x x st f fd) (S : FnScope N ps (defScope st)) (len : ∀ vs H Q E, sp vs H Q E → vs.length = ps.length)
    (hbody : ∀ (cdv : Value) (A : Around) (outer : List Env) (s : Shared) (H : Hp) (vs : List V) (Q : VK) (E : XK), Room k (A.deeper (envOfC x (defScope st) s.heap.objs.size f cdv)) → sp vs H Q E →
      ∃ t, PSs (cxOf CX0 P w K mg base N x (defScope st) f cdv A outer s H E).nox (defBody st) t ∧ t { nx := fun _ H' => Q .non H', rt := Q } (start N vs) H) : FnOk P w K mg base CX0 (k + 1) f fd ps sp := F.ok S len hbody
/-- a def's promise by its body -/
theorem has_of {x : Str} {st : Stmt} {N ps : List Str} {k : Nat} {sp : Sp} (F : FunAt K mg x st ps) (S : FnScope N ps (defScope st)) (len : ∀ vs H Q E, sp vs H Q E → vs.length = ps.length)
    (hbody : ∀ (f : Addr) (cdv : Value) (A : Around) (outer : List Env) (s : Shared) (H : Hp) (vs : List V) (Q : VK) (E : XK), Room k (A.deeper (envOfC x (defScope st) s.heap.objs.size f cdv)) → sp vs H Q E →
      ∃ t, PSs (cxOf CX0 P w K mg base N x (defScope st) f cdv A outer s H E).nox (defBody st) t ∧ t { nx := fun _ H' => Q .non H', rt := Q } (start N vs) H) : Has P w K mg base x (k + 1) sp := by
  obtain ⟨f, fd, F, hm, hb⟩ := F
  exact ⟨f, fd, ps, F.ok S len (hbody f), hm, F.kp, hb⟩
/-- a module's number, a module's text, as the head's facts tell it -/
theorem constI_mk {h : Heap} (X : K.In h) (G : h.Ns mainGlobals mg) {x : Str} {i : Int} {t : Tok} (a : PySem.W.nsIn K mainGlobals x = some (some (.int i t))) : ∃ t, mg x = some (.int i t) := ⟨t, PySem.W.mg_of X G a⟩
theorem constS_mk {h : Heap} (X : K.In h) (G : h.Ns mainGlobals mg) {x : Str} {i : Str} {t : Tok} (a : PySem.W.nsIn K mainGlobals x = some (some (.str i t))) : ∃ t, mg x = some (.str i t) := ⟨t, PySem.W.mg_of X G a⟩
/-- a def as the head's facts tell it -/
theorem funAt_mk {h : Heap} (X : K.In h) (G : h.Ns mainGlobals mg) {x : Str} {st : Stmt} {ps : List Str} {f : Addr} {oc : Value} {od an : Option Addr} {osl : Array (Option Value)} {kV doc pm cdv ct : Value}
    (a : PySem.W.nsIn K mainGlobals x = some (some (.ref f))) (l : K.lookup f = some ⟨oc, od, .func (PySem.W.fnOf x x (defArgs st) (defBody st) (defScope st) .none kV doc pm an cdv ct), osl⟩)
    (c : PySem.W.codeIn K cdv x = true) (k : PySem.W.keepIn K (.ref f) = true)
    (b : ∀ (kV doc pm : Value) (an : Option Addr) (cdv ct : Value) (us : List Value), us.length = ps.length → bindArgs (PySem.W.fnOf x x (defArgs st) (defBody st) (defScope st) .none kV doc pm an cdv ct) ⟨us, []⟩ = pure (ps.zip us)) : FunAt K mg x st ps :=
  ⟨f, _, fun_mk l c k, PySem.W.mg_of X G a, (fun_mk (st := st) l c k).binds b⟩
/-- the law itself at the end -/
theorem law_end {P : Program} {h : Heap} (X : K.In h) (G : h.Ns mainGlobals mg) {fa : Addr} (hfa : mg "law" = some (.ref fa)) {st : Stmt} {x : Str} {k : Nat} {sp : Sp} {f : Addr} {oc : Value} {od an : Option Addr} {osl : Array (Option Value)} {kV doc pm cdv ct : Value}
    (a : PySem.W.nsIn K mainGlobals "law" = some (some (.ref f))) (l : K.lookup f = some ⟨oc, od, .func (PySem.W.fnOf "law" "law" (defArgs st) (defBody st) (defScope st) .none kV doc pm an cdv ct), osl⟩)
    (c : PySem.W.codeIn K cdv "law" = true) (kp : PySem.W.keepIn K (.ref f) = true)
    (hb : ∀ (s : Shared) (v : Value), BindsTo s (PySem.W.fnOf "law" "law" (defArgs st) (defBody st) (defScope st) .none kV doc pm an cdv ct) ⟨[v], []⟩ [(x, v)])
    (b : ∀ base : Heap, Fun K "law" "law" st f (PySem.W.fnOf "law" "law" (defArgs st) (defBody st) (defScope st) .none kV doc pm an cdv ct) → FnOk P w K mg base CX0 k f (PySem.W.fnOf "law" "law" (defArgs st) (defBody st) (defScope st) .none kV doc pm an cdv ct) [x] sp) :
    ∃ fd : FuncData, (∀ (s : Shared) (v : Value), BindsTo s fd ⟨[v], []⟩ [(x, v)]) ∧ ∀ base : Heap, K.In base → base.Ns mainGlobals mg → FnOk P w K mg base CX0 k fa fd [x] sp := by
  have e := hfa.symm.trans (PySem.W.mg_of X G a)
  cases e
  exact ⟨_, hb, fun base _ _ => b base (fun_mk l c kp)⟩
end
end TR
/-! the hand that is drawn from: n draws are left (its counter stays below 2^60) -/
namespace TR
open PySem L2
noncomputable def Hand (K : PySem.W.Frag) (Z H : Hp) (h : Addr) (n : Nat) : Prop :=
  ∃ (d k : Int) (c : Addr) (cells : List Int), H h = some (.lst [.int d, .int k, .ref c]) ∧ 0 < cells.length ∧ 0 ≤ k ∧ k + n ≤ 1000000000000000000 ∧ Ex Z H ∧ Z h = none ∧ SqL K Z c (cells.map V.int)
theorem Hand.mono {K : PySem.W.Frag} {Z H : Hp} {h : Addr} {n m : Nat} (a : Hand K Z H h n) (l : m ≤ n) : Hand K Z H h m := by
  obtain ⟨d, k, c, cells, h1, h3, h4, h5, h6⟩ := a
  exact ⟨d, k, c, cells, h1, h3, h4, by omega, h6⟩
theorem Hand.ex {K : PySem.W.Frag} {Z H H' : Hp} {h : Addr} {n : Nat} (a : Hand K Z H h n) (e : Ex H H') : Hand K Z H' h n := by
  obtain ⟨d, k, c, cells, h1, h3, h4, h5, z1, z2, z3⟩ := a
  exact ⟨d, k, c, cells, e _ _ h1, h3, h4, h5, z1.trans e, z2, z3⟩
theorem Hand.exm {K : PySem.W.Frag} {Z H H' : Hp} {h g : Addr} {n : Nat} (a : Hand K Z H h n) (e : ExM g H H') (n1 : h ≠ g) (n2 : Z g = none) : Hand K Z H' h n := by
  obtain ⟨d, k, c, cells, h1, h3, h4, h5, z1, z2, z3⟩ := a
  exact ⟨d, k, c, cells, e _ _ n1 h1, h3, h4, h5, z1.exm n2 e, z2, z3⟩
theorem Hand.at {K : PySem.W.Frag} {Z H : Hp} {h : Addr} {n : Nat} (a : Hand K Z H h n) : ∃ o, H h = some o := by
  obtain ⟨d, k, c, cells, h1, _⟩ := a
  exact ⟨_, h1⟩
theorem Hand.z {K : PySem.W.Frag} {Z H : Hp} {h : Addr} {n : Nat} (a : Hand K Z H h n) : Ex Z H := by
  obtain ⟨d, k, c, cells, h1, h3, h4, h5, z1, z2, z3⟩ := a
  exact z1
theorem Hand.zn {K : PySem.W.Frag} {Z H : Hp} {h : Addr} {n : Nat} (a : Hand K Z H h n) : Z h = none := by
  obtain ⟨_, _, _, _, _, _, _, _, _, h6, _⟩ := a
  exact h6
theorem hand_ne {K : PySem.W.Frag} {Z H H' : Hp} {h p : Addr} {n : Nat} (hp : H' p = none) (a : Hand K Z H h n) (e : Ex H H') : p ≠ h := by
  obtain ⟨o, ho⟩ := a.at
  exact (ne_of_none (e _ _ ho) hp).symm
theorem hand_ne0 {K : PySem.W.Frag} {Z H : Hp} {h p : Addr} {n : Nat} (hp : H p = none) (a : Hand K Z H h n) : p ≠ h := hand_ne hp a (Ex.refl _)
/-- another list is changed, one that was made when the hand was there -/
theorem Hand.mut {K : PySem.W.Frag} {Z H H1 H' : Hp} {h g : Addr} {n m : Nat} (a : Hand K Z H h n) (e : ExM g H H') (b : Hand K Z H1 h m) (f : H1 g = none) : Hand K Z H' h n := a.exm e (hand_ne0 f b).symm (Ex.back b.z f)
section
variable {K : PySem.W.Frag} {σ : L2.St} {H : Hp} {te : TE} {Q : VK} {g : TG} {vs : List Nat}
end
theorem at_ints {ns : List Int} {i : Nat} {v : V} (h : (ns.map V.int)[i]? = some v) : ∃ m, v = .int m ∧ ns[i]? = some m := by
  rw [List.getElem?_map] at h
  cases e : ns[i]? with
  | none => rw [e] at h; cases h
  | some m => rw [e] at h; exact ⟨m, (Option.some.inj h).symm, rfl⟩
/-! ### rows: a list of lists, each of them an object of its own -/
structure RW (K : PySem.W.Frag) (Z H : Hp) (p : Addr) (qs : List Addr) {α : Type} [Py α] (rs : List (List α)) : Prop where
  own : H p = some (.lst (qs.map V.ref))
  nd : (p :: qs).Nodup
  fr : ∀ q ∈ p :: qs, Z q = none
  zh : Ex Z H
  rows : Paired (fun q r => ∃ vs, H q = some (.lst vs) ∧ Paired (fun v x => Is K Z v x) vs r) qs rs
section
variable {K : PySem.W.Frag} {Z H H1 H' : Hp} {p q : Addr} {qs : List Addr} {α : Type} [Py α] {rs : List (List α)} {Q : VK}
theorem RW.up (a : RW K Z H p qs rs) (e : Ex H H') : RW K Z H' p qs rs :=
  ⟨e _ _ a.own, a.nd, a.fr, a.zh.trans e, Paired.mapP a.rows fun q r ⟨vs, h1, h2⟩ => ⟨vs, e _ _ h1, h2⟩⟩
theorem RW.sq (a : RW K Z H p qs rs) : SqL K H p (qs.map V.ref) := sq_of a.own
theorem RW.len (a : RW K Z H p qs rs) : qs.length = rs.length := Paired.length a.rows
theorem RW.at' {qs : List Addr} {rs : List (List α)} {F : Addr → List α → Prop} : Paired F qs rs → ∀ {i : Nat} {q : Addr}, qs[i]? = some q → ∃ r, rs[i]? = some r ∧ F q r
  | .nil, i, q, h => by simp at h
  | .cons a t, 0, q, h => by cases h; exact ⟨_, rfl, a⟩
  | .cons a t, i + 1, q, h => RW.at' t h
theorem RW.at (a : RW K Z H p qs rs) {i : Nat} (h : qs[i]? = some q) : ∃ r vs, rs[i]? = some r ∧ H q = some (.lst vs) ∧ Paired (fun v x => Is K Z v x) vs r := by
  obtain ⟨r, h1, vs, h2, h3⟩ := RW.at' a.rows h
  exact ⟨r, vs, h1, h2, h3⟩
theorem RW.obj (a : RW K Z H p qs rs) : ∀ q ∈ p :: qs, ∃ o, H q = some o := fun q hq => by
  rcases List.mem_cons.mp hq with rfl | hq
  · exact ⟨_, a.own⟩
  · obtain ⟨i, h⟩ := List.mem_iff_getElem?.mp hq
    obtain ⟨_, vs, _, h2, _⟩ := a.at h
    exact ⟨_, h2⟩
theorem RW.new (a : RW K Z H p qs rs) (h : H q = none) : q ∉ p :: qs := fun hq => by
  obtain ⟨o, ho⟩ := a.obj q hq
  rw [h] at ho
  cases ho
theorem RW.is (a : RW K Z H p qs rs) : Is K H (.ref p) rs := by
  refine Is.of_list (sq_of a.own) ?_
  have h := a.rows
  have e := a.zh
  clear a
  induction h with
  | nil => exact .nil
  | cons h t ih => exact .cons (by obtain ⟨vs, h1, h2⟩ := h; exact Is.of_list (sq_of h1) (Paired.mapP h2 fun v x g => Is.ex e g)) ih
theorem paired_snoc {β γ : Type} {F : β → γ → Prop} : ∀ {xs : List β} {ys : List γ} {x : β} {y : γ}, Paired F xs ys → F x y → Paired F (xs ++ [x]) (ys ++ [y])
  | _, _, _, _, .nil, h => .cons h .nil
  | _, _, _, _, .cons a t, h => .cons a (paired_snoc t h)
theorem n_appRW {vs : List V} {r : List α} (a : RW K Z H p qs rs) (e : Ex H H1) (hq : H q = none) (f : H1 q = some (.lst vs)) (pr : Paired (fun v x => Is K Z v x) vs r) (hz : rs.length < 100000)
    (k : ∀ H2, ExM p H1 H2 → RW K Z H2 p (qs ++ [q]) (rs ++ [r]) → Q .non H2) : rAppend (.ref p) [.ref q] H1 Q := by
  have a1 := a.up e
  have nq := a.new hq
  refine n_app a1.own (by rw [List.length_map, a.len]; exact hz) fun H2 m f2 => k H2 m ?_
  have np : ∀ b ∈ qs ++ [q], b ≠ p := fun b hb z => by
    rcases List.mem_append.mp hb with hb | hb
    · exact (List.nodup_cons.mp a.nd).1 (z ▸ hb)
    · rw [List.mem_singleton.mp hb] at z
      exact nq (z ▸ List.mem_cons_self)
  refine ⟨by rw [f2, List.map_append]; rfl, ?_, ?_, a1.zh.exm (a.fr p List.mem_cons_self) m, ?_⟩
  · refine List.nodup_cons.mpr ⟨fun h => np p h rfl, List.nodup_append.mpr ⟨(List.nodup_cons.mp a.nd).2, List.nodup_cons.mpr ⟨List.not_mem_nil, List.nodup_nil⟩, fun x hx y hy z => ?_⟩⟩
    rw [List.mem_singleton.mp hy] at z
    exact nq (List.mem_cons_of_mem _ (z ▸ hx))
  · intro b hb
    rcases List.mem_cons.mp hb with rfl | hb
    · exact a.fr _ List.mem_cons_self
    · rcases List.mem_append.mp hb with hb | hb
      · exact a.fr b (List.mem_cons_of_mem _ hb)
      · rw [List.mem_singleton.mp hb]
        exact Ex.back a.zh hq
  · have h := a1.rows
    have n' : ∀ b ∈ qs, b ≠ p := fun b hb => np b (List.mem_append_left _ hb)
    refine paired_snoc ?_ ⟨vs, m _ _ (np q (List.mem_append_right _ List.mem_cons_self)) f, pr⟩
    clear a a1 nq np hz k f2
    induction h with
    | nil => exact .nil
    | cons h t ih => exact .cons (by obtain ⟨vs, h1, h2⟩ := h; exact ⟨vs, m _ _ (n' _ List.mem_cons_self) h1, h2⟩) (ih fun q hq => n' q (List.mem_cons_of_mem _ hq))
theorem RW.push' {m : ExM q H H'} {F : Addr → List α → Prop} {G : Addr → List α → Prop} (hF : ∀ b r, b ≠ q → F b r → G b r) : ∀ {qs : List Addr} {rs : List (List α)} {i : Nat} {r' : List α}, Paired F qs rs → qs.Nodup → qs[i]? = some q → G q r' → Paired G qs (rs.set i r')
  | [], _, i, r', .nil, _, h, _ => by simp at h
  | b :: qs, r :: rs, 0, r', .cons a t, nd, h, g => by
    cases h
    refine .cons g ?_
    have nb := (List.nodup_cons.mp nd).1
    clear nd
    induction t with
    | nil => exact .nil
    | cons a2 t2 ih => exact .cons (hF _ _ (fun z => nb (z ▸ List.mem_cons_self)) a2) (ih fun z => nb (List.mem_cons_of_mem _ z))
  | b :: qs, r :: rs, i + 1, r', .cons a t, nd, h, g => by
    have nb : b ≠ q := fun z => (List.nodup_cons.mp nd).1 (z ▸ List.mem_of_getElem? h)
    exact .cons (hF _ _ nb a) (RW.push' (m := m) hF t (List.nodup_cons.mp nd).2 h g)
/-- one more thing in a row -/
theorem n_pushRW {v : V} {x : α} {i : Nat} {r : List α} (a : RW K Z H p qs rs) (hi : qs[i]? = some q) (hr : rs[i]? = some r) (hv : Is K Z v x) (hz : r.length < 100000)
    (k : ∀ H2, ExM q H H2 → RW K Z H2 p qs (rs.set i (r ++ [x])) → Q .non H2) : rAppend (.ref q) [v] H Q := by
  obtain ⟨r', vs, h1, h2, h3⟩ := a.at hi
  rw [hr] at h1
  cases h1
  have hm := List.mem_of_getElem? hi
  refine n_app h2 (by rw [Paired.length h3]; exact hz) fun H2 m f2 => k H2 m ?_
  have nq : p ≠ q := fun z => (List.nodup_cons.mp a.nd).1 (z ▸ hm)
  refine ⟨m _ _ nq a.own, a.nd, a.fr, a.zh.exm (a.fr q (List.mem_cons_of_mem _ hm)) m, ?_⟩
  exact RW.push' (m := m) (fun b r nb ⟨vs, g1, g2⟩ => ⟨vs, m _ _ nb g1, g2⟩) a.rows (List.nodup_cons.mp a.nd).2 hi ⟨_, f2, Paired.snoc h3 hv⟩
theorem s_ixRW {i : Int} (a : RW K Z H p qs rs) (h : 0 ≤ i ∧ i < rs.length) (k : ∀ q, qs[i.toNat]? = some q → Q (.ref q) H) : rIx K (.ref p) (.int i) H Q := by
  have hl : i.toNat < qs.length := by have := a.len; omega
  exact .inl ⟨p, _, i, _, rfl, rfl, sq_of a.own, atI_lt h.1 (by rw [List.getElem?_map, List.getElem?_eq_getElem hl]; rfl), k _ (List.getElem?_eq_getElem hl)⟩
end
section
variable {K : PySem.W.Frag} {σ : L2.St} {H : Hp} {te : TE} {Q : VK} {g : TG} {vs : List Nat}
/-- a comprehension of new lists -/
theorem lc_new {J : It} {n : Nat} (xs : Nat → V) (F : Nat → List V)
    (hgo : ∀ i H', i < n → Ex H H' → J.go i H') (hst : ∀ H', Ex H H' → J.stop n H') (hy : ∀ i v H0 H', i < n → Ex H H0 → J.yld i H0 v H' → H' = H0 ∧ v = xs i)
    (turn : ∀ i, i < n → ∀ H', Ex H H' → ∀ A : VK, (∀ q H4, H' q = none → Ex H' H4 → H4 q = some (.lst (F i)) → A (.ref q) H4) →
      g (xs i) (wipe σ vs) H' fun σ2 H2 => wipe σ2 vs = wipe σ vs ∧ te σ2 H2 A)
    (hz : n ≤ 40000)
    (fin : ∀ (D : Addr) (qs : List Addr) (H' : Hp), (D :: qs).Nodup → (∀ q ∈ D :: qs, H q = none) → Ex H H' → H' D = some (.lst (qs.map V.ref)) → qs.length = n → (∀ i q, qs[i]? = some q → H' q = some (.lst (F i))) → Q (.ref D) H') : LcJ g tYes te vs σ J H Q := by
  intro D hD
  refine ⟨fun i m H' => m = n - i ∧ i ≤ n ∧ Ex H H' ∧ ∃ qs : List Addr, (D :: qs).Nodup ∧ (∀ q ∈ D :: qs, H q = none) ∧ H' D = some (.lst (qs.map V.ref)) ∧ qs.length = i ∧ ∀ i q, qs[i]? = some q → H' q = some (.lst (F i)),
    ⟨n, by omega, by omega, Ex.new hD, [], List.nodup_cons.mpr ⟨List.not_mem_nil, List.nodup_nil⟩, fun q hq => by rw [List.mem_singleton.mp hq]; exact hD, upd_same, rfl, fun i q h => by simp at h⟩, ?_⟩
  rintro i m H' ⟨rfl, hi, e, qs, nd, nn, ho, hln, ha⟩
  by_cases hlt : i < n
  · refine .inr ⟨hgo i H' hlt e, fun H'' => i + 1 ≤ n ∧ Ex H H'' ∧ ∃ qs : List Addr, (D :: qs).Nodup ∧ (∀ q ∈ D :: qs, H q = none) ∧ H'' D = some (.lst (qs.map V.ref)) ∧ qs.length = i + 1 ∧ ∀ i q, qs[i]? = some q → H'' q = some (.lst (F i)), fun H'' q => ⟨n - (i + 1), by omega, rfl, q⟩, fun v H2 y => ?_⟩
    obtain ⟨rfl, rfl⟩ := hy i v H' H2 hlt e y
    have e2 : ∀ (A : VK) (B : Hp → Prop), (fun (σ2 : L2.St) H3 => wipe σ2 vs = wipe σ vs ∧ tYes σ2 H3 fun b H4 => if b = true then te σ2 H4 A else B H4) = fun σ2 H3 => wipe σ2 vs = wipe σ vs ∧ te σ2 H3 A := fun A B => by
      funext σ2 H3
      show (_ ∧ if true = true then te σ2 H3 A else B H3) = _
      rw [if_pos rfl]
    rw [e2]
    refine turn i hlt H2 e _ fun q H4 hq e4 f4 => ?_
    have sm : ∀ b ∈ D :: qs, ∃ o, H2 b = some o := fun b hb => by
      rcases List.mem_cons.mp hb with rfl | hb
      · exact ⟨_, ho⟩
      · obtain ⟨j, hj⟩ := List.mem_iff_getElem?.mp hb
        exact ⟨_, ha j b hj⟩
    have nq : q ∉ D :: qs := fun hb => by
      obtain ⟨o, h⟩ := sm q hb
      rw [hq] at h
      cases h
    have nD : q ≠ D := fun z => nq (z ▸ List.mem_cons_self)
    have m5 : Ex H (upd H4 D (.lst (qs.map V.ref ++ [.ref q]))) := Ex.mut (e.trans e4) hD
    refine ⟨_, e4 _ _ ho, sz_lt (by rw [List.length_map]; omega), by omega, m5, qs ++ [q], ?_, ?_, by rw [upd_same, List.map_append]; rfl, by rw [List.length_append, hln]; rfl, fun j b hj => ?_⟩
    · rw [← List.cons_append]
      refine List.nodup_append.mpr ⟨nd, List.nodup_cons.mpr ⟨List.not_mem_nil, List.nodup_nil⟩, fun x hx y hy z => ?_⟩
      rw [List.mem_singleton.mp hy] at z
      exact nq (z ▸ hx)
    · intro b hb
      rw [← List.cons_append] at hb
      rcases List.mem_append.mp hb with hb | hb
      · exact nn b hb
      · rw [List.mem_singleton.mp hb]
        exact Ex.back e hq
    · rw [List.getElem?_append] at hj
      split at hj
      · have nb : b ≠ D := fun z => (List.nodup_cons.mp nd).1 (z ▸ List.mem_of_getElem? hj)
        rw [upd_ne nb]
        exact e4 _ _ (ha j b hj)
      · rename_i hge
        have ej : j = qs.length := by
          have := (List.getElem?_eq_some_iff.mp hj).1
          rw [List.length_singleton] at this
          omega
        subst ej
        rw [Nat.sub_self] at hj
        cases hj
        rw [upd_ne nD, hln]
        exact f4
  · have ei : i = n := by omega
    subst ei
    exact .inl ⟨hst H' e, fin D qs H' nd nn e ho hln ha⟩
theorem u_lcR1N {n : Int} (F : Nat → List V) (hz : 0 ≤ n ∧ n ≤ 40000)
    (turn : ∀ i : Nat, (i : Int) < n → ∀ H', Ex H H' → ∀ A : VK, (∀ q H4, H' q = none → Ex H' H4 → H4 q = some (.lst (F i)) → A (.ref q) H4) →
      g (.int (i : Int)) (wipe σ vs) H' fun σ2 H2 => wipe σ2 vs = wipe σ vs ∧ te σ2 H2 A)
    (fin : ∀ (D : Addr) (qs : List Addr) (H' : Hp), (D :: qs).Nodup → (∀ q ∈ D :: qs, H q = none) → Ex H H' → H' D = some (.lst (qs.map V.ref)) → qs.length = n.toNat → (∀ i q, qs[i]? = some q → H' q = some (.lst (F i))) → Q (.ref D) H') : LcR1 g tYes te vs σ [.int n] H Q := by
  have e62 : (2 : Int) ^ 62 = 4611686018427387904 := by decide
  refine ⟨n, rfl, by omega, by omega, lc_new (n := n.toNat) (fun i => .int (i : Int)) F (fun i H' hi e => hi) (fun H' e => Nat.le_refl _) (fun i v H0 H' hi e y => ?_) (fun i hi H' e A k => turn i (by omega) H' e A k) (by omega) fin⟩
  obtain ⟨rfl, rfl⟩ := y
  exact ⟨rfl, by rw [Int.zero_add]⟩
theorem paired_of {β γ : Type} {F : β → γ → Prop} : ∀ {xs : List β} {ys : List γ}, xs.length = ys.length → (∀ (i : Nat) (x : β) (y : γ), xs[i]? = some x → ys[i]? = some y → F x y) → Paired F xs ys
  | [], [], _, _ => .nil
  | x :: xs, y :: ys, h, f => .cons (f 0 x y rfl rfl) (paired_of (by simpa using h) fun i a b ha hb => f (i + 1) a b ha hb)
/-- .. are rows -/
theorem RW.of {K : PySem.W.Frag} {H H' : Hp} {D : Addr} {qs : List Addr} {α : Type} [Py α] {rs : List (List α)} {F : Nat → List V} (nd : (D :: qs).Nodup) (nn : ∀ q ∈ D :: qs, H q = none) (e : Ex H H') (ho : H' D = some (.lst (qs.map V.ref))) (hl : qs.length = rs.length)
    (ha : ∀ i q, qs[i]? = some q → H' q = some (.lst (F i))) (hp : ∀ i r, rs[i]? = some r → Paired (fun v x => Is K H v x) (F i) r) : RW K H H' D qs rs :=
  ⟨ho, nd, nn, e, paired_of hl fun i q r h1 h2 => ⟨_, ha i q h1, hp i r h2⟩⟩
theorem ints_pair {K : PySem.W.Frag} {H : Hp} : ∀ {xs : List Int}, Paired (fun v x => Is K H v x) (xs.map V.int) xs
  | [] => .nil
  | _ :: _ => .cons (Is.int _) ints_pair
end
section
variable {K : PySem.W.Frag} {σ : L2.St} {H : Hp} {te : TE} {Q : VK} {g : TG} {vs : List Nat}
theorem zip_fst {β γ : Type} : ∀ {xs : List β} {ys : List γ}, xs.length = ys.length → (xs.zip ys).map Prod.fst = xs
  | [], [], _ => rfl
  | _ :: xs, _ :: ys, h => congrArg _ (zip_fst (xs := xs) (ys := ys) (by simpa using h))
theorem zip_mem {β γ : Type} {F : β → γ → Prop} : ∀ {xs : List β} {ys : List γ}, Paired F xs ys → ∀ p ∈ xs.zip ys, F p.1 p.2 ∧ p.2 ∈ ys
  | _, _, .nil, _, h => nomatch h
  | _, _, .cons a t, p, h => by
    rcases List.mem_cons.mp h with rfl | h
    · exact ⟨a, List.mem_cons_self⟩
    · obtain ⟨h1, h2⟩ := zip_mem t p h
      exact ⟨h1, List.mem_cons_of_mem _ h2⟩
end
theorem zip_map_snd {β γ δ : Type} (f : γ → δ) : ∀ {xs : List β} {ys : List γ}, xs.length = ys.length → (xs.zip ys).map (fun p => f p.2) = ys.map f
  | [], [], _ => rfl
  | _ :: xs, _ :: ys, h => congrArg _ (zip_map_snd f (xs := xs) (ys := ys) (by simpa using h))
section
variable {K : PySem.W.Frag} {σ : L2.St} {H : Hp} {tt : TT} {te : TE} {Q : VK} {g : TG} {vs : List Nat}
/-- a comprehension over data: numbers -/
theorem u_mapDI {β : Type} [Py β] {a : Addr} {xs : List β} (f : β → Int) (h : Is K H (.ref a) xs) (hz : xs.length ≤ 40000)
    (turn : ∀ v x, x ∈ xs → ∀ H', Ex H H' → Is K H v x → ∀ A : VK, (∀ H4, Ex H' H4 → A (.int (f x)) H4) → g v (wipe σ vs) H' fun σ2 H2 => wipe σ2 vs = wipe σ vs ∧ te σ2 H2 A)
    (fin : ∀ D H', H D = none → Ex H H' → H' D = some (.lst ((xs.map f).map V.int)) → Q (.ref D) H') : LcL K g tYes te vs σ (.ref a) H Q := by
  obtain ⟨b, us, e, h1, h2⟩ := h.list
  cases e
  have hl := Paired.length h2
  refine u_mapLI Prod.fst (us.zip xs) (fun p => f p.2) (by rw [zip_fst hl]; exact h1) (by rw [List.length_zip]; omega) (fun p hp H' e A hA => ?_) (fun D H' n e f' => ?_)
  · obtain ⟨g1, g2⟩ := zip_mem h2 p hp
    exact turn _ p.2 g2 H' e g1 A hA
  · refine fin D H' n e ?_
    rw [f']
    congr 3
    exact zip_map_snd f hl
end
section
variable {K : PySem.W.Frag} {H : Hp} {Q : VK}
theorem paired_drop {β γ : Type} {F : β → γ → Prop} : ∀ {xs : List β} {ys : List γ} (n : Nat), Paired F xs ys → Paired F (xs.drop n) (ys.drop n)
  | _, _, 0, h => h
  | _, _, _ + 1, .nil => .nil
  | _, _, n + 1, .cons _ t => paired_drop n t
theorem paired_take {β γ : Type} {F : β → γ → Prop} : ∀ {xs : List β} {ys : List γ} (n : Nat), Paired F xs ys → Paired F (xs.take n) (ys.take n)
  | _, _, 0, _ => by rw [List.take_zero, List.take_zero]; exact .nil
  | _, _, _ + 1, .nil => .nil
  | _, _, n + 1, .cons a t => .cons a (paired_take n t)
theorem paired_cut {β γ : Type} {F : β → γ → Prop} {xs : List β} {ys : List γ} (h : Paired F xs ys) (lo hi : Option Int) : Paired F (cutI xs lo hi) (cutI ys lo hi) := by
  unfold cutI
  rw [Paired.length h]
  exact paired_take _ (paired_drop _ h)
end
section
variable {K : PySem.W.Frag} {σ : L2.St} {H : Hp} {te : TE} {Q : VK} {g : TG} {vs : List Nat}
end
section
variable {K : PySem.W.Frag} {σ : L2.St} {H : Hp} {tt : TT} {te : TE} {Q : VK} {g : TG} {vs : List Nat}
/-- a value that is a list of numbers of its own -/
noncomputable def Lp (H : Hp) (v : V) (r : List Int) : Prop := ∃ a, v = .ref a ∧ H a = some (.lst (r.map V.int))
end
section
variable {K : PySem.W.Frag} {σ : L2.St} {H : Hp} {tt : TT} {te : TE} {Q : VK} {g : TG} {vs : List Nat}
theorem lc_yes {A : VK} {B : Hp → Prop} : (fun (σ2 : L2.St) H2 => wipe σ2 vs = wipe σ vs ∧ tYes σ2 H2 fun b H3 => if b = true then te σ2 H3 A else B H3) = fun σ2 H2 => wipe σ2 vs = wipe σ vs ∧ te σ2 H2 A := by
  funext σ2 H2
  show (_ ∧ if true = true then te σ2 H2 A else B H2) = _
  rw [if_pos rfl]
end
/-! ### pairs of numbers, sorted -/
/-- a value that is a tuple of two numbers -/
noncomputable def Tp (H : Hp) (v : V) (r : Int × Int) : Prop := ∃ a, v = .ref a ∧ H a = some (.tup [.int r.1, .int r.2])
noncomputable def lexI (a b : Int × Int) : Bool := decide (a.1 < b.1 ∨ (a.1 = b.1 ∧ a.2 ≤ b.2))
noncomputable def sortP (l : List (Int × Int)) : List (Int × Int) := l.mergeSort lexI
noncomputable def keyP (H : Hp) (v : V) : Int × Int := match v with
  | .ref t => match H t with
    | some (.tup [.int i, .int j]) => (i, j)
    | _ => (0, 0)
  | _ => (0, 0)
/-- values that are tuples of three, of four numbers -/
noncomputable def Rp (H : Hp) (v : V) (t : T3 Int Int Int) : Prop := ∃ a, v = .ref a ∧ H a = some (.tup [.int t.a, .int t.b, .int t.c])
noncomputable def Qp (H : Hp) (v : V) (t : T4 Int Int Int Int) : Prop := ∃ a, v = .ref a ∧ H a = some (.tup [.int t.a, .int t.b, .int t.c, .int t.d])
/-! ### a dict of counts -/
noncomputable def CntD (H : Hp) (p : Addr) (f : Int → Int) (n : Nat) : Prop := ∃ kvs : List (L2.Key × V), H p = some (.dK kvs) ∧ kvs.length ≤ n ∧ ∀ r : Int, (valV kvs (Sum.inl r)).getD (.int 0) = .int (f r)
noncomputable def DG1 (a : Addr) (y z : V) (H3 : Hp) (Q : VK) : Prop := ∃ o, DGet H3 a y o ∧ Q (o.getD z) H3
noncomputable def DG (ty tx : TE) (σ : L2.St) (x : V) (H1 : Hp) (Q : VK) : Prop := ∃ a, x = .ref a ∧ IsD H1 a ∧ ty σ H1 fun y H2 => tx σ H2 fun z H3 => DG1 a y z H3 Q
noncomputable def DP (x y v : V) (H : Hp) (R : Hp → Prop) : Prop := ∃ a H4, x = .ref a ∧ DPut H a y v H4 ∧ R H4
section
variable {σ : L2.St} {H : Hp} {td ty tx tv : TE} {Q : VK} {D : Ends} {p : Addr} {f : Int → Int} {n : Nat}
theorem s_dput (q : tv σ H fun v H1 => td σ H1 fun x H2 => ty σ H2 fun y H3 => DP x y v H3 fun H4 => D.nx σ H4) : sDPut td ty tv D σ H := q
end
/-- a value that is a list of numbers, not the one at p -/
noncomputable def Lq (p : Addr) (H : Hp) (v : V) (r : List Int) : Prop := ∃ a, v = .ref a ∧ a ≠ p ∧ H a = some (.lst (r.map V.int))
end TR
namespace TR
open PySem L2
/-- a test | a value, with a word behind it: what follows is shown once, from Mid -/
noncomputable def tTCut (t : TT) : TT := fun σ H QB => ∃ Mid : Bool → Hp → Prop, t σ H Mid ∧ ∀ b H1, Mid b H1 → QB b H1
theorem pt_cut {X : Cx} {e : Expr} {t : TT} (h : PT X e t) : PT X e (tTCut t) := ⟨fun pins s σ H Q I ⟨Mid, h1, h2⟩ => thn (h.run pins s σ H Mid I h1) fun b s' ⟨H', I', q⟩ => ⟨H', I', h2 b H' q⟩⟩
noncomputable def tECut (t : TE) : TE := fun σ H Q => ∃ Mid : VK, t σ H Mid ∧ ∀ v H1, Mid v H1 → Q v H1
theorem s_tcut {t : TT} {σ : L2.St} {H : Hp} {QB : Bool → Hp → Prop} (Mid : Bool → Hp → Prop) (h : t σ H Mid) (q : ∀ b H1, Mid b H1 → QB b H1) : tTCut t σ H QB := ⟨Mid, h, q⟩
end TR

/-! ### classes, methods, exceptions of the text -/
namespace TR
open PySem L2 PySem.Spec PyProof.Rows
/-- where a class of the text stands -/
noncomputable def clsA (K : PySem.W.Frag) (x : Str) : Addr := match PySem.W.nsIn K mainGlobals x with | some (some (.ref C)) => C | _ => 0
theorem clsA_of {K : PySem.W.Frag} {x : Str} {C : Addr} (h : PySem.W.nsIn K mainGlobals x = some (some (.ref C))) : clsA K x = C := by
  unfold clsA
  rw [h]
/-- a def that may raise keeps the promise -/
noncomputable def HasX (P : Program) (w : World) (K : PySem.W.Frag) (mg : Str → Option Value) (base : Heap) (x : Str) (k : Nat) (sp : Sp) : Prop :=
  ∃ f fd ps, FnOk P w K mg base (L2.CX P w) k f fd ps sp ∧ mg x = some (.ref f) ∧ PySem.W.keepIn K (.ref f) = true ∧ Binds K fd ps []
/-- a method -/
noncomputable def HasM (P : Program) (w : World) (K : PySem.W.Frag) (mg : Str → Option Value) (base : Heap) (x m : Str) (k : Nat) (sp : Sp) : Prop :=
  ∃ f fd ps, FnOk P w K mg base (L2.CX P w) k f fd ps sp ∧ Meth K (clsA K x) m f ∧ Binds K fd ps []
/-- a class that is made by its __init__ -/
noncomputable def HasK (P : Program) (w : World) (K : PySem.W.Frag) (mg : Str → Option Value) (base : Heap) (x : Str) (k : Nat) (sp : Sp) : Prop :=
  ∃ f fd ps, FnOk P w K mg base (L2.CX P w) k f fd ps sp ∧ Mk K (clsA K x) f ∧ mg x = some (.ref (clsA K x)) ∧ Binds K fd ps []
structure MethAt (K : PySem.W.Frag) (x m q : Str) (st : Stmt) (ps : List Str) : Prop where
  ex : ∃ f fd, Fun K m q st f fd ∧ Meth K (clsA K x) m f ∧ Binds K fd ps []
structure MakeAt (K : PySem.W.Frag) (mg : Str → Option Value) (x q : Str) (st : Stmt) (ps : List Str) : Prop where
  ex : ∃ f fd, Fun K "__init__" q st f fd ∧ Mk K (clsA K x) f ∧ mg x = some (.ref (clsA K x)) ∧ Binds K fd ps []
/-- an exception class with one field that its __init__ lays -/
structure ExF (K : PySem.W.Frag) (mg : Str → Option Value) (x f : Str) : Prop where
  o : OexC K (clsA K x)
  g : mg x = some (.ref (clsA K x))
  n : PySem.W.findIn K (.ref (clsA K x)) f = some none
structure ExAt (K : PySem.W.Frag) (x q : Str) (st : Stmt) (ps : List Str) : Prop where
  ex : ∃ fI fd, Fun K "__init__" q st fI fd ∧ PySem.W.findIn K (.ref (clsA K x)) "__init__" = some (some (.ref fI)) ∧ PySem.W.typeIn K (.ref fI) = some (.type "function") ∧ Binds K fd ps []
/-- the class over all own exceptions, itself right under ValueError -/
structure TeC (K : PySem.W.Frag) (mg : Str → Option Value) (x : Str) : Prop where
  g : mg x = some (.ref (clsA K x))
  ga : PySem.W.specialIn K (.ref (clsA K x)) "__getattribute__" = some (some (.builtin "type.__getattribute__"))
  rd : PySem.W.readsIn K (clsA K x) (.type "type") = true
  fi : PySem.W.findCls K (.ref (clsA K x)) (.type "type") "__init__" = some (.val (.builtin "ValueError.__init__"))
noncomputable def spInit (f : Str) (K : PySem.W.Frag) : Sp := fun vs H Q _ => ∃ (a C : Addr) (v : V), vs = [.ref a, v] ∧ OexC K C ∧ PySem.W.findIn K (.ref C) f = some none ∧ H a = some (exo a C none) ∧ ∀ d, H d = none → d ≠ a → Q .non (upd (upd H d (exd d [(f, v)])) a (exo a C (some d)))
noncomputable def HasE (P : Program) (w : World) (K : PySem.W.Frag) (mg : Str → Option Value) (base : Heap) (x f : Str) (k : Nat) : Prop :=
  ∃ fI fd ps, FnOk P w K mg base CX0 k fI fd ps (spInit f K) ∧ ExF K mg x f ∧ PySem.W.findIn K (.ref (clsA K x)) "__init__" = some (some (.ref fI)) ∧ PySem.W.typeIn K (.ref fI) = some (.type "function") ∧ Binds K fd ps []
/-- what may be let out at the slots σ -/
noncomputable abbrev Px (X : Cx) (E : L2.St → XK) : Prop := ∀ σ, PassesAt (L2.CX X.prog X.w) X σ (E σ)
theorem px0 {X : Cx} : Px X (fun _ => E0) := fun _ _ _ _ _ _ _ h => by
  obtain ⟨_, _, _, _, _, _, _, _, _, _, _, _, z⟩ := h
  exact z.elim
theorem pxT {X : Cx} {W : WX} (tk : Takes X W) : Px X (WE W) := fun σ => passAt tk σ
noncomputable def tCallE (sp : Sp) (E : L2.St → XK) (t : TA) : TE := fun σ H Q => t σ H fun vs H1 => sp vs H1 Q (E σ)
noncomputable def tMethE (C : Addr) (m : Str) (sp : Sp) (E : L2.St → XK) (ta : TE) (t : TA) : TE := fun σ H Q => ta σ H fun x H1 => ∃ a dx fs, x = .ref a ∧ H1 a = some (.ins C dx fs) ∧ fs.lookup m = none ∧ t σ H1 fun vs H2 => sp (x :: vs) H2 Q (E σ)
noncomputable def tMakeE (C : Addr) (sp : Sp) (E : L2.St → XK) (t : TA) : TE := fun σ H Q => t σ H fun vs H1 => ∀ x dx, H1 x = none → H1 dx = none → dx ≠ x → sp (.ref x :: vs) (upd (upd H1 dx (.own x)) x (.ins C dx [])) (fun v H2 => v = .non ∧ Q (.ref x) H2) (E σ)
section
variable {X : Cx} {k k' : Nat} {sp : Sp} {x m f : Str} {p p1 p2 pos pos2 apos : Pos} {e o : Expr} {es : List Expr} {t : TA} {ta : TE} {E : L2.St → XK} {W : WX}
theorem pe_callX (hx : Px X E) (h : HasX X.prog X.w X.K X.mg X.base x k sp) (hk : k ≤ k') (hr : Room k' X.A) (hg : Gl X x) (ha : PA X (e :: es) t) (hdb : (x == ("__debug__" : Str)) = false := by decide)
    (he : starEach (e :: es) X.env = (false, eval e X.env) :: starEach es X.env := by rfl) (hpl : (backTo pos (starEach es X.env)).any (·.1) = false := by rfl) : PE X (.Call (.Name x p) (e :: es) [] pos) (tCallE sp E t) := by
  obtain ⟨g, fd, ps, F, hm, kp, hb⟩ := h
  exact pe_callS F (hr.mono hk) hg hm kp hb hx ha hdb he hpl
theorem pe_methX {pl : Sem Bool} (hx : Px X E) (c : Cls X.K (clsA X.K x)) (h : HasM X.prog X.w X.K X.mg X.base x m k sp) (hk : k ≤ k') (hr : Room k' X.A) (he : PE X o ta) (ha : PA X (e :: es) t)
    (hst : starEach (e :: es) X.env = (false, eval e X.env) :: starEach es X.env := by rfl) (hpl : (backTo pos (starEach es X.env)).any (·.1) = false := by rfl)
    (ht : eval (.Call (.Attribute o m apos) (e :: es) [] pos) X.env = (do
      let ov ← eval o X.env
      standAt apos.atName
      let (f, first) ← holding [ov] (getMethod ov m pl)
      callWith pos f first (backTo pos (starEach (e :: es) X.env)) (backToKw pos (keywordEach [] X.env))) := by rfl) :
    PE X (.Call (.Attribute o m apos) (e :: es) [] pos) (tMethE (clsA X.K x) m sp E ta t) := by
  obtain ⟨g, fd, ps, F, hm, hb⟩ := h
  refine ⟨fun pins s σ H Q I h => ?_⟩
  refine PySem.W.methodCall_KW (pl := pl) (thn (he.run pins s σ H _ I h) fun u s1 ⟨x, H1, I1, rx, a, dx, fs, ex, ea, l, q⟩ => ?_) ht
  subst ex
  obtain rfl : u = Value.ref a := rx
  refine getmeth_ok I1 ea c hm l ?_
  refine PySem.W.callWith_K (first := [.ref a]) (h₀ := X.base) I.ok.mod.kin hm.kp (thn (ha.run pos pins s1 σ H1 _ I1 q) fun us s2 ⟨vs, H2, I2, r, q2⟩ => ⟨I2.kIn, ?_⟩) hst hpl
  exact run_fnS (us := .ref a :: us) (vs := .ref a :: vs) F (hr.mono hk) hb (hx σ) I2 (.cons rfl r) q2
theorem pe_methX0 {pl : Sem Bool} (hx : Px X E) (c : Cls X.K (clsA X.K x)) (h : HasM X.prog X.w X.K X.mg X.base x m k sp) (hk : k ≤ k') (hr : Room k' X.A) (he : PE X o ta)
    (ht : eval (.Call (.Attribute o m apos) [] [] pos) X.env = (do
      let ov ← eval o X.env
      standAt apos.atName
      let (f, first) ← holding [ov] (getMethod ov m pl)
      callWith pos f first (backTo pos (starEach [] X.env)) (backToKw pos (keywordEach [] X.env))) := by rfl) :
    PE X (.Call (.Attribute o m apos) [] [] pos) (tMethE (clsA X.K x) m sp E ta tNil) := by
  obtain ⟨g, fd, ps, F, hm, hb⟩ := h
  refine ⟨fun pins s σ H Q I h => ?_⟩
  refine PySem.W.methodCall_KW (pl := pl) (thn (he.run pins s σ H _ I h) fun u s1 ⟨x, H1, I1, rx, a, dx, fs, ex, ea, l, q⟩ => ?_) ht
  subst ex
  obtain rfl : u = Value.ref a := rx
  refine getmeth_ok I1 ea c hm l ?_
  exact PySem.W.callWith_K0 (first := [.ref a]) I1.kIn hm.kp (run_fnS (us := [.ref a]) (vs := [.ref a]) F (hr.mono hk) hb (hx σ) I1 (.cons rfl .nil) q)
end
section
variable {X : Cx} {k k' : Nat} {sp : Sp} {x m f : Str} {p p1 p2 pos pos2 apos : Pos} {e o : Expr} {es : List Expr} {t : TA} {ta : TE} {W : WX}
/-- X(e, ..) that lets out what W wants | nothing -/
theorem pe_makeX {E : XK} (hx : Passes (L2.CX X.prog X.w) X E) (h : HasK X.prog X.w X.K X.mg X.base x k sp) (hk : k ≤ k') (hr : Room (k' + 1) X.A) (hg : Gl X x) (ha : PA X (e :: es) t) (hdb : (x == ("__debug__" : Str)) = false := by decide)
    (he : starEach (e :: es) X.env = (false, eval e X.env) :: starEach es X.env := by rfl) (hpl : (backTo pos (starEach es X.env)).any (·.1) = false := by rfl) : PE X (.Call (.Name x p) (e :: es) [] pos) (tMake (clsA X.K x) sp [] E t) := by
  obtain ⟨g, fd, ps, F, M, hm, hb⟩ := h
  exact pe_make M F (hr.mono (Nat.succ_le_succ hk)) hg hm hb .nil hx ha hdb he hpl
/-- TailError.__init__(self, ..) -/
theorem pe_teinit {pl : Sem Bool} (T : TeC X.K X.mg x) (hg : Gl X x) (ha : PA X (e :: es) t) (hdb : (x == ("__debug__" : Str)) = false := by decide)
    (hc : eval (.Call (.Attribute (.Name x p1) "__init__" p2) (e :: es) [] pos) X.env = (do
      let ov ← eval (.Name x p1) X.env
      standAt p2.atName
      let (f, first) ← holding [ov] (getMethod ov "__init__" pl)
      callWith pos f first (backTo pos (starEach (e :: es) X.env)) (backToKw pos (keywordEach [] X.env))) := by rfl)
    (he : starEach (e :: es) X.env = (false, eval e X.env) :: starEach es X.env := by rfl) (hpl : (backTo pos (starEach es X.env)).any (·.1) = false := by rfl) :
    PE X (.Call (.Attribute (.Name x p1) "__init__" p2) (e :: es) [] pos) (tVeI X.K t) := by
  refine ⟨fun pins s σ H Q I h => ?_⟩
  refine PySem.W.methodCall_KW (ld_glob I hg T.g ?_ hdb) hc
  refine PySem.W.method_cls I.kIn T.ga (PySem.W.cls_value I.kIn T.rd T.fi (by decide +kernel) ?_)
  show wpAny _ _ (callWith pos (Value.builtin "ValueError.__init__") [] (backTo pos (starEach (e :: es) X.env)) []) _ _ _
  refine PyProof.Rows.callWith_method1 (thn (ha.run pos pins _ σ H _ (I.tok _) h) fun us s1 ⟨vs, H1, I1, r1, a, C, ws, ev, hl, T, ea, q⟩ => ?_) he hpl
  subst ev
  cases r1 with
  | @cons _ u0 _ ur ra rw' =>
    obtain rfl : u0 = Value.ref a := ra
    have hlen : ur.length ≤ sizeLine := by
      rw [← Paired.length rw', sizeLine_eq]
      omega
    exact oinit_ok T I1 ea hlen fun s' J => ⟨.non, H1, J, rfl, q⟩
/-- raise X(e) -/
noncomputable def tRaise (C : Addr) (f : Str) (W : WX) (t : TA) : TS := fun _ σ H => t σ H fun vs H1 => ∃ v, vs = [v] ∧ ∀ d, H1 d = none → W (.ref C) (some d) σ (upd H1 d (.xd [(f, v)]))
theorem pa_weak {es : List Expr} (h : PA X es t) : PA X es (fun σ H Q' => ∃ Q0 : List V → Hp → Prop, t σ H Q0 ∧ ∀ vs H1, Q0 vs H1 → Q' vs H1) :=
  ⟨fun pos pins s σ H Q I ⟨Q0, h1, h2⟩ => wpAny_mono (h.run pos pins s σ H Q0 I h1) (fun us s' ⟨vs, H', I', r, q⟩ => ⟨vs, H', I', r, h2 vs H' q⟩) fun _ _ e => e⟩
theorem ps_raiseX (tk : Takes X W) (h : HasE X.prog X.w X.K X.mg X.base x f k) (hk : k ≤ k') (hr : Room (k' + 1) X.A) (hc : X.calm = true) (hg : Gl X x) (ha : PA X [e] t) (hdb : (x == ("__debug__" : Str)) = false := by decide)
    (he : starEach [e] X.env = (false, eval e X.env) :: starEach [] X.env := by rfl) (hpl : (backTo pos (starEach [] X.env)).any (·.1) = false := by rfl) : PS X (.Raise (some (.Call (.Name x p) [e] [] pos)) none pos2) (tRaise (clsA X.K x) f W t) := by
  obtain ⟨fI, fd, ps, F, T, iC, tI, hb⟩ := h
  have r := ps_raise (pos := pos2) hc tk (pmk_oex (p := p) T.o iC tI F (hr.mono (Nat.succ_le_succ hk)) hb .nil pass0 hg T.g (pa_weak ha) hdb he hpl)
  refine ⟨fun pins s σ H D I h => r.run pins s σ H D I ?_⟩
  refine ⟨_, h, fun vs H1 ⟨v, ev, q⟩ => ?_⟩
  subst ev
  refine ⟨by show 1 ≤ 1000; decide, fun a ha => ⟨a, clsA X.K x, v, rfl, T.o, T.n, upd_same, fun d hd hda => ⟨rfl, d, [(f, v)], upd_same, by rw [upd_ne hda, upd_same], by rw [upd_ne hda] at hd; exact hd, ?_⟩⟩⟩
  have e1 : upd (del (upd (upd (upd H1 a (exo a (clsA X.K x) none)) d (exd d [(f, v)])) a (exo a (clsA X.K x) (some d))) a) d (.xd [(f, v)]) = upd H1 d (.xd [(f, v)]) := by
    funext b
    by_cases c : b = d
    · rw [c, upd_same, upd_same]
    · rw [upd_ne c, upd_ne c]
      by_cases c2 : b = a
      · rw [c2, del_same, ha]
      · rw [del_ne c2, upd_ne c2, upd_ne c, upd_ne c2]
  rw [e1]
  exact q d (by rw [upd_ne hda] at hd; exact hd)
end
section
variable {P : Program} {w : World} {K : PySem.W.Frag} {mg : Str → Option Value} {base : Heap}
theorem has_ofX {x : Str} {st : Stmt} {N ps : List Str} {k : Nat} {sp : Sp} (F : FunAt K mg x st ps) (S : FnScope N ps (defScope st)) (len : ∀ vs H Q E, sp vs H Q E → vs.length = ps.length)
    (hbody : ∀ (f : Addr) (cdv : Value) (A : Around) (outer : List Env) (s : Shared) (H : Hp) (vs : List V) (Q : VK) (E : XK), Room k (A.deeper (envOfC x (defScope st) s.heap.objs.size f cdv)) → sp vs H Q E →
      ∃ t, PSs (cxOf (L2.CX P w) P w K mg base N x (defScope st) f cdv A outer s H E) (defBody st) t ∧ t { nx := fun _ H' => Q .non H', rt := Q } (start N vs) H) : HasX P w K mg base x (k + 1) sp := by
  obtain ⟨f, fd, F, hm, hb⟩ := F
  exact ⟨f, fd, ps, F.okX S len (hbody f), hm, F.kp, hb⟩
theorem has_ofM {x m q : Str} {st : Stmt} {N ps : List Str} {k : Nat} {sp : Sp} (F : MethAt K x m q st ps) (S : FnScope N ps (defScope st)) (len : ∀ vs H Q E, sp vs H Q E → vs.length = ps.length)
    (hbody : ∀ (f : Addr) (cdv : Value) (A : Around) (outer : List Env) (s : Shared) (H : Hp) (vs : List V) (Q : VK) (E : XK), Room k (A.deeper (envOfC q (defScope st) s.heap.objs.size f cdv)) → sp vs H Q E →
      ∃ t, PSs (cxOf (L2.CX P w) P w K mg base N q (defScope st) f cdv A outer s H E) (defBody st) t ∧ t { nx := fun _ H' => Q .non H', rt := Q } (start N vs) H) : HasM P w K mg base x m (k + 1) sp := by
  obtain ⟨f, fd, F, hm, hb⟩ := F.ex
  exact ⟨f, fd, ps, F.okX S len (hbody f), hm, hb⟩
theorem has_ofK {x q : Str} {st : Stmt} {N ps : List Str} {k : Nat} {sp : Sp} (F : MakeAt K mg x q st ps) (S : FnScope N ps (defScope st)) (len : ∀ vs H Q E, sp vs H Q E → vs.length = ps.length)
    (hbody : ∀ (f : Addr) (cdv : Value) (A : Around) (outer : List Env) (s : Shared) (H : Hp) (vs : List V) (Q : VK) (E : XK), Room k (A.deeper (envOfC q (defScope st) s.heap.objs.size f cdv)) → sp vs H Q E →
      ∃ t, PSs (cxOf (L2.CX P w) P w K mg base N q (defScope st) f cdv A outer s H E) (defBody st) t ∧ t { nx := fun _ H' => Q .non H', rt := Q } (start N vs) H) : HasK P w K mg base x (k + 1) sp := by
  obtain ⟨f, fd, F, M, hm, hb⟩ := F.ex
  exact ⟨f, fd, ps, F.okX S len (hbody f), M, hm, hb⟩
theorem has_ofE {x q g : Str} {st : Stmt} {N ps : List Str} {k : Nat} (T : ExF K mg x g) (F : ExAt K x q st ps) (S : FnScope N ps (defScope st)) (len : ∀ vs H Q E, spInit g K vs H Q E → vs.length = ps.length)
    (hbody : ∀ (f : Addr) (cdv : Value) (A : Around) (outer : List Env) (s : Shared) (H : Hp) (vs : List V) (Q : VK) (E : XK), Room k (A.deeper (envOfC q (defScope st) s.heap.objs.size f cdv)) → spInit g K vs H Q E →
      ∃ t, PSs (cxOf CX0 P w K mg base N q (defScope st) f cdv A outer s H E).nox (defBody st) t ∧ t { nx := fun _ H' => Q .non H', rt := Q } (start N vs) H) : HasE P w K mg base x g (k + 1) := by
  obtain ⟨f, fd, F, h1, h2, hb⟩ := F.ex
  exact ⟨f, fd, ps, F.ok S len (hbody f), T, h1, h2, hb⟩
theorem methAt_mk {h : Heap} (X : K.In h) {x m q : Str} {st : Stmt} {ps : List Str} {f C : Addr} {oc : Value} {od an : Option Addr} {osl : Array (Option Value)} {kV doc pm cdv ct : Value}
    (aC : PySem.W.nsIn K mainGlobals x = some (some (.ref C))) (a : PySem.W.findIn K (.ref C) m = some (some (.ref f))) (l : K.lookup f = some ⟨oc, od, .func (PySem.W.fnOf m q (defArgs st) (defBody st) (defScope st) .none kV doc pm an cdv ct), osl⟩)
    (c : PySem.W.codeIn K cdv q = true) (i : PySem.W.isFn K (.ref f) = true) (k : PySem.W.keepIn K (.ref f) = true)
    (b : ∀ (kV doc pm : Value) (an : Option Addr) (cdv ct : Value) (us : List Value), us.length = ps.length → bindArgs (PySem.W.fnOf m q (defArgs st) (defBody st) (defScope st) .none kV doc pm an cdv ct) ⟨us, []⟩ = pure (ps.zip us)) : MethAt K x m q st ps := by
  refine ⟨f, _, fun_mk l c k, ?_, (fun_mk (st := st) l c k).binds b⟩
  rw [clsA_of aC]
  exact ⟨a, i, k⟩
theorem makeAt_mk {h : Heap} (X : K.In h) (G : h.Ns mainGlobals mg) {x q : Str} {st : Stmt} {ps : List Str} {f C : Addr} {oc : Value} {od an : Option Addr} {osl : Array (Option Value)} {kV doc pm cdv ct : Value}
    (aC : PySem.W.nsIn K mainGlobals x = some (some (.ref C))) (a : PySem.W.findIn K (.ref C) "__init__" = some (some (.ref f))) (l : K.lookup f = some ⟨oc, od, .func (PySem.W.fnOf "__init__" q (defArgs st) (defBody st) (defScope st) .none kV doc pm an cdv ct), osl⟩)
    (c : PySem.W.codeIn K cdv q = true) (i : PySem.W.isFn K (.ref f) = true) (k : PySem.W.keepIn K (.ref f) = true) (mk : PySem.W.makesIn K C = true) (kC : PySem.W.keepIn K (.ref C) = true)
    (b : ∀ (kV doc pm : Value) (an : Option Addr) (cdv ct : Value) (us : List Value), us.length = ps.length → bindArgs (PySem.W.fnOf "__init__" q (defArgs st) (defBody st) (defScope st) .none kV doc pm an cdv ct) ⟨us, []⟩ = pure (ps.zip us)) : MakeAt K mg x q st ps := by
  refine ⟨f, _, fun_mk l c k, ?_, ?_, (fun_mk (st := st) l c k).binds b⟩
  · rw [clsA_of aC]
    exact ⟨mk, a, i, kC⟩
  · rw [clsA_of aC]
    exact PySem.W.mg_of X G aC
theorem exAt_mk {h : Heap} (X : K.In h) {x q : Str} {st : Stmt} {ps : List Str} {f C : Addr} {oc : Value} {od an : Option Addr} {osl : Array (Option Value)} {kV doc pm cdv ct : Value}
    (aC : PySem.W.nsIn K mainGlobals x = some (some (.ref C))) (a : PySem.W.findIn K (.ref C) "__init__" = some (some (.ref f))) (l : K.lookup f = some ⟨oc, od, .func (PySem.W.fnOf "__init__" q (defArgs st) (defBody st) (defScope st) .none kV doc pm an cdv ct), osl⟩)
    (c : PySem.W.codeIn K cdv q = true) (t : PySem.W.typeIn K (.ref f) = some (.type "function")) (k : PySem.W.keepIn K (.ref f) = true)
    (b : ∀ (kV doc pm : Value) (an : Option Addr) (cdv ct : Value) (us : List Value), us.length = ps.length → bindArgs (PySem.W.fnOf "__init__" q (defArgs st) (defBody st) (defScope st) .none kV doc pm an cdv ct) ⟨us, []⟩ = pure (ps.zip us)) : ExAt K x q st ps := by
  refine ⟨f, _, fun_mk l c k, ?_, t, (fun_mk (st := st) l c k).binds b⟩
  rw [clsA_of aC]
  exact a
theorem exF_mk {h : Heap} (X : K.In h) (G : h.Ns mainGlobals mg) {x f : Str} {C : Addr} (aC : PySem.W.nsIn K mainGlobals x = some (some (.ref C)))
    {nm q : Str} {N : Addr} {bs bm : List Value} {sn : List Str} {sub : List Value} {ab : Bool} {col : Option Bool} {dd : Option Addr} {k0 k1 k2 k3 k5 : Option Value}
    (l : K.lookup C = some (excClassObj nm q C N bs bm true sn sub ab col dd k0 k1 k2 k3 k5 "ValueError.__new__")) (r : PySem.HandSPX.refsVE bm = true)
    (sa : PySem.W.findIn K (.ref C) "__setattr__" = some (some (.builtin "object.__setattr__"))) (eC : PySem.W.subIn K (.ref C) (.type "BaseException") = some true) (tC : PySem.W.typeIn K (.ref C) = some (.type "type")) (kC : PySem.W.keepIn K (.ref C) = true)
    (n : PySem.W.findIn K (.ref C) f = some none) : ExF K mg x f := by
  refine ⟨?_, ?_, ?_⟩
  · rw [clsA_of aC]
    exact ⟨⟨nm, q, N, bs, bm, sn, sub, ab, col, dd, k0, k1, k2, k3, k5, l, r⟩, sa, eC, tC, kC⟩
  · rw [clsA_of aC]
    exact PySem.W.mg_of X G aC
  · rw [clsA_of aC]
    exact n
theorem teC_mk {h : Heap} (X : K.In h) (G : h.Ns mainGlobals mg) {x : Str} {C : Addr} (aC : PySem.W.nsIn K mainGlobals x = some (some (.ref C))) (ga : PySem.W.specialIn K (.ref C) "__getattribute__" = some (some (.builtin "type.__getattribute__")))
    (rd : PySem.W.readsIn K C (.type "type") = true) (fi : PySem.W.findCls K (.ref C) (.type "type") "__init__" = some (.val (.builtin "ValueError.__init__"))) : TeC K mg x := by
  refine ⟨?_, ?_, ?_, ?_⟩
  · rw [clsA_of aC]
    exact PySem.W.mg_of X G aC
  all_goals (rw [clsA_of aC]; assumption)
theorem cls_mk {h : Heap} (X : K.In h) {x : Str} {C : Addr} (aC : PySem.W.nsIn K mainGlobals x = some (some (.ref C))) (pg : PySem.W.plainGet K C Str.empty = true) (hd : PySem.W.hasDictIn K C = true) (po : PySem.W.plainOver K C = true)
    (sa : PySem.W.findIn K (.ref C) "__setattr__" = some (some (.builtin "object.__setattr__"))) : Cls K (clsA K x) := by
  rw [clsA_of aC]
  exact ⟨pg, hd, po, sa⟩
theorem noAttr_mk {h : Heap} (X : K.In h) {x f : Str} {C : Addr} (aC : PySem.W.nsIn K mainGlobals x = some (some (.ref C))) (n : PySem.W.findIn K (.ref C) f = some none) : NoAttr K (clsA K x) f := by
  rw [clsA_of aC]
  exact n
end
end TR
namespace TR
open PySem L2 PySem.Spec PyProof.Rows
theorem clsG_mk {K : PySem.W.Frag} {mg : Str → Option Value} {h : Heap} (X : K.In h) (G : h.Ns mainGlobals mg) {x : Str} {C : Addr} (aC : PySem.W.nsIn K mainGlobals x = some (some (.ref C))) : mg x = some (.ref (clsA K x)) := by
  rw [clsA_of aC]
  exact PySem.W.mg_of X G aC
end TR
namespace TR
open PySem L2 PySem.Spec PyProof.Rows
section
variable {P : Program} {w : World} {K : PySem.W.Frag} {mg : Str → Option Value} {base : Heap} {x y : Str} {k : Nat} {sp : Sp}
theorem Has.alias (h : Has P w K mg base x k sp) (e : mg y = mg x) : Has P w K mg base y k sp := by
  obtain ⟨f, fd, ps, F, hm, r⟩ := h
  exact ⟨f, fd, ps, F, e.trans hm, r⟩
theorem alias_mk {h : Heap} (X : K.In h) (G : h.Ns mainGlobals mg) {f : Addr} (a : PySem.W.nsIn K mainGlobals y = some (some (.ref f))) (b : PySem.W.nsIn K mainGlobals x = some (some (.ref f))) : mg y = mg x :=
  (PySem.W.mg_of X G a).trans (PySem.W.mg_of X G b).symm
end
end TR
namespace TR
open PySem L2
section
variable {K : PySem.W.Frag} {H : Hp} {σ : L2.St} {Q : VK} {D : Ends} {C a dx : Addr} {f m : Str} {W : WX} {t : TA} {ta tv : TE} {E : L2.St → XK} {E1 : XK} {sp : Sp} {v : V} {fs : List (Str × V)}
noncomputable def RaP (C : Addr) (f : Str) (W : WX) (σ : L2.St) (vs : List V) (H : Hp) : Prop := ∃ v, vs = [v] ∧ ∀ d, H d = none → W (.ref C) (some d) σ (upd H d (.xd [(f, v)]))
theorem s_raise (q : t σ H fun vs H1 => RaP C f W σ vs H1) : tRaise C f W t D σ H := q
theorem n_raise (q : ∀ d, H d = none → W (.ref C) (some d) σ (upd H d (.xd [(f, v)]))) : RaP C f W σ [v] H := ⟨v, rfl, q⟩
theorem s_callE (q : t σ H fun vs H1 => sp vs H1 Q (E σ)) : tCallE sp E t σ H Q := q
noncomputable def MeP (C : Addr) (m : Str) (sp : Sp) (E1 : XK) (t : TA) (σ : L2.St) (x : V) (H1 : Hp) (Q : VK) : Prop := ∃ a dx fs, x = .ref a ∧ H1 a = some (.ins C dx fs) ∧ fs.lookup m = none ∧ t σ H1 fun vs H2 => sp (x :: vs) H2 Q E1
theorem s_meth (q : ta σ H fun x H1 => MeP C m sp (E σ) t σ x H1 Q) : tMethE C m sp E ta t σ H Q := q
theorem n_meth (h : H a = some (.ins C dx fs)) (l : fs.lookup m = none) (q : t σ H fun vs H2 => sp (.ref a :: vs) H2 Q E1) : MeP C m sp E1 t σ (.ref a) H Q := ⟨a, dx, fs, rfl, h, l, q⟩
noncomputable def FlP (K : PySem.W.Frag) (f : Str) (x : V) (H : Hp) (Q : VK) : Prop := ∃ a C dx fs v, x = .ref a ∧ H a = some (.ins C dx fs) ∧ Cls K C ∧ NoAttr K C f ∧ fs.lookup f = some v ∧ Q v H
theorem s_fld (q : ta σ H fun x H1 => FlP K f x H1 Q) : tFld K ta f σ H Q := q
theorem n_fld (h : H a = some (.ins C dx fs)) (c : Cls K C) (n : NoAttr K C f) (l : fs.lookup f = some v) (q : Q v H) : FlP K f (.ref a) H Q := ⟨a, C, dx, fs, v, rfl, h, c, n, l, q⟩
noncomputable def FsP (K : PySem.W.Frag) (f : Str) (y x : V) (H : Hp) (R : Hp → Prop) : Prop := ∃ a C dx fs, x = .ref a ∧ H a = some (.ins C dx fs) ∧ Cls K C ∧ NoAttr K C f ∧ fs.length < 1000 ∧ R (upd H a (.ins C dx (putF f y fs)))
theorem s_fset (q : tv σ H fun y H1 => ta σ H1 fun x H2 => FsP K f y x H2 (D.nx σ)) : sFld K ta tv f D σ H := q
theorem n_fset {y : V} {R : Hp → Prop} (h : H a = some (.ins C dx fs)) (c : Cls K C) (n : NoAttr K C f) (l : fs.length < 1000) (q : R (upd H a (.ins C dx (putF f y fs)))) : FsP K f y (.ref a) H R := ⟨a, C, dx, fs, rfl, h, c, n, l, q⟩
noncomputable def MkP' (C : Addr) (sp : Sp) (E1 : XK) (vs : List V) (H1 : Hp) (Q : VK) : Prop := ∀ x dx, H1 x = none → H1 dx = none → dx ≠ x → sp (.ref x :: vs) (upd (upd H1 dx (.own x)) x (.ins C dx [])) (fun v H2 => v = .non ∧ Q (.ref x) H2) E1
theorem s_make (q : t σ H fun vs H1 => MkP' C sp E1 vs H1 Q) : tMake C sp [] E1 t σ H Q := by
  have e : (fun (vs : List V) (H1 : Hp) => ∀ x dx, H1 x = none → H1 dx = none → dx ≠ x → sp (.ref x :: (vs ++ [])) (upd (upd H1 dx (.own x)) x (.ins C dx [])) (fun v H2 => v = .non ∧ Q (.ref x) H2) E1) = fun vs H1 => MkP' C sp E1 vs H1 Q := by
    funext vs H1
    rw [List.append_nil]
    rfl
  show t σ H _
  rw [e]
  exact q
end
end TR
namespace TR
open PySem L2
section
variable {K : PySem.W.Frag} {H : Hp} {σ : L2.St} {Q : VK} {D : Ends} {C a : Addr} {f : Str} {ta : TA} {to te : TE} {ws : List V} {y : V}
noncomputable def VeP (K : PySem.W.Frag) (vs : List V) (H1 : Hp) (Q : VK) : Prop := ∃ (a C : Addr) (ws : List V), vs = .ref a :: ws ∧ ws.length ≤ 1000 ∧ OexC K C ∧ H1 a = some (exo a C none) ∧ Q .non H1
theorem s_ve (q : ta σ H fun vs H1 => VeP K vs H1 Q) : tVeI K ta σ H Q := q
theorem n_ve (o : OexC K C) (h : H a = some (exo a C none)) (l : ws.length ≤ 1000) (q : Q .non H) : VeP K (.ref a :: ws) H Q := ⟨a, C, ws, rfl, l, o, h, q⟩
noncomputable def OsP (K : PySem.W.Frag) (f : Str) (y x : V) (H2 : Hp) (R : Hp → Prop) : Prop := ∃ a C : Addr, x = .ref a ∧ OexC K C ∧ PySem.W.findIn K (.ref C) f = some none ∧
  ((H2 a = some (exo a C none) ∧ ∀ dx, H2 dx = none → dx ≠ a → R (upd (upd H2 dx (exd dx [(f, y)])) a (exo a C (some dx)))) ∨
    ∃ (dx : Addr) (fs : List (Str × V)), H2 a = some (exo a C (some dx)) ∧ H2 dx = some (exd dx fs) ∧ fs.length ≤ 900 ∧ R (upd H2 dx (exd dx ((f, y) :: fs))))
theorem s_os (q : te σ H fun y H1 => to σ H1 fun x H2 => OsP K f y x H2 (D.nx σ)) : tOst K f to te D σ H := q
theorem n_os {R : Hp → Prop} (o : OexC K C) (n : PySem.W.findIn K (.ref C) f = some none) (h : H a = some (exo a C none)) (q : ∀ dx, H dx = none → dx ≠ a → R (upd (upd H dx (exd dx [(f, y)])) a (exo a C (some dx)))) : OsP K f y (.ref a) H R := ⟨a, C, rfl, o, n, .inl ⟨h, q⟩⟩
end
end TR
namespace TR
open PySem L2
theorem u_forS {g : TG} {ts : TS} {D : Ends} {σ : L2.St} {H : Hp} {x : Str} (Pv : Nat → L2.St → Hp → Prop) (h0 : Pv 0 σ H)
    (hs : ∀ (i : Nat) c σ H, x.cps[i]? = some c → Pv i σ H → g (.str ⟨#[c]⟩) σ H fun σ2 H2 => ts { D with nx := Pv (i + 1), ct := Pv (i + 1), bk := D.nx } σ2 H2) (hd : ∀ σ H, Pv x.cps.size σ H → D.nx σ H) : ForS g ts D σ (.str x) H := by
  refine ⟨x, rfl, fun i m σ H' => m = x.cps.size - i ∧ i ≤ x.cps.size ∧ Pv i σ H', ⟨x.cps.size, by simp, Nat.zero_le _, h0⟩, ?_⟩
  rintro i m σ H' ⟨rfl, hi, q⟩
  by_cases hlt : i < x.cps.size
  · refine .inr ⟨hlt, fun σ' H'' => Pv (i + 1) σ' H'', fun σ' H'' z => ⟨x.cps.size - (i + 1), by omega, rfl, hlt, z⟩, fun v H2 y => ?_⟩
    obtain ⟨rfl, c, hc, rfl⟩ := y
    exact hs i c σ _ hc q
  · have ei : i = x.cps.size := by omega
    subst ei
    exact .inl ⟨Nat.le_refl _, hd σ H' q⟩
end TR
namespace TR
open PySem L2 PySem.Spec PyProof.Rows
section
variable {X : Cx} {K : PySem.W.Frag} {k k' : Nat} {sp : Sp} {x m f : Str} {p pos apos : Pos} {e o : Expr} {es : List Expr} {t : TA} {ta : TE} {E : L2.St → XK}
theorem pe_fldK (hk : X.K = K) (he : PE X e ta) (hb : attributeBase e f X.env (eval e X.env) = eval e X.env) : PE X (.Attribute e f pos) (tFld K ta f) := hk ▸ pe_fld he hb
theorem pe_methK {pl : Sem Bool} (hk : X.K = K) (hx : Px X E) (c : Cls K (clsA K x)) (h : HasM X.prog X.w K X.mg X.base x m k sp) (hl : k ≤ k') (hr : Room k' X.A) (he : PE X o ta) (ha : PA X (e :: es) t)
    (hst : starEach (e :: es) X.env = (false, eval e X.env) :: starEach es X.env := by rfl) (hpl : (backTo pos (starEach es X.env)).any (·.1) = false := by rfl)
    (ht : eval (.Call (.Attribute o m apos) (e :: es) [] pos) X.env = (do
      let ov ← eval o X.env
      standAt apos.atName
      let (f, first) ← holding [ov] (getMethod ov m pl)
      callWith pos f first (backTo pos (starEach (e :: es) X.env)) (backToKw pos (keywordEach [] X.env))) := by rfl) :
    PE X (.Call (.Attribute o m apos) (e :: es) [] pos) (tMethE (clsA K x) m sp E ta t) := by
  subst hk
  exact pe_methX hx c h hl hr he ha hst hpl ht
theorem pe_methK0 {pl : Sem Bool} (hk : X.K = K) (hx : Px X E) (c : Cls K (clsA K x)) (h : HasM X.prog X.w K X.mg X.base x m k sp) (hl : k ≤ k') (hr : Room k' X.A) (he : PE X o ta)
    (ht : eval (.Call (.Attribute o m apos) [] [] pos) X.env = (do
      let ov ← eval o X.env
      standAt apos.atName
      let (f, first) ← holding [ov] (getMethod ov m pl)
      callWith pos f first (backTo pos (starEach [] X.env)) (backToKw pos (keywordEach [] X.env))) := by rfl) :
    PE X (.Call (.Attribute o m apos) [] [] pos) (tMethE (clsA K x) m sp E ta tNil) := by
  subst hk
  exact pe_methX0 hx c h hl hr he ht
end
end TR
namespace TR
open PySem L2
section
variable {K : PySem.W.Frag} {x y f : Str} {C D : Addr} {b : Bool}
theorem exm_mk {h : Heap} (X : K.In h) (aC : PySem.W.nsIn K mainGlobals x = some (some (.ref C))) (aD : PySem.W.nsIn K mainGlobals y = some (some (.ref D))) (eb : PySem.W.subIn K (.ref D) (.type "BaseException") = some true) (ec : PySem.W.isClsIn K D = true) (et : PySem.W.typeIn K (.ref D) = some (.type "type"))
    (es : PySem.W.subIn K (.ref C) (.ref D) = some b) : PySem.W.exmOne (L2.KOf X) (.ref (clsA (L2.KOf X) x)) (.ref (clsA (L2.KOf X) y)) = some b := by
  show PySem.W.exmOne K (.ref (clsA K x)) (.ref (clsA K y)) = some b
  rw [clsA_of aC, clsA_of aD]
  have c1 : (PySem.W.subIn K (.ref D) (.type "BaseException") == some true) = true := by rw [eb]; rfl
  have c2 : ((PySem.W.clsIn K D).isSome && PySem.W.typeIn K (.ref D) == some (.type "type")) = true := by
    rw [show (PySem.W.clsIn K D).isSome = true from ec, et]
    rfl
  unfold PySem.W.exmOne PySem.W.kitCls
  rw [if_pos c1]
  dsimp only
  rw [if_pos c2]
  exact es
theorem fn_mk {h : Heap} (X : K.In h) (aC : PySem.W.nsIn K mainGlobals x = some (some (.ref C))) (h : PySem.W.findIn K (.ref C) f = some none) : PySem.W.findIn (L2.KOf X) (.ref (clsA (L2.KOf X) x)) f = some none := by
  show PySem.W.findIn K (.ref (clsA K x)) f = some none
  rw [clsA_of aC]
  exact h
theorem xf_mk {h : Heap} (X : K.In h) (aC : PySem.W.nsIn K mainGlobals x = some (some (.ref C))) (ga : PySem.W.findIn K (.ref C) "__getattribute__" = some (some (.builtin "BaseException.__getattribute__"))) (gg : PySem.W.findIn K (.ref C) "__getattr__" = some none)
    (ex : PySem.W.subIn K (.ref C) (.type "BaseException") = some true) (hd : PySem.W.hasDictIn K C = true) : XfC (L2.KOf X) (clsA (L2.KOf X) x) := by
  show XfC K (clsA K x)
  rw [clsA_of aC]
  exact ⟨ga, gg, ex, hd⟩
end
section
variable {K : PySem.W.Frag} {c cls : Value} {i : Nat} {ts : Addr → Value → Option Addr → TS} {Wout : WX} {D : Ends} {d : Option Addr} {σ : L2.St} {H : Hp} {a dd C : Addr} {f : Str} {te : TE} {Q : VK} {fs : List (Str × V)} {v : V}
theorem n_as (m : PySem.W.exmOne K cls c = some true) (q : ∀ a, H a = none → ts a cls d { nx := fun σ' H' => D.nx (σ'.set i none) H', rt := D.rt, bk := fun σ' H' => D.bk (σ'.set i none) H', ct := fun σ' H' => D.ct (σ'.set i none) H' } (σ.set i (some (.ref a))) H) : wAs K c i ts Wout D cls d σ H := ⟨true, m, fun _ => q, fun z => Bool.noConfusion z⟩
theorem n_asNo (m : PySem.W.exmOne K cls c = some false) (q : Wout cls d σ H) : wAs K c i ts Wout D cls d σ H := ⟨false, m, (fun z => Bool.noConfusion z), fun _ => q⟩
noncomputable def XfP (a : Addr) (cls : Value) (d : Option Addr) (C : Addr) (f : Str) (x : V) (H1 : Hp) (Q : VK) : Prop := x = .ref a ∧ cls = .ref C ∧ ∃ (dd : Addr) (fs : List (Str × V)) (v : V), d = some dd ∧ H1 dd = some (.xd fs) ∧ fs.lookup f = some v ∧ Q v H1
theorem s_xf (q : te σ H fun x H1 => XfP a cls d C f x H1 Q) : tXf a cls d C f te σ H Q := q
theorem n_xf (h : H dd = some (.xd fs)) (l : fs.lookup f = some v) (q : Q v H) : XfP a (.ref C) (some dd) C f (.ref a) H Q := ⟨rfl, rfl, dd, fs, v, rfl, h, l, q⟩
end
end TR
namespace TR
open PySem L2 PySem.Spec PyProof.Rows
/-- what isinstance(x, C) asks of an own class -/
structure IsiC (K : PySem.W.Frag) (C : Addr) : Prop where
  cl : Cls K C
  ha : PySem.W.findIn K (.ref C) "__class__" = some (some (.builtin "object.__class__"))
  hn : PySem.W.specialIn K (.builtin "object.__class__") "__get__" = some (some (.builtin "getset_descriptor.__get__"))
  htk : PySem.W.takesIn K (.builtin "object.__class__") = some true
  hm : PySem.W.mroIn K C (.type "object") = some true
  me : PySem.W.kitOne K (.ref C) (.ref C) = some true
end TR
namespace TR
open PySem L2 PySem.Spec PyProof.Rows
section
variable {X : Cx} {CX : CXT} {k k' : Nat} {f C : Addr} {fd : FuncData} {ps : List Str} {sp : Sp} {x : Str} {p pos : Pos} {e : Expr} {es : List Expr} {t : TA}
end
end TR
/-! an exception class without an __init__ of its own: raise X() -/
namespace TR
open PySem L2 PySem.Spec PyProof.Rows
noncomputable def bmVE : List Value := [.type "ValueError", .type "Exception", .type "BaseException", .type "object"]
structure ExB (K : PySem.W.Frag) (mg : Str → Option Value) (x : Str) : Prop where
  g : mg x = some (.ref (clsA K x))
  q : PySem.W.excIn K (clsA K x) bmVE "ValueError.__new__" = true
  kC : PySem.W.keepIn K (.ref (clsA K x)) = true
  exC : PySem.W.subIn K (.ref (clsA K x)) (.type "BaseException") = some true
  tyC : PySem.W.typeIn K (.ref (clsA K x)) = some (.type "type")
noncomputable def tRaise0 (C : Addr) (W : WX) : TS := fun _ σ H => W (.ref C) none σ H
section
variable {X : Cx} {x : Str} {p pos pos2 : Pos} {W : WX}
end
section
variable {K : PySem.W.Frag} {mg : Str → Option Value}
end
end TR
namespace TR
open PySem L2
end TR

/-! short words: hp (what stands at an address), ex (a heap grows into another), ne, fr, sq, st; s (one step of a reading), ss (steps as far as they go) -/
open PySem L2 TR
local macro_rules | `(tactic| walk_at "ex") => `(tactic| first
  | exact Ex.refl _
  | assumption
  | focus (apply Ex.trans; rotate_left; assumption; walk_at "ex")
  | focus (apply Ex.exm; rotate_left; rotate_left; assumption; walk_at "ex"; (walk_at "fr2")))
local macro_rules | `(tactic| walk_at "fr2") => `(tactic| first
  | assumption
  | focus (apply Ex.back; rotate_left; assumption; walk_at "ex"))
local macro_rules | `(tactic| walk_at "hp") => `(tactic| first
  | assumption
  | (apply ex_ap; assumption; walk_at "hp")
  | (apply exm_ap; assumption; walk_at "ne"; walk_at "hp"))
local macro_rules | `(tactic| walk_at "ne") => `(tactic| first
  | assumption
  | (apply Ne.symm; assumption)
  | exact TR.hand_ne0 (by assumption) (by assumption))
local macro_rules | `(tactic| walk_at "sq") => `(tactic| first
  | assumption
  | exact RW.sq (by assumption)
  | (apply sq_of; walk_at "hp")
  | focus (apply Ex.sq; rotate_left; assumption; walk_at "ex"))
local macro_rules | `(tactic| walk_at "st") => `(tactic| first
  | assumption
  | (apply st_of; walk_at "hp")
  | focus (apply Ex.st; rotate_left; assumption; walk_at "ex"))
local macro_rules | `(tactic| walk_at "is") => `(tactic| first
  | exact Is.int _
  | assumption
  | exact RW.is (by assumption)
  | (apply Is.ints; walk_at "sq")
  | focus (apply Is.ex; rotate_left; assumption; walk_at "ex"))
local macro_rules | `(tactic| walk_at "la") => `(tactic| first
  | assumption)
local macro_rules | `(tactic| walk_at "at") => `(tactic| first
  | exact atI_lt (by decide) rfl
  | rfl)
local macro_rules | `(tactic| walk_at "ixn") => `(tactic| first
  | rfl)
local macro_rules | `(tactic| walk_at "len") => `(tactic| first
  | omega
  | (simp only [List.length_map, List.length_range, List.length_append, List.length_cons, List.length_nil, List.length_reverse, List.length_set, sortI_len]; omega))
local macro_rules | `(tactic| walk_at "od") => `(tactic| first
  | decide
  | omega
  | exact Nat.le_of_ble_eq_true rfl)
local macro_rules | `(tactic| walk_at "kit") => `(tactic| first
  | exact k_ii
  | exact k_ib
  | exact k_is)
local macro_rules | `(tactic| walk_at "s") => `(tactic| first
  | (with_reducible (first | apply s_seq | apply s_asg | apply s_gname | apply s_ret | apply s_if | apply s_next | apply s_drop))
  | ((with_reducible apply s_var); rfl)
  | (with_reducible (first | apply s_c | apply s_op | apply s_un | apply s_chain | apply s_test | apply s_tB | apply s_bl | apply s_and | apply s_or | apply s_not | apply s_andV | apply s_notV | apply s_I0 | apply s_U | apply s_plusI | apply s_eqI | apply s_neI | apply s_eqB | apply s_neS))
  | ((with_reducible apply s_mod); walk_at "od"; intro _ _)
  | ((with_reducible apply s_div); walk_at "od"; walk_at "od")
  | (walk_at "pow")
  | ((with_reducible apply s_pow); decide; walk_at "od")
  | ((with_reducible apply s_mulL); walk_at "od")
  | ((with_reducible apply s_mulR); walk_at "od")
  | (with_reducible (first | apply s_nil | apply s_cons | apply s_call | apply s_CB | apply s_lst | apply s_tup | apply s_sl | apply s_np | apply s_part | apply s_int | apply s_BM | apply s_gsub | apply s_augS | apply s_ipI | apply s_forL | apply s_forT | apply s_forR1 | apply s_forS | apply s_lcL | apply s_lcR1 | apply s_dput))
  | ((with_reducible apply s_wp); rfl)
  | (with_reducible (first | apply s_lstRg | apply s_Rg2 | apply s_int2))
  | ((with_reducible apply n_rg); omega; intro _ _ _ _ _)
  | ((with_reducible apply s_sum); walk_at "sq")
  | ((with_reducible apply s_maxL); walk_at "sq"; walk_at "len")
  | ((with_reducible apply n_sorted); walk_at "sq"; intro _ _ _ _ _)
  | ((with_reducible apply s_gt2); walk_at "st")
  | (with_reducible (first | apply s_max2 | apply s_min2 | apply s_abs | apply s_int1b))
  | ((with_reducible apply s_isiI); walk_at "kit")
  | ((with_reducible apply s_isiB); walk_at "kit")
  | ((with_reducible apply s_isiS); walk_at "kit")
  | ((with_reducible apply s_isiN); walk_at "kit")
  | ((with_reducible apply s_isiL); walk_at "sq"; walk_at "kit")
  | ((with_reducible apply s_isiT); walk_at "st"; walk_at "kit")
  | ((with_reducible apply s_lenM); walk_at "sq")
  | ((with_reducible apply s_lenL); walk_at "sq")
  | ((with_reducible apply n_slL); walk_at "sq"; intro _ _ _ _ _)
  | ((with_reducible apply s_index); walk_at "sq"; assumption; intro _ _ _)
  | ((with_reducible apply s_inL); walk_at "sq")
  | ((with_reducible apply s_tyL); walk_at "sq")
  | ((with_reducible apply n_lst); walk_at "od"; intro _ _ _ _ _)
  | ((with_reducible apply n_tup); walk_at "od"; intro _ _ _ _ _)
  | ((with_reducible apply n_cat); walk_at "hp"; walk_at "hp"; walk_at "len"; intro _ _ _ _ _)
  | ((with_reducible apply s_aug); rfl)
  | ((with_reducible apply s_ixL); walk_at "sq"; walk_at "at")
  | ((with_reducible apply s_ixT); walk_at "st"; walk_at "at")
  | ((with_reducible apply s_ix3); walk_at "sq"; omega; intro _ _)
  | ((with_reducible apply s_ixI); walk_at "sq"; omega; intro _ _)
  | ((with_reducible apply s_getL); walk_at "sq"; decide; walk_at "at")
  | ((with_reducible apply n_setL); walk_at "hp"; walk_at "ixn"; intro _ _ _)
  | ((with_reducible apply s_eqP (α := List Int)); walk_at "is"; walk_at "is"; decide)
  | ((with_reducible apply s_neP (α := List Int)); walk_at "is"; walk_at "is"; decide)
  | ((with_reducible apply s_eqP (α := Int × Int)); walk_at "is"; walk_at "is"; decide)
  | ((with_reducible apply s_neP (α := Int × Int)); walk_at "is"; walk_at "is"; decide)
  | ((with_reducible apply s_eqP (α := Bool × Int)); walk_at "is"; walk_at "is"; decide)
  | ((with_reducible apply s_neP (α := Bool × Int)); walk_at "is"; walk_at "is"; decide)
  | ((with_reducible apply s_eqP (α := Int × Option Int)); walk_at "is"; walk_at "is"; decide)
  | ((with_reducible apply s_neP (α := Int × Option Int)); walk_at "is"; walk_at "is"; decide)
  | ((with_reducible apply s_eqP (α := T3 Int Int Int)); walk_at "is"; walk_at "is"; decide)
  | ((with_reducible apply s_neP (α := T3 Int Int Int)); walk_at "is"; walk_at "is"; decide)
  | ((with_reducible apply s_eqP (α := T4 Int Int Int Int)); walk_at "is"; walk_at "is"; decide)
  | ((with_reducible apply s_neP (α := T4 Int Int Int Int)); walk_at "is"; walk_at "is"; decide)
  | ((with_reducible apply s_eqP (α := List (Int × Int))); walk_at "is"; walk_at "is"; decide)
  | ((with_reducible apply s_neP (α := List (Int × Int))); walk_at "is"; walk_at "is"; decide)
  | ((with_reducible apply s_eqP (α := List (T3 Int Int Int))); walk_at "is"; walk_at "is"; decide)
  | ((with_reducible apply s_neP (α := List (T3 Int Int Int))); walk_at "is"; walk_at "is"; decide)
  | ((with_reducible apply s_eqP (α := List (T4 Int Int Int Int))); walk_at "is"; walk_at "is"; decide)
  | ((with_reducible apply s_neP (α := List (T4 Int Int Int Int))); walk_at "is"; walk_at "is"; decide)
  | ((with_reducible apply s_eqP (α := List (List Int))); walk_at "is"; walk_at "is"; decide)
  | ((with_reducible apply s_neP (α := List (List Int))); walk_at "is"; walk_at "is"; decide)
  | (with_reducible (first | apply i_t | apply i_f | apply i_nt | apply i_nf))
  | ((with_reducible apply i_dt); (focus (first | trivial | assumption | omega | rfl)))
  | ((with_reducible apply i_df); (focus (first | assumption | omega | exact (fun h => h rfl)))))
local macro_rules | `(tactic| walk_at "pow") => `(tactic| first
  | (with_reducible (first | apply s_pow2_56 | apply s_pow2_60 | apply s_pow10_6 | apply s_pow10_18)))
local macro_rules | `(tactic| walk_at "cx") => `(tactic| try dsimp only [cx_K, cx_K2])
local macro_rules | `(tactic| walk_at "ss") => `(tactic| ((try dsimp only); (repeat walk_at "s")))

/-! sorted of pairs of a number and a text, no two unlike ones of the same number -/
namespace SrtS
open PySem PySem.W PyProof.Rows SrtO
section
variable {prog : Program} {w : World} {A : Around} {E : Value → Shared → Prop} {s : Shared}
noncomputable def IsPS (h : Heap) (v : Value) (x : Int) (y : Str) : Prop := ∃ a o t u n, v = .ref a ∧ h.get? a = some o ∧ o.cls = .type "tuple" ∧ o.data = .seq #[.int x t, .str y u] n
theorem IsPS.keeps {h h' : Heap} {v : Value} {x : Int} {y : Str} (p : IsPS h v x y) (k : ∀ b o, h.get? b = some o → o.cls = .type "tuple" → h'.get? b = some o) : IsPS h' v x y := by
  obtain ⟨a, o, t, u, n, e, ho, hc, hd⟩ := p
  exact ⟨a, o, t, u, n, e, k _ _ ho hc, hc, hd⟩
noncomputable def ltI (p q : Int × Str) : Bool := decide (p.1 < q.1)
theorem swo_I {α : Type} (k : α → Int × Str) : Swo fun v u => ltI (k v) (k u) := by
  unfold ltI
  refine ⟨fun x y h => ?_, fun x y z h1 h2 => ?_⟩
  · have a := of_decide_eq_true h
    exact decide_eq_false (by omega)
  · have a := of_decide_eq_false h1
    have b := of_decide_eq_false h2
    exact decide_eq_false (by omega)
theorem ps_cmp {vs : List Value} {k : Value → Int × Str} (hp : ∀ v ∈ vs, IsPS s.heap v (k v).1 (k v).2) (hk : ∀ v ∈ vs, ∀ u ∈ vs, (k v).1 = (k u).1 → (k v).2 = (k u).2) :
    SrtO.Cmp prog w A s (tuples' true) (fun p => p.1 ∈ vs) (lt2 fun v u => ltI (k v) (k u)) := by
  intro p q hm hm'
  have h1 := hp _ hm
  have h2 := hp _ hm'
  have h3 := hk _ hm _ hm'
  show wpAny (model prog w) A (keyLt' (tuples' true) p.1 q.1) (fun r s' => s' = s ∧ r = ltI (k p.1) (k q.1)) (fun _ _ => False) s
  unfold ltI
  generalize (k p.1).1 = x at h1 h3 ⊢
  generalize (k p.1).2 = y at h1 h3 ⊢
  generalize (k q.1).1 = x' at h2 h3 ⊢
  generalize (k q.1).2 = y' at h2 h3 ⊢
  obtain ⟨a, o, t, u, n, e, ho, hc, hd⟩ := h1
  obtain ⟨a', o', t', u', n', e', ho', hc', hd'⟩ := h2
  rw [e, e']
  refine PySem.W.kat_lt ho hd ho' hd' ?_
  show PySem.W.KatLex prog w A true (decide (2 < 2)) _ [(.int x t, .int x' t'), (.str y u, .str y' u')] 0 s
  refine PySem.W.kat_cons (SeqAt.EqAt.int_int x t x' t' prog w _ _ ?_)
  refine PySem.W.kat_go (fun e1 => ?_) (fun e1 => ?_)
  · have ex : x = x' := by simpa using e1
    have ey : y = y' := h3 ex
    subst ex
    subst ey
    refine PySem.W.kat_yes (PySem.W.kat_cons (SeqAt.EqAt.str_str y u y u' prog w _ _ ?_))
    refine PySem.W.kat_go (fun e2 => ?_) (fun e2 => ?_)
    · exact PySem.W.kat_yes (PySem.W.kat_nil ⟨rfl, (decide_eq_false (Int.lt_irrefl _)).symm⟩)
    · exact absurd e2 (by simp)
  · exact PySem.W.kat_no (oneLt_int ⟨rfl, rfl⟩)
theorem firstsS_of {h : Heap} : ∀ {vs : List Value}, (∀ v ∈ vs, ∃ x y, IsPS h v x y) → ∃ fs : List Value, PySem.W.KatTups h vs fs ∧ fs.length = vs.length ∧ ∀ f ∈ fs, ∃ x t, f = Value.int x t
  | [], _ => ⟨[], PySem.W.KatTups.nil, rfl, fun _ hm => by simp at hm⟩
  | v :: vs, hp => by
    obtain ⟨fs, h1, h2, h3⟩ := firstsS_of (vs := vs) fun v' hm => hp v' (List.mem_cons_of_mem _ hm)
    obtain ⟨x, y, a, o, t, u, n, e, ho, hc, hd⟩ := hp v (List.mem_cons_self ..)
    subst e
    refine ⟨.int x t :: fs, PySem.W.KatTups.cons ho hc hd rfl h1, by rw [List.length_cons, List.length_cons, h2], fun f hm => ?_⟩
    rcases List.mem_cons.mp hm with rfl | hm
    · exact ⟨x, t, rfl⟩
    · exact h3 f hm
theorem ps_sortable {a : Addr} {vs : List Value} {k : Value → Int × Str} (h0 : 0 < vs.length) (hp : ∀ v ∈ vs, IsPS s.heap v (k v).1 (k v).2) (hk : ∀ v ∈ vs, ∀ u ∈ vs, (k v).1 = (k u).1 → (k v).2 = (k u).2)
    (ha : ∀ o, s.heap.get? a = some o → o.cls ≠ .type "tuple") : SortableO prog w A s a vs fun v u => ltI (k v) (k u) := by
  intro h' keep
  have hp' : ∀ v ∈ vs, IsPS h' v (k v).1 (k v).2 := fun v hm => (hp v hm).keeps fun b o e c => keep b o (fun z => by subst z; exact ha o e c) e
  obtain ⟨fs, h1, h2, h3⟩ := firstsS_of fun v hm => ⟨_, _, hp' v hm⟩
  refine ⟨tuples' true, fun Q E hq => ?_, ps_cmp hp' hk⟩
  refine PySem.W.kat_kind (T := .type "int") h1 (by omega) (fun f hm => ?_) (by rfl) ?_
  · obtain ⟨x, t, rfl⟩ := h3 f hm
    exact PySem.W.Looks.now
  · have e : (Value.type "int" != Value.type "tuple") = true := by first | decide +kernel | rfl | decide
    rw [e]
    exact hq
end
end SrtS
namespace L2
open PySem PySem.Spec PyProof.Rows
noncomputable def EntV (K : PySem.W.Frag) (H : Hp) (x : V) (e : Int × Str) : Prop := ∃ t, x = V.ref t ∧ SqT K H t [.int e.1, .str e.2]
noncomputable def rSortedPS (K : PySem.W.Frag) : List V → Hp → VK → Prop := fun vs H Q => ∃ (a : Addr) (xs : List V) (l : List (Int × Str)), vs = [V.ref a] ∧ SqL K H a xs ∧ Paired (EntV K H) xs l ∧
  (∀ x ∈ l, ∀ y ∈ l, x.1 = y.1 → x.2 = y.2) ∧
  ∀ (ps : List (V × (Int × Str))) p, ps.Pairwise (fun x y => x.2.1 ≤ y.2.1) → ps.Perm (xs.zip l) → H p = none → Q (.ref p) (upd H p (.lst (ps.map Prod.fst)))
end L2

/-! entries, rows, rooms, yards as data; comprehensions that draw -/
namespace TR
open PySem L2
/-- a text of signs that there are -/
noncomputable abbrev Tx := {x : Str // PyData.strOk x = true}
instance : Inhabited Tx := ⟨⟨⟨#[]⟩, by simp [PyData.strOk]⟩⟩
instance : Py Tx := ⟨fun x => .str x.1, 0, fun _ => Nat.le_refl _, fun x => x.2, fun a b => by
  rw [PyData.eqv, beq_iff_eq]
  exact Subtype.ext_iff.symm⟩
instance : Py (Option Tx) := ⟨fun o => match o with | none => .none | some i => .str i.1, 0, fun o => by cases o <;> exact Nat.le_refl _, fun o => by
  cases o with
  | none => rfl
  | some x => exact x.2, fun a b => by
  cases a <;> cases b
  · exact ⟨fun _ => rfl, fun _ => rfl⟩
  · exact ⟨fun h => (Bool.false_ne_true h).elim, fun h => nomatch h⟩
  · exact ⟨fun h => (Bool.false_ne_true h).elim, fun h => nomatch h⟩
  · rename_i x y
    show (x.1 == y.1) = true ↔ some x = some y
    rw [beq_iff_eq, Option.some.injEq]
    exact Subtype.ext_iff.symm⟩
theorem perm_of_map {α β : Type} {f : α → β} : ∀ {l : List α} {ps : List β}, ps.Perm (l.map f) → ∃ qs : List α, qs.Perm l ∧ ps = qs.map f := by
  intro l ps h
  generalize e : l.map f = m at h
  induction h generalizing l with
  | nil => exact ⟨l, .refl _, by rw [e]⟩
  | cons x h ih =>
    cases l with
    | nil => cases e
    | cons a l =>
      rw [List.map_cons] at e
      cases e
      obtain ⟨qs, h1, h2⟩ := ih rfl
      exact ⟨a :: qs, h1.cons a, by rw [h2]; rfl⟩
  | swap x y t =>
    match l, e with
    | a :: b :: l, e =>
      rw [List.map_cons, List.map_cons] at e
      cases e
      exact ⟨b :: a :: l, .swap _ _ _, rfl⟩
  | trans h1 h2 ih1 ih2 =>
    obtain ⟨q2, g1, g2⟩ := ih2 e
    obtain ⟨q1, g3, g4⟩ := ih1 g2.symm
    exact ⟨q1, g3.trans g1, g4⟩
noncomputable abbrev Ent := Int × Tx
noncomputable abbrev Row := List Ent
noncomputable abbrev Yard := T3 Int Int (List (List Row))
instance : DecidableEq Tx := fun a b => decidable_of_iff (a.1 = b.1) Subtype.ext_iff.symm
instance : DecidableEq Yard := fun a b => decidable_of_iff (a.a = b.a ∧ a.b = b.b ∧ a.c = b.c) (by
  obtain ⟨a1, a2, a3⟩ := a
  obtain ⟨b1, b2, b3⟩ := b
  exact T3.mk.injEq .. ▸ Iff.rfl)
section
variable {K : PySem.W.Frag} {H : Hp} {v : V}
end
/-! ### rows sorted by their keys -/
noncomputable def sortE (l : Row) : Row := l.mergeSort (fun a b => decide (a.1 ≤ b.1))
theorem sortE_perm (l : Row) : (sortE l).Perm l := List.mergeSort_perm l _
theorem sortE_sorted (l : Row) : (sortE l).Pairwise (fun a b => a.1 ≤ b.1) := (List.pairwise_mergeSort (le := fun a b : Ent => decide (a.1 ≤ b.1)) (fun a b c h1 h2 => decide_eq_true (Int.le_trans (of_decide_eq_true h1) (of_decide_eq_true h2))) (fun a b => by
  rcases Int.le_total a.1 b.1 with h | h
  · rw [decide_eq_true h]; rfl
  · rw [decide_eq_true h, Bool.or_true]) l).imp fun h => of_decide_eq_true h
/-- no two unlike entries of one key -/
noncomputable def OneK (l : Row) : Prop := ∀ x ∈ l, ∀ y ∈ l, x.1 = y.1 → x.2 = y.2
theorem sortE_of {l l' : Row} (k : OneK l) (p : l'.Perm l) (s : l'.Pairwise (fun a b => a.1 ≤ b.1)) : l' = sortE l :=
  List.Perm.eq_of_pairwise (le := fun a b : Ent => a.1 ≤ b.1) (fun a b ha hb h1 h2 => by
    have e : a.1 = b.1 := Int.le_antisymm h1 h2
    exact Prod.ext e (k a (p.mem_iff.mp ha) b ((sortE_perm l).mem_iff.mp hb) e)) s (sortE_sorted l) (p.trans (sortE_perm l).symm)
end TR
namespace TR
open PySem L2
/-! ### pure values out of data, some of them -/
section
variable {K : PySem.W.Frag} {σ : L2.St} {H : Hp} {tt : TT} {te : TE} {Q : VK} {g : TG} {vs : List Nat}
end
/-! ### comprehensions that draw -/
section
variable {K : PySem.W.Frag} {σ : L2.St} {H : Hp} {te : TE} {Q : VK} {g : TG} {vs : List Nat}
theorem lc_handR {α : Type} (Rel : α → V → Hp → Prop) {J : It} {n : Nat} {Z : Hp} {h : Addr} {C c R : Nat} (xs : Nat → V) (hh : Hand K Z H h C) (hC : R + c * n ≤ C)
    (hgo : ∀ i H', i < n → ExM h H H' → J.go i H') (hst : ∀ H', ExM h H H' → J.stop n H') (hy : ∀ i v H0 H', i < n → ExM h H H0 → J.yld i H0 v H' → H' = H0 ∧ v = xs i)
    (turn : ∀ i, i < n → ∀ D H' R', ExM h H H' → H D = none → (∃ o, H' D = some o) → Hand K Z H' h (R' + c) → ∀ A : VK, (∀ x y H4, ExM h H' H4 → Hand K Z H4 h R' → (∀ Z1, Ex Z Z1 → (∀ b o, H' b = none → H4 b = some o → Z1 b = some o) → Rel x y Z1) → A y H4) →
      g (xs i) (wipe σ vs) H' fun σ2 H2 => wipe σ2 vs = wipe σ vs ∧ te σ2 H2 A)
    (hz : n ≤ 40000)
    (fin : ∀ (D : Addr) (ys : List V) (l : List α) (H' : Hp), H D = none → ExM h H H' → Hand K Z H' h R → H' D = some (.lst ys) → l.length = n → (∀ Z1, Ex Z Z1 → (∀ b o, H b = none → b ≠ D → H' b = some o → Z1 b = some o) → Paired (fun y x => Rel x y Z1) ys l) → Q (.ref D) H') : LcJ g tYes te vs σ J H Q := by
  intro D hD
  have nD : D ≠ h := hand_ne0 hD hh
  have nZ : Z D = none := Ex.back hh.z hD
  obtain ⟨oh, hoh⟩ := hh.at
  refine ⟨fun i m H' => m = n - i ∧ i ≤ n ∧ ExM h H H' ∧ Hand K Z H' h (R + c * (n - i)) ∧ ∃ (ys : List V) (l : List α), H' D = some (.lst ys) ∧ l.length = i ∧ ys.length = i ∧ (∀ Z1, Ex Z Z1 → (∀ b o, H b = none → b ≠ D → H' b = some o → Z1 b = some o) → Paired (fun y x => Rel x y Z1) ys l), ⟨n, by omega, by omega, (Ex.new hD).toM, (hh.ex (Ex.new hD)).mono (by simpa using hC), [], [], upd_same, rfl, rfl, fun _ _ _ => .nil⟩, ?_⟩
  rintro i m H' ⟨rfl, hi, e, hh', ys, l, hns, hln, hly, hpr⟩
  by_cases hlt : i < n
  · refine .inr ⟨hgo i H' hlt e, fun H'' => i + 1 ≤ n ∧ ExM h H H'' ∧ Hand K Z H'' h (R + c * (n - (i + 1))) ∧ ∃ (ys : List V) (l : List α), H'' D = some (.lst ys) ∧ l.length = i + 1 ∧ ys.length = i + 1 ∧ (∀ Z1, Ex Z Z1 → (∀ b o, H b = none → b ≠ D → H'' b = some o → Z1 b = some o) → Paired (fun y x => Rel x y Z1) ys l), fun H'' q => ⟨n - (i + 1), by omega, rfl, q⟩, fun v H2 y => ?_⟩
    obtain ⟨rfl, rfl⟩ := hy i v H' H2 hlt e y
    rw [lc_yes]
    have ec : R + c * (n - i) = R + c * (n - (i + 1)) + c := by
      rw [show n - i = (n - (i + 1)) + 1 by omega, Nat.mul_succ]
      omega
    rw [ec] at hh'
    refine turn i hlt D H2 _ e hD ⟨_, hns⟩ hh' _ fun x y H4 m4 hh4 hr => ?_
    have m5 : ExM h H (upd H4 D (.lst (ys ++ [y]))) := fun b o nb q => by
      rw [upd_ne (ne_of_none q hD)]
      exact (e.trans m4) b o nb q
    refine ⟨_, m4 _ _ nD hns, sz_lt (by omega), by omega, m5, hh4.exm ExM.upd (Ne.symm nD) nZ, ys ++ [y], l ++ [x], upd_same, by rw [List.length_append, hln]; rfl, by rw [List.length_append, hly]; rfl, fun Z1 ez hz1 => ?_⟩
    refine paired_snoc (hpr Z1 ez fun b o q1 q2 q3 => hz1 b o q1 q2 ?_) (hr Z1 ez fun b o q1 q2 => hz1 b o ?_ ?_ ?_)
    · have nb : b ≠ h := fun z => by rw [z, hoh] at q1; cases q1
      rw [upd_ne q2]
      exact m4 _ _ nb q3
    · cases q : H b with
      | none => rfl
      | some o' =>
        by_cases nb : b = h
        · subst nb
          obtain ⟨o2, ho2⟩ := hh'.at
          rw [q1] at ho2
          cases ho2
        · rw [e _ _ nb q] at q1
          cases q1
    · intro z
      rw [z, hns] at q1
      cases q1
    · rw [upd_ne (fun z => by rw [z, hns] at q1; cases q1)]
      exact q2
  · have ei : i = n := by omega
    subst ei
    exact .inl ⟨hst H' e, fin D ys l H' hD e (hh'.mono (by omega)) hns hln hpr⟩
theorem u_lcR1HR {α : Type} (Rel : α → V → Hp → Prop) {n : Int} {Z : Hp} {h : Addr} {C : Nat} (R c : Nat) (hh : Hand K Z H h C) (hC : R + c * n.toNat ≤ C) (hz : 0 ≤ n ∧ n ≤ 40000)
    (turn : ∀ i : Nat, (i : Int) < n → ∀ D H' R', ExM h H H' → H D = none → (∃ o, H' D = some o) → Hand K Z H' h (R' + c) → ∀ A : VK, (∀ x y H4, ExM h H' H4 → Hand K Z H4 h R' → (∀ Z1, Ex Z Z1 → (∀ b o, H' b = none → H4 b = some o → Z1 b = some o) → Rel x y Z1) → A y H4) →
      g (.int (i : Int)) (wipe σ vs) H' fun σ2 H2 => wipe σ2 vs = wipe σ vs ∧ te σ2 H2 A)
    (fin : ∀ (D : Addr) (ys : List V) (l : List α) (H' : Hp), H D = none → ExM h H H' → Hand K Z H' h R → H' D = some (.lst ys) → l.length = n.toNat → (∀ Z1, Ex Z Z1 → (∀ b o, H b = none → b ≠ D → H' b = some o → Z1 b = some o) → Paired (fun y x => Rel x y Z1) ys l) → Q (.ref D) H') : LcR1 g tYes te vs σ [.int n] H Q := by
  have e62 : (2 : Int) ^ 62 = 4611686018427387904 := by decide
  refine ⟨n, rfl, by omega, by omega, lc_handR Rel (n := n.toNat) (c := c) (R := R) (fun i => .int (i : Int)) hh hC (fun i H' hi e => hi) (fun H' e => Nat.le_refl _) (fun i v H0 H' hi e y => ?_) (fun i hi D H' R' e hD hh' A k => turn i (by omega) D H' R' e hD hh' A k) (by omega) fin⟩
  obtain ⟨rfl, rfl⟩ := y
  exact ⟨rfl, by rw [Int.zero_add]⟩
end
end TR

/-! data that stands in plain lists and tuples: all its lists are tracked -/
namespace TR
open PySem L2
mutual
inductive Dt (H : Hp) : V → PyData → Prop
  | non : Dt H .non .none
  | bl (b : Bool) : Dt H (.bl b) (.bool b)
  | int (i : Int) : Dt H (.int i) (.int i)
  | str (x : Str) : Dt H (.str x) (.str x)
  | lst {a : Addr} {vs : List V} {ds : List PyData} : H a = some (.lst vs) → DtAll H vs ds → Dt H (.ref a) (.list ds)
  | tup {a : Addr} {vs : List V} {ds : List PyData} : H a = some (.tup vs) → DtAll H vs ds → Dt H (.ref a) (.tuple ds)
inductive DtAll (H : Hp) : List V → List PyData → Prop
  | nil : DtAll H [] []
  | cons {v : V} {vs : List V} {d : PyData} {ds : List PyData} : Dt H v d → DtAll H vs ds → DtAll H (v :: vs) (d :: ds)
end
mutual
theorem Dt.ex {H H' : Hp} (e : Ex H H') : ∀ {v : V} {d : PyData}, Dt H v d → Dt H' v d
  | _, _, .non => .non
  | _, _, .bl b => .bl b
  | _, _, .int i => .int i
  | _, _, .str x => .str x
  | _, _, .lst s a => .lst (e _ _ s) (DtAll.ex e a)
  | _, _, .tup s a => .tup (e _ _ s) (DtAll.ex e a)
theorem DtAll.ex {H H' : Hp} (e : Ex H H') : ∀ {vs : List V} {ds : List PyData}, DtAll H vs ds → DtAll H' vs ds
  | _, _, .nil => .nil
  | _, _, .cons a r => .cons (Dt.ex e a) (DtAll.ex e r)
end
mutual
theorem Dt.dp {K : PySem.W.Frag} {H : Hp} : ∀ {v : V} {d : PyData}, Dt H v d → Dp K H v d
  | _, _, .non => .non
  | _, _, .bl b => .bl b
  | _, _, .int i => .int i
  | _, _, .str x => .str x
  | _, _, .lst s a => .lst (sq_of s) (DtAll.dp a)
  | _, _, .tup s a => .tup (st_of s) (DtAll.dp a)
theorem DtAll.dp {K : PySem.W.Frag} {H : Hp} : ∀ {vs : List V} {ds : List PyData}, DtAll H vs ds → DpAll K H vs ds
  | _, _, .nil => .nil
  | _, _, .cons a r => .cons (Dt.dp a) (DtAll.dp r)
end
/-- the value v stands in H as the thing x -/
noncomputable abbrev Ik (H : Hp) {α : Type} [Py α] (v : V) (x : α) : Prop := Dt H v (Py.d x)
section
variable {K : PySem.W.Frag} {H H' : Hp} {α β γ δ : Type} [Py α] [Py β] [Py γ] [Py δ] {v w u t : V} {x : α} {y : β} {z : γ} {r : δ} {a : Addr}
theorem Ik.is (h : Ik H v x) : Is K H v x := Dt.dp h
theorem Ik.ex (e : Ex H H') (h : Ik H v x) : Ik H' v x := Dt.ex e h
theorem Ik.int (i : Int) : Ik H (.int i) i := Dt.int i
theorem dtAll_ints : ∀ ns : List Int, DtAll H (ns.map V.int) (ns.map Py.d)
  | [] => .nil
  | n :: ns => .cons (.int n) (dtAll_ints ns)
theorem Ik.ints {ns : List Int} (h : H a = some (.lst (ns.map V.int))) : Ik H (.ref a) ns := .lst h (dtAll_ints ns)
theorem Ik.nil (h : H a = some (.lst [])) : Ik H (.ref a) ([] : List α) := .lst h .nil
theorem Ik.pair (h : H a = some (.tup [v, w])) (h1 : Ik H v x) (h2 : Ik H w y) : Ik H (.ref a) (x, y) := .tup h (.cons h1 (.cons h2 .nil))
theorem Ik.no : Ik H .non (none : Option Int) := Dt.non
theorem Ik.tx (x : Tx) : Ik H (.str x.1) x := Dt.str x.1
theorem Ik.list {xs : List α} (h : Ik H v xs) : ∃ a vs, v = .ref a ∧ H a = some (.lst vs) ∧ Paired (fun v x => Ik H v x) vs xs := by
  have go : ∀ (vs : List V) (ys : List α), DtAll H vs (ys.map Py.d) → Paired (fun v x => Ik H v x) vs ys := by
    intro vs ys
    induction ys generalizing vs with
    | nil => intro h; cases h; exact .nil
    | cons y ys ih =>
      intro h
      cases h with
      | cons h1 h2 => exact .cons h1 (ih _ h2)
  have h' : Dt H v (.list (xs.map Py.d)) := h
  cases h' with
  | lst s a => exact ⟨_, _, rfl, s, go _ _ a⟩
theorem Ik.of_list {vs : List V} {xs : List α} (s : H a = some (.lst vs)) (h : Paired (fun v x => Ik H v x) vs xs) : Ik H (.ref a) xs := by
  have go : ∀ {vs : List V} {ys : List α}, Paired (fun v x => Ik H v x) vs ys → DtAll H vs (ys.map Py.d) := by
    intro vs ys h
    induction h with
    | nil => exact .nil
    | cons h1 _ ih => exact .cons h1 ih
  exact .lst s (go h)
theorem pair_intsK : ∀ {vs : List V} {xs : List Int}, Paired (fun v x => Ik H v x) vs xs → vs = xs.map V.int
  | _, _, .nil => rfl
  | _, _, .cons (a := v) (b := i) h r => by
    have h' : Dt H v (.int i) := h
    cases h'
    rw [pair_intsK r]
    rfl
theorem ints_pairK : ∀ {xs : List Int}, Paired (fun v x => Ik H v x) (xs.map V.int) xs
  | [] => .nil
  | _ :: _ => .cons (Ik.int _) ints_pairK
theorem Ik.ints_of {xs : List Int} (h : Ik H v xs) : ∃ a, v = .ref a ∧ H a = some (.lst (xs.map V.int)) := by
  obtain ⟨a, vs, rfl, s, p⟩ := h.list
  exact ⟨a, rfl, pair_intsK p ▸ s⟩
theorem Ik.int_of {i : Int} (h : Ik H v i) : v = .int i := by
  have h' : Dt H v (.int i) := h
  cases h'
  rfl
theorem itemK {vs : List V} {l : List α} (p : Paired (fun v x => Ik H v x) vs l) {i : Nat} {v : V} (h : vs[i]? = some v) : ∃ x, l[i]? = some x ∧ Ik H v x := pair_get' p h
end
section
variable {K : PySem.W.Frag} {Z H : Hp} {α β : Type} [Py α] [Py β] {v : V} {σ : L2.St} {R : L2.St → Hp → Prop} {Q : VK}
end
end TR

/-! T: from (Z, H) to (Z', H'). Z is what stays for ever; only M's things are changed -/
namespace TR
open PySem L2
structure T (M : List Addr) (Z H Z' H' : Hp) : Prop where
  z : Ex Z Z'
  zh : Ex Z' H'
  m : ∀ b o, b ∉ M → H b = some o → H' b = some o
  al : ∀ b o, H b = some o → ∃ o', H' b = some o'
  fr : ∀ b, b ∉ M → Z b = none → (∃ o, H b = some o) → Z' b = none
/-- p stands in H and may be changed -/
structure Mu (Z H : Hp) (p : Addr) : Prop where
  z : Z p = none
  a : ∃ o, H p = some o
/-- a list that stands in H, its things in Z -/
noncomputable def Li (Z H : Hp) (p : Addr) {α : Type} [Py α] (l : List α) : Prop := ∃ vs, H p = some (.lst vs) ∧ Paired (fun v x => Ik Z v x) vs l
/-- .. and that stays as it is -/
noncomputable def Ls (Z : Hp) (p : Addr) {α : Type} [Py α] (l : List α) : Prop := Li Z Z p l
/-- a list that is filled: it stands at D, its things in Z -/
structure Lm (Z H : Hp) (D : Addr) {α : Type} [Py α] (l : List α) : Prop where
  ex : ∃ vs, H D = some (.lst vs) ∧ Paired (fun v x => Ik Z v x) vs l
  zd : Z D = none
  zh : Ex Z H
theorem nm_nil {b : Addr} : b ∉ ([] : List Addr) := List.not_mem_nil
theorem nm_cons {b x : Addr} {M : List Addr} (h : b ≠ x) (t : b ∉ M) : b ∉ x :: M := fun z => by
  rcases List.mem_cons.mp z with z | z
  · exact h z
  · exact t z
theorem mm_nil {N : List Addr} {H : Hp} : ∀ x ∈ ([] : List Addr), x ∈ N ∨ H x = none := fun _ h => absurd h List.not_mem_nil
theorem mm_cons {N M : List Addr} {H : Hp} {y : Addr} (h : y ∈ N ∨ H y = none) (t : ∀ x ∈ M, x ∈ N ∨ H x = none) : ∀ x ∈ y :: M, x ∈ N ∨ H x = none := fun x hx => by
  rcases List.mem_cons.mp hx with e | hx
  · rw [e]; exact h
  · exact t x hx
theorem mm_same {N : List Addr} {H : Hp} : ∀ x ∈ N, x ∈ N ∨ H x = none := fun _ h => .inl h
section
variable {K : PySem.W.Frag} {M N : List Addr} {Z H Z1 H1 Z2 H2 Z' H' Z0 H0 : Hp} {p b h D : Addr} {o : HO} {v : V} {α : Type} {iα : Py α} {x : α} {l : List α} {n : Nat}
theorem T.refl (e : Ex Z H) : T M Z H Z H := ⟨Ex.refl _, e, fun _ _ _ h => h, fun _ o h => ⟨o, h⟩, fun _ _ h _ => h⟩
theorem T.step (a : T N Z H Z1 H1) (b : T M Z1 H1 Z2 H2) (h : ∀ x ∈ M, x ∈ N ∨ H x = none) : T N Z H Z2 H2 := by
  have nm : ∀ x, x ∉ N → (∃ o, H x = some o) → x ∉ M := fun x nx ⟨o, ho⟩ hx => by
    rcases h x hx with g | g
    · exact nx g
    · rw [ho] at g; cases g
  refine ⟨a.z.trans b.z, b.zh, fun c o nc hc => b.m c o (nm c nc ⟨o, hc⟩) (a.m c o nc hc), fun c o hc => ?_, fun c nc zc ⟨o, hc⟩ => ?_⟩
  · obtain ⟨o', ho'⟩ := a.al c o hc
    exact b.al c o' ho'
  · obtain ⟨o', ho'⟩ := a.al c o hc
    exact b.fr c (nm c nc ⟨o, hc⟩) (a.fr c nc zc ⟨o, hc⟩) ⟨o', ho'⟩
theorem T.nn (t : T M Z H Z' H') (n : H' b = none) : H b = none := by
  cases c : H b with
  | none => rfl
  | some o =>
    obtain ⟨o', ho'⟩ := t.al b o c
    rw [n] at ho'
    cases ho'
/-- all that stood stands: b is new -/
noncomputable def AC (H H' : Hp) : Prop := ∀ b, H' b = none → H b = none
theorem Ik.tt (t : T M Z H Z' H') (h : Ik Z v x) : Ik Z' v x := Ik.ex t.z h
theorem T.sqz {xs : List V} (t : T M Z H Z' H') (h : SqL K Z p xs) : SqL K Z' p xs := t.z.sq h
theorem T.pz (t : T M Z H Z' H') (h : Z p = some o) : Z' p = some o := t.z _ _ h
theorem T.hp (t : T M Z H Z' H') (n : p ∉ M) (h : H p = some o) : H' p = some o := t.m _ _ n h
theorem T.all (t : T M Z H Z' H') (h : ∃ o, H p = some o) : ∃ o, H' p = some o := by
  obtain ⟨o, ho⟩ := h
  exact t.al _ _ ho
theorem T.mu (t : T M Z H Z' H') (n : p ∉ M) (a : Mu Z H p) : Mu Z' H' p := ⟨t.fr _ n a.z a.a, t.all a.a⟩
theorem Hand.tt (t : T M Z H Z' H') (nm : h ∉ M) (a : Hand K Z H h n) : Hand K Z' H' h n := by
  obtain ⟨d, k, c, cells, h1, h3, h4, h5, z1, z2, z3⟩ := a
  exact ⟨d, k, c, cells, t.m _ _ nm h1, h3, h4, h5, t.zh, t.fr _ nm z2 ⟨_, h1⟩, t.z.sq z3⟩
theorem Lm.isH (a : Lm Z H D l) : Ik H (.ref D) l := by
  obtain ⟨⟨vs, h1, h2⟩, h3, h4⟩ := a
  exact Ik.of_list h1 (Paired.mapP h2 fun v x g => Ik.ex h4 g)
theorem Lm.at_ (a : Lm Z H D l) : ∃ o, H D = some o := by
  obtain ⟨⟨vs, h1, h2⟩, h3, h4⟩ := a
  exact ⟨_, h1⟩
theorem Lm.tt (t : T M Z H Z' H') (nm : D ∉ M) (a : Lm Z H D l) : Lm Z' H' D l := by
  have hd := a.zd
  have ha := a.at_
  obtain ⟨⟨vs, h1, h2⟩, h3, h4⟩ := a
  exact ⟨⟨vs, t.m _ _ nm h1, Paired.mapP h2 fun v x h => Ik.ex t.z h⟩, t.fr _ nm hd ha, t.zh⟩
theorem Ls.tt (t : T M Z H Z' H') (a : Ls Z p l) : Ls Z' p l := by
  obtain ⟨vs, h1, h2⟩ := a
  exact ⟨vs, t.z _ _ h1, Paired.mapP h2 fun v x h => Ik.ex t.z h⟩
theorem Ls.exz (t : Ex Z Z') (a : Ls Z p l) : Ls Z' p l := by
  obtain ⟨vs, h1, h2⟩ := a
  exact ⟨vs, t _ _ h1, Paired.mapP h2 fun v x h => Ik.ex t h⟩
theorem Ls.is (a : Ls Z p l) : Ik Z (.ref p) l := by
  obtain ⟨vs, h1, h2⟩ := a
  exact Ik.of_list h1 h2
theorem Lm.li (a : Lm Z H D l) : Li Z H D l := a.ex
theorem Ls.ints {l : List Int} (a : Ls Z p l) : Z p = some (.lst (l.map V.int)) := by
  obtain ⟨vs, h1, h2⟩ := a
  rw [h1, pair_intsK h2]
theorem Li.ints {l : List Int} (a : Li Z H p l) : H p = some (.lst (l.map V.int)) := by
  obtain ⟨vs, h1, h2⟩ := a
  rw [h1, pair_intsK h2]
theorem Lm.ints {l : List Int} (a : Lm Z H D l) : H D = some (.lst (l.map V.int)) := a.li.ints
theorem Ik.sqI {l : List Int} (a : Ik Z (.ref p) l) : SqL K Z p (l.map V.int) := by
  obtain ⟨b, e, h⟩ := a.ints_of
  cases e
  exact sq_of h
theorem Ls.ofInts {l : List Int} (h : Z p = some (.lst (l.map V.int))) : Ls Z p l := ⟨_, h, ints_pairK⟩
/-! ways in: from the old words -/
theorem T.ofEx (e : Ex H H') (z : Ex Z H) : T M Z H Z H' := ⟨Ex.refl _, z.trans e, fun _ _ _ h => e _ _ h, fun _ o h => ⟨o, e _ _ h⟩, fun _ _ h _ => h⟩
theorem T.ofExM (m : ExM h H H') (a : ∃ o, H' h = some o) (z : Ex Z H) (zn : Z h = none) : T [h] Z H Z H' :=
  ⟨Ex.refl _, z.exm zn m, fun _ o n e => m _ o (fun z => n (by rw [z]; exact List.mem_cons_self)) e, fun b o e => by
    by_cases c : b = h
    · rw [c]; exact a
    · exact ⟨o, m _ _ c e⟩, fun _ _ h _ => h⟩
theorem upd_ex2 (z : Ex Z H) : Ex (upd Z p o) (upd H p o) := fun b u e => by
  by_cases c : b = p
  · rw [c, upd_same] at e ⊢
    exact e
  · rw [upd_ne c] at e ⊢
    exact z _ _ e
/-- a new thing that stays as it is -/
theorem T.new (n : H p = none) (z : Ex Z H) : T M Z H (upd Z p o) (upd H p o) :=
  ⟨Ex.new (Ex.back z n), upd_ex2 z, fun b u _ e => by rw [upd_ne (ne_of_none e n)]; exact e, fun b u e => ⟨u, by rw [upd_ne (ne_of_none e n)]; exact e⟩, fun b _ zb ⟨u, e⟩ => by rw [upd_ne (ne_of_none e n)]; exact zb⟩
/-- a new thing that may be changed -/
theorem T.newM (n : H p = none) (z : Ex Z H) : T M Z H Z (upd H p o) :=
  ⟨Ex.refl _, z.trans (Ex.new n), fun b u _ e => by rw [upd_ne (ne_of_none e n)]; exact e, fun b u e => ⟨u, by rw [upd_ne (ne_of_none e n)]; exact e⟩, fun b _ zb _ => zb⟩
/-- a thing is changed -/
theorem T.set (a : Mu Z H p) (z : Ex Z H) : T [p] Z H Z (upd H p o) :=
  ⟨Ex.refl _, fun b u e => by rw [upd_ne (ne_of_none e a.z)]; exact z _ _ e, fun b u nb e => by rw [upd_ne (fun c => nb (by rw [c]; exact List.mem_cons_self))]; exact e, fun b u e => by
    by_cases c : b = p
    · exact ⟨_, by rw [c]; exact upd_same⟩
    · exact ⟨u, by rw [upd_ne c]; exact e⟩, fun b _ zb _ => zb⟩
/-- a thing is to stay as it is from now on -/
theorem T.fz (z : Ex Z H) (zp : Z p = none) (hp : H p = some o) : T [p] Z H (upd Z p o) H :=
  ⟨Ex.new zp, fun b u e => by
    by_cases c : b = p
    · rw [c, upd_same] at e
      cases e
      rw [c]; exact hp
    · rw [upd_ne c] at e
      exact z _ _ e, fun _ _ _ h => h, fun _ o h => ⟨o, h⟩, fun b nb zb _ => by rw [upd_ne (fun c => nb (by rw [c]; exact List.mem_cons_self))]; exact zb⟩
/-- .. of old words: all that is new stays as it is -/
noncomputable def grow (Z H H' : Hp) : Hp := fun b => match Z b with | some o => some o | none => match H b with | some _ => none | none => H' b
theorem grow_z (hz : Z b = some o) : grow Z H H' b = some o := by
  unfold grow
  rw [hz]
theorem grow_new (e : Ex Z H) (n : H b = none) (s : H' b = some o) : grow Z H H' b = some o := by
  unfold grow
  rw [Ex.back e n, n]
  exact s
theorem T.grow (z : Ex Z H) (zh : Ex Z H') (m : ∀ b o, b ∉ M → H b = some o → H' b = some o) (al : ∀ b o, H b = some o → ∃ o', H' b = some o') : T M Z H (grow Z H H') H' :=
  ⟨fun b o e => grow_z e, fun b o e => by
    unfold TR.grow at e
    cases c : Z b with
    | some u => rw [c] at e; cases e; exact zh _ _ c
    | none =>
      rw [c] at e
      cases d : H b with
      | some u => rw [d] at e; cases e
      | none => rw [d] at e; exact e, m, al, fun b _ zb ⟨u, hu⟩ => by
    unfold TR.grow
    rw [zb, hu]⟩
end
/-! ### new things: what is asked next -/
section
variable {K : PySem.W.Frag} {M : List Addr} {Z H : Hp} {Q : VK} {R : Hp → Prop} {p D a b : Addr} {v w : V} {α : Type} {iα : Py α} {x : α} {l r : List α} {xs : List V}
/-- an empty list that will be changed -/
theorem t_lst0 (z : Ex Z H) (q : ∀ p Z' H', H p = none → T [] Z H Z' H' → Mu Z' H' p → H' p = some (.lst []) → Q (.ref p) H') : NewL [] H Q :=
  ⟨sz_of (Nat.zero_le _), fun p hp => q p Z _ hp (T.newM hp z) ⟨Ex.back z hp, _, upd_same⟩ upd_same⟩
theorem t_lst (z : Ex Z H) (h : xs.length ≤ 100000) (q : ∀ p Z' H', H p = none → T [] Z H Z' H' → Z' p = some (.lst xs) → Q (.ref p) H') : NewL xs H Q :=
  ⟨sz_of h, fun p hp => q p _ _ hp (T.new hp z) upd_same⟩
theorem t_tup (z : Ex Z H) (h : xs.length ≤ 100000) (q : ∀ p Z' H', H p = none → T [] Z H Z' H' → Z' p = some (.tup xs) → Q (.ref p) H') : NewT xs H Q :=
  ⟨sz_of h, fun p hp => q p _ _ hp (T.new hp z) upd_same⟩
/-- the empty list that will be changed, as data -/
theorem Lm.of0 (m : Mu Z H p) (z : Ex Z H) (f : H p = some (.lst [])) : Lm Z H p ([] : List α) := ⟨⟨[], f, .nil⟩, m.z, z⟩
/-- a list that was filled stays as it is from now on -/
theorem t_fz {G : Hp → Prop} (a : Lm Z H D l) (q : ∀ Z' H', T [D] Z H Z' H' → Ls Z' D l → G H') : G H := by
  obtain ⟨⟨vs, h1, h2⟩, h3, h4⟩ := a
  have t : T [D] Z H (upd Z D (.lst vs)) H := T.fz h4 h3 h1
  exact q _ _ t ⟨vs, upd_same, Paired.mapP h2 fun v x g => Ik.ex t.z g⟩
theorem t_fzV {G : Hp → Prop} (m : Mu Z H D) (z : Ex Z H) {o : HO} (f : H D = some o) (q : ∀ Z' H', T [D] Z H Z' H' → Z' D = some o → G H') : G H :=
  q _ _ (T.fz z m.z f) upd_same
theorem t_slL {lo hi : Option Int} (z : Ex Z H) (h : SqL K H a xs) (q : ∀ p Z' H', H p = none → T [] Z H Z' H' → Z' p = some (.lst (cutV xs lo hi)) → Q (.ref p) H') : rSlL K (.ref a) lo hi H Q :=
  ⟨a, xs, rfl, h, fun p hp => q p _ _ hp (T.new hp z) upd_same⟩
theorem t_slIs {lo hi : Option Int} (z : Ex Z H) (h : Ik Z (.ref a) l) (q : ∀ p Z' H', H p = none → T [] Z H Z' H' → Ls Z' p (cutI l lo hi) → Q (.ref p) H') : rSlL K (.ref a) lo hi H Q := by
  obtain ⟨b, us, e, h1, h2⟩ := h.list
  cases e
  refine t_slL z (z.sq (sq_of h1)) fun p Z' H' n t f => q p Z' H' n t ⟨_, f, ?_⟩
  exact paired_cut (Paired.mapP h2 fun v x g => Ik.ex t.z g) lo hi
/-! what is read -/
theorem t_len (z : Ex Z H) (h : Ik Z (.ref a) l) (q : Q (.int (l.length : Int)) H) : rLen K [.ref a] H Q := s_lenIs (Ik.ex z h).is q
end
/-! ### draws -/
noncomputable def spDraw (K : PySem.W.Frag) : Sp := fun vs H Q _ => ∃ (h : Addr) (m : Int) (n : Nat) (Z : Hp), vs = [.ref h, .int m] ∧ Hand K Z H h (n + 1) ∧ 0 < m ∧ m ≤ 4611686018427387904 ∧
  ∀ (r : Int) H', 0 ≤ r → r < m → ExM h H H' → Hand K Z H' h n → Q (.int r) H'
section
variable {K : PySem.W.Frag} {Z H : Hp} {h : Addr} {m : Int} {N : Nat} {Q : VK} {E : XK}
theorem Hand.t {H' : Hp} {n n' : Nat} (hh : Hand K Z H h n) (m : ExM h H H') (hh' : Hand K Z H' h n') : T [h] Z H Z H' := T.ofExM m hh'.at hh.z hh.zn
theorem drawT (hh : Hand K Z H h N) (hN : 1 ≤ N) (m0 : 0 < m) (m1 : m ≤ 4611686018427387904) (q : ∀ (r : Int) Z' H', 0 ≤ r → r < m → T [h] Z H Z' H' → Hand K Z' H' h (N - 1) → Q (.int r) H') : spDraw K [.ref h, .int m] H Q E :=
  ⟨h, m, N - 1, Z, rfl, hh.mono (by omega), m0, m1, fun r H' r0 r1 e hh' => q r Z H' r0 r1 (hh.t e hh') hh'⟩
noncomputable def spFar (K : PySem.W.Frag) : Sp := fun vs H Q _ => ∃ (h : Addr) (m : Int) (n : Nat) (Z : Hp), vs = [.ref h, .int m] ∧ Hand K Z H h (n + 7) ∧ 0 < m ∧ m ≤ 4611686018427387904 ∧
  ∀ (r : Int) H', 0 ≤ r → r < m → ExM h H H' → Hand K Z H' h n → Q (.int r) H'
noncomputable def spKey (K : PySem.W.Frag) : Sp := fun vs H Q _ => ∃ (h : Addr) (n : Nat) (Z : Hp), vs = [.ref h] ∧ Hand K Z H h (n + 12) ∧
  ∀ (r : Int) H', 0 ≤ r → r < 1152921504606846976 → ExM h H H' → Hand K Z H' h n → Q (.int r) H'
theorem keyT (hh : Hand K Z H h N) (hN : 12 ≤ N) (q : ∀ (r : Int) Z' H', 0 ≤ r → r < 1152921504606846976 → T [h] Z H Z' H' → Hand K Z' H' h (N - 12) → Q (.int r) H') : spKey K [.ref h] H Q E :=
  ⟨h, N - 12, Z, rfl, hh.mono (by omega), fun r H' r0 r1 e hh' => q r Z H' r0 r1 (hh.t e hh') hh'⟩
noncomputable def lettersS : Str := "abcdefghijklmnopqrstuvwxyz"
/-- a text of one to eight small letters -/
noncomputable def nameB (x : Str) : Bool := decide (1 ≤ x.length ∧ x.length ≤ 8) && x.cps.toList.all fun c => decide (c ∈ lettersS.cps.toList)
noncomputable def spThing (K : PySem.W.Frag) : Sp := fun vs H Q _ => ∃ (h : Addr) (n : Nat) (Z : Hp), vs = [.ref h] ∧ Hand K Z H h (n + 10) ∧
  ∀ (x : Tx) H', nameB x.1 = true → ExM h H H' → Hand K Z H' h n → Q (.str x.1) H'
theorem thingN {K : PySem.W.Frag} {Z H : Hp} {h : Addr} {N : Nat} {Q : VK} {E : XK} (hh : Hand K Z H h N) (hN : 10 ≤ N) (q : ∀ (x : Tx) Z' H', nameB x.1 = true → T [h] Z H Z' H' → Hand K Z' H' h (N - 10) → Q (.str x.1) H') : spThing K [.ref h] H Q E :=
  ⟨h, N - 10, Z, rfl, hh.mono (by omega), fun x H' nb e hh' => q x Z H' nb (T.ofExM e hh'.at hh.z hh.zn) hh'⟩
noncomputable def spOpen (K : PySem.W.Frag) : Sp := fun vs H Q _ => ∃ (a : Addr) (ns : List Int) (x : Int), vs = [.ref a, .int x] ∧ SqL K H a (ns.map V.int) ∧ 0 ≤ x ∧ x ≤ 1000 ∧
  ∀ (h c : Addr) (d : Int) (cells : List Int) H', H h = none → H c = none → h ≠ c → Ex H H' → H' h = some (.lst [.int d, .int (1 + 1009 * x), .ref c]) → H' c = some (.lst (cells.map V.int)) → 0 < cells.length → Q (.ref h) H'
theorem openT {a : Addr} {ns : List Int} {x : Int} (z : Ex Z H) (s : SqL K H a (ns.map V.int)) (x0 : 0 ≤ x) (x1 : x ≤ 1000) (q : ∀ h Z' H', H h = none → T [] Z H Z' H' → Hand K Z' H' h 900000000000000000 → Q (.ref h) H') : spOpen K [.ref a, .int x] H Q E :=
  ⟨a, ns, x, rfl, s, x0, x1, fun h c d cells H' nh nc ne e fh fc c0 => by
    have zh : Ex (upd Z c (.lst (cells.map V.int))) H' := fun b o eb => by
      by_cases cc : b = c
      · rw [cc, upd_same] at eb
        cases eb
        rw [cc]; exact fc
      · rw [upd_ne cc] at eb
        exact e _ _ (z _ _ eb)
    refine q h _ H' nh ⟨Ex.new (Ex.back z nc), zh, fun _ _ _ h => e _ _ h, fun _ o h => ⟨o, e _ _ h⟩, fun b _ zb ⟨o, ho⟩ => by rw [upd_ne (ne_of_none ho nc)]; exact zb⟩ ⟨d, 1 + 1009 * x, c, cells, fh, c0, by omega, by omega, zh, ?_, sq_of upd_same⟩
    rw [upd_ne ne]
    exact Ex.back z nh⟩
end
end TR
namespace TR
open PySem L2
theorem ne_alF {H : Hp} {a b : Addr} (n : H a = none) (h : ∃ o, H b = some o) : a ≠ b := fun z => by
  obtain ⟨o, ho⟩ := h
  rw [z, ho] at n
  cases n
theorem ne_alB {H : Hp} {a b : Addr} (n : H b = none) (h : ∃ o, H a = some o) : a ≠ b := (ne_alF n h).symm
end TR
namespace TR
open PySem L2
/-! a place of a list, found once -/
noncomputable def IxGo (xs : List V) (i : Int) (H : Hp) (Q : VK) : Prop := ∃ v, atI xs i = some v ∧ Q v H
section
variable {K : PySem.W.Frag} {H : Hp} {Q : VK} {a : Addr} {xs : List V} {i : Int} {v w : V}
theorem ixGo (h : SqL K H a xs) (q : IxGo xs i H Q) : rIx K (.ref a) (.int i) H Q := by
  obtain ⟨v, e, q⟩ := q
  exact s_ixL h e q
theorem ixGoT (h : SqT K H a xs) (q : IxGo xs i H Q) : rIx K (.ref a) (.int i) H Q := by
  obtain ⟨v, e, q⟩ := q
  exact s_ixT h e q
theorem ig_at (e : atI xs i = some v) (q : Q v H) : IxGo xs i H Q := ⟨v, e, q⟩
theorem ig_ints {l : List Int} (h0 : 0 ≤ i ∧ i < l.length) (q : ∀ v, l[i.toNat]? = some v → Q (.int v) H) : IxGo (l.map V.int) i H Q := by
  have hl : i.toNat < l.length := by omega
  exact ⟨_, atI_lt h0.1 (by rw [List.getElem?_map, List.getElem?_eq_getElem hl]; rfl), q _ (List.getElem?_eq_getElem hl)⟩
theorem ig_2b {x y : Int} {b : Bool} (q : ∀ v, (v = x ∨ v = y) → Q (.int v) H) : IxGo [.int x, .int y] (if b = true then 1 else 0) H Q := by
  cases b
  · exact ⟨_, rfl, q _ (.inl rfl)⟩
  · exact ⟨_, rfl, q _ (.inr rfl)⟩
end
end TR
namespace TR
open PySem L2
end TR
namespace TR
open PySem L2
theorem Lm.frz {Z H : Hp} {D : Addr} {α : Type} {iα : Py α} {l : List α} (a : Lm Z H D l) : ∃ Z', T [D] Z H Z' H ∧ Ls Z' D l := by
  obtain ⟨⟨vs, h1, h2⟩, h3, h4⟩ := a
  have t : T [D] Z H (upd Z D (.lst vs)) H := T.fz h4 h3 h1
  exact ⟨_, t, vs, upd_same, Paired.mapP h2 fun v x g => Ik.ex t.z g⟩
end TR
namespace TR
open PySem L2
theorem Lm.frq {Z H : Hp} {D : Addr} {α : Type} {iα : Py α} {l : List α} (a : Lm Z H D l) : ∃ Z' H', H' = H ∧ T [D] Z H Z' H' ∧ Ls Z' D l := by
  obtain ⟨Z', t, ls⟩ := a.frz
  exact ⟨Z', H, rfl, t, ls⟩
end TR
namespace TR
open PySem L2
/-- .. of old words: a new thing that stays -/
theorem T.ofNew {M : List Addr} {Z H H' : Hp} {p : Addr} {o : HO} (z : Ex Z H) (n : H p = none) (e : Ex H H') (f : H' p = some o) : T M Z H (upd Z p o) H' :=
  ⟨Ex.new (Ex.back z n), fun b u eb => by
    by_cases c : b = p
    · rw [c, upd_same] at eb
      cases eb
      rw [c]; exact f
    · rw [upd_ne c] at eb
      exact e _ _ (z _ _ eb), fun _ _ _ h => e _ _ h, fun _ o h => ⟨o, e _ _ h⟩, fun b _ zb ⟨o, ho⟩ => by rw [upd_ne (ne_of_none ho n)]; exact zb⟩
noncomputable def spPlaces (lo : Int) (K : PySem.W.Frag) : Sp := fun vs H Q _ => ∃ (a : Addr) (ns : List Int) (x y : Int), vs = [.ref a, .int x, .int y] ∧ SqL K H a (ns.map V.int) ∧ 0 ≤ x ∧ x ≤ 100 ∧ 0 ≤ y ∧ y ≤ 100 ∧
  ∀ p H', H p = none → Ex H H' → H' p = some (.lst (rgV lo (lo + max x (min (ns.length : Int) y)))) → Q (.ref p) H'
theorem placesT {K : PySem.W.Frag} {Z H : Hp} {a : Addr} {ns : List Int} {lo x y : Int} {Q : VK} {E : XK} (z : Ex Z H) (s : SqL K H a (ns.map V.int)) (x0 : 0 ≤ x ∧ x ≤ 100 ∧ 0 ≤ y ∧ y ≤ 100)
    (q : ∀ p Z' H', H p = none → T [] Z H Z' H' → Z' p = some (.lst (rgV lo (lo + max x (min (ns.length : Int) y)))) → Q (.ref p) H') : spPlaces lo K [.ref a, .int x, .int y] H Q E :=
  ⟨a, ns, x, y, rfl, s, x0.1, x0.2.1, x0.2.2.1, x0.2.2.2, fun p H' n e f => q p _ H' n (T.ofNew z n e f) upd_same⟩
end TR
namespace TR
open PySem L2
theorem at_list {K : PySem.W.Frag} {xs : List V} {H : Hp} {Q : VK} (q : rList1 K xs H Q) : rList1 K xs H Q := q
end TR
namespace TR
open PySem L2
theorem at_newl {xs : List V} {H : Hp} {Q : VK} (q : NewL xs H Q) : NewL xs H Q := q
end TR

/-! comprehensions and loops by T -/
namespace TR
open PySem L2
section
variable {K : PySem.W.Frag} {σ : L2.St} {H : Hp} {tt : TT} {te : TE} {Q : VK} {g : TG} {vs : List Nat}
theorem lcT {β : Type} {J : It} {n : Nat} {M : List Addr} {Z : Hp} (p : Nat → Bool) (I : Nat → Hp → Hp → Prop) (R : Nat → β → V → Hp → Prop)
    (mono : ∀ i x y Z1 Z2, Ex Z1 Z2 → R i x y Z1 → R i x y Z2)
    (stab : ∀ i Z1 H1 D o, I i Z1 H1 → H D = none → Z1 D = none → I i Z1 (upd H1 D o))
    (hz : n ≤ 40000) (zh : Ex Z H) (hM : ∀ b ∈ M, ∃ o, H b = some o) (h0 : I 0 Z H)
    (hgo : ∀ i Z1 H1, i < n → T M Z H Z1 H1 → J.go i H1) (hst : ∀ Z1 H1, T M Z H Z1 H1 → J.stop n H1)
    (turn : ∀ i, i < n → ∀ D Z1 H1, T M Z H Z1 H1 → H D = none → Mu Z1 H1 D → I i Z1 H1 → ∀ v H2, J.yld i H1 v H2 → ∀ (A : VK) (B : Hp → Prop),
      (p i = true → ∀ x y Z3 H3, T M Z1 H1 Z3 H3 → I (i + 1) Z3 H3 → R i x y Z3 → A y H3) → (p i = false → ∀ Z3 H3, T M Z1 H1 Z3 H3 → I (i + 1) Z3 H3 → B H3) →
      g v (wipe σ vs) H2 fun σ2 H2 => wipe σ2 vs = wipe σ vs ∧ tt σ2 H2 fun b H3 => if b = true then te σ2 H3 A else B H3)
    (fin : ∀ D ys (L : List (Nat × β)) Z' H', H D = none → T M Z H Z' H' → Mu Z' H' D → H' D = some (.lst ys) → I n Z' H' → L.map Prod.fst = (List.range n).filter p → Paired (fun y q => R q.1 q.2 y Z') ys L → Q (.ref D) H') : LcJ g tt te vs σ J H Q := by
  intro D hD
  have nD : D ∉ M := fun z => by
    obtain ⟨o, ho⟩ := hM D z
    rw [hD] at ho
    cases ho
  refine ⟨fun i m H' => m = n - i ∧ i ≤ n ∧ ∃ Z', T M Z H Z' H' ∧ Mu Z' H' D ∧ I i Z' H' ∧ ∃ (ys : List V) (L : List (Nat × β)), H' D = some (.lst ys) ∧ ys.length ≤ i ∧ L.map Prod.fst = (List.range i).filter p ∧ Paired (fun y q => R q.1 q.2 y Z') ys L,
    ⟨n, by omega, by omega, Z, T.newM hD zh, ⟨Ex.back zh hD, _, upd_same⟩, stab _ _ _ _ _ h0 hD (Ex.back zh hD), [], [], upd_same, Nat.le_refl _, rfl, .nil⟩, ?_⟩
  rintro i m H' ⟨rfl, hi, Z', t, mu, hI, ys, L, hys, hly, hL, pr⟩
  by_cases hlt : i < n
  · refine .inr ⟨hgo i Z' H' hlt t, fun H'' => i + 1 ≤ n ∧ ∃ Z'', T M Z H Z'' H'' ∧ Mu Z'' H'' D ∧ I (i + 1) Z'' H'' ∧ ∃ (ys : List V) (L : List (Nat × β)), H'' D = some (.lst ys) ∧ ys.length ≤ i + 1 ∧ L.map Prod.fst = (List.range (i + 1)).filter p ∧ Paired (fun y q => R q.1 q.2 y Z'') ys L,
      fun H'' q => ⟨n - (i + 1), by omega, rfl, q⟩, fun v H2 hy => ?_⟩
    refine turn i hlt D Z' H' t hD mu hI v H2 hy _ _ (fun hp x y Z3 H3 t3 hI3 r => ?_) (fun hp Z3 H3 t3 hI3 => ?_)
    · have t4 : T M Z H Z3 H3 := t.step t3 mm_same
      have mu3 := t3.mu nD mu
      have t5 : T M Z H Z3 (upd H3 D (.lst (ys ++ [y]))) := t4.step (T.set mu3 t4.zh) (mm_cons (.inr hD) mm_nil)
      refine ⟨ys, t3.hp nD hys, sz_lt (by omega), by omega, Z3, t5, ⟨mu3.z, _, upd_same⟩, stab _ _ _ _ _ hI3 hD mu3.z, ys ++ [y], L ++ [(i, x)], upd_same, by rw [List.length_append]; show _ + 1 ≤ _; omega, ?_, ?_⟩
      · rw [List.map_append, hL, List.range_succ, List.filter_append, List.filter_cons, if_pos hp]
        rfl
      · exact paired_snoc (Paired.mapP pr fun y q h => mono _ _ _ _ _ t3.z h) r
    · have t4 : T M Z H Z3 H3 := t.step t3 mm_same
      refine ⟨by omega, Z3, t4, t3.mu nD mu, hI3, ys, L, t3.hp nD hys, by omega, ?_, Paired.mapP pr fun y q h => mono _ _ _ _ _ t3.z h⟩
      rw [hL, List.range_succ, List.filter_append, List.filter_cons, if_neg (by rw [hp]; exact Bool.false_ne_true)]
      simp
  · have ei : i = n := by omega
    subst ei
    exact .inl ⟨hst Z' H' t, fin D ys L Z' H' hD t mu hys hI hL pr⟩
theorem rg_kept {β : Type} (xs : List β) (p : β → Bool) : ∀ k, k ≤ xs.length → ((List.range k).filter fun i => match xs[i]? with | some b => p b | none => false).filterMap (fun i => xs[i]?) = (xs.take k).filter p
  | 0, _ => rfl
  | k + 1, h => by
    have ek : xs[k]? = some xs[k] := List.getElem?_eq_getElem h
    rw [List.range_succ, List.filter_append, List.filterMap_append, rg_kept xs p k (by omega), List.take_add_one, ek, List.filter_append]
    congr 1
    show List.filterMap _ (List.filter _ [k]) = List.filter p [xs[k]]
    rw [List.filter_cons, List.filter_cons, ek]
    by_cases c : p xs[k] = true
    · simp [c, ek]
    · simp [c]
theorem kept_snd {β γ : Type} {xs : List β} {f : β → γ} : ∀ {L : List (Nat × γ)}, (∀ q ∈ L, ∃ b, xs[q.1]? = some b ∧ q.2 = f b) → L.map Prod.snd = ((L.map Prod.fst).filterMap fun i => xs[i]?).map f
  | [], _ => rfl
  | q :: L, h => by
    obtain ⟨b, h1, h2⟩ := h q List.mem_cons_self
    rw [List.map_cons, List.map_cons, List.filterMap_cons, h1, List.map_cons, ← kept_snd (L := L) fun r hr => h r (List.mem_cons_of_mem _ hr), h2]
theorem paired_r {β γ : Type} {F : β → γ → Prop} {xs : List β} {ys : List γ} (h : Paired F xs ys) : ∀ y ∈ ys, ∃ x, F x y := by
  induction h with
  | nil => exact fun _ h => absurd h List.not_mem_nil
  | cons a t ih =>
    intro y hy
    rcases List.mem_cons.mp hy with e | hy
    · rw [e]; exact ⟨_, a⟩
    · exact ih y hy
theorem paired_mapR {β γ δ : Type} {F : β → δ → Prop} {f : γ → δ} : ∀ {xs : List β} {ys : List γ}, Paired (fun x y => F x (f y)) xs ys → Paired F xs (ys.map f)
  | _, _, .nil => .nil
  | _, _, .cons a t => .cons a (paired_mapR t)
/-- a list of data, what is kept is told by f -/
theorem c_keepLA {β γ : Type} [Py β] [Py γ] {a : Addr} {xs : List β} {Z : Hp} (p : β → Bool) (f : β → γ) (zh : Ex Z H) (h : Ik Z (.ref a) xs) (hz : xs.length ≤ 40000)
    (turn : ∀ (i : Nat) v x, xs[i]? = some x → Ik Z v x → ∀ Z1 H1, T [] Z H Z1 H1 → ∀ (A : VK) (B : Hp → Prop), (p x = true → ∀ y Z3 H3, T [] Z1 H1 Z3 H3 → Ik Z3 y (f x) → A y H3) → (p x = false → ∀ Z3 H3, T [] Z1 H1 Z3 H3 → B H3) →
      g v (wipe σ vs) H1 fun σ2 H2 => wipe σ2 vs = wipe σ vs ∧ tt σ2 H2 fun b H3 => if b = true then te σ2 H3 A else B H3)
    (fin : ∀ D Z' H', H D = none → T [] Z H Z' H' → Lm Z' H' D ((xs.filter p).map f) → Q (.ref D) H') : LcL K g tt te vs σ (.ref a) H Q := by
  obtain ⟨b, us, e, h1, h2⟩ := h.list
  cases e
  have hl := Paired.length h2
  refine ⟨a, rfl, ⟨us, zh.sq (sq_of h1)⟩, lcT (n := xs.length) (M := []) (Z := Z) (fun i => match xs[i]? with | some b => p b | none => false) (fun _ _ _ => True) (fun i (x : γ) y Z => (∃ b, xs[i]? = some b ∧ x = f b) ∧ Ik Z y x) (fun i x y Z1 Z2 e r => ⟨r.1, Ik.ex e r.2⟩) (fun _ _ _ _ _ _ _ _ => trivial) hz zh (fun _ h => absurd h List.not_mem_nil) trivial
    (fun i Z1 H1 hi t => ⟨us, us[i]'(by omega), (t.z.trans t.zh).sq (sq_of h1), List.getElem?_eq_getElem (by omega)⟩) (fun Z1 H1 t => ⟨us, (t.z.trans t.zh).sq (sq_of h1), by omega⟩) (fun i hi D Z1 H1 t nD mu _ v H2 hy A B hA hB => ?_) (fun D ys L Z' H' nD t mu f1 _ hL pr => ?_)⟩
  · obtain ⟨rfl, fv⟩ := hy
    have hv := fv _ ((t.z.trans t.zh).sq (sq_of h1))
    obtain ⟨x, hx, ix⟩ := itemK h2 hv
    refine turn i v x hx ix Z1 H2 t A B (fun hp y Z3 H3 t3 iy => hA ?_ (f x) y Z3 H3 t3 trivial ⟨⟨x, hx, rfl⟩, iy⟩) (fun hp Z3 H3 t3 => hB ?_ Z3 H3 t3 trivial)
    · show (match xs[i]? with | some b => p b | none => false) = true
      rw [hx]
      exact hp
    · show (match xs[i]? with | some b => p b | none => false) = false
      rw [hx]
      exact hp
  · have e2 : L.map Prod.snd = (xs.filter p).map f := by
      rw [kept_snd (xs := xs) (f := f) (fun q hq => by
        obtain ⟨y, hy⟩ := paired_r pr q hq
        exact hy.1), hL, rg_kept xs p xs.length (Nat.le_refl _), List.take_length]
    have la : Lm Z' H' D ((xs.filter p).map f) := ⟨⟨ys, f1, by rw [← e2]; exact paired_mapR (Paired.mapP pr fun y q h => h.2)⟩, mu.z, t.zh⟩
    exact fin D Z' H' nD t la
/-- a list of data, what is kept is told by f -/
theorem c_keepL {β γ : Type} [Py β] [Py γ] {a : Addr} {xs : List β} {Z : Hp} (p : β → Bool) (f : β → γ) (zh : Ex Z H) (h : Ik Z (.ref a) xs) (hz : xs.length ≤ 40000)
    (turn : ∀ (i : Nat) v x, xs[i]? = some x → Ik Z v x → ∀ Z1 H1, T [] Z H Z1 H1 → ∀ (A : VK) (B : Hp → Prop), (p x = true → ∀ y Z3 H3, T [] Z1 H1 Z3 H3 → Ik Z3 y (f x) → A y H3) → (p x = false → ∀ Z3 H3, T [] Z1 H1 Z3 H3 → B H3) →
      g v (wipe σ vs) H1 fun σ2 H2 => wipe σ2 vs = wipe σ vs ∧ tt σ2 H2 fun b H3 => if b = true then te σ2 H3 A else B H3)
    (fin : ∀ D Z' H', H D = none → T [] Z H Z' H' → Ls Z' D ((xs.filter p).map f) → Q (.ref D) H') : LcL K g tt te vs σ (.ref a) H Q :=
  c_keepLA p f zh h hz turn fun D Z' H' nD t la => t_fz la fun Z2 H2 t2 ls => fin D Z2 H2 nD (t.step t2 (mm_cons (.inr nD) mm_nil)) ls
theorem c_mapL {β γ : Type} [Py β] [Py γ] {a : Addr} {xs : List β} {Z : Hp} (f : β → γ) (zh : Ex Z H) (h : Ik Z (.ref a) xs) (hz : xs.length ≤ 40000)
    (turn : ∀ (i : Nat) v x, xs[i]? = some x → Ik Z v x → ∀ Z1 H1, T [] Z H Z1 H1 → ∀ (A : VK), (∀ y Z3 H3, T [] Z1 H1 Z3 H3 → Ik Z3 y (f x) → A y H3) → g v (wipe σ vs) H1 fun σ2 H2 => wipe σ2 vs = wipe σ vs ∧ te σ2 H2 A)
    (fin : ∀ D Z' H', H D = none → T [] Z H Z' H' → Ls Z' D (xs.map f) → Q (.ref D) H') : LcL K g tYes te vs σ (.ref a) H Q :=
  c_keepL (fun _ => true) f zh h hz (fun i v x hx ix Z1 H1 t A B hA hB => by rw [lc_yes]; exact turn i v x hx ix Z1 H1 t A fun y Z3 H3 t3 iy => hA rfl y Z3 H3 t3 iy) (by rw [filter_yes]; exact fin)
end
section
variable {K : PySem.W.Frag} {σ : L2.St} {H : Hp} {D : Ends} {g : TG} {ts : TS}
/-- for over a list of data -/
theorem t_forL {β : Type} [Py β] {a : Addr} {xs : List β} {Z0 : Hp} (h : Ik Z0 (.ref a) xs) (Pv : Nat → L2.St → Hp → Prop) (hz : ∀ i σ H, Pv i σ H → Ex Z0 H) (h0 : Pv 0 σ H)
    (hs : ∀ (i : Nat) v x σ H, xs[i]? = some x → Ik Z0 v x → Pv i σ H → g v σ H fun σ2 H2 => ts { D with nx := Pv (i + 1), ct := Pv (i + 1), bk := D.nx } σ2 H2) (hd : ∀ σ H, Pv xs.length σ H → D.nx σ H) : ForL K g ts D σ (.ref a) H := by
  obtain ⟨b, us, e, h1, h2⟩ := h.list
  cases e
  have hl := Paired.length h2
  refine u_forL Pv ((hz _ _ _ h0).sq (sq_of h1)) h0 (fun i σ H _ p => (hz _ _ _ p).sq (sq_of h1)) (fun i v σ H hv p => ?_) (fun σ H p => hd σ H (by rw [← hl]; exact p))
  obtain ⟨x, hx, ix⟩ := itemK h2 hv
  exact hs i v x σ H hx ix p
end
end TR

/-! rooms that are changed: a list of lists of rows, beside a hand -/
namespace TR
open PySem L2
noncomputable def offH (H : Hp) (ps : List Addr) : Hp := fun b => if b ∈ ps then none else H b
structure HL (K : PySem.W.Frag) (Z0 H : Hp) (h p : Addr) (qs : List Addr) {α : Type} [Py α] (rs : List (List α)) : Prop where
  own : H p = some (.lst (qs.map V.ref))
  nd : (h :: p :: qs).Nodup
  fr : ∀ q ∈ h :: p :: qs, Z0 q = none
  zh : Ex Z0 H
  rows : Paired (fun q r => ∃ vs, H q = some (.lst vs) ∧ Paired (fun v x => Is K (offH H (h :: p :: qs)) v x) vs r) qs rs
section
variable {K : PySem.W.Frag} {Z0 H0 H H1 H' : Hp} {h p q D : Addr} {qs qs2 : List Addr} {α : Type} [Py α] {rs : List (List α)} {Q : VK}
end
section
variable {K : PySem.W.Frag} {σ : L2.St} {H : Hp} {te : TE} {Q : VK} {g : TG} {vs : List Nat}
end
/-- bounds of rooms: how many, how many rows each, how many entries each -/
noncomputable def HB (n m k : Nat) (rss : List (List Row)) : Prop := rss.length ≤ n ∧ ∀ rs ∈ rss, rs.length ≤ m ∧ ∀ r ∈ rs, r.length ≤ k
end TR

/-! rooms of rows that are all an asker's own: D their list, qs the rooms, F the rows -/
namespace TR
open PySem L2
section
variable {K : PySem.W.Frag} {σ : L2.St} {H : Hp} {tt : TT} {te : TE} {Q : VK} {g : TG} {vs : List Nat}
/-- a comprehension whose things have feet: new addresses of their own -/
theorem lcTN {β : Type} {J : It} {n : Nat} {M : List Addr} {Z : Hp} (I : Nat → Hp → Hp → Prop) (R : Nat → β → List Addr → V → Hp → Prop)
    (mono : ∀ i x fp y Z1 Z2, Ex Z1 Z2 → R i x fp y Z1 → R i x fp y Z2)
    (stab : ∀ i Z1 H1 D o, I i Z1 H1 → H D = none → Z1 D = none → I i Z1 (upd H1 D o))
    (hz : n ≤ 40000) (zh : Ex Z H) (hM : ∀ b ∈ M, ∃ o, H b = some o) (h0 : I 0 Z H)
    (hgo : ∀ i Z1 H1, i < n → T M Z H Z1 H1 → J.go i H1) (hst : ∀ Z1 H1, T M Z H Z1 H1 → J.stop n H1)
    (turn : ∀ i, i < n → ∀ D Z1 H1, T M Z H Z1 H1 → H D = none → Mu Z1 H1 D → I i Z1 H1 → ∀ v H2, J.yld i H1 v H2 → ∀ (A : VK),
      (∀ x fp y Z3 H3, T M Z1 H1 Z3 H3 → I (i + 1) Z3 H3 → R i x fp y Z3 → fp.Nodup → (∀ q ∈ fp, H1 q = none) → (∀ q ∈ fp, ∃ o, H3 q = some o) → A y H3) →
      g v (wipe σ vs) H2 fun σ2 H2 => wipe σ2 vs = wipe σ vs ∧ te σ2 H2 A)
    (fin : ∀ D ys (L : List (β × List Addr)) Z' H', H D = none → T M Z H Z' H' → Mu Z' H' D → H' D = some (.lst ys) → I n Z' H' → L.length = n → ys.length = n → (∀ j y q, ys[j]? = some y → L[j]? = some q → R j q.1 q.2 y Z') → (D :: (L.map Prod.snd).flatten).Nodup → (∀ q ∈ (L.map Prod.snd).flatten, H q = none) → (∀ q ∈ (L.map Prod.snd).flatten, ∃ o, H' q = some o) → Q (.ref D) H') : LcJ g tYes te vs σ J H Q := by
  intro D hD
  have nD : D ∉ M := fun z => by
    obtain ⟨o, ho⟩ := hM D z
    rw [hD] at ho
    cases ho
  refine ⟨fun i m H' => m = n - i ∧ i ≤ n ∧ ∃ Z', T M Z H Z' H' ∧ Mu Z' H' D ∧ I i Z' H' ∧ ∃ (ys : List V) (L : List (β × List Addr)), H' D = some (.lst ys) ∧ ys.length = i ∧ L.length = i ∧ (∀ j y q, ys[j]? = some y → L[j]? = some q → R j q.1 q.2 y Z') ∧ (D :: (L.map Prod.snd).flatten).Nodup ∧ (∀ q ∈ (L.map Prod.snd).flatten, H q = none) ∧ (∀ q ∈ (L.map Prod.snd).flatten, ∃ o, H' q = some o),
    ⟨n, by omega, by omega, Z, T.newM hD zh, ⟨Ex.back zh hD, _, upd_same⟩, stab _ _ _ _ _ h0 hD (Ex.back zh hD), [], [], upd_same, rfl, rfl, fun j y q h => by simp at h, by simp, by simp, by simp⟩, ?_⟩
  rintro i m H' ⟨rfl, hi, Z', t, mu, hI, ys, L, hys, hly, hL, pr, nd, fr, al⟩
  by_cases hlt : i < n
  · refine .inr ⟨hgo i Z' H' hlt t, fun H'' => i + 1 ≤ n ∧ ∃ Z'', T M Z H Z'' H'' ∧ Mu Z'' H'' D ∧ I (i + 1) Z'' H'' ∧ ∃ (ys : List V) (L : List (β × List Addr)), H'' D = some (.lst ys) ∧ ys.length = i + 1 ∧ L.length = i + 1 ∧ (∀ j y q, ys[j]? = some y → L[j]? = some q → R j q.1 q.2 y Z'') ∧ (D :: (L.map Prod.snd).flatten).Nodup ∧ (∀ q ∈ (L.map Prod.snd).flatten, H q = none) ∧ (∀ q ∈ (L.map Prod.snd).flatten, ∃ o, H'' q = some o),
      fun H'' q => ⟨n - (i + 1), by omega, rfl, q⟩, fun v H2 hy => ?_⟩
    rw [lc_yes]
    refine turn i hlt D Z' H' t hD mu hI v H2 hy _ (fun x fp y Z3 H3 t3 hI3 r nfp frp alp => ?_)
    have t4 : T M Z H Z3 H3 := t.step t3 mm_same
    have mu3 := t3.mu nD mu
    have t5 : T M Z H Z3 (upd H3 D (.lst (ys ++ [y]))) := t4.step (T.set mu3 t4.zh) (mm_cons (.inr hD) mm_nil)
    have efl : (List.map Prod.snd (L ++ [(x, fp)])).flatten = (L.map Prod.snd).flatten ++ fp := by simp
    have Dfp : D ∉ fp := fun z => by
      obtain ⟨o, ho⟩ := mu.a
      rw [frp D z] at ho
      cases ho
    refine ⟨ys, t3.hp nD hys, sz_lt (by omega), by omega, Z3, t5, ⟨mu3.z, _, upd_same⟩, stab _ _ _ _ _ hI3 hD mu3.z, ys ++ [y], L ++ [(x, fp)], upd_same, by rw [List.length_append, hly]; rfl, by rw [List.length_append, hL]; rfl, fun j y' q' h1 h2 => ?_, ?_, ?_, ?_⟩
    · rw [List.getElem?_append] at h1 h2
      rw [hly] at h1
      rw [hL] at h2
      by_cases c : j < i
      · rw [if_pos c] at h1 h2
        exact mono _ _ _ _ _ _ t3.z (pr j y' q' h1 h2)
      · rw [if_neg c] at h1 h2
        have ej : j = i := by
          have := (List.getElem?_eq_some_iff.mp h1).1
          rw [List.length_singleton] at this
          omega
        subst ej
        rw [Nat.sub_self] at h1 h2
        cases h1
        cases h2
        exact r
    · rw [efl, ← List.cons_append]
      refine List.nodup_append.mpr ⟨nd, nfp, fun a ha b hb e => ?_⟩
      rcases List.mem_cons.mp ha with e2 | ha
      · exact Dfp (by rw [← e2, e]; exact hb)
      · obtain ⟨o, ho⟩ := al a ha
        rw [e, frp b hb] at ho
        cases ho
    · rw [efl]
      intro q hq
      rcases List.mem_append.mp hq with hq | hq
      · exact fr q hq
      · exact t.nn (frp q hq)
    · rw [efl]
      intro q hq
      rcases List.mem_append.mp hq with hq2 | hq2
      · by_cases c : q = D
        · exact ⟨_, by rw [c]; exact upd_same⟩
        · obtain ⟨o, ho⟩ := t3.all (al q hq2)
          exact ⟨o, by rw [upd_ne c]; exact ho⟩
      · by_cases c : q = D
        · exact ⟨_, by rw [c]; exact upd_same⟩
        · obtain ⟨o, ho⟩ := alp q hq2
          exact ⟨o, by rw [upd_ne c]; exact ho⟩
  · have ei : i = n := by omega
    subst ei
    exact .inl ⟨hst Z' H' t, fin D ys L Z' H' hD t mu hys hI hL hly pr nd fr al⟩
end
section
variable {K : PySem.W.Frag} {M N F : List Addr} {Z H Z1 H1 Z2 H2 Z' H' : Hp} {p q D : Addr} {o : HO} {v : V} {α : Type} [Py α]
/-- many things are to stay from now on -/
noncomputable def onH (Z H : Hp) (F : List Addr) : Hp := fun b => if b ∈ F then H b else Z b
/-- a row that is one's own -/
noncomputable def RowO (Z H : Hp) (w : Addr) (r : List α) : Prop := ∃ vs, H w = some (.lst vs) ∧ Paired (fun v x => Ik Z v x) vs r
noncomputable def RoomO (Z H : Hp) (F : List Addr) (q : Addr) (rs : List (List α)) : Prop := ∃ ws : List Addr, H q = some (.lst (ws.map V.ref)) ∧ (∀ w ∈ ws, w ∈ F) ∧ Paired (fun w r => RowO Z H w r) ws rs
structure Y3 (Z H : Hp) (D : Addr) (qs F : List Addr) (rss : List (List (List α))) : Prop where
  own : H D = some (.lst (qs.map V.ref))
  nd : (D :: qs).Nodup
  nf : ∀ q ∈ D :: qs, q ∉ F
  z : ∀ q ∈ D :: (qs ++ F), Z q = none
  al : ∀ q ∈ D :: (qs ++ F), ∃ o, H q = some o
  zh : Ex Z H
  rows : Paired (fun q rs => RoomO Z H F q rs) qs rss
variable {qs : List Addr} {rss : List (List (List α))}
variable {Q : VK} {R : Hp → Prop}
end
end TR
namespace TR
open PySem L2
section
variable {K : PySem.W.Frag} {σ : L2.St} {H Z Z0 : Hp} {te : TE} {Q : VK} {g : TG} {vs : List Nat} {α : Type} [Py α]
/-- a new list of new lists: w, its things in Z0 -/
noncomputable def RowF (Z0 Z : Hp) (w : Addr) (r : List α) : Prop := ∃ vs, Z w = some (.lst vs) ∧ Paired (fun v x => Ik Z0 v x) vs r
end
end TR

namespace TR
open PySem L2
/-- rooms of rows that an asker spoils: only the shape is known -/
structure Sh (Z H : Hp) (D : Addr) (qs F : List Addr) (n B : Nat) : Prop where
  own : H D = some (.lst (qs.map V.ref))
  nd : D ∉ qs
  nf : ∀ q ∈ D :: qs, q ∉ F
  z : ∀ q ∈ D :: (qs ++ F), Z q = none
  zh : Ex Z H
  rooms : ∀ q ∈ qs, ∃ ws : List Addr, H q = some (.lst (ws.map V.ref)) ∧ ws.length ≤ n ∧ ∀ w ∈ ws, w ∈ F
  rows : ∀ w ∈ F, ∃ vs, H w = some (.lst vs) ∧ vs.length ≤ B
section
variable {Z H Z' H' : Hp} {D q w e : Addr} {M qs F : List Addr} {n B : Nat} {Q : VK} {v : V}
variable {α : Type} [Py α] {rss : List (List (List α))}
end
end TR
namespace TR
open PySem L2
section
variable {K : PySem.W.Frag} {Z H : Hp} {D q w : Addr} {qs F : List Addr} {n B : Nat} {Q : VK} {v : V}
end
end TR

/-! steps as data -/
namespace TR
open PySem L2
inductive Stp where
  | rooms (m : Int)
  | cut (r m : Int)
  | row (r a : Int) (w : Row)
  deriving DecidableEq
noncomputable def stpD : Stp → PyData
  | .rooms m => .tuple [.str "rooms", .int m]
  | .cut r m => .tuple [.str "cut", .int r, .int m]
  | .row r a w => .tuple [.str "row", .int r, .int a, Py.d w]
instance : Py Stp := ⟨stpD, 4, fun s => by
    cases s with
    | rooms m => simp [stpD, PyData.depth, PyData.depthAll]
    | cut r m => simp [stpD, PyData.depth, PyData.depthAll]
    | row r a w =>
      have h : (Py.d w).depth ≤ 3 := Nat.le_trans (Py.depth w) (by decide)
      simp [stpD, PyData.depth, PyData.depthAll]
      omega, fun s => by
    have h1 : PyData.strOk "rooms" = true := by decide +kernel
    have h2 : PyData.strOk "cut" = true := by decide +kernel
    have h3 : PyData.strOk "row" = true := by decide +kernel
    cases s <;> simp [stpD, PyData.canLay0, PyData.canLayAll0, Py.can, h1, h2, h3], fun a b => by
    have hr : ("rooms" : Str) ≠ "cut" := by decide
    have hs : ("cut" : Str) ≠ "rooms" := by decide
    cases a <;> cases b <;> simp [stpD, PyData.eqv, PyData.eqvAll, Py.eqv, hr, hs]⟩
section
variable {K : PySem.W.Frag} {H : Hp} {v : V} {p b : Addr} {r m a : Int} {w : Row}
end
/-! what a step does -/
/-- so many things at least -/
noncomputable def padTo {α : Type} (n : Nat) (d : α) (l : List α) : List α := l ++ List.replicate (n - l.length) d
noncomputable def withRow (rss : List (List Row)) (room at_ : Int) (row : Row) : List (List Row) :=
  let p := padTo (room.toNat + 1) [] rss
  p.set room.toNat ((padTo (at_.toNat + 1) [] (p.getD room.toNat [])).set at_.toNat row)
/-- the last rooms without rows go -/
noncomputable def trimR (rss : List (List Row)) : List (List Row) := (rss.reverse.dropWhile fun rs => decide (rs = [])).reverse
noncomputable def doneY (y : Yard) : Stp → Yard
  | .rooms m => ⟨y.a, m, trimR y.c⟩
  | .cut r m => ⟨y.a, y.b, trimR (if r < y.c.length then y.c.set r.toNat ((y.c.getD r.toNat []).take m.toNat) else y.c)⟩
  | .row r a w => ⟨y.a, y.b, trimR (withRow y.c r a w)⟩
end TR
namespace TR
open PySem L2
section
variable {K : PySem.W.Frag} {M F : List Addr} {Z H Z1 H1 Z' H' : Hp} {D q a : Addr} {qs : List Addr} {α : Type} [Py α] {rss : List (List (List α))} {Q : VK}
theorem mm_1 {N : List Addr} {H : Hp} {y : Addr} (h : y ∈ N ∨ H y = none) : ∀ x ∈ [y], x ∈ N ∨ H x = none := mm_cons h mm_nil
end
end TR
namespace TR
open PySem L2
noncomputable abbrev YLen (y : Yard) : Prop := y.c.length ≤ 10000 ∧ ∀ rs ∈ y.c, rs.length ≤ 10000
noncomputable def StpOk : Stp → Prop
  | .rooms _ => True
  | .cut r m => 0 ≤ r ∧ 0 ≤ m
  | .row r a _ => 0 ≤ r ∧ r ≤ 1000 ∧ 0 ≤ a ∧ a ≤ 9000
end TR
namespace TR
open PySem L2
noncomputable def StpB : Stp → Prop
  | .rooms _ => True
  | .cut r m => 0 ≤ r ∧ 0 ≤ m
  | .row r a w => 0 ≤ r ∧ r < 131 ∧ 0 ≤ a ∧ a < 131 ∧ w.length ≤ 8
end TR

namespace TR
/-- the rows that a room of so many keys takes -/
noncomputable def rowsI (m w : Int) : Int := max 1 ((m + w - 1) / w)
noncomputable def spillI (l : List Int) (w : Int) : Int := (l.map fun m => rowsI m w - 1).sum
theorem rowsI_pos (m w : Int) : 1 ≤ rowsI m w := Int.le_max_left _ _
end TR
namespace TR
end TR
namespace TR
/-- the rows of keys: sorted, cut -/
noncomputable def cutR (l : List Int) (w : Int) (k : Nat) : List Int := cutI (sortI l) (some ((k : Int) * w)) (some ((k : Int) * w + w))
noncomputable def rowsOf (l : List Int) (w : Int) : List (List Int) := (List.range (rowsI l.length w).toNat).map (cutR l w)
end TR
namespace TR
theorem rowsI_facts {m w : Int} (hm : 0 ≤ m) (hw : 0 < w) : m ≤ rowsI m w * w ∧ w ≤ rowsI m w * w ∧ (rowsI m w = 1 ∨ (rowsI m w - 1) * w < m) ∧ rowsI m w * w < m + w + (if m = 0 then 1 else 0) ∧ rowsI m w ≤ m + 1 := by
  have h1 := Int.emod_add_mul_ediv (m + w - 1) w
  have h2 := Int.emod_nonneg (m + w - 1) (show w ≠ 0 by omega)
  have h3 := Int.emod_lt_of_pos (m + w - 1) hw
  have h4 : 0 ≤ (m + w - 1) / w := Int.ediv_nonneg (by omega) (by omega)
  unfold rowsI
  rw [Int.mul_comm w] at h1
  by_cases c : (m + w - 1) / w = 0
  · rw [c, Int.max_eq_left (by decide), Int.one_mul]
    rw [c, Int.zero_mul] at h1
    have : m = 0 := by omega
    subst this
    refine ⟨by omega, by omega, .inl rfl, by rw [if_pos rfl]; omega, by omega⟩
  · have c1 : 1 ≤ (m + w - 1) / w := by omega
    rw [Int.max_eq_right c1]
    have h5 := Int.mul_le_mul_of_nonneg_right c1 (show (0 : Int) ≤ w by omega)
    rw [Int.one_mul] at h5
    have h6 : (m + w - 1) / w < m + 2 := by
      refine Int.ediv_lt_of_lt_mul hw ?_
      have := Int.mul_le_mul_of_nonneg_left (show (1 : Int) ≤ w by omega) hm
      rw [Int.add_mul]
      omega
    have h7 : m ≠ 0 := fun z => c (by rw [z]; exact Int.ediv_eq_zero_of_lt (by omega) (by omega))
    refine ⟨by omega, by omega, .inr ?_, by rw [if_neg h7]; omega, by omega⟩
    rw [Int.sub_mul, Int.one_mul]
    omega
end TR
namespace TR
noncomputable def lastGe (r : List Int) (key : Int) : Bool := match r.getLast? with | some v => decide (key ≤ v) | none => false
/-- what a look through rows finds: there, looks -/
noncomputable def lookedI : List (List Int) → Int → Nat → Bool × Int
  | [], _, n => (false, (n : Int))
  | r :: rs, key, n => if lastGe r key = true then (decide (key ∈ r), (n : Int) + 1) else lookedI rs key (n + 1)
theorem atI_last1 {α : Type} {r : List α} (h : r ≠ []) : ∃ v, atI r (-1) = some v ∧ r.getLast? = some v := by
  obtain ⟨l, x, rfl⟩ : ∃ l x, r = l ++ [x] := ⟨r.dropLast, r.getLast h, (List.dropLast_concat_getLast h).symm⟩
  exact ⟨x, atI_last _ _, by simp⟩
end TR
namespace TR
/-- how many are less -/
noncomputable def less (l : List Int) (key : Int) : Nat := (l.filter fun x => decide (x < key)).length
theorem cutR_eq (l : List Int) {w : Int} (j : Nat) (hw : 0 < w) : cutR l w j = ((sortI l).drop (j * w.toNat)).take w.toNat := by
  obtain ⟨n, rfl⟩ : ∃ n : Nat, w = (n : Int) := ⟨w.toNat, by omega⟩
  have h0 : (0 : Int) ≤ (j : Int) * (n : Int) := by rw [← Int.natCast_mul]; omega
  unfold cutR
  rw [cutI_mid _ h0 (by omega), ← Int.natCast_mul, Int.toNat_natCast, Int.toNat_natCast, show ((((j * n : Nat) : Int) + (n : Int)).toNat - j * n) = n by omega]
theorem rowsOf_len (l : List Int) (w : Int) : (rowsOf l w).length = (rowsI l.length w).toNat := by
  unfold rowsOf
  rw [List.length_map, List.length_range]
theorem rowsOf_at {l : List Int} {w : Int} {j : Nat} (h : j < (rowsI l.length w).toNat) : (rowsOf l w)[j]? = some (cutR l w j) := by
  unfold rowsOf
  rw [List.getElem?_map, List.getElem?_range h]
  rfl
theorem rowsOf_flat (l : List Int) {w : Int} (hw : 0 < w) : ∀ (d g : Nat), g + d = (rowsI l.length w).toNat → ((rowsOf l w).drop g).flatten = (sortI l).drop (g * w.toNat)
  | 0, g, h => by
    have f := (rowsI_facts (m := (l.length : Int)) (by omega) hw).1
    have hp := rowsI_pos (l.length : Int) w
    have hg : (g : Int) = rowsI l.length w := by omega
    rw [← hg] at f
    have f2 : l.length ≤ g * w.toNat := by
      have e : ((g * w.toNat : Nat) : Int) = (g : Int) * w := by rw [Int.natCast_mul]; congr 1; omega
      omega
    rw [List.drop_of_length_le (by rw [rowsOf_len]; omega), List.drop_of_length_le (by rw [sortI_len]; exact f2)]
    rfl
  | d + 1, g, h => by
    have hl : g < (rowsOf l w).length := by rw [rowsOf_len]; omega
    have e : (rowsOf l w)[g] = cutR l w g := by
      have := rowsOf_at (l := l) (w := w) (j := g) (by omega)
      rw [List.getElem?_eq_getElem hl] at this
      exact Option.some.inj this
    rw [List.drop_eq_getElem_cons hl, List.flatten_cons, e, rowsOf_flat l hw d (g + 1) (by omega), cutR_eq l g hw, Nat.succ_mul, ← List.drop_drop, List.take_append_drop]
end TR

/-! powers of two, levels, rooms -/
namespace TR
theorem two_pos (k : Nat) : (1 : Int) ≤ 2 ^ k := by
  have h : (1 : Nat) ≤ 2 ^ k := Nat.one_le_two_pow
  have e : ((2 ^ k : Nat) : Int) = (2 : Int) ^ k := by rw [Int.natCast_pow]; rfl
  omega
theorem two_succ (k : Nat) : (2 : Int) ^ (k + 1) = 2 * 2 ^ k := by rw [Int.pow_succ, Int.mul_comm]
theorem two_mono {a b : Nat} (h : a ≤ b) : (2 : Int) ^ a ≤ 2 ^ b := by
  have h1 : (2 : Nat) ^ a ≤ 2 ^ b := Nat.pow_le_pow_right (by decide) h
  have e1 : ((2 ^ a : Nat) : Int) = (2 : Int) ^ a := by rw [Int.natCast_pow]; rfl
  have e2 : ((2 ^ b : Nat) : Int) = (2 : Int) ^ b := by rw [Int.natCast_pow]; rfl
  omega
theorem two_lt {a b : Nat} (h : (2 : Int) ^ a < 2 ^ b) : a < b := by
  apply Decidable.byContradiction
  intro n
  have := two_mono (show b ≤ a by omega)
  omega
noncomputable def lev (r : Int) : Nat := Nat.log2 r.toNat
noncomputable def whole (r : Int) : Int := 2 ^ lev r
theorem whole_spec {r : Int} (h : 1 ≤ r) : 1 ≤ whole r ∧ whole r ≤ r ∧ r < 2 * whole r := by
  have h0 : r.toNat ≠ 0 := by omega
  have h1 := Nat.log2_self_le h0
  have h2 := Nat.lt_log2_self (n := r.toNat)
  have e1 : ((2 ^ Nat.log2 r.toNat : Nat) : Int) = whole r := by
    unfold whole lev
    rw [Int.natCast_pow]
    rfl
  have e2 : ((2 ^ (Nat.log2 r.toNat + 1) : Nat) : Int) = 2 * whole r := by
    rw [Nat.pow_succ, Int.natCast_mul, e1]
    omega
  have := two_pos (lev r)
  unfold whole at *
  omega
theorem lev_unique {r : Int} {k : Nat} (h1 : (2 : Int) ^ k ≤ r) (h2 : r < 2 * 2 ^ k) : lev r = k := by
  have hr : 1 ≤ r := by have := two_pos k; omega
  obtain ⟨a, b, c⟩ := whole_spec hr
  unfold whole at *
  rw [← two_succ] at c h2
  have l1 : k < lev r + 1 := two_lt (by omega)
  have l2 : lev r < k + 1 := two_lt (by omega)
  omega
theorem whole_unique {r : Int} {k : Nat} (h1 : (2 : Int) ^ k ≤ r) (h2 : r < 2 * 2 ^ k) : whole r = 2 ^ k := by
  unfold whole
  rw [lev_unique h1 h2]
noncomputable def roomOf (key rooms : Int) : Int := if key % whole rooms < rooms - whole rooms then key % (2 * whole rooms) else key % whole rooms
theorem mod2 (x : Int) {w : Int} (h : 0 < w) : x % (2 * w) = x % w ∨ x % (2 * w) = x % w + w := by
  have e : x % (2 * w) % w = x % w := Int.emod_emod_of_dvd x ⟨2, Int.mul_comm 2 w⟩
  have l1 := Int.emod_nonneg x (show 2 * w ≠ 0 by omega)
  have l2 := Int.emod_lt_of_pos x (show 0 < 2 * w by omega)
  generalize x % (2 * w) = r at *
  by_cases h2 : r < w
  · left
    rw [← e, Int.emod_eq_of_lt l1 h2]
  · right
    have e2 : (r - w + w) % w = (r - w) % w := by rw [Int.add_emod_right]
    rw [Int.sub_add_cancel, Int.emod_eq_of_lt (show 0 ≤ r - w by omega) (by omega)] at e2
    omega
theorem roomOf_range {key rooms : Int} (h : 1 ≤ rooms) : 0 ≤ roomOf key rooms ∧ roomOf key rooms < rooms := by
  obtain ⟨a, b, c⟩ := whole_spec h
  have l1 := Int.emod_nonneg key (show whole rooms ≠ 0 by omega)
  have l2 := Int.emod_lt_of_pos key (show 0 < whole rooms by omega)
  have l3 := Int.emod_nonneg key (show 2 * whole rooms ≠ 0 by omega)
  have m := mod2 key (show 0 < whole rooms by omega)
  unfold roomOf
  split <;> omega
end TR
/-! bits, and keys turned about -/
namespace TR
noncomputable def bit (x : Int) (k : Nat) : Int := x / 2 ^ k % 2
noncomputable def rev : Nat → Int → Int
  | 0, _ => 0
  | n + 1, x => rev n x * 2 + bit x n
/-- the first bit in which two differ -/
noncomputable def Dif (x y : Int) (d : Nat) : Prop := (∀ k, k < d → bit x k = bit y k) ∧ bit x d ≠ bit y d
noncomputable def partedAt (x y : Int) (d : Nat) : Int := 1 + max (x % 2 ^ (d + 1)) (y % 2 ^ (d + 1))
end TR
namespace TR
end TR
namespace TR
end TR

namespace TR
noncomputable def thingOf (r : Row) (key : Int) : Option Tx := ((r.filter fun e => decide (e.1 = key)).map Prod.snd)[0]?
noncomputable def foundR : List Row → Int → Nat → Option Tx × Int
  | [], _, m => (none, (m : Int))
  | r :: rs, key, m => if lastGe (r.map Prod.fst) key = true then (thingOf r key, ((m + 1 : Nat) : Int)) else foundR rs key (m + 1)
noncomputable def foundI (y : Yard) (key : Int) : Option Tx × Int := match y.c[(roomOf key y.b).toNat]? with
  | none => (none, 0)
  | some rows => foundR rows key 0
end TR

/-! rows of rising entries, clean yards -/
namespace TR
open PySem L2
theorem drop_lt {α : Type} {l : List α} {w : Nat} (h : ¬ (w = 0 ∨ l.length ≤ w)) : (l.drop w).length < l.length := by
  rw [List.length_drop]
  omega
noncomputable def cutE (w : Nat) (l : Row) : List Row := if h : w = 0 ∨ l.length ≤ w then [l] else l.take w :: cutE w (l.drop w)
termination_by l.length
decreasing_by exact drop_lt h
/-- a look through rows that rise all the way -/
noncomputable abbrev Rises (l : Row) : Prop := (l.map Prod.fst).Pairwise (· < ·)
noncomputable def fnd (R : List Row) (k : Int) : Option Tx := (foundR R k 0).1
end TR

namespace TR
open PySem L2
/-! ### rooms that are rewritten -/
noncomputable def putR (c : List (List Row)) (R : Nat) (X : List Row) : List (List Row) := (padTo (R + 1) [] c).set R X
noncomputable def NE (c : List (List Row)) : Prop := ∀ rs ∈ c, rs ≠ []
/-! ### the rows that aren't what stands there -/
noncomputable def writF (R : Nat) (now : List Row) : Nat → List Row → List Stp
  | _, [] => []
  | i, r :: rs => if now[i]? = some r then writF R now (i + 1) rs else .row (R : Int) (i : Int) r :: writF R now (i + 1) rs
noncomputable def writ (R : Nat) (rows now : List Row) : List Stp := writF R now 0 rows
noncomputable def onw (R : Nat) (rows now : List Row) : List Stp := writ R rows now ++ (if rows.length < now.length then [.cut (R : Int) (rows.length : Int)] else [])
noncomputable def backw (R : Nat) (rows now : List Row) : List Stp := (writ R rows now).reverse
end TR

namespace TR
open PySem L2
/-- from the last on: behind any of these steps the first rows are as they were, then rows without entries, then the new ones -/
noncomputable def backS (rows now : List Row) (m : Nat) : List Row := now.take m ++ List.replicate (m - now.length) [] ++ rows.drop m
end TR

/-! yards amid a change -/
namespace TR
open PySem L2
noncomputable def partE (r : Int) (es : Row) (i : Nat) : Row := sortE (es.filter fun e => decide (roomOf e.1 r = (i : Int)))
noncomputable def cleanC (w : Nat) (r : Int) (es : Row) : List (List Row) := (List.range r.toNat).map fun i => cutE w (partE r es i)
noncomputable def cleanY (w r : Int) (es : Row) : Yard := ⟨w, r, cleanC w.toNat r es⟩
noncomputable def fY (y : Yard) (k : Int) : Option Tx := (foundI y k).1
/-- no key twice -/
noncomputable abbrev Keys1 (es : Row) : Prop := (es.map Prod.fst).Nodup
theorem Keys1.one {es : Row} (h : Keys1 es) : OneK es := fun x hx y hy e => by
  obtain ⟨i, hi⟩ := List.mem_iff_getElem?.mp hx
  obtain ⟨j, hj⟩ := List.mem_iff_getElem?.mp hy
  have il := (List.getElem?_eq_some_iff.mp hi).1
  have h1 : (es.map Prod.fst)[i]? = some x.1 := by rw [List.getElem?_map, hi]; rfl
  have h2 : (es.map Prod.fst)[j]? = some x.1 := by rw [List.getElem?_map, hj, e]; rfl
  have := (List.getElem?_inj (by rw [List.length_map]; exact il) h).mp (h1.trans h2.symm)
  rw [this, hj] at hi
  rw [Option.some.inj hi]
theorem Keys1.sub {es l : Row} (h : Keys1 es) (s : l.Sublist es) : Keys1 l := List.Nodup.sublist (s.map _) h
theorem Keys1.filter {es : Row} (h : Keys1 es) (p : Ent → Bool) : Keys1 (es.filter p) := h.sub List.filter_sublist
theorem Keys1.perm {es l : Row} (h : Keys1 es) (p : l.Perm es) : Keys1 l := (p.map _).symm.nodup h
/-- a room that tells its keys rightly -/
noncomputable def RoomG (es : Row) (b : Int) (i : Nat) (X : List Row) : Prop := (∀ e ∈ es, roomOf e.1 b = (i : Int) → fnd X e.1 = some e.2) ∧ ∀ r ∈ X, ∀ x ∈ r, x ∈ es
/-- all keys are found with their things, no others are -/
noncomputable def GoodF (es : Row) (y : Yard) : Prop := (∀ e ∈ es, fY y e.1 = some e.2) ∧ ∀ k, k ∉ es.map Prod.fst → fY y k = none
/-! ### splitting -/
noncomputable def splitRoom (r : Int) : Nat := (r - whole r).toNat
noncomputable def splitS (y : Yard) : List Stp :=
  let R := splitRoom y.b
  let A := (y.c.getD R []).flatten
  onw y.b.toNat (cutE y.a.toNat (sortE (A.filter fun e => decide (roomOf e.1 (y.b + 1) = y.b)))) [] ++ [.rooms (y.b + 1)] ++ onw R (cutE y.a.toNat (sortE (A.filter fun e => decide (roomOf e.1 (y.b + 1) ≠ y.b)))) (y.c.getD R [])
end TR

namespace TR
open PySem L2
end TR
namespace TR
open PySem L2
/-! ### joining -/
noncomputable def joinS (y : Yard) : List Stp :=
  let last := (y.b - 1).toNat
  let into := splitRoom (y.b - 1)
  backw into (cutE y.a.toNat (sortE ((y.c.getD into []).flatten ++ (y.c.getD last []).flatten))) (y.c.getD into []) ++ [.rooms (y.b - 1), .cut (last : Int) 0]
end TR

/-! T: lists of own lists, reverse, extend, ranges with a step; found -/
namespace TR
open PySem L2
section
variable {K : PySem.W.Frag} {M qs : List Addr} {Z H Z' H' : Hp} {Q : VK} {D q a b : Addr} {v : V} {α : Type} {iα : Py α} {x : α} {l r : List α}
end
/-! a list of own lists -/
structure Y2 (Z H : Hp) (D : Addr) (qs : List Addr) {α : Type} [Py α] (rs : List (List α)) : Prop where
  own : H D = some (.lst (qs.map V.ref))
  nd : (D :: qs).Nodup
  z : ∀ q ∈ D :: qs, Z q = none
  zh : Ex Z H
  rows : Paired (fun q r => RowO Z H q r) qs rs
section
variable {K : PySem.W.Frag} {M qs : List Addr} {Z H Z' H' : Hp} {Q : VK} {D q : Addr} {v : V} {α : Type} {iα : Py α} {x : α} {rs : List (List α)}
end
section
variable {K : PySem.W.Frag} {σ : L2.St} {H Z : Hp} {tt : TT} {te : TE} {Q : VK} {g : TG} {vs : List Nat}
/-- ranges with a step -/
noncomputable def LcR3 (g : TG) (tt : TT) (te : TE) (vs : List Nat) (σ : L2.St) (x : List V) (H1 : Hp) (Q : VK) : Prop := ∃ (i j c : Int) (n : Nat), x = [.int i, .int j, .int c] ∧ RgC i j c n ∧ LcJ g tt te vs σ (Itc i c n) H1 Q
end
/-! found -/
noncomputable def YardOk (y : Yard) : Prop := 1 ≤ y.b ∧ y.c.length ≤ 10000 ∧ ∀ rs ∈ y.c, rs.length ≤ 10000 ∧ ∀ r ∈ rs, r.length ≤ 10000
noncomputable def optS : Option Tx → V
  | none => .non
  | some x => .str x.1
noncomputable def spFound (K : PySem.W.Frag) : Sp := fun vs H Q _ => ∃ (v : V) (y : Yard) (key : Int), vs = [v, .int key] ∧ Is K H v y ∧ YardOk y ∧
  ∀ (p : Addr) (v' : V) (H' : Hp), H p = none → Ex H H' → H' p = some (.tup [v', .int (foundI y key).2]) → Is K H' v' (foundI y key).1 → Q (.ref p) H'
noncomputable def spLawFound (K : PySem.W.Frag) : Sp := fun vs H Q _ => ∃ (v : V) (y : Yard) (key : Int), vs = [v, .int key] ∧ Is K H v y ∧ 0 ≤ key ∧ (1 ≤ y.b ∧ ∀ rs ∈ y.c, rs.length ≤ 10000 ∧ ∀ r ∈ rs, r.length ≤ 10000) ∧
  ∀ (p : Addr) (v' : V) (H' : Hp), H p = none → Ex H H' → H' p = some (.tup [v', .int (foundI y key).2]) → Is K H' v' (foundI y key).1 → Q (.ref p) H'
/-- keys, drawn -/
noncomputable def spKeys (K : PySem.W.Frag) : Sp := fun vs H Q _ => ∃ (h : Addr) (many : Int) (n : Nat) (Z : Hp), vs = [.ref h, .int many] ∧ 0 ≤ many ∧ many ≤ 160 ∧ Hand K Z H h (n + 2000) ∧
  ∀ (p : Addr) (ks : List Int) (H' : Hp), H p = none → ExM h H H' → Hand K Z H' h n → H' p = some (.lst (ks.map V.int)) → ks.length = many.toNat → ks.Nodup → (∀ k ∈ ks, 0 ≤ k ∧ k < 1152921504606846976) → Q (.ref p) H'
theorem keysT {K : PySem.W.Frag} {Z H : Hp} {h : Addr} {many : Int} {N : Nat} {Q : VK} {E : XK} (hh : Hand K Z H h N) (hN : 2000 ≤ N) (m : 0 ≤ many ∧ many ≤ 160)
    (q : ∀ p (ks : List Int) Z' H', H p = none → T [h] Z H Z' H' → Hand K Z' H' h (N - 2000) → Ls Z' p ks → (ks.length : Int) = many → ks.Nodup → (∀ k ∈ ks, 0 ≤ k ∧ k < 1152921504606846976) → Q (.ref p) H') : spKeys K [.ref h, .int many] H Q E :=
  ⟨h, many, N - 2000, Z, rfl, m.1, m.2, hh.mono (by omega), fun p ks H' n e hh' f l nd b => by
    have np : p ≠ h := hand_ne0 n hh
    have t : T [h] Z H Z H' := hh.t e hh'
    have t2 : T [p] Z H' (upd Z p (.lst (ks.map V.int))) H' := T.fz t.zh (Ex.back hh.z n) f
    exact q p ks _ H' n (t.step t2 (mm_cons (.inr n) mm_nil)) (Hand.tt t2 (nm_cons np.symm nm_nil) hh') (Ls.ofInts upd_same) (by omega) nd b⟩
end TR
namespace TR
open PySem L2
noncomputable def partsL (r : Int) (l : Row) : List Row := (List.range r.toNat).map fun (i : Nat) => l.filter fun e => decide (roomOf e.1 r = (i : Int))
end TR
namespace TR
open PySem L2
end TR
namespace TR
open PySem L2
section
variable {K : PySem.W.Frag} {σ : L2.St} {H : Hp} {tt : TT} {te : TE} {Q : VK} {g : TG} {vs : List Nat}
end
end TR

namespace TR
theorem nodup_le : ∀ {V L : List Int}, V.Nodup → (∀ x ∈ V, x ∈ L) → V.length ≤ L.length
  | [], _, _, _ => Nat.zero_le _
  | v :: V, L, h, s => by
    have h' := List.nodup_cons.mp h
    have hv := s v List.mem_cons_self
    have := nodup_le (L := L.erase v) h'.2 fun x hx => (List.mem_erase_of_ne (fun (z : x = v) => h'.1 (by rw [← z]; exact hx))).mpr (s x (List.mem_cons_of_mem _ hx))
    rw [List.length_erase_of_mem hv] at this
    have := List.length_pos_of_mem hv
    rw [List.length_cons]
    omega
end TR

/-! the law's doing of a step by the last room with rows -/
namespace TR
open PySem L2
noncomputable def someR (rss : List (List Row)) : List Int := ((List.range rss.length).filter fun i => decide (rss.getD i [] ≠ [])).map fun (i : Nat) => (i : Int)
end TR
namespace TR
open PySem L2
/-! the steps of a split and of a join are small -/
noncomputable def StpR : Stp → Prop
  | .rooms m => 1 ≤ m
  | s => StpB s
end TR

/-! putting and dropping: behind any steps the other keys are found, the change's own one as ahead up to one of the steps, as behind it from then on -/
namespace TR
open PySem L2
noncomputable def outE (es : Row) (k : Int) : Row := es.filter fun e => decide (e.1 ≠ k)
noncomputable def putE (es : Row) (k : Int) (t : Tx) : Row := outE es k ++ [(k, t)]
noncomputable def loE (l : Row) (k : Int) : Row := l.filter fun e => decide (e.1 < k)
noncomputable def hiE (l : Row) (k : Int) : Row := l.filter fun e => decide (k < e.1)
theorem outE_mem {l : Row} {k : Int} {e : Ent} : e ∈ outE l k ↔ e ∈ l ∧ e.1 ≠ k := by unfold outE; rw [List.mem_filter, decide_eq_true_eq]
theorem keys_put {es : Row} {k : Int} {t : Tx} (h : Keys1 es) : Keys1 (putE es k t) := by
  show ((putE es k t).map Prod.fst).Nodup
  unfold putE
  rw [List.map_append]
  refine List.nodup_append.mpr ⟨h.filter _, (List.nodup_cons.mpr ⟨List.not_mem_nil, List.nodup_nil⟩), fun a ha b hb => ?_⟩
  obtain ⟨e, he, rfl⟩ := List.mem_map.mp ha
  rw [List.mem_singleton.mp hb]
  exact (outE_mem.mp he).2
theorem keys_out {es : Row} {k : Int} (h : Keys1 es) : Keys1 (outE es k) := h.filter _
noncomputable def putS (y : Yard) (k : Int) (t : Tx) : List Stp :=
  backw (roomOf k y.b).toNat (cutE y.a.toNat (sortE (outE (y.c.getD (roomOf k y.b).toNat []).flatten k ++ [(k, t)]))) (y.c.getD (roomOf k y.b).toNat [])
noncomputable def dropS (y : Yard) (k : Int) : List Stp :=
  onw (roomOf k y.b).toNat (cutE y.a.toNat (sortE (outE (y.c.getD (roomOf k y.b).toNat []).flatten k))) (y.c.getD (roomOf k y.b).toNat [])
end TR
namespace TR
open PySem L2
end TR

/-! dicts of numbers and texts: d.items(), sorted(d.items()) -/
namespace L2
open PySem PySem.W PySem.Spec PyProof.Rows SrtO SrtS TR
noncomputable def kvE (e : Ent) : Key × V := (Sum.inl e.1, .str e.2.1)
section
variable {X : Cx}
noncomputable def rItemsK : V → List V → Hp → VK → Prop := fun x xs H Q => ∃ (a : Addr) (kvs : List (Key × V)), x = .ref a ∧ xs = [] ∧ H a = some (.dK kvs) ∧ ∀ p, H p = none → Q (.ref p) (upd H p (DX.itemsO p a))
theorem mt_itemsK : MtR X "dict.items" rItemsK := by
  intro pins s σ H x xs v us Q I rx rxs h
  obtain ⟨a, kvs, rfl, rfl, ha, q⟩ := h
  cases rx
  cases rxs
  obtain ⟨hz, hs0, vs, kv, hdo⟩ := I.hok a _ ha
  refine call_meetsIn PySem.F.slot_dict_items hdo.typeIs PySem.F.entry_dict_items (PySem.F.args_dict_items_1 _) (meets_dict_items (mixKind X.prog X.w) a hs0) ⟨⟨vs, hdo⟩, ?_⟩
  have hf : H s.heap.objs.size = none := I.hok.fresh (Nat.le_refl _)
  exact ⟨.ref s.heap.objs.size, upd H s.heap.objs.size (DX.itemsO s.heap.objs.size a), I.laid (t' := s.toks) (fun b u e => Heap.get?_push_of_some _ e) (Nat.le_refl _) (DX.itemsO_ok (Heap.get?_push_size _ rfl)), rfl, q _ hf⟩
noncomputable def rSortIt : List V → Hp → VK → Prop := fun vs H Q => ∃ (p a : Addr) (l : List Ent), vs = [.ref p] ∧ H p = some (DX.itemsO p a) ∧ H a = some (.dK (l.map kvE)) ∧ Keys1 l ∧
  ∀ (H' : Hp) (q : Addr) (ws : List V), Ex H H' → H q = none → H' q = some (.lst ws) → Paired (fun v (e : Ent) => ∃ t, v = V.ref t ∧ H t = none ∧ H' t = some (.tup [.int e.1, .str e.2.1])) ws (sortE l) → Q (.ref q) H'
theorem isPS_inj {h : Heap} {v : Value} {x x' : Int} {y y' : Str} (a : IsPS h v x y) (b : IsPS h v x' y') : x = x' ∧ y = y' := by
  obtain ⟨a, o, t, u, n, e, ho, hc, hd⟩ := a
  obtain ⟨a', o', t', u', n', e', ho', hc', hd'⟩ := b
  rw [e] at e'
  cases e'
  rw [ho] at ho'
  cases ho'
  rw [hd] at hd'
  cases hd'
  exact ⟨rfl, rfl⟩
theorem paired_zip {α β : Type} {F : α → β → Prop} : ∀ (as : List α) (bs : List β), as.length = bs.length → (∀ (j : Nat) (a : α) (b : β), as[j]? = some a → bs[j]? = some b → F a b) → Paired F as bs
  | [], [], _, _ => .nil
  | [], _ :: _, h, _ => by cases h
  | _ :: _, [], h, _ => by cases h
  | a :: as, b :: bs, h, g => .cons (g 0 a b rfl rfl) (paired_zip as bs (Nat.succ.inj h) fun j x y h1 h2 => g (j + 1) x y h1 h2)
theorem pairs_len {P : Program} {w : World} : ∀ {es : List DictEntry} {kvs : List (Key × Value)}, PySem.Pairs (mixKind P w) es kvs → es.length = kvs.length
  | _, _, .nil => rfl
  | _, _, .cons _ _ r => congrArg (· + 1) (pairs_len r)
theorem pairs_get {P : Program} {w : World} : ∀ {es : List DictEntry} {kvs : List (Key × Value)}, PySem.Pairs (mixKind P w) es kvs → ∀ {j : Nat} {e : DictEntry}, es[j]? = some e → ∃ kv, kvs[j]? = some kv ∧ keyIs kv.1 e.key = true ∧ e.val = kv.2
  | _, _, .nil, _, _, h => by cases h
  | _, _, .cons h1 h2 _, 0, _, h => by
    cases h
    exact ⟨_, rfl, h1, h2⟩
  | _, _, .cons _ _ r, j + 1, _, h => pairs_get r (j := j) h
theorem cr_sortedItemsK (hc : X.calm = true) : CallR X (.builtin "sorted") rSortIt := by
  intro pins s σ H xs us Q I r h
  obtain ⟨p, a, l, rfl, hp, ha, k1, q⟩ := h
  obtain rfl := Vals.ref1 r
  have view : s.heap.IsItemsView p a := (show ObjOk X.prog X.w H s.heap p (DX.itemsO p a) from I.hok p _ hp).1
  obtain ⟨hz, hs0, vs, kv, hdo⟩ := I.hok a _ ha
  obtain ⟨ep, hat⟩ := hdo.dictAt
  have lk : (l.map kvE).length = vs.length := Paired.length kv
  rw [List.length_map] at lk hz
  have hh : X.A.handled = none := I.ok.hd hc
  obtain ⟨ob, es, ho, hx, hdat, _, hpr, _⟩ := hat
  have le : es.size = vs.length := by rw [← Array.length_toList]; exact pairs_len hpr
  refine DT.sortedI (es := es) (ep := ep) hh view ⟨ob, ho, hx, hdat⟩ (by omega) fun h' tk as hk hlt0 hl hG => ?_
  have las : as.length = l.length := by omega
  have hz2 : (as.map Value.ref).length ≤ sizeLine := by rw [List.length_map]; omega
  have nd : as.Nodup := List.Pairwise.imp (fun h => Nat.ne_of_lt h) hG.rise
  have hob : (h'.push { cls := .type "list", data := .seq (as.map Value.ref).toArray }).get? h'.objs.size = some (seqObj "list" (as.map Value.ref).toArray 0) := Heap.get?_push_size _ rfl
  have ka : ∀ b o, h'.get? b = some o → (h'.push { cls := .type "list", data := .seq (as.map Value.ref).toArray }).get? b = some o := fun b o e => Heap.get?_push_of_some _ e
  generalize hh2 : h'.push { cls := .type "list", data := .seq (as.map Value.ref).toArray } = h2 at hob ka ⊢
  have ne0 : ∀ b o, h'.get? b = some o → b ≠ h'.objs.size := fun b o e => Nat.ne_of_lt (Heap.lt_size e)
  -- the pairs that were made
  have pr : ∀ (j : Nat) (b : Addr), as[j]? = some b → ∃ (e : Ent) (t u : Tok), l[j]? = some e ∧ h'.get? b = some { cls := .type "tuple", data := .seq #[Value.int e.1 t, Value.str e.2.1 u] } := by
    intro j b hj
    obtain ⟨⟨hsh, key, x⟩, f0, f3⟩ := hG.pairs j b hj
    obtain ⟨⟨kk, x'⟩, f1, f2, f4⟩ := pairs_get hpr (j := j) (by rw [Array.getElem?_toList]; exact f0)
    have f4' : x = x' := f4
    subst f4'
    have hjl : j < l.length := by rw [← las]; exact (List.getElem?_eq_some_iff.mp hj).1
    obtain ⟨qv, g1, g2, g3⟩ := DX.pget kv f1
    rw [List.getElem?_map, List.getElem?_eq_getElem hjl] at g1
    have g1' : kvE l[j] = qv := Option.some.inj g1
    rw [← g1'] at g2 g3
    have g2' : kk = Sum.inl l[j].1 := g2.symm
    have rk : RelV (kV (Sum.inl l[j].1)) key := by
      rw [← g2']
      exact relV_key (show keyIs kk key = true from f2)
    obtain ⟨t, rfl⟩ := rk
    obtain ⟨u, rfl⟩ : ∃ u, x = Value.str l[j].2.1 u := g3
    exact ⟨l[j], t, u, List.getElem?_eq_getElem hjl, f3⟩
  have ps : ∀ (j : Nat) (b : Addr) (e : Ent), as[j]? = some b → l[j]? = some e → IsPS h2 (.ref b) e.1 e.2.1 := by
    intro j b e hj he
    obtain ⟨e', t, u, he', hg⟩ := pr j b hj
    rw [he] at he'
    cases he'
    exact ⟨b, _, t, u, 0, rfl, ka _ _ hg, rfl, rfl⟩
  obtain ⟨k, kp⟩ : ∃ k : Value → Int × Str, ∀ (j : Nat) (b : Addr) (e : Ent), as[j]? = some b → l[j]? = some e → k (.ref b) = (e.1, e.2.1) := by
    classical
    refine ⟨fun v => if c : ∃ e : Int × Str, IsPS h2 v e.1 e.2 then Classical.choose c else (0, ⟨#[]⟩), fun j b e hj he => ?_⟩
    have c : ∃ e : Int × Str, IsPS h2 (.ref b) e.1 e.2 := ⟨(e.1, e.2.1), ps j b e hj he⟩
    show (if c : ∃ e : Int × Str, IsPS h2 (.ref b) e.1 e.2 then Classical.choose c else (0, ⟨#[]⟩)) = _
    rw [dif_pos c]
    obtain ⟨i1, i2⟩ := isPS_inj (Classical.choose_spec c) (ps j b e hj he)
    exact Prod.ext i1 i2
  have at_ : ∀ v ∈ as.map Value.ref, ∃ (j : Nat) (b : Addr) (e : Ent), v = .ref b ∧ as[j]? = some b ∧ l[j]? = some e := by
    intro v hv'
    obtain ⟨b, hb, rfl⟩ := List.mem_map.mp hv'
    obtain ⟨j, hj⟩ := List.mem_iff_getElem?.mp hb
    obtain ⟨e, _, _, he, _⟩ := pr j b hj
    exact ⟨j, b, e, rfl, hj, he⟩
  refine wpAny_call_entry slot_list_sort ⟨_, hob, rfl⟩ entry_list_sort (list_sort_ord (s := { s with heap := h2, toks := tk }) (swo_I k) hob hz2 (fun h2l => ?_) fun out hs hb => ⟨_, rfl, ?_⟩) (args_list_sort _)
  · refine ps_sortable (s := { s with heap := h2, toks := tk }) (by omega) (fun v hv => ?_) (fun v hv u hu => ?_) fun o e => ?_
    · obtain ⟨j, b, e, rfl, hj, he⟩ := at_ v hv
      rw [kp j b e hj he]
      exact ps j b e hj he
    · obtain ⟨j, b, e, rfl, hj, he⟩ := at_ v hv
      obtain ⟨j2, b2, e2, rfl, hj2, he2⟩ := at_ u hu
      rw [kp j b e hj he, kp j2 b2 e2 hj2 he2]
      intro z
      exact congrArg Subtype.val (k1.one e (List.mem_of_getElem? he) e2 (List.mem_of_getElem? he2) z)
    · have e' : some o = some (seqObj "list" (as.map Value.ref).toArray 0) := e.symm.trans hob
      cases e'
      intro c
      exact absurd (Value.type.inj c) (by decide)
  · have ez : as.map Value.ref = (as.zip l).map fun z => Value.ref z.1 := by
      have m1 : (as.zip l).map Prod.fst = as := List.map_fst_zip (by omega)
      conv => lhs; rw [← m1]
      rw [List.map_map]
      rfl
    obtain ⟨zs, pz, hout⟩ := TR.perm_of_map (f := fun z : Addr × Ent => Value.ref z.1) (l := as.zip l) (ps := out) (by rw [← ez]; exact hb.perm)
    have idx : ∀ z ∈ zs, ∃ j : Nat, as[j]? = some z.1 ∧ l[j]? = some z.2 := by
      intro z' hz'
      obtain ⟨j, hj⟩ := List.mem_iff_getElem?.mp (pz.mem_iff.mp hz')
      exact ⟨j, List.getElem?_zip_eq_some.mp hj⟩
    have hperm : (zs.map (·.2)).Perm l := by
      have e := pz.map (·.2)
      have m2 : (as.zip l).map (·.2) = l := List.map_snd_zip (by omega)
      rw [m2] at e
      exact e
    have hsort : (zs.map (·.2)).Pairwise (fun e f => e.1 ≤ f.1) := by
      have o3 : (out).Pairwise (fun v u => ltI (k u) (k v) = false) := hs
      rw [hout, List.pairwise_map] at o3
      rw [List.pairwise_map]
      refine List.Pairwise.imp_of_mem (fun {x y} hx hy h => ?_) o3
      obtain ⟨j, j1, j2⟩ := idx x hx
      obtain ⟨i, i1, i2⟩ := idx y hy
      have h' : ltI (k (.ref y.1)) (k (.ref x.1)) = false := h
      rw [kp j _ _ j1 j2, kp i _ _ i1 i2] at h'
      have := of_decide_eq_false h'
      show x.2.1 ≤ y.2.1
      omega
    have es : zs.map (·.2) = sortE l := sortE_of k1.one hperm hsort
    -- behind the sort
    have kF : ∀ b o, b ≠ h'.objs.size → h2.get? b = some o → (sortedHeap h2 h'.objs.size (as.map Value.ref) out.toArray).get? b = some o := fun b o hb e => (PyProof.Rows.sortedHeap_old hb (Heap.lt_size e)).trans e
    have kS : ∀ b o, s.heap.get? b = some o → (sortedHeap h2 h'.objs.size (as.map Value.ref) out.toArray).get? b = some o := fun b o e => kF b o (ne0 _ _ (hk b o e)) (ka b o (hk b o e))
    obtain ⟨eF, heF⟩ := PyProof.Rows.sortedHeap_at (vs := as.map Value.ref) (out := out.toArray) hob
    have hlt : s.heap.objs.size ≤ h'.objs.size := Nat.le_of_lt hlt0
    have I1 : Inv X pins σ H { s with heap := sortedHeap h2 h'.objs.size (as.map Value.ref) out.toArray, toks := tk } := I.kept (t' := tk) kS
    have hn0 : H h'.objs.size = none := I.hok.fresh hlt
    have hlen : (zs.map fun z => V.ref z.1).length ≤ sizeLine := by
      have e := hperm.length_eq
      rw [List.length_map] at e
      rw [List.length_map]
      omega
    have rv : Vals (zs.map fun z => V.ref z.1) out.toArray.toList := by
      rw [hout]
      exact vals_maps (fun z : Addr × Ent => V.ref z.1) (fun z => Value.ref z.1) zs fun _ _ => rfl
    have I2 : Inv X pins σ (upd H h'.objs.size (.lst (zs.map fun z => V.ref z.1))) { s with heap := sortedHeap h2 h'.objs.size (as.map Value.ref) out.toArray, toks := tk } :=
      I1.take (h' := sortedHeap h2 h'.objs.size (as.map Value.ref) out.toArray) (t' := tk) (fun b ob _ e => e) (I.fpOk hlt hn0) ⟨hlen, out.toArray.toList, eF, rv, heF⟩
    obtain ⟨H2, I3, g, qt⟩ := DX.takeT (P := fun b vs => ∃ (j : Nat) (e : Ent), as[j]? = some b ∧ l[j]? = some e ∧ vs = [.int e.1, .str e.2.1]) I as _ I2 nd fun b hb => by
      obtain ⟨j, hj⟩ := List.mem_iff_getElem?.mp hb
      obtain ⟨e, t, u, he, hg⟩ := pr j b hj
      have hbl : s.heap.objs.size ≤ b := Nat.le_of_lt (hG.above b hb)
      refine ⟨hbl, ?_, [.int e.1, .str e.2.1], ⟨j, e, hj, he, rfl⟩, fun H3 => ⟨(by show 2 ≤ sizeLine; decide), [Value.int e.1 t, Value.str e.2.1 u], .cons ⟨_, rfl⟩ (.cons ⟨_, rfl⟩ .nil), ⟨_, kF _ _ (ne0 _ _ hg) (ka _ _ hg), rfl, 0, rfl⟩⟩⟩
      rw [upd_ne (ne0 _ _ hg)]
      exact I.hok.fresh hbl
    have gr : Ex H H2 := fun b o e => g b o (by rw [upd_ne (ne_of_none e hn0)]; exact e)
    refine ⟨.ref h'.objs.size, H2, I3, rfl, q H2 h'.objs.size _ gr hn0 (g _ _ upd_same) ?_⟩
    rw [← es]
    refine paired_zip _ _ (by rw [List.length_map, List.length_map]) fun j v e h1 h2 => ?_
    rw [List.getElem?_map] at h1 h2
    cases c : zs[j]? with
    | none => rw [c] at h1; cases h1
    | some z =>
      rw [c] at h1 h2
      cases h1
      cases h2
      obtain ⟨i, i1, i2⟩ := idx z (List.mem_of_getElem? c)
      obtain ⟨vs, ⟨j', e', j1, j2, ev⟩, hH⟩ := qt z.1 (List.mem_of_getElem? i1)
      have eij : i = j' := (List.getElem?_inj (List.getElem?_eq_some_iff.mp i1).1 nd).mp (i1.trans j1.symm)
      subst eij
      have ee : e' = z.2 := Option.some.inj (j2.symm.trans i2)
      rw [ev, ee] at hH
      exact ⟨z.1, rfl, I.hok.fresh (Nat.le_of_lt (hG.above z.1 (List.mem_of_getElem? i1))), hH⟩
end
end L2

/-! sorted(d) of a dict of numbers, any number of them -/
namespace L2
open PySem PySem.W PySem.Spec PyProof.Rows SrtO TR
section
variable {X : Cx}
noncomputable def rSortN : List V → Hp → VK → Prop := fun vs H Q => ∃ (b : Addr) (l : TR.Row), vs = [.ref b] ∧ H b = some (.dK (l.map kvE)) ∧ ∀ p, H p = none → Q (.ref p) (upd H p (.lst ((TR.sortI (l.map Prod.fst)).map V.int)))
theorem sortNA (hcm : X.calm = true) : CallR X (.builtin "sorted") rSortN := by
  intro pins s σ H vs us Q J r h
  obtain ⟨b, l, rfl, hb, q⟩ := h
  obtain rfl := Vals.ref1 r
  obtain ⟨hz, lo, kv, rel, dd⟩ := dk_rd J.hok (.inl hb)
  obtain ⟨ep, at_⟩ := dd.dictAt
  have hk : kv.map (·.1) = (l.map Prod.fst).map Sum.inl := by
    rw [← rel.keys, List.map_map, List.map_map]
    rfl
  have lk : kv.length = (l.map Prod.fst).length := by
    have := congrArg List.length hk
    rwa [List.length_map, List.length_map] at this
  have lz : (l.map Prod.fst).length ≤ sizeLine := by rw [List.length_map] at hz ⊢; exact hz
  refine Calls.call_function_entry kind_sorted plain_sorted entry_sorted (args_sorted1 _) ?_
  unfold Builtin.«sorted»
  refine wpAny_bind (m := checkCount "sorted" 1 1 _) (wpAny_pure ?_)
  have src := kdl_dict (prog := X.prog) (w := X.w) (knd := mixKind X.prog X.w) (kvs := kv) (ep := ep) lo
  refine wpAny_bind (kdu_collect (A := X.A.in1) src (J.ok.hd hcm) at_ (by omega) fun h1 tk acc kp ha => ?_)
  have la : acc.toList.length = (l.map Prod.fst).length := by rw [Array.length_toList, ha.1, lk]
  have hInts : IntsAre acc.toList (l.map Prod.fst) := ints_each la fun j v e => by
    obtain ⟨k, x, e1, e2⟩ := ha.2 j v (by rw [← Array.getElem?_toList]; exact e)
    have e3 : (kv.map (·.1))[j]? = some k := by rw [List.getElem?_map, e1]; rfl
    rw [hk, List.getElem?_map] at e3
    obtain ⟨y, e4, rfl⟩ := Option.map_eq_some_iff.mp e3
    obtain ⟨i, t, ek, ev⟩ | ⟨z, t, ek, ev⟩ := keyIs_shape (show keyIs (Sum.inl y) v = true from e2)
    · cases ek
      exact ⟨_, t, e4, ev⟩
    · cases ek
  have J1 : Inv X pins σ H { s with heap := h1, toks := tk } := J.kept kp
  refine wpAny_bind (wpAny_newList ?_ (by omega))
  have ho : (h1.push (seqObj "list" acc.toList.toArray 0)).get? h1.objs.size = some (seqObj "list" acc.toList.toArray 0) := Heap.get?_push_size _ rfl
  show wpAny _ _ _ _ _ { s with heap := h1.push (seqObj "list" acc.toList.toArray 0), toks := tk }
  refine wpAny_bind (wpAny_holding (wpAny_call_entry slot_list_sort ⟨_, ho, rfl⟩ entry_list_sort
    (list_sort_ord (s := { s with heap := h1.push (seqObj "list" acc.toList.toArray 0), toks := tk }) swo_int ho (by omega) (fun h2 => ints_sortable hInts h2) fun out hs hst => ⟨_, rfl, ?_⟩) (args_list_sort _)))
  obtain ⟨k1, k2, k3⟩ := ints_out hInts hs hst
  obtain ⟨e', he'⟩ := sortedHeap_at (vs := acc.toList) (out := out.toArray) ho
  rw [← TR.sortI_of k2 k3] at q
  have ln : ((out.map iv).map V.int).length ≤ sizeLine := by
    rw [List.length_map, k2.length_eq]
    exact lz
  refine wpAny_pure ⟨_, rfl, .ref h1.objs.size, upd H h1.objs.size (.lst ((out.map iv).map V.int)), J1.laid (t' := tk) (fun c u e => ?_) (Nat.le_refl _)
    (show ObjOk X.prog X.w _ _ _ (.lst ((out.map iv).map V.int)) from ⟨ln, out, e', vals_of_ints k1, he'⟩), rfl, q _ (J1.hok.fresh (Nat.le_refl _))⟩
  have hc : c < h1.objs.size := Heap.lt_size e
  rw [sortedHeap_old (Nat.ne_of_lt hc) (by rw [size_push']; exact Nat.lt_succ_of_lt hc)]
  exact Heap.get?_push_of_some _ e
end
end L2
namespace TR
open PySem L2
variable {Z H : Hp} {d : Addr} {l : Row} {Q : VK}
theorem t_sortN (z : Ex Z H) (h : H d = some (.dK (l.map kvE))) (q : ∀ p Z' H', H p = none → T [] Z H Z' H' → Ls Z' p (TR.sortI (l.map Prod.fst)) → Q (.ref p) H') : rSortN [.ref d] H Q :=
  ⟨d, l, rfl, h, fun p hp => q p _ _ hp (T.new hp z) (Ls.ofInts upd_same)⟩
end TR

/-! dicts of numbers and texts, in T -/
namespace TR
open PySem L2
/-- a dict that may be changed -/
structure Dm (Z H : Hp) (D : Addr) (l : Row) : Prop where
  h : H D = some (.dK (l.map kvE))
  zd : Z D = none
  zh : Ex Z H
noncomputable def setE (l : Row) (k : Int) (t : Tx) : Row := if k ∈ l.map Prod.fst then l.map (fun e => if e.1 = k then (e.1, t) else e) else l ++ [(k, t)]
theorem thingOf_nil {k : Int} : thingOf [] k = none := rfl
theorem thingOf_pos {e : Ent} {l : Row} {k : Int} (h : e.1 = k) : thingOf (e :: l) k = some e.2 := by
  unfold thingOf
  rw [List.filter_cons_of_pos (by simpa using h)]
  rfl
theorem thingOf_neg {e : Ent} {l : Row} {k : Int} (h : e.1 ≠ k) : thingOf (e :: l) k = thingOf l k := by
  unfold thingOf
  rw [List.filter_cons_of_neg (by simpa using h)]
theorem thing_in {k : Int} : ∀ {l : Row} {t : Tx}, thingOf l k = some t → (k, t) ∈ l
  | [], _, h => by cases h
  | e :: l, t, h => by
    by_cases c : e.1 = k
    · rw [thingOf_pos c] at h
      have : e = (k, t) := Prod.ext c (Option.some.inj h)
      rw [this]
      exact List.mem_cons_self
    · rw [thingOf_neg c] at h
      exact List.mem_cons_of_mem _ (thing_in h)
theorem thing_none {k : Int} : ∀ {l : Row}, thingOf l k = none ↔ k ∉ l.map Prod.fst
  | [] => by simp [thingOf_nil]
  | e :: l => by
    by_cases c : e.1 = k
    · rw [thingOf_pos c]
      simp [c]
    · rw [thingOf_neg c, thing_none, List.map_cons, List.mem_cons]
      exact ⟨fun h z => z.elim (fun e' => c e'.symm) h, fun h z => h (.inr z)⟩
theorem thingOf_mem {k : Int} {t : Tx} {l : Row} (h : Keys1 l) (m : (k, t) ∈ l) : thingOf l k = some t := by
  cases c : thingOf l k with
  | none => exact absurd (List.mem_map_of_mem m) (thing_none.mp c)
  | some t' => exact congrArg some (h.one _ (thing_in c) _ m rfl)
theorem valV_E {k : Int} : ∀ l : Row, valV (l.map kvE) (Sum.inl k) = (thingOf l k).map fun t => V.str t.1
  | [] => rfl
  | e :: l => by
    by_cases c : e.1 = k
    · rw [List.map_cons, valV_pos (show (kvE e).1 = Sum.inl k from congrArg Sum.inl c), thingOf_pos c]
      rfl
    · rw [List.map_cons, valV_neg (fun z => c (Sum.inl.inj z)), thingOf_neg c]
      exact valV_E l
theorem any_E {k : Int} (l : Row) : ((l.map kvE).any fun kv => decide (kv.1 = (Sum.inl k : L2.Key))) = decide (k ∈ l.map Prod.fst) := by
  rw [valV_any, valV_E]
  cases c : thingOf l k with
  | none => rw [decide_eq_false (thing_none.mp c)]; rfl
  | some t => rw [decide_eq_true (List.mem_map_of_mem (f := Prod.fst) (thing_in c))]; rfl
theorem putK_E {k : Int} {t : Tx} (l : Row) : putK (l.map kvE) (Sum.inl k) (.str t.1) = (setE l k t).map kvE := by
  unfold putK setE
  rw [any_E]
  by_cases c : k ∈ l.map Prod.fst
  · rw [if_pos (decide_eq_true c), if_pos c, List.map_map, List.map_map]
    refine List.map_congr_left fun e _ => ?_
    show (if (kvE e).1 = Sum.inl k then ((kvE e).1, V.str t.1) else kvE e) = kvE (if e.1 = k then (e.1, t) else e)
    by_cases ce : e.1 = k
    · rw [if_pos (show (kvE e).1 = Sum.inl k from congrArg Sum.inl ce), if_pos ce]
      rfl
    · rw [if_neg (show ¬ (kvE e).1 = Sum.inl k from fun z => ce (Sum.inl.inj z)), if_neg ce]
  · rw [if_neg (fun z => c (of_decide_eq_true z)), if_neg c, List.map_append]
    rfl
theorem dropK_E {k : Int} (l : Row) : dropK (l.map kvE) (Sum.inl k) = (outE l k).map kvE := by
  unfold dropK outE
  rw [List.filter_map]
  congr 1
  refine List.filter_congr fun e _ => ?_
  show decide ((kvE e).1 ≠ Sum.inl k) = decide (e.1 ≠ k)
  by_cases c : e.1 = k
  · rw [decide_eq_false (show ¬ ((kvE e).1 ≠ Sum.inl k) from fun z => z (congrArg Sum.inl c)), decide_eq_false (show ¬ (e.1 ≠ k) from fun z => z c)]
  · rw [decide_eq_true (show (kvE e).1 ≠ Sum.inl k from fun z => c (Sum.inl.inj z)), decide_eq_true (show e.1 ≠ k from c)]
theorem setE_perm {k : Int} {t : Tx} : ∀ {l : Row}, Keys1 l → (setE l k t).Perm (putE l k t) := by
  intro l h
  unfold setE putE
  by_cases c : k ∈ l.map Prod.fst
  · rw [if_pos c]
    obtain ⟨⟨k', t0⟩, he, ek⟩ := List.mem_map.mp c
    have ek' : k' = k := ek
    subst ek'
    obtain ⟨a, b, rfl⟩ := List.append_of_mem he
    have h' : ((a ++ (k', t0) :: b).map Prod.fst).Nodup := h
    rw [List.map_append, List.map_cons] at h'
    obtain ⟨h1, h2, h3⟩ := List.nodup_append.mp h'
    have na : ∀ e ∈ a, e.1 ≠ k' := fun e he => h3 _ (List.mem_map_of_mem he) _ List.mem_cons_self
    have nb : ∀ e ∈ b, e.1 ≠ k' := fun e he z => (List.nodup_cons.mp h2).1 (by show k' ∈ _; rw [← z]; exact List.mem_map_of_mem he)
    have m1 : ∀ l : Row, (∀ e ∈ l, e.1 ≠ k') → l.map (fun e => if e.1 = k' then (e.1, t) else e) = l := fun l hl => by
      conv => rhs; rw [← List.map_id l]
      exact List.map_congr_left fun e he => if_neg (hl e he)
    have m2 : ∀ l : Row, (∀ e ∈ l, e.1 ≠ k') → outE l k' = l := fun l hl => List.filter_eq_self.mpr fun e he => decide_eq_true (hl e he)
    have o1 : outE (a ++ (k', t0) :: b) k' = a ++ b := by
      have : outE (a ++ (k', t0) :: b) k' = outE a k' ++ outE b k' := by
        unfold outE
        rw [List.filter_append, List.filter_cons_of_neg (by simp)]
      rw [this, m2 a na, m2 b nb]
    rw [List.map_append, List.map_cons, m1 a na, m1 b nb, if_pos rfl, o1]
    exact List.perm_middle.trans (List.perm_append_singleton _ _).symm
  · rw [if_neg c]
    have : outE l k = l := List.filter_eq_self.mpr fun e he => decide_eq_true fun z => c (z ▸ List.mem_map_of_mem he)
    rw [this]
theorem keys_set {l : Row} {k : Int} {t : Tx} (h : Keys1 l) : Keys1 (setE l k t) := (keys_put h).perm (setE_perm h)
theorem setE_len {l : Row} {k : Int} {t : Tx} : (setE l k t).length ≤ l.length + 1 := by
  unfold setE
  by_cases c : k ∈ l.map Prod.fst
  · rw [if_pos c, List.length_map]; omega
  · rw [if_neg c, List.length_append]; exact Nat.le_refl _
theorem setE_mem {l : Row} {k : Int} {t : Tx} {e : Ent} (h : Keys1 l) : e ∈ setE l k t ↔ (e ∈ l ∧ e.1 ≠ k) ∨ e = (k, t) := by
  rw [(setE_perm h).mem_iff]
  unfold putE
  rw [List.mem_append, outE_mem, List.mem_singleton]
/-! the rules -/
theorem pe_mono {X : Cx} {e : Expr} {t t' : TE} (h : PE X e t) (f : ∀ σ H Q, t' σ H Q → t σ H Q) : PE X e t' := ⟨fun pins s σ H Q I hq => h.run pins s σ H Q I (f σ H Q hq)⟩
noncomputable def rSI (x : V) (H : Hp) (Q : VK) : Prop := ∃ (d : Addr) (l : Row), x = .ref d ∧ H d = some (.dK (l.map kvE)) ∧ Keys1 l ∧
  ∀ (H' : Hp) (q : Addr) (ws : List V), Ex H H' → H q = none → H' q = some (.lst ws) → Paired (fun v (e : Ent) => ∃ t, v = V.ref t ∧ H t = none ∧ H' t = some (.tup [.int e.1, .str e.2.1])) ws (sortE l) → Q (.ref q) H'
noncomputable def tSI (te : TE) : TE := fun σ H Q => te σ H fun x H1 => rSI x H1 Q
theorem pe_sortedItems {X : Cx} {o : Expr} {te : TE} {p apos cpos pos : Pos} (hc : X.calm = true) (he : PE X o te) (hg : Gl X "sorted") (hm : X.mg "sorted" = none)
    (hbase : attributeBase o "items" X.env (eval o X.env) = eval o X.env := by rfl) (hline : (apos.endLine == cpos.line) = true := by rfl)
    (hs : starEach [.Call (.Attribute o "items" apos) [] [] cpos] X.env = (false, eval (.Call (.Attribute o "items" apos) [] [] cpos) X.env) :: starEach [] X.env := by rfl) (hpl : (backTo pos (starEach [] X.env)).any (·.1) = false := by rfl) :
    PE X (.Call (.Name "sorted" p) [.Call (.Attribute o "items" apos) [] [] cpos] [] pos) (tSI te) := by
  have ht : PE X o (fun σ H Q' => ∃ Q0 : VK, te σ H Q0 ∧ ∀ x H1, Q0 x H1 → Q' x H1) := ⟨fun pins s σ H Q I ⟨Q0, h1, h2⟩ => wpAny_mono (he.run pins s σ H Q0 I h1) (fun u s' ⟨x, H', I', r, q⟩ => ⟨x, H', I', r, h2 x H' q⟩) fun _ _ e => e⟩
  refine pe_mono (pe_callB (id := "sorted") (cr_sortedItemsK hc) hg hm (by decide +kernel) (pa_cons (pe_bm0 PySem.F.plainAttrs_dict PySem.F.slot_dict_items PySem.F.type_dict_items mt_itemsK ht hbase hline) pa_nil) (by decide) (by decide) hs hpl) fun σ H Q h => ?_
  refine ⟨fun x H1 => rSI x H1 Q, h, fun x H1 h => ?_⟩
  obtain ⟨d, l, rfl, hd, k1, q⟩ := h
  refine ⟨.inr (.inr (.inl ⟨rfl, .inl ⟨_, hd⟩⟩)), d, _, rfl, rfl, hd, fun p hp => ?_⟩
  refine ⟨p, d, l, rfl, upd_same, by rw [upd_ne (ne_of_none hd hp)]; exact hd, k1, fun H' q' ws e n f pr => ?_⟩
  have un : ∀ b, upd H1 p (DX.itemsO p d) b = none → H1 b = none := fun b hb => by
    by_cases c : b = p
    · rw [c, upd_same] at hb; cases hb
    · rw [upd_ne c] at hb; exact hb
  refine q H' q' ws ((Ex.new hp).trans e) (un _ n) f ?_
  exact Paired.mapP pr fun v x ⟨t, h1, h2, h3⟩ => ⟨t, h1, un _ h2, h3⟩
section
variable {K : PySem.W.Frag} {M : List Addr} {Z H Z' H' : Hp} {p a d D : Addr} {l : Row} {k : Int} {t : Tx} {Q : VK}
theorem Dm.at_ (a : Dm Z H D l) : ∃ o, H D = some o := ⟨_, a.h⟩
theorem Dm.mu (a : Dm Z H D l) : Mu Z H D := ⟨a.zd, a.at_⟩
theorem Dm.tt (t : T M Z H Z' H') (nm : D ∉ M) (a : Dm Z H D l) : Dm Z' H' D l := ⟨t.m _ _ nm a.h, t.fr _ nm a.zd a.at_, t.zh⟩
theorem Dm.frq (a : Dm Z H D l) : ∃ Z' H', H' = H ∧ T [D] Z H Z' H' ∧ Z' D = some (.dK (l.map kvE)) := ⟨_, H, rfl, T.fz a.zh a.zd a.h, upd_same⟩
theorem s_SI {te : TE} {σ : L2.St} (q : te σ H fun x H1 => rSI x H1 Q) : tSI te σ H Q := q
noncomputable def rDict (K : PySem.W.Frag) : List V → Hp → VK → Prop := fun xs H Q => ∃ (a : Addr) (ps : List Addr) (kvs : List (L2.Key × V)), xs = [.ref a] ∧ SqL K H a (ps.map V.ref) ∧ Paired (fun p kv => SqT K H p [kV kv.1, kv.2]) ps kvs ∧ ∀ p, H p = none → Q (.ref p) (upd H p (.dK (mergeK [] kvs)))
noncomputable def rDictD : List V → Hp → VK → Prop := fun xs H Q => ∃ (a : Addr) (kvs : List (L2.Key × V)), xs = [.ref a] ∧ Rd H a (.dK kvs) ∧ ∀ p, H p = none → Q (.ref p) (upd H p (.dK kvs))
noncomputable def rSortD : List V → Hp → VK → Prop := fun xs H Q => ∃ (a : Addr) (kvs : List (L2.Key × V)) (ks : List Int), xs = [.ref a] ∧ Rd H a (.dK kvs) ∧ kvs.map (·.1) = ks.map Sum.inl ∧ ks.length < 64 ∧ ∀ (ys : List Int) (p : Addr), ys.Perm ks → ys.Pairwise (· ≤ ·) → H p = none → Q (.ref p) (upd H p (.lst (ys.map V.int)))
noncomputable def rLenDm : List V → Hp → VK → Prop := fun xs H Q => ∃ a kvs, xs = [V.ref a] ∧ H a = some (.dK kvs) ∧ Q (.int kvs.length) H
theorem lenDA {X : Cx} : CallR X (.builtin "len") rLenDm := call_lenD
theorem Dm.new (n : H p = none) (z : Ex Z H) : T [] Z H Z (upd H p (.dK (l.map kvE))) ∧ Dm Z (upd H p (.dK (l.map kvE))) p l := by
  have t : T [] Z H Z (upd H p (.dK (l.map kvE))) := T.newM n z
  exact ⟨t, upd_same, Ex.back z n, t.zh⟩
theorem t_dnew (z : Ex Z H) (q : ∀ p Z' H', H p = none → T [] Z H Z' H' → Dm Z' H' p [] → Q (.ref p) H') {σ : L2.St} : tDNewK σ H Q := fun p hp => q p _ _ hp (Dm.new (l := []) hp z).1 (Dm.new (l := []) hp z).2
theorem t_lenD (h : H d = some (.dK (l.map kvE))) (q : Q (.int (l.length : Int)) H) : rLenDm [.ref d] H Q := ⟨d, _, rfl, h, by rw [List.length_map]; exact q⟩
noncomputable def DGb (x y : V) (H : Hp) (Q : VK) : Prop := ∃ a o, x = .ref a ∧ DGet H a y o ∧ Q (o.getD .non) H
noncomputable def DGa (ty : TE) (σ : L2.St) (x : V) (H1 : Hp) (Q : VK) : Prop := ∃ a, x = .ref a ∧ IsD H1 a ∧ ty σ H1 fun y H2 => ∃ o, DGet H2 a y o ∧ Q (o.getD .non) H2
noncomputable def DIx (x y : V) (H : Hp) (Q : VK) : Prop := ∃ a v, x = .ref a ∧ DGet H a y (some v) ∧ Q v H
noncomputable def DInn (y x : V) (H : Hp) (Q : VK) : Prop := ∃ a o, x = .ref a ∧ DGet H a y o ∧ Q (.bl o.isSome) H
noncomputable def DNin (y x : V) (H : Hp) (Q : VK) : Prop := ∃ a o, x = .ref a ∧ DGet H a y o ∧ Q (.bl (!o.isSome)) H
noncomputable def DPa (ty : TE) (σ : L2.St) (x : V) (H1 : Hp) (Q : VK) : Prop := ∃ a, x = .ref a ∧ IsD H1 a ∧ ty σ H1 fun y H2 => ∃ kvs k v, H2 a = some (.dK kvs) ∧ y = kV k ∧ valV kvs k = some v ∧ Q v (upd H2 a (.dK (dropK kvs k)))
theorem s_dix {td ty : TE} {σ : L2.St} (q : td σ H fun x H1 => ty σ H1 fun y H2 => DIx x y H2 Q) : tDGet td ty σ H Q := q
theorem s_din {td ty : TE} {σ : L2.St} (q : ty σ H fun y H1 => td σ H1 fun x H2 => DInn y x H2 Q) : tDIn ty td σ H Q := q
theorem s_dnin {td ty : TE} {σ : L2.St} (q : ty σ H fun y H1 => td σ H1 fun x H2 => DNin y x H2 Q) : tDNotIn ty td σ H Q := q
theorem s_dpop1 {td ty : TE} {σ : L2.St} (q : td σ H fun x H1 => DPa ty σ x H1 Q) : tDPop1 td ty σ H Q := q
theorem t_dix (h : H d = some (.dK (l.map kvE))) (e : thingOf l k = some t) (q : Q (.str t.1) H) : DIx (.ref d) (.int k) H Q := by
  refine ⟨d, _, rfl, ?_, q⟩
  have := DGet.k (k := Sum.inl k) h
  rw [valV_E, e] at this
  exact this
theorem t_din (h : H d = some (.dK (l.map kvE))) (q : Q (.bl (decide (k ∈ l.map Prod.fst))) H) : DInn (.int k) (.ref d) H Q := by
  refine ⟨d, _, rfl, DGet.k (k := Sum.inl k) h, ?_⟩
  rw [← any_E, valV_any] at q
  exact q
theorem t_dnin (h : H d = some (.dK (l.map kvE))) (q : Q (.bl (!decide (k ∈ l.map Prod.fst))) H) : DNin (.int k) (.ref d) H Q := by
  refine ⟨d, _, rfl, DGet.k (k := Sum.inl k) h, ?_⟩
  rw [← any_E, valV_any] at q
  exact q
theorem t_dput {R : Hp → Prop} (a : Dm Z H D l) (hz : l.length < 100000) (q : ∀ Z' H', T [D] Z H Z' H' → Dm Z' H' D (setE l k t) → R H') : DP (.ref D) (.int k) (.str t.1) H R := by
  refine ⟨D, _, rfl, DPut.k (k := Sum.inl k) a.h (sz_lt (by rw [List.length_map]; exact hz)), ?_⟩
  rw [putK_E]
  have tt : T [D] Z H Z (upd H D (.dK ((setE l k t).map kvE))) := T.set a.mu a.zh
  exact q Z _ tt ⟨upd_same, a.zd, tt.zh⟩
theorem t_dpa {σ : L2.St} {i : Nat} (a : Dm Z H D l) (e : σ[i]? = some (some (.int k))) (m : thingOf l k = some t) (q : ∀ Z' H', T [D] Z H Z' H' → Dm Z' H' D (outE l k) → Q (.str t.1) H') : DPa (tVar i) σ (.ref D) H Q := by
  refine ⟨D, rfl, .inl ⟨_, .inl a.h⟩, .int k, e, _, Sum.inl k, .str t.1, a.h, rfl, by rw [valV_E, m]; rfl, ?_⟩
  rw [dropK_E]
  have tt : T [D] Z H Z (upd H D (.dK ((outE l k).map kvE))) := T.set a.mu a.zh
  exact q Z _ tt ⟨upd_same, a.zd, tt.zh⟩
end
end TR
namespace TR
open PySem L2
end TR

/-! a comprehension over a dict's keys -/
namespace TR
open PySem L2
section
variable {K : PySem.W.Frag} {σ : L2.St} {Z H : Hp} {tt : TT} {te td : TE} {Q : VK} {g : TG} {vs : List Nat} {d : Addr} {l : Row}
noncomputable def keepAt (l : Row) (p : Ent → Bool) (i : Nat) : Bool := ((l[i]?).map p).getD false
theorem keepAt_some {l : Row} {p : Ent → Bool} {i : Nat} {e : Ent} (h : l[i]? = some e) : keepAt l p i = p e := by
  unfold keepAt
  rw [h]
  rfl
theorem keepAt_list : ∀ (l : Row) (p : Ent → Bool), ((List.range l.length).filter (keepAt l p)).filterMap (fun i => l[i]?) = l.filter p
  | [], p => rfl
  | e :: l, p => by
    have ih := keepAt_list l p
    rw [List.length_cons, List.range_succ_eq_map]
    have e1 : ((List.range l.length).map Nat.succ).filter (keepAt (e :: l) p) = ((List.range l.length).filter (keepAt l p)).map Nat.succ := by
      rw [List.filter_map]
      rfl
    have e2 : (((List.range l.length).filter (keepAt l p)).map Nat.succ).filterMap (fun i => (e :: l)[i]?) = ((List.range l.length).filter (keepAt l p)).filterMap (fun i => l[i]?) := by
      rw [List.filterMap_map]
      rfl
    have k0 : keepAt (e :: l) p 0 = p e := rfl
    by_cases c : p e = true
    · rw [List.filter_cons_of_pos (by rw [k0]; exact c), List.filterMap_cons, e1, e2, ih, List.filter_cons_of_pos c]
      rfl
    · rw [List.filter_cons_of_neg (by rw [k0]; exact c), e1, e2, ih, List.filter_cons_of_neg c]
theorem c_keepD {γ : Type} [Py γ] (a : Dm Z H d l) (hz : l.length ≤ 40000) (p : Ent → Bool) (f : Ent → γ)
    (htd : ∀ (H1 : Hp) (Q : VK), (∀ b o, b ≠ d → H b = some o → H1 b = some o) → Q (.ref d) H1 → td σ H1 Q)
    (turn : ∀ (i : Nat) e, l[i]? = some e → ∀ Z1 H1, T [d] Z H Z1 H1 → ∀ (A : VK) (B : Hp → Prop), (p e = true → ∀ y Z3 H3, T [] Z1 H1 Z3 H3 → Ik Z3 y (f e) → A y H3) → (p e = false → ∀ Z3 H3, T [] Z1 H1 Z3 H3 → B H3) →
      g (.int e.1) (wipe σ vs) H1 fun σ2 H2 => wipe σ2 vs = wipe σ vs ∧ tt σ2 H2 fun b H3 => if b = true then te σ2 H3 A else B H3)
    (fin : ∀ D Z' H', H D = none → T [d] Z H Z' H' → Dm Z' H' d l → Ls Z' D ((l.filter p).map f) → Q (.ref D) H') : tLockE (tLc (iKeys td) g tt te vs) σ H Q := by
  refine ⟨d, _, a.h, trivial, fun od => ?_⟩
  have t0 : T [d] Z H Z (upd H d (.frz od (.dK (l.map kvE)))) := T.set a.mu a.zh
  refine htd _ _ (fun b o hb e => by rw [upd_ne hb]; exact e) ⟨d, od, rfl, .inl ⟨_, upd_same, ?_⟩⟩
  change LcJ g tt te vs σ (Itk d od (l.map kvE)) (upd H d (.frz od (.dK (l.map kvE)))) (fun v H' => H' d = some (.frz od (.dK (l.map kvE))) ∧ Q v (upd H' d (.dK (l.map kvE))))
  refine lcT (J := Itk d od (l.map kvE)) (n := l.length) (M := []) (Z := Z) (keepAt l p) (fun _ _ _ => True) (fun i (x : γ) y Z => (∃ b, l[i]? = some b ∧ x = f b) ∧ Ik Z y x) (fun i x y Z1 Z2 e r => ⟨r.1, Ik.ex e r.2⟩) (fun _ _ _ _ _ _ _ _ => trivial) hz t0.zh (fun _ h => absurd h List.not_mem_nil) trivial
    (fun i Z1 H1 hi t => ⟨t.m _ _ nm_nil upd_same, by rw [List.length_map]; exact hi⟩) (fun Z1 H1 t => ⟨t.m _ _ nm_nil upd_same, by rw [List.length_map]; exact Nat.le_refl _⟩) (fun i hi D Z1 H1 t nD mu _ v H2 hy A B hA hB => ?_) (fun D ys L Z' H' nD t mu f1 _ hL pr => ?_)
  · obtain ⟨rfl, k, v2, hk, rfl⟩ := hy
    rw [List.getElem?_map] at hk
    cases c : l[i]? with
    | none => rw [c] at hk; cases hk
    | some e =>
      rw [c] at hk
      cases hk
      refine turn i e c Z1 _ (t0.step t (fun x hx => absurd hx List.not_mem_nil)) A B (fun hp y Z3 H3 t3 iy => hA ?_ (f e) y Z3 H3 t3 trivial ⟨⟨e, c, rfl⟩, iy⟩) (fun hp Z3 H3 t3 => hB ?_ Z3 H3 t3 trivial)
      · rw [keepAt_some c]; exact hp
      · rw [keepAt_some c]; exact hp
  · have e2 : L.map Prod.snd = (l.filter p).map f := by
      rw [kept_snd (xs := l) (f := f) (fun q hq => by
        obtain ⟨y, hy⟩ := paired_r pr q hq
        exact hy.1), hL]
      rw [keepAt_list]
    have hd : H' d = some (.frz od (.dK (l.map kvE))) := t.m _ _ nm_nil upd_same
    have la : Lm Z' H' D ((l.filter p).map f) := ⟨⟨ys, f1, by rw [← e2]; exact paired_mapR (Paired.mapP pr fun y q h => h.2)⟩, mu.z, t.zh⟩
    refine ⟨hd, ?_⟩
    have nd : D ≠ d := fun z => by rw [z, upd_same] at nD; cases nD
    have nD0 : H D = none := by rw [upd_ne nd] at nD; exact nD
    obtain ⟨Z2, t2, ls⟩ := la.frz
    have t02 : T [d] Z H Z2 H' := (t0.step t (fun x hx => absurd hx List.not_mem_nil)).step t2 (mm_cons (.inr nD0) mm_nil)
    have zd2 : Z2 d = none := by
      have m1 : Mu Z' H' d := T.mu t nm_nil ⟨a.zd, ⟨_, upd_same⟩⟩
      exact t2.fr d (nm_cons (Ne.symm nd) nm_nil) m1.z m1.a
    have t3 : T [d] Z2 H' Z2 (upd H' d (.dK (l.map kvE))) := T.set ⟨zd2, ⟨_, hd⟩⟩ t02.zh
    exact fin D Z2 _ nD0 (t02.step t3 mm_same) ⟨upd_same, zd2, t3.zh⟩ ls
end
end TR

/-! how many rooms so many keys ask -/
namespace TR
noncomputable def roomsFor (c f : Int) : Int := max 1 (-((-c) / f))
theorem roomsFor_spec {c f : Int} (h : 0 < f) (hc : 0 ≤ c) : 1 ≤ roomsFor c f ∧ c ≤ f * roomsFor c f ∧ (roomsFor c f = 1 ∨ f * (roomsFor c f - 1) < c) := by
  unfold roomsFor
  have h1 := Int.mul_ediv_add_emod (-c) f
  have h2 := Int.emod_nonneg (-c) (Int.ne_of_gt h)
  have h3 := Int.emod_lt_of_pos (-c) h
  generalize hq : (-c) / f = q at *
  generalize (-c) % f = r at *
  have e1 : f * (-q) = -(f * q) := Int.mul_neg f q
  have e2 : f * (-q - 1) = -(f * q) - f := by rw [Int.mul_sub, e1, Int.mul_one]
  by_cases hm : 1 ≤ -q
  · have e3 : max 1 (-q) = -q := by omega
    rw [e3, e1, e2]
    omega
  · have e3 : max 1 (-q) = 1 := by omega
    have h4 : 0 ≤ f * q := Int.mul_nonneg (by omega) (by omega)
    rw [e3, Int.mul_one]
    omega
theorem roomsFor_step {c f : Int} (h : 0 < f) (hc : 0 ≤ c) : roomsFor (c + 1) f = roomsFor c f ∨ roomsFor (c + 1) f = roomsFor c f + 1 := by
  obtain ⟨a1, a2, a3⟩ := roomsFor_spec h hc
  obtain ⟨b1, b2, b3⟩ := roomsFor_spec h (show 0 ≤ c + 1 by omega)
  generalize roomsFor c f = m at *
  generalize roomsFor (c + 1) f = n at *
  have l1 : m ≤ n := by
    apply Decidable.byContradiction
    intro hn
    have hm : n ≤ m - 1 := by omega
    have := Int.mul_le_mul_of_nonneg_left hm (Int.le_of_lt h)
    omega
  have l2 : n ≤ m + 1 := by
    apply Decidable.byContradiction
    intro hn
    have hm : m ≤ n - 1 - 1 := by omega
    have := Int.mul_le_mul_of_nonneg_left hm (Int.le_of_lt h)
    have e : f * (n - 1 - 1) = f * (n - 1) - f := by rw [Int.mul_sub f (n - 1) 1, Int.mul_one]
    omega
  omega
end TR

namespace TR
/-- keys told apart by their rooms, each room's in their order -/
noncomputable def spl (l : List Int) (n : Int) : List (List Int) := (List.range n.toNat).map fun (r : Nat) => l.filter fun x => decide (roomOf x n = (r : Int))
theorem spl_len (l : List Int) (n : Int) : (spl l n).length = n.toNat := by
  unfold spl
  rw [List.length_map, List.length_range]
theorem spl_at {l : List Int} {n : Int} {i : Nat} {r : List Int} (h : (spl l n)[i]? = some r) : i < n.toNat ∧ r = l.filter fun x => decide (roomOf x n = (i : Int)) := by
  have hi := (List.getElem?_eq_some_iff.mp h).1
  rw [spl_len] at hi
  unfold spl at h
  rw [List.getElem?_map, List.getElem?_range hi] at h
  exact ⟨hi, (Option.some.inj h).symm⟩
theorem spl_get {l : List Int} {n : Int} {i : Nat} (h : i < n.toNat) : (spl l n)[i]? = some (l.filter fun x => decide (roomOf x n = (i : Int))) := by
  unfold spl
  rw [List.getElem?_map, List.getElem?_range h]
  rfl
theorem spl_snoc (l : List Int) {n key : Int} (hn : 1 ≤ n) : ∃ r, (spl l n)[(roomOf key n).toNat]? = some r ∧ (spl l n).set (roomOf key n).toNat (r ++ [key]) = spl (l ++ [key]) n ∧ r.length ≤ l.length := by
  have h := roomOf_range (key := key) hn
  have hk : (roomOf key n).toNat < n.toNat := by omega
  refine ⟨_, spl_get hk, ?_, List.length_filter_le _ _⟩
  apply List.ext_getElem?
  intro i
  rw [List.getElem?_set]
  split
  · rename_i e
    subst e
    rw [if_pos (by rw [spl_len]; exact hk), spl_get hk, List.filter_append]
    congr 2
    rw [List.filter_cons_of_pos (by rw [decide_eq_true]; omega)]
    rfl
  · rename_i e
    by_cases hi : i < n.toNat
    · rw [spl_get hi, spl_get hi, List.filter_append, List.filter_cons_of_neg (by rw [decide_eq_false (by omega)]; exact Bool.false_ne_true)]
      simp
    · rw [List.getElem?_eq_none (by rw [spl_len]; omega), List.getElem?_eq_none (by rw [spl_len]; omega)]
end TR

/-! tables: what an instance of Table is, in T -/
namespace TR
open PySem L2
/-- a value's kind -/
inductive KindV (K : PySem.W.Frag) (H : Hp) : V → String → Prop
  | int (i : Int) : KindV K H (.int i) "int"
  | bl (b : Bool) : KindV K H (.bl b) "bool"
  | str (x : Str) (h : x.length ≤ 100000) : KindV K H (.str x) "str"
  | non : KindV K H .non "NoneType"
  | lst {a : Addr} {xs : List V} (h : SqL K H a xs) : KindV K H (.ref a) "list"
  | tup {a : Addr} {xs : List V} (h : SqT K H a xs) : KindV K H (.ref a) "tuple"
  | dct {a : Addr} {l : List (L2.Key × V)} (h : H a = some (.dK l)) : KindV K H (.ref a) "dict"
theorem s_isiDk {K : PySem.W.Frag} {H : Hp} {Q : VK} {n : String} {a : Addr} {l : List (L2.Key × V)} {b : Bool} (hs : H a = some (.dK l)) (h : kitB "dict" n = some b) (q : Q (.bl b) H) : rIsi K [.ref a, .ty n] H Q := ⟨.ref a, .ty n, _, _, b, rfl, .ty n, .base (.dK hs), kit_ty h, q⟩
theorem k_di : kitB "dict" "int" = some false := by decide +kernel
theorem k_ds : kitB "dict" "str" = some false := by decide +kernel
theorem k_db : kitB "dict" "bool" = some false := by decide +kernel
noncomputable def rListDm : List V → Hp → VK → Prop := fun xs H Q => ∃ p kvs, xs = [.ref p] ∧ H p = some (.dK kvs) ∧ ∀ q, H q = none → Q (.ref q) (upd H q (.lst (kvs.map fun kv => kV kv.1)))
theorem listDA {X : Cx} (hc : X.calm = true) : CallR X (.type "list") rListDm := call_list_dK hc
theorem t_listD {Z H : Hp} {d : Addr} {l : Row} {Q : VK} (z : Ex Z H) (h : H d = some (.dK (l.map kvE))) (q : ∀ p Z' H', H p = none → T [] Z H Z' H' → Ls Z' p (l.map Prod.fst) → Q (.ref p) H') : rListDm [.ref d] H Q :=
  ⟨d, _, rfl, h, fun p hp => q p _ _ hp (T.new hp z) (Ls.ofInts (by rw [upd_same, List.map_map, List.map_map]; rfl))⟩
noncomputable def wholeV : V → Bool
  | .int _ => true
  | _ => false
noncomputable def keyV : V → Bool
  | .int i => decide (0 ≤ i ∧ i < 1152921504606846976)
  | _ => false
noncomputable def sizeV : V → Bool
  | .int i => decide (1 ≤ i ∧ i ≤ 8)
  | _ => false
noncomputable def nameV : V → Bool
  | .str x => nameB x
  | _ => false
section
variable {K : PySem.W.Frag} {Z H Z' H' : Hp} {M : List Addr} {v : V} {n : String}
theorem KindV.ex (h : KindV K H v n) (e : Ex H H') : KindV K H' v n := by
  cases h with
  | int i => exact .int i
  | bl b => exact .bl b
  | str x h => exact .str x h
  | non => exact .non
  | lst h => exact .lst (e.sq h)
  | tup h => exact .tup (e.st h)
  | dct h => exact .dct (e _ _ h)
theorem KindV.cases' {motive : Prop} (h : KindV K H v n) (int : ∀ i, v = .int i → motive) (other : wholeV v = false → motive) : motive := by
  cases h with
  | int i => exact int i rfl
  | bl b => exact other rfl
  | str x h => exact other rfl
  | non => exact other rfl
  | lst h => exact other rfl
  | tup h => exact other rfl
  | dct h => exact other rfl
end
theorem keyV_no {v : V} (h : wholeV v = false) : keyV v = false := by
  cases v <;> first | rfl | cases h
theorem sizeV_no {v : V} (h : wholeV v = false) : sizeV v = false := by
  cases v <;> first | rfl | cases h
/-- the attributes of a table -/
noncomputable def tfs (w f : V) (D : Addr) : List (Str × V) := [("wide", w), ("fill", f), ("things", .ref D)]
structure Tb (K : PySem.W.Frag) (Z H : Hp) (a D : Addr) (w f : Int) (l : Row) : Prop where
  at_ : ∃ dx, Z a = some (.ins (clsA K "Table") dx (tfs (.int w) (.int f) D))
  dm : Dm Z H D l
  k1 : Keys1 l
  w0 : 1 ≤ w ∧ w ≤ 8
  f0 : 1 ≤ f ∧ f ≤ 8
  le : l.length ≤ 64
  ks : ∀ e ∈ l, 0 ≤ e.1 ∧ e.1 < 1152921504606846976
/-- how many rooms a table has | a room's keys -/
noncomputable def roomsT (f : Int) (l : Row) : Int := roomsFor (l.length : Int) f
noncomputable def keysT_ (f : Int) (l : Row) (r : Int) : List Int := sortI ((l.filter fun e => decide (roomOf e.1 (roomsT f l) = r)).map Prod.fst)
section
variable {K : PySem.W.Frag} {Z H Z' H' : Hp} {M : List Addr} {a D p : Addr} {w f : Int} {l : Row} {Q : VK} {E : XK}
theorem Tb.tt (t : T M Z H Z' H') (nm : D ∉ M) (h : Tb K Z H a D w f l) : Tb K Z' H' a D w f l := by
  obtain ⟨⟨dx, e⟩, h2, h3, h4, h5, h6, h7⟩ := h
  exact ⟨⟨dx, t.z _ _ e⟩, h2.tt t nm, h3, h4, h5, h6, h7⟩
theorem Tb.dm' (h : Tb K Z H a D w f l) {l' : Row} (dm : Dm Z' H' D l') (e : Ex Z Z') (k1 : Keys1 l') (le : l'.length ≤ 64) (ks : ∀ e ∈ l', 0 ≤ e.1 ∧ e.1 < 1152921504606846976) : Tb K Z' H' a D w f l' := by
  obtain ⟨⟨dx, e'⟩, h2, h3, h4, h5, h6, h7⟩ := h
  exact ⟨⟨dx, e _ _ e'⟩, dm, k1, h4, h5, le, ks⟩
theorem Tb.al (h : Tb K Z H a D w f l) : ∃ o, H D = some o := h.dm.at_
theorem roomsT_pos (h : 1 ≤ f) : 1 ≤ roomsT f l := (roomsFor_spec (by omega) (by omega)).1
theorem roomsT_le (h : 1 ≤ f) (le : l.length ≤ 64) : roomsT f l ≤ 64 := by
  obtain ⟨h1, h2, h3⟩ := roomsFor_spec (c := (l.length : Int)) (show 0 < f by omega) (by omega)
  unfold roomsT
  rcases h3 with h3 | h3
  · omega
  · have : 1 * (roomsFor (l.length : Int) f - 1) ≤ f * (roomsFor (l.length : Int) f - 1) := Int.mul_le_mul_of_nonneg_right h (by omega)
    omega
theorem keysT_len {r : Int} : (keysT_ f l r).length ≤ l.length := by
  unfold keysT_
  rw [sortI_len, List.length_map]
  exact List.length_filter_le _ _
theorem keysT_mem {r k : Int} : k ∈ keysT_ f l r ↔ k ∈ l.map Prod.fst ∧ roomOf k (roomsT f l) = r := by
  unfold keysT_
  rw [sortI_mem]
  constructor
  · intro h
    obtain ⟨e, he, rfl⟩ := List.mem_map.mp h
    obtain ⟨h1, h2⟩ := List.mem_filter.mp he
    exact ⟨List.mem_map_of_mem h1, of_decide_eq_true h2⟩
  · rintro ⟨h1, h2⟩
    obtain ⟨e, he, rfl⟩ := List.mem_map.mp h1
    exact List.mem_map_of_mem (List.mem_filter.mpr ⟨he, decide_eq_true h2⟩)
/-! promises -/
noncomputable def spTCount (K : PySem.W.Frag) : Sp := fun vs H Q _ => ∃ (a D : Addr) (w f : Int) (l : Row) (Z : Hp), vs = [.ref a] ∧ Tb K Z H a D w f l ∧ Q (.int (l.length : Int)) H
noncomputable def spTRooms (K : PySem.W.Frag) : Sp := fun vs H Q _ => ∃ (a D : Addr) (w f : Int) (l : Row) (Z : Hp), vs = [.ref a] ∧ Tb K Z H a D w f l ∧ Q (.int (roomsT f l)) H
noncomputable def spTKeysIn (K : PySem.W.Frag) : Sp := fun vs H Q _ => ∃ (a D : Addr) (w f r : Int) (l : Row) (Z : Hp), vs = [.ref a, .int r] ∧ Tb K Z H a D w f l ∧ ∀ p Z' H', H p = none → T [D] Z H Z' H' → Tb K Z' H' a D w f l → Lm Z' H' p (keysT_ f l r) → Q (.ref p) H'
noncomputable def spTEntries (K : PySem.W.Frag) : Sp := fun vs H Q _ => ∃ (a D : Addr) (w f : Int) (l : Row) (Z : Hp), vs = [.ref a] ∧ Tb K Z H a D w f l ∧ ∀ p Z' H', H p = none → T [] Z H Z' H' → Lm Z' H' p (sortE l) → Q (.ref p) H'
noncomputable def spTCounts (K : PySem.W.Frag) : Sp := fun vs H Q _ => ∃ (a D : Addr) (w f : Int) (l : Row) (Z : Hp), vs = [.ref a] ∧ Tb K Z H a D w f l ∧ ∀ p Z' H', H p = none → T [] Z H Z' H' → Ls Z' p ((spl (sortI (l.map Prod.fst)) (roomsT f l)).map fun r => (r.length : Int)) → Q (.ref p) H'
noncomputable def spTSpill (K : PySem.W.Frag) : Sp := fun vs H Q _ => ∃ (a D : Addr) (w f : Int) (l : Row) (Z : Hp), vs = [.ref a] ∧ Tb K Z H a D w f l ∧ ∀ Z' H', T [] Z H Z' H' → Q (.int (spillI ((spl (sortI (l.map Prod.fst)) (roomsT f l)).map fun r => (r.length : Int)) w)) H'
/-- the most rows of a room, the first such room -/
noncomputable def longI (ns : List Int) (w m : Int) (j : Nat) : Prop := m = maxI (ns.map fun m => rowsI m w) ∧ (ns.map fun m => rowsI m w)[j]? = some m ∧ ∀ i, i < j → (ns.map fun m => rowsI m w)[i]? ≠ some m
noncomputable def spTLongest (K : PySem.W.Frag) : Sp := fun vs H Q _ => ∃ (a D : Addr) (w f : Int) (l : Row) (Z : Hp), vs = [.ref a] ∧ Tb K Z H a D w f l ∧ ∀ p m j Z' H', H p = none → T [] Z H Z' H' → longI ((spl (sortI (l.map Prod.fst)) (roomsT f l)).map fun r => (r.length : Int)) w m j → Z' p = some (.tup [.int m, .int (j : Nat)]) → Q (.ref p) H'
/-- what a put tells -/
noncomputable def PutTold (Z H Z' H' : Hp) (f : Int) (l l' : Row) (r : V) : Prop :=
  if roomsT f l' = roomsT f l then r = .non else ∃ p c, r = .ref p ∧ H p = none ∧ H c = none ∧ Z' p = some (.tup [.int (roomsT f l - whole (roomsT f l)), .int (roomsT f l), .ref c]) ∧ Lm Z' H' c (keysT_ f l' (roomsT f l))
noncomputable def spTPut (K : PySem.W.Frag) : Sp := fun vs H Q E => ∃ (a D : Addr) (w f : Int) (l : Row) (Z : Hp) (v t : V) (n m : String), vs = [.ref a, v, t] ∧ Tb K Z H a D w f l ∧ KindV K H v n ∧ KindV K H t m ∧
  (keyV v = false → ∀ d, H d = none → E (.ref (clsA K "NoKey")) (some d) (upd H d (.xd [("key", v)]))) ∧
  (keyV v = true → nameV t = false → ∀ d, H d = none → E (.ref (clsA K "NoThing")) (some d) (upd H d (.xd [("thing", t)]))) ∧
  ∀ k x, v = .int k → t = .str x.1 → keyV v = true → nameV t = true →
    (k ∉ l.map Prod.fst → l.length = 64 → ∀ d, H d = none → E (.ref (clsA K "Full")) (some d) (upd H d (.xd [("many", .int 64)]))) ∧
    ((k ∈ l.map Prod.fst ∨ l.length < 64) → ∀ r Z' H', T [D] Z H Z' H' → Tb K Z' H' a D w f (setE l k x) → PutTold Z H Z' H' f l (setE l k x) r → Q r H')
end
end TR
namespace TR
open PySem L2
section
variable {K : PySem.W.Frag} {Z H Z' H' : Hp} {M : List Addr} {a d p : Addr} {l : Row} {Q : VK}
/-- all that is new stays, but p -/
theorem growButT (z : Ex Z H) (zh : Ex Z H') (n : H p = none) (m : ∀ b o, b ∉ M → H b = some o → H' b = some o) (al : ∀ b o, H b = some o → ∃ o', H' b = some o') : T M Z H (fun b => if b = p then none else grow Z H H' b) H' := by
  have t : T M Z H (grow Z H H') H' := T.grow z zh m al
  refine ⟨fun b o e => ?_, fun b o e => ?_, m, al, fun b nb zb e => ?_⟩
  · show (if b = p then none else grow Z H H' b) = some o
    by_cases c : b = p
    · rw [c] at e
      have := z _ _ e
      rw [n] at this
      cases this
    · rw [if_neg c]
      exact t.z _ _ e
  · have e' : (if b = p then none else grow Z H H' b) = some o := e
    by_cases c : b = p
    · rw [if_pos c] at e'; cases e'
    · rw [if_neg c] at e'
      exact t.zh _ _ e'
  · show (if b = p then none else grow Z H H' b) = none
    by_cases c : b = p
    · rw [if_pos c]
    · rw [if_neg c]
      exact t.fr _ nb zb e
theorem t_itemsM (z : Ex Z H) (h : H d = some (.dK (l.map kvE))) (k1 : Keys1 l) (q : ∀ p Z' H', H p = none → T [] Z H Z' H' → Lm Z' H' p (sortE l) → Q (.ref p) H') : rSI (.ref d) H Q := by
  refine ⟨d, l, rfl, h, k1, fun H' p ws e n f pr => ?_⟩
  have t : T [] Z H (fun b => if b = p then none else grow Z H H' b) H' := growButT z (z.trans e) n (fun _ _ _ h => e _ _ h) fun _ o h => ⟨o, e _ _ h⟩
  refine q p _ H' n t ⟨⟨ws, f, Paired.mapP pr fun v x ⟨u, h1, h2, h3⟩ => ?_⟩, if_pos rfl, t.zh⟩
  rw [h1]
  refine Ik.pair ?_ (Ik.int _) (Ik.tx _)
  show (if u = p then none else grow Z H H' u) = _
  rw [if_neg (fun c => by rw [c, f] at h3; cases h3)]
  exact grow_new z h2 h3
theorem t_sortedM {ns : List Int} (z : Ex Z H) (h : SqL K H a (ns.map V.int)) (q : ∀ p Z' H', H p = none → T [] Z H Z' H' → Lm Z' H' p (sortI ns) → Q (.ref p) H') : rSortedI K [.ref a] H Q :=
  ⟨a, ns, rfl, h, fun ns' p h1 h2 hp => by
    rw [sortI_of h1 h2]
    have t : T [] Z H Z (upd H p (.lst ((sortI ns).map V.int))) := T.newM hp z
    exact q p _ _ hp t ⟨⟨_, upd_same, ints_pairK⟩, Ex.back z hp, t.zh⟩⟩
end
end TR
namespace TR
open PySem L2
theorem name_tx {t : V} (h : nameV t = true) : ∃ x : Tx, t = .str x.1 ∧ nameB x.1 = true := by
  cases t with
  | str s =>
    have h' : nameB s = true := h
    refine ⟨⟨s, ?_⟩, rfl, h'⟩
    have a := (Bool.and_eq_true_iff.mp h').2
    unfold PyData.strOk
    rw [Array.all_eq_true']
    intro c hc
    have := of_decide_eq_true (List.all_eq_true.mp a c (Array.mem_toList_iff.mpr hc))
    have g : ∀ c ∈ lettersS.cps.toList, decide (c < 0x110000) = true := by decide +kernel
    exact g c this
  | _ => cases h
theorem key_int {v : V} (h : keyV v = true) : ∃ k, v = .int k ∧ 0 ≤ k ∧ k < 1152921504606846976 := by
  cases v with
  | int k =>
    have h' := of_decide_eq_true (show decide (0 ≤ k ∧ k < 1152921504606846976) = true from h)
    exact ⟨k, rfl, h'⟩
  | _ => cases h
theorem setE_len_in {l : Row} {k : Int} {t : Tx} (h : k ∈ l.map Prod.fst) : (setE l k t).length = l.length := by
  unfold setE
  rw [if_pos h, List.length_map]
theorem setE_len_out {l : Row} {k : Int} {t : Tx} (h : k ∉ l.map Prod.fst) : (setE l k t).length = l.length + 1 := by
  unfold setE
  rw [if_neg h, List.length_append]
  rfl
theorem roomsT_ge (l l' : Row) {f : Int} (h : 1 ≤ f) (hl : l'.length = l.length ∨ l'.length = l.length + 1) : roomsT f l' = roomsT f l ∨ roomsT f l' = roomsT f l + 1 := by
  unfold roomsT
  rcases hl with e | e
  · rw [e]; exact .inl rfl
  · rw [e]
    have := roomsFor_step (c := (l.length : Int)) (show 0 < f by omega) (by omega)
    rw [show ((l.length + 1 : Nat) : Int) = (l.length : Int) + 1 by omega]
    exact this
end TR

namespace TR
open PySem L2
/-- a room's rows of entries -/
noncomputable def entOf (l : Row) (k : Int) : Ent := (k, (thingOf l k).getD ⟨"", by decide +kernel⟩)
noncomputable def rowsE (w f : Int) (l : Row) (r : Int) : List Row := (rowsOf (keysT_ f l r) w).map fun ks => ks.map (entOf l)
theorem rows_ls {α : Type} {iα : Py α} {Z : Hp} {q : Addr} {ws : List Addr} {rows : List (List α)} (h : Z q = some (.lst (ws.map V.ref))) (p : Paired (fun w x => Ls Z w x) ws rows) : Ls Z q rows := by
  refine ⟨_, h, ?_⟩
  clear h
  induction p with
  | nil => exact .nil
  | cons a t ih => exact .cons a.is ih
noncomputable def spTRoom (K : PySem.W.Frag) : Sp := fun vs H Q E => ∃ (a D : Addr) (w f : Int) (l : Row) (Z : Hp) (v : V) (n : String), vs = [.ref a, v] ∧ Tb K Z H a D w f l ∧ KindV K H v n ∧
  ((∀ r, v = .int r → ¬ (0 ≤ r ∧ r < roomsT f l)) → ∀ d, H d = none → E (.ref (clsA K "NoRoom")) (some d) (upd H d (.xd [("number", v)]))) ∧
  ∀ r, v = .int r → 0 ≤ r ∧ r < roomsT f l → ∀ (p : Addr) (ws : List Addr) Z' H', T [D] Z H Z' H' → Tb K Z' H' a D w f l → (p :: ws).Nodup → (∀ b ∈ p :: ws, H b = none) → Z' p = some (.lst (ws.map V.ref)) → Paired (fun x rw => Ls Z' x rw) ws (rowsE w f l r) → Q (.ref p) H'
noncomputable def spTTwin (K : PySem.W.Frag) : Sp := fun vs H Q _ => ∃ (a D : Addr) (w f : Int) (l : Row) (Z : Hp), vs = [.ref a] ∧ Tb K Z H a D w f l ∧ ∀ b D2 Z' H', H b = none → H D2 = none → T [] Z H Z' H' → Tb K Z' H' b D2 w f l → Q (.ref b) H'
noncomputable def spTInit (K : PySem.W.Frag) : Sp := fun vs H Q E => ∃ (a dx : Addr) (v u : V) (n m : String), vs = [.ref a, v, u] ∧ H a = some (.ins (clsA K "Table") dx []) ∧ KindV K H v n ∧ KindV K H u m ∧
  (sizeV v = true → sizeV u = true → ∀ D H', H D = none → (∀ b o, b ≠ a → H b = some o → H' b = some o) → H' a = some (.ins (clsA K "Table") dx (tfs v u D)) → H' D = some (.dK []) → Q .non H') ∧
  (sizeV v = false → ∀ H' d, Ex H H' → H' d = none → E (.ref (clsA K "NoSize")) (some d) (upd H' d (.xd [("thing", v)]))) ∧
  (sizeV v = true → sizeV u = false → ∀ H' d, Ex H H' → H' d = none → E (.ref (clsA K "NoSize")) (some d) (upd H' d (.xd [("thing", u)])))
end TR
namespace TR
open PySem L2
theorem rwT {K : PySem.W.Frag} {Z H H' : Hp} {p : Addr} {qs : List Addr} {rs : List (List Int)} (z : Ex Z H) (e : Ex H H') (a : RW K H H' p qs rs) : ∃ Z', T [] Z H Z' H' ∧ Ls Z' p rs := by
  have t : T [] Z H (grow Z H H') H' := T.grow z (z.trans e) (fun _ _ _ h => e _ _ h) fun _ o h => ⟨o, e _ _ h⟩
  refine ⟨_, t, qs.map V.ref, grow_new z (a.fr p List.mem_cons_self) a.own, ?_⟩
  have go : ∀ {qs : List Addr} {rs : List (List Int)}, (∀ q ∈ qs, H q = none) → Paired (fun q r => ∃ vs, H' q = some (.lst vs) ∧ Paired (fun v x => Is K H v x) vs r) qs rs → Paired (fun v x => Ik (grow Z H H') v x) (qs.map V.ref) rs := by
    intro qs rs hq h
    induction h with
    | nil => exact .nil
    | cons h1 _ ih =>
      obtain ⟨vs, h2, h3⟩ := h1
      refine .cons ?_ (ih fun q hq' => hq q (List.mem_cons_of_mem _ hq'))
      refine Ik.ints (grow_new z (hq _ List.mem_cons_self) ?_)
      rw [h2, pair_ints h3]
  exact go (fun q hq => a.fr q (List.mem_cons_of_mem _ hq)) a.rows
end TR

/-! laws over tables -/
namespace TR
open PySem L2
noncomputable def cutG {α : Type} (w : Nat) (l : List α) : List (List α) := if h : w = 0 ∨ l.length ≤ w then [l] else l.take w :: cutG w (l.drop w)
termination_by l.length
decreasing_by exact drop_lt h
structure T6 (α β γ δ ε ζ : Type) where
  a : α
  b : β
  c : γ
  d : δ
  e : ε
  f : ζ
  deriving DecidableEq
instance {α β γ δ ε ζ : Type} [Py α] [Py β] [Py γ] [Py δ] [Py ε] [Py ζ] : Py (T6 α β γ δ ε ζ) := ⟨fun p => .tuple [Py.d p.a, Py.d p.b, Py.d p.c, Py.d p.d, Py.d p.e, Py.d p.f], max (Py.dep α) (max (Py.dep β) (max (Py.dep γ) (max (Py.dep δ) (max (Py.dep ε) (Py.dep ζ))))) + 1, fun p => by
    simp only [PyData.depth, PyData.depthAll]
    have h1 := Py.depth p.a
    have h2 := Py.depth p.b
    have h3 := Py.depth p.c
    have h4 := Py.depth p.d
    have h5 := Py.depth p.e
    have h6 := Py.depth p.f
    omega, fun p => by simp only [PyData.canLay0, PyData.canLayAll0, Py.can]; rfl, fun a b => by
    obtain ⟨a1, a2, a3, a4, a5, a6⟩ := a
    obtain ⟨b1, b2, b3, b4, b5, b6⟩ := b
    simp only [PyData.eqv, PyData.eqvAll, Bool.and_true, Bool.and_eq_true, Py.eqv, T6.mk.injEq]⟩
theorem Ik.six {H : Hp} {α β γ δ ε ζ : Type} [Py α] [Py β] [Py γ] [Py δ] [Py ε] [Py ζ] {a : Addr} {v1 v2 v3 v4 v5 v6 : V} {x : α} {y : β} {z : γ} {u : δ} {s : ε} {t : ζ} (h : H a = some (.tup [v1, v2, v3, v4, v5, v6])) (h1 : Ik H v1 x) (h2 : Ik H v2 y) (h3 : Ik H v3 z) (h4 : Ik H v4 u) (h5 : Ik H v5 s) (h6 : Ik H v6 t) : Ik H (.ref a) (T6.mk x y z u s t) :=
  .tup h (.cons h1 (.cons h2 (.cons h3 (.cons h4 (.cons h5 (.cons h6 .nil))))))
theorem sortI_filter (l : List Int) (p : Int → Bool) : sortI (l.filter p) = (sortI l).filter p :=
  (sortI_of ((sortI_perm l).filter p) ((sortI_sorted l).sublist List.filter_sublist)).symm
/-- the rooms' keys are what spread tells -/
theorem spl_keys {f : Int} {l : Row} (h : 1 ≤ f) : spl (sortI (l.map Prod.fst)) (roomsT f l) = (List.range (roomsT f l).toNat).map fun (i : Nat) => keysT_ f l (i : Int) := by
  unfold spl
  refine List.map_congr_left fun i _ => ?_
  unfold keysT_
  rw [← sortI_filter, List.filter_map]
  rfl
end TR
namespace TR
open PySem L2
section
variable {K : PySem.W.Frag} {σ : L2.St} {Z H : Hp} {te : TE} {Q : VK} {E : XK} {g : TG} {vs : List Nat} {a D : Addr} {w f : Int} {l : Row}
theorem Tb.tt' {M : List Addr} {Z' H' : Hp} (t : T M Z H Z' H') (h : Tb K Z H a D w f l) (nm : D ∉ M) : Tb K Z' H' a D w f l := h.tt t nm
theorem tb_count (tb : Tb K Z H a D w f l) (q : Q (.int (l.length : Int)) H) : spTCount K [.ref a] H Q E := ⟨a, D, w, f, l, Z, rfl, tb, q⟩
theorem tb_rooms (tb : Tb K Z H a D w f l) (q : Q (.int (roomsT f l)) H) : spTRooms K [.ref a] H Q E := ⟨a, D, w, f, l, Z, rfl, tb, q⟩
theorem tb_entries (tb : Tb K Z H a D w f l) (q : ∀ p Z' H', H p = none → T [] Z H Z' H' → Lm Z' H' p (sortE l) → Q (.ref p) H') : spTEntries K [.ref a] H Q E := ⟨a, D, w, f, l, Z, rfl, tb, q⟩
theorem tb_spill (tb : Tb K Z H a D w f l) (q : ∀ Z' H', T [] Z H Z' H' → Q (.int (spillI ((spl (sortI (l.map Prod.fst)) (roomsT f l)).map fun r => (r.length : Int)) w)) H') : spTSpill K [.ref a] H Q E := ⟨a, D, w, f, l, Z, rfl, tb, q⟩
theorem tb_longest (tb : Tb K Z H a D w f l) (q : ∀ p m j Z' H', H p = none → T [] Z H Z' H' → longI ((spl (sortI (l.map Prod.fst)) (roomsT f l)).map fun r => (r.length : Int)) w m j → Z' p = some (.tup [.int m, .int (j : Nat)]) → Q (.ref p) H') : spTLongest K [.ref a] H Q E := ⟨a, D, w, f, l, Z, rfl, tb, q⟩
theorem tb_room {r : Int} (tb : Tb K Z H a D w f l) (h : 0 ≤ r ∧ r < roomsT f l) (q : ∀ p Z' H', T [D] Z H Z' H' → Tb K Z' H' a D w f l → Ls Z' p (rowsE w f l r) → Q (.ref p) H') : spTRoom K [.ref a, .int r] H Q E :=
  ⟨a, D, w, f, l, Z, .int r, "int", rfl, tb, .int r, fun g => absurd h (g r rfl), fun r' e _ => by cases e; exact fun p ws Z' H' t tb' _ _ h pr => q p Z' H' t tb' (rows_ls h pr)⟩
end
end TR
namespace TR
open PySem L2
end TR
namespace TR
open PySem L2
section
variable {K : PySem.W.Frag} {Z H Z' H' : Hp} {Q : VK} {E : XK} {a D : Addr} {w f : Int} {l : Row}
theorem nameB_len {x : Str} (h : nameB x = true) : x.length ≤ 100000 := by
  have a := of_decide_eq_true (Bool.and_eq_true_iff.mp h).1
  omega
theorem t_table (z : Ex Z H) (w0 : 1 ≤ w ∧ w ≤ 8) (f0 : 1 ≤ f ∧ f ≤ 8) (q : ∀ a D Z' H', H a = none → H D = none → T [] Z H Z' H' → Tb K Z' H' a D w f [] → Q (.ref a) H') : MkP' (clsA K "Table") (spTInit K) E [.int w, .int f] H Q := by
  intro x dx nx ndx hne
  refine ⟨x, dx, .int w, .int f, "int", "int", rfl, upd_same, .int w, .int f, fun _ _ D H' nD old ha hD => ⟨rfl, ?_⟩, fun c => ?_, fun _ c => ?_⟩
  · have nDx : D ≠ x := fun c => by rw [c, upd_same] at nD; cases nD
    rw [upd_ne nDx] at nD
    have nDd : D ≠ dx := fun c => by rw [c, upd_same] at nD; cases nD
    rw [upd_ne nDd] at nD
    have m : ∀ b o, b ∉ ([] : List Addr) → H b = some o → H' b = some o := fun b o _ hb => by
      have b1 : b ≠ x := fun c => by rw [c, nx] at hb; cases hb
      have b2 : b ≠ dx := fun c => by rw [c, ndx] at hb; cases hb
      exact old b o b1 (by rw [upd_ne b1, upd_ne b2]; exact hb)
    have zh : Ex Z H' := fun b o hb => m b o List.not_mem_nil (z _ _ hb)
    have t : T [] Z H (fun b => if b = D then none else grow Z H H' b) H' := growButT z zh nD m fun b o hb => ⟨o, m b o List.not_mem_nil hb⟩
    refine q x D _ H' nx nD t ⟨⟨dx, ?_⟩, ⟨hD, if_pos rfl, t.zh⟩, List.nodup_nil, w0, f0, Nat.zero_le _, fun e he => absurd he List.not_mem_nil⟩
    show (if x = D then none else grow Z H H' x) = _
    rw [if_neg (Ne.symm nDx)]
    exact grow_new z nx ha
  · exact absurd (decide_eq_true w0) (by rw [show decide (1 ≤ w ∧ w ≤ 8) = false from c]; decide)
  · exact absurd (decide_eq_true f0) (by rw [show decide (1 ≤ f ∧ f ≤ 8) = false from c]; decide)
theorem tb_put {k : Int} {x : Tx} (tb : Tb K Z H a D w f l) (k0 : 0 ≤ k ∧ k < 1152921504606846976) (nx : nameB x.1 = true) (hl : k ∈ l.map Prod.fst ∨ l.length < 64) (q : ∀ r Z' H', T [D] Z H Z' H' → Tb K Z' H' a D w f (setE l k x) → PutTold Z H Z' H' f l (setE l k x) r → Q r H') : spTPut K [.ref a, .int k, .str x.1] H Q E := by
  have kt : keyV (.int k) = true := decide_eq_true k0
  refine ⟨a, D, w, f, l, Z, .int k, .str x.1, "int", "str", rfl, tb, .int k, .str _ (nameB_len nx), fun c => ?_, fun _ c => ?_, fun k' x' e1 e2 _ _ => ⟨fun h1 h2 => ?_, fun _ => ?_⟩⟩
  · rw [kt] at c; cases c
  · rw [show nameV (.str x.1) = true from nx] at c; cases c
  · cases e1
    rcases hl with h | h
    · exact absurd h h1
    · omega
  · cases e1
    have : x' = x := Subtype.ext (V.str.inj e2).symm
    subst this
    exact q
end
end TR
namespace TR
open PySem L2
end TR
namespace TR
open PySem L2
end TR
namespace TR
open PySem L2
end TR

/-! tables: what a drop tells -/
namespace TR
open PySem L2
theorem outE_len {k : Int} : ∀ {l : Row}, Keys1 l → k ∈ l.map Prod.fst → (outE l k).length + 1 = l.length
  | [], _, h => absurd h List.not_mem_nil
  | e :: t, k1, h => by
    have k1' : (e.1 :: t.map Prod.fst).Nodup := k1
    obtain ⟨n1, n2⟩ := List.nodup_cons.mp k1'
    unfold outE
    by_cases c : e.1 = k
    · have o : t.filter (fun e => decide (e.1 ≠ k)) = t := List.filter_eq_self.mpr fun x hx => decide_eq_true fun z : x.1 = k => n1 (by rw [c, ← z]; exact List.mem_map_of_mem hx)
      rw [List.filter_cons_of_neg (by simpa using c), o]
      rfl
    · rw [List.filter_cons_of_pos (by simpa using c), List.length_cons, List.length_cons]
      have ih : (outE t k).length + 1 = t.length := outE_len n2 (by
        rcases List.mem_cons.mp h with z | z
        · exact absurd z.symm c
        · exact z)
      unfold outE at ih
      omega
noncomputable def spTNeed (K : PySem.W.Frag) : Sp := fun vs H Q E => ∃ (a D : Addr) (w f : Int) (l : Row) (Z : Hp) (v : V) (n : String), vs = [.ref a, v] ∧ Tb K Z H a D w f l ∧ KindV K H v n ∧
  (keyV v = false → ∀ d, H d = none → E (.ref (clsA K "NoKey")) (some d) (upd H d (.xd [("key", v)]))) ∧
  ∀ k, v = .int k → keyV v = true →
    (k ∉ l.map Prod.fst → ∀ d, H d = none → E (.ref (clsA K "Lacking")) (some d) (upd H d (.xd [("key", v)]))) ∧
    (k ∈ l.map Prod.fst → Q .non H)
noncomputable def DropTold (Z H Z' H' : Hp) (f : Int) (l : Row) (k : Int) (r : V) : Prop :=
  if roomsT f (outE l k) = roomsT f l then r = .non else ∃ p c, r = .ref p ∧ H p = none ∧ H c = none ∧ Z' p = some (.tup [.int (roomsT f l - 1), .int (roomsT f l - 1 - whole (roomsT f l - 1)), .ref c]) ∧ Lm Z' H' c ((keysT_ f l (roomsT f l - 1)).filter fun x => decide (x ≠ k))
noncomputable def spTDrop (K : PySem.W.Frag) : Sp := fun vs H Q E => ∃ (a D : Addr) (w f : Int) (l : Row) (Z : Hp) (v : V) (n : String), vs = [.ref a, v] ∧ Tb K Z H a D w f l ∧ KindV K H v n ∧
  (keyV v = false → ∀ d, H d = none → E (.ref (clsA K "NoKey")) (some d) (upd H d (.xd [("key", v)]))) ∧
  ∀ k, v = .int k → keyV v = true →
    (k ∉ l.map Prod.fst → ∀ d, H d = none → E (.ref (clsA K "Lacking")) (some d) (upd H d (.xd [("key", v)]))) ∧
    (k ∈ l.map Prod.fst → ∀ r Z' H', T [D] Z H Z' H' → Tb K Z' H' a D w f (outE l k) → DropTold Z H Z' H' f l k r → Q r H')
theorem roomsT_out {l : Row} {k f : Int} (h : 1 ≤ f) (k1 : Keys1 l) (m : k ∈ l.map Prod.fst) (n : ¬ roomsT f (outE l k) = roomsT f l) : 2 ≤ roomsT f l ∧ roomsT f (outE l k) = roomsT f l - 1 := by
  have h1 := roomsT_ge (outE l k) l h (.inr (outE_len k1 m).symm)
  have h2 := roomsT_pos (l := outE l k) h
  rcases h1 with h1 | h1 <;> omega
theorem keys_of_mem {l : Row} {k : Int} (m : k ∈ l.map Prod.fst) : ∃ t, thingOf l k = some t := by
  cases c : thingOf l k with
  | none => exact absurd m (thing_none.mp c)
  | some t => exact ⟨t, rfl⟩
end TR
namespace TR
open PySem L2
end TR

/-! tables: looks, find; tables of the same entries in another order -/
namespace TR
open PySem L2
noncomputable def looksT (w f : Int) (l : Row) (k : Int) : Bool × Int := lookedI (rowsOf (keysT_ f l (roomOf k (roomsT f l))) w) k 0
noncomputable def spTLooks (K : PySem.W.Frag) : Sp := fun vs H Q E => ∃ (a D : Addr) (w f : Int) (l : Row) (Z : Hp) (v : V) (n : String), vs = [.ref a, v] ∧ Tb K Z H a D w f l ∧ KindV K H v n ∧
  (keyV v = false → ∀ d, H d = none → E (.ref (clsA K "NoKey")) (some d) (upd H d (.xd [("key", v)]))) ∧
  ∀ k, v = .int k → keyV v = true → ∀ p Z' H', H p = none → T [D] Z H Z' H' → Tb K Z' H' a D w f l → Z' p = some (.tup [.bl (looksT w f l k).1, .int (looksT w f l k).2]) → Q (.ref p) H'
noncomputable def spTFind (K : PySem.W.Frag) : Sp := fun vs H Q E => ∃ (a D : Addr) (w f : Int) (l : Row) (Z : Hp) (v : V) (n : String), vs = [.ref a, v] ∧ Tb K Z H a D w f l ∧ KindV K H v n ∧
  (keyV v = false → ∀ d, H d = none → E (.ref (clsA K "NoKey")) (some d) (upd H d (.xd [("key", v)]))) ∧
  ∀ k, v = .int k → keyV v = true →
    (k ∉ l.map Prod.fst → ∀ d, H d = none → E (.ref (clsA K "Lacking")) (some d) (upd H d (.xd [("key", v)]))) ∧
    (∀ t, thingOf l k = some t → ∀ p Z' H', H p = none → T [D] Z H Z' H' → Tb K Z' H' a D w f l → Z' p = some (.tup [.str t.1, .int (looksT w f l k).2]) → Q (.ref p) H')
section
variable {K : PySem.W.Frag} {Z H Z' H' : Hp} {Q : VK} {E : XK} {a D : Addr} {w f : Int} {l : Row} {k : Int}
theorem tb_looks (tb : Tb K Z H a D w f l) (k0 : 0 ≤ k ∧ k < 1152921504606846976) (q : ∀ p Z' H', H p = none → T [D] Z H Z' H' → Tb K Z' H' a D w f l → Z' p = some (.tup [.bl (looksT w f l k).1, .int (looksT w f l k).2]) → Q (.ref p) H') : spTLooks K [.ref a, .int k] H Q E := by
  have kt : keyV (.int k) = true := decide_eq_true k0
  refine ⟨a, D, w, f, l, Z, .int k, "int", rfl, tb, .int k, fun c => ?_, fun k' e1 _ => ?_⟩
  · rw [kt] at c; cases c
  · cases e1
    exact q
theorem tb_find {t : Tx} (tb : Tb K Z H a D w f l) (m : thingOf l k = some t) (q : ∀ p Z' H', H p = none → T [D] Z H Z' H' → Tb K Z' H' a D w f l → Z' p = some (.tup [.str t.1, .int (looksT w f l k).2]) → Q (.ref p) H') : spTFind K [.ref a, .int k] H Q E := by
  have kt : keyV (.int k) = true := decide_eq_true (tb.ks _ (thing_in m))
  refine ⟨a, D, w, f, l, Z, .int k, "int", rfl, tb, .int k, fun c => ?_, fun k' e1 _ => ⟨fun h1 => ?_, fun t' ht => ?_⟩⟩
  · rw [kt] at c; cases c
  · cases e1
    exact absurd (List.mem_map_of_mem (f := Prod.fst) (thing_in m)) h1
  · cases e1
    rw [m] at ht
    cases ht
    exact q
end
/-! a looked for key -/
/-! the same entries in another order -/
section
variable {l m : Row} {w f r k : Int}
end
/-- what a law's state tells -/
noncomputable def cntsT (f : Int) (l : Row) : List Int := (List.range (roomsT f l).toNat).map fun (i : Nat) => ((keysT_ f l (i : Int)).length : Int)
noncomputable abbrev St6 : Type := T6 Int Int Row (List (List Row)) Int (Int × Int)
noncomputable def st6 (w f : Int) (l : Row) (m : Int) (j : Nat) : St6 := T6.mk (l.length : Int) (roomsT f l) (sortE l) ((List.range (roomsT f l).toNat).map fun (i : Nat) => rowsE w f l (i : Int)) (spillI (cntsT f l) w) (m, (j : Int))
theorem setE_new {l : Row} {k : Int} {t : Tx} (h : k ∉ l.map Prod.fst) : setE l k t = l ++ [(k, t)] := by
  unfold setE
  rw [if_neg h]
theorem setE_keys {l : Row} {k : Int} {t : Tx} (h : k ∈ l.map Prod.fst) : (setE l k t).map Prod.fst = l.map Prod.fst := by
  unfold setE
  rw [if_pos h, List.map_map]
  refine List.map_congr_left fun e _ => ?_
  show (if e.1 = k then (e.1, t) else e).1 = e.1
  by_cases c : e.1 = k
  · rw [if_pos c]
  · rw [if_neg c]
end TR
namespace TR
open PySem L2
section
variable {K : PySem.W.Frag} {Z H : Hp} {D : Addr} {α : Type} {iα : Py α} {l : List α} {Q : VK} {i : Int}
end
end TR
namespace TR
open PySem L2
end TR
namespace TR
open PySem L2
end TR
namespace TR
open PySem L2
end TR
namespace TR
open PySem L2
noncomputable def toldX : Tx := ⟨"told", by decide +kernel⟩
noncomputable def lackX : Tx := ⟨"lacking", by decide +kernel⟩
theorem cnts_spl {f : Int} {l : Row} (h : 1 ≤ f) : (spl (sortI (l.map Prod.fst)) (roomsT f l)).map (fun r => (r.length : Int)) = cntsT f l := by
  rw [spl_keys h, List.map_map]
  rfl
end TR
namespace TR
theorem setE_has {l : Row} {k x : Int} {t : Tx} (h : x ∈ l.map Prod.fst ∨ x = k) : x ∈ (setE l k t).map Prod.fst := by
  by_cases c : k ∈ l.map Prod.fst
  · rw [setE_keys c]
    rcases h with h | h
    · exact h
    · rw [h]; exact c
  · rw [setE_new c, List.map_append]
    rcases h with h | h
    · exact List.mem_append_left _ h
    · rw [h]; exact List.mem_append_right _ List.mem_cons_self
end TR

/-! sorted of pairs of a number and an object, no two unlike ones of the same number -/
namespace SrtR
open PySem PySem.W PyProof.Rows SrtO
section
variable {prog : Program} {w : World} {A : Around} {E : Value → Shared → Prop} {s : Shared}
noncomputable def IsPR (h : Heap) (v : Value) (x : Int) (y : Addr) : Prop := ∃ a o t n, v = .ref a ∧ h.get? a = some o ∧ o.cls = .type "tuple" ∧ o.data = .seq #[.int x t, .ref y] n
noncomputable def ltI (p q : Int × Addr) : Bool := decide (p.1 < q.1)
theorem swo_I {α : Type} (k : α → Int × Addr) : Swo fun v u => ltI (k v) (k u) := by
  unfold ltI
  refine ⟨fun x y h => ?_, fun x y z h1 h2 => ?_⟩
  · have a := of_decide_eq_true h
    exact decide_eq_false (by omega)
  · have a := of_decide_eq_false h1
    have b := of_decide_eq_false h2
    exact decide_eq_false (by omega)
end
end SrtR
namespace L2
open PySem PySem.Spec PyProof.Rows
noncomputable def RefV (K : PySem.W.Frag) (H : Hp) (x : V) (e : Int × Addr) : Prop := ∃ t, x = V.ref t ∧ SqT K H t [.int e.1, .ref e.2]
noncomputable def rSortedPR (K : PySem.W.Frag) : List V → Hp → VK → Prop := fun vs H Q => ∃ (a : Addr) (xs : List V) (l : List (Int × Addr)), vs = [V.ref a] ∧ SqL K H a xs ∧ Paired (RefV K H) xs l ∧
  (∀ x ∈ l, ∀ y ∈ l, x.1 = y.1 → x.2 = y.2) ∧
  ∀ (ps : List (V × (Int × Addr))) p, ps.Pairwise (fun x y => x.2.1 ≤ y.2.1) → ps.Perm (xs.zip l) → H p = none → Q (.ref p) (upd H p (.lst (ps.map Prod.fst)))
end L2

namespace TR
/-- how many bits tell a room's keys, and how long its stretch is -/
noncomputable def deep (room r : Int) : Nat := if room < r - whole r ∨ room ≥ whole r then lev r + 1 else lev r
noncomputable def lenI (room r : Int) : Int := 2 ^ (60 - deep room r)
/-- the rooms with their marks, by the marks -/
noncomputable def lineP (r : Int) : List (Int × Int) := sortP ((List.range r.toNat).map fun (k : Nat) => (rev 60 (k : Int), (k : Int)))
noncomputable def lineI (r : Int) : List Int := (lineP r).map Prod.snd
/-- a room told bit by bit -/
noncomputable def lowRoom (x r : Int) (k : Nat) : Int := if k ≤ lev r then x % 2 ^ k else roomOf x r
end TR

/-! walks: entries by their turned keys, pages -/
namespace TR
open PySem L2
noncomputable def sortM {β : Type} (l : List (Int × β)) : List (Int × β) := l.mergeSort (fun a b => decide (a.1 ≤ b.1))
/-- entries by their turned keys -/
noncomputable def tkE (e : Ent) : Int := rev 60 e.1
noncomputable def sortT (l : Row) : Row := l.mergeSort (fun a b => decide (tkE a ≤ tkE b))
noncomputable def KeyR (l : Row) : Prop := ∀ e ∈ l, 0 ≤ e.1 ∧ e.1 < 1152921504606846976
/-- what a page tells -/
noncomputable def markRoom (f : Int) (l : Row) (m : Int) : Int := roomOf (rev 60 m) (roomsT f l)
noncomputable def markEnd (f : Int) (l : Row) (m : Int) : Int := rev 60 (markRoom f l m) + lenI (markRoom f l m) (roomsT f l)
noncomputable def pageT (f : Int) (l : Row) (m : Int) : Row := (sortT l).filter fun e => decide (m ≤ tkE e) && decide (tkE e < markEnd f l m)
/-- a room's entries -/
noncomputable def roomEnts (f : Int) (l : Row) (r : Int) : Row := l.filter fun e => decide (roomOf e.1 (roomsT f l) = r)
end TR
namespace TR
open PySem L2
section
variable {K : PySem.W.Frag} {Z H : Hp} {a : Addr} {Q : VK}
end
end TR
namespace TR
open PySem L2
noncomputable def pageKeys (f : Int) (l : Row) (m : Int) : Row := pageT f l m
end TR
namespace TR
theorem thingOf_set {l : Row} {k : Int} {x : Tx} (k1 : Keys1 l) : thingOf (setE l k x) k = some x := thingOf_mem (keys_set k1) ((setE_mem k1).mpr (.inr rfl))
end TR
namespace TR
noncomputable def oddX : Tx := ⟨"odd", by decide +kernel⟩
end TR
namespace TR
open PySem L2
end TR
namespace TR
open PySem L2
end TR
namespace TR
open PySem L2
noncomputable def endM : Int := 1152921504606846976
/-- the entries whose turned keys lie from m on, ahead of b | ahead of m
-/
noncomputable def seg (es : Row) (m b : Int) : Row := (sortT es).filter fun e => decide (m ≤ tkE e) && decide (tkE e < b)
noncomputable def preT (l : Row) (m : Int) : Row := (sortT l).filter fun e => decide (tkE e < m)
/-- how many turned keys are no less than a mark -/
noncomputable def aheadN (l : Row) (m : Int) : Int := (((sortT l).filter fun e => decide (m ≤ tkE e)).length : Int)
/-- whether pages are a walk from a mark on -/
noncomputable def walkB (es : Row) : Int → List (T3 Int Row Int) → Bool
  | m, [] => decide (m = 1152921504606846976)
  | m, p :: ps => if p.a = m ∧ m < p.c ∧ p.c ≤ 1152921504606846976 ∧ p.b = seg es p.a p.c then walkB es p.c ps else false
end TR

/-! isinstance of an exception that a suite holds: it has its own dict -/
namespace TR
open PySem L2 PySem.Spec PyProof.Rows
structure IsxC (K : PySem.W.Frag) (C : Addr) : Prop where
  x : XfC K C
  ha : PySem.W.findIn K (.ref C) "__class__" = some (some (.builtin "object.__class__"))
  hn : PySem.W.specialIn K (.builtin "object.__class__") "__get__" = some (some (.builtin "getset_descriptor.__get__"))
  ht : PySem.W.takesIn K (.builtin "object.__class__") = some true
  hm : PySem.W.mroIn K C (.type "object") = some true
/-- isinstance(e, c) | isinstance(e, (c1, c2, ..)): a the exception, cls its class, d its dict -/
noncomputable def rIsX (K : PySem.W.Frag) (a : Addr) (cls : Value) (d : Option Addr) (D : Addr) : List V → Hp → VK → Prop := fun xs H Q => ∃ (c : V) (u : Value) (b : Bool) (dd : Addr) (fs : List (Str × V)), xs = [.ref a, c] ∧ cls = .ref D ∧ d = some dd ∧ H dd = some (.xd fs) ∧ ClsV c u ∧ PySem.W.kitOne K (.ref D) u = some b ∧ Q (.bl b) H
noncomputable def rIsXT (K : PySem.W.Frag) (a : Addr) (cls : Value) (d : Option Addr) (D : Addr) : List V → Hp → VK → Prop := fun xs H Q => ∃ (tp : Addr) (cs : List V) (us : List Value) (b : Bool) (dd : Addr) (fs : List (Str × V)), xs = [.ref a, .ref tp] ∧ cls = .ref D ∧ d = some dd ∧ H dd = some (.xd fs) ∧ H tp = some (.tup cs) ∧ Paired ClsV cs us ∧ PySem.W.kitAny K (.ref D) us = some b ∧ Q (.bl b) H
section
variable {X : Cx} {K : PySem.W.Frag} {a D : Addr} {oe : Obj} {cls : Value} {d : Option Addr} {pn : List (Addr × Obj)}
theorem isx_kit {od : Option Obj} (C : IsxC K D) : PySem.W.KitX K (.ref a) (.ref D) (fun h => PySem.W.InstAt h a oe D od) := by
  obtain ⟨cd, hc, _⟩ := PySem.W.any_some C.x.hdC
  exact PySem.W.kitx_exc (by rw [hc]; rfl) C.x.ga C.x.gg C.x.exC C.ha C.hn C.ht C.hm
end
section
variable {K : PySem.W.Frag} {H : Hp} {Q : VK} {a D dd tp : Addr} {fs : List (Str × V)} {b : Bool}
theorem exm_kit {t : Value} {C : Addr} (h : PySem.W.exmOne K t (.ref C) = some b) : PySem.W.kitCls K t (.ref C) = some b := by
  unfold PySem.W.exmOne at h
  split at h
  · exact h
  · cases h
theorem kit_yes {t : Value} {C : Addr} (h : PySem.W.exmOne K t (.ref C) = some true) : PySem.W.kitOne K t (.ref C) = some true := by
  unfold PySem.W.kitOne
  split
  · rfl
  · exact exm_kit h
theorem kit_no {C : Addr} (h : PySem.W.exmOne K (.ref D) (.ref D) = some true) (h2 : PySem.W.exmOne K (.ref D) (.ref C) = some false) : PySem.W.kitOne K (.ref D) (.ref C) = some false := by
  unfold PySem.W.kitOne
  split
  · rename_i e
    have : D = C := Value.ref.inj (beq_iff_eq.mp e)
    subst this
    rw [h] at h2
    cases h2
  · exact exm_kit h2
theorem kit_ty' {T : String} (h : PySem.W.subIn K (.ref D) (.type T) = some b) (m : PySem.W.kitMeta T = true) : PySem.W.kitOne K (.ref D) (.type T) = some b := by
  unfold PySem.W.kitOne
  rw [if_neg (by intro e; cases beq_iff_eq.mp e)]
  unfold PySem.W.kitCls
  dsimp only
  rw [if_pos m]
  exact h
theorem meta_ve : PySem.W.kitMeta "ValueError" = true := by decide +kernel
theorem isx_mk {h : Heap} (X : K.In h) {x : Str} {C : Addr} (aC : PySem.W.nsIn K mainGlobals x = some (some (.ref C))) (ga : PySem.W.findIn K (.ref C) "__getattribute__" = some (some (.builtin "BaseException.__getattribute__")))
    (gg : PySem.W.findIn K (.ref C) "__getattr__" = some none) (exC : PySem.W.subIn K (.ref C) (.type "BaseException") = some true) (hdC : PySem.W.hasDictIn K C = true) (ha : PySem.W.findIn K (.ref C) "__class__" = some (some (.builtin "object.__class__")))
    (hn : PySem.W.specialIn K (.builtin "object.__class__") "__get__" = some (some (.builtin "getset_descriptor.__get__"))) (ht : PySem.W.takesIn K (.builtin "object.__class__") = some true)
    (hm : PySem.W.mroIn K C (.type "object") = some true) : IsxC (L2.KOf X) (clsA (L2.KOf X) x) := by
  show IsxC K (clsA K x)
  rw [clsA_of aC]
  exact ⟨⟨ga, gg, exC, hdC⟩, ha, hn, ht, hm⟩
theorem sve_mk {h : Heap} (X : K.In h) {x : Str} {C : Addr} (aC : PySem.W.nsIn K mainGlobals x = some (some (.ref C))) (hs : PySem.W.subIn K (.ref C) (.type "ValueError") = some true) : PySem.W.subIn (L2.KOf X) (.ref (clsA (L2.KOf X) x)) (.type "ValueError") = some true := by
  show PySem.W.subIn K (.ref (clsA K x)) (.type "ValueError") = some true
  rw [clsA_of aC]
  exact hs
end
end TR

/-! d == {} -/
namespace L2
open PySem PySem.W PySem.Spec TR
section
variable {X : Cx}
noncomputable def rEqD0 : R2 := fun x y H Q => ∃ a b ks, x = .ref a ∧ y = .ref b ∧ H a = some (.dK ks) ∧ H b = some (.dK []) ∧ Q (.bl (decide (ks.length = 0))) H
noncomputable def rNeD0 : R2 := fun x y H Q => ∃ a b ks, x = .ref a ∧ y = .ref b ∧ H a = some (.dK ks) ∧ H b = some (.dK []) ∧ Q (.bl (!decide (ks.length = 0))) H
end
end L2

/-! odd things, in the place of a number, a text or a key -/
namespace TR
open PySem L2
inductive OddV (Z : Hp) : V → String → Prop
  | int (i : Int) : OddV Z (.int i) "int"
  | bl (b : Bool) : OddV Z (.bl b) "bool"
  | str (x : Tx) (h : x.1.length ≤ 100000) : OddV Z (.str x.1) "str"
  | non : OddV Z .non "NoneType"
  | lst {a : Addr} {i : Int} (h : Z a = some (.lst [.int i])) : OddV Z (.ref a) "list"
  | tup {a : Addr} {i : Int} (h : Z a = some (.tup [.int i])) : OddV Z (.ref a) "tuple"
  | dct {a : Addr} (h : Z a = some (.dK [])) : OddV Z (.ref a) "dict"
section
variable {K : PySem.W.Frag} {Z H Z' H' : Hp} {v : V} {n : String}
theorem OddV.ex (h : OddV Z v n) (e : Ex Z Z') : OddV Z' v n := by
  cases h with
  | int i => exact .int i
  | bl b => exact .bl b
  | str x h => exact .str x h
  | non => exact .non
  | lst h => exact .lst (e _ _ h)
  | tup h => exact .tup (e _ _ h)
  | dct h => exact .dct (e _ _ h)
theorem OddV.kind (h : OddV Z v n) (e : Ex Z H) : KindV K H v n := by
  cases h with
  | int i => exact .int i
  | bl b => exact .bl b
  | str x h => exact .str x.1 h
  | non => exact .non
  | lst h => exact .lst (sq_of (e _ _ h))
  | tup h => exact .tup (st_of (e _ _ h))
  | dct h => exact .dct (e _ _ h)
theorem ig_mem {Q : VK} {xs : List V} {i : Int} (h : 0 ≤ i ∧ i < xs.length) (q : ∀ v, v ∈ xs → xs[i.toNat]? = some v → Q v H) : IxGo xs i H Q := by
  have hl : i.toNat < xs.length := by omega
  exact ⟨xs[i.toNat], atI_lt h.1 (List.getElem?_eq_getElem hl), q _ (List.getElem_mem hl) (List.getElem?_eq_getElem hl)⟩
end
/-- a list of six things -/
structure HL6 (α β γ δ ε ζ : Type) where
  a : α
  b : β
  c : γ
  d : δ
  e : ε
  f : ζ
  deriving DecidableEq
instance {α β γ δ ε ζ : Type} [Py α] [Py β] [Py γ] [Py δ] [Py ε] [Py ζ] : Py (HL6 α β γ δ ε ζ) := ⟨fun p => .list [Py.d p.a, Py.d p.b, Py.d p.c, Py.d p.d, Py.d p.e, Py.d p.f], max (Py.dep α) (max (Py.dep β) (max (Py.dep γ) (max (Py.dep δ) (max (Py.dep ε) (Py.dep ζ))))) + 1, fun p => by
    simp only [PyData.depth, PyData.depthAll]
    have h1 := Py.depth p.a
    have h2 := Py.depth p.b
    have h3 := Py.depth p.c
    have h4 := Py.depth p.d
    have h5 := Py.depth p.e
    have h6 := Py.depth p.f
    omega, fun p => by simp only [PyData.canLay0, PyData.canLayAll0, Py.can]; rfl, fun a b => by
    obtain ⟨a1, a2, a3, a4, a5, a6⟩ := a
    obtain ⟨b1, b2, b3, b4, b5, b6⟩ := b
    simp only [PyData.eqv, PyData.eqvAll, Bool.and_true, Bool.and_eq_true, Py.eqv, HL6.mk.injEq]⟩
/-- what is asked with sizes -/
noncomputable def TolD : Type := Tx × HL6 Int Int Int Int Row (List Row)
noncomputable def toldS : Tx := ⟨"told", by decide +kernel⟩
noncomputable def spAsked32 (K : PySem.W.Frag) : Sp := fun vs H Q _ => ∃ (v u : V) (n m : String) (Z : Hp), vs = [v, u] ∧ Ex Z H ∧ KindV K H v n ∧ KindV K H u m ∧
  (∀ w f, v = .int w → u = .int f → 1 ≤ w ∧ w ≤ 8 → 1 ≤ f ∧ f ≤ 8 → ∀ (p L e r : Addr) Z' H', T [] Z H Z' H' → Z' p = some (.tup [.str "told", .ref L]) → Z' L = some (.lst [.int w, .int f, .int 0, .int 1, .ref e, .ref r]) → Ik Z' (.ref p) ((toldS, HL6.mk w f 0 1 [] [[]]) : Tx × HL6 Int Int Int Int Row (List Row)) → Q (.ref p) H') ∧
  (∀ o, (sizeV v = false ∧ o = v ∨ sizeV v = true ∧ sizeV u = false ∧ o = u) → ∀ (p : Addr) Z' H', T [] Z H Z' H' → Z' p = some (.tup [.str "refused", o]) → Q (.ref p) H')
noncomputable def spSame32 (K : PySem.W.Frag) : Sp := fun vs H Q _ => ∃ (p : Addr) (v : V) (n : String) (Z : Hp), vs = [.ref p, v] ∧ Ex Z H ∧ OddV Z v n ∧ Z p = some (.tup [.str "refused", v]) ∧ Q (.bl true) H
noncomputable def spOdd32 (K : PySem.W.Frag) : Sp := fun vs H Q _ => ∃ (h : Addr) (n : Nat) (Z : Hp), vs = [.ref h] ∧ Hand K Z H h (n + 3) ∧
  ∀ (v : V) (m : String) Z' H', T [h] Z H Z' H' → Hand K Z' H' h n → OddV Z' v m → sizeV v = false → Q v H'
end TR
namespace TR
open PySem L2
theorem t_newF {Z H : Hp} {Q : VK} {vs : List V} (z : Ex Z H) (h : vs.length ≤ 100000) (q : ∀ p Z' H', H p = none → T [] Z H Z' H' → Z' p = some (.lst vs) → Q (.ref p) H') : NewL vs H Q := ⟨sz_of h, fun p hp => q p _ _ hp (T.new hp z) upd_same⟩
end TR
namespace TR
open PySem L2
end TR
namespace TR
open PySem L2
end TR
namespace TR
open PySem L2
end TR

/-! == of two tuples whose things are data, or the very same thing -/
namespace L2
open PySem PySem.W PySem.Spec TR
inductive EqV (K : PySem.W.Frag) (H : Hp) : V → V → Bool → Prop where
  | dat {x y : V} {d e : PyData} (h1 : Dp K H x d) (h2 : Dp K H y e) (s1 : SeqAt.shaped d = true) (s2 : SeqAt.shaped e = true) : EqV K H x y (PyData.eqv d e)
  | same (a : Addr) : EqV K H (.ref a) (.ref a) true
noncomputable def rEqT (K : PySem.W.Frag) : R2 := fun x y H Q => ∃ (a b : Addr) (xs ys : List V) (e : Nat → Bool), x = .ref a ∧ y = .ref b ∧ SqT K H a xs ∧ SqT K H b ys ∧ xs.length = ys.length ∧ (∀ (j : Nat) v w, xs[j]? = some v → ys[j]? = some w → EqV K H v w (e j)) ∧ Q (.bl ((List.range xs.length).all e)) H
section
variable {X : Cx}
theorem vals_get : ∀ {xs : List V} {us : List Value} (_ : Vals xs us) (j : Nat) (h : j < us.length), ∃ v, xs[j]? = some v ∧ RelV v us[j]
  | _, _, .nil, j, h => absurd h (Nat.not_lt_zero j)
  | _, _, .cons r _, 0, _ => ⟨_, rfl, r⟩
  | _, _, .cons _ t, j + 1, h => vals_get t j (Nat.lt_of_succ_lt_succ h)
theorem eqV_at {pins : List (Addr × Obj)} {σ : L2.St} {H : Hp} {s : Shared} (I : Inv X pins σ H s) (hu : X.A.in1.units + 64 < cLine) {v w : V} {b : Bool} {u t : Value} (h : EqV X.K H v w b) (rv : RelV v u) (rw_ : RelV w t) : SeqAt.EqAt X.A.in1 s u t b := by
  cases h with
  | dat h1 h2 s1 s2 =>
    obtain ⟨as, r1⟩ := Dp.reads I _ _ _ h1 rv
    obtain ⟨bs, r2⟩ := Dp.reads I _ _ _ h2 rw_
    exact SeqAt.eqAt_reads _ _ _ s _ _ as bs r1 r2 (SeqAt.canLay_of_shaped s1) (SeqAt.canLay_of_shaped s2) (SeqAt.room_of_shaped s1 hu)
  | same a =>
    obtain rfl : u = Value.ref a := rv
    obtain rfl : t = Value.ref a := rw_
    exact SeqAt.EqAt.same _
theorem op_eqT (hu : X.A.units + 65 < cLine) : OpR X (compareOp .Eq) (rEqT X.K) := by
  intro pins s σ H x y v u Q I rx ry h
  obtain ⟨a, b, xs, ys, e, rfl, rfl, hx, hy, hl, he, q⟩ := h
  obtain rfl : v = Value.ref a := rx
  obtain rfl : u = Value.ref b := ry
  obtain ⟨its, rv, ht, _⟩ := I.tuple hx
  obtain ⟨its2, rw_, ht2, _⟩ := I.tuple hy
  have l1 : xs.length = its.length := rv.length
  have l2 : ys.length = its2.length := rw_.length
  refine SeqAt.eq_tupleAt (items := its.toArray) (items2 := its2.toArray) (e := e) ht ht2 (by omega) (fun j h1 h2 => ?_) ?_
  · obtain ⟨v, e1, r1⟩ := vals_get rv j (by simpa using h1)
    obtain ⟨w, e2, r2⟩ := vals_get rw_ j (by simpa using h2)
    exact eqV_at I (by rw [Around.in1_units]; omega) (he j v w e1 e2) (by simpa using r1) (by simpa using r2)
  · refine ⟨.bl _, H, I, rfl, ?_⟩
    have e1 : ((List.range (min its.toArray.size its2.toArray.size)).all e && its.toArray.size == its2.toArray.size) = (List.range xs.length).all e := by
      have l3 : its.toArray.size = xs.length := by simp [l1]
      have l4 : its2.toArray.size = xs.length := by simp [hl, l2]
      rw [l3, l4, Nat.min_self, beq_self_eq_true, Bool.and_true]
    rw [e1]
    exact q
theorem eqTA {K : PySem.W.Frag} (hk : X.K = K) (hu : X.A.units + 65 < cLine) : OpR X (compareOp .Eq) (rEqT K) := hk ▸ op_eqT hu
theorem Room.u65 {k : Nat} {A : Around} (r : Room k A) : A.units + 65 < cLine := by have := r.un; omega
theorem EqV.int {K : PySem.W.Frag} {H : Hp} (i j : Int) : EqV K H (.int i) (.int j) (PyData.eqv (.int i) (.int j)) := .dat (.int i) (.int j) rfl rfl
end
end L2

/-! a dict == a number -/
namespace PySem.SeqAt
open PySem PySem.Spec
end PySem.SeqAt
namespace PySem.SeqAt
open PySem PySem.Spec
end PySem.SeqAt
namespace L2
open PySem PySem.W PySem.Spec TR
/-- a dict == a number -/
noncomputable def rEqDI : R2 := fun x y H Q => ∃ a kvs i, x = .ref a ∧ y = .int i ∧ H a = some (.dK kvs) ∧ Q (.bl false) H
end L2

/-! marks that are none -/
namespace TR
open PySem L2
noncomputable def markV (m : Int) : V → Bool
  | .int i => decide (0 ≤ i ∧ i ≤ m)
  | _ => false
noncomputable def NoMk (K : PySem.W.Frag) (v : V) (H : Hp) (E : XK) : Prop := ∀ d, H d = none → E (.ref (clsA K "NoMark")) (some d) (upd H d (.xd [("mark", v)]))
noncomputable def spNeedMark (K : PySem.W.Frag) : Sp := fun vs H Q E => ∃ (v : V) (n : String) (m : Int), vs = [v, .int m] ∧ KindV K H v n ∧ (markV m v = true → Q .non H) ∧ (markV m v = false → NoMk K v H E)
noncomputable def spRoomAt (K : PySem.W.Frag) : Sp := fun vs H Q E => ∃ (v : V) (n : String) (r : Int), vs = [v, .int r] ∧ KindV K H v n ∧ 1 ≤ r ∧ (∀ m, v = .int m → 0 ≤ m → m < 1152921504606846976 → Q (.int (roomOf (rev 60 m) r)) H) ∧ (markV 1152921504606846975 v = false → NoMk K v H E)
noncomputable def spPage (K : PySem.W.Frag) : Sp := fun vs H Q E => ∃ (a D : Addr) (w f : Int) (v : V) (n : String) (l : Row) (Z : Hp), vs = [.ref a, v] ∧ Tb K Z H a D w f l ∧ KindV K H v n ∧
  (∀ m, v = .int m → 0 ≤ m → m < 1152921504606846976 → ∀ p c Z' H', H p = none → H c = none → T [D] Z H Z' H' → Tb K Z' H' a D w f l → Z' p = some (.tup [.ref c, .int (markEnd f l m)]) → Lm Z' H' c (pageT f l m) → Q (.ref p) H') ∧ (markV 1152921504606846975 v = false → NoMk K v H E)
noncomputable def spAhead (K : PySem.W.Frag) : Sp := fun vs H Q E => ∃ (a D : Addr) (w f : Int) (v : V) (n : String) (l : Row) (Z : Hp), vs = [.ref a, v] ∧ Tb K Z H a D w f l ∧ KindV K H v n ∧
  (∀ m, v = .int m → 0 ≤ m → m ≤ 1152921504606846976 → ∀ Z' H', T [] Z H Z' H' → Q (.int (aheadN l m)) H') ∧ (markV 1152921504606846976 v = false → NoMk K v H E)
noncomputable def mostW (way : Int) : Int := if way = 2 then 1152921504606846976 else 1152921504606846975
noncomputable def spAsked77 (K : PySem.W.Frag) : Sp := fun vs H Q _ => ∃ (way r : Int) (a D : Addr) (w f : Int) (v : V) (n : String) (l : Row) (Z : Hp), vs = [.int way, .ref a, .int r, v] ∧ 0 ≤ way ∧ way ≤ 2 ∧ 1 ≤ r ∧ Tb K Z H a D w f l ∧ KindV K H v n ∧
  (markV (mostW way) v = true → ∀ (p : Addr) (x : V) Z' H', T [D] Z H Z' H' → Tb K Z' H' a D w f l → Z' p = some (.tup [.str "told", x]) → (way = 2 → ∀ m, v = .int m → x = .int (aheadN l m)) → Q (.ref p) H') ∧
  (markV (mostW way) v = false → ∀ (p : Addr) Z' H', T [] Z H Z' H' → Z' p = some (.tup [.str "refused", v]) → Q (.ref p) H')
noncomputable def spRefused77 (K : PySem.W.Frag) : Sp := fun vs H Q _ => ∃ (p : Addr) (v : V) (n : String) (Z : Hp), vs = [.ref p, v] ∧ Ex Z H ∧ OddV Z v n ∧ Z p = some (.tup [.str "refused", v]) ∧ ∀ H', Ex H H' → Q (.bl true) H'
theorem tx_shaped (x : Tx) : PySem.SeqAt.shaped (.str x.1) = true := by
  unfold PySem.SeqAt.shaped
  rw [show (PyData.str x.1).canLay0 = true from x.2]
  rfl
theorem OddV.eqV {K : PySem.W.Frag} {Z H : Hp} {v : V} {n : String} (o : OddV Z v n) : EqV K H v v true := by
  cases o with
  | int i =>
    have h := EqV.int (K := K) (H := H) i i
    rw [show PyData.eqv (.int i) (.int i) = true by simp [PyData.eqv]] at h
    exact h
  | bl b =>
    have h : EqV K H (.bl b) (.bl b) _ := .dat (.bl b) (.bl b) rfl rfl
    rw [show PyData.eqv (.bool b) (.bool b) = true by simp [PyData.eqv]] at h
    exact h
  | str x _ =>
    have h : EqV K H (.str x.1) (.str x.1) _ := .dat (.str x.1) (.str x.1) (tx_shaped x) (tx_shaped x)
    rw [show PyData.eqv (.str x.1) (.str x.1) = true by simp [PyData.eqv]] at h
    exact h
  | non => exact .dat .non .non rfl rfl
  | lst h => exact .same _
  | tup h => exact .same _
  | dct h => exact .same _
end TR
namespace TR
open PySem L2
/-- no mark, or the end -/
noncomputable def BadM (v : V) : Prop := markV 1152921504606846975 v = false ∧ (markV 1152921504606846976 v = true → v = .int 1152921504606846976)
end TR

/-! several except clauses, with names or without -/
namespace TR
open PySem L2 PySem.Spec PyProof.Rows
noncomputable abbrev Cl : Type := Value × Option Nat × (Addr → Value → Option Addr → TS)
/-- what the clauses wish of an exception of the body, one behind the other -/
noncomputable def wCl (K : PySem.W.Frag) (Wout : WX) (D : Ends) : List Cl → WX
  | [] => Wout
  | (c, some i, ts) :: r => wAs K c i ts (wCl K Wout D r) D
  | (c, none, ts) :: r => wMany K (wCl K Wout D r) D [(c, ts)]
inductive ClOk (X : Cx) : ExceptHandler → Cl → Prop
  | plain {x : Str} {c : Value} {ts : Addr → Value → Option Addr → TS} {s₀ : Stmt} {ss : List Stmt} {np p : Pos} (hc : Names X x c)
      (hs : ∀ (a : Addr) (oe : Obj) (cls : Value) (d : Option Addr) (pn : List (Addr × Obj)), Zc cls d oe → (∃ vs, oe.data = .fields vs) → PSs (X.suite a ((a, oe) :: pn)) (s₀ :: ss) (ts a cls d)) :
      ClOk X (.ExceptHandler (some (.Name x np)) none (s₀ :: ss) p) (c, none, ts)
  | named {x n : Str} {c : Value} {i : Nat} {ts : Addr → Value → Option Addr → TS} {s₀ : Stmt} {ss : List Stmt} {np p : Pos} (hc : Names X x c) (hi : X.N[i]? = some n) (hl : X.env.kindOf n = some .local)
      (hs : ∀ (a : Addr) (oe : Obj) (cls : Value) (d : Option Addr) (pn : List (Addr × Obj)), Zc cls d oe → (∃ vs, oe.data = .fields vs) → PSs (X.suite a ((a, oe) :: pn)) (s₀ :: ss) (ts a cls d)) :
      ClOk X (.ExceptHandler (some (.Name x np)) (some n) (s₀ :: ss) p) (c, some i, ts)
inductive ClsOk (X : Cx) : List ExceptHandler → List Cl → Prop
  | nil : ClsOk X [] []
  | cons {h : ExceptHandler} {l : Cl} {hs : List ExceptHandler} {ls : List Cl} (a : ClOk X h l) (r : ClsOk X hs ls) : ClsOk X (h :: hs) (l :: ls)
section
variable {X : Cx} {body : List Stmt} {h0 : ExceptHandler} {hs0 : List ExceptHandler} {ls0 : List Cl} {pos : Pos} {tb : WX → TS} {Wout : WX}
theorem ps_try_cls (st : X.stack = X.env :: X.outer) (fr : X.env.frame = some X.env.locals) (nd : X.N.Nodup) (tk : Takes X Wout)
    (hb : ∀ (W : WX) (pn : List (Addr × Obj)) (xe : Value → Shared → Prop), Takes (X.tr pn xe) W → PassesOwn (model X.prog X.w) X.A X.env xe → PSs (X.tr pn xe) body (tb W))
    (hh : ClsOk X (h0 :: hs0) ls0) : PS X (.Try body (h0 :: hs0) [] [] pos) (fun D σ H => tb (wCl X.K Wout D ls0) D σ H) := by
  refine ⟨fun pins s σ H D I h => ?_⟩
  have ok := I.ok
  have fA : X.A.frames = some (X.env :: X.outer) := by rw [ok.frames, st]
  refine wpAny_Try_except ?_
  refine wpAny_mono ((hb (wCl X.K Wout D ls0) (X.pn ++ pins) (fun e s₁ => wpAny (model X.prog X.w) X.A (noteFrame e X.env) (fun _ s₂ => wpAny (model X.prog X.w) X.A (setFlight e none) (fun _ s₃ =>
    wpAny (model X.prog X.w) X.A (handleBy e X.env (h0 :: hs0)) (SP X pins D) X.xe s₃) X.xe s₂) X.xe s₁) (fun u s' xx => ?_) PassesOwn.looking).run [] s σ H D (I.toTry _) h) (fun f s1 q => ?_) (fun e s1 he => he)
  · obtain ⟨a, B, sI, pins', σ', H', cls, d, rfl, Jt, nb, up, sky, na, os, ag, w⟩ := xx
    have J := Jt.ofTry ok
    rw [st] at sky
    show wpAny (model X.prog X.w) X.A (noteFrame (.ref a) X.env) _ _ _
    refine Sky.land Zc.steady fA fr sky fun h3 fl3 up3 => ?_
    have J3 : Inv X pins σ' H' { s' with heap := h3 } := J.landed nb fl3.1 (up.trans up3) os ag
    obtain ⟨o3, v3, e3, z3, d3⟩ := fl3.there
    have out : a ∉ frs (X.env :: X.outer) := fun m => by
      obtain ⟨_, o', e', nf⟩ := fl3.2.2.1.mem m
      rw [e3] at e'; cases e'
      exact nf _ d3
    have nL : a ≠ X.env.locals := fun z => out (List.mem_filterMap.mpr ⟨X.env, List.mem_cons_self, by rw [fr, z]⟩)
    have nF : a ∉ X.fs := fun m => by
      obtain ⟨e, he, q⟩ := List.mem_filterMap.mp m
      exact out (List.mem_filterMap.mpr ⟨e, List.mem_cons_of_mem _ he, q⟩)
    have S3 := J3.suite e3 d3 na nL nF
    have look : PySem.W.Looks (model X.prog X.w) h3 (typeOf (.ref a)) cls := fun A Q E s k q => wpAny_typeOf_ref (k _ _ e3) (by rw [z3.1]; exact q)
    have name : ∀ {x : Str} {c : Value} {np : Pos} {Q E : Value → Shared → Prop}, Names X x c → Q c { s' with heap := h3 } → wpAny (model X.prog X.w) (X.A.mark (some (.ref a))) (eval (.Name x np) X.env) Q E { s' with heap := h3 } := fun {x c np Q E} hc q => by
      obtain ⟨g, gd, m | ⟨m, v, nn⟩⟩ := hc
      · exact ld_glob (X := X.suite a ((a, o3) :: (X.pn ++ pins))) S3 g m q gd
      · exact ld_blt (X := X.suite a ((a, o3) :: (X.pn ++ pins))) S3 g m v q nn gd
    have go : ∀ {hs : List ExceptHandler} {ls : List Cl}, ClsOk X hs ls → wCl X.K Wout D ls cls d σ' H' → wpAny (model X.prog X.w) X.A (handleBy (.ref a) X.env hs) (SP X pins D) X.xe { s' with heap := h3 } := by
      intro hs ls hk
      induction hk with
      | nil =>
        intro w
        refine wpAny_handleBy_nil ?_
        obtain ⟨k1, k2, k3, oe, vs, T, oT, ts', he, hz, hd, h1, hr⟩ := id fl3
        unfold PySem.passOn
        refine wpAny_bind (wpAny_field he hd h1 ?_)
        rw [if_neg (show ¬ ((Value.ref T == Value.none) = true) from by simp)]
        have fin : wpAny (model X.prog X.w) X.A (setFlight (.ref a) X.env.frame) (fun _ s4 => wpAny (model X.prog X.w) X.A (throw (.ref a) : Sem Flow) (SP X pins D) X.xe s4) X.xe { s' with heap := h3 } := by
          rw [fr]
          refine HandSPX.setFlight_upZ fl3 fun h4 hh4 up4 => wpAny_throw (tk _ _ ?_)
          exact ⟨a, B, sI, pins, σ', H', cls, d, rfl, J, nb, (up.trans up3).trans up4, .inr (.inr (by rw [st]; exact hh4)), na, os, ag, w⟩
        first
          | exact wpAny_bind (wpAny_pure (wpAny_bind fin))
          | exact wpAny_bind fin
      | @cons h l hs2 ls2 hk1 r ih =>
        intro w
        cases hk1 with
        | @plain x c ts s₀ ss np p hc hsu =>
          obtain ⟨b, hb1, hyes, hno⟩ := w
          refine wpAny_handleBy_cons (codeAny_handlers_test ?_) (by intro q; cases q)
          refine name hc ((PySem.W.exm_one (M := model X.prog X.w) J3.kIn look hb1).here ?_)
          cases b with
          | true =>
            refine codeAny_handlers_suite ?_
            refine HandSPX.lands_againZ fl3 fun h4 fl4 up4 => ?_
            have J4 : Inv X pins σ' H' { s' with heap := h4 } := J.landed nb fl4.1 ((up.trans up3).trans up4) os ag
            obtain ⟨o4, v4, e4, z4, d4⟩ := fl4.there
            refine wpAny_mono ((hsu a o4 cls d (X.pn ++ pins) z4 ⟨_, d4⟩).run [] _ _ H' _ (J4.suite e4 d4 na nL nF) (hyes rfl a na)) (fun f s6 q => ?_) (fun _ _ z => False.elim z)
            cases f with
            | next => obtain ⟨σ6, H6, S6, q6⟩ := q; exact ⟨_, _, S6.unsuite ok, q6⟩
            | brk => obtain ⟨σ6, H6, S6, q6⟩ := q; exact ⟨_, _, S6.unsuite ok, q6⟩
            | cont => obtain ⟨σ6, H6, S6, q6⟩ := q; exact ⟨_, _, S6.unsuite ok, q6⟩
            | ret u => obtain ⟨v6, σ6, H6, S6, r6, q6⟩ := q; exact ⟨_, _, _, S6.unsuite ok, r6, q6⟩
          | false => exact ih (hno rfl)
        | @named x n c i ts s₀ ss np p hc hi hl hsu =>
          obtain ⟨b, hb1, hyes, hno⟩ := w
          refine wpAny_handleBy_cons (codeAny_handlers_test ?_) (by intro q; cases q)
          refine name hc ((PySem.W.exm_one (M := model X.prog X.w) J3.kIn look hb1).here ?_)
          cases b with
          | true =>
            refine codeAny_handlers_suite_as ?_
            refine HandSPX.lands_againZ fl3 fun h4 fl4 up4 => ?_
            have J4 : Inv X pins σ' H' { s' with heap := h4 } := J.landed nb fl4.1 ((up.trans up3).trans up4) os ag
            obtain ⟨o4, v4, e4, z4, d4⟩ := fl4.there
            refine store_ok (X := X.suite a ((a, o4) :: (X.pn ++ pins))) (v := .ref a) (J4.suite e4 d4 na nL nF) nd hi (.inl hl) rfl (fun s5 S5 => ?_) (.inr hl)
            refine wpAny_mono ((hsu a o4 cls d (X.pn ++ pins) z4 ⟨_, d4⟩).run [] s5 _ H' _ S5 (hyes rfl a na)) (fun f s6 q => ?_) (fun _ _ z => False.elim z)
            have bye : ∀ {σ6 : L2.St} {H6 : Hp} {Q : Shared → Prop}, Inv (X.suite a ((a, o4) :: (X.pn ++ pins))) [] σ6 H6 s6 → (∀ s7, Inv X pins (σ6.set i none) H6 s7 → Q s7) →
                wpAny (model X.prog X.w) X.A (do bindName X.env n .none; unbindBehindTheSuite X.env n p) (fun _ s7 => Q s7) X.xe s6 := fun S6 hq => gone_ok (S6.unsuite ok) nd hi hl hq
            cases f with
            | next => obtain ⟨σ6, H6, S6, q6⟩ := q; exact bye S6 fun s7 J7 => ⟨_, _, J7, q6⟩
            | brk => obtain ⟨σ6, H6, S6, q6⟩ := q; exact bye S6 fun s7 J7 => ⟨_, _, J7, q6⟩
            | cont => obtain ⟨σ6, H6, S6, q6⟩ := q; exact bye S6 fun s7 J7 => ⟨_, _, J7, q6⟩
            | ret u => obtain ⟨v6, σ6, H6, S6, r6, q6⟩ := q; exact bye S6 fun s7 J7 => ⟨_, _, _, J7, r6, q6⟩
          | false => exact ih (hno rfl)
    exact go hh w
  · cases f with
    | next => obtain ⟨σ', H', J', q⟩ := q; exact wpAny_execs_nil ⟨σ', H', J'.ofTry ok, q⟩
    | brk => obtain ⟨σ', H', J', q⟩ := q; exact ⟨σ', H', J'.ofTry ok, q⟩
    | cont => obtain ⟨σ', H', J', q⟩ := q; exact ⟨σ', H', J'.ofTry ok, q⟩
    | ret u => obtain ⟨v, σ', H', J', r, q⟩ := q; exact ⟨v, σ', H', J'.ofTry ok, r, q⟩
end
end TR

/-! an exception that a suite holds, handed to a def: isinstance and fields there -/
namespace TR
open PySem L2 PySem.Spec PyProof.Rows
theorem roomH_units {k : Nat} {A : Around} (r : L2H.RoomH k A) : A.units + 64 < cLine := by have := r.un; omega
/-- the promise of a def that is handed the exception: where it is, its class, its dict -/
noncomputable abbrev SpV := Addr → Value → Option Addr → Hp → VK → Prop
structure FnV (P : Program) (w : World) (K : PySem.W.Frag) (mg : Str → Option Value) (base : Heap) (k : Nat) (f : Addr) (fd : FuncData) (y : Str) (sp : SpV) : Prop where
  run : ∀ (A : Around) (outer : List Env) (s : Shared) (H : Hp) (args : Args) (p : Addr × Obj) (cls : Value) (d : Option Addr) (Q : VK), L2H.RoomH k A → L2H.PinOk outer H s p → Zc cls d p.2 → (∃ vs, p.2.data = .fields vs) → Env0 P w K mg base A outer s H → BindsTo s fd args [(y, .ref p.1)] → sp p.1 cls d H Q →
    codeAny (model P w) A (.call (.ref f) args) (CR CX0 outer P w H s Q E0) s
noncomputable def HasV (P : Program) (w : World) (K : PySem.W.Frag) (mg : Str → Option Value) (base : Heap) (x : Str) (k : Nat) (sp : SpV) : Prop :=
  ∃ f fd y, FnV P w K mg base k f fd y sp ∧ mg x = some (.ref f) ∧ PySem.W.keepIn K (.ref f) = true ∧ Binds K fd [y] []
section
variable {P : Program} {w : World} {K : PySem.W.Frag} {mg : Str → Option Value} {base : Heap}
theorem has_ofV {x y : Str} {st : Stmt} {N : List Str} {k : Nat} {sp : SpV} (F : FunAt K mg x st [y]) (S : FnScope N [y] (defScope st))
    (hbody : ∀ (f : Addr) (cdv : Value) (A : Around) (outer : List Env) (s : Shared) (H : Hp) (Q : VK) (a : Addr) (oe : Obj) (cls : Value) (d : Option Addr), L2H.RoomH k (A.deeper (envOfC x (defScope st) s.heap.objs.size f cdv)) → Zc cls d oe → (∃ vs, oe.data = .fields vs) → sp a cls d H Q →
      ∃ t, PSs (L2H.cxH CX0 P w K mg base N x (defScope st) f cdv A outer s H E0 (a, oe)) (defBody st) t ∧ t { nx := fun _ H' => Q .non H', rt := Q } (start N [.ref a]) H) : HasV P w K mg base x (k + 1) sp := by
  obtain ⟨f, fd, F, hm, hb⟩ := F
  have kp := F.kp
  obtain ⟨oc, od, kV, doc, pm, an, cdv, ct, osl, rfl, lk, hcd⟩ := F.ex
  refine ⟨f, _, y, ⟨fun A outer s H args p cls d Q hr hpin hz hf e0 hbt hsp => ?_⟩, hm, kp, hb⟩
  have KX : K.In s.heap := e0.mod.kin.keeps fun b o e => (e0.bs b o e).1
  have lim : s.heap.NoLimit := e0.mod.nolimit.keeps fun b o e => (e0.bs b o e).1
  have hkind : ∀ z ∈ ([y] : List Str).zip [Value.ref p.1], (defScope st).names.lookup z.1 = some .local ∨ ((defScope st).names.lookup z.1 = some .cell ∧ ((cellsFrom (s.heap.objs.size + 1) (defScope st).names []).lookup z.1).isSome = true) := fun ⟨n, v⟩ hy => by
    rcases S.par n (List.of_mem_zip hy).1 with q | q
    · exact .inl q
    · exact .inr ⟨q, PySem.W.cellsFrom_some _ _ _ (.inl q)⟩
  refine codeAny_call_function hr.depth (KX _ _ lk) rfl S.co S.gen rfl (PySem.W.codeRec_of KX hcd) (hbt _ _ _ _ ?_)
  refine wpAny_newFunctionEnv_cells S.kind hkind fun env he s1 x1 => ?_
  subst he
  refine ⟨lim.keeps x1.toInCall.keep, codeAny_func ?_⟩
  obtain ⟨t, ht, hq⟩ := hbody f cdv A outer s H Q p.1 p.2 cls d (hr.deeper _) hz hf hsp
  have I : Inv (L2H.cxH CX0 P w K mg base N x (defScope st) f cdv A outer s H E0 p) [] (L2.start N [.ref p.1]) H s1 := L2H.inv_startH (us := [Value.ref p.1]) S hpin e0 rfl (.cons rfl .nil) x1
  refine wpAny_mono (ht.run [] s1 (L2.start N [.ref p.1]) H _ I hq) (fun fl s' hs => ?_) fun e s' hs => hs
  have fin : ∀ {σ' : L2.St} {H' : Hp} {v : V} {u : Value}, Inv (L2H.cxH CX0 P w K mg base N x (defScope st) f cdv A outer s H E0 p) [] σ' H' s' → RelV v u → Q v H' → CE outer P w H s Q u s' :=
    fun {σ' H' v u} J rv q => ⟨v, H', J.os, J.bare, J.base, J.hok, rv, q⟩
  cases fl with
  | ret u =>
    obtain ⟨v, σ', H', J, rv, q⟩ := hs
    exact fin J rv q
  | next =>
    obtain ⟨σ', H', J, q⟩ := hs
    exact fin (v := V.non) (u := Value.none) J rfl q
  | brk =>
    obtain ⟨_, _, _, q⟩ := hs
    exact False.elim q
  | cont =>
    obtain ⟨_, _, _, q⟩ := hs
    exact False.elim q
end
/-- f(e) within the suite -/
noncomputable def tCallSx (sp : SpV) (a : Addr) (cls : Value) (d : Option Addr) (te : TE) : TE := fun σ H Q => te σ H fun x H1 => x = .ref a ∧ sp a cls d H1 Q
section
variable {X : Cx} {a : Addr} {oe : Obj} {cls : Value} {d : Option Addr} {pn : List (Addr × Obj)}
theorem pe_callSx {k k' : Nat} {sp : SpV} {x : Str} {p pos : Pos} {e : Expr} {te : TE} (hz : Zc cls d oe) (hf : ∃ vs, oe.data = .fields vs)
    (h : HasV X.prog X.w X.K X.mg X.base x k sp) (hr : Room k' X.A) (hk : k ≤ k') (hg : Gl X x) (he : PE (X.suite a ((a, oe) :: pn)) e te) (hdb : (x == ("__debug__" : Str)) = false := by decide)
    (hst : starEach [e] X.env = (false, eval e X.env) :: starEach [] X.env := by rfl) (hpl : (backTo pos (starEach [] X.env)).any (·.1) = false := by rfl) : PE (X.suite a ((a, oe) :: pn)) (.Call (.Name x p) [e] [] pos) (tCallSx sp a cls d te) := by
  obtain ⟨f, fd, y, F, hm, kp, hb⟩ := h
  refine ⟨fun pins s σ H Q I h => ?_⟩
  refine wpAny_Call_Name_kw (ld_glob (X := X.suite a ((a, oe) :: pn)) I hg hm ?_ hdb)
  have ha : PA (X.suite a ((a, oe) :: pn)) [e] (tCons te tNil) := pa_cons he pa_nil hst
  refine PySem.W.callWith_K (h₀ := X.base) I.ok.mod.kin kp (thn (ha.run pos pins s σ H (fun vs H1 => ∃ y, vs = [y] ∧ y = .ref a ∧ sp a cls d H1 Q) I (by
    show te σ H fun x H1 => tNil σ H1 fun xs H2 => _
    have e' : (fun (x : V) (H1 : Hp) => tNil σ H1 fun xs H2 => ∃ y, x :: xs = [y] ∧ y = V.ref a ∧ sp a cls d H2 Q) = fun x H1 => x = .ref a ∧ sp a cls d H1 Q := by
      funext y H1
      exact propext ⟨fun ⟨y', e1, e2, e3⟩ => by cases e1; exact ⟨e2, e3⟩, fun ⟨e2, e3⟩ => ⟨y, rfl, e2, e3⟩⟩
    rw [e']
    exact h)) fun us s1 ⟨vs, H1, I1, r, y, e1, e2, q⟩ => ⟨I1.kIn, ?_⟩) hst hpl
  subst e1
  subst e2
  obtain ⟨u, rfl⟩ : ∃ u, us = [u] := by
    cases r with
    | cons _ t => cases t; exact ⟨_, rfl⟩
  obtain rfl : u = Value.ref a := by
    cases r with
    | cons r1 _ => exact r1
  have P1 := I1.pin (a, oe) (List.mem_append_left _ List.mem_cons_self)
  have hpin : L2H.PinOk (X.suite a ((a, oe) :: pn)).stack H1 s1 (a, oe) := ⟨P1.1, P1.2.1, fun hm => (List.mem_cons.mp (I1.stkSub a hm)).elim P1.2.2.1 P1.2.2.2.1, P1.2.2.2.2⟩
  have b := hb s1 [Value.ref a] I1.kIn (by rfl)
  have hrH : L2H.RoomH k (X.suite a ((a, oe) :: pn)).A := ⟨(hr.mono hk).dp, (hr.mono hk).un⟩
  refine wpAny_call (codeAny_mono (F.run _ (X.suite a ((a, oe) :: pn)).stack s1 H1 ⟨[Value.ref a], []⟩ (a, oe) cls d Q hrH hpin hz hf I1.env0 b q) fun r' s' hq => ?_)
  cases r' with
  | error e => exact (pass0 (X := X.suite a ((a, oe) :: pn))) pins σ H1 s1 e s' I1 hq
  | ok fl =>
    cases fl with
    | ret v => exact I1.after hq
    | next => exact False.elim hq
    | brk => exact False.elim hq
    | cont => exact False.elim hq
end
/-- isinstance(e, C) | isinstance(e, (C1, ..)) of the exception that stands in the pins -/
noncomputable def rIsV (K : PySem.W.Frag) (a : Addr) (cls : Value) (d : Option Addr) : List V → Hp → VK → Prop := fun xs H Q => ∃ (D : Addr) (c : V) (u : Value) (b : Bool), xs = [.ref a, c] ∧ cls = .ref D ∧ IsxC K D ∧ (∀ dd, d = some dd → ∃ fs, H dd = some (.xd fs)) ∧ ClsV c u ∧ PySem.W.kitOne K (.ref D) u = some b ∧ Q (.bl b) H
noncomputable def rIsVT (K : PySem.W.Frag) (a : Addr) (cls : Value) (d : Option Addr) : List V → Hp → VK → Prop := fun xs H Q => ∃ (D tp : Addr) (cs : List V) (us : List Value) (b : Bool), xs = [.ref a, .ref tp] ∧ cls = .ref D ∧ IsxC K D ∧ (∀ dd, d = some dd → ∃ fs, H dd = some (.xd fs)) ∧ H tp = some (.tup cs) ∧ Paired ClsV cs us ∧ PySem.W.kitAny K (.ref D) us = some b ∧ Q (.bl b) H
section
variable {X : Cx} {K : PySem.W.Frag} {a : Addr} {oe : Obj} {cls : Value} {d : Option Addr}
theorem excV_inst {D : Addr} {pins : List (Addr × Obj)} {σ : L2.St} {H : Hp} {s : Shared} (I : Inv X pins σ H s) (hp : X.pn = [(a, oe)]) (hz : Zc (.ref D) d oe) (hf : ∃ vs, oe.data = .fields vs) (hx : ∀ dd, d = some dd → ∃ fs, H dd = some (.xd fs)) : ∃ od, PySem.W.InstAt s.heap a oe D od := by
  obtain ⟨ha, _⟩ := I.pin (a, oe) (List.mem_append_left _ (by rw [hp]; exact List.mem_cons_self))
  obtain ⟨vs, hd⟩ := hf
  cases d with
  | none => exact ⟨none, ha, hz.1, by unfold PySem.W.notCls; rw [hd] <;> rfl, by rw [hz.2]; trivial⟩
  | some dd =>
    obtain ⟨fs, hx⟩ := hx dd rfl
    have hx : ObjOk X.prog X.w H s.heap dd (.xd fs) := I.hok dd _ hx
    obtain ⟨mA, hns, hr⟩ := hx
    obtain ⟨od, ho, hl⟩ := lookIn_ns hns
    exact ⟨some od, ha, hz.1, by unfold PySem.W.notCls; rw [hd] <;> rfl, by rw [hz.2]; exact ho⟩
theorem isVA (hk : X.K = K) (hp : X.pn = [(a, oe)]) (hz : Zc cls d oe) (hf : ∃ vs, oe.data = .fields vs) : CallR X (.builtin "isinstance") (rIsV K a cls d) := by
  subst hk
  intro pins s σ H xs us Q I r h
  obtain ⟨D, c, u, b, rfl, rfl, C, hx, k, e, q⟩ := h
  obtain ⟨u1, u2, rfl, r1, r2⟩ := vals2 r
  cases (show u1 = Value.ref a from r1)
  have e2 := k.eq r2
  subst e2
  obtain ⟨od, J⟩ := excV_inst I hp hz hf hx
  exact PySem.W.kia_one (isx_kit C) I.kIn J e (fun z => nomatch z) fun tk => ⟨.bl b, H, I.tok tk, rfl, q⟩
/-- e.f of it -/
noncomputable def tXfV (K : PySem.W.Frag) (a : Addr) (cls : Value) (d : Option Addr) (f : Str) (te : TE) : TE := fun σ H Q => te σ H fun x H1 => ∃ (C dd : Addr) (fs : List (Str × V)) (v : V), x = .ref a ∧ cls = .ref C ∧ d = some dd ∧ XfC K C ∧ PySem.W.findIn K (.ref C) f = some none ∧ H1 dd = some (.xd fs) ∧ fs.lookup f = some v ∧ Q v H1
end
section
variable {K : PySem.W.Frag} {H : Hp} {Q : VK} {a D tp C dd : Addr} {d : Option Addr} {b : Bool} {cls : Value}
theorem s_isV {c : V} {u : Value} (C : IsxC K D) (hx : ∀ dd, d = some dd → ∃ fs, H dd = some (.xd fs)) (k : ClsV c u) (e : PySem.W.kitOne K (.ref D) u = some b) (q : Q (.bl b) H) : rIsV K a (.ref D) d [.ref a, c] H Q := ⟨D, c, u, b, rfl, rfl, C, hx, k, e, q⟩
/-- the field of an exception that stands in the pins -/
noncomputable def XfVP (K : PySem.W.Frag) (a : Addr) (cls : Value) (d : Option Addr) (f : Str) (x : V) (H1 : Hp) (Q : VK) : Prop := ∃ (C dd : Addr) (fs : List (Str × V)) (v : V), x = .ref a ∧ cls = .ref C ∧ d = some dd ∧ XfC K C ∧ PySem.W.findIn K (.ref C) f = some none ∧ H1 dd = some (.xd fs) ∧ fs.lookup f = some v ∧ Q v H1
/-! the suite's exception handed on -/
noncomputable def SxP (sp : SpV) (a : Addr) (cls : Value) (d : Option Addr) (x : V) (H1 : Hp) (Q : VK) : Prop := x = .ref a ∧ sp a cls d H1 Q
theorem s_Sx {sp : SpV} {te : TE} {σ : L2.St} (q : te σ H fun x H1 => SxP sp a cls d x H1 Q) : tCallSx sp a cls d te σ H Q := q
theorem n_Sx {sp : SpV} (q : sp a cls d H Q) : SxP sp a cls d (.ref a) H Q := ⟨rfl, q⟩
end
end TR

/-! mended yards, and the steps that lead there -/
namespace TR
open PySem L2
/-! what a step does, room by room -/
/-- but for one room two yards are alike -/
noncomputable def Else (R : Nat) (y y' : Yard) : Prop := y'.a = y.a ∧ y'.b = y.b ∧ ∀ q, q ≠ R → y'.c.getD q [] = y.c.getD q []
/-! what stands -/
noncomputable def meetE (r : Int) (i : Nat) (acc : Row) (e : Ent) : Row := if roomOf e.1 r = (i : Int) ∧ e.1 ∉ acc.map Prod.fst then acc ++ [e] else acc
noncomputable def standF (r : Int) : Nat → List (List Row) → Row → Row
  | _, [], acc => acc
  | i, X :: c, acc => standF r (i + 1) c (X.flatten.foldl (meetE r i) acc)
noncomputable def standL (y : Yard) : Row := standF y.b 0 (y.c.take y.b.toNat) []
noncomputable def standY (y : Yard) : Row := sortE (standL y)
/-- all that is held -/
noncomputable def allE (c : List (List Row)) : Row := c.flatten.flatten
/-! the steps -/
noncomputable def cutsF (c : List (List Row)) (q : Nat) : List Stp := (((List.range (c.length - q)).map fun j => q + j).filter fun i => decide (c.getD i [] ≠ [])).reverse.map fun (i : Nat) => Stp.cut (i : Int) 0
noncomputable def mendR (d c : List (List Row)) (n : Nat) : List Stp := (List.range n).flatMap fun i => onw i (d.getD i []) (c.getD i [])
noncomputable def mendC (y : Yard) : List (List Row) := cleanC y.a.toNat y.b (standY y)
noncomputable def mendS (y : Yard) : List Stp := mendR (mendC y) y.c y.b.toNat ++ cutsF y.c y.b.toNat
end TR

/-! lists of lists that are told apart: every row is a row of its own -/
namespace TR
open PySem L2
section
variable {K : PySem.W.Frag} {σ : L2.St} {H Z Z0 : Hp} {te : TE} {Q : VK} {g : TG} {vs : List Nat} {α : Type} [Py α]
end
/-- new rows, all told apart; they stay (Z') until they are let go -/
noncomputable def NewRs (Z0 H Z' H' : Hp) (q : Addr) (ws : List Addr) {α : Type} [Py α] (rows : List (List α)) : Prop :=
  (q :: ws).Nodup ∧ (∀ b ∈ q :: ws, H b = none) ∧ (∀ b ∈ q :: ws, ∃ o, H' b = some o) ∧ Z' q = some (.lst (ws.map V.ref)) ∧ Paired (fun w r => RowF Z0 Z' w r) ws rows
/-- rooms of rows, all told apart -/
structure Y4 (Z H : Hp) (D : Addr) (qs : List Addr) (Fs : List (List Addr)) {α : Type} [Py α] (rss : List (List (List α))) : Prop where
  y : Y3 Z H D qs Fs.flatten rss
  nd : (D :: (qs ++ Fs.flatten)).Nodup
  at_ : Paired (fun f rs => H f.1 = some (.lst (f.2.map V.ref)) ∧ Paired (fun w r => RowO Z H w r) f.2 rs) (qs.zip Fs) rss
  ln : qs.length = Fs.length
section
variable {K : PySem.W.Frag} {σ : L2.St} {H Z Z0 : Hp} {te : TE} {Q : VK} {g : TG} {vs : List Nat} {α β : Type} [Py α] [Py β]
end
section
variable {K : PySem.W.Frag} {H Z : Hp} {D : Addr} {qs : List Addr} {Fs : List (List Addr)} {α : Type} [Py α] {r0 : List α} {rs0 : List (List α)} {rss : List (List (List α))}
end
section
variable {K : PySem.W.Frag} {M : List Addr} {H Z Z0 Z' H' : Hp} {a p D : Addr} {qs : List Addr} {Fs : List (List Addr)} {Q : VK}
end
/-! for over a range that goes down -/
section
variable {σ : L2.St} {H : Hp} {D : Ends} {g : TG} {ts : TS}
noncomputable def ForR3 (g : TG) (tb : TS) (D : Ends) (σ : L2.St) (vs : List V) (H1 : Hp) : Prop := ∃ (i j c : Int) (n : Nat), vs = [.int i, .int j, .int c] ∧ RgC i j c n ∧ ForJ g tb D σ (Itc i c n) H1
end
noncomputable abbrev YB (y : Yard) : Prop := 1 ≤ y.a ∧ y.a ≤ 1000 ∧ 1 ≤ y.b ∧ y.b ≤ 1000 ∧ y.c.length ≤ 10000 ∧ (∀ rs ∈ y.c, rs.length ≤ 10000) ∧ (allE y.c).length ≤ 39000
section
variable {K : PySem.W.Frag} {H Z : Hp} {Q : VK} {l D : Addr} {v : V} {α : Type} [Py α] {x : α}
end
theorem at0 {q : Addr} {qs : List Addr} : atI ((q :: qs).map V.ref) 0 = some (V.ref q) := atI_lt (by decide) rfl
/-! a clean yard stands as it is -/
end TR

/-! a yard's lists, each its asker's own, whichever stands where: only what each may hold is known -/
namespace TR
open PySem L2
structure LY (Z H : Hp) (D : Addr) (qs F : List Addr) (κ μ : Addr → Nat) (P : Ent → Prop) (S n m : Nat) : Prop where
  own : ∃ ps : List Addr, H D = some (.lst (ps.map V.ref)) ∧ ps.length ≤ n ∧ (∀ p ∈ ps, p ∈ qs) ∧ (ps.map μ).sum ≤ S
  nd : D ∉ qs
  nf : ∀ q ∈ D :: qs, q ∉ F
  z : ∀ q ∈ D :: (qs ++ F), Z q = none
  zh : Ex Z H
  rooms : ∀ q ∈ qs, ∃ ws : List Addr, H q = some (.lst (ws.map V.ref)) ∧ ws.length ≤ m ∧ (∀ w ∈ ws, w ∈ F) ∧ (ws.map κ).sum ≤ μ q
  rows : ∀ w ∈ F, ∃ r : Row, RowO Z H w r ∧ r.length ≤ κ w ∧ ∀ e ∈ r, P e
section
variable {Z H Z' H' : Hp} {D q w e : Addr} {M qs F : List Addr} {κ μ : Addr → Nat} {P : Ent → Prop} {S n m : Nat} {Q : VK} {v : V}
end
noncomputable def kap (H : Hp) (w : Addr) : Nat := match H w with | some (.lst vs) => vs.length + 1 | _ => 0
noncomputable def muu (H : Hp) (q : Addr) : Nat := match H q with | some (.lst us) => (us.map fun v => match v with | .ref w => kap H w | _ => 0).sum + 20 | _ => 0
section
variable {Z H : Hp} {D : Addr} {qs F : List Addr} {rss : List (List Row)} {P : Ent → Prop} {S n m : Nat}
end
end TR
namespace TR
open PySem L2
section
variable {K : PySem.W.Frag} {Z H : Hp} {Q : VK} {a : Addr} {α : Type} [Py α] {l : List α}
end
end TR

/-! what is done to loose lists -/
namespace TR
open PySem L2
noncomputable def rIns : V → List V → Hp → VK → Prop := fun x vs H Q => ∃ (l : Addr) (xs : List V) (i : Int) (y : V), x = .ref l ∧ vs = [.int i, y] ∧ H l = some (.lst xs) ∧ xs.length < PySem.sizeLine ∧ 0 ≤ i ∧ i < 2 ^ 63 ∧ Q .non (upd H l (.lst (xs.take i.toNat ++ [y] ++ xs.drop i.toNat)))
section
variable {K : PySem.W.Frag} {Z H : Hp} {D q w e : Addr} {qs F ws : List Addr} {κ μ : Addr → Nat} {P : Ent → Prop} {S n m : Nat} {Q : VK} {v : V} {r : Row} {x : Ent}
end
/-- the loose lists of one that are its asker's own, new since H -/
noncomputable def LB (h : Addr) (Z H Z' H' : Hp) (D : Addr) (P : Ent → Prop) : Prop := ∃ (qs F : List Addr) (κ μ : Addr → Nat), LY Z' H' D qs F κ μ P 3000 130 200 ∧ T [h] Z H Z' H' ∧ ∀ b ∈ D :: (qs ++ F), H b = none
theorem strOk_it {x : Str} : PyData.strOk x = true ↔ ∀ c ∈ x.cps.toList, c < 0x110000 := by
  unfold PyData.strOk
  rw [← Array.all_toList, List.all_eq_true]
  simp
theorem strOk_part {x : Str} {lo hi : Option Int} (h : PyData.strOk x = true) : PyData.strOk (cutS x lo hi) = true := by
  rw [strOk_it] at h ⊢
  exact fun c hc => h c (List.mem_of_mem_drop (List.mem_of_mem_take hc))
theorem strOk_plus {x y : Str} (h : PyData.strOk x = true) (g : PyData.strOk y = true) : PyData.strOk (x ++ y) = true := by
  rw [strOk_it] at h g ⊢
  intro c hc
  have e : (x ++ y).cps.toList = x.cps.toList ++ y.cps.toList := Array.toList_append
  rw [e] at hc
  rcases List.mem_append.mp hc with hc | hc
  · exact h c hc
  · exact g c hc
theorem str_app_len (x y : Str) : (x ++ y).length = x.length + y.length := Array.size_append
section
variable {H : Hp} {Q : VK} {x y : Str} {lo hi : Option Int}
theorem s_slS (h : x.length ≤ 1000) (q : Q (.str (cutS x lo hi)) H) : rSlS (.str x) lo hi H Q := ⟨x, rfl, sz_of (by omega), q⟩
theorem s_plusS (h : x.length + y.length ≤ 1000) (q : Q (.str (x ++ y)) H) : rPlus (.str x) (.str y) H Q := .inr (.inr ⟨x, y, rfl, rfl, sz_of (by omega), q⟩)
end
end TR

namespace TR
open PySem L2
theorem strOk_iff {x : Str} : PyData.strOk x = true ↔ ∀ c ∈ TL.tl x, c < 0x110000 := by
  unfold PyData.strOk TL.tl
  rw [Array.all_eq_true']
  refine ⟨fun h c hc => of_decide_eq_true (h c (Array.mem_toList_iff.mp hc)), fun h c hc => decide_eq_true (h c (Array.mem_toList_iff.mpr hc))⟩
theorem joinL_mem {S : List Nat} : ∀ {ps : List (List Nat)} {c : Nat}, c ∈ TL.joinL S ps → c ∈ S ∨ ∃ p ∈ ps, c ∈ p
  | [], c, h => absurd h List.not_mem_nil
  | [p], c, h => .inr ⟨p, List.mem_cons_self, h⟩
  | p :: q :: r, c, h => by
    have h' : c ∈ p ++ (S ++ TL.joinL S (q :: r)) := h
    rcases List.mem_append.mp h' with h' | h'
    · exact .inr ⟨p, List.mem_cons_self, h'⟩
    · rcases List.mem_append.mp h' with h' | h'
      · exact .inl h'
      · rcases joinL_mem h' with g | ⟨p', g1, g2⟩
        · exact .inl g
        · exact .inr ⟨p', List.mem_cons_of_mem _ g1, g2⟩
theorem join_mem {y : Str} {l : List Str} {c : Nat} (h : c ∈ TL.tl (Txt.join y l)) : c ∈ TL.tl y ∨ ∃ x ∈ l, c ∈ TL.tl x := by
  rw [TL.join_eq, TL.tl_join] at h
  rcases joinL_mem h with g | ⟨p, g1, g2⟩
  · exact .inl g
  · obtain ⟨x, hx, rfl⟩ := List.mem_map.mp g1
    exact .inr ⟨x, hx, g2⟩
theorem join_ok {y : Str} {l : List Str} (hy : PyData.strOk y = true) (h : ∀ x ∈ l, PyData.strOk x = true) : PyData.strOk (Txt.join y l) = true :=
  strOk_iff.mpr fun c hc => by
    rcases join_mem hc with g | ⟨x, hx, g⟩
    · exact strOk_iff.mp hy c g
    · exact strOk_iff.mp (h x hx) c g
theorem joinL_len : ∀ {ps : List (List Nat)}, (TL.joinL [] ps).length = (ps.map List.length).sum
  | [] => rfl
  | [p] => by simp [TL.joinL]
  | p :: q :: r => by
    show (p ++ ([] ++ TL.joinL [] (q :: r))).length = _
    rw [List.length_append, List.nil_append, joinL_len (ps := q :: r)]
    simp
theorem s_ixStr {K : PySem.W.Frag} {H : Hp} {Q : VK} {z : Str} {i : Int} (h : 0 ≤ i ∧ i < (TL.tl z).length) (hz : z.length ≤ 100000) (q : ∀ c, c ∈ TL.tl z → Q (.str ⟨#[c]⟩) H) : rIx K (.str z) (.int i) H Q := by
  have hi : i.toNat < z.cps.toList.length := by have := h.2; show i.toNat < (TL.tl z).length; omega
  exact .inr (.inr ⟨z, i, _, rfl, rfl, sz_of hz, atI_lt h.1 (List.getElem?_eq_getElem hi), q _ (List.getElem_mem hi)⟩)
theorem s_joinL {K : PySem.W.Frag} {H : Hp} {Q : VK} {p : Addr} {y : Str} {l : List Str} (h : H p = some (.lst (l.map V.str))) (hz : (l.map (·.length)).sum + l.length * y.length ≤ 16777216) (q : Q (.str (Txt.join y l)) H) :
    ∃ (a : Str) (p' : Addr), ∃ ys : List Str, V.str y = .str a ∧ [V.ref p] = [.ref p'] ∧ (SqL K H p' (ys.map V.str) ∨ SqT K H p' (ys.map V.str)) ∧ (ys.map (·.length)).sum + ys.length * a.length ≤ 16777216 ∧ Q (.str (Txt.join a ys)) H :=
  ⟨y, p, l, rfl, rfl, .inl (sq_of h), hz, q⟩
end TR

/-! a table's twin: a new table that is made, then given a new dict -/
namespace TR
open PySem L2
end TR

/-! a list of tables and a list of their asker's dicts -/
namespace TR
open PySem L2
structure TD where
  a : Addr
  D : Addr
  d : Addr
  l : Row
/-- the tables at tA, the asker's dicts at mA -/
structure Ts (K : PySem.W.Frag) (Z H : Hp) (tA mA : Addr) (w f : Int) (xs : List TD) : Prop where
  ta : H tA = some (.lst (xs.map fun x => V.ref x.a))
  ma : H mA = some (.lst (xs.map fun x => V.ref x.d))
  zt : Z tA = none
  zm : Z mA = none
  zh : Ex Z H
  tm : tA ≠ mA
  nd : ∀ (i j : Nat) x y, xs[i]? = some x → xs[j]? = some y → x.D ≠ y.d ∧ (i ≠ j → x.D ≠ y.D ∧ x.d ≠ y.d)
  ea : ∀ (i : Nat) x, xs[i]? = some x → Tb K Z H x.a x.D w f x.l ∧ Dm Z H x.d x.l
section
variable {K : PySem.W.Frag} {Z H Z' H' : Hp} {tA mA h : Addr} {w f : Int} {xs : List TD} {x y : TD} {M : List Addr} {i : Nat} {Q : VK}
/-- h is none of them -/
noncomputable def Ts.out (h tA mA : Addr) (xs : List TD) : Prop := h ≠ tA ∧ h ≠ mA ∧ ∀ (i : Nat) x, xs[i]? = some x → h ≠ x.D ∧ h ≠ x.d
end
/-- a list of two things of two kinds -/
structure HL2 (α β : Type) where
  a : α
  b : β
  deriving DecidableEq
instance {α β : Type} [Py α] [Py β] : Py (HL2 α β) := ⟨fun p => .list [Py.d p.a, Py.d p.b], max (Py.dep α) (Py.dep β) + 1, fun p => by
    simp only [PyData.depth, PyData.depthAll]
    have h1 := Py.depth p.a
    have h2 := Py.depth p.b
    omega, fun p => by simp only [PyData.canLay0, PyData.canLayAll0, Py.can]; rfl, fun a b => by
    obtain ⟨a1, a2⟩ := a
    obtain ⟨b1, b2⟩ := b
    simp only [PyData.eqv, PyData.eqvAll, Bool.and_true, Bool.and_eq_true, Py.eqv, HL2.mk.injEq]⟩
end TR
namespace TR
open PySem L2
section
variable {K : PySem.W.Frag} {Z H : Hp} {tA mA ta D d p : Addr} {w f : Int} {l : Row} {Q : VK} {v : V} {vs : List V}
/-- a list that will be changed: what stands in it is no data -/
theorem t_newR (z : Ex Z H) (h : vs.length ≤ 100000) (q : ∀ p Z' H', H p = none → T [] Z H Z' H' → H' p = some (.lst vs) → Z' p = none → Q (.ref p) H') : NewL vs H Q :=
  ⟨sz_of h, fun p hp => q p Z _ hp (T.newM hp z) upd_same (Ex.back z hp)⟩
theorem t_appR (z : Ex Z H) (h : H p = some (.lst vs)) (zp : Z p = none) (hz : vs.length < 100000) (q : ∀ Z' H', T [p] Z H Z' H' → H' p = some (.lst (vs ++ [v])) → Z' p = none → Q .non H') : rAppend (.ref p) [v] H Q :=
  ⟨p, vs, v, rfl, rfl, h, sz_lt hz, q Z _ (T.set ⟨zp, _, h⟩ z) upd_same zp⟩
end
end TR
namespace TR
open PySem L2
end TR
namespace TR
open PySem L2
end TR
namespace TR
open PySem L2
end TR
namespace TR
open PySem L2
end TR

/-! refusals: what is counted, what is odd, what a table refuses -/
namespace TR
open PySem L2 PySem.Spec PyProof.Rows
/-- l.count(x), flat things -/
noncomputable def rCntF (K : PySem.W.Frag) : V → List V → Hp → VK → Prop := fun x xs H Q => ∃ (a : Addr) (ys : List V) (y : V), x = V.ref a ∧ xs = [y] ∧ SqL K H a ys ∧ flatV y = true ∧ ys.all flatV = true ∧ Q (.int ((ys.countP fun z => eqV z y) : Nat)) H
theorem count_eqU {y : V} : ∀ {ys : List V} {us : List Value}, Vals ys us → ys.all flatV = true → us.countP (eqU y) = ys.countP fun z => eqV z y
  | _, _, .nil, _ => rfl
  | z :: ys, u :: us, .cons r t, f => by
    rw [List.all_cons, Bool.and_eq_true] at f
    rw [List.countP_cons, List.countP_cons, count_eqU t f.2, eqU_of r f.1]
theorem mt_countF {X : Cx} : MtR X "list.count" (rCntF X.K) := by
  intro pins s σ H x xs v us Q I rx rxs h
  obtain ⟨a, ys, y, rfl, rfl, hs, fy, fys, q⟩ := h
  cases rx
  obtain ⟨uy, rfl, ry⟩ := rxs.one
  obtain ⟨its, rv, ⟨⟨cls, dd, data, sl⟩, n, ho, hc, hdn, hd⟩, hlen⟩ := I.list hs
  simp only at hc hd
  subst hc hd
  refine call_meets PySem.F.slot_list_count ⟨_, ho, rfl⟩ PySem.F.entry_list_count (PySem.F.args_list_count_2 _ _)
    (SeqAt.list_countAt a its.toArray n dd sl uy (eqU y)) ⟨ho, fun u' hu' => mem_eqAt ry fy rv fys u' (by simpa using hu'), ?_⟩
  have ec : its.toArray.toList.countP (eqU y) = ys.countP fun z => eqV z y := count_eqU rv fys
  refine ⟨.int ((ys.countP fun z => eqV z y) : Nat), H, I.tok _, ⟨s.toks, ?_⟩, q⟩
  show Value.int ((its.toArray.toList.countP (eqU y) : Nat) : Int) s.toks = Value.int ((ys.countP (fun z => eqV z y) : Nat) : Int) s.toks
  rw [ec]
theorem countFA {X : Cx} {K : PySem.W.Frag} (hk : X.K = K) : MtR X "list.count" (rCntF K) := hk ▸ mt_countF
section
variable {K : PySem.W.Frag} {Z H Z' H' : Hp} {Q : VK} {E : XK} {M : List Addr} {v : V} {n : String} {D : Addr} {w f : Int} {l : Row}
theorem s_countF {a : Addr} {ys : List V} {y : V} {n : Nat} (h : SqL K H a ys) (fy : flatV y = true) (fs : ys.all flatV = true) (e : (ys.countP fun z => eqV z y) = n) (q : Q (.int (n : Nat)) H) : rCntF K (.ref a) [y] H Q := ⟨a, ys, y, rfl, rfl, h, fy, fs, by rw [e]; exact q⟩
theorem s_indexF {a : Addr} {ys : List V} {y z : V} {j : Nat} (h : SqL K H a ys) (fy : flatV y = true) (fs : ys.all flatV = true) (hj : ys[j]? = some z) (hz : eqV z y = true) (hn : (ys.take j).all (fun z => !eqV z y) = true) (q : Q (.int (j : Nat)) H) : rIndex K (.ref a) [y] H Q :=
  ⟨a, ys, y, j, z, rfl, rfl, h, fy, fs, hj, hz, fun m z' hm hz' => by
    have := List.all_eq_true.mp hn z' (List.mem_of_getElem? (i := m) (by rw [List.getElem?_take, if_pos hm]; exact hz'))
    simpa using this, q⟩
theorem T.eh (t : T [] Z H Z' H') : Ex H H' := fun b o h => t.m _ _ List.not_mem_nil h
/-! what a table tells of itself -/
noncomputable def longT (w f : Int) (l : Row) : Int × Int := (maxI ((cntsT f l).map fun m => rowsI m w), ((((cntsT f l).map fun m => rowsI m w).findIdx fun m => decide (m = maxI ((cntsT f l).map fun m => rowsI m w)) : Nat) : Int))
theorem longI_T {m : Int} {j : Nat} (h : longI (cntsT f l) w m j) : (m, (j : Int)) = longT w f l := by
  obtain ⟨rfl, h2, h3⟩ := h
  unfold longT
  congr 2
  have hj := (List.getElem?_eq_some_iff.mp h2).1
  refine ((List.findIdx_eq hj).mpr ⟨decide_eq_true (List.getElem?_eq_some_iff.mp h2).2, fun i hi => decide_eq_false fun c => h3 i hi ?_⟩).symm
  rw [List.getElem?_eq_getElem (by omega), c]
noncomputable def stT (w f : Int) (l : Row) : T6 Int Int Row (List (List Row)) Int (Int × Int) := T6.mk (l.length : Int) (roomsT f l) (sortE l) [rowsE w f l 0, rowsE w f l (roomsT f l - 1), rowsE w f l (roomsT f l / 2)] (spillI (cntsT f l) w) (longT w f l)
/-! odd things -/
inductive OddX (Z : Hp) : V → String → Prop
  | odd {v : V} {n : String} (h : OddV Z v n) : OddX Z v n
  | ltx {a : Addr} {x : Tx} (h : Z a = some (.lst [.str x.1])) : OddX Z (.ref a) "list"
theorem OddX.ex (h : OddX Z v n) (e : Ex Z Z') : OddX Z' v n := by
  cases h with
  | odd h => exact .odd (h.ex e)
  | ltx h => exact .ltx (e _ _ h)
theorem OddX.kind (h : OddX Z v n) (e : Ex Z H) : KindV K H v n := by
  cases h with
  | odd h => exact h.kind e
  | ltx h => exact .lst (sq_of (e _ _ h))
theorem OddX.eqV (h : OddX Z v n) : EqV K H v v true := by
  cases h with
  | odd h => exact h.eqV
  | ltx h => exact .same _
/-- refused: the word and what is borne -/
noncomputable def Refd (f : Int) (l : Row) (way : Int) (v t : V) (word : Str) (o : V) : Prop :=
  (way ≠ 4 ∧ keyV v = false ∧ word = "key" ∧ o = v) ∨
  (way = 0 ∧ keyV v = true ∧ nameV t = false ∧ word = "thing" ∧ o = t) ∨
  (way = 0 ∧ (∃ k, v = .int k ∧ keyV v = true ∧ nameV t = true ∧ k ∉ l.map Prod.fst ∧ l.length = 64) ∧ word = "full" ∧ o = .int 64) ∨
  ((way = 1 ∨ way = 2) ∧ (∃ k, v = .int k ∧ keyV v = true ∧ k ∉ l.map Prod.fst) ∧ word = "lacking" ∧ o = v) ∨
  (way = 4 ∧ (∀ r, v = .int r → ¬ (0 ≤ r ∧ r < roomsT f l)) ∧ word = "room" ∧ o = v)
noncomputable def spDone37 (K : PySem.W.Frag) : Sp := fun vs H Q _ => ∃ (a D : Addr) (w f way : Int) (l : Row) (Z : Hp) (v t : V) (n m : String), vs = [.ref a, .int way, v, t] ∧ Tb K Z H a D w f l ∧ KindV K H v n ∧ KindV K H t m ∧ 0 ≤ way ∧ way ≤ 4 ∧
  (2 ≤ way → ∃ word o, Refd f l way v t word o) ∧
  (∀ word o, Refd f l way v t word o → ∀ p Z' H', T [D] Z H Z' H' → Tb K Z' H' a D w f l → Z' p = some (.tup [.str word, o]) → Q (.ref p) H') ∧
  (way = 0 → ∀ k x, v = .int k → t = .str x.1 → keyV v = true → nameV t = true → (k ∈ l.map Prod.fst ∨ l.length < 64) → ∀ p Z' H', T [D] Z H Z' H' → Tb K Z' H' a D w f (setE l k x) → Z' p = some (.tup [.str "told", .non]) → Q (.ref p) H') ∧
  (way = 1 → ∀ k, v = .int k → k ∈ l.map Prod.fst → ∀ p Z' H', T [D] Z H Z' H' → Tb K Z' H' a D w f (outE l k) → Z' p = some (.tup [.str "told", .non]) → Q (.ref p) H')
end
/-! a name with a sign amid -/
theorem name_no {x : Str} (h : ¬ (1 ≤ x.length ∧ x.length ≤ 8) ∨ ∃ c ∈ x.cps.toList, c ∉ lettersS.cps.toList) : nameB x = false := by
  unfold nameB
  rcases h with h | ⟨c, hc, nc⟩
  · rw [decide_eq_false h, Bool.false_and]
  · rw [Bool.and_eq_false_iff]
    refine .inr (List.all_eq_false.mpr ⟨c, hc, ?_⟩)
    rw [decide_eq_false nc]
    exact Bool.false_ne_true
noncomputable def signsX : Str := " !\"#$&'()*+,-./0123456789:;<=>?@ABCDEFGHIJKLMNOPQRSTUVWXYZ[\\]^_`{|}~\n\t"
theorem signsX_len : (signsX.length : Int) = 70 := by decide +kernel
theorem signsX_no : ∀ c ∈ TL.tl signsX, c ∉ lettersS.cps.toList ∧ c < 0x110000 := by decide +kernel
theorem cutS_lenX {x : Str} {lo hi : Option Int} : (cutS x lo hi).length ≤ x.length := by
  show (((x.cps.toList.drop (HT.sIx x.length 0 lo)).take (HT.sIx x.length x.length hi - HT.sIx x.length 0 lo)).toArray).size ≤ x.cps.size
  rw [List.size_toArray, List.length_take, List.length_drop, Array.length_toList]
  omega
/-- a sign put in the place of one -/
theorem name_sign {x y : Str} {c : Nat} (h : c ∉ lettersS.cps.toList) : nameB (x ++ ⟨#[c]⟩ ++ y) = false := by
  refine name_no (.inr ⟨c, ?_, h⟩)
  have e : (x ++ ⟨#[c]⟩ ++ y).cps.toList = (x.cps.toList ++ [c]) ++ y.cps.toList := by
    have e1 : (x ++ ⟨#[c]⟩ ++ y).cps = (x.cps ++ #[c]) ++ y.cps := rfl
    rw [e1, Array.toList_append, Array.toList_append]
  rw [e]
  simp
theorem strOk_sign {c : Nat} (h : c < 0x110000) : PyData.strOk ⟨#[c]⟩ = true := by
  rw [strOk_it]
  intro d hd
  simp at hd
  omega
/-- what is asked and refused: a tuple (way, key, thing, (word, value)) -/
noncomputable def AskOk (Z : Hp) (f : Int) (l : Row) (v : V) : Prop := ∃ (p e : Addr) (way : Int) (kv tv o : V) (n m r : String) (word : Tx), v = .ref p ∧ Z p = some (.tup [.int way, kv, tv, .ref e]) ∧ Z e = some (.tup [.str word.1, o]) ∧ OddX Z kv n ∧ OddX Z tv m ∧ OddX Z o r ∧ 0 ≤ way ∧ way ≤ 4 ∧ Refd f l way kv tv word.1 o
theorem AskOk.ex {Z Z' : Hp} {f : Int} {l : Row} {v : V} (e : Ex Z Z') (h : AskOk Z f l v) : AskOk Z' f l v := by
  obtain ⟨p, q, way, kv, tv, o, n, m, r, word, h1, h2, h3, h4, h5, h6, h7⟩ := h
  exact ⟨p, q, way, kv, tv, o, n, m, r, word, h1, e _ _ h2, e _ _ h3, h4.ex e, h5.ex e, h6.ex e, h7⟩
theorem odd_i {Z : Hp} (i : Int) : OddX Z (.int i) "int" := .odd (.int i)
theorem odd_s {Z : Hp} (x : Tx) (h : x.1.length ≤ 100000) : OddX Z (.str x.1) "str" := .odd (.str x h)
noncomputable def tx0 : Tx := ⟨"", by decide +kernel⟩
noncomputable def txKey : Tx := ⟨"key", by decide +kernel⟩
noncomputable def txThing : Tx := ⟨"thing", by decide +kernel⟩
noncomputable def txFull : Tx := ⟨"full", by decide +kernel⟩
noncomputable def txLack : Tx := ⟨"lacking", by decide +kernel⟩
noncomputable def txRoom : Tx := ⟨"room", by decide +kernel⟩
theorem ask_all {Z Z' : Hp} {f : Int} {l : Row} {vs : List V} (e : Ex Z Z') (h : ∀ v ∈ vs, AskOk Z f l v) : ∀ v ∈ vs, AskOk Z' f l v := fun v hv => (h v hv).ex e
theorem Refd.uniq {f way : Int} {l : Row} {v t o1 o2 : V} {w1 w2 : Str} (h : Refd f l way v t w1 o1) (h' : Refd f l way v t w2 o2) : w1 = w2 ∧ o1 = o2 := by
  unfold Refd at h h'
  rcases h with ⟨a1, a2, rfl, rfl⟩ | ⟨a1, a2, a3, rfl, rfl⟩ | ⟨a1, ⟨k, e, a2, a3, a4, a5⟩, rfl, rfl⟩ | ⟨a1, ⟨k, e, a2, a3⟩, rfl, rfl⟩ | ⟨a1, a2, rfl, rfl⟩ <;>
  rcases h' with ⟨b1, b2, rfl, rfl⟩ | ⟨b1, b2, b3, rfl, rfl⟩ | ⟨b1, ⟨k', e', b2, b3, b4, b5⟩, rfl, rfl⟩ | ⟨b1, ⟨k', e', b2, b3⟩, rfl, rfl⟩ | ⟨b1, b2, rfl, rfl⟩ <;>
  first
  | exact ⟨rfl, rfl⟩
  | (exfalso; omega)
  | (exfalso; rw [a2] at b2; cases b2; done)
  | (exfalso; rw [a3] at b3; cases b3; done)
theorem Refd.told0 {f k : Int} {l : Row} {v t o : V} {w : Str} (h : Refd f l 0 v t w o) (ev : v = .int k) (c1 : keyV v = true) (c2 : nameV t = true) (hl : k ∈ l.map Prod.fst ∨ l.length < 64) : False := by
  unfold Refd at h
  rcases h with ⟨a1, a2, _⟩ | ⟨a1, a2, a3, _⟩ | ⟨a1, ⟨k', e, a2, a3, a4, a5⟩, _⟩ | ⟨a1, _⟩ | ⟨a1, _⟩
  · rw [a2] at c1; cases c1
  · rw [a3] at c2; cases c2
  · rw [ev] at e
    cases e
    rcases hl with h | h
    · exact a4 h
    · omega
  · omega
  · omega
theorem Refd.told1 {f k : Int} {l : Row} {v t o : V} {w : Str} (h : Refd f l 1 v t w o) (ev : v = .int k) (c1 : keyV v = true) (hm : k ∈ l.map Prod.fst) : False := by
  unfold Refd at h
  rcases h with ⟨a1, a2, _⟩ | ⟨a1, _⟩ | ⟨a1, _⟩ | ⟨a1, ⟨k', e, a2, a3⟩, _⟩ | ⟨a1, _⟩
  · rw [a2] at c1; cases c1
  · omega
  · omega
  · rw [ev] at e
    cases e
    exact a3 hm
  · omega
noncomputable def txTold : Tx := ⟨"told", by decide +kernel⟩
end TR

/-! rows that an asker of a table may change: the list and its rows are new -/
namespace TR
open PySem L2
theorem c_rowsM {K : PySem.W.Frag} {σ : L2.St} {H Z : Hp} {te : TE} {Q : VK} {g : TG} {vs : List Nat} {γ α : Type} {iγ : Py γ} [Py α] {a : Addr} {rows : List γ} (φ : γ → List α) (zh : Ex Z H) (h : Ik Z (.ref a) rows) (hz : rows.length ≤ 40000)
    (turn : ∀ (i : Nat) v x, rows[i]? = some x → Ik Z v x → ∀ Z1 H1, T [] Z H Z1 H1 → ∀ A : VK, (∀ w Z3 H3, H1 w = none → T [] Z1 H1 Z3 H3 → Ls Z3 w (φ x) → A (.ref w) H3) → g v (wipe σ vs) H1 fun σ2 H2 => wipe σ2 vs = wipe σ vs ∧ te σ2 H2 A)
    (fin : ∀ (q : Addr) (ws : List Addr) Z' H', T [] Z H Z' H' → (q :: ws).Nodup → (∀ b ∈ q :: ws, H b = none) → Z' q = some (.lst (ws.map V.ref)) → Paired (fun w x => Ls Z' w (φ x)) ws rows → Q (.ref q) H') : LcL K g tYes te vs σ (.ref a) H Q := by
  obtain ⟨b, us, e, h1, h2⟩ := h.list
  cases e
  have hl := Paired.length h2
  refine ⟨a, rfl, ⟨us, zh.sq (sq_of h1)⟩, lcTN (n := rows.length) (M := []) (Z := Z) (fun _ _ _ => True) (fun i (x : γ) fp y Z1 => rows[i]? = some x ∧ ∃ w, fp = [w] ∧ y = .ref w ∧ Ls Z1 w (φ x)) (fun i x fp y Z1 Z2 e r => ⟨r.1, by
    obtain ⟨w, r1, r2, r3⟩ := r.2
    exact ⟨w, r1, r2, r3.exz e⟩⟩) (fun _ _ _ _ _ _ _ _ => trivial) hz zh (fun _ h => absurd h List.not_mem_nil) trivial
    (fun i Z1 H1 hi t => ⟨us, us[i]'(by omega), (t.z.trans t.zh).sq (sq_of h1), List.getElem?_eq_getElem (by omega)⟩) (fun Z1 H1 t => ⟨us, (t.z.trans t.zh).sq (sq_of h1), by omega⟩) (fun i hi D Z1 H1 t nD mu _ v H2 hy A hA => ?_) (fun D ys L Z' H' nD t mu f1 _ hL hY pr nd fr al => ?_)⟩
  · obtain ⟨rfl, fv⟩ := hy
    have hv := fv _ ((t.z.trans t.zh).sq (sq_of h1))
    obtain ⟨x, hx, ix⟩ := itemK h2 hv
    refine turn i v x hx ix Z1 H2 t A fun w Z3 H3 nw t3 rf => hA x [w] (.ref w) Z3 H3 t3 trivial ⟨hx, w, rfl, rfl, rf⟩ (List.nodup_cons.mpr ⟨List.not_mem_nil, List.nodup_nil⟩) (fun q hq => by rw [List.mem_singleton.mp hq]; exact nw) (fun q hq => ?_)
    rw [List.mem_singleton.mp hq]
    obtain ⟨vs, r1, _⟩ := rf
    exact ⟨_, t3.zh _ _ r1⟩
  · have eL : L.map Prod.fst = rows := by
      refine List.ext_getElem? fun i => ?_
      rw [List.getElem?_map]
      by_cases c : i < L.length
      · have h1 := pr i (ys[i]'(by omega)) L[i] (List.getElem?_eq_getElem _) (List.getElem?_eq_getElem _)
        rw [List.getElem?_eq_getElem c, h1.1]
        rfl
      · rw [List.getElem?_eq_none_iff.mpr (by omega), List.getElem?_eq_none_iff.mpr (by omega)]
        rfl
    have prL : Paired (fun y q => ∃ w, q.2 = [w] ∧ y = .ref w ∧ Ls Z' w (φ q.1)) ys L := paired_of (by omega) fun i y q h1 h2 => (pr i y q h1 h2).2
    have key : ∃ ws : List Addr, ys = ws.map V.ref ∧ (L.map Prod.snd).flatten = ws ∧ Paired (fun w x => Ls Z' w (φ x)) ws (L.map Prod.fst) := by
      clear f1 hL nd fr al pr hY eL
      induction prL with
      | nil => exact ⟨[], rfl, rfl, .nil⟩
      | cons a t ih =>
        obtain ⟨ws, r1, r2, r3⟩ := ih
        obtain ⟨w, e1, e2, rf⟩ := a
        exact ⟨w :: ws, by rw [e2, r1]; rfl, by rw [List.map_cons, List.flatten_cons, e1, r2]; rfl, .cons rf r3⟩
    obtain ⟨ws, rfl, efl, prw⟩ := key
    rw [eL] at prw
    rw [efl] at nd fr al
    refine t_fzV mu t.zh f1 fun Z2 H2 t2 f2 => fin D ws Z2 H2 (t.step t2 (mm_cons (.inr nD) mm_nil)) nd (fun b hb => ?_) f2 (Paired.mapP prw fun w r g1 => g1.exz t2.z)
    rcases List.mem_cons.mp hb with e | hb
    · rw [e]; exact nD
    · exact fr b hb
theorem rows_pair {α γ : Type} {iα : Py α} {Z : Hp} {φ : γ → List α} {ws : List Addr} {rows : List γ} (p : Paired (fun w x => Ls Z w (φ x)) ws rows) : Paired (fun w r => Ls Z w r) ws (rows.map φ) := by
  induction p with
  | nil => exact .nil
  | cons a t ih => exact .cons a ih
end TR

/-! words of T: zh (all of Z stands), zz, pz (what stands in Z), hz (in H), iz (data in Z), sqz, stz, nm (not among), nez, al, hd (the hand), la, mu, li, ls, mm, fz (was not there), tt (the whole way); t, ts: steps -/
open PySem L2 TR
local macro_rules | `(tactic| walk_at "zh") => `(tactic| first
  | assumption
  | exact T.zh (by assumption)
  | exact Ex.refl _
  | exact Hand.z (by assumption))
local macro_rules | `(tactic| walk_at "zhx") => `(tactic| first
  | exact T.zh (by assumption)
  | assumption
  | exact Hand.z (by assumption))
local macro_rules | `(tactic| walk_at "pz") => `(tactic| first
  | assumption
  | (apply T.pz; assumption; walk_at "pz"))
local macro_rules | `(tactic| walk_at "hz") => `(tactic| first
  | assumption
  | (apply T.hp; assumption; walk_at "nm"; walk_at "hz"))
local macro_rules | `(tactic| walk_at "nm") => `(tactic| first
  | exact nm_nil
  | assumption
  | (apply nm_cons; walk_at "nez"; walk_at "nm"))
local macro_rules | `(tactic| walk_at "nez") => `(tactic| first
  | assumption
  | (apply Ne.symm; assumption)
  | (apply ne_alF; assumption; walk_at "al")
  | (apply ne_alB; assumption; walk_at "al"))
local macro_rules | `(tactic| walk_at "al") => `(tactic| first
  | exact Hand.at (by assumption)
  | exact Mu.a (by assumption)
  | exact Lm.at_ (by assumption)
  | exact ⟨_, by assumption⟩
  | (apply T.all; assumption; walk_at "al"))
local macro_rules | `(tactic| walk_at "hd") => `(tactic| first
  | assumption
  | (apply Hand.tt; assumption; walk_at "nm"; walk_at "hd"))
local macro_rules | `(tactic| walk_at "la") => `(tactic| first
  | assumption
  | (apply Lm.tt; assumption; walk_at "nm"; walk_at "la"))
local macro_rules | `(tactic| walk_at "ls") => `(tactic| first
  | assumption
  | (apply Ls.ofInts; walk_at "pz")
  | (apply Ls.tt; assumption; walk_at "ls"))
local macro_rules | `(tactic| walk_at "lsn") => `(tactic| first
  | (walk_at "ls"))
local macro_rules | `(tactic| walk_at "izc") => `(tactic| first
  | assumption
  | exact Ls.is (by assumption)
  | (apply Ik.tt; assumption; walk_at "izc"))
local macro_rules | `(tactic| walk_at "iz") => `(tactic| first
  | exact Ik.int _
  | exact Ik.tx _
  | walk_at "izc"
  | exact Ik.no
  | (apply Ik.pair; walk_at "pz"; walk_at "iz"; walk_at "iz")
  | (apply Ik.nil; walk_at "pz")
  | (apply Ls.is; walk_at "lsn")
  | (apply Ik.ints; walk_at "pz"))
local macro_rules | `(tactic| walk_at "sqz") => `(tactic| first
  | assumption
  | (apply sq_of; walk_at "pz")
  | (apply Ik.sqI; assumption)
  | (apply T.sqz; assumption; walk_at "sqz"))
local macro_rules | `(tactic| walk_at "stz") => `(tactic| first
  | assumption
  | (apply st_of; walk_at "pz"))
/-! the old words, widened -/
local macro_rules | `(tactic| walk_at "hp") => `(tactic| first
  | assumption
  | exact T.zh (by assumption) _ _ (by assumption)
  | (apply ex_ap; walk_at "zhx"; walk_at "pz")
  | walk_at "hz"
  | (apply ex_ap; assumption; walk_at "hp")
  | (apply exm_ap; assumption; walk_at "ne"; walk_at "hp"))
local macro_rules | `(tactic| walk_at "sq") => `(tactic| first
  | assumption
  | exact RW.sq (by assumption)
  | (apply sq_of; walk_at "hp")
  | (apply Ex.sq; walk_at "zhx"; walk_at "sqz")
  | focus (apply Ex.sq; rotate_left; assumption; walk_at "ex"))
local macro_rules | `(tactic| walk_at "st") => `(tactic| first
  | assumption
  | (apply st_of; walk_at "hp")
  | (apply Ex.st; walk_at "zhx"; walk_at "stz")
  | focus (apply Ex.st; rotate_left; assumption; walk_at "ex"))
local macro_rules | `(tactic| walk_at "isK") => `(tactic| first
  | (apply Ik.ex; walk_at "zhx"; walk_at "iz")
  | (apply Lm.isH; walk_at "la")
  | (apply Ik.nil; walk_at "hp"))
local macro_rules | `(tactic| walk_at "is") => `(tactic| first
  | exact Is.int _
  | assumption
  | (apply Ik.is; walk_at "isK")
  | exact RW.is (by assumption)
  | (apply Is.ints; walk_at "sq"))
/-! steps -/
local macro_rules | `(tactic| walk_at "ig") => `(tactic| first
  | ((with_reducible apply ig_at); walk_at "at")
  | ((with_reducible apply ig_ints); omega; intro _ _)
  | ((with_reducible apply ig_2b); intro _ _))
local macro_rules | `(tactic| walk_at "q") => `(tactic| first
  | ((with_reducible apply s_var); rfl)
  | (with_reducible (first | apply s_seq | apply s_asg | apply s_gname | apply s_cons | apply s_nil | apply s_call | apply s_op | apply s_c | apply s_if | apply s_test | apply s_ret | apply s_next | apply s_drop | apply s_bl | apply s_and | apply s_or | apply s_not | apply s_CB | apply s_tup | apply s_lst | apply s_tB | apply s_un | apply s_sl | apply s_np | apply s_part)))
local macro_rules | `(tactic| walk_at "t2") => `(tactic| first
  | (with_reducible (first | apply s_chain | apply s_andV | apply s_notV | apply s_I0 | apply s_U | apply s_plusI | apply s_eqI | apply s_neI | apply s_eqB | apply s_neS | apply s_int | apply s_BM | apply s_gsub | apply s_augS | apply s_ipI | apply s_forL | apply s_forT | apply s_forR1 | apply s_forS | apply s_lcL | apply s_lcR1 | apply s_dput))
  | ((with_reducible apply s_wp); rfl)
  | (with_reducible (first | apply s_lstRg | apply s_Rg2 | apply s_int2))
  | ((with_reducible apply s_mod); walk_at "od"; intro _ _)
  | ((with_reducible apply s_div); walk_at "od"; walk_at "od")
  | (walk_at "pow")
  | ((with_reducible apply s_pow); decide; walk_at "od")
  | ((with_reducible apply s_mulL); walk_at "od")
  | ((with_reducible apply s_mulR); walk_at "od")
  | ((with_reducible apply t_tup); walk_at "zh"; walk_at "od"; intro _ _ _ _ _ _)
  | ((with_reducible apply t_lst0); walk_at "zh"; intro _ _ _ _ _ _ _)
  | ((with_reducible apply t_lst); walk_at "zh"; walk_at "od"; intro _ _ _ _ _ _)
  | ((with_reducible apply drawT); walk_at "hd"; walk_at "od"; walk_at "od"; walk_at "od"; intro _ _ _ _ _ _ _)
  | ((with_reducible apply keyT); walk_at "hd"; walk_at "od"; intro _ _ _ _ _ _ _)
  | ((with_reducible apply openT); walk_at "zh"; walk_at "sq"; walk_at "od"; walk_at "od"; intro _ _ _ _ _ _)
  | ((with_reducible apply placesT); walk_at "zh"; walk_at "sq"; walk_at "od"; intro _ _ _ _ _ _)
  | ((with_reducible apply s_sum); walk_at "sq")
  | ((with_reducible apply s_maxL); walk_at "sq"; walk_at "len")
  | ((with_reducible apply t_slIs); walk_at "zh"; walk_at "izc"; intro _ _ _ _ _ _)
  | ((with_reducible apply t_len); walk_at "zh"; walk_at "izc")
  | ((with_reducible apply s_lenM); walk_at "sq")
  | ((with_reducible apply s_lenL); walk_at "sq")
  | ((with_reducible apply s_gt2); walk_at "st")
  | (with_reducible (first | apply s_max2 | apply s_min2 | apply s_abs | apply s_int1b))
  | ((with_reducible apply s_isiI); walk_at "kit")
  | ((with_reducible apply s_isiB); walk_at "kit")
  | ((with_reducible apply s_isiS); walk_at "kit")
  | ((with_reducible apply s_isiN); walk_at "kit")
  | ((with_reducible apply s_isiT); walk_at "st"; walk_at "kit")
  | ((with_reducible apply s_isiL); walk_at "sq"; walk_at "kit")
  | ((with_reducible apply s_index); walk_at "sq"; assumption; intro _ _ _)
  | ((with_reducible apply s_inL); walk_at "sq")
  | ((with_reducible apply s_tyL); walk_at "sq")
  | ((with_reducible apply s_aug); rfl)
  | ((with_reducible apply ixGo); walk_at "sq"; walk_at "ig")
  | ((with_reducible apply ixGoT); walk_at "st"; walk_at "ig")
  | (with_reducible (first | apply i_t | apply i_f | apply i_nt | apply i_nf))
  | ((with_reducible apply i_dt); (focus (first | trivial | assumption | omega | rfl)))
  | ((with_reducible apply i_df); (focus (first | assumption | omega | exact (fun h => h rfl)))))
/-! as ts, but it stops at list(..) -/
/-! words for yards (math/yt) -/
local macro_rules | `(tactic| walk_at "ty2") => `(tactic| first
  | ((with_reducible apply keysT); walk_at "hd"; walk_at "od"; walk_at "od"; intro _ _ _ _ _ _ _ _ _ _ _)
  | walk_at "t2")
/-! words for dicts (math/dm) -/
local macro_rules | `(tactic| walk_at "dm") => `(tactic| first
  | assumption
  | (apply Dm.tt; assumption; walk_at "nm"; walk_at "dm"))
local macro_rules | `(tactic| walk_at "al") => `(tactic| first
  | exact Hand.at (by assumption)
  | exact Mu.a (by assumption)
  | exact Lm.at_ (by assumption)
  | exact Dm.at_ (by assumption)
  | exact ⟨_, by assumption⟩
  | (apply T.all; assumption; walk_at "al"))
local macro_rules | `(tactic| walk_at "hpd") => `(tactic| first
  | walk_at "hp"
  | (apply Dm.h; walk_at "dm"))
local macro_rules | `(tactic| walk_at "tv2") => `(tactic| first
  | (with_reducible apply s_SI)
  | (with_reducible (first | apply s_dix | apply s_din | apply s_dnin | apply s_dpop1))
  | ((with_reducible apply t_dnew); walk_at "zh"; intro _ _ _ _ _ _)
  | ((with_reducible apply t_sortN); walk_at "zh"; walk_at "hpd"; intro _ _ _ _ _ _)
  | ((with_reducible apply t_lenD); walk_at "hpd")
  | ((with_reducible apply t_din); walk_at "hpd")
  | ((with_reducible apply t_dnin); walk_at "hpd")
  | ((with_reducible apply t_dput); walk_at "dm"; (focus first | assumption | omega); intro _ _ _ _)
  | walk_at "ty2")
/-! words for classes and exceptions -/
local macro_rules | `(tactic| walk_at "tx2") => `(tactic| first
  | (with_reducible (first | apply s_raise))
  | ((with_reducible apply n_raise); intro _ _)
  | (with_reducible (first | apply s_callE | apply s_meth | apply s_fld | apply s_fset | apply s_make | apply s_xf))
  | ((with_reducible apply n_xf); walk_at "hp"; rfl)
  | ((with_reducible apply n_meth); walk_at "hp"; rfl)
  | ((with_reducible apply n_fld); walk_at "hp"; walk_at "ck"; walk_at "fl"; rfl)
  | walk_at "tv2")
local macro_rules | `(tactic| walk_at "tx") => `(tactic| first
  | walk_at "q"
  | walk_at "tx2")
local macro_rules | `(tactic| walk_at "txs") => `(tactic| ((try dsimp only); (repeat walk_at "tx")))

/-! words for tables -/
local macro_rules | `(tactic| walk_at "tb") => `(tactic| first
  | assumption
  | (apply Tb.tt'; assumption; walk_at "tb"; walk_at "nm"))
local macro_rules | `(tactic| walk_at "al") => `(tactic| first
  | exact Hand.at (by assumption)
  | exact Mu.a (by assumption)
  | exact Lm.at_ (by assumption)
  | exact Dm.at_ (by assumption)
  | exact Tb.al (by assumption)
  | exact ⟨_, by assumption⟩
  | (apply T.all; assumption; walk_at "al"))
local macro_rules | `(tactic| walk_at "tl2") => `(tactic| first
  | ((with_reducible apply tb_count); walk_at "tb")
  | ((with_reducible apply tb_rooms); walk_at "tb")
  | ((with_reducible apply tb_entries); walk_at "tb"; intro _ _ _ _ _ _)
  | ((with_reducible apply tb_spill); walk_at "tb"; intro _ _ _)
  | ((with_reducible apply tb_longest); walk_at "tb"; intro _ _ _ _ _ _ _ _ _)
  | ((with_reducible apply tb_room); walk_at "tb"; omega; intro _ _ _ _ _ _)
  | ((with_reducible apply thingN); walk_at "hd"; walk_at "od"; intro _ _ _ _ _ _)
  | walk_at "tx2")
local macro_rules | `(tactic| walk_at "tl") => `(tactic| first
  | walk_at "q"
  | walk_at "tl2")
local macro_rules | `(tactic| walk_at "tls") => `(tactic| ((try dsimp only); (repeat walk_at "tl")))
local macro_rules | `(tactic| walk_at "tlN") => `(tactic| ((try dsimp only); (repeat ((fail_if_success (with_reducible apply at_newl)); walk_at "tl"))))

namespace Lw
open PySem L2 TR
open PySem.Spec PyProof.Rows

/-! ### the text -/
def topS (i : Nat) : Stmt := PySem.Challenge.pw_tailrooms_k37_refused_in_order.main.body.getD i (.Pass ⟨0, 0, 0, 0⟩)

structure Z (K : PySem.W.Frag) (mg : Str → Option Value) : Prop where
  b_list : mg "list" = none
  b_range : mg "range" = none
  b_max : mg "max" = none
  b_min : mg "min" = none
  b_len : mg "len" = none
  b_isinstance : mg "isinstance" = none
  b_ValueError : mg "ValueError" = none
  b_str : mg "str" = none
  b_bool : mg "bool" = none
  b_int : mg "int" = none
  b_sorted : mg "sorted" = none
  b_sum : mg "sum" = none
  b_abs : mg "abs" = none
  c_LETTERS : ∃ t, mg "LETTERS" = some (.str "abcdefghijklmnopqrstuvwxyz" t)
  c_LONGEST : ∃ t, mg "LONGEST" = some (.int 8 t)
  c_KEYS : ∃ t, mg "KEYS" = some (.int 1152921504606846976 t)
  c_MOST : ∃ t, mg "MOST" = some (.int 64 t)
  c_GREATEST : ∃ t, mg "GREATEST" = some (.int 8 t)
  k_Table : Cls K (clsA K "Table")
  n_Table_wide : NoAttr K (clsA K "Table") "wide"
  n_Table_fill : NoAttr K (clsA K "Table") "fill"
  n_Table_things : NoAttr K (clsA K "Table") "things"
  t_TailError : TeC K mg "TailError"
  g_NoSize : mg "NoSize" = some (.ref (clsA K "NoSize"))
  g_NoRoom : mg "NoRoom" = some (.ref (clsA K "NoRoom"))
  g_Lacking : mg "Lacking" = some (.ref (clsA K "Lacking"))
  g_Full : mg "Full" = some (.ref (clsA K "Full"))
  g_NoThing : mg "NoThing" = some (.ref (clsA K "NoThing"))
  g_NoKey : mg "NoKey" = some (.ref (clsA K "NoKey"))
  g_TailError : mg "TailError" = some (.ref (clsA K "TailError"))
  ix_NoKey : IsxC K (clsA K "NoKey")
  sv_NoKey : PySem.W.subIn K (.ref (clsA K "NoKey")) (.type "ValueError") = some true
  ix_NoThing : IsxC K (clsA K "NoThing")
  sv_NoThing : PySem.W.subIn K (.ref (clsA K "NoThing")) (.type "ValueError") = some true
  ix_Full : IsxC K (clsA K "Full")
  sv_Full : PySem.W.subIn K (.ref (clsA K "Full")) (.type "ValueError") = some true
  ix_Lacking : IsxC K (clsA K "Lacking")
  sv_Lacking : PySem.W.subIn K (.ref (clsA K "Lacking")) (.type "ValueError") = some true
  ix_NoRoom : IsxC K (clsA K "NoRoom")
  sv_NoRoom : PySem.W.subIn K (.ref (clsA K "NoRoom")) (.type "ValueError") = some true
  x_Lacking : XfC K (clsA K "Lacking")
  x_NoKey : XfC K (clsA K "NoKey")
  x_NoRoom : XfC K (clsA K "NoRoom")
  x_Full : XfC K (clsA K "Full")
  x_NoThing : XfC K (clsA K "NoThing")
  xn_Lacking_key : PySem.W.findIn K (.ref (clsA K "Lacking")) "key" = some none
  xn_NoKey_key : PySem.W.findIn K (.ref (clsA K "NoKey")) "key" = some none
  xn_NoRoom_number : PySem.W.findIn K (.ref (clsA K "NoRoom")) "number" = some none
  xn_Full_many : PySem.W.findIn K (.ref (clsA K "Full")) "many" = some none
  xn_NoThing_thing : PySem.W.findIn K (.ref (clsA K "NoThing")) "thing" = some none
  m_NoThing_TailError : PySem.W.exmOne K (.ref (clsA K "NoThing")) (.ref (clsA K "TailError")) = some true
  m_NoKey_TailError : PySem.W.exmOne K (.ref (clsA K "NoKey")) (.ref (clsA K "TailError")) = some true
  m_Full_TailError : PySem.W.exmOne K (.ref (clsA K "Full")) (.ref (clsA K "TailError")) = some true
  m_Lacking_TailError : PySem.W.exmOne K (.ref (clsA K "Lacking")) (.ref (clsA K "TailError")) = some true
  m_NoRoom_TailError : PySem.W.exmOne K (.ref (clsA K "NoRoom")) (.ref (clsA K "TailError")) = some true
  m_NoSize_TailError : PySem.W.exmOne K (.ref (clsA K "NoSize")) (.ref (clsA K "TailError")) = some true
  m_NoThing_Lacking : PySem.W.exmOne K (.ref (clsA K "NoThing")) (.ref (clsA K "Lacking")) = some false
  m_NoKey_Lacking : PySem.W.exmOne K (.ref (clsA K "NoKey")) (.ref (clsA K "Lacking")) = some false
  m_Full_Lacking : PySem.W.exmOne K (.ref (clsA K "Full")) (.ref (clsA K "Lacking")) = some false
  m_Lacking_Lacking : PySem.W.exmOne K (.ref (clsA K "Lacking")) (.ref (clsA K "Lacking")) = some true
  m_NoRoom_Lacking : PySem.W.exmOne K (.ref (clsA K "NoRoom")) (.ref (clsA K "Lacking")) = some false
  m_NoSize_Lacking : PySem.W.exmOne K (.ref (clsA K "NoSize")) (.ref (clsA K "Lacking")) = some false
  m_NoThing_NoKey : PySem.W.exmOne K (.ref (clsA K "NoThing")) (.ref (clsA K "NoKey")) = some false
  m_NoKey_NoKey : PySem.W.exmOne K (.ref (clsA K "NoKey")) (.ref (clsA K "NoKey")) = some true
  m_Full_NoKey : PySem.W.exmOne K (.ref (clsA K "Full")) (.ref (clsA K "NoKey")) = some false
  m_Lacking_NoKey : PySem.W.exmOne K (.ref (clsA K "Lacking")) (.ref (clsA K "NoKey")) = some false
  m_NoRoom_NoKey : PySem.W.exmOne K (.ref (clsA K "NoRoom")) (.ref (clsA K "NoKey")) = some false
  m_NoSize_NoKey : PySem.W.exmOne K (.ref (clsA K "NoSize")) (.ref (clsA K "NoKey")) = some false
  m_NoThing_NoRoom : PySem.W.exmOne K (.ref (clsA K "NoThing")) (.ref (clsA K "NoRoom")) = some false
  m_NoKey_NoRoom : PySem.W.exmOne K (.ref (clsA K "NoKey")) (.ref (clsA K "NoRoom")) = some false
  m_Full_NoRoom : PySem.W.exmOne K (.ref (clsA K "Full")) (.ref (clsA K "NoRoom")) = some false
  m_Lacking_NoRoom : PySem.W.exmOne K (.ref (clsA K "Lacking")) (.ref (clsA K "NoRoom")) = some false
  m_NoRoom_NoRoom : PySem.W.exmOne K (.ref (clsA K "NoRoom")) (.ref (clsA K "NoRoom")) = some true
  m_NoSize_NoRoom : PySem.W.exmOne K (.ref (clsA K "NoSize")) (.ref (clsA K "NoRoom")) = some false
  m_NoThing_Full : PySem.W.exmOne K (.ref (clsA K "NoThing")) (.ref (clsA K "Full")) = some false
  m_NoKey_Full : PySem.W.exmOne K (.ref (clsA K "NoKey")) (.ref (clsA K "Full")) = some false
  m_Full_Full : PySem.W.exmOne K (.ref (clsA K "Full")) (.ref (clsA K "Full")) = some true
  m_Lacking_Full : PySem.W.exmOne K (.ref (clsA K "Lacking")) (.ref (clsA K "Full")) = some false
  m_NoRoom_Full : PySem.W.exmOne K (.ref (clsA K "NoRoom")) (.ref (clsA K "Full")) = some false
  m_NoSize_Full : PySem.W.exmOne K (.ref (clsA K "NoSize")) (.ref (clsA K "Full")) = some false
  m_NoThing_NoThing : PySem.W.exmOne K (.ref (clsA K "NoThing")) (.ref (clsA K "NoThing")) = some true
  m_NoKey_NoThing : PySem.W.exmOne K (.ref (clsA K "NoKey")) (.ref (clsA K "NoThing")) = some false
  m_Full_NoThing : PySem.W.exmOne K (.ref (clsA K "Full")) (.ref (clsA K "NoThing")) = some false
  m_Lacking_NoThing : PySem.W.exmOne K (.ref (clsA K "Lacking")) (.ref (clsA K "NoThing")) = some false
  m_NoRoom_NoThing : PySem.W.exmOne K (.ref (clsA K "NoRoom")) (.ref (clsA K "NoThing")) = some false
  m_NoSize_NoThing : PySem.W.exmOne K (.ref (clsA K "NoSize")) (.ref (clsA K "NoThing")) = some false
  m_NoKey_NoSize : PySem.W.exmOne K (.ref (clsA K "NoKey")) (.ref (clsA K "NoSize")) = some false
  m_NoThing_NoSize : PySem.W.exmOne K (.ref (clsA K "NoThing")) (.ref (clsA K "NoSize")) = some false
  m_Full_NoSize : PySem.W.exmOne K (.ref (clsA K "Full")) (.ref (clsA K "NoSize")) = some false
  m_Lacking_NoSize : PySem.W.exmOne K (.ref (clsA K "Lacking")) (.ref (clsA K "NoSize")) = some false
  m_NoRoom_NoSize : PySem.W.exmOne K (.ref (clsA K "NoRoom")) (.ref (clsA K "NoSize")) = some false

local macro_rules | `(tactic| walk_at "ck") => `(tactic| first
  | assumption
  | exact Z.k_Table (by assumption))
local macro_rules | `(tactic| walk_at "fl") => `(tactic| first
  | assumption
  | exact Z.n_Table_wide (by assumption)
  | exact Z.n_Table_fill (by assumption)
  | exact Z.n_Table_things (by assumption))
noncomputable abbrev s_law_places : Stmt := topS 51

noncomputable abbrev s_law_kinds : Stmt := topS 54

noncomputable abbrev s_whole_rooms : Stmt := topS 2

noncomputable abbrev s_turn : Stmt := topS 3

noncomputable abbrev s_split_of : Stmt := topS 5

noncomputable abbrev s_is_name : Stmt := topS 22

noncomputable abbrev s_NoThing___init : Stmt := inClass (topS 11) 0

noncomputable abbrev s_need_thing : Stmt := topS 40

noncomputable abbrev s_is_whole : Stmt := topS 20

noncomputable abbrev s_is_key : Stmt := topS 21

noncomputable abbrev s_NoKey___init : Stmt := inClass (topS 10) 0

noncomputable abbrev s_need_key : Stmt := topS 39

noncomputable abbrev s_room_of : Stmt := topS 4

noncomputable abbrev s_rooms_for : Stmt := topS 37

noncomputable abbrev s_Table_rooms : Stmt := inClass (topS 41) 2

noncomputable abbrev s_Table_keys_in : Stmt := inClass (topS 41) 3

noncomputable abbrev s_Full___init : Stmt := inClass (topS 14) 0

noncomputable abbrev s_Table_put : Stmt := inClass (topS 41) 5

noncomputable abbrev s_joined_of : Stmt := topS 6

noncomputable abbrev s_Lacking___init : Stmt := inClass (topS 13) 0

noncomputable abbrev s_Table_need_standing : Stmt := inClass (topS 41) 4

noncomputable abbrev s_Table_drop : Stmt := inClass (topS 41) 6

noncomputable abbrev s_looked : Stmt := topS 27

noncomputable abbrev s_rows_for : Stmt := topS 25

noncomputable abbrev s_rows_of : Stmt := topS 26

noncomputable abbrev s_Table_looks : Stmt := inClass (topS 41) 7

noncomputable abbrev s_Table_find : Stmt := inClass (topS 41) 8

noncomputable abbrev s_NoRoom___init : Stmt := inClass (topS 12) 0

noncomputable abbrev s_Table_room : Stmt := inClass (topS 41) 10

noncomputable abbrev s_law_done : Stmt := topS 55

noncomputable abbrev s_law_draw : Stmt := topS 44

noncomputable abbrev s_law_far : Stmt := topS 45

noncomputable abbrev s_law_power : Stmt := topS 46

noncomputable abbrev s_law_key : Stmt := topS 47

noncomputable abbrev s_longest : Stmt := topS 33

noncomputable abbrev s_spread : Stmt := topS 29

noncomputable abbrev s_counts : Stmt := topS 30

noncomputable abbrev s_Table_counts_now : Stmt := inClass (topS 41) 11

noncomputable abbrev s_Table_longest : Stmt := inClass (topS 41) 13

noncomputable abbrev s_spill : Stmt := topS 31

noncomputable abbrev s_Table_spill : Stmt := inClass (topS 41) 12

noncomputable abbrev s_Table_entries : Stmt := inClass (topS 41) 9

noncomputable abbrev s_Table_count : Stmt := inClass (topS 41) 1

noncomputable abbrev s_law_state : Stmt := topS 50

noncomputable abbrev s_law_gone : Stmt := topS 58

noncomputable abbrev s_law_alike : Stmt := topS 56

noncomputable abbrev s_law_odd_thing : Stmt := topS 53

noncomputable abbrev s_law_odd_key : Stmt := topS 52

noncomputable abbrev s_law_refused : Stmt := topS 57

noncomputable abbrev s_law_thing : Stmt := topS 49

noncomputable abbrev s_law_open : Stmt := topS 43

noncomputable abbrev s_law_keys : Stmt := topS 48

noncomputable abbrev s_is_size : Stmt := topS 23

noncomputable abbrev s_NoSize___init : Stmt := inClass (topS 9) 0

noncomputable abbrev s_need_sizes : Stmt := topS 38

noncomputable abbrev s_Table___init : Stmt := inClass (topS 41) 0

noncomputable abbrev s_law : Stmt := topS 59

theorem sc_law_places : FnScope ["_law_script", "_law_least", "_law_most"] ["_law_script", "_law_least", "_law_most"] (defScope s_law_places) := ⟨rfl, rfl, rfl, by decide +kernel, rfl, by decide +kernel, by decide +kernel⟩

theorem sc_law_kinds : FnScope ["_law_e", "_law_kinds_here"] ["_law_e"] (defScope s_law_kinds) := ⟨rfl, rfl, rfl, by decide +kernel, rfl, by decide +kernel, by decide +kernel⟩

theorem sc_whole_rooms : FnScope ["rooms", "found"] ["rooms"] (defScope s_whole_rooms) := ⟨rfl, rfl, rfl, by decide +kernel, rfl, by decide +kernel, by decide +kernel⟩

theorem sc_turn : FnScope ["rooms"] ["rooms"] (defScope s_turn) := ⟨rfl, rfl, rfl, by decide +kernel, rfl, by decide +kernel, by decide +kernel⟩

theorem sc_split_of : FnScope ["rooms"] ["rooms"] (defScope s_split_of) := ⟨rfl, rfl, rfl, by decide +kernel, rfl, by decide +kernel, by decide +kernel⟩

theorem sc_is_name : FnScope ["thing", "sign"] ["thing"] (defScope s_is_name) := ⟨rfl, rfl, rfl, by decide +kernel, rfl, by decide +kernel, by decide +kernel⟩

theorem sc_NoThing___init : FnScope ["self", "thing"] ["self", "thing"] (defScope s_NoThing___init) := ⟨rfl, rfl, rfl, by decide +kernel, rfl, by decide +kernel, by decide +kernel⟩

theorem sc_need_thing : FnScope ["thing"] ["thing"] (defScope s_need_thing) := ⟨rfl, rfl, rfl, by decide +kernel, rfl, by decide +kernel, by decide +kernel⟩

theorem sc_is_whole : FnScope ["thing"] ["thing"] (defScope s_is_whole) := ⟨rfl, rfl, rfl, by decide +kernel, rfl, by decide +kernel, by decide +kernel⟩

theorem sc_is_key : FnScope ["thing"] ["thing"] (defScope s_is_key) := ⟨rfl, rfl, rfl, by decide +kernel, rfl, by decide +kernel, by decide +kernel⟩

theorem sc_NoKey___init : FnScope ["self", "key"] ["self", "key"] (defScope s_NoKey___init) := ⟨rfl, rfl, rfl, by decide +kernel, rfl, by decide +kernel, by decide +kernel⟩

theorem sc_need_key : FnScope ["key"] ["key"] (defScope s_need_key) := ⟨rfl, rfl, rfl, by decide +kernel, rfl, by decide +kernel, by decide +kernel⟩

theorem sc_room_of : FnScope ["key", "rooms", "whole"] ["key", "rooms"] (defScope s_room_of) := ⟨rfl, rfl, rfl, by decide +kernel, rfl, by decide +kernel, by decide +kernel⟩

theorem sc_rooms_for : FnScope ["count", "fill"] ["count", "fill"] (defScope s_rooms_for) := ⟨rfl, rfl, rfl, by decide +kernel, rfl, by decide +kernel, by decide +kernel⟩

theorem sc_Table_rooms : FnScope ["self"] ["self"] (defScope s_Table_rooms) := ⟨rfl, rfl, rfl, by decide +kernel, rfl, by decide +kernel, by decide +kernel⟩

theorem sc_Table_keys_in : FnScope ["self", "room", "rooms", "key"] ["self", "room"] (defScope s_Table_keys_in) := ⟨rfl, rfl, rfl, by decide +kernel, rfl, by decide +kernel, by decide +kernel⟩

theorem sc_Full___init : FnScope ["self", "many"] ["self", "many"] (defScope s_Full___init) := ⟨rfl, rfl, rfl, by decide +kernel, rfl, by decide +kernel, by decide +kernel⟩

theorem sc_Table_put : FnScope ["self", "key", "thing", "before", "room", "new"] ["self", "key", "thing"] (defScope s_Table_put) := ⟨rfl, rfl, rfl, by decide +kernel, rfl, by decide +kernel, by decide +kernel⟩

theorem sc_joined_of : FnScope ["rooms", "last"] ["rooms"] (defScope s_joined_of) := ⟨rfl, rfl, rfl, by decide +kernel, rfl, by decide +kernel, by decide +kernel⟩

theorem sc_Lacking___init : FnScope ["self", "key"] ["self", "key"] (defScope s_Lacking___init) := ⟨rfl, rfl, rfl, by decide +kernel, rfl, by decide +kernel, by decide +kernel⟩

theorem sc_Table_need_standing : FnScope ["self", "key"] ["self", "key"] (defScope s_Table_need_standing) := ⟨rfl, rfl, rfl, by decide +kernel, rfl, by decide +kernel, by decide +kernel⟩

theorem sc_Table_drop : FnScope ["self", "key", "before", "last", "room", "into", "one"] ["self", "key"] (defScope s_Table_drop) := ⟨rfl, rfl, rfl, by decide +kernel, rfl, by decide +kernel, by decide +kernel⟩

theorem sc_looked : FnScope ["rows", "key", "looks", "row"] ["rows", "key"] (defScope s_looked) := ⟨rfl, rfl, rfl, by decide +kernel, rfl, by decide +kernel, by decide +kernel⟩

theorem sc_rows_for : FnScope ["many", "wide"] ["many", "wide"] (defScope s_rows_for) := ⟨rfl, rfl, rfl, by decide +kernel, rfl, by decide +kernel, by decide +kernel⟩

theorem sc_rows_of : FnScope ["keys", "wide", "rising", "rows", "k"] ["keys", "wide"] (defScope s_rows_of) := ⟨rfl, rfl, rfl, by decide +kernel, rfl, by decide +kernel, by decide +kernel⟩

theorem sc_Table_looks : FnScope ["self", "key"] ["self", "key"] (defScope s_Table_looks) := ⟨rfl, rfl, rfl, by decide +kernel, rfl, by decide +kernel, by decide +kernel⟩

theorem sc_Table_find : FnScope ["self", "key"] ["self", "key"] (defScope s_Table_find) := ⟨rfl, rfl, rfl, by decide +kernel, rfl, by decide +kernel, by decide +kernel⟩

theorem sc_NoRoom___init : FnScope ["self", "number"] ["self", "number"] (defScope s_NoRoom___init) := ⟨rfl, rfl, rfl, by decide +kernel, rfl, by decide +kernel, by decide +kernel⟩

theorem sc_Table_room : FnScope ["self", "number", "rows", "row", "key"] ["self", "number"] (defScope s_Table_room) := ⟨rfl, rfl, rfl, by decide +kernel, rfl, by decide +kernel, by decide +kernel⟩

theorem sc_law_done : FnScope ["_law_table", "_law_way", "_law_key_here", "_law_thing_here", "_law_e"] ["_law_table", "_law_way", "_law_key_here", "_law_thing_here"] (defScope s_law_done) := ⟨rfl, rfl, rfl, by decide +kernel, rfl, by decide +kernel, by decide +kernel⟩

theorem sc_law_draw : FnScope ["_law_hand", "_law_many", "_law_got", "_law_k", "_law_number"] ["_law_hand", "_law_many"] (defScope s_law_draw) := ⟨rfl, rfl, rfl, by decide +kernel, rfl, by decide +kernel, by decide +kernel⟩

theorem sc_law_far : FnScope ["_law_hand", "_law_many", "_law_number", "_law_k"] ["_law_hand", "_law_many"] (defScope s_law_far) := ⟨rfl, rfl, rfl, by decide +kernel, rfl, by decide +kernel, by decide +kernel⟩

theorem sc_law_power : FnScope ["_law_many", "_law_number", "_law_k"] ["_law_many"] (defScope s_law_power) := ⟨rfl, rfl, rfl, by decide +kernel, rfl, by decide +kernel, by decide +kernel⟩

theorem sc_law_key : FnScope ["_law_hand", "_law_way", "_law_low"] ["_law_hand"] (defScope s_law_key) := ⟨rfl, rfl, rfl, by decide +kernel, rfl, by decide +kernel, by decide +kernel⟩

theorem sc_longest : FnScope ["sizes", "wide", "rows", "most", "many"] ["sizes", "wide"] (defScope s_longest) := ⟨rfl, rfl, rfl, by decide +kernel, rfl, by decide +kernel, by decide +kernel⟩

theorem sc_spread : FnScope ["keys", "rooms", "held", "key", "room"] ["keys", "rooms"] (defScope s_spread) := ⟨rfl, rfl, rfl, by decide +kernel, rfl, by decide +kernel, by decide +kernel⟩

theorem sc_counts : FnScope ["keys", "rooms", "row"] ["keys", "rooms"] (defScope s_counts) := ⟨rfl, rfl, rfl, by decide +kernel, rfl, by decide +kernel, by decide +kernel⟩

theorem sc_Table_counts_now : FnScope ["self"] ["self"] (defScope s_Table_counts_now) := ⟨rfl, rfl, rfl, by decide +kernel, rfl, by decide +kernel, by decide +kernel⟩

theorem sc_Table_longest : FnScope ["self"] ["self"] (defScope s_Table_longest) := ⟨rfl, rfl, rfl, by decide +kernel, rfl, by decide +kernel, by decide +kernel⟩

theorem sc_spill : FnScope ["sizes", "wide", "many"] ["sizes", "wide"] (defScope s_spill) := ⟨rfl, rfl, rfl, by decide +kernel, rfl, by decide +kernel, by decide +kernel⟩

theorem sc_Table_spill : FnScope ["self"] ["self"] (defScope s_Table_spill) := ⟨rfl, rfl, rfl, by decide +kernel, rfl, by decide +kernel, by decide +kernel⟩

theorem sc_Table_entries : FnScope ["self"] ["self"] (defScope s_Table_entries) := ⟨rfl, rfl, rfl, by decide +kernel, rfl, by decide +kernel, by decide +kernel⟩

theorem sc_Table_count : FnScope ["self"] ["self"] (defScope s_Table_count) := ⟨rfl, rfl, rfl, by decide +kernel, rfl, by decide +kernel, by decide +kernel⟩

theorem sc_law_state : FnScope ["_law_table", "_law_rooms"] ["_law_table"] (defScope s_law_state) := ⟨rfl, rfl, rfl, by decide +kernel, rfl, by decide +kernel, by decide +kernel⟩

theorem sc_law_gone : FnScope ["_law_table", "_law_hand", "_law_model", "_law_thing_here", "_law_some", "_law_key_here", "_law_rooms", "_law_other", "_law_kept", "_law_way"] ["_law_table", "_law_hand", "_law_model", "_law_thing_here"] (defScope s_law_gone) := ⟨rfl, rfl, rfl, by decide +kernel, rfl, by decide +kernel, by decide +kernel⟩

theorem sc_law_alike : FnScope ["_law_got", "_law_due"] ["_law_got", "_law_due"] (defScope s_law_alike) := ⟨rfl, rfl, rfl, by decide +kernel, rfl, by decide +kernel, by decide +kernel⟩

theorem sc_law_odd_thing : FnScope ["_law_hand", "_law_thing_here", "_law_way", "_law_at", "_law_signs", "_law_sign"] ["_law_hand", "_law_thing_here"] (defScope s_law_odd_thing) := ⟨rfl, rfl, rfl, by decide +kernel, rfl, by decide +kernel, by decide +kernel⟩

theorem sc_law_odd_key : FnScope ["_law_hand", "_law_far_here", "_law_some"] ["_law_hand"] (defScope s_law_odd_key) := ⟨rfl, rfl, rfl, by decide +kernel, rfl, by decide +kernel, by decide +kernel⟩

theorem sc_law_refused : FnScope ["_law_table", "_law_hand", "_law_model", "_law_thing_here", "_law_kept", "_law_odd", "_law_way", "_law_bad", "_law_key_here", "_law_asks", "_law_some", "_law_number", "_law_one"] ["_law_table", "_law_hand", "_law_model", "_law_thing_here"] (defScope s_law_refused) := ⟨rfl, rfl, rfl, by decide +kernel, rfl, by decide +kernel, by decide +kernel⟩

theorem sc_law_thing : FnScope ["_law_hand", "_law_letters", "_law_k"] ["_law_hand"] (defScope s_law_thing) := ⟨rfl, rfl, rfl, by decide +kernel, rfl, by decide +kernel, by decide +kernel⟩

theorem sc_law_open : FnScope ["_law_script", "_law_place", "_law_cells", "_law_at", "_law_digits", "_law_cell"] ["_law_script", "_law_place"] (defScope s_law_open) := ⟨rfl, rfl, rfl, by decide +kernel, rfl, by decide +kernel, by decide +kernel⟩

theorem sc_law_keys : FnScope ["_law_hand", "_law_many", "_law_keys_here", "_law_k", "_law_key_here"] ["_law_hand", "_law_many"] (defScope s_law_keys) := ⟨rfl, rfl, rfl, by decide +kernel, rfl, by decide +kernel, by decide +kernel⟩

theorem sc_is_size : FnScope ["thing"] ["thing"] (defScope s_is_size) := ⟨rfl, rfl, rfl, by decide +kernel, rfl, by decide +kernel, by decide +kernel⟩

theorem sc_NoSize___init : FnScope ["self", "thing"] ["self", "thing"] (defScope s_NoSize___init) := ⟨rfl, rfl, rfl, by decide +kernel, rfl, by decide +kernel, by decide +kernel⟩

theorem sc_need_sizes : FnScope ["wide", "fill", "thing"] ["wide", "fill"] (defScope s_need_sizes) := ⟨rfl, rfl, rfl, by decide +kernel, rfl, by decide +kernel, by decide +kernel⟩

theorem sc_Table___init : FnScope ["self", "wide", "fill"] ["self", "wide", "fill"] (defScope s_Table___init) := ⟨rfl, rfl, rfl, by decide +kernel, rfl, by decide +kernel, by decide +kernel⟩

theorem sc_law : FnScope ["_law_script", "_law_hand", "_law_crowd", "_law_table", "_law_model", "_law_key_here", "_law_place", "_law_thing_here"] ["_law_script"] (defScope s_law) := ⟨rfl, rfl, rfl, by decide +kernel, rfl, by decide +kernel, by decide +kernel⟩

section
variable {P : Program} {w : World} {K : PySem.W.Frag} {mg : Str → Option Value} {base : Heap}

/-! ### _law_places -/
noncomputable abbrev sp_law_places (K : PySem.W.Frag) : Sp := spPlaces 1 K
theorem has_law_places (z : Z K mg) (F : FunAt K mg "_law_places" s_law_places ["_law_script", "_law_least", "_law_most"])  : Has P w K mg base "_law_places" 1 (sp_law_places K) := by
  refine has_of F sc_law_places (fun vs H Q E h => ?_) (fun f cdv A outer s H vs Q E hr h => ?_)
  · obtain ⟨_, _, _, _, rfl, _⟩ := h
    rfl
  · obtain ⟨a, ns, x, y, rfl, hS, x0, x1, y0, y1, q⟩ := h
    refine ⟨_, (pss_one (ps_ret (pe_listRg rfl (by rfl) z.b_list (prg_2 (by rfl) z.b_range pe_int (pe_op op_plusA pe_int (pe_callB (id := "max") (call_max2A rfl) (by rfl) z.b_max (by decide +kernel) (pa_cons (pv 1) (pa_cons (pe_callB (id := "min") (call_min2A rfl) (by rfl) z.b_min (by decide +kernel) (pa_cons (pe_callB (id := "len") (lenA (K := K) rfl) (by rfl) z.b_len (by decide +kernel) (pa_cons (pv 0) pa_nil)) (pa_cons (pv 2) pa_nil))) pa_nil)))))))), ?_⟩
    walk_at "cx"
    walk_at "ss"
    rename_i p H' n e f
    exact q p H' n e f

/-! ### _law_kinds -/
noncomputable def sp_law_kinds (K : PySem.W.Frag) : SpV := fun _ cls d H Q => ∃ (dd : Addr) (fs : List (Str × V)) (c w : Str), cls = .ref (clsA K c) ∧ d = some dd ∧ H dd = some (.xd fs) ∧
  (c = "NoKey" ∧ w = "key" ∨ c = "NoThing" ∧ w = "thing" ∨ c = "Full" ∧ w = "full" ∨ c = "Lacking" ∧ w = "lacking" ∨ c = "NoRoom" ∧ w = "room") ∧ ∀ H', Ex H H' → Q (.str w) H'
theorem has_law_kinds (z : Z K mg) (F : FunAt K mg "_law_kinds" s_law_kinds ["_law_e"]) : HasV P w K mg base "_law_kinds" 1 (sp_law_kinds K) := by
  refine has_ofV F sc_law_kinds (fun f cdv A outer s H Q a oe cls d hr hz hf h => ?_)
  obtain ⟨dd, fs, c, w, rfl, rfl, hx, hc, q⟩ := h
  refine ⟨_, (pss_cons (ps_set (i := 1) sc_law_kinds.nd rfl (by first | exact Or.inl rfl | exact Or.inr rfl) (pe_lst (pa_cons (pe_callB (id := "isinstance") (isVA (K := K) rfl rfl hz hf) (by rfl) z.b_isinstance (by decide +kernel) (pa_cons (pv 0) (pa_cons (pe_glob (v := .ref (clsA K "NoKey")) rfl z.g_NoKey rfl) pa_nil))) (pa_cons (pe_callB (id := "isinstance") (isVA (K := K) rfl rfl hz hf) (by rfl) z.b_isinstance (by decide +kernel) (pa_cons (pv 0) (pa_cons (pe_glob (v := .ref (clsA K "NoThing")) rfl z.g_NoThing rfl) pa_nil))) (pa_cons (pe_callB (id := "isinstance") (isVA (K := K) rfl rfl hz hf) (by rfl) z.b_isinstance (by decide +kernel) (pa_cons (pv 0) (pa_cons (pe_glob (v := .ref (clsA K "Full")) rfl z.g_Full rfl) pa_nil))) (pa_cons (pe_callB (id := "isinstance") (isVA (K := K) rfl rfl hz hf) (by rfl) z.b_isinstance (by decide +kernel) (pa_cons (pv 0) (pa_cons (pe_glob (v := .ref (clsA K "Lacking")) rfl z.g_Lacking rfl) pa_nil))) pa_nil))))))
        (pss_cons (ps_set (i := 1) sc_law_kinds.nd rfl (by first | exact Or.inl rfl | exact Or.inr rfl) (pe_op op_plusA (pv 1) (pe_lst (pa_cons (pe_callB (id := "isinstance") (isVA (K := K) rfl rfl hz hf) (by rfl) z.b_isinstance (by decide +kernel) (pa_cons (pv 0) (pa_cons (pe_glob (v := .ref (clsA K "NoRoom")) rfl z.g_NoRoom rfl) pa_nil))) (pa_cons (pe_callB (id := "isinstance") (isVA (K := K) rfl rfl hz hf) (by rfl) z.b_isinstance (by decide +kernel) (pa_cons (pv 0) (pa_cons (pe_glob (v := .ref (clsA K "NoSize")) rfl z.g_NoSize rfl) pa_nil))) pa_nil)))))
        (pss_cons (ps_if (PW.pt (pw_or (pt_cmpR (neA (K := K) rfl (roomH_units hr)) (pe_bm PySem.F.plainAttrs_list PySem.F.slot_list_count PySem.F.type_list_count (countFA (K := K) rfl) (pv 1) (pa_cons pe_bl pa_nil)) pe_int (nomark _)) (pw_or1 (pt_not (pt_val (pe_callB (id := "isinstance") (isVA (K := K) rfl rfl hz hf) (by rfl) z.b_isinstance (by decide +kernel) (pa_cons (pv 0) (pa_cons (pe_bltn (v := .ty "ValueError") (by rfl) z.b_ValueError (by decide +kernel) rfl) pa_nil)))))))) (pss_one (ps_ret pe_str)) pss_nil)
        (pss_one (ps_ret (pe_ix (ixA (K := K) rfl) (pe_lst (pa_cons pe_str (pa_cons pe_str (pa_cons pe_str (pa_cons pe_str (pa_cons pe_str (pa_cons pe_str pa_nil))))))) (pe_bm PySem.F.plainAttrs_list PySem.F.slot_list_index PySem.F.type_list_index (indexA (K := K) rfl) (pv 1) (pa_cons pe_bl pa_nil)) (fun _ _ => rfl))))))), ?_⟩
  · walk_at "cx"
    have z0 : Ex H H := Ex.refl _
    rcases hc with ⟨rfl, rfl⟩ | ⟨rfl, rfl⟩ | ⟨rfl, rfl⟩ | ⟨rfl, rfl⟩ | ⟨rfl, rfl⟩
    · have hX : ∀ dd' : Addr, some dd = some dd' → ∃ fs, H dd' = some (.xd fs) := fun dd' e => by cases e; exact ⟨fs, hx⟩
      walk_at "tls"
      refine s_isV z.ix_NoKey hX (.own _) (kit_yes z.m_NoKey_NoKey) ?_
      walk_at "tls"
      refine s_isV z.ix_NoKey hX (.own _) (kit_no z.m_NoKey_NoKey z.m_NoKey_NoThing) ?_
      walk_at "tls"
      refine s_isV z.ix_NoKey hX (.own _) (kit_no z.m_NoKey_NoKey z.m_NoKey_Full) ?_
      walk_at "tls"
      refine s_isV z.ix_NoKey hX (.own _) (kit_no z.m_NoKey_NoKey z.m_NoKey_Lacking) ?_
      walk_at "tls"
      rename_i p1 Z1 H1 n1 t1 f1
      have hx1 := t1.eh _ _ hx
      have hX1 : ∀ dd' : Addr, some dd = some dd' → ∃ fs, H1 dd' = some (.xd fs) := fun dd' e => by cases e; exact ⟨fs, hx1⟩
      refine s_isV z.ix_NoKey hX1 (.own _) (kit_no z.m_NoKey_NoKey z.m_NoKey_NoRoom) ?_
      walk_at "tls"
      refine s_isV z.ix_NoKey hX1 (.own _) (kit_no z.m_NoKey_NoKey z.m_NoKey_NoSize) ?_
      walk_at "tls"
      rename_i p2 Z2 H2 n2 t2 f2
      refine n_cat (t2.zh _ _ (t2.z _ _ f1)) (t2.zh _ _ f2) (by decide) fun p3 H3 n3 ex3 f3 => ?_
      have t3 : T [] Z2 H2 Z2 H3 := T.ofEx ex3 t2.zh
      have z3 := t3.zh
      have e3 : Ex H H3 := (t1.eh.trans t2.eh).trans ex3
      walk_at "tls"
      refine s_countF (sq_of f3) rfl rfl (n := 1) rfl ?_
      walk_at "tls"
      refine s_isV z.ix_NoKey (fun dd' e => by cases e; exact ⟨fs, e3 _ _ hx⟩) (.ty _) (kit_ty' z.sv_NoKey meta_ve) ?_
      walk_at "tls"
      rename_i p4 Z4 H4 n4 t4 f4
      refine s_indexF (sq_of (t4.eh _ _ f3)) rfl rfl (j := 0) rfl rfl rfl ?_
      walk_at "tls"
      exact q H4 (e3.trans t4.eh)
    · have hX : ∀ dd' : Addr, some dd = some dd' → ∃ fs, H dd' = some (.xd fs) := fun dd' e => by cases e; exact ⟨fs, hx⟩
      walk_at "tls"
      refine s_isV z.ix_NoThing hX (.own _) (kit_no z.m_NoThing_NoThing z.m_NoThing_NoKey) ?_
      walk_at "tls"
      refine s_isV z.ix_NoThing hX (.own _) (kit_yes z.m_NoThing_NoThing) ?_
      walk_at "tls"
      refine s_isV z.ix_NoThing hX (.own _) (kit_no z.m_NoThing_NoThing z.m_NoThing_Full) ?_
      walk_at "tls"
      refine s_isV z.ix_NoThing hX (.own _) (kit_no z.m_NoThing_NoThing z.m_NoThing_Lacking) ?_
      walk_at "tls"
      rename_i p1 Z1 H1 n1 t1 f1
      have hx1 := t1.eh _ _ hx
      have hX1 : ∀ dd' : Addr, some dd = some dd' → ∃ fs, H1 dd' = some (.xd fs) := fun dd' e => by cases e; exact ⟨fs, hx1⟩
      refine s_isV z.ix_NoThing hX1 (.own _) (kit_no z.m_NoThing_NoThing z.m_NoThing_NoRoom) ?_
      walk_at "tls"
      refine s_isV z.ix_NoThing hX1 (.own _) (kit_no z.m_NoThing_NoThing z.m_NoThing_NoSize) ?_
      walk_at "tls"
      rename_i p2 Z2 H2 n2 t2 f2
      refine n_cat (t2.zh _ _ (t2.z _ _ f1)) (t2.zh _ _ f2) (by decide) fun p3 H3 n3 ex3 f3 => ?_
      have t3 : T [] Z2 H2 Z2 H3 := T.ofEx ex3 t2.zh
      have z3 := t3.zh
      have e3 : Ex H H3 := (t1.eh.trans t2.eh).trans ex3
      walk_at "tls"
      refine s_countF (sq_of f3) rfl rfl (n := 1) rfl ?_
      walk_at "tls"
      refine s_isV z.ix_NoThing (fun dd' e => by cases e; exact ⟨fs, e3 _ _ hx⟩) (.ty _) (kit_ty' z.sv_NoThing meta_ve) ?_
      walk_at "tls"
      rename_i p4 Z4 H4 n4 t4 f4
      refine s_indexF (sq_of (t4.eh _ _ f3)) rfl rfl (j := 1) rfl rfl rfl ?_
      walk_at "tls"
      exact q H4 (e3.trans t4.eh)
    · have hX : ∀ dd' : Addr, some dd = some dd' → ∃ fs, H dd' = some (.xd fs) := fun dd' e => by cases e; exact ⟨fs, hx⟩
      walk_at "tls"
      refine s_isV z.ix_Full hX (.own _) (kit_no z.m_Full_Full z.m_Full_NoKey) ?_
      walk_at "tls"
      refine s_isV z.ix_Full hX (.own _) (kit_no z.m_Full_Full z.m_Full_NoThing) ?_
      walk_at "tls"
      refine s_isV z.ix_Full hX (.own _) (kit_yes z.m_Full_Full) ?_
      walk_at "tls"
      refine s_isV z.ix_Full hX (.own _) (kit_no z.m_Full_Full z.m_Full_Lacking) ?_
      walk_at "tls"
      rename_i p1 Z1 H1 n1 t1 f1
      have hx1 := t1.eh _ _ hx
      have hX1 : ∀ dd' : Addr, some dd = some dd' → ∃ fs, H1 dd' = some (.xd fs) := fun dd' e => by cases e; exact ⟨fs, hx1⟩
      refine s_isV z.ix_Full hX1 (.own _) (kit_no z.m_Full_Full z.m_Full_NoRoom) ?_
      walk_at "tls"
      refine s_isV z.ix_Full hX1 (.own _) (kit_no z.m_Full_Full z.m_Full_NoSize) ?_
      walk_at "tls"
      rename_i p2 Z2 H2 n2 t2 f2
      refine n_cat (t2.zh _ _ (t2.z _ _ f1)) (t2.zh _ _ f2) (by decide) fun p3 H3 n3 ex3 f3 => ?_
      have t3 : T [] Z2 H2 Z2 H3 := T.ofEx ex3 t2.zh
      have z3 := t3.zh
      have e3 : Ex H H3 := (t1.eh.trans t2.eh).trans ex3
      walk_at "tls"
      refine s_countF (sq_of f3) rfl rfl (n := 1) rfl ?_
      walk_at "tls"
      refine s_isV z.ix_Full (fun dd' e => by cases e; exact ⟨fs, e3 _ _ hx⟩) (.ty _) (kit_ty' z.sv_Full meta_ve) ?_
      walk_at "tls"
      rename_i p4 Z4 H4 n4 t4 f4
      refine s_indexF (sq_of (t4.eh _ _ f3)) rfl rfl (j := 2) rfl rfl rfl ?_
      walk_at "tls"
      exact q H4 (e3.trans t4.eh)
    · have hX : ∀ dd' : Addr, some dd = some dd' → ∃ fs, H dd' = some (.xd fs) := fun dd' e => by cases e; exact ⟨fs, hx⟩
      walk_at "tls"
      refine s_isV z.ix_Lacking hX (.own _) (kit_no z.m_Lacking_Lacking z.m_Lacking_NoKey) ?_
      walk_at "tls"
      refine s_isV z.ix_Lacking hX (.own _) (kit_no z.m_Lacking_Lacking z.m_Lacking_NoThing) ?_
      walk_at "tls"
      refine s_isV z.ix_Lacking hX (.own _) (kit_no z.m_Lacking_Lacking z.m_Lacking_Full) ?_
      walk_at "tls"
      refine s_isV z.ix_Lacking hX (.own _) (kit_yes z.m_Lacking_Lacking) ?_
      walk_at "tls"
      rename_i p1 Z1 H1 n1 t1 f1
      have hx1 := t1.eh _ _ hx
      have hX1 : ∀ dd' : Addr, some dd = some dd' → ∃ fs, H1 dd' = some (.xd fs) := fun dd' e => by cases e; exact ⟨fs, hx1⟩
      refine s_isV z.ix_Lacking hX1 (.own _) (kit_no z.m_Lacking_Lacking z.m_Lacking_NoRoom) ?_
      walk_at "tls"
      refine s_isV z.ix_Lacking hX1 (.own _) (kit_no z.m_Lacking_Lacking z.m_Lacking_NoSize) ?_
      walk_at "tls"
      rename_i p2 Z2 H2 n2 t2 f2
      refine n_cat (t2.zh _ _ (t2.z _ _ f1)) (t2.zh _ _ f2) (by decide) fun p3 H3 n3 ex3 f3 => ?_
      have t3 : T [] Z2 H2 Z2 H3 := T.ofEx ex3 t2.zh
      have z3 := t3.zh
      have e3 : Ex H H3 := (t1.eh.trans t2.eh).trans ex3
      walk_at "tls"
      refine s_countF (sq_of f3) rfl rfl (n := 1) rfl ?_
      walk_at "tls"
      refine s_isV z.ix_Lacking (fun dd' e => by cases e; exact ⟨fs, e3 _ _ hx⟩) (.ty _) (kit_ty' z.sv_Lacking meta_ve) ?_
      walk_at "tls"
      rename_i p4 Z4 H4 n4 t4 f4
      refine s_indexF (sq_of (t4.eh _ _ f3)) rfl rfl (j := 3) rfl rfl rfl ?_
      walk_at "tls"
      exact q H4 (e3.trans t4.eh)
    · have hX : ∀ dd' : Addr, some dd = some dd' → ∃ fs, H dd' = some (.xd fs) := fun dd' e => by cases e; exact ⟨fs, hx⟩
      walk_at "tls"
      refine s_isV z.ix_NoRoom hX (.own _) (kit_no z.m_NoRoom_NoRoom z.m_NoRoom_NoKey) ?_
      walk_at "tls"
      refine s_isV z.ix_NoRoom hX (.own _) (kit_no z.m_NoRoom_NoRoom z.m_NoRoom_NoThing) ?_
      walk_at "tls"
      refine s_isV z.ix_NoRoom hX (.own _) (kit_no z.m_NoRoom_NoRoom z.m_NoRoom_Full) ?_
      walk_at "tls"
      refine s_isV z.ix_NoRoom hX (.own _) (kit_no z.m_NoRoom_NoRoom z.m_NoRoom_Lacking) ?_
      walk_at "tls"
      rename_i p1 Z1 H1 n1 t1 f1
      have hx1 := t1.eh _ _ hx
      have hX1 : ∀ dd' : Addr, some dd = some dd' → ∃ fs, H1 dd' = some (.xd fs) := fun dd' e => by cases e; exact ⟨fs, hx1⟩
      refine s_isV z.ix_NoRoom hX1 (.own _) (kit_yes z.m_NoRoom_NoRoom) ?_
      walk_at "tls"
      refine s_isV z.ix_NoRoom hX1 (.own _) (kit_no z.m_NoRoom_NoRoom z.m_NoRoom_NoSize) ?_
      walk_at "tls"
      rename_i p2 Z2 H2 n2 t2 f2
      refine n_cat (t2.zh _ _ (t2.z _ _ f1)) (t2.zh _ _ f2) (by decide) fun p3 H3 n3 ex3 f3 => ?_
      have t3 : T [] Z2 H2 Z2 H3 := T.ofEx ex3 t2.zh
      have z3 := t3.zh
      have e3 : Ex H H3 := (t1.eh.trans t2.eh).trans ex3
      walk_at "tls"
      refine s_countF (sq_of f3) rfl rfl (n := 1) rfl ?_
      walk_at "tls"
      refine s_isV z.ix_NoRoom (fun dd' e => by cases e; exact ⟨fs, e3 _ _ hx⟩) (.ty _) (kit_ty' z.sv_NoRoom meta_ve) ?_
      walk_at "tls"
      rename_i p4 Z4 H4 n4 t4 f4
      refine s_indexF (sq_of (t4.eh _ _ f3)) rfl rfl (j := 4) rfl rfl rfl ?_
      walk_at "tls"
      exact q H4 (e3.trans t4.eh)

/-! ### whole_rooms -/
noncomputable def sp_whole_rooms (K : PySem.W.Frag) : Sp := fun vs H Q _ => ∃ r : Int, vs = [.int r] ∧ 1 ≤ r ∧ Q (.int (whole r)) H
theorem has_whole_rooms (z : Z K mg) (F : FunAt K mg "whole_rooms" s_whole_rooms ["rooms"])  : Has P w K mg base "whole_rooms" 1 (sp_whole_rooms K) := by
  refine has_of F sc_whole_rooms (fun vs H Q E h => ?_) (fun f cdv A outer s H vs Q E hr h => ?_)
  · obtain ⟨r, rfl, _⟩ := h
    rfl
  · obtain ⟨r, rfl, h0, q⟩ := h
    refine ⟨_, (pss_cons (ps_set (i := 1) sc_whole_rooms.nd rfl (by first | exact Or.inl rfl | exact Or.inr rfl) pe_int)
        (pss_cons (ps_while PassesOwn.never (pt_cmpR op_le (pe_op op_multA pe_int (pv 1)) (pv 0) (nomark _)) (pss_one (ps_set (i := 1) sc_whole_rooms.nd rfl (by first | exact Or.inl rfl | exact Or.inr rfl) (pe_op op_multA pe_int (pv 1)))))
        (pss_one (ps_ret (pv 1))))), ?_⟩
    walk_at "cx"
    walk_at "ss"
    refine u_while (fun m σ H' => ∃ k : Nat, σ = [some (.int r), some (.int (2 ^ k))] ∧ H' = H ∧ (2 : Int) ^ k ≤ r ∧ m = (r - 2 ^ k).toNat) (r - 1).toNat ⟨0, rfl, rfl, h0, rfl⟩ (fun m σ H' hh => ?_)
    obtain ⟨k, rfl, rfl, hk, rfl⟩ := hh
    have hp := two_pos k
    walk_at "ss"
    refine i_d (fun hd => ?_) (fun hd => ?_)
    · refine w_body ?_
      walk_at "ss"
      exact ⟨(r - 2 ^ (k + 1)).toNat, by rw [two_succ]; omega, k + 1, by rw [two_succ]; rfl, rfl, by rw [two_succ]; omega, rfl⟩
    · walk_at "ss"
      rw [whole_unique hk (by omega)] at q
      exact q

/-! ### turn -/
noncomputable def sp_turn (K : PySem.W.Frag) : Sp := fun vs H Q _ => ∃ r : Int, vs = [.int r] ∧ 1 ≤ r ∧ Q (.int (r - whole r)) H
theorem has_turn (z : Z K mg) (F : FunAt K mg "turn" s_turn ["rooms"]) (h_whole_rooms : Has P w K mg base "whole_rooms" 1 (sp_whole_rooms K)) : Has P w K mg base "turn" 2 (sp_turn K) := by
  refine has_of F sc_turn (fun vs H Q E h => ?_) (fun f cdv A outer s H vs Q E hr h => ?_)
  · obtain ⟨r, rfl, _⟩ := h
    rfl
  · obtain ⟨r, rfl, h0, q⟩ := h
    refine ⟨_, (pss_one (ps_ret (pe_op op_sub (pv 0) (pe_callH h_whole_rooms (by decide) hr rfl (pa_cons (pv 0) pa_nil))))), ?_⟩
    walk_at "cx"
    walk_at "ss"
    refine ⟨_, rfl, h0, ?_⟩
    walk_at "ss"
    exact q

/-! ### split_of -/
noncomputable def sp_split_of (K : PySem.W.Frag) : Sp := fun vs H Q _ => ∃ r : Int, vs = [.int r] ∧ 1 ≤ r ∧ ∀ p H', H p = none → Ex H H' → H' p = some (.tup [.int (r - whole r), .int r]) → Q (.ref p) H'
theorem has_split_of (z : Z K mg) (F : FunAt K mg "split_of" s_split_of ["rooms"]) (h_turn : Has P w K mg base "turn" 2 (sp_turn K)) : Has P w K mg base "split_of" 3 (sp_split_of K) := by
  refine has_of F sc_split_of (fun vs H Q E h => ?_) (fun f cdv A outer s H vs Q E hr h => ?_)
  · obtain ⟨n, rfl, _⟩ := h
    rfl
  · obtain ⟨r, rfl, h0, q⟩ := h
    refine ⟨_, (pss_one (ps_ret (pe_tup (pa_cons (pe_callH h_turn (by decide) hr rfl (pa_cons (pv 0) pa_nil)) (pa_cons (pv 0) pa_nil))))), ?_⟩
    walk_at "cx"
    walk_at "ss"
    refine ⟨_, rfl, h0, ?_⟩
    walk_at "ss"
    rename_i p G n1 e1 f1
    exact q p G n1 e1 f1

/-! ### is_name -/
noncomputable def sp_is_name (K : PySem.W.Frag) : Sp := fun vs H Q _ => ∃ (v : V) (n : String), vs = [v] ∧ KindV K H v n ∧ Q (.bl (nameV v)) H
theorem has_is_name (z : Z K mg) (F : FunAt K mg "is_name" s_is_name ["thing"])  : Has P w K mg base "is_name" 1 (sp_is_name K) := by
  refine has_of F sc_is_name (fun vs H Q E h => ?_) (fun f cdv A outer s H vs Q E hr h => ?_)
  · obtain ⟨v, n, rfl, _⟩ := h
    rfl
  · obtain ⟨v, n, rfl, kv, q⟩ := h
    refine ⟨_, (pss_cons (ps_if (PW.pt (pw_or (pt_not (pt_val (pe_callB (id := "isinstance") (isiA (K := K) rfl) (by rfl) z.b_isinstance (by decide +kernel) (pa_cons (pv 0) (pa_cons (pe_bltn (v := .ty "str") (by rfl) z.b_str (by decide +kernel) rfl) pa_nil))))) (pw_or1 (pt_not (pt_chain op_le op_le pe_int (pe_callB (id := "len") (lenA (K := K) rfl) (by rfl) z.b_len (by decide +kernel) (pa_cons (pv 0) pa_nil)) (pe_constI z.c_LONGEST rfl)))))) (pss_one (ps_ret pe_bl)) pss_nil)
        (pss_cons (ps_for PassesOwn.never rfl (pi_str (pv 0)) (pg_name (i := 1) sc_is_name.nd rfl (by first | exact Or.inl rfl | exact Or.inr rfl)) (pss_one (ps_if (pt_cmpR op_notIn_sign (pv 1) (pe_constS z.c_LETTERS rfl) (by rfl)) (pss_one (ps_ret pe_bl)) pss_nil)))
        (pss_one (ps_ret pe_bl)))), ?_⟩
    walk_at "cx"
    cases kv with
    | str x hx =>
      walk_at "ss"
      refine s_lenS hx ?_
      walk_at "ss"
      have no : ¬ (1 ≤ x.length ∧ x.length ≤ 8) → nameB x = false := fun h => by
        unfold nameB
        rw [decide_eq_false h]
        rfl
      refine i_d (fun h1 => ?_) (fun h1 => ?_)
      · walk_at "ss"
        refine i_n (fun h2 => ?_) (fun h2 => ?_)
        · walk_at "ss"
          have e : nameV (V.str x) = false := no fun z => h2 (by omega)
          rw [e] at q
          exact q
        · walk_at "ss"
          refine u_forS (fun i σ H' => (∀ c ∈ x.cps.toList.take i, c ∈ lettersS.cps.toList) ∧ ∃ x1 : Option V, σ = [some (.str x), x1] ∧ H' = H) ⟨fun c hc => by simp at hc, _, rfl, rfl⟩ (fun i c σ H' hc hh => ?_) (fun σ H' hh => ?_)
          · obtain ⟨g, x1, rfl, rfl⟩ := hh
            walk_at "ss"
            refine ⟨c, _, rfl, rfl, ?_⟩
            have hc' : x.cps.toList[i]? = some c := by rw [Array.getElem?_toList]; exact hc
            walk_at "ss"
            refine i_n (fun h3 => ?_) (fun h3 => ?_)
            · walk_at "ss"
              have e : nameV (V.str x) = false := by
                show nameB x = false
                unfold nameB
                rw [Bool.and_eq_false_iff]
                exact .inr (List.all_eq_false.mpr ⟨c, List.mem_of_getElem? hc', fun z => h3 (of_decide_eq_true z)⟩)
              rw [e] at q
              exact q
            · walk_at "ss"
              refine ⟨fun c' hc2 => ?_, _, rfl, rfl⟩
              rw [List.take_add_one, hc'] at hc2
              rcases List.mem_append.mp hc2 with hc2 | hc2
              · exact g c' hc2
              · rw [List.mem_singleton.mp hc2]
                exact h3
          · obtain ⟨g, x1, rfl, rfl⟩ := hh
            walk_at "ss"
            have e : nameV (V.str x) = true := by
              show nameB x = true
              unfold nameB
              rw [Bool.and_eq_true]
              refine ⟨decide_eq_true (by omega), List.all_eq_true.mpr fun c hc => decide_eq_true (g c ?_)⟩
              rw [← Array.length_toList, List.take_length]
              exact hc
            rw [e] at q
            exact q
      · walk_at "ss"
        have e : nameV (V.str x) = false := no fun z => h1 (by omega)
        rw [e] at q
        exact q
    | dct h =>
      walk_at "ss"
      refine s_isiDk h k_ds ?_
      walk_at "ss"
      exact q
    | _ =>
      walk_at "ss"
      exact q

/-! ### NoThing.__init__ -/
theorem has_NoThing___init (z : Z K mg) (T : ExF K mg "NoThing" "thing") (F : ExAt K "NoThing" "NoThing.__init__" s_NoThing___init ["self", "thing"]) : HasE P w K mg base "NoThing" "thing" 1 := by
  refine has_ofE T F sc_NoThing___init (fun vs H Q E h => ?_) (fun f cdv A outer s H vs Q E hr h => ?_)
  · obtain ⟨_, _, _, rfl, _⟩ := h
    rfl
  · obtain ⟨a, C, v, rfl, o, n, ha, q⟩ := h
    refine ⟨_, (pss_cons (ps_expr (pe_teinit z.t_TailError rfl (pa_cons (pv 0) (pa_cons pe_str pa_nil))))
        (pss_one (ps_ost (pv 0) (pv 1)))), ?_⟩
    walk_at "cx"
    walk_at "ss"
    refine s_ve ?_
    walk_at "ss"
    refine n_ve o ha (by show 1 ≤ 1000; decide) ?_
    walk_at "ss"
    refine s_os ?_
    walk_at "ss"
    exact n_os o n ha q

/-! ### need_thing -/
noncomputable def sp_need_thing (K : PySem.W.Frag) : Sp := fun vs H Q E => ∃ (v : V) (n : String), vs = [v] ∧ KindV K H v n ∧ (nameV v = true → Q .non H) ∧ (nameV v = false → ∀ d, H d = none → E (.ref (clsA K "NoThing")) (some d) (upd H d (.xd [("thing", v)])))
theorem has_need_thing (z : Z K mg) (F : FunAt K mg "need_thing" s_need_thing ["thing"]) (h_is_name : Has P w K mg base "is_name" 1 (sp_is_name K)) (e_NoThing : HasE P w K mg base "NoThing" "thing" 1) : HasX P w K mg base "need_thing" 3 (sp_need_thing K) := by
  refine has_ofX F sc_need_thing (fun vs H Q E h => ?_) (fun f cdv A outer s H vs Q E hr h => ?_)
  · obtain ⟨v, n, rfl, _⟩ := h
    rfl
  · obtain ⟨v, n, rfl, kv, q1, q2⟩ := h
    refine ⟨_, (pss_one (ps_if (pt_not (pt_val (pe_callH h_is_name (by decide) hr rfl (pa_cons (pv 0) pa_nil)))) (pss_one (ps_raiseX (takes_of rfl rfl rfl rfl) e_NoThing (Nat.le_refl _) (hr.mono (by decide)) rfl rfl (pa_cons (pv 0) pa_nil))) pss_nil)), ?_⟩
    walk_at "cx"
    walk_at "ss"
    refine ⟨_, _, rfl, kv, ?_⟩
    cases c : nameV v with
    | true =>
      walk_at "ss"
      exact q1 c
    | false =>
      walk_at "txs"
      exact q2 c _ (by assumption)

/-! ### is_whole -/
noncomputable def sp_is_whole (K : PySem.W.Frag) : Sp := fun vs H Q _ => ∃ (v : V) (n : String), vs = [v] ∧ KindV K H v n ∧ Q (.bl (wholeV v)) H
theorem has_is_whole (z : Z K mg) (F : FunAt K mg "is_whole" s_is_whole ["thing"])  : Has P w K mg base "is_whole" 1 (sp_is_whole K) := by
  refine has_of F sc_is_whole (fun vs H Q E h => ?_) (fun f cdv A outer s H vs Q E hr h => ?_)
  · obtain ⟨v, n, rfl, _⟩ := h
    rfl
  · obtain ⟨v, n, rfl, kv, q⟩ := h
    refine ⟨_, (pss_one (ps_ret (pe_and (pe_callB (id := "isinstance") (isiA (K := K) rfl) (by rfl) z.b_isinstance (by decide +kernel) (pa_cons (pv 0) (pa_cons (pe_bltn (v := .ty "int") (by rfl) z.b_int (by decide +kernel) rfl) pa_nil))) (pe_one (pe_not (pe_callB (id := "isinstance") (isiA (K := K) rfl) (by rfl) z.b_isinstance (by decide +kernel) (pa_cons (pv 0) (pa_cons (pe_bltn (v := .ty "bool") (by rfl) z.b_bool (by decide +kernel) rfl) pa_nil)))))))), ?_⟩
    walk_at "cx"
    cases kv with
    | dct h =>
      walk_at "ss"
      refine s_isiDk h k_di ?_
      walk_at "ss"
      exact q
    | _ =>
      walk_at "ss"
      exact q

/-! ### is_key -/
noncomputable def sp_is_key (K : PySem.W.Frag) : Sp := fun vs H Q _ => ∃ (v : V) (n : String), vs = [v] ∧ KindV K H v n ∧ Q (.bl (keyV v)) H
theorem has_is_key (z : Z K mg) (F : FunAt K mg "is_key" s_is_key ["thing"]) (h_is_whole : Has P w K mg base "is_whole" 1 (sp_is_whole K)) : Has P w K mg base "is_key" 2 (sp_is_key K) := by
  refine has_of F sc_is_key (fun vs H Q E h => ?_) (fun f cdv A outer s H vs Q E hr h => ?_)
  · obtain ⟨v, n, rfl, _⟩ := h
    rfl
  · obtain ⟨v, n, rfl, kv, q⟩ := h
    refine ⟨_, (pss_one (ps_ret (pe_and (pe_callH h_is_whole (by decide) hr rfl (pa_cons (pv 0) pa_nil)) (pe_one (pe_chain op_le op_lt pe_int (pv 0) (pe_constI z.c_KEYS rfl)))))), ?_⟩
    walk_at "cx"
    walk_at "ss"
    refine ⟨_, _, rfl, kv, ?_⟩
    refine kv.cases' (fun i e => ?_) (fun e => ?_)
    · subst e
      rw [show wholeV (V.int i) = true from rfl]
      walk_at "ss"
      refine i_d (fun h1 => ?_) (fun h1 => ?_)
      · walk_at "ss"
        have e : keyV (V.int i) = decide (i < 1152921504606846976) := by
          show decide (_ ∧ _) = _
          by_cases c : i < 1152921504606846976
          · rw [decide_eq_true c, decide_eq_true ⟨h1, c⟩]
          · rw [decide_eq_false c, decide_eq_false fun z => c z.2]
        rw [e] at q
        exact q
      · have e : keyV (V.int i) = false := decide_eq_false fun z => h1 z.1
        rw [e] at q
        exact q
    · rw [e]
      walk_at "ss"
      rw [keyV_no e] at q
      exact q

/-! ### NoKey.__init__ -/
theorem has_NoKey___init (z : Z K mg) (T : ExF K mg "NoKey" "key") (F : ExAt K "NoKey" "NoKey.__init__" s_NoKey___init ["self", "key"]) : HasE P w K mg base "NoKey" "key" 1 := by
  refine has_ofE T F sc_NoKey___init (fun vs H Q E h => ?_) (fun f cdv A outer s H vs Q E hr h => ?_)
  · obtain ⟨_, _, _, rfl, _⟩ := h
    rfl
  · obtain ⟨a, C, v, rfl, o, n, ha, q⟩ := h
    refine ⟨_, (pss_cons (ps_expr (pe_teinit z.t_TailError rfl (pa_cons (pv 0) (pa_cons pe_str pa_nil))))
        (pss_one (ps_ost (pv 0) (pv 1)))), ?_⟩
    walk_at "cx"
    walk_at "ss"
    refine s_ve ?_
    walk_at "ss"
    refine n_ve o ha (by show 1 ≤ 1000; decide) ?_
    walk_at "ss"
    refine s_os ?_
    walk_at "ss"
    exact n_os o n ha q

/-! ### need_key -/
noncomputable def sp_need_key (K : PySem.W.Frag) : Sp := fun vs H Q E => ∃ (v : V) (n : String), vs = [v] ∧ KindV K H v n ∧ (keyV v = true → Q .non H) ∧ (keyV v = false → ∀ d, H d = none → E (.ref (clsA K "NoKey")) (some d) (upd H d (.xd [("key", v)])))
theorem has_need_key (z : Z K mg) (F : FunAt K mg "need_key" s_need_key ["key"]) (h_is_key : Has P w K mg base "is_key" 2 (sp_is_key K)) (e_NoKey : HasE P w K mg base "NoKey" "key" 1) : HasX P w K mg base "need_key" 3 (sp_need_key K) := by
  refine has_ofX F sc_need_key (fun vs H Q E h => ?_) (fun f cdv A outer s H vs Q E hr h => ?_)
  · obtain ⟨v, n, rfl, _⟩ := h
    rfl
  · obtain ⟨v, n, rfl, kv, q1, q2⟩ := h
    refine ⟨_, (pss_one (ps_if (pt_not (pt_val (pe_callH h_is_key (by decide) hr rfl (pa_cons (pv 0) pa_nil)))) (pss_one (ps_raiseX (takes_of rfl rfl rfl rfl) e_NoKey (Nat.le_refl _) (hr.mono (by decide)) rfl rfl (pa_cons (pv 0) pa_nil))) pss_nil)), ?_⟩
    walk_at "cx"
    walk_at "ss"
    refine ⟨_, _, rfl, kv, ?_⟩
    cases c : keyV v with
    | true =>
      walk_at "ss"
      exact q1 c
    | false =>
      walk_at "txs"
      exact q2 c _ (by assumption)

/-! ### room_of -/
noncomputable def sp_room_of (K : PySem.W.Frag) : Sp := fun vs H Q _ => ∃ c r : Int, vs = [.int c, .int r] ∧ 1 ≤ r ∧ Q (.int (roomOf c r)) H
theorem has_room_of (z : Z K mg) (F : FunAt K mg "room_of" s_room_of ["key", "rooms"]) (h_whole_rooms : Has P w K mg base "whole_rooms" 1 (sp_whole_rooms K)) : Has P w K mg base "room_of" 2 (sp_room_of K) := by
  refine has_of F sc_room_of (fun vs H Q E h => ?_) (fun f cdv A outer s H vs Q E hr h => ?_)
  · obtain ⟨c, r, rfl, _⟩ := h
    rfl
  · obtain ⟨c, r, rfl, h0, q⟩ := h
    refine ⟨_, (pss_cons (ps_set (i := 2) sc_room_of.nd rfl (by first | exact Or.inl rfl | exact Or.inr rfl) (pe_callH h_whole_rooms (by decide) hr rfl (pa_cons (pv 1) pa_nil)))
        (pss_cons (ps_if (pt_cmpR op_lt (pe_op op_mod (pv 0) (pv 2)) (pe_op op_sub (pv 1) (pv 2)) (nomark _)) (pss_one (ps_ret (pe_op op_mod (pv 0) (pe_op op_multA pe_int (pv 2))))) pss_nil)
        (pss_one (ps_ret (pe_op op_mod (pv 0) (pv 2)))))), ?_⟩
    walk_at "cx"
    walk_at "ss"
    refine ⟨_, rfl, h0, ?_⟩
    obtain ⟨a1, a2, a3⟩ := whole_spec h0
    unfold roomOf at q
    walk_at "ss"
    refine i_d (fun hd => ?_) (fun hd => ?_)
    · rw [if_pos hd] at q
      walk_at "ss"
      exact q
    · rw [if_neg hd] at q
      walk_at "ss"
      exact q

/-! ### rooms_for -/
noncomputable def sp_rooms_for (K : PySem.W.Frag) : Sp := fun vs H Q _ => ∃ c f : Int, vs = [.int c, .int f] ∧ 0 < f ∧ f < 1000000 ∧ Q (.int (roomsFor c f)) H
theorem has_rooms_for (z : Z K mg) (F : FunAt K mg "rooms_for" s_rooms_for ["count", "fill"])  : Has P w K mg base "rooms_for" 1 (sp_rooms_for K) := by
  refine has_of F sc_rooms_for (fun vs H Q E h => ?_) (fun f cdv A outer s H vs Q E hr h => ?_)
  · obtain ⟨c, f, rfl, _⟩ := h
    rfl
  · obtain ⟨c, g, rfl, h0, h1, q⟩ := h
    refine ⟨_, (pss_one (ps_ret (pe_callB (id := "max") (call_max2A rfl) (by rfl) z.b_max (by decide +kernel) (pa_cons pe_int (pa_cons (pe_un un_neg (pe_op op_fdivW (pe_un un_neg (pv 0)) (pv 1))) pa_nil))))), ?_⟩
    walk_at "cx"
    walk_at "ss"
    exact q

/-! ### Table.rooms -/
noncomputable abbrev sp_Table_rooms (K : PySem.W.Frag) : Sp := spTRooms K
theorem has_Table_rooms (z : Z K mg) (F : MethAt K "Table" "rooms" "Table.rooms" s_Table_rooms ["self"]) (h_rooms_for : Has P w K mg base "rooms_for" 1 (sp_rooms_for K)) : HasM P w K mg base "Table" "rooms" 2 (sp_Table_rooms K) := by
  refine has_ofM F sc_Table_rooms (fun vs H Q E h => ?_) (fun f cdv A outer s H vs Q E hr h => ?_)
  · obtain ⟨_, _, _, _, _, _, rfl, _⟩ := h
    rfl
  · obtain ⟨a, D, w, f, l, Z, rfl, tb, q⟩ := h
    refine ⟨_, (pss_one (ps_ret (pe_callH h_rooms_for (by decide) hr rfl (pa_cons (pe_callB (id := "len") lenDA (by rfl) z.b_len (by decide +kernel) (pa_cons (pe_fldK (K := K) rfl (pv 0) rfl) pa_nil)) (pa_cons (pe_fldK (K := K) rfl (pv 0) rfl) pa_nil))))), ?_⟩
    walk_at "cx"
    obtain ⟨dx, ha⟩ := tb.at_
    have z0 : Ex Z H := tb.dm.zh
    have dm := tb.dm
    have f0 := tb.f0
    walk_at "txs"
    refine ⟨_, _, rfl, by omega, by omega, ?_⟩
    walk_at "txs"
    exact q

/-! ### Table.keys_in -/
noncomputable abbrev sp_Table_keys_in (K : PySem.W.Frag) : Sp := spTKeysIn K
theorem has_Table_keys_in (z : Z K mg) (F : MethAt K "Table" "keys_in" "Table.keys_in" s_Table_keys_in ["self", "room"]) (h_room_of : Has P w K mg base "room_of" 2 (sp_room_of K)) (hm_Table_rooms : HasM P w K mg base "Table" "rooms" 2 (sp_Table_rooms K)) : HasM P w K mg base "Table" "keys_in" 3 (sp_Table_keys_in K) := by
  refine has_ofM F sc_Table_keys_in (fun vs H Q E h => ?_) (fun f cdv A outer s H vs Q E hr h => ?_)
  · obtain ⟨_, _, _, _, _, _, _, rfl, _⟩ := h
    rfl
  · obtain ⟨a, D, w, f, r, l, Z, rfl, tb, q⟩ := h
    refine ⟨_, (pss_cons (ps_set (i := 2) sc_Table_keys_in.nd rfl (by first | exact Or.inl rfl | exact Or.inr rfl) (pe_methK0 (K := K) rfl (pxT (takes_of rfl rfl rfl rfl)) z.k_Table hm_Table_rooms (by decide) hr (pv 0)))
        (pss_one (ps_ret (pe_callB (id := "sorted") (sortA (K := K) rfl) (by rfl) z.b_sorted (by decide +kernel) (pa_cons (pe_lock (pe_lc (own := [("key", 3)]) (g := gName 3) rfl sc_Table_keys_in.nd (pi_keys (pe_fldK (K := K) rfl (pv 0) rfl)) (blkOk_by (own := [("key", 3)]) (N := ["self", "room", "rooms", "key"]) (sc := defScope s_Table_keys_in) (by decide +kernel)) (fun _ _ _ _ _ => (pg_name (i := 3) sc_Table_keys_in.nd rfl (by first | exact Or.inl rfl | exact Or.inr rfl))) (fun _ _ _ _ _ => pts_one (pt_cmpR (eqA (K := K) rfl hr.units) (pe_callH h_room_of (by decide) hr rfl (pa_cons (pv 3) (pa_cons (pv 2) pa_nil))) (pv 1) (nomark _))) (fun _ _ _ _ _ => (pv 3)))) pa_nil))))), ?_⟩
    walk_at "cx"
    obtain ⟨dx, ha⟩ := tb.at_
    have z0 : Ex Z H := tb.dm.zh
    have dm := tb.dm
    have f0 := tb.f0
    have le := tb.le
    have rp := roomsT_pos (l := l) f0.1
    walk_at "txs"
    refine ⟨a, D, w, f, l, Z, rfl, tb, ?_⟩
    walk_at "txs"
    refine c_keepD dm (by omega) (fun e : Ent => decide (roomOf e.1 (roomsT f l) = r)) (fun e : Ent => e.1) (fun H1 Q1 h1 q1 => ?_) (fun i e he Z1 H1 t1 A B hA hB => ?_) (fun p Z1 H1 n1 t1 dm1 ls1 => ?_)
    · have ha1 : H1 a = some (.ins (clsA K "Table") dx (tfs (.int w) (.int f) D)) := h1 a _ (fun z => by have := dm.zd; rw [← z, ha] at this; cases this) (z0 _ _ ha)
      walk_at "txs"
      exact q1
    · walk_at "txs"
      refine ⟨_, _, rfl, rp, ?_⟩
      walk_at "txs"
      refine i_d (fun hd => ?_) (fun hd => ?_)
      · walk_at "txs"
        exact hA (decide_eq_true hd) _ Z1 H1 (T.refl t1.zh) (Ik.int _)
      · exact hB (decide_eq_false hd) Z1 H1 (T.refl t1.zh)
    · have tb1 : Tb K Z1 H1 a D w f l := tb.dm' dm1 t1.z tb.k1 tb.le tb.ks
      walk_at "txs"
      refine t_sortedM t1.zh (t1.zh.sq (Ik.sqI ls1.is)) fun p2 Z2 H2 n2 t2 lm2 => ?_
      walk_at "txs"
      exact q p2 Z2 H2 (t1.nn n2) (t1.step t2 mm_nil) (tb1.tt t2 nm_nil) lm2

/-! ### Full.__init__ -/
theorem has_Full___init (z : Z K mg) (T : ExF K mg "Full" "many") (F : ExAt K "Full" "Full.__init__" s_Full___init ["self", "many"]) : HasE P w K mg base "Full" "many" 1 := by
  refine has_ofE T F sc_Full___init (fun vs H Q E h => ?_) (fun f cdv A outer s H vs Q E hr h => ?_)
  · obtain ⟨_, _, _, rfl, _⟩ := h
    rfl
  · obtain ⟨a, C, v, rfl, o, n, ha, q⟩ := h
    refine ⟨_, (pss_cons (ps_expr (pe_teinit z.t_TailError rfl (pa_cons (pv 0) (pa_cons pe_str pa_nil))))
        (pss_one (ps_ost (pv 0) (pv 1)))), ?_⟩
    walk_at "cx"
    walk_at "ss"
    refine s_ve ?_
    walk_at "ss"
    refine n_ve o ha (by show 1 ≤ 1000; decide) ?_
    walk_at "ss"
    refine s_os ?_
    walk_at "ss"
    exact n_os o n ha q

/-! ### Table.put -/
noncomputable abbrev sp_Table_put (K : PySem.W.Frag) : Sp := spTPut K
theorem has_Table_put (z : Z K mg) (F : MethAt K "Table" "put" "Table.put" s_Table_put ["self", "key", "thing"]) (h_split_of : Has P w K mg base "split_of" 3 (sp_split_of K)) (h_need_thing : HasX P w K mg base "need_thing" 3 (sp_need_thing K)) (h_need_key : HasX P w K mg base "need_key" 3 (sp_need_key K)) (hm_Table_keys_in : HasM P w K mg base "Table" "keys_in" 3 (sp_Table_keys_in K)) (hm_Table_rooms : HasM P w K mg base "Table" "rooms" 2 (sp_Table_rooms K)) (e_Full : HasE P w K mg base "Full" "many" 1) : HasM P w K mg base "Table" "put" 4 (sp_Table_put K) := by
  refine has_ofM F sc_Table_put (fun vs H Q E h => ?_) (fun f cdv A outer s H vs Q E hr h => ?_)
  · obtain ⟨_, _, _, _, _, _, _, _, _, _, rfl, _⟩ := h
    rfl
  · obtain ⟨a, D, w, f, l, Z, v, t, n, m, rfl, tb, kv, kt, q1, q2, q3⟩ := h
    refine ⟨_, (pss_cons (ps_expr (pe_callX (pxT (takes_of rfl rfl rfl rfl)) h_need_key (by decide) hr rfl (pa_cons (pv 1) pa_nil)))
        (pss_cons (ps_expr (pe_callX (pxT (takes_of rfl rfl rfl rfl)) h_need_thing (by decide) hr rfl (pa_cons (pv 2) pa_nil)))
        (Evl.pss_cut (ps_if (PW.pt (pw_and (pt_cmp (pc_dnotin (hu_of hr) (pv 1) (pe_fldK (K := K) rfl (pv 0) rfl))) (pw_and1 (pt_cmpR (eqA (K := K) rfl hr.units) (pe_callB (id := "len") lenDA (by rfl) z.b_len (by decide +kernel) (pa_cons (pe_fldK (K := K) rfl (pv 0) rfl) pa_nil)) (pe_constI z.c_MOST rfl) (nomark _))))) (pss_one (ps_raiseX (takes_of rfl rfl rfl rfl) e_Full (Nat.le_refl _) (hr.mono (by decide)) rfl rfl (pa_cons (pe_constI z.c_MOST rfl) pa_nil))) pss_nil)
        (pss_cons (ps_set (i := 3) sc_Table_put.nd rfl (by first | exact Or.inl rfl | exact Or.inr rfl) (pe_methK0 (K := K) rfl (pxT (takes_of rfl rfl rfl rfl)) z.k_Table hm_Table_rooms (by decide) hr (pv 0)))
        (pss_cons (ps_dput (hu_of hr) (pe_fldK (K := K) rfl (pv 0) rfl) (pv 1) (pv 2) rfl)
        (pss_cons (ps_if (pt_cmpR (eqA (K := K) rfl hr.units) (pe_methK0 (K := K) rfl (pxT (takes_of rfl rfl rfl rfl)) z.k_Table hm_Table_rooms (by decide) hr (pv 0)) (pv 3) (nomark _)) (pss_one (ps_ret pe_non)) pss_nil)
        (pss_cons (ps_asg (pe_callH h_split_of (by decide) hr rfl (pa_cons (pv 3) pa_nil)) (pg_tup rfl (pgs_cons (pg_name (i := 4) sc_Table_put.nd rfl (by first | exact Or.inl rfl | exact Or.inr rfl)) (pgs_cons (pg_name (i := 5) sc_Table_put.nd rfl (by first | exact Or.inl rfl | exact Or.inr rfl)) pgs_nil))))
        (pss_one (ps_ret (pe_tup (pa_cons (pv 4) (pa_cons (pv 5) (pa_cons (pe_methK (K := K) rfl (pxT (takes_of rfl rfl rfl rfl)) z.k_Table hm_Table_keys_in (by decide) hr (pv 0) (pa_cons (pv 5) pa_nil)) pa_nil))))))))))))), ?_⟩
    walk_at "cx"
    obtain ⟨dx, ha⟩ := tb.at_
    have z0 : Ex Z H := tb.dm.zh
    have dm := tb.dm
    have f0 := tb.f0
    have le := tb.le
    have rp := roomsT_pos (l := l) f0.1
    walk_at "txs"
    refine ⟨v, n, rfl, kv, fun c1 => ?_, fun c1 => q1 c1⟩
    walk_at "txs"
    refine ⟨t, m, rfl, kt, fun c2 => ?_, fun c2 => q2 c1 c2⟩
    obtain ⟨k, rfl, k0, k60⟩ := key_int c1
    obtain ⟨x, rfl, nx⟩ := name_tx c2
    obtain ⟨q3, q4⟩ := q3 k x rfl rfl c1 c2
    have sl : (setE l k x).length = l.length ∨ (setE l k x).length = l.length + 1 := by
      by_cases c : k ∈ l.map Prod.fst
      · exact .inl (setE_len_in c)
      · exact .inr (setE_len_out c)
    have rg := roomsT_ge l (setE l k x) f0.1 sl
    walk_at "txs"
    refine s_cut (fun σ' H' => σ' = [some (.ref a), some (.int k), some (.str x.1), none, none, none] ∧ H' = H ∧ (k ∈ l.map Prod.fst ∨ l.length < 64)) ?_ ?_
    · walk_at "txs"
      refine i_n (fun hk => ?_) (fun hk => ?_)
      · walk_at "txs"
        refine i_d (fun h64 => ?_) (fun h64 => ?_)
        · walk_at "txs"
          exact q3 hk (by omega) _ (by assumption)
        · exact ⟨rfl, rfl, .inr (by omega)⟩
      · exact ⟨rfl, rfl, .inl hk⟩
    rintro σ' H' ⟨rfl, e, hl⟩
    obtain rfl : H = H' := e.symm
    have q5 := q4 hl
    have l64 : (setE l k x).length ≤ 64 := by
      rcases hl with hl | hl
      · rw [setE_len_in hl]; exact le
      · omega
    walk_at "txs"
    refine ⟨a, D, w, f, l, Z, rfl, tb, ?_⟩
    walk_at "txs"
    rename_i Z1 H1 t1 dm1
    have tb1 : Tb K Z1 H1 a D w f (setE l k x) := tb.dm' dm1 t1.z (keys_set tb.k1) l64 fun e he => by
      rcases (setE_mem tb.k1).mp he with ⟨he, _⟩ | rfl
      · exact tb.ks e he
      · exact ⟨k0, k60⟩
    refine ⟨a, D, w, f, _, Z1, rfl, tb1, ?_⟩
    walk_at "txs"
    refine i_d (fun hr => ?_) (fun hr => ?_)
    · walk_at "txs"
      refine q5 _ Z1 H1 t1 tb1 ?_
      unfold PutTold
      rw [if_pos hr]
    · walk_at "txs"
      refine ⟨roomsT f l, rfl, rp, fun p2 H2 n2 e2 f2 => ?_⟩
      obtain ⟨Z2, H2', eH, t2, f2'⟩ : ∃ Z2 H2', H2' = H2 ∧ T [] Z1 H1 Z2 H2' ∧ Z2 p2 = some (.tup [.int (roomsT f l - whole (roomsT f l)), .int (roomsT f l)]) := ⟨_, H2, rfl, T.ofNew t1.zh n2 e2 f2, upd_same⟩
      rw [← eH]
      clear eH f2 e2
      have tb2 := tb1.tt t2 nm_nil
      walk_at "txs"
      refine s_gt2 (by walk_at "st") ?_
      walk_at "txs"
      refine ⟨a, D, w, f, roomsT f l, _, Z2, rfl, tb2, fun p3 Z3 H3 n3 t3 tb3 lm3 => ?_⟩
      walk_at "txs"
      rename_i p4 Z4 H4 n4 t4 f4
      have hD : ∀ {b : Addr} {o : HO}, H D = some o → H b = none → b ≠ D := fun h1 h2 z => by rw [z, h1] at h2; cases h2
      have n3' : H p3 = none := t1.nn (t2.nn n3)
      have n4' : H p4 = none := t1.nn (t2.nn (t3.nn n4))
      refine q5 _ Z4 H4 (((t1.step t2 mm_nil).step t3 mm_same).step t4 mm_nil) (tb3.tt t4 nm_nil) ?_
      unfold PutTold
      rw [if_neg hr]
      exact ⟨p4, p3, rfl, n4', n3', f4, lm3.tt t4 nm_nil⟩

/-! ### joined_of -/
noncomputable def sp_joined_of (K : PySem.W.Frag) : Sp := fun vs H Q _ => ∃ r : Int, vs = [.int r] ∧ 1 ≤ r ∧ (r = 1 → Q .non H) ∧ (r ≠ 1 → ∀ p H', H p = none → Ex H H' → H' p = some (.tup [.int (r - 1), .int (r - 1 - whole (r - 1))]) → Q (.ref p) H')
theorem has_joined_of (z : Z K mg) (F : FunAt K mg "joined_of" s_joined_of ["rooms"]) (h_whole_rooms : Has P w K mg base "whole_rooms" 1 (sp_whole_rooms K)) : Has P w K mg base "joined_of" 2 (sp_joined_of K) := by
  refine has_of F sc_joined_of (fun vs H Q E h => ?_) (fun f cdv A outer s H vs Q E hr h => ?_)
  · obtain ⟨n, rfl, _⟩ := h
    rfl
  · obtain ⟨r, rfl, h0, q1, q2⟩ := h
    refine ⟨_, (pss_cons (ps_if (pt_cmpR (eqA (K := K) rfl hr.units) (pv 0) pe_int (nomark _)) (pss_one (ps_ret pe_non)) pss_nil)
        (pss_cons (ps_set (i := 1) sc_joined_of.nd rfl (by first | exact Or.inl rfl | exact Or.inr rfl) (pe_op op_sub (pv 0) pe_int))
        (pss_one (ps_ret (pe_tup (pa_cons (pv 1) (pa_cons (pe_op op_sub (pv 1) (pe_callH h_whole_rooms (by decide) hr rfl (pa_cons (pv 1) pa_nil))) pa_nil))))))), ?_⟩
    walk_at "cx"
    walk_at "ss"
    refine i_d (fun hd => ?_) (fun hd => ?_)
    · walk_at "ss"
      exact q1 hd
    · walk_at "ss"
      refine ⟨_, rfl, by omega, ?_⟩
      walk_at "ss"
      rename_i p G n1 e1 f1
      exact q2 hd p G n1 e1 f1

/-! ### Lacking.__init__ -/
theorem has_Lacking___init (z : Z K mg) (T : ExF K mg "Lacking" "key") (F : ExAt K "Lacking" "Lacking.__init__" s_Lacking___init ["self", "key"]) : HasE P w K mg base "Lacking" "key" 1 := by
  refine has_ofE T F sc_Lacking___init (fun vs H Q E h => ?_) (fun f cdv A outer s H vs Q E hr h => ?_)
  · obtain ⟨_, _, _, rfl, _⟩ := h
    rfl
  · obtain ⟨a, C, v, rfl, o, n, ha, q⟩ := h
    refine ⟨_, (pss_cons (ps_expr (pe_teinit z.t_TailError rfl (pa_cons (pv 0) (pa_cons pe_str pa_nil))))
        (pss_one (ps_ost (pv 0) (pv 1)))), ?_⟩
    walk_at "cx"
    walk_at "ss"
    refine s_ve ?_
    walk_at "ss"
    refine n_ve o ha (by show 1 ≤ 1000; decide) ?_
    walk_at "ss"
    refine s_os ?_
    walk_at "ss"
    exact n_os o n ha q

/-! ### Table.need_standing -/
noncomputable abbrev sp_Table_need_standing (K : PySem.W.Frag) : Sp := spTNeed K
theorem has_Table_need_standing (z : Z K mg) (F : MethAt K "Table" "need_standing" "Table.need_standing" s_Table_need_standing ["self", "key"]) (h_need_key : HasX P w K mg base "need_key" 3 (sp_need_key K)) (e_Lacking : HasE P w K mg base "Lacking" "key" 1) : HasM P w K mg base "Table" "need_standing" 4 (sp_Table_need_standing K) := by
  refine has_ofM F sc_Table_need_standing (fun vs H Q E h => ?_) (fun f cdv A outer s H vs Q E hr h => ?_)
  · obtain ⟨_, _, _, _, _, _, _, _, rfl, _⟩ := h
    rfl
  · obtain ⟨a, D, w, f, l, Z, v, n, rfl, tb, kv, q1, q2⟩ := h
    refine ⟨_, (pss_cons (ps_expr (pe_callX (pxT (takes_of rfl rfl rfl rfl)) h_need_key (by decide) hr rfl (pa_cons (pv 1) pa_nil)))
        (pss_one (ps_if (pt_cmp (pc_dnotin (hu_of hr) (pv 1) (pe_fldK (K := K) rfl (pv 0) rfl))) (pss_one (ps_raiseX (takes_of rfl rfl rfl rfl) e_Lacking (Nat.le_refl _) (hr.mono (by decide)) rfl rfl (pa_cons (pv 1) pa_nil))) pss_nil))), ?_⟩
    walk_at "cx"
    obtain ⟨dx, ha⟩ := tb.at_
    have z0 : Ex Z H := tb.dm.zh
    have dm := tb.dm
    walk_at "txs"
    refine ⟨v, n, rfl, kv, fun c1 => ?_, fun c1 => q1 c1⟩
    obtain ⟨k, rfl, k0, k60⟩ := key_int c1
    obtain ⟨q3, q4⟩ := q2 k rfl c1
    walk_at "txs"
    refine i_n (fun hk => ?_) (fun hk => ?_)
    · walk_at "txs"
      exact q3 hk _ (by assumption)
    · walk_at "txs"
      exact q4 hk

/-! ### Table.drop -/
noncomputable abbrev sp_Table_drop (K : PySem.W.Frag) : Sp := spTDrop K
theorem has_Table_drop (z : Z K mg) (F : MethAt K "Table" "drop" "Table.drop" s_Table_drop ["self", "key"]) (h_joined_of : Has P w K mg base "joined_of" 2 (sp_joined_of K)) (hm_Table_rooms : HasM P w K mg base "Table" "rooms" 2 (sp_Table_rooms K)) (hm_Table_keys_in : HasM P w K mg base "Table" "keys_in" 3 (sp_Table_keys_in K)) (hm_Table_need_standing : HasM P w K mg base "Table" "need_standing" 4 (sp_Table_need_standing K)) : HasM P w K mg base "Table" "drop" 5 (sp_Table_drop K) := by
  refine has_ofM F sc_Table_drop (fun vs H Q E h => ?_) (fun f cdv A outer s H vs Q E hr h => ?_)
  · obtain ⟨_, _, _, _, _, _, _, _, rfl, _⟩ := h
    rfl
  · obtain ⟨a, D, w, f, l, Z, v, n, rfl, tb, kv, q1, q2⟩ := h
    refine ⟨_, (pss_cons (ps_expr (pe_methK (K := K) rfl (pxT (takes_of rfl rfl rfl rfl)) z.k_Table hm_Table_need_standing (by decide) hr (pv 0) (pa_cons (pv 1) pa_nil)))
        (pss_cons (ps_set (i := 2) sc_Table_drop.nd rfl (by first | exact Or.inl rfl | exact Or.inr rfl) (pe_methK0 (K := K) rfl (pxT (takes_of rfl rfl rfl rfl)) z.k_Table hm_Table_rooms (by decide) hr (pv 0)))
        (pss_cons (ps_setLc (i := 3) (own := [("one", 6)]) (g := gName 6) rfl sc_Table_drop.nd rfl rfl (sw_true rfl rfl rfl (by decide +kernel)) (piL (K := K) rfl (pe_methK (K := K) rfl (pxT (takes_of rfl rfl rfl rfl)) z.k_Table hm_Table_keys_in (by decide) hr (pv 0) (pa_cons (pe_op op_sub (pv 2) pe_int) pa_nil))) (blkOk_by (own := [("one", 6)]) (N := ["self", "key", "before", "last", "room", "into", "one"]) (sc := defScope s_Table_drop) (by decide +kernel)) (fun _ _ _ _ _ => (pg_name (i := 6) sc_Table_drop.nd rfl (by first | exact Or.inl rfl | exact Or.inr rfl))) (fun _ _ _ _ _ => pts_one (pt_cmpR (neA (K := K) rfl hr.units) (pv 6) (pv 1) (nomark _))) (fun _ _ _ _ _ => (pv 6)))
        (pss_cons (ps_expr (pe_dpop1 (pe_fldK (K := K) rfl (pv 0) rfl) (pv 1) ⟨rfl, rfl, rfl, rfl⟩))
        (pss_cons (ps_if (pt_cmpR (eqA (K := K) rfl hr.units) (pe_methK0 (K := K) rfl (pxT (takes_of rfl rfl rfl rfl)) z.k_Table hm_Table_rooms (by decide) hr (pv 0)) (pv 2) (nomark _)) (pss_one (ps_ret pe_non)) pss_nil)
        (pss_cons (ps_asg (pe_callH h_joined_of (by decide) hr rfl (pa_cons (pv 2) pa_nil)) (pg_tup rfl (pgs_cons (pg_name (i := 4) sc_Table_drop.nd rfl (by first | exact Or.inl rfl | exact Or.inr rfl)) (pgs_cons (pg_name (i := 5) sc_Table_drop.nd rfl (by first | exact Or.inl rfl | exact Or.inr rfl)) pgs_nil))))
        (pss_one (ps_ret (pe_tup (pa_cons (pv 4) (pa_cons (pv 5) (pa_cons (pv 3) pa_nil)))))))))))), ?_⟩
    walk_at "cx"
    obtain ⟨dx, ha⟩ := tb.at_
    have z0 : Ex Z H := tb.dm.zh
    have dm := tb.dm
    have f0 := tb.f0
    have le := tb.le
    have rp := roomsT_pos (l := l) f0.1
    walk_at "txs"
    refine ⟨a, D, w, f, l, Z, v, n, rfl, tb, kv, q1, fun k ev c1 => ?_⟩
    subst ev
    obtain ⟨q3, q4⟩ := q2 k rfl c1
    refine ⟨q3, fun m => ?_⟩
    have q5 := q4 m
    walk_at "txs"
    refine ⟨a, D, w, f, l, Z, rfl, tb, ?_⟩
    walk_at "txs"
    refine ⟨a, D, w, f, _, l, Z, rfl, tb, fun p1 Z1 H1 n1 t1 tb1 lm1 => ?_⟩
    obtain ⟨Z2, H2, eH, t2, ls2⟩ := lm1.frq
    rw [← eH]
    clear eH
    have tb2 := tb1.tt t2 (nm_cons (ne_alB n1 tb.al) nm_nil)
    have kl := keysT_len (f := f) (l := l) (r := roomsT f l - 1)
    walk_at "txs"
    refine c_keepLA (fun x : Int => decide (x ≠ k)) (fun x => x) t2.zh ls2.is (by omega) (fun i v x hx iv Z3 H3 t3 A B hA hB => ?_) (fun p3 Z3 H3 n3 t3 lm3 => ?_)
    · obtain rfl := iv.int_of
      walk_at "txs"
      refine i_d (fun hd => ?_) (fun hd => ?_)
      · walk_at "txs"
        exact hA (decide_eq_true hd) _ Z3 H3 (T.refl t3.zh) (Ik.int _)
      · exact hB (decide_eq_false hd) Z3 H3 (T.refl t3.zh)
    · rw [List.map_id'] at lm3
      have tb3 := tb2.tt t3 nm_nil
      obtain ⟨dx3, ha3⟩ := tb3.at_
      have dm3 := tb3.dm
      obtain ⟨t, ht⟩ := keys_of_mem m
      walk_at "txs"
      refine t_dpa dm3 rfl ht fun Z4 H4 t4 dm4 => ?_
      have nD3 : p3 ≠ D := ne_alF n3 tb2.al
      have lm4 := lm3.tt t4 (nm_cons nD3 nm_nil)
      have ol := outE_len tb.k1 m
      have tb4 : Tb K Z4 H4 a D w f (outE l k) := tb3.dm' dm4 t4.z (keys_out tb.k1) (by omega) fun e he => tb.ks e (outE_mem.mp he).1
      obtain ⟨dx4, ha4⟩ := tb4.at_
      walk_at "txs"
      refine ⟨a, D, w, f, _, Z4, rfl, tb4, ?_⟩
      walk_at "txs"
      have tt : T [D] Z H Z4 H4 := ((t1.step t2 (mm_1 (.inr n1))).step t3 mm_nil).step t4 mm_same
      refine i_d (fun hr => ?_) (fun hr => ?_)
      · walk_at "txs"
        refine q5 _ Z4 H4 tt tb4 ?_
        unfold DropTold
        rw [if_pos hr]
      · obtain ⟨r2, _⟩ := roomsT_out f0.1 tb.k1 m hr
        walk_at "txs"
        refine ⟨roomsT f l, rfl, rp, fun z => by omega, fun _ p5 H5 n5 e5 f5 => ?_⟩
        obtain ⟨Z5, H5', eH, t5, f5'⟩ : ∃ Z5 H5', H5' = H5 ∧ T [] Z4 H4 Z5 H5' ∧ Z5 p5 = some (.tup [.int (roomsT f l - 1), .int (roomsT f l - 1 - whole (roomsT f l - 1))]) := ⟨_, H5, rfl, T.ofNew t4.zh n5 e5 f5, upd_same⟩
        rw [← eH]
        clear eH f5 e5
        walk_at "txs"
        refine s_gt2 (by walk_at "st") ?_
        walk_at "txs"
        rename_i p6 Z6 H6 n6 t6 f6
        refine q5 _ Z6 H6 ((tt.step t5 mm_nil).step t6 mm_nil) ((tb4.tt t5 nm_nil).tt t6 nm_nil) ?_
        unfold DropTold
        rw [if_neg hr]
        exact ⟨p6, p3, rfl, tt.nn (t5.nn n6), t1.nn (t2.nn n3), f6, (lm4.tt t5 nm_nil).tt t6 nm_nil⟩

/-! ### looked -/
noncomputable def sp_looked (K : PySem.W.Frag) : Sp := fun vs H Q _ => ∃ (a : Addr) (rs : List (List Int)) (key : Int), vs = [.ref a, .int key] ∧ Is K H (.ref a) rs ∧
  ∀ (p : Addr) (H' : Hp), H p = none → Ex H H' → H' p = some (.tup [.bl (lookedI rs key 0).1, .int (lookedI rs key 0).2]) → Q (.ref p) H'
theorem has_looked (z : Z K mg) (F : FunAt K mg "looked" s_looked ["rows", "key"])  : Has P w K mg base "looked" 1 (sp_looked K) := by
  refine has_of F sc_looked (fun vs H Q E h => ?_) (fun f cdv A outer s H vs Q E hr h => ?_)
  · obtain ⟨a, rs, key, rfl, _⟩ := h
    rfl
  · obtain ⟨a, rs, key, rfl, ha, q⟩ := h
    refine ⟨_, (pss_cons (ps_set (i := 2) sc_looked.nd rfl (by first | exact Or.inl rfl | exact Or.inr rfl) pe_int)
        (pss_cons (ps_for PassesOwn.never rfl (piL (K := K) rfl (pv 0)) (pg_name (i := 3) sc_looked.nd rfl (by first | exact Or.inl rfl | exact Or.inr rfl)) (pss_cons (ps_aug (i := 2) sc_looked.nd rfl (by first | exact Or.inl rfl | exact Or.inr rfl) pe_int ip_add)
        (pss_one (ps_if (PW.pt (pw_and (pt_cmpR (neA (K := K) rfl hr.units) (pv 3) (pe_lst pa_nil) (nomark _)) (pw_and1 (pt_cmpR op_ge (pe_ix (ixA (K := K) rfl) (pv 3) (pe_un un_neg pe_int) (fun _ _ => rfl)) (pv 1) (nomark _))))) (pss_one (ps_ret (pe_tup (pa_cons (pe_cmpR (inA (K := K) rfl) (pv 1) (pv 3) (by rfl)) (pa_cons (pv 2) pa_nil))))) pss_nil))))
        (pss_one (ps_ret (pe_tup (pa_cons pe_bl (pa_cons (pv 2) pa_nil))))))), ?_⟩
    walk_at "cx"
    walk_at "ss"
    obtain ⟨b, vs, e, h1, h2⟩ := ha.list
    cases e
    refine u_forL (fun j σ H' => ∃ y, σ = [some (.ref a), some (.int key), some (.int (j : Int)), y] ∧ Ex H H' ∧ lookedI rs key 0 = lookedI (rs.drop j) key j) h1 ⟨_, rfl, Ex.refl _, rfl⟩ (fun j σ H' _ hh => ?_) (fun j v σ H' hx hh => ?_) (fun σ H' hh => ?_)
    · obtain ⟨_, _, e9, _⟩ := hh
      exact e9.sq h1
    · obtain ⟨y, rfl, e3, el⟩ := hh
      obtain ⟨r, hr', hv⟩ := item_of h2 hx
      obtain ⟨a3, rfl, s3⟩ := hv.ints_of
      have s4 := e3.sq s3
      have jl := (List.getElem?_eq_some_iff.mp hr').1
      have ed : rs.drop j = r :: rs.drop (j + 1) := by
        rw [List.drop_eq_getElem_cons jl]
        congr 1
        exact (List.getElem?_eq_some_iff.mp hr').2
      rw [ed] at el
      walk_at "ss"
      rename_i p4 H4 n4 e4 f4
      have s5 := e4.sq s4
      walk_at "ss"
      refine i_d (fun hd => ?_) (fun hd => ?_)
      · obtain ⟨w, w1, w2⟩ := atI_last1 hd
        walk_at "ss"
        refine s_ixL s5 (v := .int w) ?_ ?_
        · obtain ⟨l, x, rfl⟩ : ∃ l x, r = l ++ [x] := ⟨r.dropLast, r.getLast hd, (List.dropLast_concat_getLast hd).symm⟩
          have e : w = x := by simpa using w2.symm
          rw [e, List.map_append]
          exact atI_last _ _
        have lg : lastGe r key = decide (key ≤ w) := by unfold lastGe; rw [w2]
        walk_at "ss"
        refine i_d (fun hd2 => ?_) (fun hd2 => ?_)
        · walk_at "ss"
          rename_i p5 H5 n5 e5 f5
          refine q p5 H5 (Ex.back (e3.trans e4) n5) ((e3.trans e4).trans e5) ?_
          rw [f5, el]
          unfold lookedI
          rw [if_pos (by rw [lg]; exact decide_eq_true hd2)]
        · walk_at "ss"
          refine ⟨_, rfl, e3.trans e4, ?_⟩
          rw [el]
          show (if _ then _ else _) = _
          rw [if_neg (by rw [lg]; exact fun z => hd2 (of_decide_eq_true z))]
      · walk_at "ss"
        refine ⟨_, rfl, e3.trans e4, ?_⟩
        rw [el, Decidable.not_not.mp hd]
        rfl
    · obtain ⟨y, rfl, e3, el⟩ := hh
      rw [Paired.length h2, List.drop_length] at el
      walk_at "ss"
      rename_i p5 H5 n5 e5 f5
      refine q p5 H5 (Ex.back e3 n5) (e3.trans e5) ?_
      rw [f5, el, Paired.length h2]
      rfl

/-! ### rows_for -/
noncomputable def sp_rows_for (K : PySem.W.Frag) : Sp := fun vs H Q _ => ∃ m w : Int, vs = [.int m, .int w] ∧ 0 < w ∧ w < 4611686018427387904 ∧ Q (.int (rowsI m w)) H
theorem has_rows_for (z : Z K mg) (F : FunAt K mg "rows_for" s_rows_for ["many", "wide"])  : Has P w K mg base "rows_for" 1 (sp_rows_for K) := by
  refine has_of F sc_rows_for (fun vs H Q E h => ?_) (fun f cdv A outer s H vs Q E hr h => ?_)
  · obtain ⟨m, w, rfl, _⟩ := h
    rfl
  · obtain ⟨m, w, rfl, w0, w1, q⟩ := h
    refine ⟨_, (pss_one (ps_ret (pe_callB (id := "max") (call_max2A rfl) (by rfl) z.b_max (by decide +kernel) (pa_cons pe_int (pa_cons (pe_op op_fdivW (pe_op op_sub (pe_op op_plusA (pv 0) (pv 1)) pe_int) (pv 1)) pa_nil))))), ?_⟩
    walk_at "cx"
    walk_at "ss"
    exact q

/-! ### rows_of -/
noncomputable def sp_rows_of (K : PySem.W.Frag) : Sp := fun vs H Q _ => ∃ (a : Addr) (ks : List Int) (w : Int), vs = [.ref a, .int w] ∧ SqL K H a (ks.map V.int) ∧ ks.length ≤ 30000 ∧ 0 < w ∧ w ≤ 4611686018427387904 - 1 ∧
  ∀ p qs H', Ex H H' → RW K H H' p qs (rowsOf ks w) → Q (.ref p) H'
theorem has_rows_of (z : Z K mg) (F : FunAt K mg "rows_of" s_rows_of ["keys", "wide"]) (h_rows_for : Has P w K mg base "rows_for" 1 (sp_rows_for K)) : Has P w K mg base "rows_of" 2 (sp_rows_of K) := by
  refine has_of F sc_rows_of (fun vs H Q E h => ?_) (fun f cdv A outer s H vs Q E hr h => ?_)
  · obtain ⟨a, ks, w, rfl, _⟩ := h
    rfl
  · obtain ⟨a, ks, w, rfl, hs, hl, w0, w1, q⟩ := h
    refine ⟨_, (pss_cons (ps_set (i := 2) sc_rows_of.nd rfl (by first | exact Or.inl rfl | exact Or.inr rfl) (pe_callB (id := "sorted") (sortA (K := K) rfl) (by rfl) z.b_sorted (by decide +kernel) (pa_cons (pv 0) pa_nil)))
        (pss_cons (ps_set (i := 3) sc_rows_of.nd rfl (by first | exact Or.inl rfl | exact Or.inr rfl) (pe_lst pa_nil))
        (pss_cons (ps_for PassesOwn.never rfl (pi_range1 (by rfl) z.b_range (pa_cons (pe_callH h_rows_for (by decide) hr rfl (pa_cons (pe_callB (id := "len") (lenA (K := K) rfl) (by rfl) z.b_len (by decide +kernel) (pa_cons (pv 2) pa_nil)) (pa_cons (pv 1) pa_nil))) pa_nil)) (pg_name (i := 4) sc_rows_of.nd rfl (by first | exact Or.inl rfl | exact Or.inr rfl)) (pss_one (ps_expr (pe_bm PySem.F.plainAttrs_list PySem.F.slot_list_append PySem.F.type_list_append mt_append (pv 3) (pa_cons (pe_slice (slA (K := K) rfl) (pv 2) (po_some (pe_op op_multA (pv 4) (pv 1))) (po_some (pe_op op_plusA (pe_op op_multA (pv 4) (pv 1)) (pv 1)))) pa_nil)))))
        (pss_one (ps_ret (pv 3)))))), ?_⟩
    walk_at "cx"
    walk_at "ss"
    rename_i p1 H1 n1 e1 f1 p2 H2 n2 e2 f2
    refine ⟨_, _, rfl, w0, by omega, ?_⟩
    have rl : rowsI ((sortI ks).length : Int) w ≤ 30001 := by
      have := (rowsI_facts (m := ((sortI ks).length : Int)) (by omega) w0).2.2.2.2
      have := sortI_len ks
      omega
    have rp := rowsI_pos ((sortI ks).length : Int) w
    walk_at "ss"
    have n20 : H p2 = none := Ex.back e1 n2
    refine u_forR1 (fun i σ H' => ∃ (y : Option V) (qs : List Addr), σ = [some (.ref a), some (.int w), some (.ref p1), some (.ref p2), y] ∧ Ex H H' ∧ H' p1 = some (.lst ((sortI ks).map V.int)) ∧ RW K H H' p2 qs ((List.range i).map (cutR ks w))) (by omega)
      ⟨_, [], rfl, e1.trans e2, e2 _ _ f1, ⟨f2, List.nodup_cons.mpr ⟨List.not_mem_nil, List.nodup_nil⟩, fun q hq => by rw [List.mem_singleton.mp hq]; exact n20, e1.trans e2, .nil⟩⟩ (fun i σ H' hi hh => ?_) (fun σ H' hh => ?_)
    · obtain ⟨y, qs, rfl, e3, f3, R⟩ := hh
      walk_at "ss"
      rename_i p4 H4 n4 e4 f4
      rw [cutV_ints] at f4
      refine n_appRW R e4 n4 f4 ints_pair (by rw [List.length_map, List.length_range]; omega) fun H5 m5 R5 => ?_
      walk_at "ss"
      refine ⟨_, qs ++ [p4], rfl, (e3.trans e4).exm n20 m5, m5 _ _ (show p1 ≠ p2 from ne_of_none f1 n2) (e4 _ _ f3), ?_⟩
      rw [List.range_succ, List.map_append]
      exact R5
    · obtain ⟨y, qs, rfl, e3, f3, R⟩ := hh
      walk_at "ss"
      rw [sortI_len] at R
      exact q p2 qs _ e3 R

/-! ### Table.looks -/
noncomputable abbrev sp_Table_looks (K : PySem.W.Frag) : Sp := spTLooks K
theorem has_Table_looks (z : Z K mg) (F : MethAt K "Table" "looks" "Table.looks" s_Table_looks ["self", "key"]) (h_looked : Has P w K mg base "looked" 1 (sp_looked K)) (h_rows_of : Has P w K mg base "rows_of" 2 (sp_rows_of K)) (h_room_of : Has P w K mg base "room_of" 2 (sp_room_of K)) (h_need_key : HasX P w K mg base "need_key" 3 (sp_need_key K)) (hm_Table_keys_in : HasM P w K mg base "Table" "keys_in" 3 (sp_Table_keys_in K)) (hm_Table_rooms : HasM P w K mg base "Table" "rooms" 2 (sp_Table_rooms K)) : HasM P w K mg base "Table" "looks" 4 (sp_Table_looks K) := by
  refine has_ofM F sc_Table_looks (fun vs H Q E h => ?_) (fun f cdv A outer s H vs Q E hr h => ?_)
  · obtain ⟨_, _, _, _, _, _, _, _, rfl, _⟩ := h
    rfl
  · obtain ⟨a, D, w, f, l, Z, v, n, rfl, tb, kv, q1, q2⟩ := h
    refine ⟨_, (pss_cons (ps_expr (pe_callX (pxT (takes_of rfl rfl rfl rfl)) h_need_key (by decide) hr rfl (pa_cons (pv 1) pa_nil)))
        (pss_one (ps_ret (pe_callH h_looked (by decide) hr rfl (pa_cons (pe_callH h_rows_of (by decide) hr rfl (pa_cons (pe_methK (K := K) rfl (pxT (takes_of rfl rfl rfl rfl)) z.k_Table hm_Table_keys_in (by decide) hr (pv 0) (pa_cons (pe_callH h_room_of (by decide) hr rfl (pa_cons (pv 1) (pa_cons (pe_methK0 (K := K) rfl (pxT (takes_of rfl rfl rfl rfl)) z.k_Table hm_Table_rooms (by decide) hr (pv 0)) pa_nil))) pa_nil)) (pa_cons (pe_fldK (K := K) rfl (pv 0) rfl) pa_nil))) (pa_cons (pv 1) pa_nil)))))), ?_⟩
    walk_at "cx"
    obtain ⟨dx, ha⟩ := tb.at_
    have z0 : Ex Z H := tb.dm.zh
    have dm := tb.dm
    have f0 := tb.f0
    have w0 := tb.w0
    have le := tb.le
    have rp := roomsT_pos (l := l) f0.1
    walk_at "txs"
    refine ⟨v, n, rfl, kv, fun c1 => ?_, fun c1 => q1 c1⟩
    obtain ⟨k, rfl, k0, k60⟩ := key_int c1
    have q3 := q2 k rfl c1
    walk_at "txs"
    refine ⟨a, D, w, f, l, Z, rfl, tb, ?_⟩
    walk_at "txs"
    refine ⟨_, _, rfl, rp, ?_⟩
    walk_at "txs"
    have kl := keysT_len (f := f) (l := l) (r := roomOf k (roomsT f l))
    refine ⟨a, D, w, f, _, l, Z, rfl, tb, fun p1 Z1 H1 n1 t1 tb1 lm1 => ?_⟩
    have ha1 := t1.z _ _ ha
    walk_at "txs"
    refine ⟨p1, _, w, rfl, sq_of lm1.ints, by omega, by omega, by omega, fun p2 qs H2 e2 rw2 => ?_⟩
    obtain ⟨Z2, t2, ls2⟩ := rwT t1.zh e2 rw2
    have tb2 := tb1.tt t2 nm_nil
    walk_at "txs"
    refine ⟨p2, _, k, rfl, (Ik.ex t2.zh ls2.is).is, fun p3 H3 n3 e3 f3 => ?_⟩
    have t3 : T [] Z2 H2 _ H3 := T.ofNew t2.zh n3 e3 f3
    exact q3 p3 _ H3 (t1.nn (t2.nn n3)) ((t1.step t2 mm_nil).step t3 mm_nil) (tb2.tt t3 nm_nil) upd_same

/-! ### Table.find -/
noncomputable abbrev sp_Table_find (K : PySem.W.Frag) : Sp := spTFind K
theorem has_Table_find (z : Z K mg) (F : MethAt K "Table" "find" "Table.find" s_Table_find ["self", "key"]) (hm_Table_looks : HasM P w K mg base "Table" "looks" 4 (sp_Table_looks K)) (hm_Table_need_standing : HasM P w K mg base "Table" "need_standing" 4 (sp_Table_need_standing K)) : HasM P w K mg base "Table" "find" 5 (sp_Table_find K) := by
  refine has_ofM F sc_Table_find (fun vs H Q E h => ?_) (fun f cdv A outer s H vs Q E hr h => ?_)
  · obtain ⟨_, _, _, _, _, _, _, _, rfl, _⟩ := h
    rfl
  · obtain ⟨a, D, w, f, l, Z, v, n, rfl, tb, kv, q1, q2⟩ := h
    refine ⟨_, (pss_cons (ps_expr (pe_methK (K := K) rfl (pxT (takes_of rfl rfl rfl rfl)) z.k_Table hm_Table_need_standing (by decide) hr (pv 0) (pa_cons (pv 1) pa_nil)))
        (pss_one (ps_ret (pe_tup (pa_cons (pe_dget (hu_of hr) (pe_fldK (K := K) rfl (pv 0) rfl) (pv 1) (fun _ _ => rfl)) (pa_cons (pe_ix (ixA (K := K) rfl) (pe_methK (K := K) rfl (pxT (takes_of rfl rfl rfl rfl)) z.k_Table hm_Table_looks (by decide) hr (pv 0) (pa_cons (pv 1) pa_nil)) pe_int (fun _ _ => rfl)) pa_nil)))))), ?_⟩
    walk_at "cx"
    obtain ⟨dx, ha⟩ := tb.at_
    have z0 : Ex Z H := tb.dm.zh
    have dm := tb.dm
    walk_at "txs"
    refine ⟨a, D, w, f, l, Z, v, n, rfl, tb, kv, q1, fun k ev c1 => ?_⟩
    subst ev
    obtain ⟨q3, q4⟩ := q2 k rfl c1
    refine ⟨q3, fun m => ?_⟩
    obtain ⟨t, ht⟩ := keys_of_mem m
    have q5 := q4 t ht
    walk_at "txs"
    refine t_dix dm.h ht ?_
    walk_at "txs"
    refine tb_looks tb (tb.ks _ (thing_in ht)) fun p1 Z1 H1 n1 t1 tb1 f1 => ?_
    have z1 := t1.zh
    walk_at "txs"
    rename_i p2 Z2 H2 n2 t2 f2
    exact q5 p2 Z2 H2 (t1.nn n2) (t1.step t2 mm_nil) (tb1.tt t2 nm_nil) f2

/-! ### NoRoom.__init__ -/
theorem has_NoRoom___init (z : Z K mg) (T : ExF K mg "NoRoom" "number") (F : ExAt K "NoRoom" "NoRoom.__init__" s_NoRoom___init ["self", "number"]) : HasE P w K mg base "NoRoom" "number" 1 := by
  refine has_ofE T F sc_NoRoom___init (fun vs H Q E h => ?_) (fun f cdv A outer s H vs Q E hr h => ?_)
  · obtain ⟨_, _, _, rfl, _⟩ := h
    rfl
  · obtain ⟨a, C, v, rfl, o, n, ha, q⟩ := h
    refine ⟨_, (pss_cons (ps_expr (pe_teinit z.t_TailError rfl (pa_cons (pv 0) (pa_cons pe_str pa_nil))))
        (pss_one (ps_ost (pv 0) (pv 1)))), ?_⟩
    walk_at "cx"
    walk_at "ss"
    refine s_ve ?_
    walk_at "ss"
    refine n_ve o ha (by show 1 ≤ 1000; decide) ?_
    walk_at "ss"
    refine s_os ?_
    walk_at "ss"
    exact n_os o n ha q

/-! ### Table.room -/
noncomputable abbrev sp_Table_room (K : PySem.W.Frag) : Sp := spTRoom K
theorem has_Table_room (z : Z K mg) (F : MethAt K "Table" "room" "Table.room" s_Table_room ["self", "number"]) (h_rows_of : Has P w K mg base "rows_of" 2 (sp_rows_of K)) (h_is_whole : Has P w K mg base "is_whole" 1 (sp_is_whole K)) (hm_Table_keys_in : HasM P w K mg base "Table" "keys_in" 3 (sp_Table_keys_in K)) (hm_Table_rooms : HasM P w K mg base "Table" "rooms" 2 (sp_Table_rooms K)) (e_NoRoom : HasE P w K mg base "NoRoom" "number" 1) : HasM P w K mg base "Table" "room" 4 (sp_Table_room K) := by
  refine has_ofM F sc_Table_room (fun vs H Q E h => ?_) (fun f cdv A outer s H vs Q E hr h => ?_)
  · obtain ⟨_, _, _, _, _, _, _, _, rfl, _⟩ := h
    rfl
  · obtain ⟨a, D, w, f, l, Z, v, n, rfl, tb, kv, q1, q2⟩ := h
    refine ⟨_, (pss_cons (ps_if (PW.pt (pw_or (pt_not (pt_val (pe_callH h_is_whole (by decide) hr rfl (pa_cons (pv 1) pa_nil)))) (pw_or1 (pt_not (pt_chain op_le op_lt pe_int (pv 1) (pe_methK0 (K := K) rfl (pxT (takes_of rfl rfl rfl rfl)) z.k_Table hm_Table_rooms (by decide) hr (pv 0))))))) (pss_one (ps_raiseX (takes_of rfl rfl rfl rfl) e_NoRoom (Nat.le_refl _) (hr.mono (by decide)) rfl rfl (pa_cons (pv 1) pa_nil))) pss_nil)
        (pss_cons (ps_set (i := 2) sc_Table_room.nd rfl (by first | exact Or.inl rfl | exact Or.inr rfl) (pe_callH h_rows_of (by decide) hr rfl (pa_cons (pe_methK (K := K) rfl (pxT (takes_of rfl rfl rfl rfl)) z.k_Table hm_Table_keys_in (by decide) hr (pv 0) (pa_cons (pv 1) pa_nil)) (pa_cons (pe_fldK (K := K) rfl (pv 0) rfl) pa_nil))))
        (pss_one (ps_ret (pe_lc (own := [("row", 3)]) (g := gName 3) (tt := tYes) rfl sc_Table_room.nd (piL (K := K) rfl (pv 2)) (blkOk_by (own := [("row", 3)]) (N := ["self", "number", "rows", "row", "key"]) (sc := defScope s_Table_room) (by decide +kernel)) (fun _ _ _ _ _ => (pg_name (i := 3) sc_Table_room.nd rfl (by first | exact Or.inl rfl | exact Or.inr rfl))) (fun _ _ _ _ _ => pts_nil) (fun _ _ _ _ _ => (pe_lc (own := [("key", 4)]) (g := gName 4) (tt := tYes) rfl sc_Table_room.nd (piL (K := K) rfl (pv 3)) (blkOk_by (own := [("key", 4)]) (N := ["self", "number", "rows", "row", "key"]) (by rfl)) (fun _ _ _ _ _ => (pg_name (i := 4) sc_Table_room.nd rfl (by first | exact Or.inl rfl | exact Or.inr rfl))) (fun _ _ _ _ _ => pts_nil) (fun _ _ _ _ _ => (pe_tup (pa_cons (pv 4) (pa_cons (pe_dget (hu_of hr) (pe_fldK (K := K) rfl (pv 0) rfl) (pv 4) (fun _ _ => rfl)) pa_nil))))))))))), ?_⟩
    walk_at "cx"
    obtain ⟨dx, ha⟩ := tb.at_
    have z0 : Ex Z H := tb.dm.zh
    have dm := tb.dm
    have f0 := tb.f0
    have le := tb.le
    have rp := roomsT_pos (l := l) f0.1
    walk_at "txs"
    refine ⟨v, n, rfl, kv, ?_⟩
    refine kv.cases' (fun i e => ?_) (fun e => ?_)
    · subst e
      rw [show wholeV (V.int i) = true from rfl]
      walk_at "txs"
      refine i_d (fun h0 => ?_) (fun h0 => ?_)
      · walk_at "txs"
        refine ⟨a, D, w, f, l, Z, rfl, tb, ?_⟩
        walk_at "txs"
        refine i_n (fun h1 => ?_) (fun h1 => ?_)
        · walk_at "txs"
          exact q1 (fun r er => by cases er; omega) _ (by assumption)
        · have w0 := tb.w0
          have kl := keysT_len (f := f) (l := l) (r := i)
          walk_at "txs"
          refine ⟨a, D, w, f, i, l, Z, rfl, tb, fun p1 Z1 H1 n1 t1 tb1 lm1 => ?_⟩
          have ha1 := t1.z _ _ ha
          walk_at "txs"
          refine ⟨p1, keysT_ f l i, w, rfl, sq_of lm1.ints, by omega, by omega, by omega, fun p2 qs H2 e2 rw2 => ?_⟩
          obtain ⟨Z2, t2, ls2⟩ := rwT t1.zh e2 rw2
          have tb2 := tb1.tt t2 nm_nil
          have rfl2 : ((rowsOf (keysT_ f l i) w).flatten) = sortI (keysT_ f l i) := by
            have := rowsOf_flat (keysT_ f l i) (w := w) (by omega) (rowsI (keysT_ f l i).length w).toNat 0 (by omega)
            simpa using this
          have rlen : (rowsOf (keysT_ f l i) w).length ≤ 1000 := by
            rw [rowsOf_len]
            obtain ⟨r1, r2, r3, r4⟩ := rowsI_facts (m := ((keysT_ f l i).length : Int)) (w := w) (by omega) (by omega)
            have : 1 * rowsI (keysT_ f l i).length w ≤ w * rowsI (keysT_ f l i).length w := Int.mul_le_mul_of_nonneg_right w0.1 (by unfold rowsI; omega)
            rw [Int.mul_comm w] at this
            omega
          walk_at "txs"
          refine c_rowsM (fun ks : List Int => ks.map (entOf l)) t2.zh ls2.is (by omega) (fun j v ks hks iv Z3 H3 t3 A hA => ?_) (fun D4 ws4 Z4 H4 t4 nd4 nw4 f4 pr4 => ?_)
          · obtain ⟨b, rfl, _⟩ := iv.ints_of
            have tb3 := tb2.tt t3 nm_nil
            have iv3 := Ik.tt t3 iv
            have kin : ∀ k ∈ ks, k ∈ l.map Prod.fst := fun k hk => by
              have : k ∈ (rowsOf (keysT_ f l i) w).flatten := List.mem_flatten.mpr ⟨ks, List.mem_of_getElem? hks, hk⟩
              rw [rfl2, sortI_mem] at this
              exact (keysT_mem.mp this).1
            have ksl : ks.length ≤ 1000 := by
              have h1 := (List.sublist_flatten_of_mem (List.mem_of_getElem? hks)).length_le
              rw [rfl2, sortI_len] at h1
              omega
            walk_at "txs"
            refine c_mapL (entOf l) t3.zh iv3 (by omega) (fun j2 v2 k hk iv2 Z5 H5 t5 B hB => ?_) (fun D6 Z6 H6 n6 t6 ls6 => ?_)
            · obtain rfl := iv2.int_of
              have tb5 := tb3.tt t5 nm_nil
              obtain ⟨dx5, ha5⟩ := tb5.at_
              obtain ⟨t, ht⟩ : ∃ t, thingOf l k = some t := by
                cases c : thingOf l k with
                | none => exact absurd (kin k (List.mem_of_getElem? hk)) (thing_none.mp c)
                | some t => exact ⟨t, rfl⟩
              have z5 := t5.zh
              walk_at "txs"
              refine t_dix tb5.dm.h ht ?_
              walk_at "txs"
              rename_i p7 Z7 H7 n7 t7 f7
              refine hB _ Z7 H7 t7 ?_
              have : entOf l k = (k, t) := by
                unfold entOf
                rw [ht]
                rfl
              rw [this]
              exact Ik.pair f7 (Ik.int _) (Ik.tx _)
            · exact hA _ Z6 H6 n6 t6 ls6
          · walk_at "txs"
            exact q2 i rfl ⟨h0, h1⟩ D4 ws4 Z4 H4 ((t1.step t2 mm_nil).step t4 mm_nil) (tb2.tt t4 nm_nil) nd4 (fun b hb => (t1.step t2 mm_nil).nn (nw4 b hb)) f4 (rows_pair pr4)
      · walk_at "txs"
        exact q1 (fun r er => by cases er; omega) _ (by assumption)
    · rw [e]
      walk_at "txs"
      exact q1 (fun r er => by rw [er] at e; cases e) _ (by assumption)

/-! ### _law_done -/
noncomputable abbrev sp_law_done (K : PySem.W.Frag) : Sp := spDone37 K
theorem has_law_done (z : Z K mg) (F : FunAt K mg "_law_done" s_law_done ["_law_table", "_law_way", "_law_key_here", "_law_thing_here"]) (h_law_kinds : HasV P w K mg base "_law_kinds" 1 (sp_law_kinds K)) (hm_Table_put : HasM P w K mg base "Table" "put" 4 (sp_Table_put K)) (hm_Table_drop : HasM P w K mg base "Table" "drop" 5 (sp_Table_drop K)) (hm_Table_find : HasM P w K mg base "Table" "find" 5 (sp_Table_find K)) (hm_Table_looks : HasM P w K mg base "Table" "looks" 4 (sp_Table_looks K)) (hm_Table_room : HasM P w K mg base "Table" "room" 4 (sp_Table_room K)) : Has P w K mg base "_law_done" 6 (sp_law_done K) := by
  refine has_of F sc_law_done (fun vs H Q E h => ?_) (fun f cdv A outer s H vs Q E hr h => ?_)
  · obtain ⟨_, _, _, _, _, _, _, _, _, _, _, rfl, _⟩ := h
    rfl
  · obtain ⟨a, D, w, f, way, l, Z, v, t, n, m, rfl, tb, kv, kt, y0, y4, qw, qr, q0, q1⟩ := h
    refine ⟨_, (pss_cons (ps_try_cls (Wout := fun _ _ _ _ => False) rfl rfl sc_law_done.nd takes0 (fun W pn xe tk pq => (pss_one (ps_if (pt_cmpR (eqA (K := K) rfl hr.units) (pv 1) pe_int (nomark _)) (pss_one (ps_expr (pe_methK (K := K) rfl (pxT tk) z.k_Table hm_Table_put (by decide) hr (pv 0) (pa_cons (pv 2) (pa_cons (pv 3) pa_nil))))) (pss_one (ps_if (pt_cmpR (eqA (K := K) rfl hr.units) (pv 1) pe_int (nomark _)) (pss_one (ps_expr (pe_methK (K := K) rfl (pxT tk) z.k_Table hm_Table_drop (by decide) hr (pv 0) (pa_cons (pv 2) pa_nil)))) (pss_one (ps_if (pt_cmpR (eqA (K := K) rfl hr.units) (pv 1) pe_int (nomark _)) (pss_one (ps_expr (pe_methK (K := K) rfl (pxT tk) z.k_Table hm_Table_find (by decide) hr (pv 0) (pa_cons (pv 2) pa_nil)))) (pss_one (ps_if (pt_cmpR (eqA (K := K) rfl hr.units) (pv 1) pe_int (nomark _)) (pss_one (ps_expr (pe_methK (K := K) rfl (pxT tk) z.k_Table hm_Table_looks (by decide) hr (pv 0) (pa_cons (pv 2) pa_nil)))) (pss_one (ps_expr (pe_methK (K := K) rfl (pxT tk) z.k_Table hm_Table_room (by decide) hr (pv 0) (pa_cons (pv 2) pa_nil))))))))))))) (ClsOk.cons (ClOk.named (i := 4) ⟨rfl, by decide, Or.inl z.g_NoThing⟩ rfl rfl (fun a oe cls d pn hz hf => (pss_one (ps_ret (pe_tup (pa_cons (pe_callSx hz hf h_law_kinds hr (by decide) rfl (pv 4)) (pa_cons (pe_xf z.x_NoThing z.xn_NoThing_thing hz hf (pv 4)) pa_nil))))))) (ClsOk.cons (ClOk.named (i := 4) ⟨rfl, by decide, Or.inl z.g_Full⟩ rfl rfl (fun a oe cls d pn hz hf => (pss_one (ps_ret (pe_tup (pa_cons (pe_callSx hz hf h_law_kinds hr (by decide) rfl (pv 4)) (pa_cons (pe_xf z.x_Full z.xn_Full_many hz hf (pv 4)) pa_nil))))))) (ClsOk.cons (ClOk.named (i := 4) ⟨rfl, by decide, Or.inl z.g_NoRoom⟩ rfl rfl (fun a oe cls d pn hz hf => (pss_one (ps_ret (pe_tup (pa_cons (pe_callSx hz hf h_law_kinds hr (by decide) rfl (pv 4)) (pa_cons (pe_xf z.x_NoRoom z.xn_NoRoom_number hz hf (pv 4)) pa_nil))))))) (ClsOk.cons (ClOk.named (i := 4) ⟨rfl, by decide, Or.inl z.g_NoKey⟩ rfl rfl (fun a oe cls d pn hz hf => (pss_one (ps_ret (pe_tup (pa_cons (pe_callSx hz hf h_law_kinds hr (by decide) rfl (pv 4)) (pa_cons (pe_xf z.x_NoKey z.xn_NoKey_key hz hf (pv 4)) pa_nil))))))) (ClsOk.cons (ClOk.named (i := 4) ⟨rfl, by decide, Or.inl z.g_Lacking⟩ rfl rfl (fun a oe cls d pn hz hf => (pss_one (ps_ret (pe_tup (pa_cons (pe_callSx hz hf h_law_kinds hr (by decide) rfl (pv 4)) (pa_cons (pe_xf z.x_Lacking z.xn_Lacking_key hz hf (pv 4)) pa_nil))))))) (ClsOk.cons (ClOk.plain ⟨rfl, by decide, Or.inl z.g_TailError⟩ (fun a oe cls d pn hz hf => (pss_one (ps_ret (pe_tup (pa_cons pe_str (pa_cons pe_non pa_nil))))))) ClsOk.nil)))))))
        (pss_one (ps_ret (pe_tup (pa_cons pe_str (pa_cons pe_non pa_nil)))))), ?_⟩
    walk_at "cx"
    have z0 : Ex Z H := tb.dm.zh
    obtain ⟨dx, ha⟩ := tb.at_
    have TT : T [D] Z H Z H := T.refl z0
    have TB := tb
    have hw : way = 0 ∨ way = 1 ∨ way = 2 ∨ way = 3 ∨ way = 4 := by omega
    rcases hw with rfl | rfl | rfl | rfl | rfl
    · clear qw q1
      walk_at "tls"
      refine ⟨a, D, w, f, l, Z, v, t, n, m, rfl, tb, kv, kt, fun c d hd => ?_, fun c1 c d hd => ?_, fun k x ev et c1 c2 => ⟨fun h1 h2 d hd => ?_, fun hl r Z2 H2 t2 tb2 told => ?_⟩⟩
      · refine n_asNo z.m_NoKey_NoThing ?_
        refine n_asNo z.m_NoKey_Full ?_
        refine n_asNo z.m_NoKey_NoRoom ?_
        refine n_as z.m_NoKey_NoKey fun ea na => ?_
        have fd : (upd H d (HO.xd [("key", v)])) d = some (.xd [("key", v)]) := upd_same
        have tA : T [] Z H _ _ := T.new (o := HO.xd [("key", v)]) hd z0
        have z9 := tA.zh
        walk_at "tls"
        refine s_Sx ?_
        walk_at "tls"
        refine n_Sx ⟨d, _, "NoKey", "key", rfl, rfl, fd, .inl ⟨rfl, rfl⟩, fun HB eB => ?_⟩
        have tB := (T.ofEx (M := []) eB tA.zh)
        have fd2 := eB _ _ fd
        have zB := tB.zh
        walk_at "tls"
        rename_i p1 Z1 H1 n1 t1 f1
        exact qr "key" v (.inl ⟨by decide, c, rfl, rfl⟩) p1 Z1 H1 (((TT.step tA mm_nil).step tB mm_nil).step t1 mm_nil) (((TB.tt tA nm_nil).tt tB nm_nil).tt t1 nm_nil) f1
      · refine n_as z.m_NoThing_NoThing fun ea na => ?_
        have fd : (upd H d (HO.xd [("thing", t)])) d = some (.xd [("thing", t)]) := upd_same
        have tA : T [] Z H _ _ := T.new (o := HO.xd [("thing", t)]) hd z0
        have z9 := tA.zh
        walk_at "tls"
        refine s_Sx ?_
        walk_at "tls"
        refine n_Sx ⟨d, _, "NoThing", "thing", rfl, rfl, fd, .inr (.inl ⟨rfl, rfl⟩), fun HB eB => ?_⟩
        have tB := (T.ofEx (M := []) eB tA.zh)
        have fd2 := eB _ _ fd
        have zB := tB.zh
        walk_at "tls"
        rename_i p1 Z1 H1 n1 t1 f1
        exact qr "thing" t (.inr (.inl ⟨rfl, c1, c, rfl, rfl⟩)) p1 Z1 H1 (((TT.step tA mm_nil).step tB mm_nil).step t1 mm_nil) (((TB.tt tA nm_nil).tt tB nm_nil).tt t1 nm_nil) f1
      · refine n_asNo z.m_Full_NoThing ?_
        refine n_as z.m_Full_Full fun ea na => ?_
        have fd : (upd H d (HO.xd [("many", (.int 64))])) d = some (.xd [("many", (.int 64))]) := upd_same
        have tA : T [] Z H _ _ := T.new (o := HO.xd [("many", (.int 64))]) hd z0
        have z9 := tA.zh
        walk_at "tls"
        refine s_Sx ?_
        walk_at "tls"
        refine n_Sx ⟨d, _, "Full", "full", rfl, rfl, fd, .inr (.inr (.inl ⟨rfl, rfl⟩)), fun HB eB => ?_⟩
        have tB := (T.ofEx (M := []) eB tA.zh)
        have fd2 := eB _ _ fd
        have zB := tB.zh
        walk_at "tls"
        rename_i p1 Z1 H1 n1 t1 f1
        exact qr "full" (.int 64) (.inr (.inr (.inl ⟨rfl, ⟨k, ev, c1, c2, h1, h2⟩, rfl, rfl⟩))) p1 Z1 H1 (((TT.step tA mm_nil).step tB mm_nil).step t1 mm_nil) (((TB.tt tA nm_nil).tt tB nm_nil).tt t1 nm_nil) f1
      · have z2 := t2.zh
        walk_at "tls"
        rename_i p1 Z1 H1 n1 t1 f1
        exact q0 rfl k x ev et c1 c2 hl p1 Z1 H1 (t2.step t1 mm_nil) (tb2.tt t1 nm_nil) f1
    · clear qw q0
      walk_at "tls"
      refine ⟨a, D, w, f, l, Z, v, n, rfl, tb, kv, fun c d hd => ?_, fun k ev c1 => ⟨fun h1 d hd => ?_, fun h1 r Z2 H2 t2 tb2 told => ?_⟩⟩
      · refine n_asNo z.m_NoKey_NoThing ?_
        refine n_asNo z.m_NoKey_Full ?_
        refine n_asNo z.m_NoKey_NoRoom ?_
        refine n_as z.m_NoKey_NoKey fun ea na => ?_
        have fd : (upd H d (HO.xd [("key", v)])) d = some (.xd [("key", v)]) := upd_same
        have tA : T [] Z H _ _ := T.new (o := HO.xd [("key", v)]) hd z0
        have z9 := tA.zh
        walk_at "tls"
        refine s_Sx ?_
        walk_at "tls"
        refine n_Sx ⟨d, _, "NoKey", "key", rfl, rfl, fd, .inl ⟨rfl, rfl⟩, fun HB eB => ?_⟩
        have tB := (T.ofEx (M := []) eB tA.zh)
        have fd2 := eB _ _ fd
        have zB := tB.zh
        walk_at "tls"
        rename_i p1 Z1 H1 n1 t1 f1
        exact qr "key" v (.inl ⟨by decide, c, rfl, rfl⟩) p1 Z1 H1 (((TT.step tA mm_nil).step tB mm_nil).step t1 mm_nil) (((TB.tt tA nm_nil).tt tB nm_nil).tt t1 nm_nil) f1
      · refine n_asNo z.m_Lacking_NoThing ?_
        refine n_asNo z.m_Lacking_Full ?_
        refine n_asNo z.m_Lacking_NoRoom ?_
        refine n_asNo z.m_Lacking_NoKey ?_
        refine n_as z.m_Lacking_Lacking fun ea na => ?_
        have fd : (upd H d (HO.xd [("key", v)])) d = some (.xd [("key", v)]) := upd_same
        have tA : T [] Z H _ _ := T.new (o := HO.xd [("key", v)]) hd z0
        have z9 := tA.zh
        walk_at "tls"
        refine s_Sx ?_
        walk_at "tls"
        refine n_Sx ⟨d, _, "Lacking", "lacking", rfl, rfl, fd, .inr (.inr (.inr (.inl ⟨rfl, rfl⟩))), fun HB eB => ?_⟩
        have tB := (T.ofEx (M := []) eB tA.zh)
        have fd2 := eB _ _ fd
        have zB := tB.zh
        walk_at "tls"
        rename_i p1 Z1 H1 n1 t1 f1
        exact qr "lacking" v (.inr (.inr (.inr (.inl ⟨.inl rfl, ⟨k, ev, c1, h1⟩, rfl, rfl⟩)))) p1 Z1 H1 (((TT.step tA mm_nil).step tB mm_nil).step t1 mm_nil) (((TB.tt tA nm_nil).tt tB nm_nil).tt t1 nm_nil) f1
      · have z2 := t2.zh
        walk_at "tls"
        rename_i p1 Z1 H1 n1 t1 f1
        exact q1 rfl k ev h1 p1 Z1 H1 (t2.step t1 mm_nil) (tb2.tt t1 nm_nil) f1
    · clear q0 q1
      obtain ⟨word, o, hr0⟩ := qw (by decide)
      have h2 : keyV v = false ∨ ∃ k, v = .int k ∧ keyV v = true ∧ k ∉ l.map Prod.fst := by
        rcases hr0 with ⟨_, c, _⟩ | ⟨c, _⟩ | ⟨c, _⟩ | ⟨_, c, _⟩ | ⟨c, _⟩
        · exact .inl c
        · cases c
        · cases c
        · exact .inr c
        · cases c
      walk_at "tls"
      refine ⟨a, D, w, f, l, Z, v, n, rfl, tb, kv, fun c d hd => ?_, fun k ev c1 => ⟨fun h1 d hd => ?_, fun tx htx => ?_⟩⟩
      · refine n_asNo z.m_NoKey_NoThing ?_
        refine n_asNo z.m_NoKey_Full ?_
        refine n_asNo z.m_NoKey_NoRoom ?_
        refine n_as z.m_NoKey_NoKey fun ea na => ?_
        have fd : (upd H d (HO.xd [("key", v)])) d = some (.xd [("key", v)]) := upd_same
        have tA : T [] Z H _ _ := T.new (o := HO.xd [("key", v)]) hd z0
        have z9 := tA.zh
        walk_at "tls"
        refine s_Sx ?_
        walk_at "tls"
        refine n_Sx ⟨d, _, "NoKey", "key", rfl, rfl, fd, .inl ⟨rfl, rfl⟩, fun HB eB => ?_⟩
        have tB := (T.ofEx (M := []) eB tA.zh)
        have fd2 := eB _ _ fd
        have zB := tB.zh
        walk_at "tls"
        rename_i p1 Z1 H1 n1 t1 f1
        exact qr "key" v (.inl ⟨by decide, c, rfl, rfl⟩) p1 Z1 H1 (((TT.step tA mm_nil).step tB mm_nil).step t1 mm_nil) (((TB.tt tA nm_nil).tt tB nm_nil).tt t1 nm_nil) f1
      · refine n_asNo z.m_Lacking_NoThing ?_
        refine n_asNo z.m_Lacking_Full ?_
        refine n_asNo z.m_Lacking_NoRoom ?_
        refine n_asNo z.m_Lacking_NoKey ?_
        refine n_as z.m_Lacking_Lacking fun ea na => ?_
        have fd : (upd H d (HO.xd [("key", v)])) d = some (.xd [("key", v)]) := upd_same
        have tA : T [] Z H _ _ := T.new (o := HO.xd [("key", v)]) hd z0
        have z9 := tA.zh
        walk_at "tls"
        refine s_Sx ?_
        walk_at "tls"
        refine n_Sx ⟨d, _, "Lacking", "lacking", rfl, rfl, fd, .inr (.inr (.inr (.inl ⟨rfl, rfl⟩))), fun HB eB => ?_⟩
        have tB := (T.ofEx (M := []) eB tA.zh)
        have fd2 := eB _ _ fd
        have zB := tB.zh
        walk_at "tls"
        rename_i p1 Z1 H1 n1 t1 f1
        exact qr "lacking" v (.inr (.inr (.inr (.inl ⟨.inr rfl, ⟨k, ev, c1, h1⟩, rfl, rfl⟩)))) p1 Z1 H1 (((TT.step tA mm_nil).step tB mm_nil).step t1 mm_nil) (((TB.tt tA nm_nil).tt tB nm_nil).tt t1 nm_nil) f1
      · rcases h2 with c | ⟨k', ev', _, nk⟩
        · rw [c1] at c; cases c
        · rw [ev] at ev'
          cases ev'
          exact absurd (List.mem_map_of_mem (f := Prod.fst) (thing_in htx)) nk
    · clear q0 q1
      obtain ⟨word, o, hr0⟩ := qw (by decide)
      have h2 : keyV v = false := by
        rcases hr0 with ⟨_, c, _⟩ | ⟨c, _⟩ | ⟨c, _⟩ | ⟨c, _⟩ | ⟨c, _⟩
        · exact c
        · cases c
        · cases c
        · rcases c with c | c <;> cases c
        · cases c
      walk_at "tls"
      refine ⟨a, D, w, f, l, Z, v, n, rfl, tb, kv, fun c d hd => ?_, fun k ev c1 => ?_⟩
      · refine n_asNo z.m_NoKey_NoThing ?_
        refine n_asNo z.m_NoKey_Full ?_
        refine n_asNo z.m_NoKey_NoRoom ?_
        refine n_as z.m_NoKey_NoKey fun ea na => ?_
        have fd : (upd H d (HO.xd [("key", v)])) d = some (.xd [("key", v)]) := upd_same
        have tA : T [] Z H _ _ := T.new (o := HO.xd [("key", v)]) hd z0
        have z9 := tA.zh
        walk_at "tls"
        refine s_Sx ?_
        walk_at "tls"
        refine n_Sx ⟨d, _, "NoKey", "key", rfl, rfl, fd, .inl ⟨rfl, rfl⟩, fun HB eB => ?_⟩
        have tB := (T.ofEx (M := []) eB tA.zh)
        have fd2 := eB _ _ fd
        have zB := tB.zh
        walk_at "tls"
        rename_i p1 Z1 H1 n1 t1 f1
        exact qr "key" v (.inl ⟨by decide, c, rfl, rfl⟩) p1 Z1 H1 (((TT.step tA mm_nil).step tB mm_nil).step t1 mm_nil) (((TB.tt tA nm_nil).tt tB nm_nil).tt t1 nm_nil) f1
      · rw [c1] at h2; cases h2
    · clear q0 q1
      obtain ⟨word, o, hr0⟩ := qw (by decide)
      have h2 : ∀ r, v = .int r → ¬ (0 ≤ r ∧ r < roomsT f l) := by
        rcases hr0 with ⟨c, _⟩ | ⟨c, _⟩ | ⟨c, _⟩ | ⟨c, _⟩ | ⟨_, c, _⟩
        · exact absurd rfl c
        · cases c
        · cases c
        · rcases c with c | c <;> cases c
        · exact c
      walk_at "tls"
      refine ⟨a, D, w, f, l, Z, v, n, rfl, tb, kv, fun c d hd => ?_, fun r ev c1 => absurd c1 (h2 r ev)⟩
      refine n_asNo z.m_NoRoom_NoThing ?_
      refine n_asNo z.m_NoRoom_Full ?_
      refine n_as z.m_NoRoom_NoRoom fun ea na => ?_
      have fd : (upd H d (HO.xd [("number", v)])) d = some (.xd [("number", v)]) := upd_same
      have tA : T [] Z H _ _ := T.new (o := HO.xd [("number", v)]) hd z0
      have z9 := tA.zh
      walk_at "tls"
      refine s_Sx ?_
      walk_at "tls"
      refine n_Sx ⟨d, _, "NoRoom", "room", rfl, rfl, fd, .inr (.inr (.inr (.inr (⟨rfl, rfl⟩)))), fun HB eB => ?_⟩
      have tB := (T.ofEx (M := []) eB tA.zh)
      have fd2 := eB _ _ fd
      have zB := tB.zh
      walk_at "tls"
      rename_i p1 Z1 H1 n1 t1 f1
      exact qr "room" v (.inr (.inr (.inr (.inr ⟨rfl, h2, rfl, rfl⟩)))) p1 Z1 H1 (((TT.step tA mm_nil).step tB mm_nil).step t1 mm_nil) (((TB.tt tA nm_nil).tt tB nm_nil).tt t1 nm_nil) f1


/-! ### _law_draw -/
noncomputable abbrev sp_law_draw (K : PySem.W.Frag) : Sp := spDraw K
theorem has_law_draw (z : Z K mg) (F : FunAt K mg "_law_draw" s_law_draw ["_law_hand", "_law_many"])  : Has P w K mg base "_law_draw" 1 (sp_law_draw K) := by
  refine has_of F sc_law_draw (fun vs H Q E h => ?_) (fun f cdv A outer s H vs Q E hr h => ?_)
  · obtain ⟨a, m, n, Z, rfl, _⟩ := h
    rfl
  · obtain ⟨a, m, n, Z, rfl, ⟨d, k, c, cells, h1, h3, h4, h5, z1, z2, z3⟩, hm0, hm1, q⟩ := h
    refine ⟨_, (pss_cons (ps_if (pt_cmpR op_gt (pe_ix (ixA (K := K) rfl) (pv 0) pe_int (fun _ _ => rfl)) pe_int (nomark _)) (pss_cons (ps_set (i := 2) sc_law_draw.nd rfl (by first | exact Or.inl rfl | exact Or.inr rfl) (pe_op op_mod (pe_ix (ixA (K := K) rfl) (pv 0) pe_int (fun _ _ => rfl)) (pv 1)))
        (pss_cons (ps_asg (pe_op op_fdivW (pe_ix (ixA (K := K) rfl) (pv 0) pe_int (fun _ _ => rfl)) (pv 1)) (pg_sub (pv 0) pe_int set_list))
        (pss_one (ps_ret (pv 2))))) pss_nil)
        (pss_cons (ps_augS (pv 0) pe_int (getA (K := K) rfl) pe_int ip_add set_list)
        (pss_cons (ps_set (i := 3) sc_law_draw.nd rfl (by first | exact Or.inl rfl | exact Or.inr rfl) (pe_ix (ixA (K := K) rfl) (pv 0) pe_int (fun _ _ => rfl)))
        (pss_cons (ps_set (i := 4) sc_law_draw.nd rfl (by first | exact Or.inl rfl | exact Or.inr rfl) (pe_op op_mod (pe_op op_plusA (pe_op op_mod (pe_ix (ixA (K := K) rfl) (pe_ix (ixA (K := K) rfl) (pv 0) pe_int (fun _ _ => rfl)) (pe_op op_mod (pv 3) (pe_callB (id := "len") (lenA (K := K) rfl) (by rfl) z.b_len (by decide +kernel) (pa_cons (pe_ix (ixA (K := K) rfl) (pv 0) pe_int (fun _ _ => rfl)) pa_nil))) (fun _ _ => rfl)) pe_int) (pe_op op_multA pe_int (pv 3))) pe_int))
        (pss_cons (ps_set (i := 4) sc_law_draw.nd rfl (by first | exact Or.inl rfl | exact Or.inr rfl) (pe_op op_mod (pe_op op_plusA (pe_op op_plusA (pe_op op_pow (pv 4) pe_int) (pe_op op_multA (pe_op op_multA pe_int (pv 3)) (pv 3))) pe_int) pe_int))
        (pss_cons (ps_set (i := 4) sc_law_draw.nd rfl (by first | exact Or.inl rfl | exact Or.inr rfl) (pe_op op_mod (pe_op op_plusA (pe_op op_multA (pe_op op_pow (pv 4) pe_int) (pe_op op_plusA (pe_op op_multA pe_int (pv 3)) pe_int)) pe_int) pe_int))
        (pss_one (ps_ret (pe_op op_mod (pe_op op_fdivW (pe_op op_mod (pe_op op_multA (pv 4) pe_int) pe_int) pe_int) (pv 1)))))))))), ?_⟩
    walk_at "cx"
    walk_at "ss"
    refine i_d (fun hd => ?_) (fun hd => ?_)
    · walk_at "ss"
      rename_i G e1 e2
      exact q _ G (Int.emod_nonneg _ (by omega)) (Int.emod_lt_of_pos _ hm0) e1 ⟨_, k, c, cells, e2, h3, h4, by omega, z1.exm z2 e1, z2, z3⟩
    · walk_at "ss"
      rename_i G e1 e2 _ _ v hv _ _ _ _ _ _ _ _ _ _ b1 b2
      exact q _ G b1 b2 e1 ⟨d, k + 1, c, cells, e2, h3, by omega, by omega, z1.exm z2 e1, z2, z3⟩

/-! ### _law_far -/
noncomputable abbrev sp_law_far (K : PySem.W.Frag) : Sp := spFar K
theorem has_law_far (z : Z K mg) (F : FunAt K mg "_law_far" s_law_far ["_law_hand", "_law_many"]) (h_law_draw : Has P w K mg base "_law_draw" 1 (sp_law_draw K)) : Has P w K mg base "_law_far" 2 (sp_law_far K) := by
  refine has_of F sc_law_far (fun vs H Q E h => ?_) (fun f cdv A outer s H vs Q E hr h => ?_)
  · obtain ⟨a, m, n, Z, rfl, _⟩ := h
    rfl
  · obtain ⟨a, m, n, Z, rfl, hh, h0, h1, q⟩ := h
    obtain ⟨d, k, c, cells, g1, g3, g4, g5, z1, z2, z3⟩ := id hh
    refine ⟨_, (pss_cons (ps_if (pt_cmpR op_gt (pe_ix (ixA (K := K) rfl) (pv 0) pe_int (fun _ _ => rfl)) pe_int (nomark _)) (pss_one (ps_ret (pe_callH h_law_draw (by decide) hr rfl (pa_cons (pv 0) (pa_cons (pv 1) pa_nil))))) pss_nil)
        (pss_cons (ps_set (i := 2) sc_law_far.nd rfl (by first | exact Or.inl rfl | exact Or.inr rfl) pe_int)
        (pss_cons (ps_for PassesOwn.never rfl (pi_range1 (by rfl) z.b_range (pa_cons pe_int pa_nil)) (pg_name (i := 3) sc_law_far.nd rfl (by first | exact Or.inl rfl | exact Or.inr rfl)) (pss_one (ps_set (i := 2) sc_law_far.nd rfl (by first | exact Or.inl rfl | exact Or.inr rfl) (pe_op op_plusA (pe_op op_multA (pv 2) (pe_op op_pow pe_int pe_int)) (pe_callH h_law_draw (by decide) hr rfl (pa_cons (pv 0) (pa_cons (pe_op op_pow pe_int pe_int) pa_nil)))))))
        (pss_one (ps_ret (pe_op op_mod (pv 2) (pv 1))))))), ?_⟩
    walk_at "cx"
    walk_at "ss"
    refine i_d (fun hd => ?_) (fun hd => ?_)
    · walk_at "ss"
      exact ⟨a, m, n, Z, rfl, hh.mono (by omega), h0, h1, q⟩
    · walk_at "ss"
      refine u_forR1 (fun i σ H' => ∃ x y, σ = [some (.ref a), some (.int m), some (.int x), y] ∧ ExM a H H' ∧ Hand K Z H' a (n + (7 - i))) (by decide) ⟨_, _, rfl, ExM.refl _, hh⟩ (fun i σ H' hi hw => ?_) (fun σ H' hw => ?_)
      · obtain ⟨x, y, rfl, e, hw⟩ := hw
        have hw' : Hand K Z H' a (n + (7 - (i + 1)) + 1) := hw.mono (by omega)
        walk_at "ss"
        refine ⟨a, _, _, _, rfl, hw', by decide, by decide, fun r H2 r0 r1 m2 hh2 => ?_⟩
        walk_at "ss"
        exact ⟨_, _, rfl, e.trans m2, hh2⟩
      · obtain ⟨x, y, rfl, e, hw⟩ := hw
        walk_at "ss"
        exact q _ _ (by omega) (by omega) e (hw.mono (by omega))

/-! ### _law_power -/
noncomputable def sp_law_power (K : PySem.W.Frag) : Sp := fun vs H Q _ => ∃ n : Int, vs = [.int n] ∧ 0 ≤ n ∧ n ≤ 1000 ∧ Q (.int (2 ^ n.toNat)) H
theorem has_law_power (z : Z K mg) (F : FunAt K mg "_law_power" s_law_power ["_law_many"])  : Has P w K mg base "_law_power" 1 (sp_law_power K) := by
  refine has_of F sc_law_power (fun vs H Q E h => ?_) (fun f cdv A outer s H vs Q E hr h => ?_)
  · obtain ⟨n, rfl, _⟩ := h
    rfl
  · obtain ⟨n, rfl, h0, h1, q⟩ := h
    refine ⟨_, (pss_cons (ps_set (i := 1) sc_law_power.nd rfl (by first | exact Or.inl rfl | exact Or.inr rfl) pe_int)
        (pss_cons (ps_for PassesOwn.never rfl (pi_range1 (by rfl) z.b_range (pa_cons (pv 0) pa_nil)) (pg_name (i := 2) sc_law_power.nd rfl (by first | exact Or.inl rfl | exact Or.inr rfl)) (pss_one (ps_set (i := 1) sc_law_power.nd rfl (by first | exact Or.inl rfl | exact Or.inr rfl) (pe_op op_multA (pv 1) pe_int))))
        (pss_one (ps_ret (pv 1))))), ?_⟩
    walk_at "cx"
    walk_at "ss"
    refine u_forR1 (fun i σ H' => ∃ x, σ = [some (.int n), some (.int (2 ^ i)), x] ∧ H' = H) (by omega) ⟨_, rfl, rfl⟩ (fun i σ H' hi hh => ?_) (fun σ H' hh => ?_)
    · obtain ⟨x, rfl, rfl⟩ := hh
      walk_at "ss"
      exact ⟨_, by rw [Int.pow_succ]; rfl, rfl⟩
    · obtain ⟨x, rfl, rfl⟩ := hh
      walk_at "ss"
      exact q

/-! ### _law_key -/
noncomputable abbrev sp_law_key (K : PySem.W.Frag) : Sp := spKey K
theorem has_law_key (z : Z K mg) (F : FunAt K mg "_law_key" s_law_key ["_law_hand"]) (h_law_far : Has P w K mg base "_law_far" 2 (sp_law_far K)) (h_law_power : Has P w K mg base "_law_power" 1 (sp_law_power K)) (h_law_draw : Has P w K mg base "_law_draw" 1 (sp_law_draw K)) : Has P w K mg base "_law_key" 3 (sp_law_key K) := by
  refine has_of F sc_law_key (fun vs H Q E h => ?_) (fun f cdv A outer s H vs Q E hr h => ?_)
  · obtain ⟨a, n, Z, rfl, _⟩ := h
    rfl
  · obtain ⟨a, n, Z, rfl, hh, q⟩ := h
    refine ⟨_, (pss_cons (ps_set (i := 1) sc_law_key.nd rfl (by first | exact Or.inl rfl | exact Or.inr rfl) (pe_callH h_law_draw (by decide) hr rfl (pa_cons (pv 0) (pa_cons pe_int pa_nil))))
        (pss_cons (ps_set (i := 2) sc_law_key.nd rfl (by first | exact Or.inl rfl | exact Or.inr rfl) (pe_callH h_law_draw (by decide) hr rfl (pa_cons (pv 0) (pa_cons (pe_ix (ixA (K := K) rfl) (pe_lst (pa_cons pe_int (pa_cons pe_int (pa_cons pe_int pa_nil)))) (pe_callH h_law_draw (by decide) hr rfl (pa_cons (pv 0) (pa_cons pe_int pa_nil))) (fun _ _ => rfl)) pa_nil))))
        (pss_cons (ps_if (pt_cmpR op_lt (pv 1) pe_int (nomark _)) (pss_one (ps_ret (pv 2))) pss_nil)
        (pss_cons (ps_if (pt_cmpR (eqA (K := K) rfl hr.units) (pv 1) pe_int (nomark _)) (pss_one (ps_ret (pe_op op_sub (pe_op op_sub (pe_op op_pow pe_int pe_int) pe_int) (pv 2)))) pss_nil)
        (pss_cons (ps_if (pt_cmpR (eqA (K := K) rfl hr.units) (pv 1) pe_int (nomark _)) (pss_one (ps_ret (pe_op op_plusA (pv 2) (pe_callH h_law_power (by decide) hr rfl (pa_cons (pe_op op_plusA pe_int (pe_callH h_law_draw (by decide) hr rfl (pa_cons (pv 0) (pa_cons pe_int pa_nil)))) pa_nil))))) pss_nil)
        (pss_cons (ps_if (pt_cmpR (eqA (K := K) rfl hr.units) (pv 1) pe_int (nomark _)) (pss_one (ps_ret (pe_op op_plusA (pe_op op_mod (pv 2) pe_int) (pe_op op_multA pe_int (pe_callH h_law_far (by decide) hr rfl (pa_cons (pv 0) (pa_cons (pe_op op_pow pe_int pe_int) pa_nil))))))) pss_nil)
        (pss_one (ps_ret (pe_callH h_law_far (by decide) hr rfl (pa_cons (pv 0) (pa_cons (pe_op op_pow pe_int pe_int) pa_nil))))))))))), ?_⟩
    walk_at "cx"
    walk_at "ss"
    refine ⟨a, 7, _, _, rfl, hh, by walk_at "od", by walk_at "od", fun wy H1 wy0 wy1 m1 hh1 => ?_⟩
    walk_at "ss"
    rename_i p1 H2 n2 e2 f2
    refine ⟨a, 3, _, _, rfl, hh1.ex e2, by walk_at "od", by walk_at "od", fun x H3 x0 x1 m3 hh3 => ?_⟩
    walk_at "ss"
    rename_i b hb
    have hb2 : 0 < b ∧ b ≤ 200 := by omega
    refine ⟨a, b, _, _, rfl, hh3, by walk_at "od", by walk_at "od", fun lo H4 lo0 lo1 m4 hh4 => ?_⟩
    have M : ExM a H H4 := ((m1.trans e2.toM).trans m3).trans m4
    walk_at "ss"
    refine i_d (fun hd => ?_) (fun hd => ?_)
    · walk_at "ss"
      exact q _ _ lo0 (by omega) M (hh4.mono (by omega))
    walk_at "ss"
    refine i_d (fun hd => ?_) (fun hd => ?_)
    · walk_at "ss"
      exact q _ _ (by omega) (by omega) M (hh4.mono (by omega))
    walk_at "ss"
    refine i_d (fun hd => ?_) (fun hd => ?_)
    · walk_at "ss"
      refine ⟨a, 52, _, _, rfl, hh4, by walk_at "od", by walk_at "od", fun y H5 y0 y1 m5 hh5 => ?_⟩
      walk_at "ss"
      refine ⟨_, rfl, by omega, by omega, ?_⟩
      have hp := two_pos (8 + y).toNat
      have hp2 := two_mono (show (8 + y).toNat ≤ 59 by omega)
      have e59 : (2 : Int) ^ 59 = 576460752303423488 := by decide
      walk_at "ss"
      exact q _ _ (by omega) (by omega) (M.trans m5) (hh5.mono (by omega))
    walk_at "ss"
    refine i_d (fun hd => ?_) (fun hd => ?_)
    · walk_at "ss"
      refine ⟨a, _, _, _, rfl, hh4.mono (m := n + 7) (by omega), by decide, by decide, fun y H5 y0 y1 m5 hh5 => ?_⟩
      walk_at "ss"
      exact q _ _ (by omega) (by omega) (M.trans m5) (hh5.mono (by omega))
    · walk_at "ss"
      refine ⟨a, _, _, _, rfl, hh4.mono (m := n + 7) (by omega), by decide, by decide, fun y H5 y0 y1 m5 hh5 => ?_⟩
      walk_at "ss"
      exact q _ _ (by omega) (by omega) (M.trans m5) (hh5.mono (by omega))

/-! ### longest -/
noncomputable def sp_longest (K : PySem.W.Frag) : Sp := fun vs H Q _ => ∃ (a : Addr) (ns : List Int) (w : Int), vs = [.ref a, .int w] ∧ SqL K H a (ns.map V.int) ∧ ns.length ≤ 40000 ∧ 0 < ns.length ∧ 0 < w ∧ w < 4611686018427387904 ∧
  ∀ (p : Addr) (j : Nat) (H' : Hp), H p = none → Ex H H' → H' p = some (.tup [.int (maxI (ns.map fun m => rowsI m w)), .int (j : Nat)]) → (ns.map fun m => rowsI m w)[j]? = some (maxI (ns.map fun m => rowsI m w)) →
    (∀ i, i < j → (ns.map fun m => rowsI m w)[i]? ≠ some (maxI (ns.map fun m => rowsI m w))) → Q (.ref p) H'
theorem has_longest (z : Z K mg) (F : FunAt K mg "longest" s_longest ["sizes", "wide"]) (h_rows_for : Has P w K mg base "rows_for" 1 (sp_rows_for K)) : Has P w K mg base "longest" 2 (sp_longest K) := by
  refine has_of F sc_longest (fun vs H Q E h => ?_) (fun f cdv A outer s H vs Q E hr h => ?_)
  · obtain ⟨a, ns, w, rfl, _⟩ := h
    rfl
  · obtain ⟨a, ns, w, rfl, hs, hl, h0, w0, w1, q⟩ := h
    refine ⟨_, (pss_cons (ps_setLc (i := 2) (own := [("many", 4)]) (g := gName 4) (tt := tYes) rfl sc_longest.nd rfl rfl (sw_true rfl rfl rfl (by decide +kernel)) (piL (K := K) rfl (pv 0)) (blkOk_by (own := [("many", 4)]) (N := ["sizes", "wide", "rows", "most", "many"]) (sc := defScope s_longest) (by decide +kernel)) (fun _ _ _ _ _ => (pg_name (i := 4) sc_longest.nd rfl (by first | exact Or.inl rfl | exact Or.inr rfl))) (fun _ _ _ _ _ => pts_nil) (fun _ _ _ _ _ => (pe_callH h_rows_for (by decide) hr rfl (pa_cons (pv 4) (pa_cons (pv 1) pa_nil)))))
        (pss_cons (ps_set (i := 3) sc_longest.nd rfl (by first | exact Or.inl rfl | exact Or.inr rfl) (pe_callB (id := "max") (maxA (K := K) rfl rfl) (by rfl) z.b_max (by decide +kernel) (pa_cons (pv 2) pa_nil)))
        (pss_one (ps_ret (pe_tup (pa_cons (pv 3) (pa_cons (pe_bm PySem.F.plainAttrs_list PySem.F.slot_list_index PySem.F.type_list_index (indexA (K := K) rfl) (pv 2) (pa_cons (pv 3) pa_nil)) pa_nil))))))), ?_⟩
    walk_at "cx"
    walk_at "ss"
    refine u_mapLI V.int ns (fun m => rowsI m w) hs hl (fun m hm H1 e1 A hA => ?_) (fun D H1 n1 e1 f1 => ?_)
    · walk_at "ss"
      refine ⟨_, _, rfl, w0, w1, ?_⟩
      walk_at "ss"
      exact hA _ (Ex.refl _)
    · have hm : maxI (ns.map fun m => rowsI m w) ∈ ns.map fun m => rowsI m w := maxI_mem (by rw [List.length_map]; exact h0)
      walk_at "ss"
      rename_i j hj hf p2 H2 n2 e2 f2
      exact q _ j _ (Ex.back e1 n2) (e1.trans e2) f2 hj hf

/-! ### spread -/
noncomputable def sp_spread (K : PySem.W.Frag) : Sp := fun vs H Q _ => ∃ (a : Addr) (ks : List Int) (n : Int), vs = [.ref a, .int n] ∧ SqL K H a (ks.map V.int) ∧ ks.length ≤ 30000 ∧ 1 ≤ n ∧ n ≤ 30000 ∧
  ∀ p qs H', Ex H H' → RW K H H' p qs (spl (sortI ks) n) → Q (.ref p) H'
theorem has_spread (z : Z K mg) (F : FunAt K mg "spread" s_spread ["keys", "rooms"]) (h_room_of : Has P w K mg base "room_of" 2 (sp_room_of K)) : Has P w K mg base "spread" 3 (sp_spread K) := by
  refine has_of F sc_spread (fun vs H Q E h => ?_) (fun f cdv A outer s H vs Q E hr h => ?_)
  · obtain ⟨a, ks, n, rfl, _⟩ := h
    rfl
  · obtain ⟨a, ks, n, rfl, hs, hl, n0, n1, q⟩ := h
    refine ⟨_, (pss_cons (ps_setLc (i := 2) (own := [("room", 4)]) (g := gName 4) (tt := tYes) rfl sc_spread.nd rfl rfl (sw_true rfl rfl rfl (by decide +kernel)) (pi_range1 (by rfl) z.b_range (pa_cons (pv 1) pa_nil)) (blkOk_by (own := [("room", 4)]) (N := ["keys", "rooms", "held", "key", "room"]) (sc := defScope s_spread) (by decide +kernel)) (fun _ _ _ _ _ => (pg_name (i := 4) sc_spread.nd rfl (by first | exact Or.inl rfl | exact Or.inr rfl))) (fun _ _ _ _ _ => pts_nil) (fun _ _ _ _ _ => (pe_lst pa_nil)))
        (pss_cons (ps_for PassesOwn.never rfl (piL (K := K) rfl (pe_callB (id := "sorted") (sortA (K := K) rfl) (by rfl) z.b_sorted (by decide +kernel) (pa_cons (pv 0) pa_nil))) (pg_name (i := 3) sc_spread.nd rfl (by first | exact Or.inl rfl | exact Or.inr rfl)) (pss_one (ps_expr (pe_bm PySem.F.plainAttrs_list PySem.F.slot_list_append PySem.F.type_list_append mt_append (pe_ix (ixA (K := K) rfl) (pv 2) (pe_callH h_room_of (by decide) hr rfl (pa_cons (pv 3) (pa_cons (pv 1) pa_nil))) (fun _ _ => rfl)) (pa_cons (pv 3) pa_nil)))))
        (pss_one (ps_ret (pv 2))))), ?_⟩
    walk_at "cx"
    walk_at "ss"
    refine u_lcR1N (fun _ => []) (by omega) (fun i hi H1 e1 A hA => ?_) (fun D qs H1 nd nn e1 ho hq ha => ?_)
    · walk_at "ss"
      rename_i p2 H2 n2 e2 f2
      exact hA _ _ n2 e2 f2
    have R1 : RW K H H1 D qs (spl [] n) := RW.of nd nn e1 ho (by rw [hq, spl_len]) ha (fun i r hi => by
      obtain ⟨_, rfl⟩ := spl_at hi
      exact .nil)
    walk_at "ss"
    rename_i p2 H2 n2 e2 f2
    have sl := sortI_len ks
    have n20 : H p2 = none := Ex.back e1 n2
    refine u_forL (fun j σ H' => ∃ x1 x2, σ = [some (.ref a), some (.int n), some (.ref D), x1, x2] ∧ Ex H H' ∧ H' p2 = some (.lst ((sortI ks).map V.int)) ∧ RW K H H' D qs (spl ((sortI ks).take j) n)) (sq_of f2) ⟨_, _, rfl, e1.trans e2, f2, R1.up e2⟩ (fun j σ H' _ hh => ?_) (fun j v σ H' hx hh => ?_) (fun σ H' hh => ?_)
    · obtain ⟨_, _, _, _, g, _⟩ := hh
      exact sq_of g
    · obtain ⟨x1, x2, rfl, e3, f3, R3⟩ := hh
      obtain ⟨key, rfl, hk⟩ := at_ints hx
      have jl := (List.getElem?_eq_some_iff.mp hk).1
      have rr := roomOf_range (key := key) n0
      walk_at "ss"
      refine ⟨_, _, rfl, n0, ?_⟩
      obtain ⟨r, r1, r2, r3⟩ := spl_snoc ((sortI ks).take j) (key := key) n0
      refine s_ixRW R3 (by rw [spl_len]; omega) fun b hb => ?_
      obtain ⟨r', vs, g1, g2, g3⟩ := R3.at hb
      refine s_tyL (sq_of g2) ?_
      walk_at "ss"
      rw [List.length_take] at r3
      refine n_pushRW R3 hb r1 (Is.int key) (by omega) fun H4 m4 R4 => ?_
      walk_at "ss"
      have hm := List.mem_of_getElem? hb
      have nb : p2 ≠ b := fun z => R1.new n2 (z ▸ List.mem_cons_of_mem _ hm)
      refine ⟨_, _, rfl, e3.exm (R3.fr b (List.mem_cons_of_mem _ hm)) m4, m4 _ _ nb f3, ?_⟩
      rw [r2] at R4
      have e5 : (sortI ks).take (j + 1) = (sortI ks).take j ++ [key] := by rw [List.take_add_one, hk]; rfl
      rw [e5]
      exact R4
    · obtain ⟨x1, x2, rfl, e3, f3, R3⟩ := hh
      rw [List.length_map, List.take_length] at R3
      walk_at "ss"
      exact q D qs _ e3 R3

/-! ### counts -/
noncomputable def sp_counts (K : PySem.W.Frag) : Sp := fun vs H Q _ => ∃ (a : Addr) (ks : List Int) (n : Int), vs = [.ref a, .int n] ∧ SqL K H a (ks.map V.int) ∧ ks.length ≤ 30000 ∧ 1 ≤ n ∧ n ≤ 30000 ∧
  ∀ p H', H p = none → Ex H H' → H' p = some (.lst (((spl (sortI ks) n).map fun r => (r.length : Int)).map V.int)) → Q (.ref p) H'
theorem has_counts (z : Z K mg) (F : FunAt K mg "counts" s_counts ["keys", "rooms"]) (h_spread : Has P w K mg base "spread" 3 (sp_spread K)) : Has P w K mg base "counts" 4 (sp_counts K) := by
  refine has_of F sc_counts (fun vs H Q E h => ?_) (fun f cdv A outer s H vs Q E hr h => ?_)
  · obtain ⟨a, ks, n, rfl, _⟩ := h
    rfl
  · obtain ⟨a, ks, n, rfl, hs, hl, n0, n1, q⟩ := h
    refine ⟨_, (pss_one (ps_ret (pe_lc (own := [("row", 2)]) (g := gName 2) (tt := tYes) rfl sc_counts.nd (piL (K := K) rfl (pe_callH h_spread (by decide) hr rfl (pa_cons (pv 0) (pa_cons (pv 1) pa_nil)))) (blkOk_by (own := [("row", 2)]) (N := ["keys", "rooms", "row"]) (sc := defScope s_counts) (by decide +kernel)) (fun _ _ _ _ _ => (pg_name (i := 2) sc_counts.nd rfl (by first | exact Or.inl rfl | exact Or.inr rfl))) (fun _ _ _ _ _ => pts_nil) (fun _ _ _ _ _ => (pe_callB (id := "len") (lenA (K := K) rfl) (by rfl) z.b_len (by decide +kernel) (pa_cons (pv 2) pa_nil)))))), ?_⟩
    walk_at "cx"
    walk_at "ss"
    refine ⟨a, ks, n, rfl, hs, hl, n0, n1, fun p qs H1 e1 R1 => ?_⟩
    refine u_mapDI (fun r : List Int => (r.length : Int)) R1.is (by rw [spl_len]; omega) (fun v r hr' H2 e2 hv A hA => ?_) (fun D H2 n2 e2 f2 => ?_)
    · obtain ⟨b, rfl, sb⟩ := hv.ints_of
      have sb2 := e2.sq sb
      walk_at "ss"
      exact hA _ (Ex.refl _)
    · exact q _ _ (Ex.back e1 n2) (e1.trans e2) f2

/-! ### Table.counts_now -/
noncomputable abbrev sp_Table_counts_now (K : PySem.W.Frag) : Sp := spTCounts K
theorem has_Table_counts_now (z : Z K mg) (F : MethAt K "Table" "counts_now" "Table.counts_now" s_Table_counts_now ["self"]) (h_counts : Has P w K mg base "counts" 4 (sp_counts K)) (hm_Table_rooms : HasM P w K mg base "Table" "rooms" 2 (sp_Table_rooms K)) : HasM P w K mg base "Table" "counts_now" 5 (sp_Table_counts_now K) := by
  refine has_ofM F sc_Table_counts_now (fun vs H Q E h => ?_) (fun f cdv A outer s H vs Q E hr h => ?_)
  · obtain ⟨_, _, _, _, _, _, rfl, _⟩ := h
    rfl
  · obtain ⟨a, D, w, f, l, Z, rfl, tb, q⟩ := h
    refine ⟨_, (pss_one (ps_ret (pe_callH h_counts (by decide) hr rfl (pa_cons (pe_callTy (T := "list") (listDA rfl) (by rfl) z.b_list (by decide +kernel) (pa_cons (pe_fldK (K := K) rfl (pv 0) rfl) pa_nil)) (pa_cons (pe_methK0 (K := K) rfl (pxT (takes_of rfl rfl rfl rfl)) z.k_Table hm_Table_rooms (by decide) hr (pv 0)) pa_nil))))), ?_⟩
    walk_at "cx"
    obtain ⟨dx, ha⟩ := tb.at_
    have z0 : Ex Z H := tb.dm.zh
    have dm := tb.dm
    have f0 := tb.f0
    have le := tb.le
    have rp := roomsT_pos (l := l) f0.1
    have rl := roomsT_le f0.1 le
    walk_at "txs"
    refine t_listD z0 dm.h fun p Z1 H1 n1 t1 ls1 => ?_
    have tb1 := tb.tt t1 nm_nil
    walk_at "txs"
    refine ⟨a, D, w, f, l, Z1, rfl, tb1, ?_⟩
    walk_at "txs"
    refine ⟨p, l.map Prod.fst, roomsT f l, rfl, t1.zh.sq (Ik.sqI ls1.is), by rw [List.length_map]; omega, rp, by omega, fun p2 H2 n2 e2 f2 => ?_⟩
    have t2 : T [] Z1 H1 _ H2 := T.ofNew t1.zh n2 e2 f2
    exact q p2 _ H2 (t1.nn n2) (t1.step t2 mm_nil) (Ls.ofInts upd_same)

/-! ### Table.longest -/
noncomputable abbrev sp_Table_longest (K : PySem.W.Frag) : Sp := spTLongest K
theorem has_Table_longest (z : Z K mg) (F : MethAt K "Table" "longest" "Table.longest" s_Table_longest ["self"]) (h_longest_spread : Has P w K mg base "longest_spread" 2 (sp_longest K)) (hm_Table_counts_now : HasM P w K mg base "Table" "counts_now" 5 (sp_Table_counts_now K)) : HasM P w K mg base "Table" "longest" 6 (sp_Table_longest K) := by
  refine has_ofM F sc_Table_longest (fun vs H Q E h => ?_) (fun f cdv A outer s H vs Q E hr h => ?_)
  · obtain ⟨_, _, _, _, _, _, rfl, _⟩ := h
    rfl
  · obtain ⟨a, D, w, f, l, Z, rfl, tb, q⟩ := h
    refine ⟨_, (pss_one (ps_ret (pe_callH h_longest_spread (by decide) hr rfl (pa_cons (pe_methK0 (K := K) rfl (pxT (takes_of rfl rfl rfl rfl)) z.k_Table hm_Table_counts_now (by decide) hr (pv 0)) (pa_cons (pe_fldK (K := K) rfl (pv 0) rfl) pa_nil))))), ?_⟩
    walk_at "cx"
    obtain ⟨dx, ha⟩ := tb.at_
    have z0 : Ex Z H := tb.dm.zh
    have dm := tb.dm
    have w0 := tb.w0
    have rl := roomsT_le tb.f0.1 tb.le
    have rp := roomsT_pos (l := l) tb.f0.1
    walk_at "txs"
    refine ⟨a, D, w, f, l, Z, rfl, tb, fun p Z1 H1 n1 t1 ls1 => ?_⟩
    have ha1 := t1.z _ _ ha
    walk_at "txs"
    refine ⟨p, _, w, rfl, t1.zh.sq (Ik.sqI ls1.is), ?_, ?_, by omega, by omega, fun p2 j H2 n2 e2 f2 g1 g2 => ?_⟩
    · rw [List.length_map, spl_len]
      omega
    · rw [List.length_map, spl_len]
      omega
    · exact q p2 _ j _ H2 (t1.nn n2) (t1.step (T.ofNew t1.zh n2 e2 f2) mm_nil) ⟨rfl, g1, g2⟩ upd_same

/-! ### spill -/
noncomputable def sp_spill (K : PySem.W.Frag) : Sp := fun vs H Q _ => ∃ (a : Addr) (ns : List Int) (w : Int), vs = [.ref a, .int w] ∧ SqL K H a (ns.map V.int) ∧ ns.length ≤ 40000 ∧ 0 < w ∧ w < 4611686018427387904 ∧ ∀ H', Ex H H' → Q (.int (spillI ns w)) H'
theorem has_spill (z : Z K mg) (F : FunAt K mg "spill" s_spill ["sizes", "wide"]) (h_rows_for : Has P w K mg base "rows_for" 1 (sp_rows_for K)) : Has P w K mg base "spill" 2 (sp_spill K) := by
  refine has_of F sc_spill (fun vs H Q E h => ?_) (fun f cdv A outer s H vs Q E hr h => ?_)
  · obtain ⟨a, ns, w, rfl, _⟩ := h
    rfl
  · obtain ⟨a, ns, w, rfl, hs, hl, w0, w1, q⟩ := h
    refine ⟨_, (pss_one (ps_ret (pe_callB (id := "sum") (sumA (K := K) rfl rfl) (by rfl) z.b_sum (by decide +kernel) (pa_cons (pe_lc (own := [("many", 2)]) (g := gName 2) (tt := tYes) rfl sc_spill.nd (piL (K := K) rfl (pv 0)) (blkOk_by (own := [("many", 2)]) (N := ["sizes", "wide", "many"]) (sc := defScope s_spill) (by decide +kernel)) (fun _ _ _ _ _ => (pg_name (i := 2) sc_spill.nd rfl (by first | exact Or.inl rfl | exact Or.inr rfl))) (fun _ _ _ _ _ => pts_nil) (fun _ _ _ _ _ => (pe_op op_sub (pe_callH h_rows_for (by decide) hr rfl (pa_cons (pv 2) (pa_cons (pv 1) pa_nil))) pe_int))) pa_nil)))), ?_⟩
    walk_at "cx"
    walk_at "ss"
    refine u_mapLI V.int ns (fun m => rowsI m w - 1) hs hl (fun m hm H1 e1 A hA => ?_) (fun D H1 n1 e1 f1 => ?_)
    · walk_at "ss"
      refine ⟨_, _, rfl, w0, w1, ?_⟩
      walk_at "ss"
      exact hA _ (Ex.refl _)
    · walk_at "ss"
      exact q _ e1

/-! ### Table.spill -/
noncomputable abbrev sp_Table_spill (K : PySem.W.Frag) : Sp := spTSpill K
theorem has_Table_spill (z : Z K mg) (F : MethAt K "Table" "spill" "Table.spill" s_Table_spill ["self"]) (h_spill_spread : Has P w K mg base "spill_spread" 2 (sp_spill K)) (hm_Table_counts_now : HasM P w K mg base "Table" "counts_now" 5 (sp_Table_counts_now K)) : HasM P w K mg base "Table" "spill" 6 (sp_Table_spill K) := by
  refine has_ofM F sc_Table_spill (fun vs H Q E h => ?_) (fun f cdv A outer s H vs Q E hr h => ?_)
  · obtain ⟨_, _, _, _, _, _, rfl, _⟩ := h
    rfl
  · obtain ⟨a, D, w, f, l, Z, rfl, tb, q⟩ := h
    refine ⟨_, (pss_one (ps_ret (pe_callH h_spill_spread (by decide) hr rfl (pa_cons (pe_methK0 (K := K) rfl (pxT (takes_of rfl rfl rfl rfl)) z.k_Table hm_Table_counts_now (by decide) hr (pv 0)) (pa_cons (pe_fldK (K := K) rfl (pv 0) rfl) pa_nil))))), ?_⟩
    walk_at "cx"
    obtain ⟨dx, ha⟩ := tb.at_
    have z0 : Ex Z H := tb.dm.zh
    have dm := tb.dm
    have w0 := tb.w0
    have rl := roomsT_le tb.f0.1 tb.le
    walk_at "txs"
    refine ⟨a, D, w, f, l, Z, rfl, tb, fun p Z1 H1 n1 t1 ls1 => ?_⟩
    have ha1 := t1.z _ _ ha
    walk_at "txs"
    refine ⟨p, _, w, rfl, t1.zh.sq (Ik.sqI ls1.is), ?_, by omega, by omega, fun H2 e2 => ?_⟩
    · rw [List.length_map, spl_len]
      omega
    · exact q Z1 H2 (t1.step (T.ofEx e2 t1.zh) mm_nil)

/-! ### Table.entries -/
noncomputable abbrev sp_Table_entries (K : PySem.W.Frag) : Sp := spTEntries K
theorem has_Table_entries (z : Z K mg) (F : MethAt K "Table" "entries" "Table.entries" s_Table_entries ["self"])  : HasM P w K mg base "Table" "entries" 1 (sp_Table_entries K) := by
  refine has_ofM F sc_Table_entries (fun vs H Q E h => ?_) (fun f cdv A outer s H vs Q E hr h => ?_)
  · obtain ⟨_, _, _, _, _, _, rfl, _⟩ := h
    rfl
  · obtain ⟨a, D, w, f, l, Z, rfl, tb, q⟩ := h
    refine ⟨_, (pss_one (ps_ret (pe_sortedItems rfl (pe_fldK (K := K) rfl (pv 0) rfl) (by rfl) z.b_sorted))), ?_⟩
    walk_at "cx"
    obtain ⟨dx, ha⟩ := tb.at_
    have z0 : Ex Z H := tb.dm.zh
    have dm := tb.dm
    walk_at "txs"
    refine t_itemsM z0 dm.h tb.k1 fun p Z1 H1 n1 t1 lm1 => ?_
    walk_at "txs"
    exact q p Z1 H1 n1 t1 lm1

/-! ### Table.count -/
noncomputable abbrev sp_Table_count (K : PySem.W.Frag) : Sp := spTCount K
theorem has_Table_count (z : Z K mg) (F : MethAt K "Table" "count" "Table.count" s_Table_count ["self"])  : HasM P w K mg base "Table" "count" 1 (sp_Table_count K) := by
  refine has_ofM F sc_Table_count (fun vs H Q E h => ?_) (fun f cdv A outer s H vs Q E hr h => ?_)
  · obtain ⟨_, _, _, _, _, _, rfl, _⟩ := h
    rfl
  · obtain ⟨a, D, w, f, l, Z, rfl, tb, q⟩ := h
    refine ⟨_, (pss_one (ps_ret (pe_callB (id := "len") lenDA (by rfl) z.b_len (by decide +kernel) (pa_cons (pe_fldK (K := K) rfl (pv 0) rfl) pa_nil)))), ?_⟩
    walk_at "cx"
    obtain ⟨dx, ha⟩ := tb.at_
    have z0 : Ex Z H := tb.dm.zh
    have dm := tb.dm
    walk_at "txs"
    exact q

/-! ### _law_state -/
noncomputable def sp_law_state (K : PySem.W.Frag) : Sp := fun vs H Q _ => ∃ (a D : Addr) (w f : Int) (l : TR.Row) (Z : Hp), vs = [.ref a] ∧ Tb K Z H a D w f l ∧
  ∀ p Z' H', T [D] Z H Z' H' → Tb K Z' H' a D w f l → Ik Z' (.ref p) (stT w f l) → Q (.ref p) H'
theorem has_law_state (z : Z K mg) (F : FunAt K mg "_law_state" s_law_state ["_law_table"]) (hm_Table_longest : HasM P w K mg base "Table" "longest" 6 (sp_Table_longest K)) (hm_Table_spill : HasM P w K mg base "Table" "spill" 6 (sp_Table_spill K)) (hm_Table_entries : HasM P w K mg base "Table" "entries" 1 (sp_Table_entries K)) (hm_Table_rooms : HasM P w K mg base "Table" "rooms" 2 (sp_Table_rooms K)) (hm_Table_count : HasM P w K mg base "Table" "count" 1 (sp_Table_count K)) (hm_Table_room : HasM P w K mg base "Table" "room" 4 (sp_Table_room K)) : Has P w K mg base "_law_state" 7 (sp_law_state K) := by
  refine has_of F sc_law_state (fun vs H Q E h => ?_) (fun f cdv A outer s H vs Q E hr h => ?_)
  · obtain ⟨_, _, _, _, _, _, rfl, _⟩ := h
    rfl
  · obtain ⟨a, D, w, f, l, Z, rfl, tb, q⟩ := h
    refine ⟨_, (pss_cons (ps_set (i := 1) sc_law_state.nd rfl (by first | exact Or.inl rfl | exact Or.inr rfl) (pe_lst (pa_cons (pe_methK (K := K) rfl px0 z.k_Table hm_Table_room (by decide) hr (pv 0) (pa_cons pe_int pa_nil)) (pa_cons (pe_methK (K := K) rfl px0 z.k_Table hm_Table_room (by decide) hr (pv 0) (pa_cons (pe_op op_sub (pe_methK0 (K := K) rfl px0 z.k_Table hm_Table_rooms (by decide) hr (pv 0)) pe_int) pa_nil)) (pa_cons (pe_methK (K := K) rfl px0 z.k_Table hm_Table_room (by decide) hr (pv 0) (pa_cons (pe_op op_fdivW (pe_methK0 (K := K) rfl px0 z.k_Table hm_Table_rooms (by decide) hr (pv 0)) pe_int) pa_nil)) pa_nil)))))
        (pss_one (ps_ret (pe_tup (pa_cons (pe_methK0 (K := K) rfl px0 z.k_Table hm_Table_count (by decide) hr (pv 0)) (pa_cons (pe_methK0 (K := K) rfl px0 z.k_Table hm_Table_rooms (by decide) hr (pv 0)) (pa_cons (pe_methK0 (K := K) rfl px0 z.k_Table hm_Table_entries (by decide) hr (pv 0)) (pa_cons (pv 1) (pa_cons (pe_methK0 (K := K) rfl px0 z.k_Table hm_Table_spill (by decide) hr (pv 0)) (pa_cons (pe_methK0 (K := K) rfl px0 z.k_Table hm_Table_longest (by decide) hr (pv 0)) pa_nil)))))))))), ?_⟩
    walk_at "cx"
    obtain ⟨dx, ha⟩ := tb.at_
    have z0 : Ex Z H := tb.dm.zh
    have rl := roomsT_le tb.f0.1 tb.le
    have rp := roomsT_pos (l := l) tb.f0.1
    have ek := cnts_spl (l := l) tb.f0.1
    walk_at "tls"
    rename_i p1 Z1 H1 t1 tb1 ls1 p2 Z2 H2 t2 tb2 ls2 p3 Z3 H3 t3 tb3 ls3 p4 Z4 H4 n4 t4 f4 p5 Z5 H5 n5 t5 lm5 Z6 H6 t6 p8 m8 j8 Z8 H8 n8 t8 lg8 f8 p9 Z9 H9 n9 t9 f9
    rw [ek] at lg8
    have el := longI_T lg8
    obtain ⟨Z7, H7, eH, t7, ls7⟩ := (((lm5.tt t6 nm_nil).tt t8 nm_nil).tt t9 nm_nil).frq
    rw [← eH]
    clear eH
    have tb9 := ((((tb3.tt t4 nm_nil).tt t5 nm_nil).tt t6 nm_nil).tt t8 nm_nil).tt t9 nm_nil
    have n5' : H p5 = none := t1.nn (t2.nn (t3.nn (t4.nn n5)))
    have tt : T [D] Z H Z7 H7 := ((((((((T.refl z0 : T [D] Z H Z H).step t1 mm_same).step t2 mm_same).step t3 mm_same).step t4 mm_nil).step t5 mm_nil).step t6 mm_nil).step t8 mm_nil |>.step t9 mm_nil |>.step t7 (mm_1 (.inr n5')))
    refine q p9 Z7 H7 tt (tb9.tt t7 (nm_cons (ne_alB n5' tb.al) nm_nil)) ?_
    have i8 : Ik Z7 (.ref p8) (longT w f l) := by
      rw [← el]
      exact Ik.pair (t7.z _ _ (t9.z _ _ f8)) (Ik.int _) (Ik.int _)
    have e9 := (((((t5.z.trans t6.z).trans t8.z).trans t9.z)).trans t7.z)
    have e8 := t4.z.trans e9
    have i4 : Ik Z7 (.ref p4) [rowsE w f l 0, rowsE w f l (roomsT f l - 1), rowsE w f l (roomsT f l / 2)] :=
      Ik.of_list (e9 _ _ f4) (.cons (Ik.ex (t2.z.trans (t3.z.trans e8)) ls1.is) (.cons (Ik.ex (t3.z.trans e8) ls2.is) (.cons (Ik.ex e8 ls3.is) .nil)))
    rw [ek] at f9
    exact Ik.six (t7.z _ _ f9) (Ik.int _) (Ik.int _) ls7.is i4 (Ik.int _) i8

/-! ### _law_gone -/
noncomputable def sp_law_gone (K : PySem.W.Frag) : Sp := fun vs H Q _ => ∃ (a D h d : Addr) (w f : Int) (l : TR.Row) (x : Tx) (Z : Hp) (n : Nat), vs = [.ref a, .ref h, .ref d, .str x.1] ∧ Tb K Z H a D w f l ∧ Hand K Z H h (n + 100) ∧ Dm Z H d l ∧ h ≠ D ∧ h ≠ d ∧ D ≠ d ∧ nameB x.1 = true ∧
  ∀ l' Z' H', l'.length = l.length → T [h, D, d] Z H Z' H' → Tb K Z' H' a D w f l' → Hand K Z' H' h n → Dm Z' H' d l' → Q (.bl true) H'
theorem has_law_gone (z : Z K mg) (F : FunAt K mg "_law_gone" s_law_gone ["_law_table", "_law_hand", "_law_model", "_law_thing_here"]) (h_law_done : Has P w K mg base "_law_done" 6 (sp_law_done K)) (h_law_state : Has P w K mg base "_law_state" 7 (sp_law_state K)) (h_law_key : Has P w K mg base "_law_key" 3 (sp_law_key K)) (h_law_draw : Has P w K mg base "_law_draw" 1 (sp_law_draw K)) (hm_Table_rooms : HasM P w K mg base "Table" "rooms" 2 (sp_Table_rooms K)) : Has P w K mg base "_law_gone" 8 (sp_law_gone K) := by
  refine has_of F sc_law_gone (fun vs H Q E h => ?_) (fun f cdv A outer s H vs Q E hr h => ?_)
  · obtain ⟨_, _, _, _, _, _, _, _, _, _, rfl, _⟩ := h
    rfl
  · obtain ⟨a, D, h, d, w, f, l, x, Z, n, rfl, tb, hh, dm, nhD, nhd, nDd, nx, q⟩ := h
    refine ⟨_, (pss_cons (ps_set (i := 4) sc_law_gone.nd rfl (by first | exact Or.inl rfl | exact Or.inr rfl) (pe_callB (id := "sorted") (sortNA rfl) (by rfl) z.b_sorted (by decide +kernel) (pa_cons (pv 2) pa_nil)))
        (pss_cons (ps_if (pt_cmpR (eqA (K := K) rfl hr.units) (pv 4) (pe_lst pa_nil) (nomark _)) (pss_one (ps_ret pe_bl)) pss_nil)
        (pss_cons (ps_set (i := 5) sc_law_gone.nd rfl (by first | exact Or.inl rfl | exact Or.inr rfl) (pe_ix (ixA (K := K) rfl) (pv 4) (pe_op op_mod (pe_callH h_law_draw (by decide) hr rfl (pa_cons (pv 1) (pa_cons pe_int pa_nil))) (pe_callB (id := "len") (lenA (K := K) rfl) (by rfl) z.b_len (by decide +kernel) (pa_cons (pv 4) pa_nil))) (fun _ _ => rfl)))
        (pss_cons (ps_set (i := 6) sc_law_gone.nd rfl (by first | exact Or.inl rfl | exact Or.inr rfl) (pe_methK0 (K := K) rfl px0 z.k_Table hm_Table_rooms (by decide) hr (pv 0)))
        (pss_cons (ps_set (i := 7) sc_law_gone.nd rfl (by first | exact Or.inl rfl | exact Or.inr rfl) (pe_callH h_law_key (by decide) hr rfl (pa_cons (pv 1) pa_nil)))
        (pss_cons (ps_while PassesOwn.never (pt_cmp (pc_din (hu_of hr) (pv 7) (pv 2))) (pss_one (ps_set (i := 7) sc_law_gone.nd rfl (by first | exact Or.inl rfl | exact Or.inr rfl) (pe_op op_mod (pe_op op_plusA (pv 7) pe_int) (pe_op op_pow pe_int pe_int)))))
        (pss_cons (ps_if (pt_cmpR (neA (K := K) rfl hr.units) (pe_callH h_law_done (by decide) hr rfl (pa_cons (pv 0) (pa_cons pe_int (pa_cons (pv 5) (pa_cons pe_str pa_nil))))) (pe_tup (pa_cons pe_str (pa_cons pe_non pa_nil))) (nomark _)) (pss_one (ps_ret pe_bl)) pss_nil)
        (pss_cons (ps_set (i := 8) sc_law_gone.nd rfl (by first | exact Or.inl rfl | exact Or.inr rfl) (pe_callH h_law_state (by decide) hr rfl (pa_cons (pv 0) pa_nil)))
        (pss_cons (ps_for PassesOwn.never rfl (piL (K := K) rfl (pe_lst (pa_cons pe_int (pa_cons pe_int pa_nil)))) (pg_name (i := 9) sc_law_gone.nd rfl (by first | exact Or.inl rfl | exact Or.inr rfl)) (pss_one (ps_if (PW.pt (pw_or (pt_cmpR (neA (K := K) rfl hr.units) (pe_callH h_law_done (by decide) hr rfl (pa_cons (pv 0) (pa_cons (pv 9) (pa_cons (pv 5) (pa_cons pe_str pa_nil))))) (pe_tup (pa_cons pe_str (pa_cons (pv 5) pa_nil))) (nomark _)) (pw_or1 (pt_cmpR (neA (K := K) rfl hr.units) (pe_callH h_law_state (by decide) hr rfl (pa_cons (pv 0) pa_nil)) (pv 8) (nomark _))))) (pss_one (ps_ret pe_bl)) pss_nil)))
        (pss_cons (ps_if (pt_cut (PW.pt (pw_and (pt_cmpR op_lt (pe_methK0 (K := K) rfl px0 z.k_Table hm_Table_rooms (by decide) hr (pv 0)) (pv 6) (nomark _)) (pw_and1 (pt_cmpR (neA (K := K) rfl hr.units) (pe_callH h_law_done (by decide) hr rfl (pa_cons (pv 0) (pa_cons pe_int (pa_cons (pe_op op_sub (pv 6) pe_int) (pa_cons pe_str pa_nil))))) (pe_tup (pa_cons pe_str (pa_cons (pe_op op_sub (pv 6) pe_int) pa_nil))) (nomark _)))))) (pss_one (ps_ret pe_bl)) pss_nil)
        (pss_cons (ps_expr (pe_dpop1 (pv 2) (pv 5) ⟨rfl, rfl, rfl, rfl⟩))
        (pss_cons (ps_dput (hu_of hr) (pv 2) (pv 7) (pv 3) rfl)
        (pss_one (ps_ret (pe_cmpR (eqA (K := K) rfl hr.units) (pe_callH h_law_done (by decide) hr rfl (pa_cons (pv 0) (pa_cons pe_int (pa_cons (pv 7) (pa_cons (pv 3) pa_nil))))) (pe_tup (pa_cons pe_str (pa_cons pe_non pa_nil))) (nomark _)))))))))))))))), ?_⟩
    walk_at "cx"
    have z0 : Ex Z H := hh.z
    obtain ⟨dx, ha⟩ := tb.at_
    have le := tb.le
    have ky := tb.k1
    have sl : (sortI (l.map Prod.fst)).length = l.length := by rw [sortI_len, List.length_map]
    have lkl : (l.map Prod.fst).length = l.length := List.length_map ..
    walk_at "tls"
    rename_i p1 Z1 H1 n1 t1 ls1 p2 Z2 H2 n2 t2 mu2 f2
    have lm2 : Lm Z2 H2 p2 ([] : List Int) := Lm.of0 mu2 t2.zh f2
    refine s_eqP (x := sortI (l.map Prod.fst)) (y := ([] : List Int)) (Ik.ex (t2.z.trans t2.zh) ls1.is).is lm2.isH.is (by decide) ?_
    have T2 : T [h, D, d] Z H Z2 H2 := ((T.refl z0 : T [h, D, d] Z H Z H).step t1 mm_nil).step t2 mm_nil
    have tb2 := (tb.tt t1 nm_nil).tt t2 nm_nil
    have dm2 := (dm.tt t1 nm_nil).tt t2 nm_nil
    have hh2 := (hh.tt t1 nm_nil).tt t2 nm_nil
    have ls2 := ls1.tt t2
    have raw2 := ls2.ints
    have z2 := t2.zh
    clear t1 t2 tb dm hh lm2 mu2 f2 ls1 ha
    obtain ⟨dx, ha⟩ := tb2.at_
    walk_at "tls"
    refine i_d (fun hp => ?_) (fun hp => ?_)
    · walk_at "tls"
      exact q l Z2 H2 rfl T2 tb2 (hh2.mono (by omega)) dm2
    have l0 : 0 < l.length := by
      rcases Nat.eq_zero_or_pos l.length with c | c
      · exact absurd (List.length_eq_zero_iff.mp (by rw [sl]; exact c)) hp
      · exact c
    walk_at "tls"
    rename_i dr Z3 H3 d0 d1 t3 hh3 m0 m1 key hkey x0 Z4 H4 x00 x01 t4 hh4
    have km : key ∈ l.map Prod.fst := sortI_mem.mp (List.mem_of_getElem? hkey)
    have k01 : 0 ≤ key ∧ key < 1152921504606846976 := by
      obtain ⟨e, he, rfl⟩ := List.mem_map.mp km
      exact tb2.ks e he
    have tb4 := (tb2.tt t3 (nm_cons nhD.symm nm_nil)).tt t4 (nm_cons nhD.symm nm_nil)
    have dm4 := (dm2.tt t3 (nm_cons nhd.symm nm_nil)).tt t4 (nm_cons nhd.symm nm_nil)
    have T4 : T [h, D, d] Z H Z4 H4 := (T2.step t3 (mm_1 (.inl (by simp)))).step t4 (mm_1 (.inl (by simp)))
    have z4 := t4.zh
    clear t3 t4 hh3 tb2 dm2 hh2 ls2 raw2 z2 T2 ha
    refine u_while (fun c σ H' => ∃ (y : Int) (U : List Int), σ = [some (.ref a), some (.ref h), some (.ref d), some (.str x.1), some (.ref p1), some (.int key), some (.int (roomsT f l)), some (.int y), none, none] ∧ H' = H4 ∧ 0 ≤ y ∧ y < 1152921504606846976 ∧ U.Nodup ∧ (∀ u ∈ U, u ∈ l.map Prod.fst) ∧ (∀ u ∈ U, ∃ e : Nat, 1 ≤ e ∧ e ≤ U.length ∧ (u + e) % 1152921504606846976 = y) ∧ c = l.length - U.length) l.length
      ⟨x0, [], rfl, rfl, x00, x01, List.nodup_nil, fun _ h => (nomatch h), fun _ h => (nomatch h), rfl⟩ (fun c σ H' hh4 => ?_)
    obtain ⟨k, U, rfl, eH5, k0, k1, dU, sU, tU, rfl⟩ := hh4
    obtain rfl : H4 = H' := eH5.symm
    walk_at "tlN"
    have xU : k ∉ U := fun z => by
      obtain ⟨e, e1, e2, e3⟩ := tU k z
      have := nodup_le dU sU
      omega
    refine i_d (fun hd => ?_) (fun hd => ?_)
    · refine w_body ?_
      have le2 := nodup_le (V := k :: U) (List.nodup_cons.mpr ⟨xU, dU⟩) (fun y hy => by
        rcases List.mem_cons.mp hy with rfl | hy
        · exact hd
        · exact sU y hy)
      rw [List.length_cons, List.length_map] at le2
      walk_at "tlN"
      rename_i u0 u1
      refine ⟨l.length - (k :: U).length, by rw [List.length_cons]; omega, (k + 1) % 1152921504606846976, k :: U, rfl, rfl, u0, u1, List.nodup_cons.mpr ⟨xU, dU⟩, fun y hy => ?_, fun y hy => ?_, rfl⟩
      · rcases List.mem_cons.mp hy with rfl | hy
        · exact hd
        · exact sU y hy
      · rcases List.mem_cons.mp hy with rfl | hy
        · exact ⟨1, by omega, by rw [List.length_cons]; omega, rfl⟩
        · obtain ⟨e, e1, e2, e3⟩ := tU y hy
          exact ⟨e + 1, by omega, by rw [List.length_cons]; omega, by omega⟩

    clear sU tU xU dU
    have kkt : keyV (.int key) = true := decide_eq_true k01
    walk_at "tls"
    refine ⟨a, D, w, f, 1, l, Z4, .int key, .str tx0.1, "int", "str", rfl, tb4, .int key, .str _ (by decide), by decide, by decide, fun c => absurd c (by decide), fun word o rf => (rf.told1 rfl kkt km).elim, fun c => absurd c (by decide), fun _ k' ek hm p5 Z5 H5 t5 tb5 f5 => ?_⟩
    cases ek
    have dm5 := dm4.tt t5 (nm_cons nDd.symm nm_nil)
    have hh5 := hh4.tt t5 (nm_cons nhD nm_nil)
    have z5 := t5.zh
    walk_at "tls"
    rename_i p6 Z6 H6 n6 t6 f6
    have i5 : Ik Z6 (.ref p5) ((txTold, (none : Option Int)) : Tx × Option Int) := Ik.pair (t6.z _ _ f5) (Ik.tx txTold) Ik.no
    have i6 : Ik Z6 (.ref p6) ((txTold, (none : Option Int)) : Tx × Option Int) := Ik.pair f6 (Ik.tx txTold) Ik.no
    refine s_neP (Ik.ex t6.zh i5).is (Ik.ex t6.zh i6).is (by decide) ?_
    have tb6 := tb5.tt t6 nm_nil
    have z6 := t6.zh
    walk_at "tls"
    generalize hl1 : outE l key = l1 at tb6 tb5
    refine ⟨a, D, w, f, l1, Z6, rfl, tb6, fun pk Z7 H7 t7 tb7 ik7 => ?_⟩
    have T7 : T [h, D, d] Z H Z7 H7 := ((T4.step t5 (mm_1 (.inl (by simp)))).step t6 mm_nil).step t7 (mm_1 (.inl (by simp)))
    have dm7 := (dm5.tt t6 nm_nil).tt t7 (nm_cons nDd.symm nm_nil)
    have hh7 := (hh5.tt t6 nm_nil).tt t7 (nm_cons nhD nm_nil)
    have z7 := t7.zh
    have nk1 : key ∉ l1.map Prod.fst := fun hm => by
      rw [← hl1] at hm
      obtain ⟨e, he, ek⟩ := List.mem_map.mp hm
      exact of_decide_eq_true (List.mem_filter.mp he).2 ek
    clear t5 t6 t7 i5 i6 f5 f6 dm5 hh5 tb5 tb6 z5 z6 tb4 dm4 hh4 z4 T4
    walk_at "tls"
    rename_i pl Z8 H8 n8 t8 f8
    refine u_forL (fun j σ H' => ∃ (Z' : Hp) (y9 : Option V), σ = [some (.ref a), some (.ref h), some (.ref d), some (.str x.1), some (.ref p1), some (.int key), some (.int (roomsT f l)), some (.int k), some (.ref pk), y9] ∧ T [D] Z7 H7 Z' H' ∧ Tb K Z' H' a D w f l1 ∧ Z' pl = some (.lst [.int 1, .int 2])) (sq_of (t8.zh _ _ f8)) ⟨Z8, _, rfl, (T.refl z7 : T [D] Z7 H7 Z7 H7).step t8 mm_nil, tb7.tt t8 nm_nil, f8⟩ (fun j σ H' _ hh => ?_) (fun j v σ H9 hx hh => ?_) (fun σ H' hh => ?_)
    · obtain ⟨Z', _, _, t, _, fp⟩ := hh
      exact sq_of (t.zh _ _ fp)
    · obtain ⟨Z9, y9, rfl, t9, tb9, fp9⟩ := hh
      obtain ⟨way, rfl, hw⟩ : ∃ way : Int, v = .int way ∧ (way = 1 ∨ way = 2) := by
        have := List.mem_of_getElem? hx
        simp only [List.mem_cons, List.not_mem_nil, or_false] at this
        rcases this with rfl | rfl
        · exact ⟨1, rfl, .inl rfl⟩
        · exact ⟨2, rfl, .inr rfl⟩
      have z9 := t9.zh
      have rf : Refd f l1 way (.int key) (.str tx0.1) "lacking" (.int key) := .inr (.inr (.inr (.inl ⟨hw, ⟨key, rfl, kkt, nk1⟩, rfl, rfl⟩)))
      walk_at "tls"
      refine ⟨a, D, w, f, way, l1, Z9, .int key, .str tx0.1, "int", "str", rfl, tb9, .int key, .str _ (by decide), by omega, by omega, fun _ => ⟨_, _, rf⟩, fun word' o' rf' q1 Z1 H1 t1 tb1 f1 => ?_, fun ew => by omega, fun ew k' ek hm => ?_⟩
      · obtain ⟨rfl, rfl⟩ := rf.uniq rf'
        have z1 := t1.zh
        walk_at "tls"
        rename_i p6 Z2 H2 n2 t2 f2
        have i5 : Ik Z2 (.ref q1) ((txLack, key) : Tx × Int) := Ik.pair (t2.z _ _ f1) (Ik.tx txLack) (Ik.int _)
        have i6 : Ik Z2 (.ref p6) ((txLack, key) : Tx × Int) := Ik.pair f2 (Ik.tx txLack) (Ik.int _)
        refine s_neP (Ik.ex t2.zh i5).is (Ik.ex t2.zh i6).is (by decide) ?_
        have tb2 := tb1.tt t2 nm_nil
        have z2 := t2.zh
        walk_at "tls"
        refine ⟨a, D, w, f, l1, Z2, rfl, tb2, fun p3 Z3 H3 t3 tb3 ik3 => ?_⟩
        have z3 := t3.zh
        walk_at "tls"
        refine s_neP (x := stT w f l1) (y := stT w f l1) (Ik.ex z3 ik3).is (Ik.ex (t9.z.trans (t1.z.trans (t2.z.trans (t3.z.trans z3)))) ik7).is (by decide) ?_
        walk_at "tls"
        exact ⟨Z3, _, rfl, ((t9.step t1 (mm_1 (.inl (by simp)))).step t2 mm_nil).step t3 (mm_1 (.inl (by simp))), tb3, t3.z _ _ (t2.z _ _ (t1.z _ _ fp9))⟩
      · cases ek
        exact absurd hm nk1
    · obtain ⟨Z9, y9, rfl, t9, tb9, fp9⟩ := hh
      have z9 := t9.zh
      obtain ⟨dx9, ha9⟩ := tb9.at_
      have dm9 := dm7.tt t9 (nm_cons nDd.symm nm_nil)
      have hh9 := hh7.tt t9 (nm_cons nhD nm_nil)
      have T9 : T [h, D, d] Z H Z9 H' := T7.step t9 (mm_1 (.inl (by simp)))
      clear t9 t8 f8 fp9 T7 dm7 hh7 tb7 z7 ik7
      walk_at "tls"
      refine s_tcut (fun b H'' => ∃ Z', b = false ∧ T [D] Z9 H' Z' H'' ∧ Tb K Z' H'' a D w f l1) ?_ ?_
      · walk_at "tls"
        by_cases hc : roomsT f l1 < roomsT f l
        · rw [if_pos (decide_eq_true hc)]
          have rf : Refd f l1 4 (.int (roomsT f l - 1)) (.str tx0.1) "room" (.int (roomsT f l - 1)) := .inr (.inr (.inr (.inr ⟨rfl, fun r e => by cases e; omega, rfl, rfl⟩)))
          walk_at "tls"
          refine ⟨a, D, w, f, 4, l1, Z9, .int (roomsT f l - 1), .str tx0.1, "int", "str", rfl, tb9, .int _, .str _ (by decide), by decide, by decide, fun _ => ⟨_, _, rf⟩, fun word' o' rf' q1 Z1 H1 t1 tb1 f1 => ?_, fun ew => absurd ew (by decide), fun ew => absurd ew (by decide)⟩
          obtain ⟨rfl, rfl⟩ := rf.uniq rf'
          have z1 := t1.zh
          walk_at "tls"
          rename_i p6 Z2 H2 n2 t2 f2
          have i5 : Ik Z2 (.ref q1) ((txRoom, roomsT f l - 1) : Tx × Int) := Ik.pair (t2.z _ _ f1) (Ik.tx txRoom) (Ik.int _)
          have i6 : Ik Z2 (.ref p6) ((txRoom, roomsT f l - 1) : Tx × Int) := Ik.pair f2 (Ik.tx txRoom) (Ik.int _)
          refine s_neP (Ik.ex t2.zh i5).is (Ik.ex t2.zh i6).is (by decide) ?_
          walk_at "tls"
          exact ⟨Z2, decide_eq_false (fun h => h rfl), t1.step t2 mm_nil, tb1.tt t2 nm_nil⟩
        · rw [if_neg (by rw [decide_eq_true_eq]; exact hc)]
          walk_at "tls"
          exact ⟨Z9, rfl, T.refl z9, tb9⟩
      rintro b H10 ⟨Z10, rfl, t10, tb10⟩
      have dm10 := dm9.tt t10 (nm_cons nDd.symm nm_nil)
      have hh10 := hh9.tt t10 (nm_cons nhD nm_nil)
      have T10 : T [h, D, d] Z H Z10 H10 := T9.step t10 (mm_1 (.inl (by simp)))
      have z10 := t10.zh
      obtain ⟨tx, htx⟩ := keys_of_mem km
      clear t10 tb9 dm9 hh9 z9 T9 ha9
      walk_at "tls"
      refine t_dpa dm10 rfl htx fun Z11 H11 t11 dm11 => ?_
      rw [hl1] at dm11
      have z11 := t11.zh
      have ll1 : l1.length + 1 = l.length := by rw [← hl1]; exact outE_len ky km
      have tb11 := tb10.tt t11 (nm_cons nDd nm_nil)
      have hh11 := hh10.tt t11 (nm_cons nhd nm_nil)
      walk_at "tls"
      rename_i Z12 H12 t12 dm12
      have tb12 := tb11.tt t12 (nm_cons nDd nm_nil)
      have hh12 := hh11.tt t12 (nm_cons nhd nm_nil)
      have z12 := t12.zh
      have nk2 : k ∉ l1.map Prod.fst := fun hm => by
        rw [← hl1] at hm
        obtain ⟨e, he, rfl⟩ := List.mem_map.mp hm
        exact hd (List.mem_map_of_mem (List.mem_filter.mp he).1)
      refine ⟨a, D, w, f, 0, l1, Z12, .int k, .str x.1, "int", "str", rfl, tb12, .int k, .str _ (nameB_len nx), by decide, by decide, fun c => absurd c (by decide), fun word o rf => (rf.told0 rfl (decide_eq_true ⟨k0, k1⟩) nx (.inr (by omega))).elim, fun _ k' x' ek et c1 c2 hl p13 Z13 H13 t13 tb13 f13 => ?_, fun c => absurd c (by decide)⟩
      cases ek
      have ex' : x' = x := Subtype.ext (V.str.inj et).symm
      subst ex'
      have z13 := t13.zh
      walk_at "tls"
      rename_i p14 Z14 H14 n14 t14 f14
      have i13 : Ik Z14 (.ref p13) ((txTold, (none : Option Int)) : Tx × Option Int) := Ik.pair (t14.z _ _ f13) (Ik.tx txTold) Ik.no
      have i14 : Ik Z14 (.ref p14) ((txTold, (none : Option Int)) : Tx × Option Int) := Ik.pair f14 (Ik.tx txTold) Ik.no
      refine s_eqP (Ik.ex t14.zh i13).is (Ik.ex t14.zh i14).is (by decide) ?_
      rw [decide_eq_true rfl]
      refine q (setE l1 k x') Z14 H14 (by rw [setE_len_out nk2]; omega) ((((T10.step t11 (mm_1 (.inl (by simp)))).step t12 (mm_1 (.inl (by simp)))).step t13 (mm_1 (.inl (by simp)))).step t14 mm_nil) (tb13.tt t14 nm_nil) (((hh12.tt t13 (nm_cons nhD nm_nil)).tt t14 nm_nil).mono (by omega)) ((dm12.tt t13 (nm_cons nDd.symm nm_nil)).tt t14 nm_nil)

/-! ### _law_alike -/
noncomputable def sp_law_alike (K : PySem.W.Frag) : Sp := fun vs H Q _ => ∃ (p q : Addr) (v : V) (n : String) (word : Tx) (Z : Hp), vs = [.ref p, .ref q] ∧ Ex Z H ∧ OddX Z v n ∧ Z p = some (.tup [.str word.1, v]) ∧ Z q = some (.tup [.str word.1, v]) ∧ Q (.bl true) H
theorem has_law_alike (z : Z K mg) (F : FunAt K mg "_law_alike" s_law_alike ["_law_got", "_law_due"])  : Has P w K mg base "_law_alike" 1 (sp_law_alike K) := by
  refine has_of F sc_law_alike (fun vs H Q E h => ?_) (fun f cdv A outer s H vs Q E hr h => ?_)
  · obtain ⟨_, _, _, _, _, _, rfl, _⟩ := h
    rfl
  · obtain ⟨p, p1, v, n, word, Z, rfl, z0, ov, fp, fq, q⟩ := h
    refine ⟨_, (pss_one (ps_ret (pe_and (pe_cmpR (eqTA (K := K) rfl (Room.u65 hr)) (pv 0) (pv 1) (nomark _)) (pe_one (pe_cmpR (eqA (K := K) rfl hr.units) (pe_callB (id := "isinstance") (isiA (K := K) rfl) (by rfl) z.b_isinstance (by decide +kernel) (pa_cons (pe_ix (ixA (K := K) rfl) (pv 0) pe_int (fun _ _ => rfl)) (pa_cons (pe_bltn (v := .ty "bool") (by rfl) z.b_bool (by decide +kernel) rfl) pa_nil))) (pe_callB (id := "isinstance") (isiA (K := K) rfl) (by rfl) z.b_isinstance (by decide +kernel) (pa_cons (pe_ix (ixA (K := K) rfl) (pv 1) pe_int (fun _ _ => rfl)) (pa_cons (pe_bltn (v := .ty "bool") (by rfl) z.b_bool (by decide +kernel) rfl) pa_nil))) (nomark _)))))), ?_⟩
    walk_at "cx"
    have fpH := z0 _ _ fp
    have fqH := z0 _ _ fq
    walk_at "tls"
    refine ⟨p, p1, _, _, fun _ => true, rfl, rfl, st_of fpH, st_of fqH, rfl, fun j a b ha hb => ?_, ?_⟩
    · match j, ha, hb with
      | 0, ha, hb =>
        cases ha
        cases hb
        have h : EqV K H (.str word.1) (.str word.1) _ := .dat (.str word.1) (.str word.1) (tx_shaped word) (tx_shaped word)
        rw [show PyData.eqv (.str word.1) (.str word.1) = true by simp [PyData.eqv]] at h
        exact h
      | 1, ha, hb =>
        cases ha
        cases hb
        exact ov.eqV
      | j + 2, ha, _ => cases ha
    walk_at "tls"
    rw [if_pos (show ((List.range ([.str word.1, v] : List V).length).all fun _ => true) = true from rfl)]
    cases ov with
    | odd ov =>
      cases ov with
      | int i =>
        walk_at "tls"
        exact q
      | bl b =>
        walk_at "tls"
        exact q
      | str x h =>
        walk_at "tls"
        exact q
      | non =>
        walk_at "tls"
        exact q
      | lst h =>
        have hH := z0 _ _ h
        walk_at "tls"
        exact q
      | tup h =>
        have hH := z0 _ _ h
        walk_at "tls"
        exact q
      | dct h =>
        have hH := z0 _ _ h
        walk_at "tls"
        refine s_isiDk hH k_db ?_
        walk_at "tls"
        refine s_isiDk hH k_db ?_
        walk_at "tls"
        exact q
    | ltx h =>
      have hH := z0 _ _ h
      walk_at "tls"
      exact q

/-! ### _law_odd_thing -/
noncomputable def sp_law_odd_thing (K : PySem.W.Frag) : Sp := fun vs H Q _ => ∃ (h : Addr) (x : Tx) (n : Nat) (Z : Hp), vs = [.ref h, .str x.1] ∧ Hand K Z H h (n + 4) ∧ nameB x.1 = true ∧
  ∀ (v : V) (m : String) Z' H', T [h] Z H Z' H' → Hand K Z' H' h n → OddX Z' v m → nameV v = false → Q v H'
theorem has_law_odd_thing (z : Z K mg) (F : FunAt K mg "_law_odd_thing" s_law_odd_thing ["_law_hand", "_law_thing_here"]) (h_law_draw : Has P w K mg base "_law_draw" 1 (sp_law_draw K)) : Has P w K mg base "_law_odd_thing" 2 (sp_law_odd_thing K) := by
  refine has_of F sc_law_odd_thing (fun vs H Q E h => ?_) (fun f cdv A outer s H vs Q E hr h => ?_)
  · obtain ⟨_, _, _, _, rfl, _⟩ := h
    rfl
  · obtain ⟨h, x, n, Z, rfl, hh, nx, q⟩ := h
    refine ⟨_, (pss_cons (ps_set (i := 2) sc_law_odd_thing.nd rfl (by first | exact Or.inl rfl | exact Or.inr rfl) (pe_callH h_law_draw (by decide) hr rfl (pa_cons (pv 0) (pa_cons pe_int pa_nil))))
        (pss_cons (ps_set (i := 3) sc_law_odd_thing.nd rfl (by first | exact Or.inl rfl | exact Or.inr rfl) (pe_op op_mod (pe_callH h_law_draw (by decide) hr rfl (pa_cons (pv 0) (pa_cons pe_int pa_nil))) (pe_callB (id := "len") (lenA (K := K) rfl) (by rfl) z.b_len (by decide +kernel) (pa_cons (pv 1) pa_nil))))
        (pss_cons (ps_set (i := 4) sc_law_odd_thing.nd rfl (by first | exact Or.inl rfl | exact Or.inr rfl) pe_str)
        (pss_cons (ps_set (i := 5) sc_law_odd_thing.nd rfl (by first | exact Or.inl rfl | exact Or.inr rfl) (pe_ix (ixA (K := K) rfl) (pv 4) (pe_callH h_law_draw (by decide) hr rfl (pa_cons (pv 0) (pa_cons (pe_callB (id := "len") (lenA (K := K) rfl) (by rfl) z.b_len (by decide +kernel) (pa_cons (pv 4) pa_nil)) pa_nil))) (fun _ _ => rfl)))
        (pss_cons (ps_if (pt_cmpR op_lt (pv 2) pe_int (nomark _)) (pss_one (ps_ret (pe_op op_plusA (pe_op op_plusA (pe_slice sl_str (pv 1) po_none (po_some (pv 3))) (pv 5)) (pe_slice sl_str (pv 1) (po_some (pe_op op_plusA (pv 3) pe_int)) po_none)))) pss_nil)
        (pss_one (ps_ret (pe_ix (ixA (K := K) rfl) (pe_lst (pa_cons pe_str (pa_cons pe_str (pa_cons pe_non (pa_cons pe_int (pa_cons (pe_lst (pa_cons (pv 1) pa_nil)) pa_nil)))))) (pe_op op_sub (pv 2) pe_int) (fun _ _ => rfl))))))))), ?_⟩
    walk_at "cx"
    have z0 : Ex Z H := hh.z
    have xl : 1 ≤ x.1.length ∧ x.1.length ≤ 8 := of_decide_eq_true (Bool.and_eq_true_iff.mp nx).1
    walk_at "tlN"
    rename_i wy Z1 H1 w0 w1 t1 hh1 r2 Z2 H2 r20 r21 t2 hh2
    refine s_lenS (show x.1.length ≤ 100000 by omega) ?_
    walk_at "tlN"
    refine s_lenS (z := signsX) (by decide +kernel) ?_
    rw [signsX_len]
    walk_at "tlN"
    rename_i at0 at1 r3 Z3 H3 r30 r31 t3 hh3
    refine s_ixStr (z := signsX) (by have := signsX_len; exact ⟨r30, by have e : (TL.tl signsX).length = signsX.length := Array.length_toList; omega⟩) (by decide +kernel) fun c hc => ?_
    obtain ⟨nc, oc⟩ := signsX_no c hc
    have T3 : T [h] Z H Z3 H3 := ((T.refl z0 : T [h] Z H Z H).step t1 mm_same).step t2 mm_same |>.step t3 mm_same
    have z3 := t3.zh
    walk_at "tlN"
    refine i_d (fun hw => ?_) (fun hw => ?_)
    · walk_at "tlN"
      refine s_slS (by omega) ?_
      have l1 := cutS_lenX (x := x.1) (lo := none) (hi := some (r2 % (x.1.length : Int)))
      have l2 := cutS_lenX (x := x.1) (lo := some (r2 % (x.1.length : Int) + 1)) (hi := none)
      walk_at "tlN"
      refine s_plusS (by show _ + 1 ≤ 1000; omega) ?_
      walk_at "tlN"
      refine s_slS (by omega) ?_
      walk_at "tlN"
      have l3 := str_app_len (cutS x.1 none (some (r2 % (x.1.length : Int)))) ⟨#[c]⟩
      have l4 : (⟨#[c]⟩ : Str).length = 1 := rfl
      refine s_plusS (by omega) ?_
      walk_at "tlN"
      have l5 := str_app_len (cutS x.1 none (some (r2 % (x.1.length : Int))) ++ ⟨#[c]⟩) (cutS x.1 (some (r2 % (x.1.length : Int) + 1)) none)
      exact q _ _ Z3 H3 T3 (hh3.mono (by omega)) (.odd (.str ⟨_, strOk_plus (strOk_plus (strOk_part x.2) (strOk_sign oc)) (strOk_part x.2)⟩ (by show (_ ++ _ ++ _ : Str).length ≤ 100000; omega))) (name_sign nc)
    · walk_at "tlN"
      refine t_newF z3 (by show 1 ≤ 100000; decide) fun p4 Z4 H4 n4 t4 f4 => ?_
      have z4 := t4.zh
      walk_at "tlN"
      refine t_newF z4 (by show 5 ≤ 100000; decide) fun p5 Z5 H5 n5 t5 f5 => ?_
      have z5 := t5.zh
      walk_at "tlN"
      refine ixGo (sq_of (t5.zh _ _ f5)) (ig_mem ⟨by omega, by show _ < (5 : Int); omega⟩ fun v hv _ => ?_)
      have T5 : T [h] Z H Z5 H5 := (T3.step t4 mm_nil).step t5 mm_nil
      have hh5 := ((hh3.tt t4 nm_nil).tt t5 nm_nil).mono (m := n) (by omega)
      simp only [List.mem_cons, List.not_mem_nil, or_false] at hv
      rcases hv with rfl | rfl | rfl | rfl | rfl
      · exact q _ _ Z5 H5 T5 hh5 (.odd (.str ⟨"", by decide +kernel⟩ (by decide))) (by decide +kernel)
      · exact q _ _ Z5 H5 T5 hh5 (.odd (.str ⟨"abcdefghi", by decide +kernel⟩ (by decide))) (by decide +kernel)
      · exact q _ _ Z5 H5 T5 hh5 (.odd .non) rfl
      · exact q _ _ Z5 H5 T5 hh5 (.odd (.int _)) rfl
      · exact q _ _ Z5 H5 T5 hh5 (.ltx (t5.z _ _ f4)) rfl

/-! ### _law_odd_key -/
noncomputable def sp_law_odd_key (K : PySem.W.Frag) : Sp := fun vs H Q _ => ∃ (h : Addr) (n : Nat) (Z : Hp), vs = [.ref h] ∧ Hand K Z H h (n + 3) ∧
  ∀ (v : V) (m : String) Z' H', T [h] Z H Z' H' → Hand K Z' H' h n → OddX Z' v m → keyV v = false → Q v H'
theorem has_law_odd_key (z : Z K mg) (F : FunAt K mg "_law_odd_key" s_law_odd_key ["_law_hand"]) (h_law_draw : Has P w K mg base "_law_draw" 1 (sp_law_draw K)) : Has P w K mg base "_law_odd_key" 2 (sp_law_odd_key K) := by
  refine has_of F sc_law_odd_key (fun vs H Q E h => ?_) (fun f cdv A outer s H vs Q E hr h => ?_)
  · obtain ⟨_, _, _, rfl, _⟩ := h
    rfl
  · obtain ⟨h, n, Z, rfl, hh, q⟩ := h
    refine ⟨_, (pss_cons (ps_set (i := 1) sc_law_odd_key.nd rfl (by first | exact Or.inl rfl | exact Or.inr rfl) (pe_op op_plusA (pe_op op_pow pe_int pe_int) (pe_callH h_law_draw (by decide) hr rfl (pa_cons (pv 0) (pa_cons pe_int pa_nil)))))
        (pss_cons (ps_set (i := 2) sc_law_odd_key.nd rfl (by first | exact Or.inl rfl | exact Or.inr rfl) (pe_lst (pa_cons (pe_un un_neg pe_int) (pa_cons (pe_op op_pow pe_int pe_int) (pa_cons (pv 1) (pa_cons (pe_op op_sub pe_int (pv 1)) (pa_cons pe_bl (pa_cons pe_bl (pa_cons pe_non (pa_cons pe_str (pa_cons (pe_tup (pa_cons pe_int pa_nil)) (pa_cons (pe_lst (pa_cons pe_int pa_nil)) (pa_cons pe_dnewK pa_nil)))))))))))))
        (pss_one (ps_ret (pe_ix (ixA (K := K) rfl) (pv 2) (pe_callH h_law_draw (by decide) hr rfl (pa_cons (pv 0) (pa_cons pe_int pa_nil))) (fun _ _ => rfl)))))), ?_⟩
    walk_at "cx"
    have z0 : Ex Z H := hh.z
    walk_at "tlN"
    rename_i r Z1 H1 r0 r1 t1 hh1 p2 Z2 H2 n2 t2 f2
    refine t_newF t2.zh (by show 1 ≤ 100000; decide) fun p3 Z3 H3 n3 t3 f3 => ?_
    have z3 := t3.zh
    walk_at "tlN"
    rename_i d4 Z4 H4 n4 t4 dm4
    obtain ⟨Z5, H5, eH, t5, fd⟩ := dm4.frq
    rw [← eH]
    clear eH
    refine t_newF t5.zh (by show 11 ≤ 100000; decide) fun pL Z6 H6 n6 t6 f6 => ?_
    have n4' : H d4 = none := t1.nn (t2.nn (t3.nn n4))
    have nhd : h ≠ d4 := ne_alB n4' hh.at
    have hh6 := ((((hh1.tt t2 nm_nil).tt t3 nm_nil).tt t4 nm_nil).tt t5 (nm_cons nhd nm_nil)).tt t6 nm_nil
    have T6' : T [h] Z H Z6 H6 := ((((((T.refl z0 : T [h] Z H Z H).step t1 mm_same).step t2 mm_nil).step t3 mm_nil).step t4 mm_nil).step t5 (mm_1 (.inr n4'))).step t6 mm_nil
    have z6 := t6.zh
    have e60 : (2 : Int) ^ Int.toNat 60 = 1152921504606846976 := by decide +kernel
    have e25 : (10 : Int) ^ Int.toNat 25 = 10000000000000000000000000 := by decide +kernel
    have g2 := t6.z _ _ (t5.z _ _ (t4.z _ _ (t3.z _ _ f2)))
    have g3 := t6.z _ _ (t5.z _ _ (t4.z _ _ f3))
    have gd := t6.z _ _ fd
    obtain ⟨vs, fL, vl, od⟩ : ∃ vs : List V, Z6 pL = some (.lst vs) ∧ vs.length = 11 ∧ ∀ v ∈ vs, (∃ m, OddX Z6 v m) ∧ keyV v = false := by
      refine ⟨_, f6, rfl, fun v hv => ?_⟩
      have ki : ∀ i : Int, ¬ (0 ≤ i ∧ i < 1152921504606846976) → keyV (.int i) = false := fun i h => decide_eq_false h
      simp only [List.mem_cons, List.not_mem_nil, or_false] at hv
      rcases hv with rfl | rfl | rfl | rfl | rfl | rfl | rfl | rfl | rfl | rfl | rfl
      · exact ⟨⟨_, .odd (.int _)⟩, ki _ (by omega)⟩
      · exact ⟨⟨_, .odd (.int _)⟩, ki _ (by omega)⟩
      · exact ⟨⟨_, .odd (.int _)⟩, ki _ (by omega)⟩
      · exact ⟨⟨_, .odd (.int _)⟩, ki _ (by omega)⟩
      · exact ⟨⟨_, .odd (.bl _)⟩, rfl⟩
      · exact ⟨⟨_, .odd (.bl _)⟩, rfl⟩
      · exact ⟨⟨_, .odd .non⟩, rfl⟩
      · exact ⟨⟨_, .odd (.str ⟨"5", by decide +kernel⟩ (by decide))⟩, rfl⟩
      · exact ⟨⟨_, .odd (.tup g2)⟩, rfl⟩
      · exact ⟨⟨_, .odd (.lst g3)⟩, rfl⟩
      · exact ⟨⟨_, .odd (.dct gd)⟩, rfl⟩
    clear f6 gd g2 g3 fd f2 f3
    walk_at "tlN"
    rename_i k7 Z7 H7 k70 k71 t7 hh7
    have fL7 := t7.z _ _ fL
    walk_at "tlN"
    refine ixGo (sq_of (t7.zh _ _ fL7)) (ig_mem ⟨k70, by rw [vl]; omega⟩ fun v hv _ => ?_)
    obtain ⟨⟨m, ov⟩, kf⟩ := od v hv
    exact q v m Z7 H7 (T6'.step t7 mm_same) (hh7.mono (by omega)) (ov.ex t7.z) kf

/-! ### _law_refused -/
noncomputable def sp_law_refused (K : PySem.W.Frag) : Sp := fun vs H Q _ => ∃ (a D h d : Addr) (w f : Int) (l : TR.Row) (x : Tx) (Z : Hp) (n : Nat), vs = [.ref a, .ref h, .ref d, .str x.1] ∧ Tb K Z H a D w f l ∧ Hand K Z H h (n + 100) ∧ Dm Z H d l ∧ h ≠ D ∧ h ≠ d ∧ D ≠ d ∧ nameB x.1 = true ∧
  ∀ Z' H', T [h, D] Z H Z' H' → Tb K Z' H' a D w f l → Hand K Z' H' h n → Dm Z' H' d l → Q (.bl true) H'
theorem has_law_refused (z : Z K mg) (F : FunAt K mg "_law_refused" s_law_refused ["_law_table", "_law_hand", "_law_model", "_law_thing_here"]) (h_law_state : Has P w K mg base "_law_state" 7 (sp_law_state K)) (h_law_alike : Has P w K mg base "_law_alike" 1 (sp_law_alike K)) (h_law_done : Has P w K mg base "_law_done" 6 (sp_law_done K)) (h_law_draw : Has P w K mg base "_law_draw" 1 (sp_law_draw K)) (h_law_key : Has P w K mg base "_law_key" 3 (sp_law_key K)) (h_law_odd_thing : Has P w K mg base "_law_odd_thing" 2 (sp_law_odd_thing K)) (h_law_odd_key : Has P w K mg base "_law_odd_key" 2 (sp_law_odd_key K)) (hm_Table_rooms : HasM P w K mg base "Table" "rooms" 2 (sp_Table_rooms K)) : Has P w K mg base "_law_refused" 8 (sp_law_refused K) := by
  refine has_of F sc_law_refused (fun vs H Q E h => ?_) (fun f cdv A outer s H vs Q E hr h => ?_)
  · obtain ⟨_, _, _, _, _, _, _, _, _, _, rfl, _⟩ := h
    rfl
  · obtain ⟨a, D, h, d, w, f, l, x, Z, n, rfl, tb, hh, dm, nhD, nhd, nDd, nx, q⟩ := h
    refine ⟨_, (pss_cons (ps_set (i := 4) sc_law_refused.nd rfl (by first | exact Or.inl rfl | exact Or.inr rfl) (pe_callH h_law_state (by decide) hr rfl (pa_cons (pv 0) pa_nil)))
        (pss_cons (ps_set (i := 5) sc_law_refused.nd rfl (by first | exact Or.inl rfl | exact Or.inr rfl) (pe_callH h_law_odd_key (by decide) hr rfl (pa_cons (pv 1) pa_nil)))
        (pss_cons (ps_set (i := 6) sc_law_refused.nd rfl (by first | exact Or.inl rfl | exact Or.inr rfl) (pe_callH h_law_draw (by decide) hr rfl (pa_cons (pv 1) (pa_cons pe_int pa_nil))))
        (pss_cons (ps_set (i := 7) sc_law_refused.nd rfl (by first | exact Or.inl rfl | exact Or.inr rfl) (pe_callH h_law_odd_thing (by decide) hr rfl (pa_cons (pv 1) (pa_cons (pv 3) pa_nil))))
        (pss_cons (ps_set (i := 8) sc_law_refused.nd rfl (by first | exact Or.inl rfl | exact Or.inr rfl) (pe_callH h_law_key (by decide) hr rfl (pa_cons (pv 1) pa_nil)))
        (pss_cons (ps_while PassesOwn.never (pt_cmp (pc_din (hu_of hr) (pv 8) (pv 2))) (pss_one (ps_set (i := 8) sc_law_refused.nd rfl (by first | exact Or.inl rfl | exact Or.inr rfl) (pe_op op_mod (pe_op op_plusA (pv 8) pe_int) (pe_op op_pow pe_int pe_int)))))
        (pss_cons (ps_set (i := 9) sc_law_refused.nd rfl (by first | exact Or.inl rfl | exact Or.inr rfl) (pe_lst (pa_cons (pe_tup (pa_cons pe_int (pa_cons (pv 5) (pa_cons (pv 7) (pa_cons (pe_tup (pa_cons pe_str (pa_cons (pv 5) pa_nil))) pa_nil))))) (pa_cons (pe_tup (pa_cons pe_int (pa_cons (pv 8) (pa_cons (pv 7) (pa_cons (pe_tup (pa_cons pe_str (pa_cons (pv 7) pa_nil))) pa_nil))))) (pa_cons (pe_tup (pa_cons pe_int (pa_cons (pv 5) (pa_cons pe_str (pa_cons (pe_tup (pa_cons pe_str (pa_cons (pv 5) pa_nil))) pa_nil))))) pa_nil)))))
        (pss_cons (ps_set (i := 9) sc_law_refused.nd rfl (by first | exact Or.inl rfl | exact Or.inr rfl) (pe_op op_plusA (pv 9) (pe_lst (pa_cons (pe_tup (pa_cons pe_int (pa_cons (pv 5) (pa_cons pe_str (pa_cons (pe_tup (pa_cons pe_str (pa_cons (pv 5) pa_nil))) pa_nil))))) (pa_cons (pe_tup (pa_cons pe_int (pa_cons (pv 5) (pa_cons pe_str (pa_cons (pe_tup (pa_cons pe_str (pa_cons (pv 5) pa_nil))) pa_nil))))) (pa_cons (pe_tup (pa_cons pe_int (pa_cons (pv 5) (pa_cons (pv 3) (pa_cons (pe_tup (pa_cons pe_str (pa_cons (pv 5) pa_nil))) pa_nil))))) pa_nil))))))
        (pss_cons (ps_set (i := 9) sc_law_refused.nd rfl (by first | exact Or.inl rfl | exact Or.inr rfl) (pe_lst (pa_cons (pe_ix (ixA (K := K) rfl) (pv 9) (pv 6) (fun _ _ => rfl)) (pa_cons (pe_tup (pa_cons pe_int (pa_cons (pv 8) (pa_cons pe_str (pa_cons (pe_tup (pa_cons pe_str (pa_cons (pv 8) pa_nil))) pa_nil))))) (pa_cons (pe_tup (pa_cons pe_int (pa_cons (pv 8) (pa_cons pe_str (pa_cons (pe_tup (pa_cons pe_str (pa_cons (pv 8) pa_nil))) pa_nil))))) pa_nil)))))
        (pss_cons (ps_set (i := 10) sc_law_refused.nd rfl (by first | exact Or.inl rfl | exact Or.inr rfl) (pe_lst (pa_cons (pe_methK0 (K := K) rfl px0 z.k_Table hm_Table_rooms (by decide) hr (pv 0)) (pa_cons (pe_un un_neg pe_int) (pa_cons (pe_op op_pow pe_int pe_int) (pa_cons pe_bl (pa_cons pe_non (pa_cons pe_str (pa_cons (pe_tup (pa_cons pe_int pa_nil)) pa_nil)))))))))
        (pss_cons (ps_set (i := 11) sc_law_refused.nd rfl (by first | exact Or.inl rfl | exact Or.inr rfl) (pe_ix (ixA (K := K) rfl) (pv 10) (pe_callH h_law_draw (by decide) hr rfl (pa_cons (pv 1) (pa_cons pe_int pa_nil))) (fun _ _ => rfl)))
        (pss_cons (ps_expr (pe_bm PySem.F.plainAttrs_list PySem.F.slot_list_append PySem.F.type_list_append mt_append (pv 9) (pa_cons (pe_tup (pa_cons pe_int (pa_cons (pv 11) (pa_cons pe_str (pa_cons (pe_tup (pa_cons pe_str (pa_cons (pv 11) pa_nil))) pa_nil))))) pa_nil)))
        (pss_cons (ps_set (i := 10) sc_law_refused.nd rfl (by first | exact Or.inl rfl | exact Or.inr rfl) (pe_callB (id := "sorted") (sortNA rfl) (by rfl) z.b_sorted (by decide +kernel) (pa_cons (pv 2) pa_nil)))
        (Evl.pss_cut (ps_if (pt_cmpR (neA (K := K) rfl hr.units) (pv 10) (pe_lst pa_nil) (nomark _)) (pss_one (ps_expr (pe_bm PySem.F.plainAttrs_list PySem.F.slot_list_append PySem.F.type_list_append mt_append (pv 9) (pa_cons (pe_tup (pa_cons pe_int (pa_cons (pe_ix (ixA (K := K) rfl) (pv 10) (pe_op op_mod (pe_callH h_law_draw (by decide) hr rfl (pa_cons (pv 1) (pa_cons pe_int pa_nil))) (pe_callB (id := "len") (lenA (K := K) rfl) (by rfl) z.b_len (by decide +kernel) (pa_cons (pv 10) pa_nil))) (fun _ _ => rfl)) (pa_cons (pv 7) (pa_cons (pe_tup (pa_cons pe_str (pa_cons (pv 7) pa_nil))) pa_nil))))) pa_nil)))) pss_nil)
        (Evl.pss_cut (ps_if (pt_cmpR (eqA (K := K) rfl hr.units) (pe_callB (id := "len") lenDA (by rfl) z.b_len (by decide +kernel) (pa_cons (pv 2) pa_nil)) pe_int (nomark _)) (pss_one (ps_set (i := 9) sc_law_refused.nd rfl (by first | exact Or.inl rfl | exact Or.inr rfl) (pe_op op_plusA (pv 9) (pe_lst (pa_cons (pe_tup (pa_cons pe_int (pa_cons (pv 8) (pa_cons (pv 3) (pa_cons (pe_tup (pa_cons pe_str (pa_cons pe_int pa_nil))) pa_nil))))) (pa_cons (pe_tup (pa_cons pe_int (pa_cons (pv 8) (pa_cons (pv 7) (pa_cons (pe_tup (pa_cons pe_str (pa_cons (pv 7) pa_nil))) pa_nil))))) pa_nil)))))) pss_nil)
        (pss_cons (ps_for PassesOwn.never rfl (piL (K := K) rfl (pv 9)) (pg_name (i := 12) sc_law_refused.nd rfl (by first | exact Or.inl rfl | exact Or.inr rfl)) (pss_one (ps_if (PW.pt (pw_or (pt_not (pt_val (pe_callH h_law_alike (by decide) hr rfl (pa_cons (pe_callH h_law_done (by decide) hr rfl (pa_cons (pv 0) (pa_cons (pe_ix (ixA (K := K) rfl) (pv 12) pe_int (fun _ _ => rfl)) (pa_cons (pe_ix (ixA (K := K) rfl) (pv 12) pe_int (fun _ _ => rfl)) (pa_cons (pe_ix (ixA (K := K) rfl) (pv 12) pe_int (fun _ _ => rfl)) pa_nil))))) (pa_cons (pe_ix (ixA (K := K) rfl) (pv 12) pe_int (fun _ _ => rfl)) pa_nil))))) (pw_or1 (pt_cmpR (neA (K := K) rfl hr.units) (pe_callH h_law_state (by decide) hr rfl (pa_cons (pv 0) pa_nil)) (pv 4) (nomark _))))) (pss_one (ps_ret pe_bl)) pss_nil)))
        (pss_one (ps_ret pe_bl)))))))))))))))))), ?_⟩
    walk_at "cx"
    have z0 : Ex Z H := hh.z
    obtain ⟨dx, ha⟩ := tb.at_
    have le := tb.le
    walk_at "tlN"
    refine ⟨a, D, w, f, l, Z, rfl, tb, fun pk Z1 H1 t1 tb1 ik => ?_⟩
    have hh1 := hh.tt t1 (nm_cons nhD nm_nil)
    have dm1 := dm.tt t1 (nm_cons nDd.symm nm_nil)
    walk_at "tlN"
    refine ⟨h, n + 97, Z1, rfl, hh1.mono (by omega), fun ok om Z2 H2 t2 hh2 ov kf => ?_⟩
    have tb2 := tb1.tt t2 (nm_cons nhD.symm nm_nil)
    have dm2 := dm1.tt t2 (nm_cons nhd.symm nm_nil)
    have z2 := t2.zh
    walk_at "tlN"
    rename_i wy Z3 H3 y0 y1 t3 hh3
    have tb3 := tb2.tt t3 (nm_cons nhD.symm nm_nil)
    have dm3 := dm2.tt t3 (nm_cons nhd.symm nm_nil)
    refine ⟨h, x, n + 92, Z3, rfl, hh3.mono (by omega), nx, fun bd bm Z4 H4 t4 hh4 bv nf => ?_⟩
    have tb4 := tb3.tt t4 (nm_cons nhD.symm nm_nil)
    have dm4 := dm3.tt t4 (nm_cons nhd.symm nm_nil)
    have z4 := t4.zh
    walk_at "tlN"
    rename_i x0 Z5 H5 x00 x01 t5 hh5
    have tb5 := tb4.tt t5 (nm_cons nhD.symm nm_nil)
    have dm5 := dm4.tt t5 (nm_cons nhd.symm nm_nil)
    have T5 : T [h, D] Z H Z5 H5 := ((((T.refl z0 : T [h, D] Z H Z H).step t1 (mm_1 (.inl (by simp)))).step t2 (mm_1 (.inl (by simp)))).step t3 (mm_1 (.inl (by simp)))).step t4 (mm_1 (.inl (by simp))) |>.step t5 (mm_1 (.inl (by simp)))
    have ov5 := ov.ex (t3.z.trans (t4.z.trans t5.z))
    have bv5 := bv.ex t5.z
    have ik5 := Ik.ex (t2.z.trans (t3.z.trans (t4.z.trans t5.z))) ik
    have z5 := t5.zh
    have lkl : (l.map Prod.fst).length = l.length := List.length_map ..
    have ath := hh.at
    have atD := tb.al
    have atd := dm.at_
    clear t1 t2 t3 t4 t5 tb tb1 tb2 tb3 tb4 hh hh1 hh2 hh3 hh4 dm dm1 dm2 dm3 dm4 ov bv ik z4 z2 ha
    refine u_while (fun c σ H' => ∃ (y : Int) (U : List Int), σ = [some (.ref a), some (.ref h), some (.ref d), some (.str x.1), some (.ref pk), some ok, some (.int wy), some bd, some (.int y), none, none, none, none] ∧ H' = H5 ∧ 0 ≤ y ∧ y < 1152921504606846976 ∧ U.Nodup ∧ (∀ u ∈ U, u ∈ l.map Prod.fst) ∧ (∀ u ∈ U, ∃ e : Nat, 1 ≤ e ∧ e ≤ U.length ∧ (u + e) % 1152921504606846976 = y) ∧ c = l.length - U.length) l.length
      ⟨x0, [], rfl, rfl, x00, x01, List.nodup_nil, fun _ h => (nomatch h), fun _ h => (nomatch h), rfl⟩ (fun c σ H' hh4 => ?_)
    obtain ⟨k, U, rfl, eH5, k0, k1, dU, sU, tU, rfl⟩ := hh4
    obtain rfl : H5 = H' := eH5.symm
    walk_at "tlN"
    have xU : k ∉ U := fun z => by
      obtain ⟨e, e1, e2, e3⟩ := tU k z
      have := nodup_le dU sU
      omega
    refine i_d (fun hd => ?_) (fun hd => ?_)
    · refine w_body ?_
      have le2 := nodup_le (V := k :: U) (List.nodup_cons.mpr ⟨xU, dU⟩) (fun y hy => by
        rcases List.mem_cons.mp hy with rfl | hy
        · exact hd
        · exact sU y hy)
      rw [List.length_cons, List.length_map] at le2
      walk_at "tlN"
      rename_i u0 u1
      refine ⟨l.length - (k :: U).length, by rw [List.length_cons]; omega, (k + 1) % 1152921504606846976, k :: U, rfl, rfl, u0, u1, List.nodup_cons.mpr ⟨xU, dU⟩, fun y hy => ?_, fun y hy => ?_, rfl⟩
      · rcases List.mem_cons.mp hy with rfl | hy
        · exact hd
        · exact sU y hy
      · rcases List.mem_cons.mp hy with rfl | hy
        · exact ⟨1, by omega, by rw [List.length_cons]; omega, rfl⟩
        · obtain ⟨e, e1, e2, e3⟩ := tU y hy
          exact ⟨e + 1, by omega, by rw [List.length_cons]; omega, by omega⟩

    clear sU tU xU dU
    walk_at "tlN"
    rename_i e1 Za1 Ha1 na1 ta1 fa1 p1 Zb1 Hb1 nb1 tb1 fb1 e2 Za2 Ha2 na2 ta2 fa2 p2 Zb2 Hb2 nb2 tb2 fb2 e3 Za3 Ha3 na3 ta3 fa3 p3 Zb3 Hb3 nb3 tb3 fb3
    refine t_newF tb3.zh (by show 3 ≤ 100000; decide) fun L1 Z6 H6 nL1 tL1 fL1 => ?_
    have xa1 := tb1.z.trans (ta2.z.trans (tb2.z.trans (ta3.z.trans (tb3.z.trans (tL1.z)))))
    have xb1 := ta2.z.trans (tb2.z.trans (ta3.z.trans (tb3.z.trans (tL1.z))))
    have xa2 := tb2.z.trans (ta3.z.trans (tb3.z.trans (tL1.z)))
    have xb2 := ta3.z.trans (tb3.z.trans (tL1.z))
    have xa3 := tb3.z.trans (tL1.z)
    have xb3 := tL1.z
    have x6 := ta1.z.trans (tb1.z.trans (ta2.z.trans (tb2.z.trans (ta3.z.trans (tb3.z.trans (tL1.z))))))
    have t6 : T [] Z5 H5 Z6 H6 := ((((((ta1.step tb1 mm_nil).step ta2 mm_nil).step tb2 mm_nil).step ta3 mm_nil).step tb3 mm_nil).step tL1 mm_nil)
    have kt : keyV (.int k) = true := decide_eq_true ⟨k0, k1⟩
    have ov6 := ov5.ex x6
    have bv6 := bv5.ex x6
    have as6 : ∀ v ∈ ([.ref p1, .ref p2, .ref p3] : List V), AskOk Z6 f l v := fun v hv => by
      simp only [List.mem_cons, List.not_mem_nil, or_false] at hv
      rcases hv with rfl | rfl | rfl
      · exact ⟨p1, e1, 0, ok, bd, ok, om, bm, om, txKey, rfl, xb1 _ _ fb1, xa1 _ _ fa1, ov6, bv6, ov6, by decide, by decide, .inl ⟨by decide, kf, rfl, rfl⟩⟩
      · exact ⟨p2, e2, 0, .int k, bd, bd, "int", bm, bm, txThing, rfl, xb2 _ _ fb2, xa2 _ _ fa2, odd_i k, bv6, bv6, by decide, by decide, .inr (.inl ⟨rfl, kt, nf, rfl, rfl⟩)⟩
      · exact ⟨p3, e3, 1, ok, .str tx0.1, ok, om, "str", om, txKey, rfl, xb3 _ _ fb3, xa3 _ _ fa3, ov6, odd_s tx0 (by decide), ov6, by decide, by decide, .inl ⟨by decide, kf, rfl, rfl⟩⟩
    clear ta1 fa1 tb1 fb1 xa1 xb1 ta2 fa2 tb2 fb2 xa2 xb2 ta3 fa3 tb3 fb3 xa3 xb3
    have z6 := tL1.zh
    walk_at "tlN"
    rename_i e1 Za1 Ha1 na1 ta1 fa1 p1 Zb1 Hb1 nb1 tb1 fb1 e2 Za2 Ha2 na2 ta2 fa2 p2 Zb2 Hb2 nb2 tb2 fb2 e3 Za3 Ha3 na3 ta3 fa3 p3 Zb3 Hb3 nb3 tb3 fb3
    refine t_newF tb3.zh (by show 3 ≤ 100000; decide) fun L2 Z7 H7 nL2 tL2 fL2 => ?_
    have xa1 := tb1.z.trans (ta2.z.trans (tb2.z.trans (ta3.z.trans (tb3.z.trans (tL2.z)))))
    have xb1 := ta2.z.trans (tb2.z.trans (ta3.z.trans (tb3.z.trans (tL2.z))))
    have xa2 := tb2.z.trans (ta3.z.trans (tb3.z.trans (tL2.z)))
    have xb2 := ta3.z.trans (tb3.z.trans (tL2.z))
    have xa3 := tb3.z.trans (tL2.z)
    have xb3 := tL2.z
    have x7 := ta1.z.trans (tb1.z.trans (ta2.z.trans (tb2.z.trans (ta3.z.trans (tb3.z.trans (tL2.z))))))
    have t7 : T [] Z6 H6 Z7 H7 := ((((((ta1.step tb1 mm_nil).step ta2 mm_nil).step tb2 mm_nil).step ta3 mm_nil).step tb3 mm_nil).step tL2 mm_nil)
    have ov7 := ov6.ex x7
    have bv7 := bv6.ex x7
    have as7 : ∀ v ∈ ([.ref p1, .ref p2, .ref p3] : List V), AskOk Z7 f l v := fun v hv => by
      simp only [List.mem_cons, List.not_mem_nil, or_false] at hv
      rcases hv with rfl | rfl | rfl
      · exact ⟨p1, e1, 2, ok, .str tx0.1, ok, om, "str", om, txKey, rfl, xb1 _ _ fb1, xa1 _ _ fa1, ov7, odd_s tx0 (by decide), ov7, by decide, by decide, .inl ⟨by decide, kf, rfl, rfl⟩⟩
      · exact ⟨p2, e2, 3, ok, .str tx0.1, ok, om, "str", om, txKey, rfl, xb2 _ _ fb2, xa2 _ _ fa2, ov7, odd_s tx0 (by decide), ov7, by decide, by decide, .inl ⟨by decide, kf, rfl, rfl⟩⟩
      · exact ⟨p3, e3, 0, ok, .str x.1, ok, om, "str", om, txKey, rfl, xb3 _ _ fb3, xa3 _ _ fa3, ov7, odd_s x (nameB_len nx), ov7, by decide, by decide, .inl ⟨by decide, kf, rfl, rfl⟩⟩
    clear ta1 fa1 tb1 fb1 xa1 xb1 ta2 fa2 tb2 fb2 xa2 xb2 ta3 fa3 tb3 fb3 xa3 xb3
    have z7 := tL2.zh
    refine n_cat (z7 _ _ (x7 _ _ fL1)) (z7 _ _ fL2) (by show 3 + 3 ≤ 100000; decide) fun L3 H8 nL3 ex8 fL3 => ?_
    obtain ⟨Z8, t8, gL3⟩ : ∃ Z8, T [] Z7 H7 Z8 H8 ∧ Z8 L3 = some (.lst _) := ⟨_, T.ofNew z7 nL3 ex8 fL3, upd_same⟩
    have z8 := t8.zh
    have as8 := fun v (hv : v ∈ _ ++ _) => (List.mem_append.mp hv).elim (ask_all (x7.trans t8.z) as6 v) (ask_all t8.z as7 v)
    clear fL1 fL2 fL3 as6 as7 ex8
    walk_at "tlN"
    refine ixGo (sq_of (t8.zh _ _ gL3)) (ig_mem ⟨y0, by show _ < (6 : Int); omega⟩ fun a1 ha1 _ => ?_)
    have ask1 := as8 a1 ha1
    clear gL3 as8 ha1
    walk_at "tlN"
    rename_i e1 Za1 Ha1 na1 ta1 fa1 p1 Zb1 Hb1 nb1 tb1 fb1 e2 Za2 Ha2 na2 ta2 fa2 p2 Zb2 Hb2 nb2 tb2 fb2
    refine t_newR tb2.zh (by show 3 ≤ 100000; decide) fun L Z9 H9 nL tL fL zL => ?_
    have xa1 := tb1.z.trans (ta2.z.trans (tb2.z.trans (tL.z)))
    have xb1 := ta2.z.trans (tb2.z.trans (tL.z))
    have xa2 := tb2.z.trans (tL.z)
    have xb2 := tL.z
    have x9 := ta1.z.trans (tb1.z.trans (ta2.z.trans (tb2.z.trans (tL.z))))
    have t9 : T [] Z8 H8 Z9 H9 := ((((ta1.step tb1 mm_nil).step ta2 mm_nil).step tb2 mm_nil).step tL mm_nil)
    have T9 : T [h, D] Z H Z9 H9 := (((T5.step t6 mm_nil).step t7 mm_nil).step t8 mm_nil).step t9 mm_nil
    have ov9 := ov7.ex (t8.z.trans x9)
    have bv9 := bv7.ex (t8.z.trans x9)
    have nk : k ∉ l.map Prod.fst := hd
    have as9 : ∀ v ∈ ([a1, .ref p1, .ref p2] : List V), AskOk Z9 f l v := fun v hv => by
      simp only [List.mem_cons, List.not_mem_nil, or_false] at hv
      rcases hv with rfl | rfl | rfl
      · exact ask1.ex x9
      · exact ⟨p1, e1, 1, .int k, .str tx0.1, .int k, "int", "str", "int", txLack, rfl, xb1 _ _ fb1, xa1 _ _ fa1, odd_i k, odd_s tx0 (by decide), odd_i k, by decide, by decide, .inr (.inr (.inr (.inl ⟨.inl rfl, ⟨k, rfl, kt, nk⟩, rfl, rfl⟩)))⟩
      · exact ⟨p2, e2, 2, .int k, .str tx0.1, .int k, "int", "str", "int", txLack, rfl, xb2 _ _ fb2, xa2 _ _ fa2, odd_i k, odd_s tx0 (by decide), odd_i k, by decide, by decide, .inr (.inr (.inr (.inl ⟨.inr rfl, ⟨k, rfl, kt, nk⟩, rfl, rfl⟩)))⟩
    have tb9 := (((tb5.tt t6 nm_nil).tt t7 nm_nil).tt t8 nm_nil).tt t9 nm_nil
    have dm9 := (((dm5.tt t6 nm_nil).tt t7 nm_nil).tt t8 nm_nil).tt t9 nm_nil
    have hh9 := ((((hh5.tt t6 nm_nil).tt t7 nm_nil).tt t8 nm_nil).tt t9 nm_nil).mono (m := n + 70) (by omega)
    have ik9 := Ik.ex (x6.trans (x7.trans (t8.z.trans x9))) ik5
    have nLH : H L = none := T5.nn (t6.nn (t7.nn (t8.nn (ta1.nn (tb1.nn (ta2.nn (tb2.nn nL)))))))
    have nLh : h ≠ L := ne_alB nLH ath
    have nLD : D ≠ L := ne_alB nLH atD
    have nLd : d ≠ L := ne_alB nLH atd
    clear ta1 fa1 tb1 fb1 xa1 xb1 ta2 fa2 tb2 fb2 xa2 xb2
    clear t6 t7 t8 t9 x6 x7 x9 ov5 ov6 ov7 bv5 bv6 bv7 tb5 dm5 hh5 ask1 T5 z5 z6 z7 z8 nL tL ik5
    obtain ⟨dx9, ha9⟩ := tb9.at_
    have rp := roomsT_pos (l := l) tb9.f0.1
    have z9 := tb9.dm.zh
    walk_at "tlN"
    rename_i p0 Z1 H1 n0 t1 f0
    refine t_newF t1.zh (by show 7 ≤ 100000; decide) fun S Z2 H2 nS t2 fS => ?_
    have z2 := t2.zh
    have hh2 := (hh9.tt t1 nm_nil).tt t2 nm_nil
    walk_at "tlN"
    rename_i wn Z3 H3 wn0 wn1 t3 hh3
    have fS3 := t3.z _ _ fS
    walk_at "tlN"
    refine ixGo (sq_of (t3.zh _ _ fS3)) (ig_mem ⟨wn0, by show _ < (7 : Int); omega⟩ fun num hnum _ => ?_)
    have rl := roomsT_le tb9.f0.1 le
    have e20 : (10 : Int) ^ Int.toNat 20 = 100000000000000000000 := by decide +kernel
    obtain ⟨⟨nn, onum⟩, rnum⟩ : (∃ nn, OddX Z3 num nn) ∧ ∀ r, num = .int r → ¬ (0 ≤ r ∧ r < roomsT f l) := by
      simp only [List.mem_cons, List.not_mem_nil, or_false] at hnum
      rcases hnum with rfl | rfl | rfl | rfl | rfl | rfl | rfl
      · exact ⟨⟨_, odd_i _⟩, fun r e => by cases e; omega⟩
      · exact ⟨⟨_, odd_i _⟩, fun r e => by cases e; omega⟩
      · exact ⟨⟨_, odd_i _⟩, fun r e => by cases e; omega⟩
      · exact ⟨⟨_, .odd (.bl _)⟩, fun r e => by cases e⟩
      · exact ⟨⟨_, .odd .non⟩, fun r e => by cases e⟩
      · exact ⟨⟨_, odd_s ⟨"0", by decide +kernel⟩ (by decide)⟩, fun r e => by cases e⟩
      · exact ⟨⟨_, .odd (.tup (t3.z _ _ (t2.z _ _ f0)))⟩, fun r e => by cases e⟩
    clear hnum fS fS3 f0 hh9 hh2
    have z3 := t3.zh
    walk_at "tlN"
    rename_i e4 Za4 Ha4 na4 ta4 fa4 p4 Zb4 Hb4 nb4 tb4 fb4
    have zb4 := tb4.zh
    have fL4 : Hb4 L = some _ := tb4.m _ _ nm_nil (ta4.m _ _ nm_nil (t3.m _ _ (nm_cons nLh.symm nm_nil) (t2.m _ _ nm_nil (t1.m _ _ nm_nil fL))))
    have zL4 : Zb4 L = none := tb4.fr _ nm_nil (ta4.fr _ nm_nil (t3.fr _ (nm_cons nLh.symm nm_nil) (t2.fr _ nm_nil (t1.fr _ nm_nil zL ⟨_, fL⟩) (t1.all ⟨_, fL⟩)) (t2.all (t1.all ⟨_, fL⟩))) (t3.all (t2.all (t1.all ⟨_, fL⟩)))) (ta4.all (t3.all (t2.all (t1.all ⟨_, fL⟩))))
    have T4 : T [h, D] Z H Zb4 Hb4 := (((((T9.step t1 mm_nil).step t2 mm_nil).step t3 (mm_1 (.inl (by simp)))).step ta4 mm_nil).step tb4 mm_nil)
    refine t_appR zb4 fL4 zL4 (by show 3 < 100000; decide) fun Z5 H5 t5 fL5 zL5 => ?_
    have x95 : Ex Z9 Z5 := t1.z.trans (t2.z.trans (t3.z.trans (ta4.z.trans (tb4.z.trans t5.z))))
    have T5 : T [h, D] Z H Z5 H5 := T4.step t5 (mm_1 (.inr nLH))
    have tb5 := ((((((tb9.tt t1 nm_nil).tt t2 nm_nil).tt t3 (nm_cons nhD.symm nm_nil)).tt ta4 nm_nil).tt tb4 nm_nil).tt t5 (nm_cons nLD nm_nil))
    have dm5 := ((((((dm9.tt t1 nm_nil).tt t2 nm_nil).tt t3 (nm_cons nhd.symm nm_nil)).tt ta4 nm_nil).tt tb4 nm_nil).tt t5 (nm_cons nLd nm_nil))
    have hh5 := (((hh3.tt ta4 nm_nil).tt tb4 nm_nil).tt t5 (nm_cons nLh nm_nil)).mono (m := n + 60) (by omega)
    have as5 : ∀ v ∈ ([a1, .ref p1, .ref p2] ++ [.ref p4] : List V), AskOk Z5 f l v := fun v hv => by
      rcases List.mem_append.mp hv with hv | hv
      · exact (as9 v hv).ex x95
      · obtain rfl := List.mem_singleton.mp hv
        have on5 := onum.ex (ta4.z.trans (tb4.z.trans t5.z))
        exact ⟨p4, e4, 4, num, .str tx0.1, num, nn, "str", nn, txRoom, rfl, t5.z _ _ fb4, t5.z _ _ (tb4.z _ _ fa4), on5, odd_s tx0 (by decide), on5, by decide, by decide, .inr (.inr (.inr (.inr ⟨rfl, rnum, rfl, rfl⟩)))⟩
    have bv5 := bv9.ex x95
    have ik5 := Ik.ex x95 ik9
    clear t1 t2 t3 ta4 tb4 t5 T4 T9 tb9 dm9 hh3 as9 ov9 bv9 ik9 fa4 fb4 fL fL4 zL zL4 x95 z9 z2 z3 zb4 rnum onum ha9
    have z5 := T5.zh
    generalize hvs : ([a1, .ref p1, .ref p2] ++ [.ref p4] : List V) = vs at fL5 as5
    have vl : vs.length = 4 := by rw [← hvs]; rfl
    clear hvs
    walk_at "tlN"
    rename_i ps Z6 H6 n6 t6 ls6
    have T6 : T [h, D] Z H Z6 H6 := T5.step t6 mm_nil
    have sl : (sortI (l.map Prod.fst)).length = l.length := by rw [sortI_len, List.length_map]
    refine s_cut (fun σ' H' => ∃ (Z' : Hp) (vs : List V), σ' = [some (.ref a), some (.ref h), some (.ref d), some (.str x.1), some (.ref pk), some ok, some (.int wy), some bd, some (.int k), some (.ref L), some (.ref ps), some num, none] ∧ T [h, D] Z H Z' H' ∧ Tb K Z' H' a D w f l ∧ Dm Z' H' d l ∧ Hand K Z' H' h (n + 50) ∧ Ik Z' (.ref pk) (stT w f l) ∧ OddX Z' bd bm ∧ H' L = some (.lst vs) ∧ Z' L = none ∧ vs.length ≤ 5 ∧ ∀ v ∈ vs, AskOk Z' f l v) ?_ ?_
    · have tb6 := tb5.tt t6 nm_nil
      have dm6 := dm5.tt t6 nm_nil
      have hh6 := hh5.tt t6 nm_nil
      have bv6 := bv5.ex t6.z
      have ik6 := Ik.ex t6.z ik5
      have fL6 := t6.m _ _ nm_nil fL5
      have zL6 := t6.fr _ nm_nil zL5 ⟨_, fL5⟩
      have as6 := ask_all t6.z as5
      have raw6 := ls6.ints
      walk_at "tls"
      rename_i pe Z7 H7 ne t7 mu7 f7
      have lm7 : Lm Z7 H7 pe ([] : List Int) := Lm.of0 mu7 t7.zh f7
      refine s_neP (x := sortI (l.map Prod.fst)) (y := ([] : List Int)) (Ik.ex (t7.z.trans t7.zh) ls6.is).is lm7.isH.is (by decide) ?_
      have tb7 := tb6.tt t7 nm_nil
      have dm7 := dm6.tt t7 nm_nil
      have hh7 := hh6.tt t7 nm_nil
      have bv7 := bv6.ex t7.z
      have ik7 := Ik.ex t7.z ik6
      have fL7 := t7.m _ _ nm_nil fL6
      have zL7 := t7.fr _ nm_nil zL6 ⟨_, fL6⟩
      have as7 := ask_all t7.z as6
      have ls7 := ls6.tt t7
      have raw7 := ls7.ints
      have T7 : T [h, D] Z H Z7 H7 := T6.step t7 mm_nil
      have z7 := t7.zh
      clear t6 t7 tb6 dm6 hh6 bv6 ik6 fL6 zL6 as6 ls6 raw6 T6 tb5 dm5 hh5 bv5 ik5 fL5 zL5 as5 T5 z5 mu7 f7 lm7
      walk_at "tls"
      refine i_d (fun hp => ?_) (fun hp => ?_)
      · have l0 : 0 < l.length := by
          rcases Nat.eq_zero_or_pos l.length with c | c
          · exact absurd (List.length_eq_zero_iff.mp (by rw [sl]; exact c)) hp
          · exact c
        walk_at "tls"
        rename_i dr Z8 H8 d0 d1 t8 hh8 m0 m1 k' hk' e5 Za5 Ha5 na5 ta5 fa5 p5 Zb5 Hb5 nb5 tb5 fb5
        have km : k' ∈ l.map Prod.fst := sortI_mem.mp (List.mem_of_getElem? hk')
        have k01 : 0 ≤ k' ∧ k' < 1152921504606846976 := by
          obtain ⟨e, he, rfl⟩ := List.mem_map.mp km
          exact tb7.ks e he
        have fL8 := tb5.m _ _ nm_nil (ta5.m _ _ nm_nil (t8.m _ _ (nm_cons nLh.symm nm_nil) fL7))
        have zL8 := tb5.fr _ nm_nil (ta5.fr _ nm_nil (t8.fr _ (nm_cons nLh.symm nm_nil) zL7 ⟨_, fL7⟩) (t8.all ⟨_, fL7⟩)) (ta5.all (t8.all ⟨_, fL7⟩))
        refine t_appR tb5.zh fL8 zL8 (by omega) fun Z9 H9 t9 fL9 zL9 => ?_
        have x79 : Ex Z7 Z9 := t8.z.trans (ta5.z.trans (tb5.z.trans t9.z))
        refine ⟨Z9, _, rfl, (((T7.step t8 (mm_1 (.inl (by simp)))).step ta5 mm_nil).step tb5 mm_nil).step t9 (mm_1 (.inr nLH)), (((tb7.tt t8 (nm_cons nhD.symm nm_nil)).tt ta5 nm_nil).tt tb5 nm_nil).tt t9 (nm_cons nLD nm_nil), (((dm7.tt t8 (nm_cons nhd.symm nm_nil)).tt ta5 nm_nil).tt tb5 nm_nil).tt t9 (nm_cons nLd nm_nil), (((hh8.tt ta5 nm_nil).tt tb5 nm_nil).tt t9 (nm_cons nLh nm_nil)).mono (by omega), Ik.ex x79 ik7, bv7.ex x79, fL9, zL9, by rw [List.length_append, vl]; exact Nat.le_refl 5, fun v hv => ?_⟩
        rcases List.mem_append.mp hv with hv | hv
        · exact (as7 v hv).ex x79
        · obtain rfl := List.mem_singleton.mp hv
          have bv9 := bv7.ex x79
          exact ⟨p5, e5, 0, .int k', bd, bd, "int", bm, bm, txThing, rfl, t9.z _ _ fb5, t9.z _ _ (tb5.z _ _ fa5), odd_i k', bv9, bv9, by decide, by decide, .inr (.inl ⟨rfl, decide_eq_true k01, nf, rfl, rfl⟩)⟩
      · exact ⟨Z7, vs, rfl, T7, tb7, dm7, hh7.mono (by omega), ik7, bv7, fL7, zL7, by omega, as7⟩
    rintro σ' H7 ⟨Z7, vs7, rfl, T7, tb7, dm7, hh7, ik7, bv7, fL7, zL7, vl7, as7⟩
    clear t6 ls6 T6 tb5 dm5 hh5 bv5 ik5 fL5 zL5 as5 T5 z5
    have z7 := T7.zh
    refine s_cut (fun σ' H' => ∃ (Z' : Hp) (L' : Addr) (vs : List V), σ' = [some (.ref a), some (.ref h), some (.ref d), some (.str x.1), some (.ref pk), some ok, some (.int wy), some bd, some (.int k), some (.ref L'), some (.ref ps), some num, none] ∧ T [h, D] Z H Z' H' ∧ Tb K Z' H' a D w f l ∧ Dm Z' H' d l ∧ Hand K Z' H' h n ∧ Ik Z' (.ref pk) (stT w f l) ∧ Z' L' = some (.lst vs) ∧ ∀ v ∈ vs, AskOk Z' f l v) ?_ ?_
    · walk_at "tlN"
      refine i_d (fun hp => ?_) (fun hp => ?_)
      · walk_at "tlN"
        rename_i e8 Za8 Ha8 na8 ta8 fa8 p8 Zb8 Hb8 nb8 tb8 fb8 e9 Za9 Ha9 na9 ta9 fa9 p9 Zb9 Hb9 nb9 tb9 fb9
        refine t_newF tb9.zh (by show 2 ≤ 100000; decide) fun L2 Z8 H8 nL2 tL2 fL2 => ?_
        have xa8 := tb8.z.trans (ta9.z.trans (tb9.z.trans (tL2.z)))
        have xb8 := ta9.z.trans (tb9.z.trans (tL2.z))
        have xa9 := tb9.z.trans (tL2.z)
        have xb9 := tL2.z
        have x78 := ta8.z.trans (tb8.z.trans (ta9.z.trans (tb9.z.trans (tL2.z))))
        have t78 : T [] Z7 H7 Z8 H8 := ((((ta8.step tb8 mm_nil).step ta9 mm_nil).step tb9 mm_nil).step tL2 mm_nil)
        have z8 := tL2.zh
        refine n_cat (t78.m _ _ nm_nil fL7) (z8 _ _ fL2) (by show _ + 2 ≤ 100000; omega) fun L3 H9 nL3 ex9 fL3 => ?_
        obtain ⟨Z9, t9, gL3⟩ : ∃ Z9, T [] Z8 H8 Z9 H9 ∧ Z9 L3 = some (.lst _) := ⟨_, T.ofNew z8 nL3 ex9 fL3, upd_same⟩
        have T9 : T [] Z7 H7 Z9 H9 := t78.step t9 mm_nil
        walk_at "tlN"
        refine ⟨Z9, L3, _, rfl, T7.step T9 mm_nil, tb7.tt T9 nm_nil, dm7.tt T9 nm_nil, (hh7.tt T9 nm_nil).mono (by omega), Ik.ex T9.z ik7, gL3, fun v hv => ?_⟩
        have bv9 := bv7.ex T9.z
        rcases List.mem_append.mp hv with hv | hv
        · exact (as7 v hv).ex T9.z
        · simp only [List.mem_cons, List.not_mem_nil, or_false] at hv
          rcases hv with rfl | rfl
          · exact ⟨p8, e8, 0, .int k, .str x.1, .int 64, "int", "str", "int", txFull, rfl, t9.z _ _ (xb8 _ _ fb8), t9.z _ _ (xa8 _ _ fa8), odd_i k, odd_s x (nameB_len nx), odd_i 64, by decide, by decide, .inr (.inr (.inl ⟨rfl, ⟨k, rfl, kt, nx, nk, by omega⟩, rfl, rfl⟩))⟩
          · exact ⟨p9, e9, 0, .int k, bd, bd, "int", bm, bm, txThing, rfl, t9.z _ _ (xb9 _ _ fb9), t9.z _ _ (xa9 _ _ fa9), odd_i k, bv9, bv9, by decide, by decide, .inr (.inl ⟨rfl, kt, nf, rfl, rfl⟩)⟩
      · have tf : T [L] Z7 H7 (upd Z7 L (.lst vs7)) H7 := T.fz z7 zL7 fL7
        exact ⟨_, L, vs7, rfl, T7.step tf (mm_1 (.inr nLH)), tb7.tt tf (nm_cons nLD nm_nil), dm7.tt tf (nm_cons nLd nm_nil), (hh7.tt tf (nm_cons nLh nm_nil)).mono (by omega), Ik.ex tf.z ik7, upd_same, ask_all tf.z as7⟩
    rintro σ' H8 ⟨Z8, L8, vs8, rfl, T8, tb8, dm8, hh8, ik8, fL8, as8⟩
    clear T7 tb7 dm7 hh7 ik7 bv7 fL7 zL7 as7 z7
    have z8 := T8.zh
    walk_at "tlN"
    refine u_forL (fun j σ H' => ∃ (Z' : Hp) (y12 : Option V), σ = [some (.ref a), some (.ref h), some (.ref d), some (.str x.1), some (.ref pk), some ok, some (.int wy), some bd, some (.int k), some (.ref L8), some (.ref ps), some num, y12] ∧ T [D] Z8 H8 Z' H' ∧ Tb K Z' H' a D w f l) (sq_of (z8 _ _ fL8)) ⟨Z8, _, rfl, T.refl z8, tb8⟩ (fun j σ H' _ hh => ?_) (fun j v σ H9 hx hh => ?_) (fun σ H' hh => ?_)
    · obtain ⟨Z', _, _, t, _⟩ := hh
      exact sq_of (t.zh _ _ (t.z _ _ fL8))
    · obtain ⟨Z9, y12, rfl, t9, tb9⟩ := hh
      obtain ⟨p, e, way, kv, tv, o, n1, n2, n3, word, rfl, fp, fe, okv, otv, oo, w0, w4, rf⟩ := (as8 v (List.mem_of_getElem? hx)).ex t9.z
      have z9 := t9.zh
      have fpH := z9 _ _ fp
      walk_at "tlN"
      refine ⟨a, D, w, f, way, l, Z9, kv, tv, n1, n2, rfl, tb9, okv.kind z9, otv.kind z9, w0, w4, fun _ => ⟨_, _, rf⟩, fun word' o' rf' q1 Z1 H1 t1 tb1 f1 => ?_, fun ew k' x' ev et c1 c2 hl => ?_, fun ew k' ev hm => ?_⟩
      · obtain ⟨rfl, rfl⟩ := rf.uniq rf'
        have fe1 := t1.z _ _ fe
        have z1 := t1.zh
        have fp1 := z1 _ _ (t1.z _ _ fp)
        walk_at "tlN"
        refine ⟨q1, e, o, n3, word, Z1, rfl, z1, oo.ex t1.z, f1, fe1, ?_⟩
        walk_at "tlN"
        refine ⟨a, D, w, f, l, Z1, rfl, tb1, fun p2 Z2 H2 t2 tb2 ik2 => ?_⟩
        have z2 := t2.zh
        walk_at "tlN"
        refine s_neP (x := stT w f l) (y := stT w f l) (Ik.ex z2 ik2).is (Ik.ex (t9.z.trans (t1.z.trans (t2.z.trans z2))) ik8).is (by decide) ?_
        walk_at "tlN"
        exact ⟨Z2, _, rfl, (t9.step t1 (mm_1 (.inl (by simp)))).step t2 (mm_1 (.inl (by simp))), tb2⟩
      · subst ew
        exact (rf.told0 ev c1 c2 hl).elim
      · subst ew
        have k1' := tb9.ks
        obtain ⟨e', he', ek'⟩ := List.mem_map.mp hm
        exact (rf.told1 ev (by rw [ev]; exact decide_eq_true (ek' ▸ tb9.ks e' he')) hm).elim
    · obtain ⟨Z9, y12, rfl, t9, tb9⟩ := hh
      walk_at "tlN"
      exact q Z9 H' (T8.step t9 (mm_1 (.inl (by simp)))) tb9 (hh8.tt t9 (nm_cons nhD nm_nil)) (dm8.tt t9 (nm_cons nDd.symm nm_nil))

/-! ### _law_thing -/
noncomputable abbrev sp_law_thing (K : PySem.W.Frag) : Sp := spThing K
theorem has_law_thing (z : Z K mg) (F : FunAt K mg "_law_thing" s_law_thing ["_law_hand"]) (h_law_draw : Has P w K mg base "_law_draw" 1 (sp_law_draw K)) : Has P w K mg base "_law_thing" 2 (sp_law_thing K) := by
  refine has_of F sc_law_thing (fun vs H Q E h => ?_) (fun f cdv A outer s H vs Q E hr h => ?_)
  · obtain ⟨a, n, Z, rfl, _⟩ := h
    rfl
  · obtain ⟨a, n, Z, rfl, hh, q⟩ := h
    refine ⟨_, (pss_cons (ps_set (i := 1) sc_law_thing.nd rfl (by first | exact Or.inl rfl | exact Or.inr rfl) pe_str)
        (pss_one (ps_ret (pe_join pe_str (pe_lc (own := [("_law_k", 2)]) (g := gName 2) (tt := tYes) rfl sc_law_thing.nd (pi_range1 (by rfl) z.b_range (pa_cons (pe_op op_plusA pe_int (pe_callH h_law_draw (by decide) hr rfl (pa_cons (pv 0) (pa_cons pe_int pa_nil)))) pa_nil)) (blkOk_by (own := [("_law_k", 2)]) (N := ["_law_hand", "_law_letters", "_law_k"]) (sc := defScope s_law_thing) (by decide +kernel)) (fun _ _ _ _ _ => (pg_name (i := 2) sc_law_thing.nd rfl (by first | exact Or.inl rfl | exact Or.inr rfl))) (fun _ _ _ _ _ => pts_nil) (fun _ _ _ _ _ => (pe_ix (ixA (K := K) rfl) (pv 1) (pe_callH h_law_draw (by decide) hr rfl (pa_cons (pv 0) (pa_cons pe_int pa_nil))) (fun _ _ => rfl)))))))), ?_⟩
    walk_at "cx"
    walk_at "ss"
    refine ⟨⟨_, rfl⟩, ?_⟩
    walk_at "ss"
    refine ⟨a, 8, n + 9, _, rfl, hh.mono (by omega), by decide, by decide, fun m H1 m0 m1 e1 hh1 => ?_⟩
    walk_at "ss"
    refine u_lcR1HR (fun (x : Str) y _ => y = .str x ∧ (PyData.strOk x = true ∧ ∀ c ∈ TL.tl x, c ∈ lettersS.cps.toList) ∧ x.length = 1) n 1 hh1 (by omega) (by omega) (fun i hi D H2 R' m2 nD oD hh2 A hA => ?_) (fun D ys l H2 nD m2 hh2 f2 hl hp => ?_)
    · walk_at "ss"
      refine ⟨a, 26, R', _, rfl, hh2, by decide, by decide, fun r H3 r0 r1 e3 hh3 => ?_⟩
      walk_at "ss"
      refine s_ixStr ⟨by omega, by show r < 26; omega⟩ (by decide) fun c hc => ?_
      refine hA ⟨#[c]⟩ _ H3 e3 hh3 fun _ _ _ => ⟨rfl, ⟨?_, fun c' hc' => ?_⟩, rfl⟩
      · refine strOk_iff.mpr fun c' hc' => ?_
        rw [List.mem_singleton.mp hc']
        exact strOk_iff.mp (by decide +kernel) c hc
      · rw [List.mem_singleton.mp hc']
        exact hc
    · have pr := hp H2 hh2.z fun b o _ _ s => s
      have pr : ys = l.map V.str ∧ (∀ x ∈ l, PyData.strOk x = true ∧ ∀ c ∈ TL.tl x, c ∈ lettersS.cps.toList) ∧ (l.map (·.length)).sum = l.length := by
        clear hl hp f2
        induction pr with
        | nil => exact ⟨rfl, fun _ h => absurd h List.not_mem_nil, rfl⟩
        | cons a t ih =>
          obtain ⟨i1, i2, i3⟩ := ih
          obtain ⟨a1, a2, a3⟩ := a
          refine ⟨by rw [a1, i1]; rfl, fun x hx => ?_, ?_⟩
          · rcases List.mem_cons.mp hx with e | hx
            · rw [e]; exact a2
            · exact i2 x hx
          · rw [List.map_cons, List.sum_cons, i3, a3, List.length_cons]
            omega
      obtain ⟨p1, p2, p3⟩ := pr
      rw [p1] at f2
      refine s_joinL f2 (by rw [p3]; show l.length + l.length * 0 ≤ _; omega) ?_
      walk_at "ss"
      refine q ⟨_, join_ok (by decide +kernel) fun x hx => (p2 x hx).1⟩ H2 ?_ (e1.trans m2) hh2
      have jl : (Txt.join "" l).length = l.length := by
        show (TL.tl (Txt.join "" l)).length = _
        rw [TL.join_eq, TL.tl_join]
        refine joinL_len.trans ?_
        rw [List.map_map, ← p3]
        rfl
      have jm : ∀ c ∈ TL.tl (Txt.join "" l), c ∈ lettersS.cps.toList := fun c hc => by
        rcases join_mem hc with g | ⟨x, hx, g⟩
        · exact absurd g List.not_mem_nil
        · exact (p2 x hx).2 c g
      unfold nameB
      rw [Bool.and_eq_true]
      exact ⟨decide_eq_true (by rw [jl]; omega), List.all_eq_true.mpr fun c hc => decide_eq_true (jm c hc)⟩

/-! ### _law_open -/
noncomputable abbrev sp_law_open (K : PySem.W.Frag) : Sp := spOpen K
theorem has_law_open (z : Z K mg) (F : FunAt K mg "_law_open" s_law_open ["_law_script", "_law_place"])  : Has P w K mg base "_law_open" 1 (sp_law_open K) := by
  refine has_of F sc_law_open (fun vs H Q E h => ?_) (fun f cdv A outer s H vs Q E hr h => ?_)
  · obtain ⟨a, ns, x, rfl, _⟩ := h
    rfl
  · obtain ⟨a, ns, x, rfl, hS, h0, h1, q⟩ := h
    refine ⟨_, (pss_cons (ps_setLc (i := 2) (own := [("_law_cell", 5)]) (g := gName 5) (tt := tYes) rfl sc_law_open.nd rfl rfl (sw_true rfl rfl rfl (by decide +kernel)) (piL (K := K) rfl (pe_slice (slA (K := K) rfl) (pv 0) po_none (po_some pe_int))) (blkOk_by (own := [("_law_cell", 5)]) (N := ["_law_script", "_law_place", "_law_cells", "_law_at", "_law_digits", "_law_cell"]) (sc := defScope s_law_open) (by decide +kernel)) (fun _ _ _ _ _ => (pg_name (i := 5) sc_law_open.nd rfl (by first | exact Or.inl rfl | exact Or.inr rfl))) (fun _ _ _ _ _ => pts_nil) (fun _ _ _ _ _ => (pe_callB (id := "abs") call_absA (by rfl) z.b_abs (by decide +kernel) (pa_cons (pv 5) pa_nil))))
        (Evl.pss_cut (ps_if (pt_cmpR (eqA (K := K) rfl hr.units) (pv 2) (pe_lst pa_nil) (nomark _)) (pss_one (ps_set (i := 2) sc_law_open.nd rfl (by first | exact Or.inl rfl | exact Or.inr rfl) (pe_lst (pa_cons pe_int pa_nil)))) pss_nil)
        (pss_cons (ps_set (i := 3) sc_law_open.nd rfl (by first | exact Or.inl rfl | exact Or.inr rfl) (pe_op op_mod (pv 1) (pe_callB (id := "len") (lenA (K := K) rfl) (by rfl) z.b_len (by decide +kernel) (pa_cons (pv 2) pa_nil))))
        (pss_cons (ps_set (i := 4) sc_law_open.nd rfl (by first | exact Or.inl rfl | exact Or.inr rfl) pe_int)
        (Evl.pss_cut (ps_if (PW.pt (pw_and (pt_cmpR op_ge (pe_ix (ixA (K := K) rfl) (pv 2) (pv 3) (fun _ _ => rfl)) (pe_op op_pow pe_int pe_int) (nomark _)) (pw_and1 (pt_cmpR op_lt (pv 1) (pe_callB (id := "len") (lenA (K := K) rfl) (by rfl) z.b_len (by decide +kernel) (pa_cons (pv 2) pa_nil)) (nomark _))))) (pss_one (ps_set (i := 4) sc_law_open.nd rfl (by first | exact Or.inl rfl | exact Or.inr rfl) (pe_ix (ixA (K := K) rfl) (pv 2) (pv 3) (fun _ _ => rfl)))) pss_nil)
        (pss_one (ps_ret (pe_lst (pa_cons (pv 4) (pa_cons (pe_op op_plusA pe_int (pe_op op_multA pe_int (pv 1))) (pa_cons (pe_op op_plusA (pe_slice (slA (K := K) rfl) (pv 2) (po_some (pv 3)) po_none) (pe_slice (slA (K := K) rfl) (pv 2) po_none (po_some (pv 3)))) pa_nil))))))))))), ?_⟩
    walk_at "cx"
    walk_at "ss"
    rename_i p1 H1 n1 e1 f1
    obtain ⟨cs, hc, hl⟩ : ∃ cs : List Int, cutV (ns.map V.int) none (some 63) = cs.map V.int ∧ cs.length ≤ 63 := ⟨cutI ns none (some 63), cutV_ints _ _ _, by
      rw [cutI_to _ (by decide), List.length_take]
      exact Nat.min_le_left _ _⟩
    rw [hc] at f1
    refine u_mapL V.int cs (fun i => V.int (if i < 0 then -i else i)) (sq_of f1) (by omega) (fun i hi H2 e2 A ha => ?_) (fun D H2 n2 e2 f2 => ?_)
    · walk_at "ss"
      exact ha _ (Ex.refl _)
    · obtain ⟨xs, hx, hxl⟩ : ∃ xs : List Int, cs.map (fun i => V.int (if i < 0 then -i else i)) = xs.map V.int ∧ xs.length ≤ 63 := ⟨cs.map fun i => if i < 0 then -i else i, by rw [List.map_map]; rfl, by rw [List.length_map]; exact hl⟩
      rw [hx] at f2
      walk_at "ss"
      refine s_cut (fun σ' H' => ∃ (D : Addr) (ys : List Int), σ' = [some (.ref a), some (.int x), some (.ref D), none, none, none] ∧ Ex H H' ∧ H' D = some (.lst (ys.map V.int)) ∧ 0 < ys.length ∧ ys.length ≤ 63) ?_ ?_
      · walk_at "ss"
        refine i_d (fun hd => ?_) (fun hd => ?_)
        · walk_at "ss"
          rename_i G n3 e3 f3
          exact ⟨_, [0], rfl, by walk_at "ex", f3, by decide, by decide⟩
        · walk_at "ss"
          exact ⟨_, xs, rfl, by walk_at "ex", by walk_at "hp", List.length_pos_iff.mpr hd, hxl⟩
      · rintro σ' H3 ⟨D2, ys, rfl, e3, f3, hy, hy2⟩
        walk_at "ss"
        rename_i b1 b2
        refine s_cut (fun σ' H' => ∃ (d : Int), σ' = [some (.ref a), some (.int x), some (.ref D2), some (.int (x % ys.length)), some (.int d), none] ∧ H' = H3) ?_ ?_
        · walk_at "ss"
          refine i_d (fun hd => ?_) (fun hd => ?_)
          · walk_at "ss"
            refine i_d (fun hd => ?_) (fun hd => ?_)
            · walk_at "ss"
              exact ⟨_, rfl, rfl⟩
            · walk_at "ss"
              exact ⟨_, rfl, rfl⟩
          · walk_at "ss"
            exact ⟨_, rfl, rfl⟩
        · rintro σ' H4 ⟨d, rfl, rfl⟩
          walk_at "ss"
          rename_i p2 G2 n4 e4 f4 p3 G3 n5 e5 f5
          rw [cutV_ints, cutI_from _ b1] at f4
          rw [cutV_ints, cutI_to _ b1] at f5
          refine n_cat (by walk_at "hp") f5 ?_ fun p4 G4 n6 e6 f6 => ?_
          · rw [List.length_map, List.length_map, List.length_drop, List.length_take]
            omega
          · walk_at "ss"
            rename_i p5 G5 n7 e7 f7
            rw [← List.map_append] at f6
            have n0 : H p5 = none := Ex.back (by walk_at "ex") n7
            have n4' : H p4 = none := Ex.back (by walk_at "ex") n6
            exact q p5 p4 d _ G5 n0 n4' (fun z => by rw [z, f6] at n7; cases n7) (by walk_at "ex") f7 (e7 _ _ f6) (by rw [List.length_append, List.length_drop, List.length_take]; omega)

/-! ### _law_keys -/
noncomputable abbrev sp_law_keys (K : PySem.W.Frag) : Sp := spKeys K
theorem has_law_keys (z : Z K mg) (F : FunAt K mg "_law_keys" s_law_keys ["_law_hand", "_law_many"]) (h_law_key : Has P w K mg base "_law_key" 3 (sp_law_key K)) : Has P w K mg base "_law_keys" 4 (sp_law_keys K) := by
  refine has_of F sc_law_keys (fun vs H Q E h => ?_) (fun f cdv A outer s H vs Q E hr h => ?_)
  · obtain ⟨h, many, n, Z, rfl, _⟩ := h
    rfl
  · obtain ⟨h, many, n, Z, rfl, m0, m1, hh, q⟩ := h
    refine ⟨_, (pss_cons (ps_set (i := 2) sc_law_keys.nd rfl (by first | exact Or.inl rfl | exact Or.inr rfl) (pe_lst pa_nil))
        (pss_cons (ps_for PassesOwn.never rfl (pi_range1 (by rfl) z.b_range (pa_cons (pv 1) pa_nil)) (pg_name (i := 3) sc_law_keys.nd rfl (by first | exact Or.inl rfl | exact Or.inr rfl)) (pss_cons (ps_set (i := 4) sc_law_keys.nd rfl (by first | exact Or.inl rfl | exact Or.inr rfl) (pe_callH h_law_key (by decide) hr rfl (pa_cons (pv 0) pa_nil)))
        (pss_cons (ps_while PassesOwn.never (pt_cmpR (inA (K := K) rfl) (pv 4) (pv 2) (by rfl)) (pss_one (ps_set (i := 4) sc_law_keys.nd rfl (by first | exact Or.inl rfl | exact Or.inr rfl) (pe_op op_mod (pe_op op_plusA (pv 4) pe_int) (pe_op op_pow pe_int pe_int)))))
        (pss_one (ps_expr (pe_bm PySem.F.plainAttrs_list PySem.F.slot_list_append PySem.F.type_list_append mt_append (pv 2) (pa_cons (pv 4) pa_nil)))))))
        (pss_one (ps_ret (pv 2))))), ?_⟩
    walk_at "cx"
    walk_at "ss"
    rename_i p1 H1 n1 e1 f1
    have np : p1 ≠ h := by walk_at "ne"
    refine u_forR1 (fun i σ H' => ∃ (x1 x2 : Option V) (ks : List Int), σ = [some (.ref h), some (.int many), some (.ref p1), x1, x2] ∧ ExM h H H' ∧ Hand K Z H' h (n + 2000 - 12 * i) ∧ H' p1 = some (.lst (ks.map V.int)) ∧ ks.length = i ∧ ks.Nodup ∧ ∀ k ∈ ks, 0 ≤ k ∧ k < 1152921504606846976) (by omega)
      ⟨_, _, [], rfl, e1.toM, hh.ex e1, f1, rfl, List.nodup_nil, fun _ h => nomatch h⟩ (fun i σ H' hi hh => ?_) (fun σ H' hh => ?_)
    · obtain ⟨x1, x2, ks, rfl, m5, hh5, f5, l5, d5, b5⟩ := hh
      walk_at "ss"
      refine ⟨h, _, _, rfl, hh5.mono (m := n + 2000 - 12 * (i + 1) + 12) (by omega), fun x H6 x0 x1 m6 hh6 => ?_⟩
      have f6 : H6 p1 = some (.lst (ks.map V.int)) := m6 _ _ np f5
      walk_at "ss"
      refine u_while (fun m σ H' => ∃ (x : Int) (V : List Int), σ = [some (.ref h), some (.int many), some (.ref p1), some (.int (i : Int)), some (.int x)] ∧ H' = H6 ∧ 0 ≤ x ∧ x < 1152921504606846976 ∧ V.Nodup ∧ (∀ y ∈ V, y ∈ ks) ∧ (∀ y ∈ V, ∃ e : Nat, 1 ≤ e ∧ e ≤ V.length ∧ (y + e) % 1152921504606846976 = x) ∧ m = ks.length - V.length) ks.length
        ⟨x, [], rfl, rfl, x0, x1, List.nodup_nil, fun _ h => (nomatch h), fun _ h => (nomatch h), rfl⟩ (fun m σ H' hh => ?_)
      obtain ⟨x, V, rfl, rfl, x0, x1, dV, sV, tV, rfl⟩ := hh
      walk_at "ss"
      have xV : x ∉ V := fun z => by
        obtain ⟨e, e1, e2, e3⟩ := tV x z
        have := nodup_le dV sV
        omega
      refine i_d (fun hd => ?_) (fun hd => ?_)
      · refine w_body ?_
        have le := nodup_le (V := x :: V) (List.nodup_cons.mpr ⟨xV, dV⟩) (fun y hy => by
          rcases List.mem_cons.mp hy with rfl | hy
          · exact hd
          · exact sV y hy)
        rw [List.length_cons] at le
        walk_at "ss"
        rename_i u0 u1
        refine ⟨ks.length - (x :: V).length, by rw [List.length_cons]; omega, (x + 1) % 1152921504606846976, x :: V, rfl, rfl, u0, u1, List.nodup_cons.mpr ⟨xV, dV⟩, fun y hy => ?_, fun y hy => ?_, rfl⟩
        · rcases List.mem_cons.mp hy with rfl | hy
          · exact hd
          · exact sV y hy
        · rcases List.mem_cons.mp hy with rfl | hy
          · exact ⟨1, by omega, by rw [List.length_cons]; omega, rfl⟩
          · obtain ⟨e, e1, e2, e3⟩ := tV y hy
            exact ⟨e + 1, by omega, by rw [List.length_cons]; omega, by omega⟩
      · walk_at "ss"
        refine n_app f6 (by rw [List.length_map]; omega) fun H7 m7 f7 => ?_
        walk_at "ss"
        refine ⟨_, _, ks ++ [x], rfl, ?_, hh6.mut m7 hh n1, by rw [f7, List.map_append]; rfl, by rw [List.length_append, l5]; rfl, ?_, fun m hm => ?_⟩
        · intro b o nb g
          exact m7 b o (ne_of_none g n1) (m6 b o nb (m5 b o nb g))
        · rw [List.nodup_append]
          refine ⟨d5, List.nodup_cons.mpr ⟨List.not_mem_nil, List.nodup_nil⟩, fun a ha b hb z => ?_⟩
          rw [List.mem_singleton.mp hb] at z
          exact hd (z ▸ ha)
        · rcases List.mem_append.mp hm with hm | hm
          · exact b5 m hm
          · rw [List.mem_singleton.mp hm]
            exact ⟨x0, x1⟩
    · obtain ⟨x1, x2, ks, rfl, m5, hh5, f5, l5, d5, b5⟩ := hh
      walk_at "ss"
      exact q p1 ks _ n1 m5 (hh5.mono (by omega)) f5 l5 d5 b5

/-! ### is_size -/
noncomputable def sp_is_size (K : PySem.W.Frag) : Sp := fun vs H Q _ => ∃ (v : V) (n : String), vs = [v] ∧ KindV K H v n ∧ Q (.bl (sizeV v)) H
theorem has_is_size (z : Z K mg) (F : FunAt K mg "is_size" s_is_size ["thing"]) (h_is_whole : Has P w K mg base "is_whole" 1 (sp_is_whole K)) : Has P w K mg base "is_size" 2 (sp_is_size K) := by
  refine has_of F sc_is_size (fun vs H Q E h => ?_) (fun f cdv A outer s H vs Q E hr h => ?_)
  · obtain ⟨v, n, rfl, _⟩ := h
    rfl
  · obtain ⟨v, n, rfl, kv, q⟩ := h
    refine ⟨_, (pss_one (ps_ret (pe_and (pe_callH h_is_whole (by decide) hr rfl (pa_cons (pv 0) pa_nil)) (pe_one (pe_chain op_le op_le pe_int (pv 0) (pe_constI z.c_GREATEST rfl)))))), ?_⟩
    walk_at "cx"
    walk_at "ss"
    refine ⟨_, _, rfl, kv, ?_⟩
    refine kv.cases' (fun i e => ?_) (fun e => ?_)
    · subst e
      rw [show wholeV (V.int i) = true from rfl]
      walk_at "ss"
      refine i_d (fun h1 => ?_) (fun h1 => ?_)
      · walk_at "ss"
        have e : sizeV (V.int i) = decide (i ≤ 8) := by
          show decide (_ ∧ _) = _
          by_cases c : i ≤ 8
          · rw [decide_eq_true c, decide_eq_true ⟨h1, c⟩]
          · rw [decide_eq_false c, decide_eq_false fun z => c z.2]
        rw [e] at q
        exact q
      · have e : sizeV (V.int i) = false := decide_eq_false fun z => h1 z.1
        rw [e] at q
        exact q
    · rw [e]
      walk_at "ss"
      rw [sizeV_no e] at q
      exact q

/-! ### NoSize.__init__ -/
theorem has_NoSize___init (z : Z K mg) (T : ExF K mg "NoSize" "thing") (F : ExAt K "NoSize" "NoSize.__init__" s_NoSize___init ["self", "thing"]) : HasE P w K mg base "NoSize" "thing" 1 := by
  refine has_ofE T F sc_NoSize___init (fun vs H Q E h => ?_) (fun f cdv A outer s H vs Q E hr h => ?_)
  · obtain ⟨_, _, _, rfl, _⟩ := h
    rfl
  · obtain ⟨a, C, v, rfl, o, n, ha, q⟩ := h
    refine ⟨_, (pss_cons (ps_expr (pe_teinit z.t_TailError rfl (pa_cons (pv 0) (pa_cons pe_str pa_nil))))
        (pss_one (ps_ost (pv 0) (pv 1)))), ?_⟩
    walk_at "cx"
    walk_at "ss"
    refine s_ve ?_
    walk_at "ss"
    refine n_ve o ha (by show 1 ≤ 1000; decide) ?_
    walk_at "ss"
    refine s_os ?_
    walk_at "ss"
    exact n_os o n ha q

/-! ### need_sizes -/
noncomputable def sp_need_sizes (K : PySem.W.Frag) : Sp := fun vs H Q E => ∃ (v u : V) (n m : String), vs = [v, u] ∧ KindV K H v n ∧ KindV K H u m ∧ (sizeV v = true → sizeV u = true → ∀ H', Ex H H' → Q .non H') ∧
  (sizeV v = false → ∀ H' d, Ex H H' → H' d = none → E (.ref (clsA K "NoSize")) (some d) (upd H' d (.xd [("thing", v)]))) ∧
  (sizeV v = true → sizeV u = false → ∀ H' d, Ex H H' → H' d = none → E (.ref (clsA K "NoSize")) (some d) (upd H' d (.xd [("thing", u)])))
theorem has_need_sizes (z : Z K mg) (F : FunAt K mg "need_sizes" s_need_sizes ["wide", "fill"]) (h_is_size : Has P w K mg base "is_size" 2 (sp_is_size K)) (e_NoSize : HasE P w K mg base "NoSize" "thing" 1) : HasX P w K mg base "need_sizes" 3 (sp_need_sizes K) := by
  refine has_ofX F sc_need_sizes (fun vs H Q E h => ?_) (fun f cdv A outer s H vs Q E hr h => ?_)
  · obtain ⟨v, u, n, m, rfl, _⟩ := h
    rfl
  · obtain ⟨v, u, n, m, rfl, kv, ku, q1, q2, q3⟩ := h
    refine ⟨_, (pss_one (ps_for (passes_of rfl) rfl (piT (K := K) rfl (pe_tup (pa_cons (pv 0) (pa_cons (pv 1) pa_nil)))) (pg_name (i := 2) sc_need_sizes.nd rfl (by first | exact Or.inl rfl | exact Or.inr rfl)) (pss_one (ps_if (pt_not (pt_val (pe_callH h_is_size (by decide) hr rfl (pa_cons (pv 2) pa_nil)))) (pss_one (ps_raiseX (takes_of rfl rfl rfl rfl) e_NoSize (Nat.le_refl _) (hr.mono (by decide)) rfl rfl (pa_cons (pv 2) pa_nil))) pss_nil)))), ?_⟩
    walk_at "cx"
    have z0 : Ex H H := Ex.refl _
    walk_at "txs"
    rename_i p Z1 H1 n1 t1 f1
    have e1 : Ex H H1 := t1.z.trans t1.zh
    refine u_forT (fun i σ H' => i ≤ 2 ∧ (1 ≤ i → sizeV v = true) ∧ (2 ≤ i → sizeV u = true) ∧ ∃ x1 : Option V, σ = [some v, some u, x1] ∧ H' = H1) (st_of (t1.zh _ _ f1)) ⟨by omega, fun h => by omega, fun h => by omega, _, rfl, rfl⟩ (fun i σ H' _ hh => by
      obtain ⟨_, _, _, _, _, rfl⟩ := hh
      exact st_of (t1.zh _ _ f1)) (fun i x σ H' hx hh => ?_) (fun σ H' hh => ?_)
    · obtain ⟨i2, s1, s2, x1, rfl, rfl⟩ := hh
      match i, hx with
      | 0, hx =>
        cases hx
        walk_at "txs"
        refine ⟨_, _, rfl, kv.ex e1, ?_⟩
        cases c : sizeV v with
        | true =>
          walk_at "txs"
          exact ⟨by omega, fun _ => rfl, fun h => by omega, _, rfl, rfl⟩
        | false =>
          walk_at "txs"
          exact q2 c _ _ e1 (by assumption)
      | 1, hx =>
        cases hx
        walk_at "txs"
        refine ⟨_, _, rfl, ku.ex e1, ?_⟩
        cases c : sizeV u with
        | true =>
          walk_at "txs"
          exact ⟨by omega, fun _ => s1 (Nat.le_refl _), fun h => rfl, _, rfl, rfl⟩
        | false =>
          walk_at "txs"
          exact q3 (s1 (Nat.le_refl _)) c _ _ e1 (by assumption)
    · obtain ⟨i2, s1, s2, x1, rfl, rfl⟩ := hh
      walk_at "txs"
      exact q1 (s1 (by show 1 ≤ 2; omega)) (s2 (by show 2 ≤ 2; omega)) _ e1

/-! ### Table.__init__ -/
noncomputable abbrev sp_Table___init (K : PySem.W.Frag) : Sp := spTInit K
theorem has_Table___init (z : Z K mg) (F : MakeAt K mg "Table" "Table.__init__" s_Table___init ["self", "wide", "fill"]) (h_need_sizes : HasX P w K mg base "need_sizes" 3 (sp_need_sizes K)) : HasK P w K mg base "Table" 4 (sp_Table___init K) := by
  refine has_ofK F sc_Table___init (fun vs H Q E h => ?_) (fun f cdv A outer s H vs Q E hr h => ?_)
  · obtain ⟨_, _, _, _, _, _, rfl, _⟩ := h
    rfl
  · obtain ⟨a, dx, v, u, n, m, rfl, ha, kv, ku, q1, q2, q3⟩ := h
    refine ⟨_, (pss_cons (ps_expr (pe_callX (pxT (takes_of rfl rfl rfl rfl)) h_need_sizes (by decide) hr rfl (pa_cons (pv 1) (pa_cons (pv 2) pa_nil))))
        (pss_cons (ps_fld (pv 0) (pv 1) rfl)
        (pss_cons (ps_fld (pv 0) (pv 2) rfl)
        (pss_one (ps_fld (pv 0) pe_dnewK rfl))))), ?_⟩
    walk_at "cx"
    walk_at "txs"
    refine ⟨v, u, n, m, rfl, kv, ku, fun s1 s2 H1 e1 => ?_, q2, q3⟩
    have ha1 := e1 _ _ ha
    walk_at "txs"
    refine n_fset ha1 (by walk_at "ck") (by walk_at "fl") (by show 0 < 1000; decide) ?_
    walk_at "txs"
    refine n_fset upd_same (by walk_at "ck") (by walk_at "fl") (by show 1 < 1000; decide) ?_
    walk_at "txs"
    rename_i D Z2 H2 nD t2 dm2
    have hh := t2.m a _ nm_nil upd_same
    have nDa : D ≠ a := fun z => by rw [z, upd_same] at nD; cases nD
    have nD1 : H D = none := by
      rw [upd_ne nDa, upd_ne nDa] at nD
      exact Ex.back e1 nD
    refine n_fset hh (by walk_at "ck") (by walk_at "fl") (by show 2 < 1000; decide) ?_
    walk_at "txs"
    refine q1 s1 s2 D _ nD1 (fun b o hb e => ?_) upd_same ?_
    · rw [upd_ne hb]
      exact t2.m b _ nm_nil (by rw [upd_ne hb, upd_ne hb]; exact e1 _ _ e)
    · rw [upd_ne nDa]
      exact dm2.h

/-! ### law -/
noncomputable def sp_law (K : PySem.W.Frag) : Sp := fun vs H Q _ => ∃ (a : Addr) (ns : List Int), vs = [.ref a] ∧ SqL K H a (ns.map V.int) ∧ ns.length ≤ 63 ∧ ∀ H', Q (.bl true) H'
theorem ok_law {f : Addr} {fd : FuncData} (z : Z K mg) (F : Fun K "law" "law" s_law f fd) (h_law_places : Has P w K mg base "_law_places" 1 (sp_law_places K)) (h_law_done : Has P w K mg base "_law_done" 6 (sp_law_done K)) (h_law_key : Has P w K mg base "_law_key" 3 (sp_law_key K)) (h_law_gone : Has P w K mg base "_law_gone" 8 (sp_law_gone K)) (h_law_refused : Has P w K mg base "_law_refused" 8 (sp_law_refused K)) (h_law_thing : Has P w K mg base "_law_thing" 2 (sp_law_thing K)) (h_law_open : Has P w K mg base "_law_open" 1 (sp_law_open K)) (h_law_keys : Has P w K mg base "_law_keys" 4 (sp_law_keys K)) (h_law_draw : Has P w K mg base "_law_draw" 1 (sp_law_draw K)) (hm_Table_entries : HasM P w K mg base "Table" "entries" 1 (sp_Table_entries K)) (hm_Table_find : HasM P w K mg base "Table" "find" 5 (sp_Table_find K)) (hm_Table_put : HasM P w K mg base "Table" "put" 4 (sp_Table_put K)) (mk_Table : HasK P w K mg base "Table" 4 (sp_Table___init K)) : FnOk P w K mg base CX0 9 f fd ["_law_script"] (sp_law K) := by
  refine fnok_of F sc_law (fun vs H Q E h => ?_) (fun cdv A outer s H vs Q E hr h => ?_)
  · obtain ⟨a, ns, rfl, _⟩ := h
    rfl
  · obtain ⟨a, ns, rfl, hS, hl, q⟩ := h
    refine ⟨_, (pss_cons (ps_set (i := 1) sc_law.nd rfl (by first | exact Or.inl rfl | exact Or.inr rfl) (pe_callH h_law_open (by decide) hr rfl (pa_cons (pv 0) (pa_cons pe_int pa_nil))))
        (pss_cons (ps_set (i := 2) sc_law.nd rfl (by first | exact Or.inl rfl | exact Or.inr rfl) (pe_cmpR (eqA (K := K) rfl hr.units) (pe_callH h_law_draw (by decide) hr rfl (pa_cons (pv 1) (pa_cons pe_int pa_nil))) pe_int (nomark _)))
        (pss_cons (ps_set (i := 3) sc_law.nd rfl (by first | exact Or.inl rfl | exact Or.inr rfl) (pe_makeX passL mk_Table (Nat.le_refl _) (hr.mono (by decide)) rfl (pa_cons (pe_op op_plusA pe_int (pe_callH h_law_draw (by decide) hr rfl (pa_cons (pv 1) (pa_cons pe_int pa_nil)))) (pa_cons (pe_op op_plusA pe_int (pe_callH h_law_draw (by decide) hr rfl (pa_cons (pv 1) (pa_cons pe_int pa_nil)))) pa_nil))))
        (pss_cons (ps_set (i := 4) sc_law.nd rfl (by first | exact Or.inl rfl | exact Or.inr rfl) pe_dnewK)
        (pss_cons (ps_for PassesOwn.never rfl (piL (K := K) rfl (pe_callH h_law_keys (by decide) hr rfl (pa_cons (pv 1) (pa_cons (pe_ix (ixA (K := K) rfl) (pe_lst (pa_cons (pe_callH h_law_draw (by decide) hr rfl (pa_cons (pv 1) (pa_cons pe_int pa_nil))) (pa_cons pe_int pa_nil))) (pe_callTy (T := "int") call_int1A (by rfl) z.b_int (by decide +kernel) (pa_cons (pv 2) pa_nil)) (fun _ _ => rfl)) pa_nil)))) (pg_name (i := 5) sc_law.nd rfl (by first | exact Or.inl rfl | exact Or.inr rfl)) (pss_cons (ps_dput (hu_of hr) (pv 4) (pv 5) (pe_callH h_law_thing (by decide) hr rfl (pa_cons (pv 1) pa_nil)) rfl)
        (pss_one (ps_expr (pe_methK (K := K) rfl px0 z.k_Table hm_Table_put (by decide) hr (pv 3) (pa_cons (pv 5) (pa_cons (pe_dget (hu_of hr) (pv 4) (pv 5) (fun _ _ => rfl)) pa_nil)))))))
        (pss_cons (ps_for PassesOwn.never rfl (piL (K := K) rfl (pe_callH h_law_places (by decide) hr rfl (pa_cons (pv 0) (pa_cons pe_int (pa_cons (pe_ix (ixA (K := K) rfl) (pe_lst (pa_cons pe_int (pa_cons pe_int pa_nil))) (pe_callTy (T := "int") call_int1A (by rfl) z.b_int (by decide +kernel) (pa_cons (pv 2) pa_nil)) (fun _ _ => rfl)) pa_nil))))) (pg_name (i := 6) sc_law.nd rfl (by first | exact Or.inl rfl | exact Or.inr rfl)) (pss_cons (ps_set (i := 1) sc_law.nd rfl (by first | exact Or.inl rfl | exact Or.inr rfl) (pe_callH h_law_open (by decide) hr rfl (pa_cons (pv 0) (pa_cons (pv 6) pa_nil))))
        (pss_cons (ps_set (i := 7) sc_law.nd rfl (by first | exact Or.inl rfl | exact Or.inr rfl) (pe_callH h_law_thing (by decide) hr rfl (pa_cons (pv 1) pa_nil)))
        (pss_cons (ps_if (PW.pt (pw_or (pt_not (pt_val (pe_callH h_law_refused (by decide) hr rfl (pa_cons (pv 3) (pa_cons (pv 1) (pa_cons (pv 4) (pa_cons (pv 7) pa_nil))))))) (pw_or1 (pt_not (pt_val (pe_callH h_law_gone (by decide) hr rfl (pa_cons (pv 3) (pa_cons (pv 1) (pa_cons (pv 4) (pa_cons (pv 7) pa_nil)))))))))) (pss_one (ps_ret pe_bl)) pss_nil)
        (pss_cons (ps_set (i := 5) sc_law.nd rfl (by first | exact Or.inl rfl | exact Or.inr rfl) (pe_callH h_law_key (by decide) hr rfl (pa_cons (pv 1) pa_nil)))
        (Evl.pss_cut (ps_if (pt_cut (PW.pt (pw_or (pt_cmp (pc_din (hu_of hr) (pv 5) (pv 4))) (pw_or1 (pt_cmpR op_lt (pe_callB (id := "len") lenDA (by rfl) z.b_len (by decide +kernel) (pa_cons (pv 4) pa_nil)) pe_int (nomark _)))))) (pss_cons (ps_dput (hu_of hr) (pv 4) (pv 5) (pv 7) rfl)
        (pss_one (ps_if (pt_cmpR (neA (K := K) rfl hr.units) (pe_callH h_law_done (by decide) hr rfl (pa_cons (pv 3) (pa_cons pe_int (pa_cons (pv 5) (pa_cons (pv 7) pa_nil))))) (pe_tup (pa_cons pe_str (pa_cons pe_non pa_nil))) (nomark _)) (pss_one (ps_ret pe_bl)) pss_nil))) pss_nil)
        (pss_one (ps_for PassesOwn.never rfl (piL (K := K) rfl (pe_slice (slA (K := K) rfl) (pe_callB (id := "sorted") (sortNA rfl) (by rfl) z.b_sorted (by decide +kernel) (pa_cons (pv 4) pa_nil)) po_none (po_some pe_int))) (pg_name (i := 5) sc_law.nd rfl (by first | exact Or.inl rfl | exact Or.inr rfl)) (pss_cons (ps_dput (hu_of hr) (pv 4) (pv 5) (pv 7) rfl)
        (pss_one (ps_if (PW.pt (pw_or (pt_cmpR (neA (K := K) rfl hr.units) (pe_callH h_law_done (by decide) hr rfl (pa_cons (pv 3) (pa_cons pe_int (pa_cons (pv 5) (pa_cons (pv 7) pa_nil))))) (pe_tup (pa_cons pe_str (pa_cons pe_non pa_nil))) (nomark _)) (pw_or1 (pt_cmpR (neA (K := K) rfl hr.units) (pe_ix (ixA (K := K) rfl) (pe_methK (K := K) rfl px0 z.k_Table hm_Table_find (by decide) hr (pv 3) (pa_cons (pv 5) pa_nil)) pe_int (fun _ _ => rfl)) (pv 7) (nomark _))))) (pss_one (ps_ret pe_bl)) pss_nil)))))))))))
        (pss_one (ps_ret (pe_cmpR (eqA (K := K) rfl hr.units) (pe_methK0 (K := K) rfl px0 z.k_Table hm_Table_entries (by decide) hr (pv 3)) (pe_sortedItems rfl (pv 4) (by rfl) z.b_sorted) (nomark _)))))))))), ?_⟩
    walk_at "cx"
    have z0 : Ex H H := Ex.refl _
    walk_at "tls"
    rename_i h Z1 H1 n1 t1 hh1 cr Z2 H2 cr0 cr1 t2 hh2 wd Z3 H3 wd0 wd1 t3 hh3 fl Z4 H4 fl0 fl1 t4 hh4
    have w8 : 1 ≤ 1 + wd ∧ 1 + wd ≤ 8 := by omega
    have f8 : 1 ≤ 1 + fl ∧ 1 + fl ≤ 8 := by omega
    refine t_table t4.zh w8 f8 fun ta D Z5 H5 na nD t5 tb5 => ?_
    have nhD : h ≠ D := ne_alB nD hh4.at
    have hh5 := hh4.tt t5 nm_nil
    have z5 := t5.zh
    walk_at "tlN"
    rename_i d Z6 H6 nd t6 dm6 mn Z7 H7 mn0 mn1 t7 hh7
    have nhd : h ≠ d := ne_alB nd hh5.at
    have nDd : D ≠ d := ne_alB nd tb5.al
    have tb7 := (tb5.tt t6 nm_nil).tt t7 (nm_cons nhD.symm nm_nil)
    have dm7 := dm6.tt t7 (nm_cons nhd.symm nm_nil)
    refine t_newF t7.zh (by show 2 ≤ 100000; decide) fun L Z8 H8 nL t8 fL => ?_
    have z8 := t8.zh
    generalize hcb : decide (cr = 0) = cb
    walk_at "tlN"
    rename_i many hv p9 ks Z9 H9 n9 t9 hh9 ls9 lk ndk bk
    have tb8 := tb7.tt t8 nm_nil
    have dm8 := dm7.tt t8 nm_nil
    have hS8 : SqL K Z8 a (ns.map V.int) := (((((((t1.z.trans t2.z).trans t3.z).trans t4.z).trans t5.z).trans t6.z).trans t7.z).trans t8.z).sq hS
    clear hh1 hh2 hh3 hh4 hh5 hh7 t1 t2 t3 t4 t5 t6 t7 t8 tb5 tb7 dm6 dm7 fL hS z5
    have tb9 := tb8.tt t9 (nm_cons nhD.symm nm_nil)
    have dm9 := dm8.tt t9 (nm_cons nhd.symm nm_nil)
    have hS9 := t9.z.sq hS8
    have z9 := t9.zh
    have k64 : ks.length ≤ 64 := by omega
    clear t9 tb8 dm8 z8 hS8
    refine t_forL ls9.is (fun j σ H' => ∃ (l : TR.Row) (Z' : Hp) (x5 : Option V), σ = [some (.ref a), some (.ref h), some (.bl cb), some (.ref ta), some (.ref d), x5, none, none] ∧ T [h, D, d] Z9 H9 Z' H' ∧ Hand K Z' H' h (800000 - 10 * j) ∧ Tb K Z' H' ta D (1 + wd) (1 + fl) l ∧ Dm Z' H' d l ∧ l.length ≤ j) (fun j σ H' hh => ?_) ⟨[], Z9, _, rfl, T.refl z9, hh9.mono (by omega), tb9, dm9, Nat.le_refl _⟩ (fun j v k σ H0 hx iv hh => ?_) (fun σ H' hh => ?_)
    · obtain ⟨l, Z', _, _, t, _⟩ := hh
      exact t.z.trans t.zh
    · obtain ⟨l, Z10, x5, rfl, t10, hh10, tb10, dm10, ll⟩ := hh
      obtain rfl := iv.int_of
      have jl := (List.getElem?_eq_some_iff.mp hx).1
      obtain ⟨k0, k1⟩ := bk k (List.mem_of_getElem? hx)
      have z10 := t10.zh
      obtain ⟨dx10, ha10⟩ := tb10.at_
      have ky := tb10.k1
      walk_at "tls"
      rename_i x Z11 H11 nx t11 hh11 Z12 H12 t12 dm12
      have tb12 := (tb10.tt t11 (nm_cons nhD.symm nm_nil)).tt t12 (nm_cons nDd nm_nil)
      have hh12 := hh11.tt t12 (nm_cons nhd nm_nil)
      refine t_dix dm12.h (thingOf_set ky) ?_
      walk_at "tls"
      refine tb_put tb12 ⟨k0, k1⟩ nx (.inr (by omega)) fun r Z13 H13 t13 tb13 told => ?_
      have dm13 := dm12.tt t13 (nm_cons nDd.symm nm_nil)
      have hh13 := hh12.tt t13 (nm_cons nhD nm_nil)
      have sl : (setE l k x).length ≤ l.length + 1 := setE_len
      walk_at "tls"
      exact ⟨setE l k x, Z13, _, rfl, ((t10.step t11 (mm_1 (.inl (by simp)))).step t12 (mm_1 (.inl (by simp)))).step t13 (mm_1 (.inl (by simp))), hh13.mono (by omega), tb13, dm13, by omega⟩
    obtain ⟨l, Z10, x5, rfl, t10, hh10, tb10, dm10, ll⟩ := hh
    have hS10 := t10.z.sq hS9
    have z10 := t10.zh
    clear t10 tb9 dm9 hh9 z9 hS9 hh10
    walk_at "tlN"
    refine t_newF z10 (by show 2 ≤ 100000; decide) fun L2 Z11 H11 nL2 t11 fL2 => ?_
    have z11 := t11.zh
    walk_at "tlN"
    rename_i most hms pp Z12 H12 n12 t12 f12
    have tb12 := (tb10.tt t11 nm_nil).tt t12 nm_nil
    have dm12 := (dm10.tt t11 nm_nil).tt t12 nm_nil
    have hS12 := t12.z.sq (t11.z.sq hS10)
    have z12 := t12.zh
    clear t11 tb10 dm10 fL2 hS10 z10 t12 z11 ls9
    have fp := sq_of (K := K) f12
    refine u_forL (fun j σ H' => ∃ (l : TR.Row) (Z' : Hp) (x1 x5 x6 x7 : Option V), σ = [some (.ref a), x1, some (.bl cb), some (.ref ta), some (.ref d), x5, x6, x7] ∧ T [D, d] Z12 H12 Z' H' ∧ Tb K Z' H' ta D (1 + wd) (1 + fl) l ∧ Dm Z' H' d l) (z12.sq fp) ⟨l, Z12, _, _, _, _, rfl, T.refl z12, tb12, dm12⟩ (fun j σ H' _ hh => ?_) (fun j v σ H0 hx hh => ?_) (fun σ H' hh => ?_)
    · obtain ⟨l, Z', _, _, _, _, _, t, _⟩ := hh
      exact t.zh.sq (t.z.sq fp)
    · obtain ⟨l, Z1, x1, x5, x6, x7, rfl, t1, tb1, dm1⟩ := hh
      obtain ⟨place, rfl, pl0, pl1⟩ := rgV_at hx
      have hS1 := t1.zh.sq (t1.z.sq hS12)
      have z1 := t1.zh
      have T1 := t1
      clear tb12 dm12 hS12 t1
      walk_at "tls"
      rename_i h2 Z2 H2 n2 t2 hh2 x Z3 H3 nx t3 hh3
      have nhD2 : h2 ≠ D := ne_alF n2 tb1.al
      have nhd2 : h2 ≠ d := ne_alF n2 dm1.at_
      have nH2 : H12 h2 = none := T1.nn n2
      have tb3 := (tb1.tt t2 nm_nil).tt t3 (nm_cons nhD2.symm nm_nil)
      have dm3 := (dm1.tt t2 nm_nil).tt t3 (nm_cons nhd2.symm nm_nil)
      have T3 : T [D, d] Z12 H12 Z3 H3 := (T1.step t2 mm_nil).step t3 (mm_1 (.inr nH2))
      have z3 := t3.zh
      clear t2 t3 tb1 dm1 hh2 z1 T1 hS1
      refine ⟨ta, D, h2, d, 1 + wd, 1 + fl, l, x, Z3, 800000, rfl, tb3, hh3.mono (by omega), dm3, nhD2, nhd2, nDd, nx, fun Z4 H4 t4 tb4 hh4 dm4 => ?_⟩
      have z4 := t4.zh
      have T4 : T [D, d] Z12 H12 Z4 H4 := T3.step t4 (mm_cons (.inr nH2) (mm_1 (.inl (by simp))))
      walk_at "tls"
      refine ⟨ta, D, h2, d, 1 + wd, 1 + fl, l, x, Z4, 700000, rfl, tb4, hh4.mono (by omega), dm4, nhD2, nhd2, nDd, nx, fun l5 Z5 H5 ll5 t5 tb5 hh5 dm5 => ?_⟩
      have z5 := t5.zh
      have T5 : T [D, d] Z12 H12 Z5 H5 := T4.step t5 (mm_cons (.inr nH2) (mm_cons (.inl (by simp)) (mm_1 (.inl (by simp)))))
      clear t4 t5 tb3 tb4 dm3 dm4 hh3 hh4 T3 T4 z3 z4
      walk_at "tls"
      rename_i k Z6 H6 k0 k1 t6 hh6
      have tb6 := tb5.tt t6 (nm_cons nhD2.symm nm_nil)
      have dm6 := dm5.tt t6 (nm_cons nhd2.symm nm_nil)
      have T6 : T [D, d] Z12 H12 Z6 H6 := T5.step t6 (mm_1 (.inr nH2))
      have z6 := t6.zh
      have lx : x.1.length ≤ 100000 := nameB_len nx
      clear t6 tb5 dm5 hh5 T5 z5 hh6
      refine s_cut (fun σ' H' => ∃ (l' : TR.Row) (Z' : Hp), σ' = [some (.ref a), some (.ref h2), some (.bl cb), some (.ref ta), some (.ref d), some (.int k), some (.int place), some (.str x.1)] ∧ T [D, d] Z12 H12 Z' H' ∧ Tb K Z' H' ta D (1 + wd) (1 + fl) l' ∧ Dm Z' H' d l') ?_ ?_
      · walk_at "tls"
        refine s_tcut (fun b H' => b = decide (k ∈ l5.map Prod.fst ∨ l5.length < 60) ∧ H' = H6) ?_ ?_
        · walk_at "tls"
          by_cases hk : k ∈ l5.map Prod.fst
          · rw [if_pos (decide_eq_true hk)]
            exact ⟨(decide_eq_true (.inl hk)).symm, rfl⟩
          · rw [if_neg (by rw [decide_eq_true_eq]; exact hk)]
            walk_at "tls"
            exact ⟨decide_eq_decide.mpr ⟨fun h => .inr (by omega), fun h => h.elim (fun c => absurd c hk) fun c => by omega⟩, rfl⟩
        rintro b H' ⟨rfl, rfl⟩
        refine i_d (fun hd => ?_) (fun hd => ?_)
        · walk_at "tls"
          refine t_dput dm6 (by have := tb6.le; omega) fun Z8 H8 t8 dm8 => ?_
          have tb8 := tb6.tt t8 (nm_cons nDd nm_nil)
          have hl5 : k ∈ l5.map Prod.fst ∨ l5.length < 64 := hd.imp id fun c => by omega
          have z8 := t8.zh
          walk_at "tls"
          refine ⟨ta, D, 1 + wd, 1 + fl, 0, l5, Z8, .int k, .str x.1, "int", "str", rfl, tb8, .int k, .str _ lx, by decide, by decide, fun c => absurd c (by decide), fun word o rf => (rf.told0 rfl (decide_eq_true ⟨k0, k1⟩) nx hl5).elim, fun _ k9 x9 ek et c1 c2 hl9 p9 Z9 H9 t9 tb9 f9 => ?_, fun c => absurd c (by decide)⟩
          cases ek
          have ex9 : x9 = x := Subtype.ext (V.str.inj et).symm
          subst ex9
          have z9 := t9.zh
          walk_at "tls"
          rename_i p10 Z10 H10 n10 t10 f10
          have i9 : Ik Z10 (.ref p9) ((txTold, (none : Option Int)) : Tx × Option Int) := Ik.pair (t10.z _ _ f9) (Ik.tx txTold) Ik.no
          have i10 : Ik Z10 (.ref p10) ((txTold, (none : Option Int)) : Tx × Option Int) := Ik.pair f10 (Ik.tx txTold) Ik.no
          refine s_neP (Ik.ex t10.zh i9).is (Ik.ex t10.zh i10).is (by decide) ?_
          have tb10 := tb9.tt t10 nm_nil
          have dm10 := (dm8.tt t9 (nm_cons nDd.symm nm_nil)).tt t10 nm_nil
          have z10 := t10.zh
          obtain ⟨dx10, ha10⟩ := tb10.at_
          walk_at "tls"
          exact ⟨setE l5 k x9, Z10, rfl, ((T6.step t8 (mm_1 (.inl (by simp)))).step t9 (mm_1 (.inl (by simp)))).step t10 mm_nil, tb10, dm10⟩
        · exact ⟨l5, Z6, rfl, T6, tb6, dm6⟩
      rintro σ' H7 ⟨l7, Z7, rfl, T7, tb7, dm7⟩
      clear tb6 dm6 T6 z6
      have z7 := T7.zh
      walk_at "tls"
      rename_i p1 Z1 H1 n1 t1 ls1 p2 Z2 H2 n2 t2 ls2
      have T2 : T [D, d] Z12 H12 Z2 H2 := (T7.step t1 mm_nil).step t2 mm_nil
      have tb2 := (tb7.tt t1 nm_nil).tt t2 nm_nil
      have dm2 := (dm7.tt t1 nm_nil).tt t2 nm_nil
      clear t1 t2 tb7 dm7 T7 z7
      refine t_forL ls2.is (fun j σ H' => ∃ (l' : TR.Row) (Z' : Hp) (y5 : Option V), σ = [some (.ref a), some (.ref h2), some (.bl cb), some (.ref ta), some (.ref d), y5, some (.int place), some (.str x.1)] ∧ T [D, d] Z2 H2 Z' H' ∧ Tb K Z' H' ta D (1 + wd) (1 + fl) l' ∧ Dm Z' H' d l' ∧ ∀ y ∈ l7.map Prod.fst, y ∈ l'.map Prod.fst) (fun j σ H' hh => ?_) ⟨l7, Z2, _, rfl, T.refl T2.zh, tb2, dm2, fun _ h => h⟩ (fun j v k2 σ H0 hx iv hh => ?_) (fun σ H' hh => ?_)
      · obtain ⟨l', Z', _, _, t, _⟩ := hh
        exact t.z.trans t.zh
      · obtain ⟨l', Z7, y5, rfl, t7, tb7, dm7, lin⟩ := hh
        obtain rfl := iv.int_of
        have km : k2 ∈ l'.map Prod.fst := lin k2 (by
          have := List.mem_of_getElem? hx
          rw [cutI_to _ (by decide)] at this
          exact sortI_mem.mp (List.mem_of_mem_take this))
        have k01 : 0 ≤ k2 ∧ k2 < 1152921504606846976 := by
          obtain ⟨e, he, rfl⟩ := List.mem_map.mp km
          exact tb7.ks e he
        have ky := tb7.k1
        walk_at "tls"
        refine t_dput dm7 (by have := tb7.le; omega) fun Z8 H8 t8 dm8 => ?_
        have tb8 := tb7.tt t8 (nm_cons nDd nm_nil)
        have z8 := t8.zh
        walk_at "tls"
        refine ⟨ta, D, 1 + wd, 1 + fl, 0, l', Z8, .int k2, .str x.1, "int", "str", rfl, tb8, .int k2, .str _ lx, by decide, by decide, fun c => absurd c (by decide), fun word o rf => (rf.told0 rfl (decide_eq_true k01) nx (.inl km)).elim, fun _ k9 x9 ek et c1 c2 hl9 p9 Z9 H9 t9 tb9 f9 => ?_, fun c => absurd c (by decide)⟩
        cases ek
        have ex9 : x9 = x := Subtype.ext (V.str.inj et).symm
        subst ex9
        have z9 := t9.zh
        walk_at "tls"
        rename_i p10 Z10 H10 n10 t10 f10
        have i9 : Ik Z10 (.ref p9) ((txTold, (none : Option Int)) : Tx × Option Int) := Ik.pair (t10.z _ _ f9) (Ik.tx txTold) Ik.no
        have i10 : Ik Z10 (.ref p10) ((txTold, (none : Option Int)) : Tx × Option Int) := Ik.pair f10 (Ik.tx txTold) Ik.no
        refine s_neP (Ik.ex t10.zh i9).is (Ik.ex t10.zh i10).is (by decide) ?_
        have tb10 := tb9.tt t10 nm_nil
        have dm10 := (dm8.tt t9 (nm_cons nDd.symm nm_nil)).tt t10 nm_nil
        have z10 := t10.zh
        obtain ⟨dx10, ha10⟩ := tb10.at_
        walk_at "tls"
        refine tb_find tb10 (thingOf_set ky) fun p11 Z11 H11 n11 t11 tb11 f11 => ?_
        have g11 : SqT K H11 p11 _ := st_of (t11.zh _ _ f11)
        have dm11 := dm10.tt t11 (nm_cons nDd.symm nm_nil)
        walk_at "tls"
        refine ⟨setE l' k2 x9, Z11, _, rfl, (((t7.step t8 (mm_1 (.inl (by simp)))).step t9 (mm_1 (.inl (by simp)))).step t10 mm_nil).step t11 (mm_1 (.inl (by simp))), tb11, dm11, fun y hy => setE_has (.inl (lin y hy))⟩
      · obtain ⟨l', Z7, y5, rfl, t7, tb7, dm7, lin⟩ := hh
        exact ⟨l', Z7, _, _, _, _, rfl, T2.step t7 (mm_cons (.inl (by simp)) (mm_1 (.inl (by simp)))), tb7, dm7⟩
    · obtain ⟨l, Z1, x1, x5, x6, x7, rfl, t1, tb1, dm1⟩ := hh
      have z1 := t1.zh
      obtain ⟨dx1, ha1⟩ := tb1.at_
      walk_at "tls"
      rename_i p2 Z2 H2 n2 t2 lm2
      have dm2 := dm1.tt t2 nm_nil
      have z2 := t2.zh
      refine t_itemsM z2 dm2.h tb1.k1 fun p3 Z3 H3 n3 t3 lm3 => ?_
      refine s_eqP (x := sortE l) (y := sortE l) (lm2.tt t3 nm_nil).isH.is lm3.isH.is (by decide) ?_
      rw [decide_eq_true rfl]
      exact q _

end

end Lw
open PySem PySem.W PyProof.Rows
set_option maxHeartbeats 0 in

theorem PySem.Challenge.cw_tailrooms_k37_refused_in_order_holds : PySem.Challenge.rw_tailrooms_k37_refused_in_order.Holds := by

  w_on; o_law; k_head; (case hw => w_witness2)
  k_fill

  refine L2.walk_of (l := PySem.Challenge.rw_tailrooms_k37_refused_in_order) (n := 63) (k := 9) (x := "_law_script") (CX := fun _ => L2.CX0) (sp := fun w => Lw.sp_law _) rfl (by decide) rfl ⟨rfl, by decide, by decide⟩ (fun w h Y => PySem.W.kIn_of Y) ?F (fun _ _ a ns hl _ hS => ⟨a, ns, rfl, hS, hl, fun _ => rfl⟩) (fun _ _ _ _ _ h => h)

  case F =>
    intro w mg fa h KX G hmg

    have zz : Lw.Z (L2.KOf KX) mg := by
      refine' ⟨PySem.W.mg_none_of KX G ?z0, PySem.W.mg_none_of KX G ?z1, PySem.W.mg_none_of KX G ?z2, PySem.W.mg_none_of KX G ?z3, PySem.W.mg_none_of KX G ?z4, PySem.W.mg_none_of KX G ?z5, PySem.W.mg_none_of KX G ?z6, PySem.W.mg_none_of KX G ?z7, PySem.W.mg_none_of KX G ?z8, PySem.W.mg_none_of KX G ?z9, PySem.W.mg_none_of KX G ?z10, PySem.W.mg_none_of KX G ?z11, PySem.W.mg_none_of KX G ?z12, TR.constS_mk KX G ?y0, TR.constI_mk KX G ?y1, TR.constI_mk KX G ?y2, TR.constI_mk KX G ?y3, TR.constI_mk KX G ?y4, TR.cls_mk KX ?ka_Table ?kb_Table ?kc_Table ?kd_Table ?ke_Table, TR.noAttr_mk KX ?na_Table_wide ?nb_Table_wide, TR.noAttr_mk KX ?na_Table_fill ?nb_Table_fill, TR.noAttr_mk KX ?na_Table_things ?nb_Table_things, TR.teC_mk KX G ?ta_TailError ?tb_TailError ?tc_TailError ?td_TailError, TR.clsG_mk KX G ?ga_NoSize, TR.clsG_mk KX G ?ga_NoRoom, TR.clsG_mk KX G ?ga_Lacking, TR.clsG_mk KX G ?ga_Full, TR.clsG_mk KX G ?ga_NoThing, TR.clsG_mk KX G ?ga_NoKey, TR.clsG_mk KX G ?ga_TailError, TR.isx_mk KX ?qa_NoKey ?qb_NoKey ?qc_NoKey ?qd_NoKey ?qe_NoKey ?qf_NoKey ?qg_NoKey ?qh_NoKey ?qi_NoKey, TR.sve_mk KX ?qj_NoKey ?qk_NoKey, TR.isx_mk KX ?qa_NoThing ?qb_NoThing ?qc_NoThing ?qd_NoThing ?qe_NoThing ?qf_NoThing ?qg_NoThing ?qh_NoThing ?qi_NoThing, TR.sve_mk KX ?qj_NoThing ?qk_NoThing, TR.isx_mk KX ?qa_Full ?qb_Full ?qc_Full ?qd_Full ?qe_Full ?qf_Full ?qg_Full ?qh_Full ?qi_Full, TR.sve_mk KX ?qj_Full ?qk_Full, TR.isx_mk KX ?qa_Lacking ?qb_Lacking ?qc_Lacking ?qd_Lacking ?qe_Lacking ?qf_Lacking ?qg_Lacking ?qh_Lacking ?qi_Lacking, TR.sve_mk KX ?qj_Lacking ?qk_Lacking, TR.isx_mk KX ?qa_NoRoom ?qb_NoRoom ?qc_NoRoom ?qd_NoRoom ?qe_NoRoom ?qf_NoRoom ?qg_NoRoom ?qh_NoRoom ?qi_NoRoom, TR.sve_mk KX ?qj_NoRoom ?qk_NoRoom, TR.xf_mk KX ?xa_Lacking ?xb_Lacking ?xc_Lacking ?xd_Lacking ?xe_Lacking, TR.xf_mk KX ?xa_NoKey ?xb_NoKey ?xc_NoKey ?xd_NoKey ?xe_NoKey, TR.xf_mk KX ?xa_NoRoom ?xb_NoRoom ?xc_NoRoom ?xd_NoRoom ?xe_NoRoom, TR.xf_mk KX ?xa_Full ?xb_Full ?xc_Full ?xd_Full ?xe_Full, TR.xf_mk KX ?xa_NoThing ?xb_NoThing ?xc_NoThing ?xd_NoThing ?xe_NoThing, TR.fn_mk KX ?fa_Lacking_key ?fb_Lacking_key, TR.fn_mk KX ?fa_NoKey_key ?fb_NoKey_key, TR.fn_mk KX ?fa_NoRoom_number ?fb_NoRoom_number, TR.fn_mk KX ?fa_Full_many ?fb_Full_many, TR.fn_mk KX ?fa_NoThing_thing ?fb_NoThing_thing, TR.exm_mk KX ?ma_NoThing_TailError ?mb_NoThing_TailError ?mc_NoThing_TailError ?md_NoThing_TailError ?me_NoThing_TailError ?mf_NoThing_TailError, TR.exm_mk KX ?ma_NoKey_TailError ?mb_NoKey_TailError ?mc_NoKey_TailError ?md_NoKey_TailError ?me_NoKey_TailError ?mf_NoKey_TailError, TR.exm_mk KX ?ma_Full_TailError ?mb_Full_TailError ?mc_Full_TailError ?md_Full_TailError ?me_Full_TailError ?mf_Full_TailError, TR.exm_mk KX ?ma_Lacking_TailError ?mb_Lacking_TailError ?mc_Lacking_TailError ?md_Lacking_TailError ?me_Lacking_TailError ?mf_Lacking_TailError, TR.exm_mk KX ?ma_NoRoom_TailError ?mb_NoRoom_TailError ?mc_NoRoom_TailError ?md_NoRoom_TailError ?me_NoRoom_TailError ?mf_NoRoom_TailError, TR.exm_mk KX ?ma_NoSize_TailError ?mb_NoSize_TailError ?mc_NoSize_TailError ?md_NoSize_TailError ?me_NoSize_TailError ?mf_NoSize_TailError, TR.exm_mk KX ?ma_NoThing_Lacking ?mb_NoThing_Lacking ?mc_NoThing_Lacking ?md_NoThing_Lacking ?me_NoThing_Lacking ?mf_NoThing_Lacking, TR.exm_mk KX ?ma_NoKey_Lacking ?mb_NoKey_Lacking ?mc_NoKey_Lacking ?md_NoKey_Lacking ?me_NoKey_Lacking ?mf_NoKey_Lacking, TR.exm_mk KX ?ma_Full_Lacking ?mb_Full_Lacking ?mc_Full_Lacking ?md_Full_Lacking ?me_Full_Lacking ?mf_Full_Lacking, TR.exm_mk KX ?ma_Lacking_Lacking ?mb_Lacking_Lacking ?mc_Lacking_Lacking ?md_Lacking_Lacking ?me_Lacking_Lacking ?mf_Lacking_Lacking, TR.exm_mk KX ?ma_NoRoom_Lacking ?mb_NoRoom_Lacking ?mc_NoRoom_Lacking ?md_NoRoom_Lacking ?me_NoRoom_Lacking ?mf_NoRoom_Lacking, TR.exm_mk KX ?ma_NoSize_Lacking ?mb_NoSize_Lacking ?mc_NoSize_Lacking ?md_NoSize_Lacking ?me_NoSize_Lacking ?mf_NoSize_Lacking, TR.exm_mk KX ?ma_NoThing_NoKey ?mb_NoThing_NoKey ?mc_NoThing_NoKey ?md_NoThing_NoKey ?me_NoThing_NoKey ?mf_NoThing_NoKey, TR.exm_mk KX ?ma_NoKey_NoKey ?mb_NoKey_NoKey ?mc_NoKey_NoKey ?md_NoKey_NoKey ?me_NoKey_NoKey ?mf_NoKey_NoKey, TR.exm_mk KX ?ma_Full_NoKey ?mb_Full_NoKey ?mc_Full_NoKey ?md_Full_NoKey ?me_Full_NoKey ?mf_Full_NoKey, TR.exm_mk KX ?ma_Lacking_NoKey ?mb_Lacking_NoKey ?mc_Lacking_NoKey ?md_Lacking_NoKey ?me_Lacking_NoKey ?mf_Lacking_NoKey, TR.exm_mk KX ?ma_NoRoom_NoKey ?mb_NoRoom_NoKey ?mc_NoRoom_NoKey ?md_NoRoom_NoKey ?me_NoRoom_NoKey ?mf_NoRoom_NoKey, TR.exm_mk KX ?ma_NoSize_NoKey ?mb_NoSize_NoKey ?mc_NoSize_NoKey ?md_NoSize_NoKey ?me_NoSize_NoKey ?mf_NoSize_NoKey, TR.exm_mk KX ?ma_NoThing_NoRoom ?mb_NoThing_NoRoom ?mc_NoThing_NoRoom ?md_NoThing_NoRoom ?me_NoThing_NoRoom ?mf_NoThing_NoRoom, TR.exm_mk KX ?ma_NoKey_NoRoom ?mb_NoKey_NoRoom ?mc_NoKey_NoRoom ?md_NoKey_NoRoom ?me_NoKey_NoRoom ?mf_NoKey_NoRoom, TR.exm_mk KX ?ma_Full_NoRoom ?mb_Full_NoRoom ?mc_Full_NoRoom ?md_Full_NoRoom ?me_Full_NoRoom ?mf_Full_NoRoom, TR.exm_mk KX ?ma_Lacking_NoRoom ?mb_Lacking_NoRoom ?mc_Lacking_NoRoom ?md_Lacking_NoRoom ?me_Lacking_NoRoom ?mf_Lacking_NoRoom, TR.exm_mk KX ?ma_NoRoom_NoRoom ?mb_NoRoom_NoRoom ?mc_NoRoom_NoRoom ?md_NoRoom_NoRoom ?me_NoRoom_NoRoom ?mf_NoRoom_NoRoom, TR.exm_mk KX ?ma_NoSize_NoRoom ?mb_NoSize_NoRoom ?mc_NoSize_NoRoom ?md_NoSize_NoRoom ?me_NoSize_NoRoom ?mf_NoSize_NoRoom, TR.exm_mk KX ?ma_NoThing_Full ?mb_NoThing_Full ?mc_NoThing_Full ?md_NoThing_Full ?me_NoThing_Full ?mf_NoThing_Full, TR.exm_mk KX ?ma_NoKey_Full ?mb_NoKey_Full ?mc_NoKey_Full ?md_NoKey_Full ?me_NoKey_Full ?mf_NoKey_Full, TR.exm_mk KX ?ma_Full_Full ?mb_Full_Full ?mc_Full_Full ?md_Full_Full ?me_Full_Full ?mf_Full_Full, TR.exm_mk KX ?ma_Lacking_Full ?mb_Lacking_Full ?mc_Lacking_Full ?md_Lacking_Full ?me_Lacking_Full ?mf_Lacking_Full, TR.exm_mk KX ?ma_NoRoom_Full ?mb_NoRoom_Full ?mc_NoRoom_Full ?md_NoRoom_Full ?me_NoRoom_Full ?mf_NoRoom_Full, TR.exm_mk KX ?ma_NoSize_Full ?mb_NoSize_Full ?mc_NoSize_Full ?md_NoSize_Full ?me_NoSize_Full ?mf_NoSize_Full, TR.exm_mk KX ?ma_NoThing_NoThing ?mb_NoThing_NoThing ?mc_NoThing_NoThing ?md_NoThing_NoThing ?me_NoThing_NoThing ?mf_NoThing_NoThing, TR.exm_mk KX ?ma_NoKey_NoThing ?mb_NoKey_NoThing ?mc_NoKey_NoThing ?md_NoKey_NoThing ?me_NoKey_NoThing ?mf_NoKey_NoThing, TR.exm_mk KX ?ma_Full_NoThing ?mb_Full_NoThing ?mc_Full_NoThing ?md_Full_NoThing ?me_Full_NoThing ?mf_Full_NoThing, TR.exm_mk KX ?ma_Lacking_NoThing ?mb_Lacking_NoThing ?mc_Lacking_NoThing ?md_Lacking_NoThing ?me_Lacking_NoThing ?mf_Lacking_NoThing, TR.exm_mk KX ?ma_NoRoom_NoThing ?mb_NoRoom_NoThing ?mc_NoRoom_NoThing ?md_NoRoom_NoThing ?me_NoRoom_NoThing ?mf_NoRoom_NoThing, TR.exm_mk KX ?ma_NoSize_NoThing ?mb_NoSize_NoThing ?mc_NoSize_NoThing ?md_NoSize_NoThing ?me_NoSize_NoThing ?mf_NoSize_NoThing, TR.exm_mk KX ?ma_NoKey_NoSize ?mb_NoKey_NoSize ?mc_NoKey_NoSize ?md_NoKey_NoSize ?me_NoKey_NoSize ?mf_NoKey_NoSize, TR.exm_mk KX ?ma_NoThing_NoSize ?mb_NoThing_NoSize ?mc_NoThing_NoSize ?md_NoThing_NoSize ?me_NoThing_NoSize ?mf_NoThing_NoSize, TR.exm_mk KX ?ma_Full_NoSize ?mb_Full_NoSize ?mc_Full_NoSize ?md_Full_NoSize ?me_Full_NoSize ?mf_Full_NoSize, TR.exm_mk KX ?ma_Lacking_NoSize ?mb_Lacking_NoSize ?mc_Lacking_NoSize ?md_Lacking_NoSize ?me_Lacking_NoSize ?mf_Lacking_NoSize, TR.exm_mk KX ?ma_NoRoom_NoSize ?mb_NoRoom_NoSize ?mc_NoRoom_NoSize ?md_NoRoom_NoSize ?me_NoRoom_NoSize ?mf_NoRoom_NoSize⟩
      (case z0 => k_is)
      (case z1 => k_is)
      (case z2 => k_is)
      (case z3 => k_is)
      (case z4 => k_is)
      (case z5 => k_is)
      (case z6 => k_is)
      (case z7 => k_is)
      (case z8 => k_is)
      (case z9 => k_is)
      (case z10 => k_is)
      (case z11 => k_is)
      (case z12 => k_is)
      (case y0 => k_is)
      (case y1 => k_is)
      (case y2 => k_is)
      (case y3 => k_is)
      (case y4 => k_is)
      (case ka_Table => k_is)
      (case kb_Table => k_is)
      (case kc_Table => k_is)
      (case kd_Table => k_is)
      (case ke_Table => k_is)
      (case na_Table_wide => k_is)
      (case nb_Table_wide => k_is)
      (case na_Table_fill => k_is)
      (case nb_Table_fill => k_is)
      (case na_Table_things => k_is)
      (case nb_Table_things => k_is)
      (case ta_TailError => k_is)
      (case tb_TailError => k_is)
      (case tc_TailError => k_is)
      (case td_TailError => k_is)
      (case ga_NoSize => k_is)
      (case ga_NoRoom => k_is)
      (case ga_Lacking => k_is)
      (case ga_Full => k_is)
      (case ga_NoThing => k_is)
      (case ga_NoKey => k_is)
      (case ga_TailError => k_is)
      (case qa_NoKey => k_is)
      (case qb_NoKey => k_is)
      (case qc_NoKey => k_is)
      (case qd_NoKey => k_is)
      (case qe_NoKey => k_is)
      (case qf_NoKey => k_is)
      (case qg_NoKey => k_is)
      (case qh_NoKey => k_is)
      (case qi_NoKey => k_is)
      (case qj_NoKey => k_is)
      (case qk_NoKey => k_is)
      (case qa_NoThing => k_is)
      (case qb_NoThing => k_is)
      (case qc_NoThing => k_is)
      (case qd_NoThing => k_is)
      (case qe_NoThing => k_is)
      (case qf_NoThing => k_is)
      (case qg_NoThing => k_is)
      (case qh_NoThing => k_is)
      (case qi_NoThing => k_is)
      (case qj_NoThing => k_is)
      (case qk_NoThing => k_is)
      (case qa_Full => k_is)
      (case qb_Full => k_is)
      (case qc_Full => k_is)
      (case qd_Full => k_is)
      (case qe_Full => k_is)
      (case qf_Full => k_is)
      (case qg_Full => k_is)
      (case qh_Full => k_is)
      (case qi_Full => k_is)
      (case qj_Full => k_is)
      (case qk_Full => k_is)
      (case qa_Lacking => k_is)
      (case qb_Lacking => k_is)
      (case qc_Lacking => k_is)
      (case qd_Lacking => k_is)
      (case qe_Lacking => k_is)
      (case qf_Lacking => k_is)
      (case qg_Lacking => k_is)
      (case qh_Lacking => k_is)
      (case qi_Lacking => k_is)
      (case qj_Lacking => k_is)
      (case qk_Lacking => k_is)
      (case qa_NoRoom => k_is)
      (case qb_NoRoom => k_is)
      (case qc_NoRoom => k_is)
      (case qd_NoRoom => k_is)
      (case qe_NoRoom => k_is)
      (case qf_NoRoom => k_is)
      (case qg_NoRoom => k_is)
      (case qh_NoRoom => k_is)
      (case qi_NoRoom => k_is)
      (case qj_NoRoom => k_is)
      (case qk_NoRoom => k_is)
      (case xa_Lacking => k_is)
      (case xb_Lacking => k_is)
      (case xc_Lacking => k_is)
      (case xd_Lacking => k_is)
      (case xe_Lacking => k_is)
      (case xa_NoKey => k_is)
      (case xb_NoKey => k_is)
      (case xc_NoKey => k_is)
      (case xd_NoKey => k_is)
      (case xe_NoKey => k_is)
      (case xa_NoRoom => k_is)
      (case xb_NoRoom => k_is)
      (case xc_NoRoom => k_is)
      (case xd_NoRoom => k_is)
      (case xe_NoRoom => k_is)
      (case xa_Full => k_is)
      (case xb_Full => k_is)
      (case xc_Full => k_is)
      (case xd_Full => k_is)
      (case xe_Full => k_is)
      (case xa_NoThing => k_is)
      (case xb_NoThing => k_is)
      (case xc_NoThing => k_is)
      (case xd_NoThing => k_is)
      (case xe_NoThing => k_is)
      (case fa_Lacking_key => k_is)
      (case fb_Lacking_key => k_is)
      (case fa_NoKey_key => k_is)
      (case fb_NoKey_key => k_is)
      (case fa_NoRoom_number => k_is)
      (case fb_NoRoom_number => k_is)
      (case fa_Full_many => k_is)
      (case fb_Full_many => k_is)
      (case fa_NoThing_thing => k_is)
      (case fb_NoThing_thing => k_is)
      (case ma_NoThing_TailError => k_is)
      (case mb_NoThing_TailError => k_is)
      (case mc_NoThing_TailError => k_is)
      (case md_NoThing_TailError => k_is)
      (case me_NoThing_TailError => k_is)
      (case mf_NoThing_TailError => k_is)
      (case ma_NoKey_TailError => k_is)
      (case mb_NoKey_TailError => k_is)
      (case mc_NoKey_TailError => k_is)
      (case md_NoKey_TailError => k_is)
      (case me_NoKey_TailError => k_is)
      (case mf_NoKey_TailError => k_is)
      (case ma_Full_TailError => k_is)
      (case mb_Full_TailError => k_is)
      (case mc_Full_TailError => k_is)
      (case md_Full_TailError => k_is)
      (case me_Full_TailError => k_is)
      (case mf_Full_TailError => k_is)
      (case ma_Lacking_TailError => k_is)
      (case mb_Lacking_TailError => k_is)
      (case mc_Lacking_TailError => k_is)
      (case md_Lacking_TailError => k_is)
      (case me_Lacking_TailError => k_is)
      (case mf_Lacking_TailError => k_is)
      (case ma_NoRoom_TailError => k_is)
      (case mb_NoRoom_TailError => k_is)
      (case mc_NoRoom_TailError => k_is)
      (case md_NoRoom_TailError => k_is)
      (case me_NoRoom_TailError => k_is)
      (case mf_NoRoom_TailError => k_is)
      (case ma_NoSize_TailError => k_is)
      (case mb_NoSize_TailError => k_is)
      (case mc_NoSize_TailError => k_is)
      (case md_NoSize_TailError => k_is)
      (case me_NoSize_TailError => k_is)
      (case mf_NoSize_TailError => k_is)
      (case ma_NoThing_Lacking => k_is)
      (case mb_NoThing_Lacking => k_is)
      (case mc_NoThing_Lacking => k_is)
      (case md_NoThing_Lacking => k_is)
      (case me_NoThing_Lacking => k_is)
      (case mf_NoThing_Lacking => k_is)
      (case ma_NoKey_Lacking => k_is)
      (case mb_NoKey_Lacking => k_is)
      (case mc_NoKey_Lacking => k_is)
      (case md_NoKey_Lacking => k_is)
      (case me_NoKey_Lacking => k_is)
      (case mf_NoKey_Lacking => k_is)
      (case ma_Full_Lacking => k_is)
      (case mb_Full_Lacking => k_is)
      (case mc_Full_Lacking => k_is)
      (case md_Full_Lacking => k_is)
      (case me_Full_Lacking => k_is)
      (case mf_Full_Lacking => k_is)
      (case ma_Lacking_Lacking => k_is)
      (case mb_Lacking_Lacking => k_is)
      (case mc_Lacking_Lacking => k_is)
      (case md_Lacking_Lacking => k_is)
      (case me_Lacking_Lacking => k_is)
      (case mf_Lacking_Lacking => k_is)
      (case ma_NoRoom_Lacking => k_is)
      (case mb_NoRoom_Lacking => k_is)
      (case mc_NoRoom_Lacking => k_is)
      (case md_NoRoom_Lacking => k_is)
      (case me_NoRoom_Lacking => k_is)
      (case mf_NoRoom_Lacking => k_is)
      (case ma_NoSize_Lacking => k_is)
      (case mb_NoSize_Lacking => k_is)
      (case mc_NoSize_Lacking => k_is)
      (case md_NoSize_Lacking => k_is)
      (case me_NoSize_Lacking => k_is)
      (case mf_NoSize_Lacking => k_is)
      (case ma_NoThing_NoKey => k_is)
      (case mb_NoThing_NoKey => k_is)
      (case mc_NoThing_NoKey => k_is)
      (case md_NoThing_NoKey => k_is)
      (case me_NoThing_NoKey => k_is)
      (case mf_NoThing_NoKey => k_is)
      (case ma_NoKey_NoKey => k_is)
      (case mb_NoKey_NoKey => k_is)
      (case mc_NoKey_NoKey => k_is)
      (case md_NoKey_NoKey => k_is)
      (case me_NoKey_NoKey => k_is)
      (case mf_NoKey_NoKey => k_is)
      (case ma_Full_NoKey => k_is)
      (case mb_Full_NoKey => k_is)
      (case mc_Full_NoKey => k_is)
      (case md_Full_NoKey => k_is)
      (case me_Full_NoKey => k_is)
      (case mf_Full_NoKey => k_is)
      (case ma_Lacking_NoKey => k_is)
      (case mb_Lacking_NoKey => k_is)
      (case mc_Lacking_NoKey => k_is)
      (case md_Lacking_NoKey => k_is)
      (case me_Lacking_NoKey => k_is)
      (case mf_Lacking_NoKey => k_is)
      (case ma_NoRoom_NoKey => k_is)
      (case mb_NoRoom_NoKey => k_is)
      (case mc_NoRoom_NoKey => k_is)
      (case md_NoRoom_NoKey => k_is)
      (case me_NoRoom_NoKey => k_is)
      (case mf_NoRoom_NoKey => k_is)
      (case ma_NoSize_NoKey => k_is)
      (case mb_NoSize_NoKey => k_is)
      (case mc_NoSize_NoKey => k_is)
      (case md_NoSize_NoKey => k_is)
      (case me_NoSize_NoKey => k_is)
      (case mf_NoSize_NoKey => k_is)
      (case ma_NoThing_NoRoom => k_is)
      (case mb_NoThing_NoRoom => k_is)
      (case mc_NoThing_NoRoom => k_is)
      (case md_NoThing_NoRoom => k_is)
      (case me_NoThing_NoRoom => k_is)
      (case mf_NoThing_NoRoom => k_is)
      (case ma_NoKey_NoRoom => k_is)
      (case mb_NoKey_NoRoom => k_is)
      (case mc_NoKey_NoRoom => k_is)
      (case md_NoKey_NoRoom => k_is)
      (case me_NoKey_NoRoom => k_is)
      (case mf_NoKey_NoRoom => k_is)
      (case ma_Full_NoRoom => k_is)
      (case mb_Full_NoRoom => k_is)
      (case mc_Full_NoRoom => k_is)
      (case md_Full_NoRoom => k_is)
      (case me_Full_NoRoom => k_is)
      (case mf_Full_NoRoom => k_is)
      (case ma_Lacking_NoRoom => k_is)
      (case mb_Lacking_NoRoom => k_is)
      (case mc_Lacking_NoRoom => k_is)
      (case md_Lacking_NoRoom => k_is)
      (case me_Lacking_NoRoom => k_is)
      (case mf_Lacking_NoRoom => k_is)
      (case ma_NoRoom_NoRoom => k_is)
      (case mb_NoRoom_NoRoom => k_is)
      (case mc_NoRoom_NoRoom => k_is)
      (case md_NoRoom_NoRoom => k_is)
      (case me_NoRoom_NoRoom => k_is)
      (case mf_NoRoom_NoRoom => k_is)
      (case ma_NoSize_NoRoom => k_is)
      (case mb_NoSize_NoRoom => k_is)
      (case mc_NoSize_NoRoom => k_is)
      (case md_NoSize_NoRoom => k_is)
      (case me_NoSize_NoRoom => k_is)
      (case mf_NoSize_NoRoom => k_is)
      (case ma_NoThing_Full => k_is)
      (case mb_NoThing_Full => k_is)
      (case mc_NoThing_Full => k_is)
      (case md_NoThing_Full => k_is)
      (case me_NoThing_Full => k_is)
      (case mf_NoThing_Full => k_is)
      (case ma_NoKey_Full => k_is)
      (case mb_NoKey_Full => k_is)
      (case mc_NoKey_Full => k_is)
      (case md_NoKey_Full => k_is)
      (case me_NoKey_Full => k_is)
      (case mf_NoKey_Full => k_is)
      (case ma_Full_Full => k_is)
      (case mb_Full_Full => k_is)
      (case mc_Full_Full => k_is)
      (case md_Full_Full => k_is)
      (case me_Full_Full => k_is)
      (case mf_Full_Full => k_is)
      (case ma_Lacking_Full => k_is)
      (case mb_Lacking_Full => k_is)
      (case mc_Lacking_Full => k_is)
      (case md_Lacking_Full => k_is)
      (case me_Lacking_Full => k_is)
      (case mf_Lacking_Full => k_is)
      (case ma_NoRoom_Full => k_is)
      (case mb_NoRoom_Full => k_is)
      (case mc_NoRoom_Full => k_is)
      (case md_NoRoom_Full => k_is)
      (case me_NoRoom_Full => k_is)
      (case mf_NoRoom_Full => k_is)
      (case ma_NoSize_Full => k_is)
      (case mb_NoSize_Full => k_is)
      (case mc_NoSize_Full => k_is)
      (case md_NoSize_Full => k_is)
      (case me_NoSize_Full => k_is)
      (case mf_NoSize_Full => k_is)
      (case ma_NoThing_NoThing => k_is)
      (case mb_NoThing_NoThing => k_is)
      (case mc_NoThing_NoThing => k_is)
      (case md_NoThing_NoThing => k_is)
      (case me_NoThing_NoThing => k_is)
      (case mf_NoThing_NoThing => k_is)
      (case ma_NoKey_NoThing => k_is)
      (case mb_NoKey_NoThing => k_is)
      (case mc_NoKey_NoThing => k_is)
      (case md_NoKey_NoThing => k_is)
      (case me_NoKey_NoThing => k_is)
      (case mf_NoKey_NoThing => k_is)
      (case ma_Full_NoThing => k_is)
      (case mb_Full_NoThing => k_is)
      (case mc_Full_NoThing => k_is)
      (case md_Full_NoThing => k_is)
      (case me_Full_NoThing => k_is)
      (case mf_Full_NoThing => k_is)
      (case ma_Lacking_NoThing => k_is)
      (case mb_Lacking_NoThing => k_is)
      (case mc_Lacking_NoThing => k_is)
      (case md_Lacking_NoThing => k_is)
      (case me_Lacking_NoThing => k_is)
      (case mf_Lacking_NoThing => k_is)
      (case ma_NoRoom_NoThing => k_is)
      (case mb_NoRoom_NoThing => k_is)
      (case mc_NoRoom_NoThing => k_is)
      (case md_NoRoom_NoThing => k_is)
      (case me_NoRoom_NoThing => k_is)
      (case mf_NoRoom_NoThing => k_is)
      (case ma_NoSize_NoThing => k_is)
      (case mb_NoSize_NoThing => k_is)
      (case mc_NoSize_NoThing => k_is)
      (case md_NoSize_NoThing => k_is)
      (case me_NoSize_NoThing => k_is)
      (case mf_NoSize_NoThing => k_is)
      (case ma_NoKey_NoSize => k_is)
      (case mb_NoKey_NoSize => k_is)
      (case mc_NoKey_NoSize => k_is)
      (case md_NoKey_NoSize => k_is)
      (case me_NoKey_NoSize => k_is)
      (case mf_NoKey_NoSize => k_is)
      (case ma_NoThing_NoSize => k_is)
      (case mb_NoThing_NoSize => k_is)
      (case mc_NoThing_NoSize => k_is)
      (case md_NoThing_NoSize => k_is)
      (case me_NoThing_NoSize => k_is)
      (case mf_NoThing_NoSize => k_is)
      (case ma_Full_NoSize => k_is)
      (case mb_Full_NoSize => k_is)
      (case mc_Full_NoSize => k_is)
      (case md_Full_NoSize => k_is)
      (case me_Full_NoSize => k_is)
      (case mf_Full_NoSize => k_is)
      (case ma_Lacking_NoSize => k_is)
      (case mb_Lacking_NoSize => k_is)
      (case mc_Lacking_NoSize => k_is)
      (case md_Lacking_NoSize => k_is)
      (case me_Lacking_NoSize => k_is)
      (case mf_Lacking_NoSize => k_is)
      (case ma_NoRoom_NoSize => k_is)
      (case mb_NoRoom_NoSize => k_is)
      (case mc_NoRoom_NoSize => k_is)
      (case md_NoRoom_NoSize => k_is)
      (case me_NoRoom_NoSize => k_is)
      (case mf_NoRoom_NoSize => k_is)

    have A_longest_spread : mg "longest_spread" = mg "longest" := by
      refine' TR.alias_mk KX G ?a ?b
      (case a => k_is); (case b => k_is)

    have A_spill_spread : mg "spill_spread" = mg "spill" := by
      refine' TR.alias_mk KX G ?a ?b
      (case a => k_is); (case b => k_is)

    have F0 : TR.FunAt (L2.KOf KX) mg "_law_places" Lw.s_law_places ["_law_script", "_law_least", "_law_most"] := by
      refine' TR.funAt_mk KX G (x := "_law_places") (st := Lw.s_law_places) (ps := ["_law_script", "_law_least", "_law_most"]) ?a ?l ?c ?k (fun _ _ _ _ _ _ us hl => match us, hl with | [_, _, _], _ => rfl)
      (case a => k_is); (case l => k_is); (case c => k_is); (case k => k_is)

    have F1 : TR.FunAt (L2.KOf KX) mg "_law_kinds" Lw.s_law_kinds ["_law_e"] := by
      refine' TR.funAt_mk KX G (x := "_law_kinds") (st := Lw.s_law_kinds) (ps := ["_law_e"]) ?a ?l ?c ?k (fun _ _ _ _ _ _ us hl => match us, hl with | [_], _ => rfl)
      (case a => k_is); (case l => k_is); (case c => k_is); (case k => k_is)

    have F2 : TR.FunAt (L2.KOf KX) mg "whole_rooms" Lw.s_whole_rooms ["rooms"] := by
      refine' TR.funAt_mk KX G (x := "whole_rooms") (st := Lw.s_whole_rooms) (ps := ["rooms"]) ?a ?l ?c ?k (fun _ _ _ _ _ _ us hl => match us, hl with | [_], _ => rfl)
      (case a => k_is); (case l => k_is); (case c => k_is); (case k => k_is)

    have F3 : TR.FunAt (L2.KOf KX) mg "turn" Lw.s_turn ["rooms"] := by
      refine' TR.funAt_mk KX G (x := "turn") (st := Lw.s_turn) (ps := ["rooms"]) ?a ?l ?c ?k (fun _ _ _ _ _ _ us hl => match us, hl with | [_], _ => rfl)
      (case a => k_is); (case l => k_is); (case c => k_is); (case k => k_is)

    have F4 : TR.FunAt (L2.KOf KX) mg "split_of" Lw.s_split_of ["rooms"] := by
      refine' TR.funAt_mk KX G (x := "split_of") (st := Lw.s_split_of) (ps := ["rooms"]) ?a ?l ?c ?k (fun _ _ _ _ _ _ us hl => match us, hl with | [_], _ => rfl)
      (case a => k_is); (case l => k_is); (case c => k_is); (case k => k_is)

    have F5 : TR.FunAt (L2.KOf KX) mg "is_name" Lw.s_is_name ["thing"] := by
      refine' TR.funAt_mk KX G (x := "is_name") (st := Lw.s_is_name) (ps := ["thing"]) ?a ?l ?c ?k (fun _ _ _ _ _ _ us hl => match us, hl with | [_], _ => rfl)
      (case a => k_is); (case l => k_is); (case c => k_is); (case k => k_is)

    have F6 : TR.ExAt (L2.KOf KX) "NoThing" "NoThing.__init__" Lw.s_NoThing___init ["self", "thing"] := by
      refine' TR.exAt_mk KX (x := "NoThing") (q := "NoThing.__init__") (st := Lw.s_NoThing___init) (ps := ["self", "thing"]) ?aC ?a ?l ?c ?t ?k (fun _ _ _ _ _ _ us hl => match us, hl with | [_, _], _ => rfl)
      (case aC => k_is); (case a => k_is); (case l => k_is); (case c => k_is); (case t => k_is); (case k => k_is)

    have T6 : TR.ExF (L2.KOf KX) mg "NoThing" "thing" := by
      refine' TR.exF_mk KX G ?aC ?l ?r ?sa ?eC ?tC ?kC ?n
      (case aC => k_is); (case l => k_is); (case r => decide +kernel); (case sa => k_is); (case eC => k_is); (case tC => k_is); (case kC => k_is); (case n => k_is)

    have F7 : TR.FunAt (L2.KOf KX) mg "need_thing" Lw.s_need_thing ["thing"] := by
      refine' TR.funAt_mk KX G (x := "need_thing") (st := Lw.s_need_thing) (ps := ["thing"]) ?a ?l ?c ?k (fun _ _ _ _ _ _ us hl => match us, hl with | [_], _ => rfl)
      (case a => k_is); (case l => k_is); (case c => k_is); (case k => k_is)

    have F8 : TR.FunAt (L2.KOf KX) mg "is_whole" Lw.s_is_whole ["thing"] := by
      refine' TR.funAt_mk KX G (x := "is_whole") (st := Lw.s_is_whole) (ps := ["thing"]) ?a ?l ?c ?k (fun _ _ _ _ _ _ us hl => match us, hl with | [_], _ => rfl)
      (case a => k_is); (case l => k_is); (case c => k_is); (case k => k_is)

    have F9 : TR.FunAt (L2.KOf KX) mg "is_key" Lw.s_is_key ["thing"] := by
      refine' TR.funAt_mk KX G (x := "is_key") (st := Lw.s_is_key) (ps := ["thing"]) ?a ?l ?c ?k (fun _ _ _ _ _ _ us hl => match us, hl with | [_], _ => rfl)
      (case a => k_is); (case l => k_is); (case c => k_is); (case k => k_is)

    have F10 : TR.ExAt (L2.KOf KX) "NoKey" "NoKey.__init__" Lw.s_NoKey___init ["self", "key"] := by
      refine' TR.exAt_mk KX (x := "NoKey") (q := "NoKey.__init__") (st := Lw.s_NoKey___init) (ps := ["self", "key"]) ?aC ?a ?l ?c ?t ?k (fun _ _ _ _ _ _ us hl => match us, hl with | [_, _], _ => rfl)
      (case aC => k_is); (case a => k_is); (case l => k_is); (case c => k_is); (case t => k_is); (case k => k_is)

    have T10 : TR.ExF (L2.KOf KX) mg "NoKey" "key" := by
      refine' TR.exF_mk KX G ?aC ?l ?r ?sa ?eC ?tC ?kC ?n
      (case aC => k_is); (case l => k_is); (case r => decide +kernel); (case sa => k_is); (case eC => k_is); (case tC => k_is); (case kC => k_is); (case n => k_is)

    have F11 : TR.FunAt (L2.KOf KX) mg "need_key" Lw.s_need_key ["key"] := by
      refine' TR.funAt_mk KX G (x := "need_key") (st := Lw.s_need_key) (ps := ["key"]) ?a ?l ?c ?k (fun _ _ _ _ _ _ us hl => match us, hl with | [_], _ => rfl)
      (case a => k_is); (case l => k_is); (case c => k_is); (case k => k_is)

    have F12 : TR.FunAt (L2.KOf KX) mg "room_of" Lw.s_room_of ["key", "rooms"] := by
      refine' TR.funAt_mk KX G (x := "room_of") (st := Lw.s_room_of) (ps := ["key", "rooms"]) ?a ?l ?c ?k (fun _ _ _ _ _ _ us hl => match us, hl with | [_, _], _ => rfl)
      (case a => k_is); (case l => k_is); (case c => k_is); (case k => k_is)

    have F13 : TR.FunAt (L2.KOf KX) mg "rooms_for" Lw.s_rooms_for ["count", "fill"] := by
      refine' TR.funAt_mk KX G (x := "rooms_for") (st := Lw.s_rooms_for) (ps := ["count", "fill"]) ?a ?l ?c ?k (fun _ _ _ _ _ _ us hl => match us, hl with | [_, _], _ => rfl)
      (case a => k_is); (case l => k_is); (case c => k_is); (case k => k_is)

    have F14 : TR.MethAt (L2.KOf KX) "Table" "rooms" "Table.rooms" Lw.s_Table_rooms ["self"] := by
      refine' TR.methAt_mk KX (x := "Table") (m := "rooms") (q := "Table.rooms") (st := Lw.s_Table_rooms) (ps := ["self"]) ?aC ?a ?l ?c ?i ?k (fun _ _ _ _ _ _ us hl => match us, hl with | [_], _ => rfl)
      (case aC => k_is); (case a => k_is); (case l => k_is); (case c => k_is); (case i => k_is); (case k => k_is)

    have F15 : TR.MethAt (L2.KOf KX) "Table" "keys_in" "Table.keys_in" Lw.s_Table_keys_in ["self", "room"] := by
      refine' TR.methAt_mk KX (x := "Table") (m := "keys_in") (q := "Table.keys_in") (st := Lw.s_Table_keys_in) (ps := ["self", "room"]) ?aC ?a ?l ?c ?i ?k (fun _ _ _ _ _ _ us hl => match us, hl with | [_, _], _ => rfl)
      (case aC => k_is); (case a => k_is); (case l => k_is); (case c => k_is); (case i => k_is); (case k => k_is)

    have F16 : TR.ExAt (L2.KOf KX) "Full" "Full.__init__" Lw.s_Full___init ["self", "many"] := by
      refine' TR.exAt_mk KX (x := "Full") (q := "Full.__init__") (st := Lw.s_Full___init) (ps := ["self", "many"]) ?aC ?a ?l ?c ?t ?k (fun _ _ _ _ _ _ us hl => match us, hl with | [_, _], _ => rfl)
      (case aC => k_is); (case a => k_is); (case l => k_is); (case c => k_is); (case t => k_is); (case k => k_is)

    have T16 : TR.ExF (L2.KOf KX) mg "Full" "many" := by
      refine' TR.exF_mk KX G ?aC ?l ?r ?sa ?eC ?tC ?kC ?n
      (case aC => k_is); (case l => k_is); (case r => decide +kernel); (case sa => k_is); (case eC => k_is); (case tC => k_is); (case kC => k_is); (case n => k_is)

    have F17 : TR.MethAt (L2.KOf KX) "Table" "put" "Table.put" Lw.s_Table_put ["self", "key", "thing"] := by
      refine' TR.methAt_mk KX (x := "Table") (m := "put") (q := "Table.put") (st := Lw.s_Table_put) (ps := ["self", "key", "thing"]) ?aC ?a ?l ?c ?i ?k (fun _ _ _ _ _ _ us hl => match us, hl with | [_, _, _], _ => rfl)
      (case aC => k_is); (case a => k_is); (case l => k_is); (case c => k_is); (case i => k_is); (case k => k_is)

    have F18 : TR.FunAt (L2.KOf KX) mg "joined_of" Lw.s_joined_of ["rooms"] := by
      refine' TR.funAt_mk KX G (x := "joined_of") (st := Lw.s_joined_of) (ps := ["rooms"]) ?a ?l ?c ?k (fun _ _ _ _ _ _ us hl => match us, hl with | [_], _ => rfl)
      (case a => k_is); (case l => k_is); (case c => k_is); (case k => k_is)

    have F19 : TR.ExAt (L2.KOf KX) "Lacking" "Lacking.__init__" Lw.s_Lacking___init ["self", "key"] := by
      refine' TR.exAt_mk KX (x := "Lacking") (q := "Lacking.__init__") (st := Lw.s_Lacking___init) (ps := ["self", "key"]) ?aC ?a ?l ?c ?t ?k (fun _ _ _ _ _ _ us hl => match us, hl with | [_, _], _ => rfl)
      (case aC => k_is); (case a => k_is); (case l => k_is); (case c => k_is); (case t => k_is); (case k => k_is)

    have T19 : TR.ExF (L2.KOf KX) mg "Lacking" "key" := by
      refine' TR.exF_mk KX G ?aC ?l ?r ?sa ?eC ?tC ?kC ?n
      (case aC => k_is); (case l => k_is); (case r => decide +kernel); (case sa => k_is); (case eC => k_is); (case tC => k_is); (case kC => k_is); (case n => k_is)

    have F20 : TR.MethAt (L2.KOf KX) "Table" "need_standing" "Table.need_standing" Lw.s_Table_need_standing ["self", "key"] := by
      refine' TR.methAt_mk KX (x := "Table") (m := "need_standing") (q := "Table.need_standing") (st := Lw.s_Table_need_standing) (ps := ["self", "key"]) ?aC ?a ?l ?c ?i ?k (fun _ _ _ _ _ _ us hl => match us, hl with | [_, _], _ => rfl)
      (case aC => k_is); (case a => k_is); (case l => k_is); (case c => k_is); (case i => k_is); (case k => k_is)

    have F21 : TR.MethAt (L2.KOf KX) "Table" "drop" "Table.drop" Lw.s_Table_drop ["self", "key"] := by
      refine' TR.methAt_mk KX (x := "Table") (m := "drop") (q := "Table.drop") (st := Lw.s_Table_drop) (ps := ["self", "key"]) ?aC ?a ?l ?c ?i ?k (fun _ _ _ _ _ _ us hl => match us, hl with | [_, _], _ => rfl)
      (case aC => k_is); (case a => k_is); (case l => k_is); (case c => k_is); (case i => k_is); (case k => k_is)

    have F22 : TR.FunAt (L2.KOf KX) mg "looked" Lw.s_looked ["rows", "key"] := by
      refine' TR.funAt_mk KX G (x := "looked") (st := Lw.s_looked) (ps := ["rows", "key"]) ?a ?l ?c ?k (fun _ _ _ _ _ _ us hl => match us, hl with | [_, _], _ => rfl)
      (case a => k_is); (case l => k_is); (case c => k_is); (case k => k_is)

    have F23 : TR.FunAt (L2.KOf KX) mg "rows_for" Lw.s_rows_for ["many", "wide"] := by
      refine' TR.funAt_mk KX G (x := "rows_for") (st := Lw.s_rows_for) (ps := ["many", "wide"]) ?a ?l ?c ?k (fun _ _ _ _ _ _ us hl => match us, hl with | [_, _], _ => rfl)
      (case a => k_is); (case l => k_is); (case c => k_is); (case k => k_is)

    have F24 : TR.FunAt (L2.KOf KX) mg "rows_of" Lw.s_rows_of ["keys", "wide"] := by
      refine' TR.funAt_mk KX G (x := "rows_of") (st := Lw.s_rows_of) (ps := ["keys", "wide"]) ?a ?l ?c ?k (fun _ _ _ _ _ _ us hl => match us, hl with | [_, _], _ => rfl)
      (case a => k_is); (case l => k_is); (case c => k_is); (case k => k_is)

    have F25 : TR.MethAt (L2.KOf KX) "Table" "looks" "Table.looks" Lw.s_Table_looks ["self", "key"] := by
      refine' TR.methAt_mk KX (x := "Table") (m := "looks") (q := "Table.looks") (st := Lw.s_Table_looks) (ps := ["self", "key"]) ?aC ?a ?l ?c ?i ?k (fun _ _ _ _ _ _ us hl => match us, hl with | [_, _], _ => rfl)
      (case aC => k_is); (case a => k_is); (case l => k_is); (case c => k_is); (case i => k_is); (case k => k_is)

    have F26 : TR.MethAt (L2.KOf KX) "Table" "find" "Table.find" Lw.s_Table_find ["self", "key"] := by
      refine' TR.methAt_mk KX (x := "Table") (m := "find") (q := "Table.find") (st := Lw.s_Table_find) (ps := ["self", "key"]) ?aC ?a ?l ?c ?i ?k (fun _ _ _ _ _ _ us hl => match us, hl with | [_, _], _ => rfl)
      (case aC => k_is); (case a => k_is); (case l => k_is); (case c => k_is); (case i => k_is); (case k => k_is)

    have F27 : TR.ExAt (L2.KOf KX) "NoRoom" "NoRoom.__init__" Lw.s_NoRoom___init ["self", "number"] := by
      refine' TR.exAt_mk KX (x := "NoRoom") (q := "NoRoom.__init__") (st := Lw.s_NoRoom___init) (ps := ["self", "number"]) ?aC ?a ?l ?c ?t ?k (fun _ _ _ _ _ _ us hl => match us, hl with | [_, _], _ => rfl)
      (case aC => k_is); (case a => k_is); (case l => k_is); (case c => k_is); (case t => k_is); (case k => k_is)

    have T27 : TR.ExF (L2.KOf KX) mg "NoRoom" "number" := by
      refine' TR.exF_mk KX G ?aC ?l ?r ?sa ?eC ?tC ?kC ?n
      (case aC => k_is); (case l => k_is); (case r => decide +kernel); (case sa => k_is); (case eC => k_is); (case tC => k_is); (case kC => k_is); (case n => k_is)

    have F28 : TR.MethAt (L2.KOf KX) "Table" "room" "Table.room" Lw.s_Table_room ["self", "number"] := by
      refine' TR.methAt_mk KX (x := "Table") (m := "room") (q := "Table.room") (st := Lw.s_Table_room) (ps := ["self", "number"]) ?aC ?a ?l ?c ?i ?k (fun _ _ _ _ _ _ us hl => match us, hl with | [_, _], _ => rfl)
      (case aC => k_is); (case a => k_is); (case l => k_is); (case c => k_is); (case i => k_is); (case k => k_is)

    have F29 : TR.FunAt (L2.KOf KX) mg "_law_done" Lw.s_law_done ["_law_table", "_law_way", "_law_key_here", "_law_thing_here"] := by
      refine' TR.funAt_mk KX G (x := "_law_done") (st := Lw.s_law_done) (ps := ["_law_table", "_law_way", "_law_key_here", "_law_thing_here"]) ?a ?l ?c ?k (fun _ _ _ _ _ _ us hl => match us, hl with | [_, _, _, _], _ => rfl)
      (case a => k_is); (case l => k_is); (case c => k_is); (case k => k_is)

    have F30 : TR.FunAt (L2.KOf KX) mg "_law_draw" Lw.s_law_draw ["_law_hand", "_law_many"] := by
      refine' TR.funAt_mk KX G (x := "_law_draw") (st := Lw.s_law_draw) (ps := ["_law_hand", "_law_many"]) ?a ?l ?c ?k (fun _ _ _ _ _ _ us hl => match us, hl with | [_, _], _ => rfl)
      (case a => k_is); (case l => k_is); (case c => k_is); (case k => k_is)

    have F31 : TR.FunAt (L2.KOf KX) mg "_law_far" Lw.s_law_far ["_law_hand", "_law_many"] := by
      refine' TR.funAt_mk KX G (x := "_law_far") (st := Lw.s_law_far) (ps := ["_law_hand", "_law_many"]) ?a ?l ?c ?k (fun _ _ _ _ _ _ us hl => match us, hl with | [_, _], _ => rfl)
      (case a => k_is); (case l => k_is); (case c => k_is); (case k => k_is)

    have F32 : TR.FunAt (L2.KOf KX) mg "_law_power" Lw.s_law_power ["_law_many"] := by
      refine' TR.funAt_mk KX G (x := "_law_power") (st := Lw.s_law_power) (ps := ["_law_many"]) ?a ?l ?c ?k (fun _ _ _ _ _ _ us hl => match us, hl with | [_], _ => rfl)
      (case a => k_is); (case l => k_is); (case c => k_is); (case k => k_is)

    have F33 : TR.FunAt (L2.KOf KX) mg "_law_key" Lw.s_law_key ["_law_hand"] := by
      refine' TR.funAt_mk KX G (x := "_law_key") (st := Lw.s_law_key) (ps := ["_law_hand"]) ?a ?l ?c ?k (fun _ _ _ _ _ _ us hl => match us, hl with | [_], _ => rfl)
      (case a => k_is); (case l => k_is); (case c => k_is); (case k => k_is)

    have F34 : TR.FunAt (L2.KOf KX) mg "longest" Lw.s_longest ["sizes", "wide"] := by
      refine' TR.funAt_mk KX G (x := "longest") (st := Lw.s_longest) (ps := ["sizes", "wide"]) ?a ?l ?c ?k (fun _ _ _ _ _ _ us hl => match us, hl with | [_, _], _ => rfl)
      (case a => k_is); (case l => k_is); (case c => k_is); (case k => k_is)

    have F35 : TR.FunAt (L2.KOf KX) mg "spread" Lw.s_spread ["keys", "rooms"] := by
      refine' TR.funAt_mk KX G (x := "spread") (st := Lw.s_spread) (ps := ["keys", "rooms"]) ?a ?l ?c ?k (fun _ _ _ _ _ _ us hl => match us, hl with | [_, _], _ => rfl)
      (case a => k_is); (case l => k_is); (case c => k_is); (case k => k_is)

    have F36 : TR.FunAt (L2.KOf KX) mg "counts" Lw.s_counts ["keys", "rooms"] := by
      refine' TR.funAt_mk KX G (x := "counts") (st := Lw.s_counts) (ps := ["keys", "rooms"]) ?a ?l ?c ?k (fun _ _ _ _ _ _ us hl => match us, hl with | [_, _], _ => rfl)
      (case a => k_is); (case l => k_is); (case c => k_is); (case k => k_is)

    have F37 : TR.MethAt (L2.KOf KX) "Table" "counts_now" "Table.counts_now" Lw.s_Table_counts_now ["self"] := by
      refine' TR.methAt_mk KX (x := "Table") (m := "counts_now") (q := "Table.counts_now") (st := Lw.s_Table_counts_now) (ps := ["self"]) ?aC ?a ?l ?c ?i ?k (fun _ _ _ _ _ _ us hl => match us, hl with | [_], _ => rfl)
      (case aC => k_is); (case a => k_is); (case l => k_is); (case c => k_is); (case i => k_is); (case k => k_is)

    have F38 : TR.MethAt (L2.KOf KX) "Table" "longest" "Table.longest" Lw.s_Table_longest ["self"] := by
      refine' TR.methAt_mk KX (x := "Table") (m := "longest") (q := "Table.longest") (st := Lw.s_Table_longest) (ps := ["self"]) ?aC ?a ?l ?c ?i ?k (fun _ _ _ _ _ _ us hl => match us, hl with | [_], _ => rfl)
      (case aC => k_is); (case a => k_is); (case l => k_is); (case c => k_is); (case i => k_is); (case k => k_is)

    have F39 : TR.FunAt (L2.KOf KX) mg "spill" Lw.s_spill ["sizes", "wide"] := by
      refine' TR.funAt_mk KX G (x := "spill") (st := Lw.s_spill) (ps := ["sizes", "wide"]) ?a ?l ?c ?k (fun _ _ _ _ _ _ us hl => match us, hl with | [_, _], _ => rfl)
      (case a => k_is); (case l => k_is); (case c => k_is); (case k => k_is)

    have F40 : TR.MethAt (L2.KOf KX) "Table" "spill" "Table.spill" Lw.s_Table_spill ["self"] := by
      refine' TR.methAt_mk KX (x := "Table") (m := "spill") (q := "Table.spill") (st := Lw.s_Table_spill) (ps := ["self"]) ?aC ?a ?l ?c ?i ?k (fun _ _ _ _ _ _ us hl => match us, hl with | [_], _ => rfl)
      (case aC => k_is); (case a => k_is); (case l => k_is); (case c => k_is); (case i => k_is); (case k => k_is)

    have F41 : TR.MethAt (L2.KOf KX) "Table" "entries" "Table.entries" Lw.s_Table_entries ["self"] := by
      refine' TR.methAt_mk KX (x := "Table") (m := "entries") (q := "Table.entries") (st := Lw.s_Table_entries) (ps := ["self"]) ?aC ?a ?l ?c ?i ?k (fun _ _ _ _ _ _ us hl => match us, hl with | [_], _ => rfl)
      (case aC => k_is); (case a => k_is); (case l => k_is); (case c => k_is); (case i => k_is); (case k => k_is)

    have F42 : TR.MethAt (L2.KOf KX) "Table" "count" "Table.count" Lw.s_Table_count ["self"] := by
      refine' TR.methAt_mk KX (x := "Table") (m := "count") (q := "Table.count") (st := Lw.s_Table_count) (ps := ["self"]) ?aC ?a ?l ?c ?i ?k (fun _ _ _ _ _ _ us hl => match us, hl with | [_], _ => rfl)
      (case aC => k_is); (case a => k_is); (case l => k_is); (case c => k_is); (case i => k_is); (case k => k_is)

    have F43 : TR.FunAt (L2.KOf KX) mg "_law_state" Lw.s_law_state ["_law_table"] := by
      refine' TR.funAt_mk KX G (x := "_law_state") (st := Lw.s_law_state) (ps := ["_law_table"]) ?a ?l ?c ?k (fun _ _ _ _ _ _ us hl => match us, hl with | [_], _ => rfl)
      (case a => k_is); (case l => k_is); (case c => k_is); (case k => k_is)

    have F44 : TR.FunAt (L2.KOf KX) mg "_law_gone" Lw.s_law_gone ["_law_table", "_law_hand", "_law_model", "_law_thing_here"] := by
      refine' TR.funAt_mk KX G (x := "_law_gone") (st := Lw.s_law_gone) (ps := ["_law_table", "_law_hand", "_law_model", "_law_thing_here"]) ?a ?l ?c ?k (fun _ _ _ _ _ _ us hl => match us, hl with | [_, _, _, _], _ => rfl)
      (case a => k_is); (case l => k_is); (case c => k_is); (case k => k_is)

    have F45 : TR.FunAt (L2.KOf KX) mg "_law_alike" Lw.s_law_alike ["_law_got", "_law_due"] := by
      refine' TR.funAt_mk KX G (x := "_law_alike") (st := Lw.s_law_alike) (ps := ["_law_got", "_law_due"]) ?a ?l ?c ?k (fun _ _ _ _ _ _ us hl => match us, hl with | [_, _], _ => rfl)
      (case a => k_is); (case l => k_is); (case c => k_is); (case k => k_is)

    have F46 : TR.FunAt (L2.KOf KX) mg "_law_odd_thing" Lw.s_law_odd_thing ["_law_hand", "_law_thing_here"] := by
      refine' TR.funAt_mk KX G (x := "_law_odd_thing") (st := Lw.s_law_odd_thing) (ps := ["_law_hand", "_law_thing_here"]) ?a ?l ?c ?k (fun _ _ _ _ _ _ us hl => match us, hl with | [_, _], _ => rfl)
      (case a => k_is); (case l => k_is); (case c => k_is); (case k => k_is)

    have F47 : TR.FunAt (L2.KOf KX) mg "_law_odd_key" Lw.s_law_odd_key ["_law_hand"] := by
      refine' TR.funAt_mk KX G (x := "_law_odd_key") (st := Lw.s_law_odd_key) (ps := ["_law_hand"]) ?a ?l ?c ?k (fun _ _ _ _ _ _ us hl => match us, hl with | [_], _ => rfl)
      (case a => k_is); (case l => k_is); (case c => k_is); (case k => k_is)

    have F48 : TR.FunAt (L2.KOf KX) mg "_law_refused" Lw.s_law_refused ["_law_table", "_law_hand", "_law_model", "_law_thing_here"] := by
      refine' TR.funAt_mk KX G (x := "_law_refused") (st := Lw.s_law_refused) (ps := ["_law_table", "_law_hand", "_law_model", "_law_thing_here"]) ?a ?l ?c ?k (fun _ _ _ _ _ _ us hl => match us, hl with | [_, _, _, _], _ => rfl)
      (case a => k_is); (case l => k_is); (case c => k_is); (case k => k_is)

    have F49 : TR.FunAt (L2.KOf KX) mg "_law_thing" Lw.s_law_thing ["_law_hand"] := by
      refine' TR.funAt_mk KX G (x := "_law_thing") (st := Lw.s_law_thing) (ps := ["_law_hand"]) ?a ?l ?c ?k (fun _ _ _ _ _ _ us hl => match us, hl with | [_], _ => rfl)
      (case a => k_is); (case l => k_is); (case c => k_is); (case k => k_is)

    have F50 : TR.FunAt (L2.KOf KX) mg "_law_open" Lw.s_law_open ["_law_script", "_law_place"] := by
      refine' TR.funAt_mk KX G (x := "_law_open") (st := Lw.s_law_open) (ps := ["_law_script", "_law_place"]) ?a ?l ?c ?k (fun _ _ _ _ _ _ us hl => match us, hl with | [_, _], _ => rfl)
      (case a => k_is); (case l => k_is); (case c => k_is); (case k => k_is)

    have F51 : TR.FunAt (L2.KOf KX) mg "_law_keys" Lw.s_law_keys ["_law_hand", "_law_many"] := by
      refine' TR.funAt_mk KX G (x := "_law_keys") (st := Lw.s_law_keys) (ps := ["_law_hand", "_law_many"]) ?a ?l ?c ?k (fun _ _ _ _ _ _ us hl => match us, hl with | [_, _], _ => rfl)
      (case a => k_is); (case l => k_is); (case c => k_is); (case k => k_is)

    have F52 : TR.FunAt (L2.KOf KX) mg "is_size" Lw.s_is_size ["thing"] := by
      refine' TR.funAt_mk KX G (x := "is_size") (st := Lw.s_is_size) (ps := ["thing"]) ?a ?l ?c ?k (fun _ _ _ _ _ _ us hl => match us, hl with | [_], _ => rfl)
      (case a => k_is); (case l => k_is); (case c => k_is); (case k => k_is)

    have F53 : TR.ExAt (L2.KOf KX) "NoSize" "NoSize.__init__" Lw.s_NoSize___init ["self", "thing"] := by
      refine' TR.exAt_mk KX (x := "NoSize") (q := "NoSize.__init__") (st := Lw.s_NoSize___init) (ps := ["self", "thing"]) ?aC ?a ?l ?c ?t ?k (fun _ _ _ _ _ _ us hl => match us, hl with | [_, _], _ => rfl)
      (case aC => k_is); (case a => k_is); (case l => k_is); (case c => k_is); (case t => k_is); (case k => k_is)

    have T53 : TR.ExF (L2.KOf KX) mg "NoSize" "thing" := by
      refine' TR.exF_mk KX G ?aC ?l ?r ?sa ?eC ?tC ?kC ?n
      (case aC => k_is); (case l => k_is); (case r => decide +kernel); (case sa => k_is); (case eC => k_is); (case tC => k_is); (case kC => k_is); (case n => k_is)

    have F54 : TR.FunAt (L2.KOf KX) mg "need_sizes" Lw.s_need_sizes ["wide", "fill"] := by
      refine' TR.funAt_mk KX G (x := "need_sizes") (st := Lw.s_need_sizes) (ps := ["wide", "fill"]) ?a ?l ?c ?k (fun _ _ _ _ _ _ us hl => match us, hl with | [_, _], _ => rfl)
      (case a => k_is); (case l => k_is); (case c => k_is); (case k => k_is)

    have F55 : TR.MakeAt (L2.KOf KX) mg "Table" "Table.__init__" Lw.s_Table___init ["self", "wide", "fill"] := by
      refine' TR.makeAt_mk KX G (x := "Table") (q := "Table.__init__") (st := Lw.s_Table___init) (ps := ["self", "wide", "fill"]) ?aC ?a ?l ?c ?i ?k ?mk ?kC (fun _ _ _ _ _ _ us hl => match us, hl with | [_, _, _], _ => rfl)
      (case aC => k_is); (case a => k_is); (case l => k_is); (case c => k_is); (case i => k_is); (case k => k_is); (case mk => k_is); (case kC => k_is)

    refine' TR.law_end (st := Lw.s_law) (x := "_law_script") KX G hmg ?a ?l ?c ?k (fun s v => .of_eq rfl) (fun base FF => ?b)
    (case a => k_is); (case l => k_is); (case c => k_is); (case k => k_is)

    case b =>

      have h0 := Lw.has_law_places (P := PySem.Challenge.rw_tailrooms_k37_refused_in_order.prog) (w := w) (base := base) zz F0 

      have h1 := Lw.has_law_kinds (P := PySem.Challenge.rw_tailrooms_k37_refused_in_order.prog) (w := w) (base := base) zz F1 

      have h2 := Lw.has_whole_rooms (P := PySem.Challenge.rw_tailrooms_k37_refused_in_order.prog) (w := w) (base := base) zz F2 

      have h3 := Lw.has_turn (P := PySem.Challenge.rw_tailrooms_k37_refused_in_order.prog) (w := w) (base := base) zz F3 h2

      have h4 := Lw.has_split_of (P := PySem.Challenge.rw_tailrooms_k37_refused_in_order.prog) (w := w) (base := base) zz F4 h3

      have h5 := Lw.has_is_name (P := PySem.Challenge.rw_tailrooms_k37_refused_in_order.prog) (w := w) (base := base) zz F5 

      have h6 := Lw.has_NoThing___init (P := PySem.Challenge.rw_tailrooms_k37_refused_in_order.prog) (w := w) (base := base) zz T6 F6 

      have h7 := Lw.has_need_thing (P := PySem.Challenge.rw_tailrooms_k37_refused_in_order.prog) (w := w) (base := base) zz F7 h5 h6

      have h8 := Lw.has_is_whole (P := PySem.Challenge.rw_tailrooms_k37_refused_in_order.prog) (w := w) (base := base) zz F8 

      have h9 := Lw.has_is_key (P := PySem.Challenge.rw_tailrooms_k37_refused_in_order.prog) (w := w) (base := base) zz F9 h8

      have h10 := Lw.has_NoKey___init (P := PySem.Challenge.rw_tailrooms_k37_refused_in_order.prog) (w := w) (base := base) zz T10 F10 

      have h11 := Lw.has_need_key (P := PySem.Challenge.rw_tailrooms_k37_refused_in_order.prog) (w := w) (base := base) zz F11 h9 h10

      have h12 := Lw.has_room_of (P := PySem.Challenge.rw_tailrooms_k37_refused_in_order.prog) (w := w) (base := base) zz F12 h2

      have h13 := Lw.has_rooms_for (P := PySem.Challenge.rw_tailrooms_k37_refused_in_order.prog) (w := w) (base := base) zz F13 

      have h14 := Lw.has_Table_rooms (P := PySem.Challenge.rw_tailrooms_k37_refused_in_order.prog) (w := w) (base := base) zz F14 h13

      have h15 := Lw.has_Table_keys_in (P := PySem.Challenge.rw_tailrooms_k37_refused_in_order.prog) (w := w) (base := base) zz F15 h12 h14

      have h16 := Lw.has_Full___init (P := PySem.Challenge.rw_tailrooms_k37_refused_in_order.prog) (w := w) (base := base) zz T16 F16 

      have h17 := Lw.has_Table_put (P := PySem.Challenge.rw_tailrooms_k37_refused_in_order.prog) (w := w) (base := base) zz F17 h4 h7 h11 h15 h14 h16

      have h18 := Lw.has_joined_of (P := PySem.Challenge.rw_tailrooms_k37_refused_in_order.prog) (w := w) (base := base) zz F18 h2

      have h19 := Lw.has_Lacking___init (P := PySem.Challenge.rw_tailrooms_k37_refused_in_order.prog) (w := w) (base := base) zz T19 F19 

      have h20 := Lw.has_Table_need_standing (P := PySem.Challenge.rw_tailrooms_k37_refused_in_order.prog) (w := w) (base := base) zz F20 h11 h19

      have h21 := Lw.has_Table_drop (P := PySem.Challenge.rw_tailrooms_k37_refused_in_order.prog) (w := w) (base := base) zz F21 h18 h14 h15 h20

      have h22 := Lw.has_looked (P := PySem.Challenge.rw_tailrooms_k37_refused_in_order.prog) (w := w) (base := base) zz F22 

      have h23 := Lw.has_rows_for (P := PySem.Challenge.rw_tailrooms_k37_refused_in_order.prog) (w := w) (base := base) zz F23 

      have h24 := Lw.has_rows_of (P := PySem.Challenge.rw_tailrooms_k37_refused_in_order.prog) (w := w) (base := base) zz F24 h23

      have h25 := Lw.has_Table_looks (P := PySem.Challenge.rw_tailrooms_k37_refused_in_order.prog) (w := w) (base := base) zz F25 h22 h24 h12 h11 h15 h14

      have h26 := Lw.has_Table_find (P := PySem.Challenge.rw_tailrooms_k37_refused_in_order.prog) (w := w) (base := base) zz F26 h25 h20

      have h27 := Lw.has_NoRoom___init (P := PySem.Challenge.rw_tailrooms_k37_refused_in_order.prog) (w := w) (base := base) zz T27 F27 

      have h28 := Lw.has_Table_room (P := PySem.Challenge.rw_tailrooms_k37_refused_in_order.prog) (w := w) (base := base) zz F28 h24 h8 h15 h14 h27

      have h29 := Lw.has_law_done (P := PySem.Challenge.rw_tailrooms_k37_refused_in_order.prog) (w := w) (base := base) zz F29 h1 h17 h21 h26 h25 h28

      have h30 := Lw.has_law_draw (P := PySem.Challenge.rw_tailrooms_k37_refused_in_order.prog) (w := w) (base := base) zz F30 

      have h31 := Lw.has_law_far (P := PySem.Challenge.rw_tailrooms_k37_refused_in_order.prog) (w := w) (base := base) zz F31 h30

      have h32 := Lw.has_law_power (P := PySem.Challenge.rw_tailrooms_k37_refused_in_order.prog) (w := w) (base := base) zz F32 

      have h33 := Lw.has_law_key (P := PySem.Challenge.rw_tailrooms_k37_refused_in_order.prog) (w := w) (base := base) zz F33 h31 h32 h30

      have h34 := Lw.has_longest (P := PySem.Challenge.rw_tailrooms_k37_refused_in_order.prog) (w := w) (base := base) zz F34 h23

      have h35 := Lw.has_spread (P := PySem.Challenge.rw_tailrooms_k37_refused_in_order.prog) (w := w) (base := base) zz F35 h12

      have h36 := Lw.has_counts (P := PySem.Challenge.rw_tailrooms_k37_refused_in_order.prog) (w := w) (base := base) zz F36 h35

      have h37 := Lw.has_Table_counts_now (P := PySem.Challenge.rw_tailrooms_k37_refused_in_order.prog) (w := w) (base := base) zz F37 h36 h14

      have h38 := Lw.has_Table_longest (P := PySem.Challenge.rw_tailrooms_k37_refused_in_order.prog) (w := w) (base := base) zz F38 (TR.Has.alias h34 A_longest_spread) h37

      have h39 := Lw.has_spill (P := PySem.Challenge.rw_tailrooms_k37_refused_in_order.prog) (w := w) (base := base) zz F39 h23

      have h40 := Lw.has_Table_spill (P := PySem.Challenge.rw_tailrooms_k37_refused_in_order.prog) (w := w) (base := base) zz F40 (TR.Has.alias h39 A_spill_spread) h37

      have h41 := Lw.has_Table_entries (P := PySem.Challenge.rw_tailrooms_k37_refused_in_order.prog) (w := w) (base := base) zz F41 

      have h42 := Lw.has_Table_count (P := PySem.Challenge.rw_tailrooms_k37_refused_in_order.prog) (w := w) (base := base) zz F42 

      have h43 := Lw.has_law_state (P := PySem.Challenge.rw_tailrooms_k37_refused_in_order.prog) (w := w) (base := base) zz F43 h38 h40 h41 h14 h42 h28

      have h44 := Lw.has_law_gone (P := PySem.Challenge.rw_tailrooms_k37_refused_in_order.prog) (w := w) (base := base) zz F44 h29 h43 h33 h30 h14

      have h45 := Lw.has_law_alike (P := PySem.Challenge.rw_tailrooms_k37_refused_in_order.prog) (w := w) (base := base) zz F45 

      have h46 := Lw.has_law_odd_thing (P := PySem.Challenge.rw_tailrooms_k37_refused_in_order.prog) (w := w) (base := base) zz F46 h30

      have h47 := Lw.has_law_odd_key (P := PySem.Challenge.rw_tailrooms_k37_refused_in_order.prog) (w := w) (base := base) zz F47 h30

      have h48 := Lw.has_law_refused (P := PySem.Challenge.rw_tailrooms_k37_refused_in_order.prog) (w := w) (base := base) zz F48 h43 h45 h29 h30 h33 h46 h47 h14

      have h49 := Lw.has_law_thing (P := PySem.Challenge.rw_tailrooms_k37_refused_in_order.prog) (w := w) (base := base) zz F49 h30

      have h50 := Lw.has_law_open (P := PySem.Challenge.rw_tailrooms_k37_refused_in_order.prog) (w := w) (base := base) zz F50 

      have h51 := Lw.has_law_keys (P := PySem.Challenge.rw_tailrooms_k37_refused_in_order.prog) (w := w) (base := base) zz F51 h33

      have h52 := Lw.has_is_size (P := PySem.Challenge.rw_tailrooms_k37_refused_in_order.prog) (w := w) (base := base) zz F52 h8

      have h53 := Lw.has_NoSize___init (P := PySem.Challenge.rw_tailrooms_k37_refused_in_order.prog) (w := w) (base := base) zz T53 F53 

      have h54 := Lw.has_need_sizes (P := PySem.Challenge.rw_tailrooms_k37_refused_in_order.prog) (w := w) (base := base) zz F54 h52 h53

      have h55 := Lw.has_Table___init (P := PySem.Challenge.rw_tailrooms_k37_refused_in_order.prog) (w := w) (base := base) zz F55 h54

      exact Lw.ok_law zz FF h0 h29 h33 h44 h48 h49 h50 h51 h30 h41 h26 h17 h55

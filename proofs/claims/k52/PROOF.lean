import PyProof.Rows.All
import Wide.All
import OpenK.AllK
import Wide.FinOn
import HandS.ForMost
import HandS.Wide
import HandS.SortInts
import HandS.IsInst
import HandS.Conv
import HandS.Evl
import HandS.Style
import HandS.SortRule
import HandS.Text
import PyProof.ReprRoads
import PyProof.ReprLen
import PyProof.Rows.RegStrFacts
import PyProof.StrLawsRepr
import PySem.Challenge.RW_tailrooms_k52_books_looked_at
set_option Elab.async false
set_option linter.all false
set_option maxRecDepth 100000
set_option maxHeartbeats 4000000

/-! TR: joined rules, steps of a reading, the heap, the hand that is drawn from -/
noncomputable section
namespace TR
open PySem L2
open PySem.Spec PyProof.Rows

/-! ### joined rules -/
section
variable {X : Cx}
noncomputable def rPlus : R2 := fun x y H Q => (rI0 fun i j => .int (i + j)) x y H Q ∨ rCat x y H Q ∨
  (∃ i j, x = .str i ∧ y = .str j ∧ i.length + j.length ≤ sizeLine ∧ Q (.str (i ++ j)) H)
theorem op_plusA : OpR X (binaryOp .Add) rPlus := OpR.or op_add (OpR.or op_cat op_add_str)
noncomputable def rMult : R2 := fun x y H Q => (rI CMulW fun i j => .int (i * j)) x y H Q ∨ (rI CMul fun i j => .int (i * j)) x y H Q ∨ rRep x y H Q
theorem op_multA : OpR X (binaryOp .Mult) rMult := OpR.or op_mulW (OpR.or op_mul op_rep)
noncomputable def rEqA (K : PySem.W.Frag) : R2 := fun x y H Q => rEq x y H Q ∨ rEqD K x y H Q
noncomputable def rNeA (K : PySem.W.Frag) : R2 := fun x y H Q => rNe x y H Q ∨ rNeD K x y H Q
theorem op_eqA (hu : X.A.units + 64 < cLine) : OpR X (compareOp .Eq) (rEqA X.K) := OpR.or op_eq (op_eqD hu)
theorem op_neA (hu : X.A.units + 64 < cLine) : OpR X (compareOp .NotEq) (rNeA X.K) := OpR.or op_ne (op_neD hu)
noncomputable def rLenS (K : PySem.W.Frag) : List V → Hp → VK → Prop := Evl.rLenS K
noncomputable def rLenT : List V → Hp → VK → Prop := fun xs H Q => ∃ z, xs = [.str z] ∧ z.length ≤ sizeLine ∧ Q (.int z.length) H
noncomputable def rLen (K : PySem.W.Frag) : List V → Hp → VK → Prop := fun xs H Q => rLenS K xs H Q ∨ rLenT xs H Q
theorem call_lenA : CallR X (.builtin "len") (rLen X.K) := CallR.or call_len_seq call_len_str
noncomputable def rGetL (K : PySem.W.Frag) : R2 := fun x y H Q => ∃ p xs i v, x = .ref p ∧ y = .int i ∧ SqL K H p xs ∧ 0 ≤ i ∧ atI xs i = some v ∧ Q v H
theorem pget_list : PGet X (rGetL X.K) := by
  intro pins s σ H x0 y0 v u Q I rx ru hh
  obtain ⟨p, xs, i, z, ex, ei, hq, h0, he, q⟩ := hh
  subst ex
  subst ei
  cases rx
  obtain ⟨t, et⟩ := ru
  subst et
  obtain ⟨its, r, pl, _⟩ := I.list hq
  obtain ⟨j, h1, h2, h3, _, h5⟩ := atI_get he
  obtain ⟨y, ey, ry⟩ := r.get h2
  have hl := r.length
  have hn := line63
  rw [seqIndex_of h0 h5] at h1
  have hj : i.toNat = j := Option.some.inj h1
  exact wpAny_getItem_list pl.isList h0 (by omega) (by rw [hj]; simpa using ey) ⟨z, H, I, ry, q⟩
noncomputable def rIsNA : R2 := fun x y H Q => y = .non ∧ Q (.bl (decide (x = .non))) H
noncomputable def rNotNA : R2 := fun x y H Q => y = .non ∧ Q (.bl (!decide (x = .non))) H
noncomputable def rMax2 : List V → Hp → VK → Prop := fun xs H Q => ∃ i j, xs = [.int i, .int j] ∧ Q (.int (max i j)) H
noncomputable def rMin2 : List V → Hp → VK → Prop := fun xs H Q => ∃ i j, xs = [.int i, .int j] ∧ Q (.int (min i j)) H
noncomputable def rAbs : List V → Hp → VK → Prop := fun xs H Q => ∃ i, xs = [.int i] ∧ Q (.int (if i < 0 then -i else i)) H
theorem call_max2A (hc : X.calm = true) : CallR X (.builtin "max") rMax2 := by
  have e : rMax2 = fun xs H Q => ∃ i j, xs = [V.int i, V.int j] ∧ Q (.int (if j > i then j else i)) H := by
    funext xs H Q
    have e2 : ∀ i j : Int, max i j = if j > i then j else i := fun i j => by
      by_cases h : j > i
      · rw [if_pos h]
        omega
      · rw [if_neg h]
        omega
    show (∃ i j, xs = [V.int i, V.int j] ∧ Q (.int (max i j)) H) = _
    simp only [e2]
  rw [e]
  exact call_max2 hc
theorem call_min2A (hc : X.calm = true) : CallR X (.builtin "min") rMin2 := by
  have e : rMin2 = fun xs H Q => ∃ i j, xs = [V.int i, V.int j] ∧ Q (.int (if j < i then j else i)) H := by
    funext xs H Q
    have e2 : ∀ i j : Int, min i j = if j < i then j else i := fun i j => by
      by_cases h : j < i
      · rw [if_pos h]
        omega
      · rw [if_neg h]
        omega
    show (∃ i j, xs = [V.int i, V.int j] ∧ Q (.int (min i j)) H) = _
    simp only [e2]
  rw [e]
  exact call_min2 hc
theorem call_absA : CallR X (.builtin "abs") rAbs := call_abs
noncomputable def rInt1 : List V → Hp → VK → Prop := fun xs H Q => (∃ i, xs = [.int i] ∧ Q (.int i) H) ∨ ∃ k, xs = [.bl k] ∧ Q (.int (if k then 1 else 0)) H
theorem call_int1A : CallR X (.type "int") rInt1 := call_int1
noncomputable def rList1 (K : PySem.W.Frag) : List V → Hp → VK → Prop := Evl.rListS K
theorem call_listA : CallR X (.type "list") (rList1 X.K) := call_list_of
end

/-! ### the same rules, the written part K named (they may stand in a comprehension's block) -/
section
variable {X : Cx} {K : PySem.W.Frag}
theorem ixA (hk : X.K = K) : IxR X (rIx K) := hk ▸ ix_seq
theorem slA (hk : X.K = K) : SlR X (rSlL K) := hk ▸ sl_list
theorem slTA (hk : X.K = K) : SlR X (rSlT K) := hk ▸ sl_tup
theorem lenA (hk : X.K = K) : CallR X (.builtin "len") (rLen K) := hk ▸ call_lenA
theorem eqA (hk : X.K = K) (hu : X.A.units + 64 < cLine) : OpR X (compareOp .Eq) (rEqA K) := hk ▸ op_eqA hu
theorem neA (hk : X.K = K) (hu : X.A.units + 64 < cLine) : OpR X (compareOp .NotEq) (rNeA K) := hk ▸ op_neA hu
theorem isiA (hk : X.K = K) : CallR X (.builtin "isinstance") (rIsi K) := hk ▸ call_isi
theorem listA (hk : X.K = K) : CallR X (.type "list") (rList1 K) := hk ▸ call_listA
theorem getA (hk : X.K = K) : PGet X (rGetL K) := hk ▸ pget_list
theorem piL {tg l : Expr} {tl : TE} (hk : X.K = K) (hl : PE X l tl) : PI X tg l (iList K tl) := hk ▸ pi_list hl
theorem piT {tg l : Expr} {tl : TE} (hk : X.K = K) (hl : PE X l tl) : PI X tg l (iTup K tl) := hk ▸ pi_tup hl
end

/-! ### heaps -/
/-- all of H is there in H' -/
noncomputable abbrev Ex := Evl.Ex
/-- all of H but what stands at h -/
noncomputable def ExM (h : Addr) (H H' : Hp) : Prop := ∀ a o, a ≠ h → H a = some o → H' a = some o
theorem Ex.refl (H : Hp) : Ex H H := Evl.Ex.refl H
theorem Ex.trans {H G F : Hp} (a : Ex H G) (b : Ex G F) : Ex H F := Evl.Ex.trans a b
theorem Ex.new {H : Hp} {a : Addr} {u : HO} (h : H a = none) : Ex H (L2.upd H a u) := Evl.Ex.new h
theorem Ex.mut {H G : Hp} {a : Addr} {u : HO} (e : Ex H G) (h : H a = none) : Ex H (L2.upd G a u) := Evl.Ex.mut e h
theorem Ex.exm {Z H H' : Hp} {h : Addr} (e : Ex Z H) (hz : Z h = none) (m : ExM h H H') : Ex Z H' := fun a o ha => m a o (ne_of_none ha hz) (e a o ha)
theorem Ex.toM {H H' : Hp} {h : Addr} (e : Ex H H') : ExM h H H' := fun a o _ ha => e a o ha
theorem ExM.trans {h : Addr} {H H1 H2 : Hp} (a : ExM h H H1) (b : ExM h H1 H2) : ExM h H H2 := fun x o n e => b x o n (a x o n e)
theorem ExM.upd {h : Addr} {H : Hp} {o : HO} : ExM h H (upd H h o) := fun a u n e => by
  rw [upd_ne n]
  exact e
/-- a heap without one object -/
noncomputable def cutH (H : Hp) (h : Addr) : Hp := fun b => if b = h then none else H b
theorem Ex.back {H H' : Hp} {p : Addr} (e : Ex H H') (h : H' p = none) : H p = none := by
  cases h1 : H p with
  | none => rfl
  | some o =>
    rw [e p o h1] at h
    cases h
theorem Ex.sq {K : PySem.W.Frag} {H G : Hp} {p : Addr} {ys : List V} (e : Ex H G) (h : SqL K H p ys) : SqL K G p ys := Evl.ex_l e h
theorem Ex.st {K : PySem.W.Frag} {H G : Hp} {p : Addr} {ys : List V} (e : Ex H G) (h : SqT K H p ys) : SqT K G p ys := Evl.ex_t e h
theorem sq_of {K : PySem.W.Frag} {H : Hp} {p : Addr} {ys : List V} (h : H p = some (.lst ys)) : SqL K H p ys := SqL.of h
theorem st_of {K : PySem.W.Frag} {H : Hp} {p : Addr} {ys : List V} (h : H p = some (.tup ys)) : SqT K H p ys := SqT.of h
theorem sz_of {m : Nat} (h : m ≤ 100000) : m ≤ sizeLine := Evl.sz_of h
theorem sz_lt {m : Nat} (h : m < 100000) : m < sizeLine := Evl.sz_lt h

/-! ### places, first -/
theorem atI_lt {α : Type} {xs : List α} {i : Int} {v : α} (h0 : 0 ≤ i) (h : xs[i.toNat]? = some v) : atI xs i = some v := by
  have e : ((i.toNat : Nat) : Int) = i := Int.toNat_of_nonneg h0
  have q := atI_nat (xs := xs) (j := i.toNat) h
  rw [e] at q
  exact q
theorem ixN_lt {n : Nat} {i : Int} (h0 : 0 ≤ i) (h : i < n) : ixN n i = some i.toNat := by
  unfold ixN
  rw [if_pos h0, if_pos h]

/-! ### steps of a reading: each turns what is to be shown into what it asks next -/
section
variable {K : PySem.W.Frag} {σ : L2.St} {H : Hp} {ta tb tc te : TE} {t u : TT} {D : Ends} {Q : VK} {QB : Bool → Hp → Prop} {v x y : V} {p : Prop} {A B : Prop}
theorem s_var {i : Nat} (h : σ[i]? = some (some v)) (q : Q v H) : tVar i σ H Q := ⟨v, h, q⟩
theorem s_c (q : Q v H) : tC v σ H Q := q
theorem s_op {r : R2} (q : ta σ H fun x H1 => tb σ H1 fun y H2 => r x y H2 Q) : tOp r ta tb σ H Q := q
theorem s_un {r : V → Hp → VK → Prop} (q : ta σ H fun x H1 => r x H1 Q) : tUn r ta σ H Q := q
theorem s_I0 {g : Int → Int → V} {i j : Int} (q : Q (g i j) H) : rI0 g (.int i) (.int j) H Q := ⟨i, j, rfl, rfl, q⟩
theorem s_U {g : Int → V} {i : Int} (q : Q (g i) H) : rU g (.int i) H Q := ⟨i, rfl, q⟩
theorem s_plusI {i j : Int} (q : Q (.int (i + j)) H) : rPlus (.int i) (.int j) H Q := .inl ⟨i, j, rfl, rfl, q⟩
theorem s_plusL {a b : Addr} {xs ys : List V} (h1 : H a = some (.lst xs)) (h2 : H b = some (.lst ys)) (hz : xs.length + ys.length ≤ 100000) (q : ∀ p, H p = none → Q (.ref p) (upd H p (.lst (xs ++ ys)))) : rPlus (.ref a) (.ref b) H Q := .inr (.inl ⟨a, b, xs, ys, rfl, rfl, h1, h2, sz_of hz, q⟩)
theorem s_mulL {i j : Int} (c : -(2 ^ 64) < i ∧ i < 2 ^ 64) (q : Q (.int (i * j)) H) : rMult (.int i) (.int j) H Q := .inr (.inl ⟨i, j, rfl, rfl, .inl c, q⟩)
theorem s_mulR {i j : Int} (c : -(2 ^ 64) < j ∧ j < 2 ^ 64) (q : Q (.int (i * j)) H) : rMult (.int i) (.int j) H Q := .inr (.inl ⟨i, j, rfl, rfl, .inr c, q⟩)
theorem s_div {i j : Int} {g : Int → Int → V} (h : 0 < j) (h2 : j < 2 ^ 63) (q : Q (g i j) H) : rI CDivW g (.int i) (.int j) H Q :=
  ⟨i, j, rfl, rfl, wide_div (b := 63) h (by have e : (2 : Int) ^ 63 = 9223372036854775808 := by decide
                                            have e2 : (2 : Nat) ^ 63 = 9223372036854775808 := by decide
                                            omega) (by decide) (by decide), q⟩
theorem s_mod {i j : Int} (h : 0 < j) (q : 0 ≤ i % j → i % j < j → Q (.int (i % j)) H) : rI (fun _ j => 0 < j) (fun i j => .int (i % j)) (.int i) (.int j) H Q := ⟨i, j, rfl, rfl, h, q (Int.emod_nonneg i (Int.ne_of_gt h)) (Int.emod_lt_of_pos i h)⟩
theorem s_pow10_12 (q : Q (.int 1000000000000) H) : rI CPow (fun i j => .int (i ^ j.toNat)) (.int 10) (.int 12) H Q := ⟨10, 12, rfl, rfl, ⟨by decide, by decide, by decide⟩, by
  have e : (10 : Int) ^ Int.toNat 12 = 1000000000000 := by decide
  show Q (.int ((10 : Int) ^ Int.toNat 12)) H
  rw [e]
  exact q⟩
theorem s_pow10_18 (q : Q (.int 1000000000000000000) H) : rI CPow (fun i j => .int (i ^ j.toNat)) (.int 10) (.int 18) H Q := ⟨10, 18, rfl, rfl, ⟨by decide, by decide, by decide⟩, by
  have e : (10 : Int) ^ Int.toNat 18 = 1000000000000000000 := by decide
  show Q (.int ((10 : Int) ^ Int.toNat 18)) H
  rw [e]
  exact q⟩
theorem s_pow {i j : Int} {g : Int → Int → V} (h1 : 0 ≤ j ∧ j ≤ 1000) (h2 : i.natAbs < 2 ^ 64) (q : Q (g i j) H) : rI CPow g (.int i) (.int j) H Q := ⟨i, j, rfl, rfl, ⟨h1.1, by omega, h2⟩, q⟩
theorem s_eqI {a b : Int} (q : Q (.bl (decide (a = b))) H) : rEqA K (.int a) (.int b) H Q := .inl ⟨rfl, by
  have e : decide (V.int a = V.int b) = decide (a = b) := by rw [dec_int, Bool.beq_eq_decide_eq]
  rw [e]
  exact q⟩
theorem s_neI {a b : Int} (q : Q (.bl (decide (a ≠ b))) H) : rNeA K (.int a) (.int b) H Q := .inl ⟨rfl, by
  have e : (!decide (V.int a = V.int b)) = decide (a ≠ b) := by rw [dec_int, Bool.beq_eq_decide_eq, decide_not]
  rw [e]
  exact q⟩
theorem s_neB {a b : Bool} (q : Q (.bl (decide (a ≠ b))) H) : rNeA K (.bl a) (.bl b) H Q := .inl ⟨rfl, by
  have e : (!decide (V.bl a = V.bl b)) = decide (a ≠ b) := by cases a <;> cases b <;> rfl
  rw [e]
  exact q⟩
theorem s_neS {a b : Str} (q : Q (.bl (decide (a ≠ b))) H) : rNeA K (.str a) (.str b) H Q := .inl ⟨rfl, by
  have e : (!decide (V.str a = V.str b)) = decide (a ≠ b) := by
    by_cases h : a = b
    · rw [h, decide_eq_true rfl, decide_eq_false (fun z => z rfl)]
      rfl
    · rw [decide_eq_false (fun e => h (V.str.inj e)), decide_eq_true h]
      rfl
  rw [e]
  exact q⟩
theorem s_eqD {d e : PyData} (h1 : Dp K H x d) (h2 : Dp K H y e) (s1 : SeqAt.shaped d = true) (s2 : SeqAt.shaped e = true) (q : Q (.bl (PyData.eqv d e)) H) : rEqA K x y H Q := .inr ⟨d, e, h1, h2, s1, s2, q⟩
theorem s_neD {d e : PyData} (h1 : Dp K H x d) (h2 : Dp K H y e) (s1 : SeqAt.shaped d = true) (s2 : SeqAt.shaped e = true) (q : Q (.bl (!PyData.eqv d e)) H) : rNeA K x y H Q := .inr ⟨d, e, h1, h2, s1, s2, q⟩
/-- subscripts -/
theorem s_ixL {a : Addr} {xs : List V} {i : Int} (h : SqL K H a xs) (e : atI xs i = some v) (q : Q v H) : rIx K (.ref a) (.int i) H Q := .inl ⟨a, xs, i, v, rfl, rfl, h, e, q⟩
theorem s_ixT {a : Addr} {xs : List V} {i : Int} (h : SqT K H a xs) (e : atI xs i = some v) (q : Q v H) : rIx K (.ref a) (.int i) H Q := .inr (.inl ⟨a, xs, i, v, rfl, rfl, h, e, q⟩)
theorem s_getL {a : Addr} {xs : List V} {i : Int} (h : SqL K H a xs) (h0 : 0 ≤ i) (e : atI xs i = some v) (q : Q v H) : rGetL K (.ref a) (.int i) H Q := ⟨a, xs, i, v, rfl, rfl, h, h0, e, q⟩
/-- tests -/
theorem s_test (q : te σ H fun x H' => ∃ k, x = .bl k ∧ QB k H') : tTest te σ H QB := q
theorem s_tB (q : te σ H fun x H' => ∃ k, x = .bl k ∧ QB k H') : tB te σ H QB := q
theorem s_bl {b : Bool} {R : Bool → Prop} (q : R b) : ∃ k, V.bl b = V.bl k ∧ R k := ⟨b, rfl, q⟩
theorem s_and (q : t σ H fun c H1 => if c = true then u σ H1 QB else QB false H1) : tAnd t u σ H QB := q
theorem s_or (q : t σ H fun c H1 => if c = true then QB true H1 else u σ H1 QB) : tOr t u σ H QB := q
theorem s_not (q : t σ H fun c H1 => QB (!c) H1) : tNot t σ H QB := q
theorem s_andV (q : ta σ H fun x H1 => ∃ c, x = .bl c ∧ if c = true then tb σ H1 Q else Q (.bl false) H1) : tAndV ta tb σ H Q := q
theorem s_notV (q : ta σ H fun x H1 => ∃ c, x = .bl c ∧ Q (.bl (!c)) H1) : tNotV ta σ H Q := q
theorem i_d [Decidable p] (h1 : p → A) (h2 : ¬ p → B) : if decide p = true then A else B := by
  by_cases h : p
  · rw [if_pos (decide_eq_true h)]
    exact h1 h
  · rw [if_neg (fun z => h (of_decide_eq_true z))]
    exact h2 h
theorem i_t (h : A) : if true = true then A else B := by
  rw [if_pos rfl]
  exact h
theorem i_f (h : B) : if false = true then A else B := by
  rw [if_neg Bool.false_ne_true]
  exact h
theorem i_nt (h : B) : if (!true) = true then A else B := i_f h
theorem i_nf (h : A) : if (!false) = true then A else B := i_t h
theorem i_df [Decidable p] (hp : ¬ p) (h : B) : if decide p = true then A else B := i_d (fun z => absurd z hp) (fun _ => h)
/-- calls, displays, slices -/
theorem s_nil {QA : List V → Hp → Prop} (q : QA [] H) : tNil σ H QA := q
theorem s_cons {tr : TA} {QA : List V → Hp → Prop} (q : ta σ H fun x H1 => tr σ H1 fun xs H2 => QA (x :: xs) H2) : tCons ta tr σ H QA := q
theorem s_call {sp : Sp} {E : XK} {tr : TA} (q : tr σ H fun vs H1 => sp vs H1 Q E) : tCall sp [] E tr σ H Q := by
  have e : (fun (vs : List V) H1 => sp (vs ++ []) H1 Q E) = fun vs H1 => sp vs H1 Q E := by
    funext vs H1
    rw [List.append_nil]
  show tr σ H fun vs H1 => sp (vs ++ []) H1 Q E
  rw [e]
  exact q
theorem s_CB {r : List V → Hp → VK → Prop} {tr : TA} (q : tr σ H fun vs H1 => r vs H1 Q) : tCB r tr σ H Q := q
noncomputable def NewL (xs : List V) (H : Hp) (Q : VK) : Prop := xs.length ≤ sizeLine ∧ ∀ p, H p = none → Q (.ref p) (upd H p (.lst xs))
noncomputable def NewT (xs : List V) (H : Hp) (Q : VK) : Prop := xs.length ≤ sizeLine ∧ ∀ p, H p = none → Q (.ref p) (upd H p (.tup xs))
noncomputable def NewRg (a b : Int) (H : Hp) (Q : VK) : Prop := RgOk a b ∧ ∀ p, H p = none → Q (.ref p) (upd H p (.lst (rgV a b)))
theorem s_lst {tr : TA} (q : tr σ H fun xs H1 => NewL xs H1 Q) : tLst tr σ H Q := q
theorem s_tup {tr : TA} (q : tr σ H fun xs H1 => NewT xs H1 Q) : tTup tr σ H Q := q
theorem s_lenL {a : Addr} {xs : List V} (h : SqL K H a xs) (q : Q (.int (xs.length : Int)) H) : rLen K [.ref a] H Q := .inl ⟨a, xs, rfl, .inl h, q⟩
theorem s_lenM {α : Type} {f : α → V} {l : List α} {a : Addr} (h : SqL K H a (l.map f)) (q : Q (.int (l.length : Int)) H) : rLen K [.ref a] H Q := .inl ⟨a, _, rfl, .inl h, by rw [List.length_map]; exact q⟩
theorem s_ixI {l : List Int} {a : Addr} {i : Int} (h : SqL K H a (l.map V.int)) (h0 : 0 ≤ i ∧ i < l.length) (q : ∀ v, l[i.toNat]? = some v → Q (.int v) H) : rIx K (.ref a) (.int i) H Q := by
  have hl : i.toNat < l.length := by omega
  exact .inl ⟨a, _, i, _, rfl, rfl, h, atI_lt h0.1 (by rw [List.getElem?_map, List.getElem?_eq_getElem hl]; rfl), q _ (List.getElem?_eq_getElem hl)⟩
theorem s_ix2 {a : Addr} {x y i : Int} (h : SqL K H a [.int x, .int y]) (h0 : 0 ≤ i ∧ i < 2) (q : ∀ v, (i = 0 ∧ v = x ∨ i = 1 ∧ v = y) → Q (.int v) H) : rIx K (.ref a) (.int i) H Q := by
  have : i = 0 ∨ i = 1 := by omega
  rcases this with rfl | rfl
  · exact .inl ⟨a, _, 0, _, rfl, rfl, h, rfl, q _ (.inl ⟨rfl, rfl⟩)⟩
  · exact .inl ⟨a, _, 1, _, rfl, rfl, h, rfl, q _ (.inr ⟨rfl, rfl⟩)⟩
theorem s_ix4 {a : Addr} {x y z t i : Int} (h : SqL K H a [.int x, .int y, .int z, .int t]) (h0 : 0 ≤ i ∧ i < 4) (q : ∀ v, (i = 0 ∧ v = x ∨ i = 1 ∧ v = y ∨ i = 2 ∧ v = z ∨ i = 3 ∧ v = t) → Q (.int v) H) : rIx K (.ref a) (.int i) H Q := by
  have : i = 0 ∨ i = 1 ∨ i = 2 ∨ i = 3 := by omega
  rcases this with rfl | rfl | rfl | rfl
  · exact .inl ⟨a, _, 0, _, rfl, rfl, h, rfl, q _ (.inl ⟨rfl, rfl⟩)⟩
  · exact .inl ⟨a, _, 1, _, rfl, rfl, h, rfl, q _ (.inr (.inl ⟨rfl, rfl⟩))⟩
  · exact .inl ⟨a, _, 2, _, rfl, rfl, h, rfl, q _ (.inr (.inr (.inl ⟨rfl, rfl⟩)))⟩
  · exact .inl ⟨a, _, 3, _, rfl, rfl, h, rfl, q _ (.inr (.inr (.inr ⟨rfl, rfl⟩)))⟩
theorem s_lenT {a : Addr} {xs : List V} (h : SqT K H a xs) (q : Q (.int (xs.length : Int)) H) : rLen K [.ref a] H Q := .inl ⟨a, xs, rfl, .inr h, q⟩
theorem s_sl {r : V → Option Int → Option Int → Hp → VK → Prop} {tl th : TO} (q : te σ H fun x H1 => tl σ H1 fun l H2 => th σ H2 fun u H3 => r x l u H3 Q) : tSl r te tl th σ H Q := q
theorem s_np {QO : Option Int → Hp → Prop} (q : QO none H) : tNoPart σ H QO := q
theorem s_part {QO : Option Int → Hp → Prop} (q : te σ H fun x H1 => ∃ i, x = .int i ∧ QO (some i) H1) : tPart te σ H QO := q
theorem s_int {i : Int} {R : Int → Prop} (q : R i) : ∃ k, V.int i = V.int k ∧ R k := ⟨i, rfl, q⟩
theorem s_BM {T : String} {r : V → List V → Hp → VK → Prop} {tr : TA} (q : ta σ H fun x H1 => tyV K T x H1 ∧ tr σ H1 fun xs H2 => r x xs H2 Q) : tBM K T r ta tr σ H Q := q
theorem s_tyL {a : Addr} {xs : List V} {R : Prop} (h : SqL K H a xs) (q : R) : tyV K "list" (.ref a) H ∧ R := ⟨Or.inl ⟨rfl, xs, h⟩, q⟩
/-- statements -/
theorem s_seq {t u : TS} (q : t { D with nx := u D } σ H) : tSeq t u D σ H := q
theorem s_cut {t u : TS} (Mid : L2.St → Hp → Prop) (h : t { D with nx := Mid } σ H) (q : ∀ σ' H', Mid σ' H' → u D σ' H') : Evl.tCut t u D σ H := ⟨Mid, h, q⟩
theorem s_next (q : D.nx σ H) : tNext D σ H := q
theorem s_drop (q : te σ H fun _ H1 => D.nx σ H1) : tDrop te D σ H := q
theorem s_ret (q : te σ H D.rt) : tRet te D σ H := q
theorem s_if {t u : TS} {c : TT} (q : c σ H fun b H1 => if b = true then t D σ H1 else u D σ H1) : tIfS c t u D σ H := q
theorem s_asg {g : TG} (q : te σ H fun x H1 => g x σ H1 D.nx) : tAsg te g D σ H := q
theorem s_gname {i : Nat} {R : L2.St → Hp → Prop} (q : R (σ.set i (some v)) H) : gName i v σ H R := q
theorem s_gsub {to ti : TE} {ts : TSet} {R : L2.St → Hp → Prop} (q : to σ H fun o H1 => ti σ H1 fun i H2 => ts o i v H2 fun H3 => R σ H3) : gSub to ti ts v σ H R := q
theorem s_ipI {f : Int → Int → Int} {i j : Int} (q : Q (.int (f i j)) H) : ipI f (.int i) (.int j) H Q := ⟨i, j, rfl, rfl, q⟩
theorem s_augS {to ti : TE} {tget : V → V → Hp → VK → Prop} {tip : TIp} {tset : TSet}
    (q : to σ H fun o H1 => ti σ H1 fun i H2 => tget o i H2 fun x H3 => te σ H3 fun y H4 => tip x y H4 fun z H5 => tset o i z H5 fun H6 => D.nx σ H6) : tAugS to ti te tget tip tset D σ H := q
theorem s_max2 {i j : Int} (q : Q (.int (max i j)) H) : rMax2 [.int i, .int j] H Q := ⟨i, j, rfl, q⟩
theorem s_min2 {i j : Int} (q : Q (.int (min i j)) H) : rMin2 [.int i, .int j] H Q := ⟨i, j, rfl, q⟩
theorem s_abs {i : Int} (q : Q (.int (if i < 0 then -i else i)) H) : rAbs [.int i] H Q := ⟨i, rfl, q⟩
theorem s_int1b {b : Bool} (q : Q (.int (if b then 1 else 0)) H) : rInt1 [.bl b] H Q := .inr ⟨b, rfl, q⟩
theorem s_isiI {n : String} {i : Int} {b : Bool} (h : kitB "int" n = some b) (q : Q (.bl b) H) : rIsi K [.int i, .ty n] H Q := ⟨.int i, .ty n, _, _, b, rfl, .ty n, .base (.int i), kit_ty h, q⟩
theorem s_isiB {n : String} {i : Bool} {b : Bool} (h : kitB "bool" n = some b) (q : Q (.bl b) H) : rIsi K [.bl i, .ty n] H Q := ⟨.bl i, .ty n, _, _, b, rfl, .ty n, .base (.bl i), kit_ty h, q⟩
theorem s_isiS {n : String} {i : Str} {b : Bool} (h : kitB "str" n = some b) (q : Q (.bl b) H) : rIsi K [.str i, .ty n] H Q := ⟨.str i, .ty n, _, _, b, rfl, .ty n, .base (.str i), kit_ty h, q⟩
theorem s_isiN {n : String} {b : Bool} (h : kitB "NoneType" n = some b) (q : Q (.bl b) H) : rIsi K [.non, .ty n] H Q := ⟨.non, .ty n, _, _, b, rfl, .ty n, .base .non, kit_ty h, q⟩
theorem ty_sq {a : Addr} {xs : List V} (h : SqL K H a xs) : TyX K H (.ref a) (.type "list") := by
  rcases h with (h | ⟨o, h⟩) | ⟨o, its, n, hk, hc, _⟩
  · exact .base (.lst h)
  · exact .base (.frz h)
  · exact .kList hk hc
theorem ty_st {a : Addr} {xs : List V} (h : SqT K H a xs) : TyX K H (.ref a) (.type "tuple") := by
  rcases h with (h | ⟨o, h⟩) | ⟨o, its, n, hk, hc, _⟩
  · exact .base (.tup h)
  · exact .fTuple h
  · exact .kTuple hk hc
theorem s_isiL {n : String} {a : Addr} {xs : List V} {b : Bool} (hs : SqL K H a xs) (h : kitB "list" n = some b) (q : Q (.bl b) H) : rIsi K [.ref a, .ty n] H Q := ⟨.ref a, .ty n, _, _, b, rfl, .ty n, ty_sq hs, kit_ty h, q⟩
theorem s_isiT {n : String} {a : Addr} {xs : List V} {b : Bool} (hs : SqT K H a xs) (h : kitB "tuple" n = some b) (q : Q (.bl b) H) : rIsi K [.ref a, .ty n] H Q := ⟨.ref a, .ty n, _, _, b, rfl, .ty n, ty_st hs, kit_ty h, q⟩
theorem k_ii : kitB "int" "int" = some true := by decide +kernel
theorem k_ib : kitB "int" "bool" = some false := by decide +kernel
theorem k_is : kitB "int" "str" = some false := by decide +kernel
theorem k_il : kitB "int" "list" = some false := by decide +kernel
theorem k_it : kitB "int" "tuple" = some false := by decide +kernel
theorem k_bi : kitB "bool" "int" = some true := by decide +kernel
theorem k_bb : kitB "bool" "bool" = some true := by decide +kernel
theorem k_bt : kitB "bool" "tuple" = some false := by decide +kernel
theorem k_si : kitB "str" "int" = some false := by decide +kernel
theorem k_sb : kitB "str" "bool" = some false := by decide +kernel
theorem k_sl : kitB "str" "list" = some false := by decide +kernel
theorem k_st : kitB "str" "tuple" = some false := by decide +kernel
theorem k_li : kitB "list" "int" = some false := by decide +kernel
theorem k_lb : kitB "list" "bool" = some false := by decide +kernel
theorem k_ll : kitB "list" "list" = some true := by decide +kernel
theorem k_lt : kitB "list" "tuple" = some false := by decide +kernel
theorem k_ti : kitB "tuple" "int" = some false := by decide +kernel
theorem k_tb : kitB "tuple" "bool" = some false := by decide +kernel
theorem k_tl : kitB "tuple" "list" = some false := by decide +kernel
end

section
variable {K : PySem.W.Frag} {σ : L2.St} {H : Hp} {ta tb tl te : TE} {tt : TT} {D : Ends} {Q : VK} {g : TG} {ts : TS} {vs : List Nat}
theorem s_wp {A B : L2.St} {R : Prop} (h : wipe A vs = wipe B vs) (q : R) : wipe A vs = wipe B vs ∧ R := ⟨h, q⟩
/-! lists of a range -/
/-! loops: what a for asks, and how it is answered by an invariant -/
noncomputable def ForJ (g : TG) (tb : TS) (D : Ends) (σ : L2.St) (J : It) (H1 : Hp) : Prop := tFor (fun _ H R => R J H) g tb D σ H1
noncomputable def ForL (K : PySem.W.Frag) (g : TG) (tb : TS) (D : Ends) (σ : L2.St) (x : V) (H1 : Hp) : Prop := ∃ a, x = .ref a ∧ (∃ xs, SqL K H1 a xs) ∧ ForJ g tb D σ (Itl K a) H1
noncomputable def ForT (K : PySem.W.Frag) (g : TG) (tb : TS) (D : Ends) (σ : L2.St) (x : V) (H1 : Hp) : Prop := ∃ a, x = .ref a ∧ (∃ xs, SqT K H1 a xs) ∧ ForJ g tb D σ (Itt K a) H1
noncomputable def ForR1 (g : TG) (tb : TS) (D : Ends) (σ : L2.St) (vs : List V) (H1 : Hp) : Prop := ∃ j : Int, vs = [.int j] ∧ -(2 ^ 62) ≤ j ∧ j < 2 ^ 62 ∧ ForJ g tb D σ (Itr 0 j.toNat) H1
noncomputable def ForR2 (g : TG) (tb : TS) (D : Ends) (σ : L2.St) (vs : List V) (H1 : Hp) : Prop := ∃ i j : Int, vs = [.int i, .int j] ∧ (-(2 ^ 62) ≤ i ∧ i < 2 ^ 62 ∧ -(2 ^ 62) ≤ j ∧ j < 2 ^ 62) ∧ ForJ g tb D σ (Itr i (j - i).toNat) H1
noncomputable def ForE (K : PySem.W.Frag) (g : TG) (tb : TS) (D : Ends) (σ : L2.St) (vs : List V) (H1 : Hp) : Prop := ∃ a xs, vs = [.ref a] ∧ SqL K H1 a xs ∧ ForJ g tb D σ (Ite K a) H1
noncomputable def ForZ (K : PySem.W.Frag) (g : TG) (tb : TS) (D : Ends) (σ : L2.St) (vs : List V) (H1 : Hp) : Prop := ∃ a b xs ys, vs = [.ref a, .ref b] ∧ SqL K H1 a xs ∧ SqL K H1 b ys ∧ ForJ g tb D σ (Itz K a b) H1
noncomputable def ForS (g : TG) (tb : TS) (D : Ends) (σ : L2.St) (v : V) (H1 : Hp) : Prop := ∃ x, v = .str x ∧ ForJ g tb D σ (Its x) H1
theorem s_forL (q : tl σ H fun x H1 => ForL K g ts D σ x H1) : tFor (iList K tl) g ts D σ H := q
theorem s_forT (q : tl σ H fun x H1 => ForT K g ts D σ x H1) : tFor (iTup K tl) g ts D σ H := q
theorem s_forR1 {ta : TA} (q : ta σ H fun x H1 => ForR1 g ts D σ x H1) : tFor (iRng1 ta) g ts D σ H := q
theorem s_forR2 {ta : TA} (q : ta σ H fun x H1 => ForR2 g ts D σ x H1) : tFor (iRng2 ta) g ts D σ H := q
theorem u_forL {a : Addr} {xs : List V} (Pv : Nat → L2.St → Hp → Prop) (h : SqL K H a xs) (h0 : Pv 0 σ H) (hl : ∀ i σ H, i ≤ xs.length → Pv i σ H → SqL K H a xs)
    (hs : ∀ i x σ H, xs[i]? = some x → Pv i σ H → g x σ H fun σ2 H2 => ts { D with nx := Pv (i + 1), ct := Pv (i + 1), bk := D.nx } σ2 H2) (hd : ∀ σ H, Pv xs.length σ H → D.nx σ H) : ForL K g ts D σ (.ref a) H :=
  ⟨a, rfl, ⟨xs, h⟩, for_list Pv h0 hl hs hd⟩
theorem u_forT {a : Addr} {xs : List V} (Pv : Nat → L2.St → Hp → Prop) (h : SqT K H a xs) (h0 : Pv 0 σ H) (hl : ∀ i σ H, i ≤ xs.length → Pv i σ H → SqT K H a xs)
    (hs : ∀ i x σ H, xs[i]? = some x → Pv i σ H → g x σ H fun σ2 H2 => ts { D with nx := Pv (i + 1), ct := Pv (i + 1), bk := D.nx } σ2 H2) (hd : ∀ σ H, Pv xs.length σ H → D.nx σ H) : ForT K g ts D σ (.ref a) H :=
  ⟨a, rfl, ⟨xs, h⟩, for_tup Pv h0 hl hs hd⟩
theorem u_forR1 {n : Int} (Pv : Nat → L2.St → Hp → Prop) (hn : -1000000000000 ≤ n ∧ n ≤ 1000000000000) (h0 : Pv 0 σ H)
    (hs : ∀ (i : Nat) σ H, (i : Int) < n → Pv i σ H → g (.int (i : Int)) σ H fun σ2 H2 => ts { D with nx := Pv (i + 1), ct := Pv (i + 1), bk := D.nx } σ2 H2) (hd : ∀ σ H, Pv n.toNat σ H → D.nx σ H) : ForR1 g ts D σ [.int n] H := by
  have e62 : (2 : Int) ^ 62 = 4611686018427387904 := by decide
  refine ⟨n, rfl, by omega, by omega, for_range (lo := 0) (n := n.toNat) Pv h0 (fun i σ H hi p => ?_) hd⟩
  have e : (0 : Int) + (i : Int) = (i : Int) := Int.zero_add _
  rw [e]
  exact hs i σ H (by omega) p
theorem u_forR2 {lo n : Int} (Pv : Nat → L2.St → Hp → Prop) (hn : -1000000000000 ≤ lo ∧ lo ≤ 1000000000000 ∧ -1000000000000 ≤ n ∧ n ≤ 1000000000000) (h0 : Pv 0 σ H)
    (hs : ∀ (i : Nat) σ H, lo + (i : Int) < n → Pv i σ H → g (.int (lo + (i : Int))) σ H fun σ2 H2 => ts { D with nx := Pv (i + 1), ct := Pv (i + 1), bk := D.nx } σ2 H2) (hd : ∀ σ H, Pv (n - lo).toNat σ H → D.nx σ H) : ForR2 g ts D σ [.int lo, .int n] H := by
  have e62 : (2 : Int) ^ 62 = 4611686018427387904 := by decide
  exact ⟨lo, n, rfl, ⟨by omega, by omega, by omega, by omega⟩, for_range (lo := lo) (n := (n - lo).toNat) Pv h0 (fun i σ H hi p => hs i σ H (by omega) p) hd⟩
theorem u_while {c : TT} (Pv : Nat → L2.St → Hp → Prop) (m0 : Nat) (h0 : Pv m0 σ H)
    (hs : ∀ m σ H, Pv m σ H → c σ H fun b H1 => if b = true then ∃ N : L2.St → Hp → Prop, (∀ σ' H', N σ' H' → ∃ m', m' < m ∧ Pv m' σ' H') ∧ ts { D with nx := N, ct := N, bk := D.nx } σ H1 else D.nx σ H1) : tWhile c ts D σ H := ⟨Pv, ⟨m0, h0⟩, hs⟩
theorem w_body {m : Nat} {Pv : Nat → L2.St → Hp → Prop} {rt : VK} {bk : L2.St → Hp → Prop} (q : ts ⟨fun σ' H' => ∃ m', m' < m ∧ Pv m' σ' H', rt, bk, fun σ' H' => ∃ m', m' < m ∧ Pv m' σ' H'⟩ σ H) :
    ∃ N : L2.St → Hp → Prop, (∀ σ' H', N σ' H' → ∃ m', m' < m ∧ Pv m' σ' H') ∧ ts ⟨N, rt, bk, N⟩ σ H := ⟨_, fun _ _ h => h, q⟩
/-! comprehensions -/
noncomputable def LcJ (g : TG) (tt : TT) (te : TE) (vs : List Nat) (σ : L2.St) (J : It) (H1 : Hp) (Q : VK) : Prop := tLc (fun _ H R => R J H) g tt te vs σ H1 Q
noncomputable def LcL (K : PySem.W.Frag) (g : TG) (tt : TT) (te : TE) (vs : List Nat) (σ : L2.St) (x : V) (H1 : Hp) (Q : VK) : Prop := ∃ a, x = .ref a ∧ (∃ xs, SqL K H1 a xs) ∧ LcJ g tt te vs σ (Itl K a) H1 Q
noncomputable def LcT (K : PySem.W.Frag) (g : TG) (tt : TT) (te : TE) (vs : List Nat) (σ : L2.St) (x : V) (H1 : Hp) (Q : VK) : Prop := ∃ a, x = .ref a ∧ (∃ xs, SqT K H1 a xs) ∧ LcJ g tt te vs σ (Itt K a) H1 Q
noncomputable def LcR1 (g : TG) (tt : TT) (te : TE) (vs : List Nat) (σ : L2.St) (x : List V) (H1 : Hp) (Q : VK) : Prop := ∃ j : Int, x = [.int j] ∧ -(2 ^ 62) ≤ j ∧ j < 2 ^ 62 ∧ LcJ g tt te vs σ (Itr 0 j.toNat) H1 Q
noncomputable def LcR2 (g : TG) (tt : TT) (te : TE) (vs : List Nat) (σ : L2.St) (x : List V) (H1 : Hp) (Q : VK) : Prop := ∃ i j : Int, x = [.int i, .int j] ∧ (-(2 ^ 62) ≤ i ∧ i < 2 ^ 62 ∧ -(2 ^ 62) ≤ j ∧ j < 2 ^ 62) ∧ LcJ g tt te vs σ (Itr i (j - i).toNat) H1 Q
noncomputable def LcE (K : PySem.W.Frag) (g : TG) (tt : TT) (te : TE) (vs : List Nat) (σ : L2.St) (x : List V) (H1 : Hp) (Q : VK) : Prop := ∃ a xs, x = [.ref a] ∧ SqL K H1 a xs ∧ LcJ g tt te vs σ (Ite K a) H1 Q
noncomputable def LcZ (K : PySem.W.Frag) (g : TG) (tt : TT) (te : TE) (vs : List Nat) (σ : L2.St) (x : List V) (H1 : Hp) (Q : VK) : Prop := ∃ a b xs ys, x = [.ref a, .ref b] ∧ SqL K H1 a xs ∧ SqL K H1 b ys ∧ LcJ g tt te vs σ (Itz K a b) H1 Q
theorem s_lcL (q : tl σ H fun x H1 => LcL K g tt te vs σ x H1 Q) : tLc (iList K tl) g tt te vs σ H Q := q
theorem s_lcT (q : tl σ H fun x H1 => LcT K g tt te vs σ x H1 Q) : tLc (iTup K tl) g tt te vs σ H Q := q
theorem s_lcR1 {ta : TA} (q : ta σ H fun x H1 => LcR1 g tt te vs σ x H1 Q) : tLc (iRng1 ta) g tt te vs σ H Q := q
/-- the turns of a comprehension: what is kept stands in the relation R to its item; R is told at any heap that has all but the list that is made -/
theorem lc_turns {α : Type} {J : It} (l : List α) (p : α → Bool) (R : α → V → Hp → Prop) (mono : ∀ x y H1 H2, Ex H1 H2 → R x y H1 → R x y H2) (hz : l.length ≤ 40000)
    (hgo : ∀ i H', i < l.length → Ex H H' → J.go i H') (hst : ∀ H', Ex H H' → J.stop l.length H')
    (turn : ∀ D, H D = none → ∀ (i : Nat) x, l[i]? = some x → ∀ v H0 H', Ex H H0 → (∃ o, H0 D = some o) → J.yld i H0 v H' → Ex H0 H' ∧
      ∀ (A : VK) (B : Hp → Prop), (p x = true → ∀ y H4, Ex H' H4 → (∀ Z, ExM D H4 Z → Ex H Z → R x y Z) → A y H4) → (p x = false → ∀ H3, Ex H' H3 → B H3) →
        g v (wipe σ vs) H' fun σ2 H2 => wipe σ2 vs = wipe σ vs ∧ tt σ2 H2 fun b H3 => if b = true then te σ2 H3 A else B H3)
    (fin : ∀ D H' ys, H D = none → Ex H H' → H' D = some (.lst ys) → Paired (fun x y => R x y H') (l.filter p) ys → Q (.ref D) H') : LcJ g tt te vs σ J H Q := by
  intro D hD
  refine ⟨fun i m H' => m = l.length - i ∧ i ≤ l.length ∧ Ex H H' ∧ ∃ ys, H' D = some (.lst ys) ∧ ys.length ≤ i ∧ ∃ Z, Z D = none ∧ Ex Z H' ∧ ExM D H' Z ∧ Paired (fun x y => R x y Z) ((l.take i).filter p) ys,
    ⟨l.length, by omega, by omega, Ex.new hD, [], upd_same, Nat.le_refl _, H, hD, Ex.new hD, fun b o n e => by rw [upd_ne n] at e; exact e, .nil⟩, ?_⟩
  rintro i m H' ⟨rfl, hi, e, ys, hys, hly, Z, zD, zE, zM, pr⟩
  by_cases hlt : i < l.length
  · refine .inr ⟨hgo i H' hlt e, fun H'' => i + 1 ≤ l.length ∧ Ex H H'' ∧ ∃ ys, H'' D = some (.lst ys) ∧ ys.length ≤ i + 1 ∧ ∃ Z, Z D = none ∧ Ex Z H'' ∧ ExM D H'' Z ∧ Paired (fun x y => R x y Z) ((l.take (i + 1)).filter p) ys,
      fun H'' q => ⟨l.length - (i + 1), by omega, rfl, q⟩, fun v H2 hy => ?_⟩
    have ei : l[i]? = some l[i] := List.getElem?_eq_getElem hlt
    have e1 : l.take (i + 1) = l.take i ++ [l[i]] := by rw [List.take_add_one, ei]; rfl
    obtain ⟨ey, tn⟩ := turn D hD i _ ei v H' H2 e ⟨_, hys⟩ hy
    refine tn _ _ (fun hp y H4 e4 r => ?_) (fun hp H3 e3 => ?_)
    · have e5 := ey.trans e4
      have eD : Ex H (upd H4 D (.lst (ys ++ [y]))) := (e.trans e5).mut hD
      let Z4 : Hp := fun b => if b = D then none else H4 b
      have k1 : Z4 D = none := if_pos rfl
      have k2 : ExM D H4 Z4 := fun b o n q => by
        show (if b = D then none else H4 b) = some o
        rw [if_neg n]
        exact q
      have k3 : Ex Z Z4 := fun b o q => k2 b o (ne_of_none q zD) (e5 _ _ (zE b o q))
      have k4 : Ex H Z4 := fun b o q => k2 b o (ne_of_none q hD) (e5 _ _ (e b o q))
      refine ⟨ys, e5 _ _ hys, sz_lt (by omega), by omega, eD, _, upd_same, by rw [List.length_append]; show _ + 1 ≤ _; omega, Z4, k1, fun b o q => ?_, fun b o n q => ?_, ?_⟩
      · have nb : b ≠ D := ne_of_none q k1
        rw [upd_ne nb]
        have q' : (if b = D then none else H4 b) = some o := q
        rw [if_neg nb] at q'
        exact q'
      · rw [upd_ne n] at q
        exact k2 b o n q
      · rw [e1, List.filter_append, List.filter_cons, if_pos hp]
        exact Paired.snoc (Paired.mapP pr fun a b r => mono a b _ _ k3 r) (r Z4 k2 k4)
    · refine ⟨by omega, e.trans (ey.trans e3), ys, (ey.trans e3) _ _ hys, by omega, ?_⟩
      let Z4 : Hp := fun b => if b = D then none else H3 b
      have k1 : Z4 D = none := if_pos rfl
      have k2 : ExM D H3 Z4 := fun b o n q => by
        show (if b = D then none else H3 b) = some o
        rw [if_neg n]
        exact q
      have k3 : Ex Z Z4 := fun b o q => k2 b o (ne_of_none q zD) ((ey.trans e3) _ _ (zE b o q))
      refine ⟨Z4, k1, fun b o q => ?_, k2, ?_⟩
      · have nb : b ≠ D := ne_of_none q k1
        have q' : (if b = D then none else H3 b) = some o := q
        rw [if_neg nb] at q'
        exact q'
      · rw [e1, List.filter_append, List.filter_cons, if_neg (by rw [hp]; exact Bool.false_ne_true)]
        show Paired _ (_ ++ []) _
        rw [List.append_nil]
        exact Paired.mapP pr fun a b r => mono a b _ _ k3 r
  · have ei : i = l.length := by omega
    subst ei
    rw [List.take_length] at pr
    exact .inl ⟨hst H' e, fin D H' ys hD e hys (Paired.mapP pr fun a b r => mono a b _ _ zE r)⟩
theorem pair_map {α β : Type} {F : α → β} : ∀ {l : List α} {ys : List β}, Paired (fun x y => y = F x) l ys → ys = l.map F
  | _, _, .nil => rfl
  | _, _, .cons h t => by rw [h, pair_map t]; rfl
/-- values of a pure element over a list: they hang on the item alone -/
theorem u_lcL {α : Type} {a : Addr} (em : α → V) (l : List α) (p : α → Bool) (F : α → V) (hS : SqL K H a (l.map em)) (hz : l.length ≤ 40000)
    (turn : ∀ x ∈ l, ∀ H', Ex H H' → ∀ (A : VK) (B : Hp → Prop), (p x = true → ∀ H4, Ex H' H4 → A (F x) H4) → (p x = false → ∀ H3, Ex H' H3 → B H3) →
      g (em x) (wipe σ vs) H' fun σ2 H2 => wipe σ2 vs = wipe σ vs ∧ tt σ2 H2 fun b H3 => if b = true then te σ2 H3 A else B H3)
    (fin : ∀ D H', H D = none → Ex H H' → H' D = some (.lst ((l.filter p).map F)) → Q (.ref D) H') : LcL K g tt te vs σ (.ref a) H Q := by
  refine ⟨a, rfl, ⟨_, hS⟩, lc_turns l p (fun x y _ => y = F x) (fun _ _ _ _ _ r => r) hz (fun i H' hi e => ⟨_, em l[i], e.sq hS, by rw [List.getElem?_map, List.getElem?_eq_getElem hi]; rfl⟩) (fun H' e => ⟨_, e.sq hS, by rw [List.length_map]; exact Nat.le_refl _⟩)
    (fun D hD i x hx v H0 H' e _ hy => ?_) (fun D H' ys hD e h pr => fin D H' hD e (by rw [h, pair_map pr]))⟩
  obtain ⟨rfl, fv⟩ := hy
  have ev : v = em x := by
    have q := fv _ (e.sq hS)
    rw [List.getElem?_map, hx] at q
    exact (Option.some.inj q).symm
  subst ev
  exact ⟨Ex.refl _, fun A B h1 h2 => turn x (List.mem_of_getElem? hx) _ e A B (fun hp H4 e4 => h1 hp _ H4 e4 fun _ _ _ => rfl) h2⟩
theorem filter_yes {α : Type} : ∀ l : List α, l.filter (fun _ => true) = l
  | [] => rfl
  | x :: l => by rw [List.filter_cons, if_pos rfl, filter_yes l]
/-- .. without a test -/
theorem u_mapL {α : Type} {a : Addr} (em : α → V) (l : List α) (F : α → V) (hS : SqL K H a (l.map em)) (hz : l.length ≤ 40000)
    (turn : ∀ x ∈ l, ∀ H', Ex H H' → ∀ A : VK, (∀ H4, Ex H' H4 → A (F x) H4) → g (em x) (wipe σ vs) H' fun σ2 H2 => wipe σ2 vs = wipe σ vs ∧ te σ2 H2 A)
    (fin : ∀ D H', H D = none → Ex H H' → H' D = some (.lst (l.map F)) → Q (.ref D) H') : LcL K g tYes te vs σ (.ref a) H Q :=
  u_lcL em l (fun _ => true) F hS hz (fun x hx H' e A B h1 _ => by
    have e2 : (fun (σ2 : L2.St) H2 => wipe σ2 vs = wipe σ vs ∧ tYes σ2 H2 fun b H3 => if b = true then te σ2 H3 A else B H3) = fun σ2 H2 => wipe σ2 vs = wipe σ vs ∧ te σ2 H2 A := by
      funext σ2 H2
      show (_ ∧ if true = true then te σ2 H2 A else B H2) = _
      rw [if_pos rfl]
    rw [e2]
    exact turn x hx H' e A (h1 rfl)) (by rw [filter_yes]; exact fin)
end
/-! ### greatest, least, sorted -/
noncomputable def maxI (l : List Int) : Int := match l with | [] => 0 | a :: t => t.foldl max a
noncomputable def minI (l : List Int) : Int := match l with | [] => 0 | a :: t => t.foldl min a
noncomputable def sortI (l : List Int) : List Int := l.mergeSort (fun a b => decide (a ≤ b))
/-! ### heaps as letters: the next heap, and what is known of it -/
theorem ex_ap {H H' : Hp} {a : Addr} {o : HO} (e : Ex H H') (h : H a = some o) : H' a = some o := e a o h
theorem exm_ap {H H' : Hp} {h a : Addr} {o : HO} (e : ExM h H H') (n : a ≠ h) (hh : H a = some o) : H' a = some o := e a o n hh
theorem ne_fresh {H : Hp} {a b : Addr} {o : HO} (h' : H b = none) (h : H a = some o) : a ≠ b := ne_of_none h h'
section
variable {K : PySem.W.Frag} {σ : L2.St} {H : Hp} {Q : VK} {v : V} {R : Hp → Prop}
theorem n_lst {xs : List V} (h : xs.length ≤ 100000) (q : ∀ p H', H p = none → Ex H H' → H' p = some (.lst xs) → Q (.ref p) H') : NewL xs H Q := ⟨sz_of h, fun p hp => q p _ hp (Ex.new hp) upd_same⟩
theorem n_tup {xs : List V} (h : xs.length ≤ 100000) (q : ∀ p H', H p = none → Ex H H' → H' p = some (.tup xs) → Q (.ref p) H') : NewT xs H Q := ⟨sz_of h, fun p hp => q p _ hp (Ex.new hp) upd_same⟩
theorem n_slL {a : Addr} {xs : List V} {lo hi : Option Int} (h : SqL K H a xs) (q : ∀ p H', H p = none → Ex H H' → H' p = some (.lst (cutV xs lo hi)) → Q (.ref p) H') : rSlL K (.ref a) lo hi H Q := ⟨a, xs, rfl, h, fun p hp => q p _ hp (Ex.new hp) upd_same⟩
theorem n_cat {a b : Addr} {xs ys : List V} (h1 : H a = some (.lst xs)) (h2 : H b = some (.lst ys)) (hz : xs.length + ys.length ≤ 100000) (q : ∀ p H', H p = none → Ex H H' → H' p = some (.lst (xs ++ ys)) → Q (.ref p) H') : rPlus (.ref a) (.ref b) H Q :=
  .inr (.inl ⟨a, b, xs, ys, rfl, rfl, h1, h2, sz_of hz, fun p hp => q p _ hp (Ex.new hp) upd_same⟩)
theorem n_setL {a : Addr} {xs : List V} {k : Int} {j : Nat} (h : H a = some (.lst xs)) (hk : ixN xs.length k = some j) (q : ∀ H', ExM a H H' → H' a = some (.lst (xs.set j v)) → R H') : rSetL (.ref a) (.int k) v H R := ⟨a, xs, k, j, rfl, rfl, h, hk, q _ ExM.upd upd_same⟩
noncomputable def rRevL (K : PySem.W.Frag) (x : V) (H : Hp) (Q : VK) : Prop := ∃ a xs, x = .ref a ∧ SqL K H a xs ∧ ∀ p, H p = none → Q (.ref p) (upd H p (.lst xs.reverse))
theorem n_app {a : Addr} {xs : List V} (h : H a = some (.lst xs)) (hz : xs.length < 100000) (q : ∀ H', ExM a H H' → H' a = some (.lst (xs ++ [v])) → Q .non H') : rAppend (.ref a) [v] H Q := ⟨a, xs, v, rfl, rfl, h, sz_lt hz, q _ ExM.upd upd_same⟩
end

/-- the cut of a list, of anything -/
noncomputable def cutI {α : Type} (xs : List α) (lo hi : Option Int) : List α := (xs.drop (HT.sIx xs.length 0 lo)).take (HT.sIx xs.length xs.length hi - HT.sIx xs.length 0 lo)
theorem cutV_map {α : Type} (f : α → V) (xs : List α) (lo hi : Option Int) : cutV (xs.map f) lo hi = (cutI xs lo hi).map f := by
  unfold cutV cutI
  rw [List.length_map, ← List.map_drop, ← List.map_take]
theorem cutV_ints (xs : List Int) (lo hi : Option Int) : cutV (xs.map V.int) lo hi = (cutI xs lo hi).map V.int := cutV_map _ _ _ _
theorem cutI_to {α : Type} (xs : List α) {k : Int} (h : 0 ≤ k) : cutI xs none (some k) = xs.take k.toNat := by
  obtain ⟨n, rfl⟩ : ∃ n : Nat, k = (n : Int) := ⟨k.toNat, by omega⟩
  unfold cutI
  rw [HT.sIx_none, HT.sIx_nat, List.drop_zero, Nat.sub_zero, Int.toNat_natCast, List.take_eq_take_iff]
  omega
theorem cutI_from {α : Type} (xs : List α) {k : Int} (h : 0 ≤ k) : cutI xs (some k) none = xs.drop k.toNat := by
  obtain ⟨n, rfl⟩ : ∃ n : Nat, k = (n : Int) := ⟨k.toNat, by omega⟩
  unfold cutI
  rw [HT.sIx_none, HT.sIx_nat, Int.toNat_natCast]
  by_cases hn : n ≤ xs.length
  · rw [Nat.min_eq_left hn, List.take_of_length_le (by rw [List.length_drop]; exact Nat.le_refl _)]
  · rw [Nat.min_eq_right (by omega), Nat.sub_self, List.take_zero, List.drop_of_length_le (by omega)]
section
variable {K : PySem.W.Frag} {H : Hp} {Q : VK} {a : Addr}
end
section
variable {K : PySem.W.Frag} {H : Hp} {Q : VK} {a : Addr} {i : Int}
end
theorem cx_K {CX : CXT} {P : Program} {w : World} {K : PySem.W.Frag} {mg : Str → Option Value} {base : Heap} {N : List Str} {x : Str} {sc : Scope} {f : Addr} {cdv : Value} {A : Around} {outer : List Env} {s : Shared} {H : Hp} {E : XK} :
    (cxOf CX P w K mg base N x sc f cdv A outer s H E).nox.K = K := rfl
theorem cx_K2 {CX : CXT} {P : Program} {w : World} {K : PySem.W.Frag} {mg : Str → Option Value} {base : Heap} {N : List Str} {x : Str} {sc : Scope} {f : Addr} {cdv : Value} {A : Around} {outer : List Env} {s : Shared} {H : Hp} {E : XK} :
    (cxOf CX P w K mg base N x sc f cdv A outer s H E).K = K := rfl
/-! ### places -/
/-! ### data with types: what a value is as a thing of plain Lean -/
class Py (α : Type) where
  d : α → PyData
  dep : Nat
  depth : ∀ a, (d a).depth ≤ dep
  can : ∀ a, (d a).canLay0 = true
  eqv : ∀ a b, (PyData.eqv (d a) (d b) = true ↔ a = b)
instance : Py Int := ⟨PyData.int, 0, fun _ => Nat.le_refl _, fun _ => rfl, fun a b => by rw [PyData.eqv]; exact beq_iff_eq⟩
instance : Py Bool := ⟨PyData.bool, 0, fun _ => Nat.le_refl _, fun _ => rfl, fun a b => by rw [PyData.eqv]; exact beq_iff_eq⟩
theorem eqvAll_iff {α : Type} [Py α] : ∀ xs ys : List α, (PyData.eqvAll (xs.map Py.d) (ys.map Py.d) = true ↔ xs = ys)
  | [], [] => by simp [PyData.eqvAll]
  | [], _ :: _ => by simp [PyData.eqvAll]
  | _ :: _, [] => by simp [PyData.eqvAll]
  | x :: xs, y :: ys => by
    rw [List.map_cons, List.map_cons, PyData.eqvAll, Bool.and_eq_true, Py.eqv, eqvAll_iff xs ys, List.cons.injEq]
theorem canAll_of {α : Type} [Py α] : ∀ xs : List α, PyData.canLayAll0 (xs.map Py.d) = true
  | [] => rfl
  | x :: xs => by rw [List.map_cons, PyData.canLayAll0, Py.can, canAll_of xs]; rfl
theorem depthAll_of {α : Type} [Py α] : ∀ xs : List α, PyData.depthAll (xs.map Py.d) ≤ Py.dep α
  | [] => Nat.zero_le _
  | x :: xs => by
    rw [List.map_cons, PyData.depthAll]
    exact Nat.max_le.mpr ⟨Py.depth x, depthAll_of xs⟩
instance {α : Type} [Py α] : Py (List α) := ⟨fun xs => .list (xs.map Py.d), Py.dep α + 1, fun xs => by rw [PyData.depth]; exact Nat.succ_le_succ (depthAll_of xs), fun xs => by rw [PyData.canLay0]; exact canAll_of xs, fun a b => by rw [PyData.eqv]; exact eqvAll_iff a b⟩
instance {α β : Type} [Py α] [Py β] : Py (α × β) := ⟨fun p => .tuple [Py.d p.1, Py.d p.2], max (Py.dep α) (Py.dep β) + 1, fun p => by
    simp only [PyData.depth, PyData.depthAll]
    have h1 := Py.depth p.1
    have h2 := Py.depth p.2
    omega, fun p => by simp only [PyData.canLay0, PyData.canLayAll0, Py.can]; rfl, fun a b => by
    simp only [PyData.eqv, PyData.eqvAll, Bool.and_true, Bool.and_eq_true, Py.eqv]
    exact ⟨fun h => Prod.ext h.1 h.2, fun h => by rw [h]; exact ⟨rfl, rfl⟩⟩⟩
/-- a triple | four, as one tuple -/
structure T3 (α β γ : Type) where
  a : α
  b : β
  c : γ
  deriving DecidableEq
structure T4 (α β γ δ : Type) where
  a : α
  b : β
  c : γ
  d : δ
  deriving DecidableEq
instance {α β γ : Type} [Py α] [Py β] [Py γ] : Py (T3 α β γ) := ⟨fun p => .tuple [Py.d p.a, Py.d p.b, Py.d p.c], max (Py.dep α) (max (Py.dep β) (Py.dep γ)) + 1, fun p => by
    simp only [PyData.depth, PyData.depthAll]
    have h1 := Py.depth p.a
    have h2 := Py.depth p.b
    have h3 := Py.depth p.c
    omega, fun p => by simp only [PyData.canLay0, PyData.canLayAll0, Py.can]; rfl, fun a b => by
    obtain ⟨a1, a2, a3⟩ := a
    obtain ⟨b1, b2, b3⟩ := b
    simp only [PyData.eqv, PyData.eqvAll, Bool.and_true, Bool.and_eq_true, Py.eqv, T3.mk.injEq]⟩
instance {α β γ δ : Type} [Py α] [Py β] [Py γ] [Py δ] : Py (T4 α β γ δ) := ⟨fun p => .tuple [Py.d p.a, Py.d p.b, Py.d p.c, Py.d p.d], max (Py.dep α) (max (Py.dep β) (max (Py.dep γ) (Py.dep δ))) + 1, fun p => by
    simp only [PyData.depth, PyData.depthAll]
    have h1 := Py.depth p.a
    have h2 := Py.depth p.b
    have h3 := Py.depth p.c
    have h4 := Py.depth p.d
    omega, fun p => by simp only [PyData.canLay0, PyData.canLayAll0, Py.can]; rfl, fun a b => by
    obtain ⟨a1, a2, a3, a4⟩ := a
    obtain ⟨b1, b2, b3, b4⟩ := b
    simp only [PyData.eqv, PyData.eqvAll, Bool.and_true, Bool.and_eq_true, Py.eqv, T4.mk.injEq]⟩
theorem eqv_dec {α : Type} [Py α] [DecidableEq α] (a b : α) : PyData.eqv (Py.d a) (Py.d b) = decide (a = b) := by
  by_cases h : a = b
  · rw [decide_eq_true h]
    exact (Py.eqv a b).mpr h
  · rw [decide_eq_false h]
    cases e : PyData.eqv (Py.d a) (Py.d b) with
    | true => exact absurd ((Py.eqv a b).mp e) h
    | false => rfl
theorem shaped_of {α : Type} [Py α] (a : α) (h : Py.dep α ≤ 64) : SeqAt.shaped (Py.d a) = true := by
  unfold SeqAt.shaped
  rw [Py.can, decide_eq_true (Nat.le_trans (Py.depth a) h)]
  rfl
/-- the value v stands in H as the thing x -/
noncomputable abbrev Is (K : PySem.W.Frag) (H : Hp) {α : Type} [Py α] (v : V) (x : α) : Prop := Dp K H v (Py.d x)
theorem Is.int {K : PySem.W.Frag} {H : Hp} (i : Int) : Is K H (.int i) i := Dp.int i
theorem Is.pair {K : PySem.W.Frag} {H : Hp} {α β : Type} [Py α] [Py β] {a : Addr} {v w : V} {x : α} {y : β} (h : SqT K H a [v, w]) (h1 : Is K H v x) (h2 : Is K H w y) : Is K H (.ref a) (x, y) := .tup h (.cons h1 (.cons h2 .nil))
theorem s_eqP {α : Type} [Py α] [DecidableEq α] {K : PySem.W.Frag} {H : Hp} {Q : VK} {v w : V} {x y : α} (h1 : Is K H v x) (h2 : Is K H w y) (hd : Py.dep α ≤ 64) (q : Q (.bl (decide (x = y))) H) : rEqA K v w H Q :=
  .inr ⟨_, _, h1, h2, shaped_of x hd, shaped_of y hd, by rw [eqv_dec]; exact q⟩
theorem s_neP {α : Type} [Py α] [DecidableEq α] {K : PySem.W.Frag} {H : Hp} {Q : VK} {v w : V} {x y : α} (h1 : Is K H v x) (h2 : Is K H w y) (hd : Py.dep α ≤ 64) (q : Q (.bl (decide (x ≠ y))) H) : rNeA K v w H Q :=
  .inr ⟨_, _, h1, h2, shaped_of x hd, shaped_of y hd, by rw [eqv_dec, ← decide_not]; exact q⟩

/-! ### a list of data that is filled: it stands at D, its items in Z -/
instance : Py (Option Int) := ⟨fun o => match o with | none => .none | some i => .int i, 0, fun o => by cases o <;> exact Nat.le_refl _, fun o => by cases o <;> rfl, fun a b => by
  cases a <;> cases b
  · exact ⟨fun _ => rfl, fun _ => rfl⟩
  · exact ⟨fun h => (Bool.false_ne_true h).elim, fun h => nomatch h⟩
  · exact ⟨fun h => (Bool.false_ne_true h).elim, fun h => nomatch h⟩
  · rename_i x y
    show (x == y) = true ↔ some x = some y
    rw [beq_iff_eq, Option.some.injEq]⟩
/-- a number or nothing, as a value -/
noncomputable def optV : Option Int → V
  | none => .non
  | some i => .int i
structure LA (K : PySem.W.Frag) (Z H : Hp) (D : Addr) {α : Type} [Py α] (l : List α) : Prop where
  ex : ∃ vs, H D = some (.lst vs) ∧ Paired (fun v x => Is K Z v x) vs l
  zd : Z D = none
  zh : Ex Z H
section
variable {K : PySem.W.Frag} {Z H H' : Hp} {D : Addr} {α : Type} [Py α] {l : List α}
end

section
variable {K : PySem.W.Frag} {Z H : Hp} {D : Addr} {α β : Type} [Py α] [Py β] {l : List α} {Q : VK} {v : V}
end
section
variable {K : PySem.W.Frag} {Z H : Hp} {α β γ : Type} [Py α] [Py β] [Py γ] {v : V} {σ : L2.St} {R : L2.St → Hp → Prop}
theorem s_gt2 {H : Hp} {b : Addr} {x y : V} {g1 g2 : TG} (h : SqT K H b [x, y]) (q : g1 x σ H fun σ1 H1 => g2 y σ1 H1 R) : gTup K 2 (gCons g1 (gCons g2 gNil)) (.ref b) σ H R := by
  refine ⟨b, _, rfl, h, rfl, x, [y], rfl, ?_⟩
  have e3 : (fun (σ1 : L2.St) H1 => g2 y σ1 H1 R) = fun σ1 H1 => g2 y σ1 H1 fun σ2 H2 => ([] : List V) = [] ∧ R σ2 H2 := by
    funext σ1 H1
    have : R = fun σ2 H2 => ([] : List V) = [] ∧ R σ2 H2 := by
      funext σ2 H2
      exact propext ⟨fun z => ⟨rfl, z⟩, fun z => z.2⟩
    rw [← this]
  rw [e3] at q
  have e4 : (fun (σ1 : L2.St) H1 => g2 y σ1 H1 fun σ2 H2 => ([] : List V) = [] ∧ R σ2 H2) = fun σ1 H1 => gCons g2 gNil [y] σ1 H1 R := by
    funext σ1 H1
    refine propext ⟨fun z => ⟨y, [], rfl, z⟩, fun z => ?_⟩
    obtain ⟨y', r', e, z⟩ := z
    cases e
    exact z
  rw [e4] at q
  exact q
end
/-! ### what a def is, and that it keeps its promise -/
/-- the def x stands in the module as its text says -/
noncomputable def FunAt (K : PySem.W.Frag) (mg : Str → Option Value) (x : Str) (st : Stmt) (ps : List Str) : Prop := ∃ f fd, Fun K x x st f fd ∧ mg x = some (.ref f) ∧ Binds K fd ps []
/-- the def x keeps the promise sp, by at most level k -/
noncomputable def Has (P : Program) (w : World) (K : PySem.W.Frag) (mg : Str → Option Value) (base : Heap) (x : Str) (k : Nat) (sp : Sp) : Prop :=
  ∃ f fd ps, FnOk P w K mg base CX0 k f fd ps sp ∧ mg x = some (.ref f) ∧ PySem.W.keepIn K (.ref f) = true ∧ Binds K fd ps []
section
variable {X : Cx} {k k' : Nat} {sp : Sp} {x : Str} {p pos : Pos} {e : Expr} {es : List Expr} {t : TA}
theorem pe_callH (h : Has X.prog X.w X.K X.mg X.base x k sp) (hk : k ≤ k') (hr : Room k' X.A) (hg : Gl X x) (ha : PA X (e :: es) t) (hdb : (x == ("__debug__" : Str)) = false := by decide)
    (he : starEach (e :: es) X.env = (false, eval e X.env) :: starEach es X.env := by rfl) (hpl : (backTo pos (starEach es X.env)).any (·.1) = false := by rfl) : PE X (.Call (.Name x p) (e :: es) [] pos) (tCall sp [] E0 t) := by
  obtain ⟨f, fd, ps, F, hm, kp, hb⟩ := h
  exact pe_call F (hr.mono hk) hg hm kp hb .nil pass0 ha hdb he hpl
theorem pe_constI {i : Int} (h : ∃ t, X.mg x = some (.int i t)) (hg : Gl X x) (hd : (x == ("__debug__" : Str)) = false := by decide) : PE X (.Name x pos) (tC (.int i)) := by
  obtain ⟨t, h⟩ := h
  exact pe_glob hg h ⟨t, rfl⟩ hd
end
section
variable {P : Program} {w : World} {K : PySem.W.Frag} {mg : Str → Option Value} {base : Heap}
/-- a def's promise by its body -/
theorem has_of {x : Str} {st : Stmt} {N ps : List Str} {k : Nat} {sp : Sp} (F : FunAt K mg x st ps) (S : FnScope N ps (defScope st)) (len : ∀ vs H Q E, sp vs H Q E → vs.length = ps.length)
    (hbody : ∀ (f : Addr) (cdv : Value) (A : Around) (outer : List Env) (s : Shared) (H : Hp) (vs : List V) (Q : VK) (E : XK), Room k (A.deeper (envOfC x (defScope st) s.heap.objs.size f cdv)) → sp vs H Q E →
      ∃ t, PSs (cxOf CX0 P w K mg base N x (defScope st) f cdv A outer s H E).nox (defBody st) t ∧ t { nx := fun _ H' => Q .non H', rt := Q } (start N vs) H) : Has P w K mg base x (k + 1) sp := by
  obtain ⟨f, fd, F, hm, hb⟩ := F
  exact ⟨f, fd, ps, F.ok S len (hbody f), hm, F.kp, hb⟩
/-- a module's number, a module's text, as the head's facts tell it -/
theorem constI_mk {h : Heap} (X : K.In h) (G : h.Ns mainGlobals mg) {x : Str} {i : Int} {t : Tok} (a : PySem.W.nsIn K mainGlobals x = some (some (.int i t))) : ∃ t, mg x = some (.int i t) := ⟨t, PySem.W.mg_of X G a⟩
/-- a def as the head's facts tell it -/
theorem funAt_mk {h : Heap} (X : K.In h) (G : h.Ns mainGlobals mg) {x : Str} {st : Stmt} {ps : List Str} {f : Addr} {oc : Value} {od an : Option Addr} {osl : Array (Option Value)} {kV doc pm cdv ct : Value}
    (a : PySem.W.nsIn K mainGlobals x = some (some (.ref f))) (l : K.lookup f = some ⟨oc, od, .func (PySem.W.fnOf x x (defArgs st) (defBody st) (defScope st) .none kV doc pm an cdv ct), osl⟩)
    (c : PySem.W.codeIn K cdv x = true) (k : PySem.W.keepIn K (.ref f) = true)
    (b : ∀ (kV doc pm : Value) (an : Option Addr) (cdv ct : Value) (us : List Value), us.length = ps.length → bindArgs (PySem.W.fnOf x x (defArgs st) (defBody st) (defScope st) .none kV doc pm an cdv ct) ⟨us, []⟩ = pure (ps.zip us)) : FunAt K mg x st ps :=
  ⟨f, _, fun_mk l c k, PySem.W.mg_of X G a, (fun_mk (st := st) l c k).binds b⟩
end
end TR
/-! the hand that is drawn from: n draws are left (its counter stays below 2^60) -/
namespace TR
open PySem L2
noncomputable def Hand (K : PySem.W.Frag) (Z H : Hp) (h : Addr) (n : Nat) : Prop :=
  ∃ (d k : Int) (c : Addr) (cells : List Int), H h = some (.lst [.int d, .int k, .ref c]) ∧ 0 < cells.length ∧ 0 ≤ k ∧ k + n ≤ 1000000000000000000 ∧ Ex Z H ∧ Z h = none ∧ SqL K Z c (cells.map V.int)
theorem Hand.mono {K : PySem.W.Frag} {Z H : Hp} {h : Addr} {n m : Nat} (a : Hand K Z H h n) (l : m ≤ n) : Hand K Z H h m := by
  obtain ⟨d, k, c, cells, h1, h3, h4, h5, h6⟩ := a
  exact ⟨d, k, c, cells, h1, h3, h4, by omega, h6⟩
theorem Hand.ex {K : PySem.W.Frag} {Z H H' : Hp} {h : Addr} {n : Nat} (a : Hand K Z H h n) (e : Ex H H') : Hand K Z H' h n := by
  obtain ⟨d, k, c, cells, h1, h3, h4, h5, z1, z2, z3⟩ := a
  exact ⟨d, k, c, cells, e _ _ h1, h3, h4, h5, z1.trans e, z2, z3⟩
theorem Hand.exm {K : PySem.W.Frag} {Z H H' : Hp} {h g : Addr} {n : Nat} (a : Hand K Z H h n) (e : ExM g H H') (n1 : h ≠ g) (n2 : Z g = none) : Hand K Z H' h n := by
  obtain ⟨d, k, c, cells, h1, h3, h4, h5, z1, z2, z3⟩ := a
  exact ⟨d, k, c, cells, e _ _ n1 h1, h3, h4, h5, z1.exm n2 e, z2, z3⟩
theorem Hand.at {K : PySem.W.Frag} {Z H : Hp} {h : Addr} {n : Nat} (a : Hand K Z H h n) : ∃ o, H h = some o := by
  obtain ⟨d, k, c, cells, h1, _⟩ := a
  exact ⟨_, h1⟩
theorem Hand.z {K : PySem.W.Frag} {Z H : Hp} {h : Addr} {n : Nat} (a : Hand K Z H h n) : Ex Z H := by
  obtain ⟨d, k, c, cells, h1, h3, h4, h5, z1, z2, z3⟩ := a
  exact z1
theorem Hand.zn {K : PySem.W.Frag} {Z H : Hp} {h : Addr} {n : Nat} (a : Hand K Z H h n) : Z h = none := by
  obtain ⟨_, _, _, _, _, _, _, _, _, h6, _⟩ := a
  exact h6
theorem hand_ne {K : PySem.W.Frag} {Z H H' : Hp} {h p : Addr} {n : Nat} (hp : H' p = none) (a : Hand K Z H h n) (e : Ex H H') : p ≠ h := by
  obtain ⟨o, ho⟩ := a.at
  exact (ne_of_none (e _ _ ho) hp).symm
theorem hand_ne0 {K : PySem.W.Frag} {Z H : Hp} {h p : Addr} {n : Nat} (hp : H p = none) (a : Hand K Z H h n) : p ≠ h := hand_ne hp a (Ex.refl _)
/-- another list is changed, one that was made when the hand was there -/
theorem Hand.mut {K : PySem.W.Frag} {Z H H1 H' : Hp} {h g : Addr} {n m : Nat} (a : Hand K Z H h n) (e : ExM g H H') (b : Hand K Z H1 h m) (f : H1 g = none) : Hand K Z H' h n := a.exm e (hand_ne0 f b).symm (Ex.back b.z f)
section
variable {K : PySem.W.Frag} {σ : L2.St} {H : Hp} {te : TE} {Q : VK} {g : TG} {vs : List Nat}
end
/-! ### rows: a list of lists, each of them an object of its own -/
structure RW (K : PySem.W.Frag) (Z H : Hp) (p : Addr) (qs : List Addr) {α : Type} [Py α] (rs : List (List α)) : Prop where
  own : H p = some (.lst (qs.map V.ref))
  nd : (p :: qs).Nodup
  fr : ∀ q ∈ p :: qs, Z q = none
  zh : Ex Z H
  rows : Paired (fun q r => ∃ vs, H q = some (.lst vs) ∧ Paired (fun v x => Is K Z v x) vs r) qs rs
section
variable {K : PySem.W.Frag} {Z H H1 H' : Hp} {p q : Addr} {qs : List Addr} {α : Type} [Py α] {rs : List (List α)} {Q : VK}
theorem paired_snoc {β γ : Type} {F : β → γ → Prop} : ∀ {xs : List β} {ys : List γ} {x : β} {y : γ}, Paired F xs ys → F x y → Paired F (xs ++ [x]) (ys ++ [y])
  | _, _, _, _, .nil, h => .cons h .nil
  | _, _, _, _, .cons a t, h => .cons a (paired_snoc t h)
end
section
variable {K : PySem.W.Frag} {σ : L2.St} {H : Hp} {te : TE} {Q : VK} {g : TG} {vs : List Nat}
end
section
variable {K : PySem.W.Frag} {σ : L2.St} {H : Hp} {te : TE} {Q : VK} {g : TG} {vs : List Nat}
theorem paired_append {β γ : Type} {F : β → γ → Prop} : ∀ {xs : List β} {ys : List γ} {zs : List β} {ws : List γ}, Paired F xs ys → Paired F zs ws → Paired F (xs ++ zs) (ys ++ ws)
  | _, _, _, _, .nil, h => h
  | _, _, _, _, .cons a t, h => .cons a (paired_append t h)
end
section
variable {K : PySem.W.Frag} {σ : L2.St} {H : Hp} {tt : TT} {te : TE} {Q : VK} {g : TG} {vs : List Nat}
end
section
variable {K : PySem.W.Frag} {H : Hp} {Q : VK}
end
section
variable {K : PySem.W.Frag} {σ : L2.St} {H : Hp} {te : TE} {Q : VK} {g : TG} {vs : List Nat}
end
section
variable {K : PySem.W.Frag} {σ : L2.St} {H : Hp} {tt : TT} {te : TE} {Q : VK} {g : TG} {vs : List Nat}
/-- targets one behind another -/
theorem g_n {R : L2.St → Hp → Prop} : (fun (σ : L2.St) H => gNil [] σ H R) = R := by
  funext σ H
  exact propext ⟨fun z => z.2, fun z => ⟨rfl, z⟩⟩
theorem g_c {g : TG} {rest : List V → L2.St → Hp → (L2.St → Hp → Prop) → Prop} {y : V} {ys : List V} {R : L2.St → Hp → Prop} : gCons g rest (y :: ys) σ H R = g y σ H (fun σ1 H1 => rest ys σ1 H1 R) := by
  refine propext ⟨fun z => ?_, fun z => ⟨y, ys, rfl, z⟩⟩
  obtain ⟨y', r', e, z⟩ := z
  cases e
  exact z
/-- a value that is a list of numbers of its own -/
noncomputable def Lp (H : Hp) (v : V) (r : List Int) : Prop := ∃ a, v = .ref a ∧ H a = some (.lst (r.map V.int))
end
section
variable {K : PySem.W.Frag} {σ : L2.St} {H : Hp} {tt : TT} {te : TE} {Q : VK} {g : TG} {vs : List Nat}
theorem lc_yes {A : VK} {B : Hp → Prop} : (fun (σ2 : L2.St) H2 => wipe σ2 vs = wipe σ vs ∧ tYes σ2 H2 fun b H3 => if b = true then te σ2 H3 A else B H3) = fun σ2 H2 => wipe σ2 vs = wipe σ vs ∧ te σ2 H2 A := by
  funext σ2 H2
  show (_ ∧ if true = true then te σ2 H2 A else B H2) = _
  rw [if_pos rfl]
end
/-! ### pairs of numbers, sorted -/
/-- a value that is a tuple of two numbers -/
noncomputable def Tp (H : Hp) (v : V) (r : Int × Int) : Prop := ∃ a, v = .ref a ∧ H a = some (.tup [.int r.1, .int r.2])
noncomputable def lexI (a b : Int × Int) : Bool := decide (a.1 < b.1 ∨ (a.1 = b.1 ∧ a.2 ≤ b.2))
noncomputable def sortP (l : List (Int × Int)) : List (Int × Int) := l.mergeSort lexI
noncomputable def keyP (H : Hp) (v : V) : Int × Int := match v with
  | .ref t => match H t with
    | some (.tup [.int i, .int j]) => (i, j)
    | _ => (0, 0)
  | _ => (0, 0)
/-- values that are tuples of three, of four numbers -/
noncomputable def Rp (H : Hp) (v : V) (t : T3 Int Int Int) : Prop := ∃ a, v = .ref a ∧ H a = some (.tup [.int t.a, .int t.b, .int t.c])
noncomputable def Qp (H : Hp) (v : V) (t : T4 Int Int Int Int) : Prop := ∃ a, v = .ref a ∧ H a = some (.tup [.int t.a, .int t.b, .int t.c, .int t.d])
theorem Qp.ex {H H' : Hp} {v : V} {r : T4 Int Int Int Int} (e : Ex H H') (h : Qp H v r) : Qp H' v r := by
  obtain ⟨a, h1, h2⟩ := h
  exact ⟨a, h1, e _ _ h2⟩
theorem Qp.exm {H H' : Hp} {D : Addr} {xs : List V} {v : V} {r : T4 Int Int Int Int} (hD : H D = some (.lst xs)) (e : ExM D H H') (h : Qp H v r) : Qp H' v r := by
  obtain ⟨a, h1, h2⟩ := h
  refine ⟨a, h1, e _ _ (fun z => ?_) h2⟩
  rw [z, hD] at h2
  cases h2
theorem s_gt4 {K : PySem.W.Frag} {σ : L2.St} {H : Hp} {b : Addr} {x y z t : V} {g1 g2 g3 g4 : TG} {R : L2.St → Hp → Prop} (h : SqT K H b [x, y, z, t]) (q : g1 x σ H fun σ1 H1 => g2 y σ1 H1 fun σ2 H2 => g3 z σ2 H2 fun σ3 H3 => g4 t σ3 H3 R) : gTup K 4 (gCons g1 (gCons g2 (gCons g3 (gCons g4 gNil)))) (.ref b) σ H R := by
  refine ⟨b, _, rfl, h, rfl, ?_⟩
  rw [g_c]
  simp only [g_c, g_n]
  exact q
/-! ### a dict of counts -/
noncomputable def CntD (H : Hp) (p : Addr) (f : Int → Int) (n : Nat) : Prop := ∃ kvs : List (L2.Key × V), H p = some (.dK kvs) ∧ kvs.length ≤ n ∧ ∀ r : Int, (valV kvs (Sum.inl r)).getD (.int 0) = .int (f r)
noncomputable def DG1 (a : Addr) (y z : V) (H3 : Hp) (Q : VK) : Prop := ∃ o, DGet H3 a y o ∧ Q (o.getD z) H3
noncomputable def DG (ty tx : TE) (σ : L2.St) (x : V) (H1 : Hp) (Q : VK) : Prop := ∃ a, x = .ref a ∧ IsD H1 a ∧ ty σ H1 fun y H2 => tx σ H2 fun z H3 => DG1 a y z H3 Q
noncomputable def DP (x y v : V) (H : Hp) (R : Hp → Prop) : Prop := ∃ a H4, x = .ref a ∧ DPut H a y v H4 ∧ R H4
section
variable {σ : L2.St} {H : Hp} {td ty tx tv : TE} {Q : VK} {D : Ends} {p : Addr} {f : Int → Int} {n : Nat}
end
/-- a value that is a list of numbers, not the one at p -/
noncomputable def Lq (p : Addr) (H : Hp) (v : V) (r : List Int) : Prop := ∃ a, v = .ref a ∧ a ≠ p ∧ H a = some (.lst (r.map V.int))
theorem n_slT {K : PySem.W.Frag} {H : Hp} {Q : VK} {a : Addr} {xs : List V} {lo hi : Option Int} (h : SqT K H a xs) (hn : ¬ (HT.sIx xs.length 0 lo = 0 ∧ HT.sIx xs.length xs.length hi = xs.length)) (q : ∀ p H', H p = none → Ex H H' → H' p = some (.tup (cutV xs lo hi)) → Q (.ref p) H') : rSlT K (.ref a) lo hi H Q :=
  ⟨a, xs, rfl, h, hn, fun p hp => q p _ hp (Ex.new hp) upd_same⟩
end TR
namespace TR
open PySem L2
/-- a test | a value, with a word behind it: what follows is shown once, from Mid -/
noncomputable def tTCut (t : TT) : TT := fun σ H QB => ∃ Mid : Bool → Hp → Prop, t σ H Mid ∧ ∀ b H1, Mid b H1 → QB b H1
noncomputable def tECut (t : TE) : TE := fun σ H Q => ∃ Mid : VK, t σ H Mid ∧ ∀ v H1, Mid v H1 → Q v H1
end TR

/-! short words: hp (what stands at an address), ex (a heap grows into another), ne, fr, sq, st; s (one step of a reading), ss (steps as far as they go) -/
open PySem L2 TR
local macro_rules | `(tactic| walk_at "ex") => `(tactic| first
  | exact Ex.refl _
  | assumption
  | focus (apply Ex.trans; rotate_left; assumption; walk_at "ex")
  | focus (apply Ex.exm; rotate_left; rotate_left; assumption; walk_at "ex"; (walk_at "fr2")))
local macro_rules | `(tactic| walk_at "fr2") => `(tactic| first
  | assumption
  | focus (apply Ex.back; rotate_left; assumption; walk_at "ex"))
local macro_rules | `(tactic| walk_at "hp") => `(tactic| first
  | assumption
  | (apply ex_ap; assumption; walk_at "hp")
  | (apply exm_ap; assumption; walk_at "ne"; walk_at "hp"))
local macro_rules | `(tactic| walk_at "ne") => `(tactic| first
  | assumption
  | (apply Ne.symm; assumption)
  | (apply ne_fresh; assumption; walk_at "hp")
  | (apply Ne.symm; apply ne_fresh; assumption; walk_at "hp")
  | exact TR.hand_ne0 (by assumption) (by assumption))
local macro_rules | `(tactic| walk_at "sq") => `(tactic| first
  | assumption
  | (apply sq_of; walk_at "hp")
  | focus (apply Ex.sq; rotate_left; assumption; walk_at "ex"))
local macro_rules | `(tactic| walk_at "st") => `(tactic| first
  | assumption
  | (apply st_of; walk_at "hp")
  | focus (apply Ex.st; rotate_left; assumption; walk_at "ex"))
local macro_rules | `(tactic| walk_at "is") => `(tactic| first
  | exact Is.int _
  | assumption
  | (apply Is.pair; walk_at "st"; walk_at "is"; walk_at "is"))
local macro_rules | `(tactic| walk_at "at") => `(tactic| first
  | exact atI_lt (by decide) rfl
  | rfl)
local macro_rules | `(tactic| walk_at "ixn") => `(tactic| first
  | exact ixN_lt (by decide) (by decide)
  | rfl)
local macro_rules | `(tactic| walk_at "len") => `(tactic| first
  | omega
  | (simp only [List.length_map, List.length_range, List.length_append, List.length_cons, List.length_nil, List.length_reverse, List.length_set]; omega))
local macro_rules | `(tactic| walk_at "od") => `(tactic| first
  | decide
  | omega
  | exact Nat.le_of_ble_eq_true rfl)
local macro_rules | `(tactic| walk_at "kit") => `(tactic| first
  | exact k_ii
  | exact k_ib
  | exact k_is
  | exact k_il
  | exact k_it
  | exact k_bi
  | exact k_bb
  | exact k_bt
  | exact k_si
  | exact k_sb
  | exact k_sl
  | exact k_st
  | exact k_li
  | exact k_lb
  | exact k_ll
  | exact k_lt
  | exact k_ti
  | exact k_tb
  | exact k_tl)
local macro_rules | `(tactic| walk_at "s") => `(tactic| first
  | (with_reducible (first | apply s_seq | apply s_asg | apply s_gname | apply s_ret | apply s_if | apply s_next | apply s_drop))
  | ((with_reducible apply s_var); rfl)
  | (with_reducible (first | apply s_c | apply s_op | apply s_un | apply s_test | apply s_tB | apply s_bl | apply s_and | apply s_or | apply s_not | apply s_andV | apply s_notV | apply s_I0 | apply s_U | apply s_plusI | apply s_eqI | apply s_neI | apply s_neB | apply s_neS))
  | ((with_reducible apply s_mod); walk_at "od"; intro _ _)
  | ((with_reducible apply s_div); walk_at "od"; walk_at "od")
  | (walk_at "pow")
  | ((with_reducible apply s_pow); decide; walk_at "od")
  | ((with_reducible apply s_mulL); walk_at "od")
  | ((with_reducible apply s_mulR); walk_at "od")
  | (with_reducible (first | apply s_nil | apply s_cons | apply s_call | apply s_CB | apply s_lst | apply s_tup | apply s_sl | apply s_np | apply s_part | apply s_int | apply s_BM | apply s_gsub | apply s_augS | apply s_ipI | apply s_forL | apply s_forT | apply s_forR1 | apply s_forR2 | apply s_lcL | apply s_lcT | apply s_lcR1))
  | ((with_reducible apply s_wp); rfl)
  | ((with_reducible apply s_gt2); walk_at "st")
  | (with_reducible (first | apply s_max2 | apply s_min2 | apply s_abs | apply s_int1b))
  | ((with_reducible apply s_isiI); walk_at "kit")
  | ((with_reducible apply s_isiB); walk_at "kit")
  | ((with_reducible apply s_isiS); walk_at "kit")
  | ((with_reducible apply s_isiN); walk_at "kit")
  | ((with_reducible apply s_isiL); walk_at "sq"; walk_at "kit")
  | ((with_reducible apply s_isiT); walk_at "st"; walk_at "kit")
  | ((with_reducible apply s_lenM); walk_at "sq")
  | ((with_reducible apply s_lenL); walk_at "sq")
  | ((with_reducible apply s_lenT); walk_at "st")
  | ((with_reducible apply n_slL); walk_at "sq"; intro _ _ _ _ _)
  | ((with_reducible apply s_tyL); walk_at "sq")
  | ((with_reducible apply n_lst); walk_at "od"; intro _ _ _ _ _)
  | ((with_reducible apply n_tup); walk_at "od"; intro _ _ _ _ _)
  | ((with_reducible apply n_cat); walk_at "hp"; walk_at "hp"; walk_at "len"; intro _ _ _ _ _)
  | ((with_reducible apply s_ixL); walk_at "sq"; walk_at "at")
  | ((with_reducible apply s_ixT); walk_at "st"; walk_at "at")
  | ((with_reducible apply s_ix2); walk_at "sq"; omega; intro _ _)
  | ((with_reducible apply s_ix4); walk_at "sq"; omega; intro _ _)
  | ((with_reducible apply s_ixI); walk_at "sq"; omega; intro _ _)
  | ((with_reducible apply s_getL); walk_at "sq"; decide; walk_at "at")
  | ((with_reducible apply n_setL); walk_at "hp"; walk_at "ixn"; intro _ _ _)
  | ((with_reducible apply s_eqP (α := List Int)); walk_at "is"; walk_at "is"; decide)
  | ((with_reducible apply s_neP (α := List Int)); walk_at "is"; walk_at "is"; decide)
  | ((with_reducible apply s_eqP (α := Int × Int)); walk_at "is"; walk_at "is"; decide)
  | ((with_reducible apply s_neP (α := Int × Int)); walk_at "is"; walk_at "is"; decide)
  | ((with_reducible apply s_eqP (α := Bool × Int)); walk_at "is"; walk_at "is"; decide)
  | ((with_reducible apply s_neP (α := Bool × Int)); walk_at "is"; walk_at "is"; decide)
  | ((with_reducible apply s_eqP (α := Int × Option Int)); walk_at "is"; walk_at "is"; decide)
  | ((with_reducible apply s_neP (α := Int × Option Int)); walk_at "is"; walk_at "is"; decide)
  | ((with_reducible apply s_eqP (α := T3 Int Int Int)); walk_at "is"; walk_at "is"; decide)
  | ((with_reducible apply s_neP (α := T3 Int Int Int)); walk_at "is"; walk_at "is"; decide)
  | ((with_reducible apply s_eqP (α := T4 Int Int Int Int)); walk_at "is"; walk_at "is"; decide)
  | ((with_reducible apply s_neP (α := T4 Int Int Int Int)); walk_at "is"; walk_at "is"; decide)
  | ((with_reducible apply s_eqP (α := List (Int × Int))); walk_at "is"; walk_at "is"; decide)
  | ((with_reducible apply s_neP (α := List (Int × Int))); walk_at "is"; walk_at "is"; decide)
  | ((with_reducible apply s_eqP (α := List (T3 Int Int Int))); walk_at "is"; walk_at "is"; decide)
  | ((with_reducible apply s_neP (α := List (T3 Int Int Int))); walk_at "is"; walk_at "is"; decide)
  | ((with_reducible apply s_eqP (α := List (T4 Int Int Int Int))); walk_at "is"; walk_at "is"; decide)
  | ((with_reducible apply s_neP (α := List (T4 Int Int Int Int))); walk_at "is"; walk_at "is"; decide)
  | ((with_reducible apply s_eqP (α := List (List Int))); walk_at "is"; walk_at "is"; decide)
  | ((with_reducible apply s_neP (α := List (List Int))); walk_at "is"; walk_at "is"; decide)
  | (with_reducible (first | apply i_t | apply i_f | apply i_nt | apply i_nf))
  | ((with_reducible apply i_df); (focus (first | assumption | omega | exact (fun h => h rfl)))))
local macro_rules | `(tactic| walk_at "pow") => `(tactic| first
  | (with_reducible (first | apply s_pow10_12 | apply s_pow10_18)))
local macro_rules | `(tactic| walk_at "cx") => `(tactic| try dsimp only [cx_K, cx_K2])
local macro_rules | `(tactic| walk_at "ss") => `(tactic| ((try dsimp only); (repeat walk_at "s")))
/-! the slots made plain again (many names, comprehensions): reading them is slow otherwise -/
local macro_rules | `(tactic| walk_at "nm") => `(tactic| simp only [List.set_cons_succ, List.set_cons_zero, wipe, List.map_cons, List.map_nil])

/-! powers of two, levels, rooms -/
namespace TR
theorem two_pos (k : Nat) : (1 : Int) ≤ 2 ^ k := by
  have h : (1 : Nat) ≤ 2 ^ k := Nat.one_le_two_pow
  have e : ((2 ^ k : Nat) : Int) = (2 : Int) ^ k := by rw [Int.natCast_pow]; rfl
  omega
theorem two_succ (k : Nat) : (2 : Int) ^ (k + 1) = 2 * 2 ^ k := by rw [Int.pow_succ, Int.mul_comm]
theorem two_mono {a b : Nat} (h : a ≤ b) : (2 : Int) ^ a ≤ 2 ^ b := by
  have h1 : (2 : Nat) ^ a ≤ 2 ^ b := Nat.pow_le_pow_right (by decide) h
  have e1 : ((2 ^ a : Nat) : Int) = (2 : Int) ^ a := by rw [Int.natCast_pow]; rfl
  have e2 : ((2 ^ b : Nat) : Int) = (2 : Int) ^ b := by rw [Int.natCast_pow]; rfl
  omega
theorem two_lt {a b : Nat} (h : (2 : Int) ^ a < 2 ^ b) : a < b := by
  apply Decidable.byContradiction
  intro n
  have := two_mono (show b ≤ a by omega)
  omega
noncomputable def lev (r : Int) : Nat := Nat.log2 r.toNat
noncomputable def whole (r : Int) : Int := 2 ^ lev r
theorem whole_spec {r : Int} (h : 1 ≤ r) : 1 ≤ whole r ∧ whole r ≤ r ∧ r < 2 * whole r := by
  have h0 : r.toNat ≠ 0 := by omega
  have h1 := Nat.log2_self_le h0
  have h2 := Nat.lt_log2_self (n := r.toNat)
  have e1 : ((2 ^ Nat.log2 r.toNat : Nat) : Int) = whole r := by
    unfold whole lev
    rw [Int.natCast_pow]
    rfl
  have e2 : ((2 ^ (Nat.log2 r.toNat + 1) : Nat) : Int) = 2 * whole r := by
    rw [Nat.pow_succ, Int.natCast_mul, e1]
    omega
  have := two_pos (lev r)
  unfold whole at *
  omega
theorem lev_unique {r : Int} {k : Nat} (h1 : (2 : Int) ^ k ≤ r) (h2 : r < 2 * 2 ^ k) : lev r = k := by
  have hr : 1 ≤ r := by have := two_pos k; omega
  obtain ⟨a, b, c⟩ := whole_spec hr
  unfold whole at *
  rw [← two_succ] at c h2
  have l1 : k < lev r + 1 := two_lt (by omega)
  have l2 : lev r < k + 1 := two_lt (by omega)
  omega
theorem whole_unique {r : Int} {k : Nat} (h1 : (2 : Int) ^ k ≤ r) (h2 : r < 2 * 2 ^ k) : whole r = 2 ^ k := by
  unfold whole
  rw [lev_unique h1 h2]
noncomputable def roomOf (key rooms : Int) : Int := if key % whole rooms < rooms - whole rooms then key % (2 * whole rooms) else key % whole rooms
end TR
/-! bits, and keys turned about -/
namespace TR
noncomputable def bit (x : Int) (k : Nat) : Int := x / 2 ^ k % 2
noncomputable def rev : Nat → Int → Int
  | 0, _ => 0
  | n + 1, x => rev n x * 2 + bit x n
/-- the first bit in which two differ -/
noncomputable def Dif (x y : Int) (d : Nat) : Prop := (∀ k, k < d → bit x k = bit y k) ∧ bit x d ≠ bit y d
noncomputable def partedAt (x y : Int) (d : Nat) : Int := 1 + max (x % 2 ^ (d + 1)) (y % 2 ^ (d + 1))
end TR
namespace TR
end TR
namespace TR
end TR

/-! sorted of pairs of a number and a text, no two unlike ones of the same number -/
namespace SrtS
open PySem PySem.W PyProof.Rows SrtO
section
variable {prog : Program} {w : World} {A : Around} {E : Value → Shared → Prop} {s : Shared}
noncomputable def IsPS (h : Heap) (v : Value) (x : Int) (y : Str) : Prop := ∃ a o t u n, v = .ref a ∧ h.get? a = some o ∧ o.cls = .type "tuple" ∧ o.data = .seq #[.int x t, .str y u] n
noncomputable def ltI (p q : Int × Str) : Bool := decide (p.1 < q.1)
end
end SrtS
namespace L2
open PySem PySem.Spec PyProof.Rows
noncomputable def EntV (K : PySem.W.Frag) (H : Hp) (x : V) (e : Int × Str) : Prop := ∃ t, x = V.ref t ∧ SqT K H t [.int e.1, .str e.2]
noncomputable def rSortedPS (K : PySem.W.Frag) : List V → Hp → VK → Prop := fun vs H Q => ∃ (a : Addr) (xs : List V) (l : List (Int × Str)), vs = [V.ref a] ∧ SqL K H a xs ∧ Paired (EntV K H) xs l ∧
  (∀ x ∈ l, ∀ y ∈ l, x.1 = y.1 → x.2 = y.2) ∧
  ∀ (ps : List (V × (Int × Str))) p, ps.Pairwise (fun x y => x.2.1 ≤ y.2.1) → ps.Perm (xs.zip l) → H p = none → Q (.ref p) (upd H p (.lst (ps.map Prod.fst)))
end L2

/-! entries, rows, rooms, yards as data; comprehensions that draw -/
namespace TR
open PySem L2
/-- a text of signs that there are -/
noncomputable abbrev Tx := {x : Str // PyData.strOk x = true}
instance : Inhabited Tx := ⟨⟨⟨#[]⟩, by simp [PyData.strOk]⟩⟩
instance : Py Tx := ⟨fun x => .str x.1, 0, fun _ => Nat.le_refl _, fun x => x.2, fun a b => by
  rw [PyData.eqv, beq_iff_eq]
  exact Subtype.ext_iff.symm⟩
instance : Py (Option Tx) := ⟨fun o => match o with | none => .none | some i => .str i.1, 0, fun o => by cases o <;> exact Nat.le_refl _, fun o => by
  cases o with
  | none => rfl
  | some x => exact x.2, fun a b => by
  cases a <;> cases b
  · exact ⟨fun _ => rfl, fun _ => rfl⟩
  · exact ⟨fun h => (Bool.false_ne_true h).elim, fun h => nomatch h⟩
  · exact ⟨fun h => (Bool.false_ne_true h).elim, fun h => nomatch h⟩
  · rename_i x y
    show (x.1 == y.1) = true ↔ some x = some y
    rw [beq_iff_eq, Option.some.injEq]
    exact Subtype.ext_iff.symm⟩
noncomputable abbrev Ent := Int × Tx
noncomputable abbrev Row := List Ent
noncomputable abbrev Yard := T3 Int Int (List (List Row))
instance : DecidableEq Tx := fun a b => decidable_of_iff (a.1 = b.1) Subtype.ext_iff.symm
instance : DecidableEq Yard := fun a b => decidable_of_iff (a.a = b.a ∧ a.b = b.b ∧ a.c = b.c) (by
  obtain ⟨a1, a2, a3⟩ := a
  obtain ⟨b1, b2, b3⟩ := b
  exact T3.mk.injEq .. ▸ Iff.rfl)
section
variable {K : PySem.W.Frag} {H : Hp} {v : V}
end
/-! ### rows sorted by their keys -/
noncomputable def sortE (l : Row) : Row := l.mergeSort (fun a b => decide (a.1 ≤ b.1))
/-- no two unlike entries of one key -/
noncomputable def OneK (l : Row) : Prop := ∀ x ∈ l, ∀ y ∈ l, x.1 = y.1 → x.2 = y.2
end TR
namespace TR
open PySem L2
/-! ### pure values out of data, some of them -/
section
variable {K : PySem.W.Frag} {σ : L2.St} {H : Hp} {tt : TT} {te : TE} {Q : VK} {g : TG} {vs : List Nat}
end
/-! ### comprehensions that draw -/
section
variable {K : PySem.W.Frag} {σ : L2.St} {H : Hp} {te : TE} {Q : VK} {g : TG} {vs : List Nat}
end
end TR

/-! data that stands in plain lists and tuples: all its lists are tracked -/
namespace TR
open PySem L2
mutual
inductive Dt (H : Hp) : V → PyData → Prop
  | non : Dt H .non .none
  | bl (b : Bool) : Dt H (.bl b) (.bool b)
  | int (i : Int) : Dt H (.int i) (.int i)
  | str (x : Str) : Dt H (.str x) (.str x)
  | lst {a : Addr} {vs : List V} {ds : List PyData} : H a = some (.lst vs) → DtAll H vs ds → Dt H (.ref a) (.list ds)
  | tup {a : Addr} {vs : List V} {ds : List PyData} : H a = some (.tup vs) → DtAll H vs ds → Dt H (.ref a) (.tuple ds)
inductive DtAll (H : Hp) : List V → List PyData → Prop
  | nil : DtAll H [] []
  | cons {v : V} {vs : List V} {d : PyData} {ds : List PyData} : Dt H v d → DtAll H vs ds → DtAll H (v :: vs) (d :: ds)
end
mutual
theorem Dt.ex {H H' : Hp} (e : Ex H H') : ∀ {v : V} {d : PyData}, Dt H v d → Dt H' v d
  | _, _, .non => .non
  | _, _, .bl b => .bl b
  | _, _, .int i => .int i
  | _, _, .str x => .str x
  | _, _, .lst s a => .lst (e _ _ s) (DtAll.ex e a)
  | _, _, .tup s a => .tup (e _ _ s) (DtAll.ex e a)
theorem DtAll.ex {H H' : Hp} (e : Ex H H') : ∀ {vs : List V} {ds : List PyData}, DtAll H vs ds → DtAll H' vs ds
  | _, _, .nil => .nil
  | _, _, .cons a r => .cons (Dt.ex e a) (DtAll.ex e r)
end
mutual
theorem Dt.dp {K : PySem.W.Frag} {H : Hp} : ∀ {v : V} {d : PyData}, Dt H v d → Dp K H v d
  | _, _, .non => .non
  | _, _, .bl b => .bl b
  | _, _, .int i => .int i
  | _, _, .str x => .str x
  | _, _, .lst s a => .lst (sq_of s) (DtAll.dp a)
  | _, _, .tup s a => .tup (st_of s) (DtAll.dp a)
theorem DtAll.dp {K : PySem.W.Frag} {H : Hp} : ∀ {vs : List V} {ds : List PyData}, DtAll H vs ds → DpAll K H vs ds
  | _, _, .nil => .nil
  | _, _, .cons a r => .cons (Dt.dp a) (DtAll.dp r)
end
/-- the value v stands in H as the thing x -/
noncomputable abbrev Ik (H : Hp) {α : Type} [Py α] (v : V) (x : α) : Prop := Dt H v (Py.d x)
section
variable {K : PySem.W.Frag} {H H' : Hp} {α β γ δ : Type} [Py α] [Py β] [Py γ] [Py δ] {v w u t : V} {x : α} {y : β} {z : γ} {r : δ} {a : Addr}
theorem Ik.is (h : Ik H v x) : Is K H v x := Dt.dp h
theorem Ik.ex (e : Ex H H') (h : Ik H v x) : Ik H' v x := Dt.ex e h
theorem Ik.int (i : Int) : Ik H (.int i) i := Dt.int i
theorem Ik.nil (h : H a = some (.lst [])) : Ik H (.ref a) ([] : List α) := .lst h .nil
theorem Ik.pair (h : H a = some (.tup [v, w])) (h1 : Ik H v x) (h2 : Ik H w y) : Ik H (.ref a) (x, y) := .tup h (.cons h1 (.cons h2 .nil))
theorem Ik.of_list {vs : List V} {xs : List α} (s : H a = some (.lst vs)) (h : Paired (fun v x => Ik H v x) vs xs) : Ik H (.ref a) xs := by
  have go : ∀ {vs : List V} {ys : List α}, Paired (fun v x => Ik H v x) vs ys → DtAll H vs (ys.map Py.d) := by
    intro vs ys h
    induction h with
    | nil => exact .nil
    | cons h1 _ ih => exact .cons h1 ih
  exact .lst s (go h)
theorem ints_pairK : ∀ {xs : List Int}, Paired (fun v x => Ik H v x) (xs.map V.int) xs
  | [] => .nil
  | _ :: _ => .cons (Ik.int _) ints_pairK
end
section
variable {K : PySem.W.Frag} {Z H : Hp} {α β : Type} [Py α] [Py β] {v : V} {σ : L2.St} {R : L2.St → Hp → Prop} {Q : VK}
end
end TR

/-! defs that know that no guard is up (repr of a list asks for it) -/
namespace TR
open PySem L2 PySem.Spec PyProof.Rows
structure FnG (P : Program) (w : World) (K : PySem.W.Frag) (mg : Str → Option Value) (base : Heap) (k : Nat) (f : Addr) (fd : FuncData) (ps : List Str) (sp : Sp) : Prop where
  len : ∀ vs H Q E, sp vs H Q E → vs.length = ps.length
  run : ∀ (A : Around) (outer : List Env) (s : Shared) (H : Hp) (args : Args) (us : List Value) (vs : List V) (Q : VK) (E : XK), Room k A → A.guards = some [] → Env0 P w K mg base A outer s H → BindsTo s fd args (ps.zip us) → Vals vs us → sp vs H Q E →
    codeAny (model P w) A (.call (.ref f) args) (CR CX0 outer P w H s Q E) s
noncomputable def HasG (P : Program) (w : World) (K : PySem.W.Frag) (mg : Str → Option Value) (base : Heap) (x : Str) (k : Nat) (sp : Sp) : Prop :=
  ∃ f fd ps, FnG P w K mg base k f fd ps sp ∧ mg x = some (.ref f) ∧ PySem.W.keepIn K (.ref f) = true ∧ Binds K fd ps []
section
variable {P : Program} {w : World} {K : PySem.W.Frag} {mg : Str → Option Value} {base : Heap}
theorem fn_ofG {k : Nat} {x q : Str} {st : Stmt} {f : Addr} {fd : FuncData} {N ps : List Str} {sp : Sp} (F : Fun K x q st f fd) (S : FnScope N ps (defScope st)) (len : ∀ vs H Q E, sp vs H Q E → vs.length = ps.length)
    (hbody : ∀ (cdv : Value) (A : Around) (outer : List Env) (s : Shared) (H : Hp) (vs : List V) (Q : VK) (E : XK), Room k (A.deeper (envOfC q (defScope st) s.heap.objs.size f cdv)) → A.guards = some [] → sp vs H Q E →
      ∃ t, PSs (cxOf CX0 P w K mg base N q (defScope st) f cdv A outer s H E).nox (defBody st) t ∧ t { nx := fun _ H' => Q .non H', rt := Q } (start N vs) H) : FnG P w K mg base (k + 1) f fd ps sp := by
  obtain ⟨oc, od, kV, doc, pm, an, cdv, ct, osl, rfl, lk, hcd⟩ := F.ex
  refine ⟨len, fun A outer s H args us vs Q E hr gd e0 hb r hsp => ?_⟩
  have KX : K.In s.heap := e0.mod.kin.keeps fun b o e => (e0.bs b o e).1
  have lim : s.heap.NoLimit := e0.mod.nolimit.keeps fun b o e => (e0.bs b o e).1
  have hkind : ∀ y ∈ ps.zip us, (defScope st).names.lookup y.1 = some .local ∨ ((defScope st).names.lookup y.1 = some .cell ∧ ((cellsFrom (s.heap.objs.size + 1) (defScope st).names []).lookup y.1).isSome = true) := fun ⟨n, v⟩ hy => by
    rcases S.par n (List.of_mem_zip hy).1 with q | q
    · exact .inl q
    · exact .inr ⟨q, PySem.W.cellsFrom_some _ _ _ (.inl q)⟩
  refine codeAny_call_function hr.depth (KX _ _ lk) rfl S.co S.gen rfl (PySem.W.codeRec_of KX hcd) (hb _ _ _ _ ?_)
  refine wpAny_newFunctionEnv_cells S.kind hkind fun env he s1 x1 => ?_
  subst he
  refine ⟨lim.keeps x1.toInCall.keep, codeAny_func ?_⟩
  obtain ⟨t, ht, hq⟩ := hbody cdv A outer s H vs Q E (hr.deeper _) gd hsp
  have I : Inv (cxOf CX0 P w K mg base N q (defScope st) f cdv A outer s H E) [] (L2.start N vs) H s1 := inv_start S hr.hd e0 (len _ _ _ _ hsp) r x1
  refine wpAny_mono (ht.nox.run [] s1 (L2.start N vs) H _ I hq) (fun fl s' hs => ?_) fun e s' hs => hs
  have fin : ∀ {σ' : L2.St} {H' : Hp} {v : V} {u : Value}, Inv (cxOf CX0 P w K mg base N q (defScope st) f cdv A outer s H E) [] σ' H' s' → RelV v u → Q v H' → CE outer P w H s Q u s' :=
    fun {σ' H' v u} J rv q => ⟨v, H', J.os, J.bare, J.base, J.hok, rv, q⟩
  cases fl with
  | ret u =>
    obtain ⟨v, σ', H', J, rv, q⟩ := hs
    exact fin J rv q
  | next =>
    obtain ⟨σ', H', J, q⟩ := hs
    exact fin (v := V.non) (u := Value.none) J rfl q
  | brk =>
    obtain ⟨_, _, _, q⟩ := hs
    exact False.elim q
  | cont =>
    obtain ⟨_, _, _, q⟩ := hs
    exact False.elim q
theorem has_ofG {x : Str} {st : Stmt} {N ps : List Str} {k : Nat} {sp : Sp} (F : FunAt K mg x st ps) (S : FnScope N ps (defScope st)) (len : ∀ vs H Q E, sp vs H Q E → vs.length = ps.length)
    (hbody : ∀ (f : Addr) (cdv : Value) (A : Around) (outer : List Env) (s : Shared) (H : Hp) (vs : List V) (Q : VK) (E : XK), Room k (A.deeper (envOfC x (defScope st) s.heap.objs.size f cdv)) → A.guards = some [] → sp vs H Q E →
      ∃ t, PSs (cxOf CX0 P w K mg base N x (defScope st) f cdv A outer s H E).nox (defBody st) t ∧ t { nx := fun _ H' => Q .non H', rt := Q } (start N vs) H) : HasG P w K mg base x (k + 1) sp := by
  obtain ⟨f, fd, F, hm, hb⟩ := F
  exact ⟨f, fd, ps, fn_ofG F S len (hbody f), hm, F.kp, hb⟩
end
section
variable {X : Cx} {k k' : Nat} {sp : Sp} {x : Str} {p pos : Pos} {e : Expr} {es : List Expr} {t : TA}
theorem pe_callG (gd : X.A.guards = some []) (h : HasG X.prog X.w X.K X.mg X.base x k sp) (hk : k ≤ k') (hr : Room k' X.A) (hg : Gl X x) (ha : PA X (e :: es) t) (hdb : (x == ("__debug__" : Str)) = false := by decide)
    (he : starEach (e :: es) X.env = (false, eval e X.env) :: starEach es X.env := by rfl) (hpl : (backTo pos (starEach es X.env)).any (·.1) = false := by rfl) : PE X (.Call (.Name x p) (e :: es) [] pos) (tCall sp [] E0 t) := by
  obtain ⟨f, fd, ps, F, hm, kp, hb⟩ := h
  refine ⟨fun pins s σ H Q I h => ?_⟩
  refine wpAny_Call_Name_kw (ld_glob I hg hm ?_ hdb)
  refine PySem.W.callWith_K (h₀ := X.base) I.ok.mod.kin kp (thn (ha.run pos pins s σ H _ I h) fun us s1 ⟨vs, H1, I1, r, q⟩ => ⟨I1.kIn, ?_⟩) he hpl
  have q' : sp (vs ++ []) H1 Q E0 := q
  rw [List.append_nil] at q'
  have hl : us.length = ps.length := by rw [← r.length]; exact F.len _ _ _ _ q'
  have b := hb s1 us I1.kIn (by rw [List.append_nil]; exact hl)
  rw [List.append_nil] at b
  refine wpAny_call (codeAny_mono (F.run X.A X.stack s1 H1 ⟨us, []⟩ us vs Q E0 (hr.mono hk) gd I1.env0 b r q') fun r s' hq => ?_)
  cases r with
  | error e => exact pass0 pins σ H1 s1 e s' I1 hq
  | ok fl =>
    cases fl with
    | ret u => exact I1.after hq
    | next => exact False.elim hq
    | brk => exact False.elim hq
    | cont => exact False.elim hq
end
/-- the law's call, its promise holding where no guard is up -/
theorem law_callG {P : Program} {w : World} {K : PySem.W.Frag} {mg mb : Str → Option Value} {k : Nat} {fa a : Addr} {fd : FuncData} {x : Str} {sp : Sp} {s₁ : Shared} {vs : List Value} {ns : List Int}
    (KX : K.In s₁.heap) (hns : s₁.heap.Ns mainGlobals mg) (hb : s₁.heap.Ns builtinsNs mb) (hbb : ∀ x : Str, x ≠ "__name__" → mb x = bootBuiltins x) (hlim : s₁.heap.NoLimit) (hg : s₁.gens = #[])
    (ha : s₁.heap.get? a = some { cls := .type "list", data := .seq vs.toArray }) (hi : IntsAre vs ns) (hl : ns.length ≤ sizeLine) (hr : Room k callerA)
    (F : ∀ base : Heap, K.In base → base.Ns mainGlobals mg → FnG P w K mg base k fa fd [x] sp) (hbind : ∀ (s : Shared) (u : Value), BindsTo s fd ⟨[u], []⟩ [(x, u)])
    (hsp : ∀ H : Hp, Only H → SqL K H a (ns.map V.int) → sp [.ref a] H (fun v _ => v = .bl true) fun _ _ _ => False) :
    codeAny (model P w) callerA (.call (.ref fa) ⟨[.ref a], []⟩) (fun r s' => r = .ok (.ret (.bool true)) ∧ OldK s₁.heap s'.heap ∧ s'.os = s₁.os ∧ AllBare s'.gens) s₁ := by
  have rv := vals_ints hi
  have lenV := hi.length
  have key : ∀ H : Hp, Only H → SqL K H a (ns.map V.int) → HOk P w H s₁.heap → (∀ b, H b ≠ none → b = a) → (H a ≠ none → K.lookup a = none) →
      codeAny (model P w) callerA (.call (.ref fa) ⟨[.ref a], []⟩) (fun r s' => r = .ok (.ret (.bool true)) ∧ OldK s₁.heap s'.heap ∧ s'.os = s₁.os ∧ AllBare s'.gens) s₁ := by
    intro H hO hS hok hA hK
    have free : ∀ {b : Addr}, (H b ≠ none → False) → H b = none := fun {b} h => by
      cases q : H b with
      | none => rfl
      | some u => exact (h (by rw [q]; simp)).elim
    have nsK : ∀ {b : Addr} {m : Str → Option Value}, s₁.heap.Ns b m → (hidT s₁.heap H).Ns b m := fun {b m} ⟨o, es, ep, e, d, r⟩ => ⟨o, es, ep, hidT_get e (free fun z => by
      have e' := hA b z
      subst e'
      rw [ha] at e; cases e
      have d' : Data.seq vs.toArray _ = Data.dict es ep := d
      cases d'), d, r⟩
    have hKb : K.In (hidT s₁.heap H) := fun b o e => hidT_get (KX b o e) (free fun z => by
      have e' := hA b z
      subst e'
      rw [hK z] at e; cases e)
    have hM : Mod K mg (hidT s₁.heap H) := ⟨hKb, nsK hns, ⟨mb, nsK hb, hbb⟩, let ⟨mc, h1, h2⟩ := hlim; ⟨mc, nsK h1, h2⟩⟩
    have e0 : Env0 P w K mg (hidT s₁.heap H) callerA [] s₁ H := ⟨rfl, hM, fun b o e => of_hidT e, Nat.le_of_eq (hidT_size _ _), trivial, fun b hb => absurd (show b ∈ ([] : List Addr) from hb) (by simp), hok, .of_eq hg⟩
    refine codeAny_mono ((F _ hKb (nsK hns)).run callerA [] s₁ H ⟨[.ref a], []⟩ [.ref a] [.ref a] _ _ hr rfl e0 (hbind s₁ (.ref a)) (.cons rfl .nil) (hsp H hO hS)) fun r s' h => ?_
    cases r with
    | error e => exact False.elim h
    | ok fl =>
      cases fl with
      | next => exact False.elim h
      | brk => exact False.elim h
      | cont => exact False.elim h
      | ret u =>
        obtain ⟨v, H', os, bare, un, hok', r', q⟩ := h
        have q' : v = .bl true := q
        subst q'
        obtain rfl : u = Value.bool true := r'
        refine ⟨rfl, OldK.of_keep fun b o e => ?_, os, bare⟩
        cases q : H b with
        | none => exact un.keep b o e q (by intro z; exact absurd (show b ∈ ([] : List Addr) from z) (by simp)) (by simp)
        | some u =>
          rcases hO b with z | ⟨ob, xs, z⟩
          · rw [q] at z; cases z
          · have z2 := un.frzs b ob _ z
            obtain ⟨e1, _⟩ := hok b _ z
            obtain ⟨e2, _⟩ := hok' b _ z2
            rw [e] at e1; cases e1
            exact e2
  cases hk : K.lookup a with
  | some o =>
    have e := KX a o hk
    rw [ha] at e
    cases e
    refine key (fun _ => none) (fun _ => .inl rfl) (.inr ⟨_, vs.toArray, _, hk, rfl, rfl, rfl, by rw [List.size_toArray, lenV]; exact hl, by simpa using rv⟩) (fun b u z => by have z' : (none : Option HO) = some u := z; cases z') (fun b z => absurd rfl z) fun z => absurd rfl z
  | none =>
    refine key (fun b => if b = a then some (.frz { cls := .type "list", data := .seq vs.toArray } (.lst (ns.map V.int))) else none) (fun b => ?_) (.inl (.inr ⟨{ cls := .type "list", data := .seq vs.toArray }, if_pos rfl⟩)) (fun b u z => ?_) (fun b z => ?_) fun _ => hk
    · by_cases hb : b = a
      · exact .inr ⟨_, _, if_pos hb⟩
      · exact .inl (if_neg hb)
    · by_cases hb : b = a
      · have z' := (if_pos hb).symm.trans z
        cases z'
        subst hb
        exact ⟨ha, by rw [List.length_map]; exact hl, vs, _, rv, ha⟩
      · have z' := (if_neg hb).symm.trans z
        cases z'
    · by_cases hb : b = a
      · exact hb
      · exact absurd (if_neg hb) z
/-- the head, for a law that knows it -/
theorem walk_ofG {l : PySem.W.OpenLaw} {n k : Nat} {q : Program} {loose : List Str} {XP : (Str → Option Value) → Heap → Prop} {YP : World → Heap → Prop} {d : DefRec} {K : Params → PySem.W.Frag} {sp : World → Sp} {x : Str}
    (hn : l.most = some n) (hn2 : n ≤ sizeLine) (hdf : d.params.defaults = []) (hr : Room k callerA) (hY : ∀ (w : World) (h : Heap), YP w h → (K w.params).In h)
    (F : ∀ (w : World) (mg : Str → Option Value) (fa : Addr) (h : Heap), (K w.params).In h → h.Ns mainGlobals mg → mg d.name = some (.ref fa) →
      ∃ fd : FuncData, (∀ (s : Shared) (u : Value), BindsTo s fd ⟨[u], []⟩ [(x, u)]) ∧ ∀ base : Heap, (K w.params).In base → base.Ns mainGlobals mg → FnG l.prog w (K w.params) mg base k fa fd [x] (sp w))
    (hsp : ∀ (w : World) (H : Hp) (a : Addr) (ns : List Int), ns.length ≤ n → Only H → SqL (K w.params) H a (ns.map V.int) → sp w [.ref a] H (fun v _ => v = .bl true) fun _ _ _ => False) :
    PySem.W.WalkO q loose XP YP l.row.toRowW d [] (fun f vs => PySem.call f vs) := by
  refine Att.attach_call hn hdf fun w s₀ s₁ mg mb fa o pm cd doc a vs ns G Y ho hd hcd hmg hobj hints hlen hg => ?_
  have KX := hY w _ Y
  obtain ⟨fd, hb, hF⟩ := F w mg fa _ KX G.T.g hmg
  exact law_callG KX G.T.g G.T.b G.T.builtins G.T.nolimit hg hobj hints (Nat.le_trans hlen hn2) hr hF hb (fun H hO hS => hsp w H a ns hlen hO hS)
theorem law_endG {K : PySem.W.Frag} {mg : Str → Option Value} {w : World} {P : Program} {h : Heap} (X : K.In h) (G : h.Ns mainGlobals mg) {fa : Addr} (hfa : mg "law" = some (.ref fa)) {st : Stmt} {x : Str} {k : Nat} {sp : Sp} {f : Addr} {oc : Value} {od an : Option Addr} {osl : Array (Option Value)} {kV doc pm cdv ct : Value}
    (a : PySem.W.nsIn K mainGlobals "law" = some (some (.ref f))) (l : K.lookup f = some ⟨oc, od, .func (PySem.W.fnOf "law" "law" (defArgs st) (defBody st) (defScope st) .none kV doc pm an cdv ct), osl⟩)
    (c : PySem.W.codeIn K cdv "law" = true) (kp : PySem.W.keepIn K (.ref f) = true)
    (hb : ∀ (s : Shared) (v : Value), BindsTo s (PySem.W.fnOf "law" "law" (defArgs st) (defBody st) (defScope st) .none kV doc pm an cdv ct) ⟨[v], []⟩ [(x, v)])
    (b : ∀ base : Heap, Fun K "law" "law" st f (PySem.W.fnOf "law" "law" (defArgs st) (defBody st) (defScope st) .none kV doc pm an cdv ct) → FnG P w K mg base k f (PySem.W.fnOf "law" "law" (defArgs st) (defBody st) (defScope st) .none kV doc pm an cdv ct) [x] sp) :
    ∃ fd : FuncData, (∀ (s : Shared) (v : Value), BindsTo s fd ⟨[v], []⟩ [(x, v)]) ∧ ∀ base : Heap, K.In base → base.Ns mainGlobals mg → FnG P w K mg base k fa fd [x] sp := by
  have e := hfa.symm.trans (PySem.W.mg_of X G a)
  cases e
  exact ⟨_, hb, fun base _ _ => b base (fun_mk l c kp)⟩
end TR

/-! repr of data, of lists of data and of empty dicts, where no guard is up -/
namespace TR
open PySem L2 PySem.Spec PyProof.Rows
/-- data, or {} -/
inductive Ob (H : Hp) : V → PyData → Prop
  | dat {v : V} {d : PyData} (h : Dt H v d) : Ob H v d
  | dct {a : Addr} (h : H a = some (.dK [])) : Ob H (.ref a) (.dict [])
/-- .. or a list of such -/
inductive TB (H : Hp) : V → PyData → Prop
  | ob {v : V} {d : PyData} (h : Ob H v d) : TB H v d
  | lst {a : Addr} {us : List V} {ds : List PyData} (h : H a = some (.lst us)) (p : Paired (Ob H) us ds) : TB H (.ref a) (.list ds)
section
variable {H H' : Hp} {v : V} {d : PyData}
theorem Ob.ex (e : Ex H H') (h : Ob H v d) : Ob H' v d := by
  cases h with
  | dat h => exact .dat (Dt.ex e h)
  | dct h => exact .dct (e _ _ h)
theorem TB.ex (e : Ex H H') (h : TB H v d) : TB H' v d := by
  cases h with
  | ob h => exact .ob (h.ex e)
  | lst h p => exact .lst (e _ _ h) (Paired.mapP p fun _ _ g => Ob.ex e g)
end
mutual
theorem Dt.noDict {H : Hp} : ∀ {v : V} {d : PyData}, Dt H v d → d.hasDict = false
  | _, _, .non => rfl
  | _, _, .bl _ => rfl
  | _, _, .int _ => rfl
  | _, _, .str _ => rfl
  | _, _, .lst _ a => by simp only [PyData.hasDict]; exact DtAll.noDict a
  | _, _, .tup _ a => by simp only [PyData.hasDict]; exact DtAll.noDict a
theorem DtAll.noDict {H : Hp} : ∀ {vs : List V} {ds : List PyData}, DtAll H vs ds → PyData.hasDictAll ds = false
  | _, _, .nil => rfl
  | _, _, .cons a r => by simp only [PyData.hasDictAll, Dt.noDict a, DtAll.noDict r, Bool.or_self]
end
/-- its text is not too long -/
structure SmD (n : Nat) (d : PyData) : Prop where
  sh : d.showable = true
  le : d.shown.length ≤ n
  dp : d.depth ≤ 20
theorem SmD.more {n m : Nat} {d : PyData} (h : SmD n d) (e : n ≤ m) : SmD m d := ⟨h.sh, Nat.le_trans h.le e, h.dp⟩
section
variable {X : Cx} {pins : List (Addr × Obj)} {σ : L2.St} {H : Hp} {s : Shared}
theorem Ob.reads (I : Inv X pins σ H s) {v : V} {d : PyData} {u : Value} (h : Ob H v d) (r : RelV v u) : ∃ as, Reads s.heap u d as ∧ (d.hasDict = true → sysModules ∉ as) := by
  cases h with
  | dat h =>
    obtain ⟨as, q⟩ := Dp.reads I _ _ _ (Dt.dp (K := X.K) h) r
    exact ⟨as, q, fun z => by rw [Dt.noDict h] at z; cases z⟩
  | @dct a h =>
    obtain rfl : u = Value.ref a := r
    obtain ⟨_, sm, vs, kv, o, es, ep, h1, h2, h3, h4⟩ := dk_of I.hok h
    cases kv
    have e0 : es = #[] := by
      have e1 := h4.2.1.length
      apply Array.eq_empty_of_size_eq_zero
      simpa using e1
    subst e0
    refine ⟨a :: [] ++ [], .dict (kvs := []) (as := []) (bs := []) h1 h2.1 h3 .nil .nil, fun _ hm => ?_⟩
    have : sysModules = a := by simpa using hm
    rw [this] at sm
    simp at sm
theorem obs_repr (I : Inv X pins σ H s) {us : List V} {ds : List PyData} {its : List Value} {n : Nat} (p : Paired (Ob H) us ds) (r : Vals us its) (hn : n ≤ sizeLine) (sm : ∀ d ∈ ds, SmD n d) :
    ∃ as bs, ReadsAll s.heap its ds as ∧ ReadAtMost s.heap (PyData.depthAll ds) bs ∧ ReprAllK X.prog X.w bs s.heap (PyData.depthAll ds) its (PyData.shownAll ds) := by
  induction p generalizing its with
  | nil =>
    cases r
    exact ⟨[], [], .nil, fun _ h => absurd h List.not_mem_nil, .nil⟩
  | @cons v d us ds h t ih =>
    cases r with
    | cons r1 r2 =>
      obtain ⟨as1, q1, m1⟩ := h.reads I r1
      obtain ⟨as2, bs2, q2, b2, k2⟩ := ih r2 fun d hd => sm d (List.mem_cons_of_mem _ hd)
      have s1 := sm d List.mem_cons_self
      obtain ⟨bs1, b1, k1⟩ := ReprK.of_reads (prog := X.prog) (w := X.w) q1 s1.sh m1 (Nat.le_trans s1.le hn)
      refine ⟨_, bs1 ++ bs2, .cons q1 q2, ?_, ?_⟩
      · simp only [PyData.depthAll]
        exact (b1.mono (Nat.le_max_left _ _)).append (b2.mono (Nat.le_max_right _ _))
      · simp only [PyData.depthAll, PyData.shownAll]
        exact .cons ((k1.more fun b hb => List.mem_append_left _ hb).level_le (Nat.le_max_left _ _)) (k2.more_le (fun b hb => List.mem_append_right _ hb) (Nat.le_max_right _ _))
end
/-- repr(x) -/
noncomputable def rRepr : List V → Hp → VK → Prop := fun xs H Q => ∃ (v : V) (d : PyData), xs = [v] ∧ TB H v d ∧ SmD 16000000 d ∧ (∀ ds, d = .list ds → ∀ e ∈ ds, SmD 16000000 e) ∧ Q (.str d.shown) H
theorem call_reprA {X : Cx} (gd : X.A.guards = some []) (hu : X.A.units + 64 < cLine) : CallR X (.builtin "repr") rRepr := by
  intro pins s σ H xs us Q I r h
  obtain ⟨v, d, rfl, tb, sm, se, q⟩ := h
  obtain ⟨u, rfl, ru⟩ := vals1 r
  have z24 : (16000000 : Nat) ≤ sizeLine := by decide
  have dp := sm.dp
  cases tb with
  | ob h =>
    obtain ⟨as, rd, hm⟩ := h.reads I ru
    have fin : ∀ (h' : Heap) (t : Tok) (tk : Nat), (∀ b o, s.heap.get? b = some o → h'.get? b = some o) → EP X pins σ Q (.str d.shown t) { s with heap := h', toks := tk } := fun h' t tk hk => ⟨.str d.shown, H, I.kept hk, ⟨t, rfl⟩, q⟩
    cases rd with
    | none => exact PySem.P.repr_of_none (fin s.heap _ _ fun _ _ e => e)
    | bool b =>
      refine PySem.P.repr_of_bool ?_
      have := fin s.heap s.toks (s.toks + 1) fun _ _ e => e
      simp only [PyData.shown] at this
      exact this
    | int i t =>
      refine PySem.P.repr_of_int (by simpa [PyData.showable] using sm.sh) ?_
      have := fin s.heap s.toks (s.toks + 1) fun _ _ e => e
      simp only [PyData.shown] at this
      exact this
    | str x t =>
      refine PySem.P.repr_of_str ?_ (hsz := Nat.le_trans (by have := sm.le; simpa only [PyData.shown] using this) z24)
      have := fin s.heap s.toks (s.toks + 1) fun _ _ e => e
      simp only [PyData.shown] at this
      exact this
    | list h1 h2 h3 h4 => exact repr_of_reads' (.list h1 h2 h3 h4) sm.sh hm gd (by omega) (fun _ _ e => e) (fun h' t tk hk => fin h' t tk hk) (Nat.le_trans sm.le z24)
    | tuple h1 h2 h3 h4 => exact repr_of_reads' (.tuple h1 h2 h3 h4) sm.sh hm gd (by omega) (fun _ _ e => e) (fun h' t tk hk => fin h' t tk hk) (Nat.le_trans sm.le z24)
    | dict h1 h2 h3 h4 h5 => exact repr_of_reads' (.dict h1 h2 h3 h4 h5) sm.sh hm gd (by omega) (fun _ _ e => e) (fun h' t tk hk => fin h' t tk hk) (Nat.le_trans sm.le z24)
  | @lst a vs ds h p =>
    obtain rfl : u = Value.ref a := ru
    obtain ⟨_, its, n, rv, _, ho⟩ := I.lstM h
    obtain ⟨as, bs, rd, hb, hk⟩ := obs_repr I p rv z24 (se ds rfl)
    have rl : Reads s.heap (.ref a) (.list ds) (a :: as) := .list ho rfl rfl (by simpa using rd)
    have hna : a ∉ bs := not_mem_of_deeper rl (by simp only [PyData.depth]; omega) hb
    have dp' : PyData.depthAll ds + 1 ≤ 20 := by simpa only [PyData.depth] using dp
    have hsz : (listText (PyData.shownAll ds)).length ≤ sizeLine := Nat.le_trans (by have := sm.le; simpa only [PyData.shown] using this) z24
    have fin : ∀ (h' : Heap) (t : Tok) (tk : Nat), (∀ b o, s.heap.get? b = some o → h'.get? b = some o) → EP X pins σ Q (.str (listText (PyData.shownAll ds)) t) { s with heap := h', toks := tk } := fun h' t tk hk => ⟨.str _, H, I.kept hk, ⟨t, rfl⟩, by simpa only [PyData.shown] using q⟩
    refine call_repr_slot (T := "list") (idr := "list.__repr__") (by omega) ⟨_, ho, rfl⟩ PySem.F.slot_list_repr.toG ?_
    cases its with
    | nil =>
      cases rd
      simp only [PyData.shownAll, listText_nil] at fin
      exact call_list_repr_empty ⟨_, ho, rfl⟩ ho rfl ⟨_, _, rfl, fin s.heap _ _ fun _ _ e => e⟩
    | cons x l =>
      exact call_list_reprK ho rfl rfl hna (by simpa using hk.length_eq) (fun i y e => hk.item i y (by simpa using e)) gd (fun b _ => Clear.nil b) (by show X.A.units + 1 + _ < _; omega) (fun _ _ e => e) (fun h' t tk hk' => ⟨_, _, rfl, fin h' t tk hk'⟩) hsz
theorem reprA {X : Cx} {K : PySem.W.Frag} (_ : X.K = K) (gd : X.A.guards = some []) (hu : X.A.units + 64 < cLine) : CallR X (.builtin "repr") rRepr := call_reprA gd hu
theorem s_repr {Z H : Hp} {v : V} {d : PyData} {Q : VK} (h : TB Z v d) (e : Ex Z H) (sm : SmD 16000000 d) (se : ∀ ds, d = .list ds → ∀ e ∈ ds, SmD 16000000 e) (q : Q (.str d.shown) H) : rRepr [v] H Q := ⟨v, d, rfl, h.ex e, sm, se, q⟩
end TR

namespace TR
/-- the rows that a room of so many keys takes -/
noncomputable def rowsI (m w : Int) : Int := max 1 ((m + w - 1) / w)
noncomputable def spillI (l : List Int) (w : Int) : Int := (l.map fun m => rowsI m w - 1).sum
end TR
namespace TR
end TR
namespace TR
/-- the rows of keys: sorted, cut -/
noncomputable def cutR (l : List Int) (w : Int) (k : Nat) : List Int := cutI (sortI l) (some ((k : Int) * w)) (some ((k : Int) * w + w))
noncomputable def rowsOf (l : List Int) (w : Int) : List (List Int) := (List.range (rowsI l.length w).toNat).map (cutR l w)
end TR
namespace TR
end TR
namespace TR
noncomputable def lastGe (r : List Int) (key : Int) : Bool := match r.getLast? with | some v => decide (key ≤ v) | none => false
/-- what a look through rows finds: there, looks -/
noncomputable def lookedI : List (List Int) → Int → Nat → Bool × Int
  | [], _, n => (false, (n : Int))
  | r :: rs, key, n => if lastGe r key = true then (decide (key ∈ r), (n : Int) + 1) else lookedI rs key (n + 1)
end TR
namespace TR
/-- how many are less -/
noncomputable def less (l : List Int) (key : Int) : Nat := (l.filter fun x => decide (x < key)).length
end TR

namespace TR
noncomputable abbrev T4I := T4 Int Int Int Int
noncomputable abbrev T3I := T3 Int Int Int
/-- the rooms' sizes behind a book -/
noncomputable def sizeF (s : List Int) (t : T4I) : List Int := s.set t.a.toNat t.c ++ [t.d]
noncomputable def sizesI (count : Int) (book : List T4I) : List Int := book.foldl sizeF [count]
theorem sizesI_snoc (count : Int) (book : List T4I) (t : T4I) : sizesI count (book ++ [t]) = sizeF (sizesI count book) t := by
  unfold sizesI
  rw [List.foldl_append]
  rfl
theorem sizesI_len (count : Int) : ∀ book : List T4I, (sizesI count book).length = book.length + 1 := by
  have h : ∀ (book : List T4I) (s : List Int), (book.foldl sizeF s).length = s.length + book.length := by
    intro book
    induction book with
    | nil => intro s; rfl
    | cons t book ih =>
      intro s
      rw [List.foldl_cons, ih]
      unfold sizeF
      rw [List.length_append, List.length_set, List.length_cons, List.length_cons, List.length_nil]
      omega
  intro book
  unfold sizesI
  rw [h, List.length_cons, List.length_nil]
  omega
theorem take_snoc {α : Type} {l : List α} {j : Nat} {t : α} (h : l[j]? = some t) : l.take (j + 1) = l.take j ++ [t] := by
  rw [List.take_add_one, h]
  rfl
/-- a book of so many keys -/
noncomputable def BookOk (count : Int) (book : List T4I) : Prop := ∀ (j : Nat) (t : T4I), book[j]? = some t →
  t.a = ((j : Int) + 1) - whole ((j : Int) + 1) ∧ t.b = (j : Int) + 1 ∧ 0 ≤ t.c ∧ 0 ≤ t.d ∧ (sizesI count (book.take j)).getD t.a.toNat 0 = t.c + t.d
theorem book_room {j : Nat} {a : Int} (h : a = ((j : Int) + 1) - whole ((j : Int) + 1)) : 0 ≤ a ∧ a ≤ j := by
  have := whole_spec (r := (j : Int) + 1) (by omega)
  omega
theorem BookOk.nil (count : Int) : BookOk count [] := fun j t h => by simp at h
theorem BookOk.snoc {count : Int} {book : List T4I} {t : T4I} (h : BookOk count book) (h1 : t.a = ((book.length : Int) + 1) - whole ((book.length : Int) + 1)) (h2 : t.b = (book.length : Int) + 1) (h3 : 0 ≤ t.c) (h4 : 0 ≤ t.d) (h5 : (sizesI count book).getD t.a.toNat 0 = t.c + t.d) : BookOk count (book ++ [t]) := fun j u hj => by
  rw [List.getElem?_append] at hj
  split at hj
  · rename_i l
    obtain ⟨k1, k2, k3, k4, k5⟩ := h j u hj
    rw [List.take_append_of_le_length (by omega)]
    exact ⟨k1, k2, k3, k4, k5⟩
  · have jl := (List.getElem?_eq_some_iff.mp hj).1
    rw [List.length_singleton] at jl
    have ej : j = book.length := by omega
    subst ej
    rw [Nat.sub_self] at hj
    cases hj
    rw [List.take_append_of_le_length (Nat.le_refl _), List.take_length]
    exact ⟨h1, h2, h3, h4, h5⟩
theorem sizes_nn {count : Int} (hc : 0 ≤ count) {book : List T4I} (h : BookOk count book) : ∀ j, j ≤ book.length → ∀ x ∈ sizesI count (book.take j), 0 ≤ x := by
  intro j
  induction j with
  | zero =>
    intro _ x hx
    rw [List.take_zero] at hx
    rw [List.mem_singleton.mp hx]
    exact hc
  | succ j ih =>
    intro hj x hx
    have hb : book[j]? = some book[j] := List.getElem?_eq_getElem (by omega)
    obtain ⟨_, _, h3, h4, _⟩ := h j _ hb
    rw [take_snoc hb, sizesI_snoc] at hx
    rcases List.mem_append.mp hx with hx | hx
    · rcases List.mem_or_eq_of_mem_set hx with hx | rfl
      · exact ih (by omega) x hx
      · exact h3
    · rw [List.mem_singleton.mp hx]
      exact h4
/-- the spill by so many splits -/
noncomputable def restI (count : Int) (book : List T4I) (w : Int) (j : Nat) : Int := spillI (sizesI count (book.take j)) w
/-- stretches of alike spills: those that are closed, and the last one -/
noncomputable def stP (f : Nat → Int) : Nat → List T3I × T3I
  | 0 => ([], ⟨1, 2, f 0⟩)
  | j + 1 => if f (j + 1) = (stP f j).2.c then ((stP f j).1, ⟨(stP f j).2.a, (stP f j).2.b + 1, f (j + 1)⟩) else ((stP f j).1 ++ [(stP f j).2], ⟨(stP f j).2.b, (stP f j).2.b + 1, f (j + 1)⟩)
noncomputable def stI (f : Nat → Int) (j : Nat) : List T3I := (stP f j).1 ++ [(stP f j).2]
/-- the first number of rooms by which the spill is no more -/
noncomputable def firstT (l : List T3I) (most : Int) : Option Int := (l.find? fun t => decide (t.c ≤ most)).map fun t => t.a
noncomputable def firstF (f : Nat → Int) (n : Nat) (most : Int) : Option Int := ((List.range n).find? fun k => decide (f k ≤ most)).map fun (k : Nat) => (k : Int) + 1
end TR
namespace TR
theorem sizes_le {count : Int} (hc : 0 ≤ count) {book : List T4I} (h : BookOk count book) : ∀ j, j ≤ book.length → ∀ x ∈ sizesI count (book.take j), x ≤ count := by
  intro j
  induction j with
  | zero =>
    intro _ x hx
    rw [List.take_zero] at hx
    rw [List.mem_singleton.mp hx]
    exact Int.le_refl _
  | succ j ih =>
    intro hj x hx
    have hb : book[j]? = some book[j] := List.getElem?_eq_getElem (by omega)
    obtain ⟨h1, _, h3, h4, h5⟩ := h j _ hb
    have hr := book_room h1
    rw [take_snoc hb, sizesI_snoc] at hx
    have hlt : (book[j]).a.toNat < (sizesI count (book.take j)).length := by rw [sizesI_len, List.length_take]; omega
    rw [List.getD_eq_getElem?_getD, List.getElem?_eq_getElem hlt] at h5
    have le := ih (by omega) _ (List.getElem_mem hlt)
    have h5 : (sizesI count (book.take j))[(book[j]).a.toNat] = (book[j]).c + (book[j]).d := h5
    rcases List.mem_append.mp hx with hx | hx
    · rcases List.mem_or_eq_of_mem_set hx with hx | rfl
      · exact ih (by omega) x hx
      · omega
    · rw [List.mem_singleton.mp hx]
      omega
noncomputable def restsI (count : Int) (book : List T4I) (w : Int) : List Int := (List.range (book.length + 1)).map (restI count book w)
end TR

/-! T: from (Z, H) to (Z', H'). Z is what stays for ever; only M's things are changed -/
namespace TR
open PySem L2
structure T (M : List Addr) (Z H Z' H' : Hp) : Prop where
  z : Ex Z Z'
  zh : Ex Z' H'
  m : ∀ b o, b ∉ M → H b = some o → H' b = some o
  al : ∀ b o, H b = some o → ∃ o', H' b = some o'
  fr : ∀ b, b ∉ M → Z b = none → (∃ o, H b = some o) → Z' b = none
/-- p stands in H and may be changed -/
structure Mu (Z H : Hp) (p : Addr) : Prop where
  z : Z p = none
  a : ∃ o, H p = some o
/-- a list that stands in H, its things in Z -/
noncomputable def Li (Z H : Hp) (p : Addr) {α : Type} [Py α] (l : List α) : Prop := ∃ vs, H p = some (.lst vs) ∧ Paired (fun v x => Ik Z v x) vs l
/-- .. and that stays as it is -/
noncomputable def Ls (Z : Hp) (p : Addr) {α : Type} [Py α] (l : List α) : Prop := Li Z Z p l
/-- a list that is filled: it stands at D, its things in Z -/
structure Lm (Z H : Hp) (D : Addr) {α : Type} [Py α] (l : List α) : Prop where
  ex : ∃ vs, H D = some (.lst vs) ∧ Paired (fun v x => Ik Z v x) vs l
  zd : Z D = none
  zh : Ex Z H
theorem nm_nil {b : Addr} : b ∉ ([] : List Addr) := List.not_mem_nil
theorem nm_cons {b x : Addr} {M : List Addr} (h : b ≠ x) (t : b ∉ M) : b ∉ x :: M := fun z => by
  rcases List.mem_cons.mp z with z | z
  · exact h z
  · exact t z
theorem mm_nil {N : List Addr} {H : Hp} : ∀ x ∈ ([] : List Addr), x ∈ N ∨ H x = none := fun _ h => absurd h List.not_mem_nil
theorem mm_cons {N M : List Addr} {H : Hp} {y : Addr} (h : y ∈ N ∨ H y = none) (t : ∀ x ∈ M, x ∈ N ∨ H x = none) : ∀ x ∈ y :: M, x ∈ N ∨ H x = none := fun x hx => by
  rcases List.mem_cons.mp hx with e | hx
  · rw [e]; exact h
  · exact t x hx
theorem mm_same {N : List Addr} {H : Hp} : ∀ x ∈ N, x ∈ N ∨ H x = none := fun _ h => .inl h
section
variable {K : PySem.W.Frag} {M N : List Addr} {Z H Z1 H1 Z2 H2 Z' H' Z0 H0 : Hp} {p b h D : Addr} {o : HO} {v : V} {α : Type} {iα : Py α} {x : α} {l : List α} {n : Nat}
theorem T.refl (e : Ex Z H) : T M Z H Z H := ⟨Ex.refl _, e, fun _ _ _ h => h, fun _ o h => ⟨o, h⟩, fun _ _ h _ => h⟩
theorem T.step (a : T N Z H Z1 H1) (b : T M Z1 H1 Z2 H2) (h : ∀ x ∈ M, x ∈ N ∨ H x = none) : T N Z H Z2 H2 := by
  have nm : ∀ x, x ∉ N → (∃ o, H x = some o) → x ∉ M := fun x nx ⟨o, ho⟩ hx => by
    rcases h x hx with g | g
    · exact nx g
    · rw [ho] at g; cases g
  refine ⟨a.z.trans b.z, b.zh, fun c o nc hc => b.m c o (nm c nc ⟨o, hc⟩) (a.m c o nc hc), fun c o hc => ?_, fun c nc zc ⟨o, hc⟩ => ?_⟩
  · obtain ⟨o', ho'⟩ := a.al c o hc
    exact b.al c o' ho'
  · obtain ⟨o', ho'⟩ := a.al c o hc
    exact b.fr c (nm c nc ⟨o, hc⟩) (a.fr c nc zc ⟨o, hc⟩) ⟨o', ho'⟩
theorem T.nn (t : T M Z H Z' H') (n : H' b = none) : H b = none := by
  cases c : H b with
  | none => rfl
  | some o =>
    obtain ⟨o', ho'⟩ := t.al b o c
    rw [n] at ho'
    cases ho'
/-- all that stood stands: b is new -/
noncomputable def AC (H H' : Hp) : Prop := ∀ b, H' b = none → H b = none
theorem T.pz (t : T M Z H Z' H') (h : Z p = some o) : Z' p = some o := t.z _ _ h
theorem T.hp (t : T M Z H Z' H') (n : p ∉ M) (h : H p = some o) : H' p = some o := t.m _ _ n h
theorem T.all (t : T M Z H Z' H') (h : ∃ o, H p = some o) : ∃ o, H' p = some o := by
  obtain ⟨o, ho⟩ := h
  exact t.al _ _ ho
theorem T.mu (t : T M Z H Z' H') (n : p ∉ M) (a : Mu Z H p) : Mu Z' H' p := ⟨t.fr _ n a.z a.a, t.all a.a⟩
theorem Hand.tt (t : T M Z H Z' H') (nm : h ∉ M) (a : Hand K Z H h n) : Hand K Z' H' h n := by
  obtain ⟨d, k, c, cells, h1, h3, h4, h5, z1, z2, z3⟩ := a
  exact ⟨d, k, c, cells, t.m _ _ nm h1, h3, h4, h5, t.zh, t.fr _ nm z2 ⟨_, h1⟩, t.z.sq z3⟩
theorem Ls.is (a : Ls Z p l) : Ik Z (.ref p) l := by
  obtain ⟨vs, h1, h2⟩ := a
  exact Ik.of_list h1 h2
theorem Ls.ofInts {l : List Int} (h : Z p = some (.lst (l.map V.int))) : Ls Z p l := ⟨_, h, ints_pairK⟩
/-! ways in: from the old words -/
theorem T.ofEx (e : Ex H H') (z : Ex Z H) : T M Z H Z H' := ⟨Ex.refl _, z.trans e, fun _ _ _ h => e _ _ h, fun _ o h => ⟨o, e _ _ h⟩, fun _ _ h _ => h⟩
theorem T.ofExM (m : ExM h H H') (a : ∃ o, H' h = some o) (z : Ex Z H) (zn : Z h = none) : T [h] Z H Z H' :=
  ⟨Ex.refl _, z.exm zn m, fun _ o n e => m _ o (fun z => n (by rw [z]; exact List.mem_cons_self)) e, fun b o e => by
    by_cases c : b = h
    · rw [c]; exact a
    · exact ⟨o, m _ _ c e⟩, fun _ _ h _ => h⟩
theorem upd_ex2 (z : Ex Z H) : Ex (upd Z p o) (upd H p o) := fun b u e => by
  by_cases c : b = p
  · rw [c, upd_same] at e ⊢
    exact e
  · rw [upd_ne c] at e ⊢
    exact z _ _ e
/-- a new thing that stays as it is -/
theorem T.new (n : H p = none) (z : Ex Z H) : T M Z H (upd Z p o) (upd H p o) :=
  ⟨Ex.new (Ex.back z n), upd_ex2 z, fun b u _ e => by rw [upd_ne (ne_of_none e n)]; exact e, fun b u e => ⟨u, by rw [upd_ne (ne_of_none e n)]; exact e⟩, fun b _ zb ⟨u, e⟩ => by rw [upd_ne (ne_of_none e n)]; exact zb⟩
/-- a new thing that may be changed -/
theorem T.newM (n : H p = none) (z : Ex Z H) : T M Z H Z (upd H p o) :=
  ⟨Ex.refl _, z.trans (Ex.new n), fun b u _ e => by rw [upd_ne (ne_of_none e n)]; exact e, fun b u e => ⟨u, by rw [upd_ne (ne_of_none e n)]; exact e⟩, fun b _ zb _ => zb⟩
/-- a thing is changed -/
theorem T.set (a : Mu Z H p) (z : Ex Z H) : T [p] Z H Z (upd H p o) :=
  ⟨Ex.refl _, fun b u e => by rw [upd_ne (ne_of_none e a.z)]; exact z _ _ e, fun b u nb e => by rw [upd_ne (fun c => nb (by rw [c]; exact List.mem_cons_self))]; exact e, fun b u e => by
    by_cases c : b = p
    · exact ⟨_, by rw [c]; exact upd_same⟩
    · exact ⟨u, by rw [upd_ne c]; exact e⟩, fun b _ zb _ => zb⟩
/-- a thing is to stay as it is from now on -/
theorem T.fz (z : Ex Z H) (zp : Z p = none) (hp : H p = some o) : T [p] Z H (upd Z p o) H :=
  ⟨Ex.new zp, fun b u e => by
    by_cases c : b = p
    · rw [c, upd_same] at e
      cases e
      rw [c]; exact hp
    · rw [upd_ne c] at e
      exact z _ _ e, fun _ _ _ h => h, fun _ o h => ⟨o, h⟩, fun b nb zb _ => by rw [upd_ne (fun c => nb (by rw [c]; exact List.mem_cons_self))]; exact zb⟩
/-- .. of old words: all that is new stays as it is -/
noncomputable def grow (Z H H' : Hp) : Hp := fun b => match Z b with | some o => some o | none => match H b with | some _ => none | none => H' b
end
/-! ### new things: what is asked next -/
section
variable {K : PySem.W.Frag} {M : List Addr} {Z H : Hp} {Q : VK} {R : Hp → Prop} {p D a b : Addr} {v w : V} {α : Type} {iα : Py α} {x : α} {l r : List α} {xs : List V}
/-- an empty list that will be changed -/
theorem t_lst0 (z : Ex Z H) (q : ∀ p Z' H', H p = none → T [] Z H Z' H' → Mu Z' H' p → H' p = some (.lst []) → Q (.ref p) H') : NewL [] H Q :=
  ⟨sz_of (Nat.zero_le _), fun p hp => q p Z _ hp (T.newM hp z) ⟨Ex.back z hp, _, upd_same⟩ upd_same⟩
theorem t_lst (z : Ex Z H) (h : xs.length ≤ 100000) (q : ∀ p Z' H', H p = none → T [] Z H Z' H' → Z' p = some (.lst xs) → Q (.ref p) H') : NewL xs H Q :=
  ⟨sz_of h, fun p hp => q p _ _ hp (T.new hp z) upd_same⟩
theorem t_tup (z : Ex Z H) (h : xs.length ≤ 100000) (q : ∀ p Z' H', H p = none → T [] Z H Z' H' → Z' p = some (.tup xs) → Q (.ref p) H') : NewT xs H Q :=
  ⟨sz_of h, fun p hp => q p _ _ hp (T.new hp z) upd_same⟩
theorem t_fzV {G : Hp → Prop} (m : Mu Z H D) (z : Ex Z H) {o : HO} (f : H D = some o) (q : ∀ Z' H', T [D] Z H Z' H' → Z' D = some o → G H') : G H :=
  q _ _ (T.fz z m.z f) upd_same
/-! what is read -/
end
/-! ### draws -/
noncomputable def spDraw (K : PySem.W.Frag) : Sp := fun vs H Q _ => ∃ (h : Addr) (m : Int) (n : Nat) (Z : Hp), vs = [.ref h, .int m] ∧ Hand K Z H h (n + 1) ∧ 0 < m ∧ m ≤ 4611686018427387904 ∧
  ∀ (r : Int) H', 0 ≤ r → r < m → ExM h H H' → Hand K Z H' h n → Q (.int r) H'
section
variable {K : PySem.W.Frag} {Z H : Hp} {h : Addr} {m : Int} {N : Nat} {Q : VK} {E : XK}
theorem Hand.t {H' : Hp} {n n' : Nat} (hh : Hand K Z H h n) (m : ExM h H H') (hh' : Hand K Z H' h n') : T [h] Z H Z H' := T.ofExM m hh'.at hh.z hh.zn
theorem drawT (hh : Hand K Z H h N) (hN : 1 ≤ N) (m0 : 0 < m) (m1 : m ≤ 4611686018427387904) (q : ∀ (r : Int) Z' H', 0 ≤ r → r < m → T [h] Z H Z' H' → Hand K Z' H' h (N - 1) → Q (.int r) H') : spDraw K [.ref h, .int m] H Q E :=
  ⟨h, m, N - 1, Z, rfl, hh.mono (by omega), m0, m1, fun r H' r0 r1 e hh' => q r Z H' r0 r1 (hh.t e hh') hh'⟩
noncomputable def spFar (K : PySem.W.Frag) : Sp := fun vs H Q _ => ∃ (h : Addr) (m : Int) (n : Nat) (Z : Hp), vs = [.ref h, .int m] ∧ Hand K Z H h (n + 7) ∧ 0 < m ∧ m ≤ 4611686018427387904 ∧
  ∀ (r : Int) H', 0 ≤ r → r < m → ExM h H H' → Hand K Z H' h n → Q (.int r) H'
noncomputable def spKey (K : PySem.W.Frag) : Sp := fun vs H Q _ => ∃ (h : Addr) (n : Nat) (Z : Hp), vs = [.ref h] ∧ Hand K Z H h (n + 12) ∧
  ∀ (r : Int) H', 0 ≤ r → r < 1152921504606846976 → ExM h H H' → Hand K Z H' h n → Q (.int r) H'
noncomputable def lettersS : Str := "abcdefghijklmnopqrstuvwxyz"
/-- a text of one to eight small letters -/
noncomputable def nameB (x : Str) : Bool := decide (1 ≤ x.length ∧ x.length ≤ 8) && x.cps.toList.all fun c => decide (c ∈ lettersS.cps.toList)
noncomputable def spThing (K : PySem.W.Frag) : Sp := fun vs H Q _ => ∃ (h : Addr) (n : Nat) (Z : Hp), vs = [.ref h] ∧ Hand K Z H h (n + 10) ∧
  ∀ (x : Tx) H', nameB x.1 = true → ExM h H H' → Hand K Z H' h n → Q (.str x.1) H'
noncomputable def spOpen (K : PySem.W.Frag) : Sp := fun vs H Q _ => ∃ (a : Addr) (ns : List Int) (x : Int), vs = [.ref a, .int x] ∧ SqL K H a (ns.map V.int) ∧ 0 ≤ x ∧ x ≤ 1000 ∧
  ∀ (h c : Addr) (d : Int) (cells : List Int) H', H h = none → H c = none → h ≠ c → Ex H H' → H' h = some (.lst [.int d, .int (1 + 1009 * x), .ref c]) → H' c = some (.lst (cells.map V.int)) → 0 < cells.length → Q (.ref h) H'
theorem openT {a : Addr} {ns : List Int} {x : Int} (z : Ex Z H) (s : SqL K H a (ns.map V.int)) (x0 : 0 ≤ x) (x1 : x ≤ 1000) (q : ∀ h Z' H', H h = none → T [] Z H Z' H' → Hand K Z' H' h 900000000000000000 → Q (.ref h) H') : spOpen K [.ref a, .int x] H Q E :=
  ⟨a, ns, x, rfl, s, x0, x1, fun h c d cells H' nh nc ne e fh fc c0 => by
    have zh : Ex (upd Z c (.lst (cells.map V.int))) H' := fun b o eb => by
      by_cases cc : b = c
      · rw [cc, upd_same] at eb
        cases eb
        rw [cc]; exact fc
      · rw [upd_ne cc] at eb
        exact e _ _ (z _ _ eb)
    refine q h _ H' nh ⟨Ex.new (Ex.back z nc), zh, fun _ _ _ h => e _ _ h, fun _ o h => ⟨o, e _ _ h⟩, fun b _ zb ⟨o, ho⟩ => by rw [upd_ne (ne_of_none ho nc)]; exact zb⟩ ⟨d, 1 + 1009 * x, c, cells, fh, c0, by omega, by omega, zh, ?_, sq_of upd_same⟩
    rw [upd_ne ne]
    exact Ex.back z nh⟩
end
end TR
namespace TR
open PySem L2
theorem ne_alF {H : Hp} {a b : Addr} (n : H a = none) (h : ∃ o, H b = some o) : a ≠ b := fun z => by
  obtain ⟨o, ho⟩ := h
  rw [z, ho] at n
  cases n
theorem ne_alB {H : Hp} {a b : Addr} (n : H b = none) (h : ∃ o, H a = some o) : a ≠ b := (ne_alF n h).symm
end TR
namespace TR
open PySem L2
/-! a place of a list, found once -/
noncomputable def IxGo (xs : List V) (i : Int) (H : Hp) (Q : VK) : Prop := ∃ v, atI xs i = some v ∧ Q v H
section
variable {K : PySem.W.Frag} {H : Hp} {Q : VK} {a : Addr} {xs : List V} {i : Int} {v w : V}
theorem ixGo (h : SqL K H a xs) (q : IxGo xs i H Q) : rIx K (.ref a) (.int i) H Q := by
  obtain ⟨v, e, q⟩ := q
  exact s_ixL h e q
theorem ixGoT (h : SqT K H a xs) (q : IxGo xs i H Q) : rIx K (.ref a) (.int i) H Q := by
  obtain ⟨v, e, q⟩ := q
  exact s_ixT h e q
theorem ig_at (e : atI xs i = some v) (q : Q v H) : IxGo xs i H Q := ⟨v, e, q⟩
theorem ig_3 {x y z : Int} (h0 : 0 ≤ i ∧ i < 3) (q : ∀ v, (i = 0 ∧ v = x ∨ i = 1 ∧ v = y ∨ i = 2 ∧ v = z) → Q (.int v) H) : IxGo [.int x, .int y, .int z] i H Q := by
  have : i = 0 ∨ i = 1 ∨ i = 2 := by omega
  rcases this with rfl | rfl | rfl
  · exact ⟨_, rfl, q _ (.inl ⟨rfl, rfl⟩)⟩
  · exact ⟨_, rfl, q _ (.inr (.inl ⟨rfl, rfl⟩))⟩
  · exact ⟨_, rfl, q _ (.inr (.inr ⟨rfl, rfl⟩))⟩
theorem ig_4 {x y z t : Int} (h0 : 0 ≤ i ∧ i < 4) (q : ∀ v, (i = 0 ∧ v = x ∨ i = 1 ∧ v = y ∨ i = 2 ∧ v = z ∨ i = 3 ∧ v = t) → Q (.int v) H) : IxGo [.int x, .int y, .int z, .int t] i H Q := by
  have : i = 0 ∨ i = 1 ∨ i = 2 ∨ i = 3 := by omega
  rcases this with rfl | rfl | rfl | rfl
  · exact ⟨_, rfl, q _ (.inl ⟨rfl, rfl⟩)⟩
  · exact ⟨_, rfl, q _ (.inr (.inl ⟨rfl, rfl⟩))⟩
  · exact ⟨_, rfl, q _ (.inr (.inr (.inl ⟨rfl, rfl⟩)))⟩
  · exact ⟨_, rfl, q _ (.inr (.inr (.inr ⟨rfl, rfl⟩)))⟩
end
end TR
namespace TR
open PySem L2
end TR
namespace TR
open PySem L2
end TR
namespace TR
open PySem L2
end TR
namespace TR
open PySem L2
noncomputable def spPlaces (lo : Int) (K : PySem.W.Frag) : Sp := fun vs H Q _ => ∃ (a : Addr) (ns : List Int) (x y : Int), vs = [.ref a, .int x, .int y] ∧ SqL K H a (ns.map V.int) ∧ 0 ≤ x ∧ x ≤ 100 ∧ 0 ≤ y ∧ y ≤ 100 ∧
  ∀ p H', H p = none → Ex H H' → H' p = some (.lst (rgV lo (lo + max x (min (ns.length : Int) y)))) → Q (.ref p) H'
end TR
namespace TR
open PySem L2
theorem at_list {K : PySem.W.Frag} {xs : List V} {H : Hp} {Q : VK} (q : rList1 K xs H Q) : rList1 K xs H Q := q
end TR
namespace TR
open PySem L2
end TR

/-! comprehensions and loops by T -/
namespace TR
open PySem L2
section
variable {K : PySem.W.Frag} {σ : L2.St} {H : Hp} {tt : TT} {te : TE} {Q : VK} {g : TG} {vs : List Nat}
theorem lcT {β : Type} {J : It} {n : Nat} {M : List Addr} {Z : Hp} (p : Nat → Bool) (I : Nat → Hp → Hp → Prop) (R : Nat → β → V → Hp → Prop)
    (mono : ∀ i x y Z1 Z2, Ex Z1 Z2 → R i x y Z1 → R i x y Z2)
    (stab : ∀ i Z1 H1 D o, I i Z1 H1 → H D = none → Z1 D = none → I i Z1 (upd H1 D o))
    (hz : n ≤ 40000) (zh : Ex Z H) (hM : ∀ b ∈ M, ∃ o, H b = some o) (h0 : I 0 Z H)
    (hgo : ∀ i Z1 H1, i < n → T M Z H Z1 H1 → J.go i H1) (hst : ∀ Z1 H1, T M Z H Z1 H1 → J.stop n H1)
    (turn : ∀ i, i < n → ∀ D Z1 H1, T M Z H Z1 H1 → H D = none → Mu Z1 H1 D → I i Z1 H1 → ∀ v H2, J.yld i H1 v H2 → ∀ (A : VK) (B : Hp → Prop),
      (p i = true → ∀ x y Z3 H3, T M Z1 H1 Z3 H3 → I (i + 1) Z3 H3 → R i x y Z3 → A y H3) → (p i = false → ∀ Z3 H3, T M Z1 H1 Z3 H3 → I (i + 1) Z3 H3 → B H3) →
      g v (wipe σ vs) H2 fun σ2 H2 => wipe σ2 vs = wipe σ vs ∧ tt σ2 H2 fun b H3 => if b = true then te σ2 H3 A else B H3)
    (fin : ∀ D ys (L : List (Nat × β)) Z' H', H D = none → T M Z H Z' H' → Mu Z' H' D → H' D = some (.lst ys) → I n Z' H' → L.map Prod.fst = (List.range n).filter p → Paired (fun y q => R q.1 q.2 y Z') ys L → Q (.ref D) H') : LcJ g tt te vs σ J H Q := by
  intro D hD
  have nD : D ∉ M := fun z => by
    obtain ⟨o, ho⟩ := hM D z
    rw [hD] at ho
    cases ho
  refine ⟨fun i m H' => m = n - i ∧ i ≤ n ∧ ∃ Z', T M Z H Z' H' ∧ Mu Z' H' D ∧ I i Z' H' ∧ ∃ (ys : List V) (L : List (Nat × β)), H' D = some (.lst ys) ∧ ys.length ≤ i ∧ L.map Prod.fst = (List.range i).filter p ∧ Paired (fun y q => R q.1 q.2 y Z') ys L,
    ⟨n, by omega, by omega, Z, T.newM hD zh, ⟨Ex.back zh hD, _, upd_same⟩, stab _ _ _ _ _ h0 hD (Ex.back zh hD), [], [], upd_same, Nat.le_refl _, rfl, .nil⟩, ?_⟩
  rintro i m H' ⟨rfl, hi, Z', t, mu, hI, ys, L, hys, hly, hL, pr⟩
  by_cases hlt : i < n
  · refine .inr ⟨hgo i Z' H' hlt t, fun H'' => i + 1 ≤ n ∧ ∃ Z'', T M Z H Z'' H'' ∧ Mu Z'' H'' D ∧ I (i + 1) Z'' H'' ∧ ∃ (ys : List V) (L : List (Nat × β)), H'' D = some (.lst ys) ∧ ys.length ≤ i + 1 ∧ L.map Prod.fst = (List.range (i + 1)).filter p ∧ Paired (fun y q => R q.1 q.2 y Z'') ys L,
      fun H'' q => ⟨n - (i + 1), by omega, rfl, q⟩, fun v H2 hy => ?_⟩
    refine turn i hlt D Z' H' t hD mu hI v H2 hy _ _ (fun hp x y Z3 H3 t3 hI3 r => ?_) (fun hp Z3 H3 t3 hI3 => ?_)
    · have t4 : T M Z H Z3 H3 := t.step t3 mm_same
      have mu3 := t3.mu nD mu
      have t5 : T M Z H Z3 (upd H3 D (.lst (ys ++ [y]))) := t4.step (T.set mu3 t4.zh) (mm_cons (.inr hD) mm_nil)
      refine ⟨ys, t3.hp nD hys, sz_lt (by omega), by omega, Z3, t5, ⟨mu3.z, _, upd_same⟩, stab _ _ _ _ _ hI3 hD mu3.z, ys ++ [y], L ++ [(i, x)], upd_same, by rw [List.length_append]; show _ + 1 ≤ _; omega, ?_, ?_⟩
      · rw [List.map_append, hL, List.range_succ, List.filter_append, List.filter_cons, if_pos hp]
        rfl
      · exact paired_snoc (Paired.mapP pr fun y q h => mono _ _ _ _ _ t3.z h) r
    · have t4 : T M Z H Z3 H3 := t.step t3 mm_same
      refine ⟨by omega, Z3, t4, t3.mu nD mu, hI3, ys, L, t3.hp nD hys, by omega, ?_, Paired.mapP pr fun y q h => mono _ _ _ _ _ t3.z h⟩
      rw [hL, List.range_succ, List.filter_append, List.filter_cons, if_neg (by rw [hp]; exact Bool.false_ne_true)]
      simp
  · have ei : i = n := by omega
    subst ei
    exact .inl ⟨hst Z' H' t, fin D ys L Z' H' hD t mu hys hI hL pr⟩
theorem kept_snd {β γ : Type} {xs : List β} {f : β → γ} : ∀ {L : List (Nat × γ)}, (∀ q ∈ L, ∃ b, xs[q.1]? = some b ∧ q.2 = f b) → L.map Prod.snd = ((L.map Prod.fst).filterMap fun i => xs[i]?).map f
  | [], _ => rfl
  | q :: L, h => by
    obtain ⟨b, h1, h2⟩ := h q List.mem_cons_self
    rw [List.map_cons, List.map_cons, List.filterMap_cons, h1, List.map_cons, ← kept_snd (L := L) fun r hr => h r (List.mem_cons_of_mem _ hr), h2]
theorem paired_r {β γ : Type} {F : β → γ → Prop} {xs : List β} {ys : List γ} (h : Paired F xs ys) : ∀ y ∈ ys, ∃ x, F x y := by
  induction h with
  | nil => exact fun _ h => absurd h List.not_mem_nil
  | cons a t ih =>
    intro y hy
    rcases List.mem_cons.mp hy with e | hy
    · rw [e]; exact ⟨_, a⟩
    · exact ih y hy
theorem paired_mapR {β γ δ : Type} {F : β → δ → Prop} {f : γ → δ} : ∀ {xs : List β} {ys : List γ}, Paired (fun x y => F x (f y)) xs ys → Paired F xs (ys.map f)
  | _, _, .nil => .nil
  | _, _, .cons a t => .cons a (paired_mapR t)
end
section
variable {K : PySem.W.Frag} {σ : L2.St} {H : Hp} {D : Ends} {g : TG} {ts : TS}
end
end TR

/-! books that were spoilt: any data, {} among it -/
namespace TR
open PySem L2
noncomputable def isIntB : PyData → Bool
  | .int _ => true
  | .bool _ => true
  | _ => false
noncomputable def isBoolB : PyData → Bool
  | .bool _ => true
  | _ => false
noncomputable def isListB : PyData → Bool
  | .list _ => true
  | _ => false
noncomputable def isTupB : PyData → Bool
  | .tuple _ => true
  | _ => false
noncomputable def whB : PyData → Bool
  | .int _ => true
  | _ => false
theorem whB_eq (x : PyData) : whB x = (isIntB x && !isBoolB x) := by cases x <;> rfl
theorem s_isiEk {K : PySem.W.Frag} {H : Hp} {Q : VK} {n : String} {a : Addr} {l : List (L2.Key × V)} {b : Bool} (hs : H a = some (.dK l)) (h : kitB "dict" n = some b) (q : Q (.bl b) H) : rIsi K [.ref a, .ty n] H Q :=
  ⟨.ref a, .ty n, _, _, b, rfl, .ty n, .base (.dK hs), kit_ty h, q⟩
theorem e_di : kitB "dict" "int" = some false := by decide +kernel
theorem e_db : kitB "dict" "bool" = some false := by decide +kernel
theorem e_dl : kitB "dict" "list" = some false := by decide +kernel
theorem e_dt : kitB "dict" "tuple" = some false := by decide +kernel
theorem e_bl : kitB "bool" "list" = some false := by decide +kernel
theorem e_nl : kitB "NoneType" "list" = some false := by decide +kernel
theorem e_nt : kitB "NoneType" "tuple" = some false := by decide +kernel
theorem e_ni : kitB "NoneType" "int" = some false := by decide +kernel
theorem e_nb : kitB "NoneType" "bool" = some false := by decide +kernel
theorem e_tt : kitB "tuple" "tuple" = some true := by decide +kernel
section
variable {K : PySem.W.Frag} {Z H Z' H' : Hp} {v : V} {d : PyData} {Q : VK} {us : List V} {ds : List PyData}
theorem s_isiOI (h : Ob Z v d) (e : Ex Z H) (q : Q (.bl (isIntB d)) H) : rIsi K [v, .ty "int"] H Q := by
  cases h with
  | dct h => exact s_isiEk (e _ _ h) e_di q
  | dat h =>
    cases h with
    | int i => exact s_isiI k_ii q
    | bl b => exact s_isiB k_bi q
    | str x => exact s_isiS k_si q
    | non => exact s_isiN e_ni q
    | lst h _ => exact s_isiL (sq_of (e _ _ h)) k_li q
    | tup h _ => exact s_isiT (st_of (e _ _ h)) k_ti q
theorem s_isiOB (h : Ob Z v d) (e : Ex Z H) (q : Q (.bl (isBoolB d)) H) : rIsi K [v, .ty "bool"] H Q := by
  cases h with
  | dct h => exact s_isiEk (e _ _ h) e_db q
  | dat h =>
    cases h with
    | int i => exact s_isiI k_ib q
    | bl b => exact s_isiB k_bb q
    | str x => exact s_isiS k_sb q
    | non => exact s_isiN e_nb q
    | lst h _ => exact s_isiL (sq_of (e _ _ h)) k_lb q
    | tup h _ => exact s_isiT (st_of (e _ _ h)) k_tb q
theorem s_isiOT (h : Ob Z v d) (e : Ex Z H) (q : Q (.bl (isTupB d)) H) : rIsi K [v, .ty "tuple"] H Q := by
  cases h with
  | dct h => exact s_isiEk (e _ _ h) e_dt q
  | dat h =>
    cases h with
    | int i => exact s_isiI k_it q
    | bl b => exact s_isiB k_bt q
    | str x => exact s_isiS k_st q
    | non => exact s_isiN e_nt q
    | lst h _ => exact s_isiL (sq_of (e _ _ h)) k_lt q
    | tup h _ => exact s_isiT (st_of (e _ _ h)) e_tt q
theorem s_isiTBL (h : TB Z v d) (e : Ex Z H) (q : Q (.bl (isListB d)) H) : rIsi K [v, .ty "list"] H Q := by
  cases h with
  | lst h _ => exact s_isiL (sq_of (e _ _ h)) k_ll q
  | ob h =>
    cases h with
    | dct h => exact s_isiEk (e _ _ h) e_dl q
    | dat h =>
      cases h with
      | int i => exact s_isiI k_il q
      | bl b => exact s_isiB e_bl q
      | str x => exact s_isiS k_sl q
      | non => exact s_isiN e_nl q
      | lst h _ => exact s_isiL (sq_of (e _ _ h)) k_ll q
      | tup h _ => exact s_isiT (st_of (e _ _ h)) k_tl q
theorem dts_obs : ∀ {us : List V} {ds : List PyData}, DtAll Z us ds → Paired (Ob Z) us ds
  | _, _, .nil => .nil
  | _, _, .cons a r => .cons (.dat a) (dts_obs r)
theorem TB.list_of (h : TB Z v (.list ds)) : ∃ a us, v = .ref a ∧ Z a = some (.lst us) ∧ Paired (Ob Z) us ds := by
  cases h with
  | lst h p => exact ⟨_, _, rfl, h, p⟩
  | ob h =>
    cases h with
    | dat h =>
      cases h with
      | lst h a => exact ⟨_, _, rfl, h, dts_obs a⟩
theorem Ob.tup_of (h : Ob Z v (.tuple ds)) : ∃ a us, v = .ref a ∧ Z a = some (.tup us) ∧ DtAll Z us ds := by
  cases h with
  | dat h =>
    cases h with
    | tup h a => exact ⟨_, _, rfl, h, a⟩
theorem dts_len : ∀ {us : List V} {ds : List PyData}, DtAll Z us ds → us.length = ds.length
  | _, _, .nil => rfl
  | _, _, .cons _ r => congrArg (· + 1) (dts_len r)
theorem dts_get : ∀ {us : List V} {ds : List PyData}, DtAll Z us ds → ∀ {i : Nat} {u : V}, us[i]? = some u → ∃ x, ds[i]? = some x ∧ Dt Z u x
  | _, _, .nil, i, u, h => by cases h
  | _, _, .cons a r, 0, u, h => by cases h; exact ⟨_, rfl, a⟩
  | _, _, .cons a r, i + 1, u, h => dts_get r (i := i) h
theorem obs_get : ∀ {us : List V} {ds : List PyData}, Paired (Ob Z) us ds → ∀ {i : Nat} {u : V}, us[i]? = some u → ∃ x, ds[i]? = some x ∧ Ob Z u x
  | _, _, .nil, i, u, h => by cases h
  | _, _, .cons a r, 0, u, h => by cases h; exact ⟨_, rfl, a⟩
  | _, _, .cons a r, i + 1, u, h => obs_get r (i := i) h
end
/-- the four numbers of a split -/
noncomputable def splB : PyData → Option (Int × Int × Int × Int)
  | .tuple [.int a, .int b, .int c, .int e] => some (a, b, c, e)
  | _ => none
/-- whether what is left of a book is one, from these sizes on -/
noncomputable def bkGo : List Int → List PyData → Bool
  | _, [] => true
  | s, d :: ds => match splB d with
    | none => false
    | some (a, b, c, e) => if a = (s.length : Int) - whole (s.length : Int) ∧ b = (s.length : Int) ∧ 0 ≤ c ∧ 0 ≤ e ∧ s[a.toNat]? = some (c + e) then bkGo (s.set a.toNat c ++ [e]) ds else false
noncomputable def bkB (count : Int) : PyData → Bool
  | .list ds => decide (ds.length ≤ 129) && bkGo [count] ds
  | _ => false
theorem bkB_list {count : Int} {ds : List PyData} : bkB count (.list ds) = (decide (ds.length ≤ 129) && bkGo [count] ds) := rfl
theorem bkB_no {count : Int} {d : PyData} (h : isListB d = false) : bkB count d = false := by
  cases d with
  | list ds => cases h
  | _ => rfl
theorem splB_tup {ds : List PyData} : (splB (.tuple ds)).isSome = (decide (ds.length = 4) && ds.all whB) := by
  match ds with
  | [] => rfl
  | [a] => simp [splB]
  | [a, b] => simp [splB]
  | [a, b, c] => simp [splB]
  | [a, b, c, d] =>
    cases a <;> cases b <;> cases c <;> cases d <;> rfl
  | a :: b :: c :: d :: e :: r => simp [splB]
theorem splB_no {d : PyData} (h : isTupB d = false) : splB d = none := by
  cases d with
  | tuple ds => cases h
  | _ => rfl
theorem splB_some {d : PyData} {a b c e : Int} (h : splB d = some (a, b, c, e)) : d = .tuple [.int a, .int b, .int c, .int e] := by
  unfold splB at h
  split at h
  · cases h; rfl
  · cases h
theorem Ob.four {Z : Hp} {v : V} {a b c e : Int} (h : Ob Z v (.tuple [.int a, .int b, .int c, .int e])) : ∃ t, v = .ref t ∧ Z t = some (.tup [.int a, .int b, .int c, .int e]) := by
  obtain ⟨t, us, rfl, ht, al⟩ := h.tup_of
  refine ⟨t, rfl, ?_⟩
  match us, al with
  | _, .cons (.int _) (.cons (.int _) (.cons (.int _) (.cons (.int _) .nil))) => exact ht
theorem bkGo_bad {s : List Int} {d : PyData} {ds : List PyData} (h : splB d = none) : bkGo s (d :: ds) = false := by
  unfold bkGo
  rw [h]
theorem bkGo_if {s : List Int} {d : PyData} {ds : List PyData} {a b c e : Int} (h : splB d = some (a, b, c, e)) :
    bkGo s (d :: ds) = if a = (s.length : Int) - whole (s.length : Int) ∧ b = (s.length : Int) ∧ 0 ≤ c ∧ 0 ≤ e ∧ s[a.toNat]? = some (c + e) then bkGo (s.set a.toNat c ++ [e]) ds else false := by
  conv => lhs; unfold bkGo
  rw [h]
end TR
namespace TR
open PySem L2
theorem dts_ofP {Z : Hp} : ∀ {us : List V} {ds : List PyData}, Paired (Dt Z) us ds → DtAll Z us ds
  | _, _, .nil => .nil
  | _, _, .cons a r => .cons a (dts_ofP r)
noncomputable def keepB (ds : List PyData) (p : PyData → Bool) (i : Nat) : Bool := ((ds[i]?).map p).getD false
theorem keepB_at {ds : List PyData} {p : PyData → Bool} {i : Nat} {x : PyData} (h : ds[i]? = some x) : keepB ds p i = p x := by
  unfold keepB
  rw [h]
  rfl
theorem keepB_all (ds : List PyData) (p : PyData → Bool) : ∀ k, k ≤ ds.length → ((List.range k).filter (keepB ds p)).filterMap (fun i => ds[i]?) = (ds.take k).filter p
  | 0, _ => rfl
  | k + 1, h => by
    have ek : ds[k]? = some ds[k] := List.getElem?_eq_getElem h
    rw [List.range_succ, List.filter_append, List.filterMap_append, keepB_all ds p k (by omega), List.take_add_one, ek, List.filter_append]
    congr 1
    show List.filterMap _ (List.filter _ [k]) = List.filter p [ds[k]]
    rw [List.filter_cons, List.filter_cons, keepB_at ek]
    by_cases c : p ds[k] = true
    · simp [c, ek]
    · simp [c]
section
variable {K : PySem.W.Frag} {σ : L2.St} {H : Hp} {Q : VK} {g : TG} {te : TE} {tt : TT} {vs : List Nat}
/-- the things of a tuple of data that p keeps -/
theorem c_filT {Z : Hp} {a : Addr} {us : List V} {ds : List PyData} (p : PyData → Bool) (zh : Ex Z H) (h1 : Z a = some (.tup us)) (al : DtAll Z us ds) (hz : us.length ≤ 40000)
    (turn : ∀ (i : Nat) u x, ds[i]? = some x → Dt Z u x → ∀ Z1 H1, T [] Z H Z1 H1 → ∀ (A : VK) (B : Hp → Prop), (p x = true → ∀ Z3 H3, T [] Z1 H1 Z3 H3 → A u H3) → (p x = false → ∀ Z3 H3, T [] Z1 H1 Z3 H3 → B H3) →
      g u (wipe σ vs) H1 fun σ2 H2 => wipe σ2 vs = wipe σ vs ∧ tt σ2 H2 fun b H3 => if b = true then te σ2 H3 A else B H3)
    (fin : ∀ D ys Z' H', H D = none → T [] Z H Z' H' → Z' D = some (.lst ys) → DtAll Z' ys (ds.filter p) → Q (.ref D) H') : LcT K g tt te vs σ (.ref a) H Q := by
  have hl := dts_len al
  have hp := zh _ _ h1
  refine ⟨a, rfl, ⟨us, st_of hp⟩, lcT (n := us.length) (M := []) (Z := Z) (keepB ds p) (fun _ _ _ => True) (fun i (x : PyData) y Z => ds[i]? = some x ∧ Dt Z y x) (fun i x y Z1 Z2 e r => ⟨r.1, Dt.ex e r.2⟩) (fun _ _ _ _ _ _ _ _ => trivial) hz zh (fun _ h => absurd h List.not_mem_nil) trivial
    (fun i Z1 H1 hi t => ⟨us, us[i]'(by omega), st_of (t.hp nm_nil hp), List.getElem?_eq_getElem (by omega)⟩) (fun Z1 H1 t => ⟨us, st_of (t.hp nm_nil hp), Nat.le_refl _⟩) (fun i hi D Z1 H1 t nD mu _ v H2 hy A B hA hB => ?_) (fun D ys L Z' H' nD t mu f1 _ hL pr => ?_)⟩
  · obtain ⟨rfl, fv⟩ := hy
    have hv := fv _ (st_of (t.hp nm_nil hp))
    obtain ⟨x, hx, dx⟩ := dts_get al hv
    exact turn i v x hx dx Z1 H2 t A B (fun hp Z3 H3 t3 => hA ((keepB_at hx).trans hp) x v Z3 H3 t3 trivial ⟨hx, Dt.ex (t.z.trans t3.z) dx⟩) (fun hp Z3 H3 t3 => hB ((keepB_at hx).trans hp) Z3 H3 t3 trivial)
  · have e2 : L.map Prod.snd = (ds.filter p).map id := by
      rw [kept_snd (xs := ds) (f := id) (fun q hq => by
        obtain ⟨y, hy⟩ := paired_r pr q hq
        exact ⟨q.2, hy.1, rfl⟩), hL]
      rw [hl, keepB_all ds p ds.length (Nat.le_refl _), List.take_length]
    rw [List.map_id] at e2
    refine t_fzV mu t.zh f1 fun Z2 H2 t2 z2 => fin D ys Z2 H2 nD (t.step t2 (mm_cons (.inr nD) mm_nil)) z2 ?_
    rw [← e2]
    exact dts_ofP (paired_mapR (Paired.mapP pr fun y q h => Dt.ex t2.z h.2))
end
/-- x != [] -/
theorem s_neE {K : PySem.W.Frag} {Z H : Hp} {Q : VK} {a b : Addr} {ys : List V} {xs : List PyData} (z : Ex Z H) (h : Z a = some (.lst ys)) (al : DtAll Z ys xs) (hs : SeqAt.shaped (.list xs) = true) (hb : SqL K H b []) (q : Q (.bl (!decide (xs = []))) H) : rNeA K (.ref a) (.ref b) H Q := by
  refine s_neD (d := .list xs) (e := .list []) (Dt.dp (Dt.ex z (.lst h al))) (.lst hb .nil) hs rfl ?_
  have : PyData.eqv (.list xs) (.list []) = decide (xs = []) := by
    cases xs with
    | nil => simp [PyData.eqv, PyData.eqvAll]
    | cons x xs => simp [PyData.eqv, PyData.eqvAll]
  rw [this]
  exact q
end TR
namespace TR
open PySem L2
theorem canLay_filter {p : PyData → Bool} : ∀ {xs : List PyData}, PyData.canLayAll0 xs = true → PyData.canLayAll0 (xs.filter p) = true
  | [], _ => rfl
  | x :: xs, h => by
    simp only [PyData.canLayAll0, Bool.and_eq_true] at h
    by_cases c : p x = true
    · rw [List.filter_cons_of_pos c]
      simp only [PyData.canLayAll0, Bool.and_eq_true]
      exact ⟨h.1, canLay_filter h.2⟩
    · rw [List.filter_cons_of_neg c]
      exact canLay_filter h.2
theorem depth_filter {p : PyData → Bool} : ∀ {xs : List PyData}, PyData.depthAll (xs.filter p) ≤ PyData.depthAll xs
  | [] => Nat.le_refl _
  | x :: xs => by
    have ih := depth_filter (p := p) (xs := xs)
    by_cases c : p x = true
    · rw [List.filter_cons_of_pos c]
      simp only [PyData.depthAll]
      omega
    · rw [List.filter_cons_of_neg c]
      simp only [PyData.depthAll]
      omega
/-- can be compared -/
structure GdB (d : PyData) : Prop where
  can : d.canLay0 = true
  dep : d.depth ≤ 20
theorem GdB.shaped {d : PyData} (h : GdB d) : SeqAt.shaped d = true := by
  have h1 := h.can
  have h2 := h.dep
  unfold SeqAt.shaped
  simp only [h1, Bool.true_and, decide_eq_true_eq]
  omega
theorem GdB.fil {p : PyData → Bool} {xs : List PyData} (h : GdB (.tuple xs)) : GdB (.list (xs.filter p)) := by
  have h1 := h.can
  have h2 := h.dep
  simp only [PyData.canLay0, PyData.depth] at h1 h2
  exact ⟨by simp only [PyData.canLay0]; exact canLay_filter h1, by
    have := depth_filter (p := p) (xs := xs)
    simp only [PyData.depth]
    omega⟩
/-- a thing of a list that is told to be a book, or none -/
structure ElB (d : PyData) : Prop where
  sm : SmD 19000 d
  dp : d.depth ≤ 10
  gd : isTupB d = true → GdB d
theorem fil_nil {xs : List PyData} : decide (xs.filter (fun y => !whB y) = []) = xs.all whB := by
  rw [Bool.eq_iff_iff, decide_eq_true_eq, List.filter_eq_nil_iff, List.all_eq_true]
  constructor
  · intro h x hx
    have := h x hx
    simpa using this
  · intro h x hx
    simp [h x hx]
theorem dt_wh {Z : Hp} {v : V} {d : PyData} (h : Dt Z v d) (w : whB d = true) : ∃ a, v = .int a ∧ d = .int a := by
  cases h with
  | int i => exact ⟨i, rfl, rfl⟩
  | _ => cases w
theorem int4 {us : List V} {ds : List PyData} {Z : Hp} (al : DtAll Z us ds) (hl : ds.length = 4) (h : ds.all whB = true) : ∃ a b c e, us = [.int a, .int b, .int c, .int e] ∧ ds = [.int a, .int b, .int c, .int e] := by
  match ds, hl with
  | [d1, d2, d3, d4], _ =>
    cases al with
    | cons h1 al =>
    cases al with
    | cons h2 al =>
    cases al with
    | cons h3 al =>
    cases al with
    | cons h4 al =>
    cases al
    simp only [List.all_cons, List.all_nil, Bool.and_true, Bool.and_eq_true] at h
    obtain ⟨w1, w2, w3, w4⟩ := h
    obtain ⟨a, rfl, rfl⟩ := dt_wh h1 w1
    obtain ⟨b, rfl, rfl⟩ := dt_wh h2 w2
    obtain ⟨c, rfl, rfl⟩ := dt_wh h3 w3
    obtain ⟨e, rfl, rfl⟩ := dt_wh h4 w4
    exact ⟨a, b, c, e, rfl, rfl⟩
end TR

/-! the books' odd things: how long their texts are -/
namespace TR
open PySem L2
structure SmK (k n : Nat) (d : PyData) : Prop where
  sh : d.showable = true
  le : d.shown.length ≤ n
  dp : d.depth ≤ k
  can : d.canLay0 = true
theorem SmK.more {k n j m : Nat} {d : PyData} (h : SmK k n d) (e : k ≤ j) (f : n ≤ m) : SmK j m d := ⟨h.sh, Nat.le_trans h.le f, Nat.le_trans h.dp e, h.can⟩
theorem SmK.elb {k n : Nat} {d : PyData} (h : SmK k n d) (e : k ≤ 10) (f : n ≤ 19000) : ElB d := ⟨⟨h.sh, Nat.le_trans h.le f, by have := h.dp; omega⟩, by have := h.dp; omega, fun _ => ⟨h.can, by have := h.dp; omega⟩⟩
theorem smk_int {i : Int} (h : -2000000000000 ≤ i ∧ i ≤ 2000000000000) : SmK 0 2000 (.int i) := by
  have l : i.natAbs.log2 < 1920 := by
    have h1 : i.natAbs < 2 ^ 64 := by omega
    by_cases c : i.natAbs = 0
    · rw [c]; decide
    · have := (Nat.log2_lt c).mpr h1
      omega
  refine ⟨by simp only [PyData.showable]; exact decide_eq_true l, ?_, Nat.le_refl _, rfl⟩
  have := PyProof.Rows.int_text_len_1921 l
  simp only [PyData.shown]
  exact Nat.le_trans this (by decide)
theorem smk_none : SmK 0 2000 .none := ⟨rfl, by simp only [PyData.shown]; decide, Nat.le_refl _, rfl⟩
theorem smk_bl (b : Bool) : SmK 0 2000 (.bool b) := ⟨rfl, by simp only [PyData.shown]; cases b <;> decide, Nat.le_refl _, rfl⟩
theorem smk_str {x : Str} (h : PyData.strOk x = true) (l : x.length ≤ 190) : SmK 0 2000 (.str x) := by
  refine ⟨rfl, ?_, Nat.le_refl _, by simp only [PyData.canLay0]; exact h⟩
  simp only [PyData.shown]
  have h2 : ∀ c ∈ x.cps.toList, c < 16 ^ 8 := fun c hc => by
    unfold PyData.strOk at h
    rw [← Array.all_toList, List.all_eq_true] at h
    have := h c hc
    simp at this
    omega
  have := StrLaws.reprText_len x h2
  omega
theorem shownAll_sum {n : Nat} : ∀ {ds : List PyData}, (∀ d ∈ ds, d.shown.length ≤ n) → ((PyData.shownAll ds).map (·.length)).sum ≤ ds.length * n ∧ (PyData.shownAll ds).length = ds.length
  | [], _ => by simp [PyData.shownAll]
  | d :: ds, h => by
    have ih := shownAll_sum (ds := ds) fun e he => h e (List.mem_cons_of_mem _ he)
    have h1 := h d List.mem_cons_self
    simp only [PyData.shownAll, List.map_cons, List.sum_cons, List.length_cons]
    rw [Nat.succ_mul]
    omega
theorem showableAll_of : ∀ {ds : List PyData}, (∀ d ∈ ds, d.showable = true) → PyData.showableAll ds = true
  | [], _ => rfl
  | d :: ds, h => by
    simp only [PyData.showableAll, Bool.and_eq_true]
    exact ⟨h d List.mem_cons_self, showableAll_of fun e he => h e (List.mem_cons_of_mem _ he)⟩
theorem depthB_of {k : Nat} : ∀ {ds : List PyData}, (∀ d ∈ ds, d.depth ≤ k) → PyData.depthAll ds ≤ k
  | [], _ => by simp [PyData.depthAll]
  | d :: ds, h => by
    have ih := depthB_of (ds := ds) fun e he => h e (List.mem_cons_of_mem _ he)
    have h1 := h d List.mem_cons_self
    simp only [PyData.depthAll]
    omega
theorem canB_of : ∀ {ds : List PyData}, (∀ d ∈ ds, d.canLay0 = true) → PyData.canLayAll0 ds = true
  | [], _ => rfl
  | d :: ds, h => by
    simp only [PyData.canLayAll0, Bool.and_eq_true]
    exact ⟨h d List.mem_cons_self, canB_of fun e he => h e (List.mem_cons_of_mem _ he)⟩
theorem list_len {ts : List Str} : (listText ts).length ≤ (ts.map (·.length)).sum + 2 * ts.length + 2 := by
  unfold listText
  rw [strLen_append]
  have := textFrom_len_le ts 0 "["
  have e1 : ("[" : Str).length = 1 := rfl
  have e2 : ("]" : Str).length = 1 := rfl
  omega
theorem piled_sum (ts : List Str) : piled ts = (ts.map (·.length)).sum + 2 * ts.length := by
  induction ts with
  | nil => rfl
  | cons t ts ih =>
    rw [piled_cons, ih, List.map_cons, List.sum_cons, List.length_cons]
    omega
theorem tup_len {ts : List Str} : (tupleText ts).length ≤ (ts.map (·.length)).sum + 2 * ts.length + 3 := by
  unfold tupleText
  rw [strLen_append, strLen_append]
  have e1 : ("(" : Str).length = 1 := rfl
  have e2 : (if ts.length == 1 then ((",)" : String) : Str) else ((")" : String) : Str)).length ≤ 2 := by split <;> decide
  by_cases c : ts = []
  · subst c
    show 1 + (Str.join ", " []).length + _ ≤ _
    have : (Str.join ", " [] : Str).length = 0 := rfl
    rw [this]
    simp at *
    omega
  · have h1 := join_length_add ts c
    rw [piled_sum] at h1
    have e3 : ((if ts.length == 1 then (",)" : String) else (")" : String) : String) : Str).length ≤ 2 := by split <;> decide
    omega
theorem smk_list {k n m N : Nat} {ds : List PyData} (h : ∀ d ∈ ds, SmK k n d) (l : ds.length ≤ m) (hN : m * (n + 2) + 4 ≤ N) : SmK (k + 1) N (.list ds) := by
  obtain ⟨s1, s2⟩ := shownAll_sum fun d hd => (h d hd).le
  refine ⟨by simp only [PyData.showable]; exact showableAll_of fun d hd => (h d hd).sh, ?_, ?_, by simp only [PyData.canLay0]; exact canB_of fun d hd => (h d hd).can⟩
  · simp only [PyData.shown]
    have h1 := list_len (ts := PyData.shownAll ds)
    have h2 : ds.length * n + 2 * ds.length ≤ m * (n + 2) := by
      rw [Nat.mul_comm 2, ← Nat.mul_add]
      exact Nat.mul_le_mul_right _ l
    omega
  · simp only [PyData.depth]
    have := depthB_of fun d hd => (h d hd).dp
    omega
theorem smk_tup {k n m N : Nat} {ds : List PyData} (h : ∀ d ∈ ds, SmK k n d) (l : ds.length ≤ m) (hN : m * (n + 2) + 4 ≤ N) : SmK (k + 1) N (.tuple ds) := by
  obtain ⟨s1, s2⟩ := shownAll_sum fun d hd => (h d hd).le
  refine ⟨by simp only [PyData.showable]; exact showableAll_of fun d hd => (h d hd).sh, ?_, ?_, by simp only [PyData.canLay0]; exact canB_of fun d hd => (h d hd).can⟩
  · simp only [PyData.shown]
    have h1 := tup_len (ts := PyData.shownAll ds)
    have h2 : ds.length * n + 2 * ds.length ≤ m * (n + 2) := by
      rw [Nat.mul_comm 2, ← Nat.mul_add]
      exact Nat.mul_le_mul_right _ l
    omega
  · simp only [PyData.depth]
    have := depthB_of fun d hd => (h d hd).dp
    omega
/-- a value that is data of small texts -/
noncomputable def AtV (k n : Nat) (Z : Hp) (v : V) : Prop := ∃ d, Dt Z v d ∧ SmK k n d
section
variable {Z Z' : Hp} {v : V} {k n m N : Nat} {us : List V} {p : Addr}
theorem AtV.ex (e : Ex Z Z') (h : AtV k n Z v) : AtV k n Z' v := by
  obtain ⟨d, h1, h2⟩ := h
  exact ⟨d, Dt.ex e h1, h2⟩
theorem AtV.more {j : Nat} (h : AtV k n Z v) (e : k ≤ j) (f : n ≤ m) : AtV j m Z v := by
  obtain ⟨d, h1, h2⟩ := h
  exact ⟨d, h1, h2.more e f⟩
theorem atv_all : ∀ {us : List V}, (∀ u ∈ us, AtV k n Z u) → ∃ ds, DtAll Z us ds ∧ ∀ d ∈ ds, SmK k n d
  | [], _ => ⟨[], .nil, fun _ h => absurd h List.not_mem_nil⟩
  | u :: us, h => by
    obtain ⟨d, d1, s1⟩ := h u List.mem_cons_self
    obtain ⟨ds, a1, s2⟩ := atv_all (us := us) fun w hw => h w (List.mem_cons_of_mem _ hw)
    refine ⟨d :: ds, .cons d1 a1, fun e he => ?_⟩
    rcases List.mem_cons.mp he with e1 | he
    · rw [e1]; exact s1
    · exact s2 e he
theorem atv_list (h : Z p = some (.lst us)) (l : us.length ≤ m) (g : ∀ u ∈ us, AtV k n Z u) (hN : m * (n + 2) + 4 ≤ N) : AtV (k + 1) N Z (.ref p) := by
  obtain ⟨ds, a, s⟩ := atv_all g
  exact ⟨.list ds, .lst h a, smk_list s (by rw [← dts_len a]; exact l) hN⟩
theorem atv_tup (h : Z p = some (.tup us)) (l : us.length ≤ m) (g : ∀ u ∈ us, AtV k n Z u) (hN : m * (n + 2) + 4 ≤ N) : AtV (k + 1) N Z (.ref p) := by
  obtain ⟨ds, a, s⟩ := atv_all g
  exact ⟨.tuple ds, .tup h a, smk_tup s (by rw [← dts_len a]; exact l) hN⟩
theorem atv_int {i : Int} (h : -2000000000000 ≤ i ∧ i ≤ 2000000000000) : AtV 0 2000 Z (.int i) := ⟨_, .int i, smk_int h⟩
theorem atv_bl (b : Bool) : AtV 0 2000 Z (.bl b) := ⟨_, .bl b, smk_bl b⟩
theorem atv_non : AtV 0 2000 Z .non := ⟨_, .non, smk_none⟩
theorem atv_str {x : Str} (h : PyData.strOk x = true) (l : x.length ≤ 190) : AtV 0 2000 Z (.str x) := ⟨_, .str x, smk_str h l⟩
/-- one thing of a list -/
noncomputable def ElV (Z : Hp) (v : V) : Prop := ∃ d, Ob Z v d ∧ ElB d
theorem ElV.ex (e : Ex Z Z') (h : ElV Z v) : ElV Z' v := by
  obtain ⟨d, h1, h2⟩ := h
  exact ⟨d, h1.ex e, h2⟩
theorem AtV.el (h : AtV k n Z v) (e : k ≤ 10) (f : n ≤ 19000) : ElV Z v := by
  obtain ⟨d, h1, h2⟩ := h
  exact ⟨d, .dat h1, h2.elb e f⟩
theorem elv_dct (h : Z p = some (.dK [])) : ElV Z (.ref p) := ⟨.dict [], .dct h, ⟨⟨rfl, by simp only [PyData.shown, PyData.shownKv]; decide, by simp [PyData.depth, PyData.depthKv]⟩, by simp [PyData.depth, PyData.depthKv], fun h => by cases h⟩⟩
/-- what is asked whether it is a book -/
noncomputable def ThB (Z : Hp) (v : V) : Prop := ∃ d, TB Z v d ∧ SmD 16000000 d ∧ ∀ ds, d = .list ds → ds.length ≤ 1000 ∧ ∀ e ∈ ds, ElB e
theorem ThB.ex (e : Ex Z Z') (h : ThB Z v) : ThB Z' v := by
  obtain ⟨d, h1, h2⟩ := h
  exact ⟨d, h1.ex e, h2⟩
theorem elv_all : ∀ {us : List V}, (∀ u ∈ us, ElV Z u) → ∃ ds, Paired (Ob Z) us ds ∧ ∀ d ∈ ds, ElB d
  | [], _ => ⟨[], .nil, fun _ h => absurd h List.not_mem_nil⟩
  | u :: us, h => by
    obtain ⟨d, d1, s1⟩ := h u List.mem_cons_self
    obtain ⟨ds, a1, s2⟩ := elv_all (us := us) fun w hw => h w (List.mem_cons_of_mem _ hw)
    refine ⟨d :: ds, .cons d1 a1, fun e he => ?_⟩
    rcases List.mem_cons.mp he with e1 | he
    · rw [e1]; exact s1
    · exact s2 e he
theorem thb_list (h : Z p = some (.lst us)) (l : us.length ≤ 800) (g : ∀ u ∈ us, ElV Z u) : ThB Z (.ref p) := by
  obtain ⟨ds, a, s⟩ := elv_all g
  have dl : ds.length ≤ 800 := by rw [← Paired.length a]; exact l
  obtain ⟨s1, s2⟩ := shownAll_sum fun d hd => (s d hd).sm.le
  refine ⟨.list ds, .lst h a, ⟨by simp only [PyData.showable]; exact showableAll_of fun d hd => (s d hd).sm.sh, ?_, ?_⟩, fun es e => by cases e; exact ⟨by omega, s⟩⟩
  · simp only [PyData.shown]
    have h1 := list_len (ts := PyData.shownAll ds)
    have : ds.length * 19000 ≤ 800 * 19000 := Nat.mul_le_mul_right _ dl
    omega
  · simp only [PyData.depth]
    have := depthB_of fun d hd => (s d hd).dp
    omega
/-- a thing that is no list -/
theorem thb_at (h : AtV k n Z v) (nl : ∀ p us, v = .ref p → Z p ≠ some (.lst us)) (e : k ≤ 10) (f : n ≤ 16000000) : ThB Z v := by
  obtain ⟨d, h1, h2⟩ := h
  refine ⟨d, .ob (.dat h1), ⟨h2.sh, Nat.le_trans h2.le f, by have := h2.dp; omega⟩, fun ds ed => ?_⟩
  subst ed
  cases h1 with
  | lst hp _ => exact absurd hp (nl _ _ rfl)
theorem thb_dct (h : Z p = some (.dK [])) : ThB Z (.ref p) := ⟨.dict [], .ob (.dct h), ⟨rfl, by simp only [PyData.shown, PyData.shownKv]; decide, by simp [PyData.depth, PyData.depthKv]⟩, fun _ e => by cases e⟩
theorem cutV_mem {us : List V} {lo hi : Option Int} {u : V} (h : u ∈ cutV us lo hi) : u ∈ us := List.mem_of_mem_drop (List.mem_of_mem_take h)
end
end TR
namespace TR
open PySem L2
theorem ofStr_ok (x : String) : PyData.strOk (Str.ofString x) = true := by
  rw [show Str.ofString x = Str.ofStringByList x from congrFun Str.ofString_eq_byList x]
  unfold PyData.strOk Str.ofStringByList
  rw [← Array.all_toList, List.all_eq_true]
  intro c hc
  have hc : c ∈ x.toList.map Char.toNat := by simpa using hc
  obtain ⟨ch, _, rfl⟩ := List.mem_map.mp hc
  simp only [decide_eq_true_eq]
  have := ch.valid
  unfold Char.toNat
  rcases this with h | h
  · exact Nat.lt_trans h (by decide)
  · exact h.2
theorem atv_num {Z : Hp} {i : Int} (h : -200000 ≤ i ∧ i ≤ 200000) : AtV 0 2000 Z (.str (Str.ofString (toString i))) := by
  refine atv_str (ofStr_ok _) ?_
  rw [ofString_length]
  have := int_text_length_le10 (a := i) (k := 6) (by decide) (by omega)
  omega
theorem log_small {i : Int} (h : -200000 ≤ i ∧ i ≤ 200000) : i.natAbs.log2 < 1920 := by
  by_cases c : i.natAbs = 0
  · rw [c]; decide
  · have := (Nat.log2_lt c (k := 64)).mpr (by omega)
    omega
theorem t_catB {Z H : Hp} {Q : VK} {a b : Addr} {xs ys : List V} (z : Ex Z H) (h : Z a = some (.lst xs)) (g : Z b = some (.lst ys)) (hz : xs.length + ys.length ≤ 100000) (k : ∀ p Z' H', H p = none → T [] Z H Z' H' → Z' p = some (.lst (xs ++ ys)) → Q (.ref p) H') : rPlus (.ref a) (.ref b) H Q :=
  s_plusL (z _ _ h) (z _ _ g) hz fun p hp => k p _ _ hp (T.new hp z) upd_same
theorem ig_memB {H : Hp} {Q : VK} {xs : List V} {i : Int} (h : 0 ≤ i ∧ i < xs.length) (q : ∀ v, v ∈ xs → xs[i.toNat]? = some v → Q v H) : IxGo xs i H Q := by
  have hl : i.toNat < xs.length := by omega
  exact ⟨xs[i.toNat], atI_lt h.1 (List.getElem?_eq_getElem hl), q _ (List.getElem_mem hl) (List.getElem?_eq_getElem hl)⟩
end TR
namespace TR
open PySem L2 PySem.Spec PyProof.Rows
/-- + of tuples, whichever is empty -/
noncomputable def rCatB (K : PySem.W.Frag) : R2 := fun x y H Q => ∃ a b xs ys, x = .ref a ∧ y = .ref b ∧ SqT K H a xs ∧ SqT K H b ys ∧ xs.length + ys.length ≤ sizeLine ∧ (xs = [] → Q (.ref b) H) ∧ (xs ≠ [] → ys = [] → Q (.ref a) H) ∧ (xs ≠ [] → ys ≠ [] → ∀ p, H p = none → Q (.ref p) (upd H p (.tup (xs ++ ys))))
theorem op_catB {X : Cx} : OpR X (binaryOp .Add) (rCatB X.K) := by
  intro pins s σ H x y v u Q I rx ry h
  obtain ⟨a, b, xs, ys, rfl, rfl, ha, hb, hz, q0, q1, q2⟩ := h
  by_cases c : xs = []
  · obtain rfl : v = Value.ref a := rx
    obtain rfl : u = Value.ref b := ry
    obtain ⟨its, r1, p1, _⟩ := I.tuple ha
    obtain ⟨its2, r2, p2, _⟩ := I.tuple hb
    obtain ⟨⟨cls, dd, data, sl⟩, ho, hc, n, hd⟩ := id p1
    obtain ⟨⟨cls2, dd2, data2, sl2⟩, ho2, hc2, n2, hd2⟩ := id p2
    simp only at hc hd hc2 hd2
    subst hc hd hc2 hd2
    subst c
    have e0 : its = [] := r1.nil_iff.mpr rfl
    exact concat_meets ⟨_, ho, rfl⟩ ⟨_, ho2, rfl⟩ noFill_tuple_add seq_tuple_add PySem.F.slot_tuple_add PySem.F.entry_tuple_add (PySem.F.args_tuple_add_2 _ _)
      (tuple_addW0 a b its.toArray its2.toArray n n2 dd dd2 sl sl2 (by rw [e0]; rfl)) ⟨ho, ho2, ⟨.ref b, H, I, rfl, q0 rfl⟩⟩
  · exact op_catT pins s σ H _ _ v u Q I rx ry ⟨a, b, xs, ys, rfl, rfl, ha, hb, c, hz, q1 c, q2 c⟩
theorem catBA {X : Cx} {K : PySem.W.Frag} (hk : X.K = K) : OpR X (binaryOp .Add) (rCatB K) := hk ▸ op_catB
theorem t_catTB {K : PySem.W.Frag} {Z H : Hp} {Q : VK} {a b : Addr} {xs ys : List V} (z : Ex Z H) (h : Z a = some (.tup xs)) (g : Z b = some (.tup ys)) (hz : xs.length + ys.length ≤ 100000) (q : ∀ p Z' H', T [] Z H Z' H' → Z' p = some (.tup (xs ++ ys)) → Q (.ref p) H') : rCatB K (.ref a) (.ref b) H Q := by
  refine ⟨a, b, xs, ys, rfl, rfl, st_of (z _ _ h), st_of (z _ _ g), sz_of hz, fun e => ?_, fun _ e => ?_, fun _ _ p hp => q p _ _ (T.new hp z) upd_same⟩
  · subst e
    exact q b Z H (T.refl z) g
  · subst e
    exact q a Z H (T.refl z) (by rw [List.append_nil]; exact h)
/-- a cut of a tuple of four -/
theorem t_sl4 {K : PySem.W.Frag} {Z H : Hp} {Q : VK} {t : Addr} {xs : List V} {lo hi : Option Int} (z : Ex Z H) (h : Z t = some (.tup xs)) (hn : ¬ (HT.sIx xs.length 0 lo = 0 ∧ HT.sIx xs.length xs.length hi = xs.length)) (q : ∀ p Z' H', H p = none → T [] Z H Z' H' → Z' p = some (.tup (cutV xs lo hi)) → Q (.ref p) H') : rSlT K (.ref t) lo hi H Q :=
  ⟨t, xs, rfl, st_of (z _ _ h), hn, fun p hp => q p _ _ hp (T.new hp z) upd_same⟩
theorem sl4_lo {i : Int} (h : 0 ≤ i ∧ i < 4) : ¬ (HT.sIx 4 0 none = 0 ∧ HT.sIx 4 4 (some i) = 4) := by
  have : i = 0 ∨ i = 1 ∨ i = 2 ∨ i = 3 := by omega
  rcases this with rfl | rfl | rfl | rfl <;> decide
theorem sl4_hi {i : Int} (h : 0 ≤ i ∧ i < 4) : ¬ (HT.sIx 4 0 (some (i + 1)) = 0 ∧ HT.sIx 4 4 none = 4) := by
  have : i = 0 ∨ i = 1 ∨ i = 2 ∨ i = 3 := by omega
  rcases this with rfl | rfl | rfl | rfl <;> decide
end TR
namespace TR
open PySem L2
theorem odd11 {Z : Hp} {one r : Int} {x : Str} {p t : Addr} {v : V} (h1 : -2000 ≤ one ∧ one ≤ 2000) (hr : 0 ≤ r ∧ r < 140) (hx : AtV 0 2000 Z (.str x)) (hp : Z p = some (.lst [.int one])) (ht : Z t = some (.tup [.int one]))
    (hv : v ∈ [V.int (one + 1), .int (one - 1), .int (0 - one), .int r, .bl true, .bl false, .non, .str x, .int 1000000000000] ++ [.ref p, .ref t]) : AtV 1 2100 Z v := by
  have one1 : ∀ u ∈ [V.int one], AtV 0 2000 Z u := fun u hu => by
    rw [List.mem_singleton.mp hu]
    exact atv_int (by omega)
  simp only [List.cons_append, List.nil_append, List.mem_cons, List.not_mem_nil, or_false] at hv
  rcases hv with rfl | rfl | rfl | rfl | rfl | rfl | rfl | rfl | rfl | rfl | rfl
  · exact (atv_int (by omega)).more (by decide) (by decide)
  · exact (atv_int (by omega)).more (by decide) (by decide)
  · exact (atv_int (by omega)).more (by decide) (by decide)
  · exact (atv_int (by omega)).more (by decide) (by decide)
  · exact (atv_bl _).more (by decide) (by decide)
  · exact (atv_bl _).more (by decide) (by decide)
  · exact atv_non.more (by decide) (by decide)
  · exact hx.more (by decide) (by decide)
  · exact (atv_int (by omega)).more (by decide) (by decide)
  · exact atv_list (m := 1) hp (Nat.le_refl _) one1 (by decide)
  · exact atv_tup (m := 1) ht (Nat.le_refl _) one1 (by decide)
theorem four_at {Z : Hp} {a b c e : Int} (h : ∀ x ∈ [a, b, c, e], -2000 ≤ x ∧ x ≤ 2000) : ∀ u ∈ [V.int a, .int b, .int c, .int e], AtV 1 2100 Z u := fun u hu => by
  have k : ∀ x : Int, (-2000 ≤ x ∧ x ≤ 2000) → AtV 1 2100 Z (.int x) := fun x hx => (atv_int (by omega)).more (by decide) (by decide)
  simp only [List.mem_cons, List.not_mem_nil, or_false] at hu
  rcases hu with rfl | rfl | rfl | rfl
  · exact k _ (h a (by simp))
  · exact k _ (h b (by simp))
  · exact k _ (h c (by simp))
  · exact k _ (h e (by simp))
theorem mem_app {P : V → Prop} {xs ys : List V} (h : ∀ u ∈ xs, P u) (g : ∀ u ∈ ys, P u) : ∀ u ∈ xs ++ ys, P u := fun u hu => (List.mem_append.mp hu).elim (h u) (g u)
theorem mem_cut {P : V → Prop} {xs : List V} {lo hi : Option Int} (h : ∀ u ∈ xs, P u) : ∀ u ∈ cutV xs lo hi, P u := fun u hu => h u (cutV_mem hu)
theorem mem_one {P : V → Prop} {x : V} (h : P x) : ∀ u ∈ [x], P u := fun u hu => by rw [List.mem_singleton.mp hu]; exact h
end TR
namespace TR
open PySem L2
theorem t_list1T {K : PySem.W.Frag} {Z H : Hp} {Q : VK} {a : Addr} {us : List V} (z : Ex Z H) (h : Z a = some (.tup us)) (hl : us.length ≤ 100000) (q : ∀ p Z' H', H p = none → T [] Z H Z' H' → Z' p = some (.lst us) → Q (.ref p) H') : rList1 K [.ref a] H Q :=
  ⟨a, us, rfl, .inr (st_of (z _ _ h)), fun p hp => q p _ _ hp (T.new hp z) upd_same⟩
end TR
namespace TR
open PySem L2
theorem t_dnewB {Z H : Hp} {Q : VK} {σ : L2.St} (z : Ex Z H) (q : ∀ p Z' H', H p = none → T [] Z H Z' H' → Z' p = some (.dK []) → Q (.ref p) H') : tDNewK σ H Q := fun p hp => q p _ _ hp (T.new hp z) upd_same
theorem t_slB {K : PySem.W.Frag} {Z H : Hp} {Q : VK} {a : Addr} {xs : List V} {lo hi : Option Int} (z : Ex Z H) (h : Z a = some (.lst xs)) (q : ∀ p Z' H', H p = none → T [] Z H Z' H' → Z' p = some (.lst (cutV xs lo hi)) → Q (.ref p) H') : rSlL K (.ref a) lo hi H Q :=
  ⟨a, xs, rfl, sq_of (z _ _ h), fun p hp => q p _ _ hp (T.new hp z) upd_same⟩
/-- a split as it was told -/
noncomputable def Q4 (Z : Hp) (u : V) : Prop := ∃ (t : Addr) (a b c e : Int), u = .ref t ∧ Z t = some (.tup [.int a, .int b, .int c, .int e]) ∧ ∀ x ∈ [a, b, c, e], -2000 ≤ x ∧ x ≤ 2000
section
variable {Z Z' : Hp} {u : V} {us : List V}
theorem Q4.ex (e : Ex Z Z') (h : Q4 Z u) : Q4 Z' u := by
  obtain ⟨t, a, b, c, d, h1, h2, h3⟩ := h
  exact ⟨t, a, b, c, d, h1, e _ _ h2, h3⟩
theorem Q4.at_ (h : Q4 Z u) : AtV 2 9000 Z u := by
  obtain ⟨t, a, b, c, d, rfl, h2, h3⟩ := h
  exact atv_tup (m := 4) h2 (Nat.le_refl _) (four_at h3) (by decide)
theorem Q4.el (h : Q4 Z u) : ElV Z u := h.at_.el (by decide) (by decide)
theorem q4_data (h : ∀ u ∈ us, Q4 Z u) : ∃ ds, DtAll Z us ds ∧ SeqAt.shaped (.list ds) = true ∧ ds.length = us.length := by
  obtain ⟨ds, a, s⟩ := atv_all fun u hu => (h u hu).at_
  refine ⟨ds, a, GdB.shaped ⟨by simp only [PyData.canLay0]; exact canB_of fun d hd => (s d hd).can, ?_⟩, (dts_len a).symm⟩
  simp only [PyData.depth]
  have := depthB_of fun d hd => (s d hd).dp
  omega
theorem s_eqE {K : PySem.W.Frag} {H : Hp} {Q : VK} {a b : Addr} (z : Ex Z H) (h : Z a = some (.lst us)) (g : ∀ u ∈ us, Q4 Z u) (hb : SqL K H b []) (q : Q (.bl (decide (us.length = 0))) H) : rEqA K (.ref a) (.ref b) H Q := by
  obtain ⟨ds, al, sh, dl⟩ := q4_data g
  refine s_eqD (d := .list ds) (e := .list []) (Dt.dp (Dt.ex z (.lst h al))) (.lst hb .nil) sh rfl ?_
  have : PyData.eqv (.list ds) (.list []) = decide (us.length = 0) := by
    cases ds with
    | nil => rw [← dl]; simp [PyData.eqv, PyData.eqvAll]
    | cons x xs => rw [← dl]; simp [PyData.eqv, PyData.eqvAll]
  rw [this]
  exact q
theorem odd7 {v : V} {l d t1 t2 : Addr} (hl : Z l = some (.lst [])) (hd : Z d = some (.dK [])) (h1 : Z t1 = some (.tup [])) (h2 : Z t2 = some (.tup [])) (hv : v ∈ [V.non, .int 5, .str "split", .ref l, .ref d, .ref t1, .ref t2]) : ElV Z v := by
  have no : ∀ u ∈ ([] : List V), AtV 0 2000 Z u := fun _ h => absurd h List.not_mem_nil
  simp only [List.mem_cons, List.not_mem_nil, or_false] at hv
  rcases hv with rfl | rfl | rfl | rfl | rfl | rfl | rfl
  · exact atv_non.el (by decide) (by decide)
  · exact (atv_int (by omega)).el (by decide) (by decide)
  · exact (atv_str (by decide +kernel) (by decide)).el (by decide) (by decide)
  · exact (atv_list (m := 1) (N := 19000) hl (Nat.zero_le _) no (by decide)).el (by decide) (by decide)
  · exact elv_dct hd
  · exact (atv_tup (m := 1) (N := 19000) h1 (Nat.zero_le _) no (by decide)).el (by decide) (by decide)
  · exact (atv_tup (m := 1) (N := 19000) h2 (Nat.zero_le _) no (by decide)).el (by decide) (by decide)
theorem thb_tup {p : Addr} (h : Z p = some (.tup us)) (l : us.length ≤ 200) (g : ∀ u ∈ us, AtV 2 9000 Z u) : ThB Z (.ref p) :=
  thb_at (atv_tup (m := 200) (N := 16000000) h l g (by decide)) (fun p' us' e z => by
    cases e
    rw [h] at z
    cases z) (by decide) (Nat.le_refl _)
end
end TR
namespace TR
open PySem L2
end TR
namespace TR
open PySem L2
section
variable {K : PySem.W.Frag} {σ : L2.St} {H : Hp} {Q : VK} {g : TG} {te : TE} {vs : List Nat}
/-- things drawn, of any make -/
theorem c_drawB {n : Int} {Z : Hp} {h : Addr} {C : Nat} (P : Hp → V → Prop) (mono : ∀ {Z Z' v}, Ex Z Z' → P Z v → P Z' v) (R c : Nat) (hh : Hand K Z H h C) (hz : 0 ≤ n ∧ n ≤ 40000) (hC : R + c * n.toNat ≤ C)
    (turn : ∀ i : Nat, (i : Int) < n → ∀ Z1 H1 R', T [h] Z H Z1 H1 → Hand K Z1 H1 h (R' + c) → ∀ A : VK, (∀ y Z3 H3, T [h] Z1 H1 Z3 H3 → Hand K Z3 H3 h R' → P Z3 y → A y H3) → g (.int (i : Int)) (wipe σ vs) H1 fun σ2 H2 => wipe σ2 vs = wipe σ vs ∧ te σ2 H2 A)
    (fin : ∀ D ys Z' H', H D = none → T [h] Z H Z' H' → Hand K Z' H' h R → Z' D = some (.lst ys) → (ys.length : Int) = n → (∀ y ∈ ys, P Z' y) → Q (.ref D) H') : LcR1 g tYes te vs σ [.int n] H Q := by
  have e62 : (2 : Int) ^ 62 = 4611686018427387904 := by decide
  refine ⟨n, rfl, by omega, by omega, lcT (n := n.toNat) (M := [h]) (Z := Z) (fun _ => true) (fun i Z1 H1 => Hand K Z1 H1 h (R + c * (n.toNat - i))) (fun i (x : Bool) y Z => P Z y) (fun i x y Z1 Z2 e r => mono e r) (fun i Z1 H1 D o hi nD zD => ?_) (by omega) hh.z (fun b hb => by rw [List.mem_singleton.mp hb]; exact hh.at) (hh.mono (by simpa using hC))
    (fun i Z1 H1 hi t => hi) (fun Z1 H1 t => Nat.le_refl _) (fun i hi D Z1 H1 t nD mu hI v H2 hv A B hA hB => ?_) (fun D ys L Z' H' nD t mu f1 hI hL pr => ?_)⟩
  · obtain ⟨o1, ho1⟩ := hh.at
    exact hi.exm ExM.upd (ne_of_none ho1 nD) zD
  · obtain ⟨rfl, rfl⟩ := hv
    rw [Int.zero_add, lc_yes]
    have ec : R + c * (n.toNat - i) = R + c * (n.toNat - (i + 1)) + c := by
      rw [show n.toNat - i = (n.toNat - (i + 1)) + 1 by omega, Nat.mul_succ]
      omega
    rw [ec] at hI
    exact turn i (by omega) Z1 H2 _ t hI A fun y Z3 H3 t3 h3 py => hA rfl true y Z3 H3 t3 h3 py
  · have hl : (ys.length : Int) = n := by
      have e1 := Paired.length pr
      have e2 := congrArg List.length hL
      rw [filter_yes, List.length_map, List.length_range] at e2
      rw [e1, e2]
      omega
    refine t_fzV mu t.zh f1 fun Z2 H2 t2 z2 => fin D ys Z2 H2 nD (t.step t2 (mm_cons (.inr nD) mm_nil)) ((Hand.tt t2 (nm_cons (hand_ne0 nD hh).symm nm_nil) hI).mono (by omega)) z2 hl fun y hy => ?_
    have pl : ∀ {us : List V} {L : List (Nat × Bool)}, Paired (fun y (q : Nat × Bool) => P Z' y) us L → ∀ y ∈ us, P Z' y := fun {us L} p => by
      induction p with
      | nil => exact fun _ h => absurd h List.not_mem_nil
      | cons a _ ih =>
        intro y hy
        rcases List.mem_cons.mp hy with e | hy
        · rw [e]; exact a
        · exact ih y hy
    exact mono t2.z (pl pr y hy)
end
end TR
namespace TR
open PySem L2
/-- all but two things -/
noncomputable def offH (H : Hp) (s h : Addr) : Hp := fun b => if b = s ∨ b = h then none else H b
theorem offH_ex {H : Hp} {s h : Addr} : Ex (offH H s h) H := fun b o e => by
  unfold offH at e
  split at e
  · cases e
  · exact e
theorem offH_at {H : Hp} {s h b : Addr} {o : HO} (n1 : b ≠ s) (n2 : b ≠ h) (e : H b = some o) : offH H s h b = some o := by
  unfold offH
  rw [if_neg (fun z => z.elim n1 n2)]
  exact e
/-- a hand beside which all but some things are held to stay -/
theorem Hand.re {K : PySem.W.Frag} {Z H : Hp} {s h : Addr} {n : Nat} (a : Hand K Z H s n) (zh : Z h = none) : Hand K (offH H s h) H s n := by
  obtain ⟨d, k, c, cells, h1, h3, h4, h5, z1, z2, z3⟩ := a
  refine ⟨d, k, c, cells, h1, h3, h4, h5, offH_ex, if_pos (.inl rfl), ?_⟩
  have ez2 : Ex Z (offH H s h) := fun b o e => by
    have ns : b ≠ s := fun z => by rw [z, z2] at e; cases e
    have nh : b ≠ h := fun z => by rw [z, zh] at e; cases e
    exact offH_at ns nh (z1 b o e)
  exact ez2.sq z3
end TR
namespace TR
open PySem L2
theorem T.ehB {Z H Z' H' : Hp} (t : T [] Z H Z' H') : Ex H H' := fun b o h => t.m b o nm_nil h
theorem book_bounds {count : Int} {book : List T4I} (hc : 0 ≤ count ∧ count ≤ 1000) (bo : BookOk count book) (bl : book.length ≤ 130) : ∀ t ∈ book, ∀ x ∈ [t.a, t.b, t.c, t.d], -2000 ≤ x ∧ x ≤ 2000 := fun t ht x hx => by
  obtain ⟨j, hj⟩ := List.getElem?_of_mem ht
  have jl := (List.getElem?_eq_some_iff.mp hj).1
  obtain ⟨k1, k2, k3, k4, k5⟩ := bo j t hj
  have hr := book_room k1
  have le : (sizesI count (book.take j)).getD t.a.toNat 0 ≤ count := by
    rw [List.getD_eq_getElem?_getD]
    cases e : (sizesI count (book.take j))[t.a.toNat]? with
    | none => exact hc.1
    | some y => exact sizes_le hc.1 bo j (by omega) y (List.mem_of_getElem? e)
  simp only [List.mem_cons, List.not_mem_nil, or_false] at hx
  rcases hx with rfl | rfl | rfl | rfl <;> omega
theorem book_q4 {H Z : Hp} {vs : List V} {book : List T4I} (up : ∀ b xs, H b = some (.tup xs) → Z b = some (.tup xs)) (pr : Paired (Qp H) vs book) (hb : ∀ t ∈ book, ∀ x ∈ [t.a, t.b, t.c, t.d], -2000 ≤ x ∧ x ≤ 2000) : ∀ u ∈ vs, Q4 Z u := by
  induction pr with
  | nil => exact fun _ h => absurd h List.not_mem_nil
  | @cons v t vs book a r ih =>
    intro u hu
    rcases List.mem_cons.mp hu with e | hu
    · obtain ⟨b, h1, h2⟩ := a
      exact ⟨b, t.a, t.b, t.c, t.d, e.trans h1, up _ _ h2, hb t List.mem_cons_self⟩
    · exact ih (fun t ht => hb t (List.mem_cons_of_mem _ ht)) u hu
end TR

/-! words of T: zh (all of Z stands), zz, pz (what stands in Z), hz (in H), iz (data in Z), sqz, stz, nm (not among), nez, al, hd (the hand), la, mu, li, ls, mm, fz (was not there), tt (the whole way); t, ts: steps -/
open PySem L2 TR
local macro_rules | `(tactic| walk_at "zh") => `(tactic| first
  | assumption
  | exact T.zh (by assumption)
  | exact Ex.refl _
  | exact Hand.z (by assumption))
local macro_rules | `(tactic| walk_at "zhx") => `(tactic| first
  | exact T.zh (by assumption)
  | assumption
  | exact Hand.z (by assumption))
local macro_rules | `(tactic| walk_at "pz") => `(tactic| first
  | assumption
  | (apply T.pz; assumption; walk_at "pz"))
local macro_rules | `(tactic| walk_at "hz") => `(tactic| first
  | assumption
  | (apply T.hp; assumption; walk_at "nm"; walk_at "hz"))
local macro_rules | `(tactic| walk_at "nm") => `(tactic| first
  | exact nm_nil
  | assumption
  | (apply nm_cons; walk_at "nez"; walk_at "nm"))
local macro_rules | `(tactic| walk_at "nez") => `(tactic| first
  | assumption
  | (apply Ne.symm; assumption)
  | (apply ne_alF; assumption; walk_at "al")
  | (apply ne_alB; assumption; walk_at "al"))
local macro_rules | `(tactic| walk_at "al") => `(tactic| first
  | exact Hand.at (by assumption)
  | exact Mu.a (by assumption)
  | exact ⟨_, by assumption⟩
  | (apply T.all; assumption; walk_at "al"))
local macro_rules | `(tactic| walk_at "hd") => `(tactic| first
  | assumption
  | (apply Hand.tt; assumption; walk_at "nm"; walk_at "hd"))
local macro_rules | `(tactic| walk_at "ls") => `(tactic| first
  | assumption
  | (apply Ls.ofInts; walk_at "pz"))
local macro_rules | `(tactic| walk_at "lsn") => `(tactic| first
  | (walk_at "ls"))
local macro_rules | `(tactic| walk_at "izc") => `(tactic| first
  | assumption
  | exact Ls.is (by assumption))
local macro_rules | `(tactic| walk_at "iz") => `(tactic| first
  | exact Ik.int _
  | walk_at "izc"
  | (apply Ik.pair; walk_at "pz"; walk_at "iz"; walk_at "iz")
  | (apply Ik.nil; walk_at "pz")
  | (apply Ls.is; walk_at "lsn"))
local macro_rules | `(tactic| walk_at "sqz") => `(tactic| first
  | assumption
  | (apply sq_of; walk_at "pz"))
local macro_rules | `(tactic| walk_at "stz") => `(tactic| first
  | assumption
  | (apply st_of; walk_at "pz"))
/-! the old words, widened -/
local macro_rules | `(tactic| walk_at "hp") => `(tactic| first
  | assumption
  | exact T.zh (by assumption) _ _ (by assumption)
  | (apply ex_ap; walk_at "zhx"; walk_at "pz")
  | walk_at "hz"
  | (apply ex_ap; assumption; walk_at "hp")
  | (apply exm_ap; assumption; walk_at "ne"; walk_at "hp"))
local macro_rules | `(tactic| walk_at "sq") => `(tactic| first
  | assumption
  | (apply sq_of; walk_at "hp")
  | (apply Ex.sq; walk_at "zhx"; walk_at "sqz")
  | focus (apply Ex.sq; rotate_left; assumption; walk_at "ex"))
local macro_rules | `(tactic| walk_at "st") => `(tactic| first
  | assumption
  | (apply st_of; walk_at "hp")
  | (apply Ex.st; walk_at "zhx"; walk_at "stz")
  | focus (apply Ex.st; rotate_left; assumption; walk_at "ex"))
local macro_rules | `(tactic| walk_at "isK") => `(tactic| first
  | (apply Ik.ex; walk_at "zhx"; walk_at "iz")
  | (apply Ik.nil; walk_at "hp"))
local macro_rules | `(tactic| walk_at "is") => `(tactic| first
  | exact Is.int _
  | assumption
  | (apply Ik.is; walk_at "isK"))
/-! steps -/
local macro_rules | `(tactic| walk_at "ig") => `(tactic| first
  | ((with_reducible apply ig_at); walk_at "at")
  | ((with_reducible apply ig_3); omega; intro _ _)
  | ((with_reducible apply ig_4); omega; intro _ _))
local macro_rules | `(tactic| walk_at "q") => `(tactic| first
  | ((with_reducible apply s_var); rfl)
  | (with_reducible (first | apply s_seq | apply s_asg | apply s_gname | apply s_cons | apply s_nil | apply s_call | apply s_op | apply s_c | apply s_if | apply s_test | apply s_ret | apply s_next | apply s_drop | apply s_bl | apply s_and | apply s_or | apply s_not | apply s_CB | apply s_tup | apply s_lst | apply s_tB | apply s_un | apply s_sl | apply s_np | apply s_part)))
local macro_rules | `(tactic| walk_at "t2") => `(tactic| first
  | (with_reducible (first | apply s_andV | apply s_notV | apply s_I0 | apply s_U | apply s_plusI | apply s_eqI | apply s_neI | apply s_neB | apply s_neS | apply s_int | apply s_BM | apply s_gsub | apply s_augS | apply s_ipI | apply s_forL | apply s_forT | apply s_forR1 | apply s_forR2 | apply s_lcL | apply s_lcT | apply s_lcR1))
  | ((with_reducible apply s_wp); rfl)
  | ((with_reducible apply s_mod); walk_at "od"; intro _ _)
  | ((with_reducible apply s_div); walk_at "od"; walk_at "od")
  | (walk_at "pow")
  | ((with_reducible apply s_pow); decide; walk_at "od")
  | ((with_reducible apply s_mulL); walk_at "od")
  | ((with_reducible apply s_mulR); walk_at "od")
  | ((with_reducible apply t_tup); walk_at "zh"; walk_at "od"; intro _ _ _ _ _ _)
  | ((with_reducible apply t_lst0); walk_at "zh"; intro _ _ _ _ _ _ _)
  | ((with_reducible apply t_lst); walk_at "zh"; walk_at "od"; intro _ _ _ _ _ _)
  | ((with_reducible apply drawT); walk_at "hd"; walk_at "od"; walk_at "od"; walk_at "od"; intro _ _ _ _ _ _ _)
  | ((with_reducible apply openT); walk_at "zh"; walk_at "sq"; walk_at "od"; walk_at "od"; intro _ _ _ _ _ _)
  | ((with_reducible apply s_lenM); walk_at "sq")
  | ((with_reducible apply s_lenL); walk_at "sq")
  | ((with_reducible apply s_lenT); walk_at "st")
  | ((with_reducible apply s_gt2); walk_at "st")
  | ((with_reducible apply s_gt4); walk_at "st")
  | (with_reducible (first | apply s_max2 | apply s_min2 | apply s_abs | apply s_int1b))
  | ((with_reducible apply s_isiI); walk_at "kit")
  | ((with_reducible apply s_isiB); walk_at "kit")
  | ((with_reducible apply s_isiS); walk_at "kit")
  | ((with_reducible apply s_isiN); walk_at "kit")
  | ((with_reducible apply s_isiT); walk_at "st"; walk_at "kit")
  | ((with_reducible apply s_isiL); walk_at "sq"; walk_at "kit")
  | ((with_reducible apply s_tyL); walk_at "sq")
  | ((with_reducible apply ixGo); walk_at "sq"; walk_at "ig")
  | ((with_reducible apply ixGoT); walk_at "st"; walk_at "ig")
  | (with_reducible (first | apply i_t | apply i_f | apply i_nt | apply i_nf))
  | ((with_reducible apply i_df); (focus (first | assumption | omega | exact (fun h => h rfl)))))
local macro_rules | `(tactic| walk_at "t") => `(tactic| first
  | walk_at "q"
  | walk_at "t2")
local macro_rules | `(tactic| walk_at "ts") => `(tactic| ((try dsimp only); (repeat walk_at "t")))
/-! as ts, but it stops at list(..) -/
namespace Lw
open PySem L2 TR
open PySem.Spec PyProof.Rows

/-! ### the text -/
def topS (i : Nat) : Stmt := PySem.Challenge.pw_tailrooms_k52_books_looked_at.main.body.getD i (.Pass ⟨0, 0, 0, 0⟩)

structure Z (K : PySem.W.Frag) (mg : Str → Option Value) : Prop where
  b_isinstance : mg "isinstance" = none
  b_bool : mg "bool" = none
  b_int : mg "int" = none
  b_len : mg "len" = none
  b_tuple : mg "tuple" = none
  b_list : mg "list" = none
  b_range : mg "range" = none
  b_repr : mg "repr" = none
  b_str : mg "str" = none
  b_max : mg "max" = none
  b_abs : mg "abs" = none
  b_min : mg "min" = none
  c_MOST_SPLITS : ∃ t, mg "MOST_SPLITS" = some (.int 129 t)

noncomputable abbrev s_whole_rooms : Stmt := topS 1

noncomputable abbrev s_turn : Stmt := topS 2

noncomputable abbrev s_split_of : Stmt := topS 3

noncomputable abbrev s_is_whole : Stmt := topS 5

noncomputable abbrev s_is_split : Stmt := topS 8

noncomputable abbrev s_is_book : Stmt := topS 9

noncomputable abbrev s_law_split : Stmt := topS 14

noncomputable abbrev s_law_is_book : Stmt := topS 18

noncomputable abbrev s_law_right : Stmt := topS 21

noncomputable abbrev s_law_draw : Stmt := topS 12

noncomputable abbrev s_law_odd_split : Stmt := topS 19

noncomputable abbrev s_law_spoilt : Stmt := topS 20

noncomputable abbrev s_law_drawn_book : Stmt := topS 15

noncomputable abbrev s_law_open : Stmt := topS 11

noncomputable abbrev s_law_splits : Stmt := topS 17

noncomputable abbrev s_law_many : Stmt := topS 16

noncomputable abbrev s_law : Stmt := topS 22

theorem sc_whole_rooms : FnScope ["rooms", "found"] ["rooms"] (defScope s_whole_rooms) := ⟨rfl, rfl, rfl, by decide +kernel, rfl, by decide +kernel, by decide +kernel⟩

theorem sc_turn : FnScope ["rooms"] ["rooms"] (defScope s_turn) := ⟨rfl, rfl, rfl, by decide +kernel, rfl, by decide +kernel, by decide +kernel⟩

theorem sc_split_of : FnScope ["rooms"] ["rooms"] (defScope s_split_of) := ⟨rfl, rfl, rfl, by decide +kernel, rfl, by decide +kernel, by decide +kernel⟩

theorem sc_is_whole : FnScope ["thing"] ["thing"] (defScope s_is_whole) := ⟨rfl, rfl, rfl, by decide +kernel, rfl, by decide +kernel, by decide +kernel⟩

theorem sc_is_split : FnScope ["thing", "number"] ["thing"] (defScope s_is_split) := ⟨rfl, rfl, rfl, by decide +kernel, rfl, by decide +kernel, by decide +kernel⟩

theorem sc_is_book : FnScope ["count", "thing", "sizes", "split", "room", "new", "stays", "goes"] ["count", "thing"] (defScope s_is_book) := ⟨rfl, rfl, rfl, by decide +kernel, rfl, by decide +kernel, by decide +kernel⟩

theorem sc_law_split : FnScope ["_law_rooms", "_law_whole"] ["_law_rooms"] (defScope s_law_split) := ⟨rfl, rfl, rfl, by decide +kernel, rfl, by decide +kernel, by decide +kernel⟩

theorem sc_law_is_book : FnScope ["_law_many_here", "_law_thing", "_law_sizes", "_law_split_here", "_law_one"] ["_law_many_here", "_law_thing"] (defScope s_law_is_book) := ⟨rfl, rfl, rfl, by decide +kernel, rfl, by decide +kernel, by decide +kernel⟩

theorem sc_law_right : FnScope ["_law_many_here", "_law_thing", "_law_due", "_law_kept", "_law_k", "_law_told"] ["_law_many_here", "_law_thing"] (defScope s_law_right) := ⟨rfl, rfl, rfl, by decide +kernel, rfl, by decide +kernel, by decide +kernel⟩

theorem sc_law_draw : FnScope ["_law_hand", "_law_many_here", "_law_got", "_law_k", "_law_number"] ["_law_hand", "_law_many_here"] (defScope s_law_draw) := ⟨rfl, rfl, rfl, by decide +kernel, rfl, by decide +kernel, by decide +kernel⟩

theorem sc_law_odd_split : FnScope ["_law_hand", "_law_split_here", "_law_at", "_law_one", "_law_some", "_law_odd", "_law_way", "_law_more"] ["_law_hand", "_law_split_here"] (defScope s_law_odd_split) := ⟨rfl, rfl, rfl, by decide +kernel, rfl, by decide +kernel, by decide +kernel⟩

theorem sc_law_spoilt : FnScope ["_law_hand", "_law_told", "_law_way", "_law_at", "_law_odd", "_law_swapped"] ["_law_hand", "_law_told"] (defScope s_law_spoilt) := ⟨rfl, rfl, rfl, by decide +kernel, rfl, by decide +kernel, by decide +kernel⟩

theorem sc_law_drawn_book : FnScope ["_law_hand", "_law_many_here", "_law_splits_here", "_law_sizes", "_law_told", "_law_rooms", "_law_room", "_law_new", "_law_way", "_law_goes"] ["_law_hand", "_law_many_here", "_law_splits_here"] (defScope s_law_drawn_book) := ⟨rfl, rfl, rfl, by decide +kernel, rfl, by decide +kernel, by decide +kernel⟩

theorem sc_law_open : FnScope ["_law_script", "_law_place", "_law_cells", "_law_at", "_law_digits", "_law_cell"] ["_law_script", "_law_place"] (defScope s_law_open) := ⟨rfl, rfl, rfl, by decide +kernel, rfl, by decide +kernel, by decide +kernel⟩

theorem sc_law_splits : FnScope ["_law_hand"] ["_law_hand"] (defScope s_law_splits) := ⟨rfl, rfl, rfl, by decide +kernel, rfl, by decide +kernel, by decide +kernel⟩

theorem sc_law_many : FnScope ["_law_hand"] ["_law_hand"] (defScope s_law_many) := ⟨rfl, rfl, rfl, by decide +kernel, rfl, by decide +kernel, by decide +kernel⟩

theorem sc_law : FnScope ["_law_script", "_law_place", "_law_hand", "_law_count", "_law_splits_here", "_law_spoil", "_law_told", "_law_some", "_law_thing", "_law_k"] ["_law_script"] (defScope s_law) := ⟨rfl, rfl, rfl, by decide +kernel, rfl, by decide +kernel, by decide +kernel⟩

section
variable {P : Program} {w : World} {K : PySem.W.Frag} {mg : Str → Option Value} {base : Heap}

/-! ### whole_rooms -/
noncomputable def sp_whole_rooms (K : PySem.W.Frag) : Sp := fun vs H Q _ => ∃ r : Int, vs = [.int r] ∧ 1 ≤ r ∧ Q (.int (whole r)) H
theorem has_whole_rooms (z : Z K mg) (F : FunAt K mg "whole_rooms" s_whole_rooms ["rooms"])  : Has P w K mg base "whole_rooms" 1 (sp_whole_rooms K) := by
  refine has_of F sc_whole_rooms (fun vs H Q E h => ?_) (fun f cdv A outer s H vs Q E hr h => ?_)
  · obtain ⟨r, rfl, _⟩ := h
    rfl
  · obtain ⟨r, rfl, h0, q⟩ := h
    refine ⟨_, (pss_cons (ps_set (i := 1) sc_whole_rooms.nd rfl (by first | exact Or.inl rfl | exact Or.inr rfl) pe_int)
        (pss_cons (ps_while PassesOwn.never (pt_cmpR op_le (pe_op op_multA pe_int (pv 1)) (pv 0) (nomark _)) (pss_one (ps_set (i := 1) sc_whole_rooms.nd rfl (by first | exact Or.inl rfl | exact Or.inr rfl) (pe_op op_multA pe_int (pv 1)))))
        (pss_one (ps_ret (pv 1))))), ?_⟩
    walk_at "cx"
    walk_at "ss"
    refine u_while (fun m σ H' => ∃ k : Nat, σ = [some (.int r), some (.int (2 ^ k))] ∧ H' = H ∧ (2 : Int) ^ k ≤ r ∧ m = (r - 2 ^ k).toNat) (r - 1).toNat ⟨0, rfl, rfl, h0, rfl⟩ (fun m σ H' hh => ?_)
    obtain ⟨k, rfl, rfl, hk, rfl⟩ := hh
    have hp := two_pos k
    walk_at "ss"
    refine i_d (fun hd => ?_) (fun hd => ?_)
    · refine w_body ?_
      walk_at "ss"
      exact ⟨(r - 2 ^ (k + 1)).toNat, by rw [two_succ]; omega, k + 1, by rw [two_succ]; rfl, rfl, by rw [two_succ]; omega, rfl⟩
    · walk_at "ss"
      rw [whole_unique hk (by omega)] at q
      exact q

/-! ### turn -/
noncomputable def sp_turn (K : PySem.W.Frag) : Sp := fun vs H Q _ => ∃ r : Int, vs = [.int r] ∧ 1 ≤ r ∧ Q (.int (r - whole r)) H
theorem has_turn (z : Z K mg) (F : FunAt K mg "turn" s_turn ["rooms"]) (h_whole_rooms : Has P w K mg base "whole_rooms" 1 (sp_whole_rooms K)) : Has P w K mg base "turn" 2 (sp_turn K) := by
  refine has_of F sc_turn (fun vs H Q E h => ?_) (fun f cdv A outer s H vs Q E hr h => ?_)
  · obtain ⟨r, rfl, _⟩ := h
    rfl
  · obtain ⟨r, rfl, h0, q⟩ := h
    refine ⟨_, (pss_one (ps_ret (pe_op op_sub (pv 0) (pe_callH h_whole_rooms (by decide) hr rfl (pa_cons (pv 0) pa_nil))))), ?_⟩
    walk_at "cx"
    walk_at "ss"
    refine ⟨_, rfl, h0, ?_⟩
    walk_at "ss"
    exact q

/-! ### split_of -/
noncomputable def sp_split_of (K : PySem.W.Frag) : Sp := fun vs H Q _ => ∃ r : Int, vs = [.int r] ∧ 1 ≤ r ∧ ∀ p H', H p = none → Ex H H' → H' p = some (.tup [.int (r - whole r), .int r]) → Q (.ref p) H'
theorem has_split_of (z : Z K mg) (F : FunAt K mg "split_of" s_split_of ["rooms"]) (h_turn : Has P w K mg base "turn" 2 (sp_turn K)) : Has P w K mg base "split_of" 3 (sp_split_of K) := by
  refine has_of F sc_split_of (fun vs H Q E h => ?_) (fun f cdv A outer s H vs Q E hr h => ?_)
  · obtain ⟨n, rfl, _⟩ := h
    rfl
  · obtain ⟨r, rfl, h0, q⟩ := h
    refine ⟨_, (pss_one (ps_ret (pe_tup (pa_cons (pe_callH h_turn (by decide) hr rfl (pa_cons (pv 0) pa_nil)) (pa_cons (pv 0) pa_nil))))), ?_⟩
    walk_at "cx"
    walk_at "ss"
    refine ⟨_, rfl, h0, ?_⟩
    walk_at "ss"
    rename_i p G n1 e1 f1
    exact q p G n1 e1 f1

/-! ### is_whole -/
noncomputable def sp_is_whole (K : PySem.W.Frag) : Sp := fun vs H Q _ => ∃ (v : V) (d : PyData) (Z : Hp), vs = [v] ∧ Ob Z v d ∧ Ex Z H ∧ Q (.bl (whB d)) H
theorem has_is_whole (z : Z K mg) (F : FunAt K mg "is_whole" s_is_whole ["thing"])  : Has P w K mg base "is_whole" 1 (sp_is_whole K) := by
  refine has_of F sc_is_whole (fun vs H Q E h => ?_) (fun f cdv A outer s H vs Q E hr h => ?_)
  · obtain ⟨_, _, _, rfl, _⟩ := h
    rfl
  · obtain ⟨v, d, Z, rfl, hv, z0, q⟩ := h
    refine ⟨_, (pss_one (ps_ret (pe_and (pe_callB (id := "isinstance") (isiA (K := K) rfl) (by rfl) z.b_isinstance (by decide +kernel) (pa_cons (pv 0) (pa_cons (pe_bltn (v := .ty "int") (by rfl) z.b_int (by decide +kernel) rfl) pa_nil))) (pe_one (pe_not (pe_callB (id := "isinstance") (isiA (K := K) rfl) (by rfl) z.b_isinstance (by decide +kernel) (pa_cons (pv 0) (pa_cons (pe_bltn (v := .ty "bool") (by rfl) z.b_bool (by decide +kernel) rfl) pa_nil)))))))), ?_⟩
    walk_at "cx"
    walk_at "ts"
    refine s_isiOI hv z0 ?_
    rw [whB_eq] at q
    cases e1 : isIntB d with
    | false =>
      rw [e1] at q
      walk_at "ts"
      exact q
    | true =>
      rw [e1] at q
      walk_at "ts"
      refine s_isiOB hv z0 ?_
      walk_at "ts"
      exact q

/-! ### is_split -/
noncomputable def sp_is_split (K : PySem.W.Frag) : Sp := fun vs H Q _ => ∃ (v : V) (d : PyData) (Z : Hp), vs = [v] ∧ Ob Z v d ∧ Ex Z H ∧ Q (.bl (splB d).isSome) H
theorem has_is_split (z : Z K mg) (F : FunAt K mg "is_split" s_is_split ["thing"]) (h_is_whole : Has P w K mg base "is_whole" 1 (sp_is_whole K)) : Has P w K mg base "is_split" 2 (sp_is_split K) := by
  refine has_of F sc_is_split (fun vs H Q E h => ?_) (fun f cdv A outer s H vs Q E hr h => ?_)
  · obtain ⟨_, _, _, rfl, _⟩ := h
    rfl
  · obtain ⟨v, d, Z, rfl, hv, z0, q⟩ := h
    refine ⟨_, (pss_cons (ps_if (PW.pt (pw_or (pt_not (pt_val (pe_callB (id := "isinstance") (isiA (K := K) rfl) (by rfl) z.b_isinstance (by decide +kernel) (pa_cons (pv 0) (pa_cons (pe_bltn (v := .ty "tuple") (by rfl) z.b_tuple (by decide +kernel) rfl) pa_nil))))) (pw_or1 (pt_cmpR (neA (K := K) rfl hr.units) (pe_callB (id := "len") (lenA (K := K) rfl) (by rfl) z.b_len (by decide +kernel) (pa_cons (pv 0) pa_nil)) pe_int (nomark _))))) (pss_one (ps_ret pe_bl)) pss_nil)
        (pss_cons (ps_for PassesOwn.never rfl (piT (K := K) rfl (pv 0)) (pg_name (i := 1) sc_is_split.nd rfl (by first | exact Or.inl rfl | exact Or.inr rfl)) (pss_one (ps_if (pt_not (pt_val (pe_callH h_is_whole (by decide) hr rfl (pa_cons (pv 1) pa_nil)))) (pss_one (ps_ret pe_bl)) pss_nil)))
        (pss_one (ps_ret pe_bl)))), ?_⟩
    walk_at "cx"
    walk_at "ts"
    refine s_isiOT hv z0 ?_
    cases et : isTupB d with
    | false =>
      rw [splB_no et] at q
      walk_at "ts"
      exact q
    | true =>
      obtain ⟨ds, rfl⟩ : ∃ ds, d = .tuple ds := by
        cases d with
        | tuple ds => exact ⟨ds, rfl⟩
        | _ => cases et
      obtain ⟨t, us, rfl, ht, al⟩ := hv.tup_of
      have st := st_of (K := K) (z0 _ _ ht)
      have ul := dts_len al
      rw [splB_tup] at q
      walk_at "ts"
      refine i_d (fun e4 => ?_) (fun e4 => ?_)
      · rw [decide_eq_false (by omega)] at q
        walk_at "ts"
        exact q
      · rw [decide_eq_true (by omega)] at q
        walk_at "ts"
        refine u_forT (fun j σ H' => ∃ x1, σ = [some (.ref t), x1] ∧ H' = H ∧ (ds.take j).all whB = true) st ⟨_, rfl, rfl, rfl⟩ (fun j σ H' _ hh => ?_) (fun j u σ H' hx hh => ?_) (fun σ H' hh => ?_)
        · obtain ⟨x1, _, e, _⟩ := hh
          rw [e]
          exact st
        · obtain ⟨x1, rfl, rfl, ha⟩ := hh
          obtain ⟨x, hx2, dx⟩ := dts_get al hx
          walk_at "ts"
          refine ⟨u, x, Z, rfl, .dat dx, z0, ?_⟩
          cases ew : whB x with
          | false =>
            walk_at "ts"
            have : ds.all whB = false := by
              rw [List.all_eq_false]
              exact ⟨x, List.mem_of_getElem? hx2, by rw [ew]; exact Bool.false_ne_true⟩
            rw [this] at q
            exact q
          | true =>
            walk_at "ts"
            refine ⟨_, rfl, rfl, ?_⟩
            rw [List.take_add_one, hx2, List.all_append, ha]
            simp [ew]
        · obtain ⟨x1, rfl, rfl, ha⟩ := hh
          walk_at "ts"
          rw [ul, List.take_length] at ha
          rw [ha] at q
          exact q

/-! ### is_book -/
noncomputable def sp_is_book (K : PySem.W.Frag) : Sp := fun vs H Q _ => ∃ (count : Int) (v : V) (d : PyData) (Z : Hp), vs = [.int count, v] ∧ TB Z v d ∧ Ex Z H ∧ (∀ ds, d = .list ds → ds.length ≤ 1000) ∧ ∀ Z' H', T [] Z H Z' H' → Q (.bl (bkB count d)) H'
theorem has_is_book (z : Z K mg) (F : FunAt K mg "is_book" s_is_book ["count", "thing"]) (h_split_of : Has P w K mg base "split_of" 3 (sp_split_of K)) (h_is_split : Has P w K mg base "is_split" 2 (sp_is_split K)) : Has P w K mg base "is_book" 4 (sp_is_book K) := by
  refine has_of F sc_is_book (fun vs H Q E h => ?_) (fun f cdv A outer s H vs Q E hr h => ?_)
  · obtain ⟨_, _, _, _, rfl, _⟩ := h
    rfl
  · obtain ⟨count, v, d, Z, rfl, tb, z0, dl, q⟩ := h
    refine ⟨_, (pss_cons (ps_if (PW.pt (pw_or (pt_not (pt_val (pe_callB (id := "isinstance") (isiA (K := K) rfl) (by rfl) z.b_isinstance (by decide +kernel) (pa_cons (pv 1) (pa_cons (pe_bltn (v := .ty "list") (by rfl) z.b_list (by decide +kernel) rfl) pa_nil))))) (pw_or1 (pt_cmpR op_gt (pe_callB (id := "len") (lenA (K := K) rfl) (by rfl) z.b_len (by decide +kernel) (pa_cons (pv 1) pa_nil)) (pe_constI z.c_MOST_SPLITS rfl) (nomark _))))) (pss_one (ps_ret pe_bl)) pss_nil)
        (pss_cons (ps_set (i := 2) sc_is_book.nd rfl (by first | exact Or.inl rfl | exact Or.inr rfl) (pe_lst (pa_cons (pv 0) pa_nil)))
        (pss_cons (ps_for PassesOwn.never rfl (piL (K := K) rfl (pv 1)) (pg_name (i := 3) sc_is_book.nd rfl (by first | exact Or.inl rfl | exact Or.inr rfl)) (pss_cons (ps_if (pt_not (pt_val (pe_callH h_is_split (by decide) hr rfl (pa_cons (pv 3) pa_nil)))) (pss_one (ps_ret pe_bl)) pss_nil)
        (pss_cons (ps_asg (pv 3) (pg_tup rfl (pgs_cons (pg_name (i := 4) sc_is_book.nd rfl (by first | exact Or.inl rfl | exact Or.inr rfl)) (pgs_cons (pg_name (i := 5) sc_is_book.nd rfl (by first | exact Or.inl rfl | exact Or.inr rfl)) (pgs_cons (pg_name (i := 6) sc_is_book.nd rfl (by first | exact Or.inl rfl | exact Or.inr rfl)) (pgs_cons (pg_name (i := 7) sc_is_book.nd rfl (by first | exact Or.inl rfl | exact Or.inr rfl)) pgs_nil))))))
        (pss_cons (ps_if (PW.pt (pw_or (pt_cmpR (neA (K := K) rfl hr.units) (pe_tup (pa_cons (pv 4) (pa_cons (pv 5) pa_nil))) (pe_callH h_split_of (by decide) hr rfl (pa_cons (pe_callB (id := "len") (lenA (K := K) rfl) (by rfl) z.b_len (by decide +kernel) (pa_cons (pv 2) pa_nil)) pa_nil)) (nomark _)) (pw_or (pt_cmpR op_lt (pv 6) pe_int (nomark _)) (pw_or (pt_cmpR op_lt (pv 7) pe_int (nomark _)) (pw_or1 (pt_cmpR (neA (K := K) rfl hr.units) (pe_op op_plusA (pv 6) (pv 7)) (pe_ix (ixA (K := K) rfl) (pv 2) (pv 4) (fun _ _ => rfl)) (nomark _))))))) (pss_one (ps_ret pe_bl)) pss_nil)
        (pss_cons (ps_asg (pv 6) (pg_sub (pv 2) (pv 4) set_list))
        (pss_one (ps_expr (pe_bm PySem.F.plainAttrs_list PySem.F.slot_list_append PySem.F.type_list_append mt_append (pv 2) (pa_cons (pv 7) pa_nil)))))))))
        (pss_one (ps_ret pe_bl))))), ?_⟩
    walk_at "cx"
    walk_at "ts"
    refine s_isiTBL tb z0 ?_
    cases et : isListB d with
    | false =>
      rw [bkB_no et] at q
      walk_at "ts"
      exact q Z H (T.refl z0)
    | true =>
      obtain ⟨ds, rfl⟩ : ∃ ds, d = .list ds := by
        cases d with
        | list ds => exact ⟨ds, rfl⟩
        | _ => cases et
      have dl := dl ds rfl
      obtain ⟨a, us, rfl, ha, ob⟩ := tb.list_of
      have sa := sq_of (K := K) (z0 _ _ ha)
      have ul := Paired.length ob
      walk_at "ts"
      refine i_d (fun e4 => ?_) (fun e4 => ?_)
      · walk_at "ts"
        have := q Z H (T.refl z0)
        rw [bkB_list, decide_eq_false (by omega)] at this
        exact this
      · have hq : ∀ Z' H', T [] Z H Z' H' → Q (.bl (bkGo [count] ds)) H' := fun Z' H' t => by
          have := q Z' H' t
          rw [bkB_list, decide_eq_true (by omega), Bool.true_and] at this
          exact this
        walk_at "ss"
        rename_i p H1 n1 e1 f1
        refine u_forL (fun j σ H' => ∃ x1 x2 x3 x4 x5 s, σ = [some (.int count), some (.ref a), some (.ref p), x1, x2, x3, x4, x5] ∧ Ex H H' ∧ H' p = some (.lst (List.map V.int s)) ∧ s.length = j + 1 ∧ bkGo [count] ds = bkGo s (ds.drop j)) (e1.sq sa) ⟨_, _, _, _, _, [count], rfl, e1, f1, rfl, rfl⟩ (fun j σ H' _ hh => ?_) (fun j u σ H3 hx hh => ?_) (fun σ H3 hh => ?_)
        · obtain ⟨x1, x2, x3, x4, x5, s, _, e, _⟩ := hh
          exact e.sq sa
        · obtain ⟨x1, x2, x3, x4, x5, s, rfl, e3, f3, sl, eb⟩ := hh
          obtain ⟨x, hx2, ox⟩ := obs_get ob hx
          have jl := (List.getElem?_eq_some_iff.mp hx2).1
          have z3 : Ex Z H3 := z0.trans e3
          have ed : ds.drop j = x :: ds.drop (j + 1) := by
            rw [List.drop_eq_getElem_cons jl]
            rw [List.getElem?_eq_getElem jl] at hx2
            rw [Option.some.inj hx2]
          rw [ed] at eb
          walk_at "ss"
          refine ⟨u, x, Z, rfl, ox, z3, ?_⟩
          have bad : splB x = none → Q (.bl false) H3 := fun h => by
            have := hq Z H3 (T.ofEx e3 z0)
            rw [eb, bkGo_bad h] at this
            exact this
          cases es : splB x with
          | none =>
            walk_at "ss"
            exact bad es
          | some w =>
            obtain ⟨ra, nb, sc, ge⟩ := w
            rw [bkGo_if es] at eb
            have ex := splB_some es
            subst ex
            obtain ⟨t, rfl, ht⟩ := ox.four
            have st := st_of (K := K) (z3 _ _ ht)
            rw [show (some (ra, nb, sc, ge)).isSome = true from rfl]
            walk_at "ss"
            refine s_gt4 st ?_
            walk_at "ss"
            rename_i p4 H4 n4 e4' f4
            have f34 := e4' _ _ f3
            have sn := whole_spec (r := (s.length : Int)) (by omega)
            refine ⟨_, rfl, by omega, fun p5 H5 n5 e5 f5 => ?_⟩
            have f35 := e5 _ _ f34
            have no : ¬(ra = (s.length : Int) - whole (s.length : Int) ∧ nb = (s.length : Int) ∧ 0 ≤ sc ∧ 0 ≤ ge ∧ s[ra.toNat]? = some (sc + ge)) → Q (.bl false) H5 := fun h => by
              have := hq Z H5 (T.ofEx ((e3.trans e4').trans e5) z0)
              rw [eb, if_neg h] at this
              exact this
            walk_at "ss"
            refine i_d (fun k1 => ?_) (fun k1 => ?_)
            · walk_at "ss"
              exact no fun h => k1 (by rw [h.1, h.2.1])
            · have k1 := Prod.mk.inj (Decidable.of_not_not k1)
              have r0 : 0 ≤ ra ∧ ra < s.length := by omega
              walk_at "ss"
              refine i_d (fun k2 => ?_) (fun k2 => ?_)
              · walk_at "ss"
                exact no fun h => by omega
              · walk_at "ss"
                refine i_d (fun k3 => ?_) (fun k3 => ?_)
                · walk_at "ss"
                  exact no fun h => by omega
                · walk_at "ss"
                  rename_i v6 hv6
                  refine i_d (fun k4 => ?_) (fun k4 => ?_)
                  · walk_at "ss"
                    exact no fun h => k4 (Option.some.inj (h.2.2.2.2.symm.trans hv6))
                  · have k4 := Decidable.of_not_not k4
                    walk_at "ss"
                    refine n_setL (j := ra.toNat) f35 (ixN_lt r0.1 (by rw [List.length_map]; exact r0.2)) fun H6 m6 f6 => ?_
                    walk_at "ss"
                    refine n_app f6 (by rw [List.length_set, List.length_map]; omega) fun H7 m7 f7 => ?_
                    walk_at "ss"
                    rw [if_pos ⟨k1.1, k1.2, by omega, by omega, by rw [hv6, k4]⟩] at eb
                    refine ⟨_, _, _, _, _, _, rfl, ((((e3.trans e4').trans e5).exm n1 m6).exm n1 m7), ?_, ?_, eb⟩
                    · rw [f7, List.map_append, List.map_set]
                      rfl
                    · rw [List.length_append, List.length_set]
                      show s.length + 1 = _
                      omega
        · obtain ⟨x1, x2, x3, x4, x5, s, rfl, e3, f3, sl, eb⟩ := hh
          walk_at "ss"
          have := hq Z H3 (T.ofEx e3 z0)
          rw [eb, ul, List.drop_length] at this
          exact this

/-! ### _law_split -/
noncomputable def sp_law_split (K : PySem.W.Frag) : Sp := fun vs H Q _ => ∃ r : Int, vs = [.int r] ∧ 1 ≤ r ∧ ∀ p H', H p = none → Ex H H' → H' p = some (.tup [.int (r - whole r), .int r]) → Q (.ref p) H'
theorem has_law_split (z : Z K mg) (F : FunAt K mg "_law_split" s_law_split ["_law_rooms"])  : Has P w K mg base "_law_split" 1 (sp_law_split K) := by
  refine has_of F sc_law_split (fun vs H Q E h => ?_) (fun f cdv A outer s H vs Q E hr h => ?_)
  · obtain ⟨r, rfl, _⟩ := h
    rfl
  · obtain ⟨r, rfl, h0, q⟩ := h
    refine ⟨_, (pss_cons (ps_set (i := 1) sc_law_split.nd rfl (by first | exact Or.inl rfl | exact Or.inr rfl) pe_int)
        (pss_cons (ps_while PassesOwn.never (pt_cmpR op_le (pe_op op_multA pe_int (pv 1)) (pv 0) (nomark _)) (pss_one (ps_set (i := 1) sc_law_split.nd rfl (by first | exact Or.inl rfl | exact Or.inr rfl) (pe_op op_multA pe_int (pv 1)))))
        (pss_one (ps_ret (pe_tup (pa_cons (pe_op op_sub (pv 0) (pv 1)) (pa_cons (pv 0) pa_nil))))))), ?_⟩
    walk_at "cx"
    walk_at "ss"
    refine u_while (fun m σ H' => ∃ k : Nat, σ = [some (.int r), some (.int (2 ^ k))] ∧ H' = H ∧ (2 : Int) ^ k ≤ r ∧ m = (r - 2 ^ k).toNat) (r - 1).toNat ⟨0, rfl, rfl, h0, rfl⟩ (fun m σ H' hh => ?_)
    obtain ⟨k, rfl, rfl, hk, rfl⟩ := hh
    have hp := two_pos k
    walk_at "ss"
    refine i_d (fun hd => ?_) (fun hd => ?_)
    · refine w_body ?_
      walk_at "ss"
      exact ⟨(r - 2 ^ (k + 1)).toNat, by rw [two_succ]; omega, k + 1, by rw [two_succ]; rfl, rfl, by rw [two_succ]; omega, rfl⟩
    · walk_at "ss"
      rename_i p1 H1 n1 e1 f1
      rw [← whole_unique hk (by omega)] at f1
      exact q p1 H1 n1 e1 f1

/-! ### _law_is_book -/
noncomputable def sp_law_is_book (K : PySem.W.Frag) : Sp := fun vs H Q _ => ∃ (count : Int) (v : V) (d : PyData) (Z : Hp), vs = [.int count, v] ∧ TB Z v d ∧ Ex Z H ∧ (∀ ds, d = .list ds → ds.length ≤ 1000 ∧ ∀ e ∈ ds, ElB e) ∧ ∀ Z' H', T [] Z H Z' H' → Q (.bl (bkB count d)) H'
theorem has_law_is_book (z : Z K mg) (F : FunAt K mg "_law_is_book" s_law_is_book ["_law_many_here", "_law_thing"]) (h_law_split : Has P w K mg base "_law_split" 1 (sp_law_split K)) : Has P w K mg base "_law_is_book" 2 (sp_law_is_book K) := by
  refine has_of F sc_law_is_book (fun vs H Q E h => ?_) (fun f cdv A outer s H vs Q E hr h => ?_)
  · obtain ⟨_, _, _, _, rfl, _⟩ := h
    rfl
  · obtain ⟨count, v, d, Z, rfl, tb, z0, dl, q⟩ := h
    refine ⟨_, (pss_cons (ps_if (PW.pt (pw_or (pt_not (pt_val (pe_callB (id := "isinstance") (isiA (K := K) rfl) (by rfl) z.b_isinstance (by decide +kernel) (pa_cons (pv 1) (pa_cons (pe_bltn (v := .ty "list") (by rfl) z.b_list (by decide +kernel) rfl) pa_nil))))) (pw_or1 (pt_cmpR op_gt (pe_callB (id := "len") (lenA (K := K) rfl) (by rfl) z.b_len (by decide +kernel) (pa_cons (pv 1) pa_nil)) pe_int (nomark _))))) (pss_one (ps_ret pe_bl)) pss_nil)
        (pss_cons (ps_set (i := 2) sc_law_is_book.nd rfl (by first | exact Or.inl rfl | exact Or.inr rfl) (pe_lst (pa_cons (pv 0) pa_nil)))
        (pss_cons (ps_for PassesOwn.never rfl (piL (K := K) rfl (pv 1)) (pg_name (i := 3) sc_law_is_book.nd rfl (by first | exact Or.inl rfl | exact Or.inr rfl)) (pss_cons (ps_if (PW.pt (pw_or (pt_not (pt_val (pe_callB (id := "isinstance") (isiA (K := K) rfl) (by rfl) z.b_isinstance (by decide +kernel) (pa_cons (pv 3) (pa_cons (pe_bltn (v := .ty "tuple") (by rfl) z.b_tuple (by decide +kernel) rfl) pa_nil))))) (pw_or1 (pt_cmpR (neA (K := K) rfl hr.units) (pe_callB (id := "len") (lenA (K := K) rfl) (by rfl) z.b_len (by decide +kernel) (pa_cons (pv 3) pa_nil)) pe_int (nomark _))))) (pss_one (ps_ret pe_bl)) pss_nil)
        (pss_cons (ps_if (pt_cmpR (neA (K := K) rfl hr.units) (pe_lc (own := [("_law_one", 4)]) (g := gName 4) rfl sc_law_is_book.nd (piT (K := K) rfl (pv 3)) (blkOk_by (own := [("_law_one", 4)]) (N := ["_law_many_here", "_law_thing", "_law_sizes", "_law_split_here", "_law_one"]) (sc := defScope s_law_is_book) (by decide +kernel)) (fun _ _ _ _ _ => (pg_name (i := 4) sc_law_is_book.nd rfl (by first | exact Or.inl rfl | exact Or.inr rfl))) (fun _ _ _ _ _ => pts_one (PW.pt (pw_or (pt_val (pe_callB (id := "isinstance") (isiA (K := K) rfl) (by rfl) z.b_isinstance (by decide +kernel) (pa_cons (pv 4) (pa_cons (pe_bltn (v := .ty "bool") (by rfl) z.b_bool (by decide +kernel) rfl) pa_nil)))) (pw_or1 (pt_not (pt_val (pe_callB (id := "isinstance") (isiA (K := K) rfl) (by rfl) z.b_isinstance (by decide +kernel) (pa_cons (pv 4) (pa_cons (pe_bltn (v := .ty "int") (by rfl) z.b_int (by decide +kernel) rfl) pa_nil))))))))) (fun _ _ _ _ _ => (pv 4))) (pe_lst pa_nil) (nomark _)) (pss_one (ps_ret pe_bl)) pss_nil)
        (pss_cons (ps_if (PW.pt (pw_or (pt_cmpR (neA (K := K) rfl hr.units) (pe_slice (slTA (K := K) rfl) (pv 3) po_none (po_some pe_int)) (pe_callH h_law_split (by decide) hr rfl (pa_cons (pe_callB (id := "len") (lenA (K := K) rfl) (by rfl) z.b_len (by decide +kernel) (pa_cons (pv 2) pa_nil)) pa_nil)) (nomark _)) (pw_or (pt_cmpR op_lt (pe_ix (ixA (K := K) rfl) (pv 3) pe_int (fun _ _ => rfl)) pe_int (nomark _)) (pw_or1 (pt_cmpR op_lt (pe_ix (ixA (K := K) rfl) (pv 3) pe_int (fun _ _ => rfl)) pe_int (nomark _)))))) (pss_one (ps_ret pe_bl)) pss_nil)
        (pss_cons (ps_if (pt_cmpR (neA (K := K) rfl hr.units) (pe_op op_plusA (pe_ix (ixA (K := K) rfl) (pv 3) pe_int (fun _ _ => rfl)) (pe_ix (ixA (K := K) rfl) (pv 3) pe_int (fun _ _ => rfl))) (pe_ix (ixA (K := K) rfl) (pv 2) (pe_ix (ixA (K := K) rfl) (pv 3) pe_int (fun _ _ => rfl)) (fun _ _ => rfl)) (nomark _)) (pss_one (ps_ret pe_bl)) pss_nil)
        (pss_cons (ps_asg (pe_ix (ixA (K := K) rfl) (pv 3) pe_int (fun _ _ => rfl)) (pg_sub (pv 2) (pe_ix (ixA (K := K) rfl) (pv 3) pe_int (fun _ _ => rfl)) set_list))
        (pss_one (ps_expr (pe_bm PySem.F.plainAttrs_list PySem.F.slot_list_append PySem.F.type_list_append mt_append (pv 2) (pa_cons (pe_ix (ixA (K := K) rfl) (pv 3) pe_int (fun _ _ => rfl)) pa_nil))))))))))
        (pss_one (ps_ret pe_bl))))), ?_⟩
    walk_at "cx"
    walk_at "ts"
    refine s_isiTBL tb z0 ?_
    cases et : isListB d with
    | false =>
      rw [bkB_no et] at q
      walk_at "ts"
      exact q Z H (T.refl z0)
    | true =>
      obtain ⟨ds, rfl⟩ : ∃ ds, d = .list ds := by
        cases d with
        | list ds => exact ⟨ds, rfl⟩
        | _ => cases et
      obtain ⟨dl, de⟩ := dl ds rfl
      obtain ⟨a, us, rfl, ha, ob⟩ := tb.list_of
      have sa := sq_of (K := K) (z0 _ _ ha)
      have ul := Paired.length ob
      walk_at "ts"
      refine i_d (fun e4 => ?_) (fun e4 => ?_)
      · walk_at "ts"
        have := q Z H (T.refl z0)
        rw [bkB_list, decide_eq_false (by omega)] at this
        exact this
      · have hq : ∀ Z' H', T [] Z H Z' H' → Q (.bl (bkGo [count] ds)) H' := fun Z' H' t => by
          have := q Z' H' t
          rw [bkB_list, decide_eq_true (by omega), Bool.true_and] at this
          exact this
        walk_at "ss"
        rename_i p H1 n1 e1 f1
        refine u_forL (fun j σ H' => ∃ x1 x2 s, σ = [some (.int count), some (.ref a), some (.ref p), x1, x2] ∧ Ex H H' ∧ H' p = some (.lst (List.map V.int s)) ∧ s.length = j + 1 ∧ bkGo [count] ds = bkGo s (ds.drop j)) (e1.sq sa) ⟨_, _, [count], rfl, e1, f1, rfl, rfl⟩ (fun j σ H' _ hh => ?_) (fun j u σ H3 hx hh => ?_) (fun σ H3 hh => ?_)
        · obtain ⟨x1, x2, s, _, e, _⟩ := hh
          exact e.sq sa
        · obtain ⟨x1, x2, s, rfl, e3, f3, sl, eb⟩ := hh
          obtain ⟨x, hx2, ox⟩ := obs_get ob hx
          have jl := (List.getElem?_eq_some_iff.mp hx2).1
          have z3 : Ex Z H3 := z0.trans e3
          have ed : ds.drop j = x :: ds.drop (j + 1) := by
            rw [List.drop_eq_getElem_cons jl]
            rw [List.getElem?_eq_getElem jl] at hx2
            rw [Option.some.inj hx2]
          rw [ed] at eb
          have bad : splB x = none → ∀ H4, Ex H3 H4 → Q (.bl false) H4 := fun h H4 e4 => by
            have := hq Z H4 (T.ofEx (e3.trans e4) z0)
            rw [eb, bkGo_bad h] at this
            exact this
          walk_at "ss"
          refine s_isiOT ox z3 ?_
          cases et : isTupB x with
          | false =>
            walk_at "ss"
            exact bad (splB_no et) H3 (Ex.refl _)
          | true =>
            obtain ⟨xs, rfl⟩ : ∃ xs, x = .tuple xs := by
              cases x with
              | tuple xs => exact ⟨xs, rfl⟩
              | _ => cases et
            obtain ⟨t, ws, rfl, ht, al⟩ := ox.tup_of
            have st := st_of (K := K) (z3 _ _ ht)
            have wl := dts_len al
            walk_at "ss"
            refine i_d (fun k0 => ?_) (fun k0 => ?_)
            · walk_at "ss"
              refine bad ?_ H3 (Ex.refl _)
              have := splB_tup (ds := xs)
              rw [decide_eq_false (by omega)] at this
              exact Option.isNone_iff_eq_none.mp (by rw [← Option.not_isSome, this]; rfl)
            · walk_at "ss"
              refine c_filT (Z := Z) (fun y => !whB y) z3 ht al (by omega) (fun i u y hy dy Z4 H4 t4 A B hA hB => ?_) (fun D ys Z4 H4 nD t4 fD dD => ?_)
              · have z4 := t4.zh
                have oy := Ob.dat (Dt.ex t4.z dy)
                rw [whB_eq] at hA hB
                walk_at "ss"
                refine s_isiOB oy z4 ?_
                cases eb2 : isBoolB y with
                | true =>
                  walk_at "ss"
                  exact hA (by rw [eb2]; simp) Z4 H4 (T.refl z4)
                | false =>
                  walk_at "ss"
                  refine s_isiOI oy z4 ?_
                  cases ei : isIntB y with
                  | true =>
                    walk_at "ss"
                    exact hB (by rw [eb2, ei]; rfl) Z4 H4 (T.refl z4)
                  | false =>
                    walk_at "ss"
                    exact hA (by rw [ei]; rfl) Z4 H4 (T.refl z4)
              · have z4 := t4.zh
                have f4 := t4.m _ _ nm_nil f3
                have z34 : Ex H3 H4 := fun b o h => t4.m b o nm_nil h
                walk_at "ss"
                rename_i pn H5 n5 e5 f5
                have gx := (de _ (List.mem_of_getElem? hx2)).gd rfl
                refine s_neE (z4.trans e5) fD dD gx.fil.shaped (sq_of f5) ?_
                rw [fil_nil]
                have f45 := e5 _ _ f4
                cases ea : xs.all whB with
                | false =>
                  walk_at "ss"
                  refine bad ?_ _ (z34.trans e5)
                  have := splB_tup (ds := xs)
                  rw [ea, Bool.and_false] at this
                  exact Option.isNone_iff_eq_none.mp (by rw [← Option.not_isSome, this]; rfl)
                | true =>
                  obtain ⟨ra, nb, sc, ge, rfl, rfl⟩ := int4 al (by omega) ea
                  have es : splB (.tuple [.int ra, .int nb, .int sc, .int ge]) = some (ra, nb, sc, ge) := rfl
                  rw [bkGo_if es] at eb
                  have sn := whole_spec (r := (s.length : Int)) (by omega)
                  have st5 : SqT K H5 t [.int ra, .int nb, .int sc, .int ge] := (z34.trans e5).st st
                  have e35 := e3.trans (z34.trans e5)
                  clear z4 t4 dD fD z34 e5 bad
                  walk_at "ss"
                  refine n_slT st5 (show ¬ (HT.sIx 4 0 none = 0 ∧ HT.sIx 4 4 (some 2) = 4) by decide) fun p6 H6 n6 e6 f6 => ?_
                  have f6 : H6 p6 = some (.tup [.int ra, .int nb]) := f6
                  have f46 := e6 _ _ f45
                  walk_at "ss"
                  refine ⟨_, rfl, by omega, fun p7 H7 n7 e7 f7 => ?_⟩
                  have f67 := e7 _ _ f6
                  have f47 := e7 _ _ f46
                  have st7 := (e6.trans e7).st st5
                  have e37 := e35.trans (e6.trans e7)
                  have no : ¬(ra = (s.length : Int) - whole (s.length : Int) ∧ nb = (s.length : Int) ∧ 0 ≤ sc ∧ 0 ≤ ge ∧ s[ra.toNat]? = some (sc + ge)) → Q (.bl false) H7 := fun h => by
                    have := hq Z H7 (T.ofEx e37 z0)
                    rw [eb, if_neg h] at this
                    exact this
                  walk_at "ss"
                  refine i_d (fun k1 => ?_) (fun k1 => ?_)
                  · walk_at "ss"
                    exact no fun h => k1 (by rw [h.1, h.2.1])
                  · have k1 := Prod.mk.inj (Decidable.of_not_not k1)
                    have r0 : 0 ≤ ra ∧ ra < s.length := by omega
                    walk_at "ss"
                    refine i_d (fun k2 => ?_) (fun k2 => ?_)
                    · walk_at "ss"
                      exact no fun h => by omega
                    · walk_at "ss"
                      refine i_d (fun k3 => ?_) (fun k3 => ?_)
                      · walk_at "ss"
                        exact no fun h => by omega
                      · walk_at "ss"
                        rename_i v6 hv6
                        refine i_d (fun k4 => ?_) (fun k4 => ?_)
                        · walk_at "ss"
                          exact no fun h => k4 (Option.some.inj (h.2.2.2.2.symm.trans hv6))
                        · have k4 := Decidable.of_not_not k4
                          walk_at "ss"
                          refine n_setL (j := ra.toNat) f47 (ixN_lt r0.1 (by rw [List.length_map]; exact r0.2)) fun H8 m8 f8 => ?_
                          walk_at "ss"
                          have st8 : SqT K H8 t [.int ra, .int nb, .int sc, .int ge] := st_of (z0.trans (e37.exm n1 m8) _ _ ht)
                          walk_at "ss"
                          refine n_app f8 (by rw [List.length_set, List.length_map]; omega) fun H9 m9 f9 => ?_
                          walk_at "ss"
                          rw [if_pos ⟨k1.1, k1.2, by omega, by omega, by rw [hv6, k4]⟩] at eb
                          refine ⟨_, _, _, rfl, ((e37.exm n1 m8).exm n1 m9), ?_, ?_, eb⟩
                          · rw [f9, List.map_append, List.map_set]
                            rfl
                          · rw [List.length_append, List.length_set]
                            show s.length + 1 = _
                            omega
        · obtain ⟨x1, x2, s, rfl, e3, f3, sl, eb⟩ := hh
          walk_at "ss"
          have := hq Z H3 (T.ofEx e3 z0)
          rw [eb, ul, List.drop_length] at this
          exact this

/-! ### _law_right -/
noncomputable def sp_law_right (K : PySem.W.Frag) : Sp := fun vs H Q _ => ∃ (count : Int) (v : V) (d : PyData) (Z : Hp), vs = [.int count, v] ∧ TB Z v d ∧ Ex Z H ∧ SmD 16000000 d ∧ (∀ ds, d = .list ds → ds.length ≤ 1000 ∧ ∀ e ∈ ds, ElB e) ∧ ∀ Z' H', T [] Z H Z' H' → Q (.bl true) H'
theorem has_law_right (z : Z K mg) (F : FunAt K mg "_law_right" s_law_right ["_law_many_here", "_law_thing"]) (h_is_book : Has P w K mg base "is_book" 4 (sp_is_book K)) (h_law_is_book : Has P w K mg base "_law_is_book" 2 (sp_law_is_book K)) : HasG P w K mg base "_law_right" 5 (sp_law_right K) := by
  refine has_ofG F sc_law_right (fun vs H Q E h => ?_) (fun f cdv A outer s H vs Q E hr gd h => ?_)
  · obtain ⟨_, _, _, _, rfl, _⟩ := h
    rfl
  · obtain ⟨count, v, d, Z, rfl, tb, z0, sm, dl, q⟩ := h
    refine ⟨_, (pss_cons (ps_set (i := 2) sc_law_right.nd rfl (by first | exact Or.inl rfl | exact Or.inr rfl) (pe_callH h_law_is_book (by decide) hr rfl (pa_cons (pv 0) (pa_cons (pv 1) pa_nil))))
        (pss_cons (ps_set (i := 3) sc_law_right.nd rfl (by first | exact Or.inl rfl | exact Or.inr rfl) (pe_callB (id := "repr") (reprA (K := K) rfl gd hr.units) (by rfl) z.b_repr (by decide +kernel) (pa_cons (pv 1) pa_nil)))
        (pss_cons (ps_for PassesOwn.never rfl (pi_range1 (by rfl) z.b_range (pa_cons pe_int pa_nil)) (pg_name (i := 4) sc_law_right.nd rfl (by first | exact Or.inl rfl | exact Or.inr rfl)) (pss_cons (ps_set (i := 5) sc_law_right.nd rfl (by first | exact Or.inl rfl | exact Or.inr rfl) (pe_callH h_is_book (by decide) hr rfl (pa_cons (pv 0) (pa_cons (pv 1) pa_nil))))
        (pss_one (ps_if (PW.pt (pw_or (pt_not (pt_val (pe_callB (id := "isinstance") (isiA (K := K) rfl) (by rfl) z.b_isinstance (by decide +kernel) (pa_cons (pv 5) (pa_cons (pe_bltn (v := .ty "bool") (by rfl) z.b_bool (by decide +kernel) rfl) pa_nil))))) (pw_or (pt_cmpR (neA (K := K) rfl hr.units) (pv 5) (pv 2) (nomark _)) (pw_or1 (pt_cmpR (neA (K := K) rfl hr.units) (pe_callB (id := "repr") (reprA (K := K) rfl gd hr.units) (by rfl) z.b_repr (by decide +kernel) (pa_cons (pv 1) pa_nil)) (pv 3) (nomark _)))))) (pss_one (ps_ret pe_bl)) pss_nil))))
        (pss_one (ps_ret pe_bl))))), ?_⟩
    walk_at "cx"
    walk_at "ts"
    have dl1 : ∀ ds, d = .list ds → ds.length ≤ 1000 := fun ds e => (dl ds e).1
    have dl2 : ∀ ds, d = .list ds → ∀ e ∈ ds, SmD 16000000 e := fun ds e x hx => ((dl ds e).2 x hx).sm.more (by decide)
    refine ⟨count, v, d, Z, rfl, tb, z0, dl, fun Z1 H1 t1 => ?_⟩
    have z1 := t1.zh
    have tb1 := tb.ex t1.z
    walk_at "ts"
    refine s_repr tb1 z1 sm dl2 ?_
    walk_at "ts"
    refine u_forR1 (fun i σ H' => ∃ x1 x2 Z', σ = [some (.int count), some v, some (.bl (bkB count d)), some (.str d.shown), x1, x2] ∧ T [] Z1 H1 Z' H') (by decide) ⟨_, _, Z1, rfl, T.refl z1⟩ (fun i σ H2 hi hq => ?_) (fun σ H2 hq => ?_)
    · obtain ⟨x1, x2, Z2, rfl, t2⟩ := hq
      have z2 := t2.zh
      have tb2 := tb1.ex t2.z
      walk_at "ts"
      refine ⟨count, v, d, Z2, rfl, tb2, z2, dl1, fun Z3 H3 t3 => ?_⟩
      have z3 := t3.zh
      have tb3 := tb2.ex t3.z
      walk_at "ts"
      refine s_repr tb3 z3 sm dl2 ?_
      walk_at "ts"
      exact ⟨_, _, Z3, rfl, t2.step t3 mm_nil⟩
    · obtain ⟨x1, x2, Z2, rfl, t2⟩ := hq
      walk_at "ts"
      exact q Z2 H2 (t1.step t2 mm_nil)

/-! ### _law_draw -/
noncomputable abbrev sp_law_draw (K : PySem.W.Frag) : Sp := spDraw K
theorem has_law_draw (z : Z K mg) (F : FunAt K mg "_law_draw" s_law_draw ["_law_hand", "_law_many_here"])  : Has P w K mg base "_law_draw" 1 (sp_law_draw K) := by
  refine has_of F sc_law_draw (fun vs H Q E h => ?_) (fun f cdv A outer s H vs Q E hr h => ?_)
  · obtain ⟨a, m, n, Z, rfl, _⟩ := h
    rfl
  · obtain ⟨a, m, n, Z, rfl, ⟨d, k, c, cells, h1, h3, h4, h5, z1, z2, z3⟩, hm0, hm1, q⟩ := h
    refine ⟨_, (pss_cons (ps_if (pt_cmpR op_gt (pe_ix (ixA (K := K) rfl) (pv 0) pe_int (fun _ _ => rfl)) pe_int (nomark _)) (pss_cons (ps_set (i := 2) sc_law_draw.nd rfl (by first | exact Or.inl rfl | exact Or.inr rfl) (pe_op op_mod (pe_ix (ixA (K := K) rfl) (pv 0) pe_int (fun _ _ => rfl)) (pv 1)))
        (pss_cons (ps_asg (pe_op op_fdivW (pe_ix (ixA (K := K) rfl) (pv 0) pe_int (fun _ _ => rfl)) (pv 1)) (pg_sub (pv 0) pe_int set_list))
        (pss_one (ps_ret (pv 2))))) pss_nil)
        (pss_cons (ps_augS (pv 0) pe_int (getA (K := K) rfl) pe_int ip_add set_list)
        (pss_cons (ps_set (i := 3) sc_law_draw.nd rfl (by first | exact Or.inl rfl | exact Or.inr rfl) (pe_ix (ixA (K := K) rfl) (pv 0) pe_int (fun _ _ => rfl)))
        (pss_cons (ps_set (i := 4) sc_law_draw.nd rfl (by first | exact Or.inl rfl | exact Or.inr rfl) (pe_op op_mod (pe_op op_plusA (pe_op op_mod (pe_ix (ixA (K := K) rfl) (pe_ix (ixA (K := K) rfl) (pv 0) pe_int (fun _ _ => rfl)) (pe_op op_mod (pv 3) (pe_callB (id := "len") (lenA (K := K) rfl) (by rfl) z.b_len (by decide +kernel) (pa_cons (pe_ix (ixA (K := K) rfl) (pv 0) pe_int (fun _ _ => rfl)) pa_nil))) (fun _ _ => rfl)) pe_int) (pe_op op_multA pe_int (pv 3))) pe_int))
        (pss_cons (ps_set (i := 4) sc_law_draw.nd rfl (by first | exact Or.inl rfl | exact Or.inr rfl) (pe_op op_mod (pe_op op_plusA (pe_op op_plusA (pe_op op_pow (pv 4) pe_int) (pe_op op_multA (pe_op op_multA pe_int (pv 3)) (pv 3))) pe_int) pe_int))
        (pss_cons (ps_set (i := 4) sc_law_draw.nd rfl (by first | exact Or.inl rfl | exact Or.inr rfl) (pe_op op_mod (pe_op op_plusA (pe_op op_multA (pe_op op_pow (pv 4) pe_int) (pe_op op_plusA (pe_op op_multA pe_int (pv 3)) pe_int)) pe_int) pe_int))
        (pss_one (ps_ret (pe_op op_mod (pe_op op_fdivW (pe_op op_mod (pe_op op_multA (pv 4) pe_int) pe_int) pe_int) (pv 1)))))))))), ?_⟩
    walk_at "cx"
    walk_at "ss"
    refine i_d (fun hd => ?_) (fun hd => ?_)
    · walk_at "ss"
      rename_i G e1 e2
      exact q _ G (Int.emod_nonneg _ (by omega)) (Int.emod_lt_of_pos _ hm0) e1 ⟨_, k, c, cells, e2, h3, h4, by omega, z1.exm z2 e1, z2, z3⟩
    · walk_at "ss"
      rename_i G e1 e2 _ _ v hv _ _ _ _ _ _ _ _ _ _ b1 b2
      exact q _ G b1 b2 e1 ⟨d, k + 1, c, cells, e2, h3, by omega, by omega, z1.exm z2 e1, z2, z3⟩

/-! ### _law_odd_split -/
noncomputable def sp_law_odd_split (K : PySem.W.Frag) : Sp := fun vs H Q _ => ∃ (h t : Addr) (a b c e : Int) (n : Nat) (Z : Hp), vs = [.ref h, .ref t] ∧ Hand K Z H h (n + 10) ∧ Z t = some (.tup [.int a, .int b, .int c, .int e]) ∧ (∀ x ∈ [a, b, c, e], -2000 ≤ x ∧ x ≤ 2000) ∧
  ∀ v Z' H', T [h] Z H Z' H' → Hand K Z' H' h n → AtV 3 19000 Z' v → Q v H'
theorem has_law_odd_split (z : Z K mg) (F : FunAt K mg "_law_odd_split" s_law_odd_split ["_law_hand", "_law_split_here"]) (h_law_draw : Has P w K mg base "_law_draw" 1 (sp_law_draw K)) : Has P w K mg base "_law_odd_split" 2 (sp_law_odd_split K) := by
  refine has_of F sc_law_odd_split (fun vs H Q E h => ?_) (fun f cdv A outer s H vs Q E hr h => ?_)
  · obtain ⟨_, _, _, _, _, _, _, _, rfl, _⟩ := h
    rfl
  · obtain ⟨h, t, a, b, c, e, n, Z, rfl, hh, ht, hx, q⟩ := h
    refine ⟨_, (pss_cons (ps_set (i := 2) sc_law_odd_split.nd rfl (by first | exact Or.inl rfl | exact Or.inr rfl) (pe_callH h_law_draw (by decide) hr rfl (pa_cons (pv 0) (pa_cons pe_int pa_nil))))
        (pss_cons (ps_set (i := 3) sc_law_odd_split.nd rfl (by first | exact Or.inl rfl | exact Or.inr rfl) (pe_ix (ixA (K := K) rfl) (pv 1) (pv 2) (fun _ _ => rfl)))
        (pss_cons (ps_set (i := 4) sc_law_odd_split.nd rfl (by first | exact Or.inl rfl | exact Or.inr rfl) (pe_lst (pa_cons (pe_op op_plusA (pv 3) pe_int) (pa_cons (pe_op op_sub (pv 3) pe_int) (pa_cons (pe_op op_sub pe_int (pv 3)) (pa_cons (pe_callH h_law_draw (by decide) hr rfl (pa_cons (pv 0) (pa_cons pe_int pa_nil))) (pa_cons pe_bl (pa_cons pe_bl (pa_cons pe_non (pa_cons (pe_callTy (T := "str") call_str_int (by rfl) z.b_str (by decide +kernel) (pa_cons (pv 3) pa_nil)) (pa_cons (pe_op op_pow pe_int pe_int) pa_nil)))))))))))
        (pss_cons (ps_set (i := 5) sc_law_odd_split.nd rfl (by first | exact Or.inl rfl | exact Or.inr rfl) (pe_ix (ixA (K := K) rfl) (pe_op op_plusA (pv 4) (pe_lst (pa_cons (pe_lst (pa_cons (pv 3) pa_nil)) (pa_cons (pe_tup (pa_cons (pv 3) pa_nil)) pa_nil)))) (pe_callH h_law_draw (by decide) hr rfl (pa_cons (pv 0) (pa_cons pe_int pa_nil))) (fun _ _ => rfl)))
        (pss_cons (ps_set (i := 6) sc_law_odd_split.nd rfl (by first | exact Or.inl rfl | exact Or.inr rfl) (pe_callH h_law_draw (by decide) hr rfl (pa_cons (pv 0) (pa_cons pe_int pa_nil))))
        (pss_cons (ps_if (pt_cmpR op_lt (pv 6) pe_int (nomark _)) (pss_one (ps_ret (pe_op (catBA (K := K) rfl) (pe_op (catBA (K := K) rfl) (pe_slice (slTA (K := K) rfl) (pv 1) po_none (po_some (pv 2))) (pe_tup (pa_cons (pv 5) pa_nil))) (pe_slice (slTA (K := K) rfl) (pv 1) (po_some (pe_op op_plusA (pv 2) pe_int)) po_none)))) pss_nil)
        (pss_cons (ps_if (pt_cmpR (eqA (K := K) rfl hr.units) (pv 6) pe_int (nomark _)) (pss_cons (ps_set (i := 7) sc_law_odd_split.nd rfl (by first | exact Or.inl rfl | exact Or.inr rfl) (pe_ix (ixA (K := K) rfl) (pe_lst (pa_cons pe_int (pa_cons (pe_un un_neg pe_int) (pa_cons (pe_op op_plusA (pv 3) pe_int) pa_nil)))) (pe_callH h_law_draw (by decide) hr rfl (pa_cons (pv 0) (pa_cons pe_int pa_nil))) (fun _ _ => rfl)))
        (pss_one (ps_ret (pe_op (catBA (K := K) rfl) (pe_slice (slTA (K := K) rfl) (pv 1) po_none (po_some pe_int)) (pe_tup (pa_cons (pe_op op_plusA (pe_ix (ixA (K := K) rfl) (pv 1) pe_int (fun _ _ => rfl)) (pv 7)) (pa_cons (pe_op op_sub (pe_ix (ixA (K := K) rfl) (pv 1) pe_int (fun _ _ => rfl)) (pv 7)) pa_nil))))))) pss_nil)
        (pss_cons (ps_if (pt_cmpR (eqA (K := K) rfl hr.units) (pv 6) pe_int (nomark _)) (pss_one (ps_ret (pe_op (catBA (K := K) rfl) (pe_slice (slTA (K := K) rfl) (pv 1) po_none (po_some pe_int)) (pe_tup (pa_cons (pe_ix (ixA (K := K) rfl) (pv 1) pe_int (fun _ _ => rfl)) (pa_cons (pe_ix (ixA (K := K) rfl) (pv 1) pe_int (fun _ _ => rfl)) pa_nil)))))) pss_nil)
        (pss_one (ps_ret (pe_ix (ixA (K := K) rfl) (pe_lst (pa_cons (pe_callTy (T := "list") (listA (K := K) rfl) (by rfl) z.b_list (by decide +kernel) (pa_cons (pv 1) pa_nil)) (pa_cons (pe_op (catBA (K := K) rfl) (pe_slice (slTA (K := K) rfl) (pv 1) po_none (po_some (pv 2))) (pe_slice (slTA (K := K) rfl) (pv 1) (po_some (pe_op op_plusA (pv 2) pe_int)) po_none)) (pa_cons (pe_op (catBA (K := K) rfl) (pv 1) (pe_tup (pa_cons pe_int pa_nil))) pa_nil)))) (pe_op op_sub (pv 6) pe_int) (fun _ _ => rfl)))))))))))), ?_⟩
    walk_at "cx"
    have z0 : Ex Z H := hh.z
    have st := st_of (K := K) (z0 _ _ ht)
    walk_at "ts"
    rename_i at0 Z1 H1 at1 at2 t1 hh1 one ho r2 Z2 H2 r20 r21 t2 hh2
    have hone : -2000 ≤ one ∧ one ≤ 2000 := by
      refine hx one ?_
      simp only [List.mem_cons, List.not_mem_nil, or_false]
      rcases ho with ⟨_, rfl⟩ | ⟨_, rfl⟩ | ⟨_, rfl⟩ | ⟨_, rfl⟩ <;> simp
    have T2 : T [h] Z H Z2 H2 := ((T.refl z0 : T [h] Z H Z H).step t1 mm_same).step t2 mm_same
    have ht2 := T2.z _ _ ht
    have z2 := T2.zh
    refine ⟨_, rfl, log_small (by omega), ?_⟩
    clear ho t1 t2 hh1 st
    have st2 := st_of (K := K) (z2 _ _ ht2)
    walk_at "ts"
    rename_i p3 Z3 H3 n3 t3 f3 p4 Z4 H4 n4 t4 f4 p5 Z5 H5 n5 t5 f5 p6 Z6 H6 n6 t6 f6
    have e1000 : (10 : Int) ^ Int.toNat 12 = 1000000000000 := by decide +kernel
    refine t_catB t6.zh (t6.z _ _ (t5.z _ _ (t4.z _ _ f3))) f6 (by show 9 + 2 ≤ 100000; decide) fun p7 Z7 H7 n7 t7 f7 => ?_
    have z7 := t7.zh
    have hh7 := ((((hh2.tt t3 nm_nil).tt t4 nm_nil).tt t5 nm_nil).tt t6 nm_nil).tt t7 nm_nil
    have T7 : T [h] Z H Z7 H7 := ((((T2.step t3 mm_nil).step t4 mm_nil).step t5 mm_nil).step t6 mm_nil).step t7 mm_nil
    have g4 := t7.z _ _ (t6.z _ _ (t5.z _ _ f4))
    have g5 := t7.z _ _ (t6.z _ _ f5)
    clear t3 t4 t5 t6 t7 T2 f3 f4 f5 f6 n3 n4 n5 n6 n7 st2 z2 hh2 hh ht2
    walk_at "ts"
    rename_i r8 Z8 H8 r80 r81 t8 hh8
    refine ixGo (sq_of (t8.zh _ _ (t8.z _ _ f7))) (ig_memB ⟨by omega, by show _ < (11 : Int); omega⟩ fun odd hodd _ => ?_)
    have ao := odd11 hone ⟨r20, r21⟩ (atv_num (i := one) (by omega)) (t8.z _ _ g4) (t8.z _ _ g5) (by rw [← e1000]; exact hodd)
    have T8 : T [h] Z H Z8 H8 := T7.step t8 mm_same
    clear t8 T7 f7 g4 g5 hodd hh7 z7
    have z8 := T8.zh
    walk_at "ts"
    rename_i way Z9 H9 w0 w1 t9 hh9
    have T9 : T [h] Z H Z9 H9 := T8.step t9 mm_same
    have ao9 := ao.ex t9.z
    have ht9 := T9.z _ _ ht
    clear t9 T8 ao hh8 z8
    have z9 := T9.zh
    have fo : ∀ u ∈ [V.int a, .int b, .int c, .int e], AtV 1 2100 Z9 u := four_at hx
    have st9 := st_of (K := K) (z9 _ _ ht9)
    have ab : (-2000 ≤ a ∧ a ≤ 2000) ∧ (-2000 ≤ b ∧ b ≤ 2000) ∧ (-2000 ≤ c ∧ c ≤ 2000) ∧ (-2000 ≤ e ∧ e ≤ 2000) := ⟨hx a (by simp), hx b (by simp), hx c (by simp), hx e (by simp)⟩
    refine i_d (fun k1 => ?_) (fun k1 => ?_)
    · walk_at "ts"
      refine t_sl4 z9 ht9 (sl4_lo ⟨at1, at2⟩) fun pa Za Ha na ta fa => ?_
      have za := ta.zh
      walk_at "ts"
      rename_i pb Zb Hb nb tb fb
      have l1 : (cutV [V.int a, V.int b, V.int c, V.int e] none (some at0)).length ≤ 4 := cutV_length _ _ _
      have l2 : (cutV [V.int a, V.int b, V.int c, V.int e] (some (at0 + 1)) none).length ≤ 4 := cutV_length _ _ _
      refine t_catTB tb.zh (tb.z _ _ fa) fb (by rw [List.length_singleton]; omega) fun pc Zc Hc tc fc => ?_
      have zc := tc.zh
      have htc := tc.z _ _ (tb.z _ _ (ta.z _ _ ht9))
      walk_at "ts"
      refine t_sl4 zc htc (sl4_hi ⟨at1, at2⟩) fun pd Zd Hd nd td fd => ?_
      refine t_catTB td.zh (td.z _ _ fc) fd (by rw [List.length_append, List.length_singleton]; omega) fun pe Ze He te fe => ?_
      have e9 : Ex Z9 Ze := ta.z.trans (tb.z.trans (tc.z.trans (td.z.trans te.z)))
      exact q _ Ze He (((((T9.step ta mm_nil).step tb mm_nil).step tc mm_nil).step td mm_nil).step te mm_nil) ((((((hh9.tt ta nm_nil).tt tb nm_nil).tt tc nm_nil).tt td nm_nil).tt te nm_nil).mono (by omega)) ((atv_tup (k := 1) (n := 2100) (m := 9) (N := 19000) fe (by rw [List.length_append, List.length_append, List.length_singleton]; omega) (mem_app (mem_app (mem_cut fun u hu => (fo u hu).ex e9) (mem_one (ao9.ex e9))) (mem_cut fun u hu => (fo u hu).ex e9)) (by decide)).more (by decide) (Nat.le_refl _))
    · walk_at "ts"
      refine i_d (fun k2 => ?_) (fun k2 => ?_)
      · walk_at "ts"
        rename_i pa Za Ha na ta fa ra Zb Hb ra0 ra1 tb hhb more hmore
        have hm : -2001 ≤ more ∧ more ≤ 2001 := by rcases hmore with ⟨_, rfl⟩ | ⟨_, rfl⟩ | ⟨_, rfl⟩ <;> omega
        have zb := tb.zh
        have htb := tb.z _ _ (ta.z _ _ ht9)
        have stb := st_of (K := K) (zb _ _ htb)
        have l1 : (cutV [V.int a, V.int b, V.int c, V.int e] none (some 2)).length ≤ 4 := cutV_length _ _ _
        clear hmore
        refine t_sl4 zb htb (show ¬ (HT.sIx 4 0 none = 0 ∧ HT.sIx 4 4 (some 2) = 4) by decide) fun pc Zc Hc nc tc fc => ?_
        have zc := tc.zh
        have stc := st_of (K := K) (zc _ _ (tc.z _ _ htb))
        walk_at "ts"
        rename_i pd Zd Hd nd td fd
        refine t_catTB td.zh (td.z _ _ fc) fd (by show _ + 2 ≤ _; omega) fun pe Ze He te fe => ?_
        have e9 : Ex Z9 Ze := ta.z.trans (tb.z.trans (tc.z.trans (td.z.trans te.z)))
        have k2' : ∀ x : Int, (-9000 ≤ x ∧ x ≤ 9000) → AtV 1 2100 Ze (.int x) := fun x hx => (atv_int (by omega)).more (by decide) (by decide)
        exact q _ Ze He (((((T9.step ta mm_nil).step tb mm_same).step tc mm_nil).step td mm_nil).step te mm_nil) ((((hhb.tt tc nm_nil).tt td nm_nil).tt te nm_nil).mono (by omega)) ((atv_tup (k := 1) (n := 2100) (m := 9) (N := 19000) fe (by rw [List.length_append]; show _ + 2 ≤ _; omega) (mem_app (mem_cut fun u hu => (fo u hu).ex e9) fun u hu => by
            simp only [List.mem_cons, List.not_mem_nil, or_false] at hu
            rcases hu with rfl | rfl
            · exact k2' _ (by omega)
            · exact k2' _ (by omega)) (by decide)).more (by decide) (Nat.le_refl _))
      · walk_at "ts"
        refine i_d (fun k3 => ?_) (fun k3 => ?_)
        · walk_at "ts"
          have l1 : (cutV [V.int a, V.int b, V.int c, V.int e] none (some 2)).length ≤ 4 := cutV_length _ _ _
          refine t_sl4 z9 ht9 (show ¬ (HT.sIx 4 0 none = 0 ∧ HT.sIx 4 4 (some 2) = 4) by decide) fun pc Zc Hc nc tc fc => ?_
          have zc := tc.zh
          have stc := st_of (K := K) (zc _ _ (tc.z _ _ ht9))
          walk_at "ts"
          rename_i pd Zd Hd nd td fd
          refine t_catTB td.zh (td.z _ _ fc) fd (by show _ + 2 ≤ _; omega) fun pe Ze He te fe => ?_
          have e9 : Ex Z9 Ze := tc.z.trans (td.z.trans te.z)
          have k2' : ∀ x : Int, (-9000 ≤ x ∧ x ≤ 9000) → AtV 1 2100 Ze (.int x) := fun x hx => (atv_int (by omega)).more (by decide) (by decide)
          exact q _ Ze He (((T9.step tc mm_nil).step td mm_nil).step te mm_nil) ((((hh9.tt tc nm_nil).tt td nm_nil).tt te nm_nil).mono (by omega)) ((atv_tup (k := 1) (n := 2100) (m := 9) (N := 19000) fe (by rw [List.length_append]; show _ + 2 ≤ _; omega) (mem_app (mem_cut fun u hu => (fo u hu).ex e9) fun u hu => by
            simp only [List.mem_cons, List.not_mem_nil, or_false] at hu
            rcases hu with rfl | rfl
            · exact k2' _ (by omega)
            · exact k2' _ (by omega)) (by decide)).more (by decide) (Nat.le_refl _))
        · walk_at "ts"
          refine t_list1T z9 ht9 (by show 4 ≤ 100000; decide) fun pa Za Ha na ta fa => ?_
          have za := ta.zh
          walk_at "ts"
          refine t_sl4 za (ta.z _ _ ht9) (sl4_lo ⟨at1, at2⟩) fun pb Zb Hb nb tb fb => ?_
          have zb := tb.zh
          have l1 : (cutV [V.int a, V.int b, V.int c, V.int e] none (some at0)).length ≤ 4 := cutV_length _ _ _
          have l2 : (cutV [V.int a, V.int b, V.int c, V.int e] (some (at0 + 1)) none).length ≤ 4 := cutV_length _ _ _
          walk_at "ts"
          refine t_sl4 zb (tb.z _ _ (ta.z _ _ ht9)) (sl4_hi ⟨at1, at2⟩) fun pc Zc Hc nc tc fc => ?_
          refine t_catTB tc.zh (tc.z _ _ fb) fc (by omega) fun pd Zd Hd td fd => ?_
          have zd := td.zh
          have htd := td.z _ _ (tc.z _ _ (tb.z _ _ (ta.z _ _ ht9)))
          walk_at "ts"
          rename_i pe Ze He ne te fe
          refine t_catTB te.zh (te.z _ _ htd) fe (by show 4 + 1 ≤ 100000; decide) fun pf Zf Hf tf ff => ?_
          have zf := tf.zh
          walk_at "ts"
          rename_i pg Zg Hg ng tg fg
          refine ixGo (sq_of (tg.zh _ _ fg)) (ig_memB ⟨by omega, by show _ < (3 : Int); omega⟩ fun v hv _ => ?_)
          have TT : T [h] Z H Zg Hg := ((((((T9.step ta mm_nil).step tb mm_nil).step tc mm_nil).step td mm_nil).step te mm_nil).step tf mm_nil).step tg mm_nil
          have hhg := ((((((hh9.tt ta nm_nil).tt tb nm_nil).tt tc nm_nil).tt td nm_nil).tt te nm_nil).tt tf nm_nil).tt tg nm_nil
          have eb : Ex Zb Zg := tc.z.trans (td.z.trans (te.z.trans (tf.z.trans tg.z)))
          have e9 : Ex Z9 Zg := ta.z.trans (tb.z.trans eb)
          have m4 : ∀ u ∈ [V.int a, .int b, .int c, .int e], AtV 1 2100 Zg u := fun u hu => (fo u hu).ex e9
          simp only [List.mem_cons, List.not_mem_nil, or_false] at hv
          rcases hv with rfl | rfl | rfl
          · exact q _ Zg Hg TT (hhg.mono (by omega)) ((atv_list (k := 1) (n := 2100) (m := 9) (N := 19000) (eb _ _ (tb.z _ _ fa)) (by show 4 ≤ 9; decide) m4 (by decide)).more (by decide) (Nat.le_refl _))
          · exact q _ Zg Hg TT (hhg.mono (by omega)) ((atv_tup (k := 1) (n := 2100) (m := 9) (N := 19000) (tg.z _ _ (tf.z _ _ (te.z _ _ fd))) (by rw [List.length_append]; omega) (mem_app (mem_cut m4) (mem_cut m4)) (by decide)).more (by decide) (Nat.le_refl _))
          · exact q _ Zg Hg TT (hhg.mono (by omega)) ((atv_tup (k := 1) (n := 2100) (m := 9) (N := 19000) (tg.z _ _ ff) (by show 5 ≤ 9; decide) (mem_app m4 (mem_one ((atv_int (by omega)).more (by decide) (by decide)))) (by decide)).more (by decide) (Nat.le_refl _))

/-! ### _law_spoilt -/
noncomputable def sp_law_spoilt (K : PySem.W.Frag) : Sp := fun vs H Q _ => ∃ (h p : Addr) (us : List V) (n : Nat) (Z : Hp), vs = [.ref h, .ref p] ∧ Hand K Z H h (n + 30) ∧ Z p = some (.lst us) ∧ us.length ≤ 130 ∧ (∀ u ∈ us, Q4 Z u) ∧
  ∀ v Z' H', T [h] Z H Z' H' → Hand K Z' H' h n → ThB Z' v → Q v H'
theorem has_law_spoilt (z : Z K mg) (F : FunAt K mg "_law_spoilt" s_law_spoilt ["_law_hand", "_law_told"]) (h_law_draw : Has P w K mg base "_law_draw" 1 (sp_law_draw K)) (h_law_odd_split : Has P w K mg base "_law_odd_split" 2 (sp_law_odd_split K)) : Has P w K mg base "_law_spoilt" 3 (sp_law_spoilt K) := by
  refine has_of F sc_law_spoilt (fun vs H Q E h => ?_) (fun f cdv A outer s H vs Q E hr h => ?_)
  · obtain ⟨_, _, _, _, _, rfl, _⟩ := h
    rfl
  · obtain ⟨h, p, us, n, Z, rfl, hh, hp, bl, bx, q⟩ := h
    refine ⟨_, (pss_cons (ps_set (i := 2) sc_law_spoilt.nd rfl (by first | exact Or.inl rfl | exact Or.inr rfl) (pe_callH h_law_draw (by decide) hr rfl (pa_cons (pv 0) (pa_cons pe_int pa_nil))))
        (pss_cons (ps_set (i := 3) sc_law_spoilt.nd rfl (by first | exact Or.inl rfl | exact Or.inr rfl) (pe_callH h_law_draw (by decide) hr rfl (pa_cons (pv 0) (pa_cons (pe_callB (id := "max") (call_max2A rfl) (by rfl) z.b_max (by decide +kernel) (pa_cons pe_int (pa_cons (pe_callB (id := "len") (lenA (K := K) rfl) (by rfl) z.b_len (by decide +kernel) (pa_cons (pv 1) pa_nil)) pa_nil))) pa_nil))))
        (pss_cons (ps_set (i := 4) sc_law_spoilt.nd rfl (by first | exact Or.inl rfl | exact Or.inr rfl) (pe_ix (ixA (K := K) rfl) (pe_lst (pa_cons pe_non (pa_cons pe_int (pa_cons pe_str (pa_cons (pe_lst pa_nil) (pa_cons pe_dnewK (pa_cons (pe_tup pa_nil) (pa_cons (pe_tup pa_nil) pa_nil)))))))) (pe_callH h_law_draw (by decide) hr rfl (pa_cons (pv 0) (pa_cons pe_int pa_nil))) (fun _ _ => rfl)))
        (pss_cons (ps_if (pt_cmpR (eqA (K := K) rfl hr.units) (pv 1) (pe_lst pa_nil) (nomark _)) (pss_one (ps_ret (pe_ix (ixA (K := K) rfl) (pe_lst (pa_cons (pe_lst (pa_cons (pv 4) pa_nil)) (pa_cons (pe_tup pa_nil) (pa_cons (pe_lst (pa_cons (pe_tup (pa_cons pe_int (pa_cons pe_int (pa_cons pe_int (pa_cons pe_int pa_nil))))) pa_nil)) (pa_cons (pe_callTy (T := "tuple") call_tuple_of (by rfl) z.b_tuple (by decide +kernel) (pa_cons (pv 1) pa_nil)) (pa_cons (pe_lst (pa_cons (pe_tup (pa_cons pe_int (pa_cons pe_int (pa_cons pe_int (pa_cons pe_int pa_nil))))) pa_nil)) (pa_cons (pe_lst (pa_cons (pe_tup (pa_cons pe_int (pa_cons pe_int (pa_cons pe_int (pa_cons pe_int pa_nil))))) pa_nil)) (pa_cons pe_dnewK (pa_cons pe_non pa_nil))))))))) (pv 2) (fun _ _ => rfl)))) pss_nil)
        (pss_cons (ps_if (pt_cmpR op_lt (pv 2) pe_int (nomark _)) (pss_one (ps_ret (pe_op op_plusA (pe_op op_plusA (pe_slice (slA (K := K) rfl) (pv 1) po_none (po_some (pv 3))) (pe_lst (pa_cons (pe_callH h_law_odd_split (by decide) hr rfl (pa_cons (pv 0) (pa_cons (pe_ix (ixA (K := K) rfl) (pv 1) (pv 3) (fun _ _ => rfl)) pa_nil))) pa_nil))) (pe_slice (slA (K := K) rfl) (pv 1) (po_some (pe_op op_plusA (pv 3) pe_int)) po_none)))) pss_nil)
        (pss_cons (ps_if (pt_cmpR (eqA (K := K) rfl hr.units) (pv 2) pe_int (nomark _)) (pss_one (ps_ret (pe_op op_plusA (pe_slice (slA (K := K) rfl) (pv 1) po_none (po_some (pv 3))) (pe_slice (slA (K := K) rfl) (pv 1) (po_some (pe_op op_plusA (pv 3) pe_int)) po_none)))) pss_nil)
        (pss_cons (ps_if (pt_cmpR (eqA (K := K) rfl hr.units) (pv 2) pe_int (nomark _)) (pss_one (ps_ret (pe_op op_plusA (pe_op op_plusA (pe_slice (slA (K := K) rfl) (pv 1) po_none (po_some (pv 3))) (pe_slice (slA (K := K) rfl) (pv 1) (po_some (pv 3)) (po_some (pe_op op_plusA (pv 3) pe_int)))) (pe_slice (slA (K := K) rfl) (pv 1) (po_some (pv 3)) po_none)))) pss_nil)
        (pss_cons (ps_if (pt_cmpR (eqA (K := K) rfl hr.units) (pv 2) pe_int (nomark _)) (pss_cons (ps_set (i := 5) sc_law_spoilt.nd rfl (by first | exact Or.inl rfl | exact Or.inr rfl) (pe_op op_plusA (pe_slice (slA (K := K) rfl) (pv 1) (po_some (pe_op op_plusA (pv 3) pe_int)) (po_some (pe_op op_plusA (pv 3) pe_int))) (pe_slice (slA (K := K) rfl) (pv 1) (po_some (pv 3)) (po_some (pe_op op_plusA (pv 3) pe_int)))))
        (pss_one (ps_ret (pe_op op_plusA (pe_op op_plusA (pe_slice (slA (K := K) rfl) (pv 1) po_none (po_some (pv 3))) (pv 5)) (pe_slice (slA (K := K) rfl) (pv 1) (po_some (pe_op op_plusA (pv 3) pe_int)) po_none))))) pss_nil)
        (pss_cons (ps_if (pt_cmpR (eqA (K := K) rfl hr.units) (pv 2) pe_int (nomark _)) (pss_one (ps_ret (pe_op op_plusA (pe_op op_plusA (pe_slice (slA (K := K) rfl) (pv 1) po_none (po_some (pv 3))) (pe_lst (pa_cons (pv 4) pa_nil))) (pe_slice (slA (K := K) rfl) (pv 1) (po_some (pv 3)) po_none)))) pss_nil)
        (pss_one (ps_ret (pe_ix (ixA (K := K) rfl) (pe_lst (pa_cons (pe_callTy (T := "tuple") call_tuple_of (by rfl) z.b_tuple (by decide +kernel) (pa_cons (pv 1) pa_nil)) (pa_cons (pe_slice (slA (K := K) rfl) (pv 1) po_none (po_some (pv 3))) pa_nil))) (pe_callH h_law_draw (by decide) hr rfl (pa_cons (pv 0) (pa_cons pe_int pa_nil))) (fun _ _ => rfl))))))))))))), ?_⟩
    walk_at "cx"
    have z0 : Ex Z H := hh.z
    have sp := sq_of (K := K) (z0 _ _ hp)
    walk_at "ts"
    rename_i way Z1 H1 w0 w1 t1 hh1 at0 Z2 H2 a0 a1 t2 hh2 pe Z3 H3 ne t3 mu3 f3
    have tf : T [pe] Z3 H3 (upd Z3 pe (.lst [])) H3 := T.fz t3.zh mu3.z f3
    have fe : (upd Z3 pe (.lst [])) pe = some (.lst []) := upd_same
    have n3 : H pe = none := t1.nn (t2.nn ne)
    have hh3 := (hh2.tt t3 nm_nil).tt tf (nm_cons (ne_alB n3 hh.at) nm_nil)
    generalize upd Z3 pe (.lst []) = Z4 at tf fe hh3
    have T3 : T [h] Z H Z4 H3 := (((T.refl z0 : T [h] Z H Z H).step t1 mm_same).step t2 mm_same |>.step t3 mm_nil).step tf (mm_cons (.inr n3) mm_nil)
    clear t1 t2 t3 tf mu3 f3 hh1 hh2 ne sp
    have z3 := T3.zh
    refine t_dnewB z3 fun pd Z5 H5 nd t5 f5 => ?_
    have z5 := t5.zh
    walk_at "ts"
    rename_i pt1 Z6 H6 nt1 t6 f6 pt2 Z7 H7 nt2 t7 f7 pL Z8 H8 nL t8 f8 r9 Z9 H9 r90 r91 t9 hh9
    refine ixGo (sq_of (t9.zh _ _ (t9.z _ _ f8))) (ig_memB ⟨by omega, by show _ < (7 : Int); omega⟩ fun odd hodd _ => ?_)
    have e79 := t8.z.trans t9.z
    have e69 := t7.z.trans e79
    have eo := odd7 (e69 _ _ (t6.z _ _ (t5.z _ _ fe))) (e69 _ _ (t6.z _ _ f5)) (e69 _ _ f6) (e79 _ _ f7) hodd
    have T9 : T [h] Z H Z9 H9 := ((((T3.step t5 mm_nil).step t6 mm_nil).step t7 mm_nil).step t8 mm_nil).step t9 mm_same
    have hp9 := T9.z _ _ hp
    have bx9 : ∀ u ∈ us, Q4 Z9 u := fun u hu => (bx u hu).ex T9.z
    clear t5 t6 t7 t8 t9 T3 e79 e69 fe f5 f6 f7 f8 hodd hh3 nd nt1 nt2 nL n3 z5 z3
    have z9 := T9.zh
    walk_at "ts"
    rename_i pz Zz Hz nz tz muz fz
    refine s_eqE tz.zh (tz.z _ _ hp9) (fun u hu => (bx9 u hu).ex tz.z) (sq_of fz) ?_
    have T0 : T [h] Z H Zz Hz := T9.step tz mm_nil
    have hh0 := hh9.tt tz nm_nil
    have eo0 := eo.ex tz.z
    have hp0 := tz.z _ _ hp9
    have bx0 : ∀ u ∈ us, Q4 Zz u := fun u hu => (bx9 u hu).ex tz.z
    clear tz muz fz nz T9 hh9 eo hp9 bx9 z9
    have z9 := T0.zh
    walk_at "ts"
    refine i_d (fun k0 => ?_) (fun k0 => ?_)
    · walk_at "ts"
      rename_i q1 Za Ha n1 ta f1 q2 Zb Hb n2 tb f2 q3 Zc Hc n3 tc f3 q4 Zd Hd n4 td f4
      have hpd := td.z _ _ (tc.z _ _ (tb.z _ _ (ta.z _ _ hp0)))
      refine ⟨p, us, rfl, .inl ⟨sq_of (td.zh _ _ hpd), fun q5 n5 => ?_⟩⟩
      have te : T [] Zd Hd (upd Zd q5 (.tup us)) (upd Hd q5 (.tup us)) := T.new n5 td.zh
      have f5 : (upd Zd q5 (.tup us)) q5 = some (.tup us) := upd_same
      generalize upd Zd q5 (.tup us) = Ze at te f5
      generalize upd Hd q5 (.tup us) = He at te ⊢
      have ze := te.zh
      walk_at "ts"
      rename_i q6 Zf Hf n6 tf f6 q7 Zg Hg n7 tg f7 q8 Zh Hh n8 th f8 q9 Zi Hi n9 ti f9
      refine t_dnewB ti.zh fun qa Zj Hj n10 tj f10 => ?_
      have zj := tj.zh
      walk_at "ts"
      rename_i qL Zk Hk nk tk fk
      refine ixGo (sq_of (tk.zh _ _ fk)) (ig_memB ⟨w0, by show _ < (8 : Int); omega⟩ fun v hv _ => ?_)
      have ek := tk.z
      have ej := tj.z.trans ek
      have ei := ti.z.trans ej
      have eh := th.z.trans ei
      have eg := tg.z.trans eh
      have ef := tf.z.trans eg
      have ee := te.z.trans ef
      have ed := td.z.trans ee
      have ec := tc.z.trans ed
      have eb := tb.z.trans ec
      have e0 := ta.z.trans eb
      have TT : T [h] Z H Zk Hk := ((((((((((T0.step ta mm_nil).step tb mm_nil).step tc mm_nil).step td mm_nil).step te mm_nil).step tf mm_nil).step tg mm_nil).step th mm_nil).step ti mm_nil).step tj mm_nil).step tk mm_nil
      have hhk := ((((((((((hh0.tt ta nm_nil).tt tb nm_nil).tt tc nm_nil).tt td nm_nil).tt te nm_nil).tt tf nm_nil).tt tg nm_nil).tt th nm_nil).tt ti nm_nil).tt tj nm_nil).tt tk nm_nil
      have m3 : ∀ u ∈ [V.ref q3], ElV Zk u := mem_one (Q4.el ⟨q3, 0, 1, 0, 0, rfl, ed _ _ f3, fun x hx => by simp only [List.mem_cons, List.not_mem_nil, or_false] at hx; omega⟩)
      have m6 : ∀ u ∈ [V.ref q6], ElV Zk u := mem_one (Q4.el ⟨q6, 0, 1, 1, 0, rfl, eg _ _ f6, fun x hx => by simp only [List.mem_cons, List.not_mem_nil, or_false] at hx; omega⟩)
      have m8 : ∀ u ∈ [V.ref q8], ElV Zk u := mem_one (Q4.el ⟨q8, 1, 1, 0, 0, rfl, ei _ _ f8, fun x hx => by simp only [List.mem_cons, List.not_mem_nil, or_false] at hx; omega⟩)
      have fin : ∀ v, ThB Zk v → Q v Hk := fun v hv => q v Zk Hk TT (hhk.mono (by omega)) hv
      simp only [List.mem_cons, List.not_mem_nil, or_false] at hv
      rcases hv with rfl | rfl | rfl | rfl | rfl | rfl | rfl | rfl
      · exact fin _ (thb_list (eb _ _ f1) (by show 1 ≤ 800; decide) (mem_one (eo0.ex e0)))
      · exact fin _ (thb_tup (ec _ _ f2) (Nat.zero_le _) fun _ h => absurd h List.not_mem_nil)
      · exact fin _ (thb_list (ee _ _ f4) (by show 1 ≤ 800; decide) m3)
      · exact fin _ (thb_tup (ef _ _ f5) (by omega) fun u hu => ((bx0 u hu).ex e0).at_)
      · exact fin _ (thb_list (eh _ _ f7) (by show 1 ≤ 800; decide) m6)
      · exact fin _ (thb_list (ej _ _ f9) (by show 1 ≤ 800; decide) m8)
      · exact fin _ (thb_dct (ek _ _ f10))
      · exact fin _ (thb_at atv_non (fun _ _ e => by cases e) (by decide) (by decide))
    · have at1 : at0 < us.length := by omega
      have sp0 := sq_of (K := K) (z9 _ _ hp0)
      walk_at "ts"
      refine i_d (fun k1 => ?_) (fun k1 => ?_)
      · walk_at "ts"
        refine t_slB z9 hp0 fun pa Za Ha na ta fa => ?_
        have za := ta.zh
        have spa := sq_of (K := K) (za _ _ (ta.z _ _ hp0))
        walk_at "ts"
        refine ixGo spa (ig_memB ⟨a0, at1⟩ fun u hu _ => ?_)
        obtain ⟨t, a, b, c, e, rfl, ht, hx⟩ := (bx0 u hu).ex ta.z
        walk_at "ts"
        refine ⟨h, t, a, b, c, e, n + 17, Za, rfl, (hh0.tt ta nm_nil).mono (by omega), ht, hx, fun v Zb Hb tb hhb av => ?_⟩
        have zb := tb.zh
        walk_at "ts"
        rename_i pc Zc Hc nc tc fc
        have c1 : (cutV us none (some at0)).length ≤ 130 := Nat.le_trans (cutV_length _ _ _) bl
        have c2 : (cutV us (some (at0 + 1)) none).length ≤ 130 := Nat.le_trans (cutV_length _ _ _) bl
        refine t_catB tc.zh (tc.z _ _ (tb.z _ _ fa)) fc (by rw [List.length_singleton]; omega) fun pd Zd Hd nd td fd => ?_
        have zd := td.zh
        have hpd := td.z _ _ (tc.z _ _ (tb.z _ _ (ta.z _ _ hp0)))
        walk_at "ts"
        refine t_slB zd hpd fun pf Zf Hf nf tf ff => ?_
        refine t_catB tf.zh (tf.z _ _ fd) ff (by rw [List.length_append, List.length_singleton]; omega) fun pg Zg Hg ng tg fg => ?_
        have zg := tg.zh
        have eb := tc.z.trans (td.z.trans (tf.z.trans tg.z))
        have e0 := ta.z.trans (tb.z.trans eb)
        walk_at "ts"
        exact q _ Zg Hg ((((((T0.step ta mm_nil).step tb mm_same).step tc mm_nil).step td mm_nil).step tf mm_nil).step tg mm_nil) (((((hhb.tt tc nm_nil).tt td nm_nil).tt tf nm_nil).tt tg nm_nil).mono (by omega)) (thb_list fg (by rw [List.length_append, List.length_append, List.length_singleton]; omega) (mem_app (mem_app (mem_cut fun u hu => ((bx0 u hu).ex e0).el) (mem_one ((av.ex eb).el (by decide) (by decide)))) (mem_cut fun u hu => ((bx0 u hu).ex e0).el)))
      · walk_at "ts"
        refine i_d (fun k2 => ?_) (fun k2 => ?_)
        · walk_at "ts"
          have c1 : (cutV us none (some at0)).length ≤ 130 := Nat.le_trans (cutV_length _ _ _) bl
          have c2 : (cutV us (some (at0 + 1)) none).length ≤ 130 := Nat.le_trans (cutV_length _ _ _) bl
          refine t_slB z9 hp0 fun pa Za Ha na ta fa => ?_
          have za := ta.zh
          walk_at "ts"
          refine t_slB za (ta.z _ _ hp0) fun pb Zb Hb nb tb fb => ?_
          refine t_catB tb.zh (tb.z _ _ fa) fb (by omega) fun pc Zc Hc nc tc fc => ?_
          have e0 := ta.z.trans (tb.z.trans tc.z)
          have zc := tc.zh
          walk_at "ts"
          exact q _ Zc Hc (((T0.step ta mm_nil).step tb mm_nil).step tc mm_nil) ((((hh0.tt ta nm_nil).tt tb nm_nil).tt tc nm_nil).mono (by omega)) (thb_list fc (by rw [List.length_append]; omega) (mem_app (mem_cut fun u hu => ((bx0 u hu).ex e0).el) (mem_cut fun u hu => ((bx0 u hu).ex e0).el)))
        · walk_at "ts"
          refine i_d (fun k3 => ?_) (fun k3 => ?_)
          · walk_at "ts"
            have c1 : (cutV us none (some at0)).length ≤ 130 := Nat.le_trans (cutV_length _ _ _) bl
            have c2 : (cutV us (some at0) (some (at0 + 1))).length ≤ 130 := Nat.le_trans (cutV_length _ _ _) bl
            have c3 : (cutV us (some at0) none).length ≤ 130 := Nat.le_trans (cutV_length _ _ _) bl
            refine t_slB z9 hp0 fun pa Za Ha na ta fa => ?_
            have za := ta.zh
            walk_at "ts"
            refine t_slB za (ta.z _ _ hp0) fun pb Zb Hb nb tb fb => ?_
            refine t_catB tb.zh (tb.z _ _ fa) fb (by omega) fun pc Zc Hc nc tc fc => ?_
            have zc := tc.zh
            walk_at "ts"
            refine t_slB zc (tc.z _ _ (tb.z _ _ (ta.z _ _ hp0))) fun pd Zd Hd nd td fd => ?_
            refine t_catB td.zh (td.z _ _ fc) fd (by rw [List.length_append]; omega) fun pf Zf Hf nf tf ff => ?_
            have zf := tf.zh
            have e0 := ta.z.trans (tb.z.trans (tc.z.trans (td.z.trans tf.z)))
            walk_at "ts"
            exact q _ Zf Hf (((((T0.step ta mm_nil).step tb mm_nil).step tc mm_nil).step td mm_nil).step tf mm_nil) ((((((hh0.tt ta nm_nil).tt tb nm_nil).tt tc nm_nil).tt td nm_nil).tt tf nm_nil).mono (by omega)) (thb_list ff (by rw [List.length_append, List.length_append]; omega) (mem_app (mem_app (mem_cut fun u hu => ((bx0 u hu).ex e0).el) (mem_cut fun u hu => ((bx0 u hu).ex e0).el)) (mem_cut fun u hu => ((bx0 u hu).ex e0).el)))
          · walk_at "ts"
            refine i_d (fun k4 => ?_) (fun k4 => ?_)
            · walk_at "ts"
              have c1 : (cutV us none (some at0)).length ≤ 130 := Nat.le_trans (cutV_length _ _ _) bl
              have c2 : (cutV us (some (at0 + 1)) (some (at0 + 2))).length ≤ 130 := Nat.le_trans (cutV_length _ _ _) bl
              have c3 : (cutV us (some at0) (some (at0 + 1))).length ≤ 130 := Nat.le_trans (cutV_length _ _ _) bl
              have c4 : (cutV us (some (at0 + 2)) none).length ≤ 130 := Nat.le_trans (cutV_length _ _ _) bl
              refine t_slB z9 hp0 fun pa Za Ha na ta fa => ?_
              have za := ta.zh
              walk_at "ts"
              refine t_slB za (ta.z _ _ hp0) fun pb Zb Hb nb tb fb => ?_
              refine t_catB tb.zh (tb.z _ _ fa) fb (by omega) fun pc Zc Hc nc tc fc => ?_
              have zc := tc.zh
              have hpc := tc.z _ _ (tb.z _ _ (ta.z _ _ hp0))
              walk_at "ts"
              refine t_slB zc hpc fun pd Zd Hd nd td fd => ?_
              have zd := td.zh
              walk_at "ts"
              refine t_catB td.zh fd (td.z _ _ fc) (by rw [List.length_append]; omega) fun pf Zf Hf nf tf ff => ?_
              have zf := tf.zh
              walk_at "ts"
              refine t_slB zf (tf.z _ _ (td.z _ _ hpc)) fun pg Zg Hg ng tg fg => ?_
              refine t_catB tg.zh (tg.z _ _ ff) fg (by rw [List.length_append, List.length_append]; omega) fun pi Zi Hi ni ti fi => ?_
              have zi := ti.zh
              have e0 := ta.z.trans (tb.z.trans (tc.z.trans (td.z.trans (tf.z.trans (tg.z.trans ti.z)))))
              walk_at "ts"
              exact q _ Zi Hi (((((((T0.step ta mm_nil).step tb mm_nil).step tc mm_nil).step td mm_nil).step tf mm_nil).step tg mm_nil).step ti mm_nil) ((((((((hh0.tt ta nm_nil).tt tb nm_nil).tt tc nm_nil).tt td nm_nil).tt tf nm_nil).tt tg nm_nil).tt ti nm_nil).mono (by omega)) (thb_list fi (by rw [List.length_append, List.length_append, List.length_append]; omega) (mem_app (mem_app (mem_cut fun u hu => ((bx0 u hu).ex e0).el) (mem_app (mem_cut fun u hu => ((bx0 u hu).ex e0).el) (mem_cut fun u hu => ((bx0 u hu).ex e0).el))) (mem_cut fun u hu => ((bx0 u hu).ex e0).el)))
            · walk_at "ts"
              refine i_d (fun k5 => ?_) (fun k5 => ?_)
              · walk_at "ts"
                have c1 : (cutV us none (some at0)).length ≤ 130 := Nat.le_trans (cutV_length _ _ _) bl
                have c2 : (cutV us (some at0) none).length ≤ 130 := Nat.le_trans (cutV_length _ _ _) bl
                refine t_slB z9 hp0 fun pa Za Ha na ta fa => ?_
                have za := ta.zh
                walk_at "ts"
                rename_i pc Zc Hc nc tc fc
                refine t_catB tc.zh (tc.z _ _ fa) fc (by rw [List.length_singleton]; omega) fun pd Zd Hd nd td fd => ?_
                have zd := td.zh
                have hpd := td.z _ _ (tc.z _ _ (ta.z _ _ hp0))
                walk_at "ts"
                refine t_slB zd hpd fun pf Zf Hf nf tf ff => ?_
                refine t_catB tf.zh (tf.z _ _ fd) ff (by rw [List.length_append, List.length_singleton]; omega) fun pg Zg Hg ng tg fg => ?_
                have zg := tg.zh
                have e0 := ta.z.trans (tc.z.trans (td.z.trans (tf.z.trans tg.z)))
                walk_at "ts"
                exact q _ Zg Hg (((((T0.step ta mm_nil).step tc mm_nil).step td mm_nil).step tf mm_nil).step tg mm_nil) ((((((hh0.tt ta nm_nil).tt tc nm_nil).tt td nm_nil).tt tf nm_nil).tt tg nm_nil).mono (by omega)) (thb_list fg (by rw [List.length_append, List.length_append, List.length_singleton]; omega) (mem_app (mem_app (mem_cut fun u hu => ((bx0 u hu).ex e0).el) (mem_one (eo0.ex e0))) (mem_cut fun u hu => ((bx0 u hu).ex e0).el)))
              · walk_at "ts"
                have c1 : (cutV us none (some at0)).length ≤ 130 := Nat.le_trans (cutV_length _ _ _) bl
                refine ⟨p, us, rfl, .inl ⟨sq_of (z9 _ _ hp0), fun pa na => ?_⟩⟩
                have ta : T [] Zz Hz (upd Zz pa (.tup us)) (upd Hz pa (.tup us)) := T.new na z9
                have fa : (upd Zz pa (.tup us)) pa = some (.tup us) := upd_same
                generalize upd Zz pa (.tup us) = Za at ta fa
                generalize upd Hz pa (.tup us) = Ha at ta ⊢
                have za := ta.zh
                walk_at "ts"
                refine t_slB za (ta.z _ _ hp0) fun pb Zb Hb nb tb fb => ?_
                have zb := tb.zh
                walk_at "ts"
                rename_i pc Zc Hc nc tc fc r9 Zd Hd r0 r1 td hhd
                refine ixGo (sq_of (td.zh _ _ (td.z _ _ fc))) (ig_memB ⟨by omega, by show _ < (2 : Int); omega⟩ fun v hv _ => ?_)
                have eb := tc.z.trans td.z
                have e0 := ta.z.trans (tb.z.trans eb)
                have TT := (((T0.step ta mm_nil).step tb mm_nil).step tc mm_nil).step td mm_same
                simp only [List.mem_cons, List.not_mem_nil, or_false] at hv
                rcases hv with rfl | rfl
                · exact q _ Zd Hd TT (hhd.mono (by omega)) (thb_tup (eb _ _ (tb.z _ _ fa)) (by omega) fun u hu => ((bx0 u hu).ex e0).at_)
                · exact q _ Zd Hd TT (hhd.mono (by omega)) (thb_list (eb _ _ fb) (by omega) (mem_cut fun u hu => ((bx0 u hu).ex e0).el))

/-! ### _law_drawn_book -/
noncomputable def sp_law_drawn_book (K : PySem.W.Frag) : Sp := fun vs H Q _ => ∃ (h : Addr) (count splits : Int) (n : Nat) (Z : Hp), vs = [.ref h, .int count, .int splits] ∧ 0 ≤ count ∧ count ≤ 1000 ∧ 0 ≤ splits ∧ splits ≤ 130 ∧ Hand K Z H h (n + 500) ∧
  ∀ (p : Addr) (vs : List V) (book : List T4I) (H' : Hp), H p = none → ExM h H H' → Hand K Z H' h n → H' p = some (.lst vs) → Paired (Qp H') vs book → book.length = splits.toNat → BookOk count book → Q (.ref p) H'
theorem has_law_drawn_book (z : Z K mg) (F : FunAt K mg "_law_drawn_book" s_law_drawn_book ["_law_hand", "_law_many_here", "_law_splits_here"]) (h_law_draw : Has P w K mg base "_law_draw" 1 (sp_law_draw K)) (h_law_split : Has P w K mg base "_law_split" 1 (sp_law_split K)) : Has P w K mg base "_law_drawn_book" 2 (sp_law_drawn_book K) := by
  refine has_of F sc_law_drawn_book (fun vs H Q E h => ?_) (fun f cdv A outer s H vs Q E hr h => ?_)
  · obtain ⟨h, count, splits, n, Z, rfl, _⟩ := h
    rfl
  · obtain ⟨h, count, splits, n, Z, rfl, c0, c1, s0, s1, hh0, q⟩ := h
    refine ⟨_, (pss_cons (ps_set (i := 3) sc_law_drawn_book.nd rfl (by first | exact Or.inl rfl | exact Or.inr rfl) (pe_lst (pa_cons (pv 1) pa_nil)))
        (pss_cons (ps_set (i := 4) sc_law_drawn_book.nd rfl (by first | exact Or.inl rfl | exact Or.inr rfl) (pe_lst pa_nil))
        (pss_cons (ps_for PassesOwn.never rfl (pi_range2 (by rfl) z.b_range (pa_cons pe_int (pa_cons (pe_op op_plusA pe_int (pv 2)) pa_nil))) (pg_name (i := 5) sc_law_drawn_book.nd rfl (by first | exact Or.inl rfl | exact Or.inr rfl)) (pss_cons (ps_asg (pe_callH h_law_split (by decide) hr rfl (pa_cons (pv 5) pa_nil)) (pg_tup rfl (pgs_cons (pg_name (i := 6) sc_law_drawn_book.nd rfl (by first | exact Or.inl rfl | exact Or.inr rfl)) (pgs_cons (pg_name (i := 7) sc_law_drawn_book.nd rfl (by first | exact Or.inl rfl | exact Or.inr rfl)) pgs_nil))))
        (pss_cons (ps_set (i := 8) sc_law_drawn_book.nd rfl (by first | exact Or.inl rfl | exact Or.inr rfl) (pe_callH h_law_draw (by decide) hr rfl (pa_cons (pv 0) (pa_cons pe_int pa_nil))))
        (pss_cons (ps_set (i := 9) sc_law_drawn_book.nd rfl (by first | exact Or.inl rfl | exact Or.inr rfl) (pe_callH h_law_draw (by decide) hr rfl (pa_cons (pv 0) (pa_cons (pe_op op_plusA (pe_ix (ixA (K := K) rfl) (pv 3) (pv 6) (fun _ _ => rfl)) pe_int) pa_nil))))
        (Evl.pss_cut (ps_if (pt_cmpR (eqA (K := K) rfl hr.units) (pv 8) pe_int (nomark _)) (pss_one (ps_set (i := 9) sc_law_drawn_book.nd rfl (by first | exact Or.inl rfl | exact Or.inr rfl) (pe_ix (ixA (K := K) rfl) (pe_lst (pa_cons pe_int (pa_cons (pe_ix (ixA (K := K) rfl) (pv 3) (pv 6) (fun _ _ => rfl)) pa_nil))) (pe_callH h_law_draw (by decide) hr rfl (pa_cons (pv 0) (pa_cons pe_int pa_nil))) (fun _ _ => rfl)))) pss_nil)
        (pss_cons (ps_expr (pe_bm PySem.F.plainAttrs_list PySem.F.slot_list_append PySem.F.type_list_append mt_append (pv 4) (pa_cons (pe_tup (pa_cons (pv 6) (pa_cons (pv 7) (pa_cons (pe_op op_sub (pe_ix (ixA (K := K) rfl) (pv 3) (pv 6) (fun _ _ => rfl)) (pv 9)) (pa_cons (pv 9) pa_nil))))) pa_nil)))
        (pss_cons (ps_asg (pe_op op_sub (pe_ix (ixA (K := K) rfl) (pv 3) (pv 6) (fun _ _ => rfl)) (pv 9)) (pg_sub (pv 3) (pv 6) set_list))
        (pss_one (ps_expr (pe_bm PySem.F.plainAttrs_list PySem.F.slot_list_append PySem.F.type_list_append mt_append (pv 3) (pa_cons (pv 9) pa_nil)))))))))))
        (pss_one (ps_ret (pv 4)))))), ?_⟩
    walk_at "cx"
    walk_at "ss"
    rename_i p1 H1 n1 e1 f1 p2 H2 n2 e2 f2
    have np1 : p1 ≠ h := hand_ne0 n1 hh0
    have np2 : p2 ≠ h := hand_ne0 n2 (hh0.ex e1)
    have np12 : p1 ≠ p2 := ne_of_none f1 n2
    have n02 : H p2 = none := Ex.back e1 n2
    refine u_forR2 (fun i σ H' => ∃ (vs : List V) (book : List T4I) (x1 x2 x3 x4 x5 : Option V), σ = [some (.ref h), some (.int count), some (.int splits), some (.ref p1), some (.ref p2), x1, x2, x3, x4, x5] ∧ ExM h H H' ∧ Hand K Z H' h (n + 490 - 3 * i) ∧ H' p1 = some (.lst ((sizesI count book).map V.int)) ∧ H' p2 = some (.lst vs) ∧ Paired (Qp H') vs book ∧ book.length = i ∧ BookOk count book) (by omega)
      ⟨[], [], _, _, _, _, _, rfl, (e1.trans e2).toM, (hh0.ex (e1.trans e2)).mono (by omega), e2 _ _ f1, f2, .nil, rfl, BookOk.nil _⟩ (fun i σ H' hi hh => ?_) (fun σ H' hh => ?_)
    · obtain ⟨vs, book, x1, x2, x3, x4, x5, rfl, m3, hh3, g1, g2, pr, bl, bo⟩ := hh
      have sn := sizes_nn c0 bo book.length (Nat.le_refl _)
      have su := sizes_le c0 bo book.length (Nat.le_refl _)
      rw [List.take_length] at sn su
      have zl := sizesI_len count book
      walk_at "ss"
      refine ⟨_, rfl, by omega, fun p4 H4 n4 e4 f4 => ?_⟩
      refine s_gt2 (st_of f4) ?_
      have hr := book_room (a := 1 + (i : Int) - whole (1 + (i : Int))) (j := i) (by rw [Int.add_comm 1])
      have er : 1 + (i : Int) - whole (1 + (i : Int)) = ((book.length : Int) + 1) - whole ((book.length : Int) + 1) := by rw [bl, Int.add_comm 1]
      generalize 1 + (i : Int) - whole (1 + (i : Int)) = room at *
      walk_at "ss"
      refine ⟨h, 4, _, _, rfl, (hh3.ex e4).mono (m := n + 490 - 3 * i - 1 + 1) (by omega), by decide, by decide, fun way H5 w0 w1 m5 hh5 => ?_⟩
      have g15 : H5 p1 = some (.lst ((sizesI count book).map V.int)) := m5 _ _ np1 (e4 _ _ g1)
      have g25 : H5 p2 = some (.lst vs) := m5 _ _ np2 (e4 _ _ g2)
      obtain ⟨oh, hoh⟩ := (hh3.ex e4).at
      have pr5 : Paired (Qp H5) vs book := Paired.mapP pr fun v r hq => by
        obtain ⟨d, k, c, cells, hd, _⟩ := hh3.ex e4
        exact Qp.exm hd m5 (Qp.ex e4 hq)
      walk_at "ss"
      rename_i v hv
      have hvm := List.mem_of_getElem? hv
      have v0 := sn v hvm
      have v1 := su v hvm
      refine ⟨h, v + 1, _, _, rfl, hh5.mono (m := n + 490 - 3 * i - 2 + 1) (by omega), by omega, by omega, fun goes H6 q0 q1 m6 hh6 => ?_⟩
      have g16 : H6 p1 = some (.lst ((sizesI count book).map V.int)) := m6 _ _ np1 g15
      have g26 : H6 p2 = some (.lst vs) := m6 _ _ np2 g25
      have pr6 : Paired (Qp H6) vs book := Paired.mapP pr5 fun v r hq => by
        obtain ⟨d, k, c, cells, hd, _⟩ := hh5
        exact Qp.exm hd m6 hq
      have m06 : ExM h H H6 := ((m3.trans e4.toM).trans m5).trans m6
      walk_at "ss"
      refine s_cut (fun σ' H' => ∃ (goes : Int), 0 ≤ goes ∧ goes ≤ v ∧ σ' = [some (.ref h), some (.int count), some (.int splits), some (.ref p1), some (.ref p2), some (.int (1 + (i : Int))), some (.int room), some (.int (1 + (i : Int))), some (.int way), some (.int goes)] ∧ ExM h H H' ∧ Hand K Z H' h (n + 490 - 3 * (i + 1)) ∧ H' p1 = some (.lst ((sizesI count book).map V.int)) ∧ H' p2 = some (.lst vs) ∧ Paired (Qp H') vs book) ?_ ?_
      · walk_at "ss"
        refine i_d (fun hd => ?_) (fun hd => ?_)
        · walk_at "ss"
          rename_i v' hv' p7 H7 n7 e7 f7
          have ev : v' = v := Option.some.inj (hv'.symm.trans hv)
          subst ev
          refine ⟨h, 2, _, _, rfl, (hh6.ex e7).mono (m := n + 490 - 3 * (i + 1) + 1) (by omega), by decide, by decide, fun u H8 u0 u1 m8 hh8 => ?_⟩
          have np7 : p7 ≠ h := hand_ne0 n7 hh6
          have f78 := m8 _ _ np7 f7
          walk_at "ss"
          rename_i g hg
          refine ⟨g, by omega, by omega, rfl, (m06.trans e7.toM).trans m8, hh8, m8 _ _ np1 (e7 _ _ g16), m8 _ _ np2 (e7 _ _ g26), Paired.mapP pr6 fun v r hq => ?_⟩
          obtain ⟨d, k, c, cells, hd, _⟩ := hh6.ex e7
          exact Qp.exm hd m8 (Qp.ex e7 hq)
        · walk_at "ss"
          exact ⟨goes, q0, by omega, rfl, m06, hh6.mono (by omega), g16, g26, pr6⟩
      rintro σ' H7 ⟨goes, q0, q1, rfl, m07, hh7, g17, g27, pr7⟩
      walk_at "ss"
      rename_i v' hv' p8 H8 n8 e8 f8
      have ev : v' = v := Option.some.inj (hv'.symm.trans hv)
      subst ev
      have g18 := e8 _ _ g17
      have g28 := e8 _ _ g27
      have np8 : p8 ≠ p2 := (ne_of_none g27 n8).symm
      have vl := Paired.length pr7
      refine n_app g28 (by omega) fun H9 m9 f9 => ?_
      have g19 : H9 p1 = some (.lst ((sizesI count book).map V.int)) := m9 _ _ np12 g18
      walk_at "ss"
      rename_i v'' hv''
      have ev : v'' = v' := Option.some.inj (hv''.symm.trans hv)
      subst ev
      refine n_setL (j := room.toNat) g19 (ixN_lt hr.1 (by rw [List.length_map, zl]; omega)) fun H10 m10 f10 => ?_
      walk_at "ss"
      refine n_app f10 (by rw [List.length_set, List.length_map, zl]; omega) fun H11 m11 f11 => ?_
      walk_at "ss"
      have f9b : H11 p2 = some (.lst (vs ++ [.ref p8])) := m11 _ _ np12.symm (m10 _ _ np12.symm f9)
      have prn : Paired (Qp H11) (vs ++ [.ref p8]) (book ++ [(⟨room, 1 + (i : Int), v'' - goes, goes⟩ : T4I)]) := by
        refine paired_append (Paired.mapP pr7 fun v r hq => ?_) (.cons ⟨p8, rfl, ?_⟩ .nil)
        · exact Qp.exm f10 m11 (Qp.exm g19 m10 (Qp.exm g28 m9 (Qp.ex e8 hq)))
        · have a9 : H9 p8 = _ := m9 _ _ np8 f8
          have a10 : H10 p8 = _ := m10 _ _ (fun z => by rw [z, g19] at a9; cases a9) a9
          exact m11 _ _ (fun z => by rw [z, f10] at a10; cases a10) a10
      refine ⟨_, book ++ [⟨room, 1 + (i : Int), v'' - goes, goes⟩], _, _, _, _, _, rfl, ?_, ?_, ?_, f9b, prn, by rw [List.length_append, bl]; rfl, ?_⟩
      · intro b o nb g
        have nb1 : b ≠ p1 := ne_of_none g n1
        have nb2 : b ≠ p2 := ne_of_none g n02
        exact m11 b o nb1 (m10 b o nb1 (m9 b o nb2 (e8 b o (m07 b o nb g))))
      · exact (((hh7.ex e8).mut m9 hh0 n02).mut m10 hh0 n1).mut m11 hh0 n1
      · rw [f11, sizesI_snoc]
        unfold sizeF
        rw [List.map_append, List.map_set]
        rfl
      · refine bo.snoc er (by show 1 + (i : Int) = _; omega) (by show 0 ≤ v'' - goes; omega) q0 ?_
        show (sizesI count book).getD room.toNat 0 = v'' - goes + goes
        rw [List.getD_eq_getElem?_getD, hv]
        show v'' = _
        omega
    · obtain ⟨vs, book, x1, x2, x3, x4, x5, rfl, m3, hh3, g1, g2, pr, bl, bo⟩ := hh
      walk_at "ss"
      exact q p2 vs book _ n02 m3 (hh3.mono (by omega)) g2 pr (by omega) bo

/-! ### _law_open -/
noncomputable abbrev sp_law_open (K : PySem.W.Frag) : Sp := spOpen K
theorem has_law_open (z : Z K mg) (F : FunAt K mg "_law_open" s_law_open ["_law_script", "_law_place"])  : Has P w K mg base "_law_open" 1 (sp_law_open K) := by
  refine has_of F sc_law_open (fun vs H Q E h => ?_) (fun f cdv A outer s H vs Q E hr h => ?_)
  · obtain ⟨a, ns, x, rfl, _⟩ := h
    rfl
  · obtain ⟨a, ns, x, rfl, hS, h0, h1, q⟩ := h
    refine ⟨_, (pss_cons (ps_setLc (i := 2) (own := [("_law_cell", 5)]) (g := gName 5) (tt := tYes) rfl sc_law_open.nd rfl rfl (sw_true rfl rfl rfl (by decide +kernel)) (piL (K := K) rfl (pe_slice (slA (K := K) rfl) (pv 0) po_none (po_some pe_int))) (blkOk_by (own := [("_law_cell", 5)]) (N := ["_law_script", "_law_place", "_law_cells", "_law_at", "_law_digits", "_law_cell"]) (sc := defScope s_law_open) (by decide +kernel)) (fun _ _ _ _ _ => (pg_name (i := 5) sc_law_open.nd rfl (by first | exact Or.inl rfl | exact Or.inr rfl))) (fun _ _ _ _ _ => pts_nil) (fun _ _ _ _ _ => (pe_callB (id := "abs") call_absA (by rfl) z.b_abs (by decide +kernel) (pa_cons (pv 5) pa_nil))))
        (Evl.pss_cut (ps_if (pt_cmpR (eqA (K := K) rfl hr.units) (pv 2) (pe_lst pa_nil) (nomark _)) (pss_one (ps_set (i := 2) sc_law_open.nd rfl (by first | exact Or.inl rfl | exact Or.inr rfl) (pe_lst (pa_cons pe_int pa_nil)))) pss_nil)
        (pss_cons (ps_set (i := 3) sc_law_open.nd rfl (by first | exact Or.inl rfl | exact Or.inr rfl) (pe_op op_mod (pv 1) (pe_callB (id := "len") (lenA (K := K) rfl) (by rfl) z.b_len (by decide +kernel) (pa_cons (pv 2) pa_nil))))
        (pss_cons (ps_set (i := 4) sc_law_open.nd rfl (by first | exact Or.inl rfl | exact Or.inr rfl) pe_int)
        (Evl.pss_cut (ps_if (PW.pt (pw_and (pt_cmpR op_ge (pe_ix (ixA (K := K) rfl) (pv 2) (pv 3) (fun _ _ => rfl)) (pe_op op_pow pe_int pe_int) (nomark _)) (pw_and1 (pt_cmpR op_lt (pv 1) (pe_callB (id := "len") (lenA (K := K) rfl) (by rfl) z.b_len (by decide +kernel) (pa_cons (pv 2) pa_nil)) (nomark _))))) (pss_one (ps_set (i := 4) sc_law_open.nd rfl (by first | exact Or.inl rfl | exact Or.inr rfl) (pe_ix (ixA (K := K) rfl) (pv 2) (pv 3) (fun _ _ => rfl)))) pss_nil)
        (pss_one (ps_ret (pe_lst (pa_cons (pv 4) (pa_cons (pe_op op_plusA pe_int (pe_op op_multA pe_int (pv 1))) (pa_cons (pe_op op_plusA (pe_slice (slA (K := K) rfl) (pv 2) (po_some (pv 3)) po_none) (pe_slice (slA (K := K) rfl) (pv 2) po_none (po_some (pv 3)))) pa_nil))))))))))), ?_⟩
    walk_at "cx"
    walk_at "ss"
    rename_i p1 H1 n1 e1 f1
    obtain ⟨cs, hc, hl⟩ : ∃ cs : List Int, cutV (ns.map V.int) none (some 63) = cs.map V.int ∧ cs.length ≤ 63 := ⟨cutI ns none (some 63), cutV_ints _ _ _, by
      rw [cutI_to _ (by decide), List.length_take]
      exact Nat.min_le_left _ _⟩
    rw [hc] at f1
    refine u_mapL V.int cs (fun i => V.int (if i < 0 then -i else i)) (sq_of f1) (by omega) (fun i hi H2 e2 A ha => ?_) (fun D H2 n2 e2 f2 => ?_)
    · walk_at "ss"
      exact ha _ (Ex.refl _)
    · obtain ⟨xs, hx, hxl⟩ : ∃ xs : List Int, cs.map (fun i => V.int (if i < 0 then -i else i)) = xs.map V.int ∧ xs.length ≤ 63 := ⟨cs.map fun i => if i < 0 then -i else i, by rw [List.map_map]; rfl, by rw [List.length_map]; exact hl⟩
      rw [hx] at f2
      walk_at "ss"
      refine s_cut (fun σ' H' => ∃ (D : Addr) (ys : List Int), σ' = [some (.ref a), some (.int x), some (.ref D), none, none, none] ∧ Ex H H' ∧ H' D = some (.lst (ys.map V.int)) ∧ 0 < ys.length ∧ ys.length ≤ 63) ?_ ?_
      · walk_at "ss"
        refine i_d (fun hd => ?_) (fun hd => ?_)
        · walk_at "ss"
          rename_i G n3 e3 f3
          exact ⟨_, [0], rfl, by walk_at "ex", f3, by decide, by decide⟩
        · walk_at "ss"
          exact ⟨_, xs, rfl, by walk_at "ex", by walk_at "hp", List.length_pos_iff.mpr hd, hxl⟩
      · rintro σ' H3 ⟨D2, ys, rfl, e3, f3, hy, hy2⟩
        walk_at "ss"
        rename_i b1 b2
        refine s_cut (fun σ' H' => ∃ (d : Int), σ' = [some (.ref a), some (.int x), some (.ref D2), some (.int (x % ys.length)), some (.int d), none] ∧ H' = H3) ?_ ?_
        · walk_at "ss"
          refine i_d (fun hd => ?_) (fun hd => ?_)
          · walk_at "ss"
            refine i_d (fun hd => ?_) (fun hd => ?_)
            · walk_at "ss"
              exact ⟨_, rfl, rfl⟩
            · walk_at "ss"
              exact ⟨_, rfl, rfl⟩
          · walk_at "ss"
            exact ⟨_, rfl, rfl⟩
        · rintro σ' H4 ⟨d, rfl, rfl⟩
          walk_at "ss"
          rename_i p2 G2 n4 e4 f4 p3 G3 n5 e5 f5
          rw [cutV_ints, cutI_from _ b1] at f4
          rw [cutV_ints, cutI_to _ b1] at f5
          refine n_cat (by walk_at "hp") f5 ?_ fun p4 G4 n6 e6 f6 => ?_
          · rw [List.length_map, List.length_map, List.length_drop, List.length_take]
            omega
          · walk_at "ss"
            rename_i p5 G5 n7 e7 f7
            rw [← List.map_append] at f6
            have n0 : H p5 = none := Ex.back (by walk_at "ex") n7
            have n4' : H p4 = none := Ex.back (by walk_at "ex") n6
            exact q p5 p4 d _ G5 n0 n4' (fun z => by rw [z, f6] at n7; cases n7) (by walk_at "ex") f7 (e7 _ _ f6) (by rw [List.length_append, List.length_drop, List.length_take]; omega)

/-! ### _law_splits -/
noncomputable def sp_law_splits (K : PySem.W.Frag) : Sp := fun vs H Q _ => ∃ (h : Addr) (n : Nat) (Z : Hp), vs = [.ref h] ∧ Hand K Z H h (n + 3) ∧ ∀ (m : Int) H', 0 ≤ m → m ≤ 129 → ExM h H H' → Hand K Z H' h n → Q (.int m) H'
theorem has_law_splits (z : Z K mg) (F : FunAt K mg "_law_splits" s_law_splits ["_law_hand"]) (h_law_draw : Has P w K mg base "_law_draw" 1 (sp_law_draw K)) : Has P w K mg base "_law_splits" 2 (sp_law_splits K) := by
  refine has_of F sc_law_splits (fun vs H Q E h => ?_) (fun f cdv A outer s H vs Q E hr h => ?_)
  · obtain ⟨h, n, Z, rfl, _⟩ := h
    rfl
  · obtain ⟨h, n, Z, rfl, hh, q⟩ := h
    refine ⟨_, (pss_one (ps_ret (pe_ix (ixA (K := K) rfl) (pe_lst (pa_cons (pe_callH h_law_draw (by decide) hr rfl (pa_cons (pv 0) (pa_cons pe_int pa_nil))) (pa_cons (pe_callH h_law_draw (by decide) hr rfl (pa_cons (pv 0) (pa_cons pe_int pa_nil))) (pa_cons pe_int (pa_cons pe_int pa_nil))))) (pe_ix (ixA (K := K) rfl) (pe_lst (pa_cons pe_int (pa_cons pe_int (pa_cons pe_int (pa_cons pe_int (pa_cons pe_int (pa_cons pe_int (pa_cons pe_int (pa_cons pe_int pa_nil))))))))) (pe_callH h_law_draw (by decide) hr rfl (pa_cons (pv 0) (pa_cons pe_int pa_nil))) (fun _ _ => rfl)) (fun _ _ => rfl)))), ?_⟩
    walk_at "cx"
    walk_at "ss"
    refine ⟨h, 9, _, _, rfl, hh, by decide, by decide, fun x H1 x0 x1 m1 hh1 => ?_⟩
    walk_at "ss"
    refine ⟨h, 130, _, _, rfl, hh1, by decide, by decide, fun y H2 y0 y1 m2 hh2 => ?_⟩
    walk_at "ss"
    rename_i p3 H3 n3 e3 f3 p4 H4 n4 e4 f4
    refine ⟨h, 8, _, _, rfl, (hh2.ex e3).ex e4, by decide, by decide, fun z H5 z0 z1 m5 hh5 => ?_⟩
    have np3 : p3 ≠ h := hand_ne0 n3 hh2
    have np4 : p4 ≠ h := hand_ne0 n4 (hh2.ex e3)
    have f35 : H5 p3 = some (.lst [.int x, .int y, .int 129, .int 0]) := m5 _ _ np3 (e4 _ _ f3)
    have f45 : H5 p4 = some (.lst ([0, 0, 1, 1, 1, 1, 2, 3].map V.int)) := m5 _ _ np4 f4
    have m05 := (((m1.trans m2).trans e3.toM).trans e4.toM).trans m5
    walk_at "ss"
    refine s_ixI (sq_of f45) ⟨z0, by show z < 8; omega⟩ fun v hv => ?_
    have hv' := List.mem_of_getElem? hv
    have v03 : 0 ≤ v ∧ v < 4 := by
      simp only [List.mem_cons, List.mem_nil_iff, or_false] at hv'
      omega
    refine s_ix4 (sq_of f35) v03 fun m hm => ?_
    exact q m H5 (by omega) (by omega) m05 hh5

/-! ### _law_many -/
noncomputable def sp_law_many (K : PySem.W.Frag) : Sp := fun vs H Q _ => ∃ (h : Addr) (n : Nat) (Z : Hp), vs = [.ref h] ∧ Hand K Z H h (n + 3) ∧ ∀ (m : Int) H', 0 ≤ m → m ≤ 120 → ExM h H H' → Hand K Z H' h n → Q (.int m) H'
theorem has_law_many (z : Z K mg) (F : FunAt K mg "_law_many" s_law_many ["_law_hand"]) (h_law_draw : Has P w K mg base "_law_draw" 1 (sp_law_draw K)) : Has P w K mg base "_law_many" 2 (sp_law_many K) := by
  refine has_of F sc_law_many (fun vs H Q E h => ?_) (fun f cdv A outer s H vs Q E hr h => ?_)
  · obtain ⟨h, n, Z, rfl, _⟩ := h
    rfl
  · obtain ⟨h, n, Z, rfl, hh, q⟩ := h
    refine ⟨_, (pss_one (ps_ret (pe_ix (ixA (K := K) rfl) (pe_lst (pa_cons (pe_callH h_law_draw (by decide) hr rfl (pa_cons (pv 0) (pa_cons pe_int pa_nil))) (pa_cons (pe_callH h_law_draw (by decide) hr rfl (pa_cons (pv 0) (pa_cons pe_int pa_nil))) (pa_cons pe_int (pa_cons pe_int pa_nil))))) (pe_ix (ixA (K := K) rfl) (pe_lst (pa_cons pe_int (pa_cons pe_int (pa_cons pe_int (pa_cons pe_int (pa_cons pe_int (pa_cons pe_int (pa_cons pe_int (pa_cons pe_int pa_nil))))))))) (pe_callH h_law_draw (by decide) hr rfl (pa_cons (pv 0) (pa_cons pe_int pa_nil))) (fun _ _ => rfl)) (fun _ _ => rfl)))), ?_⟩
    walk_at "cx"
    walk_at "ss"
    refine ⟨h, 12, _, _, rfl, hh, by decide, by decide, fun x H1 x0 x1 m1 hh1 => ?_⟩
    walk_at "ss"
    refine ⟨h, 121, _, _, rfl, hh1, by decide, by decide, fun y H2 y0 y1 m2 hh2 => ?_⟩
    walk_at "ss"
    rename_i p3 H3 n3 e3 f3 p4 H4 n4 e4 f4
    refine ⟨h, 8, _, _, rfl, (hh2.ex e3).ex e4, by decide, by decide, fun z H5 z0 z1 m5 hh5 => ?_⟩
    have np3 : p3 ≠ h := hand_ne0 n3 hh2
    have np4 : p4 ≠ h := hand_ne0 n4 (hh2.ex e3)
    have f35 : H5 p3 = some (.lst [.int x, .int y, .int 120, .int 0]) := m5 _ _ np3 (e4 _ _ f3)
    have f45 : H5 p4 = some (.lst ([0, 0, 1, 1, 1, 2, 0, 3].map V.int)) := m5 _ _ np4 f4
    have m05 := (((m1.trans m2).trans e3.toM).trans e4.toM).trans m5
    walk_at "ss"
    refine s_ixI (sq_of f45) ⟨z0, by show z < 8; omega⟩ fun v hv => ?_
    have hv' := List.mem_of_getElem? hv
    have v03 : 0 ≤ v ∧ v < 4 := by
      simp only [List.mem_cons, List.mem_nil_iff, or_false] at hv'
      omega
    refine s_ix4 (sq_of f35) v03 fun m hm => ?_
    exact q m H5 (by omega) (by omega) m05 hh5

/-! ### law -/
noncomputable def sp_law (K : PySem.W.Frag) : Sp := fun vs H Q _ => ∃ (a : Addr) (ns : List Int), vs = [.ref a] ∧ SqL K H a (ns.map V.int) ∧ ns.length ≤ 63 ∧ ∀ H', Q (.bl true) H'
theorem ok_law {f : Addr} {fd : FuncData} (z : Z K mg) (F : Fun K "law" "law" s_law f fd) (h_law_right : HasG P w K mg base "_law_right" 5 (sp_law_right K)) (h_law_spoilt : Has P w K mg base "_law_spoilt" 3 (sp_law_spoilt K)) (h_law_drawn_book : Has P w K mg base "_law_drawn_book" 2 (sp_law_drawn_book K)) (h_law_draw : Has P w K mg base "_law_draw" 1 (sp_law_draw K)) (h_law_open : Has P w K mg base "_law_open" 1 (sp_law_open K)) (h_law_splits : Has P w K mg base "_law_splits" 2 (sp_law_splits K)) (h_law_many : Has P w K mg base "_law_many" 2 (sp_law_many K)) : FnG P w K mg base 6 f fd ["_law_script"] (sp_law K) := by
  refine fn_ofG F sc_law (fun vs H Q E h => ?_) (fun cdv A outer s H vs Q E hr gd h => ?_)
  · obtain ⟨_, _, rfl, _⟩ := h
    rfl
  · obtain ⟨a, ns, rfl, sa, hl, q⟩ := h
    refine ⟨_, (pss_cons (ps_for PassesOwn.never rfl (pi_range1 (by rfl) z.b_range (pa_cons (pe_callB (id := "max") (call_max2A rfl) (by rfl) z.b_max (by decide +kernel) (pa_cons pe_int (pa_cons (pe_callB (id := "min") (call_min2A rfl) (by rfl) z.b_min (by decide +kernel) (pa_cons pe_int (pa_cons (pe_callB (id := "len") (lenA (K := K) rfl) (by rfl) z.b_len (by decide +kernel) (pa_cons (pv 0) pa_nil)) pa_nil))) pa_nil))) pa_nil)) (pg_name (i := 1) sc_law.nd rfl (by first | exact Or.inl rfl | exact Or.inr rfl)) (pss_cons (ps_set (i := 2) sc_law.nd rfl (by first | exact Or.inl rfl | exact Or.inr rfl) (pe_callH h_law_open (by decide) hr rfl (pa_cons (pv 0) (pa_cons (pv 1) pa_nil))))
        (pss_cons (ps_set (i := 3) sc_law.nd rfl (by first | exact Or.inl rfl | exact Or.inr rfl) (pe_callH h_law_many (by decide) hr rfl (pa_cons (pv 2) pa_nil)))
        (pss_cons (ps_set (i := 4) sc_law.nd rfl (by first | exact Or.inl rfl | exact Or.inr rfl) (pe_callH h_law_splits (by decide) hr rfl (pa_cons (pv 2) pa_nil)))
        (pss_cons (ps_set (i := 5) sc_law.nd rfl (by first | exact Or.inl rfl | exact Or.inr rfl) (pe_callH h_law_open (by decide) hr rfl (pa_cons (pv 0) (pa_cons (pe_op op_plusA (pv 1) pe_int) pa_nil))))
        (pss_cons (ps_set (i := 6) sc_law.nd rfl (by first | exact Or.inl rfl | exact Or.inr rfl) (pe_callH h_law_drawn_book (by decide) hr rfl (pa_cons (pv 2) (pa_cons (pv 3) (pa_cons (pe_op op_plusA (pv 4) (pe_op op_multA (pe_callTy (T := "int") call_int1A (by rfl) z.b_int (by decide +kernel) (pa_cons (pe_cmpR (eqA (K := K) rfl hr.units) (pv 4) pe_int (nomark _)) pa_nil)) (pe_callH h_law_draw (by decide) hr rfl (pa_cons (pv 2) (pa_cons pe_int pa_nil))))) pa_nil)))))
        (pss_cons (ps_set (i := 7) sc_law.nd rfl (by first | exact Or.inl rfl | exact Or.inr rfl) (pe_op op_plusA (pe_lst (pa_cons (pv 6) pa_nil)) (pe_lc (own := [("_law_k", 9)]) (g := gName 9) (tt := tYes) rfl sc_law.nd (pi_range1 (by rfl) z.b_range (pa_cons pe_int pa_nil)) (blkOk_by (own := [("_law_k", 9)]) (N := ["_law_script", "_law_place", "_law_hand", "_law_count", "_law_splits_here", "_law_spoil", "_law_told", "_law_some", "_law_thing", "_law_k"]) (sc := defScope s_law) (by decide +kernel)) (fun _ _ _ _ _ => (pg_name (i := 9) sc_law.nd rfl (by first | exact Or.inl rfl | exact Or.inr rfl))) (fun _ _ _ _ _ => pts_nil) (fun _ _ _ _ _ => (pe_callH h_law_spoilt (by decide) hr rfl (pa_cons (pv 5) (pa_cons (pv 6) pa_nil)))))))
        (pss_cons (ps_for PassesOwn.never rfl (piL (K := K) rfl (pe_op op_plusA (pv 7) (pe_lst (pa_cons pe_non (pa_cons pe_int (pa_cons pe_str (pa_cons pe_dnewK (pa_cons (pe_tup pa_nil) (pa_cons pe_bl pa_nil))))))))) (pg_name (i := 8) sc_law.nd rfl (by first | exact Or.inl rfl | exact Or.inr rfl)) (pss_one (ps_if (pt_not (pt_val (pe_callG gd h_law_right (by decide) hr rfl (pa_cons (pv 3) (pa_cons (pv 8) pa_nil))))) (pss_one (ps_ret pe_bl)) pss_nil)))
        (pss_one (ps_if (PW.pt (pw_or (pt_not (pt_val (pe_callG gd h_law_right (by decide) hr rfl (pa_cons (pe_callB (id := "min") (call_min2A rfl) (by rfl) z.b_min (by decide +kernel) (pa_cons pe_int (pa_cons (pe_op op_plusA (pv 3) pe_int) pa_nil))) (pa_cons (pv 6) pa_nil))))) (pw_or1 (pt_not (pt_val (pe_callG gd h_law_right (by decide) hr rfl (pa_cons (pe_callB (id := "max") (call_max2A rfl) (by rfl) z.b_max (by decide +kernel) (pa_cons pe_int (pa_cons (pe_op op_sub (pv 3) pe_int) pa_nil))) (pa_cons (pv 6) pa_nil)))))))) (pss_one (ps_ret pe_bl)) pss_nil))))))))))
        (pss_one (ps_ret pe_bl))), ?_⟩
    walk_at "cx"
    have z0 : Ex H H := Ex.refl _
    walk_at "ts"
    refine u_forR1 (fun i σ H' => ∃ x1 x2 x3 x4 x5 x6 x7 x8 x9, σ = [some (.ref a), x1, x2, x3, x4, x5, x6, x7, x8, x9] ∧ Ex H H') (by omega) ⟨_, _, _, _, _, _, _, _, _, rfl, Ex.refl _⟩ (fun i σ H1 hi hq => ?_) (fun σ H1 hq => ?_)
    · obtain ⟨x1, x2, x3, x4, x5, x6, x7, x8, x9, rfl, e1⟩ := hq
      have sa1 := e1.sq sa
      have z1 : Ex H1 H1 := Ex.refl _
      walk_at "ts"
      rename_i h Z2 H2 nh t2 hh2
      refine ⟨h, 100000, Z2, rfl, hh2.mono (by omega), fun count H3 c0 c1 m3 hh3 => ?_⟩
      have z3 := hh3.z
      walk_at "ts"
      refine ⟨h, 99990, Z2, rfl, hh3.mono (by omega), fun splits H4 s0 s1 m4 hh4 => ?_⟩
      have z4 := hh4.z
      have sa4 := ((t2.ehB.exm nh m3).exm nh m4).sq sa1
      clear hh2 hh3 z3 z1
      walk_at "ts"
      have e14 : Ex H1 H4 := (t2.ehB.exm nh m3).exm nh m4
      rename_i s Z5 H5 ns5 t5 hs5 rr Z6 H6 r0 r1 t6 hh6
      have hsh : s ≠ h := (ne_alB ns5 hh4.at).symm
      have hs1 : H1 s = none := by
        cases c : H1 s with
        | none => rfl
        | some o =>
          have := e14 _ _ c
          rw [ns5] at this
          cases this
      have hs6 := hs5.tt t6 (nm_cons hsh nm_nil)
      have bsp : 0 ≤ splits + (if decide (splits = 129) = true then 1 else 0) * rr ∧ splits + (if decide (splits = 129) = true then 1 else 0) * rr ≤ 130 := by
        by_cases c : splits = 129 <;> simp [c] <;> omega
      generalize splits + (if decide (splits = 129) = true then 1 else 0) * rr = sp at bsp ⊢
      refine ⟨h, count, sp, 5000, Z6, rfl, c0, by omega, bsp.1, bsp.2, hh6.mono (by omega), fun p vs book H7 np m7 hh7 fp pr bl bo => ?_⟩
      have e17 : Ex H1 H7 := fun b o hb => by
        have nb : b ≠ h := fun e => by rw [e, nh] at hb; cases hb
        exact m7 b o nb (t6.m b o (nm_cons nb nm_nil) (t5.ehB _ _ (e14 _ _ hb)))
      have hs7 := hs6.tt (T.ofExM m7 hh7.at hh6.z hh6.zn) (nm_cons hsh nm_nil)
      have hsx := hs7.re hh6.zn
      have nps : p ≠ s := (ne_alB np hs6.at).symm
      have nph : p ≠ h := (ne_alB np hh6.at).symm
      have fpx : offH H7 s h p = some (.lst vs) := offH_at nps nph fp
      have q4 : ∀ u ∈ vs, Q4 (offH H7 s h) u := book_q4 (fun b xs hb => offH_at (fun e => by
        obtain ⟨_, _, _, _, f, _⟩ := hs7
        rw [e, f] at hb
        cases hb) (fun e => by
        obtain ⟨_, _, _, _, f, _⟩ := hh7
        rw [e, f] at hb
        cases hb) hb) pr (book_bounds ⟨c0, by omega⟩ bo (by omega))
      have vl : vs.length ≤ 130 := by
        rw [Paired.length pr]
        omega
      have zx : Ex (offH H7 s h) H7 := offH_ex
      generalize offH H7 s h = Zx at hsx fpx q4 zx
      clear hs7 hs6 hs5 hh7 hh6 hh4 m7 m3 m4 t5 t6 t2 e14 sa4 z4 pr bo fp np
      have hsx : Hand K Zx H7 s (1000 + 40 * 6) := hsx.mono (by omega)
      walk_at "ts"
      rename_i pa Za Ha na ta fa
      have hsa := hsx.tt ta nm_nil
      refine c_drawB (P := ThB) (mono := ThB.ex) 1000 40 hsa (by decide) (by decide) (fun j hj Zb Hb R tb hsb A hA => ?_) (fun D ys Zb Hb nD tb hsb fb lb gb => ?_)
      · have zb := tb.zh
        walk_at "ts"
        exact ⟨s, p, vs, R + 10, Zb, rfl, hsb.mono (by omega), (ta.z.trans tb.z) _ _ fpx, vl, fun u hu => (q4 u hu).ex (ta.z.trans tb.z), fun v Zc Hc tc hsc tv => hA v Zc Hc tc (hsc.mono (by omega)) tv⟩
      · have zb := tb.zh
        walk_at "ts"
        refine t_catB zb (tb.z _ _ fa) fb (by rw [List.length_singleton]; omega) fun pc Zc Hc nc tc fc => ?_
        have zc := tc.zh
        walk_at "ts"
        refine t_dnewB zc fun pd Zd Hd nd td fd => ?_
        have zd := td.zh
        walk_at "ts"
        rename_i pe Ze He ne te fe pf Zf Hf nf tf ff
        refine t_catB tf.zh (tf.z _ _ (te.z _ _ (td.z _ _ fc))) ff (by rw [List.length_append, List.length_singleton]; show _ + 6 ≤ 100000; omega) fun pg Zg Hg ng tg fg => ?_
        have zg := tg.zh
        have eb : Ex Zb Zg := tc.z.trans (td.z.trans (te.z.trans (tf.z.trans tg.z)))
        have ex : Ex Zx Zg := ta.z.trans (tb.z.trans eb)
        have tp : ThB Zg (.ref p) := ThB.ex ex (thb_list fpx (by omega) fun u hu => (q4 u hu).el)
        have all : ∀ v ∈ [V.ref p] ++ ys ++ [.non, .int 0, .str "", .ref pd, .ref pe, .bl true], ThB Zg v := by
          refine mem_app (mem_app (mem_one tp) fun v hv => (gb v hv).ex eb) fun v hv => ?_
          simp only [List.mem_cons, List.not_mem_nil, or_false] at hv
          rcases hv with rfl | rfl | rfl | rfl | rfl | rfl
          · exact thb_at atv_non (fun _ _ e => by cases e) (by decide) (by decide)
          · exact thb_at (atv_int (by omega)) (fun _ _ e => by cases e) (by decide) (by decide)
          · exact thb_at (atv_str (by decide +kernel) (by decide)) (fun _ _ e => by cases e) (by decide) (by decide)
          · exact thb_dct (tg.z _ _ (tf.z _ _ (te.z _ _ fd)))
          · exact thb_tup (tg.z _ _ (tf.z _ _ fe)) (Nat.zero_le _) fun _ h => absurd h List.not_mem_nil
          · exact thb_at (atv_bl _) (fun _ _ e => by cases e) (by decide) (by decide)
        have e7g : Ex H1 Hg := fun b o hb => by
          have nb : b ≠ s := fun e => by rw [e, hs1] at hb; cases hb
          exact tg.ehB _ _ (tf.ehB _ _ (te.ehB _ _ (td.ehB _ _ (tc.ehB _ _ (tb.m b o (nm_cons nb nm_nil) (ta.ehB _ _ (e17 _ _ hb)))))))
        have sg := sq_of (K := K) (zg _ _ fg)
        refine u_forL (fun k σ H' => ∃ x1 x2 Z', σ = [some (.ref a), some (.int (i : Int)), some (.ref h), some (.int count), some (.int splits), some (.ref s), some (.ref p), some (.ref pc), x1, x2] ∧ T [] Zg Hg Z' H') sg ⟨_, _, Zg, rfl, T.refl zg⟩ (fun k σ H' _ hh => ?_) (fun k v σ H8 hx hh => ?_) (fun σ H8 hh => ?_)
        · obtain ⟨x1, x2, Z', _, t⟩ := hh
          exact t.ehB.sq sg
        · obtain ⟨x1, x2, Z8, rfl, t8⟩ := hh
          have z8 := t8.zh
          obtain ⟨d, tb8, sm, dl⟩ := (all v (List.mem_of_getElem? hx)).ex t8.z
          walk_at "ts"
          refine ⟨count, v, d, Z8, rfl, tb8, z8, sm, dl, fun Z9 H9 t9 => ?_⟩
          walk_at "ts"
          exact ⟨_, _, Z9, rfl, t8.step t9 mm_nil⟩
        · obtain ⟨x1, x2, Z8, rfl, t8⟩ := hh
          have z8 := t8.zh
          walk_at "ts"
          obtain ⟨d, tb8, sm, dl⟩ := tp.ex t8.z
          refine ⟨_, .ref p, d, Z8, rfl, tb8, z8, sm, dl, fun Z9 H9 t9 => ?_⟩
          have z9 := t9.zh
          walk_at "ts"
          refine ⟨_, .ref p, d, Z9, rfl, tb8.ex t9.z, z9, sm, dl, fun Zz Hz tz => ?_⟩
          have zz := tz.zh
          walk_at "ts"
          exact ⟨_, _, _, _, _, _, _, _, _, rfl, e1.trans (e7g.trans (t8.ehB.trans (t9.ehB.trans tz.ehB)))⟩
    · obtain ⟨x1, x2, x3, x4, x5, x6, x7, x8, x9, rfl, e1⟩ := hq
      walk_at "ts"
      exact q _

end

end Lw
open PySem PySem.W PyProof.Rows
set_option maxHeartbeats 0 in

theorem PySem.Challenge.cw_tailrooms_k52_books_looked_at_holds : PySem.Challenge.rw_tailrooms_k52_books_looked_at.Holds := by

  w_on; o_law; k_head; (case hw => w_witness2)
  k_fill

  refine TR.walk_ofG (l := PySem.Challenge.rw_tailrooms_k52_books_looked_at) (n := 63) (k := 6) (x := "_law_script") (sp := fun w => Lw.sp_law _) rfl (by decide) rfl ⟨rfl, by decide, by decide⟩ (fun w h Y => PySem.W.kIn_of Y) ?F (fun _ _ a ns hl _ hS => ⟨a, ns, rfl, hS, hl, fun _ => rfl⟩)

  case F =>
    intro w mg fa h KX G hmg

    have zz : Lw.Z (L2.KOf KX) mg := by
      refine' ⟨PySem.W.mg_none_of KX G ?z0, PySem.W.mg_none_of KX G ?z1, PySem.W.mg_none_of KX G ?z2, PySem.W.mg_none_of KX G ?z3, PySem.W.mg_none_of KX G ?z4, PySem.W.mg_none_of KX G ?z5, PySem.W.mg_none_of KX G ?z6, PySem.W.mg_none_of KX G ?z7, PySem.W.mg_none_of KX G ?z8, PySem.W.mg_none_of KX G ?z9, PySem.W.mg_none_of KX G ?z10, PySem.W.mg_none_of KX G ?z11, TR.constI_mk KX G ?y0⟩
      (case z0 => k_is)
      (case z1 => k_is)
      (case z2 => k_is)
      (case z3 => k_is)
      (case z4 => k_is)
      (case z5 => k_is)
      (case z6 => k_is)
      (case z7 => k_is)
      (case z8 => k_is)
      (case z9 => k_is)
      (case z10 => k_is)
      (case z11 => k_is)
      (case y0 => k_is)

    have F0 : TR.FunAt (L2.KOf KX) mg "whole_rooms" Lw.s_whole_rooms ["rooms"] := by
      refine' TR.funAt_mk KX G (x := "whole_rooms") (st := Lw.s_whole_rooms) (ps := ["rooms"]) ?a ?l ?c ?k (fun _ _ _ _ _ _ us hl => match us, hl with | [_], _ => rfl)
      (case a => k_is); (case l => k_is); (case c => k_is); (case k => k_is)

    have F1 : TR.FunAt (L2.KOf KX) mg "turn" Lw.s_turn ["rooms"] := by
      refine' TR.funAt_mk KX G (x := "turn") (st := Lw.s_turn) (ps := ["rooms"]) ?a ?l ?c ?k (fun _ _ _ _ _ _ us hl => match us, hl with | [_], _ => rfl)
      (case a => k_is); (case l => k_is); (case c => k_is); (case k => k_is)

    have F2 : TR.FunAt (L2.KOf KX) mg "split_of" Lw.s_split_of ["rooms"] := by
      refine' TR.funAt_mk KX G (x := "split_of") (st := Lw.s_split_of) (ps := ["rooms"]) ?a ?l ?c ?k (fun _ _ _ _ _ _ us hl => match us, hl with | [_], _ => rfl)
      (case a => k_is); (case l => k_is); (case c => k_is); (case k => k_is)

    have F3 : TR.FunAt (L2.KOf KX) mg "is_whole" Lw.s_is_whole ["thing"] := by
      refine' TR.funAt_mk KX G (x := "is_whole") (st := Lw.s_is_whole) (ps := ["thing"]) ?a ?l ?c ?k (fun _ _ _ _ _ _ us hl => match us, hl with | [_], _ => rfl)
      (case a => k_is); (case l => k_is); (case c => k_is); (case k => k_is)

    have F4 : TR.FunAt (L2.KOf KX) mg "is_split" Lw.s_is_split ["thing"] := by
      refine' TR.funAt_mk KX G (x := "is_split") (st := Lw.s_is_split) (ps := ["thing"]) ?a ?l ?c ?k (fun _ _ _ _ _ _ us hl => match us, hl with | [_], _ => rfl)
      (case a => k_is); (case l => k_is); (case c => k_is); (case k => k_is)

    have F5 : TR.FunAt (L2.KOf KX) mg "is_book" Lw.s_is_book ["count", "thing"] := by
      refine' TR.funAt_mk KX G (x := "is_book") (st := Lw.s_is_book) (ps := ["count", "thing"]) ?a ?l ?c ?k (fun _ _ _ _ _ _ us hl => match us, hl with | [_, _], _ => rfl)
      (case a => k_is); (case l => k_is); (case c => k_is); (case k => k_is)

    have F6 : TR.FunAt (L2.KOf KX) mg "_law_split" Lw.s_law_split ["_law_rooms"] := by
      refine' TR.funAt_mk KX G (x := "_law_split") (st := Lw.s_law_split) (ps := ["_law_rooms"]) ?a ?l ?c ?k (fun _ _ _ _ _ _ us hl => match us, hl with | [_], _ => rfl)
      (case a => k_is); (case l => k_is); (case c => k_is); (case k => k_is)

    have F7 : TR.FunAt (L2.KOf KX) mg "_law_is_book" Lw.s_law_is_book ["_law_many_here", "_law_thing"] := by
      refine' TR.funAt_mk KX G (x := "_law_is_book") (st := Lw.s_law_is_book) (ps := ["_law_many_here", "_law_thing"]) ?a ?l ?c ?k (fun _ _ _ _ _ _ us hl => match us, hl with | [_, _], _ => rfl)
      (case a => k_is); (case l => k_is); (case c => k_is); (case k => k_is)

    have F8 : TR.FunAt (L2.KOf KX) mg "_law_right" Lw.s_law_right ["_law_many_here", "_law_thing"] := by
      refine' TR.funAt_mk KX G (x := "_law_right") (st := Lw.s_law_right) (ps := ["_law_many_here", "_law_thing"]) ?a ?l ?c ?k (fun _ _ _ _ _ _ us hl => match us, hl with | [_, _], _ => rfl)
      (case a => k_is); (case l => k_is); (case c => k_is); (case k => k_is)

    have F9 : TR.FunAt (L2.KOf KX) mg "_law_draw" Lw.s_law_draw ["_law_hand", "_law_many_here"] := by
      refine' TR.funAt_mk KX G (x := "_law_draw") (st := Lw.s_law_draw) (ps := ["_law_hand", "_law_many_here"]) ?a ?l ?c ?k (fun _ _ _ _ _ _ us hl => match us, hl with | [_, _], _ => rfl)
      (case a => k_is); (case l => k_is); (case c => k_is); (case k => k_is)

    have F10 : TR.FunAt (L2.KOf KX) mg "_law_odd_split" Lw.s_law_odd_split ["_law_hand", "_law_split_here"] := by
      refine' TR.funAt_mk KX G (x := "_law_odd_split") (st := Lw.s_law_odd_split) (ps := ["_law_hand", "_law_split_here"]) ?a ?l ?c ?k (fun _ _ _ _ _ _ us hl => match us, hl with | [_, _], _ => rfl)
      (case a => k_is); (case l => k_is); (case c => k_is); (case k => k_is)

    have F11 : TR.FunAt (L2.KOf KX) mg "_law_spoilt" Lw.s_law_spoilt ["_law_hand", "_law_told"] := by
      refine' TR.funAt_mk KX G (x := "_law_spoilt") (st := Lw.s_law_spoilt) (ps := ["_law_hand", "_law_told"]) ?a ?l ?c ?k (fun _ _ _ _ _ _ us hl => match us, hl with | [_, _], _ => rfl)
      (case a => k_is); (case l => k_is); (case c => k_is); (case k => k_is)

    have F12 : TR.FunAt (L2.KOf KX) mg "_law_drawn_book" Lw.s_law_drawn_book ["_law_hand", "_law_many_here", "_law_splits_here"] := by
      refine' TR.funAt_mk KX G (x := "_law_drawn_book") (st := Lw.s_law_drawn_book) (ps := ["_law_hand", "_law_many_here", "_law_splits_here"]) ?a ?l ?c ?k (fun _ _ _ _ _ _ us hl => match us, hl with | [_, _, _], _ => rfl)
      (case a => k_is); (case l => k_is); (case c => k_is); (case k => k_is)

    have F13 : TR.FunAt (L2.KOf KX) mg "_law_open" Lw.s_law_open ["_law_script", "_law_place"] := by
      refine' TR.funAt_mk KX G (x := "_law_open") (st := Lw.s_law_open) (ps := ["_law_script", "_law_place"]) ?a ?l ?c ?k (fun _ _ _ _ _ _ us hl => match us, hl with | [_, _], _ => rfl)
      (case a => k_is); (case l => k_is); (case c => k_is); (case k => k_is)

    have F14 : TR.FunAt (L2.KOf KX) mg "_law_splits" Lw.s_law_splits ["_law_hand"] := by
      refine' TR.funAt_mk KX G (x := "_law_splits") (st := Lw.s_law_splits) (ps := ["_law_hand"]) ?a ?l ?c ?k (fun _ _ _ _ _ _ us hl => match us, hl with | [_], _ => rfl)
      (case a => k_is); (case l => k_is); (case c => k_is); (case k => k_is)

    have F15 : TR.FunAt (L2.KOf KX) mg "_law_many" Lw.s_law_many ["_law_hand"] := by
      refine' TR.funAt_mk KX G (x := "_law_many") (st := Lw.s_law_many) (ps := ["_law_hand"]) ?a ?l ?c ?k (fun _ _ _ _ _ _ us hl => match us, hl with | [_], _ => rfl)
      (case a => k_is); (case l => k_is); (case c => k_is); (case k => k_is)

    refine' TR.law_endG (st := Lw.s_law) (x := "_law_script") KX G hmg ?a ?l ?c ?k (fun s v => .of_eq rfl) (fun base FF => ?b)
    (case a => k_is); (case l => k_is); (case c => k_is); (case k => k_is)

    case b =>

      have h0 := Lw.has_whole_rooms (P := PySem.Challenge.rw_tailrooms_k52_books_looked_at.prog) (w := w) (base := base) zz F0 

      have h1 := Lw.has_turn (P := PySem.Challenge.rw_tailrooms_k52_books_looked_at.prog) (w := w) (base := base) zz F1 h0

      have h2 := Lw.has_split_of (P := PySem.Challenge.rw_tailrooms_k52_books_looked_at.prog) (w := w) (base := base) zz F2 h1

      have h3 := Lw.has_is_whole (P := PySem.Challenge.rw_tailrooms_k52_books_looked_at.prog) (w := w) (base := base) zz F3 

      have h4 := Lw.has_is_split (P := PySem.Challenge.rw_tailrooms_k52_books_looked_at.prog) (w := w) (base := base) zz F4 h3

      have h5 := Lw.has_is_book (P := PySem.Challenge.rw_tailrooms_k52_books_looked_at.prog) (w := w) (base := base) zz F5 h2 h4

      have h6 := Lw.has_law_split (P := PySem.Challenge.rw_tailrooms_k52_books_looked_at.prog) (w := w) (base := base) zz F6 

      have h7 := Lw.has_law_is_book (P := PySem.Challenge.rw_tailrooms_k52_books_looked_at.prog) (w := w) (base := base) zz F7 h6

      have h8 := Lw.has_law_right (P := PySem.Challenge.rw_tailrooms_k52_books_looked_at.prog) (w := w) (base := base) zz F8 h5 h7

      have h9 := Lw.has_law_draw (P := PySem.Challenge.rw_tailrooms_k52_books_looked_at.prog) (w := w) (base := base) zz F9 

      have h10 := Lw.has_law_odd_split (P := PySem.Challenge.rw_tailrooms_k52_books_looked_at.prog) (w := w) (base := base) zz F10 h9

      have h11 := Lw.has_law_spoilt (P := PySem.Challenge.rw_tailrooms_k52_books_looked_at.prog) (w := w) (base := base) zz F11 h9 h10

      have h12 := Lw.has_law_drawn_book (P := PySem.Challenge.rw_tailrooms_k52_books_looked_at.prog) (w := w) (base := base) zz F12 h9 h6

      have h13 := Lw.has_law_open (P := PySem.Challenge.rw_tailrooms_k52_books_looked_at.prog) (w := w) (base := base) zz F13 

      have h14 := Lw.has_law_splits (P := PySem.Challenge.rw_tailrooms_k52_books_looked_at.prog) (w := w) (base := base) zz F14 h9

      have h15 := Lw.has_law_many (P := PySem.Challenge.rw_tailrooms_k52_books_looked_at.prog) (w := w) (base := base) zz F15 h9

      exact Lw.ok_law zz FF h8 h11 h12 h9 h13 h14 h15

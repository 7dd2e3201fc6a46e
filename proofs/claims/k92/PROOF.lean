import PyProof.Rows.All
import Wide.All
import OpenK.AllK
import Wide.FinOn
import HandS.ForMost
import HandS.Wide
import HandS.SortInts
import HandS.IsInst
import HandS.Conv
import HandS.Evl
import HandS.Style
import HandS.SortRule
import HandS.ForExc
import HandS.ExcInit
import HandS.ExcField
import HandS.TryMany
import HandS.Small
import KE.GoesRaise
import HandS.Text
import PyProof.Rows.ChunkEnd
import HandS.DictTup
import KE.KItemsList
import HandS.More
import HandS.Zip
import PyProof.StrBlock2
import KE.KExcIs
import HandS.HotCalls
import PySem.Challenge.RW_tailrooms_k92_texts_spoilt_anywhere
set_option Elab.async false
set_option linter.all false
set_option maxRecDepth 100000
set_option maxHeartbeats 4000000

/-! TR: joined rules, steps of a reading, the heap, the hand that is drawn from -/
noncomputable section
namespace TR
open PySem L2
open PySem.Spec PyProof.Rows

/-! ### joined rules -/
section
variable {X : Cx}
noncomputable def rPlus : R2 := fun x y H Q => (rI0 fun i j => .int (i + j)) x y H Q ∨ rCat x y H Q ∨
  (∃ i j, x = .str i ∧ y = .str j ∧ i.length + j.length ≤ sizeLine ∧ Q (.str (i ++ j)) H)
theorem op_plusA : OpR X (binaryOp .Add) rPlus := OpR.or op_add (OpR.or op_cat op_add_str)
noncomputable def rMult : R2 := fun x y H Q => (rI CMulW fun i j => .int (i * j)) x y H Q ∨ (rI CMul fun i j => .int (i * j)) x y H Q ∨ rRep x y H Q
theorem op_multA : OpR X (binaryOp .Mult) rMult := OpR.or op_mulW (OpR.or op_mul op_rep)
noncomputable def rEqA (K : PySem.W.Frag) : R2 := fun x y H Q => rEq x y H Q ∨ rEqD K x y H Q
noncomputable def rNeA (K : PySem.W.Frag) : R2 := fun x y H Q => rNe x y H Q ∨ rNeD K x y H Q
theorem op_eqA (hu : X.A.units + 64 < cLine) : OpR X (compareOp .Eq) (rEqA X.K) := OpR.or op_eq (op_eqD hu)
theorem op_neA (hu : X.A.units + 64 < cLine) : OpR X (compareOp .NotEq) (rNeA X.K) := OpR.or op_ne (op_neD hu)
noncomputable def rLenS (K : PySem.W.Frag) : List V → Hp → VK → Prop := Evl.rLenS K
noncomputable def rLenT : List V → Hp → VK → Prop := fun xs H Q => ∃ z, xs = [.str z] ∧ z.length ≤ sizeLine ∧ Q (.int z.length) H
noncomputable def rLen (K : PySem.W.Frag) : List V → Hp → VK → Prop := fun xs H Q => rLenS K xs H Q ∨ rLenT xs H Q
theorem call_lenA : CallR X (.builtin "len") (rLen X.K) := CallR.or call_len_seq call_len_str
noncomputable def rGetL (K : PySem.W.Frag) : R2 := fun x y H Q => ∃ p xs i v, x = .ref p ∧ y = .int i ∧ SqL K H p xs ∧ 0 ≤ i ∧ atI xs i = some v ∧ Q v H
theorem pget_list : PGet X (rGetL X.K) := by
  intro pins s σ H x0 y0 v u Q I rx ru hh
  obtain ⟨p, xs, i, z, ex, ei, hq, h0, he, q⟩ := hh
  subst ex
  subst ei
  cases rx
  obtain ⟨t, et⟩ := ru
  subst et
  obtain ⟨its, r, pl, _⟩ := I.list hq
  obtain ⟨j, h1, h2, h3, _, h5⟩ := atI_get he
  obtain ⟨y, ey, ry⟩ := r.get h2
  have hl := r.length
  have hn := line63
  rw [seqIndex_of h0 h5] at h1
  have hj : i.toNat = j := Option.some.inj h1
  exact wpAny_getItem_list pl.isList h0 (by omega) (by rw [hj]; simpa using ey) ⟨z, H, I, ry, q⟩
noncomputable def rIsNA : R2 := fun x y H Q => y = .non ∧ Q (.bl (decide (x = .non))) H
noncomputable def rNotNA : R2 := fun x y H Q => y = .non ∧ Q (.bl (!decide (x = .non))) H
theorem op_isNA : OpR X (compareOp .Is) rIsNA := op_isN
theorem op_notNA : OpR X (compareOp .IsNot) rNotNA := op_notN
noncomputable def rMax2 : List V → Hp → VK → Prop := fun xs H Q => ∃ i j, xs = [.int i, .int j] ∧ Q (.int (max i j)) H
noncomputable def rMin2 : List V → Hp → VK → Prop := fun xs H Q => ∃ i j, xs = [.int i, .int j] ∧ Q (.int (min i j)) H
noncomputable def rAbs : List V → Hp → VK → Prop := fun xs H Q => ∃ i, xs = [.int i] ∧ Q (.int (if i < 0 then -i else i)) H
theorem call_max2A (hc : X.calm = true) : CallR X (.builtin "max") rMax2 := by
  have e : rMax2 = fun xs H Q => ∃ i j, xs = [V.int i, V.int j] ∧ Q (.int (if j > i then j else i)) H := by
    funext xs H Q
    have e2 : ∀ i j : Int, max i j = if j > i then j else i := fun i j => by
      by_cases h : j > i
      · rw [if_pos h]
        omega
      · rw [if_neg h]
        omega
    show (∃ i j, xs = [V.int i, V.int j] ∧ Q (.int (max i j)) H) = _
    simp only [e2]
  rw [e]
  exact call_max2 hc
theorem call_absA : CallR X (.builtin "abs") rAbs := call_abs
noncomputable def rInt1 : List V → Hp → VK → Prop := fun xs H Q => (∃ i, xs = [.int i] ∧ Q (.int i) H) ∨ ∃ k, xs = [.bl k] ∧ Q (.int (if k then 1 else 0)) H
theorem call_int1A : CallR X (.type "int") rInt1 := call_int1
noncomputable def rList1 (K : PySem.W.Frag) : List V → Hp → VK → Prop := Evl.rListS K
end

/-! ### the same rules, the written part K named (they may stand in a comprehension's block) -/
section
variable {X : Cx} {K : PySem.W.Frag}
theorem ixA (hk : X.K = K) : IxR X (rIx K) := hk ▸ ix_seq
theorem slA (hk : X.K = K) : SlR X (rSlL K) := hk ▸ sl_list
theorem slTA (hk : X.K = K) : SlR X (rSlT K) := hk ▸ sl_tup
theorem lenA (hk : X.K = K) : CallR X (.builtin "len") (rLen K) := hk ▸ call_lenA
theorem eqA (hk : X.K = K) (hu : X.A.units + 64 < cLine) : OpR X (compareOp .Eq) (rEqA K) := hk ▸ op_eqA hu
theorem neA (hk : X.K = K) (hu : X.A.units + 64 < cLine) : OpR X (compareOp .NotEq) (rNeA K) := hk ▸ op_neA hu
theorem isiA (hk : X.K = K) : CallR X (.builtin "isinstance") (rIsi K) := hk ▸ call_isi
theorem pe_revK {e : Expr} {te : TE} {k : Nat} {p1 p2 p3 pos : Pos} (hk : X.K = K) (he : PE X e te) : PE X (.Subscript e (.Slice none none (some (.UnaryOp .USub (.Constant (.int 1) k p1) p2)) p3) pos) (tRevL K te) := hk ▸ pe_revL he
theorem getA (hk : X.K = K) : PGet X (rGetL K) := hk ▸ pget_list
theorem piL {tg l : Expr} {tl : TE} (hk : X.K = K) (hl : PE X l tl) : PI X tg l (iList K tl) := hk ▸ pi_list hl
theorem piT {tg l : Expr} {tl : TE} (hk : X.K = K) (hl : PE X l tl) : PI X tg l (iTup K tl) := hk ▸ pi_tup hl
end

/-! ### heaps -/
/-- all of H is there in H' -/
noncomputable abbrev Ex := Evl.Ex
/-- all of H but what stands at h -/
noncomputable def ExM (h : Addr) (H H' : Hp) : Prop := ∀ a o, a ≠ h → H a = some o → H' a = some o
theorem Ex.refl (H : Hp) : Ex H H := Evl.Ex.refl H
theorem Ex.trans {H G F : Hp} (a : Ex H G) (b : Ex G F) : Ex H F := Evl.Ex.trans a b
theorem Ex.new {H : Hp} {a : Addr} {u : HO} (h : H a = none) : Ex H (L2.upd H a u) := Evl.Ex.new h
theorem Ex.mut {H G : Hp} {a : Addr} {u : HO} (e : Ex H G) (h : H a = none) : Ex H (L2.upd G a u) := Evl.Ex.mut e h
theorem Ex.exm {Z H H' : Hp} {h : Addr} (e : Ex Z H) (hz : Z h = none) (m : ExM h H H') : Ex Z H' := fun a o ha => m a o (ne_of_none ha hz) (e a o ha)
theorem Ex.toM {H H' : Hp} {h : Addr} (e : Ex H H') : ExM h H H' := fun a o _ ha => e a o ha
theorem ExM.refl {h : Addr} (H : Hp) : ExM h H H := fun _ _ _ e => e
theorem ExM.trans {h : Addr} {H H1 H2 : Hp} (a : ExM h H H1) (b : ExM h H1 H2) : ExM h H H2 := fun x o n e => b x o n (a x o n e)
theorem ExM.upd {h : Addr} {H : Hp} {o : HO} : ExM h H (upd H h o) := fun a u n e => by
  rw [upd_ne n]
  exact e
/-- a heap without one object -/
noncomputable def cutH (H : Hp) (h : Addr) : Hp := fun b => if b = h then none else H b
theorem Ex.back {H H' : Hp} {p : Addr} (e : Ex H H') (h : H' p = none) : H p = none := by
  cases h1 : H p with
  | none => rfl
  | some o =>
    rw [e p o h1] at h
    cases h
theorem Ex.sq {K : PySem.W.Frag} {H G : Hp} {p : Addr} {ys : List V} (e : Ex H G) (h : SqL K H p ys) : SqL K G p ys := Evl.ex_l e h
theorem Ex.st {K : PySem.W.Frag} {H G : Hp} {p : Addr} {ys : List V} (e : Ex H G) (h : SqT K H p ys) : SqT K G p ys := Evl.ex_t e h
theorem sq_of {K : PySem.W.Frag} {H : Hp} {p : Addr} {ys : List V} (h : H p = some (.lst ys)) : SqL K H p ys := SqL.of h
theorem st_of {K : PySem.W.Frag} {H : Hp} {p : Addr} {ys : List V} (h : H p = some (.tup ys)) : SqT K H p ys := SqT.of h
theorem sz_of {m : Nat} (h : m ≤ 100000) : m ≤ sizeLine := Evl.sz_of h
theorem sz_lt {m : Nat} (h : m < 100000) : m < sizeLine := Evl.sz_lt h

/-! ### places, first -/
theorem atI_lt {α : Type} {xs : List α} {i : Int} {v : α} (h0 : 0 ≤ i) (h : xs[i.toNat]? = some v) : atI xs i = some v := by
  have e : ((i.toNat : Nat) : Int) = i := Int.toNat_of_nonneg h0
  have q := atI_nat (xs := xs) (j := i.toNat) h
  rw [e] at q
  exact q
/-! ### steps of a reading: each turns what is to be shown into what it asks next -/
section
variable {K : PySem.W.Frag} {σ : L2.St} {H : Hp} {ta tb tc te : TE} {t u : TT} {D : Ends} {Q : VK} {QB : Bool → Hp → Prop} {v x y : V} {p : Prop} {A B : Prop}
theorem s_var {i : Nat} (h : σ[i]? = some (some v)) (q : Q v H) : tVar i σ H Q := ⟨v, h, q⟩
theorem s_c (q : Q v H) : tC v σ H Q := q
theorem s_op {r : R2} (q : ta σ H fun x H1 => tb σ H1 fun y H2 => r x y H2 Q) : tOp r ta tb σ H Q := q
theorem s_un {r : V → Hp → VK → Prop} (q : ta σ H fun x H1 => r x H1 Q) : tUn r ta σ H Q := q
theorem s_chain {r r' : R2} (q : ta σ H fun x H1 => tb σ H1 fun y H2 => r x y H2 fun z H3 => ∃ k, z = .bl k ∧ (if k = true then tc σ H3 fun w' H4 => r' y w' H4 Q else Q (.bl false) H3)) : tChain r r' ta tb tc σ H Q := q
theorem s_I0 {g : Int → Int → V} {i j : Int} (q : Q (g i j) H) : rI0 g (.int i) (.int j) H Q := ⟨i, j, rfl, rfl, q⟩
theorem s_U {g : Int → V} {i : Int} (q : Q (g i) H) : rU g (.int i) H Q := ⟨i, rfl, q⟩
theorem s_plusI {i j : Int} (q : Q (.int (i + j)) H) : rPlus (.int i) (.int j) H Q := .inl ⟨i, j, rfl, rfl, q⟩
theorem s_mulL {i j : Int} (c : -(2 ^ 64) < i ∧ i < 2 ^ 64) (q : Q (.int (i * j)) H) : rMult (.int i) (.int j) H Q := .inr (.inl ⟨i, j, rfl, rfl, .inl c, q⟩)
theorem s_mulR {i j : Int} (c : -(2 ^ 64) < j ∧ j < 2 ^ 64) (q : Q (.int (i * j)) H) : rMult (.int i) (.int j) H Q := .inr (.inl ⟨i, j, rfl, rfl, .inr c, q⟩)
theorem s_div {i j : Int} {g : Int → Int → V} (h : 0 < j) (h2 : j < 2 ^ 63) (q : Q (g i j) H) : rI CDivW g (.int i) (.int j) H Q :=
  ⟨i, j, rfl, rfl, wide_div (b := 63) h (by have e : (2 : Int) ^ 63 = 9223372036854775808 := by decide
                                            have e2 : (2 : Nat) ^ 63 = 9223372036854775808 := by decide
                                            omega) (by decide) (by decide), q⟩
theorem s_mod {i j : Int} (h : 0 < j) (q : 0 ≤ i % j → i % j < j → Q (.int (i % j)) H) : rI (fun _ j => 0 < j) (fun i j => .int (i % j)) (.int i) (.int j) H Q := ⟨i, j, rfl, rfl, h, q (Int.emod_nonneg i (Int.ne_of_gt h)) (Int.emod_lt_of_pos i h)⟩
theorem s_pow2_56 (q : Q (.int 72057594037927936) H) : rI CPow (fun i j => .int (i ^ j.toNat)) (.int 2) (.int 56) H Q := ⟨2, 56, rfl, rfl, ⟨by decide, by decide, by decide⟩, by
  have e : (2 : Int) ^ Int.toNat 56 = 72057594037927936 := by decide
  show Q (.int ((2 : Int) ^ Int.toNat 56)) H
  rw [e]
  exact q⟩
theorem s_pow2_60 (q : Q (.int 1152921504606846976) H) : rI CPow (fun i j => .int (i ^ j.toNat)) (.int 2) (.int 60) H Q := ⟨2, 60, rfl, rfl, ⟨by decide, by decide, by decide⟩, by
  have e : (2 : Int) ^ Int.toNat 60 = 1152921504606846976 := by decide
  show Q (.int ((2 : Int) ^ Int.toNat 60)) H
  rw [e]
  exact q⟩
theorem s_pow10_6 (q : Q (.int 1000000) H) : rI CPow (fun i j => .int (i ^ j.toNat)) (.int 10) (.int 6) H Q := ⟨10, 6, rfl, rfl, ⟨by decide, by decide, by decide⟩, by
  have e : (10 : Int) ^ Int.toNat 6 = 1000000 := by decide
  show Q (.int ((10 : Int) ^ Int.toNat 6)) H
  rw [e]
  exact q⟩
theorem s_pow10_18 (q : Q (.int 1000000000000000000) H) : rI CPow (fun i j => .int (i ^ j.toNat)) (.int 10) (.int 18) H Q := ⟨10, 18, rfl, rfl, ⟨by decide, by decide, by decide⟩, by
  have e : (10 : Int) ^ Int.toNat 18 = 1000000000000000000 := by decide
  show Q (.int ((10 : Int) ^ Int.toNat 18)) H
  rw [e]
  exact q⟩
theorem s_pow {i j : Int} {g : Int → Int → V} (h1 : 0 ≤ j ∧ j ≤ 1000) (h2 : i.natAbs < 2 ^ 64) (q : Q (g i j) H) : rI CPow g (.int i) (.int j) H Q := ⟨i, j, rfl, rfl, ⟨h1.1, by omega, h2⟩, q⟩
theorem s_eqI {a b : Int} (q : Q (.bl (decide (a = b))) H) : rEqA K (.int a) (.int b) H Q := .inl ⟨rfl, by
  have e : decide (V.int a = V.int b) = decide (a = b) := by rw [dec_int, Bool.beq_eq_decide_eq]
  rw [e]
  exact q⟩
theorem s_neI {a b : Int} (q : Q (.bl (decide (a ≠ b))) H) : rNeA K (.int a) (.int b) H Q := .inl ⟨rfl, by
  have e : (!decide (V.int a = V.int b)) = decide (a ≠ b) := by rw [dec_int, Bool.beq_eq_decide_eq, decide_not]
  rw [e]
  exact q⟩
theorem s_eqS {a b : Str} (q : Q (.bl (decide (a = b))) H) : rEqA K (.str a) (.str b) H Q := .inl ⟨rfl, by
  have e : decide (V.str a = V.str b) = decide (a = b) := by
    by_cases h : a = b
    · rw [h, decide_eq_true rfl, decide_eq_true rfl]
    · rw [decide_eq_false h, decide_eq_false (fun e => h (V.str.inj e))]
  rw [e]
  exact q⟩
theorem s_isN0 (q : Q (.bl true) H) : rIsNA .non .non H Q := ⟨rfl, q⟩
theorem s_isN1 {i : Int} (q : Q (.bl false) H) : rIsNA (.int i) .non H Q := ⟨rfl, q⟩
theorem s_isN2 {i : Addr} (q : Q (.bl false) H) : rIsNA (.ref i) .non H Q := ⟨rfl, q⟩
theorem s_notN0 (q : Q (.bl false) H) : rNotNA .non .non H Q := ⟨rfl, q⟩
theorem s_notN2 {i : Addr} (q : Q (.bl true) H) : rNotNA (.ref i) .non H Q := ⟨rfl, q⟩
/-- subscripts -/
theorem s_ixL {a : Addr} {xs : List V} {i : Int} (h : SqL K H a xs) (e : atI xs i = some v) (q : Q v H) : rIx K (.ref a) (.int i) H Q := .inl ⟨a, xs, i, v, rfl, rfl, h, e, q⟩
theorem s_ixT {a : Addr} {xs : List V} {i : Int} (h : SqT K H a xs) (e : atI xs i = some v) (q : Q v H) : rIx K (.ref a) (.int i) H Q := .inr (.inl ⟨a, xs, i, v, rfl, rfl, h, e, q⟩)
theorem s_getL {a : Addr} {xs : List V} {i : Int} (h : SqL K H a xs) (h0 : 0 ≤ i) (e : atI xs i = some v) (q : Q v H) : rGetL K (.ref a) (.int i) H Q := ⟨a, xs, i, v, rfl, rfl, h, h0, e, q⟩
/-- tests -/
theorem s_test (q : te σ H fun x H' => ∃ k, x = .bl k ∧ QB k H') : tTest te σ H QB := q
theorem s_tB (q : te σ H fun x H' => ∃ k, x = .bl k ∧ QB k H') : tB te σ H QB := q
theorem s_bl {b : Bool} {R : Bool → Prop} (q : R b) : ∃ k, V.bl b = V.bl k ∧ R k := ⟨b, rfl, q⟩
theorem s_and (q : t σ H fun c H1 => if c = true then u σ H1 QB else QB false H1) : tAnd t u σ H QB := q
theorem s_or (q : t σ H fun c H1 => if c = true then QB true H1 else u σ H1 QB) : tOr t u σ H QB := q
theorem s_not (q : t σ H fun c H1 => QB (!c) H1) : tNot t σ H QB := q
theorem s_andV (q : ta σ H fun x H1 => ∃ c, x = .bl c ∧ if c = true then tb σ H1 Q else Q (.bl false) H1) : tAndV ta tb σ H Q := q
theorem s_notV (q : ta σ H fun x H1 => ∃ c, x = .bl c ∧ Q (.bl (!c)) H1) : tNotV ta σ H Q := q
theorem i_d [Decidable p] (h1 : p → A) (h2 : ¬ p → B) : if decide p = true then A else B := by
  by_cases h : p
  · rw [if_pos (decide_eq_true h)]
    exact h1 h
  · rw [if_neg (fun z => h (of_decide_eq_true z))]
    exact h2 h
theorem i_n [Decidable p] (h1 : ¬ p → A) (h2 : p → B) : if (!decide p) = true then A else B := by
  by_cases h : p
  · rw [decide_eq_true h]
    exact h2 h
  · rw [decide_eq_false h]
    exact h1 h
theorem i_t (h : A) : if true = true then A else B := by
  rw [if_pos rfl]
  exact h
theorem i_f (h : B) : if false = true then A else B := by
  rw [if_neg Bool.false_ne_true]
  exact h
theorem i_nt (h : B) : if (!true) = true then A else B := i_f h
theorem i_nf (h : A) : if (!false) = true then A else B := i_t h
theorem i_dt [Decidable p] (hp : p) (h : A) : if decide p = true then A else B := i_d (fun _ => h) (fun n => absurd hp n)
theorem i_df [Decidable p] (hp : ¬ p) (h : B) : if decide p = true then A else B := i_d (fun z => absurd z hp) (fun _ => h)
/-- calls, displays, slices -/
theorem s_nil {QA : List V → Hp → Prop} (q : QA [] H) : tNil σ H QA := q
theorem s_cons {tr : TA} {QA : List V → Hp → Prop} (q : ta σ H fun x H1 => tr σ H1 fun xs H2 => QA (x :: xs) H2) : tCons ta tr σ H QA := q
theorem s_call {sp : Sp} {E : XK} {tr : TA} (q : tr σ H fun vs H1 => sp vs H1 Q E) : tCall sp [] E tr σ H Q := by
  have e : (fun (vs : List V) H1 => sp (vs ++ []) H1 Q E) = fun vs H1 => sp vs H1 Q E := by
    funext vs H1
    rw [List.append_nil]
  show tr σ H fun vs H1 => sp (vs ++ []) H1 Q E
  rw [e]
  exact q
theorem s_CB {r : List V → Hp → VK → Prop} {tr : TA} (q : tr σ H fun vs H1 => r vs H1 Q) : tCB r tr σ H Q := q
noncomputable def NewL (xs : List V) (H : Hp) (Q : VK) : Prop := xs.length ≤ sizeLine ∧ ∀ p, H p = none → Q (.ref p) (upd H p (.lst xs))
noncomputable def NewT (xs : List V) (H : Hp) (Q : VK) : Prop := xs.length ≤ sizeLine ∧ ∀ p, H p = none → Q (.ref p) (upd H p (.tup xs))
noncomputable def NewRg (a b : Int) (H : Hp) (Q : VK) : Prop := RgOk a b ∧ ∀ p, H p = none → Q (.ref p) (upd H p (.lst (rgV a b)))
theorem s_lst {tr : TA} (q : tr σ H fun xs H1 => NewL xs H1 Q) : tLst tr σ H Q := q
theorem s_tup {tr : TA} (q : tr σ H fun xs H1 => NewT xs H1 Q) : tTup tr σ H Q := q
theorem s_lenL {a : Addr} {xs : List V} (h : SqL K H a xs) (q : Q (.int (xs.length : Int)) H) : rLen K [.ref a] H Q := .inl ⟨a, xs, rfl, .inl h, q⟩
theorem s_lenM {α : Type} {f : α → V} {l : List α} {a : Addr} (h : SqL K H a (l.map f)) (q : Q (.int (l.length : Int)) H) : rLen K [.ref a] H Q := .inl ⟨a, _, rfl, .inl h, by rw [List.length_map]; exact q⟩
theorem s_ixI {l : List Int} {a : Addr} {i : Int} (h : SqL K H a (l.map V.int)) (h0 : 0 ≤ i ∧ i < l.length) (q : ∀ v, l[i.toNat]? = some v → Q (.int v) H) : rIx K (.ref a) (.int i) H Q := by
  have hl : i.toNat < l.length := by omega
  exact .inl ⟨a, _, i, _, rfl, rfl, h, atI_lt h0.1 (by rw [List.getElem?_map, List.getElem?_eq_getElem hl]; rfl), q _ (List.getElem?_eq_getElem hl)⟩
theorem s_ix3 {a : Addr} {x y z i : Int} (h : SqL K H a [.int x, .int y, .int z]) (h0 : 0 ≤ i ∧ i < 3) (q : ∀ v, (i = 0 ∧ v = x ∨ i = 1 ∧ v = y ∨ i = 2 ∧ v = z) → Q (.int v) H) : rIx K (.ref a) (.int i) H Q := by
  have : i = 0 ∨ i = 1 ∨ i = 2 := by omega
  rcases this with rfl | rfl | rfl
  · exact .inl ⟨a, _, 0, _, rfl, rfl, h, rfl, q _ (.inl ⟨rfl, rfl⟩)⟩
  · exact .inl ⟨a, _, 1, _, rfl, rfl, h, rfl, q _ (.inr (.inl ⟨rfl, rfl⟩))⟩
  · exact .inl ⟨a, _, 2, _, rfl, rfl, h, rfl, q _ (.inr (.inr ⟨rfl, rfl⟩))⟩
theorem s_sl {r : V → Option Int → Option Int → Hp → VK → Prop} {tl th : TO} (q : te σ H fun x H1 => tl σ H1 fun l H2 => th σ H2 fun u H3 => r x l u H3 Q) : tSl r te tl th σ H Q := q
theorem s_np {QO : Option Int → Hp → Prop} (q : QO none H) : tNoPart σ H QO := q
theorem s_part {QO : Option Int → Hp → Prop} (q : te σ H fun x H1 => ∃ i, x = .int i ∧ QO (some i) H1) : tPart te σ H QO := q
theorem s_int {i : Int} {R : Int → Prop} (q : R i) : ∃ k, V.int i = V.int k ∧ R k := ⟨i, rfl, q⟩
theorem s_BM {T : String} {r : V → List V → Hp → VK → Prop} {tr : TA} (q : ta σ H fun x H1 => tyV K T x H1 ∧ tr σ H1 fun xs H2 => r x xs H2 Q) : tBM K T r ta tr σ H Q := q
theorem s_tyL {a : Addr} {xs : List V} {R : Prop} (h : SqL K H a xs) (q : R) : tyV K "list" (.ref a) H ∧ R := ⟨Or.inl ⟨rfl, xs, h⟩, q⟩
/-- statements -/
theorem s_seq {t u : TS} (q : t { D with nx := u D } σ H) : tSeq t u D σ H := q
theorem s_cut {t u : TS} (Mid : L2.St → Hp → Prop) (h : t { D with nx := Mid } σ H) (q : ∀ σ' H', Mid σ' H' → u D σ' H') : Evl.tCut t u D σ H := ⟨Mid, h, q⟩
theorem s_next (q : D.nx σ H) : tNext D σ H := q
theorem s_drop (q : te σ H fun _ H1 => D.nx σ H1) : tDrop te D σ H := q
theorem s_ret (q : te σ H D.rt) : tRet te D σ H := q
theorem s_if {t u : TS} {c : TT} (q : c σ H fun b H1 => if b = true then t D σ H1 else u D σ H1) : tIfS c t u D σ H := q
theorem s_asg {g : TG} (q : te σ H fun x H1 => g x σ H1 D.nx) : tAsg te g D σ H := q
theorem s_gname {i : Nat} {R : L2.St → Hp → Prop} (q : R (σ.set i (some v)) H) : gName i v σ H R := q
theorem s_gsub {to ti : TE} {ts : TSet} {R : L2.St → Hp → Prop} (q : to σ H fun o H1 => ti σ H1 fun i H2 => ts o i v H2 fun H3 => R σ H3) : gSub to ti ts v σ H R := q
theorem s_ipI {f : Int → Int → Int} {i j : Int} (q : Q (.int (f i j)) H) : ipI f (.int i) (.int j) H Q := ⟨i, j, rfl, rfl, q⟩
theorem s_augS {to ti : TE} {tget : V → V → Hp → VK → Prop} {tip : TIp} {tset : TSet}
    (q : to σ H fun o H1 => ti σ H1 fun i H2 => tget o i H2 fun x H3 => te σ H3 fun y H4 => tip x y H4 fun z H5 => tset o i z H5 fun H6 => D.nx σ H6) : tAugS to ti te tget tip tset D σ H := q
theorem s_max2 {i j : Int} (q : Q (.int (max i j)) H) : rMax2 [.int i, .int j] H Q := ⟨i, j, rfl, q⟩
theorem s_abs {i : Int} (q : Q (.int (if i < 0 then -i else i)) H) : rAbs [.int i] H Q := ⟨i, rfl, q⟩
theorem s_int1b {b : Bool} (q : Q (.int (if b then 1 else 0)) H) : rInt1 [.bl b] H Q := .inr ⟨b, rfl, q⟩
theorem s_isiI {n : String} {i : Int} {b : Bool} (h : kitB "int" n = some b) (q : Q (.bl b) H) : rIsi K [.int i, .ty n] H Q := ⟨.int i, .ty n, _, _, b, rfl, .ty n, .base (.int i), kit_ty h, q⟩
theorem s_isiB {n : String} {i : Bool} {b : Bool} (h : kitB "bool" n = some b) (q : Q (.bl b) H) : rIsi K [.bl i, .ty n] H Q := ⟨.bl i, .ty n, _, _, b, rfl, .ty n, .base (.bl i), kit_ty h, q⟩
theorem s_isiS {n : String} {i : Str} {b : Bool} (h : kitB "str" n = some b) (q : Q (.bl b) H) : rIsi K [.str i, .ty n] H Q := ⟨.str i, .ty n, _, _, b, rfl, .ty n, .base (.str i), kit_ty h, q⟩
theorem s_isiN {n : String} {b : Bool} (h : kitB "NoneType" n = some b) (q : Q (.bl b) H) : rIsi K [.non, .ty n] H Q := ⟨.non, .ty n, _, _, b, rfl, .ty n, .base .non, kit_ty h, q⟩
theorem ty_sq {a : Addr} {xs : List V} (h : SqL K H a xs) : TyX K H (.ref a) (.type "list") := by
  rcases h with (h | ⟨o, h⟩) | ⟨o, its, n, hk, hc, _⟩
  · exact .base (.lst h)
  · exact .base (.frz h)
  · exact .kList hk hc
theorem ty_st {a : Addr} {xs : List V} (h : SqT K H a xs) : TyX K H (.ref a) (.type "tuple") := by
  rcases h with (h | ⟨o, h⟩) | ⟨o, its, n, hk, hc, _⟩
  · exact .base (.tup h)
  · exact .fTuple h
  · exact .kTuple hk hc
theorem s_isiL {n : String} {a : Addr} {xs : List V} {b : Bool} (hs : SqL K H a xs) (h : kitB "list" n = some b) (q : Q (.bl b) H) : rIsi K [.ref a, .ty n] H Q := ⟨.ref a, .ty n, _, _, b, rfl, .ty n, ty_sq hs, kit_ty h, q⟩
theorem s_isiT {n : String} {a : Addr} {xs : List V} {b : Bool} (hs : SqT K H a xs) (h : kitB "tuple" n = some b) (q : Q (.bl b) H) : rIsi K [.ref a, .ty n] H Q := ⟨.ref a, .ty n, _, _, b, rfl, .ty n, ty_st hs, kit_ty h, q⟩
theorem k_ii : kitB "int" "int" = some true := by decide +kernel
theorem k_ib : kitB "int" "bool" = some false := by decide +kernel
theorem k_is : kitB "int" "str" = some false := by decide +kernel
end

section
variable {K : PySem.W.Frag} {σ : L2.St} {H : Hp} {ta tb tl te : TE} {tt : TT} {D : Ends} {Q : VK} {g : TG} {ts : TS} {vs : List Nat}
theorem s_wp {A B : L2.St} {R : Prop} (h : wipe A vs = wipe B vs) (q : R) : wipe A vs = wipe B vs ∧ R := ⟨h, q⟩
/-! lists of a range -/
/-! loops: what a for asks, and how it is answered by an invariant -/
noncomputable def ForJ (g : TG) (tb : TS) (D : Ends) (σ : L2.St) (J : It) (H1 : Hp) : Prop := tFor (fun _ H R => R J H) g tb D σ H1
noncomputable def ForL (K : PySem.W.Frag) (g : TG) (tb : TS) (D : Ends) (σ : L2.St) (x : V) (H1 : Hp) : Prop := ∃ a, x = .ref a ∧ (∃ xs, SqL K H1 a xs) ∧ ForJ g tb D σ (Itl K a) H1
noncomputable def ForT (K : PySem.W.Frag) (g : TG) (tb : TS) (D : Ends) (σ : L2.St) (x : V) (H1 : Hp) : Prop := ∃ a, x = .ref a ∧ (∃ xs, SqT K H1 a xs) ∧ ForJ g tb D σ (Itt K a) H1
noncomputable def ForR1 (g : TG) (tb : TS) (D : Ends) (σ : L2.St) (vs : List V) (H1 : Hp) : Prop := ∃ j : Int, vs = [.int j] ∧ -(2 ^ 62) ≤ j ∧ j < 2 ^ 62 ∧ ForJ g tb D σ (Itr 0 j.toNat) H1
noncomputable def ForR2 (g : TG) (tb : TS) (D : Ends) (σ : L2.St) (vs : List V) (H1 : Hp) : Prop := ∃ i j : Int, vs = [.int i, .int j] ∧ (-(2 ^ 62) ≤ i ∧ i < 2 ^ 62 ∧ -(2 ^ 62) ≤ j ∧ j < 2 ^ 62) ∧ ForJ g tb D σ (Itr i (j - i).toNat) H1
noncomputable def ForE (K : PySem.W.Frag) (g : TG) (tb : TS) (D : Ends) (σ : L2.St) (vs : List V) (H1 : Hp) : Prop := ∃ a xs, vs = [.ref a] ∧ SqL K H1 a xs ∧ ForJ g tb D σ (Ite K a) H1
noncomputable def ForZ (K : PySem.W.Frag) (g : TG) (tb : TS) (D : Ends) (σ : L2.St) (vs : List V) (H1 : Hp) : Prop := ∃ a b xs ys, vs = [.ref a, .ref b] ∧ SqL K H1 a xs ∧ SqL K H1 b ys ∧ ForJ g tb D σ (Itz K a b) H1
noncomputable def ForS (g : TG) (tb : TS) (D : Ends) (σ : L2.St) (v : V) (H1 : Hp) : Prop := ∃ x, v = .str x ∧ ForJ g tb D σ (Its x) H1
theorem s_forL (q : tl σ H fun x H1 => ForL K g ts D σ x H1) : tFor (iList K tl) g ts D σ H := q
theorem s_forT (q : tl σ H fun x H1 => ForT K g ts D σ x H1) : tFor (iTup K tl) g ts D σ H := q
theorem s_forR1 {ta : TA} (q : ta σ H fun x H1 => ForR1 g ts D σ x H1) : tFor (iRng1 ta) g ts D σ H := q
theorem s_forS (q : te σ H fun x H1 => ForS g ts D σ x H1) : tFor (iStr te) g ts D σ H := q
theorem u_forL {a : Addr} {xs : List V} (Pv : Nat → L2.St → Hp → Prop) (h : SqL K H a xs) (h0 : Pv 0 σ H) (hl : ∀ i σ H, i ≤ xs.length → Pv i σ H → SqL K H a xs)
    (hs : ∀ i x σ H, xs[i]? = some x → Pv i σ H → g x σ H fun σ2 H2 => ts { D with nx := Pv (i + 1), ct := Pv (i + 1), bk := D.nx } σ2 H2) (hd : ∀ σ H, Pv xs.length σ H → D.nx σ H) : ForL K g ts D σ (.ref a) H :=
  ⟨a, rfl, ⟨xs, h⟩, for_list Pv h0 hl hs hd⟩
theorem u_forT {a : Addr} {xs : List V} (Pv : Nat → L2.St → Hp → Prop) (h : SqT K H a xs) (h0 : Pv 0 σ H) (hl : ∀ i σ H, i ≤ xs.length → Pv i σ H → SqT K H a xs)
    (hs : ∀ i x σ H, xs[i]? = some x → Pv i σ H → g x σ H fun σ2 H2 => ts { D with nx := Pv (i + 1), ct := Pv (i + 1), bk := D.nx } σ2 H2) (hd : ∀ σ H, Pv xs.length σ H → D.nx σ H) : ForT K g ts D σ (.ref a) H :=
  ⟨a, rfl, ⟨xs, h⟩, for_tup Pv h0 hl hs hd⟩
theorem u_forR1 {n : Int} (Pv : Nat → L2.St → Hp → Prop) (hn : -1000000000000 ≤ n ∧ n ≤ 1000000000000) (h0 : Pv 0 σ H)
    (hs : ∀ (i : Nat) σ H, (i : Int) < n → Pv i σ H → g (.int (i : Int)) σ H fun σ2 H2 => ts { D with nx := Pv (i + 1), ct := Pv (i + 1), bk := D.nx } σ2 H2) (hd : ∀ σ H, Pv n.toNat σ H → D.nx σ H) : ForR1 g ts D σ [.int n] H := by
  have e62 : (2 : Int) ^ 62 = 4611686018427387904 := by decide
  refine ⟨n, rfl, by omega, by omega, for_range (lo := 0) (n := n.toNat) Pv h0 (fun i σ H hi p => ?_) hd⟩
  have e : (0 : Int) + (i : Int) = (i : Int) := Int.zero_add _
  rw [e]
  exact hs i σ H (by omega) p
/-! comprehensions -/
noncomputable def LcJ (g : TG) (tt : TT) (te : TE) (vs : List Nat) (σ : L2.St) (J : It) (H1 : Hp) (Q : VK) : Prop := tLc (fun _ H R => R J H) g tt te vs σ H1 Q
noncomputable def LcL (K : PySem.W.Frag) (g : TG) (tt : TT) (te : TE) (vs : List Nat) (σ : L2.St) (x : V) (H1 : Hp) (Q : VK) : Prop := ∃ a, x = .ref a ∧ (∃ xs, SqL K H1 a xs) ∧ LcJ g tt te vs σ (Itl K a) H1 Q
noncomputable def LcT (K : PySem.W.Frag) (g : TG) (tt : TT) (te : TE) (vs : List Nat) (σ : L2.St) (x : V) (H1 : Hp) (Q : VK) : Prop := ∃ a, x = .ref a ∧ (∃ xs, SqT K H1 a xs) ∧ LcJ g tt te vs σ (Itt K a) H1 Q
noncomputable def LcR1 (g : TG) (tt : TT) (te : TE) (vs : List Nat) (σ : L2.St) (x : List V) (H1 : Hp) (Q : VK) : Prop := ∃ j : Int, x = [.int j] ∧ -(2 ^ 62) ≤ j ∧ j < 2 ^ 62 ∧ LcJ g tt te vs σ (Itr 0 j.toNat) H1 Q
noncomputable def LcR2 (g : TG) (tt : TT) (te : TE) (vs : List Nat) (σ : L2.St) (x : List V) (H1 : Hp) (Q : VK) : Prop := ∃ i j : Int, x = [.int i, .int j] ∧ (-(2 ^ 62) ≤ i ∧ i < 2 ^ 62 ∧ -(2 ^ 62) ≤ j ∧ j < 2 ^ 62) ∧ LcJ g tt te vs σ (Itr i (j - i).toNat) H1 Q
noncomputable def LcE (K : PySem.W.Frag) (g : TG) (tt : TT) (te : TE) (vs : List Nat) (σ : L2.St) (x : List V) (H1 : Hp) (Q : VK) : Prop := ∃ a xs, x = [.ref a] ∧ SqL K H1 a xs ∧ LcJ g tt te vs σ (Ite K a) H1 Q
noncomputable def LcZ (K : PySem.W.Frag) (g : TG) (tt : TT) (te : TE) (vs : List Nat) (σ : L2.St) (x : List V) (H1 : Hp) (Q : VK) : Prop := ∃ a b xs ys, x = [.ref a, .ref b] ∧ SqL K H1 a xs ∧ SqL K H1 b ys ∧ LcJ g tt te vs σ (Itz K a b) H1 Q
theorem s_lcL (q : tl σ H fun x H1 => LcL K g tt te vs σ x H1 Q) : tLc (iList K tl) g tt te vs σ H Q := q
theorem s_lcR1 {ta : TA} (q : ta σ H fun x H1 => LcR1 g tt te vs σ x H1 Q) : tLc (iRng1 ta) g tt te vs σ H Q := q
/-- the turns of a comprehension: what is kept stands in the relation R to its item; R is told at any heap that has all but the list that is made -/
theorem lc_turns {α : Type} {J : It} (l : List α) (p : α → Bool) (R : α → V → Hp → Prop) (mono : ∀ x y H1 H2, Ex H1 H2 → R x y H1 → R x y H2) (hz : l.length ≤ 40000)
    (hgo : ∀ i H', i < l.length → Ex H H' → J.go i H') (hst : ∀ H', Ex H H' → J.stop l.length H')
    (turn : ∀ D, H D = none → ∀ (i : Nat) x, l[i]? = some x → ∀ v H0 H', Ex H H0 → (∃ o, H0 D = some o) → J.yld i H0 v H' → Ex H0 H' ∧
      ∀ (A : VK) (B : Hp → Prop), (p x = true → ∀ y H4, Ex H' H4 → (∀ Z, ExM D H4 Z → Ex H Z → R x y Z) → A y H4) → (p x = false → ∀ H3, Ex H' H3 → B H3) →
        g v (wipe σ vs) H' fun σ2 H2 => wipe σ2 vs = wipe σ vs ∧ tt σ2 H2 fun b H3 => if b = true then te σ2 H3 A else B H3)
    (fin : ∀ D H' ys, H D = none → Ex H H' → H' D = some (.lst ys) → Paired (fun x y => R x y H') (l.filter p) ys → Q (.ref D) H') : LcJ g tt te vs σ J H Q := by
  intro D hD
  refine ⟨fun i m H' => m = l.length - i ∧ i ≤ l.length ∧ Ex H H' ∧ ∃ ys, H' D = some (.lst ys) ∧ ys.length ≤ i ∧ ∃ Z, Z D = none ∧ Ex Z H' ∧ ExM D H' Z ∧ Paired (fun x y => R x y Z) ((l.take i).filter p) ys,
    ⟨l.length, by omega, by omega, Ex.new hD, [], upd_same, Nat.le_refl _, H, hD, Ex.new hD, fun b o n e => by rw [upd_ne n] at e; exact e, .nil⟩, ?_⟩
  rintro i m H' ⟨rfl, hi, e, ys, hys, hly, Z, zD, zE, zM, pr⟩
  by_cases hlt : i < l.length
  · refine .inr ⟨hgo i H' hlt e, fun H'' => i + 1 ≤ l.length ∧ Ex H H'' ∧ ∃ ys, H'' D = some (.lst ys) ∧ ys.length ≤ i + 1 ∧ ∃ Z, Z D = none ∧ Ex Z H'' ∧ ExM D H'' Z ∧ Paired (fun x y => R x y Z) ((l.take (i + 1)).filter p) ys,
      fun H'' q => ⟨l.length - (i + 1), by omega, rfl, q⟩, fun v H2 hy => ?_⟩
    have ei : l[i]? = some l[i] := List.getElem?_eq_getElem hlt
    have e1 : l.take (i + 1) = l.take i ++ [l[i]] := by rw [List.take_add_one, ei]; rfl
    obtain ⟨ey, tn⟩ := turn D hD i _ ei v H' H2 e ⟨_, hys⟩ hy
    refine tn _ _ (fun hp y H4 e4 r => ?_) (fun hp H3 e3 => ?_)
    · have e5 := ey.trans e4
      have eD : Ex H (upd H4 D (.lst (ys ++ [y]))) := (e.trans e5).mut hD
      let Z4 : Hp := fun b => if b = D then none else H4 b
      have k1 : Z4 D = none := if_pos rfl
      have k2 : ExM D H4 Z4 := fun b o n q => by
        show (if b = D then none else H4 b) = some o
        rw [if_neg n]
        exact q
      have k3 : Ex Z Z4 := fun b o q => k2 b o (ne_of_none q zD) (e5 _ _ (zE b o q))
      have k4 : Ex H Z4 := fun b o q => k2 b o (ne_of_none q hD) (e5 _ _ (e b o q))
      refine ⟨ys, e5 _ _ hys, sz_lt (by omega), by omega, eD, _, upd_same, by rw [List.length_append]; show _ + 1 ≤ _; omega, Z4, k1, fun b o q => ?_, fun b o n q => ?_, ?_⟩
      · have nb : b ≠ D := ne_of_none q k1
        rw [upd_ne nb]
        have q' : (if b = D then none else H4 b) = some o := q
        rw [if_neg nb] at q'
        exact q'
      · rw [upd_ne n] at q
        exact k2 b o n q
      · rw [e1, List.filter_append, List.filter_cons, if_pos hp]
        exact Paired.snoc (Paired.mapP pr fun a b r => mono a b _ _ k3 r) (r Z4 k2 k4)
    · refine ⟨by omega, e.trans (ey.trans e3), ys, (ey.trans e3) _ _ hys, by omega, ?_⟩
      let Z4 : Hp := fun b => if b = D then none else H3 b
      have k1 : Z4 D = none := if_pos rfl
      have k2 : ExM D H3 Z4 := fun b o n q => by
        show (if b = D then none else H3 b) = some o
        rw [if_neg n]
        exact q
      have k3 : Ex Z Z4 := fun b o q => k2 b o (ne_of_none q zD) ((ey.trans e3) _ _ (zE b o q))
      refine ⟨Z4, k1, fun b o q => ?_, k2, ?_⟩
      · have nb : b ≠ D := ne_of_none q k1
        have q' : (if b = D then none else H3 b) = some o := q
        rw [if_neg nb] at q'
        exact q'
      · rw [e1, List.filter_append, List.filter_cons, if_neg (by rw [hp]; exact Bool.false_ne_true)]
        show Paired _ (_ ++ []) _
        rw [List.append_nil]
        exact Paired.mapP pr fun a b r => mono a b _ _ k3 r
  · have ei : i = l.length := by omega
    subst ei
    rw [List.take_length] at pr
    exact .inl ⟨hst H' e, fin D H' ys hD e hys (Paired.mapP pr fun a b r => mono a b _ _ zE r)⟩
theorem pair_map {α β : Type} {F : α → β} : ∀ {l : List α} {ys : List β}, Paired (fun x y => y = F x) l ys → ys = l.map F
  | _, _, .nil => rfl
  | _, _, .cons h t => by rw [h, pair_map t]; rfl
/-- values of a pure element over a list: they hang on the item alone -/
theorem u_lcL {α : Type} {a : Addr} (em : α → V) (l : List α) (p : α → Bool) (F : α → V) (hS : SqL K H a (l.map em)) (hz : l.length ≤ 40000)
    (turn : ∀ x ∈ l, ∀ H', Ex H H' → ∀ (A : VK) (B : Hp → Prop), (p x = true → ∀ H4, Ex H' H4 → A (F x) H4) → (p x = false → ∀ H3, Ex H' H3 → B H3) →
      g (em x) (wipe σ vs) H' fun σ2 H2 => wipe σ2 vs = wipe σ vs ∧ tt σ2 H2 fun b H3 => if b = true then te σ2 H3 A else B H3)
    (fin : ∀ D H', H D = none → Ex H H' → H' D = some (.lst ((l.filter p).map F)) → Q (.ref D) H') : LcL K g tt te vs σ (.ref a) H Q := by
  refine ⟨a, rfl, ⟨_, hS⟩, lc_turns l p (fun x y _ => y = F x) (fun _ _ _ _ _ r => r) hz (fun i H' hi e => ⟨_, em l[i], e.sq hS, by rw [List.getElem?_map, List.getElem?_eq_getElem hi]; rfl⟩) (fun H' e => ⟨_, e.sq hS, by rw [List.length_map]; exact Nat.le_refl _⟩)
    (fun D hD i x hx v H0 H' e _ hy => ?_) (fun D H' ys hD e h pr => fin D H' hD e (by rw [h, pair_map pr]))⟩
  obtain ⟨rfl, fv⟩ := hy
  have ev : v = em x := by
    have q := fv _ (e.sq hS)
    rw [List.getElem?_map, hx] at q
    exact (Option.some.inj q).symm
  subst ev
  exact ⟨Ex.refl _, fun A B h1 h2 => turn x (List.mem_of_getElem? hx) _ e A B (fun hp H4 e4 => h1 hp _ H4 e4 fun _ _ _ => rfl) h2⟩
theorem filter_yes {α : Type} : ∀ l : List α, l.filter (fun _ => true) = l
  | [] => rfl
  | x :: l => by rw [List.filter_cons, if_pos rfl, filter_yes l]
/-- .. without a test -/
theorem u_mapL {α : Type} {a : Addr} (em : α → V) (l : List α) (F : α → V) (hS : SqL K H a (l.map em)) (hz : l.length ≤ 40000)
    (turn : ∀ x ∈ l, ∀ H', Ex H H' → ∀ A : VK, (∀ H4, Ex H' H4 → A (F x) H4) → g (em x) (wipe σ vs) H' fun σ2 H2 => wipe σ2 vs = wipe σ vs ∧ te σ2 H2 A)
    (fin : ∀ D H', H D = none → Ex H H' → H' D = some (.lst (l.map F)) → Q (.ref D) H') : LcL K g tYes te vs σ (.ref a) H Q :=
  u_lcL em l (fun _ => true) F hS hz (fun x hx H' e A B h1 _ => by
    have e2 : (fun (σ2 : L2.St) H2 => wipe σ2 vs = wipe σ vs ∧ tYes σ2 H2 fun b H3 => if b = true then te σ2 H3 A else B H3) = fun σ2 H2 => wipe σ2 vs = wipe σ vs ∧ te σ2 H2 A := by
      funext σ2 H2
      show (_ ∧ if true = true then te σ2 H2 A else B H2) = _
      rw [if_pos rfl]
    rw [e2]
    exact turn x hx H' e A (h1 rfl)) (by rw [filter_yes]; exact fin)
end
/-! ### greatest, least, sorted -/
noncomputable def maxI (l : List Int) : Int := match l with | [] => 0 | a :: t => t.foldl max a
noncomputable def minI (l : List Int) : Int := match l with | [] => 0 | a :: t => t.foldl min a
noncomputable def sortI (l : List Int) : List Int := l.mergeSort (fun a b => decide (a ≤ b))
/-! ### heaps as letters: the next heap, and what is known of it -/
theorem ex_ap {H H' : Hp} {a : Addr} {o : HO} (e : Ex H H') (h : H a = some o) : H' a = some o := e a o h
theorem exm_ap {H H' : Hp} {h a : Addr} {o : HO} (e : ExM h H H') (n : a ≠ h) (hh : H a = some o) : H' a = some o := e a o n hh
section
variable {K : PySem.W.Frag} {σ : L2.St} {H : Hp} {Q : VK} {v : V} {R : Hp → Prop}
theorem n_lst {xs : List V} (h : xs.length ≤ 100000) (q : ∀ p H', H p = none → Ex H H' → H' p = some (.lst xs) → Q (.ref p) H') : NewL xs H Q := ⟨sz_of h, fun p hp => q p _ hp (Ex.new hp) upd_same⟩
theorem n_slL {a : Addr} {xs : List V} {lo hi : Option Int} (h : SqL K H a xs) (q : ∀ p H', H p = none → Ex H H' → H' p = some (.lst (cutV xs lo hi)) → Q (.ref p) H') : rSlL K (.ref a) lo hi H Q := ⟨a, xs, rfl, h, fun p hp => q p _ hp (Ex.new hp) upd_same⟩
theorem n_cat {a b : Addr} {xs ys : List V} (h1 : H a = some (.lst xs)) (h2 : H b = some (.lst ys)) (hz : xs.length + ys.length ≤ 100000) (q : ∀ p H', H p = none → Ex H H' → H' p = some (.lst (xs ++ ys)) → Q (.ref p) H') : rPlus (.ref a) (.ref b) H Q :=
  .inr (.inl ⟨a, b, xs, ys, rfl, rfl, h1, h2, sz_of hz, fun p hp => q p _ hp (Ex.new hp) upd_same⟩)
theorem n_setL {a : Addr} {xs : List V} {k : Int} {j : Nat} (h : H a = some (.lst xs)) (hk : ixN xs.length k = some j) (q : ∀ H', ExM a H H' → H' a = some (.lst (xs.set j v)) → R H') : rSetL (.ref a) (.int k) v H R := ⟨a, xs, k, j, rfl, rfl, h, hk, q _ ExM.upd upd_same⟩
noncomputable def rRevL (K : PySem.W.Frag) (x : V) (H : Hp) (Q : VK) : Prop := ∃ a xs, x = .ref a ∧ SqL K H a xs ∧ ∀ p, H p = none → Q (.ref p) (upd H p (.lst xs.reverse))
theorem s_rev {te : TE} (q : te σ H fun x H1 => rRevL K x H1 Q) : tRevL K te σ H Q := q
end

/-- the cut of a list, of anything -/
noncomputable def cutI {α : Type} (xs : List α) (lo hi : Option Int) : List α := (xs.drop (HT.sIx xs.length 0 lo)).take (HT.sIx xs.length xs.length hi - HT.sIx xs.length 0 lo)
theorem cutV_map {α : Type} (f : α → V) (xs : List α) (lo hi : Option Int) : cutV (xs.map f) lo hi = (cutI xs lo hi).map f := by
  unfold cutV cutI
  rw [List.length_map, ← List.map_drop, ← List.map_take]
theorem cutV_ints (xs : List Int) (lo hi : Option Int) : cutV (xs.map V.int) lo hi = (cutI xs lo hi).map V.int := cutV_map _ _ _ _
theorem cutI_to {α : Type} (xs : List α) {k : Int} (h : 0 ≤ k) : cutI xs none (some k) = xs.take k.toNat := by
  obtain ⟨n, rfl⟩ : ∃ n : Nat, k = (n : Int) := ⟨k.toNat, by omega⟩
  unfold cutI
  rw [HT.sIx_none, HT.sIx_nat, List.drop_zero, Nat.sub_zero, Int.toNat_natCast, List.take_eq_take_iff]
  omega
theorem cutI_from {α : Type} (xs : List α) {k : Int} (h : 0 ≤ k) : cutI xs (some k) none = xs.drop k.toNat := by
  obtain ⟨n, rfl⟩ : ∃ n : Nat, k = (n : Int) := ⟨k.toNat, by omega⟩
  unfold cutI
  rw [HT.sIx_none, HT.sIx_nat, Int.toNat_natCast]
  by_cases hn : n ≤ xs.length
  · rw [Nat.min_eq_left hn, List.take_of_length_le (by rw [List.length_drop]; exact Nat.le_refl _)]
  · rw [Nat.min_eq_right (by omega), Nat.sub_self, List.take_zero, List.drop_of_length_le (by omega)]
theorem cutI_mid {α : Type} (xs : List α) {k m : Int} (h : 0 ≤ k) (h2 : k ≤ m) : cutI xs (some k) (some m) = (xs.drop k.toNat).take (m.toNat - k.toNat) := by
  obtain ⟨n, rfl⟩ : ∃ n : Nat, k = (n : Int) := ⟨k.toNat, by omega⟩
  obtain ⟨r, rfl⟩ : ∃ n : Nat, m = (n : Int) := ⟨m.toNat, by omega⟩
  unfold cutI
  rw [HT.sIx_nat, HT.sIx_nat, Int.toNat_natCast, Int.toNat_natCast]
  by_cases hn : n ≤ xs.length
  · rw [Nat.min_eq_left hn, List.take_eq_take_iff, List.length_drop]
    omega
  · have h3 : min n xs.length = xs.length := Nat.min_eq_right (by omega)
    rw [h3, List.drop_of_length_le (Nat.le_refl _), List.drop_of_length_le (show xs.length ≤ n by omega)]
    simp
section
variable {K : PySem.W.Frag} {H : Hp} {Q : VK} {a : Addr}
end
section
variable {K : PySem.W.Frag} {H : Hp} {Q : VK} {a : Addr} {i : Int}
end
theorem cx_K {CX : CXT} {P : Program} {w : World} {K : PySem.W.Frag} {mg : Str → Option Value} {base : Heap} {N : List Str} {x : Str} {sc : Scope} {f : Addr} {cdv : Value} {A : Around} {outer : List Env} {s : Shared} {H : Hp} {E : XK} :
    (cxOf CX P w K mg base N x sc f cdv A outer s H E).nox.K = K := rfl
theorem cx_K2 {CX : CXT} {P : Program} {w : World} {K : PySem.W.Frag} {mg : Str → Option Value} {base : Heap} {N : List Str} {x : Str} {sc : Scope} {f : Addr} {cdv : Value} {A : Around} {outer : List Env} {s : Shared} {H : Hp} {E : XK} :
    (cxOf CX P w K mg base N x sc f cdv A outer s H E).K = K := rfl
/-! ### places -/
/-! ### data with types: what a value is as a thing of plain Lean -/
class Py (α : Type) where
  d : α → PyData
  dep : Nat
  depth : ∀ a, (d a).depth ≤ dep
  can : ∀ a, (d a).canLay0 = true
  eqv : ∀ a b, (PyData.eqv (d a) (d b) = true ↔ a = b)
instance : Py Int := ⟨PyData.int, 0, fun _ => Nat.le_refl _, fun _ => rfl, fun a b => by rw [PyData.eqv]; exact beq_iff_eq⟩
instance : Py Bool := ⟨PyData.bool, 0, fun _ => Nat.le_refl _, fun _ => rfl, fun a b => by rw [PyData.eqv]; exact beq_iff_eq⟩
theorem eqvAll_iff {α : Type} [Py α] : ∀ xs ys : List α, (PyData.eqvAll (xs.map Py.d) (ys.map Py.d) = true ↔ xs = ys)
  | [], [] => by simp [PyData.eqvAll]
  | [], _ :: _ => by simp [PyData.eqvAll]
  | _ :: _, [] => by simp [PyData.eqvAll]
  | x :: xs, y :: ys => by
    rw [List.map_cons, List.map_cons, PyData.eqvAll, Bool.and_eq_true, Py.eqv, eqvAll_iff xs ys, List.cons.injEq]
theorem canAll_of {α : Type} [Py α] : ∀ xs : List α, PyData.canLayAll0 (xs.map Py.d) = true
  | [] => rfl
  | x :: xs => by rw [List.map_cons, PyData.canLayAll0, Py.can, canAll_of xs]; rfl
theorem depthAll_of {α : Type} [Py α] : ∀ xs : List α, PyData.depthAll (xs.map Py.d) ≤ Py.dep α
  | [] => Nat.zero_le _
  | x :: xs => by
    rw [List.map_cons, PyData.depthAll]
    exact Nat.max_le.mpr ⟨Py.depth x, depthAll_of xs⟩
instance {α : Type} [Py α] : Py (List α) := ⟨fun xs => .list (xs.map Py.d), Py.dep α + 1, fun xs => by rw [PyData.depth]; exact Nat.succ_le_succ (depthAll_of xs), fun xs => by rw [PyData.canLay0]; exact canAll_of xs, fun a b => by rw [PyData.eqv]; exact eqvAll_iff a b⟩
instance {α β : Type} [Py α] [Py β] : Py (α × β) := ⟨fun p => .tuple [Py.d p.1, Py.d p.2], max (Py.dep α) (Py.dep β) + 1, fun p => by
    simp only [PyData.depth, PyData.depthAll]
    have h1 := Py.depth p.1
    have h2 := Py.depth p.2
    omega, fun p => by simp only [PyData.canLay0, PyData.canLayAll0, Py.can]; rfl, fun a b => by
    simp only [PyData.eqv, PyData.eqvAll, Bool.and_true, Bool.and_eq_true, Py.eqv]
    exact ⟨fun h => Prod.ext h.1 h.2, fun h => by rw [h]; exact ⟨rfl, rfl⟩⟩⟩
/-- a triple | four, as one tuple -/
structure T3 (α β γ : Type) where
  a : α
  b : β
  c : γ
  deriving DecidableEq
structure T4 (α β γ δ : Type) where
  a : α
  b : β
  c : γ
  d : δ
  deriving DecidableEq
instance {α β γ : Type} [Py α] [Py β] [Py γ] : Py (T3 α β γ) := ⟨fun p => .tuple [Py.d p.a, Py.d p.b, Py.d p.c], max (Py.dep α) (max (Py.dep β) (Py.dep γ)) + 1, fun p => by
    simp only [PyData.depth, PyData.depthAll]
    have h1 := Py.depth p.a
    have h2 := Py.depth p.b
    have h3 := Py.depth p.c
    omega, fun p => by simp only [PyData.canLay0, PyData.canLayAll0, Py.can]; rfl, fun a b => by
    obtain ⟨a1, a2, a3⟩ := a
    obtain ⟨b1, b2, b3⟩ := b
    simp only [PyData.eqv, PyData.eqvAll, Bool.and_true, Bool.and_eq_true, Py.eqv, T3.mk.injEq]⟩
instance {α β γ δ : Type} [Py α] [Py β] [Py γ] [Py δ] : Py (T4 α β γ δ) := ⟨fun p => .tuple [Py.d p.a, Py.d p.b, Py.d p.c, Py.d p.d], max (Py.dep α) (max (Py.dep β) (max (Py.dep γ) (Py.dep δ))) + 1, fun p => by
    simp only [PyData.depth, PyData.depthAll]
    have h1 := Py.depth p.a
    have h2 := Py.depth p.b
    have h3 := Py.depth p.c
    have h4 := Py.depth p.d
    omega, fun p => by simp only [PyData.canLay0, PyData.canLayAll0, Py.can]; rfl, fun a b => by
    obtain ⟨a1, a2, a3, a4⟩ := a
    obtain ⟨b1, b2, b3, b4⟩ := b
    simp only [PyData.eqv, PyData.eqvAll, Bool.and_true, Bool.and_eq_true, Py.eqv, T4.mk.injEq]⟩
theorem eqv_dec {α : Type} [Py α] [DecidableEq α] (a b : α) : PyData.eqv (Py.d a) (Py.d b) = decide (a = b) := by
  by_cases h : a = b
  · rw [decide_eq_true h]
    exact (Py.eqv a b).mpr h
  · rw [decide_eq_false h]
    cases e : PyData.eqv (Py.d a) (Py.d b) with
    | true => exact absurd ((Py.eqv a b).mp e) h
    | false => rfl
theorem shaped_of {α : Type} [Py α] (a : α) (h : Py.dep α ≤ 64) : SeqAt.shaped (Py.d a) = true := by
  unfold SeqAt.shaped
  rw [Py.can, decide_eq_true (Nat.le_trans (Py.depth a) h)]
  rfl
/-- the value v stands in H as the thing x -/
noncomputable abbrev Is (K : PySem.W.Frag) (H : Hp) {α : Type} [Py α] (v : V) (x : α) : Prop := Dp K H v (Py.d x)
theorem s_eqP {α : Type} [Py α] [DecidableEq α] {K : PySem.W.Frag} {H : Hp} {Q : VK} {v w : V} {x y : α} (h1 : Is K H v x) (h2 : Is K H w y) (hd : Py.dep α ≤ 64) (q : Q (.bl (decide (x = y))) H) : rEqA K v w H Q :=
  .inr ⟨_, _, h1, h2, shaped_of x hd, shaped_of y hd, by rw [eqv_dec]; exact q⟩
theorem s_neP {α : Type} [Py α] [DecidableEq α] {K : PySem.W.Frag} {H : Hp} {Q : VK} {v w : V} {x y : α} (h1 : Is K H v x) (h2 : Is K H w y) (hd : Py.dep α ≤ 64) (q : Q (.bl (decide (x ≠ y))) H) : rNeA K v w H Q :=
  .inr ⟨_, _, h1, h2, shaped_of x hd, shaped_of y hd, by rw [eqv_dec, ← decide_not]; exact q⟩

/-! ### a list of data that is filled: it stands at D, its items in Z -/
instance : Py (Option Int) := ⟨fun o => match o with | none => .none | some i => .int i, 0, fun o => by cases o <;> exact Nat.le_refl _, fun o => by cases o <;> rfl, fun a b => by
  cases a <;> cases b
  · exact ⟨fun _ => rfl, fun _ => rfl⟩
  · exact ⟨fun h => (Bool.false_ne_true h).elim, fun h => nomatch h⟩
  · exact ⟨fun h => (Bool.false_ne_true h).elim, fun h => nomatch h⟩
  · rename_i x y
    show (x == y) = true ↔ some x = some y
    rw [beq_iff_eq, Option.some.injEq]⟩
/-- a number or nothing, as a value -/
noncomputable def optV : Option Int → V
  | none => .non
  | some i => .int i
structure LA (K : PySem.W.Frag) (Z H : Hp) (D : Addr) {α : Type} [Py α] (l : List α) : Prop where
  ex : ∃ vs, H D = some (.lst vs) ∧ Paired (fun v x => Is K Z v x) vs l
  zd : Z D = none
  zh : Ex Z H
section
variable {K : PySem.W.Frag} {Z H H' : Hp} {D : Addr} {α : Type} [Py α] {l : List α}
theorem pair_get' {F : V → α → Prop} : ∀ {vs : List V} {l : List α}, Paired F vs l → ∀ {i : Nat} {v : V}, vs[i]? = some v → ∃ x, l[i]? = some x ∧ F v x
  | _, _, .nil, i, x, h => by simp at h
  | _, _, .cons a r, 0, x, h => by
    cases h
    exact ⟨_, rfl, a⟩
  | _, _, .cons a r, i + 1, x, h => pair_get' r (i := i) h
end

section
variable {K : PySem.W.Frag} {Z H : Hp} {D : Addr} {α β : Type} [Py α] [Py β] {l : List α} {Q : VK} {v : V}
end
section
variable {K : PySem.W.Frag} {Z H : Hp} {α β γ : Type} [Py α] [Py β] [Py γ] {v : V} {σ : L2.St} {R : L2.St → Hp → Prop}
theorem s_gt2 {H : Hp} {b : Addr} {x y : V} {g1 g2 : TG} (h : SqT K H b [x, y]) (q : g1 x σ H fun σ1 H1 => g2 y σ1 H1 R) : gTup K 2 (gCons g1 (gCons g2 gNil)) (.ref b) σ H R := by
  refine ⟨b, _, rfl, h, rfl, x, [y], rfl, ?_⟩
  have e3 : (fun (σ1 : L2.St) H1 => g2 y σ1 H1 R) = fun σ1 H1 => g2 y σ1 H1 fun σ2 H2 => ([] : List V) = [] ∧ R σ2 H2 := by
    funext σ1 H1
    have : R = fun σ2 H2 => ([] : List V) = [] ∧ R σ2 H2 := by
      funext σ2 H2
      exact propext ⟨fun z => ⟨rfl, z⟩, fun z => z.2⟩
    rw [← this]
  rw [e3] at q
  have e4 : (fun (σ1 : L2.St) H1 => g2 y σ1 H1 fun σ2 H2 => ([] : List V) = [] ∧ R σ2 H2) = fun σ1 H1 => gCons g2 gNil [y] σ1 H1 R := by
    funext σ1 H1
    refine propext ⟨fun z => ⟨y, [], rfl, z⟩, fun z => ?_⟩
    obtain ⟨y', r', e, z⟩ := z
    cases e
    exact z
  rw [e4] at q
  exact q
end
/-! ### what a def is, and that it keeps its promise -/
/-- the def x stands in the module as its text says -/
noncomputable def FunAt (K : PySem.W.Frag) (mg : Str → Option Value) (x : Str) (st : Stmt) (ps : List Str) : Prop := ∃ f fd, Fun K x x st f fd ∧ mg x = some (.ref f) ∧ Binds K fd ps []
/-- the def x keeps the promise sp, by at most level k -/
noncomputable def Has (P : Program) (w : World) (K : PySem.W.Frag) (mg : Str → Option Value) (base : Heap) (x : Str) (k : Nat) (sp : Sp) : Prop :=
  ∃ f fd ps, FnOk P w K mg base CX0 k f fd ps sp ∧ mg x = some (.ref f) ∧ PySem.W.keepIn K (.ref f) = true ∧ Binds K fd ps []
section
variable {X : Cx} {k k' : Nat} {sp : Sp} {x : Str} {p pos : Pos} {e : Expr} {es : List Expr} {t : TA}
theorem pe_callH (h : Has X.prog X.w X.K X.mg X.base x k sp) (hk : k ≤ k') (hr : Room k' X.A) (hg : Gl X x) (ha : PA X (e :: es) t) (hdb : (x == ("__debug__" : Str)) = false := by decide)
    (he : starEach (e :: es) X.env = (false, eval e X.env) :: starEach es X.env := by rfl) (hpl : (backTo pos (starEach es X.env)).any (·.1) = false := by rfl) : PE X (.Call (.Name x p) (e :: es) [] pos) (tCall sp [] E0 t) := by
  obtain ⟨f, fd, ps, F, hm, kp, hb⟩ := h
  exact pe_call F (hr.mono hk) hg hm kp hb .nil pass0 ha hdb he hpl
theorem pe_constI {i : Int} (h : ∃ t, X.mg x = some (.int i t)) (hg : Gl X x) (hd : (x == ("__debug__" : Str)) = false := by decide) : PE X (.Name x pos) (tC (.int i)) := by
  obtain ⟨t, h⟩ := h
  exact pe_glob hg h ⟨t, rfl⟩ hd
theorem pe_constS {i : Str} (h : ∃ t, X.mg x = some (.str i t)) (hg : Gl X x) (hd : (x == ("__debug__" : Str)) = false := by decide) : PE X (.Name x pos) (tC (.str i)) := by
  obtain ⟨t, h⟩ := h
  exact pe_glob hg h ⟨t, rfl⟩ hd
end
section
variable {P : Program} {w : World} {K : PySem.W.Frag} {mg : Str → Option Value} {base : Heap}
theorem fnok_of {x : Str} {st : Stmt} {N ps : List Str} {k : Nat} {sp : Sp} {f : Addr} {fd : FuncData} (F : Fun K x x st f fd) (S : FnScope N ps (defScope st)) (len : ∀ vs H Q E, sp vs H Q E → vs.length = ps.length)
    (hbody : ∀ (cdv : Value) (A : Around) (outer : List Env) (s : Shared) (H : Hp) (vs : List V) (Q : VK) (E : XK), Room k (A.deeper (envOfC x (defScope st) s.heap.objs.size f cdv)) → sp vs H Q E →
      ∃ t, PSs (cxOf CX0 P w K mg base N x (defScope st) f cdv A outer s H E).nox (defBody st) t ∧ t { nx := fun _ H' => Q .non H', rt := Q } (start N vs) H) : FnOk P w K mg base CX0 (k + 1) f fd ps sp := F.ok S len hbody
/-- a def's promise by its body -/
theorem has_of {x : Str} {st : Stmt} {N ps : List Str} {k : Nat} {sp : Sp} (F : FunAt K mg x st ps) (S : FnScope N ps (defScope st)) (len : ∀ vs H Q E, sp vs H Q E → vs.length = ps.length)
    (hbody : ∀ (f : Addr) (cdv : Value) (A : Around) (outer : List Env) (s : Shared) (H : Hp) (vs : List V) (Q : VK) (E : XK), Room k (A.deeper (envOfC x (defScope st) s.heap.objs.size f cdv)) → sp vs H Q E →
      ∃ t, PSs (cxOf CX0 P w K mg base N x (defScope st) f cdv A outer s H E).nox (defBody st) t ∧ t { nx := fun _ H' => Q .non H', rt := Q } (start N vs) H) : Has P w K mg base x (k + 1) sp := by
  obtain ⟨f, fd, F, hm, hb⟩ := F
  exact ⟨f, fd, ps, F.ok S len (hbody f), hm, F.kp, hb⟩
/-- a module's number, a module's text, as the head's facts tell it -/
theorem constI_mk {h : Heap} (X : K.In h) (G : h.Ns mainGlobals mg) {x : Str} {i : Int} {t : Tok} (a : PySem.W.nsIn K mainGlobals x = some (some (.int i t))) : ∃ t, mg x = some (.int i t) := ⟨t, PySem.W.mg_of X G a⟩
theorem constS_mk {h : Heap} (X : K.In h) (G : h.Ns mainGlobals mg) {x : Str} {i : Str} {t : Tok} (a : PySem.W.nsIn K mainGlobals x = some (some (.str i t))) : ∃ t, mg x = some (.str i t) := ⟨t, PySem.W.mg_of X G a⟩
/-- a def as the head's facts tell it -/
theorem funAt_mk {h : Heap} (X : K.In h) (G : h.Ns mainGlobals mg) {x : Str} {st : Stmt} {ps : List Str} {f : Addr} {oc : Value} {od an : Option Addr} {osl : Array (Option Value)} {kV doc pm cdv ct : Value}
    (a : PySem.W.nsIn K mainGlobals x = some (some (.ref f))) (l : K.lookup f = some ⟨oc, od, .func (PySem.W.fnOf x x (defArgs st) (defBody st) (defScope st) .none kV doc pm an cdv ct), osl⟩)
    (c : PySem.W.codeIn K cdv x = true) (k : PySem.W.keepIn K (.ref f) = true)
    (b : ∀ (kV doc pm : Value) (an : Option Addr) (cdv ct : Value) (us : List Value), us.length = ps.length → bindArgs (PySem.W.fnOf x x (defArgs st) (defBody st) (defScope st) .none kV doc pm an cdv ct) ⟨us, []⟩ = pure (ps.zip us)) : FunAt K mg x st ps :=
  ⟨f, _, fun_mk l c k, PySem.W.mg_of X G a, (fun_mk (st := st) l c k).binds b⟩
/-- the law itself at the end -/
theorem law_end {P : Program} {h : Heap} (X : K.In h) (G : h.Ns mainGlobals mg) {fa : Addr} (hfa : mg "law" = some (.ref fa)) {st : Stmt} {x : Str} {k : Nat} {sp : Sp} {f : Addr} {oc : Value} {od an : Option Addr} {osl : Array (Option Value)} {kV doc pm cdv ct : Value}
    (a : PySem.W.nsIn K mainGlobals "law" = some (some (.ref f))) (l : K.lookup f = some ⟨oc, od, .func (PySem.W.fnOf "law" "law" (defArgs st) (defBody st) (defScope st) .none kV doc pm an cdv ct), osl⟩)
    (c : PySem.W.codeIn K cdv "law" = true) (kp : PySem.W.keepIn K (.ref f) = true)
    (hb : ∀ (s : Shared) (v : Value), BindsTo s (PySem.W.fnOf "law" "law" (defArgs st) (defBody st) (defScope st) .none kV doc pm an cdv ct) ⟨[v], []⟩ [(x, v)])
    (b : ∀ base : Heap, Fun K "law" "law" st f (PySem.W.fnOf "law" "law" (defArgs st) (defBody st) (defScope st) .none kV doc pm an cdv ct) → FnOk P w K mg base CX0 k f (PySem.W.fnOf "law" "law" (defArgs st) (defBody st) (defScope st) .none kV doc pm an cdv ct) [x] sp) :
    ∃ fd : FuncData, (∀ (s : Shared) (v : Value), BindsTo s fd ⟨[v], []⟩ [(x, v)]) ∧ ∀ base : Heap, K.In base → base.Ns mainGlobals mg → FnOk P w K mg base CX0 k fa fd [x] sp := by
  have e := hfa.symm.trans (PySem.W.mg_of X G a)
  cases e
  exact ⟨_, hb, fun base _ _ => b base (fun_mk l c kp)⟩
end
end TR
/-! the hand that is drawn from: n draws are left (its counter stays below 2^60) -/
namespace TR
open PySem L2
noncomputable def Hand (K : PySem.W.Frag) (Z H : Hp) (h : Addr) (n : Nat) : Prop :=
  ∃ (d k : Int) (c : Addr) (cells : List Int), H h = some (.lst [.int d, .int k, .ref c]) ∧ 0 < cells.length ∧ 0 ≤ k ∧ k + n ≤ 1000000000000000000 ∧ Ex Z H ∧ Z h = none ∧ SqL K Z c (cells.map V.int)
theorem Hand.mono {K : PySem.W.Frag} {Z H : Hp} {h : Addr} {n m : Nat} (a : Hand K Z H h n) (l : m ≤ n) : Hand K Z H h m := by
  obtain ⟨d, k, c, cells, h1, h3, h4, h5, h6⟩ := a
  exact ⟨d, k, c, cells, h1, h3, h4, by omega, h6⟩
theorem Hand.ex {K : PySem.W.Frag} {Z H H' : Hp} {h : Addr} {n : Nat} (a : Hand K Z H h n) (e : Ex H H') : Hand K Z H' h n := by
  obtain ⟨d, k, c, cells, h1, h3, h4, h5, z1, z2, z3⟩ := a
  exact ⟨d, k, c, cells, e _ _ h1, h3, h4, h5, z1.trans e, z2, z3⟩
theorem Hand.exm {K : PySem.W.Frag} {Z H H' : Hp} {h g : Addr} {n : Nat} (a : Hand K Z H h n) (e : ExM g H H') (n1 : h ≠ g) (n2 : Z g = none) : Hand K Z H' h n := by
  obtain ⟨d, k, c, cells, h1, h3, h4, h5, z1, z2, z3⟩ := a
  exact ⟨d, k, c, cells, e _ _ n1 h1, h3, h4, h5, z1.exm n2 e, z2, z3⟩
theorem Hand.at {K : PySem.W.Frag} {Z H : Hp} {h : Addr} {n : Nat} (a : Hand K Z H h n) : ∃ o, H h = some o := by
  obtain ⟨d, k, c, cells, h1, _⟩ := a
  exact ⟨_, h1⟩
theorem Hand.z {K : PySem.W.Frag} {Z H : Hp} {h : Addr} {n : Nat} (a : Hand K Z H h n) : Ex Z H := by
  obtain ⟨d, k, c, cells, h1, h3, h4, h5, z1, z2, z3⟩ := a
  exact z1
theorem Hand.zn {K : PySem.W.Frag} {Z H : Hp} {h : Addr} {n : Nat} (a : Hand K Z H h n) : Z h = none := by
  obtain ⟨_, _, _, _, _, _, _, _, _, h6, _⟩ := a
  exact h6
theorem hand_ne {K : PySem.W.Frag} {Z H H' : Hp} {h p : Addr} {n : Nat} (hp : H' p = none) (a : Hand K Z H h n) (e : Ex H H') : p ≠ h := by
  obtain ⟨o, ho⟩ := a.at
  exact (ne_of_none (e _ _ ho) hp).symm
theorem hand_ne0 {K : PySem.W.Frag} {Z H : Hp} {h p : Addr} {n : Nat} (hp : H p = none) (a : Hand K Z H h n) : p ≠ h := hand_ne hp a (Ex.refl _)
section
variable {K : PySem.W.Frag} {σ : L2.St} {H : Hp} {te : TE} {Q : VK} {g : TG} {vs : List Nat}
end
/-! ### rows: a list of lists, each of them an object of its own -/
structure RW (K : PySem.W.Frag) (Z H : Hp) (p : Addr) (qs : List Addr) {α : Type} [Py α] (rs : List (List α)) : Prop where
  own : H p = some (.lst (qs.map V.ref))
  nd : (p :: qs).Nodup
  fr : ∀ q ∈ p :: qs, Z q = none
  zh : Ex Z H
  rows : Paired (fun q r => ∃ vs, H q = some (.lst vs) ∧ Paired (fun v x => Is K Z v x) vs r) qs rs
section
variable {K : PySem.W.Frag} {Z H H1 H' : Hp} {p q : Addr} {qs : List Addr} {α : Type} [Py α] {rs : List (List α)} {Q : VK}
theorem RW.at' {qs : List Addr} {rs : List (List α)} {F : Addr → List α → Prop} : Paired F qs rs → ∀ {i : Nat} {q : Addr}, qs[i]? = some q → ∃ r, rs[i]? = some r ∧ F q r
  | .nil, i, q, h => by simp at h
  | .cons a t, 0, q, h => by cases h; exact ⟨_, rfl, a⟩
  | .cons a t, i + 1, q, h => RW.at' t h
theorem paired_snoc {β γ : Type} {F : β → γ → Prop} : ∀ {xs : List β} {ys : List γ} {x : β} {y : γ}, Paired F xs ys → F x y → Paired F (xs ++ [x]) (ys ++ [y])
  | _, _, _, _, .nil, h => .cons h .nil
  | _, _, _, _, .cons a t, h => .cons a (paired_snoc t h)
theorem RW.push' {m : ExM q H H'} {F : Addr → List α → Prop} {G : Addr → List α → Prop} (hF : ∀ b r, b ≠ q → F b r → G b r) : ∀ {qs : List Addr} {rs : List (List α)} {i : Nat} {r' : List α}, Paired F qs rs → qs.Nodup → qs[i]? = some q → G q r' → Paired G qs (rs.set i r')
  | [], _, i, r', .nil, _, h, _ => by simp at h
  | b :: qs, r :: rs, 0, r', .cons a t, nd, h, g => by
    cases h
    refine .cons g ?_
    have nb := (List.nodup_cons.mp nd).1
    clear nd
    induction t with
    | nil => exact .nil
    | cons a2 t2 ih => exact .cons (hF _ _ (fun z => nb (z ▸ List.mem_cons_self)) a2) (ih fun z => nb (List.mem_cons_of_mem _ z))
  | b :: qs, r :: rs, i + 1, r', .cons a t, nd, h, g => by
    have nb : b ≠ q := fun z => (List.nodup_cons.mp nd).1 (z ▸ List.mem_of_getElem? h)
    exact .cons (hF _ _ nb a) (RW.push' (m := m) hF t (List.nodup_cons.mp nd).2 h g)
end
section
variable {K : PySem.W.Frag} {σ : L2.St} {H : Hp} {te : TE} {Q : VK} {g : TG} {vs : List Nat}
end
section
variable {K : PySem.W.Frag} {σ : L2.St} {H : Hp} {te : TE} {Q : VK} {g : TG} {vs : List Nat}
end
section
variable {K : PySem.W.Frag} {σ : L2.St} {H : Hp} {tt : TT} {te : TE} {Q : VK} {g : TG} {vs : List Nat}
end
section
variable {K : PySem.W.Frag} {H : Hp} {Q : VK}
end
section
variable {K : PySem.W.Frag} {σ : L2.St} {H : Hp} {te : TE} {Q : VK} {g : TG} {vs : List Nat}
end
section
variable {K : PySem.W.Frag} {σ : L2.St} {H : Hp} {tt : TT} {te : TE} {Q : VK} {g : TG} {vs : List Nat}
/-- targets one behind another -/
theorem g_n {R : L2.St → Hp → Prop} : (fun (σ : L2.St) H => gNil [] σ H R) = R := by
  funext σ H
  exact propext ⟨fun z => z.2, fun z => ⟨rfl, z⟩⟩
theorem g_c {g : TG} {rest : List V → L2.St → Hp → (L2.St → Hp → Prop) → Prop} {y : V} {ys : List V} {R : L2.St → Hp → Prop} : gCons g rest (y :: ys) σ H R = g y σ H (fun σ1 H1 => rest ys σ1 H1 R) := by
  refine propext ⟨fun z => ?_, fun z => ⟨y, ys, rfl, z⟩⟩
  obtain ⟨y', r', e, z⟩ := z
  cases e
  exact z
theorem s_gt3 {b : Addr} {x y z : V} {g1 g2 g3 : TG} {R : L2.St → Hp → Prop} (h : SqT K H b [x, y, z]) (q : g1 x σ H fun σ1 H1 => g2 y σ1 H1 fun σ2 H2 => g3 z σ2 H2 R) : gTup K 3 (gCons g1 (gCons g2 (gCons g3 gNil))) (.ref b) σ H R := by
  refine ⟨b, _, rfl, h, rfl, ?_⟩
  rw [g_c]
  simp only [g_c, g_n]
  exact q
/-- a value that is a list of numbers of its own -/
noncomputable def Lp (H : Hp) (v : V) (r : List Int) : Prop := ∃ a, v = .ref a ∧ H a = some (.lst (r.map V.int))
end
section
variable {K : PySem.W.Frag} {σ : L2.St} {H : Hp} {tt : TT} {te : TE} {Q : VK} {g : TG} {vs : List Nat}
theorem lc_yes {A : VK} {B : Hp → Prop} : (fun (σ2 : L2.St) H2 => wipe σ2 vs = wipe σ vs ∧ tYes σ2 H2 fun b H3 => if b = true then te σ2 H3 A else B H3) = fun σ2 H2 => wipe σ2 vs = wipe σ vs ∧ te σ2 H2 A := by
  funext σ2 H2
  show (_ ∧ if true = true then te σ2 H2 A else B H2) = _
  rw [if_pos rfl]
end
/-! ### pairs of numbers, sorted -/
/-- a value that is a tuple of two numbers -/
noncomputable def Tp (H : Hp) (v : V) (r : Int × Int) : Prop := ∃ a, v = .ref a ∧ H a = some (.tup [.int r.1, .int r.2])
noncomputable def lexI (a b : Int × Int) : Bool := decide (a.1 < b.1 ∨ (a.1 = b.1 ∧ a.2 ≤ b.2))
noncomputable def sortP (l : List (Int × Int)) : List (Int × Int) := l.mergeSort lexI
noncomputable def keyP (H : Hp) (v : V) : Int × Int := match v with
  | .ref t => match H t with
    | some (.tup [.int i, .int j]) => (i, j)
    | _ => (0, 0)
  | _ => (0, 0)
/-- values that are tuples of three, of four numbers -/
noncomputable def Rp (H : Hp) (v : V) (t : T3 Int Int Int) : Prop := ∃ a, v = .ref a ∧ H a = some (.tup [.int t.a, .int t.b, .int t.c])
noncomputable def Qp (H : Hp) (v : V) (t : T4 Int Int Int Int) : Prop := ∃ a, v = .ref a ∧ H a = some (.tup [.int t.a, .int t.b, .int t.c, .int t.d])
theorem paired_snoc_inv {β γ : Type} {F : β → γ → Prop} : ∀ {ys : List γ} {xs : List β} {y : γ}, Paired F xs (ys ++ [y]) → ∃ us u, xs = us ++ [u] ∧ Paired F us ys ∧ F u y
  | [], _, _, .cons a .nil => ⟨[], _, rfl, .nil, a⟩
  | _ :: ys, _, _, .cons a t => by
    obtain ⟨us, u, rfl, h1, h2⟩ := paired_snoc_inv (ys := ys) t
    exact ⟨_ :: us, u, rfl, .cons a h1, h2⟩
/-! ### a dict of counts -/
noncomputable def CntD (H : Hp) (p : Addr) (f : Int → Int) (n : Nat) : Prop := ∃ kvs : List (L2.Key × V), H p = some (.dK kvs) ∧ kvs.length ≤ n ∧ ∀ r : Int, (valV kvs (Sum.inl r)).getD (.int 0) = .int (f r)
noncomputable def DG1 (a : Addr) (y z : V) (H3 : Hp) (Q : VK) : Prop := ∃ o, DGet H3 a y o ∧ Q (o.getD z) H3
noncomputable def DG (ty tx : TE) (σ : L2.St) (x : V) (H1 : Hp) (Q : VK) : Prop := ∃ a, x = .ref a ∧ IsD H1 a ∧ ty σ H1 fun y H2 => tx σ H2 fun z H3 => DG1 a y z H3 Q
noncomputable def DP (x y v : V) (H : Hp) (R : Hp → Prop) : Prop := ∃ a H4, x = .ref a ∧ DPut H a y v H4 ∧ R H4
section
variable {σ : L2.St} {H : Hp} {td ty tx tv : TE} {Q : VK} {D : Ends} {p : Addr} {f : Int → Int} {n : Nat}
end
/-- a value that is a list of numbers, not the one at p -/
noncomputable def Lq (p : Addr) (H : Hp) (v : V) (r : List Int) : Prop := ∃ a, v = .ref a ∧ a ≠ p ∧ H a = some (.lst (r.map V.int))
end TR
namespace TR
open PySem L2
/-- a test | a value, with a word behind it: what follows is shown once, from Mid -/
noncomputable def tTCut (t : TT) : TT := fun σ H QB => ∃ Mid : Bool → Hp → Prop, t σ H Mid ∧ ∀ b H1, Mid b H1 → QB b H1
theorem pt_cut {X : Cx} {e : Expr} {t : TT} (h : PT X e t) : PT X e (tTCut t) := ⟨fun pins s σ H Q I ⟨Mid, h1, h2⟩ => thn (h.run pins s σ H Mid I h1) fun b s' ⟨H', I', q⟩ => ⟨H', I', h2 b H' q⟩⟩
noncomputable def tECut (t : TE) : TE := fun σ H Q => ∃ Mid : VK, t σ H Mid ∧ ∀ v H1, Mid v H1 → Q v H1
theorem s_tcut {t : TT} {σ : L2.St} {H : Hp} {QB : Bool → Hp → Prop} (Mid : Bool → Hp → Prop) (h : t σ H Mid) (q : ∀ b H1, Mid b H1 → QB b H1) : tTCut t σ H QB := ⟨Mid, h, q⟩
end TR

/-! ### classes, methods, exceptions of the text -/
namespace TR
open PySem L2 PySem.Spec PyProof.Rows
/-- where a class of the text stands -/
noncomputable def clsA (K : PySem.W.Frag) (x : Str) : Addr := match PySem.W.nsIn K mainGlobals x with | some (some (.ref C)) => C | _ => 0
theorem clsA_of {K : PySem.W.Frag} {x : Str} {C : Addr} (h : PySem.W.nsIn K mainGlobals x = some (some (.ref C))) : clsA K x = C := by
  unfold clsA
  rw [h]
/-- a def that may raise keeps the promise -/
noncomputable def HasX (P : Program) (w : World) (K : PySem.W.Frag) (mg : Str → Option Value) (base : Heap) (x : Str) (k : Nat) (sp : Sp) : Prop :=
  ∃ f fd ps, FnOk P w K mg base (L2.CX P w) k f fd ps sp ∧ mg x = some (.ref f) ∧ PySem.W.keepIn K (.ref f) = true ∧ Binds K fd ps []
/-- a method -/
noncomputable def HasM (P : Program) (w : World) (K : PySem.W.Frag) (mg : Str → Option Value) (base : Heap) (x m : Str) (k : Nat) (sp : Sp) : Prop :=
  ∃ f fd ps, FnOk P w K mg base (L2.CX P w) k f fd ps sp ∧ Meth K (clsA K x) m f ∧ Binds K fd ps []
/-- a class that is made by its __init__ -/
noncomputable def HasK (P : Program) (w : World) (K : PySem.W.Frag) (mg : Str → Option Value) (base : Heap) (x : Str) (k : Nat) (sp : Sp) : Prop :=
  ∃ f fd ps, FnOk P w K mg base (L2.CX P w) k f fd ps sp ∧ Mk K (clsA K x) f ∧ mg x = some (.ref (clsA K x)) ∧ Binds K fd ps []
structure MethAt (K : PySem.W.Frag) (x m q : Str) (st : Stmt) (ps : List Str) : Prop where
  ex : ∃ f fd, Fun K m q st f fd ∧ Meth K (clsA K x) m f ∧ Binds K fd ps []
structure MakeAt (K : PySem.W.Frag) (mg : Str → Option Value) (x q : Str) (st : Stmt) (ps : List Str) : Prop where
  ex : ∃ f fd, Fun K "__init__" q st f fd ∧ Mk K (clsA K x) f ∧ mg x = some (.ref (clsA K x)) ∧ Binds K fd ps []
/-- an exception class with one field that its __init__ lays -/
structure ExF (K : PySem.W.Frag) (mg : Str → Option Value) (x f : Str) : Prop where
  o : OexC K (clsA K x)
  g : mg x = some (.ref (clsA K x))
  n : PySem.W.findIn K (.ref (clsA K x)) f = some none
structure ExAt (K : PySem.W.Frag) (x q : Str) (st : Stmt) (ps : List Str) : Prop where
  ex : ∃ fI fd, Fun K "__init__" q st fI fd ∧ PySem.W.findIn K (.ref (clsA K x)) "__init__" = some (some (.ref fI)) ∧ PySem.W.typeIn K (.ref fI) = some (.type "function") ∧ Binds K fd ps []
/-- the class over all own exceptions, itself right under ValueError -/
structure TeC (K : PySem.W.Frag) (mg : Str → Option Value) (x : Str) : Prop where
  g : mg x = some (.ref (clsA K x))
  ga : PySem.W.specialIn K (.ref (clsA K x)) "__getattribute__" = some (some (.builtin "type.__getattribute__"))
  rd : PySem.W.readsIn K (clsA K x) (.type "type") = true
  fi : PySem.W.findCls K (.ref (clsA K x)) (.type "type") "__init__" = some (.val (.builtin "ValueError.__init__"))
noncomputable def spInit (f : Str) (K : PySem.W.Frag) : Sp := fun vs H Q _ => ∃ (a C : Addr) (v : V), vs = [.ref a, v] ∧ OexC K C ∧ PySem.W.findIn K (.ref C) f = some none ∧ H a = some (exo a C none) ∧ ∀ d, H d = none → d ≠ a → Q .non (upd (upd H d (exd d [(f, v)])) a (exo a C (some d)))
noncomputable def HasE (P : Program) (w : World) (K : PySem.W.Frag) (mg : Str → Option Value) (base : Heap) (x f : Str) (k : Nat) : Prop :=
  ∃ fI fd ps, FnOk P w K mg base CX0 k fI fd ps (spInit f K) ∧ ExF K mg x f ∧ PySem.W.findIn K (.ref (clsA K x)) "__init__" = some (some (.ref fI)) ∧ PySem.W.typeIn K (.ref fI) = some (.type "function") ∧ Binds K fd ps []
/-- what may be let out at the slots σ -/
noncomputable abbrev Px (X : Cx) (E : L2.St → XK) : Prop := ∀ σ, PassesAt (L2.CX X.prog X.w) X σ (E σ)
theorem pxT {X : Cx} {W : WX} (tk : Takes X W) : Px X (WE W) := fun σ => passAt tk σ
noncomputable def tCallE (sp : Sp) (E : L2.St → XK) (t : TA) : TE := fun σ H Q => t σ H fun vs H1 => sp vs H1 Q (E σ)
noncomputable def tMethE (C : Addr) (m : Str) (sp : Sp) (E : L2.St → XK) (ta : TE) (t : TA) : TE := fun σ H Q => ta σ H fun x H1 => ∃ a dx fs, x = .ref a ∧ H1 a = some (.ins C dx fs) ∧ fs.lookup m = none ∧ t σ H1 fun vs H2 => sp (x :: vs) H2 Q (E σ)
noncomputable def tMakeE (C : Addr) (sp : Sp) (E : L2.St → XK) (t : TA) : TE := fun σ H Q => t σ H fun vs H1 => ∀ x dx, H1 x = none → H1 dx = none → dx ≠ x → sp (.ref x :: vs) (upd (upd H1 dx (.own x)) x (.ins C dx [])) (fun v H2 => v = .non ∧ Q (.ref x) H2) (E σ)
section
variable {X : Cx} {k k' : Nat} {sp : Sp} {x m f : Str} {p p1 p2 pos pos2 apos : Pos} {e o : Expr} {es : List Expr} {t : TA} {ta : TE} {E : L2.St → XK} {W : WX}
theorem pe_callX (hx : Px X E) (h : HasX X.prog X.w X.K X.mg X.base x k sp) (hk : k ≤ k') (hr : Room k' X.A) (hg : Gl X x) (ha : PA X (e :: es) t) (hdb : (x == ("__debug__" : Str)) = false := by decide)
    (he : starEach (e :: es) X.env = (false, eval e X.env) :: starEach es X.env := by rfl) (hpl : (backTo pos (starEach es X.env)).any (·.1) = false := by rfl) : PE X (.Call (.Name x p) (e :: es) [] pos) (tCallE sp E t) := by
  obtain ⟨g, fd, ps, F, hm, kp, hb⟩ := h
  exact pe_callS F (hr.mono hk) hg hm kp hb hx ha hdb he hpl
end
section
variable {X : Cx} {k k' : Nat} {sp : Sp} {x m f : Str} {p p1 p2 pos pos2 apos : Pos} {e o : Expr} {es : List Expr} {t : TA} {ta : TE} {W : WX}
/-- raise X(e) -/
noncomputable def tRaise (C : Addr) (f : Str) (W : WX) (t : TA) : TS := fun _ σ H => t σ H fun vs H1 => ∃ v, vs = [v] ∧ ∀ d, H1 d = none → W (.ref C) (some d) σ (upd H1 d (.xd [(f, v)]))
end
section
variable {P : Program} {w : World} {K : PySem.W.Frag} {mg : Str → Option Value} {base : Heap}
theorem has_ofX {x : Str} {st : Stmt} {N ps : List Str} {k : Nat} {sp : Sp} (F : FunAt K mg x st ps) (S : FnScope N ps (defScope st)) (len : ∀ vs H Q E, sp vs H Q E → vs.length = ps.length)
    (hbody : ∀ (f : Addr) (cdv : Value) (A : Around) (outer : List Env) (s : Shared) (H : Hp) (vs : List V) (Q : VK) (E : XK), Room k (A.deeper (envOfC x (defScope st) s.heap.objs.size f cdv)) → sp vs H Q E →
      ∃ t, PSs (cxOf (L2.CX P w) P w K mg base N x (defScope st) f cdv A outer s H E) (defBody st) t ∧ t { nx := fun _ H' => Q .non H', rt := Q } (start N vs) H) : HasX P w K mg base x (k + 1) sp := by
  obtain ⟨f, fd, F, hm, hb⟩ := F
  exact ⟨f, fd, ps, F.okX S len (hbody f), hm, F.kp, hb⟩
end
end TR
namespace TR
open PySem L2 PySem.Spec PyProof.Rows
theorem clsG_mk {K : PySem.W.Frag} {mg : Str → Option Value} {h : Heap} (X : K.In h) (G : h.Ns mainGlobals mg) {x : Str} {C : Addr} (aC : PySem.W.nsIn K mainGlobals x = some (some (.ref C))) : mg x = some (.ref (clsA K x)) := by
  rw [clsA_of aC]
  exact PySem.W.mg_of X G aC
end TR
namespace TR
open PySem L2 PySem.Spec PyProof.Rows
section
variable {P : Program} {w : World} {K : PySem.W.Frag} {mg : Str → Option Value} {base : Heap} {x y : Str} {k : Nat} {sp : Sp}
end
end TR
namespace TR
open PySem L2
section
variable {K : PySem.W.Frag} {H : Hp} {σ : L2.St} {Q : VK} {D : Ends} {C a dx : Addr} {f m : Str} {W : WX} {t : TA} {ta tv : TE} {E : L2.St → XK} {E1 : XK} {sp : Sp} {v : V} {fs : List (Str × V)}
noncomputable def RaP (C : Addr) (f : Str) (W : WX) (σ : L2.St) (vs : List V) (H : Hp) : Prop := ∃ v, vs = [v] ∧ ∀ d, H d = none → W (.ref C) (some d) σ (upd H d (.xd [(f, v)]))
theorem s_callE (q : t σ H fun vs H1 => sp vs H1 Q (E σ)) : tCallE sp E t σ H Q := q
noncomputable def MeP (C : Addr) (m : Str) (sp : Sp) (E1 : XK) (t : TA) (σ : L2.St) (x : V) (H1 : Hp) (Q : VK) : Prop := ∃ a dx fs, x = .ref a ∧ H1 a = some (.ins C dx fs) ∧ fs.lookup m = none ∧ t σ H1 fun vs H2 => sp (x :: vs) H2 Q E1
noncomputable def FlP (K : PySem.W.Frag) (f : Str) (x : V) (H : Hp) (Q : VK) : Prop := ∃ a C dx fs v, x = .ref a ∧ H a = some (.ins C dx fs) ∧ Cls K C ∧ NoAttr K C f ∧ fs.lookup f = some v ∧ Q v H
noncomputable def FsP (K : PySem.W.Frag) (f : Str) (y x : V) (H : Hp) (R : Hp → Prop) : Prop := ∃ a C dx fs, x = .ref a ∧ H a = some (.ins C dx fs) ∧ Cls K C ∧ NoAttr K C f ∧ fs.length < 1000 ∧ R (upd H a (.ins C dx (putF f y fs)))
noncomputable def MkP' (C : Addr) (sp : Sp) (E1 : XK) (vs : List V) (H1 : Hp) (Q : VK) : Prop := ∀ x dx, H1 x = none → H1 dx = none → dx ≠ x → sp (.ref x :: vs) (upd (upd H1 dx (.own x)) x (.ins C dx [])) (fun v H2 => v = .non ∧ Q (.ref x) H2) E1
end
end TR
namespace TR
open PySem L2
section
variable {K : PySem.W.Frag} {H : Hp} {σ : L2.St} {Q : VK} {D : Ends} {C a : Addr} {f : Str} {ta : TA} {to te : TE} {ws : List V} {y : V}
noncomputable def VeP (K : PySem.W.Frag) (vs : List V) (H1 : Hp) (Q : VK) : Prop := ∃ (a C : Addr) (ws : List V), vs = .ref a :: ws ∧ ws.length ≤ 1000 ∧ OexC K C ∧ H1 a = some (exo a C none) ∧ Q .non H1
noncomputable def OsP (K : PySem.W.Frag) (f : Str) (y x : V) (H2 : Hp) (R : Hp → Prop) : Prop := ∃ a C : Addr, x = .ref a ∧ OexC K C ∧ PySem.W.findIn K (.ref C) f = some none ∧
  ((H2 a = some (exo a C none) ∧ ∀ dx, H2 dx = none → dx ≠ a → R (upd (upd H2 dx (exd dx [(f, y)])) a (exo a C (some dx)))) ∨
    ∃ (dx : Addr) (fs : List (Str × V)), H2 a = some (exo a C (some dx)) ∧ H2 dx = some (exd dx fs) ∧ fs.length ≤ 900 ∧ R (upd H2 dx (exd dx ((f, y) :: fs))))
end
end TR
namespace TR
open PySem L2
theorem u_forS {g : TG} {ts : TS} {D : Ends} {σ : L2.St} {H : Hp} {x : Str} (Pv : Nat → L2.St → Hp → Prop) (h0 : Pv 0 σ H)
    (hs : ∀ (i : Nat) c σ H, x.cps[i]? = some c → Pv i σ H → g (.str ⟨#[c]⟩) σ H fun σ2 H2 => ts { D with nx := Pv (i + 1), ct := Pv (i + 1), bk := D.nx } σ2 H2) (hd : ∀ σ H, Pv x.cps.size σ H → D.nx σ H) : ForS g ts D σ (.str x) H := by
  refine ⟨x, rfl, fun i m σ H' => m = x.cps.size - i ∧ i ≤ x.cps.size ∧ Pv i σ H', ⟨x.cps.size, by simp, Nat.zero_le _, h0⟩, ?_⟩
  rintro i m σ H' ⟨rfl, hi, q⟩
  by_cases hlt : i < x.cps.size
  · refine .inr ⟨hlt, fun σ' H'' => Pv (i + 1) σ' H'', fun σ' H'' z => ⟨x.cps.size - (i + 1), by omega, rfl, hlt, z⟩, fun v H2 y => ?_⟩
    obtain ⟨rfl, c, hc, rfl⟩ := y
    exact hs i c σ _ hc q
  · have ei : i = x.cps.size := by omega
    subst ei
    exact .inl ⟨Nat.le_refl _, hd σ H' q⟩
end TR
namespace TR
open PySem L2 PySem.Spec PyProof.Rows
section
variable {X : Cx} {K : PySem.W.Frag} {k k' : Nat} {sp : Sp} {x m f : Str} {p pos apos : Pos} {e o : Expr} {es : List Expr} {t : TA} {ta : TE} {E : L2.St → XK}
end
end TR
namespace TR
open PySem L2
section
variable {K : PySem.W.Frag} {x y f : Str} {C D : Addr} {b : Bool}
theorem exm_mk {h : Heap} (X : K.In h) (aC : PySem.W.nsIn K mainGlobals x = some (some (.ref C))) (aD : PySem.W.nsIn K mainGlobals y = some (some (.ref D))) (eb : PySem.W.subIn K (.ref D) (.type "BaseException") = some true) (ec : PySem.W.isClsIn K D = true) (et : PySem.W.typeIn K (.ref D) = some (.type "type"))
    (es : PySem.W.subIn K (.ref C) (.ref D) = some b) : PySem.W.exmOne (L2.KOf X) (.ref (clsA (L2.KOf X) x)) (.ref (clsA (L2.KOf X) y)) = some b := by
  show PySem.W.exmOne K (.ref (clsA K x)) (.ref (clsA K y)) = some b
  rw [clsA_of aC, clsA_of aD]
  have c1 : (PySem.W.subIn K (.ref D) (.type "BaseException") == some true) = true := by rw [eb]; rfl
  have c2 : ((PySem.W.clsIn K D).isSome && PySem.W.typeIn K (.ref D) == some (.type "type")) = true := by
    rw [show (PySem.W.clsIn K D).isSome = true from ec, et]
    rfl
  unfold PySem.W.exmOne PySem.W.kitCls
  rw [if_pos c1]
  dsimp only
  rw [if_pos c2]
  exact es
end
section
variable {K : PySem.W.Frag} {c cls : Value} {i : Nat} {ts : Addr → Value → Option Addr → TS} {Wout : WX} {D : Ends} {d : Option Addr} {σ : L2.St} {H : Hp} {a dd C : Addr} {f : Str} {te : TE} {Q : VK} {fs : List (Str × V)} {v : V}
theorem n_as (m : PySem.W.exmOne K cls c = some true) (q : ∀ a, H a = none → ts a cls d { nx := fun σ' H' => D.nx (σ'.set i none) H', rt := D.rt, bk := fun σ' H' => D.bk (σ'.set i none) H', ct := fun σ' H' => D.ct (σ'.set i none) H' } (σ.set i (some (.ref a))) H) : wAs K c i ts Wout D cls d σ H := ⟨true, m, fun _ => q, fun z => Bool.noConfusion z⟩
noncomputable def XfP (a : Addr) (cls : Value) (d : Option Addr) (C : Addr) (f : Str) (x : V) (H1 : Hp) (Q : VK) : Prop := x = .ref a ∧ cls = .ref C ∧ ∃ (dd : Addr) (fs : List (Str × V)) (v : V), d = some dd ∧ H1 dd = some (.xd fs) ∧ fs.lookup f = some v ∧ Q v H1
end
end TR
namespace TR
open PySem L2 PySem.Spec PyProof.Rows
/-- what isinstance(x, C) asks of an own class -/
structure IsiC (K : PySem.W.Frag) (C : Addr) : Prop where
  cl : Cls K C
  ha : PySem.W.findIn K (.ref C) "__class__" = some (some (.builtin "object.__class__"))
  hn : PySem.W.specialIn K (.builtin "object.__class__") "__get__" = some (some (.builtin "getset_descriptor.__get__"))
  htk : PySem.W.takesIn K (.builtin "object.__class__") = some true
  hm : PySem.W.mroIn K C (.type "object") = some true
  me : PySem.W.kitOne K (.ref C) (.ref C) = some true
end TR
namespace TR
open PySem L2 PySem.Spec PyProof.Rows
section
variable {X : Cx} {CX : CXT} {k k' : Nat} {f C : Addr} {fd : FuncData} {ps : List Str} {sp : Sp} {x : Str} {p pos : Pos} {e : Expr} {es : List Expr} {t : TA}
end
end TR
/-! an exception class without an __init__ of its own: raise X() -/
namespace TR
open PySem L2 PySem.Spec PyProof.Rows
noncomputable def bmVE : List Value := [.type "ValueError", .type "Exception", .type "BaseException", .type "object"]
structure ExB (K : PySem.W.Frag) (mg : Str → Option Value) (x : Str) : Prop where
  g : mg x = some (.ref (clsA K x))
  q : PySem.W.excIn K (clsA K x) bmVE "ValueError.__new__" = true
  kC : PySem.W.keepIn K (.ref (clsA K x)) = true
  exC : PySem.W.subIn K (.ref (clsA K x)) (.type "BaseException") = some true
  tyC : PySem.W.typeIn K (.ref (clsA K x)) = some (.type "type")
noncomputable def tRaise0 (C : Addr) (W : WX) : TS := fun _ σ H => W (.ref C) none σ H
section
variable {X : Cx} {x : Str} {p pos pos2 : Pos} {W : WX}
theorem pmk_own0 (B : ExB X.K X.mg x) (hg : Gl X x) (hdb : (x == ("__debug__" : Str)) = false := by decide) : PMk X (.Call (.Name x p) [] [] pos) (fun _ H Q => Q (.ref (clsA X.K x)) none H) := by
  intro pins s σ H Q I h
  refine wpAny_Call_Name_kw (ld_glob I hg B.g ?_ hdb)
  refine PySem.W.callWith_K0 I.kIn B.kC ?_
  show wpAny _ _ (call (.ref (clsA X.K x)) []) _ _ _
  obtain ⟨bm, N, nm, qn, bs, hdct, sn, sub, ab, col, dd, k0, k1, k2, k3, k5, mN, hC, hN, hni, T⟩ := exc_obj I.kIn B.q
  refine wpAny_call_exc_subT PySem.F.excBase_ValueError T hC hN hni (fun h' e hm => ?_) (by show 0 ≤ sizeLine; rw [sizeLine_eq]; omega)
  exact mk_of I hm (raises_own B.exC B.tyC) h (I.hok.gone hm.new)
theorem ps_raise0 (tk : Takes X W) (B : ExB X.K X.mg x) (hc : X.calm = true) (hg : Gl X x) (hdb : (x == ("__debug__" : Str)) = false := by decide) : PS X (.Raise (some (.Call (.Name x p) [] [] pos)) none pos2) (tRaise0 (clsA X.K x) W) :=
  ps_raise hc tk (pmk_own0 B hg hdb)
end
theorem s_raise0 {C : Addr} {W : WX} {D : Ends} {σ : L2.St} {H : Hp} (q : W (.ref C) none σ H) : tRaise0 C W D σ H := q
section
variable {K : PySem.W.Frag} {mg : Str → Option Value}
theorem exB_mk {h : Heap} (X : K.In h) (G : h.Ns mainGlobals mg) {x : Str} {C : Addr} (aC : PySem.W.nsIn K mainGlobals x = some (some (.ref C))) (q : PySem.W.excIn K C bmVE "ValueError.__new__" = true) (kC : PySem.W.keepIn K (.ref C) = true)
    (eC : PySem.W.subIn K (.ref C) (.type "BaseException") = some true) (tC : PySem.W.typeIn K (.ref C) = some (.type "type")) : ExB K mg x := by
  refine ⟨?_, ?_, ?_, ?_, ?_⟩
  · rw [clsA_of aC]; exact PySem.W.mg_of X G aC
  · rw [clsA_of aC]; exact q
  · rw [clsA_of aC]; exact kC
  · rw [clsA_of aC]; exact eC
  · rw [clsA_of aC]; exact tC
end
end TR
namespace TR
open PySem L2
/-- a, b = x, y -/
theorem s_par {i j : Nat} {t1 t2 : TE} {D : Ends} {σ : L2.St} {H : Hp} (q : t1 σ H fun x H1 => t2 σ H1 fun y H2 => D.nx ((σ.set i (some x)).set j (some y)) H2) : tPar i j (tCons t1 (tCons t2 tNil)) D σ H := by
  have e : tPar i j (tCons t1 (tCons t2 tNil)) D σ H = (t1 σ H fun x H1 => t2 σ H1 fun y H2 => ∃ v w, [x, y] = [v, w] ∧ D.nx ((σ.set i (some v)).set j (some w)) H2) := rfl
  rw [e]
  have f : (fun (x : V) (H1 : Hp) => t2 σ H1 fun y H2 => ∃ v w, [x, y] = [v, w] ∧ D.nx ((σ.set i (some v)).set j (some w)) H2) = fun x H1 => t2 σ H1 fun y H2 => D.nx ((σ.set i (some x)).set j (some y)) H2 := by
    funext x H1
    congr 1
    funext y H2
    exact propext ⟨fun ⟨v, w, e, h⟩ => by cases e; exact h, fun h => ⟨x, y, rfl, h⟩⟩
  rw [f]
  exact q
end TR

/-! short words: hp (what stands at an address), ex (a heap grows into another), ne, fr, sq, st; s (one step of a reading), ss (steps as far as they go) -/
open PySem L2 TR
local macro_rules | `(tactic| walk_at "ex") => `(tactic| first
  | exact Ex.refl _
  | assumption
  | focus (apply Ex.trans; rotate_left; assumption; walk_at "ex")
  | focus (apply Ex.exm; rotate_left; rotate_left; assumption; walk_at "ex"; (walk_at "fr2")))
local macro_rules | `(tactic| walk_at "fr2") => `(tactic| first
  | assumption
  | focus (apply Ex.back; rotate_left; assumption; walk_at "ex"))
local macro_rules | `(tactic| walk_at "hp") => `(tactic| first
  | assumption
  | (apply ex_ap; assumption; walk_at "hp")
  | (apply exm_ap; assumption; walk_at "ne"; walk_at "hp"))
local macro_rules | `(tactic| walk_at "ne") => `(tactic| first
  | assumption
  | (apply Ne.symm; assumption)
  | exact TR.hand_ne0 (by assumption) (by assumption))
local macro_rules | `(tactic| walk_at "sq") => `(tactic| first
  | assumption
  | (apply sq_of; walk_at "hp")
  | focus (apply Ex.sq; rotate_left; assumption; walk_at "ex"))
local macro_rules | `(tactic| walk_at "st") => `(tactic| first
  | assumption
  | (apply st_of; walk_at "hp")
  | focus (apply Ex.st; rotate_left; assumption; walk_at "ex"))
local macro_rules | `(tactic| walk_at "is") => `(tactic| first
  | assumption)
local macro_rules | `(tactic| walk_at "la") => `(tactic| first
  | assumption)
local macro_rules | `(tactic| walk_at "at") => `(tactic| first
  | exact atI_lt (by decide) rfl
  | rfl)
local macro_rules | `(tactic| walk_at "ixn") => `(tactic| first
  | rfl)
local macro_rules | `(tactic| walk_at "len") => `(tactic| first
  | omega
  | (simp only [List.length_map, List.length_range, List.length_append, List.length_cons, List.length_nil, List.length_reverse, List.length_set]; omega))
local macro_rules | `(tactic| walk_at "od") => `(tactic| first
  | decide
  | omega
  | exact Nat.le_of_ble_eq_true rfl)
local macro_rules | `(tactic| walk_at "kit") => `(tactic| first
  | exact k_ii
  | exact k_ib
  | exact k_is)
local macro_rules | `(tactic| walk_at "s") => `(tactic| first
  | (with_reducible (first | apply s_seq | apply s_asg | apply s_gname | apply s_ret | apply s_if | apply s_next | apply s_drop))
  | ((with_reducible apply s_var); rfl)
  | (with_reducible (first | apply s_c | apply s_op | apply s_un | apply s_chain | apply s_test | apply s_tB | apply s_bl | apply s_and | apply s_or | apply s_not | apply s_andV | apply s_notV | apply s_I0 | apply s_U | apply s_plusI | apply s_eqI | apply s_neI | apply s_eqS))
  | ((with_reducible apply s_mod); walk_at "od"; intro _ _)
  | ((with_reducible apply s_div); walk_at "od"; walk_at "od")
  | (walk_at "pow")
  | ((with_reducible apply s_pow); decide; walk_at "od")
  | ((with_reducible apply s_mulL); walk_at "od")
  | ((with_reducible apply s_mulR); walk_at "od")
  | (with_reducible (first | apply s_nil | apply s_cons | apply s_call | apply s_CB | apply s_lst | apply s_tup | apply s_sl | apply s_np | apply s_part | apply s_int | apply s_BM | apply s_gsub | apply s_augS | apply s_ipI | apply s_forL | apply s_forT | apply s_forR1 | apply s_forS | apply s_lcL | apply s_lcR1))
  | ((with_reducible apply s_wp); rfl)
  | ((with_reducible apply s_gt2); walk_at "st")
  | (with_reducible apply s_rev)
  | (with_reducible (first | apply s_isN0 | apply s_isN1 | apply s_isN2 | apply s_notN0 | apply s_notN2 | apply s_max2 | apply s_abs | apply s_int1b))
  | ((with_reducible apply s_isiI); walk_at "kit")
  | ((with_reducible apply s_isiB); walk_at "kit")
  | ((with_reducible apply s_isiS); walk_at "kit")
  | ((with_reducible apply s_isiN); walk_at "kit")
  | ((with_reducible apply s_isiL); walk_at "sq"; walk_at "kit")
  | ((with_reducible apply s_isiT); walk_at "st"; walk_at "kit")
  | ((with_reducible apply s_lenM); walk_at "sq")
  | ((with_reducible apply s_lenL); walk_at "sq")
  | ((with_reducible apply n_slL); walk_at "sq"; intro _ _ _ _ _)
  | ((with_reducible apply s_tyL); walk_at "sq")
  | ((with_reducible apply n_lst); walk_at "od"; intro _ _ _ _ _)
  | ((with_reducible apply n_cat); walk_at "hp"; walk_at "hp"; walk_at "len"; intro _ _ _ _ _)
  | ((with_reducible apply s_ixL); walk_at "sq"; walk_at "at")
  | ((with_reducible apply s_ixT); walk_at "st"; walk_at "at")
  | ((with_reducible apply s_ix3); walk_at "sq"; omega; intro _ _)
  | ((with_reducible apply s_ixI); walk_at "sq"; omega; intro _ _)
  | ((with_reducible apply s_getL); walk_at "sq"; decide; walk_at "at")
  | ((with_reducible apply n_setL); walk_at "hp"; walk_at "ixn"; intro _ _ _)
  | ((with_reducible apply s_eqP (α := List Int)); walk_at "is"; walk_at "is"; decide)
  | ((with_reducible apply s_neP (α := List Int)); walk_at "is"; walk_at "is"; decide)
  | ((with_reducible apply s_eqP (α := Int × Int)); walk_at "is"; walk_at "is"; decide)
  | ((with_reducible apply s_neP (α := Int × Int)); walk_at "is"; walk_at "is"; decide)
  | ((with_reducible apply s_eqP (α := Bool × Int)); walk_at "is"; walk_at "is"; decide)
  | ((with_reducible apply s_neP (α := Bool × Int)); walk_at "is"; walk_at "is"; decide)
  | ((with_reducible apply s_eqP (α := Int × Option Int)); walk_at "is"; walk_at "is"; decide)
  | ((with_reducible apply s_neP (α := Int × Option Int)); walk_at "is"; walk_at "is"; decide)
  | ((with_reducible apply s_eqP (α := T3 Int Int Int)); walk_at "is"; walk_at "is"; decide)
  | ((with_reducible apply s_neP (α := T3 Int Int Int)); walk_at "is"; walk_at "is"; decide)
  | ((with_reducible apply s_eqP (α := T4 Int Int Int Int)); walk_at "is"; walk_at "is"; decide)
  | ((with_reducible apply s_neP (α := T4 Int Int Int Int)); walk_at "is"; walk_at "is"; decide)
  | ((with_reducible apply s_eqP (α := List (Int × Int))); walk_at "is"; walk_at "is"; decide)
  | ((with_reducible apply s_neP (α := List (Int × Int))); walk_at "is"; walk_at "is"; decide)
  | ((with_reducible apply s_eqP (α := List (T3 Int Int Int))); walk_at "is"; walk_at "is"; decide)
  | ((with_reducible apply s_neP (α := List (T3 Int Int Int))); walk_at "is"; walk_at "is"; decide)
  | ((with_reducible apply s_eqP (α := List (T4 Int Int Int Int))); walk_at "is"; walk_at "is"; decide)
  | ((with_reducible apply s_neP (α := List (T4 Int Int Int Int))); walk_at "is"; walk_at "is"; decide)
  | ((with_reducible apply s_eqP (α := List (List Int))); walk_at "is"; walk_at "is"; decide)
  | ((with_reducible apply s_neP (α := List (List Int))); walk_at "is"; walk_at "is"; decide)
  | (with_reducible (first | apply i_t | apply i_f | apply i_nt | apply i_nf))
  | ((with_reducible apply i_dt); (focus (first | trivial | assumption | omega | rfl)))
  | ((with_reducible apply i_df); (focus (first | assumption | omega | exact (fun h => h rfl)))))
local macro_rules | `(tactic| walk_at "pow") => `(tactic| first
  | (with_reducible (first | apply s_pow2_56 | apply s_pow2_60 | apply s_pow10_6 | apply s_pow10_18)))
local macro_rules | `(tactic| walk_at "cx") => `(tactic| try dsimp only [cx_K, cx_K2])
local macro_rules | `(tactic| walk_at "ss") => `(tactic| ((try dsimp only); (repeat walk_at "s")))
/-! the slots made plain again (many names, comprehensions): reading them is slow otherwise -/
local macro_rules | `(tactic| walk_at "nm") => `(tactic| simp only [List.set_cons_succ, List.set_cons_zero, wipe, List.map_cons, List.map_nil])

/-! a comprehension whose step may raise -/
namespace TR
open PySem L2 PySem.Spec PyProof.Rows
open PySem.Sem (wp)
theorem hide1_other {h : Heap} {C b : Addr} {o : Obj} (e : h.get? b = some o) (n : b ≠ C) : (PySem.W.hideAll h [C]).get? b = some o := PySem.W.hideAll_get _ e (by simpa using n)
theorem hide1_none {h : Heap} {C : Addr} : (PySem.W.hideAll h [C]).get? C = none := PySem.W.hideAll_none _ (by simp)
section
variable {X : Cx} {pins : List (Addr × Obj)} {σ : L2.St} {H : Hp} {s s' : Shared} {W : WX} {E : XK}
/-- a call's exception out of the block C, seen from the def: C is in no ground -/
theorem comp_out {C : Addr} {u : Value} {cenv : Env} {m : Str → Option Value} (st : X.stack = X.env :: X.outer) (fr : X.env.frame = some X.env.locals) (cf : cenv.frame = X.env.frame) (cL : cenv.locals = C)
    (tk : Takes X W) (hW : ∀ cls d H', E cls d H' → W cls d σ H') (I : Inv X pins σ H s) (fC : FpOk X pins H C) (hn : s.heap.Ns C m) (c : CX X.prog X.w X.stack H s E u s') :
    notedBy (model X.prog X.w) X.A cenv (CompFails (model X.prog X.w) X.A X.xe cenv) u s' := by
  obtain ⟨f0, f1, f2, f3, f4, f5⟩ := fC
  have fA : X.A.frames = some (X.env :: X.outer) := by rw [I.ok.frames, st]
  obtain ⟨a, B, H', cls, d, rfl, fl, hok, ub, na, os, ag, hE⟩ := c
  have nCf : C ∉ frs X.stack := fun hm => by
    rw [st] at hm
    obtain ⟨e, he, q⟩ := List.mem_filterMap.mp hm
    rcases List.mem_cons.mp he with rfl | he
    · rw [fr] at q; cases q; exact f1 rfl
    · exact f2 (List.mem_filterMap.mpr ⟨e, he, q⟩)
  obtain ⟨oC, es, ep, hoC, hdC, rC⟩ := id hn
  have BC : B.get? C = some oC := ub.keep C oC hoC f0 nCf
  have HC' : H' C = none := ub.free C oC hoC f0
  have oa : a ≠ C := fun z => by rw [z] at fl; rw [fl.2.1] at BC; cases BC
  -- the def's state without C
  have I' : Inv X pins σ H { s with heap := PySem.W.hideAll s.heap [C] } := I.turned (t' := s.toks) (fun b o hb e => hide1_other e hb) f0 f1 f3 f4 f5
  generalize hB' : PySem.W.hideAll B [C] = B'
  have bB : ∀ b o, B'.get? b = some o → B.get? b = some o := fun b o e => by rw [← hB'] at e; exact PySem.W.of_hideAll _ e
  have Bb : ∀ b o, b ≠ C → B.get? b = some o → B'.get? b = some o := fun b o n e => by rw [← hB']; exact hide1_other e n
  have B'C : B'.get? C = none := by rw [← hB']; exact hide1_none
  have B'n : ∀ b, B.get? b = none → B'.get? b = none := fun b e => by
    cases q : B'.get? b with
    | none => rfl
    | some o => rw [bB b o q] at e; cases e
  have ff : ∀ {h : Heap}, h.FunFrames B X.stack → h.FunFrames B' X.stack := fun {h} ff => funFrames_none ff fun L hL => B'n L (ff.mem hL).1
  have fl' : HandSPX.FlyingZ B' X.stack a (Zc cls d) s'.heap := by
    obtain ⟨k1, k2, k3, oe, vs, T, oT, ts, he, hz, hd, h1, hnT, r⟩ := fl
    exact ⟨fun b o e => k1 b o (bB b o e), B'n a k2, ff k3, oe, vs, T, oT, ts, he, hz, hd, h1, B'n T hnT, r⟩
  have hok' : HOk X.prog X.w H' B' := fun b o q => (hok b o q).stay (fun c u hc r => Bb c u (fun z => by
    rw [z] at hc
    rcases hc with hc | hc
    · rw [hc, q] at HC'; cases HC'
    · rw [hc] at HC'; cases HC') r) (fun _ r => r) fun _ _ r => r
  have neC : ∀ {b o}, (PySem.W.hideAll s.heap [C]).get? b = some o → b ≠ C := fun {b o} e z => by rw [z, hide1_none] at e; cases e
  have ub' : UB (frs X.stack) H H' (PySem.W.hideAll s.heap [C]) B' s'.heap :=
    ⟨fun b o e n hb => Bb b o (neC e) (ub.keep b o (PySem.W.of_hideAll _ e) n hb), fun b o e hb => ub.slot b o (PySem.W.of_hideAll _ e) hb, fun b o e n => ub.free b o (PySem.W.of_hideAll _ e) n,
      fun b o e hb => by
        obtain ⟨o', q⟩ := ub.there b o (PySem.W.of_hideAll _ e) hb
        exact ⟨o', Bb b o' (neC e) q⟩, ub.tups, ub.frzs, ub.tbls⟩
  -- the state of the air
  obtain ⟨G, g1, g2⟩ := restrict s'.heap fun b => (B'.get? b).isSome || decide (b ∈ frs X.stack)
  have stB : B'.StaysIn s'.heap := fl'.1
  have gB : ∀ b o, B'.get? b = some o → G.get? b = some o := fun b o e => by
    rw [g1 b (by simp [e])]
    exact stB b o e
  have gF : ∀ b, b ∈ frs X.stack → G.get? b = s'.heap.get? b := fun b hb => g1 b (by simp [hb])
  have og : ∀ b o, G.get? b = some o → s'.heap.get? b = some o ∧ ((B'.get? b).isSome = true ∨ b ∈ frs X.stack) := fun b o e => by
    cases q : ((B'.get? b).isSome || decide (b ∈ frs X.stack)) with
    | false => rw [g2 b q] at e; cases e
    | true =>
      rw [g1 b q] at e
      exact ⟨e, by simpa [Bool.or_eq_true] using q⟩
  have GC : ∀ {b o}, G.get? b = some o → b ≠ C := fun {b o} e z => by
    subst z
    rcases (og b o e).2 with h | h
    · rw [B'C] at h; cases h
    · exact nCf h
  have J : Inv X pins σ H' { s with heap := G, gens := s'.gens, drawn := s'.drawn, toks := s'.toks } := by
    have u : Un (frs X.stack) [] H H' (PySem.W.hideAll s.heap [C]) G := by
      refine ⟨fun b o e n hb _ => gB b o (ub'.keep b o e n hb), fun b o e n hb _ => ?_, fun b o e n _ => ub'.free b o e n, fun b o e _ => ?_, ub'.tups, ub'.frzs, ub'.tbls⟩
      · obtain ⟨sl, q⟩ := ub'.slot b o e hb
        exact ⟨sl, by rw [gF b hb]; exact q⟩
      · by_cases hb : b ∈ frs X.stack
        · obtain ⟨sl, q⟩ := ub'.slot b o e hb
          exact ⟨_, by rw [gF b hb]; exact q⟩
        · obtain ⟨o', q⟩ := ub'.there b o e hb
          exact ⟨o', gB b o' q⟩
    have r := I'.call (ch := []) (h' := G) (g' := s'.gens) (t' := s'.toks) (d' := s'.drawn) (H' := H') u (hok'.kept gB) ag (fun _ z => nomatch z)
    exact r
  have nb : ∀ b o, G.get? b = some o → b ∉ frs X.stack → B'.get? b = some o := fun b o e hb => by
    obtain ⟨e', h⟩ := og b o e
    rcases h with h | h
    · obtain ⟨o', q⟩ := Option.isSome_iff_exists.mp h
      have z := stB b o' q
      rw [e'] at z; cases z
      exact q
    · exact absurd h hb
  have up : G.UpToSlots s'.heap := Heap.UpToSlots.of_keeps fun b o e => (og b o e).1
  have nsC : s'.heap.Ns C m := ⟨oC, es, ep, fl.1 C oC BC, hdC, rC⟩
  show wpAny _ X.A (noteFrame (.ref a) cenv) _ _ s'
  rw [noteFrame_env _ cf]
  refine HandSPX.looks_onZ Zc.steady fA fr (st ▸ fl') fun h1 hh1 up1 => ?_
  refine ⟨m, by rw [cL]; exact nsC.upToSlots up1, fun h2 m2 hn2 sb2 => ?_⟩
  rw [cL] at hn2 sb2
  obtain ⟨k1, k2, k3, oe, vs, T, oT, ts, he, hz, hd, hv1, hnT, hTe, hT, hdT, hv3⟩ := hh1
  have oth : ∀ b o, b ≠ C → h1.get? b = some o → h2.get? b = some o := fun b o hb e => (sb2.2 b hb).trans e
  have sC1 : ∃ o, h1.get? C = some o ∧ ∀ vs, o.data ≠ .fields vs := by
    obtain ⟨o1, es1, ep1, e1, d1, _⟩ := nsC.upToSlots up1
    exact ⟨o1, e1, fun vs z => by rw [d1] at z; cases z⟩
  have aC : a ≠ C := oa
  have TC : T ≠ C := fun z => by
    obtain ⟨o1, e1, n1⟩ := sC1
    rw [z, e1] at hT; cases hT
    exact n1 _ hdT
  have hh2 : HandSPX.HeldZ B' (X.env :: X.outer) a (Zc cls d) X.env.locals h2 := by
    exact ⟨fun b o e => oth b o (fun z => by rw [z, B'C] at e; cases e) (k1 b o e), k2, Heap.FunFrames.sameBut sb2 hn2 k3, oe, vs, T, oT, ts, oth _ _ aC he, hz, hd, hv1, hnT, hTe, oth _ _ TC hT, hdT, hv3⟩
  unfold PySem.passOn
  refine wpAny_bind (wpAny_field (oth _ _ aC he) hd hv1 ?_)
  rw [if_neg (show ¬ ((Value.ref T == Value.none) = true) from by simp)]
  have up2 : G.UpToSlots h2 := fun b o e nf => by
    obtain ⟨sl, q⟩ := (up.trans up1) b o e nf
    exact ⟨sl, oth b _ (GC e) q⟩
  have fin : wpAny (model X.prog X.w) X.A (setFlight (.ref a) cenv.frame) (fun _ s4 => wpAny (model X.prog X.w) X.A (throw (.ref a) : Sem Value) (fun _ _ => False) X.xe s4) X.xe { s' with heap := h2 } := by
    rw [cf, fr]
    refine HandSPX.setFlight_onZ hh2 fun h4 hh4 up4 => wpAny_throw (tk _ _ ?_)
    exact ⟨a, B', _, pins, σ, H', cls, d, rfl, J, nb, up2.trans up4, .inr (.inr (by rw [st]; exact hh4)), na, os, ag, hW _ _ _ hE⟩
  first
    | exact wpAny_bind (wpAny_pure (wpAny_bind fin))
    | exact wpAny_bind fin
end
/-- [elt for tg in iter if ..] whose element may let out what W wants -/
noncomputable def tLcX (W : WX) (wi : TI) (g : TG) (tt : TT) (te : XK → TE) (vs : List Nat) : TE := fun σ H Q => tLc wi g tt (te fun cls d H' => W cls d σ H') vs σ H Q
section
variable {X : Cx} {W : WX} {pins : List (Addr × Obj)} {s : Shared} {σ : L2.St} {H : Hp} {Q : VK} {elt tg iter : Expr} {ifs : List Expr} {scope : Scope} {own : List (Str × Nat)} {pos pos' : Pos} {wi : TI} {g : TG} {tt : TT} {te : XK → TE} {use : Option (Value → Sem Unit)} {Qf : Value → Shared → Prop}
theorem lcx_core (st : X.stack = X.env :: X.outer) (fr : X.env.frame = some X.env.locals) (tk : Takes X W)
    (hc : X.calm = true) (nd : X.N.Nodup) (I : Inv X pins σ H s) (hi : PI X tg iter wi) (ok : BlkOk X.N X.env.scope scope own)
    (hg : ∀ (s : Shared) (H : Hp) (C : Addr) (cl : List (Str × Addr)) (fp : List Addr), PG (X.blk s H scope (compEnvC scope cl C X.env) fp) tg g) (ht : ∀ (s : Shared) (H : Hp) (C : Addr) (cl : List (Str × Addr)) (fp : List Addr), PTs (X.blk s H scope (compEnvC scope cl C X.env) fp) ifs tt)
    (he : ∀ (E : XK) (s : Shared) (H : Hp) (C : Addr) (cl : List (Str × Addr)) (fp : List Addr) (xe : Value → Shared → Prop), Px ((X.blk s H scope (compEnvC scope cl C X.env) fp).wish xe) (fun _ => E) → PE ((X.blk s H scope (compEnvC scope cl C X.env) fp).wish xe) elt (te E))
    (fold : ∀ x, foldedSetIterable iter X.env x = pure x)
    (h : tLcX W wi g tt te (own.map (·.2)) σ H Q)
    (hRR : ∀ D C (cenv : Env) s' m H', cenv.locals = C → Inv X pins σ H' s' → Q (.ref D) H' → s'.heap.Ns C m → FpOk X pins H' C → compEnds (model X.prog X.w) X.A X.xe use Qf (.ref D) cenv (.ok .next) s') :
    wpAny (model X.prog X.w) X.A (comprehension (.ListComp elt [⟨tg, iter, ifs, 0⟩] scope pos) scope X.env pos' (newList []) false (eval iter X.env) use) Qf X.xe s := by
  have frees : ∀ y ∈ scope.names, y.2 = .free → ∃ c, X.env.cells.lookup y.1 = some c := fun y m e => (ok.free y m e).elim (fun k => I.ok.has _ (.inl k)) fun k => I.ok.has _ (.inr k)
  refine comprehension_at (use := use) rfl fold (closure_ok frees) ok.kind (fun y m e => by rw [ok.uniq y m, e]) (thn (hi.run pins s σ H _ I h) fun v0 s1 h1 => thn h1 fun itv s2 h2 => ?_)
  obtain ⟨it, fp, tn, J, H2, e, I2, T, st2, f2, q⟩ := h2
  subst e
  refine wpAny_newObj_type (newEnv_comp ?_) (by show 0 ≤ sizeLine; decide)
  generalize hD : s2.heap.objs.size = D
  have nD : H2 D = none := I2.hok.fresh (Nat.le_of_eq hD)
  obtain ⟨Wt, ⟨m0, w0⟩, turn⟩ := q D nD
  generalize hs3 : ({ s2 with heap := s2.heap.push { cls := .type "list", data := .seq ([] : List Value).toArray } } : Shared) = s3
  have h3 : s3.heap = s2.heap.push { cls := .type "list", data := .seq ([] : List Value).toArray } := by rw [← hs3]
  have I3 : Inv X pins σ (upd H2 D (.lst [])) s3 := by
    rw [← hs3]
    refine I2.laid (t' := s2.toks) (fun b o e => Heap.get?_push_of_some _ e) (Nat.le_of_eq hD) ⟨Nat.zero_le _, [], 0, .nil, ?_⟩
    rw [← hD]
    exact Heap.get?_push_size _ rfl
  have f3 : ∀ b ∈ fp, FpOk X pins (upd H2 D (.lst [])) b ∧ b < s3.heap.objs.size := fun b hb => by
    have hlt : b < s2.heap.objs.size := by
      obtain ⟨o, e, _⟩ := T.obj _ _ st2 b hb
      exact Heap.lt_size e
    refine ⟨⟨?_, (f2 b hb).2⟩, by rw [h3, Heap.size_push]; exact Nat.lt_succ_of_lt hlt⟩
    rw [upd_ne (by rw [← hD]; exact Nat.ne_of_lt hlt)]
    exact (f2 b hb).1
  have st3 : tn 0 s3.heap := T.keep _ _ _ st2 fun b _ o e => by rw [h3]; exact Heap.get?_push_of_some _ e
  have I4 := block_start I3 ok nd f3
  have pg := hg s3 (upd H2 D (.lst [])) s3.heap.objs.size (cellsFrom (s3.heap.objs.size + 1) scope.names (cloFrom X.env.cells scope.names [])) fp
  have pt := ht s3 (upd H2 D (.lst [])) s3.heap.objs.size (cellsFrom (s3.heap.objs.size + 1) scope.names (cloFrom X.env.cells scope.names [])) fp
  have pe := fun E xe => he E s3 (upd H2 D (.lst [])) s3.heap.objs.size (cellsFrom (s3.heap.objs.size + 1) scope.names (cloFrom X.env.cells scope.names [])) fp xe
  show codeAny _ _ (.compStart (.ListComp elt [⟨tg, iter, ifs, 0⟩] scope pos) 0 (.ref it) (.ref D) (compEnvC scope (cellsFrom (s3.heap.objs.size + 1) scope.names (cloFrom X.env.cells scope.names [])) s3.heap.objs.size X.env)) (compEnds (model X.prog X.w) X.A X.xe use Qf (.ref D) (compEnvC scope (cellsFrom (s3.heap.objs.size + 1) scope.names (cloFrom X.env.cells scope.names [])) s3.heap.objs.size X.env)) { s3 with heap := pushCells (s3.heap.push { cls := .type "dict", data := .dict #[] }) scope.names }
  have nfp : ∀ b ∈ fp, (upd H2 D (.lst [])) b = none := fun b hb => (f3 b hb).1.1
  generalize hce : compEnvC scope (cellsFrom (s3.heap.objs.size + 1) scope.names (cloFrom X.env.cells scope.names [])) s3.heap.objs.size X.env = ce at I4 pg pt pe ⊢
  have cL : ce.locals = s3.heap.objs.size := by subst hce; rfl
  have cF : ce.frame = X.env.frame := by subst hce; rfl
  generalize hH3 : upd H2 D (.lst []) = H3 at I3 I4 pg pt pe w0 nfp f3
  generalize hs4 : ({ s3 with heap := pushCells (s3.heap.push { cls := .type "dict", data := .dict #[] }) scope.names } : Shared) = s4 at I4 ⊢
  have st4 : tn 0 s4.heap := T.keep _ _ _ st3 fun b _ o e => by rw [← hs4]; exact pushCells_keeps _ _ _ _ (Heap.get?_push_of_some _ e)
  have stat : ∀ {σ' : L2.St} {H' : Hp} {s' : Shared}, Inv (X.blk s3 H3 scope ce fp) [] σ' H' s' → (∀ b ∈ fp, H' b = none) → ∀ b ∈ fp, FpOk (X.blk s3 H3 scope ce fp) [] H' b := fun {σ' H' s'} I' hn b hb =>
    ⟨hn b hb, (I'.ok.exf b hb).1, I'.ok.exfs b hb, .inl hb, fun x c e => (I'.ok.exf b hb).2 x c e, fun p hp => absurd (show p ∈ ([] : List (Addr × Obj)) ++ [] from hp) (by simp)⟩
  -- back in the def's context
  have home : ∀ {pn : List (Addr × Obj)} {σ' : L2.St} {H' : Hp} {s' : Shared}, Inv (X.blk s3 H3 scope ce fp) pn σ' H' s' → Inv X pins σ H' s' ∧ FpOk X pins H' s3.heap.objs.size ∧ ∃ m, s'.heap.Ns s3.heap.objs.size m := fun {pn σ' H' s'} I6 => by
    have nC : H' s3.heap.objs.size = none := by
      have z : H' ce.locals = none := I6.free
      rw [cL] at z
      exact z
    obtain ⟨m, hn, _⟩ := I6.loc
    have hn : s'.heap.Ns ce.locals m := hn
    rw [cL] at hn
    exact ⟨I3.call' (ch := fp) I6.os I6.base I6.hok I6.bare fun b hb => ⟨(f3 b hb).1.2.2.2.1, (f3 b hb).1.2.1, (f3 b hb).1.2.2.2.2.1, (f3 b hb).1.2.2.2.2.2⟩, I3.fpOk (Nat.le_refl _) nC, m, hn⟩
  have loop : codeAny (model X.prog X.w) X.A (.compLoop (.ListComp elt [⟨tg, iter, ifs, 0⟩] scope pos) 0 (.ref it) (.ref D) ce) (compEnds (model X.prog X.w) X.A X.xe use Qf (.ref D) ce) s4 := by
    refine compLoop_any (fun n s' => ∃ i H', Inv (X.blk s3 H3 scope ce fp) [] (wipe σ (own.map (·.2))) H' s' ∧ tn i s'.heap ∧ (∀ b ∈ fp, H' b = none) ∧ Wt i n H') ?_ m0 ⟨0, H3, I4, st4, nfp, w0⟩
    rintro n s5 ⟨i, H5, I5, st5, n5, w5⟩
    rcases turn i n H5 w5 with ⟨stop, qq⟩ | ⟨go, Nx, hNx, step⟩
    · have td := T.done (X.blk s3 H3 scope ce fp) rfl rfl rfl hc i [] s5 _ H5 (fun _ _ => False) I5 (stat I5 n5) st5 stop
      refine thnF td fun r s6 ⟨hr, I6⟩ => ?_
      subst hr
      obtain ⟨I7, f7, m, hn⟩ := home I6
      exact hRR D s3.heap.objs.size ce s6 m H5 cL I7 qq hn f7
    · have ti := T.item (X.blk s3 H3 scope ce fp) rfl rfl rfl hc i [] s5 _ H5 (fun _ _ => False) I5 (stat I5 n5) st5 go
      refine thnF ti fun r s6 ⟨u, hr, h6⟩ => ?_
      subst hr
      refine thnF h6 fun _ s7 ⟨x, H7, I7, r7, y7, st7, n7⟩ => ?_
      have I7' := I7.pinned (stat I7 n7) (T.obj _ _ st7)
      refine thnF (pg.run _ s7 _ H7 x u _ I7' r7 (step x H7 y7)) fun _ s8 ⟨σ8, H8, I8, hw8, q8⟩ => ?_
      refine thnF (pt.run _ s8 σ8 H8 _ I8 q8) fun b s9 ⟨H9, I9, q9⟩ => ?_
      have fin : ∀ {s' : Shared} {H' : Hp}, Inv (X.blk s3 H3 scope ce fp) ([] ++ pinsAt fp s7.heap) σ8 H' s' → Nx H' → ∃ m, m < n ∧ ∃ i H', Inv (X.blk s3 H3 scope ce fp) [] (wipe σ (own.map (·.2))) H' s' ∧ tn i s'.heap ∧ (∀ b ∈ fp, H' b = none) ∧ Wt i m H' := fun {s' H'} I' nx => by
        obtain ⟨m', hm, w'⟩ := hNx H' nx
        have pin' : ∀ b ∈ fp, ∀ o, s7.heap.get? b = some o → s'.heap.get? b = some o ∧ H' b = none := fun b hb o e =>
          let z := I'.pin (b, o) (List.mem_append_right _ (List.mem_append_right _ (mem_pinsAt hb e)))
          ⟨z.1, z.2.1⟩
        refine ⟨m', hm, i + 1, H', (I'.unpinned (pins := [])).weak (by rw [← hw8, wipe_length]) (fun j v e => ?_), T.keep _ _ _ st7 fun b hb o e => (pin' b hb o e).1, fun b hb => ?_, w'⟩
        · rw [← hw8] at e
          exact (wipe_some e).1
        · obtain ⟨o, e, _⟩ := T.obj _ _ st7 b hb
          exact (pin' b hb o e).2
      cases b with
      | false =>
        simp only [Bool.false_eq_true, if_false] at q9 ⊢
        exact fin I9 q9
      | true =>
        simp only [if_true] at q9 ⊢
        have pe' := pe (fun cls d H' => W cls d σ H') (fun e s' => ∃ (pn : List (Addr × Obj)) (σ' : L2.St) (H' : Hp) (s0 : Shared), Inv (X.blk s3 H3 scope ce fp) pn σ' H' s0 ∧ CX X.prog X.w X.stack H' s0 (fun cls d H' => W cls d σ H') e s')
          fun σ' pn H' s0 e s' J c => ⟨pn, σ', H', s0, J.unwish, c⟩
        refine wpAny_mono (pe'.run _ s9 σ8 H9 _ (I9.wish _) q9) (fun z s10 hz => ?_) fun e s' he => ?_
        · obtain ⟨yv, H10, I10, r10, acc, hD10, hz10, nx⟩ := hz
          exact app_ok (X := X.blk s3 H3 scope ce fp) I10.unwish hD10 hz10 r10 fun s11 I11 => fin I11 nx
        · obtain ⟨pn, σ', H', s0, J0, c⟩ := he
          obtain ⟨I7, f7, m, hn⟩ := home J0
          exact comp_out st fr cF cL tk (fun _ _ _ h => h) I7 f7 hn c
  exact codeAny_compStart_list loop (T.self X.A 0 _ _ _ st4 loop)
/-- as a value -/
theorem pe_lcX (st : X.stack = X.env :: X.outer) (fr : X.env.frame = some X.env.locals) (tk : Takes X W) (hc : X.calm = true) (nd : X.N.Nodup) (hi : PI X tg iter wi) (ok : BlkOk X.N X.env.scope scope own)
    (hg : ∀ (s : Shared) (H : Hp) (C : Addr) (cl : List (Str × Addr)) (fp : List Addr), PG (X.blk s H scope (compEnvC scope cl C X.env) fp) tg g) (ht : ∀ (s : Shared) (H : Hp) (C : Addr) (cl : List (Str × Addr)) (fp : List Addr), PTs (X.blk s H scope (compEnvC scope cl C X.env) fp) ifs tt)
    (he : ∀ (E : XK) (s : Shared) (H : Hp) (C : Addr) (cl : List (Str × Addr)) (fp : List Addr) (xe : Value → Shared → Prop), Px ((X.blk s H scope (compEnvC scope cl C X.env) fp).wish xe) (fun _ => E) → PE ((X.blk s H scope (compEnvC scope cl C X.env) fp).wish xe) elt (te E))
    (fold : ∀ x, foldedSetIterable iter X.env x = pure x := by intro _; rfl) :
    PE X (.ListComp elt [⟨tg, iter, ifs, 0⟩] scope pos) (tLcX W wi g tt te (own.map (·.2))) := by
  refine ⟨fun pins s σ H Q I h => ?_⟩
  rw [eval_ListComp]
  refine lcx_core st fr tk hc nd I hi ok hg ht he fold h fun D C ce s' m H' cL I' q hn f => ⟨m, by rw [cL]; exact hn, fun h'' sb => ?_⟩
  obtain ⟨f0, f1, f2, f3, f4, f5⟩ := f
  rw [cL] at sb
  exact ⟨.ref D, H', I'.turned (t' := s'.toks) (fun b o hb e => (sb.2 b hb).trans e) f0 f1 f3 f4 f5, rfl, q⟩
/-- name = [..] on one line, the name a local -/
theorem ps_setLcX {i : Nat} {y : Str} {py spos : Pos} (st : X.stack = X.env :: X.outer) (fr : X.env.frame = some X.env.locals) (tk : Takes X W) (hc : X.calm = true) (nd : X.N.Nodup) (hy : X.N[i]? = some y) (hyl : X.env.scope.names.lookup y = some .local)
    (hsw : swapsWith (.ListComp elt [⟨tg, iter, ifs, 0⟩] scope pos) (some (.Name y py)) spos.line X.env = pure true) (hi : PI X tg iter wi) (ok : BlkOk X.N X.env.scope scope own)
    (hg : ∀ (s : Shared) (H : Hp) (C : Addr) (cl : List (Str × Addr)) (fp : List Addr), PG (X.blk s H scope (compEnvC scope cl C X.env) fp) tg g) (ht : ∀ (s : Shared) (H : Hp) (C : Addr) (cl : List (Str × Addr)) (fp : List Addr), PTs (X.blk s H scope (compEnvC scope cl C X.env) fp) ifs tt)
    (he : ∀ (E : XK) (s : Shared) (H : Hp) (C : Addr) (cl : List (Str × Addr)) (fp : List Addr) (xe : Value → Shared → Prop), Px ((X.blk s H scope (compEnvC scope cl C X.env) fp).wish xe) (fun _ => E) → PE ((X.blk s H scope (compEnvC scope cl C X.env) fp).wish xe) elt (te E))
    (fold : ∀ x, foldedSetIterable iter X.env x = pure x := by intro _; rfl) :
    PS X (.Assign [.Name y py] (.ListComp elt [⟨tg, iter, ifs, 0⟩] scope pos) spos) (tAsg (tLcX W wi g tt te (own.map (·.2))) (gName i)) := by
  refine ⟨fun pins s σ H D I h => ?_⟩
  rw [exec_Assign_Name_used _ _ _ _ hsw]
  refine wpAny_bind (wpAny_standAt (wpAny_bind ?_))
  show wpAny _ X.A (do let _ ← comprehension (.ListComp elt [⟨tg, iter, ifs, 0⟩] scope pos) scope X.env (firstIterPos [⟨tg, iter, ifs, 0⟩] pos) (newList []) false (eval iter X.env) (some (assign (.Name y py) X.env))) _ _ s
  have h : tLcX W wi g tt te (own.map (·.2)) σ H (fun x H1 => gName i x σ H1 D.nx) := h
  refine wpAny_bind (thn (lcx_core (Qf := fun _ s' => SP X pins D .next s') st fr tk hc nd I hi ok hg ht he fold h fun L C ce s' m H' cL I' q hn f => ?_) fun _ s' hq => wpAny_pure (wpAny_pure hq))
  show wpAny _ _ (assign (.Name y py) X.env (.ref L)) _ _ _
  refine wpAny_assign_Name (store_ok2 (v := V.ref L) I' nd hy (.inl hyl) rfl (fun s2 I2 ⟨a, sb, ha⟩ => ?_) (.inr hyl))
  obtain ⟨f0, f1, f2, f3, f4, f5⟩ := f
  have haC : C ≠ a := by
    rcases ha with z | z
    · rw [z]; exact f1
    · exact fun e => f4 y a z e.symm
  refine ⟨m, by rw [cL]; exact hn.sameBut sb haC, fun h3 sb3 => ?_⟩
  rw [cL] at sb3
  exact ⟨_, H', I2.turned (t' := s2.toks) (fun b o hb e => (sb3.2 b hb).trans e) f0 f1 f3 f4 f5, q⟩
end
end TR

/-! sorted of pairs of a number and a text, no two unlike ones of the same number -/
namespace SrtS
open PySem PySem.W PyProof.Rows SrtO
section
variable {prog : Program} {w : World} {A : Around} {E : Value → Shared → Prop} {s : Shared}
noncomputable def IsPS (h : Heap) (v : Value) (x : Int) (y : Str) : Prop := ∃ a o t u n, v = .ref a ∧ h.get? a = some o ∧ o.cls = .type "tuple" ∧ o.data = .seq #[.int x t, .str y u] n
noncomputable def ltI (p q : Int × Str) : Bool := decide (p.1 < q.1)
end
end SrtS
namespace L2
open PySem PySem.Spec PyProof.Rows
noncomputable def EntV (K : PySem.W.Frag) (H : Hp) (x : V) (e : Int × Str) : Prop := ∃ t, x = V.ref t ∧ SqT K H t [.int e.1, .str e.2]
noncomputable def rSortedPS (K : PySem.W.Frag) : List V → Hp → VK → Prop := fun vs H Q => ∃ (a : Addr) (xs : List V) (l : List (Int × Str)), vs = [V.ref a] ∧ SqL K H a xs ∧ Paired (EntV K H) xs l ∧
  (∀ x ∈ l, ∀ y ∈ l, x.1 = y.1 → x.2 = y.2) ∧
  ∀ (ps : List (V × (Int × Str))) p, ps.Pairwise (fun x y => x.2.1 ≤ y.2.1) → ps.Perm (xs.zip l) → H p = none → Q (.ref p) (upd H p (.lst (ps.map Prod.fst)))
end L2

/-! entries, rows, rooms, yards as data; comprehensions that draw -/
namespace TR
open PySem L2
/-- a text of signs that there are -/
noncomputable abbrev Tx := {x : Str // PyData.strOk x = true}
instance : Inhabited Tx := ⟨⟨⟨#[]⟩, by simp [PyData.strOk]⟩⟩
instance : Py Tx := ⟨fun x => .str x.1, 0, fun _ => Nat.le_refl _, fun x => x.2, fun a b => by
  rw [PyData.eqv, beq_iff_eq]
  exact Subtype.ext_iff.symm⟩
instance : Py (Option Tx) := ⟨fun o => match o with | none => .none | some i => .str i.1, 0, fun o => by cases o <;> exact Nat.le_refl _, fun o => by
  cases o with
  | none => rfl
  | some x => exact x.2, fun a b => by
  cases a <;> cases b
  · exact ⟨fun _ => rfl, fun _ => rfl⟩
  · exact ⟨fun h => (Bool.false_ne_true h).elim, fun h => nomatch h⟩
  · exact ⟨fun h => (Bool.false_ne_true h).elim, fun h => nomatch h⟩
  · rename_i x y
    show (x.1 == y.1) = true ↔ some x = some y
    rw [beq_iff_eq, Option.some.injEq]
    exact Subtype.ext_iff.symm⟩
noncomputable abbrev Ent := Int × Tx
noncomputable abbrev Row := List Ent
noncomputable abbrev Yard := T3 Int Int (List (List Row))
instance : DecidableEq Tx := fun a b => decidable_of_iff (a.1 = b.1) Subtype.ext_iff.symm
instance : DecidableEq Yard := fun a b => decidable_of_iff (a.a = b.a ∧ a.b = b.b ∧ a.c = b.c) (by
  obtain ⟨a1, a2, a3⟩ := a
  obtain ⟨b1, b2, b3⟩ := b
  exact T3.mk.injEq .. ▸ Iff.rfl)
section
variable {K : PySem.W.Frag} {H : Hp} {v : V}
end
/-! ### rows sorted by their keys -/
noncomputable def sortE (l : Row) : Row := l.mergeSort (fun a b => decide (a.1 ≤ b.1))
/-- no two unlike entries of one key -/
noncomputable def OneK (l : Row) : Prop := ∀ x ∈ l, ∀ y ∈ l, x.1 = y.1 → x.2 = y.2
end TR
namespace TR
open PySem L2
/-! ### pure values out of data, some of them -/
section
variable {K : PySem.W.Frag} {σ : L2.St} {H : Hp} {tt : TT} {te : TE} {Q : VK} {g : TG} {vs : List Nat}
end
/-! ### comprehensions that draw -/
section
variable {K : PySem.W.Frag} {σ : L2.St} {H : Hp} {te : TE} {Q : VK} {g : TG} {vs : List Nat}
theorem lc_handR {α : Type} (Rel : α → V → Hp → Prop) {J : It} {n : Nat} {Z : Hp} {h : Addr} {C c R : Nat} (xs : Nat → V) (hh : Hand K Z H h C) (hC : R + c * n ≤ C)
    (hgo : ∀ i H', i < n → ExM h H H' → J.go i H') (hst : ∀ H', ExM h H H' → J.stop n H') (hy : ∀ i v H0 H', i < n → ExM h H H0 → J.yld i H0 v H' → H' = H0 ∧ v = xs i)
    (turn : ∀ i, i < n → ∀ D H' R', ExM h H H' → H D = none → (∃ o, H' D = some o) → Hand K Z H' h (R' + c) → ∀ A : VK, (∀ x y H4, ExM h H' H4 → Hand K Z H4 h R' → (∀ Z1, Ex Z Z1 → (∀ b o, H' b = none → H4 b = some o → Z1 b = some o) → Rel x y Z1) → A y H4) →
      g (xs i) (wipe σ vs) H' fun σ2 H2 => wipe σ2 vs = wipe σ vs ∧ te σ2 H2 A)
    (hz : n ≤ 40000)
    (fin : ∀ (D : Addr) (ys : List V) (l : List α) (H' : Hp), H D = none → ExM h H H' → Hand K Z H' h R → H' D = some (.lst ys) → l.length = n → (∀ Z1, Ex Z Z1 → (∀ b o, H b = none → b ≠ D → H' b = some o → Z1 b = some o) → Paired (fun y x => Rel x y Z1) ys l) → Q (.ref D) H') : LcJ g tYes te vs σ J H Q := by
  intro D hD
  have nD : D ≠ h := hand_ne0 hD hh
  have nZ : Z D = none := Ex.back hh.z hD
  obtain ⟨oh, hoh⟩ := hh.at
  refine ⟨fun i m H' => m = n - i ∧ i ≤ n ∧ ExM h H H' ∧ Hand K Z H' h (R + c * (n - i)) ∧ ∃ (ys : List V) (l : List α), H' D = some (.lst ys) ∧ l.length = i ∧ ys.length = i ∧ (∀ Z1, Ex Z Z1 → (∀ b o, H b = none → b ≠ D → H' b = some o → Z1 b = some o) → Paired (fun y x => Rel x y Z1) ys l), ⟨n, by omega, by omega, (Ex.new hD).toM, (hh.ex (Ex.new hD)).mono (by simpa using hC), [], [], upd_same, rfl, rfl, fun _ _ _ => .nil⟩, ?_⟩
  rintro i m H' ⟨rfl, hi, e, hh', ys, l, hns, hln, hly, hpr⟩
  by_cases hlt : i < n
  · refine .inr ⟨hgo i H' hlt e, fun H'' => i + 1 ≤ n ∧ ExM h H H'' ∧ Hand K Z H'' h (R + c * (n - (i + 1))) ∧ ∃ (ys : List V) (l : List α), H'' D = some (.lst ys) ∧ l.length = i + 1 ∧ ys.length = i + 1 ∧ (∀ Z1, Ex Z Z1 → (∀ b o, H b = none → b ≠ D → H'' b = some o → Z1 b = some o) → Paired (fun y x => Rel x y Z1) ys l), fun H'' q => ⟨n - (i + 1), by omega, rfl, q⟩, fun v H2 y => ?_⟩
    obtain ⟨rfl, rfl⟩ := hy i v H' H2 hlt e y
    rw [lc_yes]
    have ec : R + c * (n - i) = R + c * (n - (i + 1)) + c := by
      rw [show n - i = (n - (i + 1)) + 1 by omega, Nat.mul_succ]
      omega
    rw [ec] at hh'
    refine turn i hlt D H2 _ e hD ⟨_, hns⟩ hh' _ fun x y H4 m4 hh4 hr => ?_
    have m5 : ExM h H (upd H4 D (.lst (ys ++ [y]))) := fun b o nb q => by
      rw [upd_ne (ne_of_none q hD)]
      exact (e.trans m4) b o nb q
    refine ⟨_, m4 _ _ nD hns, sz_lt (by omega), by omega, m5, hh4.exm ExM.upd (Ne.symm nD) nZ, ys ++ [y], l ++ [x], upd_same, by rw [List.length_append, hln]; rfl, by rw [List.length_append, hly]; rfl, fun Z1 ez hz1 => ?_⟩
    refine paired_snoc (hpr Z1 ez fun b o q1 q2 q3 => hz1 b o q1 q2 ?_) (hr Z1 ez fun b o q1 q2 => hz1 b o ?_ ?_ ?_)
    · have nb : b ≠ h := fun z => by rw [z, hoh] at q1; cases q1
      rw [upd_ne q2]
      exact m4 _ _ nb q3
    · cases q : H b with
      | none => rfl
      | some o' =>
        by_cases nb : b = h
        · subst nb
          obtain ⟨o2, ho2⟩ := hh'.at
          rw [q1] at ho2
          cases ho2
        · rw [e _ _ nb q] at q1
          cases q1
    · intro z
      rw [z, hns] at q1
      cases q1
    · rw [upd_ne (fun z => by rw [z, hns] at q1; cases q1)]
      exact q2
  · have ei : i = n := by omega
    subst ei
    exact .inl ⟨hst H' e, fin D ys l H' hD e (hh'.mono (by omega)) hns hln hpr⟩
theorem u_lcR1HR {α : Type} (Rel : α → V → Hp → Prop) {n : Int} {Z : Hp} {h : Addr} {C : Nat} (R c : Nat) (hh : Hand K Z H h C) (hC : R + c * n.toNat ≤ C) (hz : 0 ≤ n ∧ n ≤ 40000)
    (turn : ∀ i : Nat, (i : Int) < n → ∀ D H' R', ExM h H H' → H D = none → (∃ o, H' D = some o) → Hand K Z H' h (R' + c) → ∀ A : VK, (∀ x y H4, ExM h H' H4 → Hand K Z H4 h R' → (∀ Z1, Ex Z Z1 → (∀ b o, H' b = none → H4 b = some o → Z1 b = some o) → Rel x y Z1) → A y H4) →
      g (.int (i : Int)) (wipe σ vs) H' fun σ2 H2 => wipe σ2 vs = wipe σ vs ∧ te σ2 H2 A)
    (fin : ∀ (D : Addr) (ys : List V) (l : List α) (H' : Hp), H D = none → ExM h H H' → Hand K Z H' h R → H' D = some (.lst ys) → l.length = n.toNat → (∀ Z1, Ex Z Z1 → (∀ b o, H b = none → b ≠ D → H' b = some o → Z1 b = some o) → Paired (fun y x => Rel x y Z1) ys l) → Q (.ref D) H') : LcR1 g tYes te vs σ [.int n] H Q := by
  have e62 : (2 : Int) ^ 62 = 4611686018427387904 := by decide
  refine ⟨n, rfl, by omega, by omega, lc_handR Rel (n := n.toNat) (c := c) (R := R) (fun i => .int (i : Int)) hh hC (fun i H' hi e => hi) (fun H' e => Nat.le_refl _) (fun i v H0 H' hi e y => ?_) (fun i hi D H' R' e hD hh' A k => turn i (by omega) D H' R' e hD hh' A k) (by omega) fin⟩
  obtain ⟨rfl, rfl⟩ := y
  exact ⟨rfl, by rw [Int.zero_add]⟩
end
end TR

/-! data that stands in plain lists and tuples: all its lists are tracked -/
namespace TR
open PySem L2
mutual
inductive Dt (H : Hp) : V → PyData → Prop
  | non : Dt H .non .none
  | bl (b : Bool) : Dt H (.bl b) (.bool b)
  | int (i : Int) : Dt H (.int i) (.int i)
  | str (x : Str) : Dt H (.str x) (.str x)
  | lst {a : Addr} {vs : List V} {ds : List PyData} : H a = some (.lst vs) → DtAll H vs ds → Dt H (.ref a) (.list ds)
  | tup {a : Addr} {vs : List V} {ds : List PyData} : H a = some (.tup vs) → DtAll H vs ds → Dt H (.ref a) (.tuple ds)
inductive DtAll (H : Hp) : List V → List PyData → Prop
  | nil : DtAll H [] []
  | cons {v : V} {vs : List V} {d : PyData} {ds : List PyData} : Dt H v d → DtAll H vs ds → DtAll H (v :: vs) (d :: ds)
end
mutual
theorem Dt.ex {H H' : Hp} (e : Ex H H') : ∀ {v : V} {d : PyData}, Dt H v d → Dt H' v d
  | _, _, .non => .non
  | _, _, .bl b => .bl b
  | _, _, .int i => .int i
  | _, _, .str x => .str x
  | _, _, .lst s a => .lst (e _ _ s) (DtAll.ex e a)
  | _, _, .tup s a => .tup (e _ _ s) (DtAll.ex e a)
theorem DtAll.ex {H H' : Hp} (e : Ex H H') : ∀ {vs : List V} {ds : List PyData}, DtAll H vs ds → DtAll H' vs ds
  | _, _, .nil => .nil
  | _, _, .cons a r => .cons (Dt.ex e a) (DtAll.ex e r)
end
mutual
theorem Dt.dp {K : PySem.W.Frag} {H : Hp} : ∀ {v : V} {d : PyData}, Dt H v d → Dp K H v d
  | _, _, .non => .non
  | _, _, .bl b => .bl b
  | _, _, .int i => .int i
  | _, _, .str x => .str x
  | _, _, .lst s a => .lst (sq_of s) (DtAll.dp a)
  | _, _, .tup s a => .tup (st_of s) (DtAll.dp a)
theorem DtAll.dp {K : PySem.W.Frag} {H : Hp} : ∀ {vs : List V} {ds : List PyData}, DtAll H vs ds → DpAll K H vs ds
  | _, _, .nil => .nil
  | _, _, .cons a r => .cons (Dt.dp a) (DtAll.dp r)
end
/-- the value v stands in H as the thing x -/
noncomputable abbrev Ik (H : Hp) {α : Type} [Py α] (v : V) (x : α) : Prop := Dt H v (Py.d x)
section
variable {K : PySem.W.Frag} {H H' : Hp} {α β γ δ : Type} [Py α] [Py β] [Py γ] [Py δ] {v w u t : V} {x : α} {y : β} {z : γ} {r : δ} {a : Addr}
theorem Ik.is (h : Ik H v x) : Is K H v x := Dt.dp h
theorem Ik.ex (e : Ex H H') (h : Ik H v x) : Ik H' v x := Dt.ex e h
theorem Ik.int (i : Int) : Ik H (.int i) i := Dt.int i
theorem Ik.nil (h : H a = some (.lst [])) : Ik H (.ref a) ([] : List α) := .lst h .nil
theorem Ik.pair (h : H a = some (.tup [v, w])) (h1 : Ik H v x) (h2 : Ik H w y) : Ik H (.ref a) (x, y) := .tup h (.cons h1 (.cons h2 .nil))
theorem Ik.three (h : H a = some (.tup [v, w, u])) (h1 : Ik H v x) (h2 : Ik H w y) (h3 : Ik H u z) : Ik H (.ref a) (T3.mk x y z) := .tup h (.cons h1 (.cons h2 (.cons h3 .nil)))
theorem Ik.opt : ∀ o : Option Int, Ik H (optV o) o
  | none => Dt.non
  | some i => Dt.int i
theorem Ik.tx (x : Tx) : Ik H (.str x.1) x := Dt.str x.1
theorem Ik.list {xs : List α} (h : Ik H v xs) : ∃ a vs, v = .ref a ∧ H a = some (.lst vs) ∧ Paired (fun v x => Ik H v x) vs xs := by
  have go : ∀ (vs : List V) (ys : List α), DtAll H vs (ys.map Py.d) → Paired (fun v x => Ik H v x) vs ys := by
    intro vs ys
    induction ys generalizing vs with
    | nil => intro h; cases h; exact .nil
    | cons y ys ih =>
      intro h
      cases h with
      | cons h1 h2 => exact .cons h1 (ih _ h2)
  have h' : Dt H v (.list (xs.map Py.d)) := h
  cases h' with
  | lst s a => exact ⟨_, _, rfl, s, go _ _ a⟩
theorem Ik.of_list {vs : List V} {xs : List α} (s : H a = some (.lst vs)) (h : Paired (fun v x => Ik H v x) vs xs) : Ik H (.ref a) xs := by
  have go : ∀ {vs : List V} {ys : List α}, Paired (fun v x => Ik H v x) vs ys → DtAll H vs (ys.map Py.d) := by
    intro vs ys h
    induction h with
    | nil => exact .nil
    | cons h1 _ ih => exact .cons h1 ih
  exact .lst s (go h)
theorem pair_intsK : ∀ {vs : List V} {xs : List Int}, Paired (fun v x => Ik H v x) vs xs → vs = xs.map V.int
  | _, _, .nil => rfl
  | _, _, .cons (a := v) (b := i) h r => by
    have h' : Dt H v (.int i) := h
    cases h'
    rw [pair_intsK r]
    rfl
theorem ints_pairK : ∀ {xs : List Int}, Paired (fun v x => Ik H v x) (xs.map V.int) xs
  | [] => .nil
  | _ :: _ => .cons (Ik.int _) ints_pairK
theorem Ik.pair_of {p : α × β} (h : Ik H v p) : ∃ a x y, v = .ref a ∧ H a = some (.tup [x, y]) ∧ Ik H x p.1 ∧ Ik H y p.2 := by
  have h' : Dt H v (.tuple [Py.d p.1, Py.d p.2]) := h
  cases h' with
  | tup s a =>
    cases a with
    | cons h1 r => cases r with
      | cons h2 r2 => cases r2; exact ⟨_, _, _, rfl, s, h1, h2⟩
theorem Ik.three_of {t : T3 α β γ} (h : Ik H v t) : ∃ a x y z, v = .ref a ∧ H a = some (.tup [x, y, z]) ∧ Ik H x t.a ∧ Ik H y t.b ∧ Ik H z t.c := by
  have h' : Dt H v (.tuple [Py.d t.a, Py.d t.b, Py.d t.c]) := h
  cases h' with
  | tup s a =>
    cases a with
    | cons h1 r => cases r with
      | cons h2 r => cases r with
        | cons h3 r => cases r; exact ⟨_, _, _, _, rfl, s, h1, h2, h3⟩
theorem Ik.int_of {i : Int} (h : Ik H v i) : v = .int i := by
  have h' : Dt H v (.int i) := h
  cases h'
  rfl
theorem Ik.str_of {x : Tx} (h : Ik H v x) : v = .str x.1 := by
  have h' : Dt H v (.str x.1) := h
  cases h'
  rfl
theorem Ik.ent_of {e : Ent} (h : Ik H v e) : ∃ a, v = .ref a ∧ H a = some (.tup [.int e.1, .str e.2.1]) := by
  obtain ⟨a, x, y, h1, h2, h3, h4⟩ := h.pair_of
  rw [h3.int_of, h4.str_of] at h2
  exact ⟨a, h1, h2⟩
theorem Ik.ref_of {xs : List α} (h : Ik H v xs) : ∃ b, v = .ref b ∧ Ik H (.ref b) xs := by
  obtain ⟨b, vs, e, h6, h7⟩ := h.list
  exact ⟨b, e, e ▸ h⟩
theorem Ik.yard_of {y : Yard} (h : Ik H v y) : ∃ a b, v = .ref a ∧ H a = some (.tup [.int y.a, .int y.b, .ref b]) ∧ Ik H (.ref b) y.c := by
  obtain ⟨a, x1, x2, x3, h1, h2, h3, h4, h5⟩ := h.three_of
  obtain ⟨b, e, h6⟩ := h5.ref_of
  rw [h3.int_of, h4.int_of, e] at h2
  exact ⟨a, b, h1, h2, h6⟩
theorem itemK {vs : List V} {l : List α} (p : Paired (fun v x => Ik H v x) vs l) {i : Nat} {v : V} (h : vs[i]? = some v) : ∃ x, l[i]? = some x ∧ Ik H v x := pair_get' p h
end
section
variable {K : PySem.W.Frag} {Z H : Hp} {α β : Type} [Py α] [Py β] {v : V} {σ : L2.St} {R : L2.St → Hp → Prop} {Q : VK}
end
end TR

/-! T: from (Z, H) to (Z', H'). Z is what stays for ever; only M's things are changed -/
namespace TR
open PySem L2
structure T (M : List Addr) (Z H Z' H' : Hp) : Prop where
  z : Ex Z Z'
  zh : Ex Z' H'
  m : ∀ b o, b ∉ M → H b = some o → H' b = some o
  al : ∀ b o, H b = some o → ∃ o', H' b = some o'
  fr : ∀ b, b ∉ M → Z b = none → (∃ o, H b = some o) → Z' b = none
/-- p stands in H and may be changed -/
structure Mu (Z H : Hp) (p : Addr) : Prop where
  z : Z p = none
  a : ∃ o, H p = some o
/-- a list that stands in H, its things in Z -/
noncomputable def Li (Z H : Hp) (p : Addr) {α : Type} [Py α] (l : List α) : Prop := ∃ vs, H p = some (.lst vs) ∧ Paired (fun v x => Ik Z v x) vs l
/-- .. and that stays as it is -/
noncomputable def Ls (Z : Hp) (p : Addr) {α : Type} [Py α] (l : List α) : Prop := Li Z Z p l
/-- a list that is filled: it stands at D, its things in Z -/
structure Lm (Z H : Hp) (D : Addr) {α : Type} [Py α] (l : List α) : Prop where
  ex : ∃ vs, H D = some (.lst vs) ∧ Paired (fun v x => Ik Z v x) vs l
  zd : Z D = none
  zh : Ex Z H
theorem nm_nil {b : Addr} : b ∉ ([] : List Addr) := List.not_mem_nil
theorem nm_cons {b x : Addr} {M : List Addr} (h : b ≠ x) (t : b ∉ M) : b ∉ x :: M := fun z => by
  rcases List.mem_cons.mp z with z | z
  · exact h z
  · exact t z
theorem mm_nil {N : List Addr} {H : Hp} : ∀ x ∈ ([] : List Addr), x ∈ N ∨ H x = none := fun _ h => absurd h List.not_mem_nil
theorem mm_cons {N M : List Addr} {H : Hp} {y : Addr} (h : y ∈ N ∨ H y = none) (t : ∀ x ∈ M, x ∈ N ∨ H x = none) : ∀ x ∈ y :: M, x ∈ N ∨ H x = none := fun x hx => by
  rcases List.mem_cons.mp hx with e | hx
  · rw [e]; exact h
  · exact t x hx
theorem mm_same {N : List Addr} {H : Hp} : ∀ x ∈ N, x ∈ N ∨ H x = none := fun _ h => .inl h
section
variable {K : PySem.W.Frag} {M N : List Addr} {Z H Z1 H1 Z2 H2 Z' H' Z0 H0 : Hp} {p b h D : Addr} {o : HO} {v : V} {α : Type} {iα : Py α} {x : α} {l : List α} {n : Nat}
theorem T.refl (e : Ex Z H) : T M Z H Z H := ⟨Ex.refl _, e, fun _ _ _ h => h, fun _ o h => ⟨o, h⟩, fun _ _ h _ => h⟩
theorem T.step (a : T N Z H Z1 H1) (b : T M Z1 H1 Z2 H2) (h : ∀ x ∈ M, x ∈ N ∨ H x = none) : T N Z H Z2 H2 := by
  have nm : ∀ x, x ∉ N → (∃ o, H x = some o) → x ∉ M := fun x nx ⟨o, ho⟩ hx => by
    rcases h x hx with g | g
    · exact nx g
    · rw [ho] at g; cases g
  refine ⟨a.z.trans b.z, b.zh, fun c o nc hc => b.m c o (nm c nc ⟨o, hc⟩) (a.m c o nc hc), fun c o hc => ?_, fun c nc zc ⟨o, hc⟩ => ?_⟩
  · obtain ⟨o', ho'⟩ := a.al c o hc
    exact b.al c o' ho'
  · obtain ⟨o', ho'⟩ := a.al c o hc
    exact b.fr c (nm c nc ⟨o, hc⟩) (a.fr c nc zc ⟨o, hc⟩) ⟨o', ho'⟩
theorem T.nn (t : T M Z H Z' H') (n : H' b = none) : H b = none := by
  cases c : H b with
  | none => rfl
  | some o =>
    obtain ⟨o', ho'⟩ := t.al b o c
    rw [n] at ho'
    cases ho'
/-- all that stood stands: b is new -/
noncomputable def AC (H H' : Hp) : Prop := ∀ b, H' b = none → H b = none
theorem Ik.tt (t : T M Z H Z' H') (h : Ik Z v x) : Ik Z' v x := Ik.ex t.z h
theorem T.sqz {xs : List V} (t : T M Z H Z' H') (h : SqL K Z p xs) : SqL K Z' p xs := t.z.sq h
theorem T.pz (t : T M Z H Z' H') (h : Z p = some o) : Z' p = some o := t.z _ _ h
theorem T.hp (t : T M Z H Z' H') (n : p ∉ M) (h : H p = some o) : H' p = some o := t.m _ _ n h
theorem T.all (t : T M Z H Z' H') (h : ∃ o, H p = some o) : ∃ o, H' p = some o := by
  obtain ⟨o, ho⟩ := h
  exact t.al _ _ ho
theorem T.mu (t : T M Z H Z' H') (n : p ∉ M) (a : Mu Z H p) : Mu Z' H' p := ⟨t.fr _ n a.z a.a, t.all a.a⟩
theorem Hand.tt (t : T M Z H Z' H') (nm : h ∉ M) (a : Hand K Z H h n) : Hand K Z' H' h n := by
  obtain ⟨d, k, c, cells, h1, h3, h4, h5, z1, z2, z3⟩ := a
  exact ⟨d, k, c, cells, t.m _ _ nm h1, h3, h4, h5, t.zh, t.fr _ nm z2 ⟨_, h1⟩, t.z.sq z3⟩
theorem Lm.at_ (a : Lm Z H D l) : ∃ o, H D = some o := by
  obtain ⟨⟨vs, h1, h2⟩, h3, h4⟩ := a
  exact ⟨_, h1⟩
theorem Lm.mu (a : Lm Z H D l) : Mu Z H D := ⟨a.zd, a.at_⟩
theorem Lm.tt (t : T M Z H Z' H') (nm : D ∉ M) (a : Lm Z H D l) : Lm Z' H' D l := by
  have hd := a.zd
  have ha := a.at_
  obtain ⟨⟨vs, h1, h2⟩, h3, h4⟩ := a
  exact ⟨⟨vs, t.m _ _ nm h1, Paired.mapP h2 fun v x h => Ik.ex t.z h⟩, t.fr _ nm hd ha, t.zh⟩
theorem Ls.tt (t : T M Z H Z' H') (a : Ls Z p l) : Ls Z' p l := by
  obtain ⟨vs, h1, h2⟩ := a
  exact ⟨vs, t.z _ _ h1, Paired.mapP h2 fun v x h => Ik.ex t.z h⟩
theorem Ls.is (a : Ls Z p l) : Ik Z (.ref p) l := by
  obtain ⟨vs, h1, h2⟩ := a
  exact Ik.of_list h1 h2
theorem Ls.ints {l : List Int} (a : Ls Z p l) : Z p = some (.lst (l.map V.int)) := by
  obtain ⟨vs, h1, h2⟩ := a
  rw [h1, pair_intsK h2]
theorem Ik.li {l : List α} (a : Ik Z (.ref p) l) : Ls Z p l := by
  obtain ⟨b, vs, e, h, pr⟩ := a.list
  cases e
  exact ⟨vs, h, pr⟩
theorem Ls.ofInts {l : List Int} (h : Z p = some (.lst (l.map V.int))) : Ls Z p l := ⟨_, h, ints_pairK⟩
/-! ways in: from the old words -/
theorem T.ofExM (m : ExM h H H') (a : ∃ o, H' h = some o) (z : Ex Z H) (zn : Z h = none) : T [h] Z H Z H' :=
  ⟨Ex.refl _, z.exm zn m, fun _ o n e => m _ o (fun z => n (by rw [z]; exact List.mem_cons_self)) e, fun b o e => by
    by_cases c : b = h
    · rw [c]; exact a
    · exact ⟨o, m _ _ c e⟩, fun _ _ h _ => h⟩
theorem upd_ex2 (z : Ex Z H) : Ex (upd Z p o) (upd H p o) := fun b u e => by
  by_cases c : b = p
  · rw [c, upd_same] at e ⊢
    exact e
  · rw [upd_ne c] at e ⊢
    exact z _ _ e
/-- a new thing that stays as it is -/
theorem T.new (n : H p = none) (z : Ex Z H) : T M Z H (upd Z p o) (upd H p o) :=
  ⟨Ex.new (Ex.back z n), upd_ex2 z, fun b u _ e => by rw [upd_ne (ne_of_none e n)]; exact e, fun b u e => ⟨u, by rw [upd_ne (ne_of_none e n)]; exact e⟩, fun b _ zb ⟨u, e⟩ => by rw [upd_ne (ne_of_none e n)]; exact zb⟩
/-- a new thing that may be changed -/
theorem T.newM (n : H p = none) (z : Ex Z H) : T M Z H Z (upd H p o) :=
  ⟨Ex.refl _, z.trans (Ex.new n), fun b u _ e => by rw [upd_ne (ne_of_none e n)]; exact e, fun b u e => ⟨u, by rw [upd_ne (ne_of_none e n)]; exact e⟩, fun b _ zb _ => zb⟩
/-- a thing is changed -/
theorem T.set (a : Mu Z H p) (z : Ex Z H) : T [p] Z H Z (upd H p o) :=
  ⟨Ex.refl _, fun b u e => by rw [upd_ne (ne_of_none e a.z)]; exact z _ _ e, fun b u nb e => by rw [upd_ne (fun c => nb (by rw [c]; exact List.mem_cons_self))]; exact e, fun b u e => by
    by_cases c : b = p
    · exact ⟨_, by rw [c]; exact upd_same⟩
    · exact ⟨u, by rw [upd_ne c]; exact e⟩, fun b _ zb _ => zb⟩
/-- a thing is to stay as it is from now on -/
theorem T.fz (z : Ex Z H) (zp : Z p = none) (hp : H p = some o) : T [p] Z H (upd Z p o) H :=
  ⟨Ex.new zp, fun b u e => by
    by_cases c : b = p
    · rw [c, upd_same] at e
      cases e
      rw [c]; exact hp
    · rw [upd_ne c] at e
      exact z _ _ e, fun _ _ _ h => h, fun _ o h => ⟨o, h⟩, fun b nb zb _ => by rw [upd_ne (fun c => nb (by rw [c]; exact List.mem_cons_self))]; exact zb⟩
/-- .. of old words: all that is new stays as it is -/
noncomputable def grow (Z H H' : Hp) : Hp := fun b => match Z b with | some o => some o | none => match H b with | some _ => none | none => H' b
end
/-! ### new things: what is asked next -/
section
variable {K : PySem.W.Frag} {M : List Addr} {Z H : Hp} {Q : VK} {R : Hp → Prop} {p D a b : Addr} {v w : V} {α : Type} {iα : Py α} {x : α} {l r : List α} {xs : List V}
/-- an empty list that will be changed -/
theorem t_lst0 (z : Ex Z H) (q : ∀ p Z' H', H p = none → T [] Z H Z' H' → Mu Z' H' p → H' p = some (.lst []) → Q (.ref p) H') : NewL [] H Q :=
  ⟨sz_of (Nat.zero_le _), fun p hp => q p Z _ hp (T.newM hp z) ⟨Ex.back z hp, _, upd_same⟩ upd_same⟩
theorem t_lst (z : Ex Z H) (h : xs.length ≤ 100000) (q : ∀ p Z' H', H p = none → T [] Z H Z' H' → Z' p = some (.lst xs) → Q (.ref p) H') : NewL xs H Q :=
  ⟨sz_of h, fun p hp => q p _ _ hp (T.new hp z) upd_same⟩
theorem t_tup (z : Ex Z H) (h : xs.length ≤ 100000) (q : ∀ p Z' H', H p = none → T [] Z H Z' H' → Z' p = some (.tup xs) → Q (.ref p) H') : NewT xs H Q :=
  ⟨sz_of h, fun p hp => q p _ _ hp (T.new hp z) upd_same⟩
/-- the empty list that will be changed, as data -/
theorem Lm.of0 (m : Mu Z H p) (z : Ex Z H) (f : H p = some (.lst [])) : Lm Z H p ([] : List α) := ⟨⟨[], f, .nil⟩, m.z, z⟩
theorem t_app (a : Lm Z H D l) (i : Ik Z v x) (hz : l.length < 100000) (q : ∀ Z' H', T [D] Z H Z' H' → Lm Z' H' D (l ++ [x]) → Q .non H') : rAppend (.ref D) [v] H Q := by
  have mu := a.mu
  obtain ⟨⟨vs, h1, h2⟩, h3, h4⟩ := a
  have t : T [D] Z H Z (upd H D (.lst (vs ++ [v]))) := T.set mu h4
  exact ⟨D, vs, v, rfl, rfl, h1, sz_lt (by rw [Paired.length h2]; exact hz), q Z _ t ⟨⟨_, upd_same, Paired.snoc h2 i⟩, h3, t.zh⟩⟩
theorem t_tyLA {l : List α} {P : Prop} (a : Lm Z H D l) (q : P) : tyV K "list" (.ref D) H ∧ P := by
  obtain ⟨⟨vs, h1, h2⟩, h3, h4⟩ := a
  exact s_tyL (sq_of h1) q
/-- a list that was filled stays as it is from now on -/
theorem t_fz {G : Hp → Prop} (a : Lm Z H D l) (q : ∀ Z' H', T [D] Z H Z' H' → Ls Z' D l → G H') : G H := by
  obtain ⟨⟨vs, h1, h2⟩, h3, h4⟩ := a
  have t : T [D] Z H (upd Z D (.lst vs)) H := T.fz h4 h3 h1
  exact q _ _ t ⟨vs, upd_same, Paired.mapP h2 fun v x g => Ik.ex t.z g⟩
theorem t_fzV {G : Hp → Prop} (m : Mu Z H D) (z : Ex Z H) {o : HO} (f : H D = some o) (q : ∀ Z' H', T [D] Z H Z' H' → Z' D = some o → G H') : G H :=
  q _ _ (T.fz z m.z f) upd_same
theorem t_slL {lo hi : Option Int} (z : Ex Z H) (h : SqL K H a xs) (q : ∀ p Z' H', H p = none → T [] Z H Z' H' → Z' p = some (.lst (cutV xs lo hi)) → Q (.ref p) H') : rSlL K (.ref a) lo hi H Q :=
  ⟨a, xs, rfl, h, fun p hp => q p _ _ hp (T.new hp z) upd_same⟩
/-! what is read -/
end
/-! ### draws -/
noncomputable def spDraw (K : PySem.W.Frag) : Sp := fun vs H Q _ => ∃ (h : Addr) (m : Int) (n : Nat) (Z : Hp), vs = [.ref h, .int m] ∧ Hand K Z H h (n + 1) ∧ 0 < m ∧ m ≤ 4611686018427387904 ∧
  ∀ (r : Int) H', 0 ≤ r → r < m → ExM h H H' → Hand K Z H' h n → Q (.int r) H'
section
variable {K : PySem.W.Frag} {Z H : Hp} {h : Addr} {m : Int} {N : Nat} {Q : VK} {E : XK}
theorem Hand.t {H' : Hp} {n n' : Nat} (hh : Hand K Z H h n) (m : ExM h H H') (hh' : Hand K Z H' h n') : T [h] Z H Z H' := T.ofExM m hh'.at hh.z hh.zn
theorem drawT (hh : Hand K Z H h N) (hN : 1 ≤ N) (m0 : 0 < m) (m1 : m ≤ 4611686018427387904) (q : ∀ (r : Int) Z' H', 0 ≤ r → r < m → T [h] Z H Z' H' → Hand K Z' H' h (N - 1) → Q (.int r) H') : spDraw K [.ref h, .int m] H Q E :=
  ⟨h, m, N - 1, Z, rfl, hh.mono (by omega), m0, m1, fun r H' r0 r1 e hh' => q r Z H' r0 r1 (hh.t e hh') hh'⟩
noncomputable def spFar (K : PySem.W.Frag) : Sp := fun vs H Q _ => ∃ (h : Addr) (m : Int) (n : Nat) (Z : Hp), vs = [.ref h, .int m] ∧ Hand K Z H h (n + 7) ∧ 0 < m ∧ m ≤ 4611686018427387904 ∧
  ∀ (r : Int) H', 0 ≤ r → r < m → ExM h H H' → Hand K Z H' h n → Q (.int r) H'
noncomputable def spKey (K : PySem.W.Frag) : Sp := fun vs H Q _ => ∃ (h : Addr) (n : Nat) (Z : Hp), vs = [.ref h] ∧ Hand K Z H h (n + 12) ∧
  ∀ (r : Int) H', 0 ≤ r → r < 1152921504606846976 → ExM h H H' → Hand K Z H' h n → Q (.int r) H'
theorem keyT (hh : Hand K Z H h N) (hN : 12 ≤ N) (q : ∀ (r : Int) Z' H', 0 ≤ r → r < 1152921504606846976 → T [h] Z H Z' H' → Hand K Z' H' h (N - 12) → Q (.int r) H') : spKey K [.ref h] H Q E :=
  ⟨h, N - 12, Z, rfl, hh.mono (by omega), fun r H' r0 r1 e hh' => q r Z H' r0 r1 (hh.t e hh') hh'⟩
noncomputable def lettersS : Str := "abcdefghijklmnopqrstuvwxyz"
/-- a text of one to eight small letters -/
noncomputable def nameB (x : Str) : Bool := decide (1 ≤ x.length ∧ x.length ≤ 8) && x.cps.toList.all fun c => decide (c ∈ lettersS.cps.toList)
noncomputable def spThing (K : PySem.W.Frag) : Sp := fun vs H Q _ => ∃ (h : Addr) (n : Nat) (Z : Hp), vs = [.ref h] ∧ Hand K Z H h (n + 10) ∧
  ∀ (x : Tx) H', nameB x.1 = true → ExM h H H' → Hand K Z H' h n → Q (.str x.1) H'
theorem thingN {K : PySem.W.Frag} {Z H : Hp} {h : Addr} {N : Nat} {Q : VK} {E : XK} (hh : Hand K Z H h N) (hN : 10 ≤ N) (q : ∀ (x : Tx) Z' H', nameB x.1 = true → T [h] Z H Z' H' → Hand K Z' H' h (N - 10) → Q (.str x.1) H') : spThing K [.ref h] H Q E :=
  ⟨h, N - 10, Z, rfl, hh.mono (by omega), fun x H' nb e hh' => q x Z H' nb (T.ofExM e hh'.at hh.z hh.zn) hh'⟩
theorem thingT (hh : Hand K Z H h N) (hN : 10 ≤ N) (q : ∀ (x : Tx) Z' H', T [h] Z H Z' H' → Hand K Z' H' h (N - 10) → Q (.str x.1) H') : spThing K [.ref h] H Q E :=
  ⟨h, N - 10, Z, rfl, hh.mono (by omega), fun x H' _ e hh' => q x Z H' (hh.t e hh') hh'⟩
noncomputable def spOpen (K : PySem.W.Frag) : Sp := fun vs H Q _ => ∃ (a : Addr) (ns : List Int) (x : Int), vs = [.ref a, .int x] ∧ SqL K H a (ns.map V.int) ∧ 0 ≤ x ∧ x ≤ 1000 ∧
  ∀ (h c : Addr) (d : Int) (cells : List Int) H', H h = none → H c = none → h ≠ c → Ex H H' → H' h = some (.lst [.int d, .int (1 + 1009 * x), .ref c]) → H' c = some (.lst (cells.map V.int)) → 0 < cells.length → Q (.ref h) H'
theorem openT {a : Addr} {ns : List Int} {x : Int} (z : Ex Z H) (s : SqL K H a (ns.map V.int)) (x0 : 0 ≤ x) (x1 : x ≤ 1000) (q : ∀ h Z' H', H h = none → T [] Z H Z' H' → Hand K Z' H' h 900000000000000000 → Q (.ref h) H') : spOpen K [.ref a, .int x] H Q E :=
  ⟨a, ns, x, rfl, s, x0, x1, fun h c d cells H' nh nc ne e fh fc c0 => by
    have zh : Ex (upd Z c (.lst (cells.map V.int))) H' := fun b o eb => by
      by_cases cc : b = c
      · rw [cc, upd_same] at eb
        cases eb
        rw [cc]; exact fc
      · rw [upd_ne cc] at eb
        exact e _ _ (z _ _ eb)
    refine q h _ H' nh ⟨Ex.new (Ex.back z nc), zh, fun _ _ _ h => e _ _ h, fun _ o h => ⟨o, e _ _ h⟩, fun b _ zb ⟨o, ho⟩ => by rw [upd_ne (ne_of_none ho nc)]; exact zb⟩ ⟨d, 1 + 1009 * x, c, cells, fh, c0, by omega, by omega, zh, ?_, sq_of upd_same⟩
    rw [upd_ne ne]
    exact Ex.back z nh⟩
end
end TR
namespace TR
open PySem L2
theorem ne_alF {H : Hp} {a b : Addr} (n : H a = none) (h : ∃ o, H b = some o) : a ≠ b := fun z => by
  obtain ⟨o, ho⟩ := h
  rw [z, ho] at n
  cases n
theorem ne_alB {H : Hp} {a b : Addr} (n : H b = none) (h : ∃ o, H a = some o) : a ≠ b := (ne_alF n h).symm
end TR
namespace TR
open PySem L2
/-! a place of a list, found once -/
noncomputable def IxGo (xs : List V) (i : Int) (H : Hp) (Q : VK) : Prop := ∃ v, atI xs i = some v ∧ Q v H
section
variable {K : PySem.W.Frag} {H : Hp} {Q : VK} {a : Addr} {xs : List V} {i : Int} {v w : V}
theorem ixGo (h : SqL K H a xs) (q : IxGo xs i H Q) : rIx K (.ref a) (.int i) H Q := by
  obtain ⟨v, e, q⟩ := q
  exact s_ixL h e q
theorem ixGoT (h : SqT K H a xs) (q : IxGo xs i H Q) : rIx K (.ref a) (.int i) H Q := by
  obtain ⟨v, e, q⟩ := q
  exact s_ixT h e q
theorem ig_at (e : atI xs i = some v) (q : Q v H) : IxGo xs i H Q := ⟨v, e, q⟩
theorem ig_2 {x y : Int} (h0 : 0 ≤ i ∧ i < 2) (q : ∀ v, (i = 0 ∧ v = x ∨ i = 1 ∧ v = y) → Q (.int v) H) : IxGo [.int x, .int y] i H Q := by
  have : i = 0 ∨ i = 1 := by omega
  rcases this with rfl | rfl
  · exact ⟨_, rfl, q _ (.inl ⟨rfl, rfl⟩)⟩
  · exact ⟨_, rfl, q _ (.inr ⟨rfl, rfl⟩)⟩
theorem ig_3 {x y z : Int} (h0 : 0 ≤ i ∧ i < 3) (q : ∀ v, (i = 0 ∧ v = x ∨ i = 1 ∧ v = y ∨ i = 2 ∧ v = z) → Q (.int v) H) : IxGo [.int x, .int y, .int z] i H Q := by
  have : i = 0 ∨ i = 1 ∨ i = 2 := by omega
  rcases this with rfl | rfl | rfl
  · exact ⟨_, rfl, q _ (.inl ⟨rfl, rfl⟩)⟩
  · exact ⟨_, rfl, q _ (.inr (.inl ⟨rfl, rfl⟩))⟩
  · exact ⟨_, rfl, q _ (.inr (.inr ⟨rfl, rfl⟩))⟩
end
end TR
namespace TR
open PySem L2
theorem t_slT {K : PySem.W.Frag} {Z H : Hp} {Q : VK} {a : Addr} {xs : List V} {lo hi : Option Int} (z : Ex Z H) (h : SqT K H a xs) (hn : ¬ (HT.sIx xs.length 0 lo = 0 ∧ HT.sIx xs.length xs.length hi = xs.length)) (q : ∀ p Z' H', H p = none → T [] Z H Z' H' → Z' p = some (.tup (cutV xs lo hi)) → Q (.ref p) H') : rSlT K (.ref a) lo hi H Q :=
  ⟨a, xs, rfl, h, hn, fun p hp => q p _ _ hp (T.new hp z) upd_same⟩
end TR
namespace TR
open PySem L2
theorem Lm.frz {Z H : Hp} {D : Addr} {α : Type} {iα : Py α} {l : List α} (a : Lm Z H D l) : ∃ Z', T [D] Z H Z' H ∧ Ls Z' D l := by
  obtain ⟨⟨vs, h1, h2⟩, h3, h4⟩ := a
  have t : T [D] Z H (upd Z D (.lst vs)) H := T.fz h4 h3 h1
  exact ⟨_, t, vs, upd_same, Paired.mapP h2 fun v x g => Ik.ex t.z g⟩
end TR
namespace TR
open PySem L2
theorem Lm.frq {Z H : Hp} {D : Addr} {α : Type} {iα : Py α} {l : List α} (a : Lm Z H D l) : ∃ Z' H', H' = H ∧ T [D] Z H Z' H' ∧ Ls Z' D l := by
  obtain ⟨Z', t, ls⟩ := a.frz
  exact ⟨Z', H, rfl, t, ls⟩
end TR
namespace TR
open PySem L2
noncomputable def spPlaces (lo : Int) (K : PySem.W.Frag) : Sp := fun vs H Q _ => ∃ (a : Addr) (ns : List Int) (x y : Int), vs = [.ref a, .int x, .int y] ∧ SqL K H a (ns.map V.int) ∧ 0 ≤ x ∧ x ≤ 100 ∧ 0 ≤ y ∧ y ≤ 100 ∧
  ∀ p H', H p = none → Ex H H' → H' p = some (.lst (rgV lo (lo + max x (min (ns.length : Int) y)))) → Q (.ref p) H'
end TR
namespace TR
open PySem L2
theorem at_list {K : PySem.W.Frag} {xs : List V} {H : Hp} {Q : VK} (q : rList1 K xs H Q) : rList1 K xs H Q := q
end TR
namespace TR
open PySem L2
theorem at_newl {xs : List V} {H : Hp} {Q : VK} (q : NewL xs H Q) : NewL xs H Q := q
end TR

/-! comprehensions and loops by T -/
namespace TR
open PySem L2
section
variable {K : PySem.W.Frag} {σ : L2.St} {H : Hp} {tt : TT} {te : TE} {Q : VK} {g : TG} {vs : List Nat}
theorem lcT {β : Type} {J : It} {n : Nat} {M : List Addr} {Z : Hp} (p : Nat → Bool) (I : Nat → Hp → Hp → Prop) (R : Nat → β → V → Hp → Prop)
    (mono : ∀ i x y Z1 Z2, Ex Z1 Z2 → R i x y Z1 → R i x y Z2)
    (stab : ∀ i Z1 H1 D o, I i Z1 H1 → H D = none → Z1 D = none → I i Z1 (upd H1 D o))
    (hz : n ≤ 40000) (zh : Ex Z H) (hM : ∀ b ∈ M, ∃ o, H b = some o) (h0 : I 0 Z H)
    (hgo : ∀ i Z1 H1, i < n → T M Z H Z1 H1 → J.go i H1) (hst : ∀ Z1 H1, T M Z H Z1 H1 → J.stop n H1)
    (turn : ∀ i, i < n → ∀ D Z1 H1, T M Z H Z1 H1 → H D = none → Mu Z1 H1 D → I i Z1 H1 → ∀ v H2, J.yld i H1 v H2 → ∀ (A : VK) (B : Hp → Prop),
      (p i = true → ∀ x y Z3 H3, T M Z1 H1 Z3 H3 → I (i + 1) Z3 H3 → R i x y Z3 → A y H3) → (p i = false → ∀ Z3 H3, T M Z1 H1 Z3 H3 → I (i + 1) Z3 H3 → B H3) →
      g v (wipe σ vs) H2 fun σ2 H2 => wipe σ2 vs = wipe σ vs ∧ tt σ2 H2 fun b H3 => if b = true then te σ2 H3 A else B H3)
    (fin : ∀ D ys (L : List (Nat × β)) Z' H', H D = none → T M Z H Z' H' → Mu Z' H' D → H' D = some (.lst ys) → I n Z' H' → L.map Prod.fst = (List.range n).filter p → Paired (fun y q => R q.1 q.2 y Z') ys L → Q (.ref D) H') : LcJ g tt te vs σ J H Q := by
  intro D hD
  have nD : D ∉ M := fun z => by
    obtain ⟨o, ho⟩ := hM D z
    rw [hD] at ho
    cases ho
  refine ⟨fun i m H' => m = n - i ∧ i ≤ n ∧ ∃ Z', T M Z H Z' H' ∧ Mu Z' H' D ∧ I i Z' H' ∧ ∃ (ys : List V) (L : List (Nat × β)), H' D = some (.lst ys) ∧ ys.length ≤ i ∧ L.map Prod.fst = (List.range i).filter p ∧ Paired (fun y q => R q.1 q.2 y Z') ys L,
    ⟨n, by omega, by omega, Z, T.newM hD zh, ⟨Ex.back zh hD, _, upd_same⟩, stab _ _ _ _ _ h0 hD (Ex.back zh hD), [], [], upd_same, Nat.le_refl _, rfl, .nil⟩, ?_⟩
  rintro i m H' ⟨rfl, hi, Z', t, mu, hI, ys, L, hys, hly, hL, pr⟩
  by_cases hlt : i < n
  · refine .inr ⟨hgo i Z' H' hlt t, fun H'' => i + 1 ≤ n ∧ ∃ Z'', T M Z H Z'' H'' ∧ Mu Z'' H'' D ∧ I (i + 1) Z'' H'' ∧ ∃ (ys : List V) (L : List (Nat × β)), H'' D = some (.lst ys) ∧ ys.length ≤ i + 1 ∧ L.map Prod.fst = (List.range (i + 1)).filter p ∧ Paired (fun y q => R q.1 q.2 y Z'') ys L,
      fun H'' q => ⟨n - (i + 1), by omega, rfl, q⟩, fun v H2 hy => ?_⟩
    refine turn i hlt D Z' H' t hD mu hI v H2 hy _ _ (fun hp x y Z3 H3 t3 hI3 r => ?_) (fun hp Z3 H3 t3 hI3 => ?_)
    · have t4 : T M Z H Z3 H3 := t.step t3 mm_same
      have mu3 := t3.mu nD mu
      have t5 : T M Z H Z3 (upd H3 D (.lst (ys ++ [y]))) := t4.step (T.set mu3 t4.zh) (mm_cons (.inr hD) mm_nil)
      refine ⟨ys, t3.hp nD hys, sz_lt (by omega), by omega, Z3, t5, ⟨mu3.z, _, upd_same⟩, stab _ _ _ _ _ hI3 hD mu3.z, ys ++ [y], L ++ [(i, x)], upd_same, by rw [List.length_append]; show _ + 1 ≤ _; omega, ?_, ?_⟩
      · rw [List.map_append, hL, List.range_succ, List.filter_append, List.filter_cons, if_pos hp]
        rfl
      · exact paired_snoc (Paired.mapP pr fun y q h => mono _ _ _ _ _ t3.z h) r
    · have t4 : T M Z H Z3 H3 := t.step t3 mm_same
      refine ⟨by omega, Z3, t4, t3.mu nD mu, hI3, ys, L, t3.hp nD hys, by omega, ?_, Paired.mapP pr fun y q h => mono _ _ _ _ _ t3.z h⟩
      rw [hL, List.range_succ, List.filter_append, List.filter_cons, if_neg (by rw [hp]; exact Bool.false_ne_true)]
      simp
  · have ei : i = n := by omega
    subst ei
    exact .inl ⟨hst Z' H' t, fin D ys L Z' H' hD t mu hys hI hL pr⟩
theorem kept_snd {β γ : Type} {xs : List β} {f : β → γ} : ∀ {L : List (Nat × γ)}, (∀ q ∈ L, ∃ b, xs[q.1]? = some b ∧ q.2 = f b) → L.map Prod.snd = ((L.map Prod.fst).filterMap fun i => xs[i]?).map f
  | [], _ => rfl
  | q :: L, h => by
    obtain ⟨b, h1, h2⟩ := h q List.mem_cons_self
    rw [List.map_cons, List.map_cons, List.filterMap_cons, h1, List.map_cons, ← kept_snd (L := L) fun r hr => h r (List.mem_cons_of_mem _ hr), h2]
theorem paired_r {β γ : Type} {F : β → γ → Prop} {xs : List β} {ys : List γ} (h : Paired F xs ys) : ∀ y ∈ ys, ∃ x, F x y := by
  induction h with
  | nil => exact fun _ h => absurd h List.not_mem_nil
  | cons a t ih =>
    intro y hy
    rcases List.mem_cons.mp hy with e | hy
    · rw [e]; exact ⟨_, a⟩
    · exact ih y hy
theorem paired_mapR {β γ δ : Type} {F : β → δ → Prop} {f : γ → δ} : ∀ {xs : List β} {ys : List γ}, Paired (fun x y => F x (f y)) xs ys → Paired F xs (ys.map f)
  | _, _, .nil => .nil
  | _, _, .cons a t => .cons a (paired_mapR t)
/-- things drawn, c draws a turn -/
theorem c_drawJ {β : Type} [Py β] {J : It} {n : Nat} {Z : Hp} {h : Addr} {C : Nat} (P : β → Prop) (R c : Nat) (xs : Nat → V) (hh : Hand K Z H h C) (hC : R + c * n ≤ C) (hz : n ≤ 40000)
    (hgo : ∀ i Z1 H1, i < n → T [h] Z H Z1 H1 → J.go i H1) (hst : ∀ Z1 H1, T [h] Z H Z1 H1 → J.stop n H1) (hy : ∀ i v Z1 H1 H2, i < n → T [h] Z H Z1 H1 → J.yld i H1 v H2 → H2 = H1 ∧ v = xs i)
    (turn : ∀ i : Nat, i < n → ∀ Z1 H1 R', T [h] Z H Z1 H1 → Hand K Z1 H1 h (R' + c) → ∀ A : VK, (∀ x y Z3 H3, T [h] Z1 H1 Z3 H3 → Hand K Z3 H3 h R' → Ik Z3 y x → P x → A y H3) → g (xs i) (wipe σ vs) H1 fun σ2 H2 => wipe σ2 vs = wipe σ vs ∧ te σ2 H2 A)
    (fin : ∀ D (l : List β) Z' H', H D = none → T [h] Z H Z' H' → Hand K Z' H' h R → Ls Z' D l → l.length = n → (∀ x ∈ l, P x) → Q (.ref D) H') : LcJ g tYes te vs σ J H Q := by
  refine lcT (n := n) (M := [h]) (Z := Z) (fun _ => true) (fun i Z1 H1 => Hand K Z1 H1 h (R + c * (n - i))) (fun i (x : β) y Z => Ik Z y x ∧ P x) (fun i x y Z1 Z2 e r => ⟨Ik.ex e r.1, r.2⟩) (fun i Z1 H1 D o hi nD zD => ?_) hz hh.z (fun b hb => by rw [List.mem_singleton.mp hb]; exact hh.at) (hh.mono (by simpa using hC))
    hgo hst (fun i hi D Z1 H1 t nD mu hI v H2 hv A B hA hB => ?_) (fun D ys L Z' H' nD t mu f1 hI hL pr => ?_)
  · obtain ⟨o1, ho1⟩ := hh.at
    exact hi.exm ExM.upd (ne_of_none ho1 nD) zD
  · obtain ⟨rfl, rfl⟩ := hy i v Z1 H1 H2 hi t hv
    rw [lc_yes]
    have ec : R + c * (n - i) = R + c * (n - (i + 1)) + c := by
      rw [show n - i = (n - (i + 1)) + 1 by omega, Nat.mul_succ]
      omega
    rw [ec] at hI
    exact turn i hi Z1 H2 _ t hI A fun x y Z3 H3 t3 h3 ix px => hA rfl x y Z3 H3 t3 h3 ⟨ix, px⟩
  · have la : Lm Z' H' D (L.map Prod.snd) := ⟨⟨ys, f1, paired_mapR (Paired.mapP pr fun y q h => h.1)⟩, mu.z, t.zh⟩
    refine t_fz la fun Z2 H2 t2 ls => fin D (L.map Prod.snd) Z2 H2 nD (t.step t2 (mm_cons (.inr nD) mm_nil)) ((Hand.tt t2 (nm_cons (hand_ne0 nD hh).symm nm_nil) hI).mono (by omega)) ls ?_ fun x hx => ?_
    · have := congrArg List.length hL
      rw [filter_yes, List.length_map, List.length_range] at this
      rw [List.length_map, this]
    · obtain ⟨q, hq, rfl⟩ := List.mem_map.mp hx
      obtain ⟨y, hy⟩ := paired_r pr q hq
      exact hy.2
theorem c_drawR {β : Type} [Py β] {n : Int} {Z : Hp} {h : Addr} {C : Nat} (P : β → Prop) (R c : Nat) (hh : Hand K Z H h C) (hz : 0 ≤ n ∧ n ≤ 40000) (hC : R + c * n.toNat ≤ C)
    (turn : ∀ i : Nat, (i : Int) < n → ∀ Z1 H1 R', T [h] Z H Z1 H1 → Hand K Z1 H1 h (R' + c) → ∀ A : VK, (∀ x y Z3 H3, T [h] Z1 H1 Z3 H3 → Hand K Z3 H3 h R' → Ik Z3 y x → P x → A y H3) → g (.int (i : Int)) (wipe σ vs) H1 fun σ2 H2 => wipe σ2 vs = wipe σ vs ∧ te σ2 H2 A)
    (fin : ∀ D (l : List β) Z' H', H D = none → T [h] Z H Z' H' → Hand K Z' H' h R → Ls Z' D l → (l.length : Int) = n → (∀ x ∈ l, P x) → Q (.ref D) H') : LcR1 g tYes te vs σ [.int n] H Q := by
  have e62 : (2 : Int) ^ 62 = 4611686018427387904 := by decide
  refine ⟨n, rfl, by omega, by omega, c_drawJ P R c (n := n.toNat) (fun i => .int (i : Int)) hh hC (by omega) (fun i Z1 H1 hi t => hi) (fun Z1 H1 t => Nat.le_refl _) (fun i v Z1 H1 H2 hi t hy => ?_) (fun i hi => turn i (by omega)) (fun D l Z' H' n1 t h1 ls hl => fin D l Z' H' n1 t h1 ls (by omega))⟩
  obtain ⟨rfl, rfl⟩ := hy
  exact ⟨rfl, by rw [Int.zero_add]⟩
end
section
variable {K : PySem.W.Frag} {σ : L2.St} {H : Hp} {D : Ends} {g : TG} {ts : TS}
/-- for over a list of data -/
theorem t_forL {β : Type} [Py β] {a : Addr} {xs : List β} {Z0 : Hp} (h : Ik Z0 (.ref a) xs) (Pv : Nat → L2.St → Hp → Prop) (hz : ∀ i σ H, Pv i σ H → Ex Z0 H) (h0 : Pv 0 σ H)
    (hs : ∀ (i : Nat) v x σ H, xs[i]? = some x → Ik Z0 v x → Pv i σ H → g v σ H fun σ2 H2 => ts { D with nx := Pv (i + 1), ct := Pv (i + 1), bk := D.nx } σ2 H2) (hd : ∀ σ H, Pv xs.length σ H → D.nx σ H) : ForL K g ts D σ (.ref a) H := by
  obtain ⟨b, us, e, h1, h2⟩ := h.list
  cases e
  have hl := Paired.length h2
  refine u_forL Pv ((hz _ _ _ h0).sq (sq_of h1)) h0 (fun i σ H _ p => (hz _ _ _ p).sq (sq_of h1)) (fun i v σ H hv p => ?_) (fun σ H p => hd σ H (by rw [← hl]; exact p))
  obtain ⟨x, hx, ix⟩ := itemK h2 hv
  exact hs i v x σ H hx ix p
end
end TR

/-! rooms that are changed: a list of lists of rows, beside a hand -/
namespace TR
open PySem L2
noncomputable def offH (H : Hp) (ps : List Addr) : Hp := fun b => if b ∈ ps then none else H b
structure HL (K : PySem.W.Frag) (Z0 H : Hp) (h p : Addr) (qs : List Addr) {α : Type} [Py α] (rs : List (List α)) : Prop where
  own : H p = some (.lst (qs.map V.ref))
  nd : (h :: p :: qs).Nodup
  fr : ∀ q ∈ h :: p :: qs, Z0 q = none
  zh : Ex Z0 H
  rows : Paired (fun q r => ∃ vs, H q = some (.lst vs) ∧ Paired (fun v x => Is K (offH H (h :: p :: qs)) v x) vs r) qs rs
section
variable {K : PySem.W.Frag} {Z0 H0 H H1 H' : Hp} {h p q D : Addr} {qs qs2 : List Addr} {α : Type} [Py α] {rs : List (List α)} {Q : VK}
theorem paired_mem {β γ : Type} {F G : β → γ → Prop} : ∀ {xs : List β} {ys : List γ}, Paired F xs ys → (∀ x y, x ∈ xs → F x y → G x y) → Paired G xs ys
  | _, _, .nil, _ => .nil
  | _, _, .cons a t, f => .cons (f _ _ List.mem_cons_self a) (paired_mem t fun x y hx => f x y (List.mem_cons_of_mem _ hx))
theorem cut_of {Z H : Hp} {h : Addr} (e : Ex Z H) (z : Z h = none) : Ex Z (cutH H h) := fun b o q => by
  show (if b = h then none else H b) = some o
  rw [if_neg (fun c => by rw [c, z] at q; cases q)]
  exact e b o q
end
section
variable {K : PySem.W.Frag} {σ : L2.St} {H : Hp} {te : TE} {Q : VK} {g : TG} {vs : List Nat}
end
/-- bounds of rooms: how many, how many rows each, how many entries each -/
noncomputable def HB (n m k : Nat) (rss : List (List Row)) : Prop := rss.length ≤ n ∧ ∀ rs ∈ rss, rs.length ≤ m ∧ ∀ r ∈ rs, r.length ≤ k
end TR

/-! rooms of rows that are all an asker's own: D their list, qs the rooms, F the rows -/
namespace TR
open PySem L2
section
variable {K : PySem.W.Frag} {σ : L2.St} {H : Hp} {tt : TT} {te : TE} {Q : VK} {g : TG} {vs : List Nat}
end
section
variable {K : PySem.W.Frag} {M N F : List Addr} {Z H Z1 H1 Z2 H2 Z' H' : Hp} {p q D : Addr} {o : HO} {v : V} {α : Type} [Py α]
/-- many things are to stay from now on -/
noncomputable def onH (Z H : Hp) (F : List Addr) : Hp := fun b => if b ∈ F then H b else Z b
theorem on_in (h : p ∈ F) : onH Z H F p = H p := if_pos h
theorem on_out (h : p ∉ F) : onH Z H F p = Z p := if_neg h
theorem on_ex (h : ∀ q ∈ F, Z q = none) : Ex Z (onH Z H F) := fun b o e => by
  rw [on_out (fun c => by rw [h b c] at e; cases e)]
  exact e
theorem T.fzs (z : Ex Z H) (h : ∀ q ∈ F, Z q = none) : T F Z H (onH Z H F) H :=
  ⟨on_ex h, fun b o e => by
    by_cases c : b ∈ F
    · rw [on_in c] at e; exact e
    · rw [on_out c] at e; exact z _ _ e, fun _ _ _ h => h, fun _ o h => ⟨o, h⟩, fun b nb zb _ => by rw [on_out nb]; exact zb⟩
/-- a row that is one's own -/
noncomputable def RowO (Z H : Hp) (w : Addr) (r : List α) : Prop := ∃ vs, H w = some (.lst vs) ∧ Paired (fun v x => Ik Z v x) vs r
noncomputable def RoomO (Z H : Hp) (F : List Addr) (q : Addr) (rs : List (List α)) : Prop := ∃ ws : List Addr, H q = some (.lst (ws.map V.ref)) ∧ (∀ w ∈ ws, w ∈ F) ∧ Paired (fun w r => RowO Z H w r) ws rs
structure Y3 (Z H : Hp) (D : Addr) (qs F : List Addr) (rss : List (List (List α))) : Prop where
  own : H D = some (.lst (qs.map V.ref))
  nd : (D :: qs).Nodup
  nf : ∀ q ∈ D :: qs, q ∉ F
  z : ∀ q ∈ D :: (qs ++ F), Z q = none
  al : ∀ q ∈ D :: (qs ++ F), ∃ o, H q = some o
  zh : Ex Z H
  rows : Paired (fun q rs => RoomO Z H F q rs) qs rss
theorem RowO.tt {w : Addr} {r : List α} (t : T M Z H Z' H') (n : w ∉ M) (h : RowO Z H w r) : RowO Z' H' w r := by
  obtain ⟨vs, h1, h2⟩ := h
  exact ⟨vs, t.hp n h1, Paired.mapP h2 fun v x g => Ik.tt t g⟩
variable {qs : List Addr} {rss : List (List (List α))}
variable {Q : VK} {R : Hp → Prop}
end
end TR
namespace TR
open PySem L2
section
variable {K : PySem.W.Frag} {σ : L2.St} {H Z Z0 : Hp} {te : TE} {Q : VK} {g : TG} {vs : List Nat} {α : Type} [Py α]
/-- a new list of new lists: w, its things in Z0 -/
noncomputable def RowF (Z0 Z : Hp) (w : Addr) (r : List α) : Prop := ∃ vs, Z w = some (.lst vs) ∧ Paired (fun v x => Ik Z0 v x) vs r
end
end TR

namespace TR
open PySem L2
/-- rooms of rows that an asker spoils: only the shape is known -/
structure Sh (Z H : Hp) (D : Addr) (qs F : List Addr) (n B : Nat) : Prop where
  own : H D = some (.lst (qs.map V.ref))
  nd : D ∉ qs
  nf : ∀ q ∈ D :: qs, q ∉ F
  z : ∀ q ∈ D :: (qs ++ F), Z q = none
  zh : Ex Z H
  rooms : ∀ q ∈ qs, ∃ ws : List Addr, H q = some (.lst (ws.map V.ref)) ∧ ws.length ≤ n ∧ ∀ w ∈ ws, w ∈ F
  rows : ∀ w ∈ F, ∃ vs, H w = some (.lst vs) ∧ vs.length ≤ B
section
variable {Z H Z' H' : Hp} {D q w e : Addr} {M qs F : List Addr} {n B : Nat} {Q : VK} {v : V}
variable {α : Type} [Py α] {rss : List (List (List α))}
end
end TR
namespace TR
open PySem L2
section
variable {K : PySem.W.Frag} {Z H : Hp} {D q w : Addr} {qs F : List Addr} {n B : Nat} {Q : VK} {v : V}
end
end TR

/-! steps as data -/
namespace TR
open PySem L2
inductive Stp where
  | rooms (m : Int)
  | cut (r m : Int)
  | row (r a : Int) (w : Row)
  deriving DecidableEq
noncomputable def stpD : Stp → PyData
  | .rooms m => .tuple [.str "rooms", .int m]
  | .cut r m => .tuple [.str "cut", .int r, .int m]
  | .row r a w => .tuple [.str "row", .int r, .int a, Py.d w]
instance : Py Stp := ⟨stpD, 4, fun s => by
    cases s with
    | rooms m => simp [stpD, PyData.depth, PyData.depthAll]
    | cut r m => simp [stpD, PyData.depth, PyData.depthAll]
    | row r a w =>
      have h : (Py.d w).depth ≤ 3 := Nat.le_trans (Py.depth w) (by decide)
      simp [stpD, PyData.depth, PyData.depthAll]
      omega, fun s => by
    have h1 : PyData.strOk "rooms" = true := by decide +kernel
    have h2 : PyData.strOk "cut" = true := by decide +kernel
    have h3 : PyData.strOk "row" = true := by decide +kernel
    cases s <;> simp [stpD, PyData.canLay0, PyData.canLayAll0, Py.can, h1, h2, h3], fun a b => by
    have hr : ("rooms" : Str) ≠ "cut" := by decide
    have hs : ("cut" : Str) ≠ "rooms" := by decide
    cases a <;> cases b <;> simp [stpD, PyData.eqv, PyData.eqvAll, Py.eqv, hr, hs]⟩
section
variable {K : PySem.W.Frag} {H : Hp} {v : V} {p b : Addr} {r m a : Int} {w : Row}
theorem Ik.stp_rooms (h : H p = some (.tup [.str "rooms", .int m])) : Ik H (.ref p) (Stp.rooms m) := .tup h (.cons (.str _) (.cons (.int _) .nil))
theorem Ik.stp_cut (h : H p = some (.tup [.str "cut", .int r, .int m])) : Ik H (.ref p) (Stp.cut r m) := .tup h (.cons (.str _) (.cons (.int _) (.cons (.int _) .nil)))
theorem Ik.stp_row (h : H p = some (.tup [.str "row", .int r, .int a, v])) (i : Ik H v w) : Ik H (.ref p) (Stp.row r a w) := .tup h (.cons (.str _) (.cons (.int _) (.cons (.int _) (.cons i .nil))))
theorem Ik.rooms_of (h : Ik H v (Stp.rooms m)) : ∃ p, v = .ref p ∧ H p = some (.tup [.str "rooms", .int m]) := by
  have h' : Dt H v (.tuple [.str "rooms", .int m]) := h
  cases h' with
  | tup s a =>
    cases a with
    | cons h1 r => cases r with
      | cons h2 r => cases r; cases h1; cases h2; exact ⟨_, rfl, s⟩
theorem Ik.cut_of (h : Ik H v (Stp.cut r m)) : ∃ p, v = .ref p ∧ H p = some (.tup [.str "cut", .int r, .int m]) := by
  have h' : Dt H v (.tuple [.str "cut", .int r, .int m]) := h
  cases h' with
  | tup s a =>
    cases a with
    | cons h1 r => cases r with
      | cons h2 r => cases r with
        | cons h3 r => cases r; cases h1; cases h2; cases h3; exact ⟨_, rfl, s⟩
theorem Ik.row_of (h : Ik H v (Stp.row r a w)) : ∃ p b, v = .ref p ∧ H p = some (.tup [.str "row", .int r, .int a, .ref b]) ∧ Ik H (.ref b) w := by
  have h' : Dt H v (.tuple [.str "row", .int r, .int a, Py.d w]) := h
  cases h' with
  | tup s a =>
    cases a with
    | cons h1 r => cases r with
      | cons h2 r => cases r with
        | cons h3 r => cases r with
          | cons h4 r =>
            cases r; cases h1; cases h2; cases h3
            obtain ⟨b, rfl, i⟩ := Ik.ref_of (α := Ent) (xs := w) h4
            exact ⟨_, b, rfl, s, i⟩
end
/-! what a step does -/
/-- so many things at least -/
noncomputable def padTo {α : Type} (n : Nat) (d : α) (l : List α) : List α := l ++ List.replicate (n - l.length) d
noncomputable def withRow (rss : List (List Row)) (room at_ : Int) (row : Row) : List (List Row) :=
  let p := padTo (room.toNat + 1) [] rss
  p.set room.toNat ((padTo (at_.toNat + 1) [] (p.getD room.toNat [])).set at_.toNat row)
/-- the last rooms without rows go -/
noncomputable def trimR (rss : List (List Row)) : List (List Row) := (rss.reverse.dropWhile fun rs => decide (rs = [])).reverse
noncomputable def doneY (y : Yard) : Stp → Yard
  | .rooms m => ⟨y.a, m, trimR y.c⟩
  | .cut r m => ⟨y.a, y.b, trimR (if r < y.c.length then y.c.set r.toNat ((y.c.getD r.toNat []).take m.toNat) else y.c)⟩
  | .row r a w => ⟨y.a, y.b, trimR (withRow y.c r a w)⟩
end TR
namespace TR
open PySem L2
section
variable {K : PySem.W.Frag} {M F : List Addr} {Z H Z1 H1 Z' H' : Hp} {D q a : Addr} {qs : List Addr} {α : Type} [Py α] {rss : List (List (List α))} {Q : VK}
theorem mm_1 {N : List Addr} {H : Hp} {y : Addr} (h : y ∈ N ∨ H y = none) : ∀ x ∈ [y], x ∈ N ∨ H x = none := mm_cons h mm_nil
end
end TR
namespace TR
open PySem L2
noncomputable abbrev YLen (y : Yard) : Prop := y.c.length ≤ 10000 ∧ ∀ rs ∈ y.c, rs.length ≤ 10000
noncomputable def StpOk : Stp → Prop
  | .rooms _ => True
  | .cut r m => 0 ≤ r ∧ 0 ≤ m
  | .row r a _ => 0 ≤ r ∧ r ≤ 1000 ∧ 0 ≤ a ∧ a ≤ 9000
end TR
namespace TR
open PySem L2
noncomputable def StpB : Stp → Prop
  | .rooms _ => True
  | .cut r m => 0 ≤ r ∧ 0 ≤ m
  | .row r a w => 0 ≤ r ∧ r < 131 ∧ 0 ≤ a ∧ a < 131 ∧ w.length ≤ 8
end TR

namespace TR
/-- the rows that a room of so many keys takes -/
noncomputable def rowsI (m w : Int) : Int := max 1 ((m + w - 1) / w)
noncomputable def spillI (l : List Int) (w : Int) : Int := (l.map fun m => rowsI m w - 1).sum
end TR
namespace TR
end TR
namespace TR
/-- the rows of keys: sorted, cut -/
noncomputable def cutR (l : List Int) (w : Int) (k : Nat) : List Int := cutI (sortI l) (some ((k : Int) * w)) (some ((k : Int) * w + w))
noncomputable def rowsOf (l : List Int) (w : Int) : List (List Int) := (List.range (rowsI l.length w).toNat).map (cutR l w)
end TR
namespace TR
end TR
namespace TR
noncomputable def lastGe (r : List Int) (key : Int) : Bool := match r.getLast? with | some v => decide (key ≤ v) | none => false
/-- what a look through rows finds: there, looks -/
noncomputable def lookedI : List (List Int) → Int → Nat → Bool × Int
  | [], _, n => (false, (n : Int))
  | r :: rs, key, n => if lastGe r key = true then (decide (key ∈ r), (n : Int) + 1) else lookedI rs key (n + 1)
end TR
namespace TR
/-- how many are less -/
noncomputable def less (l : List Int) (key : Int) : Nat := (l.filter fun x => decide (x < key)).length
end TR

/-! powers of two, levels, rooms -/
namespace TR
theorem two_pos (k : Nat) : (1 : Int) ≤ 2 ^ k := by
  have h : (1 : Nat) ≤ 2 ^ k := Nat.one_le_two_pow
  have e : ((2 ^ k : Nat) : Int) = (2 : Int) ^ k := by rw [Int.natCast_pow]; rfl
  omega
theorem two_mono {a b : Nat} (h : a ≤ b) : (2 : Int) ^ a ≤ 2 ^ b := by
  have h1 : (2 : Nat) ^ a ≤ 2 ^ b := Nat.pow_le_pow_right (by decide) h
  have e1 : ((2 ^ a : Nat) : Int) = (2 : Int) ^ a := by rw [Int.natCast_pow]; rfl
  have e2 : ((2 ^ b : Nat) : Int) = (2 : Int) ^ b := by rw [Int.natCast_pow]; rfl
  omega
noncomputable def lev (r : Int) : Nat := Nat.log2 r.toNat
noncomputable def whole (r : Int) : Int := 2 ^ lev r
noncomputable def roomOf (key rooms : Int) : Int := if key % whole rooms < rooms - whole rooms then key % (2 * whole rooms) else key % whole rooms
end TR
/-! bits, and keys turned about -/
namespace TR
noncomputable def bit (x : Int) (k : Nat) : Int := x / 2 ^ k % 2
noncomputable def rev : Nat → Int → Int
  | 0, _ => 0
  | n + 1, x => rev n x * 2 + bit x n
/-- the first bit in which two differ -/
noncomputable def Dif (x y : Int) (d : Nat) : Prop := (∀ k, k < d → bit x k = bit y k) ∧ bit x d ≠ bit y d
noncomputable def partedAt (x y : Int) (d : Nat) : Int := 1 + max (x % 2 ^ (d + 1)) (y % 2 ^ (d + 1))
end TR
namespace TR
end TR
namespace TR
end TR

namespace TR
noncomputable def thingOf (r : Row) (key : Int) : Option Tx := ((r.filter fun e => decide (e.1 = key)).map Prod.snd)[0]?
noncomputable def foundR : List Row → Int → Nat → Option Tx × Int
  | [], _, m => (none, (m : Int))
  | r :: rs, key, m => if lastGe (r.map Prod.fst) key = true then (thingOf r key, ((m + 1 : Nat) : Int)) else foundR rs key (m + 1)
noncomputable def foundI (y : Yard) (key : Int) : Option Tx × Int := match y.c[(roomOf key y.b).toNat]? with
  | none => (none, 0)
  | some rows => foundR rows key 0
end TR

/-! rows of rising entries, clean yards -/
namespace TR
open PySem L2
theorem drop_lt {α : Type} {l : List α} {w : Nat} (h : ¬ (w = 0 ∨ l.length ≤ w)) : (l.drop w).length < l.length := by
  rw [List.length_drop]
  omega
noncomputable def cutE (w : Nat) (l : Row) : List Row := if h : w = 0 ∨ l.length ≤ w then [l] else l.take w :: cutE w (l.drop w)
termination_by l.length
decreasing_by exact drop_lt h
/-- a look through rows that rise all the way -/
noncomputable abbrev Rises (l : Row) : Prop := (l.map Prod.fst).Pairwise (· < ·)
noncomputable def fnd (R : List Row) (k : Int) : Option Tx := (foundR R k 0).1
end TR

namespace TR
open PySem L2
/-! ### rooms that are rewritten -/
noncomputable def putR (c : List (List Row)) (R : Nat) (X : List Row) : List (List Row) := (padTo (R + 1) [] c).set R X
noncomputable def NE (c : List (List Row)) : Prop := ∀ rs ∈ c, rs ≠ []
/-! ### the rows that aren't what stands there -/
noncomputable def writF (R : Nat) (now : List Row) : Nat → List Row → List Stp
  | _, [] => []
  | i, r :: rs => if now[i]? = some r then writF R now (i + 1) rs else .row (R : Int) (i : Int) r :: writF R now (i + 1) rs
noncomputable def writ (R : Nat) (rows now : List Row) : List Stp := writF R now 0 rows
noncomputable def onw (R : Nat) (rows now : List Row) : List Stp := writ R rows now ++ (if rows.length < now.length then [.cut (R : Int) (rows.length : Int)] else [])
noncomputable def backw (R : Nat) (rows now : List Row) : List Stp := (writ R rows now).reverse
end TR

namespace TR
open PySem L2
/-- from the last on: behind any of these steps the first rows are as they were, then rows without entries, then the new ones -/
noncomputable def backS (rows now : List Row) (m : Nat) : List Row := now.take m ++ List.replicate (m - now.length) [] ++ rows.drop m
end TR

/-! yards amid a change -/
namespace TR
open PySem L2
noncomputable def partE (r : Int) (es : Row) (i : Nat) : Row := sortE (es.filter fun e => decide (roomOf e.1 r = (i : Int)))
noncomputable def cleanC (w : Nat) (r : Int) (es : Row) : List (List Row) := (List.range r.toNat).map fun i => cutE w (partE r es i)
noncomputable def cleanY (w r : Int) (es : Row) : Yard := ⟨w, r, cleanC w.toNat r es⟩
noncomputable def fY (y : Yard) (k : Int) : Option Tx := (foundI y k).1
/-- no key twice -/
noncomputable abbrev Keys1 (es : Row) : Prop := (es.map Prod.fst).Nodup
/-- a room that tells its keys rightly -/
noncomputable def RoomG (es : Row) (b : Int) (i : Nat) (X : List Row) : Prop := (∀ e ∈ es, roomOf e.1 b = (i : Int) → fnd X e.1 = some e.2) ∧ ∀ r ∈ X, ∀ x ∈ r, x ∈ es
/-- all keys are found with their things, no others are -/
noncomputable def GoodF (es : Row) (y : Yard) : Prop := (∀ e ∈ es, fY y e.1 = some e.2) ∧ ∀ k, k ∉ es.map Prod.fst → fY y k = none
/-! ### splitting -/
noncomputable def splitRoom (r : Int) : Nat := (r - whole r).toNat
noncomputable def splitS (y : Yard) : List Stp :=
  let R := splitRoom y.b
  let A := (y.c.getD R []).flatten
  onw y.b.toNat (cutE y.a.toNat (sortE (A.filter fun e => decide (roomOf e.1 (y.b + 1) = y.b)))) [] ++ [.rooms (y.b + 1)] ++ onw R (cutE y.a.toNat (sortE (A.filter fun e => decide (roomOf e.1 (y.b + 1) ≠ y.b)))) (y.c.getD R [])
end TR

namespace TR
open PySem L2
end TR
namespace TR
open PySem L2
/-! ### joining -/
noncomputable def joinS (y : Yard) : List Stp :=
  let last := (y.b - 1).toNat
  let into := splitRoom (y.b - 1)
  backw into (cutE y.a.toNat (sortE ((y.c.getD into []).flatten ++ (y.c.getD last []).flatten))) (y.c.getD into []) ++ [.rooms (y.b - 1), .cut (last : Int) 0]
end TR

/-! T: lists of own lists, reverse, extend, ranges with a step; found -/
namespace TR
open PySem L2
section
variable {K : PySem.W.Frag} {M qs : List Addr} {Z H Z' H' : Hp} {Q : VK} {D q a b : Addr} {v : V} {α : Type} {iα : Py α} {x : α} {l r : List α}
end
/-! a list of own lists -/
structure Y2 (Z H : Hp) (D : Addr) (qs : List Addr) {α : Type} [Py α] (rs : List (List α)) : Prop where
  own : H D = some (.lst (qs.map V.ref))
  nd : (D :: qs).Nodup
  z : ∀ q ∈ D :: qs, Z q = none
  zh : Ex Z H
  rows : Paired (fun q r => RowO Z H q r) qs rs
section
variable {K : PySem.W.Frag} {M qs : List Addr} {Z H Z' H' : Hp} {Q : VK} {D q : Addr} {v : V} {α : Type} {iα : Py α} {x : α} {rs : List (List α)}
theorem Y2.len (a : Y2 Z H D qs rs) : qs.length = rs.length := Paired.length a.rows
theorem Y2.at (a : Y2 Z H D qs rs) {i : Nat} (h : qs[i]? = some q) : ∃ r, rs[i]? = some r ∧ RowO Z H q r := RW.at' a.rows h
theorem Y2.al (a : Y2 Z H D qs rs) : ∀ b ∈ D :: qs, ∃ o, H b = some o := fun b hb => by
  rcases List.mem_cons.mp hb with e | hb
  · rw [e]; exact ⟨_, a.own⟩
  · obtain ⟨i, hi⟩ := List.mem_iff_getElem?.mp hb
    obtain ⟨r, _, vs, h, _⟩ := a.at hi
    exact ⟨_, h⟩
theorem Y2.tt (t : T M Z H Z' H') (n : ∀ q ∈ D :: qs, q ∉ M) (a : Y2 Z H D qs rs) : Y2 Z' H' D qs rs :=
  ⟨t.hp (n D List.mem_cons_self) a.own, a.nd, fun q hq => t.fr q (n q hq) (a.z q hq) (a.al q hq), t.zh, paired_mem a.rows fun q r hq g => g.tt t (n q (List.mem_cons_of_mem _ hq))⟩
theorem Y2.tt0 (t : T [] Z H Z' H') (a : Y2 Z H D qs rs) : Y2 Z' H' D qs rs := a.tt t fun _ _ => nm_nil
/-- a thing more in one of them -/
theorem Y2.push {i : Nat} {r : List α} (a : Y2 Z H D qs rs) (hi : qs[i]? = some q) (hr : rs[i]? = some r) (hv : Ik Z v x) (hz : r.length < 100000)
    (k : ∀ Z' H', T [q] Z H Z' H' → Y2 Z' H' D qs (rs.set i (r ++ [x])) → Q .non H') : rAppend (.ref q) [v] H Q := by
  obtain ⟨r', hr', vs, h1, h2⟩ := a.at hi
  rw [hr] at hr'
  cases hr'
  have hm := List.mem_of_getElem? hi
  obtain ⟨d1, d2⟩ := List.nodup_cons.mp a.nd
  have mq : Mu Z H q := ⟨a.z q (List.mem_cons_of_mem _ hm), _, h1⟩
  have t : T [q] Z H Z (upd H q (.lst (vs ++ [v]))) := T.set mq a.zh
  refine ⟨q, vs, v, rfl, rfl, h1, sz_lt (by rw [Paired.length h2]; exact hz), k Z _ t ⟨t.hp (nm_cons (fun z => d1 (by rw [z]; exact hm)) nm_nil) a.own, a.nd, a.z, t.zh, ?_⟩⟩
  exact RW.push' (m := fun b o n e => by rw [upd_ne n]; exact e) (F := fun b r => RowO Z H b r) (H := H) (H' := upd H q (.lst (vs ++ [v]))) (fun b r nb g => g.tt t (nm_cons nb nm_nil)) a.rows d2 hi ⟨_, upd_same, Paired.snoc h2 hv⟩
theorem Y2.frq (a : Y2 Z H D qs rs) : ∃ Z' H', H' = H ∧ T (D :: qs) Z H Z' H' ∧ Ls Z' D rs := by
  have t := T.fzs (F := D :: qs) a.zh a.z
  refine ⟨_, H, rfl, t, _, (on_in List.mem_cons_self).trans a.own, ?_⟩
  have h := a.rows
  have g : ∀ b ∈ qs, onH Z H (D :: qs) b = H b := fun b hb => on_in (List.mem_cons_of_mem _ hb)
  have e := t.z
  revert g e
  generalize onH Z H (D :: qs) = Z2
  intro g e
  clear t a
  induction h with
  | nil => exact .nil
  | cons y t ih =>
    obtain ⟨vs, f1, f2⟩ := y
    exact .cons (Ik.of_list ((g _ List.mem_cons_self).trans f1) (Paired.mapP f2 fun v x g => Ik.ex e g)) (ih fun b hb => g b (List.mem_cons_of_mem _ hb))
end
section
variable {K : PySem.W.Frag} {σ : L2.St} {H Z : Hp} {tt : TT} {te : TE} {Q : VK} {g : TG} {vs : List Nat}
/-- ranges with a step -/
noncomputable def LcR3 (g : TG) (tt : TT) (te : TE) (vs : List Nat) (σ : L2.St) (x : List V) (H1 : Hp) (Q : VK) : Prop := ∃ (i j c : Int) (n : Nat), x = [.int i, .int j, .int c] ∧ RgC i j c n ∧ LcJ g tt te vs σ (Itc i c n) H1 Q
end
/-! found -/
noncomputable def YardOk (y : Yard) : Prop := 1 ≤ y.b ∧ y.c.length ≤ 10000 ∧ ∀ rs ∈ y.c, rs.length ≤ 10000 ∧ ∀ r ∈ rs, r.length ≤ 10000
noncomputable def optS : Option Tx → V
  | none => .non
  | some x => .str x.1
noncomputable def spFound (K : PySem.W.Frag) : Sp := fun vs H Q _ => ∃ (v : V) (y : Yard) (key : Int), vs = [v, .int key] ∧ Is K H v y ∧ YardOk y ∧
  ∀ (p : Addr) (v' : V) (H' : Hp), H p = none → Ex H H' → H' p = some (.tup [v', .int (foundI y key).2]) → Is K H' v' (foundI y key).1 → Q (.ref p) H'
noncomputable def spLawFound (K : PySem.W.Frag) : Sp := fun vs H Q _ => ∃ (v : V) (y : Yard) (key : Int), vs = [v, .int key] ∧ Is K H v y ∧ 0 ≤ key ∧ (1 ≤ y.b ∧ ∀ rs ∈ y.c, rs.length ≤ 10000 ∧ ∀ r ∈ rs, r.length ≤ 10000) ∧
  ∀ (p : Addr) (v' : V) (H' : Hp), H p = none → Ex H H' → H' p = some (.tup [v', .int (foundI y key).2]) → Is K H' v' (foundI y key).1 → Q (.ref p) H'
/-- keys, drawn -/
noncomputable def spKeys (K : PySem.W.Frag) : Sp := fun vs H Q _ => ∃ (h : Addr) (many : Int) (n : Nat) (Z : Hp), vs = [.ref h, .int many] ∧ 0 ≤ many ∧ many ≤ 160 ∧ Hand K Z H h (n + 2000) ∧
  ∀ (p : Addr) (ks : List Int) (H' : Hp), H p = none → ExM h H H' → Hand K Z H' h n → H' p = some (.lst (ks.map V.int)) → ks.length = many.toNat → ks.Nodup → (∀ k ∈ ks, 0 ≤ k ∧ k < 1152921504606846976) → Q (.ref p) H'
end TR
namespace TR
open PySem L2
noncomputable def partsL (r : Int) (l : Row) : List Row := (List.range r.toNat).map fun (i : Nat) => l.filter fun e => decide (roomOf e.1 r = (i : Int))
end TR
namespace TR
open PySem L2
end TR
namespace TR
open PySem L2
section
variable {K : PySem.W.Frag} {σ : L2.St} {H : Hp} {tt : TT} {te : TE} {Q : VK} {g : TG} {vs : List Nat}
end
end TR

namespace TR
end TR

/-! the law's doing of a step by the last room with rows -/
namespace TR
open PySem L2
noncomputable def someR (rss : List (List Row)) : List Int := ((List.range rss.length).filter fun i => decide (rss.getD i [] ≠ [])).map fun (i : Nat) => (i : Int)
end TR
namespace TR
open PySem L2
/-! the steps of a split and of a join are small -/
noncomputable def StpR : Stp → Prop
  | .rooms m => 1 ≤ m
  | s => StpB s
end TR

/-! putting and dropping: behind any steps the other keys are found, the change's own one as ahead up to one of the steps, as behind it from then on -/
namespace TR
open PySem L2
noncomputable def outE (es : Row) (k : Int) : Row := es.filter fun e => decide (e.1 ≠ k)
noncomputable def putE (es : Row) (k : Int) (t : Tx) : Row := outE es k ++ [(k, t)]
noncomputable def loE (l : Row) (k : Int) : Row := l.filter fun e => decide (e.1 < k)
noncomputable def hiE (l : Row) (k : Int) : Row := l.filter fun e => decide (k < e.1)
noncomputable def putS (y : Yard) (k : Int) (t : Tx) : List Stp :=
  backw (roomOf k y.b).toNat (cutE y.a.toNat (sortE (outE (y.c.getD (roomOf k y.b).toNat []).flatten k ++ [(k, t)]))) (y.c.getD (roomOf k y.b).toNat [])
noncomputable def dropS (y : Yard) (k : Int) : List Stp :=
  onw (roomOf k y.b).toNat (cutE y.a.toNat (sortE (outE (y.c.getD (roomOf k y.b).toNat []).flatten k))) (y.c.getD (roomOf k y.b).toNat [])
end TR
namespace TR
open PySem L2
end TR

/-! dicts of numbers and texts: d.items(), sorted(d.items()) -/
namespace L2
open PySem PySem.W PySem.Spec PyProof.Rows SrtO SrtS TR
noncomputable def kvE (e : Ent) : Key × V := (Sum.inl e.1, .str e.2.1)
section
variable {X : Cx}
noncomputable def rItemsK : V → List V → Hp → VK → Prop := fun x xs H Q => ∃ (a : Addr) (kvs : List (Key × V)), x = .ref a ∧ xs = [] ∧ H a = some (.dK kvs) ∧ ∀ p, H p = none → Q (.ref p) (upd H p (DX.itemsO p a))
noncomputable def rSortIt : List V → Hp → VK → Prop := fun vs H Q => ∃ (p a : Addr) (l : List Ent), vs = [.ref p] ∧ H p = some (DX.itemsO p a) ∧ H a = some (.dK (l.map kvE)) ∧ Keys1 l ∧
  ∀ (H' : Hp) (q : Addr) (ws : List V), Ex H H' → H q = none → H' q = some (.lst ws) → Paired (fun v (e : Ent) => ∃ t, v = V.ref t ∧ H t = none ∧ H' t = some (.tup [.int e.1, .str e.2.1])) ws (sortE l) → Q (.ref q) H'
end
end L2

/-! sorted(d) of a dict of numbers, any number of them -/
namespace L2
open PySem PySem.W PySem.Spec PyProof.Rows SrtO TR
section
variable {X : Cx}
noncomputable def rSortN : List V → Hp → VK → Prop := fun vs H Q => ∃ (b : Addr) (l : TR.Row), vs = [.ref b] ∧ H b = some (.dK (l.map kvE)) ∧ ∀ p, H p = none → Q (.ref p) (upd H p (.lst ((TR.sortI (l.map Prod.fst)).map V.int)))
end
end L2
namespace TR
open PySem L2
variable {Z H : Hp} {d : Addr} {l : Row} {Q : VK}
end TR

/-! dicts of numbers and texts, in T -/
namespace TR
open PySem L2
/-- a dict that may be changed -/
structure Dm (Z H : Hp) (D : Addr) (l : Row) : Prop where
  h : H D = some (.dK (l.map kvE))
  zd : Z D = none
  zh : Ex Z H
noncomputable def setE (l : Row) (k : Int) (t : Tx) : Row := if k ∈ l.map Prod.fst then l.map (fun e => if e.1 = k then (e.1, t) else e) else l ++ [(k, t)]
/-! the rules -/
noncomputable def rSI (x : V) (H : Hp) (Q : VK) : Prop := ∃ (d : Addr) (l : Row), x = .ref d ∧ H d = some (.dK (l.map kvE)) ∧ Keys1 l ∧
  ∀ (H' : Hp) (q : Addr) (ws : List V), Ex H H' → H q = none → H' q = some (.lst ws) → Paired (fun v (e : Ent) => ∃ t, v = V.ref t ∧ H t = none ∧ H' t = some (.tup [.int e.1, .str e.2.1])) ws (sortE l) → Q (.ref q) H'
noncomputable def tSI (te : TE) : TE := fun σ H Q => te σ H fun x H1 => rSI x H1 Q
section
variable {K : PySem.W.Frag} {M : List Addr} {Z H Z' H' : Hp} {p a d D : Addr} {l : Row} {k : Int} {t : Tx} {Q : VK}
theorem Dm.at_ (a : Dm Z H D l) : ∃ o, H D = some o := ⟨_, a.h⟩
theorem Dm.tt (t : T M Z H Z' H') (nm : D ∉ M) (a : Dm Z H D l) : Dm Z' H' D l := ⟨t.m _ _ nm a.h, t.fr _ nm a.zd a.at_, t.zh⟩
noncomputable def rDict (K : PySem.W.Frag) : List V → Hp → VK → Prop := fun xs H Q => ∃ (a : Addr) (ps : List Addr) (kvs : List (L2.Key × V)), xs = [.ref a] ∧ SqL K H a (ps.map V.ref) ∧ Paired (fun p kv => SqT K H p [kV kv.1, kv.2]) ps kvs ∧ ∀ p, H p = none → Q (.ref p) (upd H p (.dK (mergeK [] kvs)))
noncomputable def rDictD : List V → Hp → VK → Prop := fun xs H Q => ∃ (a : Addr) (kvs : List (L2.Key × V)), xs = [.ref a] ∧ Rd H a (.dK kvs) ∧ ∀ p, H p = none → Q (.ref p) (upd H p (.dK kvs))
noncomputable def rSortD : List V → Hp → VK → Prop := fun xs H Q => ∃ (a : Addr) (kvs : List (L2.Key × V)) (ks : List Int), xs = [.ref a] ∧ Rd H a (.dK kvs) ∧ kvs.map (·.1) = ks.map Sum.inl ∧ ks.length < 64 ∧ ∀ (ys : List Int) (p : Addr), ys.Perm ks → ys.Pairwise (· ≤ ·) → H p = none → Q (.ref p) (upd H p (.lst (ys.map V.int)))
noncomputable def rLenDm : List V → Hp → VK → Prop := fun xs H Q => ∃ a kvs, xs = [V.ref a] ∧ H a = some (.dK kvs) ∧ Q (.int kvs.length) H
theorem Dm.new (n : H p = none) (z : Ex Z H) : T [] Z H Z (upd H p (.dK (l.map kvE))) ∧ Dm Z (upd H p (.dK (l.map kvE))) p l := by
  have t : T [] Z H Z (upd H p (.dK (l.map kvE))) := T.newM n z
  exact ⟨t, upd_same, Ex.back z n, t.zh⟩
theorem t_dnew (z : Ex Z H) (q : ∀ p Z' H', H p = none → T [] Z H Z' H' → Dm Z' H' p [] → Q (.ref p) H') {σ : L2.St} : tDNewK σ H Q := fun p hp => q p _ _ hp (Dm.new (l := []) hp z).1 (Dm.new (l := []) hp z).2
noncomputable def DGb (x y : V) (H : Hp) (Q : VK) : Prop := ∃ a o, x = .ref a ∧ DGet H a y o ∧ Q (o.getD .non) H
noncomputable def DGa (ty : TE) (σ : L2.St) (x : V) (H1 : Hp) (Q : VK) : Prop := ∃ a, x = .ref a ∧ IsD H1 a ∧ ty σ H1 fun y H2 => ∃ o, DGet H2 a y o ∧ Q (o.getD .non) H2
noncomputable def DIx (x y : V) (H : Hp) (Q : VK) : Prop := ∃ a v, x = .ref a ∧ DGet H a y (some v) ∧ Q v H
noncomputable def DInn (y x : V) (H : Hp) (Q : VK) : Prop := ∃ a o, x = .ref a ∧ DGet H a y o ∧ Q (.bl o.isSome) H
noncomputable def DNin (y x : V) (H : Hp) (Q : VK) : Prop := ∃ a o, x = .ref a ∧ DGet H a y o ∧ Q (.bl (!o.isSome)) H
noncomputable def DPa (ty : TE) (σ : L2.St) (x : V) (H1 : Hp) (Q : VK) : Prop := ∃ a, x = .ref a ∧ IsD H1 a ∧ ty σ H1 fun y H2 => ∃ kvs k v, H2 a = some (.dK kvs) ∧ y = kV k ∧ valV kvs k = some v ∧ Q v (upd H2 a (.dK (dropK kvs k)))
end
end TR
namespace TR
open PySem L2
end TR

/-! mended yards, and the steps that lead there -/
namespace TR
open PySem L2
/-! what a step does, room by room -/
/-- but for one room two yards are alike -/
noncomputable def Else (R : Nat) (y y' : Yard) : Prop := y'.a = y.a ∧ y'.b = y.b ∧ ∀ q, q ≠ R → y'.c.getD q [] = y.c.getD q []
/-! what stands -/
noncomputable def meetE (r : Int) (i : Nat) (acc : Row) (e : Ent) : Row := if roomOf e.1 r = (i : Int) ∧ e.1 ∉ acc.map Prod.fst then acc ++ [e] else acc
noncomputable def standF (r : Int) : Nat → List (List Row) → Row → Row
  | _, [], acc => acc
  | i, X :: c, acc => standF r (i + 1) c (X.flatten.foldl (meetE r i) acc)
noncomputable def standL (y : Yard) : Row := standF y.b 0 (y.c.take y.b.toNat) []
noncomputable def standY (y : Yard) : Row := sortE (standL y)
/-- all that is held -/
noncomputable def allE (c : List (List Row)) : Row := c.flatten.flatten
/-! the steps -/
noncomputable def cutsF (c : List (List Row)) (q : Nat) : List Stp := (((List.range (c.length - q)).map fun j => q + j).filter fun i => decide (c.getD i [] ≠ [])).reverse.map fun (i : Nat) => Stp.cut (i : Int) 0
noncomputable def mendR (d c : List (List Row)) (n : Nat) : List Stp := (List.range n).flatMap fun i => onw i (d.getD i []) (c.getD i [])
noncomputable def mendC (y : Yard) : List (List Row) := cleanC y.a.toNat y.b (standY y)
noncomputable def mendS (y : Yard) : List Stp := mendR (mendC y) y.c y.b.toNat ++ cutsF y.c y.b.toNat
end TR

/-! lists of lists that are told apart: every row is a row of its own -/
namespace TR
open PySem L2
section
variable {K : PySem.W.Frag} {σ : L2.St} {H Z Z0 : Hp} {te : TE} {Q : VK} {g : TG} {vs : List Nat} {α : Type} [Py α]
end
/-- new rows, all told apart; they stay (Z') until they are let go -/
noncomputable def NewRs (Z0 H Z' H' : Hp) (q : Addr) (ws : List Addr) {α : Type} [Py α] (rows : List (List α)) : Prop :=
  (q :: ws).Nodup ∧ (∀ b ∈ q :: ws, H b = none) ∧ (∀ b ∈ q :: ws, ∃ o, H' b = some o) ∧ Z' q = some (.lst (ws.map V.ref)) ∧ Paired (fun w r => RowF Z0 Z' w r) ws rows
/-- rooms of rows, all told apart -/
structure Y4 (Z H : Hp) (D : Addr) (qs : List Addr) (Fs : List (List Addr)) {α : Type} [Py α] (rss : List (List (List α))) : Prop where
  y : Y3 Z H D qs Fs.flatten rss
  nd : (D :: (qs ++ Fs.flatten)).Nodup
  at_ : Paired (fun f rs => H f.1 = some (.lst (f.2.map V.ref)) ∧ Paired (fun w r => RowO Z H w r) f.2 rs) (qs.zip Fs) rss
  ln : qs.length = Fs.length
section
variable {K : PySem.W.Frag} {σ : L2.St} {H Z Z0 : Hp} {te : TE} {Q : VK} {g : TG} {vs : List Nat} {α β : Type} [Py α] [Py β]
end
section
variable {K : PySem.W.Frag} {H Z : Hp} {D : Addr} {qs : List Addr} {Fs : List (List Addr)} {α : Type} [Py α] {r0 : List α} {rs0 : List (List α)} {rss : List (List (List α))}
end
section
variable {K : PySem.W.Frag} {M : List Addr} {H Z Z0 Z' H' : Hp} {a p D : Addr} {qs : List Addr} {Fs : List (List Addr)} {Q : VK}
end
/-! for over a range that goes down -/
section
variable {σ : L2.St} {H : Hp} {D : Ends} {g : TG} {ts : TS}
noncomputable def ForR3 (g : TG) (tb : TS) (D : Ends) (σ : L2.St) (vs : List V) (H1 : Hp) : Prop := ∃ (i j c : Int) (n : Nat), vs = [.int i, .int j, .int c] ∧ RgC i j c n ∧ ForJ g tb D σ (Itc i c n) H1
end
noncomputable abbrev YB (y : Yard) : Prop := 1 ≤ y.a ∧ y.a ≤ 1000 ∧ 1 ≤ y.b ∧ y.b ≤ 1000 ∧ y.c.length ≤ 10000 ∧ (∀ rs ∈ y.c, rs.length ≤ 10000) ∧ (allE y.c).length ≤ 39000
section
variable {K : PySem.W.Frag} {H Z : Hp} {Q : VK} {l D : Addr} {v : V} {α : Type} [Py α] {x : α}
end
/-! a clean yard stands as it is -/
end TR

/-! changes by their names -/
namespace TR
open PySem L2
noncomputable def tSplit : Tx := ⟨"split", by decide +kernel⟩
noncomputable def tJoin : Tx := ⟨"join", by decide +kernel⟩
noncomputable def tPut : Tx := ⟨"put", by decide +kernel⟩
noncomputable def tDrop : Tx := ⟨"drop", by decide +kernel⟩
noncomputable def tRoom : Tx := ⟨"room", by decide +kernel⟩
noncomputable def tLack : Tx := ⟨"lacking", by decide +kernel⟩
noncomputable def tTold : Tx := ⟨"told", by decide +kernel⟩
noncomputable def tNone : Tx := ⟨"", by decide +kernel⟩
noncomputable def okC (r : Int) (es : Row) (way : Str) (k : Int) : Prop := ¬ (way = "join" ∧ r = 1) ∧ ¬ (way = "drop" ∧ k ∉ es.map Prod.fst)
noncomputable def WayS (way : Str) : Prop := way = "split" ∨ way = "join" ∨ way = "drop" ∨ way = "put"
noncomputable def chS (y : Yard) (way : Str) (k : Int) (t : Tx) : List Stp := if way = "split" then splitS y else if way = "join" then joinS y else if way = "drop" then dropS y k else putS y k t
noncomputable def rN (r : Int) (way : Str) : Int := if way = "split" then r + 1 else if way = "join" then r - 1 else r
noncomputable def esN (es : Row) (way : Str) (k : Int) (t : Tx) : Row := if way = "drop" then outE es k else if way = "put" then putE es k t else es
section
variable {r k : Int} {es : Row}
end
/-! a display of two pairs -/
noncomputable def Disp2 (p : Addr) (x1 y1 x2 y2 : V) (H : Hp) (Q : VK) : Prop := H p = some (.dK []) ∧ ∃ kvs : List (L2.Key × V), [(x1, y1), (x2, y2)] = kvs.map (fun kv => (kV kv.1, kv.2)) ∧ kvs.length ≤ 15 ∧ Q (.ref p) (upd H p (.dK (mergeK [] kvs)))
end TR

/-! len(set(xs)): how many unlike ones; whether a yard is clean -/
namespace TR
open PySem L2 PySem.Spec PyProof.Rows
noncomputable def unlike (ns : List Int) : Nat := (PyProof.Rows.firstMet (fun i => ns.getD i 0) ns.length).length
noncomputable def tLenSetA (K : PySem.W.Frag) (ta : TE) : TE := fun σ H Q => ta σ H fun x H1 => ∃ (l : Addr) (ns : List Int), x = .ref l ∧ SqL K H1 l (ns.map V.int) ∧ ns.length ≤ 4000 ∧ Q (.int (unlike ns : Nat)) H1
/-- the clean yard of what it holds -/
noncomputable def CleanP (y : Yard) : Prop := Keys1 (allE y.c) ∧ y = cleanY y.a y.b (allE y.c)
end TR

/-! a comprehension over a dict's keys -/
namespace TR
open PySem L2
section
variable {K : PySem.W.Frag} {σ : L2.St} {Z H : Hp} {tt : TT} {te td : TE} {Q : VK} {g : TG} {vs : List Nat} {d : Addr} {l : Row}
noncomputable def keepAt (l : Row) (p : Ent → Bool) (i : Nat) : Bool := ((l[i]?).map p).getD false
end
end TR

/-! how many rooms so many keys ask -/
namespace TR
noncomputable def roomsFor (c f : Int) : Int := max 1 (-((-c) / f))
end TR

namespace TR
/-- keys told apart by their rooms, each room's in their order -/
noncomputable def spl (l : List Int) (n : Int) : List (List Int) := (List.range n.toNat).map fun (r : Nat) => l.filter fun x => decide (roomOf x n = (r : Int))
end TR

/-! tables: what an instance of Table is, in T -/
namespace TR
open PySem L2
/-- a value's kind -/
inductive KindV (K : PySem.W.Frag) (H : Hp) : V → String → Prop
  | int (i : Int) : KindV K H (.int i) "int"
  | bl (b : Bool) : KindV K H (.bl b) "bool"
  | str (x : Str) (h : x.length ≤ 100000) : KindV K H (.str x) "str"
  | non : KindV K H .non "NoneType"
  | lst {a : Addr} {xs : List V} (h : SqL K H a xs) : KindV K H (.ref a) "list"
  | tup {a : Addr} {xs : List V} (h : SqT K H a xs) : KindV K H (.ref a) "tuple"
  | dct {a : Addr} {l : List (L2.Key × V)} (h : H a = some (.dK l)) : KindV K H (.ref a) "dict"
theorem s_isiDk {K : PySem.W.Frag} {H : Hp} {Q : VK} {n : String} {a : Addr} {l : List (L2.Key × V)} {b : Bool} (hs : H a = some (.dK l)) (h : kitB "dict" n = some b) (q : Q (.bl b) H) : rIsi K [.ref a, .ty n] H Q := ⟨.ref a, .ty n, _, _, b, rfl, .ty n, .base (.dK hs), kit_ty h, q⟩
theorem k_di : kitB "dict" "int" = some false := by decide +kernel
theorem k_ds : kitB "dict" "str" = some false := by decide +kernel
noncomputable def rListDm : List V → Hp → VK → Prop := fun xs H Q => ∃ p kvs, xs = [.ref p] ∧ H p = some (.dK kvs) ∧ ∀ q, H q = none → Q (.ref q) (upd H q (.lst (kvs.map fun kv => kV kv.1)))
noncomputable def wholeV : V → Bool
  | .int _ => true
  | _ => false
noncomputable def keyV : V → Bool
  | .int i => decide (0 ≤ i ∧ i < 1152921504606846976)
  | _ => false
noncomputable def sizeV : V → Bool
  | .int i => decide (1 ≤ i ∧ i ≤ 8)
  | _ => false
noncomputable def nameV : V → Bool
  | .str x => nameB x
  | _ => false
section
variable {K : PySem.W.Frag} {Z H Z' H' : Hp} {M : List Addr} {v : V} {n : String}
theorem KindV.ex (h : KindV K H v n) (e : Ex H H') : KindV K H' v n := by
  cases h with
  | int i => exact .int i
  | bl b => exact .bl b
  | str x h => exact .str x h
  | non => exact .non
  | lst h => exact .lst (e.sq h)
  | tup h => exact .tup (e.st h)
  | dct h => exact .dct (e _ _ h)
theorem KindV.cases' {motive : Prop} (h : KindV K H v n) (int : ∀ i, v = .int i → motive) (other : wholeV v = false → motive) : motive := by
  cases h with
  | int i => exact int i rfl
  | bl b => exact other rfl
  | str x h => exact other rfl
  | non => exact other rfl
  | lst h => exact other rfl
  | tup h => exact other rfl
  | dct h => exact other rfl
end
theorem keyV_no {v : V} (h : wholeV v = false) : keyV v = false := by
  cases v <;> first | rfl | cases h
theorem sizeV_no {v : V} (h : wholeV v = false) : sizeV v = false := by
  cases v <;> first | rfl | cases h
/-- the attributes of a table -/
noncomputable def tfs (w f : V) (D : Addr) : List (Str × V) := [("wide", w), ("fill", f), ("things", .ref D)]
structure Tb (K : PySem.W.Frag) (Z H : Hp) (a D : Addr) (w f : Int) (l : Row) : Prop where
  at_ : ∃ dx, Z a = some (.ins (clsA K "Table") dx (tfs (.int w) (.int f) D))
  dm : Dm Z H D l
  k1 : Keys1 l
  w0 : 1 ≤ w ∧ w ≤ 8
  f0 : 1 ≤ f ∧ f ≤ 8
  le : l.length ≤ 64
  ks : ∀ e ∈ l, 0 ≤ e.1 ∧ e.1 < 1152921504606846976
/-- how many rooms a table has | a room's keys -/
noncomputable def roomsT (f : Int) (l : Row) : Int := roomsFor (l.length : Int) f
noncomputable def keysT_ (f : Int) (l : Row) (r : Int) : List Int := sortI ((l.filter fun e => decide (roomOf e.1 (roomsT f l) = r)).map Prod.fst)
section
variable {K : PySem.W.Frag} {Z H Z' H' : Hp} {M : List Addr} {a D p : Addr} {w f : Int} {l : Row} {Q : VK} {E : XK}
/-! promises -/
noncomputable def spTCount (K : PySem.W.Frag) : Sp := fun vs H Q _ => ∃ (a D : Addr) (w f : Int) (l : Row) (Z : Hp), vs = [.ref a] ∧ Tb K Z H a D w f l ∧ Q (.int (l.length : Int)) H
noncomputable def spTRooms (K : PySem.W.Frag) : Sp := fun vs H Q _ => ∃ (a D : Addr) (w f : Int) (l : Row) (Z : Hp), vs = [.ref a] ∧ Tb K Z H a D w f l ∧ Q (.int (roomsT f l)) H
noncomputable def spTKeysIn (K : PySem.W.Frag) : Sp := fun vs H Q _ => ∃ (a D : Addr) (w f r : Int) (l : Row) (Z : Hp), vs = [.ref a, .int r] ∧ Tb K Z H a D w f l ∧ ∀ p Z' H', H p = none → T [D] Z H Z' H' → Tb K Z' H' a D w f l → Lm Z' H' p (keysT_ f l r) → Q (.ref p) H'
noncomputable def spTEntries (K : PySem.W.Frag) : Sp := fun vs H Q _ => ∃ (a D : Addr) (w f : Int) (l : Row) (Z : Hp), vs = [.ref a] ∧ Tb K Z H a D w f l ∧ ∀ p Z' H', H p = none → T [] Z H Z' H' → Lm Z' H' p (sortE l) → Q (.ref p) H'
noncomputable def spTCounts (K : PySem.W.Frag) : Sp := fun vs H Q _ => ∃ (a D : Addr) (w f : Int) (l : Row) (Z : Hp), vs = [.ref a] ∧ Tb K Z H a D w f l ∧ ∀ p Z' H', H p = none → T [] Z H Z' H' → Ls Z' p ((spl (sortI (l.map Prod.fst)) (roomsT f l)).map fun r => (r.length : Int)) → Q (.ref p) H'
noncomputable def spTSpill (K : PySem.W.Frag) : Sp := fun vs H Q _ => ∃ (a D : Addr) (w f : Int) (l : Row) (Z : Hp), vs = [.ref a] ∧ Tb K Z H a D w f l ∧ ∀ Z' H', T [] Z H Z' H' → Q (.int (spillI ((spl (sortI (l.map Prod.fst)) (roomsT f l)).map fun r => (r.length : Int)) w)) H'
/-- the most rows of a room, the first such room -/
noncomputable def longI (ns : List Int) (w m : Int) (j : Nat) : Prop := m = maxI (ns.map fun m => rowsI m w) ∧ (ns.map fun m => rowsI m w)[j]? = some m ∧ ∀ i, i < j → (ns.map fun m => rowsI m w)[i]? ≠ some m
noncomputable def spTLongest (K : PySem.W.Frag) : Sp := fun vs H Q _ => ∃ (a D : Addr) (w f : Int) (l : Row) (Z : Hp), vs = [.ref a] ∧ Tb K Z H a D w f l ∧ ∀ p m j Z' H', H p = none → T [] Z H Z' H' → longI ((spl (sortI (l.map Prod.fst)) (roomsT f l)).map fun r => (r.length : Int)) w m j → Z' p = some (.tup [.int m, .int (j : Nat)]) → Q (.ref p) H'
/-- what a put tells -/
noncomputable def PutTold (Z H Z' H' : Hp) (f : Int) (l l' : Row) (r : V) : Prop :=
  if roomsT f l' = roomsT f l then r = .non else ∃ p c, r = .ref p ∧ H p = none ∧ H c = none ∧ Z' p = some (.tup [.int (roomsT f l - whole (roomsT f l)), .int (roomsT f l), .ref c]) ∧ Lm Z' H' c (keysT_ f l' (roomsT f l))
noncomputable def spTPut (K : PySem.W.Frag) : Sp := fun vs H Q E => ∃ (a D : Addr) (w f : Int) (l : Row) (Z : Hp) (v t : V) (n m : String), vs = [.ref a, v, t] ∧ Tb K Z H a D w f l ∧ KindV K H v n ∧ KindV K H t m ∧
  (keyV v = false → ∀ d, H d = none → E (.ref (clsA K "NoKey")) (some d) (upd H d (.xd [("key", v)]))) ∧
  (keyV v = true → nameV t = false → ∀ d, H d = none → E (.ref (clsA K "NoThing")) (some d) (upd H d (.xd [("thing", t)]))) ∧
  ∀ k x, v = .int k → t = .str x.1 → keyV v = true → nameV t = true →
    (k ∉ l.map Prod.fst → l.length = 64 → ∀ d, H d = none → E (.ref (clsA K "Full")) (some d) (upd H d (.xd [("many", .int 64)]))) ∧
    ((k ∈ l.map Prod.fst ∨ l.length < 64) → ∀ r Z' H', T [D] Z H Z' H' → Tb K Z' H' a D w f (setE l k x) → PutTold Z H Z' H' f l (setE l k x) r → Q r H')
end
end TR
namespace TR
open PySem L2
section
variable {K : PySem.W.Frag} {Z H Z' H' : Hp} {M : List Addr} {a d p : Addr} {l : Row} {Q : VK}
end
end TR
namespace TR
open PySem L2
end TR

namespace TR
open PySem L2
/-- a room's rows of entries -/
noncomputable def entOf (l : Row) (k : Int) : Ent := (k, (thingOf l k).getD ⟨"", by decide +kernel⟩)
noncomputable def rowsE (w f : Int) (l : Row) (r : Int) : List Row := (rowsOf (keysT_ f l r) w).map fun ks => ks.map (entOf l)
noncomputable def spTRoom (K : PySem.W.Frag) : Sp := fun vs H Q E => ∃ (a D : Addr) (w f : Int) (l : Row) (Z : Hp) (v : V) (n : String), vs = [.ref a, v] ∧ Tb K Z H a D w f l ∧ KindV K H v n ∧
  ((∀ r, v = .int r → ¬ (0 ≤ r ∧ r < roomsT f l)) → ∀ d, H d = none → E (.ref (clsA K "NoRoom")) (some d) (upd H d (.xd [("number", v)]))) ∧
  ∀ r, v = .int r → 0 ≤ r ∧ r < roomsT f l → ∀ (p : Addr) (ws : List Addr) Z' H', T [D] Z H Z' H' → Tb K Z' H' a D w f l → (p :: ws).Nodup → (∀ b ∈ p :: ws, H b = none) → Z' p = some (.lst (ws.map V.ref)) → Paired (fun x rw => Ls Z' x rw) ws (rowsE w f l r) → Q (.ref p) H'
noncomputable def spTTwin (K : PySem.W.Frag) : Sp := fun vs H Q _ => ∃ (a D : Addr) (w f : Int) (l : Row) (Z : Hp), vs = [.ref a] ∧ Tb K Z H a D w f l ∧ ∀ b D2 Z' H', H b = none → H D2 = none → T [] Z H Z' H' → Tb K Z' H' b D2 w f l → Q (.ref b) H'
noncomputable def spTInit (K : PySem.W.Frag) : Sp := fun vs H Q E => ∃ (a dx : Addr) (v u : V) (n m : String), vs = [.ref a, v, u] ∧ H a = some (.ins (clsA K "Table") dx []) ∧ KindV K H v n ∧ KindV K H u m ∧
  (sizeV v = true → sizeV u = true → ∀ D H', H D = none → (∀ b o, b ≠ a → H b = some o → H' b = some o) → H' a = some (.ins (clsA K "Table") dx (tfs v u D)) → H' D = some (.dK []) → Q .non H') ∧
  (sizeV v = false → ∀ H' d, Ex H H' → H' d = none → E (.ref (clsA K "NoSize")) (some d) (upd H' d (.xd [("thing", v)]))) ∧
  (sizeV v = true → sizeV u = false → ∀ H' d, Ex H H' → H' d = none → E (.ref (clsA K "NoSize")) (some d) (upd H' d (.xd [("thing", u)])))
end TR
namespace TR
open PySem L2
end TR

/-! keepers: a yard, and the steps that are left -/
namespace TR
open PySem L2
noncomputable def kfs (w f : Int) (u : V) (P : Addr) : List (Str × V) := [("wide", .int w), ("fill", .int f), ("now", u), ("waiting", .ref P)]
structure Kp (K : PySem.W.Frag) (Z H : Hp) (a P : Addr) (w f : Int) (y : Yard) (ss : List Stp) : Prop where
  ob : ∃ dx u, H a = some (.ins (clsA K "Keeper") dx (kfs w f u P)) ∧ Ik Z u y
  wl : Lm Z H P ss
  za : Z a = none
  na : a ≠ P
  w0 : 1 ≤ w ∧ w ≤ 8
  f0 : 1 ≤ f ∧ f ≤ 8
  ya : y.a = w
section
variable {K : PySem.W.Frag} {Z H Z' H' : Hp} {M : List Addr} {a P : Addr} {w f : Int} {y : Yard} {ss : List Stp}
end
/-- how many rooms there have to be -/
noncomputable def wantK (f : Int) (y : Yard) : Int := roomsFor ((standY y).length : Int) f
noncomputable def SettledP (f : Int) (y : Yard) (ss : List Stp) : Prop := ss = [] ∧ CleanP y ∧ y.b = wantK f y
/-- rooms more or fewer, one by one -/
noncomputable def growN (w want : Int) (es : Row) : Nat → Int → List Stp
  | 0, _ => []
  | n + 1, r => if want < r then joinS (cleanY w r es) ++ growN w want es n (r - 1) else splitS (cleanY w r es) ++ growN w want es n (r + 1)
noncomputable def growS (w f : Int) (es : Row) (r : Int) : List Stp := growN w (roomsFor (es.length : Int) f) es (r - roomsFor (es.length : Int) f).natAbs r
noncomputable def spKInit (K : PySem.W.Frag) : Sp := fun vs H Q E => ∃ (a dx : Addr) (v u : V) (n m : String) (Z : Hp), vs = [.ref a, v, u] ∧ H a = some (.ins (clsA K "Keeper") dx []) ∧ Ex Z H ∧ Z a = none ∧ KindV K H v n ∧ KindV K H u m ∧
  (∀ w f, v = .int w → u = .int f → 1 ≤ w ∧ w ≤ 8 → 1 ≤ f ∧ f ≤ 8 → ∀ P Z' H', T [a] Z H Z' H' → H P = none → Kp K Z' H' a P w f (cleanY w 1 []) [] → Q .non H') ∧
  (sizeV v = false → ∀ H' d, Ex H H' → H' d = none → E (.ref (clsA K "NoSize")) (some d) (upd H' d (.xd [("thing", v)]))) ∧
  (sizeV v = true → sizeV u = false → ∀ H' d, Ex H H' → H' d = none → E (.ref (clsA K "NoSize")) (some d) (upd H' d (.xd [("thing", u)])))
noncomputable def spKWanted (K : PySem.W.Frag) : Sp := fun vs H Q _ => ∃ (a P : Addr) (w f : Int) (y0 : Yard) (ss : List Stp) (Z : Hp) (v : V) (y : Yard), vs = [.ref a, v] ∧ Kp K Z H a P w f y0 ss ∧ Ik Z v y ∧ YB y ∧
  ∀ Z' H', T [] Z H Z' H' → Q (.int (wantK f y)) H'
noncomputable def spKSettled (K : PySem.W.Frag) : Sp := fun vs H Q _ => ∃ (a P : Addr) (w f : Int) (y : Yard) (ss : List Stp) (Z : Hp), vs = [.ref a] ∧ Kp K Z H a P w f y ss ∧ YB y ∧ (allE y.c).length ≤ 4000 ∧
  ∀ (b : Bool) Z' H', (b = true ↔ SettledP f y ss) → T [] Z H Z' H' → Q (.bl b) H'
noncomputable def spKNeed (K : PySem.W.Frag) : Sp := fun vs H Q E => ∃ (a P : Addr) (w f : Int) (y : Yard) (ss : List Stp) (Z : Hp), vs = [.ref a] ∧ Kp K Z H a P w f y ss ∧ YB y ∧ (allE y.c).length ≤ 4000 ∧
  (SettledP f y ss → ∀ Z' H', T [] Z H Z' H' → Q .non H') ∧ (¬ SettledP f y ss → ∀ Z' H', T [] Z H Z' H' → E (.ref (clsA K "Busy")) none H')
noncomputable def spKBegin (K : PySem.W.Frag) : Sp := fun vs H Q _ => ∃ (a P : Addr) (w f : Int) (y : Yard) (ss : List Stp) (Z : Hp) (sv : V) (st : List Stp) (r : Int) (es : Row), vs = [.ref a, sv] ∧ Kp K Z H a P w f y ss ∧ Ik Z sv st ∧ YLen y ∧ (∀ s ∈ st, StpOk s) ∧ st.length ≤ 40000 ∧
  st.foldl doneY y = cleanY w r es ∧ Keys1 es ∧ es.length ≤ 100 ∧ 1 ≤ r ∧ r ≤ 130 ∧
  ∀ P' Z' H', T [a] Z H Z' H' → H P' = none → Kp K Z' H' a P' w f y (st ++ growS w f es r) → Q (.int ((st ++ growS w f es r).length : Int)) H'
end TR
namespace TR
open PySem L2
noncomputable def spKEntries (K : PySem.W.Frag) : Sp := fun vs H Q _ => ∃ (a P : Addr) (w f : Int) (y : Yard) (ss : List Stp) (Z : Hp), vs = [.ref a] ∧ Kp K Z H a P w f y ss ∧ YB y ∧
  ∀ D Z' H', T [] Z H Z' H' → Ls Z' D (standY y) → Q (.ref D) H'
noncomputable def spKYard (K : PySem.W.Frag) : Sp := fun vs H Q _ => ∃ (a P : Addr) (w f : Int) (y : Yard) (ss : List Stp) (Z : Hp), vs = [.ref a] ∧ Kp K Z H a P w f y ss ∧ YLen y ∧
  ∀ (p D : Addr) (qs F : List Addr) Z' H', T [] Z H Z' H' → Z' p = some (.tup [.int y.a, .int y.b, .ref D]) → Y3 Z' H' D qs F y.c → (∀ b ∈ D :: (qs ++ F), H b = none) → Q (.ref p) H'
/-- stop | run -/
noncomputable def spKStop (K : PySem.W.Frag) : Sp := fun vs H Q _ => ∃ (a P : Addr) (w f : Int) (y : Yard) (ss : List Stp) (Z : Hp), vs = [.ref a] ∧ Kp K Z H a P w f y ss ∧
  ∀ P' Z' H', T [a] Z H Z' H' → H P' = none → Kp K Z' H' a P' w f y [] → Q (.int (ss.length : Int)) H'
noncomputable def spKRun (K : PySem.W.Frag) : Sp := fun vs H Q _ => ∃ (a P : Addr) (w f : Int) (y : Yard) (ss : List Stp) (Z : Hp), vs = [.ref a] ∧ Kp K Z H a P w f y ss ∧ YLen y ∧ (∀ s ∈ ss, StpOk s) ∧
  ∀ P' Z' H', T [a, P] Z H Z' H' → H P' = none → Kp K Z' H' a P' w f (ss.foldl doneY y) [] → Q (.int (ss.length : Int)) H'
/-- a told step: its row is the asker's own -/
noncomputable def ToldS (Z H : Hp) (v : V) : Stp → Prop
  | .row r b w => ∃ p q, v = .ref p ∧ Z p = some (.tup [.str "row", .int r, .int b, .ref q]) ∧ Lm Z H q w
  | s => Ik Z v s
/-- the rows that the asker may change -/
noncomputable def toldA : V → Hp → List Addr
  | .ref p, Z => match Z p with | some (.tup [.str _, .int _, .int _, .ref q]) => [q] | _ => []
  | _, _ => []
noncomputable def spToldStep (K : PySem.W.Frag) : Sp := fun vs H Q _ => ∃ (v : V) (Z Z0 : Hp) (s : Stp), vs = [v] ∧ Ex Z H ∧ Ex Z0 Z ∧ Ik Z0 v s ∧
  (∀ r b w, s = .row r b w → ∀ p q Z' H', T [] Z H Z' H' → H q = none → Z' p = some (.tup [.str "row", .int r, .int b, .ref q]) → Mu Z' H' q → RowF Z0 H' q w → Q (.ref p) H') ∧
  ((∀ r b w, s ≠ .row r b w) → Q v H)
end TR
namespace TR
open PySem L2
noncomputable def ToldV (H Z' H' : Hp) (v : V) : Stp → Prop
  | .row r b w => ∃ p q, v = .ref p ∧ Z' p = some (.tup [.str "row", .int r, .int b, .ref q]) ∧ Lm Z' H' q w ∧ H q = none
  | s => Ik Z' v s
noncomputable def spKStep (K : PySem.W.Frag) : Sp := fun vs H Q _ => ∃ (a P : Addr) (w f : Int) (y : Yard) (ss : List Stp) (Z : Hp), vs = [.ref a] ∧ Kp K Z H a P w f y ss ∧ YLen y ∧ (∀ s ∈ ss, StpOk s) ∧ ss.length ≤ 90000 ∧
  (ss = [] → ∀ Z' H', T [] Z H Z' H' → Q .non H') ∧
  (∀ s ss', ss = s :: ss' → ∀ v Z' H', T [a, P] Z H Z' H' → Kp K Z' H' a P w f (doneY y s) ss' → ToldV H Z' H' v s → Q v H')
noncomputable def spKMend (K : PySem.W.Frag) : Sp := fun vs H Q E => ∃ (a P : Addr) (w f : Int) (y : Yard) (ss : List Stp) (Z : Hp), vs = [.ref a] ∧ Kp K Z H a P w f y ss ∧ YB y ∧ (allE y.c).length ≤ 9000 ∧ trimR y.c = y.c ∧ (standY y).length ≤ 100 ∧ y.b ≤ 130 ∧ y.a ≤ 8 ∧
  (ss ≠ [] → ∀ Z' H', T [] Z H Z' H' → E (.ref (clsA K "Busy")) none H') ∧
  (ss = [] → ∀ P' Z' H', T [a] Z H Z' H' → H P' = none → Kp K Z' H' a P' w f y (mendS y ++ growS w f (standY y) y.b) → Q (.int ((mendS y ++ growS w f (standY y) y.b).length : Int)) H')
noncomputable def dropKS (f : Int) (y : Yard) (k : Int) : List Stp := dropS y k ++ growS y.a f (outE (standY y) k) y.b
noncomputable def putKS (f : Int) (y : Yard) (k : Int) (t : Tx) : List Stp := putS y k t ++ growS y.a f (putE (standY y) k t) y.b
noncomputable def spKDrop (K : PySem.W.Frag) : Sp := fun vs H Q E => ∃ (a P : Addr) (w f : Int) (y : Yard) (ss : List Stp) (Z : Hp) (v : V) (n : String), vs = [.ref a, v] ∧ Kp K Z H a P w f y ss ∧ YB y ∧ (allE y.c).length ≤ 4000 ∧ (standY y).length ≤ 64 ∧ y.b ≤ 130 ∧ KindV K H v n ∧
  (keyV v = false → ∀ d, H d = none → E (.ref (clsA K "NoKey")) (some d) (upd H d (.xd [("key", v)]))) ∧
  ∀ k, v = .int k → keyV v = true →
    (¬ SettledP f y ss → ∀ Z' H', T [] Z H Z' H' → E (.ref (clsA K "Busy")) none H') ∧
    (SettledP f y ss → k ∉ (standY y).map Prod.fst → ∀ d Z' H', T [] Z H Z' H' → H' d = none → E (.ref (clsA K "Lacking")) (some d) (upd H' d (.xd [("key", .int k)]))) ∧
    (SettledP f y ss → k ∈ (standY y).map Prod.fst → ∀ P' Z' H', T [a] Z H Z' H' → H P' = none → Kp K Z' H' a P' w f y (dropKS f y k) → Q (.int ((dropKS f y k).length : Int)) H')
noncomputable def spKPut (K : PySem.W.Frag) : Sp := fun vs H Q E => ∃ (a P : Addr) (w f : Int) (y : Yard) (ss : List Stp) (Z : Hp) (v t : V) (n m : String), vs = [.ref a, v, t] ∧ Kp K Z H a P w f y ss ∧ YB y ∧ (allE y.c).length ≤ 4000 ∧ (standY y).length ≤ 64 ∧ y.b ≤ 130 ∧ KindV K H v n ∧ KindV K H t m ∧
  (keyV v = false → ∀ d, H d = none → E (.ref (clsA K "NoKey")) (some d) (upd H d (.xd [("key", v)]))) ∧
  (keyV v = true → nameV t = false → ∀ d, H d = none → E (.ref (clsA K "NoThing")) (some d) (upd H d (.xd [("thing", t)]))) ∧
  ∀ k x, v = .int k → t = .str x.1 → keyV v = true → nameV t = true →
    (¬ SettledP f y ss → ∀ Z' H', T [] Z H Z' H' → E (.ref (clsA K "Busy")) none H') ∧
    (SettledP f y ss → k ∉ (standY y).map Prod.fst → (standY y).length = 64 → ∀ d Z' H', T [] Z H Z' H' → H' d = none → E (.ref (clsA K "Full")) (some d) (upd H' d (.xd [("many", .int 64)]))) ∧
    (SettledP f y ss → (k ∈ (standY y).map Prod.fst ∨ (standY y).length < 64) → ∀ P' Z' H', T [a] Z H Z' H' → H P' = none → Kp K Z' H' a P' w f y (putKS f y k x) → Q (.int ((putKS f y k x).length : Int)) H')
end TR
namespace TR
open PySem L2
section
variable {K : PySem.W.Frag} {Z H Z' H' : Hp} {a P P' : Addr} {w f : Int} {y y' : Yard} {ss ss' : List Stp} {v : V} {R : Hp → Prop}
end
end TR
namespace TR
open PySem L2
end TR
namespace TR
open PySem L2
end TR
namespace TR
open PySem L2
end TR
namespace TR
open PySem L2
noncomputable def spKFind (K : PySem.W.Frag) : Sp := fun vs H Q E => ∃ (a P : Addr) (w f : Int) (y : Yard) (ss : List Stp) (Z : Hp) (v : V) (n : String), vs = [.ref a, v] ∧ Kp K Z H a P w f y ss ∧ YardOk y ∧ KindV K H v n ∧
  (keyV v = false → ∀ d, H d = none → E (.ref (clsA K "NoKey")) (some d) (upd H d (.xd [("key", v)]))) ∧
  ∀ k, v = .int k → keyV v = true →
    (fY y k = none → ∀ d Z' H', T [] Z H Z' H' → H' d = none → E (.ref (clsA K "Lacking")) (some d) (upd H' d (.xd [("key", .int k)]))) ∧
    (∀ x, fY y k = some x → ∀ p Z' H', T [] Z H Z' H' → H p = none → Z' p = some (.tup [.str x.1, .int (foundI y k).2]) → Q (.ref p) H')
end TR

/-! what is due of a settled keeper -/
namespace TR
open PySem L2
end TR
namespace TR
open PySem L2
/-- all the stops of a keeper's steps are small yards -/
structure FitK (y : Yard) (ss : List Stp) : Prop where
  yb : ∀ m, YB ((ss.take m).foldl doneY y) ∧ (allE ((ss.take m).foldl doneY y).c).length ≤ 4000
  ok : ∀ s ∈ ss, StpOk s
  ln : ss.length ≤ 39000
end TR
namespace TR
open PySem L2
end TR

/-! a bound for all that a keeper can reach: rooms and places below N, rows of at most 8, keys out of ks -/
namespace TR
open PySem L2
noncomputable def StpN (N : Nat) (ks : List Int) : Stp → Prop
  | .rooms m => 1 ≤ m ∧ m ≤ N
  | .cut r m => 0 ≤ r ∧ r < N ∧ 0 ≤ m
  | .row r b w => 0 ≤ r ∧ r < N ∧ 0 ≤ b ∧ b < N ∧ w.length ≤ 8 ∧ ∀ e ∈ w, e.1 ∈ ks
end TR
namespace TR
open PySem L2
/-- all rows are so -/
noncomputable def AllR (P : Row → Prop) (c : List (List Row)) : Prop := ∀ rs ∈ c, ∀ r ∈ rs, P r
end TR
namespace TR
open PySem L2
/-- a yard within the bound -/
structure YN (N : Nat) (w : Int) (ks : List Int) (y : Yard) : Prop where
  a : y.a = w
  b : 1 ≤ y.b ∧ y.b ≤ N
  hb : HB N N 8 y.c
  ky : AllR (fun r => ∀ e ∈ r, e.1 ∈ ks) y.c
  tr : trimR y.c = y.c
end TR
namespace TR
open PySem L2
end TR
namespace TR
open PySem L2
/-! the steps of the changes are within the bound -/
section
variable {N R : Nat} {ks : List Int} {rows now : List Row} {w r k : Int} {es : Row} {t : Tx}
noncomputable def RowsN (N : Nat) (ks : List Int) (rows : List Row) : Prop := rows.length ≤ N ∧ ∀ x ∈ rows, x.length ≤ 8 ∧ ∀ e ∈ x, e.1 ∈ ks
/-- entries within the bound -/
structure EsN (N : Nat) (ks : List Int) (es : Row) : Prop where
  k1 : Keys1 es
  ky : ∀ e ∈ es, e.1 ∈ ks
  ln : es.length + 2 ≤ N
end
end TR
namespace TR
open PySem L2
section
variable {N R : Nat} {ks : List Int} {w r k f : Int} {es : Row} {t : Tx} {y : Yard} {ss : List Stp}
/-- what a keeper can reach: within the bound, and settled in the end -/
structure KI (N : Nat) (w f : Int) (ks : List Int) (y : Yard) (ss : List Stp) : Prop where
  yn : YN N w ks y
  ok : ∀ s ∈ ss, StpN N ks s
  ln : ss.length ≤ N * (3 * N + 4)
  en : SettledP f (ss.foldl doneY y) []
end
end TR

/-! stops, room by room: what stands there is found, and the rows ahead of it are passed -/
namespace TR
open PySem L2
noncomputable def PassR (w : Nat) (L : Row) (X : List Row) : Prop := ∀ (p : Nat) (e : Ent), L[p]? = some e → ∀ row ∈ X.take (p / w), lastGe (row.map Prod.fst) e.1 = false
noncomputable def RoomI (w : Nat) (es : Row) (b : Int) (i : Nat) (X : List Row) : Prop := RoomG es b i X ∧ X ≠ [] ∧ PassR w (partE b es i) X
noncomputable def GoodI (w : Nat) (es : Row) (y : Yard) : Prop := 1 ≤ y.b ∧ ∀ i, i < y.b.toNat → ∃ X, y.c[i]? = some X ∧ RoomI w es y.b i X
end TR
namespace TR
open PySem L2
end TR

/-! laws over tables -/
namespace TR
open PySem L2
noncomputable def cutG {α : Type} (w : Nat) (l : List α) : List (List α) := if h : w = 0 ∨ l.length ≤ w then [l] else l.take w :: cutG w (l.drop w)
termination_by l.length
decreasing_by exact drop_lt h
structure T6 (α β γ δ ε ζ : Type) where
  a : α
  b : β
  c : γ
  d : δ
  e : ε
  f : ζ
  deriving DecidableEq
instance {α β γ δ ε ζ : Type} [Py α] [Py β] [Py γ] [Py δ] [Py ε] [Py ζ] : Py (T6 α β γ δ ε ζ) := ⟨fun p => .tuple [Py.d p.a, Py.d p.b, Py.d p.c, Py.d p.d, Py.d p.e, Py.d p.f], max (Py.dep α) (max (Py.dep β) (max (Py.dep γ) (max (Py.dep δ) (max (Py.dep ε) (Py.dep ζ))))) + 1, fun p => by
    simp only [PyData.depth, PyData.depthAll]
    have h1 := Py.depth p.a
    have h2 := Py.depth p.b
    have h3 := Py.depth p.c
    have h4 := Py.depth p.d
    have h5 := Py.depth p.e
    have h6 := Py.depth p.f
    omega, fun p => by simp only [PyData.canLay0, PyData.canLayAll0, Py.can]; rfl, fun a b => by
    obtain ⟨a1, a2, a3, a4, a5, a6⟩ := a
    obtain ⟨b1, b2, b3, b4, b5, b6⟩ := b
    simp only [PyData.eqv, PyData.eqvAll, Bool.and_true, Bool.and_eq_true, Py.eqv, T6.mk.injEq]⟩
end TR
namespace TR
open PySem L2
section
variable {K : PySem.W.Frag} {σ : L2.St} {Z H : Hp} {te : TE} {Q : VK} {E : XK} {g : TG} {vs : List Nat} {a D : Addr} {w f : Int} {l : Row}
end
end TR
namespace TR
open PySem L2
end TR
namespace TR
open PySem L2
section
variable {K : PySem.W.Frag} {Z H Z' H' : Hp} {Q : VK} {E : XK} {a D : Addr} {w f : Int} {l : Row}
end
end TR
namespace TR
open PySem L2
end TR
namespace TR
open PySem L2
end TR
namespace TR
open PySem L2
end TR

/-! tables: what a drop tells -/
namespace TR
open PySem L2
noncomputable def spTNeed (K : PySem.W.Frag) : Sp := fun vs H Q E => ∃ (a D : Addr) (w f : Int) (l : Row) (Z : Hp) (v : V) (n : String), vs = [.ref a, v] ∧ Tb K Z H a D w f l ∧ KindV K H v n ∧
  (keyV v = false → ∀ d, H d = none → E (.ref (clsA K "NoKey")) (some d) (upd H d (.xd [("key", v)]))) ∧
  ∀ k, v = .int k → keyV v = true →
    (k ∉ l.map Prod.fst → ∀ d, H d = none → E (.ref (clsA K "Lacking")) (some d) (upd H d (.xd [("key", v)]))) ∧
    (k ∈ l.map Prod.fst → Q .non H)
noncomputable def DropTold (Z H Z' H' : Hp) (f : Int) (l : Row) (k : Int) (r : V) : Prop :=
  if roomsT f (outE l k) = roomsT f l then r = .non else ∃ p c, r = .ref p ∧ H p = none ∧ H c = none ∧ Z' p = some (.tup [.int (roomsT f l - 1), .int (roomsT f l - 1 - whole (roomsT f l - 1)), .ref c]) ∧ Lm Z' H' c ((keysT_ f l (roomsT f l - 1)).filter fun x => decide (x ≠ k))
noncomputable def spTDrop (K : PySem.W.Frag) : Sp := fun vs H Q E => ∃ (a D : Addr) (w f : Int) (l : Row) (Z : Hp) (v : V) (n : String), vs = [.ref a, v] ∧ Tb K Z H a D w f l ∧ KindV K H v n ∧
  (keyV v = false → ∀ d, H d = none → E (.ref (clsA K "NoKey")) (some d) (upd H d (.xd [("key", v)]))) ∧
  ∀ k, v = .int k → keyV v = true →
    (k ∉ l.map Prod.fst → ∀ d, H d = none → E (.ref (clsA K "Lacking")) (some d) (upd H d (.xd [("key", v)]))) ∧
    (k ∈ l.map Prod.fst → ∀ r Z' H', T [D] Z H Z' H' → Tb K Z' H' a D w f (outE l k) → DropTold Z H Z' H' f l k r → Q r H')
end TR
namespace TR
open PySem L2
end TR

/-! all the stops of a keeper's steps: what stands there is found, and there are about as many rooms as there have to be -/
namespace TR
open PySem L2
/-- steps whose numbers of rooms are q alone -/
noncomputable def RoomsQ (q : Int) (ss : List Stp) : Prop := ∀ s ∈ ss, ∀ m, s = .rooms m → m = q
section
variable {w r k want f : Int} {es : Row} {t : Tx} {y : Yard} {ss : List Stp}
/-- what stands at a stop, and how many rooms there are -/
structure GoodK (w f : Int) (es : Row) (y : Yard) : Prop where
  ya : y.a = w
  g : GoodI w.toNat es y
  n : (y.b - roomsFor (es.length : Int) f).natAbs ≤ 1
/-- all the stops -/
noncomputable def KG (w f : Int) (y : Yard) (ss : List Stp) : Prop := ∀ m, ∃ es, Keys1 es ∧ GoodK w f es ((ss.take m).foldl doneY y)
end
end TR

/-! a text among texts -/
namespace TR
open PySem L2
end TR

/-! what is seen of keys -/
namespace TR
open PySem L2
noncomputable def tNoneT : Tx := ⟨"none", by decide +kernel⟩
/-- what asking for a key tells: the thing and the looks, or none and the key -/
noncomputable def askD (y : Yard) (k : Int) : Tx × Int := match fY y k with | some x => (x, (foundI y k).2) | none => (tNoneT, k)
noncomputable def seenE (es : Row) (ks : List Int) : Row := ks.filterMap fun k => (thingOf es k).map fun t => (k, t)
end TR

/-! the changes of a clean yard by the words of a law, their stops, and what mends them -/
namespace TR
open PySem L2
noncomputable def chgW (way : Str) (y : Yard) (k : Int) (t : Tx) : List Stp := if way = "split" then splitS y else if way = "join" then joinS y else if way = "drop" then dropS y k else putS y k t
section
variable {N : Nat} {w r k : Int} {es : Row} {t : Tx} {way : Str} {ks : List Int} {y : Yard}
end
section
variable {N : Nat} {w : Int} {ks : List Int} {y : Yard}
/-- a yard that can be mended: what stands in it, and its bounds -/
structure MY (w : Int) (ks : List Int) (es : Row) (y : Yard) : Prop where
  k1 : Keys1 es
  g : GoodI w.toNat es y
  yn : YN 27 w ks y
end
noncomputable def isRowB : Stp → Bool
  | .row _ _ _ => true
  | _ => false
end TR

/-! told steps: a list of them, each row the asker's own -/
namespace TR
open PySem L2
/-- a told step as it stands (its row with it): fp the row -/
noncomputable def ToldF (Z0 Z : Hp) (fp : List Addr) (v : V) : Stp → Prop
  | .row r b w => ∃ p q, fp = [q] ∧ v = .ref p ∧ Z p = some (.tup [.str "row", .int r, .int b, .ref q]) ∧ RowF Z0 Z q w
  | s => fp = [] ∧ Ik Z0 v s
/-- a list of told steps: D the list, vs what it holds, L the rows -/
structure Told (Z H : Hp) (D : Addr) (vs : List V) (L : List (List Addr)) (ss : List Stp) : Prop where
  own : H D = some (.lst vs)
  nd : (D :: L.flatten).Nodup
  z : ∀ q ∈ D :: L.flatten, Z q = none
  zh : Ex Z H
  ln : L.length = ss.length
  it : ∀ (i : Nat) v (s : Stp) fp, vs[i]? = some v → ss[i]? = some s → L[i]? = some fp → match s with
    | .row r b w => ∃ p q, fp = [q] ∧ v = .ref p ∧ Z p = some (.tup [.str "row", .int r, .int b, .ref q]) ∧ RowO Z H q w
    | s => fp = [] ∧ Ik Z v s
  lv : vs.length = ss.length
section
variable {K : PySem.W.Frag} {σ : L2.St} {H Z : Hp} {te : TE} {Q : VK} {g : TG} {vs : List Nat}
end
noncomputable def spKLeft (K : PySem.W.Frag) : Sp := fun vs H Q _ => ∃ (a P : Addr) (w f : Int) (y : Yard) (ss : List Stp) (Z : Hp), vs = [.ref a] ∧ Kp K Z H a P w f y ss ∧ ss.length ≤ 40000 ∧
  ∀ (D : Addr) (ys : List V) (L : List (List Addr)) Z' H', T [] Z H Z' H' → Told Z' H' D ys L ss → (∀ b ∈ D :: L.flatten, H b = none) → Q (.ref D) H'
end TR

/-! told steps that stay as they are; a told step as data -/
namespace TR
open PySem L2
section
variable {K : PySem.W.Frag} {Z H Z' H' : Hp} {M : List Addr} {D : Addr} {vs : List V} {L : List (List Addr)} {ss : List Stp}
end
noncomputable def StpW : Stp → Prop
  | .row _ _ w => w.length ≤ 1000
  | _ => True
noncomputable def tZz : Tx := ⟨"zz", by decide +kernel⟩
/-- the first word of a step -/
noncomputable def stpN : Stp → Str
  | .rooms _ => "rooms"
  | .cut _ _ => "cut"
  | .row _ _ _ => "row"
end TR

/-! lists within lists, to any depth, that the asker may change -/
namespace TR
open PySem L2
noncomputable def notL : PyData → Bool
  | .list _ => false
  | _ => true
/-- v stands in H as x; its lists are M, and may be changed; what is no list stays -/
noncomputable def Ow : Nat → Hp → Hp → V → PyData → List Addr → Prop
  | 0, _, _, _, _, _ => False
  | d + 1, Z, H, v, x, M => (notL x = true ∧ Dt Z v x ∧ M = []) ∨
      ∃ (p : Addr) (us : List V) (L : List (PyData × List Addr)), v = .ref p ∧ H p = some (.lst us) ∧ Z p = none ∧ x = .list (L.map Prod.fst) ∧ M = p :: (L.map Prod.snd).flatten ∧ L.length ≤ 40000 ∧ Paired (fun u q => Ow d Z H u q.1 q.2) us L
theorem rg_take {β : Type} (xs : List β) : ∀ k, (List.range k).filterMap (fun i => xs[i]?) = xs.take k
  | 0 => rfl
  | k + 1 => by
    rw [List.range_succ, List.filterMap_append, rg_take xs k, List.take_add_one]
    congr 1
    all_goals (cases h : xs[k]? <;> simp [List.filterMap, h])
theorem pair_at {β γ : Type} {F : β → γ → Prop} : ∀ {xs : List β} {ys : List γ}, Paired F xs ys → ∀ {i : Nat} {x : β}, xs[i]? = some x → ∃ y, ys[i]? = some y ∧ F x y
  | _, _, .nil, i, x, h => by simp at h
  | _, _, .cons a t, 0, x, h => by cases h; exact ⟨_, rfl, a⟩
  | _, _, .cons a t, i + 1, x, h => pair_at t h
section
variable {K : PySem.W.Frag} {M N : List Addr} {Z H Z' H' : Hp} {v : V} {x : PyData} {d : Nat}
end
section
variable {K : PySem.W.Frag} {σ : L2.St} {H Z : Hp} {te : TE} {Q : VK} {g : TG} {vs : List Nat} {d : Nat} {p : Addr} {us : List V} {L : List (PyData × List Addr)}
end
section
variable {K : PySem.W.Frag} {σ : L2.St} {H Z : Hp} {D : Ends} {g : TG} {ts : TS} {d : Nat} {p : Addr} {us : List V} {L : List (PyData × List Addr)}
end
end TR

namespace TR
/-- the keys of a key's room, and how many looks it costs -/
noncomputable def rowK (ks : List Int) (n k : Int) : List Int := (sortI ks).filter fun x => decide (roomOf x n = roomOf k n)
noncomputable def lookI (ks : List Int) (n w k : Int) : Int := 1 + (less (rowK ks n k) k : Int) / w
noncomputable def looksP (ks : List Int) (n w : Int) : List (Int × Int) := (sortI ks).map fun k => (k, lookI ks n w k)
/-- the keys of a room among the first ones -/
noncomputable def cntS (ks : List Int) (n : Int) (j : Nat) (r : Int) : Int := ((((sortI ks).take j).filter fun x => decide (roomOf x n = r)).length : Int)
/-- the looks of a room's keys, and their sum -/
noncomputable def lookRow (m : Nat) (w : Int) : List Int := (List.range m).map fun (i : Nat) => 1 + (i : Int) / w
end TR
namespace TR
open PySem L2
/-- a dict from rooms to lists of looks -/
noncomputable def DL (H : Hp) (d : Addr) (w : Int) (f : Int → Nat) (n : Nat) : Prop := ∃ kvs : List (L2.Key × V), H d = some (.dK kvs) ∧ kvs.length ≤ n ∧
  (∀ e ∈ kvs, ∃ (m : Nat) (a : Addr), m ≤ 1000 ∧ e.2 = .ref a ∧ a ≠ d ∧ H a = some (.lst ((lookRow m w).map V.int))) ∧
  ∀ r : Int, (valV kvs (Sum.inl r) = none ∧ f r = 0) ∨ ∃ a, valV kvs (Sum.inl r) = some (.ref a) ∧ a ≠ d ∧ H a = some (.lst ((lookRow (f r) w).map V.int))
section
variable {H : Hp} {Q : VK} {d : Addr} {w : Int} {f : Int → Nat} {n : Nat}
end
end TR

/-! what six questions answer, as own lists -/
namespace TR
open PySem L2
section
variable {K : PySem.W.Frag} {Z H H' : Hp} {p : Addr} {qs : List Addr} {v : V} {us : List V} {d : Nat}
end
/-- the first place of m -/
noncomputable def posI : List Int → Int → Nat
  | [], _ => 0
  | x :: l, m => if x = m then 0 else posI l m + 1
noncomputable def rowLensI (ks : List Int) (n w : Int) : List Int := ((spl (sortI ks) n).map fun r => (r.length : Int)).map fun m => rowsI m w
noncomputable def ansI (way : Int) (ks : List Int) (n w : Int) : PyData :=
  if way = 0 then Py.d (spl (sortI ks) n) else
  if way = 1 then Py.d ((spl (sortI ks) n).map fun r => (r.length : Int)) else
  if way = 2 then Py.d (rowsOf ks w) else
  if way = 3 then Py.d (looksP ks n w) else
  if way = 4 then Py.d (maxI (rowLensI ks n w), ((posI (rowLensI ks n w) (maxI (rowLensI ks n w)) : Nat) : Int)) else
  Py.d ((cutI ks none (some 9)).map fun k => lookedI (rowsOf ks w) k 0)
/-- told twice it is alike -/
noncomputable def OkD (x : PyData) : Prop := SeqAt.shaped x = true ∧ PyData.eqv x x = true
section
variable {K : PySem.W.Frag} {H : Hp} {Q : VK}
end
end TR

/-! steps whose rows are the asker's own; what stays for a while only -/
namespace TR
open PySem L2
noncomputable def isRow : Stp → Bool
  | .row _ _ _ => true
  | _ => false
/-- vs stand as the steps ss; F: the rows, each its own -/
inductive SA (Z H : Hp) : List V → List Addr → List Stp → Prop
  | nil : SA Z H [] [] []
  | flat {v : V} {s : Stp} {vs : List V} {F : List Addr} {ss : List Stp} : isRow s = false → Ik Z v s → SA Z H vs F ss → SA Z H (v :: vs) F (s :: ss)
  | row {p q : Addr} {r a : Int} {w : Row} {vs : List V} {F : List Addr} {ss : List Stp} : Z p = some (.tup [.str "row", .int r, .int a, .ref q]) → RowO Z H q w → SA Z H vs F ss → SA Z H (.ref p :: vs) (q :: F) (.row r a w :: ss)
structure Sm (Z H : Hp) (D : Addr) (F : List Addr) (ss : List Stp) : Prop where
  ex : ∃ vs, H D = some (.lst vs) ∧ SA Z H vs F ss
  nd : (D :: F).Nodup
  z : ∀ q ∈ D :: F, Z q = none
  zh : Ex Z H
section
variable {K : PySem.W.Frag} {Z H Z' H' Z1 : Hp} {M F G : List Addr} {vs us : List V} {ss s2 : List Stp} {D D' q p : Addr} {v : V} {Q : VK}
end
/-! what stays for a while -/
structure Tmp (F : List Addr) (Z H Z1 : Hp) : Prop where
  z : ∀ q ∈ F, Z q = none
  l : ∀ q ∈ F, ∃ us, H q = some (.lst us)
  e : Ex Z Z1
  eh : Ex Z1 H
  i : ∀ q ∈ F, Z1 q = H q
  o : ∀ q, q ∉ F → Z1 q = Z q
/-- no list in it -/
noncomputable def noL : PyData → Bool
  | .list _ => false
  | .tuple xs => noLs xs
  | _ => true
where noLs : List PyData → Bool
  | [] => true
  | x :: xs => noL x && noLs xs
section
variable {K : PySem.W.Frag} {Z H Z' H' Z1 : Hp} {M F G : List Addr} {vs us : List V} {ss s2 : List Stp} {D D' q p : Addr} {v : V} {Q : VK}
end
end TR
namespace TR
open PySem L2
section
variable {K : PySem.W.Frag} {Z H Z' H' Z1 : Hp} {M F G : List Addr} {us : List V} {ss : List Stp} {D D' q p a : Addr} {v : V} {Q : VK} {α : Type} {iα : Py α} {l : List α}
end
section
variable {K : PySem.W.Frag} {σ : L2.St} {H Z : Hp} {te : TE} {tx : TT} {Q : VK} {g : TG} {vs : List Nat} {p D : Addr} {us : List V} {F : List Addr} {ss : List Stp}
end
section
variable {K : PySem.W.Frag} {σ : L2.St} {H Z : Hp} {D : Ends} {g : TG} {ts : TS} {p : Addr} {us : List V} {Ms : List (List Addr)}
end
end TR
namespace TR
open PySem L2
/-! data of any make, equal to itself -/
noncomputable def OkN (n : Nat) (x : PyData) : Prop := x.depth ≤ n ∧ x.canLay0 = true ∧ PyData.eqv x x = true
noncomputable def cleanB (y : Yard) : Bool := @decide (CleanP y) (Classical.propDecidable _)
noncomputable def optD : Option Tx → PyData
  | none => .none
  | some x => .str x.1
section
variable {K : PySem.W.Frag} {Z H Z' H' : Hp} {M F G : List Addr} {us : List V} {ss : List Stp} {D q p : Addr} {v : V} {Q : VK}
/-- a list of any things that will be changed | a thing more | two of them -/
theorem nwR {us : List V} (z : Ex Z H) (h : us.length ≤ 100000) (k : ∀ p Z' H', H p = none → T [] Z H Z' H' → H' p = some (.lst us) → Z' p = none → Q (.ref p) H') : NewL us H Q :=
  ⟨sz_of h, fun p hp => k p Z _ hp (T.newM hp z) upd_same (Ex.back z hp)⟩
theorem apR {us : List V} (z : Ex Z H) (h : H p = some (.lst us)) (zp : Z p = none) (hz : us.length < 100000) (k : ∀ Z' H', T [p] Z H Z' H' → H' p = some (.lst (us ++ [v])) → Z' p = none → Q .non H') : rAppend (.ref p) [v] H Q :=
  ⟨p, us, v, rfl, rfl, h, sz_lt (by omega), k Z _ (T.set ⟨zp, _, h⟩ z) upd_same zp⟩
end
end TR
namespace TR
open PySem L2
section
variable {w r k : Int} {es : Row} {way : Str} {t : Tx}
end
section
variable {w : Int} {ks : List Int} {y : Yard}
/-- what is told of a yard and its change -/
noncomputable def ansY (way : Str) (y : Yard) (k : Int) (t : Tx) : PyData :=
  let ss := chgW way y k t
  let y1 := (ss.take 1).foldl doneY y
  .list ([Py.d ss, Py.d (mendS y1)] ++ ([y1, ⟨y1.a, y1.b, mendC y1⟩, ss.foldl doneY y, doneY y (.rooms (1 + y.b % 5)), y] : List Yard).map Py.d ++ [.tuple [optD (fY y1 k), .int (foundI y1 k).2], .bool (cleanB y1)] ++ [.bool true])
end
end TR
namespace TR
open PySem L2
section
variable {K : PySem.W.Frag} {Z H Z' H' Zt : Hp} {A F : List Addr} {D p : Addr} {qs : List Addr} {rss : List (List Row)} {o : List V}
noncomputable def Dis (X Y : List Addr) : Prop := ∀ b ∈ Y, b ∉ X
/-- a yard that may be spoilt -/
noncomputable def SpP (u : V) (M : List Addr) (Z H : Hp) : Prop := ∃ (p D : Addr) (qs G : List Addr) (a b : Int), u = .ref p ∧ M = D :: (qs ++ G) ∧ Z p = some (.tup [.int a, .int b, .ref D]) ∧ Sh Z H D qs G 27 8 ∧ qs.length ≤ 60
end
end TR
namespace TR
open PySem L2
section
variable {K : PySem.W.Frag} {σ : L2.St} {H Z : Hp} {te : TE} {Q : VK} {g : TG} {vs : List Nat}
end
end TR
namespace TR
open PySem L2
end TR
namespace TR
open PySem L2
end TR

/-! data in lists and tuples: the asker's own lists within, or such that stay -/
namespace TR
open PySem L2
mutual
/-- v stands as x; M: its own lists. b: no other lists in it -/
inductive Ot (b : Bool) (Z H : Hp) : V → PyData → List Addr → Prop
  | fr {v : V} {x : PyData} : (b = true → noL x = true) → Dt Z v x → Ot b Z H v x []
  | lst {p : Addr} {us : List V} {xs : List PyData} {M : List Addr} : H p = some (.lst us) → Z p = none → OtAll b Z H us xs M → Ot b Z H (.ref p) (.list xs) (p :: M)
  | tup {p : Addr} {us : List V} {xs : List PyData} {M : List Addr} : Z p = some (.tup us) → OtAll b Z H us xs M → Ot b Z H (.ref p) (.tuple xs) M
inductive OtAll (b : Bool) (Z H : Hp) : List V → List PyData → List Addr → Prop
  | nil : OtAll b Z H [] [] []
  | cons {v : V} {x : PyData} {vs : List V} {xs : List PyData} {M N : List Addr} : Ot b Z H v x M → OtAll b Z H vs xs N → OtAll b Z H (v :: vs) (x :: xs) (M ++ N)
end
section
variable {K : PySem.W.Frag} {b : Bool} {M N F : List Addr} {Z H Z' H' Z1 : Hp} {v : V} {x : PyData} {us : List V} {xs : List PyData}
end
end TR

/-! comprehensions and loops over lists and tuples of any data -/
namespace TR
open PySem L2 RZ PySem.Spec PyProof.Rows
/-- what is walked is one of two kinds -/
noncomputable def iOr (w1 w2 : TI) : TI := fun σ H R => w1 σ H R ∨ w2 σ H R
/-- tuple(..) of a list that is made -/
noncomputable def rTupL (K : PySem.W.Frag) : List V → Hp → VK → Prop := fun xs H Q => ∃ p ys, xs = [.ref p] ∧ ((SqL K H p ys ∧ ∀ l, H l = none → Q (.ref l) (upd H l (.tup ys))) ∨ (SqT K H p ys ∧ Q (.ref p) H))
section
variable {K : PySem.W.Frag} {σ : L2.St} {H Z : Hp} {te : TE} {tx : TT} {Q : VK} {g : TG} {ts : TS} {D : Ends} {vs : List Nat} {w1 w2 : TI}
noncomputable def LcZA (K : PySem.W.Frag) (g : TG) (tt : TT) (te : TE) (vs : List Nat) (σ : L2.St) (x : List V) (H1 : Hp) (Q : VK) : Prop := ∃ a b xs ys, x = [.ref a, .ref b] ∧ ((SqL K H1 a xs ∧ SqL K H1 b ys ∧ LcJ g tt te vs σ (Itz K a b) H1 Q) ∨ (SqT K H1 a xs ∧ SqT K H1 b ys ∧ LcJ g tt te vs σ (ItzT K a b) H1 Q))
variable {b b' : Bool} {M N : List Addr} {us ws : List V} {xs : List PyData} {p q : Addr}
end
end TR
namespace TR
open PySem L2
/-- every list and tuple in it has at most a thousand things -/
noncomputable def wid : PyData → Bool
  | .list xs => decide (xs.length ≤ 1000) && wids xs
  | .tuple xs => decide (xs.length ≤ 1000) && wids xs
  | _ => true
where wids : List PyData → Bool
  | [] => true
  | x :: xs => wid x && wids xs
end TR
namespace TR
open PySem L2
end TR

/-! rows that an asker of a table may change: the list and its rows are new -/
namespace TR
open PySem L2
end TR

/-! entries, rows, steps and yards as texts -/
namespace TR
open PySem L2 TL
noncomputable def numS (i : Int) : Str := Str.ofString (toString i)
noncomputable def entS (e : Ent) : Str := numS e.1 ++ "=" ++ e.2.1
noncomputable def rowS (r : Row) : Str := if r = [] then "-" else Txt.join "," (r.map entS)
noncomputable def rowsS (rs : List Row) : Str := if rs = [] then "none" else Txt.join ";" (rs.map rowS)
noncomputable def stepS : Stp → Str
  | .row r a w => Txt.join " " ["row", numS r, numS a, rowS w]
  | .cut r a => Txt.join " " ["cut", numS r, numS a]
  | .rooms m => Txt.join " " ["rooms", numS m]
noncomputable def yardS (y : Yard) : Str := Txt.join " " ([numS y.a, numS y.b] ++ y.c.map rowsS)
theorem tl_ext {x y : Str} (h : tl x = tl y) : x = y := by rw [← mk_tl x, ← mk_tl y, h]
theorem tl_numS {i : Int} (h : 0 ≤ i) : tl (numS i) = numL i.toNat := by
  obtain ⟨n, rfl⟩ : ∃ n : Nat, i = (n : Int) := ⟨i.toNat, by omega⟩
  exact tl_num n
theorem tl_entS {e : Ent} (h : 0 ≤ e.1) : tl (entS e) = numL e.1.toNat ++ 61 :: tl e.2.1 := by
  unfold entS
  rw [tl_append, tl_append, tl_numS h, List.append_assoc]
  rfl
theorem tl_joinS (s : Str) (xs : List Str) : tl (Txt.join s xs) = joinL (tl s) (xs.map tl) := by rw [join_eq, tl_join]
theorem joinL_le {S : List Nat} {b : Nat} : ∀ {ps : List (List Nat)}, (∀ p ∈ ps, p.length ≤ b) → (joinL S ps).length ≤ ps.length * (b + S.length)
  | [], _ => Nat.zero_le _
  | [p], h => by
    have := h p List.mem_cons_self
    show p.length ≤ 1 * _
    omega
  | p :: q :: r, h => by
    have h1 := h p List.mem_cons_self
    have h2 := joinL_le (S := S) (ps := q :: r) fun x hx => h x (List.mem_cons_of_mem _ hx)
    show (p ++ (S ++ joinL S (q :: r))).length ≤ _
    rw [List.length_append, List.length_append, List.length_cons (as := q :: r), Nat.succ_mul]
    omega
/-- an entry that can be written -/
noncomputable def EntW (e : Ent) : Prop := 0 ≤ e.1 ∧ e.1 < 1152921504606846976 ∧ nameB e.2.1 = true
theorem nameB_low {x : Str} (h : nameB x = true) : 1 ≤ x.length ∧ x.length ≤ 8 ∧ ∀ c ∈ tl x, 97 ≤ c ∧ c ≤ 122 := by
  unfold nameB at h
  rw [Bool.and_eq_true] at h
  obtain ⟨h1, h2⟩ := h
  have h1 := of_decide_eq_true h1
  refine ⟨h1.1, h1.2, fun c hc => ?_⟩
  have h3 := of_decide_eq_true (List.all_eq_true.mp h2 c hc)
  have key : ∀ c ∈ lettersS.cps.toList, 97 ≤ c ∧ c ≤ 122 := by decide +kernel
  exact key c h3
/-! the read-back -/
/-! lengths -/
theorem num_len {i : Int} (h : 0 ≤ i) (h2 : i < 1000000000000000000000000000000) : (numS i).length ≤ 30 := by
  rw [len_tl, tl_numS h]
  exact numL_len (by decide) (by omega)
theorem key_len {i : Int} (h : 0 ≤ i) (h2 : i < 1152921504606846976) : (numS i).length ≤ 19 := by
  rw [len_tl, tl_numS h]
  exact numL_len (by decide) (by omega)
theorem ent_len {e : Ent} (h : EntW e) : (tl (entS e)).length ≤ 28 := by
  have h1 := key_len h.1 h.2.1
  rw [len_tl, tl_numS h.1] at h1
  have h2 := (nameB_low h.2.2).2.1
  rw [len_tl] at h2
  rw [tl_entS h.1, List.length_append, List.length_cons]
  omega
theorem row_len {r : Row} (h : ∀ e ∈ r, EntW e) : (tl (rowS r)).length ≤ 1 + r.length * 29 := by
  unfold rowS
  split
  · show 1 ≤ _
    omega
  · rw [tl_joinS]
    have := joinL_le (S := tl ",") (ps := (r.map entS).map tl) (b := 28) fun p hp => by
      rw [List.map_map] at hp
      obtain ⟨e, he, rfl⟩ := List.mem_map.mp hp
      exact ent_len (h e he)
    rw [List.length_map, List.length_map] at this
    have e1 : (tl ",").length = 1 := rfl
    rw [e1] at this
    omega
theorem rows_len {rs : List Row} {b : Nat} (h : ∀ r ∈ rs, (∀ e ∈ r, EntW e) ∧ r.length ≤ b) : (tl (rowsS rs)).length ≤ 4 + rs.length * (2 + b * 29) := by
  unfold rowsS
  split
  · show 4 ≤ _
    omega
  · rw [tl_joinS]
    have := joinL_le (S := tl ";") (ps := (rs.map rowS).map tl) (b := 1 + b * 29) fun p hp => by
      rw [List.map_map] at hp
      obtain ⟨r, hr, rfl⟩ := List.mem_map.mp hp
      obtain ⟨h1, h2⟩ := h r hr
      have h3 := row_len h1
      have h4 : r.length * 29 ≤ b * 29 := Nat.mul_le_mul_right _ h2
      show (tl (rowS r)).length ≤ _
      omega
    rw [List.length_map, List.length_map] at this
    have e1 : (tl ";").length = 1 := rfl
    rw [e1, show 1 + b * 29 + 1 = 2 + b * 29 by omega] at this
    omega
end TR

/-! comprehensions whose things are the asker's own -/
namespace TR
open PySem L2
mutual
/-- own things that stay for a while: M their lists -/
inductive Fo (Z : Hp) : V → PyData → List Addr → Prop
  | fr {v : V} {x : PyData} : noL x = true → Dt Z v x → Fo Z v x []
  | lst {p : Addr} {us : List V} {xs : List PyData} {M : List Addr} : Z p = some (.lst us) → FoAll Z us xs M → Fo Z (.ref p) (.list xs) (p :: M)
  | tup {p : Addr} {us : List V} {xs : List PyData} {M : List Addr} : Z p = some (.tup us) → FoAll Z us xs M → Fo Z (.ref p) (.tuple xs) M
inductive FoAll (Z : Hp) : List V → List PyData → List Addr → Prop
  | nil : FoAll Z [] [] []
  | cons {v : V} {x : PyData} {vs : List V} {xs : List PyData} {M N : List Addr} : Fo Z v x M → FoAll Z vs xs N → FoAll Z (v :: vs) (x :: xs) (M ++ N)
end
section
variable {M N F : List Addr} {Z H Z' H' Z1 : Hp} {v : V} {x : PyData} {us : List V} {xs : List PyData}
end
section
variable {K : PySem.W.Frag} {σ : L2.St} {H Z : Hp} {te : TE} {Q : VK} {g : TG} {vs : List Nat} {a : Addr} {us : List V}
end
end TR

namespace TR
open PySem L2
theorem strOk_iff {x : Str} : PyData.strOk x = true ↔ ∀ c ∈ TL.tl x, c < 0x110000 := by
  unfold PyData.strOk TL.tl
  rw [Array.all_eq_true']
  refine ⟨fun h c hc => of_decide_eq_true (h c (Array.mem_toList_iff.mp hc)), fun h c hc => decide_eq_true (h c (Array.mem_toList_iff.mpr hc))⟩
theorem joinL_mem {S : List Nat} : ∀ {ps : List (List Nat)} {c : Nat}, c ∈ TL.joinL S ps → c ∈ S ∨ ∃ p ∈ ps, c ∈ p
  | [], c, h => absurd h List.not_mem_nil
  | [p], c, h => .inr ⟨p, List.mem_cons_self, h⟩
  | p :: q :: r, c, h => by
    have h' : c ∈ p ++ (S ++ TL.joinL S (q :: r)) := h
    rcases List.mem_append.mp h' with h' | h'
    · exact .inr ⟨p, List.mem_cons_self, h'⟩
    · rcases List.mem_append.mp h' with h' | h'
      · exact .inl h'
      · rcases joinL_mem h' with g | ⟨p', g1, g2⟩
        · exact .inl g
        · exact .inr ⟨p', List.mem_cons_of_mem _ g1, g2⟩
theorem join_mem {y : Str} {l : List Str} {c : Nat} (h : c ∈ TL.tl (Txt.join y l)) : c ∈ TL.tl y ∨ ∃ x ∈ l, c ∈ TL.tl x := by
  rw [TL.join_eq, TL.tl_join] at h
  rcases joinL_mem h with g | ⟨p, g1, g2⟩
  · exact .inl g
  · obtain ⟨x, hx, rfl⟩ := List.mem_map.mp g1
    exact .inr ⟨x, hx, g2⟩
theorem join_ok {y : Str} {l : List Str} (hy : PyData.strOk y = true) (h : ∀ x ∈ l, PyData.strOk x = true) : PyData.strOk (Txt.join y l) = true :=
  strOk_iff.mpr fun c hc => by
    rcases join_mem hc with g | ⟨x, hx, g⟩
    · exact strOk_iff.mp hy c g
    · exact strOk_iff.mp (h x hx) c g
theorem joinL_len : ∀ {ps : List (List Nat)}, (TL.joinL [] ps).length = (ps.map List.length).sum
  | [] => rfl
  | [p] => by simp [TL.joinL]
  | p :: q :: r => by
    show (p ++ ([] ++ TL.joinL [] (q :: r))).length = _
    rw [List.length_append, List.nil_append, joinL_len (ps := q :: r)]
    simp
theorem s_ixStr {K : PySem.W.Frag} {H : Hp} {Q : VK} {z : Str} {i : Int} (h : 0 ≤ i ∧ i < (TL.tl z).length) (hz : z.length ≤ 100000) (q : ∀ c, c ∈ TL.tl z → Q (.str ⟨#[c]⟩) H) : rIx K (.str z) (.int i) H Q := by
  have hi : i.toNat < z.cps.toList.length := by have := h.2; show i.toNat < (TL.tl z).length; omega
  exact .inr (.inr ⟨z, i, _, rfl, rfl, sz_of hz, atI_lt h.1 (List.getElem?_eq_getElem hi), q _ (List.getElem_mem hi)⟩)
theorem s_joinL {K : PySem.W.Frag} {H : Hp} {Q : VK} {p : Addr} {y : Str} {l : List Str} (h : H p = some (.lst (l.map V.str))) (hz : (l.map (·.length)).sum + l.length * y.length ≤ 16777216) (q : Q (.str (Txt.join y l)) H) :
    ∃ (a : Str) (p' : Addr), ∃ ys : List Str, V.str y = .str a ∧ [V.ref p] = [.ref p'] ∧ (SqL K H p' (ys.map V.str) ∨ SqT K H p' (ys.map V.str)) ∧ (ys.map (·.length)).sum + ys.length * a.length ≤ 16777216 ∧ Q (.str (Txt.join a ys)) H :=
  ⟨y, p, l, rfl, rfl, .inl (sq_of h), hz, q⟩
end TR

/-! texts: split, join, int(text), str(number), a sign at a place -/
namespace TR
open PySem L2 TL PySem.Spec PyProof.Rows
noncomputable def rSplit : V → List V → Hp → VK → Prop := fun x xs H Q => ∃ a b, x = .str a ∧ xs = [.str b] ∧ (b.length == 0) = false ∧ a.length + 2 ≤ sizeLine ∧ rNewStrs (Txt.split a b) H Q
noncomputable def rJoin (K : PySem.W.Frag) : V → List V → Hp → VK → Prop := fun x xs H Q => ∃ a p, ∃ ys : List Str, x = .str a ∧ xs = [.ref p] ∧ (SqL K H p (ys.map V.str) ∨ SqT K H p (ys.map V.str)) ∧ (ys.map (·.length)).sum + ys.length * a.length ≤ 16777216 ∧ Q (.str (Txt.join a ys)) H
noncomputable def rIntT : List V → Hp → VK → Prop := fun xs H Q => ∃ a n, xs = [.str a] ∧ PySem.intText? a = some n ∧ a.length ≤ 640 ∧ Q (.int n) H
noncomputable def rStrI : List V → Hp → VK → Prop := fun xs H Q => ∃ i, xs = [.int i] ∧ i.natAbs.log2 < 1920 ∧ Q (.str (toString i)) H
theorem intTA {X : Cx} : CallR X (.type "int") rIntT := call_int_str
theorem strIA {X : Cx} : CallR X (.type "str") rStrI := call_str_int
theorem pe_m1 {X : Cx} {e : Expr} {r : V → List V → Hp → VK → Prop} {to te : TE} (h : PE X e (tM1 r to te)) : PE X e (tM1 r to te) := h
theorem pe_joinK {X : Cx} {K : PySem.W.Frag} (hk : X.K = K) {e : Expr} {to te : TE} (h : PE X e (tM1 (rJoin X.K) to te)) : PE X e (tM1 (rJoin K) to te) := hk ▸ h
section
variable {K : PySem.W.Frag} {σ : L2.St} {H Z : Hp} {to te : TE} {Q : VK} {r : V → List V → Hp → VK → Prop} {a b : Str} {p : Addr} {i : Int}
noncomputable def M1P (r : V → List V → Hp → VK → Prop) (te : TE) (σ : L2.St) (x : V) (H1 : Hp) (Q : VK) : Prop := (∃ a, x = .str a) ∧ te σ H1 fun y H2 => r x [y] H2 Q
theorem s_m1 (q : to σ H fun x H1 => M1P r te σ x H1 Q) : tM1 r to te σ H Q := q
theorem n_m1 (q : te σ H fun y H2 => r (.str a) [y] H2 Q) : M1P r te σ (.str a) H Q := ⟨⟨a, rfl⟩, q⟩
theorem t_split (z : Ex Z H) (hb : (b.length == 0) = false) (ha : a.length ≤ 16000000) (k : ∀ p Z' H', H p = none → T [] Z H Z' H' → Z' p = some (.lst ((Txt.split a b).map V.str)) → Q (.ref p) H') : rSplit (.str a) [.str b] H Q :=
  ⟨a, b, rfl, rfl, hb, by rw [sizeLine_eq]; omega, fun p hp => k p _ _ hp (T.new hp z) upd_same⟩
theorem t_join {ys : List Str} (h : SqL K H p (ys.map V.str)) (hz : (ys.map (·.length)).sum + ys.length * a.length ≤ 16777216) (q : Q (.str (Txt.join a ys)) H) : rJoin K (.str a) [.ref p] H Q :=
  ⟨a, p, ys, rfl, rfl, .inl h, hz, q⟩
theorem t_strI (h0 : 0 ≤ i) (h1 : i < 1000000000000000000000000000000000000000000000000000000000000) (q : Q (.str (numS i)) H) : rStrI [.int i] H Q := by
  refine ⟨i, rfl, ?_, q⟩
  have h2 : i.natAbs < 2 ^ 200 := Nat.lt_of_lt_of_le (show i.natAbs < 1000000000000000000000000000000000000000000000000000000000000 by omega) (by decide)
  by_cases c : i.natAbs = 0
  · rw [c]; decide
  · have := (Nat.log2_lt c).mpr h2
    omega
theorem t_intT {n : Int} (h0 : 0 ≤ n) (h1 : n < 1000000000000000000000000000000) (q : Q (.int n) H) : rIntT [.str (numS n)] H Q := by
  obtain ⟨m, rfl⟩ : ∃ m : Nat, n = (m : Int) := ⟨n.toNat, by omega⟩
  have hl := num_len h0 h1
  refine ⟨numS (m : Int), (m : Int), rfl, int_num ?_, by omega, q⟩
  rw [len_tl, tl_numS h0] at hl
  show (numL m).length ≤ 4300
  have : ((m : Int)).toNat = m := Int.toNat_natCast m
  rw [this] at hl
  omega
theorem s_plusS (h : a.length + b.length ≤ 16000000) (q : Q (.str (a ++ b)) H) : rPlus (.str a) (.str b) H Q := .inr (.inr ⟨a, b, rfl, rfl, by rw [sizeLine_eq]; omega, q⟩)
/-- the sign at a place -/
theorem s_ixSign {z : Str} {c : Nat} (h0 : 0 ≤ i) (hc : (tl z)[i.toNat]? = some c) (hz : z.length ≤ 16000000) (q : Q (.str ⟨#[c]⟩) H) : rIx K (.str z) (.int i) H Q :=
  .inr (.inr ⟨z, i, c, rfl, rfl, by rw [sizeLine_eq]; omega, atI_lt h0 hc, q⟩)
theorem s_lenTx {z : Str} (h : z.length ≤ 16000000) (q : Q (.int (z.length : Int)) H) : rLen K [.str z] H Q := .inr ⟨z, rfl, by rw [sizeLine_eq]; omega, q⟩
end
noncomputable def figS : Str := "0123456789"
theorem fig_mem {c : Nat} (h : 48 ≤ c ∧ c ≤ 57) : c ∈ figS.cps.toList := by
  have e : figS.cps.toList = [48, 49, 50, 51, 52, 53, 54, 55, 56, 57] := by decide +kernel
  rw [e]
  simp only [List.mem_cons, List.not_mem_nil, or_false]
  omega
end TR
namespace TR
open PySem L2 TL
section
variable {K : PySem.W.Frag} {σ : L2.St} {H Z : Hp} {te : TE} {Q : VK} {g : TG} {vs : List Nat} {p : Addr} {us : List V}
end
end TR
namespace TR
open PySem L2 TL
theorem sum_le {b n : Nat} : ∀ {xs : List Str}, (∀ x ∈ xs, x.length ≤ b) → xs.length = n → (xs.map (·.length)).sum ≤ n * b
  | [], _, h => by rw [← h]; exact Nat.zero_le _
  | x :: xs, h, e => by
    rw [← e, List.length_cons, Nat.succ_mul, List.map_cons, List.sum_cons]
    have h1 := h x List.mem_cons_self
    have h2 := sum_le (xs := xs) (b := b) (fun y hy => h y (List.mem_cons_of_mem _ hy)) rfl
    omega
section
variable {K : PySem.W.Frag} {σ : L2.St} {H Z : Hp} {te : TE} {Q : VK} {g : TG} {vs : List Nat} {a : Addr}
/-- texts of the things of a list of data -/
theorem c_mapS {β : Type} [Py β] {xs : List β} (f : β → Str) (zh : Ex Z H) (h : Ik Z (.ref a) xs) (hz : xs.length ≤ 40000)
    (turn : ∀ u x Z1 H1, x ∈ xs → Ik Z u x → T [] Z H Z1 H1 → ∀ A : VK, (∀ Z3 H3, T [] Z1 H1 Z3 H3 → A (.str (f x)) H3) → g u (wipe σ vs) H1 fun σ2 H2 => wipe σ2 vs = wipe σ vs ∧ te σ2 H2 A)
    (fin : ∀ D Z' H', H D = none → T [] Z H Z' H' → Z' D = some (.lst ((xs.map f).map V.str)) → Q (.ref D) H') : LcL K g tYes te vs σ (.ref a) H Q := by
  obtain ⟨b, us, e, h1, h2⟩ := h.list
  cases e
  have hl := Paired.length h2
  refine ⟨a, rfl, ⟨us, zh.sq (sq_of h1)⟩, lcT (n := xs.length) (M := []) (Z := Z) (fun _ => true) (fun _ _ _ => True) (fun i (x : Str) y Z => (∃ b, xs[i]? = some b ∧ x = f b) ∧ y = .str x) (fun i x y Z1 Z2 e r => r) (fun _ _ _ _ _ _ _ _ => trivial) hz zh (fun _ h => absurd h List.not_mem_nil) trivial
    (fun i Z1 H1 hi t => ⟨us, us[i]'(by omega), (t.z.trans t.zh).sq (sq_of h1), List.getElem?_eq_getElem (by omega)⟩) (fun Z1 H1 t => ⟨us, (t.z.trans t.zh).sq (sq_of h1), by omega⟩) (fun i hi D Z1 H1 t nD mu _ v H2 hy A B hA hB => ?_) (fun D ys L Z' H' nD t mu f1 _ hL pr => ?_)⟩
  · obtain ⟨rfl, fv⟩ := hy
    have hv := fv _ ((t.z.trans t.zh).sq (sq_of h1))
    obtain ⟨x, hx, ix⟩ := itemK h2 hv
    rw [lc_yes]
    exact turn v x Z1 H2 (List.mem_of_getElem? hx) ix t A fun Z3 H3 t3 => hA rfl (f x) _ Z3 H3 t3 trivial ⟨⟨x, hx, rfl⟩, rfl⟩
  · have e2 : L.map Prod.snd = xs.map f := by
      rw [kept_snd (xs := xs) (f := f) (fun q hq => by
        obtain ⟨y, hy⟩ := paired_r pr q hq
        exact hy.1), hL, filter_yes, rg_take, List.take_length]
    have e3 : ys = (L.map Prod.snd).map V.str := by
      clear e2 hL f1
      induction pr with
      | nil => rfl
      | cons a t ih => rw [List.map_cons, List.map_cons, ← ih, a.2]
    rw [e3, e2] at f1
    exact t_fzV mu t.zh f1 fun Z2 H2 t2 z2 => fin D Z2 H2 nD (t.step t2 (mm_cons (.inr nD) mm_nil)) z2
end
end TR
namespace TR
open PySem L2 TL
/-- a step that can be written -/
noncomputable def StpT : Stp → Prop
  | .rooms m => 0 ≤ m ∧ m ≤ 130
  | .cut r m => 0 ≤ r ∧ r ≤ 130 ∧ 0 ≤ m ∧ m ≤ 130
  | .row r a w => 0 ≤ r ∧ r ≤ 130 ∧ 0 ≤ a ∧ a ≤ 130 ∧ (∀ e ∈ w, EntW e) ∧ w.length ≤ 150
theorem len_app (x y : Str) : (x ++ y).length = x.length + y.length := by rw [len_tl, tl_append, List.length_append, ← len_tl, ← len_tl]
theorem row_text (r a : Int) (w : Row) : ("row " ++ numS r ++ " " ++ numS a ++ " " ++ rowS w : Str) = stepS (.row r a w) := by
  refine tl_ext ?_
  have e : stepS (.row r a w) = Txt.join " " ["row", numS r, numS a, rowS w] := rfl
  rw [e, join_eq]
  show _ = tl ("row" ++ " " ++ (numS r ++ " " ++ (numS a ++ " " ++ rowS w)))
  simp only [tl_append, List.append_assoc]
  rfl
end TR
namespace TR
open PySem L2 TL
section
variable {K : PySem.W.Frag} {σ : L2.St} {H Z : Hp} {te : TE} {Q : VK} {g : TG} {vs : List Nat} {a : Addr} {us : List V}
/-- a yard that can be written -/
noncomputable def YardT (y : Yard) : Prop := (1 ≤ y.a ∧ y.a ≤ 8) ∧ (1 ≤ y.b ∧ y.b ≤ 130) ∧ y.c.length ≤ 200 ∧ (y.c.map List.length).sum ≤ 600 ∧ (∀ rs ∈ y.c, ∀ r ∈ rs, (∀ e ∈ r, EntW e) ∧ r.length ≤ 20) ∧ y.c.getLast? ≠ some []
end
end TR
namespace TR
open PySem L2 TL
theorem sumL_le {α : Type} {b : Nat} : ∀ {xs : List (List α)}, (∀ x ∈ xs, x.length ≤ b) → (xs.map List.length).sum ≤ b * xs.length
  | [], _ => Nat.zero_le _
  | x :: xs, h => by
    rw [List.map_cons, List.sum_cons, List.length_cons, Nat.mul_succ]
    have h1 := h x List.mem_cons_self
    have h2 := sumL_le (xs := xs) (b := b) fun y hy => h y (List.mem_cons_of_mem _ hy)
    omega
theorem held_len : ∀ {c : List (List Row)}, (∀ rs ∈ c, ∀ r ∈ rs, (∀ e ∈ r, EntW e) ∧ r.length ≤ 20) → ((c.map rowsS).map (·.length)).sum ≤ 4 * c.length + 582 * (c.map List.length).sum
  | [], _ => Nat.zero_le _
  | rs :: c, h => by
    have h1 := rows_len (h rs List.mem_cons_self)
    have h2 := held_len (c := c) fun x hx => h x (List.mem_cons_of_mem _ hx)
    rw [← len_tl] at h1
    simp only [List.map_cons, List.sum_cons, List.length_cons]
    omega
theorem sum_mem {c : List (List Row)} {rs : List Row} (h : rs ∈ c) : rs.length ≤ (c.map List.length).sum := by
  induction c with
  | nil => exact absurd h List.not_mem_nil
  | cons x c ih =>
    rw [List.map_cons, List.sum_cons]
    rcases List.mem_cons.mp h with e | h
    · rw [e]; omega
    · have := ih h
      omega
end TR
namespace TR
open PySem L2 TL
theorem joinT_len {s : Str} {xs : List Str} : (Txt.join s xs).length ≤ (xs.map (·.length)).sum + xs.length * s.length := by
  rw [join_eq]
  have key : ∀ xs : List Str, (Str.join s xs).length ≤ (xs.map (·.length)).sum + xs.length * s.length := by
    intro xs
    induction xs with
    | nil => exact Nat.zero_le _
    | cons x xs ih =>
      cases xs with
      | nil =>
        show x.length ≤ x.length + 0 + 1 * s.length
        omega
      | cons z r =>
        show (x ++ s ++ Str.join s (z :: r)).length ≤ _
        rw [len_app, len_app, List.map_cons, List.sum_cons, List.length_cons (as := z :: r), Nat.succ_mul]
        omega
  exact key xs
end TR
namespace TR
open PySem L2
end TR
namespace TR
open PySem L2
/-- one of two by a truth -/
theorem s_ixB2 {K : PySem.W.Frag} {H : Hp} {Q : VK} {p : Addr} {x y : V} {c : Bool} (h : SqL K H p [x, y]) (q : Q (if c = true then y else x) H) : rIx K (.ref p) (.int (if c = true then 1 else 0)) H Q := by
  cases c
  · exact s_ixL h (v := x) (atI_lt (by decide) rfl) q
  · exact s_ixL h (v := y) (atI_lt (by decide) rfl) q
end TR
namespace TR
open PySem L2
/-- a part of a step, and its text -/
noncomputable def PartT (Z : Hp) (u : V) (x : Str) : Prop := (∃ i : Int, u = .int i ∧ 0 ≤ i ∧ i ≤ 130 ∧ x = numS i) ∨ ∃ (b : Addr) (w : Row), u = .ref b ∧ Ik Z (.ref b) w ∧ (∀ e ∈ w, EntW e) ∧ w.length ≤ 150 ∧ x = rowS w
theorem PartT.tt {M : List Addr} {Z H Z' H' : Hp} {u : V} {x : Str} (t : T M Z H Z' H') (h : PartT Z u x) : PartT Z' u x := by
  rcases h with h | ⟨b, w, h1, h2, h3⟩
  · exact .inl h
  · exact .inr ⟨b, w, h1, Ik.tt t h2, h3⟩
theorem PartT.len {Z : Hp} {u : V} {x : Str} (h : PartT Z u x) : x.length ≤ 5000 := by
  rcases h with ⟨i, _, h0, h1, rfl⟩ | ⟨b, w, _, _, hw, hl, rfl⟩
  · have := num_len h0 (by omega)
    omega
  · have := row_len hw
    rw [TL.len_tl]
    omega
theorem stp_parts {Z H : Hp} {v : V} {s : Stp} (z : Ex Z H) (iv : Ik Z v s) (hw : StpT s) : ∃ (c : Addr) (nm : Str) (us : List V) (L : List Str), v = .ref c ∧ Z c = some (.tup (.str nm :: us)) ∧ ¬ (HT.sIx (V.str nm :: us).length 0 (some 1) = 0 ∧ HT.sIx (V.str nm :: us).length (V.str nm :: us).length none = (V.str nm :: us).length) ∧
    Paired (PartT Z) us L ∧ stepS s = Txt.join " " (nm :: L) ∧ nm.length ≤ 5 ∧ L.length ≤ 3 := by
  cases s with
  | row r a w =>
    obtain ⟨c, wb, rfl, hc, iw⟩ := iv.row_of
    obtain ⟨r0, r1, a0, a1, hw, hl⟩ := hw
    exact ⟨c, "row", _, [numS r, numS a, rowS w], rfl, hc, (by show ¬ (HT.sIx 4 0 (some 1) = 0 ∧ HT.sIx 4 4 none = 4); decide), .cons (.inl ⟨r, rfl, r0, r1, rfl⟩) (.cons (.inl ⟨a, rfl, a0, a1, rfl⟩) (.cons (.inr ⟨wb, w, rfl, iw, hw, hl, rfl⟩) .nil)), rfl, by decide, (by show 3 ≤ 3; decide)⟩
  | cut r m =>
    obtain ⟨c, rfl, hc⟩ := iv.cut_of
    obtain ⟨r0, r1, a0, a1⟩ := hw
    exact ⟨c, "cut", _, [numS r, numS m], rfl, hc, (by show ¬ (HT.sIx 3 0 (some 1) = 0 ∧ HT.sIx 3 3 none = 3); decide), .cons (.inl ⟨r, rfl, r0, r1, rfl⟩) (.cons (.inl ⟨m, rfl, a0, a1, rfl⟩) .nil), rfl, by decide, (by show 2 ≤ 3; decide)⟩
  | rooms m =>
    obtain ⟨c, rfl, hc⟩ := iv.rooms_of
    obtain ⟨a0, a1⟩ := hw
    exact ⟨c, "rooms", _, [numS m], rfl, hc, (by show ¬ (HT.sIx 2 0 (some 1) = 0 ∧ HT.sIx 2 2 none = 2); decide), .cons (.inl ⟨m, rfl, a0, a1, rfl⟩) .nil, rfl, by decide, (by show 1 ≤ 3; decide)⟩
end TR
namespace TR
open PySem L2
section
variable {K : PySem.W.Frag} {Z H : Hp} {Q : VK} {D q : Addr} {qs : List Addr} {α : Type} {iα : Py α} {rs : List (List α)} {r : List α}
/-- one more own list -/
theorem Y2.add (a : Y2 Z H D qs rs) (lm : Lm Z H q r) (nq : q ∉ D :: qs) (hz : qs.length < 100000) (k : ∀ Z' H', T [D] Z H Z' H' → Y2 Z' H' D (qs ++ [q]) (rs ++ [r]) → Q .non H') : rAppend (.ref D) [.ref q] H Q := by
  obtain ⟨d1, d2⟩ := List.nodup_cons.mp a.nd
  have t : T [D] Z H Z (upd H D (.lst (qs.map V.ref ++ [.ref q]))) := T.set ⟨a.z D List.mem_cons_self, _, a.own⟩ a.zh
  have nqD : q ∉ [D] := nm_cons (fun e => nq (e ▸ List.mem_cons_self)) nm_nil
  refine ⟨D, _, _, rfl, rfl, a.own, sz_lt (by rw [List.length_map]; omega), k Z _ t ⟨by rw [List.map_append]; exact upd_same, ?_, fun b hb => ?_, t.zh, ?_⟩⟩
  · refine List.nodup_cons.mpr ⟨fun z => ?_, List.nodup_append.mpr ⟨d2, List.nodup_cons.mpr ⟨List.not_mem_nil, List.nodup_nil⟩, fun x hx y hy e => ?_⟩⟩
    · rcases List.mem_append.mp z with z | z
      · exact d1 z
      · exact nq (List.mem_singleton.mp z ▸ List.mem_cons_self)
    · rw [List.mem_singleton.mp hy] at e
      exact nq (e ▸ List.mem_cons_of_mem _ hx)
  · rcases List.mem_cons.mp hb with e | hb
    · rw [e]; exact a.z D List.mem_cons_self
    · rcases List.mem_append.mp hb with hb | hb
      · exact a.z b (List.mem_cons_of_mem _ hb)
      · rw [List.mem_singleton.mp hb]; exact lm.zd
  · exact Paired.snoc (paired_mem a.rows fun q' r' hq g => g.tt t (nm_cons (fun e => d1 (e ▸ hq)) nm_nil)) (RowO.tt t nqD lm.ex)
theorem Y2.isH (a : Y2 Z H D qs rs) : Ik H (.ref D) rs := by
  refine Ik.of_list a.own ?_
  have h := a.rows
  have z := a.zh
  clear a
  induction h with
  | nil => exact .nil
  | cons g t ih =>
    obtain ⟨us, g1, g2⟩ := g
    exact .cons (Ik.of_list g1 (Paired.mapP g2 fun v x g => Ik.ex z g)) ih
theorem Y2.of0 (m : Mu Z H D) (z : Ex Z H) (f : H D = some (.lst [])) : Y2 Z H D [] ([] : List (List α)) := ⟨f, List.nodup_cons.mpr ⟨List.not_mem_nil, List.nodup_nil⟩, fun b hb => by rw [List.mem_singleton.mp hb]; exact m.z, z, .nil⟩
theorem Y2.not (a : Y2 Z H D qs rs) (h : H q = none) : q ∉ D :: qs := fun z => by
  obtain ⟨o, ho⟩ := a.al q z
  rw [h] at ho
  cases ho
end
end TR

/-! tables: looks, find; tables of the same entries in another order -/
namespace TR
open PySem L2
noncomputable def looksT (w f : Int) (l : Row) (k : Int) : Bool × Int := lookedI (rowsOf (keysT_ f l (roomOf k (roomsT f l))) w) k 0
noncomputable def spTLooks (K : PySem.W.Frag) : Sp := fun vs H Q E => ∃ (a D : Addr) (w f : Int) (l : Row) (Z : Hp) (v : V) (n : String), vs = [.ref a, v] ∧ Tb K Z H a D w f l ∧ KindV K H v n ∧
  (keyV v = false → ∀ d, H d = none → E (.ref (clsA K "NoKey")) (some d) (upd H d (.xd [("key", v)]))) ∧
  ∀ k, v = .int k → keyV v = true → ∀ p Z' H', H p = none → T [D] Z H Z' H' → Tb K Z' H' a D w f l → Z' p = some (.tup [.bl (looksT w f l k).1, .int (looksT w f l k).2]) → Q (.ref p) H'
noncomputable def spTFind (K : PySem.W.Frag) : Sp := fun vs H Q E => ∃ (a D : Addr) (w f : Int) (l : Row) (Z : Hp) (v : V) (n : String), vs = [.ref a, v] ∧ Tb K Z H a D w f l ∧ KindV K H v n ∧
  (keyV v = false → ∀ d, H d = none → E (.ref (clsA K "NoKey")) (some d) (upd H d (.xd [("key", v)]))) ∧
  ∀ k, v = .int k → keyV v = true →
    (k ∉ l.map Prod.fst → ∀ d, H d = none → E (.ref (clsA K "Lacking")) (some d) (upd H d (.xd [("key", v)]))) ∧
    (∀ t, thingOf l k = some t → ∀ p Z' H', H p = none → T [D] Z H Z' H' → Tb K Z' H' a D w f l → Z' p = some (.tup [.str t.1, .int (looksT w f l k).2]) → Q (.ref p) H')
section
variable {K : PySem.W.Frag} {Z H Z' H' : Hp} {Q : VK} {E : XK} {a D : Addr} {w f : Int} {l : Row} {k : Int}
end
/-! a looked for key -/
/-! the same entries in another order -/
section
variable {l m : Row} {w f r k : Int}
end
/-- what a law's state tells -/
noncomputable def cntsT (f : Int) (l : Row) : List Int := (List.range (roomsT f l).toNat).map fun (i : Nat) => ((keysT_ f l (i : Int)).length : Int)
noncomputable abbrev St6 : Type := T6 Int Int Row (List (List Row)) Int (Int × Int)
noncomputable def st6 (w f : Int) (l : Row) (m : Int) (j : Nat) : St6 := T6.mk (l.length : Int) (roomsT f l) (sortE l) ((List.range (roomsT f l).toNat).map fun (i : Nat) => rowsE w f l (i : Int)) (spillI (cntsT f l) w) (m, (j : Int))
end TR
namespace TR
open PySem L2
section
variable {K : PySem.W.Frag} {Z H : Hp} {D : Addr} {α : Type} {iα : Py α} {l : List α} {Q : VK} {i : Int}
end
end TR
namespace TR
open PySem L2
end TR
namespace TR
open PySem L2
end TR
namespace TR
open PySem L2
end TR
namespace TR
open PySem L2
noncomputable def toldX : Tx := ⟨"told", by decide +kernel⟩
noncomputable def lackX : Tx := ⟨"lacking", by decide +kernel⟩
end TR
namespace TR
end TR

/-! keepers and tables -/
namespace TR
open PySem L2
section
variable {w f k : Int} {l : Row}
end
end TR

/-! a call by one of two classes; every second thing of a list -/
namespace TR
open PySem L2 PySem.Spec PyProof.Rows
noncomputable def tOr2 (t1 t2 : TE) : TE := fun σ H Q => t1 σ H Q ∨ t2 σ H Q
noncomputable def tSl2 (K : PySem.W.Frag) (te : TE) : TE := fun σ H Q => te σ H fun x H1 => ∃ a xs, x = .ref a ∧ SqL K H1 a xs ∧ ∀ p (ys : List V), H1 p = none → (∀ y ∈ ys, y ∈ xs) → ys.length ≤ xs.length → Q (.ref p) (upd H1 p (.lst ys))
end TR

/-! the steps that are due: of a change, of a mending -/
namespace TR
open PySem L2
section
variable {w r k f : Int} {es : Row} {t : Tx} {y : Yard} {ss : List Stp}
/-- one room more, or fewer, where there have to be -/
noncomputable def moreS (w f : Int) (es : Row) (r : Int) : List Stp := if r < roomsFor (es.length : Int) f then splitS (cleanY w r es) else if roomsFor (es.length : Int) f < r then joinS (cleanY w r es) else []
/-- what is due of a deed -/
noncomputable def dueS (f : Int) (y : Yard) (d : T3 Tx Int Tx) : List Stp := if d.a.1 = "put" then putKS f y d.b d.c else dropKS f y d.b
end
end TR
namespace TR
open PySem L2
end TR
namespace TR
open PySem L2
/-- all the stops, all things are names -/
structure KGN (w f : Int) (y : Yard) (ss : List Stp) : Prop where
  kg : KG w f y ss
  nm : ∀ m, ∀ e ∈ standY ((ss.take m).foldl doneY y), nameB e.2.1 = true
section
variable {w f k : Int} {t : Tx} {y : Yard} {ss : List Stp}
end
end TR

/-! what a keeper and a table tell alike -/
namespace TR
open PySem L2
instance {α β : Type} [Py α] [Py β] : Py (Option (α × β)) := ⟨fun o => match o with | none => .none | some p => Py.d p, Py.dep (α × β), fun o => by
  cases o with
  | none => exact Nat.zero_le _
  | some p => exact Py.depth p, fun o => by
  cases o with
  | none => rfl
  | some p => exact Py.can p, fun a b => by
  cases a <;> cases b
  · exact ⟨fun _ => rfl, fun _ => rfl⟩
  · exact ⟨fun h => (Bool.false_ne_true h).elim, fun h => nomatch h⟩
  · exact ⟨fun h => (Bool.false_ne_true h).elim, fun h => nomatch h⟩
  · rename_i x y
    show (PyData.eqv (Py.d x) (Py.d y) = true) ↔ some x = some y
    rw [Py.eqv]
    exact ⟨fun h => congrArg some h, fun h => Option.some.inj h⟩⟩
section
variable {K : PySem.W.Frag} {H : Hp} {α β : Type} [Py α] [Py β]
theorem Ik.yesP {v : V} {p : α × β} (h : Ik H v p) : Ik H v (some p : Option (α × β)) := h
end
/-- the thing and the looks, None where there is none -/
noncomputable def findD (y : Yard) (k : Int) : Option (Tx × Int) := (fY y k).map fun x => (x, (foundI y k).2)
noncomputable def findT (w f : Int) (l : Row) (k : Int) : Option (Tx × Int) := (thingOf l k).map fun x => (x, (looksT w f l k).2)
end TR
namespace TR
open PySem L2
/-- a keeper that is as a table -/
structure Twin (K : PySem.W.Frag) (Z H : Hp) (a P t D : Addr) (w f : Int) (ks : List Int) (y : Yard) (l : Row) : Prop where
  kp : Kp K Z H a P w f y []
  tb : Tb K Z H t D w f l
  aD : a ≠ D
  PD : P ≠ D
  ki : KI 66 w f ks y []
  st : sortE l = standY y
section
variable {K : PySem.W.Frag} {Z H Z' H' : Hp} {a P t D : Addr} {w f : Int} {ks : List Int} {y : Yard} {l : Row}
end
end TR
namespace TR
open PySem L2
end TR
namespace TR
open PySem L2
end TR
namespace TR
open PySem L2
/-- the entries behind a deed -/
noncomputable def newL (l : Row) (d : T3 Tx Int Tx) : Row := if d.a.1 = "put" then setE l d.b d.c else outE l d.b
section
variable {w f : Int} {y : Yard} {ss : List Stp} {l : Row} {d : T3 Tx Int Tx}
end
end TR
namespace TR
open PySem L2
noncomputable def tZ1 : Tx := ⟨"z", by decide +kernel⟩
noncomputable def tA1 : Tx := ⟨"a", by decide +kernel⟩
end TR

/-! any text, read: what is written, or nothing -/
namespace TR
open PySem L2 TL
/-! ### numbers -/
noncomputable def figsB (x : Str) : Bool := decide (1 ≤ x.length ∧ x.length ≤ 30) && !(decide ((tl x)[0]? = some 48) && decide (1 < x.length)) && (tl x).all fun c => decide (48 ≤ c ∧ c ≤ 57)
noncomputable def numO (x : Str) : Option Int := if figsB x = true then some ((NumText.digitsVal (tl x) : Nat) : Int) else none
theorem figs_back : ∀ (n : Nat) (l : List Nat), l.length = n → l ≠ [] → (∀ c ∈ l, 48 ≤ c ∧ c ≤ 57) → (l[0]? = some 48 → l.length = 1) → numL (NumText.digitsVal l) = l ∧ NumText.digitsVal l < 10 ^ l.length := by
  intro n
  induction n with
  | zero => intro l hl hn; exact absurd (List.eq_nil_of_length_eq_zero hl) hn
  | succ n ih =>
    intro l hl hn hd h0
    obtain ⟨l', c, rfl⟩ : ∃ l' c, l = l' ++ [c] := ⟨l.dropLast, l.getLast hn, (List.dropLast_concat_getLast hn).symm⟩
    have hc := hd c (List.mem_append_right _ List.mem_cons_self)
    rw [NumText.digitsVal_snoc]
    rw [List.length_append] at hl
    by_cases e : l' = []
    · subst e
      have e0 : NumText.digitsVal [] = 0 := rfl
      rw [e0, Nat.zero_mul, Nat.zero_add, numL_lt (by omega)]
      refine ⟨?_, ?_⟩
      · show [48 + (c - 48)] = [c]
        congr 1
        omega
      · show c - 48 < 10 ^ 1
        omega
    · have hl' : l'.length = n := by
        have : [c].length = 1 := rfl
        omega
      have p1 : 1 ≤ l'.length := List.length_pos_iff.mpr e
      have hx : (l' ++ [c])[0]? = l'[0]? := List.getElem?_append_left (by omega)
      have no : l'[0]? ≠ some 48 := fun z => by
        have := h0 (hx.trans z)
        rw [List.length_append] at this
        have : [c].length = 1 := rfl
        omega
      obtain ⟨i1, i2⟩ := ih l' hl' e (fun d m => hd d (List.mem_append_left _ m)) (fun z => absurd z no)
      have pos : 1 ≤ NumText.digitsVal l' := by
        refine Nat.pos_of_ne_zero fun z => ?_
        rw [z, numL_lt (by omega)] at i1
        rw [← i1] at no
        exact no rfl
      rw [numL_step (by omega)]
      have d1 : (NumText.digitsVal l' * 10 + (c - 48)) / 10 = NumText.digitsVal l' := by omega
      have d2 : (NumText.digitsVal l' * 10 + (c - 48)) % 10 = c - 48 := by omega
      rw [d1, d2, i1]
      refine ⟨?_, ?_⟩
      · congr 2
        omega
      · rw [List.length_append]
        show _ < 10 ^ (l'.length + 1)
        rw [Nat.pow_succ]
        omega
theorem figs_num {x : Str} (h : figsB x = true) : ∃ n : Nat, x = numS (n : Int) ∧ (n : Int) < 1000000000000000000000000000000 ∧ numO x = some (n : Int) := by
  have h' := h
  unfold figsB at h
  simp only [Bool.and_eq_true, Bool.not_eq_true', Bool.and_eq_false_iff, decide_eq_true_eq, decide_eq_false_iff_not, List.all_eq_true] at h
  obtain ⟨⟨⟨l1, l2⟩, z⟩, d⟩ := h
  have ll : (tl x).length = x.length := (len_tl x).symm
  obtain ⟨b1, b2⟩ := figs_back (tl x).length (tl x) rfl (fun e => by rw [e] at ll; have : ([] : List Nat).length = 0 := rfl; omega) d (fun e => by
    rcases z with z | z
    · exact absurd e z
    · omega)
  refine ⟨NumText.digitsVal (tl x), tl_ext ?_, ?_, ?_⟩
  · rw [tl_numS (by omega)]
    exact b1.symm
  · have : 10 ^ (tl x).length ≤ 10 ^ 30 := Nat.pow_le_pow_right (by decide) (by omega)
    have e30 : (10 : Nat) ^ 30 = 1000000000000000000000000000000 := by decide
    omega
  · unfold numO
    rw [if_pos h']
theorem figs_no {x : Str} (h : figsB x = false) : numO x = none := by
  unfold numO
  rw [h]
  rfl
noncomputable def fewO (x : Str) (a b : Int) : Option Int := match numO x with
  | some n => if a ≤ n ∧ n ≤ b then some n else none
  | none => none
/-! ### lists of what may be nothing -/
noncomputable def allO {α : Type} : List (Option α) → Option (List α)
  | [] => some []
  | none :: _ => none
  | some a :: r => match allO r with
    | some l => some (a :: l)
    | none => none
theorem allO_some {α : Type} : ∀ {l : List (Option α)} {r : List α}, allO l = some r → l = r.map some
  | [], r, h => by cases h; rfl
  | none :: _, _, h => by cases h
  | some a :: l, r, h => by
    unfold allO at h
    split at h
    · cases h
      rename_i e
      rw [List.map_cons, ← allO_some e]
    · cases h
theorem allO_map {α : Type} : ∀ r : List α, allO (r.map some) = some r
  | [] => rfl
  | a :: r => by
    rw [List.map_cons]
    unfold allO
    rw [allO_map r]
theorem allO_none {α : Type} {l : List (Option α)} : allO l = none ↔ none ∈ l := by
  induction l with
  | nil => exact ⟨fun h => (nomatch h), fun h => absurd h List.not_mem_nil⟩
  | cons a l ih =>
    cases a with
    | none => exact ⟨fun _ => List.mem_cons_self, fun _ => rfl⟩
    | some a =>
      unfold allO
      constructor
      · intro h
        split at h
        · cases h
        · rename_i e
          exact List.mem_cons_of_mem _ (ih.mp e)
      · intro h
        rcases List.mem_cons.mp h with h | h
        · cases h
        · rw [ih.mpr h]
theorem allO_snoc {α : Type} {l : List (Option α)} {r : List α} {a : α} (h : allO l = some r) : allO (l ++ [some a]) = some (r ++ [a]) := by
  rw [allO_some h]
  have : r.map some ++ [some a] = (r ++ [a]).map some := by rw [List.map_append]; rfl
  rw [this, allO_map]
/-! ### what a text writes -/
theorem nameB_strOk {x : Str} (h : nameB x = true) : PyData.strOk x = true := strOk_iff.mpr fun c hc => by
  have := (nameB_low h).2.2 c hc
  omega
noncomputable def entO (x : Str) : Option Ent := match Txt.split x "=" with
  | [a, b] => (match fewO a 0 1152921504606846975 with
    | some n => if h : nameB b = true then some (n, ⟨b, nameB_strOk h⟩) else none
    | none => none)
  | _ => none
noncomputable def rowO (x : Str) : Option Row := if x = "-" then some [] else allO ((Txt.split x ",").map entO)
noncomputable def rowsO (x : Str) : Option (List Row) := if x = "none" then some [] else allO ((Txt.split x ";").map rowO)
noncomputable def stepR : Option Int → Option Int → Option Row → Option Stp
  | some m, some n, some r => some (.row m n r)
  | _, _, _ => none
noncomputable def stepC : Option Int → Option Int → Option Stp
  | some m, some n => some (.cut m n)
  | _, _ => none
noncomputable def stepM : Option Int → Option Stp
  | some m => some (.rooms m)
  | none => none
noncomputable def stepP : List Str → Option Stp
  | [a, b, c, d] => if a = "row" then stepR (fewO b 0 130) (fewO c 0 130) (rowO d) else none
  | [a, b, c] => if a = "cut" then stepC (fewO b 0 130) (fewO c 0 130) else none
  | [a, b] => if a = "rooms" then stepM (fewO b 1 130) else none
  | _ => none
noncomputable def stepO (x : Str) : Option Stp := stepP (Txt.split x " ")
noncomputable def lastE (h : List (List Row)) : Bool := decide (h ≠ []) && decide (h.getLast? = some [])
noncomputable def yardQ : Option Int → Option Int → Option (List (List Row)) → Option Yard
  | some m, some n, some h => if lastE h = true then none else some ⟨m, n, h⟩
  | _, _, _ => none
noncomputable def yardP : List Str → Option Yard
  | a :: b :: r => yardQ (fewO a 1 8) (fewO b 1 130) (allO (r.map rowsO))
  | _ => none
noncomputable def yardO (x : Str) : Option Yard := yardP (Txt.split x " ")
section
variable {a b : Str} {r : List Str}
theorem yardP_cons : yardP (a :: b :: r) = yardQ (fewO a 1 8) (fewO b 1 130) (allO (r.map rowsO)) := rfl
theorem yardP_w (h : fewO a 1 8 = none) : yardP (a :: b :: r) = none := by
  rw [yardP_cons, h]
  rfl
theorem yardP_b (h : fewO b 1 130 = none) : yardP (a :: b :: r) = none := by
  rw [yardP_cons, h]
  cases fewO a 1 8 <;> rfl
theorem yardP_r (h : allO (r.map rowsO) = none) : yardP (a :: b :: r) = none := by
  rw [yardP_cons, h]
  cases fewO a 1 8 <;> cases fewO b 1 130 <;> rfl
theorem yardP_yes {m n : Int} {h : List (List Row)} (ha : fewO a 1 8 = some m) (hb : fewO b 1 130 = some n) (hr : allO (r.map rowsO) = some h) : yardP (a :: b :: r) = if lastE h = true then none else some ⟨m, n, h⟩ := by
  rw [yardP_cons, ha, hb, hr]
  rfl
theorem fewO_none {a : Str} {i j : Int} (h : numO a = none) : fewO a i j = none := by
  unfold fewO
  rw [h]
theorem yardP_a (h : numO a = none) : yardP (a :: b :: r) = none := yardP_w (fewO_none h)
theorem lastE_snoc {l : List (List Row)} {x : List Row} : lastE (l ++ [x]) = decide (x = []) := by
  unfold lastE
  rw [decide_eq_true (by simp), List.getLast?_append]
  cases x <;> rfl
end
/-! ### split, by one sign -/
theorem spl_ne (S : List Nat) : ∀ (l : List Nat) (k : Nat) (acc : List Nat), TL.spl S k acc l ≠ []
  | [], k, acc => by rw [TL.spl_nil]; exact List.cons_ne_nil _ _
  | c :: r, 0, acc => by
    show (if pre S (c :: r) = true then acc :: TL.spl S (S.length - 1) [] r else TL.spl S 0 (acc ++ [c]) r) ≠ []
    split
    · exact List.cons_ne_nil _ _
    · exact spl_ne S r _ _
  | _ :: r, k + 1, acc => spl_ne S r k acc
/-- a separator of one sign -/
noncomputable def Sep (y : Str) (s : Nat) : Prop := tl y = [s] ∧ y.cps.all (· < 256) = true
theorem Sep.spl {x y : Str} {s : Nat} (h : Sep y s) : (Txt.split x y).map tl = TL.spl [s] 0 [] (tl x) := by
  have := split_spl x y (by rw [h.1]; exact List.cons_ne_nil _ _) (kind_ok h.2)
  rw [this, h.1]
theorem Sep.len {y : Str} {s : Nat} (h : Sep y s) : y.length = 1 := by rw [len_tl, h.1]; rfl
theorem split_sum {x y : Str} {s : Nat} (h : Sep y s) : ((Txt.split x y).map (·.length)).sum + (Txt.split x y).length ≤ x.length + 1 ∧ 1 ≤ (Txt.split x y).length := by
  have e := PySem.StrLaws.join_split x y
  have hy := h.len
  have go : ∀ l : List Str, l ≠ [] → (l.map (·.length)).sum + l.length ≤ (Str.join y l).length + 1 := by
    intro l
    induction l with
    | nil => intro h; exact absurd rfl h
    | cons a l ih =>
      intro _
      cases l with
      | nil =>
        show a.length + 0 + 1 ≤ a.length + 1
        omega
      | cons b l =>
        have := ih (List.cons_ne_nil _ _)
        have e2 : (Str.join y (a :: b :: l)).length = a.length + y.length + (Str.join y (b :: l)).length := by
          show (a ++ y ++ Str.join y (b :: l)).length = _
          rw [len_app, len_app]
        rw [e2, List.map_cons, List.sum_cons, List.length_cons]
        omega
  have ne : Txt.split x y ≠ [] := fun z => spl_ne [s] (tl x) 0 [] (by rw [← h.spl, z]; rfl)
  have := go _ ne
  rw [e] at this
  exact ⟨this, List.length_pos_iff.mpr ne⟩
theorem split_part {x y p : Str} {s : Nat} (h : Sep y s) (hp : p ∈ Txt.split x y) : p.length ≤ x.length := by
  have h1 := (split_sum (x := x) h).1
  have h2 : p.length ≤ ((Txt.split x y).map (·.length)).sum := by
    have : ∀ l : List Str, p ∈ l → p.length ≤ (l.map (·.length)).sum := by
      intro l
      induction l with
      | nil => intro h; exact absurd h List.not_mem_nil
      | cons a l ih =>
        intro h
        rw [List.map_cons, List.sum_cons]
        rcases List.mem_cons.mp h with h | h
        · rw [h]; omega
        · have := ih h
          omega
    exact this _ hp
  have h3 := (split_sum (x := x) h).2
  omega
theorem split_no {x y : Str} {s : Nat} (h : Sep y s) (n : s ∉ tl x) : Txt.split x y = [x] := by
  refine TL.map_tl_inj ?_
  rw [h.spl, spl_last1 n]
  rfl
theorem split_yes {y a b : Str} {s : Nat} (h : Sep y s) (n : s ∉ tl a) : Txt.split (a ++ y ++ b) y = a :: Txt.split b y := by
  refine TL.map_tl_inj ?_
  rw [h.spl, List.map_cons, h.spl, tl_append, tl_append, h.1, List.append_assoc]
  have := spl_part1 (s := s) (S := []) (p := tl a) (rest := tl b) (acc := []) n
  rw [List.nil_append] at this
  exact this
/-- a text with the sign is cut at its first -/
theorem cut_first {s : Nat} : ∀ {l : List Nat}, s ∈ l → ∃ a b, l = a ++ s :: b ∧ s ∉ a
  | c :: l, h => by
    by_cases e : c = s
    · exact ⟨[], l, by rw [e]; rfl, List.not_mem_nil⟩
    · obtain ⟨a, b, e2, n⟩ := cut_first (l := l) ((List.mem_cons.mp h).resolve_left fun z => e z.symm)
      exact ⟨c :: a, b, by rw [e2]; rfl, fun m => (List.mem_cons.mp m).elim (fun z => e z.symm) n⟩
theorem cut_text {y x : Str} {s : Nat} (h : Sep y s) (m : s ∈ tl x) : ∃ a b : Str, x = a ++ y ++ b ∧ s ∉ tl a := by
  obtain ⟨a, b, e, n⟩ := cut_first m
  refine ⟨⟨a.toArray⟩, ⟨b.toArray⟩, tl_ext ?_, n⟩
  rw [tl_append, tl_append, h.1, e]
  show a ++ s :: b = (a ++ [s]) ++ b
  simp
theorem sep_eq : Sep "=" 61 := ⟨rfl, by decide +kernel⟩
theorem sep_co : Sep "," 44 := ⟨rfl, by decide +kernel⟩
theorem sep_se : Sep ";" 59 := ⟨rfl, by decide +kernel⟩
theorem sep_bl : Sep " " 32 := ⟨rfl, by decide +kernel⟩
/-! ### an entry, by partition -/
theorem nameB_no {b : Str} (h : (61 : Nat) ∈ tl b) : nameB b = false := by
  cases c : nameB b with
  | false => rfl
  | true =>
    have := (nameB_low c).2.2 61 h
    omega
theorem entO_no {x : Str} (h : (61 : Nat) ∉ tl x) : entO x = none := by
  unfold entO
  rw [split_no sep_eq h]
theorem entO_yes {a b : Str} (h : (61 : Nat) ∉ tl a) : entO (a ++ "=" ++ b) = (match fewO a 0 1152921504606846975 with
    | some n => if h : nameB b = true then some (n, ⟨b, nameB_strOk h⟩) else none
    | none => none) := by
  unfold entO
  rw [split_yes sep_eq h]
  by_cases m : (61 : Nat) ∈ tl b
  · obtain ⟨c, d, e, n⟩ := cut_text sep_eq m
    have nb := nameB_no m
    rw [e, split_yes sep_eq n, ← e]
    cases hs : Txt.split d "=" with
    | nil =>
      have := (split_sum (x := d) sep_eq).2
      rw [hs] at this
      exact absurd this (by decide)
    | cons u v =>
      cases fewO a 0 1152921504606846975 with
      | none => rfl
      | some k =>
        show none = dite (nameB b = true) _ _
        rw [dif_neg (by rw [nb]; exact Bool.false_ne_true)]
  · rw [split_no sep_eq m]
end TR

/-! == of two tuples whose things are data, or the very same thing -/
namespace L2
open PySem PySem.W PySem.Spec TR
inductive EqV (K : PySem.W.Frag) (H : Hp) : V → V → Bool → Prop where
  | dat {x y : V} {d e : PyData} (h1 : Dp K H x d) (h2 : Dp K H y e) (s1 : SeqAt.shaped d = true) (s2 : SeqAt.shaped e = true) : EqV K H x y (PyData.eqv d e)
  | same (a : Addr) : EqV K H (.ref a) (.ref a) true
noncomputable def rEqT (K : PySem.W.Frag) : R2 := fun x y H Q => ∃ (a b : Addr) (xs ys : List V) (e : Nat → Bool), x = .ref a ∧ y = .ref b ∧ SqT K H a xs ∧ SqT K H b ys ∧ xs.length = ys.length ∧ (∀ (j : Nat) v w, xs[j]? = some v → ys[j]? = some w → EqV K H v w (e j)) ∧ Q (.bl ((List.range xs.length).all e)) H
section
variable {X : Cx}
theorem eqV_at {pins : List (Addr × Obj)} {σ : L2.St} {H : Hp} {s : Shared} (I : Inv X pins σ H s) (hu : X.A.in1.units + 64 < cLine) {v w : V} {b : Bool} {u t : Value} (h : EqV X.K H v w b) (rv : RelV v u) (rw_ : RelV w t) : SeqAt.EqAt X.A.in1 s u t b := by
  cases h with
  | dat h1 h2 s1 s2 =>
    obtain ⟨as, r1⟩ := Dp.reads I _ _ _ h1 rv
    obtain ⟨bs, r2⟩ := Dp.reads I _ _ _ h2 rw_
    exact SeqAt.eqAt_reads _ _ _ s _ _ as bs r1 r2 (SeqAt.canLay_of_shaped s1) (SeqAt.canLay_of_shaped s2) (SeqAt.room_of_shaped s1 hu)
  | same a =>
    obtain rfl : u = Value.ref a := rv
    obtain rfl : t = Value.ref a := rw_
    exact SeqAt.EqAt.same _
theorem Room.u65 {k : Nat} {A : Around} (r : Room k A) : A.units + 65 < cLine := by have := r.un; omega
end
end L2

/-! rules for any text, read: a raising comprehension over a list, None in a list, a call by value, '1' * n, partition -/
namespace L2
open PySem PySem.W PySem.Spec TR
/-- None among data -/
noncomputable def rNoneD (K : PySem.W.Frag) (neg : Bool) : R2 := fun x y H Q => ∃ p xs, x = .non ∧ y = .ref p ∧ SqL K H p xs ∧ (∀ z ∈ xs, ∃ d, Dp K H z d ∧ SeqAt.shaped d = true ∧ PyData.eqv d .none = isNon z) ∧ Q (.bl (if neg then !xs.any isNon else xs.any isNon)) H
theorem isNone_val {z : V} {u : Value} (r : RelV z u) : PySem.Numpy.isNone u = isNon z := by
  cases z <;> first | (cases r; rfl) | (obtain ⟨_, rfl⟩ := r; rfl)
theorem isNone_any : ∀ {xs : List V} {us : List Value}, Vals xs us → us.any PySem.Numpy.isNone = xs.any isNon
  | _, _, .nil => rfl
  | _, _, .cons r t => by rw [List.any_cons, List.any_cons, isNone_val r, isNone_any t]
section
variable {X : Cx}
theorem none_at {pins : List (Addr × Obj)} {σ : L2.St} {H : Hp} {s : Shared} (I : Inv X pins σ H s) (hu : X.A.units + 65 < cLine) : ∀ {xs : List V} {us : List Value}, Vals xs us → (∀ z ∈ xs, ∃ d, Dp X.K H z d ∧ SeqAt.shaped d = true ∧ PyData.eqv d .none = isNon z) → ∀ u ∈ us, SeqAt.EqAt X.A.in1 s u .none (PySem.Numpy.isNone u)
  | _, _, .nil, _ => fun u hu' => by cases hu'
  | y :: xs, u :: us, .cons r t, f => fun u' hu' => by
    rcases List.mem_cons.mp hu' with e | hu'
    · subst e
      obtain ⟨d, d1, d2, d3⟩ := f y List.mem_cons_self
      rw [isNone_val r, ← d3]
      exact eqV_at (v := y) (w := .non) I (by rw [Around.in1_units]; omega) (.dat d1 .non d2 rfl) r rfl
    · exact none_at I hu t (fun z hz => f z (List.mem_cons_of_mem _ hz)) u' hu'
theorem op_noneD {neg : Bool} (hu : X.A.units + 65 < cLine) : OpR X (compareOp (if neg then .NotIn else .In)) (rNoneD X.K neg) := by
  intro pins s σ H x y v u Q I rx ry h
  obtain ⟨p, xs, rfl, rfl, hq, f, q⟩ := h
  cases rx
  cases ry
  obtain ⟨its, rv, hl, _⟩ := I.list hq
  have e : its.toArray.any PySem.Numpy.isNone = xs.any isNon := by
    have := isNone_any rv
    simpa using this
  cases neg with
  | false =>
    refine SeqAt.in_listAt PySem.Numpy.isNone hl.isList (fun z hz => none_at I hu rv f z (by simpa using hz)) ⟨.bl _, H, I, rfl, ?_⟩
    rw [e]
    exact q
  | true =>
    refine SeqAt.notIn_listAt PySem.Numpy.isNone hl.isList (fun z hz => none_at I hu rv f z (by simpa using hz)) ⟨.bl _, H, I, rfl, ?_⟩
    rw [e]
    exact q
theorem noneInA {K : PySem.W.Frag} (hk : X.K = K) (hu : X.A.units + 65 < cLine) : OpR X (compareOp .In) (rNoneD K false) := hk ▸ op_noneD (neg := false) hu
theorem noneNiA {K : PySem.W.Frag} (hk : X.K = K) (hu : X.A.units + 65 < cLine) : OpR X (compareOp .NotIn) (rNoneD K true) := hk ▸ op_noneD (neg := true) hu
/-- a text, so many times -/
noncomputable def rMulS : R2 := fun x y H Q => ∃ a n, x = .str a ∧ y = .int n ∧ MulOk a n ∧ Q (.str (Txt.mul a n)) H
theorem op_mulS : OpR X (binaryOp .Mult) rMulS := by
  intro pins s σ H x y v u Q I rx ry h
  obtain ⟨a, n, rfl, rfl, ok, q⟩ := h
  obtain ⟨t, rfl⟩ := rx
  obtain ⟨t', rfl⟩ := ry
  exact PySem.SB.mul ok fun t2 k => ⟨.str _, H, I.tok k, ⟨t2, rfl⟩, q⟩
end
end L2
namespace TR
open PySem L2 PySem.Spec PyProof.Rows
/-- one of several defs, by value -/
noncomputable def tCallV (mg : Str → Option Value) (A : List (Str × Sp)) (tf : TE) (t : TA) : TE := fun σ H Q => tf σ H fun v H1 => ∃ x sp f, (x, sp) ∈ A ∧ mg x = some (.ref f) ∧ v = .ref f ∧ t σ H1 fun vs H2 => sp vs H2 Q E0
noncomputable def fnA (mg : Str → Option Value) (x : Str) : Addr := match mg x with
  | some (.ref f) => f
  | _ => 0
theorem fnA_at {P : Program} {w : World} {K : PySem.W.Frag} {mg : Str → Option Value} {base : Heap} {x : Str} {k : Nat} {sp : Sp} (h : Has P w K mg base x k sp) : mg x = some (.ref (fnA mg x)) := by
  obtain ⟨f, _, _, _, e, _⟩ := h
  unfold fnA
  rw [e]
theorem pe_callV {X : Cx} {mg : Str → Option Value} {k' : Nat} {A : List (Str × Sp)} {pos : Pos} {f e : Expr} {es : List Expr} {tf : TE} {t : TA} (km : X.mg = mg) (hA : ∀ q ∈ A, ∃ k, k ≤ k' ∧ Has X.prog X.w X.K X.mg X.base q.1 k q.2) (hr : Room k' X.A) (hf : PE X f tf) (ha : PA X (e :: es) t)
    (hc : eval (.Call f (e :: es) [] pos) X.env = (do callWith pos (← eval f X.env) [] (backTo pos (starEach (e :: es) X.env)) (backToKw pos (keywordEach [] X.env))) := by rfl)
    (he : starEach (e :: es) X.env = (false, eval e X.env) :: starEach es X.env := by rfl) (hpl : (backTo pos (starEach es X.env)).any (·.1) = false := by rfl) : PE X (.Call f (e :: es) [] pos) (tCallV mg A tf t) := by
  subst km
  refine ⟨fun pins s σ H Q I h => ?_⟩
  refine Call_ (thn (hf.run pins s σ H _ I h) fun u s1 ⟨v, H1, I1, r1, x, sp, g, hm, mx, ev, q⟩ => ?_) hc
  subst ev
  obtain rfl : u = Value.ref g := r1
  obtain ⟨k, hk, g', fd, ps, F, hm', kp, hb⟩ := hA _ hm
  rw [mx] at hm'
  cases hm'
  refine PySem.W.callWith_K (h₀ := X.base) I.ok.mod.kin kp (thn (ha.run pos pins s1 σ H1 _ I1 q) fun us s2 ⟨vs, H2, I2, r, q2⟩ => ⟨I2.kIn, ?_⟩) he hpl
  exact run_fnS (E := fun _ => E0) (F.mono hk) hr hb (fun _ _ _ _ _ _ h => by
    obtain ⟨_, _, _, _, _, _, _, _, _, _, _, _, z⟩ := h
    first
      | done
      | exact z.elim) I2 r q2
noncomputable def rPart : V → List V → Hp → VK → Prop := fun x xs H Q => ∃ a b, x = .str a ∧ xs = [.str b] ∧ (b.length == 0) = false ∧ a.length ≤ sizeLine ∧
  ∀ p, H p = none → Q (.ref p) (upd H p (.tup [.str (Txt.partition a b).1, .str (Txt.partition a b).2.1, .str (Txt.partition a b).2.2]))
theorem t_part {K : PySem.W.Frag} {H Z : Hp} {Q : VK} {a b : Str} (z : Ex Z H) (hb : (b.length == 0) = false) (ha : a.length ≤ 16000000)
    (k : ∀ p Z' H', H p = none → T [] Z H Z' H' → Z' p = some (.tup [.str (Txt.partition a b).1, .str (Txt.partition a b).2.1, .str (Txt.partition a b).2.2]) → Q (.ref p) H') : rPart (.str a) [.str b] H Q :=
  ⟨a, b, rfl, rfl, hb, by rw [sizeLine_eq]; omega, fun p hp => k p _ _ hp (T.new hp z) upd_same⟩
theorem s_lcXL {K : PySem.W.Frag} {W : WX} {tl : TE} {g : TG} {tt : TT} {te : XK → TE} {vs : List Nat} {σ : L2.St} {H : Hp} {Q : VK} (q : tl σ H fun x H1 => LcL K g tt (te fun cls d H' => W cls d σ H') vs σ x H1 Q) : tLcX W (iList K tl) g tt te vs σ H Q := q
section
variable {K : PySem.W.Frag} {σ : L2.St} {H Z : Hp} {te : TE} {Q : VK} {g : TG} {vs : List Nat} {p : Addr} {us : List V}
/-- over a list: what each thing gives, or nothing: then it is left -/
theorem c_mapXO {β γ : Type} [Py γ] {G : V → β → Prop} {L : List β} {Er : Hp → Prop} (F : β → Option γ) (zh : Ex Z H) (h1 : H p = some (.lst us)) (pr : Paired G us L) (hz : L.length ≤ 4000000)
    (turn : ∀ u x Z1 H1, G u x → x ∈ L → T [] Z H Z1 H1 → ∀ A : VK, (∀ v y Z3 H3, F x = some v → T [] Z1 H1 Z3 H3 → Ik Z3 y v → A y H3) → (F x = none → ∀ Z3 H3, T [] Z1 H1 Z3 H3 → Er H3) → g u (wipe σ vs) H1 fun σ2 H2 => wipe σ2 vs = wipe σ vs ∧ te σ2 H2 A)
    (fin : ∀ D l Z' H', H D = none → allO (L.map F) = some l → T [] Z H Z' H' → Lm Z' H' D l → Q (.ref D) H')
    (err : allO (L.map F) = none → ∀ Z' H', T [] Z H Z' H' → Er H') : LcL K g tYes te vs σ (.ref p) H Q := by
  have hl := Paired.length pr
  refine ⟨p, rfl, ⟨us, sq_of h1⟩, fun D hD => ?_⟩
  refine ⟨fun i m H' => m = L.length - i ∧ i ≤ L.length ∧ ∃ Z', T [] Z H Z' H' ∧ ∃ l : List γ, allO ((L.take i).map F) = some l ∧ l.length ≤ i ∧ Lm Z' H' D l,
    ⟨L.length, by omega, by omega, Z, T.newM hD zh, [], rfl, Nat.le_refl _, ⟨⟨[], upd_same, .nil⟩, Ex.back zh hD, (T.newM (M := []) (o := .lst []) hD zh).zh⟩⟩, ?_⟩
  rintro i m H' ⟨rfl, hi, Z', t, l, hA, hlen, lm⟩
  by_cases hlt : i < L.length
  · refine .inr ⟨⟨us, us[i]'(by omega), sq_of (t.hp nm_nil h1), List.getElem?_eq_getElem (by omega)⟩, fun H'' => i + 1 ≤ L.length ∧ ∃ Z', T [] Z H Z' H'' ∧ ∃ l : List γ, allO ((L.take (i + 1)).map F) = some l ∧ l.length ≤ i + 1 ∧ Lm Z' H'' D l,
      fun H'' q => ⟨L.length - (i + 1), by omega, rfl, q⟩, fun v H2 hy => ?_⟩
    obtain ⟨rfl, fv⟩ := hy
    have hv := fv _ (sq_of (t.hp nm_nil h1))
    obtain ⟨q, hq, gq⟩ := pair_at pr hv
    rw [lc_yes]
    have et : L.take (i + 1) = L.take i ++ [q] := by rw [List.take_add_one, hq]; rfl
    refine turn v q Z' H2 gq (List.mem_of_getElem? hq) t _ (fun w y Z3 H3 hF t3 iy => ?_) fun hF Z3 H3 t3 => ?_
    · have lm3 := lm.tt t3 nm_nil
      have t4 : T [] Z H Z3 H3 := t.step t3 mm_nil
      obtain ⟨⟨ws, f1, f2⟩, z1, z2⟩ := id lm3
      have t5 : T [D] Z3 H3 Z3 (upd H3 D (.lst (ws ++ [y]))) := T.set lm3.mu t4.zh
      have hw := Paired.length f2
      refine ⟨ws, f1, ?_, by omega, Z3, t4.step t5 (mm_cons (.inr hD) mm_nil), l ++ [w], ?_, ?_, ⟨⟨_, upd_same, Paired.snoc f2 iy⟩, z1, t5.zh⟩⟩
      · rw [sizeLine_eq]
        omega
      · rw [et, List.map_append]
        show allO (_ ++ [F q]) = _
        rw [hF]
        exact allO_snoc hA
      · rw [List.length_append]
        show _ + 1 ≤ _
        omega
    · refine err (allO_none.mpr ?_) Z3 H3 (t.step t3 mm_nil)
      rw [← hF]
      exact List.mem_map_of_mem (List.mem_of_getElem? hq)
  · have ei : i = L.length := by omega
    subst ei
    rw [List.take_length] at hA
    exact .inl ⟨⟨us, sq_of (t.hp nm_nil h1), by omega⟩, fin D l Z' H' hD hA t lm⟩
/-- .. nothing is left -/
theorem c_mapB {β γ : Type} [Py γ] {G : V → β → Prop} {L : List β} (F : β → γ) (zh : Ex Z H) (h1 : H p = some (.lst us)) (pr : Paired G us L) (hz : L.length ≤ 4000000)
    (turn : ∀ u x Z1 H1, G u x → x ∈ L → T [] Z H Z1 H1 → ∀ A : VK, (∀ y Z3 H3, T [] Z1 H1 Z3 H3 → Ik Z3 y (F x) → A y H3) → g u (wipe σ vs) H1 fun σ2 H2 => wipe σ2 vs = wipe σ vs ∧ te σ2 H2 A)
    (fin : ∀ D Z' H', H D = none → T [] Z H Z' H' → Lm Z' H' D (L.map F) → Q (.ref D) H') : LcL K g tYes te vs σ (.ref p) H Q := by
  have e : allO (L.map fun x => some (F x)) = some (L.map F) := by
    rw [show (L.map fun x => some (F x)) = (L.map F).map some by rw [List.map_map]; rfl, allO_map]
  refine c_mapXO (Er := fun _ => False) (fun x => some (F x)) zh h1 pr hz (fun u x Z1 H1 hG hx t A hA _ => turn u x Z1 H1 hG hx t A fun y Z3 H3 t3 iy => hA _ y Z3 H3 rfl t3 iy) (fun D l Z' H' nD hl t lm => ?_) fun h => ?_
  · rw [e] at hl
    cases hl
    exact fin D Z' H' nD t lm
  · rw [e] at h
    cases h
end
end TR

/-! what is handed to the readers: a text, or no text -/
namespace TR
open PySem L2
noncomputable def AnyT (K : PySem.W.Frag) (H : Hp) (v : V) : Prop := (∃ x, v = .str x ∧ x.length ≤ 3000000) ∨ ((∃ n, KindV K H v n) ∧ ∀ x, v ≠ .str x)
noncomputable def ofT {α : Type} (F : Str → Option α) : V → Option α
  | .str x => F x
  | _ => none
theorem ofT_no {α : Type} {F : Str → Option α} {v : V} (h : ∀ x, v ≠ .str x) : ofT F v = none := by
  cases v <;> first | rfl | exact absurd rfl (h _)
/-- isinstance(text, str) of no text -/
theorem s_isiNS {K : PySem.W.Frag} {H : Hp} {Q : VK} {v : V} {n : String} (kv : KindV K H v n) (ns : ∀ x, v ≠ .str x) (q : Q (.bl false) H) : rIsi K [v, .ty "str"] H Q := by
  cases kv with
  | int i => exact s_isiI (b := false) (by decide +kernel) q
  | bl b => exact s_isiB (b := false) (by decide +kernel) q
  | str x h => exact absurd rfl (ns x)
  | non => exact s_isiN (b := false) (by decide +kernel) q
  | lst h => exact s_isiL (b := false) h (by decide +kernel) q
  | tup h => exact s_isiT (b := false) h (by decide +kernel) q
  | dct h => exact s_isiDk h k_ds q
theorem s_isiSS {K : PySem.W.Frag} {H : Hp} {Q : VK} {x : Str} (q : Q (.bl true) H) : rIsi K [.str x, .ty "str"] H Q := s_isiS (b := true) (by decide +kernel) q
section
variable {Z H Z1 H1 : Hp} {D : Addr} {α : Type} [Py α] {l : List α}
theorem lm_fin (t : T [] Z H Z1 H1) (n : H D = none) (lm : Lm Z1 H1 D l) : ∃ Z2, T [] Z H Z2 H1 ∧ Ls Z2 D l := by
  obtain ⟨Z2, H2, e, t2, ls⟩ := lm.frq
  subst e
  exact ⟨Z2, t.step t2 (mm_1 (.inr n)), ls⟩
end
theorem paired_strsX : ∀ xs : List Str, Paired (fun u (x : Str) => u = V.str x) (xs.map V.str) xs
  | [] => .nil
  | _ :: xs => .cons rfl (paired_strsX xs)
theorem len_split {x y : Str} {s : Nat} (h : Sep y s) (hx : x.length ≤ 3000000) : (Txt.split x y).length ≤ 4000000 := by
  have := (split_sum (x := x) h).1
  omega
theorem part_len {x y p : Str} {s : Nat} (h : Sep y s) (hx : x.length ≤ 3000000) (hp : p ∈ Txt.split x y) : p.length ≤ 3000000 := Nat.le_trans (split_part h hp) hx
theorem fewO_of {x : Str} {a b : Int} {n : Int} (h : numO x = some n) : fewO x a b = if a ≤ n ∧ n ≤ b then some n else none := by
  unfold fewO
  rw [h]
theorem fewO_no {x : Str} {a b : Int} (h : numO x = none) : fewO x a b = none := by
  unfold fewO
  rw [h]
end TR

namespace TR
open PySem L2
theorem stepP_none {a : Str} {r : List Str} (h1 : ¬ (a = "row" ∧ (a :: r).length = 4)) (h2 : ¬ (a = "cut" ∧ (a :: r).length = 3)) (h3 : ¬ (a = "rooms" ∧ (a :: r).length = 2)) : stepP (a :: r) = none := by
  rcases r with _ | ⟨b, _ | ⟨c, _ | ⟨d, _ | ⟨e, r⟩⟩⟩⟩
  · rfl
  · exact if_neg fun z => h3 ⟨z, rfl⟩
  · exact if_neg fun z => h2 ⟨z, rfl⟩
  · exact if_neg fun z => h1 ⟨z, rfl⟩
  · rfl
section
variable {a b c d : Str} {r : List Str}
theorem stepP_row : stepP ["row", b, c, d] = stepR (fewO b 0 130) (fewO c 0 130) (rowO d) := by
  show (if ("row" : Str) = "row" then stepR (fewO b 0 130) (fewO c 0 130) (rowO d) else none) = _
  exact if_pos rfl
theorem stepP_cut : stepP ["cut", b, c] = stepC (fewO b 0 130) (fewO c 0 130) := by
  show (if ("cut" : Str) = "cut" then stepC (fewO b 0 130) (fewO c 0 130) else none) = _
  exact if_pos rfl
theorem stepP_rooms : stepP ["rooms", b] = stepM (fewO b 1 130) := by
  show (if ("rooms" : Str) = "rooms" then stepM (fewO b 1 130) else none) = _
  exact if_pos rfl
theorem stepR_2 {y : Option Int} {z : Option Row} : stepR y none z = none := by cases y <;> rfl
theorem stepR_3 {x y : Option Int} : stepR x y none = none := by cases x <;> cases y <;> rfl
theorem stepC_2 {y : Option Int} : stepC y none = none := by cases y <;> rfl
theorem len4 (h : (a :: r).length = 4) : ∃ b c d, r = [b, c, d] := by
  rcases r with _ | ⟨b, _ | ⟨c, _ | ⟨d, _ | ⟨e, r⟩⟩⟩⟩ <;> first | exact ⟨_, _, _, rfl⟩ | (simp at h)
theorem len3 (h : (a :: r).length = 3) : ∃ b c, r = [b, c] := by
  rcases r with _ | ⟨b, _ | ⟨c, _ | ⟨d, r⟩⟩⟩ <;> first | exact ⟨_, _, rfl⟩ | (simp at h)
theorem len2 (h : (a :: r).length = 2) : ∃ b, r = [b] := by
  rcases r with _ | ⟨b, _ | ⟨c, r⟩⟩ <;> first | exact ⟨_, rfl⟩ | (simp at h)
end
end TR

/-! what may be nothing, as data -/
namespace TR
open PySem L2
instance {α : Type} [Py α] : Py (Option (List α)) := ⟨fun o => match o with | none => .none | some p => Py.d p, Py.dep (List α), fun o => by
  cases o with
  | none => exact Nat.zero_le _
  | some p => exact Py.depth p, fun o => by
  cases o with
  | none => rfl
  | some p => exact Py.can p, fun a b => by
  cases a <;> cases b
  · exact ⟨fun _ => rfl, fun _ => rfl⟩
  · exact ⟨fun h => (Bool.false_ne_true h).elim, fun h => (nomatch h)⟩
  · exact ⟨fun h => (Bool.false_ne_true h).elim, fun h => (nomatch h)⟩
  · rename_i x y
    show (PyData.eqv (Py.d x) (Py.d y) = true) ↔ some x = some y
    rw [Py.eqv]
    exact ⟨fun h => congrArg some h, fun h => Option.some.inj h⟩⟩
noncomputable def optY {α : Type} [Py α] : Option α → PyData
  | none => .none
  | some a => Py.d a
theorem opt_int {Z : Hp} {v : V} {m : Int} (h : Ik Z v (some m : Option Int)) : v = .int m := by
  have h' : Dt Z v (.int m) := h
  cases h'
  rfl
section
variable {K : PySem.W.Frag} {Z H : Hp} {Q : VK} {p : Addr} {γ : Type} [Py γ] [Py (Option γ)] {l : List (Option γ)}
theorem isNon_opt (hn : Py.d (none : Option γ) = .none) {z : V} {o : Option γ} (h : Ik Z z o) : PyData.eqv (Py.d o) .none = isNon z ∧ isNon z = o.isNone := by
  have h' : Dt Z z (Py.d o) := h
  have iff : PyData.eqv (Py.d o) .none = true ↔ o = none := by
    rw [← hn]
    exact Py.eqv o none
  have key : isNon z = true ↔ o = none := by
    constructor
    · intro e
      refine iff.mp ?_
      generalize Py.d o = d at h'
      cases h' <;> first | rfl | (exact nomatch (show false = true from e))
    · intro e
      subst e
      rw [hn] at h'
      cases h'
      rfl
  have e2 : isNon z = o.isNone := by
    cases o with
    | none => exact key.mpr rfl
    | some a =>
      cases c : isNon z with
      | false => rfl
      | true => exact nomatch key.mp c
  refine ⟨?_, e2⟩
  cases c : isNon z with
  | true => exact iff.mpr (key.mp c)
  | false =>
    cases c2 : PyData.eqv (Py.d o) .none with
    | false => rfl
    | true => rw [key.mpr (iff.mp c2)] at c; cases c
theorem any_none : ∀ {l : List (Option γ)} {us : List V}, (hn : Py.d (none : Option γ) = .none) → Paired (fun v x => Ik Z v x) us l → us.any isNon = (allO l).isNone
  | _, _, _, .nil => rfl
  | o :: l, u :: us, hn, .cons a t => by
    rw [List.any_cons, (isNon_opt hn a).2, any_none hn t]
    cases o with
    | none => rfl
    | some x =>
      show (false || (allO l).isNone) = (match allO l with
        | some l => some (x :: l)
        | none => none).isNone
      cases allO l <;> rfl
theorem s_noneL {neg : Bool} (z : Ex Z H) (hn : Py.d (none : Option γ) = .none) (hd : Py.dep (Option γ) ≤ 64) (h : Ls Z p l) (q : Q (.bl (if neg then (allO l).isSome else (allO l).isNone)) H) : rNoneD K neg .non (.ref p) H Q := by
  obtain ⟨us, h1, h2⟩ := h
  refine ⟨p, us, rfl, rfl, sq_of (z _ _ h1), fun u hu => ?_, ?_⟩
  · obtain ⟨i, hi⟩ := List.getElem?_of_mem hu
    obtain ⟨o, _, io⟩ := pair_at h2 hi
    exact ⟨Py.d o, (Ik.ex z io).is, shaped_of o hd, (isNon_opt hn io).1⟩
  · rw [any_none hn h2]
    cases neg
    · exact q
    · have : (!(allO l).isNone) = (allO l).isSome := by cases allO l <;> rfl
      rw [if_pos rfl, this]
      exact q
theorem ls_all (hs : ∀ a : γ, Py.d (some a : Option γ) = Py.d a) {r : List γ} (h : Ls Z p l) (e : allO l = some r) : Ls Z p r := by
  obtain ⟨us, h1, h2⟩ := h
  refine ⟨us, h1, ?_⟩
  rw [allO_some e] at h2
  have go : ∀ (us : List V) (r : List γ), Paired (fun v x => Ik Z v x) us (r.map some) → Paired (fun v x => Ik Z v x) us r := by
    intro us r
    induction r generalizing us with
    | nil => intro h; cases h; exact .nil
    | cons a r ih =>
      intro h
      cases h with
      | cons g t => exact .cons (by have g' : Dt Z _ (Py.d (some a : Option γ)) := g; rw [hs] at g'; exact g') (ih _ t)
  exact go us r h2
end
end TR

/-! isinstance of an exception that a suite holds: it has its own dict -/
namespace TR
open PySem L2 PySem.Spec PyProof.Rows
structure IsxC (K : PySem.W.Frag) (C : Addr) : Prop where
  x : XfC K C
  ha : PySem.W.findIn K (.ref C) "__class__" = some (some (.builtin "object.__class__"))
  hn : PySem.W.specialIn K (.builtin "object.__class__") "__get__" = some (some (.builtin "getset_descriptor.__get__"))
  ht : PySem.W.takesIn K (.builtin "object.__class__") = some true
  hm : PySem.W.mroIn K C (.type "object") = some true
/-- isinstance(e, c) | isinstance(e, (c1, c2, ..)): a the exception, cls its class, d its dict -/
noncomputable def rIsX (K : PySem.W.Frag) (a : Addr) (cls : Value) (d : Option Addr) (D : Addr) : List V → Hp → VK → Prop := fun xs H Q => ∃ (c : V) (u : Value) (b : Bool) (dd : Addr) (fs : List (Str × V)), xs = [.ref a, c] ∧ cls = .ref D ∧ d = some dd ∧ H dd = some (.xd fs) ∧ ClsV c u ∧ PySem.W.kitOne K (.ref D) u = some b ∧ Q (.bl b) H
noncomputable def rIsXT (K : PySem.W.Frag) (a : Addr) (cls : Value) (d : Option Addr) (D : Addr) : List V → Hp → VK → Prop := fun xs H Q => ∃ (tp : Addr) (cs : List V) (us : List Value) (b : Bool) (dd : Addr) (fs : List (Str × V)), xs = [.ref a, .ref tp] ∧ cls = .ref D ∧ d = some dd ∧ H dd = some (.xd fs) ∧ H tp = some (.tup cs) ∧ Paired ClsV cs us ∧ PySem.W.kitAny K (.ref D) us = some b ∧ Q (.bl b) H
section
variable {X : Cx} {K : PySem.W.Frag} {a D : Addr} {oe : Obj} {cls : Value} {d : Option Addr} {pn : List (Addr × Obj)}
theorem isx_kit {od : Option Obj} (C : IsxC K D) : PySem.W.KitX K (.ref a) (.ref D) (fun h => PySem.W.InstAt h a oe D od) := by
  obtain ⟨cd, hc, _⟩ := PySem.W.any_some C.x.hdC
  exact PySem.W.kitx_exc (by rw [hc]; rfl) C.x.ga C.x.gg C.x.exC C.ha C.hn C.ht C.hm
end
section
variable {K : PySem.W.Frag} {H : Hp} {Q : VK} {a D dd tp : Addr} {fs : List (Str × V)} {b : Bool}
theorem exm_kit {t : Value} {C : Addr} (h : PySem.W.exmOne K t (.ref C) = some b) : PySem.W.kitCls K t (.ref C) = some b := by
  unfold PySem.W.exmOne at h
  split at h
  · exact h
  · cases h
theorem kit_yes {t : Value} {C : Addr} (h : PySem.W.exmOne K t (.ref C) = some true) : PySem.W.kitOne K t (.ref C) = some true := by
  unfold PySem.W.kitOne
  split
  · rfl
  · exact exm_kit h
theorem kit_no {C : Addr} (h : PySem.W.exmOne K (.ref D) (.ref D) = some true) (h2 : PySem.W.exmOne K (.ref D) (.ref C) = some false) : PySem.W.kitOne K (.ref D) (.ref C) = some false := by
  unfold PySem.W.kitOne
  split
  · rename_i e
    have : D = C := Value.ref.inj (beq_iff_eq.mp e)
    subst this
    rw [h] at h2
    cases h2
  · exact exm_kit h2
theorem kit_ty' {T : String} (h : PySem.W.subIn K (.ref D) (.type T) = some b) (m : PySem.W.kitMeta T = true) : PySem.W.kitOne K (.ref D) (.type T) = some b := by
  unfold PySem.W.kitOne
  rw [if_neg (by intro e; cases beq_iff_eq.mp e)]
  unfold PySem.W.kitCls
  dsimp only
  rw [if_pos m]
  exact h
theorem meta_ve : PySem.W.kitMeta "ValueError" = true := by decide +kernel
theorem any_no {t c : Value} {cs : List Value} (h : PySem.W.kitOne K t c = some false) (h2 : PySem.W.kitAny K t cs = some b) : PySem.W.kitAny K t (c :: cs) = some b := kitAny_cons h (fun _ => h2) fun c => by cases c
theorem isx_mk {h : Heap} (X : K.In h) {x : Str} {C : Addr} (aC : PySem.W.nsIn K mainGlobals x = some (some (.ref C))) (ga : PySem.W.findIn K (.ref C) "__getattribute__" = some (some (.builtin "BaseException.__getattribute__")))
    (gg : PySem.W.findIn K (.ref C) "__getattr__" = some none) (exC : PySem.W.subIn K (.ref C) (.type "BaseException") = some true) (hdC : PySem.W.hasDictIn K C = true) (ha : PySem.W.findIn K (.ref C) "__class__" = some (some (.builtin "object.__class__")))
    (hn : PySem.W.specialIn K (.builtin "object.__class__") "__get__" = some (some (.builtin "getset_descriptor.__get__"))) (ht : PySem.W.takesIn K (.builtin "object.__class__") = some true)
    (hm : PySem.W.mroIn K C (.type "object") = some true) : IsxC (L2.KOf X) (clsA (L2.KOf X) x) := by
  show IsxC K (clsA K x)
  rw [clsA_of aC]
  exact ⟨⟨ga, gg, exC, hdC⟩, ha, hn, ht, hm⟩
theorem sve_mk {h : Heap} (X : K.In h) {x : Str} {C : Addr} (aC : PySem.W.nsIn K mainGlobals x = some (some (.ref C))) (hs : PySem.W.subIn K (.ref C) (.type "ValueError") = some true) : PySem.W.subIn (L2.KOf X) (.ref (clsA (L2.KOf X) x)) (.type "ValueError") = some true := by
  show PySem.W.subIn K (.ref (clsA K x)) (.type "ValueError") = some true
  rw [clsA_of aC]
  exact hs
end
end TR

/-! several except clauses, with names or without -/
namespace TR
open PySem L2 PySem.Spec PyProof.Rows
noncomputable abbrev Cl : Type := Value × Option Nat × (Addr → Value → Option Addr → TS)
/-- what the clauses wish of an exception of the body, one behind the other -/
noncomputable def wCl (K : PySem.W.Frag) (Wout : WX) (D : Ends) : List Cl → WX
  | [] => Wout
  | (c, some i, ts) :: r => wAs K c i ts (wCl K Wout D r) D
  | (c, none, ts) :: r => wMany K (wCl K Wout D r) D [(c, ts)]
inductive ClOk (X : Cx) : ExceptHandler → Cl → Prop
  | plain {x : Str} {c : Value} {ts : Addr → Value → Option Addr → TS} {s₀ : Stmt} {ss : List Stmt} {np p : Pos} (hc : Names X x c)
      (hs : ∀ (a : Addr) (oe : Obj) (cls : Value) (d : Option Addr) (pn : List (Addr × Obj)), Zc cls d oe → (∃ vs, oe.data = .fields vs) → PSs (X.suite a ((a, oe) :: pn)) (s₀ :: ss) (ts a cls d)) :
      ClOk X (.ExceptHandler (some (.Name x np)) none (s₀ :: ss) p) (c, none, ts)
  | named {x n : Str} {c : Value} {i : Nat} {ts : Addr → Value → Option Addr → TS} {s₀ : Stmt} {ss : List Stmt} {np p : Pos} (hc : Names X x c) (hi : X.N[i]? = some n) (hl : X.env.kindOf n = some .local)
      (hs : ∀ (a : Addr) (oe : Obj) (cls : Value) (d : Option Addr) (pn : List (Addr × Obj)), Zc cls d oe → (∃ vs, oe.data = .fields vs) → PSs (X.suite a ((a, oe) :: pn)) (s₀ :: ss) (ts a cls d)) :
      ClOk X (.ExceptHandler (some (.Name x np)) (some n) (s₀ :: ss) p) (c, some i, ts)
inductive ClsOk (X : Cx) : List ExceptHandler → List Cl → Prop
  | nil : ClsOk X [] []
  | cons {h : ExceptHandler} {l : Cl} {hs : List ExceptHandler} {ls : List Cl} (a : ClOk X h l) (r : ClsOk X hs ls) : ClsOk X (h :: hs) (l :: ls)
section
variable {X : Cx} {body : List Stmt} {h0 : ExceptHandler} {hs0 : List ExceptHandler} {ls0 : List Cl} {pos : Pos} {tb : WX → TS} {Wout : WX}
end
end TR

/-! an exception that a suite holds, handed to a def: isinstance and fields there -/
namespace TR
open PySem L2 PySem.Spec PyProof.Rows
/-- the promise of a def that is handed the exception: where it is, its class, its dict -/
noncomputable abbrev SpV := Addr → Value → Option Addr → Hp → VK → Prop
structure FnV (P : Program) (w : World) (K : PySem.W.Frag) (mg : Str → Option Value) (base : Heap) (k : Nat) (f : Addr) (fd : FuncData) (y : Str) (sp : SpV) : Prop where
  run : ∀ (A : Around) (outer : List Env) (s : Shared) (H : Hp) (args : Args) (p : Addr × Obj) (cls : Value) (d : Option Addr) (Q : VK), L2H.RoomH k A → L2H.PinOk outer H s p → Zc cls d p.2 → (∃ vs, p.2.data = .fields vs) → Env0 P w K mg base A outer s H → BindsTo s fd args [(y, .ref p.1)] → sp p.1 cls d H Q →
    codeAny (model P w) A (.call (.ref f) args) (CR CX0 outer P w H s Q E0) s
noncomputable def HasV (P : Program) (w : World) (K : PySem.W.Frag) (mg : Str → Option Value) (base : Heap) (x : Str) (k : Nat) (sp : SpV) : Prop :=
  ∃ f fd y, FnV P w K mg base k f fd y sp ∧ mg x = some (.ref f) ∧ PySem.W.keepIn K (.ref f) = true ∧ Binds K fd [y] []
section
variable {P : Program} {w : World} {K : PySem.W.Frag} {mg : Str → Option Value} {base : Heap}
end
/-- f(e) within the suite -/
noncomputable def tCallSx (sp : SpV) (a : Addr) (cls : Value) (d : Option Addr) (te : TE) : TE := fun σ H Q => te σ H fun x H1 => x = .ref a ∧ sp a cls d H1 Q
section
variable {X : Cx} {a : Addr} {oe : Obj} {cls : Value} {d : Option Addr} {pn : List (Addr × Obj)}
end
/-- isinstance(e, C) | isinstance(e, (C1, ..)) of the exception that stands in the pins -/
noncomputable def rIsV (K : PySem.W.Frag) (a : Addr) (cls : Value) (d : Option Addr) : List V → Hp → VK → Prop := fun xs H Q => ∃ (D : Addr) (c : V) (u : Value) (b : Bool), xs = [.ref a, c] ∧ cls = .ref D ∧ IsxC K D ∧ (∀ dd, d = some dd → ∃ fs, H dd = some (.xd fs)) ∧ ClsV c u ∧ PySem.W.kitOne K (.ref D) u = some b ∧ Q (.bl b) H
noncomputable def rIsVT (K : PySem.W.Frag) (a : Addr) (cls : Value) (d : Option Addr) : List V → Hp → VK → Prop := fun xs H Q => ∃ (D tp : Addr) (cs : List V) (us : List Value) (b : Bool), xs = [.ref a, .ref tp] ∧ cls = .ref D ∧ IsxC K D ∧ (∀ dd, d = some dd → ∃ fs, H dd = some (.xd fs)) ∧ H tp = some (.tup cs) ∧ Paired ClsV cs us ∧ PySem.W.kitAny K (.ref D) us = some b ∧ Q (.bl b) H
section
variable {X : Cx} {K : PySem.W.Frag} {a : Addr} {oe : Obj} {cls : Value} {d : Option Addr}
/-- e.f of it -/
noncomputable def tXfV (K : PySem.W.Frag) (a : Addr) (cls : Value) (d : Option Addr) (f : Str) (te : TE) : TE := fun σ H Q => te σ H fun x H1 => ∃ (C dd : Addr) (fs : List (Str × V)) (v : V), x = .ref a ∧ cls = .ref C ∧ d = some dd ∧ XfC K C ∧ PySem.W.findIn K (.ref C) f = some none ∧ H1 dd = some (.xd fs) ∧ fs.lookup f = some v ∧ Q v H1
end
section
variable {K : PySem.W.Frag} {H : Hp} {Q : VK} {a D tp C dd : Addr} {d : Option Addr} {b : Bool} {cls : Value}
theorem s_isV {c : V} {u : Value} (C : IsxC K D) (hx : ∀ dd, d = some dd → ∃ fs, H dd = some (.xd fs)) (k : ClsV c u) (e : PySem.W.kitOne K (.ref D) u = some b) (q : Q (.bl b) H) : rIsV K a (.ref D) d [.ref a, c] H Q := ⟨D, c, u, b, rfl, rfl, C, hx, k, e, q⟩
theorem s_isVT {cs : List V} {us : List Value} (C : IsxC K D) (hx : ∀ dd, d = some dd → ∃ fs, H dd = some (.xd fs)) (ht : H tp = some (.tup cs)) (k : Paired ClsV cs us) (e : PySem.W.kitAny K (.ref D) us = some b) (q : Q (.bl b) H) : rIsVT K a (.ref D) d [.ref a, .ref tp] H Q := ⟨D, tp, cs, us, b, rfl, rfl, C, hx, ht, k, e, q⟩
/-- the field of an exception that stands in the pins -/
noncomputable def XfVP (K : PySem.W.Frag) (a : Addr) (cls : Value) (d : Option Addr) (f : Str) (x : V) (H1 : Hp) (Q : VK) : Prop := ∃ (C dd : Addr) (fs : List (Str × V)) (v : V), x = .ref a ∧ cls = .ref C ∧ d = some dd ∧ XfC K C ∧ PySem.W.findIn K (.ref C) f = some none ∧ H1 dd = some (.xd fs) ∧ fs.lookup f = some v ∧ Q v H1
/-! the suite's exception handed on -/
noncomputable def SxP (sp : SpV) (a : Addr) (cls : Value) (d : Option Addr) (x : V) (H1 : Hp) (Q : VK) : Prop := x = .ref a ∧ sp a cls d H1 Q
end
end TR

/-! what is told of a text -/
namespace TR
open PySem L2 PySem.Spec PyProof.Rows
section
variable {X : Cx} {K : PySem.W.Frag} {a : Addr} {oe : Obj} {cls : Value} {d : Option Addr}
theorem excM_inst {D : Addr} {pins : List (Addr × Obj)} {σ : L2.St} {H : Hp} {s : Shared} (I : Inv X pins σ H s) (hp : (a, oe) ∈ X.pn) (hz : Zc (.ref D) d oe) (hf : ∃ vs, oe.data = .fields vs) (hx : ∀ dd, d = some dd → ∃ fs, H dd = some (.xd fs)) : ∃ od, PySem.W.InstAt s.heap a oe D od := by
  obtain ⟨ha, _⟩ := I.pin (a, oe) (List.mem_append_left _ hp)
  obtain ⟨vs, hd⟩ := hf
  cases d with
  | none => exact ⟨none, ha, hz.1, by unfold PySem.W.notCls; rw [hd] <;> rfl, by rw [hz.2]; trivial⟩
  | some dd =>
    obtain ⟨fs, hx⟩ := hx dd rfl
    have hx : ObjOk X.prog X.w H s.heap dd (.xd fs) := I.hok dd _ hx
    obtain ⟨mA, hns, hr⟩ := hx
    obtain ⟨od, ho, hl⟩ := lookIn_ns hns
    exact ⟨some od, ha, hz.1, by unfold PySem.W.notCls; rw [hd] <;> rfl, by rw [hz.2]; exact ho⟩
theorem isMA (hk : X.K = K) (hp : (a, oe) ∈ X.pn) (hz : Zc cls d oe) (hf : ∃ vs, oe.data = .fields vs) : CallR X (.builtin "isinstance") (rIsV K a cls d) := by
  subst hk
  intro pins s σ H xs us Q I r h
  obtain ⟨D, c, u, b, rfl, rfl, C, hx, k, e, q⟩ := h
  obtain ⟨u1, u2, rfl, r1, r2⟩ := vals2 r
  cases (show u1 = Value.ref a from r1)
  have e2 := k.eq r2
  subst e2
  obtain ⟨od, J⟩ := excM_inst I hp hz hf hx
  exact PySem.W.kia_one (isx_kit C) I.kIn J e (fun z => nomatch z) fun tk => ⟨.bl b, H, I.tok tk, rfl, q⟩
theorem isMTA (hk : X.K = K) (hp : (a, oe) ∈ X.pn) (hz : Zc cls d oe) (hf : ∃ vs, oe.data = .fields vs) : CallR X (.builtin "isinstance") (rIsVT K a cls d) := by
  subst hk
  intro pins s σ H xs us Q I r h
  obtain ⟨D, tp, cs, ws, b, rfl, rfl, C, hx, hT, k, e, q⟩ := h
  obtain ⟨u1, u2, rfl, r1, r2⟩ := vals2 r
  cases (show u1 = Value.ref a from r1)
  cases (show u2 = Value.ref tp from r2)
  obtain ⟨od, J⟩ := excM_inst I hp hz hf hx
  obtain ⟨_, its, rv, o, h1, h2, n, h3⟩ := (show ObjOk X.prog X.w H s.heap tp (.tup cs) from I.hok tp _ hT)
  have e3 := ClsV.all k rv
  subst e3
  obtain ⟨oc, od', dt, sl⟩ := o
  simp only at h2 h3
  subst h2 h3
  exact PySem.W.kia_tup (isx_kit C) I.kIn J h1 e (fun z => nomatch z) fun tk => ⟨.bl b, H, I.tok tk, rfl, q⟩
end
noncomputable def dueY (way : Int) (v : V) : Option PyData := if way = 0 then (ofT rowsO v).map Py.d else if way = 1 then (ofT stepO v).map Py.d else (ofT yardO v).map Py.d
noncomputable def toldY : Option PyData → PyData
  | some d => .tuple [.str "told", d]
  | none => .tuple [.str "none", .int 0]
end TR

namespace TR
open PySem L2
noncomputable def noneT : Tx := ⟨"none", by decide +kernel⟩
noncomputable def toldT : Tx := ⟨"told", by decide +kernel⟩
noncomputable def noneY : Tx × Int := (noneT, 0)
theorem noneY_ik {H : Hp} {p : Addr} (h : H p = some (.tup [.str "none", .int 0])) : Ik H (.ref p) noneY := .tup h (.cons (.str _) (.cons (.int _) .nil))
theorem stp_ref {H : Hp} {v : V} {s : Stp} (h : Dt H v (Py.d s)) : ∃ p, v = .ref p := by
  cases s with
  | rooms m => obtain ⟨p, e, _⟩ := Ik.rooms_of h; exact ⟨p, e⟩
  | cut r m =>
    have h' : Dt H v (.tuple [.str "cut", .int r, .int m]) := h
    cases h'
    exact ⟨_, rfl⟩
  | row r a w =>
    have h' : Dt H v (.tuple [.str "row", .int r, .int a, Py.d w]) := h
    cases h'
    exact ⟨_, rfl⟩
end TR

/-! texts cut, put together, split and joined: any length -/
namespace TR
open PySem L2 TL
section
variable {K : PySem.W.Frag} {Z H : Hp} {Q : VK} {a b : Addr} {xs ys : List V}
theorem s_slW {x : Str} {lo hi : Option Int} (h : x.length ≤ 16000000) (q : Q (.str (cutS x lo hi)) H) : rSlS (.str x) lo hi H Q := ⟨x, rfl, by rw [sizeLine_eq]; omega, q⟩
theorem t_catW (z : Ex Z H) (h : Z a = some (.lst xs)) (g : Z b = some (.lst ys)) (hz : xs.length + ys.length ≤ 16000000) (k : ∀ p Z' H', H p = none → T [] Z H Z' H' → Z' p = some (.lst (xs ++ ys)) → Q (.ref p) H') : rPlus (.ref a) (.ref b) H Q :=
  .inr (.inl ⟨a, b, xs, ys, rfl, rfl, z _ _ h, z _ _ g, by rw [sizeLine_eq]; omega, fun p hp => k p _ _ hp (T.new hp z) upd_same⟩)
theorem t_revW (z : Ex Z H) (h : Z a = some (.lst xs)) (k : ∀ p Z' H', H p = none → T [] Z H Z' H' → Z' p = some (.lst xs.reverse) → Q (.ref p) H') : rRevL K (.ref a) H Q :=
  ⟨a, xs, rfl, sq_of (z _ _ h), fun p hp => k p _ _ hp (T.new hp z) upd_same⟩
theorem t_slW {lo hi : Option Int} {ps : List Str} (z : Ex Z H) (h : Z a = some (.lst (ps.map V.str))) (q : ∀ p Z' H', H p = none → T [] Z H Z' H' → Z' p = some (.lst ((cutI ps lo hi).map V.str)) → Q (.ref p) H') : rSlL K (.ref a) lo hi H Q :=
  t_slL z (sq_of (z _ _ h)) fun p Z' H' n t f => q p Z' H' n t (by rw [f, cutV_map])
end
noncomputable def lenS (ps : List Str) : Nat := (ps.map (·.length)).sum
theorem lenS_app (ps qs : List Str) : lenS (ps ++ qs) = lenS ps + lenS qs := by
  unfold lenS
  rw [List.map_append, List.sum_append]
theorem lenS_rev (ps : List Str) : lenS ps.reverse = lenS ps := by
  induction ps with
  | nil => rfl
  | cons a r ih =>
    rw [List.reverse_cons, lenS_app, ih]
    unfold lenS
    simp only [List.map_cons, List.map_nil, List.sum_cons, List.sum_nil]
    omega
theorem lenS_split (ps : List Str) (k : Nat) : lenS (ps.take k) + lenS (ps.drop k) = lenS ps := by
  rw [← lenS_app, List.take_append_drop]
theorem lenS_mid2 (ps : List Str) (k j : Nat) : lenS (ps.take k) + lenS ((ps.drop k).take j) + lenS (ps.drop (k + j)) = lenS ps := by
  have h1 := lenS_split ps k
  have h2 := lenS_split (ps.drop k) j
  rw [List.drop_drop] at h2
  omega
/-- a joined text is not much longer -/
theorem join_lenW {y : Str} {s : Nat} {x : Str} {ps qs : List Str} (h : Sep y s) (hp : ps = Txt.split x y) (h1 : lenS qs ≤ 2 * lenS ps) (h2 : qs.length ≤ ps.length + 1) : (Txt.join y qs).length ≤ 2 * x.length + 3 ∧ lenS qs + qs.length * y.length ≤ 2 * x.length + 3 := by
  have a := (split_sum (x := x) h).1
  have b := joinT_len (s := y) (xs := qs)
  have c := h.len
  rw [← hp] at a
  have a' : lenS ps + ps.length ≤ x.length + 1 := a
  have b' : (Txt.join y qs).length ≤ lenS qs + qs.length * y.length := b
  rw [c, Nat.mul_one] at b' ⊢
  omega
theorem cut_lenW (z : Str) (lo hi : Option Int) : (cutS z lo hi).length ≤ z.length := by
  have h : (cutS z lo hi).cps.toList.Sublist z.cps.toList := by
    unfold cutS
    exact (List.take_sublist _ _).trans (List.drop_sublist _ _)
  have h := h.length_le
  rw [Array.length_toList, Array.length_toList] at h
  exact h
theorem sep_any {c : Nat} (h : c ∈ tl " ;,=") : Sep ⟨#[c]⟩ c := by
  have h' : c ∈ [32, 59, 44, 61] := h
  refine ⟨rfl, ?_⟩
  simp only [List.mem_cons, List.not_mem_nil, or_false] at h'
  rcases h' with rfl | rfl | rfl | rfl <;> decide +kernel
/-- the texts that the asker begins with -/
theorem yard_len2 {y : Yard} (h : YardT y) (h1 : y.c.length ≤ 5) (h2 : (y.c.map List.length).sum ≤ 20) : (yardS y).length ≤ 20000 := by
  obtain ⟨⟨a0, a1⟩, ⟨b0, b1⟩, cl, cs, cr, _⟩ := h
  have h1 := num_len (i := y.a) (by omega) (by omega)
  have h2 := num_len (i := y.b) (by omega) (by omega)
  have h3 := held_len cr
  have h4 := joinT_len (s := " ") (xs := [numS y.a, numS y.b] ++ y.c.map rowsS)
  rw [List.map_append, List.sum_append, List.length_append, List.length_map (as := y.c)] at h4
  have h5 : ([numS y.a, numS y.b].map (·.length)).sum = (numS y.a).length + ((numS y.b).length + 0) := rfl
  have h6 : (" " : Str).length = 1 := rfl
  have h7 : [numS y.a, numS y.b].length = 2 := rfl
  rw [h5, h6, h7] at h4
  show (Txt.join " " ([numS y.a, numS y.b] ++ y.c.map rowsS)).length ≤ _
  omega
theorem rows_len2 {rs : List Row} (h : ∀ r ∈ rs, (∀ e ∈ r, EntW e) ∧ r.length ≤ 8) (hl : rs.length ≤ 4) : (rowsS rs).length ≤ 20000 := by
  have := rows_len h
  rw [← len_tl] at this
  omega
theorem step_len2 {s : Stp} (h : StpT s) (h8 : ∀ r a w, s = .row r a w → w.length ≤ 8) : (stepS s).length ≤ 20000 := by
  cases s with
  | row r a w =>
    obtain ⟨r0, r1, a0, a1, hw, hl⟩ := h
    have rl := row_len hw
    have l1 := num_len r0 (by omega)
    have l2 := num_len a0 (by omega)
    have w8 := h8 r a w rfl
    rw [← row_text, len_app, len_app, len_app, len_app, len_app]
    show 4 + _ + 1 + _ + 1 + _ ≤ _
    rw [len_tl (rowS w)]
    omega
  | cut r m =>
    obtain ⟨r0, r1, m0, m1⟩ := h
    have l1 := num_len r0 (by omega)
    have l2 := num_len m0 (by omega)
    have e : stepS (.cut r m) = Txt.join " " (["cut", numS r, numS m] : List Str) := rfl
    rw [e, TL.join_eq]
    show ("cut" ++ " " ++ (numS r ++ " " ++ numS m) : Str).length ≤ _
    rw [len_app, len_app, len_app, len_app]
    show 3 + 1 + (_ + 1 + _) ≤ _
    omega
  | rooms m =>
    obtain ⟨m0, m1⟩ := h
    have l2 := num_len m0 (by omega)
    have e : stepS (.rooms m) = Txt.join " " (["rooms", numS m] : List Str) := rfl
    rw [e, TL.join_eq]
    show ("rooms" ++ " " ++ numS m : Str).length ≤ _
    rw [len_app, len_app]
    show 5 + 1 + _ ≤ _
    omega
end TR

/-! for k92's law: raw lists, a text so many times -/
namespace TR
open PySem L2
theorem t_newW {Z H : Hp} {Q : VK} {vs : List V} (z : Ex Z H) (h : vs.length ≤ 100000) (q : ∀ p Z' H', H p = none → T [] Z H Z' H' → Z' p = some (.lst vs) → Q (.ref p) H') : NewL vs H Q := ⟨sz_of h, fun p hp => q p _ _ hp (T.new hp z) upd_same⟩
theorem rep_size (a : Array Nat) : ∀ (n : Nat) (b : Array Nat), ((List.replicate n a).foldl (· ++ ·) b).size = b.size + n * a.size
  | 0, b => by
    show b.size = _
    omega
  | n + 1, b => by
    show ((List.replicate n a).foldl (· ++ ·) (b ++ a)).size = _
    rw [rep_size a n (b ++ a), Array.size_append, Nat.succ_mul]
    omega
theorem s_mulS {H : Hp} {Q : VK} {n : Int} (h1 : 1 < n) (h2 : n ≤ 16000000) (q : ∀ y : Str, (y.length : Int) = n → Q (.str y) H) : rMulS (.str "1") (.int n) H Q := by
  have hl : ("1" : Str).length = 1 := rfl
  have e63 : (2 : Int) ^ 63 = 9223372036854775808 := by decide
  refine ⟨"1", n, rfl, rfl, ⟨?_, fun _ _ => ?_, fun _ _ => ?_⟩, q _ ?_⟩
  · rw [decide_eq_false (by omega), decide_eq_false (by omega)]
    rfl
  · rw [hl, e63]
    have : (1 : Int) ≤ (9223372036854775808 - 1) / n := Int.le_ediv_of_mul_le (by omega) (by omega)
    omega
  · rw [hl, Nat.one_mul]
    show decide (n.toNat > sizeLine) = false
    rw [sizeLine_eq]
    exact decide_eq_false (by omega)
  · unfold Txt.mul
    rw [if_neg (by omega), hl, show (n == 1) = false from by rw [beq_eq_false_iff_ne]; omega]
    show ((((List.replicate n.toNat ("1" : Str).cps).foldl (· ++ ·) #[]).size : Nat) : Int) = n
    rw [rep_size]
    show ((0 + n.toNat * 1 : Nat) : Int) = n
    omega
theorem fewW_len : ((("0123456789=,;-  abzrowcutmsne" : Str).length : Nat) : Int) = 29 := by decide +kernel
theorem fewW_tl : (((TL.tl "0123456789=,;-  abzrowcutmsne").length : Nat) : Int) = 29 := by decide +kernel
theorem sgnW_len : (((" !\"#$&'()*+,-./0123456789:;<=>?@ABCDEFGHIJKLMNOPQRSTUVWXYZ[\\]^_`abcdefghijklmnopqrstuvwxyz{|}~\n\t" : Str).length : Nat) : Int) = 96 := by decide +kernel
theorem sgnW_tl : (((TL.tl " !\"#$&'()*+,-./0123456789:;<=>?@ABCDEFGHIJKLMNOPQRSTUVWXYZ[\\]^_`abcdefghijklmnopqrstuvwxyz{|}~\n\t").length : Nat) : Int) = 96 := by decide +kernel
theorem strs_any {K : PySem.W.Frag} {H : Hp} {xs : List Str} (h : ∀ x ∈ xs, x.length ≤ 3000000) {j : Nat} {v : V} (e : (xs.map V.str)[j]? = some v) : AnyT K H v := by
  obtain ⟨x, hx, rfl⟩ := List.mem_map.mp (List.mem_of_getElem? e)
  exact .inl ⟨x, rfl, h x hx⟩
end TR

/-! words of T: zh (all of Z stands), zz, pz (what stands in Z), hz (in H), iz (data in Z), sqz, stz, nm (not among), nez, al, hd (the hand), la, mu, li, ls, mm, fz (was not there), tt (the whole way); t, ts: steps -/
open PySem L2 TR
local macro_rules | `(tactic| walk_at "zh") => `(tactic| first
  | assumption
  | exact T.zh (by assumption)
  | exact Ex.refl _
  | exact Hand.z (by assumption))
local macro_rules | `(tactic| walk_at "zhx") => `(tactic| first
  | exact T.zh (by assumption)
  | assumption
  | exact Hand.z (by assumption))
local macro_rules | `(tactic| walk_at "pz") => `(tactic| first
  | assumption
  | (apply T.pz; assumption; walk_at "pz"))
local macro_rules | `(tactic| walk_at "hz") => `(tactic| first
  | assumption
  | (apply T.hp; assumption; walk_at "nm"; walk_at "hz"))
local macro_rules | `(tactic| walk_at "nm") => `(tactic| first
  | exact nm_nil
  | assumption
  | (apply nm_cons; walk_at "nez"; walk_at "nm"))
local macro_rules | `(tactic| walk_at "nez") => `(tactic| first
  | assumption
  | (apply Ne.symm; assumption)
  | (apply ne_alF; assumption; walk_at "al")
  | (apply ne_alB; assumption; walk_at "al"))
local macro_rules | `(tactic| walk_at "al") => `(tactic| first
  | exact Hand.at (by assumption)
  | exact Mu.a (by assumption)
  | exact Lm.at_ (by assumption)
  | exact ⟨_, by assumption⟩
  | (apply T.all; assumption; walk_at "al"))
local macro_rules | `(tactic| walk_at "hd") => `(tactic| first
  | assumption
  | (apply Hand.tt; assumption; walk_at "nm"; walk_at "hd"))
local macro_rules | `(tactic| walk_at "la") => `(tactic| first
  | assumption
  | (apply Lm.tt; assumption; walk_at "nm"; walk_at "la"))
local macro_rules | `(tactic| walk_at "ls") => `(tactic| first
  | assumption
  | (apply Ls.ofInts; walk_at "pz")
  | (apply Ls.tt; assumption; walk_at "ls"))
local macro_rules | `(tactic| walk_at "lsn") => `(tactic| first
  | (walk_at "ls"))
local macro_rules | `(tactic| walk_at "izc") => `(tactic| first
  | assumption
  | exact Ls.is (by assumption)
  | (apply Ik.tt; assumption; walk_at "izc"))
local macro_rules | `(tactic| walk_at "iz") => `(tactic| first
  | exact Ik.int _
  | exact Ik.tx _
  | walk_at "izc"
  | exact Ik.opt _
  | (apply Ik.pair; walk_at "pz"; walk_at "iz"; walk_at "iz")
  | (apply Ik.three; walk_at "pz"; walk_at "iz"; walk_at "iz"; walk_at "iz")
  | (apply Ik.nil; walk_at "pz")
  | (apply Ls.is; walk_at "lsn"))
local macro_rules | `(tactic| walk_at "sqz") => `(tactic| first
  | assumption
  | (apply sq_of; walk_at "pz")
  | (apply T.sqz; assumption; walk_at "sqz"))
local macro_rules | `(tactic| walk_at "stz") => `(tactic| first
  | assumption
  | (apply st_of; walk_at "pz"))
/-! the old words, widened -/
local macro_rules | `(tactic| walk_at "hp") => `(tactic| first
  | assumption
  | exact T.zh (by assumption) _ _ (by assumption)
  | (apply ex_ap; walk_at "zhx"; walk_at "pz")
  | walk_at "hz"
  | (apply ex_ap; assumption; walk_at "hp")
  | (apply exm_ap; assumption; walk_at "ne"; walk_at "hp"))
local macro_rules | `(tactic| walk_at "sq") => `(tactic| first
  | assumption
  | (apply sq_of; walk_at "hp")
  | (apply Ex.sq; walk_at "zhx"; walk_at "sqz")
  | focus (apply Ex.sq; rotate_left; assumption; walk_at "ex"))
local macro_rules | `(tactic| walk_at "st") => `(tactic| first
  | assumption
  | (apply st_of; walk_at "hp")
  | (apply Ex.st; walk_at "zhx"; walk_at "stz")
  | focus (apply Ex.st; rotate_left; assumption; walk_at "ex"))
local macro_rules | `(tactic| walk_at "isK") => `(tactic| first
  | (apply Ik.ex; walk_at "zhx"; walk_at "iz")
  | (apply Ik.nil; walk_at "hp"))
local macro_rules | `(tactic| walk_at "is") => `(tactic| first
  | assumption
  | (apply Ik.is; walk_at "isK"))
/-! steps -/
local macro_rules | `(tactic| walk_at "ig") => `(tactic| first
  | ((with_reducible apply ig_at); walk_at "at")
  | ((with_reducible apply ig_2); omega; intro _ _)
  | ((with_reducible apply ig_3); omega; intro _ _))
local macro_rules | `(tactic| walk_at "q") => `(tactic| first
  | ((with_reducible apply s_var); rfl)
  | (with_reducible (first | apply s_seq | apply s_asg | apply s_gname | apply s_cons | apply s_nil | apply s_call | apply s_op | apply s_c | apply s_if | apply s_test | apply s_ret | apply s_next | apply s_drop | apply s_bl | apply s_and | apply s_or | apply s_not | apply s_CB | apply s_tup | apply s_lst | apply s_tB | apply s_un | apply s_sl | apply s_np | apply s_part)))
local macro_rules | `(tactic| walk_at "t2") => `(tactic| first
  | (with_reducible (first | apply s_chain | apply s_andV | apply s_notV | apply s_I0 | apply s_U | apply s_plusI | apply s_eqI | apply s_neI | apply s_eqS | apply s_int | apply s_BM | apply s_gsub | apply s_augS | apply s_ipI | apply s_forL | apply s_forT | apply s_forR1 | apply s_forS | apply s_lcL | apply s_lcR1))
  | ((with_reducible apply s_wp); rfl)
  | ((with_reducible apply s_mod); walk_at "od"; intro _ _)
  | ((with_reducible apply s_div); walk_at "od"; walk_at "od")
  | (walk_at "pow")
  | ((with_reducible apply s_pow); decide; walk_at "od")
  | ((with_reducible apply s_mulL); walk_at "od")
  | ((with_reducible apply s_mulR); walk_at "od")
  | ((with_reducible apply t_tup); walk_at "zh"; walk_at "od"; intro _ _ _ _ _ _)
  | ((with_reducible apply t_lst0); walk_at "zh"; intro _ _ _ _ _ _ _)
  | ((with_reducible apply t_lst); walk_at "zh"; walk_at "od"; intro _ _ _ _ _ _)
  | ((with_reducible apply drawT); walk_at "hd"; walk_at "od"; walk_at "od"; walk_at "od"; intro _ _ _ _ _ _ _)
  | ((with_reducible apply keyT); walk_at "hd"; walk_at "od"; intro _ _ _ _ _ _ _)
  | ((with_reducible apply thingT); walk_at "hd"; walk_at "od"; intro _ _ _ _ _)
  | ((with_reducible apply openT); walk_at "zh"; walk_at "sq"; walk_at "od"; walk_at "od"; intro _ _ _ _ _ _)
  | (with_reducible apply s_rev)
  | ((with_reducible apply s_lenM); walk_at "sq")
  | ((with_reducible apply s_lenL); walk_at "sq")
  | ((with_reducible apply s_gt2); walk_at "st")
  | ((with_reducible apply s_gt3); walk_at "st")
  | (with_reducible (first | apply s_isN0 | apply s_isN1 | apply s_isN2 | apply s_notN0 | apply s_notN2 | apply s_max2 | apply s_abs | apply s_int1b))
  | ((with_reducible apply s_isiI); walk_at "kit")
  | ((with_reducible apply s_isiB); walk_at "kit")
  | ((with_reducible apply s_isiS); walk_at "kit")
  | ((with_reducible apply s_isiN); walk_at "kit")
  | ((with_reducible apply s_isiT); walk_at "st"; walk_at "kit")
  | ((with_reducible apply s_isiL); walk_at "sq"; walk_at "kit")
  | ((with_reducible apply t_tyLA); walk_at "la")
  | ((with_reducible apply s_tyL); walk_at "sq")
  | ((with_reducible apply t_app); walk_at "la"; walk_at "iz"; walk_at "len"; intro _ _ _ _)
  | ((with_reducible apply ixGo); walk_at "sq"; walk_at "ig")
  | ((with_reducible apply ixGoT); walk_at "st"; walk_at "ig")
  | (with_reducible (first | apply i_t | apply i_f | apply i_nt | apply i_nf))
  | ((with_reducible apply i_dt); (focus (first | trivial | assumption | omega | rfl)))
  | ((with_reducible apply i_df); (focus (first | assumption | omega | exact (fun h => h rfl)))))
local macro_rules | `(tactic| walk_at "t") => `(tactic| first
  | walk_at "q"
  | walk_at "t2")
local macro_rules | `(tactic| walk_at "ts") => `(tactic| ((try dsimp only); (repeat walk_at "t")))
/-! as ts, but it stops at list(..) -/
/-! words for yards (math/yt) -/
local macro_rules | `(tactic| walk_at "ty2") => `(tactic| first
  | walk_at "t2")
local macro_rules | `(tactic| walk_at "ty") => `(tactic| first
  | walk_at "q"
  | walk_at "ty2")
local macro_rules | `(tactic| walk_at "tys") => `(tactic| ((try dsimp only); (repeat walk_at "ty")))
local macro_rules | `(tactic| walk_at "tyN") => `(tactic| ((try dsimp only); (repeat ((fail_if_success (with_reducible apply at_newl)); walk_at "ty"))))

/-! words for dicts (math/dm) -/
local macro_rules | `(tactic| walk_at "al") => `(tactic| first
  | exact Hand.at (by assumption)
  | exact Mu.a (by assumption)
  | exact Lm.at_ (by assumption)
  | exact Dm.at_ (by assumption)
  | exact ⟨_, by assumption⟩
  | (apply T.all; assumption; walk_at "al"))
local macro_rules | `(tactic| walk_at "tv2") => `(tactic| first
  | ((with_reducible apply t_dnew); walk_at "zh"; intro _ _ _ _ _ _)
  | walk_at "ty2")
local macro_rules | `(tactic| walk_at "tv") => `(tactic| first
  | walk_at "q"
  | walk_at "tv2")
local macro_rules | `(tactic| walk_at "tvN") => `(tactic| ((try dsimp only); (repeat ((fail_if_success (with_reducible apply at_newl)); walk_at "tv"))))

/-! words for classes and exceptions -/
local macro_rules | `(tactic| walk_at "tx2") => `(tactic| first
  | (with_reducible (first | apply s_raise0 | apply s_par))
  | (with_reducible (first | apply s_callE))
  | walk_at "tv2")
local macro_rules | `(tactic| walk_at "tx") => `(tactic| first
  | walk_at "q"
  | walk_at "tx2")
local macro_rules | `(tactic| walk_at "txs") => `(tactic| ((try dsimp only); (repeat walk_at "tx")))

/-! words for tables -/
local macro_rules | `(tactic| walk_at "al") => `(tactic| first
  | exact Hand.at (by assumption)
  | exact Mu.a (by assumption)
  | exact Lm.at_ (by assumption)
  | exact Dm.at_ (by assumption)
  | exact ⟨_, by assumption⟩
  | (apply T.all; assumption; walk_at "al"))
namespace Lw
open PySem L2 TR
open PySem.Spec PyProof.Rows

/-! ### the text -/
def topS (i : Nat) : Stmt := PySem.Challenge.pw_tailrooms_k92_texts_spoilt_anywhere.main.body.getD i (.Pass ⟨0, 0, 0, 0⟩)

structure Z (K : PySem.W.Frag) (mg : Str → Option Value) : Prop where
  b_len : mg "len" = none
  b_isinstance : mg "isinstance" = none
  b_str : mg "str" = none
  b_bool : mg "bool" = none
  b_int : mg "int" = none
  b_ValueError : mg "ValueError" = none
  b_range : mg "range" = none
  b_list : mg "list" = none
  b_max : mg "max" = none
  b_abs : mg "abs" = none
  c_LETTERS : ∃ t, mg "LETTERS" = some (.str "abcdefghijklmnopqrstuvwxyz" t)
  c_LONGEST_kinds : ∃ t, mg "LONGEST_kinds" = some (.int 8 t)
  c_KEYS : ∃ t, mg "KEYS" = some (.int 1152921504606846976 t)
  c_FIGURES : ∃ t, mg "FIGURES" = some (.str "0123456789" t)
  c_LONGEST_texts : ∃ t, mg "LONGEST_texts" = some (.int 30 t)
  c_BARE : ∃ t, mg "BARE" = some (.str "-" t)
  c_NONE : ∃ t, mg "NONE" = some (.str "none" t)
  c_MOST : ∃ t, mg "MOST" = some (.int 130 t)
  c_GREATEST : ∃ t, mg "GREATEST" = some (.int 8 t)
  g_TailError : mg "TailError" = some (.ref (clsA K "TailError"))
  g_NoText : mg "NoText" = some (.ref (clsA K "NoText"))
  g_Taken : mg "Taken" = some (.ref (clsA K "Taken"))
  g_NoThing : mg "NoThing" = some (.ref (clsA K "NoThing"))
  g_NoSize : mg "NoSize" = some (.ref (clsA K "NoSize"))
  g_NoRoom : mg "NoRoom" = some (.ref (clsA K "NoRoom"))
  g_NoName : mg "NoName" = some (.ref (clsA K "NoName"))
  g_NoMark : mg "NoMark" = some (.ref (clsA K "NoMark"))
  g_NoLine : mg "NoLine" = some (.ref (clsA K "NoLine"))
  g_NoKey : mg "NoKey" = some (.ref (clsA K "NoKey"))
  g_Lacking : mg "Lacking" = some (.ref (clsA K "Lacking"))
  g_Full : mg "Full" = some (.ref (clsA K "Full"))
  g_Busy : mg "Busy" = some (.ref (clsA K "Busy"))
  ix_NoText : IsxC K (clsA K "NoText")
  sv_NoText : PySem.W.subIn K (.ref (clsA K "NoText")) (.type "ValueError") = some true
  m_NoText_TailError : PySem.W.exmOne K (.ref (clsA K "NoText")) (.ref (clsA K "TailError")) = some true
  m_NoText_NoText : PySem.W.exmOne K (.ref (clsA K "NoText")) (.ref (clsA K "NoText")) = some true
  m_NoText_Busy : PySem.W.exmOne K (.ref (clsA K "NoText")) (.ref (clsA K "Busy")) = some false
  m_NoText_Full : PySem.W.exmOne K (.ref (clsA K "NoText")) (.ref (clsA K "Full")) = some false
  m_NoText_Lacking : PySem.W.exmOne K (.ref (clsA K "NoText")) (.ref (clsA K "Lacking")) = some false
  m_NoText_NoKey : PySem.W.exmOne K (.ref (clsA K "NoText")) (.ref (clsA K "NoKey")) = some false
  m_NoText_NoLine : PySem.W.exmOne K (.ref (clsA K "NoText")) (.ref (clsA K "NoLine")) = some false
  m_NoText_NoMark : PySem.W.exmOne K (.ref (clsA K "NoText")) (.ref (clsA K "NoMark")) = some false
  m_NoText_NoName : PySem.W.exmOne K (.ref (clsA K "NoText")) (.ref (clsA K "NoName")) = some false
  m_NoText_NoRoom : PySem.W.exmOne K (.ref (clsA K "NoText")) (.ref (clsA K "NoRoom")) = some false
  m_NoText_NoSize : PySem.W.exmOne K (.ref (clsA K "NoText")) (.ref (clsA K "NoSize")) = some false
  m_NoText_NoThing : PySem.W.exmOne K (.ref (clsA K "NoText")) (.ref (clsA K "NoThing")) = some false
  m_NoText_Taken : PySem.W.exmOne K (.ref (clsA K "NoText")) (.ref (clsA K "Taken")) = some false
  eb_NoText : ExB K mg "NoText"

noncomputable abbrev s_is_name : Stmt := topS 21

noncomputable abbrev s_is_whole : Stmt := topS 19

noncomputable abbrev s_is_key : Stmt := topS 20

noncomputable abbrev s_read_number : Stmt := topS 29

noncomputable abbrev s_read_entry : Stmt := topS 31

noncomputable abbrev s_read_row : Stmt := topS 32

noncomputable abbrev s_read_rows : Stmt := topS 33

noncomputable abbrev s_read_few : Stmt := topS 30

noncomputable abbrev s_read_step : Stmt := topS 34

noncomputable abbrev s_is_size : Stmt := topS 22

noncomputable abbrev s_read_yard : Stmt := topS 35

noncomputable abbrev s_law_told : Stmt := topS 57

noncomputable abbrev s_law_number : Stmt := topS 51

noncomputable abbrev s_law_read_entry : Stmt := topS 52

noncomputable abbrev s_law_read_row : Stmt := topS 53

noncomputable abbrev s_law_read_rows : Stmt := topS 54

noncomputable abbrev s_law_read_step : Stmt := topS 55

noncomputable abbrev s_law_read_yard : Stmt := topS 56

noncomputable abbrev s_law_right : Stmt := topS 58

noncomputable abbrev s_law_draw : Stmt := topS 38

noncomputable abbrev s_law_spoilt : Stmt := topS 59

noncomputable abbrev s_law_row_text : Stmt := topS 47

noncomputable abbrev s_law_rows_text : Stmt := topS 48

noncomputable abbrev s_law_thing : Stmt := topS 42

noncomputable abbrev s_law_far : Stmt := topS 39

noncomputable abbrev s_law_power : Stmt := topS 40

noncomputable abbrev s_law_key : Stmt := topS 41

noncomputable abbrev s_law_row : Stmt := topS 43

noncomputable abbrev s_law_rows : Stmt := topS 44

noncomputable abbrev s_law_step_text : Stmt := topS 49

noncomputable abbrev s_law_step : Stmt := topS 46

noncomputable abbrev s_law_yard_text : Stmt := topS 50

noncomputable abbrev s_law_yard : Stmt := topS 45

noncomputable abbrev s_law_open : Stmt := topS 37

noncomputable abbrev s_law : Stmt := topS 60

theorem sc_is_name : FnScope ["thing", "sign"] ["thing"] (defScope s_is_name) := ⟨rfl, rfl, rfl, by decide +kernel, rfl, by decide +kernel, by decide +kernel⟩

theorem sc_is_whole : FnScope ["thing"] ["thing"] (defScope s_is_whole) := ⟨rfl, rfl, rfl, by decide +kernel, rfl, by decide +kernel, by decide +kernel⟩

theorem sc_is_key : FnScope ["thing"] ["thing"] (defScope s_is_key) := ⟨rfl, rfl, rfl, by decide +kernel, rfl, by decide +kernel, by decide +kernel⟩

theorem sc_read_number : FnScope ["text", "sign"] ["text"] (defScope s_read_number) := ⟨rfl, rfl, rfl, by decide +kernel, rfl, by decide +kernel, by decide +kernel⟩

theorem sc_read_entry : FnScope ["text", "parts", "key"] ["text"] (defScope s_read_entry) := ⟨rfl, rfl, rfl, by decide +kernel, rfl, by decide +kernel, by decide +kernel⟩

theorem sc_read_row : FnScope ["text", "part"] ["text"] (defScope s_read_row) := ⟨rfl, rfl, rfl, by decide +kernel, rfl, by decide +kernel, by decide +kernel⟩

theorem sc_read_rows : FnScope ["text", "part"] ["text"] (defScope s_read_rows) := ⟨rfl, rfl, rfl, by decide +kernel, rfl, by decide +kernel, by decide +kernel⟩

theorem sc_read_few : FnScope ["text", "least", "number"] ["text", "least"] (defScope s_read_few) := ⟨rfl, rfl, rfl, by decide +kernel, rfl, by decide +kernel, by decide +kernel⟩

theorem sc_read_step : FnScope ["text", "words"] ["text"] (defScope s_read_step) := ⟨rfl, rfl, rfl, by decide +kernel, rfl, by decide +kernel, by decide +kernel⟩

theorem sc_is_size : FnScope ["thing"] ["thing"] (defScope s_is_size) := ⟨rfl, rfl, rfl, by decide +kernel, rfl, by decide +kernel, by decide +kernel⟩

theorem sc_read_yard : FnScope ["text", "words", "wide", "rooms", "held", "word"] ["text"] (defScope s_read_yard) := ⟨rfl, rfl, rfl, by decide +kernel, rfl, by decide +kernel, by decide +kernel⟩

theorem sc_law_told : FnScope ["_law_way", "_law_text", "e", "_law_told_here"] ["_law_way", "_law_text"] (defScope s_law_told) := ⟨rfl, rfl, rfl, by decide +kernel, rfl, by decide +kernel, by decide +kernel⟩

theorem sc_law_number : FnScope ["_law_text", "_law_least", "_law_most", "_law_sign"] ["_law_text", "_law_least", "_law_most"] (defScope s_law_number) := ⟨rfl, rfl, rfl, by decide +kernel, rfl, by decide +kernel, by decide +kernel⟩

theorem sc_law_read_entry : FnScope ["_law_text", "_law_key_here", "_law_equals", "_law_thing_here", "_law_number_here", "_law_sign"] ["_law_text"] (defScope s_law_read_entry) := ⟨rfl, rfl, rfl, by decide +kernel, rfl, by decide +kernel, by decide +kernel⟩

theorem sc_law_read_row : FnScope ["_law_text", "_law_row_here", "_law_part"] ["_law_text"] (defScope s_law_read_row) := ⟨rfl, rfl, rfl, by decide +kernel, rfl, by decide +kernel, by decide +kernel⟩

theorem sc_law_read_rows : FnScope ["_law_text", "_law_rows_here", "_law_part"] ["_law_text"] (defScope s_law_read_rows) := ⟨rfl, rfl, rfl, by decide +kernel, rfl, by decide +kernel, by decide +kernel⟩

theorem sc_law_read_step : FnScope ["_law_text", "_law_words", "_law_numbers", "_law_word"] ["_law_text"] (defScope s_law_read_step) := ⟨rfl, rfl, rfl, by decide +kernel, rfl, by decide +kernel, by decide +kernel⟩

theorem sc_law_read_yard : FnScope ["_law_text", "_law_words", "_law_wide", "_law_rooms", "_law_held", "_law_word"] ["_law_text"] (defScope s_law_read_yard) := ⟨rfl, rfl, rfl, by decide +kernel, rfl, by decide +kernel, by decide +kernel⟩

theorem sc_law_right : FnScope ["_law_text", "_law_way", "_law_due", "_law_told_here"] ["_law_text"] (defScope s_law_right) := ⟨rfl, rfl, rfl, by decide +kernel, rfl, by decide +kernel, by decide +kernel⟩

theorem sc_law_draw : FnScope ["_law_hand", "_law_many", "_law_got", "_law_k", "_law_number_here"] ["_law_hand", "_law_many"] (defScope s_law_draw) := ⟨rfl, rfl, rfl, by decide +kernel, rfl, by decide +kernel, by decide +kernel⟩

theorem sc_law_spoilt : FnScope ["_law_hand", "_law_text", "_law_few", "_law_signs", "_law_way", "_law_at", "_law_between", "_law_sign", "_law_place", "_law_parts", "_law_pair"] ["_law_hand", "_law_text"] (defScope s_law_spoilt) := ⟨rfl, rfl, rfl, by decide +kernel, rfl, by decide +kernel, by decide +kernel⟩

theorem sc_law_row_text : FnScope ["_law_row_here", "_law_words", "_law_key_here", "_law_thing_here"] ["_law_row_here"] (defScope s_law_row_text) := ⟨rfl, rfl, rfl, by decide +kernel, rfl, by decide +kernel, by decide +kernel⟩

theorem sc_law_rows_text : FnScope ["_law_rows_here", "_law_row_here"] ["_law_rows_here"] (defScope s_law_rows_text) := ⟨rfl, rfl, rfl, by decide +kernel, rfl, by decide +kernel, by decide +kernel⟩

theorem sc_law_thing : FnScope ["_law_hand", "_law_letters", "_law_k"] ["_law_hand"] (defScope s_law_thing) := ⟨rfl, rfl, rfl, by decide +kernel, rfl, by decide +kernel, by decide +kernel⟩

theorem sc_law_far : FnScope ["_law_hand", "_law_many", "_law_number_here", "_law_k"] ["_law_hand", "_law_many"] (defScope s_law_far) := ⟨rfl, rfl, rfl, by decide +kernel, rfl, by decide +kernel, by decide +kernel⟩

theorem sc_law_power : FnScope ["_law_many", "_law_number_here", "_law_k"] ["_law_many"] (defScope s_law_power) := ⟨rfl, rfl, rfl, by decide +kernel, rfl, by decide +kernel, by decide +kernel⟩

theorem sc_law_key : FnScope ["_law_hand", "_law_way", "_law_low"] ["_law_hand"] (defScope s_law_key) := ⟨rfl, rfl, rfl, by decide +kernel, rfl, by decide +kernel, by decide +kernel⟩

theorem sc_law_row : FnScope ["_law_hand", "_law_row_here", "_law_k"] ["_law_hand"] (defScope s_law_row) := ⟨rfl, rfl, rfl, by decide +kernel, rfl, by decide +kernel, by decide +kernel⟩

theorem sc_law_rows : FnScope ["_law_hand", "_law_most", "_law_rows_here", "_law_k"] ["_law_hand", "_law_most"] (defScope s_law_rows) := ⟨rfl, rfl, rfl, by decide +kernel, rfl, by decide +kernel, by decide +kernel⟩

theorem sc_law_step_text : FnScope ["_law_step_here", "_law_words", "_law_part"] ["_law_step_here"] (defScope s_law_step_text) := ⟨rfl, rfl, rfl, by decide +kernel, rfl, by decide +kernel, by decide +kernel⟩

theorem sc_law_step : FnScope ["_law_hand", "_law_way", "_law_numbers", "_law_k"] ["_law_hand"] (defScope s_law_step) := ⟨rfl, rfl, rfl, by decide +kernel, rfl, by decide +kernel, by decide +kernel⟩

theorem sc_law_yard_text : FnScope ["_law_yard_here", "_law_words", "_law_rows_here"] ["_law_yard_here"] (defScope s_law_yard_text) := ⟨rfl, rfl, rfl, by decide +kernel, rfl, by decide +kernel, by decide +kernel⟩

theorem sc_law_yard : FnScope ["_law_hand", "_law_wide", "_law_rooms", "_law_held", "_law_k"] ["_law_hand"] (defScope s_law_yard) := ⟨rfl, rfl, rfl, by decide +kernel, rfl, by decide +kernel, by decide +kernel⟩

theorem sc_law_open : FnScope ["_law_script", "_law_place", "_law_cells", "_law_at", "_law_digits", "_law_cell"] ["_law_script", "_law_place"] (defScope s_law_open) := ⟨rfl, rfl, rfl, by decide +kernel, rfl, by decide +kernel, by decide +kernel⟩

theorem sc_law : FnScope ["_law_script", "_law_place", "_law_hand", "_law_way", "_law_other", "_law_text", "_law_k", "_law_thing_here", "_law_far_here", "_law_cuts"] ["_law_script"] (defScope s_law) := ⟨rfl, rfl, rfl, by decide +kernel, rfl, by decide +kernel, by decide +kernel⟩

section
variable {P : Program} {w : World} {K : PySem.W.Frag} {mg : Str → Option Value} {base : Heap}

/-! ### is_name -/
noncomputable def sp_is_name (K : PySem.W.Frag) : Sp := fun vs H Q _ => ∃ x : Str, vs = [.str x] ∧ x.length ≤ 3000000 ∧ Q (.bl (nameB x)) H
theorem has_is_name (z : Z K mg) (F : FunAt K mg "is_name" s_is_name ["thing"])  : Has P w K mg base "is_name" 1 (sp_is_name K) := by
  refine has_of F sc_is_name (fun vs H Q E h => ?_) (fun f cdv A outer s H vs Q E hr h => ?_)
  · obtain ⟨_, rfl, _⟩ := h
    rfl
  · obtain ⟨x, rfl, hx, q⟩ := h
    refine ⟨_, (pss_cons (ps_if (PW.pt (pw_or (pt_not (pt_val (pe_callB (id := "isinstance") (isiA (K := K) rfl) (by rfl) z.b_isinstance (by decide +kernel) (pa_cons (pv 0) (pa_cons (pe_bltn (v := .ty "str") (by rfl) z.b_str (by decide +kernel) rfl) pa_nil))))) (pw_or1 (pt_not (pt_chain op_le op_le pe_int (pe_callB (id := "len") (lenA (K := K) rfl) (by rfl) z.b_len (by decide +kernel) (pa_cons (pv 0) pa_nil)) (pe_constI z.c_LONGEST_kinds rfl)))))) (pss_one (ps_ret pe_bl)) pss_nil)
        (pss_cons (ps_for PassesOwn.never rfl (pi_str (pv 0)) (pg_name (i := 1) sc_is_name.nd rfl (by first | exact Or.inl rfl | exact Or.inr rfl)) (pss_one (ps_if (pt_cmpR op_notIn_sign (pv 1) (pe_constS z.c_LETTERS rfl) (by rfl)) (pss_one (ps_ret pe_bl)) pss_nil)))
        (pss_one (ps_ret pe_bl)))), ?_⟩
    walk_at "cx"
    have no : ¬ (1 ≤ x.length ∧ x.length ≤ 8) → nameB x = false := fun h => by
      unfold nameB
      rw [decide_eq_false h]
      rfl
    walk_at "ss"
    refine s_lenTx (by omega) ?_
    walk_at "ss"
    refine i_d (fun h1 => ?_) (fun h1 => ?_)
    · walk_at "ss"
      refine i_n (fun h2 => ?_) (fun h2 => ?_)
      · walk_at "ss"
        rw [no fun z => h2 (by omega)] at q
        exact q
      · walk_at "ss"
        refine u_forS (fun i σ H' => (∀ c ∈ x.cps.toList.take i, c ∈ lettersS.cps.toList) ∧ ∃ x1, σ = [some (.str x), x1] ∧ H' = H) ⟨fun c hc => by simp at hc, _, rfl, rfl⟩ (fun i c σ H' hc hh => ?_) (fun σ H' hh => ?_)
        · obtain ⟨g, x1, rfl, rfl⟩ := hh
          walk_at "ss"
          refine ⟨c, _, rfl, rfl, ?_⟩
          have hc' : x.cps.toList[i]? = some c := by rw [Array.getElem?_toList]; exact hc
          walk_at "ss"
          refine i_n (fun h3 => ?_) (fun h3 => ?_)
          · walk_at "ss"
            have e : nameB x = false := by
              unfold nameB
              rw [Bool.and_eq_false_iff]
              exact .inr (List.all_eq_false.mpr ⟨c, List.mem_of_getElem? hc', fun z => h3 (of_decide_eq_true z)⟩)
            rw [e] at q
            exact q
          · walk_at "ss"
            refine ⟨fun c' hc2 => ?_, _, rfl, rfl⟩
            rw [List.take_add_one, hc'] at hc2
            rcases List.mem_append.mp hc2 with hc2 | hc2
            · exact g c' hc2
            · rw [List.mem_singleton.mp hc2]
              exact h3
        · obtain ⟨g, x1, rfl, rfl⟩ := hh
          walk_at "ss"
          have e : nameB x = true := by
            unfold nameB
            rw [Bool.and_eq_true]
            refine ⟨decide_eq_true (by omega), List.all_eq_true.mpr fun c hc => decide_eq_true (g c ?_)⟩
            rw [← Array.length_toList, List.take_length]
            exact hc
          rw [e] at q
          exact q
    · walk_at "ss"
      rw [no fun z => h1 (by omega)] at q
      exact q

/-! ### is_whole -/
noncomputable def sp_is_whole (K : PySem.W.Frag) : Sp := fun vs H Q _ => ∃ (v : V) (n : String), vs = [v] ∧ KindV K H v n ∧ Q (.bl (wholeV v)) H
theorem has_is_whole (z : Z K mg) (F : FunAt K mg "is_whole" s_is_whole ["thing"])  : Has P w K mg base "is_whole" 1 (sp_is_whole K) := by
  refine has_of F sc_is_whole (fun vs H Q E h => ?_) (fun f cdv A outer s H vs Q E hr h => ?_)
  · obtain ⟨v, n, rfl, _⟩ := h
    rfl
  · obtain ⟨v, n, rfl, kv, q⟩ := h
    refine ⟨_, (pss_one (ps_ret (pe_and (pe_callB (id := "isinstance") (isiA (K := K) rfl) (by rfl) z.b_isinstance (by decide +kernel) (pa_cons (pv 0) (pa_cons (pe_bltn (v := .ty "int") (by rfl) z.b_int (by decide +kernel) rfl) pa_nil))) (pe_one (pe_not (pe_callB (id := "isinstance") (isiA (K := K) rfl) (by rfl) z.b_isinstance (by decide +kernel) (pa_cons (pv 0) (pa_cons (pe_bltn (v := .ty "bool") (by rfl) z.b_bool (by decide +kernel) rfl) pa_nil)))))))), ?_⟩
    walk_at "cx"
    cases kv with
    | dct h =>
      walk_at "ss"
      refine s_isiDk h k_di ?_
      walk_at "ss"
      exact q
    | _ =>
      walk_at "ss"
      exact q

/-! ### is_key -/
noncomputable def sp_is_key (K : PySem.W.Frag) : Sp := fun vs H Q _ => ∃ (v : V) (n : String), vs = [v] ∧ KindV K H v n ∧ Q (.bl (keyV v)) H
theorem has_is_key (z : Z K mg) (F : FunAt K mg "is_key" s_is_key ["thing"]) (h_is_whole : Has P w K mg base "is_whole" 1 (sp_is_whole K)) : Has P w K mg base "is_key" 2 (sp_is_key K) := by
  refine has_of F sc_is_key (fun vs H Q E h => ?_) (fun f cdv A outer s H vs Q E hr h => ?_)
  · obtain ⟨v, n, rfl, _⟩ := h
    rfl
  · obtain ⟨v, n, rfl, kv, q⟩ := h
    refine ⟨_, (pss_one (ps_ret (pe_and (pe_callH h_is_whole (by decide) hr rfl (pa_cons (pv 0) pa_nil)) (pe_one (pe_chain op_le op_lt pe_int (pv 0) (pe_constI z.c_KEYS rfl)))))), ?_⟩
    walk_at "cx"
    walk_at "ss"
    refine ⟨_, _, rfl, kv, ?_⟩
    refine kv.cases' (fun i e => ?_) (fun e => ?_)
    · subst e
      rw [show wholeV (V.int i) = true from rfl]
      walk_at "ss"
      refine i_d (fun h1 => ?_) (fun h1 => ?_)
      · walk_at "ss"
        have e : keyV (V.int i) = decide (i < 1152921504606846976) := by
          show decide (_ ∧ _) = _
          by_cases c : i < 1152921504606846976
          · rw [decide_eq_true c, decide_eq_true ⟨h1, c⟩]
          · rw [decide_eq_false c, decide_eq_false fun z => c z.2]
        rw [e] at q
        exact q
      · have e : keyV (V.int i) = false := decide_eq_false fun z => h1 z.1
        rw [e] at q
        exact q
    · rw [e]
      walk_at "ss"
      rw [keyV_no e] at q
      exact q

/-! ### read_number -/
noncomputable def sp_read_number (K : PySem.W.Frag) : Sp := fun vs H Q E => ∃ x : Str, vs = [.str x] ∧ x.length ≤ 16000000 ∧ (∀ n : Int, x = numS n → 0 ≤ n → n < 1000000000000000000000000000000 → numO x = some n → Q (.int n) H) ∧ (numO x = none → E (.ref (clsA K "NoText")) none H)
theorem has_read_number (z : Z K mg) (F : FunAt K mg "read_number" s_read_number ["text"])  : HasX P w K mg base "read_number" 1 (sp_read_number K) := by
  refine has_ofX F sc_read_number (fun vs H Q E h => ?_) (fun f cdv A outer s H vs Q E hr h => ?_)
  · obtain ⟨_, rfl, _⟩ := h
    rfl
  · obtain ⟨x, rfl, hx, q1, q2⟩ := h
    refine ⟨_, (pss_cons (ps_if (PW.pt (pw_or (pt_not (pt_chain op_le op_le pe_int (pe_callB (id := "len") (lenA (K := K) rfl) (by rfl) z.b_len (by decide +kernel) (pa_cons (pv 0) pa_nil)) (pe_constI z.c_LONGEST_texts rfl))) (pw_or1 (PW.pt (pw_and (pt_cmpR (eqA (K := K) rfl hr.units) (pe_ix (ixA (K := K) rfl) (pv 0) pe_int (fun _ _ => rfl)) pe_str (nomark _)) (pw_and1 (pt_cmpR op_gt (pe_callB (id := "len") (lenA (K := K) rfl) (by rfl) z.b_len (by decide +kernel) (pa_cons (pv 0) pa_nil)) pe_int (nomark _)))))))) (pss_one (ps_raise0 (takes_of rfl rfl rfl rfl) z.eb_NoText rfl rfl)) pss_nil)
        (pss_cons (ps_for (passes_of rfl) rfl (pi_str (pv 0)) (pg_name (i := 1) sc_read_number.nd rfl (by first | exact Or.inl rfl | exact Or.inr rfl)) (pss_one (ps_if (pt_cmpR op_notIn_sign (pv 1) (pe_constS z.c_FIGURES rfl) (by rfl)) (pss_one (ps_raise0 (takes_of rfl rfl rfl rfl) z.eb_NoText rfl rfl)) pss_nil)))
        (pss_one (ps_ret (pe_callTy (T := "int") intTA (by rfl) z.b_int (by decide +kernel) (pa_cons (pv 0) pa_nil)))))), ?_⟩
    walk_at "cx"
    have q2 := fun h => q2 (figs_no h)
    have no : ¬ (1 ≤ x.length ∧ x.length ≤ 30) → figsB x = false := fun h => by
      unfold figsB
      rw [decide_eq_false h]
      rfl
    walk_at "txs"
    refine s_lenTx (by omega) ?_
    walk_at "txs"
    refine i_d (fun h1 => ?_) (fun h1 => ?_)
    · walk_at "txs"
      refine i_n (fun h2 => ?_) (fun h2 => ?_)
      · walk_at "txs"
        exact q2 (no fun z => h2 (by omega))
      · obtain ⟨c, r, ec⟩ : ∃ c r, TL.tl x = c :: r := by
          cases e : TL.tl x with
          | nil =>
            have := TL.len_tl x
            rw [e] at this
            have : ([] : List Nat).length = 0 := rfl
            omega
          | cons c r => exact ⟨c, r, rfl⟩
        have c0 : (TL.tl x)[0]? = some c := by rw [ec]; rfl
        walk_at "txs"
        refine s_ixSign (by decide) c0 (by omega) ?_
        walk_at "txs"
        have one : (⟨#[c]⟩ : Str) = "0" ↔ c = 48 := ⟨fun e => by
          have := congrArg TL.tl e
          have : [c] = [48] := this
          cases this
          rfl, fun e => by rw [e]; rfl⟩
        have fig_of : ∀ {d : Nat}, d ∈ figS.cps.toList → 48 ≤ d ∧ d ≤ 57 := fun {d} h => by
          have e : figS.cps.toList = [48, 49, 50, 51, 52, 53, 54, 55, 56, 57] := by decide +kernel
          rw [e] at h
          simp only [List.mem_cons, List.not_mem_nil, or_false] at h
          omega
        refine i_d (fun h3 => ?_) (fun h3 => ?_)
        · walk_at "txs"
          refine s_lenTx (by omega) ?_
          walk_at "txs"
          refine i_d (fun h4 => ?_) (fun h4 => ?_)
          · walk_at "txs"
            refine q2 ?_
            unfold figsB
            rw [Bool.and_eq_false_iff, Bool.and_eq_false_iff]
            refine .inl (.inr ?_)
            rw [c0, one.mp h3, decide_eq_true rfl, decide_eq_true (show 1 < x.length by omega)]
            rfl
          · walk_at "txs"
            refine u_forS (fun i σ H' => (∀ d ∈ (TL.tl x).take i, 48 ≤ d ∧ d ≤ 57) ∧ ∃ x1, σ = [some (.str x), x1] ∧ H' = H) ⟨fun d hd => by simp at hd, _, rfl, rfl⟩ (fun i d σ H' hd hh => ?_) (fun σ H' hh => ?_)
            · obtain ⟨g, x1, rfl, rfl⟩ := hh
              walk_at "txs"
              have hd' : (TL.tl x)[i]? = some d := by show x.cps.toList[i]? = some d; rw [Array.getElem?_toList]; exact hd
              refine ⟨d, figS, rfl, rfl, ?_⟩
              walk_at "txs"
              refine i_n (fun h3 => ?_) (fun h3 => ?_)
              · walk_at "txs"
                refine q2 ?_
                unfold figsB
                rw [Bool.and_eq_false_iff]
                exact .inr (List.all_eq_false.mpr ⟨d, List.mem_of_getElem? hd', fun z => h3 (fig_mem (of_decide_eq_true z))⟩)
              · walk_at "txs"
                refine ⟨fun e he => ?_, _, rfl, rfl⟩
                rw [List.take_add_one, hd'] at he
                rcases List.mem_append.mp he with he | he
                · exact g e he
                · rw [List.mem_singleton.mp he]
                  exact fig_of h3
            · obtain ⟨g, x1, rfl, rfl⟩ := hh
              have fb : figsB x = true := by
                unfold figsB
                rw [Bool.and_eq_true, Bool.and_eq_true, Bool.not_eq_true', Bool.and_eq_false_iff]
                refine ⟨⟨decide_eq_true ⟨by omega, by omega⟩, ?_⟩, List.all_eq_true.mpr fun d hd => decide_eq_true (g d ?_)⟩
                · rw [c0]
                  exact .inr (decide_eq_false (by omega))
                · have el : x.cps.size = (TL.tl x).length := TL.len_tl x
                  rw [el, List.take_length]
                  exact hd
              obtain ⟨n, en, n1, e2⟩ := figs_num fb
              have q := q1 n en (by omega) n1 e2
              subst en
              walk_at "txs"
              exact t_intT (by omega) n1 q
        · walk_at "txs"
          refine u_forS (fun i σ H' => (∀ d ∈ (TL.tl x).take i, 48 ≤ d ∧ d ≤ 57) ∧ ∃ x1, σ = [some (.str x), x1] ∧ H' = H) ⟨fun d hd => by simp at hd, _, rfl, rfl⟩ (fun i d σ H' hd hh => ?_) (fun σ H' hh => ?_)
          · obtain ⟨g, x1, rfl, rfl⟩ := hh
            walk_at "txs"
            have hd' : (TL.tl x)[i]? = some d := by show x.cps.toList[i]? = some d; rw [Array.getElem?_toList]; exact hd
            refine ⟨d, figS, rfl, rfl, ?_⟩
            walk_at "txs"
            refine i_n (fun h3 => ?_) (fun h3 => ?_)
            · walk_at "txs"
              refine q2 ?_
              unfold figsB
              rw [Bool.and_eq_false_iff]
              exact .inr (List.all_eq_false.mpr ⟨d, List.mem_of_getElem? hd', fun z => h3 (fig_mem (of_decide_eq_true z))⟩)
            · walk_at "txs"
              refine ⟨fun e he => ?_, _, rfl, rfl⟩
              rw [List.take_add_one, hd'] at he
              rcases List.mem_append.mp he with he | he
              · exact g e he
              · rw [List.mem_singleton.mp he]
                exact fig_of h3
          · obtain ⟨g, x1, rfl, rfl⟩ := hh
            have fb : figsB x = true := by
              unfold figsB
              rw [Bool.and_eq_true, Bool.and_eq_true, Bool.not_eq_true', Bool.and_eq_false_iff]
              refine ⟨⟨decide_eq_true ⟨by omega, by omega⟩, ?_⟩, List.all_eq_true.mpr fun d hd => decide_eq_true (g d ?_)⟩
              · rw [c0]
                exact .inl (decide_eq_false fun z => h3 (one.mpr (Option.some.inj z)))
              · have el : x.cps.size = (TL.tl x).length := TL.len_tl x
                rw [el, List.take_length]
                exact hd
            obtain ⟨n, en, n1, e2⟩ := figs_num fb
            have q := q1 n en (by omega) n1 e2
            subst en
            walk_at "txs"
            exact t_intT (by omega) n1 q
    · walk_at "txs"
      exact q2 (no fun z => h1 (by omega))

/-! ### read_entry -/
noncomputable def sp_read_entry (K : PySem.W.Frag) : Sp := fun vs H Q E => ∃ (x : Str) (Z : Hp), vs = [.str x] ∧ Ex Z H ∧ x.length ≤ 3000000 ∧ (∀ e v Z' H', entO x = some e → T [] Z H Z' H' → Ik Z' v e → Q v H') ∧ (entO x = none → ∀ Z' H', T [] Z H Z' H' → E (.ref (clsA K "NoText")) none H')
theorem has_read_entry (z : Z K mg) (F : FunAt K mg "read_entry" s_read_entry ["text"]) (h_is_name : Has P w K mg base "is_name" 1 (sp_is_name K)) (h_is_key : Has P w K mg base "is_key" 2 (sp_is_key K)) (h_read_number : HasX P w K mg base "read_number" 1 (sp_read_number K)) : HasX P w K mg base "read_entry" 3 (sp_read_entry K) := by
  refine has_ofX F sc_read_entry (fun vs H Q E h => ?_) (fun f cdv A outer s H vs Q E hr h => ?_)
  · obtain ⟨_, _, rfl, _⟩ := h
    rfl
  · obtain ⟨x, Z, rfl, zh, hx, q1, q2⟩ := h
    refine ⟨_, (pss_cons (ps_set (i := 1) sc_read_entry.nd rfl (by first | exact Or.inl rfl | exact Or.inr rfl) (pe_m1 (r := rSplit) (pe_split (pv 0) pe_str)))
        (pss_cons (ps_if (pt_cmpR (neA (K := K) rfl hr.units) (pe_callB (id := "len") (lenA (K := K) rfl) (by rfl) z.b_len (by decide +kernel) (pa_cons (pv 1) pa_nil)) pe_int (nomark _)) (pss_one (ps_raise0 (takes_of rfl rfl rfl rfl) z.eb_NoText rfl rfl)) pss_nil)
        (pss_cons (ps_set (i := 2) sc_read_entry.nd rfl (by first | exact Or.inl rfl | exact Or.inr rfl) (pe_callX (pxT (takes_of rfl rfl rfl rfl)) h_read_number (by decide) hr rfl (pa_cons (pe_ix (ixA (K := K) rfl) (pv 1) pe_int (fun _ _ => rfl)) pa_nil)))
        (pss_cons (ps_if (PW.pt (pw_or (pt_not (pt_val (pe_callH h_is_key (by decide) hr rfl (pa_cons (pv 2) pa_nil)))) (pw_or1 (pt_not (pt_val (pe_callH h_is_name (by decide) hr rfl (pa_cons (pe_ix (ixA (K := K) rfl) (pv 1) pe_int (fun _ _ => rfl)) pa_nil))))))) (pss_one (ps_raise0 (takes_of rfl rfl rfl rfl) z.eb_NoText rfl rfl)) pss_nil)
        (pss_one (ps_ret (pe_tup (pa_cons (pv 2) (pa_cons (pe_ix (ixA (K := K) rfl) (pv 1) pe_int (fun _ _ => rfl)) pa_nil))))))))), ?_⟩
    walk_at "cx"
    walk_at "txs"
    refine s_m1 ?_
    walk_at "txs"
    refine n_m1 ?_
    walk_at "txs"
    refine t_split zh rfl (by omega) fun p Z1 H1 np t1 f1 => ?_
    have pl := fun p hp => part_len (x := x) (p := p) sep_eq hx hp
    have z1 := t1.zh
    have sp := sq_of (K := K) (z1 _ _ f1)
    have eo : entO x = (match Txt.split x "=" with
      | [a, b] => (match fewO a 0 1152921504606846975 with
        | some n => if h : nameB b = true then some (n, ⟨b, nameB_strOk h⟩) else none
        | none => none)
      | _ => none) := rfl
    generalize Txt.split x "=" = ps at eo sp pl
    have two : (∃ a b, ps = [a, b]) ∨ (ps.length ≠ 2 ∧ entO x = none) := by
      rcases ps with _ | ⟨a, _ | ⟨b, _ | ⟨c, r⟩⟩⟩
      · exact .inr ⟨by simp, eo⟩
      · exact .inr ⟨by simp, eo⟩
      · exact .inl ⟨a, b, rfl⟩
      · exact .inr ⟨by simp, eo⟩
    clear f1
    rcases two with ⟨a, b, rfl⟩ | ⟨l2, en⟩
    · have eo : entO x = (match fewO a 0 1152921504606846975 with
        | some n => if h : nameB b = true then some (n, ⟨b, nameB_strOk h⟩) else none
        | none => none) := eo
      have la := pl a (by simp)
      have lb := pl b (by simp)
      walk_at "txs"
      refine ⟨a, rfl, by omega, fun n en n0 n1 e => ?_, fun e => q2 ?_ Z1 H1 t1⟩
      · have f := fewO_of (a := 0) (b := 1152921504606846975) e
        rw [f] at eo
        walk_at "txs"
        refine ⟨_, _, rfl, .int n, ?_⟩
        have nn := n0
        by_cases kk : n < 1152921504606846976
        · have ek : keyV (.int n) = true := decide_eq_true ⟨nn, kk⟩
          rw [if_pos ⟨nn, by omega⟩] at eo
          rw [ek]
          walk_at "txs"
          refine ⟨b, rfl, lb, ?_⟩
          cases nb : nameB b with
          | true =>
            have eo : entO x = some (n, ⟨b, nameB_strOk nb⟩) := eo.trans (dif_pos nb)
            walk_at "txs"
            rename_i p2 Z2 H2 n2 t2 f2
            exact q1 _ _ Z2 H2 eo (t1.step t2 mm_nil) (Ik.pair f2 (Ik.int _) (Ik.tx ⟨b, nameB_strOk nb⟩))
          | false =>
            have eo : entO x = none := eo.trans (dif_neg (by rw [nb]; exact Bool.false_ne_true))
            walk_at "txs"
            exact q2 eo Z1 H1 t1
        · have ek : keyV (.int n) = false := decide_eq_false fun z => kk z.2
          rw [if_neg fun z => kk (by omega)] at eo
          rw [ek]
          walk_at "txs"
          exact q2 eo Z1 H1 t1
      · rw [eo, fewO_no e]
    · walk_at "txs"
      exact q2 en Z1 H1 t1

/-! ### read_row -/
noncomputable def sp_read_row (K : PySem.W.Frag) : Sp := fun vs H Q E => ∃ (x : Str) (Z : Hp), vs = [.str x] ∧ Ex Z H ∧ x.length ≤ 3000000 ∧ (∀ (r : TR.Row) u Z' H', rowO x = some r → T [] Z H Z' H' → Ik Z' u r → Q u H') ∧ (rowO x = none → ∀ Z' H', T [] Z H Z' H' → E (.ref (clsA K "NoText")) none H')
theorem has_read_row (z : Z K mg) (F : FunAt K mg "read_row" s_read_row ["text"]) (h_read_entry : HasX P w K mg base "read_entry" 3 (sp_read_entry K)) : HasX P w K mg base "read_row" 4 (sp_read_row K) := by
  refine has_ofX F sc_read_row (fun vs H Q E h => ?_) (fun f cdv A outer s H vs Q E hr h => ?_)
  · obtain ⟨_, _, rfl, _⟩ := h
    rfl
  · obtain ⟨x, Z, rfl, zh, hx, q1, q2⟩ := h
    refine ⟨_, (pss_cons (ps_if (pt_cmpR (eqA (K := K) rfl hr.units) (pv 0) (pe_constS z.c_BARE rfl) (nomark _)) (pss_one (ps_ret (pe_lst pa_nil))) pss_nil)
        (pss_one (ps_ret (pe_lcX (own := [("part", 1)]) (g := gName 1) (tt := tYes) rfl rfl (takes_of rfl rfl rfl rfl) rfl sc_read_row.nd (piL (K := K) rfl (pe_m1 (r := rSplit) (pe_split (pv 0) pe_str))) (blkOk_by (own := [("part", 1)]) (N := ["text", "part"]) (sc := defScope s_read_row) (by decide +kernel)) (fun _ _ _ _ _ => (pg_name (i := 1) sc_read_row.nd rfl (by first | exact Or.inl rfl | exact Or.inr rfl))) (fun _ _ _ _ _ => pts_nil) (fun _ _ _ _ _ _ _ px => (pe_callX px h_read_entry (by decide) hr rfl (pa_cons (pv 1) pa_nil))))))), ?_⟩
    walk_at "cx"

    walk_at "txs"
    refine i_d (fun c => ?_) (fun c => ?_)
    · have eo : rowO x = some [] := if_pos c
      walk_at "txs"
      rename_i p Z1 H1 n1 t1 m1 f1
      obtain ⟨Z2, t2, ls⟩ := lm_fin (l := ([] : TR.Row)) t1 n1 (Lm.of0 m1 t1.zh f1)
      exact q1 _ _ Z2 H1 eo t2 ls.is
    · have eo : rowO x = allO ((Txt.split x ",").map entO) := if_neg c
      walk_at "txs"
      refine s_lcXL ?_
      walk_at "txs"
      refine s_m1 ?_
      walk_at "txs"
      refine n_m1 ?_
      walk_at "txs"
      refine t_split zh rfl (by omega) fun p Z1 H1 np t1 f1 => ?_
      have pl := fun p hp => part_len (x := x) (p := p) sep_co hx hp
      have z1 := t1.zh
      walk_at "txs"
      refine c_mapXO (Er := fun H' => E (.ref (clsA K "NoText")) none H') entO z1 (z1 _ _ f1) (paired_strsX _) (len_split sep_co hx) (fun u y Z2 H2 hu hy t2 A hA hE => ?_) (fun D l Z2 H2 nD hl t2 lm2 => ?_) (fun he Z2 H2 t2 => ?_)
      · subst hu
        walk_at "txs"
        have z2 := t2.zh
        refine ⟨y, Z2, rfl, z2, pl y hy, fun e v Z3 H3 ho t3 i => (hA e v Z3 H3 ho t3 i), fun ho Z3 H3 t3 => hE ho Z3 H3 t3⟩
      · obtain ⟨Z3, t3, ls⟩ := lm_fin t2 nD lm2
        walk_at "txs"
        exact q1 _ _ Z3 H2 (eo.trans hl) (t1.step t3 mm_nil) ls.is
      · exact q2 (eo.trans he) Z2 H2 (t1.step t2 mm_nil)

/-! ### read_rows -/
noncomputable def sp_read_rows (K : PySem.W.Frag) : Sp := fun vs H Q E => ∃ (v : V) (Z : Hp), vs = [v] ∧ Ex Z H ∧ AnyT K H v ∧ (∀ (r : List TR.Row) u Z' H', ofT rowsO v = some r → T [] Z H Z' H' → Ik Z' u r → Q u H') ∧ (ofT rowsO v = none → ∀ Z' H', T [] Z H Z' H' → E (.ref (clsA K "NoText")) none H')
theorem has_read_rows (z : Z K mg) (F : FunAt K mg "read_rows" s_read_rows ["text"]) (h_read_row : HasX P w K mg base "read_row" 4 (sp_read_row K)) : HasX P w K mg base "read_rows" 5 (sp_read_rows K) := by
  refine has_ofX F sc_read_rows (fun vs H Q E h => ?_) (fun f cdv A outer s H vs Q E hr h => ?_)
  · obtain ⟨_, _, rfl, _⟩ := h
    rfl
  · obtain ⟨v, Z, rfl, zh, hx, q1, q2⟩ := h
    refine ⟨_, (pss_cons (ps_if (pt_not (pt_val (pe_callB (id := "isinstance") (isiA (K := K) rfl) (by rfl) z.b_isinstance (by decide +kernel) (pa_cons (pv 0) (pa_cons (pe_bltn (v := .ty "str") (by rfl) z.b_str (by decide +kernel) rfl) pa_nil))))) (pss_one (ps_raise0 (takes_of rfl rfl rfl rfl) z.eb_NoText rfl rfl)) pss_nil)
        (pss_cons (ps_if (pt_cmpR (eqA (K := K) rfl hr.units) (pv 0) (pe_constS z.c_NONE rfl) (nomark _)) (pss_one (ps_ret (pe_lst pa_nil))) pss_nil)
        (pss_one (ps_ret (pe_lcX (own := [("part", 1)]) (g := gName 1) (tt := tYes) rfl rfl (takes_of rfl rfl rfl rfl) rfl sc_read_rows.nd (piL (K := K) rfl (pe_m1 (r := rSplit) (pe_split (pv 0) pe_str))) (blkOk_by (own := [("part", 1)]) (N := ["text", "part"]) (sc := defScope s_read_rows) (by decide +kernel)) (fun _ _ _ _ _ => (pg_name (i := 1) sc_read_rows.nd rfl (by first | exact Or.inl rfl | exact Or.inr rfl))) (fun _ _ _ _ _ => pts_nil) (fun _ _ _ _ _ _ _ px => (pe_callX px h_read_row (by decide) hr rfl (pa_cons (pv 1) pa_nil)))))))), ?_⟩
    walk_at "cx"
    walk_at "txs"
    rcases hx with ⟨x, rfl, hx⟩ | ⟨⟨n, kv⟩, ns⟩
    rotate_left
    · refine s_isiNS kv ns ?_
      walk_at "txs"
      exact q2 (ofT_no ns) Z H (T.refl zh)
    refine s_isiSS ?_
    have q1 : ∀ (r : List TR.Row) v Z' H', rowsO x = some r → T [] Z H Z' H' → Ik Z' v r → Q v H' := q1
    have q2 : rowsO x = none → ∀ Z' H', T [] Z H Z' H' → E (.ref (clsA K "NoText")) none H' := q2
    walk_at "txs"
    refine i_d (fun c => ?_) (fun c => ?_)
    · have eo : rowsO x = some [] := if_pos c
      walk_at "txs"
      rename_i p Z1 H1 n1 t1 m1 f1
      obtain ⟨Z2, t2, ls⟩ := lm_fin (l := ([] : List TR.Row)) t1 n1 (Lm.of0 m1 t1.zh f1)
      exact q1 _ _ Z2 H1 eo t2 ls.is
    · have eo : rowsO x = allO ((Txt.split x ";").map rowO) := if_neg c
      walk_at "txs"
      refine s_lcXL ?_
      walk_at "txs"
      refine s_m1 ?_
      walk_at "txs"
      refine n_m1 ?_
      walk_at "txs"
      refine t_split zh rfl (by omega) fun p Z1 H1 np t1 f1 => ?_
      have pl := fun p hp => part_len (x := x) (p := p) sep_se hx hp
      have z1 := t1.zh
      walk_at "txs"
      refine c_mapXO (Er := fun H' => E (.ref (clsA K "NoText")) none H') rowO z1 (z1 _ _ f1) (paired_strsX _) (len_split sep_se hx) (fun u y Z2 H2 hu hy t2 A hA hE => ?_) (fun D l Z2 H2 nD hl t2 lm2 => ?_) (fun he Z2 H2 t2 => ?_)
      · subst hu
        walk_at "txs"
        have z2 := t2.zh
        refine ⟨y, Z2, rfl, z2, pl y hy, fun e v Z3 H3 ho t3 i => (hA e v Z3 H3 ho t3 i), fun ho Z3 H3 t3 => hE ho Z3 H3 t3⟩
      · obtain ⟨Z3, t3, ls⟩ := lm_fin t2 nD lm2
        walk_at "txs"
        exact q1 _ _ Z3 H2 (eo.trans hl) (t1.step t3 mm_nil) ls.is
      · exact q2 (eo.trans he) Z2 H2 (t1.step t2 mm_nil)

/-! ### read_few -/
noncomputable def sp_read_few (K : PySem.W.Frag) : Sp := fun vs H Q E => ∃ (x : Str) (l : Int), vs = [.str x, .int l] ∧ x.length ≤ 3000000 ∧ (∀ n, fewO x l 130 = some n → Q (.int n) H) ∧ (fewO x l 130 = none → E (.ref (clsA K "NoText")) none H)
theorem has_read_few (z : Z K mg) (F : FunAt K mg "read_few" s_read_few ["text", "least"]) (h_read_number : HasX P w K mg base "read_number" 1 (sp_read_number K)) : HasX P w K mg base "read_few" 2 (sp_read_few K) := by
  refine has_ofX F sc_read_few (fun vs H Q E h => ?_) (fun f cdv A outer s H vs Q E hr h => ?_)
  · obtain ⟨_, _, rfl, _⟩ := h
    rfl
  · obtain ⟨x, l, rfl, hx, q1, q2⟩ := h
    refine ⟨_, (pss_cons (ps_set (i := 2) sc_read_few.nd rfl (by first | exact Or.inl rfl | exact Or.inr rfl) (pe_callX (pxT (takes_of rfl rfl rfl rfl)) h_read_number (by decide) hr rfl (pa_cons (pv 0) pa_nil)))
        (pss_cons (ps_if (pt_not (pt_chain op_le op_le (pv 1) (pv 2) (pe_constI z.c_MOST rfl))) (pss_one (ps_raise0 (takes_of rfl rfl rfl rfl) z.eb_NoText rfl rfl)) pss_nil)
        (pss_one (ps_ret (pv 2))))), ?_⟩
    walk_at "cx"
    walk_at "txs"
    refine ⟨x, rfl, by omega, fun n en n0 n1 e => ?_, fun e => q2 (fewO_no e)⟩
    have f := fewO_of (a := l) (b := 130) e
    have q1 := fun h => q1 n (f.trans (if_pos h))
    have q2 := fun h => q2 (f.trans (if_neg h))
    walk_at "txs"
    refine i_d (fun h1 => ?_) (fun h1 => ?_)
    · walk_at "txs"
      refine i_n (fun h2 => ?_) (fun h2 => ?_)
      · walk_at "txs"
        exact q2 fun z => h2 z.2
      · walk_at "txs"
        exact q1 ⟨h1, h2⟩
    · walk_at "txs"
      exact q2 fun z => h1 z.1

/-! ### read_step -/
noncomputable def sp_read_step (K : PySem.W.Frag) : Sp := fun vs H Q E => ∃ (v : V) (Z : Hp), vs = [v] ∧ Ex Z H ∧ AnyT K H v ∧ (∀ (r : Stp) u Z' H', ofT stepO v = some r → T [] Z H Z' H' → Ik Z' u r → Q u H') ∧ (ofT stepO v = none → ∀ Z' H', T [] Z H Z' H' → E (.ref (clsA K "NoText")) none H')
theorem has_read_step (z : Z K mg) (F : FunAt K mg "read_step" s_read_step ["text"]) (h_read_few : HasX P w K mg base "read_few" 2 (sp_read_few K)) (h_read_row : HasX P w K mg base "read_row" 4 (sp_read_row K)) : HasX P w K mg base "read_step" 5 (sp_read_step K) := by
  refine has_ofX F sc_read_step (fun vs H Q E h => ?_) (fun f cdv A outer s H vs Q E hr h => ?_)
  · obtain ⟨_, _, rfl, _⟩ := h
    rfl
  · obtain ⟨v, Z, rfl, zh, hx, q1, q2⟩ := h
    refine ⟨_, (pss_cons (ps_if (pt_not (pt_val (pe_callB (id := "isinstance") (isiA (K := K) rfl) (by rfl) z.b_isinstance (by decide +kernel) (pa_cons (pv 0) (pa_cons (pe_bltn (v := .ty "str") (by rfl) z.b_str (by decide +kernel) rfl) pa_nil))))) (pss_one (ps_raise0 (takes_of rfl rfl rfl rfl) z.eb_NoText rfl rfl)) pss_nil)
        (pss_cons (ps_set (i := 1) sc_read_step.nd rfl (by first | exact Or.inl rfl | exact Or.inr rfl) (pe_m1 (r := rSplit) (pe_split (pv 0) pe_str)))
        (pss_cons (ps_if (pt_cut (PW.pt (pw_and (pt_cmpR (eqA (K := K) rfl hr.units) (pe_ix (ixA (K := K) rfl) (pv 1) pe_int (fun _ _ => rfl)) pe_str (nomark _)) (pw_and1 (pt_cmpR (eqA (K := K) rfl hr.units) (pe_callB (id := "len") (lenA (K := K) rfl) (by rfl) z.b_len (by decide +kernel) (pa_cons (pv 1) pa_nil)) pe_int (nomark _)))))) (pss_one (ps_ret (pe_tup (pa_cons pe_str (pa_cons (pe_callX (pxT (takes_of rfl rfl rfl rfl)) h_read_few (by decide) hr rfl (pa_cons (pe_ix (ixA (K := K) rfl) (pv 1) pe_int (fun _ _ => rfl)) (pa_cons pe_int pa_nil))) (pa_cons (pe_callX (pxT (takes_of rfl rfl rfl rfl)) h_read_few (by decide) hr rfl (pa_cons (pe_ix (ixA (K := K) rfl) (pv 1) pe_int (fun _ _ => rfl)) (pa_cons pe_int pa_nil))) (pa_cons (pe_callX (pxT (takes_of rfl rfl rfl rfl)) h_read_row (by decide) hr rfl (pa_cons (pe_ix (ixA (K := K) rfl) (pv 1) pe_int (fun _ _ => rfl)) pa_nil)) pa_nil))))))) pss_nil)
        (pss_cons (ps_if (pt_cut (PW.pt (pw_and (pt_cmpR (eqA (K := K) rfl hr.units) (pe_ix (ixA (K := K) rfl) (pv 1) pe_int (fun _ _ => rfl)) pe_str (nomark _)) (pw_and1 (pt_cmpR (eqA (K := K) rfl hr.units) (pe_callB (id := "len") (lenA (K := K) rfl) (by rfl) z.b_len (by decide +kernel) (pa_cons (pv 1) pa_nil)) pe_int (nomark _)))))) (pss_one (ps_ret (pe_tup (pa_cons pe_str (pa_cons (pe_callX (pxT (takes_of rfl rfl rfl rfl)) h_read_few (by decide) hr rfl (pa_cons (pe_ix (ixA (K := K) rfl) (pv 1) pe_int (fun _ _ => rfl)) (pa_cons pe_int pa_nil))) (pa_cons (pe_callX (pxT (takes_of rfl rfl rfl rfl)) h_read_few (by decide) hr rfl (pa_cons (pe_ix (ixA (K := K) rfl) (pv 1) pe_int (fun _ _ => rfl)) (pa_cons pe_int pa_nil))) pa_nil)))))) pss_nil)
        (pss_cons (ps_if (pt_cut (PW.pt (pw_and (pt_cmpR (eqA (K := K) rfl hr.units) (pe_ix (ixA (K := K) rfl) (pv 1) pe_int (fun _ _ => rfl)) pe_str (nomark _)) (pw_and1 (pt_cmpR (eqA (K := K) rfl hr.units) (pe_callB (id := "len") (lenA (K := K) rfl) (by rfl) z.b_len (by decide +kernel) (pa_cons (pv 1) pa_nil)) pe_int (nomark _)))))) (pss_one (ps_ret (pe_tup (pa_cons pe_str (pa_cons (pe_callX (pxT (takes_of rfl rfl rfl rfl)) h_read_few (by decide) hr rfl (pa_cons (pe_ix (ixA (K := K) rfl) (pv 1) pe_int (fun _ _ => rfl)) (pa_cons pe_int pa_nil))) pa_nil))))) pss_nil)
        (pss_one (ps_raise0 (takes_of rfl rfl rfl rfl) z.eb_NoText rfl rfl))))))), ?_⟩
    walk_at "cx"
    walk_at "txs"
    rcases hx with ⟨x, rfl, hx⟩ | ⟨⟨n, kv⟩, ns⟩
    rotate_left
    · refine s_isiNS kv ns ?_
      walk_at "txs"
      exact q2 (ofT_no ns) Z H (T.refl zh)
    refine s_isiSS ?_
    have q1 : ∀ (r : Stp) v Z' H', stepO x = some r → T [] Z H Z' H' → Ik Z' v r → Q v H' := q1
    have q2 : stepO x = none → ∀ Z' H', T [] Z H Z' H' → E (.ref (clsA K "NoText")) none H' := q2
    walk_at "txs"
    refine s_m1 ?_
    walk_at "txs"
    refine n_m1 ?_
    walk_at "txs"
    refine t_split zh rfl (by omega) fun p Z1 H1 np t1 f1 => ?_
    have pl := fun p hp => part_len (x := x) (p := p) sep_bl hx hp
    have ll := (split_sum (x := x) sep_bl).2
    have z1 := t1.zh
    have sp := sq_of (K := K) (z1 _ _ f1)
    clear f1
    have eo : stepO x = stepP (Txt.split x " ") := rfl
    generalize Txt.split x " " = ps at eo sp pl ll
    obtain ⟨a, r, rfl⟩ : ∃ a r, ps = a :: r := by
      rcases ps with _ | ⟨a, r⟩
      · exact absurd ll (by simp)
      · exact ⟨a, r, rfl⟩
    walk_at "txs"
    refine s_tcut (fun b H' => b = decide (a = "row" ∧ (a :: r).length = 4) ∧ H' = H1) ?_ ?_
    · walk_at "txs"
      refine i_d (fun c1 => ?_) (fun c1 => ?_)
      · walk_at "txs"
        exact ⟨decide_eq_decide.mpr ⟨fun z => ⟨c1, by simp only [List.length_cons] at z ⊢; omega⟩, fun z => by have := z.2; simp only [List.length_cons] at this ⊢; omega⟩, rfl⟩
      · exact ⟨(decide_eq_false fun z => c1 z.1).symm, rfl⟩
    rintro b H' ⟨rfl, e⟩
    obtain rfl := e.symm
    refine i_d (fun c1 => ?_) (fun c1 => ?_)
    · obtain ⟨rfl, l4⟩ := c1
      obtain ⟨b, c, d, rfl⟩ := len4 l4
      have lb := pl b (by simp)
      have lc := pl c (by simp)
      have ld := pl d (by simp)
      have eo := eo.trans stepP_row
      walk_at "txs"
      refine ⟨b, 0, rfl, lb, fun m em => ?_, fun e => q2 (eo.trans (by rw [e]; rfl)) Z1 H1 t1⟩
      walk_at "txs"
      refine ⟨c, 0, rfl, lc, fun n en => ?_, fun e => q2 (eo.trans (by rw [e]; exact stepR_2)) Z1 H1 t1⟩
      walk_at "txs"
      refine ⟨d, Z1, rfl, z1, ld, fun w v Z2 H2 ew t2 iw => ?_, fun e Z2 H2 t2 => q2 (eo.trans (by rw [e]; exact stepR_3)) Z2 H2 (t1.step t2 mm_nil)⟩
      walk_at "txs"
      rename_i p3 Z3 H3 n3 t3 f3
      exact q1 _ _ Z3 H3 (eo.trans (by rw [em, en, ew]; rfl)) ((t1.step t2 mm_nil).step t3 mm_nil) (Ik.stp_row f3 (iw.tt t3))
    walk_at "txs"
    refine s_tcut (fun b H' => b = decide (a = "cut" ∧ (a :: r).length = 3) ∧ H' = H1) ?_ ?_
    · walk_at "txs"
      refine i_d (fun c1 => ?_) (fun c1 => ?_)
      · walk_at "txs"
        exact ⟨decide_eq_decide.mpr ⟨fun z => ⟨c1, by simp only [List.length_cons] at z ⊢; omega⟩, fun z => by have := z.2; simp only [List.length_cons] at this ⊢; omega⟩, rfl⟩
      · exact ⟨(decide_eq_false fun z => c1 z.1).symm, rfl⟩
    rintro b H' ⟨rfl, e⟩
    obtain rfl := e.symm
    refine i_d (fun c2 => ?_) (fun c2 => ?_)
    · obtain ⟨rfl, l4⟩ := c2
      obtain ⟨b, c, rfl⟩ := len3 l4
      have lb := pl b (by simp)
      have lc := pl c (by simp)
      have eo := eo.trans stepP_cut
      walk_at "txs"
      refine ⟨b, 0, rfl, lb, fun m em => ?_, fun e => q2 (eo.trans (by rw [e]; rfl)) Z1 H1 t1⟩
      walk_at "txs"
      refine ⟨c, 0, rfl, lc, fun n en => ?_, fun e => q2 (eo.trans (by rw [e]; exact stepC_2)) Z1 H1 t1⟩
      walk_at "txs"
      rename_i p3 Z3 H3 n3 t3 f3
      exact q1 _ _ Z3 H3 (eo.trans (by rw [em, en]; rfl)) (t1.step t3 mm_nil) (Ik.stp_cut f3)
    walk_at "txs"
    refine s_tcut (fun b H' => b = decide (a = "rooms" ∧ (a :: r).length = 2) ∧ H' = H1) ?_ ?_
    · walk_at "txs"
      refine i_d (fun c1 => ?_) (fun c1 => ?_)
      · walk_at "txs"
        exact ⟨decide_eq_decide.mpr ⟨fun z => ⟨c1, by simp only [List.length_cons] at z ⊢; omega⟩, fun z => by have := z.2; simp only [List.length_cons] at this ⊢; omega⟩, rfl⟩
      · exact ⟨(decide_eq_false fun z => c1 z.1).symm, rfl⟩
    rintro b H' ⟨rfl, e⟩
    obtain rfl := e.symm
    refine i_d (fun c3 => ?_) (fun c3 => ?_)
    · obtain ⟨rfl, l4⟩ := c3
      obtain ⟨b, rfl⟩ := len2 l4
      have lb := pl b (by simp)
      have eo := eo.trans stepP_rooms
      walk_at "txs"
      refine ⟨b, 1, rfl, lb, fun m em => ?_, fun e => q2 (eo.trans (by rw [e]; rfl)) Z1 H1 t1⟩
      walk_at "txs"
      rename_i p3 Z3 H3 n3 t3 f3
      exact q1 _ _ Z3 H3 (eo.trans (by rw [em]; rfl)) (t1.step t3 mm_nil) (Ik.stp_rooms f3)
    walk_at "txs"
    exact q2 (eo.trans (stepP_none c1 c2 c3)) Z1 H1 t1

/-! ### is_size -/
noncomputable def sp_is_size (K : PySem.W.Frag) : Sp := fun vs H Q _ => ∃ (v : V) (n : String), vs = [v] ∧ KindV K H v n ∧ Q (.bl (sizeV v)) H
theorem has_is_size (z : Z K mg) (F : FunAt K mg "is_size" s_is_size ["thing"]) (h_is_whole : Has P w K mg base "is_whole" 1 (sp_is_whole K)) : Has P w K mg base "is_size" 2 (sp_is_size K) := by
  refine has_of F sc_is_size (fun vs H Q E h => ?_) (fun f cdv A outer s H vs Q E hr h => ?_)
  · obtain ⟨v, n, rfl, _⟩ := h
    rfl
  · obtain ⟨v, n, rfl, kv, q⟩ := h
    refine ⟨_, (pss_one (ps_ret (pe_and (pe_callH h_is_whole (by decide) hr rfl (pa_cons (pv 0) pa_nil)) (pe_one (pe_chain op_le op_le pe_int (pv 0) (pe_constI z.c_GREATEST rfl)))))), ?_⟩
    walk_at "cx"
    walk_at "ss"
    refine ⟨_, _, rfl, kv, ?_⟩
    refine kv.cases' (fun i e => ?_) (fun e => ?_)
    · subst e
      rw [show wholeV (V.int i) = true from rfl]
      walk_at "ss"
      refine i_d (fun h1 => ?_) (fun h1 => ?_)
      · walk_at "ss"
        have e : sizeV (V.int i) = decide (i ≤ 8) := by
          show decide (_ ∧ _) = _
          by_cases c : i ≤ 8
          · rw [decide_eq_true c, decide_eq_true ⟨h1, c⟩]
          · rw [decide_eq_false c, decide_eq_false fun z => c z.2]
        rw [e] at q
        exact q
      · have e : sizeV (V.int i) = false := decide_eq_false fun z => h1 z.1
        rw [e] at q
        exact q
    · rw [e]
      walk_at "ss"
      rw [sizeV_no e] at q
      exact q

/-! ### read_yard -/
noncomputable def sp_read_yard (K : PySem.W.Frag) : Sp := fun vs H Q E => ∃ (v : V) (Z : Hp), vs = [v] ∧ Ex Z H ∧ AnyT K H v ∧ (∀ (r : Yard) u Z' H', ofT yardO v = some r → T [] Z H Z' H' → Ik Z' u r → Q u H') ∧ (ofT yardO v = none → ∀ Z' H', T [] Z H Z' H' → E (.ref (clsA K "NoText")) none H')
theorem has_read_yard (z : Z K mg) (F : FunAt K mg "read_yard" s_read_yard ["text"]) (h_is_size : Has P w K mg base "is_size" 2 (sp_is_size K)) (h_read_rows : HasX P w K mg base "read_rows" 5 (sp_read_rows K)) (h_read_few : HasX P w K mg base "read_few" 2 (sp_read_few K)) (h_read_number : HasX P w K mg base "read_number" 1 (sp_read_number K)) : HasX P w K mg base "read_yard" 6 (sp_read_yard K) := by
  refine has_ofX F sc_read_yard (fun vs H Q E h => ?_) (fun f cdv A outer s H vs Q E hr h => ?_)
  · obtain ⟨_, _, rfl, _⟩ := h
    rfl
  · obtain ⟨v, Z, rfl, zh, hx, q1, q2⟩ := h
    refine ⟨_, (pss_cons (ps_if (pt_not (pt_val (pe_callB (id := "isinstance") (isiA (K := K) rfl) (by rfl) z.b_isinstance (by decide +kernel) (pa_cons (pv 0) (pa_cons (pe_bltn (v := .ty "str") (by rfl) z.b_str (by decide +kernel) rfl) pa_nil))))) (pss_one (ps_raise0 (takes_of rfl rfl rfl rfl) z.eb_NoText rfl rfl)) pss_nil)
        (pss_cons (ps_set (i := 1) sc_read_yard.nd rfl (by first | exact Or.inl rfl | exact Or.inr rfl) (pe_m1 (r := rSplit) (pe_split (pv 0) pe_str)))
        (pss_cons (ps_if (pt_cmpR op_lt (pe_callB (id := "len") (lenA (K := K) rfl) (by rfl) z.b_len (by decide +kernel) (pa_cons (pv 1) pa_nil)) pe_int (nomark _)) (pss_one (ps_raise0 (takes_of rfl rfl rfl rfl) z.eb_NoText rfl rfl)) pss_nil)
        (pss_cons (ps_set (i := 2) sc_read_yard.nd rfl (by first | exact Or.inl rfl | exact Or.inr rfl) (pe_callX (pxT (takes_of rfl rfl rfl rfl)) h_read_number (by decide) hr rfl (pa_cons (pe_ix (ixA (K := K) rfl) (pv 1) pe_int (fun _ _ => rfl)) pa_nil)))
        (pss_cons (ps_set (i := 3) sc_read_yard.nd rfl (by first | exact Or.inl rfl | exact Or.inr rfl) (pe_callX (pxT (takes_of rfl rfl rfl rfl)) h_read_few (by decide) hr rfl (pa_cons (pe_ix (ixA (K := K) rfl) (pv 1) pe_int (fun _ _ => rfl)) (pa_cons pe_int pa_nil))))
        (pss_cons (ps_setLcX (i := 4) (own := [("word", 5)]) (g := gName 5) (tt := tYes) rfl rfl (takes_of rfl rfl rfl rfl) rfl sc_read_yard.nd rfl rfl (sw_true rfl rfl rfl (by decide +kernel)) (piL (K := K) rfl (pe_slice (slA (K := K) rfl) (pv 1) (po_some pe_int) po_none)) (blkOk_by (own := [("word", 5)]) (N := ["text", "words", "wide", "rooms", "held", "word"]) (sc := defScope s_read_yard) (by decide +kernel)) (fun _ _ _ _ _ => (pg_name (i := 5) sc_read_yard.nd rfl (by first | exact Or.inl rfl | exact Or.inr rfl))) (fun _ _ _ _ _ => pts_nil) (fun _ _ _ _ _ _ _ px => (pe_callX px h_read_rows (by decide) hr rfl (pa_cons (pv 5) pa_nil))))
        (pss_cons (ps_if (PW.pt (pw_or (pt_not (pt_val (pe_callH h_is_size (by decide) hr rfl (pa_cons (pv 2) pa_nil)))) (pw_or1 (PW.pt (pw_and (pt_cmpR (neA (K := K) rfl hr.units) (pv 4) (pe_lst pa_nil) (nomark _)) (pw_and1 (pt_cmpR (eqA (K := K) rfl hr.units) (pe_ix (ixA (K := K) rfl) (pv 4) (pe_un un_neg pe_int) (fun _ _ => rfl)) (pe_lst pa_nil) (nomark _)))))))) (pss_one (ps_raise0 (takes_of rfl rfl rfl rfl) z.eb_NoText rfl rfl)) pss_nil)
        (pss_one (ps_ret (pe_tup (pa_cons (pv 2) (pa_cons (pv 3) (pa_cons (pv 4) pa_nil))))))))))))), ?_⟩
    walk_at "cx"
    walk_at "txs"
    rcases hx with ⟨x, rfl, hx⟩ | ⟨⟨n, kv⟩, ns⟩
    rotate_left
    · refine s_isiNS kv ns ?_
      walk_at "txs"
      exact q2 (ofT_no ns) Z H (T.refl zh)
    refine s_isiSS ?_
    have q1 : ∀ (r : Yard) v Z' H', yardO x = some r → T [] Z H Z' H' → Ik Z' v r → Q v H' := q1
    have q2 : yardO x = none → ∀ Z' H', T [] Z H Z' H' → E (.ref (clsA K "NoText")) none H' := q2
    walk_at "txs"
    refine s_m1 ?_
    walk_at "txs"
    refine n_m1 ?_
    walk_at "txs"
    refine t_split zh rfl (by omega) fun p Z1 H1 np t1 f1 => ?_
    have pl := fun p hp => part_len (x := x) (p := p) sep_bl hx hp
    have ll := len_split (x := x) sep_bl hx
    have z1 := t1.zh
    have sp := sq_of (K := K) (z1 _ _ f1)
    clear f1
    have eo : yardO x = yardP (Txt.split x " ") := rfl
    generalize Txt.split x " " = ps at eo sp pl ll
    have two : (∃ a b r, ps = a :: b :: r) ∨ (ps.length < 2 ∧ yardO x = none) := by
      rcases ps with _ | ⟨a, _ | ⟨b, r⟩⟩
      · exact .inr ⟨by simp, eo⟩
      · exact .inr ⟨by simp, eo⟩
      · exact .inl ⟨a, b, r, rfl⟩
    rcases two with ⟨a, b, r, rfl⟩ | ⟨l2, en⟩
    rotate_left
    · walk_at "txs"
      exact q2 en Z1 H1 t1
    have la := pl a (by simp)
    have lb := pl b (by simp)
    have lr : r.length ≤ 4000000 := by simp only [List.length_cons] at ll; omega
    walk_at "txs"
    refine i_df (by simp only [List.length_cons]; omega) ?_
    walk_at "txs"
    refine ⟨a, rfl, by omega, fun n _ n0 _ e => ?_, fun e => q2 (eo.trans (yardP_a e)) Z1 H1 t1⟩
    walk_at "txs"
    refine ⟨b, 1, rfl, lb, fun m em => ?_, fun e => q2 (eo.trans (yardP_b e)) Z1 H1 t1⟩
    walk_at "txs"
    refine s_lcXL ?_
    walk_at "txs"
    refine t_slL z1 sp fun p2 Z2 H2 n2 t2 f2 => ?_
    have f2' : Z2 p2 = some (.lst (r.map V.str)) := by
      rw [f2]
      show some (HO.lst (cutI _ (some 2) none)) = _
      rw [cutI_from _ (by decide)]
      rfl
    have z2 := t2.zh
    walk_at "txs"
    refine c_mapXO (Er := fun H' => E (.ref (clsA K "NoText")) none H') rowsO z2 (z2 _ _ f2') (paired_strsX _) lr (fun u y Z3 H3 hu hy t3 A hA hE => ?_) (fun D l Z3 H3 nD hl t3 lm3 => ?_) (fun he Z3 H3 t3 => ?_)
    · subst hu
      walk_at "txs"
      have z3 := t3.zh
      exact ⟨.str y, Z3, rfl, z3, .inl ⟨y, rfl, pl y (by simp [hy])⟩, fun e v Z4 H4 ho t4 i => hA e v Z4 H4 ho t4 i, fun ho Z4 H4 t4 => hE ho Z4 H4 t4⟩
    · obtain ⟨Z4, t4, ls⟩ := lm_fin t3 nD lm3
      clear t3 lm3
      have z4 := t4.zh
      walk_at "txs"
      refine ⟨_, _, rfl, .int n, ?_⟩
      have T4 : T [] Z H Z4 H3 := (t1.step t2 mm_nil).step t4 mm_nil
      by_cases sz : 1 ≤ n ∧ n ≤ 8
      · have ek : sizeV (.int n) = true := decide_eq_true sz
        have fa : fewO a 1 8 = some n := (fewO_of e).trans (if_pos sz)
        rw [ek]
        walk_at "txs"
        rename_i p5 Z5 H5 n5 t5 m5 f5
        have ls5 := ls.tt t5
        refine s_neP (x := l) (y := ([] : List (List TR.Row))) (ls5.is.ex t5.zh).is (Ik.nil f5).is (by decide) ?_
        have T5 := T4.step t5 mm_nil
        have z5 := t5.zh
        walk_at "txs"
        have yes : lastE l = false → yardO x = some ⟨n, m, l⟩ := fun h => eo.trans ((yardP_yes fa em hl).trans (if_neg (by rw [h]; exact Bool.false_ne_true)))
        have no : lastE l = true → yardO x = none := fun h => eo.trans ((yardP_yes fa em hl).trans (if_pos h))
        refine i_d (fun c => ?_) (fun c => ?_)
        · obtain ⟨l', x', el⟩ : ∃ l' x', l = l' ++ [x'] := ⟨l.dropLast, l.getLast c, (List.dropLast_concat_getLast c).symm⟩
          obtain ⟨us, fD, pr⟩ := id ls5
          rw [el] at pr
          obtain ⟨us', u, eu, _, iu⟩ := paired_snoc_inv pr
          have sD := sq_of (K := K) (z5 _ _ fD)
          rw [eu] at sD
          walk_at "txs"
          refine s_ixL sD (atI_last _ _) ?_
          walk_at "txs"
          rename_i p6 Z6 H6 n6 t6 m6 f6
          refine s_eqP (x := x') (y := ([] : List TR.Row)) ((iu.ex t6.z).ex t6.zh).is (Ik.nil f6).is (by decide) ?_
          have T6 := T5.step t6 mm_nil
          have e1 : lastE l = decide (x' = []) := by rw [el, lastE_snoc]
          walk_at "txs"
          refine i_d (fun c2 => ?_) (fun c2 => ?_)
          · rw [decide_eq_true c2] at e1
            walk_at "txs"
            exact q2 (no e1) Z6 H6 T6
          · rw [decide_eq_false c2] at e1
            have ls6 := ls5.tt t6
            walk_at "txs"
            rename_i p7 Z7 H7 n7 t7 f7
            exact q1 _ _ Z7 H7 (yes e1) (T6.step t7 mm_nil) (Ik.three f7 (Ik.int _) (Ik.int _) (ls6.tt t7).is)
        · have c : l = [] := Decidable.not_not.mp c
          have e1 : lastE l = false := by rw [c]; rfl
          walk_at "txs"
          rename_i p7 Z7 H7 n7 t7 f7
          exact q1 _ _ Z7 H7 (yes e1) (T5.step t7 mm_nil) (Ik.three f7 (Ik.int _) (Ik.int _) (ls5.tt t7).is)
      · have ek : sizeV (.int n) = false := decide_eq_false sz
        have fa : fewO a 1 8 = none := (fewO_of e).trans (if_neg sz)
        rw [ek]
        walk_at "txs"
        exact q2 (eo.trans (yardP_w fa)) Z4 H3 T4
    · exact q2 (eo.trans (yardP_r he)) Z3 H3 ((t1.step t2 mm_nil).step t3 mm_nil)

/-! ### _law_told -/
noncomputable def sp_law_told (K : PySem.W.Frag) : Sp := fun vs H Q _ => ∃ (way : Int) (v : V) (Z : Hp), vs = [.int way, v] ∧ (way = 0 ∨ way = 1 ∨ way = 2) ∧ Ex Z H ∧ AnyT K H v ∧ ∀ u Z' H', T [] Z H Z' H' → Dt Z' u (toldY (dueY way v)) → Q u H'
theorem has_law_told (z : Z K mg) (F : FunAt K mg "_law_told" s_law_told ["_law_way", "_law_text"]) (h_read_rows : HasX P w K mg base "read_rows" 5 (sp_read_rows K)) (h_read_step : HasX P w K mg base "read_step" 5 (sp_read_step K)) (h_read_yard : HasX P w K mg base "read_yard" 6 (sp_read_yard K)) : Has P w K mg base "_law_told" 7 (sp_law_told K) := by
  refine has_of F sc_law_told (fun vs H Q E h => ?_) (fun f cdv A outer s H vs Q E hr h => ?_)
  · obtain ⟨_, _, _, rfl, _⟩ := h
    rfl
  · obtain ⟨way, v, Z, rfl, hw, zh, hx, q⟩ := h
    refine ⟨_, (pss_cons (ps_try_as (i := 2) (Wout := fun _ _ _ _ => False) rfl rfl sc_law_told.nd rfl rfl ⟨rfl, by decide, Or.inl z.g_TailError⟩ takes0 (fun W pn xe tk pq => (pss_one (ps_if (pt_cmpR (eqA (K := K) rfl hr.units) (pv 0) pe_int (nomark _)) (pss_one (ps_set (i := 3) sc_law_told.nd rfl (by first | exact Or.inl rfl | exact Or.inr rfl) (pe_callX (pxT tk) h_read_rows (by decide) hr rfl (pa_cons (pv 1) pa_nil)))) (pss_one (ps_if (pt_cmpR (eqA (K := K) rfl hr.units) (pv 0) pe_int (nomark _)) (pss_one (ps_set (i := 3) sc_law_told.nd rfl (by first | exact Or.inl rfl | exact Or.inr rfl) (pe_callX (pxT tk) h_read_step (by decide) hr rfl (pa_cons (pv 1) pa_nil)))) (pss_one (ps_set (i := 3) sc_law_told.nd rfl (by first | exact Or.inl rfl | exact Or.inr rfl) (pe_callX (pxT tk) h_read_yard (by decide) hr rfl (pa_cons (pv 1) pa_nil))))))))) (fun a oe cls d pn hz hf => (pss_cons (ps_if (pt_val (pe_callB (id := "isinstance") (isMTA (K := K) rfl List.mem_cons_self hz hf) (by rfl) z.b_isinstance (by decide +kernel) (pa_cons (pv 2) (pa_cons (pe_tup (pa_cons (pe_glob (v := .ref (clsA K "Busy")) rfl z.g_Busy rfl) (pa_cons (pe_glob (v := .ref (clsA K "Full")) rfl z.g_Full rfl) (pa_cons (pe_glob (v := .ref (clsA K "Lacking")) rfl z.g_Lacking rfl) (pa_cons (pe_glob (v := .ref (clsA K "NoKey")) rfl z.g_NoKey rfl) (pa_cons (pe_glob (v := .ref (clsA K "NoLine")) rfl z.g_NoLine rfl) (pa_cons (pe_glob (v := .ref (clsA K "NoMark")) rfl z.g_NoMark rfl) (pa_cons (pe_glob (v := .ref (clsA K "NoName")) rfl z.g_NoName rfl) (pa_cons (pe_glob (v := .ref (clsA K "NoRoom")) rfl z.g_NoRoom rfl) (pa_cons (pe_glob (v := .ref (clsA K "NoSize")) rfl z.g_NoSize rfl) (pa_cons (pe_glob (v := .ref (clsA K "NoThing")) rfl z.g_NoThing rfl) (pa_cons (pe_glob (v := .ref (clsA K "Taken")) rfl z.g_Taken rfl) pa_nil)))))))))))) pa_nil)))) (pss_one (ps_ret (pe_tup (pa_cons pe_str (pa_cons pe_int pa_nil))))) pss_nil)
        (pss_one (ps_ret (pe_tup (pa_cons (pe_ix (ixA (K := K) rfl) (pe_lst (pa_cons pe_str (pa_cons pe_str pa_nil))) (pe_callTy (T := "int") call_int1A (by rfl) z.b_int (by decide +kernel) (pa_cons (pe_and (pe_callB (id := "isinstance") (isMA (K := K) rfl List.mem_cons_self hz hf) (by rfl) z.b_isinstance (by decide +kernel) (pa_cons (pv 2) (pa_cons (pe_glob (v := .ref (clsA K "NoText")) rfl z.g_NoText rfl) pa_nil))) (pe_one (pe_callB (id := "isinstance") (isMA (K := K) rfl List.mem_cons_self hz hf) (by rfl) z.b_isinstance (by decide +kernel) (pa_cons (pv 2) (pa_cons (pe_bltn (v := .ty "ValueError") (by rfl) z.b_ValueError (by decide +kernel) rfl) pa_nil))))) pa_nil)) (fun _ _ => rfl)) (pa_cons pe_int pa_nil))))))))
        (pss_one (ps_ret (pe_tup (pa_cons pe_str (pa_cons (pv 3) pa_nil)))))), ?_⟩
    walk_at "cx"
    rcases hw with rfl | rfl | rfl
    · walk_at "txs"
      refine ⟨v, Z, rfl, zh, hx, fun r u Z1 H1 er t1 i1 => ?_, fun en Z1 H1 t1 => ?_⟩
      · walk_at "txs"
        rename_i p2 Z2 H2 n2 t2 f2
        refine q _ Z2 H2 (t1.step t2 mm_nil) ?_
        rw [show dueY 0 v = (ofT rowsO v).map Py.d from rfl, er]
        exact .tup f2 (.cons (.str _) (.cons (i1.ex t2.z) .nil))
      · have q := fun u Z2 H2 t2 => q u Z2 H2 (t1.step t2 mm_nil)
        rw [show dueY 0 v = (ofT rowsO v).map Py.d from rfl, en] at q
        have z1 := t1.zh
        refine n_as z.m_NoText_TailError fun ea na => ?_
        walk_at "txs"
        rename_i pT Z2 H2 n2 t2 f2
        have z2 := t2.zh
        refine s_isVT z.ix_NoText (fun dd e => (nomatch e)) (z2 _ _ f2) (.cons (.own _) (.cons (.own _) (.cons (.own _) (.cons (.own _) (.cons (.own _) (.cons (.own _) (.cons (.own _) (.cons (.own _) (.cons (.own _) (.cons (.own _) (.cons (.own _) .nil))))))))))) (any_no (kit_no z.m_NoText_NoText z.m_NoText_Busy) (any_no (kit_no z.m_NoText_NoText z.m_NoText_Full) (any_no (kit_no z.m_NoText_NoText z.m_NoText_Lacking) (any_no (kit_no z.m_NoText_NoText z.m_NoText_NoKey) (any_no (kit_no z.m_NoText_NoText z.m_NoText_NoLine) (any_no (kit_no z.m_NoText_NoText z.m_NoText_NoMark) (any_no (kit_no z.m_NoText_NoText z.m_NoText_NoName) (any_no (kit_no z.m_NoText_NoText z.m_NoText_NoRoom) (any_no (kit_no z.m_NoText_NoText z.m_NoText_NoSize) (any_no (kit_no z.m_NoText_NoText z.m_NoText_NoThing) (any_no (kit_no z.m_NoText_NoText z.m_NoText_Taken) kitAny_nil))))))))))) ?_
        walk_at "txs"
        refine s_isV z.ix_NoText (fun dd e => (nomatch e)) (.own _) (kit_yes z.m_NoText_NoText) ?_
        walk_at "txs"
        refine s_isV z.ix_NoText (fun dd e => (nomatch e)) (.ty _) (kit_ty' z.sv_NoText meta_ve) ?_
        walk_at "txs"
        rename_i p3 Z3 H3 n3 t3 f3 p4 Z4 H4 n4 t4 f4
        exact q _ Z4 H4 ((t2.step t3 mm_nil).step t4 mm_nil) (.tup f4 (.cons (.str _) (.cons (.int _) .nil)))
    · walk_at "txs"
      refine ⟨v, Z, rfl, zh, hx, fun r u Z1 H1 er t1 i1 => ?_, fun en Z1 H1 t1 => ?_⟩
      · walk_at "txs"
        rename_i p2 Z2 H2 n2 t2 f2
        refine q _ Z2 H2 (t1.step t2 mm_nil) ?_
        rw [show dueY 1 v = (ofT stepO v).map Py.d from rfl, er]
        exact .tup f2 (.cons (.str _) (.cons (i1.ex t2.z) .nil))
      · have q := fun u Z2 H2 t2 => q u Z2 H2 (t1.step t2 mm_nil)
        rw [show dueY 1 v = (ofT stepO v).map Py.d from rfl, en] at q
        have z1 := t1.zh
        refine n_as z.m_NoText_TailError fun ea na => ?_
        walk_at "txs"
        rename_i pT Z2 H2 n2 t2 f2
        have z2 := t2.zh
        refine s_isVT z.ix_NoText (fun dd e => (nomatch e)) (z2 _ _ f2) (.cons (.own _) (.cons (.own _) (.cons (.own _) (.cons (.own _) (.cons (.own _) (.cons (.own _) (.cons (.own _) (.cons (.own _) (.cons (.own _) (.cons (.own _) (.cons (.own _) .nil))))))))))) (any_no (kit_no z.m_NoText_NoText z.m_NoText_Busy) (any_no (kit_no z.m_NoText_NoText z.m_NoText_Full) (any_no (kit_no z.m_NoText_NoText z.m_NoText_Lacking) (any_no (kit_no z.m_NoText_NoText z.m_NoText_NoKey) (any_no (kit_no z.m_NoText_NoText z.m_NoText_NoLine) (any_no (kit_no z.m_NoText_NoText z.m_NoText_NoMark) (any_no (kit_no z.m_NoText_NoText z.m_NoText_NoName) (any_no (kit_no z.m_NoText_NoText z.m_NoText_NoRoom) (any_no (kit_no z.m_NoText_NoText z.m_NoText_NoSize) (any_no (kit_no z.m_NoText_NoText z.m_NoText_NoThing) (any_no (kit_no z.m_NoText_NoText z.m_NoText_Taken) kitAny_nil))))))))))) ?_
        walk_at "txs"
        refine s_isV z.ix_NoText (fun dd e => (nomatch e)) (.own _) (kit_yes z.m_NoText_NoText) ?_
        walk_at "txs"
        refine s_isV z.ix_NoText (fun dd e => (nomatch e)) (.ty _) (kit_ty' z.sv_NoText meta_ve) ?_
        walk_at "txs"
        rename_i p3 Z3 H3 n3 t3 f3 p4 Z4 H4 n4 t4 f4
        exact q _ Z4 H4 ((t2.step t3 mm_nil).step t4 mm_nil) (.tup f4 (.cons (.str _) (.cons (.int _) .nil)))
    · walk_at "txs"
      refine ⟨v, Z, rfl, zh, hx, fun r u Z1 H1 er t1 i1 => ?_, fun en Z1 H1 t1 => ?_⟩
      · walk_at "txs"
        rename_i p2 Z2 H2 n2 t2 f2
        refine q _ Z2 H2 (t1.step t2 mm_nil) ?_
        rw [show dueY 2 v = (ofT yardO v).map Py.d from rfl, er]
        exact .tup f2 (.cons (.str _) (.cons (i1.ex t2.z) .nil))
      · have q := fun u Z2 H2 t2 => q u Z2 H2 (t1.step t2 mm_nil)
        rw [show dueY 2 v = (ofT yardO v).map Py.d from rfl, en] at q
        have z1 := t1.zh
        refine n_as z.m_NoText_TailError fun ea na => ?_
        walk_at "txs"
        rename_i pT Z2 H2 n2 t2 f2
        have z2 := t2.zh
        refine s_isVT z.ix_NoText (fun dd e => (nomatch e)) (z2 _ _ f2) (.cons (.own _) (.cons (.own _) (.cons (.own _) (.cons (.own _) (.cons (.own _) (.cons (.own _) (.cons (.own _) (.cons (.own _) (.cons (.own _) (.cons (.own _) (.cons (.own _) .nil))))))))))) (any_no (kit_no z.m_NoText_NoText z.m_NoText_Busy) (any_no (kit_no z.m_NoText_NoText z.m_NoText_Full) (any_no (kit_no z.m_NoText_NoText z.m_NoText_Lacking) (any_no (kit_no z.m_NoText_NoText z.m_NoText_NoKey) (any_no (kit_no z.m_NoText_NoText z.m_NoText_NoLine) (any_no (kit_no z.m_NoText_NoText z.m_NoText_NoMark) (any_no (kit_no z.m_NoText_NoText z.m_NoText_NoName) (any_no (kit_no z.m_NoText_NoText z.m_NoText_NoRoom) (any_no (kit_no z.m_NoText_NoText z.m_NoText_NoSize) (any_no (kit_no z.m_NoText_NoText z.m_NoText_NoThing) (any_no (kit_no z.m_NoText_NoText z.m_NoText_Taken) kitAny_nil))))))))))) ?_
        walk_at "txs"
        refine s_isV z.ix_NoText (fun dd e => (nomatch e)) (.own _) (kit_yes z.m_NoText_NoText) ?_
        walk_at "txs"
        refine s_isV z.ix_NoText (fun dd e => (nomatch e)) (.ty _) (kit_ty' z.sv_NoText meta_ve) ?_
        walk_at "txs"
        rename_i p3 Z3 H3 n3 t3 f3 p4 Z4 H4 n4 t4 f4
        exact q _ Z4 H4 ((t2.step t3 mm_nil).step t4 mm_nil) (.tup f4 (.cons (.str _) (.cons (.int _) .nil)))

/-! ### _law_number -/
noncomputable def sp_law_number (K : PySem.W.Frag) : Sp := fun vs H Q _ => ∃ (x : Str) (a b : Int), vs = [.str x, .int a, .int b] ∧ x.length ≤ 3000000 ∧ Q (optV (fewO x a b)) H
theorem has_law_number (z : Z K mg) (F : FunAt K mg "_law_number" s_law_number ["_law_text", "_law_least", "_law_most"])  : Has P w K mg base "_law_number" 1 (sp_law_number K) := by
  refine has_of F sc_law_number (fun vs H Q E h => ?_) (fun f cdv A outer s H vs Q E hr h => ?_)
  · obtain ⟨_, _, _, rfl, _⟩ := h
    rfl
  · obtain ⟨x, a, b, rfl, hx, q⟩ := h
    refine ⟨_, (pss_cons (ps_if (pt_cut (PW.pt (pw_or (pt_cmpR (eqA (K := K) rfl hr.units) (pv 0) pe_str (nomark _)) (pw_or (pt_cmpR op_gt (pe_callB (id := "len") (lenA (K := K) rfl) (by rfl) z.b_len (by decide +kernel) (pa_cons (pv 0) pa_nil)) pe_int (nomark _)) (pw_or1 (PW.pt (pw_and (pt_cmpR (eqA (K := K) rfl hr.units) (pe_ix (ixA (K := K) rfl) (pv 0) pe_int (fun _ _ => rfl)) pe_str (nomark _)) (pw_and1 (pt_cmpR op_gt (pe_callB (id := "len") (lenA (K := K) rfl) (by rfl) z.b_len (by decide +kernel) (pa_cons (pv 0) pa_nil)) pe_int (nomark _)))))))))) (pss_one (ps_ret pe_non)) pss_nil)
        (pss_cons (ps_for PassesOwn.never rfl (pi_str (pv 0)) (pg_name (i := 3) sc_law_number.nd rfl (by first | exact Or.inl rfl | exact Or.inr rfl)) (pss_one (ps_if (pt_cmpR op_notIn_sign (pv 3) pe_str (by rfl)) (pss_one (ps_ret pe_non)) pss_nil)))
        (pss_cons (ps_if (pt_not (pt_chain op_le op_le (pv 1) (pe_callTy (T := "int") intTA (by rfl) z.b_int (by decide +kernel) (pa_cons (pv 0) pa_nil)) (pv 2))) (pss_one (ps_ret pe_non)) pss_nil)
        (pss_one (ps_ret (pe_callTy (T := "int") intTA (by rfl) z.b_int (by decide +kernel) (pa_cons (pv 0) pa_nil))))))), ?_⟩
    walk_at "cx"
    have q2 : figsB x = false → Q .non H := fun f => by
      rw [fewO_no (figs_no f)] at q
      exact q
    have no : ¬ (1 ≤ x.length ∧ x.length ≤ 30) → figsB x = false := fun h => by
      unfold figsB
      rw [decide_eq_false h]
      rfl
    have fig_of : ∀ {d : Nat}, d ∈ figS.cps.toList → 48 ≤ d ∧ d ≤ 57 := fun {d} h => by
      have e : figS.cps.toList = [48, 49, 50, 51, 52, 53, 54, 55, 56, 57] := by decide +kernel
      rw [e] at h
      simp only [List.mem_cons, List.not_mem_nil, or_false] at h
      omega
    walk_at "ts"
    refine s_tcut (fun t H' => t = !(decide (1 ≤ x.length ∧ x.length ≤ 30) && !(decide ((TL.tl x)[0]? = some 48) && decide (1 < x.length))) ∧ H' = H) ?_ ?_
    · walk_at "ts"
      refine i_d (fun c => ?_) (fun c => ?_)
      · refine ⟨?_, rfl⟩
        rw [c]
        rfl
      · have l1 : 1 ≤ x.length := by
          cases h0 : TL.tl x with
          | nil => exact absurd (tl_ext (x := x) (y := "") h0) c
          | cons d r => rw [TL.len_tl, h0]; simp
        walk_at "ts"
        refine s_lenTx (by omega) ?_
        walk_at "ts"
        refine i_d (fun c2 => ?_) (fun c2 => ?_)
        · refine ⟨?_, rfl⟩
          rw [decide_eq_false (show ¬ (1 ≤ x.length ∧ x.length ≤ 30) by omega)]
          rfl
        · obtain ⟨d, r, ed⟩ : ∃ d r, TL.tl x = d :: r := by
            cases h0 : TL.tl x with
            | nil => exact absurd (tl_ext (x := x) (y := "") h0) c
            | cons d r => exact ⟨d, r, rfl⟩
          have d0 : (TL.tl x)[0]? = some d := by rw [ed]; rfl
          walk_at "ts"
          refine s_ixSign (by decide) d0 (by omega) ?_
          walk_at "ts"
          have one : (⟨#[d]⟩ : Str) = "0" ↔ d = 48 := ⟨fun e => by
            have := congrArg TL.tl e
            have : [d] = [48] := this
            cases this
            rfl, fun e => by rw [e]; rfl⟩
          rw [decide_eq_true (show 1 ≤ x.length ∧ x.length ≤ 30 by omega), d0]
          refine i_d (fun c3 => ?_) (fun c3 => ?_)
          · rw [one.mp c3]
            walk_at "ts"
            refine s_lenTx (by omega) ?_
            walk_at "ts"
            refine ⟨?_, rfl⟩
            have : decide ((x.length : Int) > 1) = decide (1 < x.length) := decide_eq_decide.mpr (by omega)
            rw [this]
            simp
          · have n48 : d ≠ 48 := fun z => c3 (one.mpr z)
            refine ⟨?_, rfl⟩
            simp [n48]
    · rintro t H' ⟨rfl, e⟩
      obtain rfl := e.symm
      cases g : (decide (1 ≤ x.length ∧ x.length ≤ 30) && !(decide ((TL.tl x)[0]? = some 48) && decide (1 < x.length))) with
      | false =>
        walk_at "ts"
        refine q2 ?_
        unfold figsB
        rw [g]
        rfl
      | true =>
        walk_at "ts"
        refine u_forS (fun i σ H' => (∀ d ∈ (TL.tl x).take i, 48 ≤ d ∧ d ≤ 57) ∧ ∃ x1, σ = [some (.str x), some (.int a), some (.int b), x1] ∧ H' = H) ⟨fun d hd => by simp at hd, _, rfl, rfl⟩ (fun i d σ H' hd hh => ?_) (fun σ H' hh => ?_)
        · obtain ⟨g, x1, rfl, rfl⟩ := hh
          walk_at "ts"
          have hd' : (TL.tl x)[i]? = some d := by show x.cps.toList[i]? = some d; rw [Array.getElem?_toList]; exact hd
          refine ⟨d, figS, rfl, rfl, ?_⟩
          walk_at "ts"
          refine i_n (fun h3 => ?_) (fun h3 => ?_)
          · walk_at "ts"
            refine q2 ?_
            unfold figsB
            rw [Bool.and_eq_false_iff]
            exact .inr (List.all_eq_false.mpr ⟨d, List.mem_of_getElem? hd', fun z => h3 (fig_mem (of_decide_eq_true z))⟩)
          · walk_at "ts"
            refine ⟨fun e he => ?_, _, rfl, rfl⟩
            rw [List.take_add_one, hd'] at he
            rcases List.mem_append.mp he with he | he
            · exact g e he
            · rw [List.mem_singleton.mp he]
              exact fig_of h3
        · obtain ⟨gd, x1, rfl, rfl⟩ := hh
          have fb : figsB x = true := by
            unfold figsB
            rw [Bool.and_eq_true]
            refine ⟨g, List.all_eq_true.mpr fun d hd => decide_eq_true (gd d ?_)⟩
            have el : x.cps.size = (TL.tl x).length := TL.len_tl x
            rw [el, List.take_length]
            exact hd
          obtain ⟨n, en, n0, n1, e2⟩ : ∃ n : Int, x = numS n ∧ 0 ≤ n ∧ n < 1000000000000000000000000000000 ∧ numO x = some n := by
            obtain ⟨n, a, b, c⟩ := figs_num fb
            exact ⟨n, a, by omega, b, c⟩
          rw [fewO_of e2] at q
          subst en
          walk_at "ts"
          refine t_intT n0 n1 ?_
          walk_at "ts"
          refine i_d (fun h1 => ?_) (fun h1 => ?_)
          · walk_at "ts"
            refine i_n (fun h2 => ?_) (fun h2 => ?_)
            · walk_at "ts"
              rw [if_neg fun z => h2 z.2] at q
              exact q
            · walk_at "ts"
              rw [if_pos ⟨h1, h2⟩] at q
              exact t_intT n0 n1 q
          · walk_at "ts"
            rw [if_neg fun z => h1 z.1] at q
            exact q

/-! ### _law_read_entry -/
noncomputable def sp_law_read_entry (K : PySem.W.Frag) : Sp := fun vs H Q _ => ∃ (x : Str) (Z : Hp), vs = [.str x] ∧ Ex Z H ∧ x.length ≤ 3000000 ∧ ∀ v Z' H', T [] Z H Z' H' → Ik Z' v (entO x) → Q v H'
theorem has_law_read_entry (z : Z K mg) (F : FunAt K mg "_law_read_entry" s_law_read_entry ["_law_text"]) (h_law_number : Has P w K mg base "_law_number" 1 (sp_law_number K)) : Has P w K mg base "_law_read_entry" 2 (sp_law_read_entry K) := by
  refine has_of F sc_law_read_entry (fun vs H Q E h => ?_) (fun f cdv A outer s H vs Q E hr h => ?_)
  · obtain ⟨_, _, rfl, _⟩ := h
    rfl
  · obtain ⟨x, Z, rfl, zh, hx, q⟩ := h
    refine ⟨_, (pss_cons (ps_asg (pe_m1 (r := rPart) (pe_partition (pv 0) pe_str)) (pg_tup rfl (pgs_cons (pg_name (i := 1) sc_law_read_entry.nd rfl (by first | exact Or.inl rfl | exact Or.inr rfl)) (pgs_cons (pg_name (i := 2) sc_law_read_entry.nd rfl (by first | exact Or.inl rfl | exact Or.inr rfl)) (pgs_cons (pg_name (i := 3) sc_law_read_entry.nd rfl (by first | exact Or.inl rfl | exact Or.inr rfl)) pgs_nil)))))
        (pss_cons (ps_set (i := 4) sc_law_read_entry.nd rfl (by first | exact Or.inl rfl | exact Or.inr rfl) (pe_callH h_law_number (by decide) hr rfl (pa_cons (pv 1) (pa_cons pe_int (pa_cons (pe_op op_sub (pe_op op_pow pe_int pe_int) pe_int) pa_nil)))))
        (pss_cons (ps_if (PW.pt (pw_or (pt_cmpR op_isNA (pv 4) pe_non (nomark _)) (pw_or (pt_cmpR (eqA (K := K) rfl hr.units) (pv 2) pe_str (nomark _)) (pw_or1 (pt_not (pt_chain op_le op_le pe_int (pe_callB (id := "len") (lenA (K := K) rfl) (by rfl) z.b_len (by decide +kernel) (pa_cons (pv 3) pa_nil)) pe_int)))))) (pss_one (ps_ret pe_non)) pss_nil)
        (pss_cons (ps_for PassesOwn.never rfl (pi_str (pv 3)) (pg_name (i := 5) sc_law_read_entry.nd rfl (by first | exact Or.inl rfl | exact Or.inr rfl)) (pss_one (ps_if (pt_cmpR op_notIn_sign (pv 5) pe_str (by rfl)) (pss_one (ps_ret pe_non)) pss_nil)))
        (pss_one (ps_ret (pe_tup (pa_cons (pv 4) (pa_cons (pv 3) pa_nil))))))))), ?_⟩
    walk_at "cx"
    have qn : ∀ Z' H', entO x = none → T [] Z H Z' H' → Q .non H' := fun Z' H' e t => q .non Z' H' t (by rw [e]; exact Dt.non)
    walk_at "ts"
    refine s_m1 ?_
    walk_at "ts"
    refine n_m1 ?_
    walk_at "ts"
    refine t_part (K := K) zh rfl (by omega) fun p Z1 H1 np t1 f1 => ?_
    have z1 := t1.zh
    by_cases m : (61 : Nat) ∈ TL.tl x
    · obtain ⟨a, b, rfl, na⟩ := cut_text sep_eq m
      rw [TL.partition_app (y := "=") (s := 61) (S := []) rfl na] at f1
      have st := st_of (K := K) (z1 _ _ f1)
      have eo := entO_yes (a := a) (b := b) na
      have la : a.length ≤ 3000000 := by rw [len_app, len_app] at hx; omega
      have lb : b.length ≤ 3000000 := by rw [len_app, len_app] at hx; omega
      walk_at "ts"
      refine s_gt3 st ?_
      walk_at "ts"
      refine ⟨a, 0, 1152921504606846975, rfl, la, ?_⟩
      cases f : fewO a 0 1152921504606846975 with
      | none =>
        rw [f] at eo
        rw [show optV (none : Option Int) = V.non from rfl]
        walk_at "ts"
        exact qn Z1 H1 eo t1
      | some n =>
        rw [f] at eo
        have eo : entO (a ++ "=" ++ b) = if h : nameB b = true then some (n, ⟨b, nameB_strOk h⟩) else none := eo
        rw [show optV (some n) = V.int n from rfl]
        have no : ¬ (1 ≤ b.length ∧ b.length ≤ 8) → nameB b = false := fun h => by
          unfold nameB
          rw [decide_eq_false h]
          rfl
        have bad : nameB b = false → Q .non H1 := fun h => qn Z1 H1 (eo.trans (dif_neg (by rw [h]; exact Bool.false_ne_true))) t1
        walk_at "ts"
        refine i_df (by decide) ?_
        walk_at "ts"
        refine s_lenTx (by omega) ?_
        walk_at "ts"
        refine i_d (fun h1 => ?_) (fun h1 => ?_)
        · walk_at "ts"
          refine i_n (fun h2 => ?_) (fun h2 => ?_)
          · walk_at "ts"
            exact bad (no fun z => h2 (by omega))
          · walk_at "ts"
            refine u_forS (fun i σ H' => (∀ c ∈ b.cps.toList.take i, c ∈ lettersS.cps.toList) ∧ ∃ x1, σ = [some (.str (a ++ "=" ++ b)), some (.str a), some (.str "="), some (.str b), some (.int n), x1] ∧ H' = H1) ⟨fun c hc => by simp at hc, _, rfl, rfl⟩ (fun i c σ H' hc hh => ?_) (fun σ H' hh => ?_)
            · obtain ⟨g, x1, rfl, e⟩ := hh
              obtain rfl := e.symm
              walk_at "ts"
              refine ⟨c, lettersS, rfl, rfl, ?_⟩
              have hc' : b.cps.toList[i]? = some c := by rw [Array.getElem?_toList]; exact hc
              walk_at "ts"
              refine i_n (fun h3 => ?_) (fun h3 => ?_)
              · walk_at "ts"
                refine bad ?_
                unfold nameB
                rw [Bool.and_eq_false_iff]
                exact .inr (List.all_eq_false.mpr ⟨c, List.mem_of_getElem? hc', fun z => h3 (of_decide_eq_true z)⟩)
              · walk_at "ts"
                refine ⟨fun c' hc2 => ?_, _, rfl, rfl⟩
                rw [List.take_add_one, hc'] at hc2
                rcases List.mem_append.mp hc2 with hc2 | hc2
                · exact g c' hc2
                · rw [List.mem_singleton.mp hc2]
                  exact h3
            · obtain ⟨g, x1, rfl, e⟩ := hh
              obtain rfl := e.symm
              have nb : nameB b = true := by
                unfold nameB
                rw [Bool.and_eq_true]
                refine ⟨decide_eq_true (by omega), List.all_eq_true.mpr fun c hc => decide_eq_true (g c ?_)⟩
                rw [← Array.length_toList, List.take_length]
                exact hc
              have eo := eo.trans (dif_pos nb)
              walk_at "ts"
              rename_i p2 Z2 H2 n2 t2 f2
              refine q _ Z2 H2 (t1.step t2 mm_nil) ?_
              rw [eo]
              exact Ik.yesP (Ik.pair f2 (Ik.int _) (Ik.tx ⟨b, nameB_strOk nb⟩))
        · walk_at "ts"
          exact bad (no fun z => h1 (by omega))
    · rw [TL.partition_none (y := "=") (s := 61) (S := []) rfl m] at f1
      have st := st_of (K := K) (z1 _ _ f1)
      have eo := entO_no m
      walk_at "ts"
      refine s_gt3 st ?_
      walk_at "ts"
      refine ⟨x, 0, 1152921504606846975, rfl, hx, ?_⟩
      cases f : fewO x 0 1152921504606846975 with
      | none =>
        rw [show optV (none : Option Int) = V.non from rfl]
        walk_at "ts"
        exact qn Z1 H1 eo t1
      | some n =>
        rw [show optV (some n) = V.int n from rfl]
        walk_at "ts"
        exact qn Z1 H1 eo t1

/-! ### _law_read_row -/
noncomputable def sp_law_read_row (K : PySem.W.Frag) : Sp := fun vs H Q _ => ∃ (x : Str) (Z : Hp), vs = [.str x] ∧ Ex Z H ∧ x.length ≤ 3000000 ∧ ∀ v Z' H', T [] Z H Z' H' → Dt Z' v (optY (rowO x)) → Q v H'
theorem has_law_read_row (z : Z K mg) (F : FunAt K mg "_law_read_row" s_law_read_row ["_law_text"]) (h_law_read_entry : Has P w K mg base "_law_read_entry" 2 (sp_law_read_entry K)) : Has P w K mg base "_law_read_row" 3 (sp_law_read_row K) := by
  refine has_of F sc_law_read_row (fun vs H Q E h => ?_) (fun f cdv A outer s H vs Q E hr h => ?_)
  · obtain ⟨_, _, rfl, _⟩ := h
    rfl
  · obtain ⟨x, Z, rfl, zh, hx, q⟩ := h
    refine ⟨_, (pss_cons (ps_if (pt_cmpR (eqA (K := K) rfl hr.units) (pv 0) pe_str (nomark _)) (pss_one (ps_ret (pe_lst pa_nil))) pss_nil)
        (pss_cons (ps_setLc (i := 1) (own := [("_law_part", 2)]) (g := gName 2) (tt := tYes) rfl sc_law_read_row.nd rfl rfl (sw_true rfl rfl rfl (by decide +kernel)) (piL (K := K) rfl (pe_m1 (r := rSplit) (pe_split (pv 0) pe_str))) (blkOk_by (own := [("_law_part", 2)]) (N := ["_law_text", "_law_row_here", "_law_part"]) (sc := defScope s_law_read_row) (by decide +kernel)) (fun _ _ _ _ _ => (pg_name (i := 2) sc_law_read_row.nd rfl (by first | exact Or.inl rfl | exact Or.inr rfl))) (fun _ _ _ _ _ => pts_nil) (fun _ _ _ _ _ => (pe_callH h_law_read_entry (by decide) hr rfl (pa_cons (pv 2) pa_nil))))
        (pss_cons (ps_if (pt_cmpR (noneInA (K := K) rfl (Room.u65 hr)) pe_non (pv 1) (by rfl)) (pss_one (ps_ret pe_non)) pss_nil)
        (pss_one (ps_ret (pv 1)))))), ?_⟩
    walk_at "cx"
    walk_at "ts"
    refine i_d (fun c => ?_) (fun c => ?_)
    · have eo : rowO x = some [] := if_pos c
      walk_at "ts"
      rename_i p Z1 H1 n1 t1 m1 f1
      obtain ⟨Z2, t2, ls⟩ := lm_fin (l := ([] : TR.Row)) t1 n1 (Lm.of0 m1 t1.zh f1)
      refine q _ Z2 H1 t2 ?_
      rw [eo]
      exact ls.is
    · have eo : rowO x = allO ((Txt.split x ",").map entO) := if_neg c
      walk_at "ts"
      refine s_m1 ?_
      walk_at "ts"
      refine n_m1 ?_
      walk_at "ts"
      refine t_split zh rfl (by omega) fun p Z1 H1 np t1 f1 => ?_
      have pl := fun p hp => part_len (x := x) (p := p) sep_co hx hp
      have z1 := t1.zh
      walk_at "ts"
      refine c_mapB entO z1 (z1 _ _ f1) (paired_strsX _) (len_split sep_co hx) (fun u y Z2 H2 hu hy t2 A hA => ?_) (fun D Z2 H2 nD t2 lm2 => ?_)
      · subst hu
        walk_at "ts"
        have z2 := t2.zh
        exact ⟨y, Z2, rfl, z2, pl y hy, fun v Z3 H3 t3 i => hA v Z3 H3 t3 i⟩
      · obtain ⟨Z3, t3, ls⟩ := lm_fin t2 nD lm2
        clear lm2 t2
        have z3 := t3.zh
        walk_at "ts"
        refine s_noneL (neg := false) z3 rfl (by decide) ls ?_
        rw [← eo]
        cases e : rowO x with
        | none =>
          walk_at "ts"
          refine q _ Z3 H2 (t1.step t3 mm_nil) ?_
          rw [e]
          exact Dt.non
        | some r =>
          have lr := ls_all (fun _ => rfl) ls (eo.symm.trans e)
          rw [show (if false = true then (some r).isSome else (some r).isNone) = false from rfl]
          walk_at "ts"
          refine q _ Z3 H2 (t1.step t3 mm_nil) ?_
          rw [e]
          exact lr.is

/-! ### _law_read_rows -/
noncomputable def sp_law_read_rows (K : PySem.W.Frag) : Sp := fun vs H Q _ => ∃ (x : Str) (Z : Hp), vs = [.str x] ∧ Ex Z H ∧ x.length ≤ 3000000 ∧ ∀ v Z' H', T [] Z H Z' H' → Dt Z' v (optY (rowsO x)) → Q v H'
theorem has_law_read_rows (z : Z K mg) (F : FunAt K mg "_law_read_rows" s_law_read_rows ["_law_text"]) (h_law_read_row : Has P w K mg base "_law_read_row" 3 (sp_law_read_row K)) : Has P w K mg base "_law_read_rows" 4 (sp_law_read_rows K) := by
  refine has_of F sc_law_read_rows (fun vs H Q E h => ?_) (fun f cdv A outer s H vs Q E hr h => ?_)
  · obtain ⟨_, _, rfl, _⟩ := h
    rfl
  · obtain ⟨x, Z, rfl, zh, hx, q⟩ := h
    refine ⟨_, (pss_cons (ps_if (pt_cmpR (eqA (K := K) rfl hr.units) (pv 0) pe_str (nomark _)) (pss_one (ps_ret (pe_lst pa_nil))) pss_nil)
        (pss_cons (ps_setLc (i := 1) (own := [("_law_part", 2)]) (g := gName 2) (tt := tYes) rfl sc_law_read_rows.nd rfl rfl (sw_true rfl rfl rfl (by decide +kernel)) (piL (K := K) rfl (pe_m1 (r := rSplit) (pe_split (pv 0) pe_str))) (blkOk_by (own := [("_law_part", 2)]) (N := ["_law_text", "_law_rows_here", "_law_part"]) (sc := defScope s_law_read_rows) (by decide +kernel)) (fun _ _ _ _ _ => (pg_name (i := 2) sc_law_read_rows.nd rfl (by first | exact Or.inl rfl | exact Or.inr rfl))) (fun _ _ _ _ _ => pts_nil) (fun _ _ _ _ _ => (pe_callH h_law_read_row (by decide) hr rfl (pa_cons (pv 2) pa_nil))))
        (pss_cons (ps_if (pt_cmpR (noneInA (K := K) rfl (Room.u65 hr)) pe_non (pv 1) (by rfl)) (pss_one (ps_ret pe_non)) pss_nil)
        (pss_one (ps_ret (pv 1)))))), ?_⟩
    walk_at "cx"
    walk_at "ts"
    refine i_d (fun c => ?_) (fun c => ?_)
    · have eo : rowsO x = some [] := if_pos c
      walk_at "ts"
      rename_i p Z1 H1 n1 t1 m1 f1
      obtain ⟨Z2, t2, ls⟩ := lm_fin (l := ([] : List TR.Row)) t1 n1 (Lm.of0 m1 t1.zh f1)
      refine q _ Z2 H1 t2 ?_
      rw [eo]
      exact ls.is
    · have eo : rowsO x = allO ((Txt.split x ";").map rowO) := if_neg c
      walk_at "ts"
      refine s_m1 ?_
      walk_at "ts"
      refine n_m1 ?_
      walk_at "ts"
      refine t_split zh rfl (by omega) fun p Z1 H1 np t1 f1 => ?_
      have pl := fun p hp => part_len (x := x) (p := p) sep_se hx hp
      have z1 := t1.zh
      walk_at "ts"
      refine c_mapB rowO z1 (z1 _ _ f1) (paired_strsX _) (len_split sep_se hx) (fun u y Z2 H2 hu hy t2 A hA => ?_) (fun D Z2 H2 nD t2 lm2 => ?_)
      · subst hu
        walk_at "ts"
        have z2 := t2.zh
        exact ⟨y, Z2, rfl, z2, pl y hy, fun v Z3 H3 t3 i => hA v Z3 H3 t3 (by cases c : rowO y <;> (rw [c] at i; exact i))⟩
      · obtain ⟨Z3, t3, ls⟩ := lm_fin t2 nD lm2
        clear lm2 t2
        have z3 := t3.zh
        walk_at "ts"
        refine s_noneL (neg := false) z3 rfl (by decide) ls ?_
        rw [← eo]
        cases e : rowsO x with
        | none =>
          walk_at "ts"
          refine q _ Z3 H2 (t1.step t3 mm_nil) ?_
          rw [e]
          exact Dt.non
        | some r =>
          have lr := ls_all (fun _ => rfl) ls (eo.symm.trans e)
          rw [show (if false = true then (some r).isSome else (some r).isNone) = false from rfl]
          walk_at "ts"
          refine q _ Z3 H2 (t1.step t3 mm_nil) ?_
          rw [e]
          exact lr.is

/-! ### _law_read_step -/
noncomputable def sp_law_read_step (K : PySem.W.Frag) : Sp := fun vs H Q _ => ∃ (x : Str) (Z : Hp), vs = [.str x] ∧ Ex Z H ∧ x.length ≤ 3000000 ∧ ∀ v Z' H', T [] Z H Z' H' → Dt Z' v (optY (stepO x)) → Q v H'
theorem has_law_read_step (z : Z K mg) (F : FunAt K mg "_law_read_step" s_law_read_step ["_law_text"]) (h_law_read_row : Has P w K mg base "_law_read_row" 3 (sp_law_read_row K)) (h_law_number : Has P w K mg base "_law_number" 1 (sp_law_number K)) : Has P w K mg base "_law_read_step" 4 (sp_law_read_step K) := by
  refine has_of F sc_law_read_step (fun vs H Q E h => ?_) (fun f cdv A outer s H vs Q E hr h => ?_)
  · obtain ⟨_, _, rfl, _⟩ := h
    rfl
  · obtain ⟨x, Z, rfl, zh, hx, q⟩ := h
    refine ⟨_, (pss_cons (ps_set (i := 1) sc_law_read_step.nd rfl (by first | exact Or.inl rfl | exact Or.inr rfl) (pe_m1 (r := rSplit) (pe_split (pv 0) pe_str)))
        (pss_cons (ps_setLc (i := 2) (own := [("_law_word", 3)]) (g := gName 3) (tt := tYes) rfl sc_law_read_step.nd rfl rfl (sw_true rfl rfl rfl (by decide +kernel)) (piL (K := K) rfl (pe_slice (slA (K := K) rfl) (pv 1) (po_some pe_int) (po_some pe_int))) (blkOk_by (own := [("_law_word", 3)]) (N := ["_law_text", "_law_words", "_law_numbers", "_law_word"]) (sc := defScope s_law_read_step) (by decide +kernel)) (fun _ _ _ _ _ => (pg_name (i := 3) sc_law_read_step.nd rfl (by first | exact Or.inl rfl | exact Or.inr rfl))) (fun _ _ _ _ _ => pts_nil) (fun _ _ _ _ _ => (pe_callH h_law_number (by decide) hr rfl (pa_cons (pv 3) (pa_cons (pe_callTy (T := "int") call_int1A (by rfl) z.b_int (by decide +kernel) (pa_cons (pe_cmpR (eqA (K := K) rfl hr.units) (pe_ix (ixA (K := K) rfl) (pv 1) pe_int (fun _ _ => rfl)) pe_str (nomark _)) pa_nil)) (pa_cons pe_int pa_nil))))))
        (pss_cons (ps_if (pt_cut (PW.pt (pw_and (pt_cmpR (eqA (K := K) rfl hr.units) (pe_ix (ixA (K := K) rfl) (pv 1) pe_int (fun _ _ => rfl)) pe_str (nomark _)) (pw_and (pt_cmpR (eqA (K := K) rfl hr.units) (pe_callB (id := "len") (lenA (K := K) rfl) (by rfl) z.b_len (by decide +kernel) (pa_cons (pv 1) pa_nil)) pe_int (nomark _)) (pw_and (pt_cmpR (noneNiA (K := K) rfl (Room.u65 hr)) pe_non (pv 2) (by rfl)) (pw_and1 (pt_cmpR op_notNA (pe_callH h_law_read_row (by decide) hr rfl (pa_cons (pe_ix (ixA (K := K) rfl) (pv 1) pe_int (fun _ _ => rfl)) pa_nil)) pe_non (nomark _)))))))) (pss_one (ps_ret (pe_tup (pa_cons pe_str (pa_cons (pe_ix (ixA (K := K) rfl) (pv 2) pe_int (fun _ _ => rfl)) (pa_cons (pe_ix (ixA (K := K) rfl) (pv 2) pe_int (fun _ _ => rfl)) (pa_cons (pe_callH h_law_read_row (by decide) hr rfl (pa_cons (pe_ix (ixA (K := K) rfl) (pv 1) pe_int (fun _ _ => rfl)) pa_nil)) pa_nil))))))) pss_nil)
        (pss_cons (ps_if (pt_cut (PW.pt (pw_and (pt_cmpR (eqA (K := K) rfl hr.units) (pe_ix (ixA (K := K) rfl) (pv 1) pe_int (fun _ _ => rfl)) pe_str (nomark _)) (pw_and (pt_cmpR (eqA (K := K) rfl hr.units) (pe_callB (id := "len") (lenA (K := K) rfl) (by rfl) z.b_len (by decide +kernel) (pa_cons (pv 1) pa_nil)) pe_int (nomark _)) (pw_and1 (pt_cmpR (noneNiA (K := K) rfl (Room.u65 hr)) pe_non (pv 2) (by rfl))))))) (pss_one (ps_ret (pe_tup (pa_cons pe_str (pa_cons (pe_ix (ixA (K := K) rfl) (pv 2) pe_int (fun _ _ => rfl)) (pa_cons (pe_ix (ixA (K := K) rfl) (pv 2) pe_int (fun _ _ => rfl)) pa_nil)))))) pss_nil)
        (pss_cons (ps_if (pt_cut (PW.pt (pw_and (pt_cmpR (eqA (K := K) rfl hr.units) (pe_ix (ixA (K := K) rfl) (pv 1) pe_int (fun _ _ => rfl)) pe_str (nomark _)) (pw_and (pt_cmpR (eqA (K := K) rfl hr.units) (pe_callB (id := "len") (lenA (K := K) rfl) (by rfl) z.b_len (by decide +kernel) (pa_cons (pv 1) pa_nil)) pe_int (nomark _)) (pw_and1 (pt_cmpR (noneNiA (K := K) rfl (Room.u65 hr)) pe_non (pv 2) (by rfl))))))) (pss_one (ps_ret (pe_tup (pa_cons pe_str (pa_cons (pe_ix (ixA (K := K) rfl) (pv 2) pe_int (fun _ _ => rfl)) pa_nil))))) pss_nil)
        (pss_one (ps_ret pe_non))))))), ?_⟩
    walk_at "cx"
    have qn : ∀ Z' H', stepO x = none → T [] Z H Z' H' → Q .non H' := fun Z' H' e t => q .non Z' H' t (by rw [e]; exact Dt.non)
    walk_at "ts"
    refine s_m1 ?_
    walk_at "ts"
    refine n_m1 ?_
    walk_at "ts"
    refine t_split zh rfl (by omega) fun p Z1 H1 np t1 f1 => ?_
    have pl := fun p hp => part_len (x := x) (p := p) sep_bl hx hp
    have ll := (split_sum (x := x) sep_bl).2
    have lm := len_split (x := x) sep_bl hx
    have z1 := t1.zh
    have eo : stepO x = stepP (Txt.split x " ") := rfl
    generalize Txt.split x " " = ps at eo f1 pl ll lm
    obtain ⟨a, r, rfl⟩ : ∃ a r, ps = a :: r := by
      rcases ps with _ | ⟨a, r⟩
      · exact absurd ll (by simp)
      · exact ⟨a, r, rfl⟩
    have sp := sq_of (K := K) (z1 _ _ f1)
    have f1' : Z1 p = some (.lst (V.str a :: r.map V.str)) := f1
    clear f1
    walk_at "ts"
    refine t_slL z1 sp fun p2 Z2 H2 n2 t2 f2 => ?_
    have f2' : Z2 p2 = some (.lst ((r.take 2).map V.str)) := by
      rw [f2]
      show some (HO.lst (cutI ((a :: r).map V.str) (some 1) (some 3))) = _
      rw [cutI_mid _ (by decide) (by decide), List.map_take]
      rfl
    clear sp
    have z2 := t2.zh
    walk_at "ts"
    refine c_mapB (fun w => fewO w (if a = "rooms" then 1 else 0) 130) z2 (z2 _ _ f2') (paired_strsX _) (by rw [List.length_take]; omega) (fun u y Z3 H3 hu hy t3 A hA => ?_) (fun D Z3 H3 nD t3 lm3 => ?_)
    · subst hu
      have hy' := List.mem_of_mem_take hy
      walk_at "ts"
      refine ⟨y, if a = "rooms" then 1 else 0, 130, ?_, pl y (List.mem_cons_of_mem _ hy'), hA _ Z3 H3 (T.refl t3.zh) (Ik.opt _)⟩
      by_cases c : a = "rooms"
      · rw [if_pos c, decide_eq_true c]
        rfl
      · rw [if_neg c, decide_eq_false c]
        rfl
    obtain ⟨Z4, t4, ls⟩ := lm_fin t3 nD lm3
    clear t3 lm3
    have z4 := t4.zh
    walk_at "ts"
    have T4 : T [] Z H Z4 H3 := (t1.step t2 mm_nil).step t4 mm_nil
    have g1 : Z4 p = some (.lst (V.str a :: r.map V.str)) := t4.z _ _ (t2.z _ _ f1')
    clear t2 f2 f2' t4
    have zr : ∀ {Z' H' : Hp}, T [] Z4 H3 Z' H' → T [] Z H Z' H' := fun t' => T4.step t' mm_nil
    refine s_tcut (fun t H' => ∃ Z', T [] Z4 H3 Z' H' ∧ (t = true ↔ ∃ b c d m n w, a = "row" ∧ r = [b, c, d] ∧ fewO b 0 130 = some m ∧ fewO c 0 130 = some n ∧ rowO d = some w)) ?_ ?_
    · walk_at "ts"
      refine i_d (fun c1 => ?_) (fun c1 => ?_)
      · subst c1
        walk_at "ts"
        refine i_d (fun c2 => ?_) (fun c2 => ?_)
        · obtain ⟨b, c, d, rfl⟩ := len4 (a := "row") (r := r) (by simp only [List.length_cons, List.length_map] at c2 ⊢; omega)
          have ld := pl d (by simp)
          have ls' : Ls Z4 D [fewO b 0 130, fewO c 0 130] := ls
          walk_at "ts"
          refine s_noneL (neg := true) z4 rfl (by decide) ls' ?_
          cases eb : fewO b 0 130 with
          | none =>
            rw [show (if true = true then (allO [none, fewO c 0 130]).isSome else (allO [none, fewO c 0 130]).isNone) = false from rfl]
            walk_at "ts"
            exact ⟨Z4, T.refl z4, fun z => (nomatch z), fun ⟨b', c', d', _, _, _, _, e, h1, _⟩ => by
              cases e
              rw [eb] at h1
              cases h1⟩
          | some m =>
            cases ec : fewO c 0 130 with
            | none =>
              rw [show (if true = true then (allO [some m, (none : Option Int)]).isSome else (allO [some m, none]).isNone) = false from rfl]
              walk_at "ts"
              exact ⟨Z4, T.refl z4, fun z => (nomatch z), fun ⟨b', c', d', _, _, _, _, e, _, h1, _⟩ => by
                cases e
                rw [ec] at h1
                cases h1⟩
            | some n =>
              rw [show (if true = true then (allO [some m, some n]).isSome else (allO [some m, some n]).isNone) = true from rfl]
              walk_at "ts"
              refine ⟨d, Z4, rfl, z4, ld, fun v Z6 H6 t6 i6 => ?_⟩
              cases ew : rowO d with
              | none =>
                rw [ew] at i6
                cases i6
                walk_at "ts"
                exact ⟨Z6, t6, fun z => (nomatch z), fun ⟨b', c', d', _, _, _, _, e, _, _, h1⟩ => by
                  cases e
                  rw [ew] at h1
                  cases h1⟩
              | some w =>
                rw [ew] at i6
                obtain ⟨pv, us, rfl, _, _⟩ := Ik.list (xs := w) i6
                walk_at "ts"
                exact ⟨Z6, t6, fun _ => ⟨b, c, d, m, n, w, rfl, rfl, eb, ec, ew⟩, fun _ => rfl⟩
        · refine ⟨Z4, T.refl z4, fun z => (nomatch z), fun ⟨b, c, d, _, _, _, _, e, _⟩ => ?_⟩
          rw [e] at c2
          exact absurd rfl c2
      · exact ⟨Z4, T.refl z4, fun z => (nomatch z), fun ⟨_, _, _, _, _, _, e, _⟩ => absurd e c1⟩
    · rintro t H' ⟨Z5, t5, c1⟩
      have z5 := t5.zh
      have g2 := t5.z _ _ g1
      have ls2 := ls.tt t5
      cases t with
      | true =>
        obtain ⟨b, c, d, m, n, w, rfl, rfl, eb, ec, ew⟩ := c1.mp rfl
        have ld := pl d (by simp)
        have ls' : Ls Z5 D [fewO b 0 130, fewO c 0 130] := ls2
        rw [eb, ec] at ls'
        obtain ⟨us, fD, pr⟩ := ls'
        cases pr with
        | cons i1 pr => cases pr with
          | cons i2 pr =>
            cases pr
            obtain rfl := opt_int i1
            obtain rfl := opt_int i2
            have sD := sq_of (K := K) (z5 _ _ fD)
            walk_at "ts"
            refine ⟨d, Z5, rfl, z5, ld, fun v Z6 H6 t6 i6 => ?_⟩
            rw [ew] at i6
            walk_at "ts"
            rename_i p7 Z7 H7 n7 t7 f7
            refine q _ Z7 H7 (((zr t5).step t6 mm_nil).step t7 mm_nil) ?_
            rw [eo, stepP_row, eb, ec, ew]
            exact Ik.stp_row f7 (Ik.tt (x := w) t7 i6)
      | false =>
        walk_at "ts"
        refine s_tcut (fun t Hx => ∃ Z', T [] Z5 H' Z' Hx ∧ (t = true ↔ ∃ b c m n, a = "cut" ∧ r = [b, c] ∧ fewO b 0 130 = some m ∧ fewO c 0 130 = some n)) ?_ ?_
        · walk_at "ts"
          refine i_d (fun c1 => ?_) (fun c1 => ?_)
          · subst c1
            walk_at "ts"
            refine i_d (fun c2 => ?_) (fun c2 => ?_)
            · obtain ⟨b, c, rfl⟩ := len3 (a := "cut") (r := r) (by simp only [List.length_cons, List.length_map] at c2 ⊢; omega)
              have ls' : Ls Z5 D [fewO b 0 130, fewO c 0 130] := ls2
              walk_at "ts"
              refine s_noneL (neg := true) z5 rfl (by decide) ls' ?_
              cases eb : fewO b 0 130 with
              | none =>
                rw [show (if true = true then (allO [(none : Option Int), fewO c 0 130]).isSome else (allO [(none : Option Int), fewO c 0 130]).isNone) = false from rfl]
                walk_at "ts"
                exact ⟨Z5, T.refl z5, fun z => (nomatch z), fun ⟨_, _, _, _, _, e, h1, _⟩ => by
                  cases e
                  rw [eb] at h1
                  cases h1⟩
              | some m =>
                cases ec : fewO c 0 130 with
                | none =>
                  rw [show (if true = true then (allO [some m, (none : Option Int)]).isSome else (allO [some m, (none : Option Int)]).isNone) = false from rfl]
                  walk_at "ts"
                  exact ⟨Z5, T.refl z5, fun z => (nomatch z), fun ⟨_, _, _, _, _, e, _, h1⟩ => by
                    cases e
                    rw [ec] at h1
                    cases h1⟩
                | some n =>
                  rw [show (if true = true then (allO [some m, some n]).isSome else (allO [some m, some n]).isNone) = true from rfl]
                  walk_at "ts"
                  exact ⟨Z5, T.refl z5, fun _ => ⟨b, c, m, n, rfl, rfl, eb, ec⟩, fun _ => rfl⟩
            · refine ⟨Z5, T.refl z5, fun z => (nomatch z), fun ⟨_, _, _, _, _, e, _⟩ => ?_⟩
              rw [e] at c2
              exact absurd rfl c2
          · exact ⟨Z5, T.refl z5, fun z => (nomatch z), fun ⟨_, _, _, _, e, _⟩ => absurd e c1⟩
        rintro t H6' ⟨Z6, t6, c6⟩
        have z6 := t6.zh
        have g6 := t6.z _ _ g2
        have ls6 := ls2.tt t6
        cases t with
        | true =>
          obtain ⟨b, c, m, n, rfl, rfl, eb, ec⟩ := c6.mp rfl
          have ls' : Ls Z6 D [fewO b 0 130, fewO c 0 130] := ls6
          rw [eb, ec] at ls'
          obtain ⟨us, fD, pr⟩ := ls'
          cases pr with
          | cons i1 pr =>
            cases pr with
            | cons i2 pr =>
              cases pr
              obtain rfl := opt_int i1
              obtain rfl := opt_int i2
              have sD := sq_of (K := K) (z6 _ _ fD)
              walk_at "ts"
              rename_i p9 Z9 H9 n9 t9 f9
              refine q _ Z9 H9 (((zr t5).step t6 mm_nil).step t9 mm_nil) ?_
              rw [eo, stepP_cut, eb, ec]
              exact Ik.stp_cut f9
        | false =>
          walk_at "ts"
          refine s_tcut (fun t Hx => ∃ Z', T [] Z6 H6' Z' Hx ∧ (t = true ↔ ∃ b m, a = "rooms" ∧ r = [b] ∧ fewO b 1 130 = some m)) ?_ ?_
          · walk_at "ts"
            refine i_d (fun c1 => ?_) (fun c1 => ?_)
            · subst c1
              walk_at "ts"
              refine i_d (fun c2 => ?_) (fun c2 => ?_)
              · obtain ⟨b, rfl⟩ := len2 (a := "rooms") (r := r) (by simp only [List.length_cons, List.length_map] at c2 ⊢; omega)
                have ls' : Ls Z6 D [fewO b 1 130] := ls6
                walk_at "ts"
                refine s_noneL (neg := true) z6 rfl (by decide) ls' ?_
                cases eb : fewO b 1 130 with
                | none =>
                  rw [show (if true = true then (allO [(none : Option Int)]).isSome else (allO [(none : Option Int)]).isNone) = false from rfl]
                  walk_at "ts"
                  exact ⟨Z6, T.refl z6, fun z => (nomatch z), fun ⟨_, _, _, e, h1⟩ => by
                    cases e
                    rw [eb] at h1
                    cases h1⟩
                | some m =>
                  rw [show (if true = true then (allO [some m]).isSome else (allO [some m]).isNone) = true from rfl]
                  walk_at "ts"
                  exact ⟨Z6, T.refl z6, fun _ => ⟨b, m, rfl, rfl, eb⟩, fun _ => rfl⟩
              · refine ⟨Z6, T.refl z6, fun z => (nomatch z), fun ⟨_, _, _, e, _⟩ => ?_⟩
                rw [e] at c2
                exact absurd rfl c2
            · exact ⟨Z6, T.refl z6, fun z => (nomatch z), fun ⟨_, _, e, _⟩ => absurd e c1⟩
          rintro t H7' ⟨Z7, t7, c7⟩
          have z7 := t7.zh
          have g7 := t7.z _ _ g6
          have ls7 := ls6.tt t7
          cases t with
          | true =>
            obtain ⟨b, m, rfl, rfl, eb⟩ := c7.mp rfl
            have ls' : Ls Z7 D [fewO b 1 130] := ls7
            rw [eb] at ls'
            obtain ⟨us, fD, pr⟩ := ls'
            cases pr with
            | cons i1 pr =>
              cases pr
              obtain rfl := opt_int i1
              have sD := sq_of (K := K) (z7 _ _ fD)
              walk_at "ts"
              rename_i p9 Z9 H9 n9 t9 f9
              refine q _ Z9 H9 ((((zr t5).step t6 mm_nil).step t7 mm_nil).step t9 mm_nil) ?_
              rw [eo, stepP_rooms, eb]
              exact Ik.stp_rooms f9
          | false =>
            walk_at "ts"
            refine qn Z7 H7' ?_ (((zr t5).step t6 mm_nil).step t7 mm_nil)
            rw [eo]
            have n1 := fun h => Bool.false_ne_true (c1.mpr h)
            have n2 := fun h => Bool.false_ne_true (c6.mpr h)
            have n3 := fun h => Bool.false_ne_true (c7.mpr h)
            rcases r with _ | ⟨b, _ | ⟨c, _ | ⟨d, _ | ⟨e, r⟩⟩⟩⟩
            · rfl
            · by_cases ea : a = "rooms"
              · subst ea
                rw [stepP_rooms]
                cases eb : fewO b 1 130 with
                | none => rfl
                | some m => exact absurd ⟨b, m, rfl, rfl, eb⟩ n3
              · exact if_neg ea
            · by_cases ea : a = "cut"
              · subst ea
                rw [stepP_cut]
                cases eb : fewO b 0 130 with
                | none => rfl
                | some m =>
                  cases ec : fewO c 0 130 with
                  | none => rfl
                  | some n => exact absurd ⟨b, c, m, n, rfl, rfl, eb, ec⟩ n2
              · exact if_neg ea
            · by_cases ea : a = "row"
              · subst ea
                rw [stepP_row]
                cases eb : fewO b 0 130 with
                | none => rfl
                | some m =>
                  cases ec : fewO c 0 130 with
                  | none => rfl
                  | some n =>
                    cases ed : rowO d with
                    | none => rfl
                    | some w => exact absurd ⟨b, c, d, m, n, w, rfl, rfl, eb, ec, ed⟩ n1
              · exact if_neg ea
            · rfl

/-! ### _law_read_yard -/
noncomputable def sp_law_read_yard (K : PySem.W.Frag) : Sp := fun vs H Q _ => ∃ (x : Str) (Z : Hp), vs = [.str x] ∧ Ex Z H ∧ x.length ≤ 3000000 ∧ ∀ v Z' H', T [] Z H Z' H' → Dt Z' v (optY (yardO x)) → Q v H'
theorem has_law_read_yard (z : Z K mg) (F : FunAt K mg "_law_read_yard" s_law_read_yard ["_law_text"]) (h_law_read_rows : Has P w K mg base "_law_read_rows" 4 (sp_law_read_rows K)) (h_law_number : Has P w K mg base "_law_number" 1 (sp_law_number K)) : Has P w K mg base "_law_read_yard" 5 (sp_law_read_yard K) := by
  refine has_of F sc_law_read_yard (fun vs H Q E h => ?_) (fun f cdv A outer s H vs Q E hr h => ?_)
  · obtain ⟨_, _, rfl, _⟩ := h
    rfl
  · obtain ⟨x, Z, rfl, zh, hx, q⟩ := h
    refine ⟨_, (pss_cons (ps_set (i := 1) sc_law_read_yard.nd rfl (by first | exact Or.inl rfl | exact Or.inr rfl) (pe_m1 (r := rSplit) (pe_split (pv 0) pe_str)))
        (pss_cons (ps_if (pt_cmpR op_lt (pe_callB (id := "len") (lenA (K := K) rfl) (by rfl) z.b_len (by decide +kernel) (pa_cons (pv 1) pa_nil)) pe_int (nomark _)) (pss_one (ps_ret pe_non)) pss_nil)
        (pss_cons (ps_par (i := 2) (j := 3) rfl sc_law_read_yard.nd rfl rfl (by decide) rfl rfl (pa_cons (pe_callH h_law_number (by decide) hr rfl (pa_cons (pe_ix (ixA (K := K) rfl) (pv 1) pe_int (fun _ _ => rfl)) (pa_cons pe_int (pa_cons pe_int pa_nil)))) (pa_cons (pe_callH h_law_number (by decide) hr rfl (pa_cons (pe_ix (ixA (K := K) rfl) (pv 1) pe_int (fun _ _ => rfl)) (pa_cons pe_int (pa_cons pe_int pa_nil)))) pa_nil)) rfl)
        (pss_cons (ps_setLc (i := 4) (own := [("_law_word", 5)]) (g := gName 5) (tt := tYes) rfl sc_law_read_yard.nd rfl rfl (sw_true rfl rfl rfl (by decide +kernel)) (piL (K := K) rfl (pe_slice (slA (K := K) rfl) (pv 1) (po_some pe_int) po_none)) (blkOk_by (own := [("_law_word", 5)]) (N := ["_law_text", "_law_words", "_law_wide", "_law_rooms", "_law_held", "_law_word"]) (sc := defScope s_law_read_yard) (by decide +kernel)) (fun _ _ _ _ _ => (pg_name (i := 5) sc_law_read_yard.nd rfl (by first | exact Or.inl rfl | exact Or.inr rfl))) (fun _ _ _ _ _ => pts_nil) (fun _ _ _ _ _ => (pe_callH h_law_read_rows (by decide) hr rfl (pa_cons (pv 5) pa_nil))))
        (pss_cons (ps_if (pt_cut (PW.pt (pw_or (pt_cmpR op_isNA (pv 2) pe_non (nomark _)) (pw_or (pt_cmpR op_isNA (pv 3) pe_non (nomark _)) (pw_or (pt_cmpR (noneInA (K := K) rfl (Room.u65 hr)) pe_non (pv 4) (by rfl)) (pw_or1 (PW.pt (pw_and (pt_cmpR (neA (K := K) rfl hr.units) (pv 4) (pe_lst pa_nil) (nomark _)) (pw_and1 (pt_cmpR (eqA (K := K) rfl hr.units) (pe_ix (ixA (K := K) rfl) (pv 4) (pe_un un_neg pe_int) (fun _ _ => rfl)) (pe_lst pa_nil) (nomark _))))))))))) (pss_one (ps_ret pe_non)) pss_nil)
        (pss_one (ps_ret (pe_tup (pa_cons (pv 2) (pa_cons (pv 3) (pa_cons (pv 4) pa_nil))))))))))), ?_⟩
    walk_at "cx"
    have qn : ∀ Z' H', yardO x = none → T [] Z H Z' H' → Q .non H' := fun Z' H' e t => q .non Z' H' t (by rw [e]; exact Dt.non)
    walk_at "ts"
    refine s_m1 ?_
    walk_at "ts"
    refine n_m1 ?_
    walk_at "ts"
    refine t_split zh rfl (by omega) fun p Z1 H1 np t1 f1 => ?_
    have pl := fun p hp => part_len (x := x) (p := p) sep_bl hx hp
    have ll := len_split (x := x) sep_bl hx
    have z1 := t1.zh
    have sp := sq_of (K := K) (z1 _ _ f1)
    clear f1
    have eo : yardO x = yardP (Txt.split x " ") := rfl
    generalize Txt.split x " " = ps at eo sp pl ll
    have two : (∃ a b' r, ps = a :: b' :: r) ∨ (ps.length < 2 ∧ yardO x = none) := by
      rcases ps with _ | ⟨a, _ | ⟨b', r⟩⟩
      · exact .inr ⟨by simp, eo⟩
      · exact .inr ⟨by simp, eo⟩
      · exact .inl ⟨a, b', r, rfl⟩
    rcases two with ⟨a, b', r, rfl⟩ | ⟨l2, en⟩
    rotate_left
    · walk_at "ts"
      exact qn Z1 H1 en t1
    have la := pl a (by simp)
    have lb := pl b' (by simp)
    have lr : r.length ≤ 4000000 := by simp only [List.length_cons] at ll; omega
    walk_at "ts"
    refine i_df (by simp only [List.length_cons]; omega) ?_
    walk_at "txs"
    refine ⟨a, 1, 8, rfl, la, ?_⟩
    walk_at "txs"
    refine ⟨b', 1, 130, rfl, lb, ?_⟩
    walk_at "txs"
    refine t_slL z1 sp fun p2 Z2 H2 n2 t2 f2 => ?_
    have f2' : Z2 p2 = some (.lst (r.map V.str)) := by
      rw [f2]
      show some (HO.lst (cutI _ (some 2) none)) = _
      rw [cutI_from _ (by decide)]
      rfl
    have z2 := t2.zh
    walk_at "txs"
    refine c_mapB rowsO z2 (z2 _ _ f2') (paired_strsX _) lr (fun u y Z3 H3 hu hy t3 A hA => ?_) (fun D Z3 H3 nD t3 lm3 => ?_)
    · subst hu
      walk_at "txs"
      have z3 := t3.zh
      exact ⟨y, Z3, rfl, z3, pl y (by simp [hy]), fun v Z4 H4 t4 i => hA v Z4 H4 t4 (by cases c : rowsO y <;> (rw [c] at i; exact i))⟩
    obtain ⟨Z4, t4, ls⟩ := lm_fin t3 nD lm3
    clear t3 lm3
    have z4 := t4.zh
    have T4 : T [] Z H Z4 H3 := (t1.step t2 mm_nil).step t4 mm_nil
    walk_at "txs"
    refine s_tcut (fun b H' => ∃ Z', T [] Z4 H3 Z' H' ∧ (b = true → yardO x = none) ∧ (b = false → ∃ m n h, fewO a 1 8 = some m ∧ fewO b' 1 130 = some n ∧ yardO x = some ⟨m, n, h⟩ ∧ Ls Z4 D h)) ?_ ?_
    · walk_at "txs"
      cases fa : fewO a 1 8 with
      | none =>
        rw [show optV (none : Option Int) = V.non from rfl]
        walk_at "txs"
        exact ⟨Z4, T.refl z4, fun _ => eo.trans (yardP_w fa), fun z => (nomatch z)⟩
      | some m =>
        rw [show optV (some m) = V.int m from rfl]
        walk_at "txs"
        cases fb : fewO b' 1 130 with
        | none =>
          rw [show optV (none : Option Int) = V.non from rfl]
          walk_at "txs"
          exact ⟨Z4, T.refl z4, fun _ => eo.trans (yardP_b fb), fun z => (nomatch z)⟩
        | some n =>
          rw [show optV (some n) = V.int n from rfl]
          walk_at "txs"
          refine s_noneL (neg := false) z4 rfl (by decide) ls ?_
          cases e : allO (r.map rowsO) with
          | none =>
            walk_at "txs"
            exact ⟨Z4, T.refl z4, fun _ => eo.trans (yardP_r e), fun z => (nomatch z)⟩
          | some l =>
            have lh := ls_all (fun _ => rfl) ls e
            have yes : lastE l = false → yardO x = some ⟨m, n, l⟩ := fun h => eo.trans ((yardP_yes fa fb e).trans (if_neg (by rw [h]; exact Bool.false_ne_true)))
            have no : lastE l = true → yardO x = none := fun h => eo.trans ((yardP_yes fa fb e).trans (if_pos h))
            rw [show (if false = true then (some l).isSome else (some l).isNone) = false from rfl]
            walk_at "txs"
            rename_i p5 Z5 H5 n5 t5 m5 f5
            have ls5 := lh.tt t5
            refine s_neP (x := l) (y := ([] : List (List TR.Row))) (ls5.is.ex t5.zh).is (Ik.nil f5).is (by decide) ?_
            have z5 := t5.zh
            walk_at "txs"
            refine i_d (fun c => ?_) (fun c => ?_)
            · obtain ⟨l', x', el⟩ : ∃ l' x', l = l' ++ [x'] := ⟨l.dropLast, l.getLast c, (List.dropLast_concat_getLast c).symm⟩
              obtain ⟨us, fD, pr⟩ := id ls5
              rw [el] at pr
              obtain ⟨us', u, eu, _, iu⟩ := paired_snoc_inv pr
              have sD := sq_of (K := K) (z5 _ _ fD)
              rw [eu] at sD
              walk_at "txs"
              refine s_ixL sD (atI_last _ _) ?_
              walk_at "txs"
              rename_i p6 Z6 H6 n6 t6 m6 f6
              refine s_eqP (x := x') (y := ([] : List TR.Row)) ((iu.ex t6.z).ex t6.zh).is (Ik.nil f6).is (by decide) ?_
              have T6 := t5.step t6 mm_nil
              have e1 : lastE l = decide (x' = []) := by rw [el, lastE_snoc]
              walk_at "txs"
              refine ⟨Z6, T6, fun h => no (e1.trans h), fun h => ⟨m, n, l, rfl, rfl, yes (e1.trans h), lh⟩⟩
            · have c : l = [] := Decidable.not_not.mp c
              have e1 : lastE l = false := by rw [c]; rfl
              walk_at "txs"
              exact ⟨Z5, t5, fun h => (nomatch h), fun _ => ⟨m, n, l, rfl, rfl, yes e1, lh⟩⟩
    · rintro t H' ⟨Z', t', hy, hn⟩
      cases t with
      | true =>
        walk_at "txs"
        exact qn Z' H' (hy rfl) (T4.step t' mm_nil)
      | false =>
        obtain ⟨m, n, h, ea, eb, ey, lh⟩ := hn rfl
        rw [ea, eb]
        rw [show optV (some m) = V.int m from rfl, show optV (some n) = V.int n from rfl]
        walk_at "txs"
        rename_i p7 Z7 H7 n7 t7 f7
        refine q _ Z7 H7 ((T4.step t' mm_nil).step t7 mm_nil) ?_
        rw [ey]
        exact Ik.three f7 (Ik.int _) (Ik.int _) ((lh.tt t').tt t7).is

/-! ### _law_right -/
noncomputable def sp_law_right (K : PySem.W.Frag) : Sp := fun vs H Q _ => ∃ (v : V) (Z : Hp), vs = [v] ∧ Ex Z H ∧ AnyT K H v ∧ ∀ Z' H', T [] Z H Z' H' → Q (.bl true) H'
theorem has_law_right (z : Z K mg) (F : FunAt K mg "_law_right" s_law_right ["_law_text"]) (h_law_told : Has P w K mg base "_law_told" 7 (sp_law_told K)) (h_law_read_rows : Has P w K mg base "_law_read_rows" 4 (sp_law_read_rows K)) (h_law_read_step : Has P w K mg base "_law_read_step" 4 (sp_law_read_step K)) (h_law_read_yard : Has P w K mg base "_law_read_yard" 5 (sp_law_read_yard K)) : Has P w K mg base "_law_right" 8 (sp_law_right K) := by
  refine has_of F sc_law_right (fun vs H Q E h => ?_) (fun f cdv A outer s H vs Q E hr h => ?_)
  · obtain ⟨_, _, rfl, _⟩ := h
    rfl
  · obtain ⟨v, Z, rfl, zh, hx, q⟩ := h
    refine ⟨_, (pss_cons (ps_for PassesOwn.never rfl (pi_range1 (by rfl) z.b_range (pa_cons pe_int pa_nil)) (pg_name (i := 1) sc_law_right.nd rfl (by first | exact Or.inl rfl | exact Or.inr rfl)) (pss_cons (ps_set (i := 2) sc_law_right.nd rfl (by first | exact Or.inl rfl | exact Or.inr rfl) pe_non)
        (pss_cons (ps_if (pt_val (pe_callB (id := "isinstance") (isiA (K := K) rfl) (by rfl) z.b_isinstance (by decide +kernel) (pa_cons (pv 0) (pa_cons (pe_bltn (v := .ty "str") (by rfl) z.b_str (by decide +kernel) rfl) pa_nil)))) (pss_one (ps_set (i := 2) sc_law_right.nd rfl (by first | exact Or.inl rfl | exact Or.inr rfl) (pe_callV (mg := mg) (A := [("_law_read_rows", sp_law_read_rows K), ("_law_read_step", sp_law_read_step K), ("_law_read_yard", sp_law_read_yard K)]) rfl (fun q hq => by simp only [List.mem_cons, List.not_mem_nil, or_false] at hq; rcases hq with rfl | rfl | rfl <;> first | exact ⟨_, by decide, h_law_read_rows⟩ | exact ⟨_, by decide, h_law_read_step⟩ | exact ⟨_, by decide, h_law_read_yard⟩) hr (pe_ix (ixA (K := K) rfl) (pe_lst (pa_cons (pe_glob (v := .ref (fnA mg "_law_read_rows")) rfl (fnA_at h_law_read_rows) rfl) (pa_cons (pe_glob (v := .ref (fnA mg "_law_read_step")) rfl (fnA_at h_law_read_step) rfl) (pa_cons (pe_glob (v := .ref (fnA mg "_law_read_yard")) rfl (fnA_at h_law_read_yard) rfl) pa_nil)))) (pv 1) (fun _ _ => rfl)) (pa_cons (pv 0) pa_nil)))) pss_nil)
        (pss_cons (ps_set (i := 3) sc_law_right.nd rfl (by first | exact Or.inl rfl | exact Or.inr rfl) (pe_callH h_law_told (by decide) hr rfl (pa_cons (pv 1) (pa_cons (pv 0) pa_nil))))
        (pss_one (ps_if (PW.pt (pw_or (PW.pt (pw_and (pt_cmpR op_isNA (pv 2) pe_non (nomark _)) (pw_and1 (pt_cmpR (neA (K := K) rfl hr.units) (pv 3) (pe_tup (pa_cons pe_str (pa_cons pe_int pa_nil))) (nomark _))))) (pw_or1 (PW.pt (pw_and (pt_cmpR op_notNA (pv 2) pe_non (nomark _)) (pw_and1 (pt_cmpR (neA (K := K) rfl hr.units) (pv 3) (pe_tup (pa_cons pe_str (pa_cons (pv 2) pa_nil))) (nomark _)))))))) (pss_one (ps_ret pe_bl)) pss_nil))))))
        (pss_one (ps_ret pe_bl))), ?_⟩
    walk_at "cx"
    walk_at "ts"
    refine u_forR1 (fun i σ H' => (∃ Z', T [] Z H Z' H') ∧ ∃ x1 x2 x3, σ = [some v, x1, x2, x3]) (by omega) ⟨⟨Z, T.refl zh⟩, _, _, _, rfl⟩ (fun i σ H' hi hh => ?_) (fun σ H' hh => ?_)
    · obtain ⟨⟨Z1, t1⟩, x1, x2, x3, rfl⟩ := hh
      have z1 := t1.zh
      have hx1 : AnyT K H' v := by
        rcases hx with hx | ⟨⟨n, kv⟩, ns⟩
        · exact .inl hx
        · exact .inr ⟨⟨n, kv.ex fun b o e => t1.m b o nm_nil e⟩, ns⟩
      have w3 : (i : Int) = 0 ∨ (i : Int) = 1 ∨ (i : Int) = 2 := by omega
      generalize (i : Int) = way at w3
      walk_at "ts"
      rcases hx1 with ⟨x, rfl, hxl⟩ | ⟨⟨n, kv⟩, ns⟩
      · refine s_isiSS ?_
        rcases w3 with rfl | rfl | rfl
        · walk_at "ts"
          unfold tCallV
          walk_at "ts"
          rename_i pf Zf Hf nf tf ff
          have zf := tf.zh
          refine ⟨"_law_read_rows", _, _, List.mem_cons_self, fnA_at h_law_read_rows, rfl, ?_⟩
          walk_at "ts"
          refine ⟨x, Zf, rfl, zf, hxl, fun d Z2 H2 t2 i2 => ?_⟩
          have z2 := t2.zh
          walk_at "ts"
          refine ⟨0, .str x, Z2, rfl, .inl rfl, z2, .inl ⟨x, rfl, hxl⟩, fun u Z3 H3 t3 d3 => ?_⟩
          have z3 := t3.zh
          have du : dueY 0 (.str x) = (rowsO x).map Py.d := rfl
          rw [du] at d3
          have T3 : T [] Z H Z3 H3 := ((t1.step tf mm_nil).step t2 mm_nil).step t3 mm_nil
          have i2 := Dt.ex t3.z i2
          clear tf t2 t3 du
          cases e : rowsO x with
          | none =>
            rw [e] at i2 d3
            cases i2
            walk_at "ts"
            rename_i p4 Z4 H4 n4 t4 f4
            refine s_neP (x := noneY) (y := noneY) (Ik.is (Ik.ex t4.zh (Ik.ex t4.z d3))) (Ik.is (Ik.ex t4.zh (noneY_ik f4))) (by decide) ?_
            walk_at "ts"
            exact ⟨⟨Z4, T3.step t4 mm_nil⟩, _, _, _, rfl⟩
          | some r =>
            rw [e] at i2 d3
            obtain ⟨pd, rfl⟩ : ∃ pd, d = .ref pd := by
              obtain ⟨a, _, h, _⟩ := Ik.list (xs := r) i2
              exact ⟨a, h⟩
            have i3 : Ik Z3 (.ref pd) r := i2
            walk_at "ts"
            rename_i p4 Z4 H4 n4 t4 f4
            refine s_neP (x := (toldT, r)) (y := (toldT, r)) (Ik.is (Ik.ex t4.zh (Ik.ex t4.z d3))) (Ik.is (Ik.ex t4.zh (Ik.pair f4 (Ik.tx toldT) (Ik.ex t4.z i3)))) (by decide) ?_
            walk_at "ts"
            exact ⟨⟨Z4, T3.step t4 mm_nil⟩, _, _, _, rfl⟩
        · walk_at "ts"
          unfold tCallV
          walk_at "ts"
          rename_i pf Zf Hf nf tf ff
          have zf := tf.zh
          refine ⟨"_law_read_step", _, _, List.mem_cons_of_mem _ List.mem_cons_self, fnA_at h_law_read_step, rfl, ?_⟩
          walk_at "ts"
          refine ⟨x, Zf, rfl, zf, hxl, fun d Z2 H2 t2 i2 => ?_⟩
          have z2 := t2.zh
          walk_at "ts"
          refine ⟨1, .str x, Z2, rfl, .inr (.inl rfl), z2, .inl ⟨x, rfl, hxl⟩, fun u Z3 H3 t3 d3 => ?_⟩
          have z3 := t3.zh
          have du : dueY 1 (.str x) = (stepO x).map Py.d := rfl
          rw [du] at d3
          have T3 : T [] Z H Z3 H3 := ((t1.step tf mm_nil).step t2 mm_nil).step t3 mm_nil
          have i2 := Dt.ex t3.z i2
          clear tf t2 t3 du
          cases e : stepO x with
          | none =>
            rw [e] at i2 d3
            cases i2
            walk_at "ts"
            rename_i p4 Z4 H4 n4 t4 f4
            refine s_neP (x := noneY) (y := noneY) (Ik.is (Ik.ex t4.zh (Ik.ex t4.z d3))) (Ik.is (Ik.ex t4.zh (noneY_ik f4))) (by decide) ?_
            walk_at "ts"
            exact ⟨⟨Z4, T3.step t4 mm_nil⟩, _, _, _, rfl⟩
          | some r =>
            rw [e] at i2 d3
            obtain ⟨pd, rfl⟩ : ∃ pd, d = .ref pd := stp_ref i2
            have i3 : Ik Z3 (.ref pd) r := i2
            walk_at "ts"
            rename_i p4 Z4 H4 n4 t4 f4
            refine s_neP (x := (toldT, r)) (y := (toldT, r)) (Ik.is (Ik.ex t4.zh (Ik.ex t4.z d3))) (Ik.is (Ik.ex t4.zh (Ik.pair f4 (Ik.tx toldT) (Ik.ex t4.z i3)))) (by decide) ?_
            walk_at "ts"
            exact ⟨⟨Z4, T3.step t4 mm_nil⟩, _, _, _, rfl⟩
        · walk_at "ts"
          unfold tCallV
          walk_at "ts"
          rename_i pf Zf Hf nf tf ff
          have zf := tf.zh
          refine ⟨"_law_read_yard", _, _, List.mem_cons_of_mem _ (List.mem_cons_of_mem _ List.mem_cons_self), fnA_at h_law_read_yard, rfl, ?_⟩
          walk_at "ts"
          refine ⟨x, Zf, rfl, zf, hxl, fun d Z2 H2 t2 i2 => ?_⟩
          have z2 := t2.zh
          walk_at "ts"
          refine ⟨2, .str x, Z2, rfl, .inr (.inr rfl), z2, .inl ⟨x, rfl, hxl⟩, fun u Z3 H3 t3 d3 => ?_⟩
          have z3 := t3.zh
          have du : dueY 2 (.str x) = (yardO x).map Py.d := rfl
          rw [du] at d3
          have T3 : T [] Z H Z3 H3 := ((t1.step tf mm_nil).step t2 mm_nil).step t3 mm_nil
          have i2 := Dt.ex t3.z i2
          clear tf t2 t3 du
          cases e : yardO x with
          | none =>
            rw [e] at i2 d3
            cases i2
            walk_at "ts"
            rename_i p4 Z4 H4 n4 t4 f4
            refine s_neP (x := noneY) (y := noneY) (Ik.is (Ik.ex t4.zh (Ik.ex t4.z d3))) (Ik.is (Ik.ex t4.zh (noneY_ik f4))) (by decide) ?_
            walk_at "ts"
            exact ⟨⟨Z4, T3.step t4 mm_nil⟩, _, _, _, rfl⟩
          | some r =>
            rw [e] at i2 d3
            obtain ⟨pd, rfl⟩ : ∃ pd, d = .ref pd := by
              obtain ⟨a, _, _, _, h, _⟩ := Ik.three_of (t := r) i2
              exact ⟨a, h⟩
            have i3 : Ik Z3 (.ref pd) r := i2
            walk_at "ts"
            rename_i p4 Z4 H4 n4 t4 f4
            refine s_neP (x := (toldT, r)) (y := (toldT, r)) (Ik.is (Ik.ex t4.zh (Ik.ex t4.z d3))) (Ik.is (Ik.ex t4.zh (Ik.pair f4 (Ik.tx toldT) (Ik.ex t4.z i3)))) (by decide) ?_
            walk_at "ts"
            exact ⟨⟨Z4, T3.step t4 mm_nil⟩, _, _, _, rfl⟩
      · refine s_isiNS kv ns ?_
        walk_at "ts"
        refine ⟨way, v, Z1, rfl, w3, z1, .inr ⟨⟨n, kv⟩, ns⟩, fun u Z3 H3 t3 d3 => ?_⟩
        have du : dueY way v = none := by
          unfold dueY
          rw [ofT_no ns, ofT_no ns, ofT_no ns]
          split
          · rfl
          · split <;> rfl
        rw [du] at d3
        have z3 := t3.zh
        walk_at "ts"
        rename_i p4 Z4 H4 n4 t4 f4
        refine s_neP (x := noneY) (y := noneY) (Ik.is (Ik.ex t4.zh (Ik.ex t4.z d3))) (Ik.is (Ik.ex t4.zh (noneY_ik f4))) (by decide) ?_
        walk_at "ts"
        exact ⟨⟨Z4, (t1.step t3 mm_nil).step t4 mm_nil⟩, _, _, _, rfl⟩
    · obtain ⟨⟨Z1, t1⟩, x1, x2, x3, rfl⟩ := hh
      walk_at "ts"
      exact q Z1 H' t1

/-! ### _law_draw -/
noncomputable abbrev sp_law_draw (K : PySem.W.Frag) : Sp := spDraw K
theorem has_law_draw (z : Z K mg) (F : FunAt K mg "_law_draw" s_law_draw ["_law_hand", "_law_many"])  : Has P w K mg base "_law_draw" 1 (sp_law_draw K) := by
  refine has_of F sc_law_draw (fun vs H Q E h => ?_) (fun f cdv A outer s H vs Q E hr h => ?_)
  · obtain ⟨a, m, n, Z, rfl, _⟩ := h
    rfl
  · obtain ⟨a, m, n, Z, rfl, ⟨d, k, c, cells, h1, h3, h4, h5, z1, z2, z3⟩, hm0, hm1, q⟩ := h
    refine ⟨_, (pss_cons (ps_if (pt_cmpR op_gt (pe_ix (ixA (K := K) rfl) (pv 0) pe_int (fun _ _ => rfl)) pe_int (nomark _)) (pss_cons (ps_set (i := 2) sc_law_draw.nd rfl (by first | exact Or.inl rfl | exact Or.inr rfl) (pe_op op_mod (pe_ix (ixA (K := K) rfl) (pv 0) pe_int (fun _ _ => rfl)) (pv 1)))
        (pss_cons (ps_asg (pe_op op_fdivW (pe_ix (ixA (K := K) rfl) (pv 0) pe_int (fun _ _ => rfl)) (pv 1)) (pg_sub (pv 0) pe_int set_list))
        (pss_one (ps_ret (pv 2))))) pss_nil)
        (pss_cons (ps_augS (pv 0) pe_int (getA (K := K) rfl) pe_int ip_add set_list)
        (pss_cons (ps_set (i := 3) sc_law_draw.nd rfl (by first | exact Or.inl rfl | exact Or.inr rfl) (pe_ix (ixA (K := K) rfl) (pv 0) pe_int (fun _ _ => rfl)))
        (pss_cons (ps_set (i := 4) sc_law_draw.nd rfl (by first | exact Or.inl rfl | exact Or.inr rfl) (pe_op op_mod (pe_op op_plusA (pe_op op_mod (pe_ix (ixA (K := K) rfl) (pe_ix (ixA (K := K) rfl) (pv 0) pe_int (fun _ _ => rfl)) (pe_op op_mod (pv 3) (pe_callB (id := "len") (lenA (K := K) rfl) (by rfl) z.b_len (by decide +kernel) (pa_cons (pe_ix (ixA (K := K) rfl) (pv 0) pe_int (fun _ _ => rfl)) pa_nil))) (fun _ _ => rfl)) pe_int) (pe_op op_multA pe_int (pv 3))) pe_int))
        (pss_cons (ps_set (i := 4) sc_law_draw.nd rfl (by first | exact Or.inl rfl | exact Or.inr rfl) (pe_op op_mod (pe_op op_plusA (pe_op op_plusA (pe_op op_pow (pv 4) pe_int) (pe_op op_multA (pe_op op_multA pe_int (pv 3)) (pv 3))) pe_int) pe_int))
        (pss_cons (ps_set (i := 4) sc_law_draw.nd rfl (by first | exact Or.inl rfl | exact Or.inr rfl) (pe_op op_mod (pe_op op_plusA (pe_op op_multA (pe_op op_pow (pv 4) pe_int) (pe_op op_plusA (pe_op op_multA pe_int (pv 3)) pe_int)) pe_int) pe_int))
        (pss_one (ps_ret (pe_op op_mod (pe_op op_fdivW (pe_op op_mod (pe_op op_multA (pv 4) pe_int) pe_int) pe_int) (pv 1)))))))))), ?_⟩
    walk_at "cx"
    walk_at "ss"
    refine i_d (fun hd => ?_) (fun hd => ?_)
    · walk_at "ss"
      rename_i G e1 e2
      exact q _ G (Int.emod_nonneg _ (by omega)) (Int.emod_lt_of_pos _ hm0) e1 ⟨_, k, c, cells, e2, h3, h4, by omega, z1.exm z2 e1, z2, z3⟩
    · walk_at "ss"
      rename_i G e1 e2 _ _ v hv _ _ _ _ _ _ _ _ _ _ b1 b2
      exact q _ G b1 b2 e1 ⟨d, k + 1, c, cells, e2, h3, by omega, by omega, z1.exm z2 e1, z2, z3⟩

/-! ### _law_spoilt -/
noncomputable def sp_law_spoilt (K : PySem.W.Frag) : Sp := fun vs H Q _ => ∃ (h : Addr) (x : Str) (n : Nat) (Z : Hp), vs = [.ref h, .str x] ∧ Hand K Z H h (n + 20) ∧ x.length ≤ 1000000 ∧
  ∀ (y : Str) Z' H', y.length ≤ 2 * x.length + 3 → T [h] Z H Z' H' → Hand K Z' H' h n → Q (.str y) H'
theorem has_law_spoilt (z : Z K mg) (F : FunAt K mg "_law_spoilt" s_law_spoilt ["_law_hand", "_law_text"]) (h_law_draw : Has P w K mg base "_law_draw" 1 (sp_law_draw K)) : Has P w K mg base "_law_spoilt" 2 (sp_law_spoilt K) := by
  refine has_of F sc_law_spoilt (fun vs H Q E h => ?_) (fun f cdv A outer s H vs Q E hr h => ?_)
  · obtain ⟨_, _, _, _, rfl, _⟩ := h
    rfl
  · obtain ⟨h, x, n, Z, rfl, hh, hx, q⟩ := h
    refine ⟨_, (pss_cons (ps_set (i := 2) sc_law_spoilt.nd rfl (by first | exact Or.inl rfl | exact Or.inr rfl) pe_str)
        (pss_cons (ps_set (i := 3) sc_law_spoilt.nd rfl (by first | exact Or.inl rfl | exact Or.inr rfl) pe_str)
        (pss_cons (ps_set (i := 4) sc_law_spoilt.nd rfl (by first | exact Or.inl rfl | exact Or.inr rfl) (pe_callH h_law_draw (by decide) hr rfl (pa_cons (pv 0) (pa_cons pe_int pa_nil))))
        (pss_cons (ps_set (i := 5) sc_law_spoilt.nd rfl (by first | exact Or.inl rfl | exact Or.inr rfl) (pe_callH h_law_draw (by decide) hr rfl (pa_cons (pv 0) (pa_cons pe_int pa_nil))))
        (pss_cons (ps_set (i := 6) sc_law_spoilt.nd rfl (by first | exact Or.inl rfl | exact Or.inr rfl) (pe_ix (ixA (K := K) rfl) pe_str (pe_callH h_law_draw (by decide) hr rfl (pa_cons (pv 0) (pa_cons pe_int pa_nil))) (fun _ _ => rfl)))
        (pss_cons (ps_set (i := 7) sc_law_spoilt.nd rfl (by first | exact Or.inl rfl | exact Or.inr rfl) (pe_ix (ixA (K := K) rfl) (pv 2) (pe_callH h_law_draw (by decide) hr rfl (pa_cons (pv 0) (pa_cons (pe_callB (id := "len") (lenA (K := K) rfl) (by rfl) z.b_len (by decide +kernel) (pa_cons (pv 2) pa_nil)) pa_nil))) (fun _ _ => rfl)))
        (Evl.pss_cut (ps_if (pt_cmpR (eqA (K := K) rfl hr.units) (pe_callH h_law_draw (by decide) hr rfl (pa_cons (pv 0) (pa_cons pe_int pa_nil))) pe_int (nomark _)) (pss_one (ps_set (i := 7) sc_law_spoilt.nd rfl (by first | exact Or.inl rfl | exact Or.inr rfl) (pe_ix (ixA (K := K) rfl) (pv 3) (pe_callH h_law_draw (by decide) hr rfl (pa_cons (pv 0) (pa_cons (pe_callB (id := "len") (lenA (K := K) rfl) (by rfl) z.b_len (by decide +kernel) (pa_cons (pv 3) pa_nil)) pa_nil))) (fun _ _ => rfl)))) pss_nil)
        (pss_cons (ps_set (i := 8) sc_law_spoilt.nd rfl (by first | exact Or.inl rfl | exact Or.inr rfl) (pe_op op_mod (pv 5) (pe_op op_plusA (pe_callB (id := "len") (lenA (K := K) rfl) (by rfl) z.b_len (by decide +kernel) (pa_cons (pv 1) pa_nil)) pe_int)))
        (pss_cons (ps_if (pt_cmpR op_lt (pv 4) pe_int (nomark _)) (pss_one (ps_ret (pe_op op_plusA (pe_op op_plusA (pe_slice sl_str (pv 1) po_none (po_some (pv 8))) (pv 7)) (pe_slice sl_str (pv 1) (po_some (pe_op op_plusA (pv 8) (pv 4))) po_none)))) pss_nil)
        (pss_cons (ps_if (pt_cmpR (eqA (K := K) rfl hr.units) (pv 4) pe_int (nomark _)) (pss_one (ps_ret (pe_op op_plusA (pe_slice sl_str (pv 1) po_none (po_some (pv 8))) (pe_slice sl_str (pv 1) (po_some (pe_op op_plusA (pv 8) pe_int)) po_none)))) pss_nil)
        (pss_cons (ps_set (i := 9) sc_law_spoilt.nd rfl (by first | exact Or.inl rfl | exact Or.inr rfl) (pe_m1 (r := rSplit) (pe_split (pv 1) (pv 6))))
        (pss_cons (ps_set (i := 5) sc_law_spoilt.nd rfl (by first | exact Or.inl rfl | exact Or.inr rfl) (pe_op op_mod (pv 5) (pe_callB (id := "len") (lenA (K := K) rfl) (by rfl) z.b_len (by decide +kernel) (pa_cons (pv 9) pa_nil))))
        (pss_cons (ps_set (i := 10) sc_law_spoilt.nd rfl (by first | exact Or.inl rfl | exact Or.inr rfl) (pe_slice (slA (K := K) rfl) (pv 9) (po_some (pv 5)) (po_some (pe_op op_plusA (pv 5) pe_int))))
        (pss_cons (ps_if (pt_cmpR (eqA (K := K) rfl hr.units) (pv 4) pe_int (nomark _)) (pss_one (ps_ret (pe_joinK (K := K) rfl (pe_join (pv 6) (pe_op op_plusA (pe_slice (slA (K := K) rfl) (pv 9) po_none (po_some (pv 5))) (pe_slice (slA (K := K) rfl) (pv 9) (po_some (pe_op op_plusA (pv 5) pe_int)) po_none)))))) pss_nil)
        (pss_cons (ps_if (pt_cmpR (eqA (K := K) rfl hr.units) (pv 4) pe_int (nomark _)) (pss_one (ps_ret (pe_joinK (K := K) rfl (pe_join (pv 6) (pe_op op_plusA (pe_op op_plusA (pe_slice (slA (K := K) rfl) (pv 9) po_none (po_some (pv 5))) (pe_slice (slA (K := K) rfl) (pv 10) po_none (po_some pe_int))) (pe_slice (slA (K := K) rfl) (pv 9) (po_some (pv 5)) po_none)))))) pss_nil)
        (pss_one (ps_ret (pe_joinK (K := K) rfl (pe_join (pv 6) (pe_op op_plusA (pe_op op_plusA (pe_slice (slA (K := K) rfl) (pv 9) po_none (po_some (pv 5))) (pe_revK (K := K) rfl (pv 10))) (pe_slice (slA (K := K) rfl) (pv 9) (po_some (pe_op op_plusA (pv 5) pe_int)) po_none))))))))))))))))))))), ?_⟩
    walk_at "cx"
    have z0 := hh.z
    walk_at "tys"
    rename_i way Z1 H1 w0 w1 t1 hh1 at_ Z2 H2 a0 a1 t2 hh2 r Z3 H3 r0 r1 t3 hh3
    have T3 : T [h] Z H Z3 H3 := (((T.refl z0 : T [h] Z H Z H).step t1 mm_same).step t2 mm_same).step t3 mm_same
    have hh3 : Hand K Z3 H3 h (n + 10) := hh3.mono (by omega)
    clear t1 t2 t3 hh1 hh2
    have one : ∀ c : Nat, (⟨#[c]⟩ : Str).length = 1 := fun _ => rfl
    refine s_ixStr ⟨r0, r1⟩ (by decide +kernel) fun cb hb => ?_
    have sep := sep_any hb
    walk_at "tys"
    refine s_lenTx (by decide +kernel) ?_
    rw [fewW_len]
    walk_at "tys"
    rename_i r4 Z4 H4 r40 r41 t4 hh4
    refine s_ixStr ⟨r40, by rw [fewW_tl]; exact r41⟩ (by decide +kernel) fun c4 _ => ?_
    walk_at "tys"
    refine s_cut (fun σ' H' => ∃ c, ∃ x1 x2 x3 x4 x5 Z', σ' = [some (.ref h), some (.str x), x1, x2, some (.int way), some (.int at_), some (.str ⟨#[cb]⟩), some (.str ⟨#[c]⟩), x3, x4, x5] ∧ T [h] Z H Z' H' ∧ Hand K Z' H' h n) ?_ ?_
    · walk_at "tys"
      rename_i r5 Z5 H5 r50 r51 t5 hh5
      refine i_d (fun c5 => ?_) (fun c5 => ?_)
      · walk_at "tys"
        refine s_lenTx (by decide +kernel) ?_
        rw [sgnW_len]
        walk_at "tys"
        rename_i r6 Z6 H6 r60 r61 t6 hh6
        refine s_ixStr ⟨r60, by rw [sgnW_tl]; exact r61⟩ (by decide +kernel) fun c6 _ => ?_
        walk_at "tys"
        exact ⟨c6, _, _, _, _, _, Z6, rfl, ((T3.step t4 mm_same).step t5 mm_same).step t6 mm_same, hh6.mono (by omega)⟩
      · walk_at "tys"
        exact ⟨c4, _, _, _, _, _, Z5, rfl, (T3.step t4 mm_same).step t5 mm_same, hh5.mono (by omega)⟩
    · rintro σ' H' ⟨c, x1, x2, x3, x4, x5, Z7, rfl, t7, hh7⟩
      have z7 := t7.zh
      clear t4 hh3 hh4 T3 z0 hh
      walk_at "tys"
      refine s_lenTx (by omega) ?_
      obtain ⟨L, eL⟩ : ∃ L : Int, L = (x.length : Int) := ⟨_, rfl⟩
      have L0 : 0 ≤ L := by omega
      rw [← eL]
      walk_at "tys"
      generalize at_ % (L + 1) = pl at *
      walk_at "tys"
      refine i_d (fun c0 => ?_) (fun c0 => ?_)
      · walk_at "tys"
        refine s_slW (by omega) ?_
        walk_at "tys"
        have l1 := cut_lenW x none (some pl)
        have l2 := cut_lenW x (some (pl + way)) none
        generalize cutS x none (some pl) = y1 at *
        refine s_plusS (by rw [one]; omega) ?_
        walk_at "tys"
        refine s_slW (by omega) ?_
        generalize cutS x (some (pl + way)) none = y2 at *
        refine s_plusS (by rw [len_app, one]; omega) ?_
        exact q _ Z7 _ (by rw [len_app, len_app, one]; omega) t7 hh7
      · walk_at "tys"
        refine i_d (fun c2 => ?_) (fun c2 => ?_)
        · walk_at "tys"
          refine s_slW (by omega) ?_
          walk_at "tys"
          have l1 := cut_lenW x none (some pl)
          have l2 := cut_lenW x (some (pl + 1)) none
          generalize cutS x none (some pl) = y1 at *
          refine s_slW (by omega) ?_
          generalize cutS x (some (pl + 1)) none = y2 at *
          refine s_plusS (by omega) ?_
          exact q _ Z7 _ (by rw [len_app]; omega) t7 hh7
        · walk_at "tys"
          refine s_m1 ?_
          walk_at "tys"
          refine n_m1 ?_
          walk_at "tys"
          refine t_split z7 (by rw [one]; rfl) (by omega) fun p Z8 H8 n8 t8 f8 => ?_
          have z8 := t8.zh
          walk_at "tys"
          obtain ⟨N, eN⟩ : ∃ N : Int, N = ((Txt.split x ⟨#[cb]⟩).length : Int) := ⟨_, rfl⟩
          rw [← eN]
          obtain ⟨ps, hps⟩ : ∃ ps, ps = Txt.split x ⟨#[cb]⟩ := ⟨_, rfl⟩
          have pp := split_sum (x := x) sep
          rw [← hps] at f8 pp eN
          have pl1 : ps.length ≤ 1000001 := by omega
          have N0 : 0 < N := by omega
          walk_at "tys"
          generalize at_ % N = m at *
          walk_at "tys"
          rename_i m0 m1
          refine t_slW z8 f8 fun pr Z9 H9 n9 t9 f9 => ?_
          have z9 := t9.zh
          have g9 := t9.z _ _ f8
          rw [cutI_mid ps m0 (by omega), show (m + 2).toNat - m.toNat = 2 by omega] at f9
          have T9 := (t7.step t8 mm_nil).step t9 mm_nil
          have h9 := (hh7.tt t8 nm_nil).tt t9 nm_nil
          have e1 : (m + 1).toNat = m.toNat + 1 := by omega
          have e2 : (m + 2).toNat = m.toNat + 2 := by omega
          clear t7 t8 t9 hh7 z7 z8 hh3
          walk_at "tys"
          refine i_d (fun c3 => ?_) (fun c3 => ?_)
          · walk_at "tys"
            refine s_m1 ?_
            walk_at "tys"
            refine n_m1 ?_
            walk_at "tys"
            refine t_slW z9 g9 fun pa Za Ha na ta fa => ?_
            have za := ta.zh
            walk_at "tys"
            refine t_slW za (ta.z _ _ g9) fun pb Zb Hb nb tb fb => ?_
            have zb := tb.zh
            rw [cutI_to ps m0] at fa
            rw [cutI_from ps (k := m + 1) (by omega), e1] at fb
            refine t_catW zb (tb.z _ _ fa) fb (by simp only [List.length_map, List.length_take, List.length_drop]; omega) fun pc Zc Hc nc tc fc => ?_
            have zc := tc.zh
            rw [← List.map_append] at fc
            obtain ⟨j1, j2⟩ := join_lenW (qs := ps.take m.toNat ++ ps.drop (m.toNat + 1)) sep hps (by
              have := lenS_mid2 ps m.toNat 1
              rw [lenS_app]
              omega) (by
              simp only [List.length_append, List.length_take, List.length_drop]
              omega)
            refine t_join (sq_of (zc _ _ fc)) (Nat.le_trans j2 (by omega)) ?_
            exact q _ Zc _ j1 (((T9.step ta mm_nil).step tb mm_nil).step tc mm_nil) (((h9.tt ta nm_nil).tt tb nm_nil).tt tc nm_nil)
          · walk_at "tys"
            refine i_d (fun c4 => ?_) (fun c4 => ?_)
            · walk_at "tys"
              refine s_m1 ?_
              walk_at "tys"
              refine n_m1 ?_
              walk_at "tys"
              refine t_slW z9 g9 fun pa Za Ha na ta fa => ?_
              have za := ta.zh
              walk_at "tys"
              refine t_slW za (ta.z _ _ f9) fun pb Zb Hb nb tb fb => ?_
              have zb := tb.zh
              rw [cutI_to ps m0] at fa
              rw [cutI_to _ (show (0 : Int) ≤ 1 by decide)] at fb
              refine t_catW zb (tb.z _ _ fa) fb (by simp only [List.length_map, List.length_take, List.length_drop]; omega) fun pc Zc Hc nc tc fc => ?_
              have zc := tc.zh
              rw [← List.map_append] at fc
              walk_at "tys"
              refine t_slW zc (tc.z _ _ (tb.z _ _ (ta.z _ _ g9))) fun pd Zd Hd nd td fd => ?_
              have zd := td.zh
              rw [cutI_from ps m0] at fd
              refine t_catW zd (td.z _ _ fc) fd (by simp only [List.length_map, List.length_append, List.length_take, List.length_drop]; omega) fun pe Ze He ne te fe => ?_
              have ze := te.zh
              rw [← List.map_append] at fe
              obtain ⟨j1, j2⟩ := join_lenW (qs := ps.take m.toNat ++ ((ps.drop m.toNat).take 2).take (Int.toNat 1) ++ ps.drop m.toNat) sep hps (by
                have l1 := lenS_split ps m.toNat
                have l2 := lenS_split (ps.drop m.toNat) 2
                have l3 := lenS_split ((ps.drop m.toNat).take 2) (Int.toNat 1)
                rw [lenS_app, lenS_app]
                omega) (by
                simp only [List.length_append, List.length_take, List.length_drop]
                have : Int.toNat 1 = 1 := rfl
                omega)
              refine t_join (sq_of (ze _ _ fe)) (Nat.le_trans j2 (by omega)) ?_
              exact q _ Ze _ j1 (((((T9.step ta mm_nil).step tb mm_nil).step tc mm_nil).step td mm_nil).step te mm_nil) (((((h9.tt ta nm_nil).tt tb nm_nil).tt tc nm_nil).tt td nm_nil).tt te nm_nil)
            · walk_at "tys"
              refine s_m1 ?_
              walk_at "tys"
              refine n_m1 ?_
              walk_at "tys"
              refine t_slW z9 g9 fun pa Za Ha na ta fa => ?_
              have za := ta.zh
              walk_at "tys"
              refine t_revW za (ta.z _ _ f9) fun pb Zb Hb nb tb fb => ?_
              have zb := tb.zh
              rw [cutI_to ps m0] at fa
              rw [← List.map_reverse] at fb
              refine t_catW zb (tb.z _ _ fa) fb (by simp only [List.length_map, List.length_reverse, List.length_take, List.length_drop]; omega) fun pc Zc Hc nc tc fc => ?_
              have zc := tc.zh
              rw [← List.map_append] at fc
              walk_at "tys"
              refine t_slW zc (tc.z _ _ (tb.z _ _ (ta.z _ _ g9))) fun pd Zd Hd nd td fd => ?_
              have zd := td.zh
              rw [cutI_from ps (k := m + 2) (by omega), e2] at fd
              refine t_catW zd (td.z _ _ fc) fd (by simp only [List.length_map, List.length_append, List.length_reverse, List.length_take, List.length_drop]; omega) fun pe Ze He ne te fe => ?_
              have ze := te.zh
              rw [← List.map_append] at fe
              obtain ⟨j1, j2⟩ := join_lenW (qs := ps.take m.toNat ++ ((ps.drop m.toNat).take 2).reverse ++ ps.drop (m.toNat + 2)) sep hps (by
                have l1 := lenS_mid2 ps m.toNat 2
                rw [lenS_app, lenS_app, lenS_rev]
                omega) (by
                simp only [List.length_append, List.length_reverse, List.length_take, List.length_drop]
                omega)
              refine t_join (sq_of (ze _ _ fe)) (Nat.le_trans j2 (by omega)) ?_
              exact q _ Ze _ j1 (((((T9.step ta mm_nil).step tb mm_nil).step tc mm_nil).step td mm_nil).step te mm_nil) (((((h9.tt ta nm_nil).tt tb nm_nil).tt tc nm_nil).tt td nm_nil).tt te nm_nil)

/-! ### _law_row_text -/
noncomputable def sp_law_row_text (K : PySem.W.Frag) : Sp := fun vs H Q _ => ∃ (v : V) (r : TR.Row) (Z : Hp), vs = [v] ∧ Ex Z H ∧ Ik Z v r ∧ (∀ e ∈ r, EntW e) ∧ r.length ≤ 1000 ∧ ∀ Z' H', T [] Z H Z' H' → Q (.str (rowS r)) H'
theorem has_law_row_text (z : Z K mg) (F : FunAt K mg "_law_row_text" s_law_row_text ["_law_row_here"])  : Has P w K mg base "_law_row_text" 1 (sp_law_row_text K) := by
  refine has_of F sc_law_row_text (fun vs H Q E h => ?_) (fun f cdv A outer s H vs Q E hr h => ?_)
  · obtain ⟨_, _, _, rfl, _⟩ := h
    rfl
  · obtain ⟨v, r, Z, rfl, zh, iv, hw, hl, q⟩ := h
    refine ⟨_, (pss_cons (ps_set (i := 1) sc_law_row_text.nd rfl (by first | exact Or.inl rfl | exact Or.inr rfl) (pe_lst pa_nil))
        (pss_cons (ps_for PassesOwn.never rfl (piL (K := K) rfl (pv 0)) (pg_tup rfl (pgs_cons (pg_name (i := 2) sc_law_row_text.nd rfl (by first | exact Or.inl rfl | exact Or.inr rfl)) (pgs_cons (pg_name (i := 3) sc_law_row_text.nd rfl (by first | exact Or.inl rfl | exact Or.inr rfl)) pgs_nil))) (pss_one (ps_expr (pe_bm PySem.F.plainAttrs_list PySem.F.slot_list_append PySem.F.type_list_append mt_append (pv 1) (pa_cons (pe_op op_plusA (pe_op op_plusA (pe_callTy (T := "str") strIA (by rfl) z.b_str (by decide +kernel) (pa_cons (pv 2) pa_nil)) pe_str) (pv 3)) pa_nil)))))
        (pss_one (ps_ret (pe_ix (ixA (K := K) rfl) (pe_lst (pa_cons (pe_joinK (K := K) rfl (pe_join pe_str (pv 1))) (pa_cons pe_str pa_nil))) (pe_callTy (T := "int") call_int1A (by rfl) z.b_int (by decide +kernel) (pa_cons (pe_cmpR (eqA (K := K) rfl hr.units) (pv 0) (pe_lst pa_nil) (nomark _)) pa_nil)) (fun _ _ => rfl)))))), ?_⟩
    walk_at "cx"
    obtain ⟨p, rfl, ir⟩ := iv.ref_of
    walk_at "ts"
    rename_i W Z1 H1 n1 t1 m1 f1
    have z1 := t1.zh
    have ir1 := Ik.tt t1 ir
    refine t_forL ir1 (fun i σ H' => ∃ x1 x2 Z', σ = [some (.ref p), some (.ref W), x1, x2] ∧ T [W] Z1 H1 Z' H' ∧ Mu Z' H' W ∧ H' W = some (.lst (((r.take i).map entS).map V.str))) (fun i σ H' hh => ?_) ⟨_, _, Z1, rfl, T.refl z1, m1, f1⟩ (fun i v e σ H2 he ie hh => ?_) (fun σ H2 hh => ?_)
    · obtain ⟨x1, x2, Z2, _, t2, _⟩ := hh
      exact t2.z.trans t2.zh
    · obtain ⟨x1, x2, Z2, rfl, t2, m2, f2⟩ := hh
      have z2 := t2.zh
      obtain ⟨b, rfl, hb⟩ := (Ik.tt t2 ie).ent_of
      obtain ⟨h0, h1, hn⟩ := hw e (List.mem_of_getElem? he)
      have nl := (nameB_low hn).2.1
      have kl := key_len h0 h1
      have sb := st_of (K := K) (z2 _ _ hb)
      have sW := sq_of (K := K) f2
      have il := (List.getElem?_eq_some_iff.mp he).1
      have e1 : ((r.take (i + 1)).map entS).map V.str = ((r.take i).map entS).map V.str ++ [V.str (entS e)] := by
        rw [List.take_add_one, he]
        simp
      walk_at "ts"
      refine s_gt2 sb ?_
      walk_at "ts"
      refine t_strI h0 (by omega) ?_
      walk_at "ts"
      refine s_plusS (by show (numS e.1).length + 1 ≤ _; omega) ?_
      walk_at "ts"
      refine s_plusS (by rw [len_app]; show (numS e.1).length + 1 + _ ≤ _; omega) ?_
      walk_at "ts"
      refine apR z2 f2 m2.z (by rw [List.length_map, List.length_map, List.length_take]; omega) fun Z3 H3 t3 f3 z3W => ?_
      walk_at "ts"
      exact ⟨_, _, Z3, rfl, t2.step t3 mm_same, ⟨z3W, _, f3⟩, by rw [e1]; exact f3⟩
    · obtain ⟨x1, x2, Z2, rfl, t2, m2, f2⟩ := hh
      rw [List.take_length] at f2
      have sW := sq_of (K := K) f2
      have ir2 := Ik.tt t2 ir1
      have z2 := t2.zh
      walk_at "ts"
      refine s_m1 ?_
      walk_at "ts"
      refine n_m1 ?_
      have sz : ((r.map entS).map (·.length)).sum ≤ r.length * 28 := sum_le (fun x hx => by
        obtain ⟨e, he, rfl⟩ := List.mem_map.mp hx
        rw [TL.len_tl]
        exact ent_len (hw e he)) (by rw [List.length_map])
      walk_at "ts"
      refine t_join sW (by rw [List.length_map]; show _ + r.length * 1 ≤ _; omega) ?_
      walk_at "ts"
      rename_i p3 Z3 H3 n3 t3 f3 p4 Z4 H4 n4 t4 m4 f4
      have z4 := t4.zh
      have ir4 := Ik.tt t4 (Ik.tt t3 ir2)
      refine s_eqP (x := r) (y := ([] : TR.Row)) (Ik.ex z4 ir4).is (Ik.nil f4).is (by decide) ?_
      have s3 := sq_of (K := K) (z4 _ _ (t4.z _ _ f3))
      walk_at "ts"
      refine s_ixB2 s3 ?_
      have T4 : T [] Z H Z4 H4 := ((t1.step t2 (mm_1 (.inr n1))).step t3 mm_nil).step t4 mm_nil
      have e2 : (if decide (r = []) = true then V.str "-" else V.str (Txt.join "," (r.map entS))) = V.str (rowS r) := by
        unfold rowS
        by_cases c : r = []
        · rw [if_pos (decide_eq_true c), if_pos c]
        · rw [if_neg (by simpa using c), if_neg c]
      rw [e2]
      exact q Z4 H4 T4

/-! ### _law_rows_text -/
noncomputable def sp_law_rows_text (K : PySem.W.Frag) : Sp := fun vs H Q _ => ∃ (v : V) (rs : List TR.Row) (Z : Hp), vs = [v] ∧ Ex Z H ∧ Ik Z v rs ∧ (∀ r ∈ rs, (∀ e ∈ r, EntW e) ∧ r.length ≤ 150) ∧ rs.length ≤ 700 ∧ ∀ Z' H', T [] Z H Z' H' → Q (.str (rowsS rs)) H'
theorem has_law_rows_text (z : Z K mg) (F : FunAt K mg "_law_rows_text" s_law_rows_text ["_law_rows_here"]) (h_law_row_text : Has P w K mg base "_law_row_text" 1 (sp_law_row_text K)) : Has P w K mg base "_law_rows_text" 2 (sp_law_rows_text K) := by
  refine has_of F sc_law_rows_text (fun vs H Q E h => ?_) (fun f cdv A outer s H vs Q E hr h => ?_)
  · obtain ⟨_, _, _, rfl, _⟩ := h
    rfl
  · obtain ⟨v, rs, Z, rfl, zh, iv, hw, hl, q⟩ := h
    refine ⟨_, (pss_one (ps_ret (pe_ix (ixA (K := K) rfl) (pe_lst (pa_cons (pe_joinK (K := K) rfl (pe_join pe_str (pe_lc (own := [("_law_row_here", 1)]) (g := gName 1) (tt := tYes) rfl sc_law_rows_text.nd (piL (K := K) rfl (pv 0)) (blkOk_by (own := [("_law_row_here", 1)]) (N := ["_law_rows_here", "_law_row_here"]) (sc := defScope s_law_rows_text) (by decide +kernel)) (fun _ _ _ _ _ => (pg_name (i := 1) sc_law_rows_text.nd rfl (by first | exact Or.inl rfl | exact Or.inr rfl))) (fun _ _ _ _ _ => pts_nil) (fun _ _ _ _ _ => (pe_callH h_law_row_text (by decide) hr rfl (pa_cons (pv 1) pa_nil)))))) (pa_cons pe_str pa_nil))) (pe_callTy (T := "int") call_int1A (by rfl) z.b_int (by decide +kernel) (pa_cons (pe_cmpR (eqA (K := K) rfl hr.units) (pv 0) (pe_lst pa_nil) (nomark _)) pa_nil)) (fun _ _ => rfl)))), ?_⟩
    walk_at "cx"
    obtain ⟨p, rfl, ir⟩ := iv.ref_of
    walk_at "ts"
    refine s_m1 ?_
    walk_at "ts"
    refine n_m1 ?_
    walk_at "ts"
    refine c_mapS rowS zh ir (by omega) (fun u r Z2 H2 hr hu t2 A hA => ?_) (fun D Z2 H2 nD t2 fD => ?_)
    · obtain ⟨h1, h2⟩ := hw r hr
      walk_at "ts"
      exact ⟨u, r, Z2, rfl, t2.zh, Ik.tt t2 hu, h1, by omega, fun Z' H' t' => by
        walk_at "ts"
        exact hA Z' H' t'⟩
    · have sD := sq_of (K := K) (t2.zh _ _ fD)
      have sz : ((rs.map rowS).map (·.length)).sum ≤ rs.length * 4351 := sum_le (fun x hx => by
        obtain ⟨r, hr, rfl⟩ := List.mem_map.mp hx
        obtain ⟨h1, h2⟩ := hw r hr
        have := row_len h1
        rw [TL.len_tl]
        omega) (by rw [List.length_map])
      have ir2 := Ik.tt t2 ir
      have z2 := t2.zh
      walk_at "ts"
      refine t_join sD (by rw [List.length_map]; show _ + rs.length * 1 ≤ _; omega) ?_
      walk_at "ts"
      rename_i p3 Z3 H3 n3 t3 f3 p4 Z4 H4 n4 t4 m4 f4
      have z4 := t4.zh
      have ir4 := Ik.tt t4 (Ik.tt t3 ir2)
      refine s_eqP (x := rs) (y := ([] : List TR.Row)) (Ik.ex z4 ir4).is (Ik.nil f4).is (by decide) ?_
      have s3 := sq_of (K := K) (z4 _ _ (t4.z _ _ f3))
      walk_at "ts"
      refine s_ixB2 s3 ?_
      have e2 : (if decide (rs = []) = true then V.str "none" else V.str (Txt.join ";" (rs.map rowS))) = V.str (rowsS rs) := by
        unfold rowsS
        by_cases c : rs = []
        · rw [if_pos (decide_eq_true c), if_pos c]
        · rw [if_neg (by simpa using c), if_neg c]
      rw [e2]
      exact q Z4 H4 ((t2.step t3 mm_nil).step t4 mm_nil)

/-! ### _law_thing -/
noncomputable abbrev sp_law_thing (K : PySem.W.Frag) : Sp := spThing K
theorem has_law_thing (z : Z K mg) (F : FunAt K mg "_law_thing" s_law_thing ["_law_hand"]) (h_law_draw : Has P w K mg base "_law_draw" 1 (sp_law_draw K)) : Has P w K mg base "_law_thing" 2 (sp_law_thing K) := by
  refine has_of F sc_law_thing (fun vs H Q E h => ?_) (fun f cdv A outer s H vs Q E hr h => ?_)
  · obtain ⟨a, n, Z, rfl, _⟩ := h
    rfl
  · obtain ⟨a, n, Z, rfl, hh, q⟩ := h
    refine ⟨_, (pss_cons (ps_set (i := 1) sc_law_thing.nd rfl (by first | exact Or.inl rfl | exact Or.inr rfl) pe_str)
        (pss_one (ps_ret (pe_join pe_str (pe_lc (own := [("_law_k", 2)]) (g := gName 2) (tt := tYes) rfl sc_law_thing.nd (pi_range1 (by rfl) z.b_range (pa_cons (pe_op op_plusA pe_int (pe_callH h_law_draw (by decide) hr rfl (pa_cons (pv 0) (pa_cons pe_int pa_nil)))) pa_nil)) (blkOk_by (own := [("_law_k", 2)]) (N := ["_law_hand", "_law_letters", "_law_k"]) (sc := defScope s_law_thing) (by decide +kernel)) (fun _ _ _ _ _ => (pg_name (i := 2) sc_law_thing.nd rfl (by first | exact Or.inl rfl | exact Or.inr rfl))) (fun _ _ _ _ _ => pts_nil) (fun _ _ _ _ _ => (pe_ix (ixA (K := K) rfl) (pv 1) (pe_callH h_law_draw (by decide) hr rfl (pa_cons (pv 0) (pa_cons pe_int pa_nil))) (fun _ _ => rfl)))))))), ?_⟩
    walk_at "cx"
    walk_at "ss"
    refine ⟨⟨_, rfl⟩, ?_⟩
    walk_at "ss"
    refine ⟨a, 8, n + 9, _, rfl, hh.mono (by omega), by decide, by decide, fun m H1 m0 m1 e1 hh1 => ?_⟩
    walk_at "ss"
    refine u_lcR1HR (fun (x : Str) y _ => y = .str x ∧ (PyData.strOk x = true ∧ ∀ c ∈ TL.tl x, c ∈ lettersS.cps.toList) ∧ x.length = 1) n 1 hh1 (by omega) (by omega) (fun i hi D H2 R' m2 nD oD hh2 A hA => ?_) (fun D ys l H2 nD m2 hh2 f2 hl hp => ?_)
    · walk_at "ss"
      refine ⟨a, 26, R', _, rfl, hh2, by decide, by decide, fun r H3 r0 r1 e3 hh3 => ?_⟩
      walk_at "ss"
      refine s_ixStr ⟨by omega, by show r < 26; omega⟩ (by decide) fun c hc => ?_
      refine hA ⟨#[c]⟩ _ H3 e3 hh3 fun _ _ _ => ⟨rfl, ⟨?_, fun c' hc' => ?_⟩, rfl⟩
      · refine strOk_iff.mpr fun c' hc' => ?_
        rw [List.mem_singleton.mp hc']
        exact strOk_iff.mp (by decide +kernel) c hc
      · rw [List.mem_singleton.mp hc']
        exact hc
    · have pr := hp H2 hh2.z fun b o _ _ s => s
      have pr : ys = l.map V.str ∧ (∀ x ∈ l, PyData.strOk x = true ∧ ∀ c ∈ TL.tl x, c ∈ lettersS.cps.toList) ∧ (l.map (·.length)).sum = l.length := by
        clear hl hp f2
        induction pr with
        | nil => exact ⟨rfl, fun _ h => absurd h List.not_mem_nil, rfl⟩
        | cons a t ih =>
          obtain ⟨i1, i2, i3⟩ := ih
          obtain ⟨a1, a2, a3⟩ := a
          refine ⟨by rw [a1, i1]; rfl, fun x hx => ?_, ?_⟩
          · rcases List.mem_cons.mp hx with e | hx
            · rw [e]; exact a2
            · exact i2 x hx
          · rw [List.map_cons, List.sum_cons, i3, a3, List.length_cons]
            omega
      obtain ⟨p1, p2, p3⟩ := pr
      rw [p1] at f2
      refine s_joinL f2 (by rw [p3]; show l.length + l.length * 0 ≤ _; omega) ?_
      walk_at "ss"
      refine q ⟨_, join_ok (by decide +kernel) fun x hx => (p2 x hx).1⟩ H2 ?_ (e1.trans m2) hh2
      have jl : (Txt.join "" l).length = l.length := by
        show (TL.tl (Txt.join "" l)).length = _
        rw [TL.join_eq, TL.tl_join]
        refine joinL_len.trans ?_
        rw [List.map_map, ← p3]
        rfl
      have jm : ∀ c ∈ TL.tl (Txt.join "" l), c ∈ lettersS.cps.toList := fun c hc => by
        rcases join_mem hc with g | ⟨x, hx, g⟩
        · exact absurd g List.not_mem_nil
        · exact (p2 x hx).2 c g
      unfold nameB
      rw [Bool.and_eq_true]
      exact ⟨decide_eq_true (by rw [jl]; omega), List.all_eq_true.mpr fun c hc => decide_eq_true (jm c hc)⟩

/-! ### _law_far -/
noncomputable abbrev sp_law_far (K : PySem.W.Frag) : Sp := spFar K
theorem has_law_far (z : Z K mg) (F : FunAt K mg "_law_far" s_law_far ["_law_hand", "_law_many"]) (h_law_draw : Has P w K mg base "_law_draw" 1 (sp_law_draw K)) : Has P w K mg base "_law_far" 2 (sp_law_far K) := by
  refine has_of F sc_law_far (fun vs H Q E h => ?_) (fun f cdv A outer s H vs Q E hr h => ?_)
  · obtain ⟨a, m, n, Z, rfl, _⟩ := h
    rfl
  · obtain ⟨a, m, n, Z, rfl, hh, h0, h1, q⟩ := h
    obtain ⟨d, k, c, cells, g1, g3, g4, g5, z1, z2, z3⟩ := id hh
    refine ⟨_, (pss_cons (ps_if (pt_cmpR op_gt (pe_ix (ixA (K := K) rfl) (pv 0) pe_int (fun _ _ => rfl)) pe_int (nomark _)) (pss_one (ps_ret (pe_callH h_law_draw (by decide) hr rfl (pa_cons (pv 0) (pa_cons (pv 1) pa_nil))))) pss_nil)
        (pss_cons (ps_set (i := 2) sc_law_far.nd rfl (by first | exact Or.inl rfl | exact Or.inr rfl) pe_int)
        (pss_cons (ps_for PassesOwn.never rfl (pi_range1 (by rfl) z.b_range (pa_cons pe_int pa_nil)) (pg_name (i := 3) sc_law_far.nd rfl (by first | exact Or.inl rfl | exact Or.inr rfl)) (pss_one (ps_set (i := 2) sc_law_far.nd rfl (by first | exact Or.inl rfl | exact Or.inr rfl) (pe_op op_plusA (pe_op op_multA (pv 2) (pe_op op_pow pe_int pe_int)) (pe_callH h_law_draw (by decide) hr rfl (pa_cons (pv 0) (pa_cons (pe_op op_pow pe_int pe_int) pa_nil)))))))
        (pss_one (ps_ret (pe_op op_mod (pv 2) (pv 1))))))), ?_⟩
    walk_at "cx"
    walk_at "ss"
    refine i_d (fun hd => ?_) (fun hd => ?_)
    · walk_at "ss"
      exact ⟨a, m, n, Z, rfl, hh.mono (by omega), h0, h1, q⟩
    · walk_at "ss"
      refine u_forR1 (fun i σ H' => ∃ x y, σ = [some (.ref a), some (.int m), some (.int x), y] ∧ ExM a H H' ∧ Hand K Z H' a (n + (7 - i))) (by decide) ⟨_, _, rfl, ExM.refl _, hh⟩ (fun i σ H' hi hw => ?_) (fun σ H' hw => ?_)
      · obtain ⟨x, y, rfl, e, hw⟩ := hw
        have hw' : Hand K Z H' a (n + (7 - (i + 1)) + 1) := hw.mono (by omega)
        walk_at "ss"
        refine ⟨a, _, _, _, rfl, hw', by decide, by decide, fun r H2 r0 r1 m2 hh2 => ?_⟩
        walk_at "ss"
        exact ⟨_, _, rfl, e.trans m2, hh2⟩
      · obtain ⟨x, y, rfl, e, hw⟩ := hw
        walk_at "ss"
        exact q _ _ (by omega) (by omega) e (hw.mono (by omega))

/-! ### _law_power -/
noncomputable def sp_law_power (K : PySem.W.Frag) : Sp := fun vs H Q _ => ∃ n : Int, vs = [.int n] ∧ 0 ≤ n ∧ n ≤ 1000 ∧ Q (.int (2 ^ n.toNat)) H
theorem has_law_power (z : Z K mg) (F : FunAt K mg "_law_power" s_law_power ["_law_many"])  : Has P w K mg base "_law_power" 1 (sp_law_power K) := by
  refine has_of F sc_law_power (fun vs H Q E h => ?_) (fun f cdv A outer s H vs Q E hr h => ?_)
  · obtain ⟨n, rfl, _⟩ := h
    rfl
  · obtain ⟨n, rfl, h0, h1, q⟩ := h
    refine ⟨_, (pss_cons (ps_set (i := 1) sc_law_power.nd rfl (by first | exact Or.inl rfl | exact Or.inr rfl) pe_int)
        (pss_cons (ps_for PassesOwn.never rfl (pi_range1 (by rfl) z.b_range (pa_cons (pv 0) pa_nil)) (pg_name (i := 2) sc_law_power.nd rfl (by first | exact Or.inl rfl | exact Or.inr rfl)) (pss_one (ps_set (i := 1) sc_law_power.nd rfl (by first | exact Or.inl rfl | exact Or.inr rfl) (pe_op op_multA (pv 1) pe_int))))
        (pss_one (ps_ret (pv 1))))), ?_⟩
    walk_at "cx"
    walk_at "ss"
    refine u_forR1 (fun i σ H' => ∃ x, σ = [some (.int n), some (.int (2 ^ i)), x] ∧ H' = H) (by omega) ⟨_, rfl, rfl⟩ (fun i σ H' hi hh => ?_) (fun σ H' hh => ?_)
    · obtain ⟨x, rfl, rfl⟩ := hh
      walk_at "ss"
      exact ⟨_, by rw [Int.pow_succ]; rfl, rfl⟩
    · obtain ⟨x, rfl, rfl⟩ := hh
      walk_at "ss"
      exact q

/-! ### _law_key -/
noncomputable abbrev sp_law_key (K : PySem.W.Frag) : Sp := spKey K
theorem has_law_key (z : Z K mg) (F : FunAt K mg "_law_key" s_law_key ["_law_hand"]) (h_law_far : Has P w K mg base "_law_far" 2 (sp_law_far K)) (h_law_power : Has P w K mg base "_law_power" 1 (sp_law_power K)) (h_law_draw : Has P w K mg base "_law_draw" 1 (sp_law_draw K)) : Has P w K mg base "_law_key" 3 (sp_law_key K) := by
  refine has_of F sc_law_key (fun vs H Q E h => ?_) (fun f cdv A outer s H vs Q E hr h => ?_)
  · obtain ⟨a, n, Z, rfl, _⟩ := h
    rfl
  · obtain ⟨a, n, Z, rfl, hh, q⟩ := h
    refine ⟨_, (pss_cons (ps_set (i := 1) sc_law_key.nd rfl (by first | exact Or.inl rfl | exact Or.inr rfl) (pe_callH h_law_draw (by decide) hr rfl (pa_cons (pv 0) (pa_cons pe_int pa_nil))))
        (pss_cons (ps_set (i := 2) sc_law_key.nd rfl (by first | exact Or.inl rfl | exact Or.inr rfl) (pe_callH h_law_draw (by decide) hr rfl (pa_cons (pv 0) (pa_cons (pe_ix (ixA (K := K) rfl) (pe_lst (pa_cons pe_int (pa_cons pe_int (pa_cons pe_int pa_nil)))) (pe_callH h_law_draw (by decide) hr rfl (pa_cons (pv 0) (pa_cons pe_int pa_nil))) (fun _ _ => rfl)) pa_nil))))
        (pss_cons (ps_if (pt_cmpR op_lt (pv 1) pe_int (nomark _)) (pss_one (ps_ret (pv 2))) pss_nil)
        (pss_cons (ps_if (pt_cmpR (eqA (K := K) rfl hr.units) (pv 1) pe_int (nomark _)) (pss_one (ps_ret (pe_op op_sub (pe_op op_sub (pe_op op_pow pe_int pe_int) pe_int) (pv 2)))) pss_nil)
        (pss_cons (ps_if (pt_cmpR (eqA (K := K) rfl hr.units) (pv 1) pe_int (nomark _)) (pss_one (ps_ret (pe_op op_plusA (pv 2) (pe_callH h_law_power (by decide) hr rfl (pa_cons (pe_op op_plusA pe_int (pe_callH h_law_draw (by decide) hr rfl (pa_cons (pv 0) (pa_cons pe_int pa_nil)))) pa_nil))))) pss_nil)
        (pss_cons (ps_if (pt_cmpR (eqA (K := K) rfl hr.units) (pv 1) pe_int (nomark _)) (pss_one (ps_ret (pe_op op_plusA (pe_op op_mod (pv 2) pe_int) (pe_op op_multA pe_int (pe_callH h_law_far (by decide) hr rfl (pa_cons (pv 0) (pa_cons (pe_op op_pow pe_int pe_int) pa_nil))))))) pss_nil)
        (pss_one (ps_ret (pe_callH h_law_far (by decide) hr rfl (pa_cons (pv 0) (pa_cons (pe_op op_pow pe_int pe_int) pa_nil))))))))))), ?_⟩
    walk_at "cx"
    walk_at "ss"
    refine ⟨a, 7, _, _, rfl, hh, by walk_at "od", by walk_at "od", fun wy H1 wy0 wy1 m1 hh1 => ?_⟩
    walk_at "ss"
    rename_i p1 H2 n2 e2 f2
    refine ⟨a, 3, _, _, rfl, hh1.ex e2, by walk_at "od", by walk_at "od", fun x H3 x0 x1 m3 hh3 => ?_⟩
    walk_at "ss"
    rename_i b hb
    have hb2 : 0 < b ∧ b ≤ 200 := by omega
    refine ⟨a, b, _, _, rfl, hh3, by walk_at "od", by walk_at "od", fun lo H4 lo0 lo1 m4 hh4 => ?_⟩
    have M : ExM a H H4 := ((m1.trans e2.toM).trans m3).trans m4
    walk_at "ss"
    refine i_d (fun hd => ?_) (fun hd => ?_)
    · walk_at "ss"
      exact q _ _ lo0 (by omega) M (hh4.mono (by omega))
    walk_at "ss"
    refine i_d (fun hd => ?_) (fun hd => ?_)
    · walk_at "ss"
      exact q _ _ (by omega) (by omega) M (hh4.mono (by omega))
    walk_at "ss"
    refine i_d (fun hd => ?_) (fun hd => ?_)
    · walk_at "ss"
      refine ⟨a, 52, _, _, rfl, hh4, by walk_at "od", by walk_at "od", fun y H5 y0 y1 m5 hh5 => ?_⟩
      walk_at "ss"
      refine ⟨_, rfl, by omega, by omega, ?_⟩
      have hp := two_pos (8 + y).toNat
      have hp2 := two_mono (show (8 + y).toNat ≤ 59 by omega)
      have e59 : (2 : Int) ^ 59 = 576460752303423488 := by decide
      walk_at "ss"
      exact q _ _ (by omega) (by omega) (M.trans m5) (hh5.mono (by omega))
    walk_at "ss"
    refine i_d (fun hd => ?_) (fun hd => ?_)
    · walk_at "ss"
      refine ⟨a, _, _, _, rfl, hh4.mono (m := n + 7) (by omega), by decide, by decide, fun y H5 y0 y1 m5 hh5 => ?_⟩
      walk_at "ss"
      exact q _ _ (by omega) (by omega) (M.trans m5) (hh5.mono (by omega))
    · walk_at "ss"
      refine ⟨a, _, _, _, rfl, hh4.mono (m := n + 7) (by omega), by decide, by decide, fun y H5 y0 y1 m5 hh5 => ?_⟩
      walk_at "ss"
      exact q _ _ (by omega) (by omega) (M.trans m5) (hh5.mono (by omega))

/-! ### _law_row -/
noncomputable def sp_law_row (K : PySem.W.Frag) : Sp := fun vs H Q _ => ∃ (h : Addr) (n : Nat) (Z : Hp), vs = [.ref h] ∧ Hand K Z H h (n + 300) ∧
  ∀ p (r : TR.Row) Z' H', H p = none → T [h] Z H Z' H' → Hand K Z' H' h n → Lm Z' H' p r → (∀ e ∈ r, EntW e) → r.length ≤ 8 → Q (.ref p) H'
theorem has_law_row (z : Z K mg) (F : FunAt K mg "_law_row" s_law_row ["_law_hand"]) (h_law_draw : Has P w K mg base "_law_draw" 1 (sp_law_draw K)) (h_law_thing : Has P w K mg base "_law_thing" 2 (sp_law_thing K)) (h_law_key : Has P w K mg base "_law_key" 3 (sp_law_key K)) : Has P w K mg base "_law_row" 4 (sp_law_row K) := by
  refine has_of F sc_law_row (fun vs H Q E h => ?_) (fun f cdv A outer s H vs Q E hr h => ?_)
  · obtain ⟨_, _, _, rfl, _⟩ := h
    rfl
  · obtain ⟨h, n, Z, rfl, hh, q⟩ := h
    refine ⟨_, (pss_cons (ps_set (i := 1) sc_law_row.nd rfl (by first | exact Or.inl rfl | exact Or.inr rfl) (pe_lst pa_nil))
        (pss_cons (ps_for PassesOwn.never rfl (pi_range1 (by rfl) z.b_range (pa_cons (pe_callH h_law_draw (by decide) hr rfl (pa_cons (pv 0) (pa_cons (pe_ix (ixA (K := K) rfl) (pe_lst (pa_cons pe_int (pa_cons pe_int (pa_cons pe_int pa_nil)))) (pe_callH h_law_draw (by decide) hr rfl (pa_cons (pv 0) (pa_cons pe_int pa_nil))) (fun _ _ => rfl)) pa_nil))) pa_nil)) (pg_name (i := 2) sc_law_row.nd rfl (by first | exact Or.inl rfl | exact Or.inr rfl)) (pss_one (ps_expr (pe_bm PySem.F.plainAttrs_list PySem.F.slot_list_append PySem.F.type_list_append mt_append (pv 1) (pa_cons (pe_tup (pa_cons (pe_callH h_law_key (by decide) hr rfl (pa_cons (pv 0) pa_nil)) (pa_cons (pe_callH h_law_thing (by decide) hr rfl (pa_cons (pv 0) pa_nil)) pa_nil))) pa_nil)))))
        (pss_one (ps_ret (pv 1))))), ?_⟩
    walk_at "cx"
    have z0 := hh.z
    walk_at "tys"
    rename_i p Z1 H1 n1 t1 m1 f1 p3 Z2 H2 n2 t2 f2 r2 Z3 H3 r20 r21 t3 hh3 many hm mn Z4 H4 mn0 mn1 t4 hh4
    have mn8 : mn < 9 := by omega
    have T4 : T [h] Z H Z4 H4 := (((T.refl z0 : T [h] Z H Z H).step t1 mm_nil).step t2 mm_nil).step t3 mm_same |>.step t4 mm_same
    have lm4 : Lm Z4 H4 p ([] : TR.Row) := (((Lm.of0 m1 t1.zh f1).tt t2 nm_nil).tt t3 (nm_cons (ne_alF n1 hh.at) nm_nil)).tt t4 (nm_cons (ne_alF n1 hh.at) nm_nil)
    have nph : p ≠ h := ne_alF n1 hh.at
    clear t1 t2 t3 t4 m1 f1 f2 hh3
    refine u_forR1 (fun i σ H' => ∃ x1 Z', ∃ r : TR.Row, σ = [some (.ref h), some (.ref p), x1] ∧ T [h] Z H Z' H' ∧ Hand K Z' H' h (n + 22 * (9 - i)) ∧ Lm Z' H' p r ∧ (∀ e ∈ r, EntW e) ∧ r.length = i) (by omega) ⟨_, Z4, [], rfl, T4, hh4.mono (by omega), lm4, fun _ h => absurd h List.not_mem_nil, rfl⟩ (fun i σ H5 hi hq => ?_) (fun σ H5 hq => ?_)
    · obtain ⟨x1, Z5, r, rfl, t5, hh5, lm5, ew, rl⟩ := hq
      have z5 := t5.zh
      have e22 : n + 22 * (9 - i) = n + 22 * (9 - (i + 1)) + 22 := by omega
      rw [e22] at hh5
      try dsimp only
      repeat ((fail_if_success (with_reducible apply thingT)); walk_at "ty")
      rename_i k6 Z6 H6 k60 k61 t6 hh6
      refine thingN hh6 (by omega) fun w Z7 H7 nb t7 hh7 => ?_
      have lm7 := (lm5.tt t6 (nm_cons nph nm_nil)).tt t7 (nm_cons nph nm_nil)
      have z7 := t7.zh
      walk_at "tys"
      rename_i p8 Z8 H8 n8 t8 f8 Z9 H9 t9 lm9
      refine ⟨_, Z9, _, rfl, (((t5.step t6 mm_same).step t7 mm_same).step t8 mm_nil).step t9 (mm_1 (.inr n1)), (((hh7.tt t8 nm_nil).tt t9 (nm_cons nph.symm nm_nil)).mono (by omega)), lm9, fun e he => ?_, by rw [List.length_append, rl]; rfl⟩
      rcases List.mem_append.mp he with he | he
      · exact ew e he
      · rw [List.mem_singleton.mp he]
        exact ⟨k60, k61, nb⟩
    · obtain ⟨x1, Z5, r, rfl, t5, hh5, lm5, ew, rl⟩ := hq
      walk_at "tys"
      exact q p r Z5 H5 n1 t5 (hh5.mono (by omega)) lm5 ew (by omega)

/-! ### _law_rows -/
noncomputable def sp_law_rows (K : PySem.W.Frag) : Sp := fun vs H Q _ => ∃ (h : Addr) (most : Int) (n : Nat) (Z : Hp), vs = [.ref h, .int most] ∧ 1 ≤ most ∧ most ≤ 131 ∧ Hand K Z H h (n + 40000) ∧
  ∀ p (rs : List TR.Row) Z' H', H p = none → T [h] Z H Z' H' → Hand K Z' H' h n → Lm Z' H' p rs → (∀ r ∈ rs, (∀ e ∈ r, EntW e) ∧ r.length ≤ 8) → (rs.length : Int) < most → Q (.ref p) H'
theorem has_law_rows (z : Z K mg) (F : FunAt K mg "_law_rows" s_law_rows ["_law_hand", "_law_most"]) (h_law_draw : Has P w K mg base "_law_draw" 1 (sp_law_draw K)) (h_law_row : Has P w K mg base "_law_row" 4 (sp_law_row K)) : Has P w K mg base "_law_rows" 5 (sp_law_rows K) := by
  refine has_of F sc_law_rows (fun vs H Q E h => ?_) (fun f cdv A outer s H vs Q E hr h => ?_)
  · obtain ⟨_, _, _, _, rfl, _⟩ := h
    rfl
  · obtain ⟨h, most, n, Z, rfl, m0, m1, hh, q⟩ := h
    refine ⟨_, (pss_cons (ps_set (i := 2) sc_law_rows.nd rfl (by first | exact Or.inl rfl | exact Or.inr rfl) (pe_lst pa_nil))
        (pss_cons (ps_for PassesOwn.never rfl (pi_range1 (by rfl) z.b_range (pa_cons (pe_callH h_law_draw (by decide) hr rfl (pa_cons (pv 0) (pa_cons (pv 1) pa_nil))) pa_nil)) (pg_name (i := 3) sc_law_rows.nd rfl (by first | exact Or.inl rfl | exact Or.inr rfl)) (pss_one (ps_expr (pe_bm PySem.F.plainAttrs_list PySem.F.slot_list_append PySem.F.type_list_append mt_append (pv 2) (pa_cons (pe_callH h_law_row (by decide) hr rfl (pa_cons (pv 0) pa_nil)) pa_nil)))))
        (pss_one (ps_ret (pv 2))))), ?_⟩
    walk_at "cx"
    have z0 := hh.z
    walk_at "tys"
    rename_i p Z1 H1 n1 t1 mu1 f1 mn Z4 H4 mn0 mn1 t4 hh4
    have T4 : T [h] Z H Z4 H4 := ((T.refl z0 : T [h] Z H Z H).step t1 mm_nil).step t4 mm_same
    have lm4 : Lm Z4 H4 p ([] : List TR.Row) := (Lm.of0 mu1 t1.zh f1).tt t4 (nm_cons (ne_alF n1 hh.at) nm_nil)
    have nph : p ≠ h := ne_alF n1 hh.at
    clear t1 t4 mu1 f1
    refine u_forR1 (fun i σ H' => ∃ x1 Z', ∃ rs : List TR.Row, σ = [some (.ref h), some (.int most), some (.ref p), x1] ∧ T [h] Z H Z' H' ∧ Hand K Z' H' h (n + 300 * (131 - i)) ∧ Lm Z' H' p rs ∧ (∀ r ∈ rs, (∀ e ∈ r, EntW e) ∧ r.length ≤ 8) ∧ rs.length = i) (by omega) ⟨_, Z4, [], rfl, T4, hh4.mono (by omega), lm4, fun _ h => absurd h List.not_mem_nil, rfl⟩ (fun i σ H5 hi hq => ?_) (fun σ H5 hq => ?_)
    · obtain ⟨x1, Z5, rs, rfl, t5, hh5, lm5, ew, rl⟩ := hq
      have z5 := t5.zh
      have e22 : n + 300 * (131 - i) = n + 300 * (131 - (i + 1)) + 300 := by omega
      rw [e22] at hh5
      walk_at "tys"
      refine ⟨h, n + 300 * (131 - (i + 1)), Z5, rfl, hh5, fun p6 r Z6 H6 n6 t6 hh6 lm6 rw_ rl6 => ?_⟩
      obtain ⟨Z7, H7, e7, t7, ls7⟩ := lm6.frq
      rw [← e7]
      clear e7
      have n60 : H p6 = none := t5.nn n6
      have lm7 := (lm5.tt t6 (nm_cons nph nm_nil)).tt t7 (nm_cons (ne_alB n6 lm5.at_) nm_nil)
      have h7 := hh6.tt t7 (nm_cons (ne_alB n6 hh5.at) nm_nil)
      walk_at "tys"
      rename_i Z8 H8 t8 lm8
      refine ⟨_, Z8, _, rfl, ((t5.step t6 mm_same).step t7 (mm_1 (.inr n60))).step t8 (mm_1 (.inr n1)), h7.tt t8 (nm_cons nph.symm nm_nil), lm8, fun r' hr' => ?_, by rw [List.length_append, rl]; rfl⟩
      rcases List.mem_append.mp hr' with hr' | hr'
      · exact ew r' hr'
      · rw [List.mem_singleton.mp hr']
        exact ⟨rw_, rl6⟩
    · obtain ⟨x1, Z5, rs, rfl, t5, hh5, lm5, ew, rl⟩ := hq
      walk_at "tys"
      exact q p rs Z5 H5 n1 t5 (hh5.mono (by omega)) lm5 ew (by omega)

/-! ### _law_step_text -/
noncomputable def sp_law_step_text (K : PySem.W.Frag) : Sp := fun vs H Q _ => ∃ (v : V) (s : Stp) (Z : Hp), vs = [v] ∧ Ex Z H ∧ Ik Z v s ∧ StpT s ∧ ∀ Z' H', T [] Z H Z' H' → Q (.str (stepS s)) H'
theorem has_law_step_text (z : Z K mg) (F : FunAt K mg "_law_step_text" s_law_step_text ["_law_step_here"]) (h_law_row_text : Has P w K mg base "_law_row_text" 1 (sp_law_row_text K)) : Has P w K mg base "_law_step_text" 2 (sp_law_step_text K) := by
  refine has_of F sc_law_step_text (fun vs H Q E h => ?_) (fun f cdv A outer s H vs Q E hr h => ?_)
  · obtain ⟨_, _, _, rfl, _⟩ := h
    rfl
  · obtain ⟨v, s, Z, rfl, zh, iv, hw, q⟩ := h
    refine ⟨_, (pss_cons (ps_set (i := 1) sc_law_step_text.nd rfl (by first | exact Or.inl rfl | exact Or.inr rfl) (pe_lst (pa_cons (pe_ix (ixA (K := K) rfl) (pv 0) pe_int (fun _ _ => rfl)) pa_nil)))
        (pss_cons (ps_for PassesOwn.never rfl (piT (K := K) rfl (pe_slice (slTA (K := K) rfl) (pv 0) (po_some pe_int) po_none)) (pg_name (i := 2) sc_law_step_text.nd rfl (by first | exact Or.inl rfl | exact Or.inr rfl)) (pss_one (ps_if (pt_val (pe_callB (id := "isinstance") (isiA (K := K) rfl) (by rfl) z.b_isinstance (by decide +kernel) (pa_cons (pv 2) (pa_cons (pe_bltn (v := .ty "list") (by rfl) z.b_list (by decide +kernel) rfl) pa_nil)))) (pss_one (ps_expr (pe_bm PySem.F.plainAttrs_list PySem.F.slot_list_append PySem.F.type_list_append mt_append (pv 1) (pa_cons (pe_callH h_law_row_text (by decide) hr rfl (pa_cons (pv 2) pa_nil)) pa_nil)))) (pss_one (ps_expr (pe_bm PySem.F.plainAttrs_list PySem.F.slot_list_append PySem.F.type_list_append mt_append (pv 1) (pa_cons (pe_callTy (T := "str") strIA (by rfl) z.b_str (by decide +kernel) (pa_cons (pv 2) pa_nil)) pa_nil)))))))
        (pss_one (ps_ret (pe_joinK (K := K) rfl (pe_join pe_str (pv 1))))))), ?_⟩
    walk_at "cx"
    obtain ⟨c, nm, us, L, rfl, hc, nl, pr, eS, sz, ul⟩ := stp_parts zh iv hw
    have sc := st_of (K := K) (zh _ _ hc)
    walk_at "tyN"
    refine nwR zh (by show 1 ≤ 100000; decide) fun W Z1 H1 n1 t1 f1 z1W => ?_
    have z1 := t1.zh
    have sc1 := st_of (K := K) (z1 _ _ (t1.z _ _ hc))
    walk_at "ts"
    refine t_slT z1 sc1 nl fun p2 Z2 H2 n2 t2 f2 => ?_
    have f2' : Z2 p2 = some (.tup us) := by
      rw [f2]
      show some (HO.tup (cutI _ (some 1) none)) = _
      rw [cutI_from _ (by decide)]
      rfl
    have z2 := t2.zh
    have pr2 : Paired (PartT Z2) us L := Paired.mapP pr fun u x h => PartT.tt t2 (PartT.tt t1 h)
    have lu := Paired.length pr2
    have mW : Mu Z2 H2 W := t2.mu nm_nil ⟨z1W, _, f1⟩
    have f12 := t2.hp nm_nil f1
    walk_at "ts"
    refine u_forT (fun i σ H' => ∃ x1 Z', σ = [some (.ref c), some (.ref W), x1] ∧ T [W] Z2 H2 Z' H' ∧ Mu Z' H' W ∧ H' W = some (.lst ((nm :: L.take i).map V.str))) (st_of (z2 _ _ f2')) ⟨_, Z2, rfl, T.refl z2, mW, f12⟩ (fun i σ H' _ hh => ?_) (fun i u σ H3 hu hh => ?_) (fun σ H3 hh => ?_)
    · obtain ⟨x1, Z3, _, t3, _⟩ := hh
      exact st_of (t3.zh _ _ (t3.z _ _ f2'))
    · obtain ⟨x1, Z3, rfl, t3, m3, f3⟩ := hh
      obtain ⟨x, hx, px⟩ := pair_at pr2 hu
      have px3 := PartT.tt t3 px
      have z3 := t3.zh
      have sW := sq_of (K := K) f3
      have il := (List.getElem?_eq_some_iff.mp hx).1
      have e1 : (nm :: L.take (i + 1)).map V.str = (nm :: L.take i).map V.str ++ [V.str x] := by
        rw [List.take_add_one, hx]
        simp
      rcases px3 with ⟨j, rfl, j0, j1, rfl⟩ | ⟨b, w, rfl, iw, hw, hl, rfl⟩
      · walk_at "ts"
        refine t_strI j0 (by omega) ?_
        walk_at "ts"
        refine apR z3 f3 m3.z (by rw [List.length_map, List.length_cons, List.length_take]; omega) fun Z4 H4 t4 f4 z4W => ?_
        walk_at "ts"
        exact ⟨_, Z4, rfl, t3.step t4 mm_same, ⟨z4W, _, f4⟩, by rw [e1]; exact f4⟩
      · obtain ⟨vsb, hvb, _⟩ := iw.li
        have sB := sq_of (K := K) (z3 _ _ hvb)
        walk_at "ts"
        refine ⟨.ref b, w, Z3, rfl, z3, iw, hw, by omega, fun Z4 H4 t4 => ?_⟩
        have f4 := t4.hp nm_nil f3
        have m4 := t4.mu nm_nil m3
        walk_at "ts"
        refine apR t4.zh f4 m4.z (by rw [List.length_map, List.length_cons, List.length_take]; omega) fun Z5 H5 t5 f5 z5W => ?_
        walk_at "ts"
        exact ⟨_, Z5, rfl, (t3.step t4 mm_nil).step t5 mm_same, ⟨z5W, _, f5⟩, by rw [e1]; exact f5⟩
    · obtain ⟨x1, Z3, rfl, t3, m3, f3⟩ := hh
      rw [List.take_of_length_le (by omega)] at f3
      have sW := sq_of (K := K) f3
      have sL : (L.map (·.length)).sum ≤ L.length * 5000 := sum_le (fun x hx => by
        obtain ⟨i, hi⟩ := List.mem_iff_getElem?.mp hx
        obtain ⟨u, _, pu⟩ : ∃ u, u ∈ us ∧ PartT Z2 u x := by
          have hi' := (List.getElem?_eq_some_iff.mp hi).1
          have hu : us[i]? = some (us[i]'(by omega)) := List.getElem?_eq_getElem (by omega)
          obtain ⟨x', hx', p'⟩ := pair_at pr2 hu
          rw [hi] at hx'
          cases hx'
          exact ⟨_, List.mem_of_getElem? hu, p'⟩
        exact pu.len) rfl
      walk_at "ts"
      refine s_m1 ?_
      walk_at "ts"
      refine n_m1 ?_
      walk_at "ts"
      refine t_join sW (by rw [List.map_cons, List.sum_cons, List.length_cons]; show _ + (L.length + 1) * 1 ≤ _; omega) ?_
      rw [← eS]
      exact q Z3 H3 ((t1.step t2 mm_nil).step t3 (mm_1 (.inr n1)))

/-! ### _law_step -/
noncomputable def sp_law_step (K : PySem.W.Frag) : Sp := fun vs H Q _ => ∃ (h : Addr) (n : Nat) (Z : Hp), vs = [.ref h] ∧ Hand K Z H h (n + 1000) ∧
  ∀ v s Z' H', T [h] Z H Z' H' → Hand K Z' H' h n → Ik Z' v s → StpT s → (∀ r a w, s = .row r a w → w.length ≤ 8) → Q v H'
theorem has_law_step (z : Z K mg) (F : FunAt K mg "_law_step" s_law_step ["_law_hand"]) (h_law_row : Has P w K mg base "_law_row" 4 (sp_law_row K)) (h_law_draw : Has P w K mg base "_law_draw" 1 (sp_law_draw K)) : Has P w K mg base "_law_step" 5 (sp_law_step K) := by
  refine has_of F sc_law_step (fun vs H Q E h => ?_) (fun f cdv A outer s H vs Q E hr h => ?_)
  · obtain ⟨_, _, _, rfl, _⟩ := h
    rfl
  · obtain ⟨h, n, Z, rfl, hh, q⟩ := h
    refine ⟨_, (pss_cons (ps_set (i := 1) sc_law_step.nd rfl (by first | exact Or.inl rfl | exact Or.inr rfl) (pe_callH h_law_draw (by decide) hr rfl (pa_cons (pv 0) (pa_cons pe_int pa_nil))))
        (pss_cons (ps_setLc (i := 2) (own := [("_law_k", 3)]) (g := gName 3) (tt := tYes) rfl sc_law_step.nd rfl rfl (sw_true rfl rfl rfl (by decide +kernel)) (pi_range1 (by rfl) z.b_range (pa_cons pe_int pa_nil)) (blkOk_by (own := [("_law_k", 3)]) (N := ["_law_hand", "_law_way", "_law_numbers", "_law_k"]) (sc := defScope s_law_step) (by decide +kernel)) (fun _ _ _ _ _ => (pg_name (i := 3) sc_law_step.nd rfl (by first | exact Or.inl rfl | exact Or.inr rfl))) (fun _ _ _ _ _ => pts_nil) (fun _ _ _ _ _ => (pe_callH h_law_draw (by decide) hr rfl (pa_cons (pv 0) (pa_cons (pe_ix (ixA (K := K) rfl) (pe_lst (pa_cons pe_int (pa_cons pe_int pa_nil))) (pe_callH h_law_draw (by decide) hr rfl (pa_cons (pv 0) (pa_cons pe_int pa_nil))) (fun _ _ => rfl)) pa_nil)))))
        (pss_cons (ps_if (pt_cmpR (eqA (K := K) rfl hr.units) (pv 1) pe_int (nomark _)) (pss_one (ps_ret (pe_tup (pa_cons pe_str (pa_cons (pe_ix (ixA (K := K) rfl) (pv 2) pe_int (fun _ _ => rfl)) (pa_cons (pe_ix (ixA (K := K) rfl) (pv 2) pe_int (fun _ _ => rfl)) (pa_cons (pe_callH h_law_row (by decide) hr rfl (pa_cons (pv 0) pa_nil)) pa_nil))))))) pss_nil)
        (pss_cons (ps_if (pt_cmpR (eqA (K := K) rfl hr.units) (pv 1) pe_int (nomark _)) (pss_one (ps_ret (pe_tup (pa_cons pe_str (pa_cons (pe_ix (ixA (K := K) rfl) (pv 2) pe_int (fun _ _ => rfl)) (pa_cons (pe_ix (ixA (K := K) rfl) (pv 2) pe_int (fun _ _ => rfl)) pa_nil)))))) pss_nil)
        (pss_one (ps_ret (pe_tup (pa_cons pe_str (pa_cons (pe_callB (id := "max") (call_max2A rfl) (by rfl) z.b_max (by decide +kernel) (pa_cons pe_int (pa_cons (pe_ix (ixA (K := K) rfl) (pv 2) pe_int (fun _ _ => rfl)) pa_nil))) pa_nil))))))))), ?_⟩
    walk_at "cx"
    have z0 := hh.z
    walk_at "tys"
    rename_i way Z1 H1 w0 w1 t1 hh1
    refine c_drawR (β := Int) (fun x => 0 ≤ x ∧ x ≤ 130) (n + 900) 2 hh1 (by decide) (by show n + 900 + 2 * 2 ≤ _; omega) (fun i hi Z2 H2 R' t2 hh2 A hA => ?_) (fun N l Z2 H2 nN t2 hh2 lsN ll lP => ?_)
    · have z2 := t2.zh
      walk_at "tys"
      rename_i p3 Z3 H3 n3 t3 f3 r4 Z4 H4 r40 r41 t4 hh4 many hm r5 Z5 H5 r50 r51 t5 hh5
      have t25 : T [h] Z2 H2 Z5 H5 := (((T.refl z2 : T [h] Z2 H2 Z2 H2).step t3 mm_nil).step t4 mm_same).step t5 mm_same
      exact hA r5 _ Z5 H5 t25 (hh5.mono (by omega)) (Ik.int _) ⟨r50, by omega⟩
    obtain ⟨a, b, rfl⟩ : ∃ a b, l = [a, b] := by
      match l, ll with
      | [a, b], _ => exact ⟨a, b, rfl⟩
    obtain ⟨a0, a1⟩ := lP a List.mem_cons_self
    obtain ⟨b0, b1⟩ := lP b (List.mem_cons_of_mem _ List.mem_cons_self)
    have T2 : T [h] Z H Z2 H2 := t1.step t2 mm_same
    have z2 := T2.zh
    clear t1 t2 hh1
    walk_at "tys"
    refine i_d (fun c0 => ?_) (fun c0 => ?_)
    · walk_at "tys"
      have sN0 := sq_of (K := K) (z2 _ _ lsN.ints)
      walk_at "tys"
      refine ⟨h, n + 600, Z2, rfl, hh2.mono (by omega), fun p r Z3 H3 n3 t3 hh3 lm3 ew rl => ?_⟩
      have nph : p ≠ h := ne_alF n3 hh2.at
      obtain ⟨Z4, H4, e4, t4, ls4⟩ := lm3.frq
      rw [← e4]
      clear e4
      have h4 := hh3.tt t4 (nm_cons nph.symm nm_nil)
      have T4 := T2.step (t3.step t4 (mm_1 (.inr n3))) mm_same
      clear t3 lm3 hh3 t4
      have z4 := T4.zh
      walk_at "tys"
      rename_i p8 Z8 H8 n8 t8 f8
      exact q (.ref p8) (.row a b r) Z8 H8 (T4.step t8 mm_nil) ((h4.tt t8 nm_nil).mono (by omega)) (Ik.stp_row f8 (ls4.tt t8).is) ⟨a0, a1, b0, b1, ew, by omega⟩ fun _ _ _ e => by cases e; exact rl
    · walk_at "tys"
      refine i_d (fun c1 => ?_) (fun c1 => ?_)
      · walk_at "tys"
        have sN := sq_of (K := K) (z2 _ _ lsN.ints)
        refine s_ixL sN (v := .int a) (by rfl) ?_
        walk_at "tys"
        rename_i p8 Z8 H8 n8 t8 f8
        exact q (.ref p8) (.cut a b) Z8 H8 (T2.step t8 mm_nil) ((hh2.tt t8 nm_nil).mono (by omega)) (Ik.stp_cut f8) ⟨a0, a1, b0, b1⟩ fun _ _ _ e => by cases e
      · walk_at "tys"
        have sN := sq_of (K := K) (z2 _ _ lsN.ints)
        refine s_ixL sN (v := .int a) (by rfl) ?_
        walk_at "tys"
        rename_i p8 Z8 H8 n8 t8 f8
        exact q (.ref p8) (.rooms (max 1 a)) Z8 H8 (T2.step t8 mm_nil) ((hh2.tt t8 nm_nil).mono (by omega)) (Ik.stp_rooms f8) ⟨by omega, by omega⟩ fun _ _ _ e => by cases e

/-! ### _law_yard_text -/
noncomputable def sp_law_yard_text (K : PySem.W.Frag) : Sp := fun vs H Q _ => ∃ (v : V) (y : Yard) (Z : Hp), vs = [v] ∧ Ex Z H ∧ Ik Z v y ∧ YardT y ∧ ∀ Z' H', T [] Z H Z' H' → Q (.str (yardS y)) H'
theorem has_law_yard_text (z : Z K mg) (F : FunAt K mg "_law_yard_text" s_law_yard_text ["_law_yard_here"]) (h_law_rows_text : Has P w K mg base "_law_rows_text" 2 (sp_law_rows_text K)) : Has P w K mg base "_law_yard_text" 3 (sp_law_yard_text K) := by
  refine has_of F sc_law_yard_text (fun vs H Q E h => ?_) (fun f cdv A outer s H vs Q E hr h => ?_)
  · obtain ⟨_, _, _, rfl, _⟩ := h
    rfl
  · obtain ⟨v, y, Z, rfl, zh, iv, ⟨⟨a0, a1⟩, ⟨b0, b1⟩, cl, cs, cr, _⟩, q⟩ := h
    refine ⟨_, (pss_cons (ps_set (i := 1) sc_law_yard_text.nd rfl (by first | exact Or.inl rfl | exact Or.inr rfl) (pe_lst (pa_cons (pe_callTy (T := "str") strIA (by rfl) z.b_str (by decide +kernel) (pa_cons (pe_ix (ixA (K := K) rfl) (pv 0) pe_int (fun _ _ => rfl)) pa_nil)) (pa_cons (pe_callTy (T := "str") strIA (by rfl) z.b_str (by decide +kernel) (pa_cons (pe_ix (ixA (K := K) rfl) (pv 0) pe_int (fun _ _ => rfl)) pa_nil)) pa_nil))))
        (pss_cons (ps_for PassesOwn.never rfl (piL (K := K) rfl (pe_ix (ixA (K := K) rfl) (pv 0) pe_int (fun _ _ => rfl))) (pg_name (i := 2) sc_law_yard_text.nd rfl (by first | exact Or.inl rfl | exact Or.inr rfl)) (pss_one (ps_expr (pe_bm PySem.F.plainAttrs_list PySem.F.slot_list_append PySem.F.type_list_append mt_append (pv 1) (pa_cons (pe_callH h_law_rows_text (by decide) hr rfl (pa_cons (pv 2) pa_nil)) pa_nil)))))
        (pss_one (ps_ret (pe_joinK (K := K) rfl (pe_join pe_str (pv 1))))))), ?_⟩
    walk_at "cx"
    obtain ⟨pa, pb, rfl, ha, hb⟩ := iv.yard_of
    have sa := st_of (K := K) (zh _ _ ha)
    have l1 := num_len (i := y.a) (by omega) (by omega)
    have l2 := num_len (i := y.b) (by omega) (by omega)
    walk_at "tyN"
    refine t_strI (by omega) (by omega) ?_
    walk_at "tyN"
    refine t_strI (by omega) (by omega) ?_
    walk_at "tyN"
    refine nwR zh (by show 2 ≤ 100000; decide) fun W Z1 H1 n1 t1 f1 z1W => ?_
    have z1 := t1.zh
    have hb1 := Ik.tt t1 hb
    have sa1 := st_of (K := K) (z1 _ _ (t1.z _ _ ha))
    walk_at "ts"
    refine t_forL hb1 (fun i σ H' => ∃ x1 Z', σ = [some (.ref pa), some (.ref W), x1] ∧ T [W] Z1 H1 Z' H' ∧ Mu Z' H' W ∧ H' W = some (.lst (([numS y.a, numS y.b] ++ (y.c.take i).map rowsS).map V.str))) (fun i σ H' hh => ?_) ⟨_, Z1, rfl, T.refl z1, ⟨z1W, _, f1⟩, f1⟩ (fun i v rs σ H2 he ie hh => ?_) (fun σ H2 hh => ?_)
    · obtain ⟨x1, Z2, _, t2, _⟩ := hh
      exact t2.z.trans t2.zh
    · obtain ⟨x1, Z2, rfl, t2, m2, f2⟩ := hh
      have z2 := t2.zh
      have hm := List.mem_of_getElem? he
      have h1 := cr rs hm
      have h2 := sum_mem hm
      have sW := sq_of (K := K) f2
      have il := (List.getElem?_eq_some_iff.mp he).1
      have e1 : ([numS y.a, numS y.b] ++ (y.c.take (i + 1)).map rowsS).map V.str = ([numS y.a, numS y.b] ++ (y.c.take i).map rowsS).map V.str ++ [V.str (rowsS rs)] := by
        rw [List.take_add_one, he]
        simp
      walk_at "ts"
      refine ⟨v, rs, Z2, rfl, z2, Ik.tt t2 ie, fun r hr' => ⟨(h1 r hr').1, Nat.le_trans (h1 r hr').2 (by decide)⟩, by omega, fun Z3 H3 t3 => ?_⟩
      have f3 := t3.hp nm_nil f2
      have m3 := t3.mu nm_nil m2
      walk_at "ts"
      refine apR t3.zh f3 m3.z (by rw [List.length_map, List.length_append, List.length_map, List.length_take]; show 2 + _ < _; omega) fun Z4 H4 t4 f4 z4W => ?_
      walk_at "ts"
      exact ⟨_, Z4, rfl, (t2.step t3 mm_nil).step t4 mm_same, ⟨z4W, _, f4⟩, by rw [e1]; exact f4⟩
    · obtain ⟨x1, Z2, rfl, t2, m2, f2⟩ := hh
      rw [List.take_length] at f2
      have sW := sq_of (K := K) f2
      have sz := held_len cr
      walk_at "ts"
      refine s_m1 ?_
      walk_at "ts"
      refine n_m1 ?_
      walk_at "ts"
      refine t_join sW ?_ ?_
      · rw [List.map_append, List.sum_append, List.length_append, List.length_map (as := y.c)]
        show (numS y.a).length + ((numS y.b).length + 0) + _ + (2 + y.c.length) * 1 ≤ _
        omega
      · walk_at "ts"
        exact q Z2 H2 (t1.step t2 (mm_1 (.inr n1)))

/-! ### _law_yard -/
noncomputable def sp_law_yard (K : PySem.W.Frag) : Sp := fun vs H Q _ => ∃ (h : Addr) (n : Nat) (Z : Hp), vs = [.ref h] ∧ Hand K Z H h (n + 300000) ∧
  ∀ v (y : Yard) Z' H', T [h] Z H Z' H' → Hand K Z' H' h n → Ik Z' v y → YardT y → y.c.length ≤ 5 → (y.c.map List.length).sum ≤ 20 → Q v H'
theorem has_law_yard (z : Z K mg) (F : FunAt K mg "_law_yard" s_law_yard ["_law_hand"]) (h_law_row : Has P w K mg base "_law_row" 4 (sp_law_row K)) (h_law_draw : Has P w K mg base "_law_draw" 1 (sp_law_draw K)) (h_law_rows : Has P w K mg base "_law_rows" 5 (sp_law_rows K)) : Has P w K mg base "_law_yard" 6 (sp_law_yard K) := by
  refine has_of F sc_law_yard (fun vs H Q E h => ?_) (fun f cdv A outer s H vs Q E hr h => ?_)
  · obtain ⟨_, _, _, rfl, _⟩ := h
    rfl
  · obtain ⟨h, n, Z, rfl, hh, q⟩ := h
    refine ⟨_, (pss_cons (ps_set (i := 1) sc_law_yard.nd rfl (by first | exact Or.inl rfl | exact Or.inr rfl) (pe_op op_plusA pe_int (pe_callH h_law_draw (by decide) hr rfl (pa_cons (pv 0) (pa_cons pe_int pa_nil)))))
        (pss_cons (ps_set (i := 2) sc_law_yard.nd rfl (by first | exact Or.inl rfl | exact Or.inr rfl) (pe_op op_plusA pe_int (pe_callH h_law_draw (by decide) hr rfl (pa_cons (pv 0) (pa_cons pe_int pa_nil)))))
        (pss_cons (ps_set (i := 3) sc_law_yard.nd rfl (by first | exact Or.inl rfl | exact Or.inr rfl) (pe_lst pa_nil))
        (pss_cons (ps_for PassesOwn.never rfl (pi_range1 (by rfl) z.b_range (pa_cons (pe_callH h_law_draw (by decide) hr rfl (pa_cons (pv 0) (pa_cons pe_int pa_nil))) pa_nil)) (pg_name (i := 4) sc_law_yard.nd rfl (by first | exact Or.inl rfl | exact Or.inr rfl)) (pss_one (ps_expr (pe_bm PySem.F.plainAttrs_list PySem.F.slot_list_append PySem.F.type_list_append mt_append (pv 3) (pa_cons (pe_callH h_law_rows (by decide) hr rfl (pa_cons (pv 0) (pa_cons pe_int pa_nil))) pa_nil)))))
        (pss_cons (ps_if (PW.pt (pw_and (pt_cmpR (neA (K := K) rfl hr.units) (pv 3) (pe_lst pa_nil) (nomark _)) (pw_and1 (pt_cmpR (eqA (K := K) rfl hr.units) (pe_ix (ixA (K := K) rfl) (pv 3) (pe_un un_neg pe_int) (fun _ _ => rfl)) (pe_lst pa_nil) (nomark _))))) (pss_one (ps_expr (pe_bm PySem.F.plainAttrs_list PySem.F.slot_list_append PySem.F.type_list_append mt_append (pe_ix (ixA (K := K) rfl) (pv 3) (pe_un un_neg pe_int) (fun _ _ => rfl)) (pa_cons (pe_callH h_law_row (by decide) hr rfl (pa_cons (pv 0) pa_nil)) pa_nil)))) pss_nil)
        (pss_one (ps_ret (pe_tup (pa_cons (pv 1) (pa_cons (pv 2) (pa_cons (pv 3) pa_nil))))))))))), ?_⟩
    walk_at "cx"
    have z0 := hh.z
    walk_at "tys"
    rename_i w1 Z1 H1 w10 w11 t1 hh1 w2 Z2 H2 w20 w21 t2 hh2 p Z3 H3 n3 t3 mu3 f3 m Z7 H7 m0 m1 t7 hh7
    have nph : p ≠ h := ne_alF n3 hh2.at
    have np1 : ∀ q ∈ p :: ([] : List Addr), q ∉ [h] := fun q hq => by
      rw [List.mem_singleton.mp hq]
      exact nm_cons nph nm_nil
    have T7 : T [h] Z H Z7 H7 := ((((T.refl z0 : T [h] Z H Z H).step t1 mm_same).step t2 mm_same).step t3 mm_nil).step t7 mm_same
    have y7 : Y2 Z7 H7 p [] ([] : List (List TR.Row)) := (Y2.of0 mu3 t3.zh f3).tt t7 np1
    have np0 : H p = none := t1.nn (t2.nn n3)
    clear t3 t7 mu3 f3 np1 t1 t2 hh1 hh2
    refine u_forR1 (fun i σ H' => ∃ x1 Z' qs, ∃ rs : List (List TR.Row), σ = [some (.ref h), some (.int (1 + w1)), some (.int (1 + w2)), some (.ref p), x1] ∧ T [h] Z H Z' H' ∧ Hand K Z' H' h (n + 50000 + 40000 * (6 - i)) ∧ Y2 Z' H' p qs rs ∧ (∀ q ∈ p :: qs, H q = none) ∧ (∀ x ∈ rs, (∀ r ∈ x, (∀ e ∈ r, EntW e) ∧ r.length ≤ 8) ∧ x.length ≤ 3) ∧ rs.length = i) (by omega) ⟨_, Z7, [], [], rfl, T7, hh7.mono (by omega), y7, fun q hq => by rw [List.mem_singleton.mp hq]; exact np0, fun _ h => absurd h List.not_mem_nil, rfl⟩ (fun i σ H5 hi hq => ?_) (fun σ H5 hq => ?_)
    · obtain ⟨x1, Z5, qs, rs, rfl, t5, hh5, y5, nq, ew, rl⟩ := hq
      have z5 := t5.zh
      have e22 : n + 50000 + 40000 * (6 - i) = n + 50000 + 40000 * (6 - (i + 1)) + 40000 := by omega
      rw [e22] at hh5
      have yl := y5.len
      walk_at "tys"
      refine s_tyL (sq_of y5.own) ?_
      walk_at "tys"
      refine ⟨h, 4, _, Z5, rfl, by omega, by omega, hh5, fun p9 rr Z9 H9 n9 t9 hh9 lm9 rw9 rl9 => ?_⟩
      walk_at "tys"
      have y9 := y5.tt t9 fun q hq => nm_cons (ne_alF (nq q hq) hh.at) nm_nil
      have np9 : H p9 = none := t5.nn n9
      refine y9.add lm9 (y5.not n9) (by omega) fun Z10 H10 t10 y10 => ?_
      refine ⟨_, Z10, _, _, rfl, (t5.step t9 mm_same).step t10 (mm_1 (.inr np0)), hh9.tt t10 (nm_cons nph.symm nm_nil), y10, fun q hq => ?_, fun x hx => ?_, by rw [List.length_append, rl]; rfl⟩
      · rcases List.mem_cons.mp hq with e | hq
        · rw [e]; exact np0
        · rcases List.mem_append.mp hq with hq | hq
          · exact nq q (List.mem_cons_of_mem _ hq)
          · rw [List.mem_singleton.mp hq]; exact np9
      · rcases List.mem_append.mp hx with hx | hx
        · exact ew x hx
        · rw [List.mem_singleton.mp hx]
          exact ⟨rw9, by omega⟩
    · obtain ⟨x1, Z5, qs, rs, rfl, t5, hh5, y5, nq, ew, rl⟩ := hq
      have z5 := t5.zh
      obtain ⟨Z6, qs6, rs6, T6, hh6, y6, nq6, ew6, hl6, hs6, z6⟩ : ∃ (Z6 : Hp) (qs6 : List Addr) (rs6 : List (List TR.Row)), T [h] Z H Z6 H5 ∧ Hand K Z6 H5 h (n + 50000) ∧ Y2 Z6 H5 p qs6 rs6 ∧ (∀ q ∈ p :: qs6, H q = none) ∧ (∀ x ∈ rs6, ∀ r ∈ x, (∀ e ∈ r, EntW e) ∧ r.length ≤ 8) ∧ rs6.length ≤ 5 ∧ (rs6.map List.length).sum ≤ 15 ∧ Ex Z6 H5 :=
        ⟨Z5, qs, rs, t5, hh5.mono (by omega), y5, nq, fun x hx => (ew x hx).1, by omega, by
          have h1 := sumL_le (b := 3) (xs := rs) fun x hx => (ew x hx).2
          omega, z5⟩
      clear hh5 t5 y5 nq ew rl z5
      walk_at "tys"
      try (walk_at "tys")
      rename_i p0 Zt Ht n0 t0 mu0 f0
      have yt := y6.tt0 t0
      refine s_neP (α := List (List TR.Row)) (y := []) yt.isH.is (Ik.nil f0).is (by decide) ?_
      walk_at "tys"
      refine i_d (fun ne => ?_) (fun e0 => ?_)
      · have rl6 := yt.len
        obtain ⟨rs0, rl, rfl⟩ := (show ∃ l x, rs6 = l ++ [x] from ⟨_, _, (List.dropLast_concat_getLast ne).symm⟩)
        obtain ⟨qs0, ql, rfl⟩ := (show ∃ l x, qs6 = l ++ [x] from ⟨_, _, (List.dropLast_concat_getLast (fun e => by
          rw [e, List.length_append] at rl6
          exact absurd rl6 (by show ¬ 0 = _ + 1; omega))).symm⟩)
        rw [List.length_append, List.length_append] at rl6
        have ll : qs0.length = rs0.length := Nat.add_right_cancel rl6
        have gq : (qs0 ++ [ql])[qs0.length]? = some ql := List.getElem?_concat_length
        have gr : (rs0 ++ [rl])[qs0.length]? = some rl := by rw [ll]; exact List.getElem?_concat_length
        have ro := yt.at gq
        have sp := sq_of (K := K) yt.own
        rw [List.map_append] at sp
        walk_at "tys"
        refine s_ixL sp (v := .ref ql) (atI_last _ _) ?_
        walk_at "tys"
        rename_i p1 Zu Hu n1 tu muu fu
        have yu := yt.tt0 tu
        obtain ⟨r', hr', vs, h1, h2⟩ := yu.at gq
        rw [gr] at hr'
        cases hr'
        refine s_eqP (α := List TR.Row) (x := rl) (y := []) (Ik.of_list h1 (Paired.mapP h2 fun v x g => Ik.ex yu.zh g)).is (Ik.nil fu).is (by decide) ?_
        walk_at "tys"
        refine i_d (fun c1 => ?_) (fun c1 => ?_)
        · walk_at "tys"
          have su := sq_of (K := K) yu.own
          rw [List.map_append] at su
          refine s_ixL su (v := .ref ql) (atI_last _ _) ?_
          refine s_tyL (sq_of h1) ?_
          walk_at "tys"
          refine ⟨h, n + 1000, Zu, rfl, ((hh6.tt t0 nm_nil).tt tu nm_nil).mono (by omega), fun p9 r9 Z9 H9 n9 t9 hh9 lm9 ew9 rl9 => ?_⟩
          obtain ⟨Zg, Hg, eg, tg, lg⟩ := lm9.frq
          rw [← eg]
          clear eg
          walk_at "tys"
          have n90 : H p9 = none := T6.nn (t0.nn (tu.nn n9))
          have yg := (yu.tt t9 fun q hq => nm_cons (ne_alF (nq6 q hq) hh.at) nm_nil).tt tg fun q hq => nm_cons (fun e => yu.not n9 (e ▸ hq)) nm_nil
          refine yg.push gq gr lg.is (by rw [c1]; decide) fun Zk Hk tk yk => ?_
          rw [show (rs0 ++ [rl]).set qs0.length (rl ++ [r9]) = rs0 ++ [[r9]] by rw [ll, c1]; simp] at yk
          have mql : ql ∈ p :: (qs0 ++ [ql]) := List.mem_cons_of_mem _ (List.mem_append_right _ List.mem_cons_self)
          obtain ⟨Zf, Hf, ef, tf, lf⟩ := yk.frq
          rw [← ef]
          clear ef
          walk_at "tys"
          rename_i p8 Z8 H8 n8 t8 f8
          have T8 : T [h] Z H Z8 H8 := (((((((T6.step t0 mm_nil).step tu mm_nil).step t9 mm_same).step tg (mm_1 (.inr n90))).step tk (mm_1 (.inr (nq6 ql mql)))).step tf (fun q hq => .inr (nq6 q hq)))).step t8 mm_nil
          have h8 := (((hh9.tt tg (nm_cons (ne_alF n90 hh.at).symm nm_nil)).tt tk (nm_cons (ne_alF (nq6 ql mql) hh.at).symm nm_nil)).tt tf (fun z => ne_alF (nq6 h z) hh.at rfl)).tt t8 nm_nil
          rw [List.map_append, List.sum_append] at hs6
          rw [List.length_append] at hl6
          have hq := q (.ref p8) ⟨1 + w1, 1 + w2, rs0 ++ [[r9]]⟩ Z8 H8 T8 (h8.mono (by omega)) (.tup f8 (.cons (.int _) (.cons (.int _) (.cons (lf.tt t8).is .nil)))) ⟨⟨by show 1 ≤ 1 + w1; omega, by show 1 + w1 ≤ 8; omega⟩, ⟨by show 1 ≤ 1 + w2; omega, by show 1 + w2 ≤ 130; omega⟩, by
            show (rs0 ++ [[r9]]).length ≤ 200
            rw [List.length_append]
            exact Nat.le_trans hl6 (by decide), by
            show ((rs0 ++ [[r9]]).map List.length).sum ≤ 600
            rw [List.map_append, List.sum_append]
            show _ + 1 ≤ 600
            omega, fun x hx r hr => by
            rcases List.mem_append.mp hx with hx | hx
            · exact ⟨(ew6 x (List.mem_append_left _ hx) r hr).1, Nat.le_trans (ew6 x (List.mem_append_left _ hx) r hr).2 (by decide)⟩
            · rw [List.mem_singleton.mp hx] at hr
              rw [List.mem_singleton.mp hr]
              exact ⟨ew9, Nat.le_trans rl9 (by decide)⟩, by
            show (rs0 ++ [[r9]]).getLast? ≠ some []
            rw [List.getLast?_concat]
            exact fun h => by cases h⟩
          exact hq (by simp only [List.length_append, List.length_cons, List.length_nil] at *; omega) (by simp only [List.map_append, List.sum_append, List.map_cons, List.map_nil, List.sum_cons, List.sum_nil, List.length_cons, List.length_nil] at *; omega)
        · obtain ⟨Zf, Hf, ef, tf, lf⟩ := yu.frq
          rw [← ef]
          clear ef
          walk_at "tys"
          rename_i p8 Z8 H8 n8 t8 f8
          have T8 : T [h] Z H Z8 H8 := (((T6.step t0 mm_nil).step tu mm_nil).step tf (fun q hq => .inr (nq6 q hq))).step t8 mm_nil
          have h8 := (((hh6.tt t0 nm_nil).tt tu nm_nil).tt tf (fun z => ne_alF (nq6 h z) hh.at rfl)).tt t8 nm_nil
          have hq := q (.ref p8) ⟨1 + w1, 1 + w2, rs0 ++ [rl]⟩ Z8 H8 T8 (h8.mono (by omega)) (.tup f8 (.cons (.int _) (.cons (.int _) (.cons (lf.tt t8).is .nil)))) ⟨⟨by show 1 ≤ 1 + w1; omega, by show 1 + w1 ≤ 8; omega⟩, ⟨by show 1 ≤ 1 + w2; omega, by show 1 + w2 ≤ 130; omega⟩, Nat.le_trans hl6 (by decide), Nat.le_trans hs6 (by decide), fun x hx r hr => ⟨(ew6 x hx r hr).1, Nat.le_trans (ew6 x hx r hr).2 (by decide)⟩, by
            show (rs0 ++ [rl]).getLast? ≠ some []
            rw [List.getLast?_concat]
            exact fun h => c1 (Option.some.inj h)⟩
          exact hq (by simp only [List.length_append, List.length_cons, List.length_nil] at *; omega) (by simp only [List.map_append, List.sum_append, List.map_cons, List.map_nil, List.sum_cons, List.sum_nil, List.length_cons, List.length_nil] at *; omega)
      · obtain ⟨Zf, Hf, ef, tf, lf⟩ := yt.frq
        rw [← ef]
        clear ef
        walk_at "tys"
        rename_i p8 Z8 H8 n8 t8 f8
        have T8 : T [h] Z H Z8 H8 := ((T6.step t0 mm_nil).step tf (fun q hq => .inr (nq6 q hq))).step t8 mm_nil
        have h8 := ((hh6.tt t0 nm_nil).tt tf (fun z => ne_alF (nq6 h z) hh.at rfl)).tt t8 nm_nil
        have hq := q (.ref p8) ⟨1 + w1, 1 + w2, rs6⟩ Z8 H8 T8 (h8.mono (by omega)) (.tup f8 (.cons (.int _) (.cons (.int _) (.cons (lf.tt t8).is .nil)))) ⟨⟨by show 1 ≤ 1 + w1; omega, by show 1 + w1 ≤ 8; omega⟩, ⟨by show 1 ≤ 1 + w2; omega, by show 1 + w2 ≤ 130; omega⟩, Nat.le_trans hl6 (by decide), Nat.le_trans hs6 (by decide), fun x hx r hr => ⟨(ew6 x hx r hr).1, Nat.le_trans (ew6 x hx r hr).2 (by decide)⟩, by
          show rs6.getLast? ≠ some []
          rw [Classical.not_not.mp e0]
          exact fun h => by cases h⟩
        exact hq (by simp only [List.length_append, List.length_cons, List.length_nil] at *; omega) (by simp only [List.map_append, List.sum_append, List.map_cons, List.map_nil, List.sum_cons, List.sum_nil, List.length_cons, List.length_nil] at *; omega)

/-! ### _law_open -/
noncomputable abbrev sp_law_open (K : PySem.W.Frag) : Sp := spOpen K
theorem has_law_open (z : Z K mg) (F : FunAt K mg "_law_open" s_law_open ["_law_script", "_law_place"])  : Has P w K mg base "_law_open" 1 (sp_law_open K) := by
  refine has_of F sc_law_open (fun vs H Q E h => ?_) (fun f cdv A outer s H vs Q E hr h => ?_)
  · obtain ⟨a, ns, x, rfl, _⟩ := h
    rfl
  · obtain ⟨a, ns, x, rfl, hS, h0, h1, q⟩ := h
    refine ⟨_, (pss_cons (ps_setLc (i := 2) (own := [("_law_cell", 5)]) (g := gName 5) (tt := tYes) rfl sc_law_open.nd rfl rfl (sw_true rfl rfl rfl (by decide +kernel)) (piL (K := K) rfl (pe_slice (slA (K := K) rfl) (pv 0) po_none (po_some pe_int))) (blkOk_by (own := [("_law_cell", 5)]) (N := ["_law_script", "_law_place", "_law_cells", "_law_at", "_law_digits", "_law_cell"]) (sc := defScope s_law_open) (by decide +kernel)) (fun _ _ _ _ _ => (pg_name (i := 5) sc_law_open.nd rfl (by first | exact Or.inl rfl | exact Or.inr rfl))) (fun _ _ _ _ _ => pts_nil) (fun _ _ _ _ _ => (pe_callB (id := "abs") call_absA (by rfl) z.b_abs (by decide +kernel) (pa_cons (pv 5) pa_nil))))
        (Evl.pss_cut (ps_if (pt_cmpR (eqA (K := K) rfl hr.units) (pv 2) (pe_lst pa_nil) (nomark _)) (pss_one (ps_set (i := 2) sc_law_open.nd rfl (by first | exact Or.inl rfl | exact Or.inr rfl) (pe_lst (pa_cons pe_int pa_nil)))) pss_nil)
        (pss_cons (ps_set (i := 3) sc_law_open.nd rfl (by first | exact Or.inl rfl | exact Or.inr rfl) (pe_op op_mod (pv 1) (pe_callB (id := "len") (lenA (K := K) rfl) (by rfl) z.b_len (by decide +kernel) (pa_cons (pv 2) pa_nil))))
        (pss_cons (ps_set (i := 4) sc_law_open.nd rfl (by first | exact Or.inl rfl | exact Or.inr rfl) pe_int)
        (Evl.pss_cut (ps_if (PW.pt (pw_and (pt_cmpR op_ge (pe_ix (ixA (K := K) rfl) (pv 2) (pv 3) (fun _ _ => rfl)) (pe_op op_pow pe_int pe_int) (nomark _)) (pw_and1 (pt_cmpR op_lt (pv 1) (pe_callB (id := "len") (lenA (K := K) rfl) (by rfl) z.b_len (by decide +kernel) (pa_cons (pv 2) pa_nil)) (nomark _))))) (pss_one (ps_set (i := 4) sc_law_open.nd rfl (by first | exact Or.inl rfl | exact Or.inr rfl) (pe_ix (ixA (K := K) rfl) (pv 2) (pv 3) (fun _ _ => rfl)))) pss_nil)
        (pss_one (ps_ret (pe_lst (pa_cons (pv 4) (pa_cons (pe_op op_plusA pe_int (pe_op op_multA pe_int (pv 1))) (pa_cons (pe_op op_plusA (pe_slice (slA (K := K) rfl) (pv 2) (po_some (pv 3)) po_none) (pe_slice (slA (K := K) rfl) (pv 2) po_none (po_some (pv 3)))) pa_nil))))))))))), ?_⟩
    walk_at "cx"
    walk_at "ss"
    rename_i p1 H1 n1 e1 f1
    obtain ⟨cs, hc, hl⟩ : ∃ cs : List Int, cutV (ns.map V.int) none (some 63) = cs.map V.int ∧ cs.length ≤ 63 := ⟨cutI ns none (some 63), cutV_ints _ _ _, by
      rw [cutI_to _ (by decide), List.length_take]
      exact Nat.min_le_left _ _⟩
    rw [hc] at f1
    refine u_mapL V.int cs (fun i => V.int (if i < 0 then -i else i)) (sq_of f1) (by omega) (fun i hi H2 e2 A ha => ?_) (fun D H2 n2 e2 f2 => ?_)
    · walk_at "ss"
      exact ha _ (Ex.refl _)
    · obtain ⟨xs, hx, hxl⟩ : ∃ xs : List Int, cs.map (fun i => V.int (if i < 0 then -i else i)) = xs.map V.int ∧ xs.length ≤ 63 := ⟨cs.map fun i => if i < 0 then -i else i, by rw [List.map_map]; rfl, by rw [List.length_map]; exact hl⟩
      rw [hx] at f2
      walk_at "ss"
      refine s_cut (fun σ' H' => ∃ (D : Addr) (ys : List Int), σ' = [some (.ref a), some (.int x), some (.ref D), none, none, none] ∧ Ex H H' ∧ H' D = some (.lst (ys.map V.int)) ∧ 0 < ys.length ∧ ys.length ≤ 63) ?_ ?_
      · walk_at "ss"
        refine i_d (fun hd => ?_) (fun hd => ?_)
        · walk_at "ss"
          rename_i G n3 e3 f3
          exact ⟨_, [0], rfl, by walk_at "ex", f3, by decide, by decide⟩
        · walk_at "ss"
          exact ⟨_, xs, rfl, by walk_at "ex", by walk_at "hp", List.length_pos_iff.mpr hd, hxl⟩
      · rintro σ' H3 ⟨D2, ys, rfl, e3, f3, hy, hy2⟩
        walk_at "ss"
        rename_i b1 b2
        refine s_cut (fun σ' H' => ∃ (d : Int), σ' = [some (.ref a), some (.int x), some (.ref D2), some (.int (x % ys.length)), some (.int d), none] ∧ H' = H3) ?_ ?_
        · walk_at "ss"
          refine i_d (fun hd => ?_) (fun hd => ?_)
          · walk_at "ss"
            refine i_d (fun hd => ?_) (fun hd => ?_)
            · walk_at "ss"
              exact ⟨_, rfl, rfl⟩
            · walk_at "ss"
              exact ⟨_, rfl, rfl⟩
          · walk_at "ss"
            exact ⟨_, rfl, rfl⟩
        · rintro σ' H4 ⟨d, rfl, rfl⟩
          walk_at "ss"
          rename_i p2 G2 n4 e4 f4 p3 G3 n5 e5 f5
          rw [cutV_ints, cutI_from _ b1] at f4
          rw [cutV_ints, cutI_to _ b1] at f5
          refine n_cat (by walk_at "hp") f5 ?_ fun p4 G4 n6 e6 f6 => ?_
          · rw [List.length_map, List.length_map, List.length_drop, List.length_take]
            omega
          · walk_at "ss"
            rename_i p5 G5 n7 e7 f7
            rw [← List.map_append] at f6
            have n0 : H p5 = none := Ex.back (by walk_at "ex") n7
            have n4' : H p4 = none := Ex.back (by walk_at "ex") n6
            exact q p5 p4 d _ G5 n0 n4' (fun z => by rw [z, f6] at n7; cases n7) (by walk_at "ex") f7 (e7 _ _ f6) (by rw [List.length_append, List.length_drop, List.length_take]; omega)

/-! ### law -/
noncomputable def sp_law (K : PySem.W.Frag) : Sp := fun vs H Q _ => ∃ (a : Addr) (ns : List Int), vs = [.ref a] ∧ SqL K H a (ns.map V.int) ∧ ns.length ≤ 63 ∧ ∀ H', Q (.bl true) H'
theorem ok_law {f : Addr} {fd : FuncData} (z : Z K mg) (F : Fun K "law" "law" s_law f fd) (h_law_right : Has P w K mg base "_law_right" 8 (sp_law_right K)) (h_law_spoilt : Has P w K mg base "_law_spoilt" 2 (sp_law_spoilt K)) (h_law_rows_text : Has P w K mg base "_law_rows_text" 2 (sp_law_rows_text K)) (h_law_rows : Has P w K mg base "_law_rows" 5 (sp_law_rows K)) (h_law_step_text : Has P w K mg base "_law_step_text" 2 (sp_law_step_text K)) (h_law_step : Has P w K mg base "_law_step" 5 (sp_law_step K)) (h_law_yard_text : Has P w K mg base "_law_yard_text" 3 (sp_law_yard_text K)) (h_law_yard : Has P w K mg base "_law_yard" 6 (sp_law_yard K)) (h_law_open : Has P w K mg base "_law_open" 1 (sp_law_open K)) (h_law_draw : Has P w K mg base "_law_draw" 1 (sp_law_draw K)) : FnOk P w K mg base CX0 9 f fd ["_law_script"] (sp_law K) := by
  refine fnok_of F sc_law (fun vs H Q E h => ?_) (fun cdv A outer s H vs Q E hr h => ?_)
  · obtain ⟨a, ns, rfl, _⟩ := h
    rfl
  · obtain ⟨a, ns, rfl, hS, hl, q⟩ := h
    refine ⟨_, (pss_cons (ps_for PassesOwn.never rfl (pi_range1 (by rfl) z.b_range (pa_cons pe_int pa_nil)) (pg_name (i := 1) sc_law.nd rfl (by first | exact Or.inl rfl | exact Or.inr rfl)) (pss_cons (ps_set (i := 2) sc_law.nd rfl (by first | exact Or.inl rfl | exact Or.inr rfl) (pe_callH h_law_open (by decide) hr rfl (pa_cons (pv 0) (pa_cons (pv 1) pa_nil))))
        (pss_cons (ps_set (i := 3) sc_law.nd rfl (by first | exact Or.inl rfl | exact Or.inr rfl) (pe_callH h_law_draw (by decide) hr rfl (pa_cons (pv 2) (pa_cons pe_int pa_nil))))
        (pss_cons (ps_set (i := 4) sc_law.nd rfl (by first | exact Or.inl rfl | exact Or.inr rfl) (pe_callH h_law_open (by decide) hr rfl (pa_cons (pv 0) (pa_cons (pe_op op_plusA (pv 1) pe_int) pa_nil))))
        (Evl.pss_cut (ps_if (pt_cmpR (eqA (K := K) rfl hr.units) (pv 3) pe_int (nomark _)) (pss_one (ps_set (i := 5) sc_law.nd rfl (by first | exact Or.inl rfl | exact Or.inr rfl) (pe_callH h_law_rows_text (by decide) hr rfl (pa_cons (pe_callH h_law_rows (by decide) hr rfl (pa_cons (pv 2) (pa_cons pe_int pa_nil))) pa_nil)))) (pss_one (ps_if (pt_cmpR (eqA (K := K) rfl hr.units) (pv 3) pe_int (nomark _)) (pss_one (ps_set (i := 5) sc_law.nd rfl (by first | exact Or.inl rfl | exact Or.inr rfl) (pe_callH h_law_step_text (by decide) hr rfl (pa_cons (pe_callH h_law_step (by decide) hr rfl (pa_cons (pv 2) pa_nil)) pa_nil)))) (pss_one (ps_set (i := 5) sc_law.nd rfl (by first | exact Or.inl rfl | exact Or.inr rfl) (pe_callH h_law_yard_text (by decide) hr rfl (pa_cons (pe_callH h_law_yard (by decide) hr rfl (pa_cons (pv 2) pa_nil)) pa_nil)))))))
        (pss_one (ps_for PassesOwn.never rfl (pi_range1 (by rfl) z.b_range (pa_cons pe_int pa_nil)) (pg_name (i := 6) sc_law.nd rfl (by first | exact Or.inl rfl | exact Or.inr rfl)) (pss_cons (ps_if (pt_not (pt_val (pe_callH h_law_right (by decide) hr rfl (pa_cons (pv 5) pa_nil)))) (pss_one (ps_ret pe_bl)) pss_nil)
        (pss_one (ps_set (i := 5) sc_law.nd rfl (by first | exact Or.inl rfl | exact Or.inr rfl) (pe_callH h_law_spoilt (by decide) hr rfl (pa_cons (pv 4) (pa_cons (pv 5) pa_nil)))))))))))))
        (pss_cons (ps_for PassesOwn.never rfl (piL (K := K) rfl (pe_lst (pa_cons pe_non (pa_cons pe_int (pa_cons pe_bl (pa_cons (pe_lst pa_nil) (pa_cons (pe_lst (pa_cons pe_str pa_nil)) (pa_cons (pe_tup (pa_cons pe_str pa_nil)) (pa_cons pe_dnewK pa_nil))))))))) (pg_name (i := 7) sc_law.nd rfl (by first | exact Or.inl rfl | exact Or.inr rfl)) (pss_one (ps_if (pt_not (pt_val (pe_callH h_law_right (by decide) hr rfl (pa_cons (pv 7) pa_nil)))) (pss_one (ps_ret pe_bl)) pss_nil)))
        (pss_cons (ps_for PassesOwn.never rfl (piL (K := K) rfl (pe_lst (pa_cons pe_str (pa_cons pe_str (pa_cons pe_str (pa_cons pe_str (pa_cons pe_str (pa_cons pe_str (pa_cons pe_str (pa_cons pe_str (pa_cons pe_str (pa_cons pe_str (pa_cons pe_str pa_nil))))))))))))) (pg_name (i := 5) sc_law.nd rfl (by first | exact Or.inl rfl | exact Or.inr rfl)) (pss_one (ps_if (pt_not (pt_val (pe_callH h_law_right (by decide) hr rfl (pa_cons (pv 5) pa_nil)))) (pss_one (ps_ret pe_bl)) pss_nil)))
        (pss_cons (ps_set (i := 8) sc_law.nd rfl (by first | exact Or.inl rfl | exact Or.inr rfl) (pe_op op_mulS pe_str pe_int))
        (pss_cons (ps_set (i := 9) sc_law.nd rfl (by first | exact Or.inl rfl | exact Or.inr rfl) (pe_lst (pa_cons pe_str (pa_cons pe_str (pa_cons pe_str (pa_cons (pe_op op_plusA (pv 8) pe_str) (pa_cons (pe_op op_plusA pe_str (pv 8)) (pa_cons (pe_op op_plusA (pe_op op_plusA pe_str (pv 8)) pe_str) (pa_cons (pe_op op_plusA (pv 8) pe_str) pa_nil)))))))))
        (pss_cons (ps_for PassesOwn.never rfl (piL (K := K) rfl (pe_op op_plusA (pv 9) (pe_lst (pa_cons pe_str (pa_cons pe_str (pa_cons pe_str (pa_cons pe_str (pa_cons pe_str pa_nil)))))))) (pg_name (i := 5) sc_law.nd rfl (by first | exact Or.inl rfl | exact Or.inr rfl)) (pss_one (ps_if (pt_not (pt_val (pe_callH h_law_right (by decide) hr rfl (pa_cons (pv 5) pa_nil)))) (pss_one (ps_ret pe_bl)) pss_nil)))
        (pss_one (ps_ret pe_bl)))))))), ?_⟩
    walk_at "cx"
    have z0 : Ex H H := Ex.refl _
    walk_at "tys"
    refine u_forR1 (fun i σ H' => ∃ x1 x2 x3 x4 x5 x6 x7 x8 x9 Z', σ = [some (.ref a), x1, x2, x3, x4, x5, x6, x7, x8, x9] ∧ T [] H H Z' H') (by omega) ⟨_, _, _, _, _, _, _, _, _, H, rfl, T.refl z0⟩ (fun i σ H1 hi hh => ?_) (fun σ H1 hh => ?_)
    · obtain ⟨x1, x2, x3, x4, x5, x6, x7, x8, x9, Z1, rfl, t1⟩ := hh
      have hp : 0 ≤ (i : Int) ∧ (i : Int) < 10 := by omega
      generalize (i : Int) = pl at hi hp
      have z1 := t1.zh
      walk_at "tys"
      rename_i h Z2 H2 nh t2 hd2 way Z3 H3 r30 r31 t3 hd3 o Z4 H4 no t4 hd4
      have np : o ≠ h := ne_alF no hd3.at
      have hd4' : Hand K Z4 H4 h (400000 + 1000) := (hd3.tt t4 nm_nil).mono (by omega)
      have ho : Hand K Z4 H4 o 1000 := hd4.mono (by omega)
      have nh1 : H h = none := t1.nn nh
      have no1 : H o = none := t1.nn (t2.nn (t3.nn no))
      have T4 : T [] H H Z4 H4 := ((t1.step t2 mm_nil).step t3 (mm_1 (.inr nh1))).step t4 mm_nil
      clear t1 t2 t3 t4 hd2 hd3 hd4 z1
      refine s_cut (fun σ' H' => ∃ x, ∃ x1 x2 x3 x4 Z', σ' = [some (.ref a), some (.int pl), some (.ref h), some (.int way), some (.ref o), some (.str x), x1, x2, x3, x4] ∧ x.length ≤ 20000 ∧ T [] H H Z' H' ∧ Hand K Z' H' o 1000) ?_ ?_
      · walk_at "tys"
        refine i_d (fun c0 => ?_) (fun c0 => ?_)
        · walk_at "tys"
          refine ⟨h, 4, 100000, Z4, rfl, by omega, by omega, hd4'.mono (by omega), fun p rs Z5 H5 n5 t5 hd5 lm5 ew rl => ?_⟩
          obtain ⟨Z6, H6, e6, t6, ls6⟩ := lm5.frq
          rw [← e6]
          clear e6
          walk_at "tys"
          refine ⟨.ref p, rs, Z6, rfl, t6.zh, ls6.is, fun r hr => ⟨(ew r hr).1, Nat.le_trans (ew r hr).2 (by decide)⟩, by omega, fun Z7 H7 t7 => ?_⟩
          walk_at "tys"
          exact ⟨rowsS rs, _, _, _, _, Z7, rfl, rows_len2 ew (by omega), ((T4.step t5 (mm_1 (.inr nh1))).step t6 (mm_1 (.inr (T4.nn n5)))).step t7 mm_nil, ((ho.tt t5 (nm_cons np nm_nil)).tt t6 (nm_cons (ne_alF n5 ho.at).symm nm_nil)).tt t7 nm_nil⟩
        · walk_at "tys"
          refine i_d (fun c1 => ?_) (fun c1 => ?_)
          · walk_at "tys"
            refine ⟨h, 100000, Z4, rfl, hd4'.mono (by omega), fun v s Z5 H5 t5 hd5 is ws w8 => ?_⟩
            walk_at "tys"
            refine ⟨v, s, Z5, rfl, t5.zh, is, ws, fun Z7 H7 t7 => ?_⟩
            walk_at "tys"
            exact ⟨stepS s, _, _, _, _, Z7, rfl, step_len2 ws w8, (T4.step t5 (mm_1 (.inr nh1))).step t7 mm_nil, (ho.tt t5 (nm_cons np nm_nil)).tt t7 nm_nil⟩
          · walk_at "tys"
            refine ⟨h, 100000, Z4, rfl, hd4'.mono (by omega), fun v y Z5 H5 t5 hd5 iy wy cl cs => ?_⟩
            walk_at "tys"
            refine ⟨v, y, Z5, rfl, t5.zh, iy, wy, fun Z7 H7 t7 => ?_⟩
            walk_at "tys"
            exact ⟨yardS y, _, _, _, _, Z7, rfl, yard_len2 wy cl cs, (T4.step t5 (mm_1 (.inr nh1))).step t7 mm_nil, (ho.tt t5 (nm_cons np nm_nil)).tt t7 nm_nil⟩
      · rintro σ' H' ⟨x, x1, x2, x3, x4, Z5, rfl, hx, t5, ho5⟩
        clear T4 ho hd4'
        walk_at "tys"
        refine u_forR1 (fun j σ H' => ∃ x, ∃ x1 x2 x3 x4 Z', σ = [some (.ref a), some (.int pl), some (.ref h), some (.int way), some (.ref o), some (.str x), x1, x2, x3, x4] ∧ x.length + 3 ≤ 20003 * 2 ^ j ∧ T [] H H Z' H' ∧ Hand K Z' H' o (1000 - 20 * j)) (by omega) ⟨x, _, _, _, _, Z5, rfl, by omega, t5, ho5.mono (by omega)⟩ (fun j σ H6 hj hh => ?_) (fun σ H6 hh => ?_)
        · obtain ⟨y, x1, x2, x3, x4, Z6, rfl, hy, t6, ho6⟩ := hh
          have p16 : 2 ^ j ≤ 2 ^ 4 := Nat.pow_le_pow_right (by decide) (by omega)
          have yl : y.length ≤ 1000000 := by omega
          have hz : ∀ z : Str, z.length ≤ 2 * y.length + 3 → z.length + 3 ≤ 20003 * 2 ^ (j + 1) := fun z hz => by
            rw [Nat.pow_succ]
            omega
          have e6 : Hand K Z6 H6 o (1000 - 20 * (j + 1) + 20) := ho6.mono (by omega)
          clear t5 ho5 ho6 hy
          walk_at "tys"
          refine ⟨.str y, Z6, rfl, t6.zh, .inl ⟨y, rfl, by omega⟩, fun Z7 H7 t7 => ?_⟩
          walk_at "tys"
          refine ⟨o, y, 1000 - 20 * (j + 1), Z7, rfl, e6.tt t7 nm_nil, yl, fun z Z8 H8 hz8 t8 ho8 => ?_⟩
          walk_at "tys"
          exact ⟨z, _, _, _, _, Z8, rfl, hz z hz8, (t6.step t7 mm_nil).step t8 (mm_1 (.inr no1)), ho8⟩
        · obtain ⟨y, x1, x2, x3, x4, Z6, rfl, hy, t6, ho6⟩ := hh
          walk_at "tys"
          exact ⟨_, _, _, _, _, _, _, _, _, Z6, rfl, t6⟩
    · obtain ⟨x1, x2, x3, x4, x5, x6, x7, x8, x9, Z1, rfl, t1⟩ := hh
      have z1 := t1.zh
      clear t1 hS z0
      walk_at "tvN"
      refine t_newW z1 (by show 0 ≤ 100000; decide) fun p2 Z2 H2 n2 t2 f2 => ?_
      have z2 := t2.zh
      walk_at "tvN"
      refine t_newW z2 (by show 1 ≤ 100000; decide) fun p3 Z3 H3 n3 t3 f3 => ?_
      have z3 := t3.zh
      walk_at "tvN"
      rename_i p4 Z4 H4 n4 t4 f4 p5 Z5 H5 n5 t5 dm5
      have z5 := t5.zh
      refine t_newW z5 (by show 7 ≤ 100000; decide) fun p6 Z6 H6 n6 t6 f6 => ?_
      have z6 := t6.zh
      have g2 := t6.z _ _ (t5.z _ _ (t4.z _ _ (t3.z _ _ f2)))
      have g3 := t6.z _ _ (t5.z _ _ (t4.z _ _ f3))
      have g4 := t6.z _ _ (t5.z _ _ f4)
      have d5 := dm5.tt t6 nm_nil
      clear t2 t3 t4 t5 t6 f2 f3 f4 dm5 z1 z2 z3 z5
      walk_at "tvN"
      refine u_forL (fun j σ H' => ∃ x1 x2 x3 x4 x5 x6 x7 x8 x9 Z', σ = [some (.ref a), x1, x2, x3, x4, x5, x6, x7, x8, x9] ∧ T [] Z6 H6 Z' H') (sq_of (z6 _ _ f6)) ⟨_, _, _, _, _, _, _, _, _, Z6, rfl, T.refl z6⟩ (fun j σ H' _ hh => ?_) (fun j v σ H' hv hh => ?_) (fun σ H' hh => ?_)
      · obtain ⟨x1, x2, x3, x4, x5, x6, x7, x8, x9, Z7, rfl, t7⟩ := hh
        exact sq_of (t7.zh _ _ (t7.z _ _ f6))
      · obtain ⟨x1, x2, x3, x4, x5, x6, x7, x8, x9, Z7, rfl, t7⟩ := hh
        have av : AnyT K H' v := by
          match j, hv with
          | 0, hv => cases hv; exact .inr ⟨⟨_, .non⟩, fun x h => nomatch h⟩
          | 1, hv => cases hv; exact .inr ⟨⟨_, .int _⟩, fun x h => nomatch h⟩
          | 2, hv => cases hv; exact .inr ⟨⟨_, .bl _⟩, fun x h => nomatch h⟩
          | 3, hv => cases hv; exact .inr ⟨⟨_, .lst (sq_of (t7.zh _ _ (t7.z _ _ g2)))⟩, fun x h => nomatch h⟩
          | 4, hv => cases hv; exact .inr ⟨⟨_, .lst (sq_of (t7.zh _ _ (t7.z _ _ g3)))⟩, fun x h => nomatch h⟩
          | 5, hv => cases hv; exact .inr ⟨⟨_, .tup (st_of (t7.zh _ _ (t7.z _ _ g4)))⟩, fun x h => nomatch h⟩
          | 6, hv => cases hv; exact .inr ⟨⟨_, .dct (d5.tt t7 nm_nil).h⟩, fun x h => nomatch h⟩
          | n + 7, hv => cases hv
        walk_at "tys"
        refine ⟨v, Z7, rfl, t7.zh, av, fun Z8 H8 t8 => ?_⟩
        walk_at "tys"
        exact ⟨_, _, _, _, _, _, _, _, _, Z8, rfl, t7.step t8 mm_nil⟩
      · obtain ⟨x1, x2, x3, x4, x5, x6, x7, x8, x9, Z7, rfl, t7⟩ := hh
        have z7 := t7.zh
        clear t7 z6 f6 g2 g3 g4 d5
        walk_at "tvN"
        refine t_newW z7 (by show 11 ≤ 100000; decide) fun p8 Z8 H8 n8 t8 f8 => ?_
        have z8 := t8.zh
        clear t8 z7
        walk_at "tvN"
        refine u_forL (fun j σ H' => ∃ x1 x2 x3 x4 x5 x6 x7 x8 x9 Z', σ = [some (.ref a), x1, x2, x3, x4, x5, x6, x7, x8, x9] ∧ T [] Z8 H8 Z' H') (sq_of (z8 _ _ f8)) ⟨_, _, _, _, _, _, _, _, _, Z8, rfl, T.refl z8⟩ (fun j σ H' _ hh => ?_) (fun j v σ H' hv hh => ?_) (fun σ H' hh => ?_)
        · obtain ⟨x1, x2, x3, x4, x5, x6, x7, x8, x9, Z9, rfl, t9⟩ := hh
          exact sq_of (t9.zh _ _ (t9.z _ _ f8))
        · obtain ⟨x1, x2, x3, x4, x5, x6, x7, x8, x9, Z9, rfl, t9⟩ := hh
          have av : AnyT K H' v := strs_any (xs := ["", "none", "-", "1", "9 1", "8 131", "8 130", "0 5", "rooms 131", "rooms 130", "rooms 0"]) (by decide +kernel) hv
          walk_at "tys"
          refine ⟨v, Z9, rfl, t9.zh, av, fun Za Ha ta => ?_⟩
          walk_at "tys"
          exact ⟨_, _, _, _, _, _, _, _, _, Za, rfl, t9.step ta mm_nil⟩
        · obtain ⟨x1, x2, x3, x4, x5, x6, x7, x8, x9, Z9, rfl, t9⟩ := hh
          have z9 := t9.zh
          clear t9 z8 f8
          walk_at "tvN"
          refine s_mulS (by decide) (by decide) fun y yl => ?_
          walk_at "tvN"
          have two : ∀ (u w : Str), u.length ≤ 10 → w.length ≤ 4000 → u.length + w.length ≤ 16000000 := fun u w h1 h2 => by omega
          refine s_plusS (by have : ("=a" : Str).length = 2 := rfl; omega) ?_
          walk_at "tvN"
          refine s_plusS (by have : ("rooms " : Str).length = 6 := rfl; omega) ?_
          walk_at "tvN"
          refine s_plusS (by have : ("row 0 0 " : Str).length = 8 := rfl; omega) ?_
          walk_at "tvN"
          refine s_plusS (by rw [len_app]; have : ("row 0 0 " : Str).length = 8 := rfl; have : ("=a" : Str).length = 2 := rfl; omega) ?_
          walk_at "tvN"
          refine s_plusS (by have : (" 5" : Str).length = 2 := rfl; omega) ?_
          walk_at "tvN"
          refine t_newW z9 (by show 7 ≤ 100000; decide) fun pa Za Ha na ta fa => ?_
          have za := ta.zh
          clear ta z9
          walk_at "tvN"
          refine t_newW za (by show 5 ≤ 100000; decide) fun pb Zb Hb nb tb fb => ?_
          have zb := tb.zh
          have fa := tb.z _ _ fa
          clear tb za
          walk_at "tvN"
          refine t_catW zb fa fb (by show 7 + 5 ≤ 16000000; decide) fun pc Zc Hc nc tc fc => ?_
          have zc := tc.zh
          clear tc zb fa fb
          have fc' : Zc pc = some (.lst ((["cut 131 0", "cut 0 131", "cut 130 130", y ++ "=a", "rooms " ++ y, "row 0 0 " ++ y ++ "=a", y ++ " 5", "row 131 0 -", "row 0 131 -", "row 130 130 -", "8 5 none", "8 5 none -"] : List Str).map V.str)) := fc
          have al : ∀ x ∈ (["cut 131 0", "cut 0 131", "cut 130 130", y ++ "=a", "rooms " ++ y, "row 0 0 " ++ y ++ "=a", y ++ " 5", "row 131 0 -", "row 0 131 -", "row 130 130 -", "8 5 none", "8 5 none -"] : List Str), x.length ≤ 3000000 := by
            have c0 : ∀ x ∈ (["cut 131 0", "cut 0 131", "cut 130 130", "row 131 0 -", "row 0 131 -", "row 130 130 -", "8 5 none", "8 5 none -"] : List Str), x.length ≤ 3000000 := by decide +kernel
            have l1 : ("=a" : Str).length = 2 := rfl
            have l2 : ("rooms " : Str).length = 6 := rfl
            have l3 : ("row 0 0 " : Str).length = 8 := rfl
            have l4 : (" 5" : Str).length = 2 := rfl
            simp only [List.forall_mem_cons, len_app] at c0 ⊢
            obtain ⟨d1, d2, d3, d4, d5, d6, d7, d8, d9⟩ := c0
            exact ⟨d1, d2, d3, by omega, by omega, by omega, by omega, d4, d5, d6, d7, d8, d9⟩
          clear fc
          walk_at "tvN"
          refine u_forL (fun j σ H' => ∃ x1 x2 x3 x4 x5 x6 x7 x8 x9 Z', σ = [some (.ref a), x1, x2, x3, x4, x5, x6, x7, x8, x9] ∧ T [] Zc Hc Z' H') (sq_of (zc _ _ fc')) ⟨_, _, _, _, _, _, _, _, _, Zc, rfl, T.refl zc⟩ (fun j σ H' _ hh => ?_) (fun j v σ H' hv hh => ?_) (fun σ H' hh => ?_)
          · obtain ⟨x1, x2, x3, x4, x5, x6, x7, x8, x9, Zd, rfl, td⟩ := hh
            exact sq_of (td.zh _ _ (td.z _ _ fc'))
          · obtain ⟨x1, x2, x3, x4, x5, x6, x7, x8, x9, Zd, rfl, td⟩ := hh
            have av : AnyT K H' v := strs_any al hv
            walk_at "tys"
            refine ⟨v, Zd, rfl, td.zh, av, fun Ze He te => ?_⟩
            walk_at "tys"
            exact ⟨_, _, _, _, _, _, _, _, _, Ze, rfl, td.step te mm_nil⟩
          · obtain ⟨x1, x2, x3, x4, x5, x6, x7, x8, x9, Zd, rfl, td⟩ := hh
            walk_at "tys"
            exact q H'

end

end Lw
open PySem PySem.W PyProof.Rows
set_option maxHeartbeats 0 in

theorem PySem.Challenge.cw_tailrooms_k92_texts_spoilt_anywhere_holds : PySem.Challenge.rw_tailrooms_k92_texts_spoilt_anywhere.Holds := by

  w_on; o_law; k_head; (case hw => w_witness2)
  k_fill

  refine L2.walk_of (l := PySem.Challenge.rw_tailrooms_k92_texts_spoilt_anywhere) (n := 63) (k := 9) (x := "_law_script") (CX := fun _ => L2.CX0) (sp := fun w => Lw.sp_law _) rfl (by decide) rfl ⟨rfl, by decide, by decide⟩ (fun w h Y => PySem.W.kIn_of Y) ?F (fun _ _ a ns hl _ hS => ⟨a, ns, rfl, hS, hl, fun _ => rfl⟩) (fun _ _ _ _ _ h => h)

  case F =>
    intro w mg fa h KX G hmg

    have zz : Lw.Z (L2.KOf KX) mg := by
      refine' ⟨PySem.W.mg_none_of KX G ?z0, PySem.W.mg_none_of KX G ?z1, PySem.W.mg_none_of KX G ?z2, PySem.W.mg_none_of KX G ?z3, PySem.W.mg_none_of KX G ?z4, PySem.W.mg_none_of KX G ?z5, PySem.W.mg_none_of KX G ?z6, PySem.W.mg_none_of KX G ?z7, PySem.W.mg_none_of KX G ?z8, PySem.W.mg_none_of KX G ?z9, TR.constS_mk KX G ?y0, TR.constI_mk KX G ?y1, TR.constI_mk KX G ?y2, TR.constS_mk KX G ?y3, TR.constI_mk KX G ?y4, TR.constS_mk KX G ?y5, TR.constS_mk KX G ?y6, TR.constI_mk KX G ?y7, TR.constI_mk KX G ?y8, TR.clsG_mk KX G ?ga_TailError, TR.clsG_mk KX G ?ga_NoText, TR.clsG_mk KX G ?ga_Taken, TR.clsG_mk KX G ?ga_NoThing, TR.clsG_mk KX G ?ga_NoSize, TR.clsG_mk KX G ?ga_NoRoom, TR.clsG_mk KX G ?ga_NoName, TR.clsG_mk KX G ?ga_NoMark, TR.clsG_mk KX G ?ga_NoLine, TR.clsG_mk KX G ?ga_NoKey, TR.clsG_mk KX G ?ga_Lacking, TR.clsG_mk KX G ?ga_Full, TR.clsG_mk KX G ?ga_Busy, TR.isx_mk KX ?qa_NoText ?qb_NoText ?qc_NoText ?qd_NoText ?qe_NoText ?qf_NoText ?qg_NoText ?qh_NoText ?qi_NoText, TR.sve_mk KX ?qj_NoText ?qk_NoText, TR.exm_mk KX ?ma_NoText_TailError ?mb_NoText_TailError ?mc_NoText_TailError ?md_NoText_TailError ?me_NoText_TailError ?mf_NoText_TailError, TR.exm_mk KX ?ma_NoText_NoText ?mb_NoText_NoText ?mc_NoText_NoText ?md_NoText_NoText ?me_NoText_NoText ?mf_NoText_NoText, TR.exm_mk KX ?ma_NoText_Busy ?mb_NoText_Busy ?mc_NoText_Busy ?md_NoText_Busy ?me_NoText_Busy ?mf_NoText_Busy, TR.exm_mk KX ?ma_NoText_Full ?mb_NoText_Full ?mc_NoText_Full ?md_NoText_Full ?me_NoText_Full ?mf_NoText_Full, TR.exm_mk KX ?ma_NoText_Lacking ?mb_NoText_Lacking ?mc_NoText_Lacking ?md_NoText_Lacking ?me_NoText_Lacking ?mf_NoText_Lacking, TR.exm_mk KX ?ma_NoText_NoKey ?mb_NoText_NoKey ?mc_NoText_NoKey ?md_NoText_NoKey ?me_NoText_NoKey ?mf_NoText_NoKey, TR.exm_mk KX ?ma_NoText_NoLine ?mb_NoText_NoLine ?mc_NoText_NoLine ?md_NoText_NoLine ?me_NoText_NoLine ?mf_NoText_NoLine, TR.exm_mk KX ?ma_NoText_NoMark ?mb_NoText_NoMark ?mc_NoText_NoMark ?md_NoText_NoMark ?me_NoText_NoMark ?mf_NoText_NoMark, TR.exm_mk KX ?ma_NoText_NoName ?mb_NoText_NoName ?mc_NoText_NoName ?md_NoText_NoName ?me_NoText_NoName ?mf_NoText_NoName, TR.exm_mk KX ?ma_NoText_NoRoom ?mb_NoText_NoRoom ?mc_NoText_NoRoom ?md_NoText_NoRoom ?me_NoText_NoRoom ?mf_NoText_NoRoom, TR.exm_mk KX ?ma_NoText_NoSize ?mb_NoText_NoSize ?mc_NoText_NoSize ?md_NoText_NoSize ?me_NoText_NoSize ?mf_NoText_NoSize, TR.exm_mk KX ?ma_NoText_NoThing ?mb_NoText_NoThing ?mc_NoText_NoThing ?md_NoText_NoThing ?me_NoText_NoThing ?mf_NoText_NoThing, TR.exm_mk KX ?ma_NoText_Taken ?mb_NoText_Taken ?mc_NoText_Taken ?md_NoText_Taken ?me_NoText_Taken ?mf_NoText_Taken, TR.exB_mk KX G ?ba_NoText ?bb_NoText ?bc_NoText ?bd_NoText ?be_NoText⟩
      (case z0 => k_is)
      (case z1 => k_is)
      (case z2 => k_is)
      (case z3 => k_is)
      (case z4 => k_is)
      (case z5 => k_is)
      (case z6 => k_is)
      (case z7 => k_is)
      (case z8 => k_is)
      (case z9 => k_is)
      (case y0 => k_is)
      (case y1 => k_is)
      (case y2 => k_is)
      (case y3 => k_is)
      (case y4 => k_is)
      (case y5 => k_is)
      (case y6 => k_is)
      (case y7 => k_is)
      (case y8 => k_is)
      (case ga_TailError => k_is)
      (case ga_NoText => k_is)
      (case ga_Taken => k_is)
      (case ga_NoThing => k_is)
      (case ga_NoSize => k_is)
      (case ga_NoRoom => k_is)
      (case ga_NoName => k_is)
      (case ga_NoMark => k_is)
      (case ga_NoLine => k_is)
      (case ga_NoKey => k_is)
      (case ga_Lacking => k_is)
      (case ga_Full => k_is)
      (case ga_Busy => k_is)
      (case qa_NoText => k_is)
      (case qb_NoText => k_is)
      (case qc_NoText => k_is)
      (case qd_NoText => k_is)
      (case qe_NoText => k_is)
      (case qf_NoText => k_is)
      (case qg_NoText => k_is)
      (case qh_NoText => k_is)
      (case qi_NoText => k_is)
      (case qj_NoText => k_is)
      (case qk_NoText => k_is)
      (case ma_NoText_TailError => k_is)
      (case mb_NoText_TailError => k_is)
      (case mc_NoText_TailError => k_is)
      (case md_NoText_TailError => k_is)
      (case me_NoText_TailError => k_is)
      (case mf_NoText_TailError => k_is)
      (case ma_NoText_NoText => k_is)
      (case mb_NoText_NoText => k_is)
      (case mc_NoText_NoText => k_is)
      (case md_NoText_NoText => k_is)
      (case me_NoText_NoText => k_is)
      (case mf_NoText_NoText => k_is)
      (case ma_NoText_Busy => k_is)
      (case mb_NoText_Busy => k_is)
      (case mc_NoText_Busy => k_is)
      (case md_NoText_Busy => k_is)
      (case me_NoText_Busy => k_is)
      (case mf_NoText_Busy => k_is)
      (case ma_NoText_Full => k_is)
      (case mb_NoText_Full => k_is)
      (case mc_NoText_Full => k_is)
      (case md_NoText_Full => k_is)
      (case me_NoText_Full => k_is)
      (case mf_NoText_Full => k_is)
      (case ma_NoText_Lacking => k_is)
      (case mb_NoText_Lacking => k_is)
      (case mc_NoText_Lacking => k_is)
      (case md_NoText_Lacking => k_is)
      (case me_NoText_Lacking => k_is)
      (case mf_NoText_Lacking => k_is)
      (case ma_NoText_NoKey => k_is)
      (case mb_NoText_NoKey => k_is)
      (case mc_NoText_NoKey => k_is)
      (case md_NoText_NoKey => k_is)
      (case me_NoText_NoKey => k_is)
      (case mf_NoText_NoKey => k_is)
      (case ma_NoText_NoLine => k_is)
      (case mb_NoText_NoLine => k_is)
      (case mc_NoText_NoLine => k_is)
      (case md_NoText_NoLine => k_is)
      (case me_NoText_NoLine => k_is)
      (case mf_NoText_NoLine => k_is)
      (case ma_NoText_NoMark => k_is)
      (case mb_NoText_NoMark => k_is)
      (case mc_NoText_NoMark => k_is)
      (case md_NoText_NoMark => k_is)
      (case me_NoText_NoMark => k_is)
      (case mf_NoText_NoMark => k_is)
      (case ma_NoText_NoName => k_is)
      (case mb_NoText_NoName => k_is)
      (case mc_NoText_NoName => k_is)
      (case md_NoText_NoName => k_is)
      (case me_NoText_NoName => k_is)
      (case mf_NoText_NoName => k_is)
      (case ma_NoText_NoRoom => k_is)
      (case mb_NoText_NoRoom => k_is)
      (case mc_NoText_NoRoom => k_is)
      (case md_NoText_NoRoom => k_is)
      (case me_NoText_NoRoom => k_is)
      (case mf_NoText_NoRoom => k_is)
      (case ma_NoText_NoSize => k_is)
      (case mb_NoText_NoSize => k_is)
      (case mc_NoText_NoSize => k_is)
      (case md_NoText_NoSize => k_is)
      (case me_NoText_NoSize => k_is)
      (case mf_NoText_NoSize => k_is)
      (case ma_NoText_NoThing => k_is)
      (case mb_NoText_NoThing => k_is)
      (case mc_NoText_NoThing => k_is)
      (case md_NoText_NoThing => k_is)
      (case me_NoText_NoThing => k_is)
      (case mf_NoText_NoThing => k_is)
      (case ma_NoText_Taken => k_is)
      (case mb_NoText_Taken => k_is)
      (case mc_NoText_Taken => k_is)
      (case md_NoText_Taken => k_is)
      (case me_NoText_Taken => k_is)
      (case mf_NoText_Taken => k_is)
      (case ba_NoText => k_is)
      (case bb_NoText => first | k_is | k_exc | (unfold bmVE; k_exc))
      (case bc_NoText => k_is)
      (case bd_NoText => k_is)
      (case be_NoText => k_is)

    have F0 : TR.FunAt (L2.KOf KX) mg "is_name" Lw.s_is_name ["thing"] := by
      refine' TR.funAt_mk KX G (x := "is_name") (st := Lw.s_is_name) (ps := ["thing"]) ?a ?l ?c ?k (fun _ _ _ _ _ _ us hl => match us, hl with | [_], _ => rfl)
      (case a => k_is); (case l => k_is); (case c => k_is); (case k => k_is)

    have F1 : TR.FunAt (L2.KOf KX) mg "is_whole" Lw.s_is_whole ["thing"] := by
      refine' TR.funAt_mk KX G (x := "is_whole") (st := Lw.s_is_whole) (ps := ["thing"]) ?a ?l ?c ?k (fun _ _ _ _ _ _ us hl => match us, hl with | [_], _ => rfl)
      (case a => k_is); (case l => k_is); (case c => k_is); (case k => k_is)

    have F2 : TR.FunAt (L2.KOf KX) mg "is_key" Lw.s_is_key ["thing"] := by
      refine' TR.funAt_mk KX G (x := "is_key") (st := Lw.s_is_key) (ps := ["thing"]) ?a ?l ?c ?k (fun _ _ _ _ _ _ us hl => match us, hl with | [_], _ => rfl)
      (case a => k_is); (case l => k_is); (case c => k_is); (case k => k_is)

    have F3 : TR.FunAt (L2.KOf KX) mg "read_number" Lw.s_read_number ["text"] := by
      refine' TR.funAt_mk KX G (x := "read_number") (st := Lw.s_read_number) (ps := ["text"]) ?a ?l ?c ?k (fun _ _ _ _ _ _ us hl => match us, hl with | [_], _ => rfl)
      (case a => k_is); (case l => k_is); (case c => k_is); (case k => k_is)

    have F4 : TR.FunAt (L2.KOf KX) mg "read_entry" Lw.s_read_entry ["text"] := by
      refine' TR.funAt_mk KX G (x := "read_entry") (st := Lw.s_read_entry) (ps := ["text"]) ?a ?l ?c ?k (fun _ _ _ _ _ _ us hl => match us, hl with | [_], _ => rfl)
      (case a => k_is); (case l => k_is); (case c => k_is); (case k => k_is)

    have F5 : TR.FunAt (L2.KOf KX) mg "read_row" Lw.s_read_row ["text"] := by
      refine' TR.funAt_mk KX G (x := "read_row") (st := Lw.s_read_row) (ps := ["text"]) ?a ?l ?c ?k (fun _ _ _ _ _ _ us hl => match us, hl with | [_], _ => rfl)
      (case a => k_is); (case l => k_is); (case c => k_is); (case k => k_is)

    have F6 : TR.FunAt (L2.KOf KX) mg "read_rows" Lw.s_read_rows ["text"] := by
      refine' TR.funAt_mk KX G (x := "read_rows") (st := Lw.s_read_rows) (ps := ["text"]) ?a ?l ?c ?k (fun _ _ _ _ _ _ us hl => match us, hl with | [_], _ => rfl)
      (case a => k_is); (case l => k_is); (case c => k_is); (case k => k_is)

    have F7 : TR.FunAt (L2.KOf KX) mg "read_few" Lw.s_read_few ["text", "least"] := by
      refine' TR.funAt_mk KX G (x := "read_few") (st := Lw.s_read_few) (ps := ["text", "least"]) ?a ?l ?c ?k (fun _ _ _ _ _ _ us hl => match us, hl with | [_, _], _ => rfl)
      (case a => k_is); (case l => k_is); (case c => k_is); (case k => k_is)

    have F8 : TR.FunAt (L2.KOf KX) mg "read_step" Lw.s_read_step ["text"] := by
      refine' TR.funAt_mk KX G (x := "read_step") (st := Lw.s_read_step) (ps := ["text"]) ?a ?l ?c ?k (fun _ _ _ _ _ _ us hl => match us, hl with | [_], _ => rfl)
      (case a => k_is); (case l => k_is); (case c => k_is); (case k => k_is)

    have F9 : TR.FunAt (L2.KOf KX) mg "is_size" Lw.s_is_size ["thing"] := by
      refine' TR.funAt_mk KX G (x := "is_size") (st := Lw.s_is_size) (ps := ["thing"]) ?a ?l ?c ?k (fun _ _ _ _ _ _ us hl => match us, hl with | [_], _ => rfl)
      (case a => k_is); (case l => k_is); (case c => k_is); (case k => k_is)

    have F10 : TR.FunAt (L2.KOf KX) mg "read_yard" Lw.s_read_yard ["text"] := by
      refine' TR.funAt_mk KX G (x := "read_yard") (st := Lw.s_read_yard) (ps := ["text"]) ?a ?l ?c ?k (fun _ _ _ _ _ _ us hl => match us, hl with | [_], _ => rfl)
      (case a => k_is); (case l => k_is); (case c => k_is); (case k => k_is)

    have F11 : TR.FunAt (L2.KOf KX) mg "_law_told" Lw.s_law_told ["_law_way", "_law_text"] := by
      refine' TR.funAt_mk KX G (x := "_law_told") (st := Lw.s_law_told) (ps := ["_law_way", "_law_text"]) ?a ?l ?c ?k (fun _ _ _ _ _ _ us hl => match us, hl with | [_, _], _ => rfl)
      (case a => k_is); (case l => k_is); (case c => k_is); (case k => k_is)

    have F12 : TR.FunAt (L2.KOf KX) mg "_law_number" Lw.s_law_number ["_law_text", "_law_least", "_law_most"] := by
      refine' TR.funAt_mk KX G (x := "_law_number") (st := Lw.s_law_number) (ps := ["_law_text", "_law_least", "_law_most"]) ?a ?l ?c ?k (fun _ _ _ _ _ _ us hl => match us, hl with | [_, _, _], _ => rfl)
      (case a => k_is); (case l => k_is); (case c => k_is); (case k => k_is)

    have F13 : TR.FunAt (L2.KOf KX) mg "_law_read_entry" Lw.s_law_read_entry ["_law_text"] := by
      refine' TR.funAt_mk KX G (x := "_law_read_entry") (st := Lw.s_law_read_entry) (ps := ["_law_text"]) ?a ?l ?c ?k (fun _ _ _ _ _ _ us hl => match us, hl with | [_], _ => rfl)
      (case a => k_is); (case l => k_is); (case c => k_is); (case k => k_is)

    have F14 : TR.FunAt (L2.KOf KX) mg "_law_read_row" Lw.s_law_read_row ["_law_text"] := by
      refine' TR.funAt_mk KX G (x := "_law_read_row") (st := Lw.s_law_read_row) (ps := ["_law_text"]) ?a ?l ?c ?k (fun _ _ _ _ _ _ us hl => match us, hl with | [_], _ => rfl)
      (case a => k_is); (case l => k_is); (case c => k_is); (case k => k_is)

    have F15 : TR.FunAt (L2.KOf KX) mg "_law_read_rows" Lw.s_law_read_rows ["_law_text"] := by
      refine' TR.funAt_mk KX G (x := "_law_read_rows") (st := Lw.s_law_read_rows) (ps := ["_law_text"]) ?a ?l ?c ?k (fun _ _ _ _ _ _ us hl => match us, hl with | [_], _ => rfl)
      (case a => k_is); (case l => k_is); (case c => k_is); (case k => k_is)

    have F16 : TR.FunAt (L2.KOf KX) mg "_law_read_step" Lw.s_law_read_step ["_law_text"] := by
      refine' TR.funAt_mk KX G (x := "_law_read_step") (st := Lw.s_law_read_step) (ps := ["_law_text"]) ?a ?l ?c ?k (fun _ _ _ _ _ _ us hl => match us, hl with | [_], _ => rfl)
      (case a => k_is); (case l => k_is); (case c => k_is); (case k => k_is)

    have F17 : TR.FunAt (L2.KOf KX) mg "_law_read_yard" Lw.s_law_read_yard ["_law_text"] := by
      refine' TR.funAt_mk KX G (x := "_law_read_yard") (st := Lw.s_law_read_yard) (ps := ["_law_text"]) ?a ?l ?c ?k (fun _ _ _ _ _ _ us hl => match us, hl with | [_], _ => rfl)
      (case a => k_is); (case l => k_is); (case c => k_is); (case k => k_is)

    have F18 : TR.FunAt (L2.KOf KX) mg "_law_right" Lw.s_law_right ["_law_text"] := by
      refine' TR.funAt_mk KX G (x := "_law_right") (st := Lw.s_law_right) (ps := ["_law_text"]) ?a ?l ?c ?k (fun _ _ _ _ _ _ us hl => match us, hl with | [_], _ => rfl)
      (case a => k_is); (case l => k_is); (case c => k_is); (case k => k_is)

    have F19 : TR.FunAt (L2.KOf KX) mg "_law_draw" Lw.s_law_draw ["_law_hand", "_law_many"] := by
      refine' TR.funAt_mk KX G (x := "_law_draw") (st := Lw.s_law_draw) (ps := ["_law_hand", "_law_many"]) ?a ?l ?c ?k (fun _ _ _ _ _ _ us hl => match us, hl with | [_, _], _ => rfl)
      (case a => k_is); (case l => k_is); (case c => k_is); (case k => k_is)

    have F20 : TR.FunAt (L2.KOf KX) mg "_law_spoilt" Lw.s_law_spoilt ["_law_hand", "_law_text"] := by
      refine' TR.funAt_mk KX G (x := "_law_spoilt") (st := Lw.s_law_spoilt) (ps := ["_law_hand", "_law_text"]) ?a ?l ?c ?k (fun _ _ _ _ _ _ us hl => match us, hl with | [_, _], _ => rfl)
      (case a => k_is); (case l => k_is); (case c => k_is); (case k => k_is)

    have F21 : TR.FunAt (L2.KOf KX) mg "_law_row_text" Lw.s_law_row_text ["_law_row_here"] := by
      refine' TR.funAt_mk KX G (x := "_law_row_text") (st := Lw.s_law_row_text) (ps := ["_law_row_here"]) ?a ?l ?c ?k (fun _ _ _ _ _ _ us hl => match us, hl with | [_], _ => rfl)
      (case a => k_is); (case l => k_is); (case c => k_is); (case k => k_is)

    have F22 : TR.FunAt (L2.KOf KX) mg "_law_rows_text" Lw.s_law_rows_text ["_law_rows_here"] := by
      refine' TR.funAt_mk KX G (x := "_law_rows_text") (st := Lw.s_law_rows_text) (ps := ["_law_rows_here"]) ?a ?l ?c ?k (fun _ _ _ _ _ _ us hl => match us, hl with | [_], _ => rfl)
      (case a => k_is); (case l => k_is); (case c => k_is); (case k => k_is)

    have F23 : TR.FunAt (L2.KOf KX) mg "_law_thing" Lw.s_law_thing ["_law_hand"] := by
      refine' TR.funAt_mk KX G (x := "_law_thing") (st := Lw.s_law_thing) (ps := ["_law_hand"]) ?a ?l ?c ?k (fun _ _ _ _ _ _ us hl => match us, hl with | [_], _ => rfl)
      (case a => k_is); (case l => k_is); (case c => k_is); (case k => k_is)

    have F24 : TR.FunAt (L2.KOf KX) mg "_law_far" Lw.s_law_far ["_law_hand", "_law_many"] := by
      refine' TR.funAt_mk KX G (x := "_law_far") (st := Lw.s_law_far) (ps := ["_law_hand", "_law_many"]) ?a ?l ?c ?k (fun _ _ _ _ _ _ us hl => match us, hl with | [_, _], _ => rfl)
      (case a => k_is); (case l => k_is); (case c => k_is); (case k => k_is)

    have F25 : TR.FunAt (L2.KOf KX) mg "_law_power" Lw.s_law_power ["_law_many"] := by
      refine' TR.funAt_mk KX G (x := "_law_power") (st := Lw.s_law_power) (ps := ["_law_many"]) ?a ?l ?c ?k (fun _ _ _ _ _ _ us hl => match us, hl with | [_], _ => rfl)
      (case a => k_is); (case l => k_is); (case c => k_is); (case k => k_is)

    have F26 : TR.FunAt (L2.KOf KX) mg "_law_key" Lw.s_law_key ["_law_hand"] := by
      refine' TR.funAt_mk KX G (x := "_law_key") (st := Lw.s_law_key) (ps := ["_law_hand"]) ?a ?l ?c ?k (fun _ _ _ _ _ _ us hl => match us, hl with | [_], _ => rfl)
      (case a => k_is); (case l => k_is); (case c => k_is); (case k => k_is)

    have F27 : TR.FunAt (L2.KOf KX) mg "_law_row" Lw.s_law_row ["_law_hand"] := by
      refine' TR.funAt_mk KX G (x := "_law_row") (st := Lw.s_law_row) (ps := ["_law_hand"]) ?a ?l ?c ?k (fun _ _ _ _ _ _ us hl => match us, hl with | [_], _ => rfl)
      (case a => k_is); (case l => k_is); (case c => k_is); (case k => k_is)

    have F28 : TR.FunAt (L2.KOf KX) mg "_law_rows" Lw.s_law_rows ["_law_hand", "_law_most"] := by
      refine' TR.funAt_mk KX G (x := "_law_rows") (st := Lw.s_law_rows) (ps := ["_law_hand", "_law_most"]) ?a ?l ?c ?k (fun _ _ _ _ _ _ us hl => match us, hl with | [_, _], _ => rfl)
      (case a => k_is); (case l => k_is); (case c => k_is); (case k => k_is)

    have F29 : TR.FunAt (L2.KOf KX) mg "_law_step_text" Lw.s_law_step_text ["_law_step_here"] := by
      refine' TR.funAt_mk KX G (x := "_law_step_text") (st := Lw.s_law_step_text) (ps := ["_law_step_here"]) ?a ?l ?c ?k (fun _ _ _ _ _ _ us hl => match us, hl with | [_], _ => rfl)
      (case a => k_is); (case l => k_is); (case c => k_is); (case k => k_is)

    have F30 : TR.FunAt (L2.KOf KX) mg "_law_step" Lw.s_law_step ["_law_hand"] := by
      refine' TR.funAt_mk KX G (x := "_law_step") (st := Lw.s_law_step) (ps := ["_law_hand"]) ?a ?l ?c ?k (fun _ _ _ _ _ _ us hl => match us, hl with | [_], _ => rfl)
      (case a => k_is); (case l => k_is); (case c => k_is); (case k => k_is)

    have F31 : TR.FunAt (L2.KOf KX) mg "_law_yard_text" Lw.s_law_yard_text ["_law_yard_here"] := by
      refine' TR.funAt_mk KX G (x := "_law_yard_text") (st := Lw.s_law_yard_text) (ps := ["_law_yard_here"]) ?a ?l ?c ?k (fun _ _ _ _ _ _ us hl => match us, hl with | [_], _ => rfl)
      (case a => k_is); (case l => k_is); (case c => k_is); (case k => k_is)

    have F32 : TR.FunAt (L2.KOf KX) mg "_law_yard" Lw.s_law_yard ["_law_hand"] := by
      refine' TR.funAt_mk KX G (x := "_law_yard") (st := Lw.s_law_yard) (ps := ["_law_hand"]) ?a ?l ?c ?k (fun _ _ _ _ _ _ us hl => match us, hl with | [_], _ => rfl)
      (case a => k_is); (case l => k_is); (case c => k_is); (case k => k_is)

    have F33 : TR.FunAt (L2.KOf KX) mg "_law_open" Lw.s_law_open ["_law_script", "_law_place"] := by
      refine' TR.funAt_mk KX G (x := "_law_open") (st := Lw.s_law_open) (ps := ["_law_script", "_law_place"]) ?a ?l ?c ?k (fun _ _ _ _ _ _ us hl => match us, hl with | [_, _], _ => rfl)
      (case a => k_is); (case l => k_is); (case c => k_is); (case k => k_is)

    refine' TR.law_end (st := Lw.s_law) (x := "_law_script") KX G hmg ?a ?l ?c ?k (fun s v => .of_eq rfl) (fun base FF => ?b)
    (case a => k_is); (case l => k_is); (case c => k_is); (case k => k_is)

    case b =>

      have h0 := Lw.has_is_name (P := PySem.Challenge.rw_tailrooms_k92_texts_spoilt_anywhere.prog) (w := w) (base := base) zz F0 

      have h1 := Lw.has_is_whole (P := PySem.Challenge.rw_tailrooms_k92_texts_spoilt_anywhere.prog) (w := w) (base := base) zz F1 

      have h2 := Lw.has_is_key (P := PySem.Challenge.rw_tailrooms_k92_texts_spoilt_anywhere.prog) (w := w) (base := base) zz F2 h1

      have h3 := Lw.has_read_number (P := PySem.Challenge.rw_tailrooms_k92_texts_spoilt_anywhere.prog) (w := w) (base := base) zz F3 

      have h4 := Lw.has_read_entry (P := PySem.Challenge.rw_tailrooms_k92_texts_spoilt_anywhere.prog) (w := w) (base := base) zz F4 h0 h2 h3

      have h5 := Lw.has_read_row (P := PySem.Challenge.rw_tailrooms_k92_texts_spoilt_anywhere.prog) (w := w) (base := base) zz F5 h4

      have h6 := Lw.has_read_rows (P := PySem.Challenge.rw_tailrooms_k92_texts_spoilt_anywhere.prog) (w := w) (base := base) zz F6 h5

      have h7 := Lw.has_read_few (P := PySem.Challenge.rw_tailrooms_k92_texts_spoilt_anywhere.prog) (w := w) (base := base) zz F7 h3

      have h8 := Lw.has_read_step (P := PySem.Challenge.rw_tailrooms_k92_texts_spoilt_anywhere.prog) (w := w) (base := base) zz F8 h7 h5

      have h9 := Lw.has_is_size (P := PySem.Challenge.rw_tailrooms_k92_texts_spoilt_anywhere.prog) (w := w) (base := base) zz F9 h1

      have h10 := Lw.has_read_yard (P := PySem.Challenge.rw_tailrooms_k92_texts_spoilt_anywhere.prog) (w := w) (base := base) zz F10 h9 h6 h7 h3

      have h11 := Lw.has_law_told (P := PySem.Challenge.rw_tailrooms_k92_texts_spoilt_anywhere.prog) (w := w) (base := base) zz F11 h6 h8 h10

      have h12 := Lw.has_law_number (P := PySem.Challenge.rw_tailrooms_k92_texts_spoilt_anywhere.prog) (w := w) (base := base) zz F12 

      have h13 := Lw.has_law_read_entry (P := PySem.Challenge.rw_tailrooms_k92_texts_spoilt_anywhere.prog) (w := w) (base := base) zz F13 h12

      have h14 := Lw.has_law_read_row (P := PySem.Challenge.rw_tailrooms_k92_texts_spoilt_anywhere.prog) (w := w) (base := base) zz F14 h13

      have h15 := Lw.has_law_read_rows (P := PySem.Challenge.rw_tailrooms_k92_texts_spoilt_anywhere.prog) (w := w) (base := base) zz F15 h14

      have h16 := Lw.has_law_read_step (P := PySem.Challenge.rw_tailrooms_k92_texts_spoilt_anywhere.prog) (w := w) (base := base) zz F16 h14 h12

      have h17 := Lw.has_law_read_yard (P := PySem.Challenge.rw_tailrooms_k92_texts_spoilt_anywhere.prog) (w := w) (base := base) zz F17 h15 h12

      have h18 := Lw.has_law_right (P := PySem.Challenge.rw_tailrooms_k92_texts_spoilt_anywhere.prog) (w := w) (base := base) zz F18 h11 h15 h16 h17

      have h19 := Lw.has_law_draw (P := PySem.Challenge.rw_tailrooms_k92_texts_spoilt_anywhere.prog) (w := w) (base := base) zz F19 

      have h20 := Lw.has_law_spoilt (P := PySem.Challenge.rw_tailrooms_k92_texts_spoilt_anywhere.prog) (w := w) (base := base) zz F20 h19

      have h21 := Lw.has_law_row_text (P := PySem.Challenge.rw_tailrooms_k92_texts_spoilt_anywhere.prog) (w := w) (base := base) zz F21 

      have h22 := Lw.has_law_rows_text (P := PySem.Challenge.rw_tailrooms_k92_texts_spoilt_anywhere.prog) (w := w) (base := base) zz F22 h21

      have h23 := Lw.has_law_thing (P := PySem.Challenge.rw_tailrooms_k92_texts_spoilt_anywhere.prog) (w := w) (base := base) zz F23 h19

      have h24 := Lw.has_law_far (P := PySem.Challenge.rw_tailrooms_k92_texts_spoilt_anywhere.prog) (w := w) (base := base) zz F24 h19

      have h25 := Lw.has_law_power (P := PySem.Challenge.rw_tailrooms_k92_texts_spoilt_anywhere.prog) (w := w) (base := base) zz F25 

      have h26 := Lw.has_law_key (P := PySem.Challenge.rw_tailrooms_k92_texts_spoilt_anywhere.prog) (w := w) (base := base) zz F26 h24 h25 h19

      have h27 := Lw.has_law_row (P := PySem.Challenge.rw_tailrooms_k92_texts_spoilt_anywhere.prog) (w := w) (base := base) zz F27 h19 h23 h26

      have h28 := Lw.has_law_rows (P := PySem.Challenge.rw_tailrooms_k92_texts_spoilt_anywhere.prog) (w := w) (base := base) zz F28 h19 h27

      have h29 := Lw.has_law_step_text (P := PySem.Challenge.rw_tailrooms_k92_texts_spoilt_anywhere.prog) (w := w) (base := base) zz F29 h21

      have h30 := Lw.has_law_step (P := PySem.Challenge.rw_tailrooms_k92_texts_spoilt_anywhere.prog) (w := w) (base := base) zz F30 h27 h19

      have h31 := Lw.has_law_yard_text (P := PySem.Challenge.rw_tailrooms_k92_texts_spoilt_anywhere.prog) (w := w) (base := base) zz F31 h22

      have h32 := Lw.has_law_yard (P := PySem.Challenge.rw_tailrooms_k92_texts_spoilt_anywhere.prog) (w := w) (base := base) zz F32 h27 h19 h28

      have h33 := Lw.has_law_open (P := PySem.Challenge.rw_tailrooms_k92_texts_spoilt_anywhere.prog) (w := w) (base := base) zz F33 

      exact Lw.ok_law zz FF h18 h20 h22 h28 h29 h30 h31 h32 h33 h19

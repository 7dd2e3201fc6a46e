import PyProof.Rows.All
import Wide.All
import OpenK.AllK
import Wide.FinOn
import HandS.ForMost
import HandS.Wide
import HandS.SortInts
import HandS.IsInst
import HandS.Conv
import HandS.Evl
import HandS.Style
import HandS.SortRule
import HandS.ForExc
import HandS.ExcInit
import HandS.ExcField
import HandS.TryMany
import HandS.Small
import HandS.Text
import PyProof.Rows.ChunkEnd
import HandS.DictTup
import KE.KItemsList
import HandS.More
import HandS.Zip
import PySem.Challenge.RW_tailrooms_k91_written_and_read
set_option Elab.async false
set_option linter.all false
set_option maxRecDepth 100000
set_option maxHeartbeats 4000000

/-! TR: joined rules, steps of a reading, the heap, the hand that is drawn from -/
noncomputable section
namespace TR
open PySem L2
open PySem.Spec PyProof.Rows

/-! ### joined rules -/
section
variable {X : Cx}
noncomputable def rPlus : R2 := fun x y H Q => (rI0 fun i j => .int (i + j)) x y H Q ∨ rCat x y H Q ∨
  (∃ i j, x = .str i ∧ y = .str j ∧ i.length + j.length ≤ sizeLine ∧ Q (.str (i ++ j)) H)
theorem op_plusA : OpR X (binaryOp .Add) rPlus := OpR.or op_add (OpR.or op_cat op_add_str)
noncomputable def rMult : R2 := fun x y H Q => (rI CMulW fun i j => .int (i * j)) x y H Q ∨ (rI CMul fun i j => .int (i * j)) x y H Q ∨ rRep x y H Q
theorem op_multA : OpR X (binaryOp .Mult) rMult := OpR.or op_mulW (OpR.or op_mul op_rep)
noncomputable def rEqA (K : PySem.W.Frag) : R2 := fun x y H Q => rEq x y H Q ∨ rEqD K x y H Q
noncomputable def rNeA (K : PySem.W.Frag) : R2 := fun x y H Q => rNe x y H Q ∨ rNeD K x y H Q
theorem op_eqA (hu : X.A.units + 64 < cLine) : OpR X (compareOp .Eq) (rEqA X.K) := OpR.or op_eq (op_eqD hu)
theorem op_neA (hu : X.A.units + 64 < cLine) : OpR X (compareOp .NotEq) (rNeA X.K) := OpR.or op_ne (op_neD hu)
noncomputable def rLenS (K : PySem.W.Frag) : List V → Hp → VK → Prop := Evl.rLenS K
noncomputable def rLenT : List V → Hp → VK → Prop := fun xs H Q => ∃ z, xs = [.str z] ∧ z.length ≤ sizeLine ∧ Q (.int z.length) H
noncomputable def rLen (K : PySem.W.Frag) : List V → Hp → VK → Prop := fun xs H Q => rLenS K xs H Q ∨ rLenT xs H Q
theorem call_lenA : CallR X (.builtin "len") (rLen X.K) := CallR.or call_len_seq call_len_str
theorem cr_allA (hc : X.calm = true) : CallR X (.builtin "all") (rAll X.K) := cr_all hc
noncomputable def rGetL (K : PySem.W.Frag) : R2 := fun x y H Q => ∃ p xs i v, x = .ref p ∧ y = .int i ∧ SqL K H p xs ∧ 0 ≤ i ∧ atI xs i = some v ∧ Q v H
theorem pget_list : PGet X (rGetL X.K) := by
  intro pins s σ H x0 y0 v u Q I rx ru hh
  obtain ⟨p, xs, i, z, ex, ei, hq, h0, he, q⟩ := hh
  subst ex
  subst ei
  cases rx
  obtain ⟨t, et⟩ := ru
  subst et
  obtain ⟨its, r, pl, _⟩ := I.list hq
  obtain ⟨j, h1, h2, h3, _, h5⟩ := atI_get he
  obtain ⟨y, ey, ry⟩ := r.get h2
  have hl := r.length
  have hn := line63
  rw [seqIndex_of h0 h5] at h1
  have hj : i.toNat = j := Option.some.inj h1
  exact wpAny_getItem_list pl.isList h0 (by omega) (by rw [hj]; simpa using ey) ⟨z, H, I, ry, q⟩
noncomputable def rIsNA : R2 := fun x y H Q => y = .non ∧ Q (.bl (decide (x = .non))) H
noncomputable def rNotNA : R2 := fun x y H Q => y = .non ∧ Q (.bl (!decide (x = .non))) H
noncomputable def rMax2 : List V → Hp → VK → Prop := fun xs H Q => ∃ i j, xs = [.int i, .int j] ∧ Q (.int (max i j)) H
noncomputable def rMin2 : List V → Hp → VK → Prop := fun xs H Q => ∃ i j, xs = [.int i, .int j] ∧ Q (.int (min i j)) H
noncomputable def rAbs : List V → Hp → VK → Prop := fun xs H Q => ∃ i, xs = [.int i] ∧ Q (.int (if i < 0 then -i else i)) H
theorem call_max2A (hc : X.calm = true) : CallR X (.builtin "max") rMax2 := by
  have e : rMax2 = fun xs H Q => ∃ i j, xs = [V.int i, V.int j] ∧ Q (.int (if j > i then j else i)) H := by
    funext xs H Q
    have e2 : ∀ i j : Int, max i j = if j > i then j else i := fun i j => by
      by_cases h : j > i
      · rw [if_pos h]
        omega
      · rw [if_neg h]
        omega
    show (∃ i j, xs = [V.int i, V.int j] ∧ Q (.int (max i j)) H) = _
    simp only [e2]
  rw [e]
  exact call_max2 hc
theorem call_absA : CallR X (.builtin "abs") rAbs := call_abs
noncomputable def rInt1 : List V → Hp → VK → Prop := fun xs H Q => (∃ i, xs = [.int i] ∧ Q (.int i) H) ∨ ∃ k, xs = [.bl k] ∧ Q (.int (if k then 1 else 0)) H
theorem call_int1A : CallR X (.type "int") rInt1 := call_int1
noncomputable def rList1 (K : PySem.W.Frag) : List V → Hp → VK → Prop := Evl.rListS K
end

/-! ### the same rules, the written part K named (they may stand in a comprehension's block) -/
section
variable {X : Cx} {K : PySem.W.Frag}
theorem ixA (hk : X.K = K) : IxR X (rIx K) := hk ▸ ix_seq
theorem slA (hk : X.K = K) : SlR X (rSlL K) := hk ▸ sl_list
theorem slTA (hk : X.K = K) : SlR X (rSlT K) := hk ▸ sl_tup
theorem lenA (hk : X.K = K) : CallR X (.builtin "len") (rLen K) := hk ▸ call_lenA
theorem eqA (hk : X.K = K) (hu : X.A.units + 64 < cLine) : OpR X (compareOp .Eq) (rEqA K) := hk ▸ op_eqA hu
theorem neA (hk : X.K = K) (hu : X.A.units + 64 < cLine) : OpR X (compareOp .NotEq) (rNeA K) := hk ▸ op_neA hu
theorem isiA (hk : X.K = K) : CallR X (.builtin "isinstance") (rIsi K) := hk ▸ call_isi
theorem allA (hk : X.K = K) (hc : X.calm = true) : CallR X (.builtin "all") (rAll K) := hk ▸ cr_allA hc
theorem getA (hk : X.K = K) : PGet X (rGetL K) := hk ▸ pget_list
theorem piL {tg l : Expr} {tl : TE} (hk : X.K = K) (hl : PE X l tl) : PI X tg l (iList K tl) := hk ▸ pi_list hl
theorem piT {tg l : Expr} {tl : TE} (hk : X.K = K) (hl : PE X l tl) : PI X tg l (iTup K tl) := hk ▸ pi_tup hl
end

/-! ### heaps -/
/-- all of H is there in H' -/
noncomputable abbrev Ex := Evl.Ex
/-- all of H but what stands at h -/
noncomputable def ExM (h : Addr) (H H' : Hp) : Prop := ∀ a o, a ≠ h → H a = some o → H' a = some o
theorem Ex.refl (H : Hp) : Ex H H := Evl.Ex.refl H
theorem Ex.trans {H G F : Hp} (a : Ex H G) (b : Ex G F) : Ex H F := Evl.Ex.trans a b
theorem Ex.new {H : Hp} {a : Addr} {u : HO} (h : H a = none) : Ex H (L2.upd H a u) := Evl.Ex.new h
theorem Ex.mut {H G : Hp} {a : Addr} {u : HO} (e : Ex H G) (h : H a = none) : Ex H (L2.upd G a u) := Evl.Ex.mut e h
theorem Ex.exm {Z H H' : Hp} {h : Addr} (e : Ex Z H) (hz : Z h = none) (m : ExM h H H') : Ex Z H' := fun a o ha => m a o (ne_of_none ha hz) (e a o ha)
theorem Ex.toM {H H' : Hp} {h : Addr} (e : Ex H H') : ExM h H H' := fun a o _ ha => e a o ha
theorem ExM.refl {h : Addr} (H : Hp) : ExM h H H := fun _ _ _ e => e
theorem ExM.trans {h : Addr} {H H1 H2 : Hp} (a : ExM h H H1) (b : ExM h H1 H2) : ExM h H H2 := fun x o n e => b x o n (a x o n e)
theorem ExM.upd {h : Addr} {H : Hp} {o : HO} : ExM h H (upd H h o) := fun a u n e => by
  rw [upd_ne n]
  exact e
/-- a heap without one object -/
noncomputable def cutH (H : Hp) (h : Addr) : Hp := fun b => if b = h then none else H b
theorem Ex.back {H H' : Hp} {p : Addr} (e : Ex H H') (h : H' p = none) : H p = none := by
  cases h1 : H p with
  | none => rfl
  | some o =>
    rw [e p o h1] at h
    cases h
theorem Ex.sq {K : PySem.W.Frag} {H G : Hp} {p : Addr} {ys : List V} (e : Ex H G) (h : SqL K H p ys) : SqL K G p ys := Evl.ex_l e h
theorem sq_of {K : PySem.W.Frag} {H : Hp} {p : Addr} {ys : List V} (h : H p = some (.lst ys)) : SqL K H p ys := SqL.of h
theorem st_of {K : PySem.W.Frag} {H : Hp} {p : Addr} {ys : List V} (h : H p = some (.tup ys)) : SqT K H p ys := SqT.of h
theorem sz_of {m : Nat} (h : m ≤ 100000) : m ≤ sizeLine := Evl.sz_of h
theorem sz_lt {m : Nat} (h : m < 100000) : m < sizeLine := Evl.sz_lt h

/-! ### places, first -/
theorem atI_lt {α : Type} {xs : List α} {i : Int} {v : α} (h0 : 0 ≤ i) (h : xs[i.toNat]? = some v) : atI xs i = some v := by
  have e : ((i.toNat : Nat) : Int) = i := Int.toNat_of_nonneg h0
  have q := atI_nat (xs := xs) (j := i.toNat) h
  rw [e] at q
  exact q
/-! ### steps of a reading: each turns what is to be shown into what it asks next -/
section
variable {K : PySem.W.Frag} {σ : L2.St} {H : Hp} {ta tb tc te : TE} {t u : TT} {D : Ends} {Q : VK} {QB : Bool → Hp → Prop} {v x y : V} {p : Prop} {A B : Prop}
theorem s_var {i : Nat} (h : σ[i]? = some (some v)) (q : Q v H) : tVar i σ H Q := ⟨v, h, q⟩
theorem s_c (q : Q v H) : tC v σ H Q := q
theorem s_op {r : R2} (q : ta σ H fun x H1 => tb σ H1 fun y H2 => r x y H2 Q) : tOp r ta tb σ H Q := q
theorem s_un {r : V → Hp → VK → Prop} (q : ta σ H fun x H1 => r x H1 Q) : tUn r ta σ H Q := q
theorem s_chain {r r' : R2} (q : ta σ H fun x H1 => tb σ H1 fun y H2 => r x y H2 fun z H3 => ∃ k, z = .bl k ∧ (if k = true then tc σ H3 fun w' H4 => r' y w' H4 Q else Q (.bl false) H3)) : tChain r r' ta tb tc σ H Q := q
theorem s_I0 {g : Int → Int → V} {i j : Int} (q : Q (g i j) H) : rI0 g (.int i) (.int j) H Q := ⟨i, j, rfl, rfl, q⟩
theorem s_U {g : Int → V} {i : Int} (q : Q (g i) H) : rU g (.int i) H Q := ⟨i, rfl, q⟩
theorem s_plusI {i j : Int} (q : Q (.int (i + j)) H) : rPlus (.int i) (.int j) H Q := .inl ⟨i, j, rfl, rfl, q⟩
theorem s_mulL {i j : Int} (c : -(2 ^ 64) < i ∧ i < 2 ^ 64) (q : Q (.int (i * j)) H) : rMult (.int i) (.int j) H Q := .inr (.inl ⟨i, j, rfl, rfl, .inl c, q⟩)
theorem s_mulR {i j : Int} (c : -(2 ^ 64) < j ∧ j < 2 ^ 64) (q : Q (.int (i * j)) H) : rMult (.int i) (.int j) H Q := .inr (.inl ⟨i, j, rfl, rfl, .inr c, q⟩)
theorem s_div {i j : Int} {g : Int → Int → V} (h : 0 < j) (h2 : j < 2 ^ 63) (q : Q (g i j) H) : rI CDivW g (.int i) (.int j) H Q :=
  ⟨i, j, rfl, rfl, wide_div (b := 63) h (by have e : (2 : Int) ^ 63 = 9223372036854775808 := by decide
                                            have e2 : (2 : Nat) ^ 63 = 9223372036854775808 := by decide
                                            omega) (by decide) (by decide), q⟩
theorem s_mod {i j : Int} (h : 0 < j) (q : 0 ≤ i % j → i % j < j → Q (.int (i % j)) H) : rI (fun _ j => 0 < j) (fun i j => .int (i % j)) (.int i) (.int j) H Q := ⟨i, j, rfl, rfl, h, q (Int.emod_nonneg i (Int.ne_of_gt h)) (Int.emod_lt_of_pos i h)⟩
theorem s_pow2_56 (q : Q (.int 72057594037927936) H) : rI CPow (fun i j => .int (i ^ j.toNat)) (.int 2) (.int 56) H Q := ⟨2, 56, rfl, rfl, ⟨by decide, by decide, by decide⟩, by
  have e : (2 : Int) ^ Int.toNat 56 = 72057594037927936 := by decide
  show Q (.int ((2 : Int) ^ Int.toNat 56)) H
  rw [e]
  exact q⟩
theorem s_pow2_60 (q : Q (.int 1152921504606846976) H) : rI CPow (fun i j => .int (i ^ j.toNat)) (.int 2) (.int 60) H Q := ⟨2, 60, rfl, rfl, ⟨by decide, by decide, by decide⟩, by
  have e : (2 : Int) ^ Int.toNat 60 = 1152921504606846976 := by decide
  show Q (.int ((2 : Int) ^ Int.toNat 60)) H
  rw [e]
  exact q⟩
theorem s_pow10_6 (q : Q (.int 1000000) H) : rI CPow (fun i j => .int (i ^ j.toNat)) (.int 10) (.int 6) H Q := ⟨10, 6, rfl, rfl, ⟨by decide, by decide, by decide⟩, by
  have e : (10 : Int) ^ Int.toNat 6 = 1000000 := by decide
  show Q (.int ((10 : Int) ^ Int.toNat 6)) H
  rw [e]
  exact q⟩
theorem s_pow10_18 (q : Q (.int 1000000000000000000) H) : rI CPow (fun i j => .int (i ^ j.toNat)) (.int 10) (.int 18) H Q := ⟨10, 18, rfl, rfl, ⟨by decide, by decide, by decide⟩, by
  have e : (10 : Int) ^ Int.toNat 18 = 1000000000000000000 := by decide
  show Q (.int ((10 : Int) ^ Int.toNat 18)) H
  rw [e]
  exact q⟩
theorem s_pow {i j : Int} {g : Int → Int → V} (h1 : 0 ≤ j ∧ j ≤ 1000) (h2 : i.natAbs < 2 ^ 64) (q : Q (g i j) H) : rI CPow g (.int i) (.int j) H Q := ⟨i, j, rfl, rfl, ⟨h1.1, by omega, h2⟩, q⟩
theorem s_eqI {a b : Int} (q : Q (.bl (decide (a = b))) H) : rEqA K (.int a) (.int b) H Q := .inl ⟨rfl, by
  have e : decide (V.int a = V.int b) = decide (a = b) := by rw [dec_int, Bool.beq_eq_decide_eq]
  rw [e]
  exact q⟩
theorem s_neI {a b : Int} (q : Q (.bl (decide (a ≠ b))) H) : rNeA K (.int a) (.int b) H Q := .inl ⟨rfl, by
  have e : (!decide (V.int a = V.int b)) = decide (a ≠ b) := by rw [dec_int, Bool.beq_eq_decide_eq, decide_not]
  rw [e]
  exact q⟩
theorem s_eqB {a b : Bool} (q : Q (.bl (decide (a = b))) H) : rEqA K (.bl a) (.bl b) H Q := .inl ⟨rfl, by
  have e : decide (V.bl a = V.bl b) = decide (a = b) := by cases a <;> cases b <;> rfl
  rw [e]
  exact q⟩
theorem s_neB {a b : Bool} (q : Q (.bl (decide (a ≠ b))) H) : rNeA K (.bl a) (.bl b) H Q := .inl ⟨rfl, by
  have e : (!decide (V.bl a = V.bl b)) = decide (a ≠ b) := by cases a <;> cases b <;> rfl
  rw [e]
  exact q⟩
theorem s_eqS {a b : Str} (q : Q (.bl (decide (a = b))) H) : rEqA K (.str a) (.str b) H Q := .inl ⟨rfl, by
  have e : decide (V.str a = V.str b) = decide (a = b) := by
    by_cases h : a = b
    · rw [h, decide_eq_true rfl, decide_eq_true rfl]
    · rw [decide_eq_false h, decide_eq_false (fun e => h (V.str.inj e))]
  rw [e]
  exact q⟩
theorem s_neS {a b : Str} (q : Q (.bl (decide (a ≠ b))) H) : rNeA K (.str a) (.str b) H Q := .inl ⟨rfl, by
  have e : (!decide (V.str a = V.str b)) = decide (a ≠ b) := by
    by_cases h : a = b
    · rw [h, decide_eq_true rfl, decide_eq_false (fun z => z rfl)]
      rfl
    · rw [decide_eq_false (fun e => h (V.str.inj e)), decide_eq_true h]
      rfl
  rw [e]
  exact q⟩
theorem s_eqD {d e : PyData} (h1 : Dp K H x d) (h2 : Dp K H y e) (s1 : SeqAt.shaped d = true) (s2 : SeqAt.shaped e = true) (q : Q (.bl (PyData.eqv d e)) H) : rEqA K x y H Q := .inr ⟨d, e, h1, h2, s1, s2, q⟩
/-- subscripts -/
theorem s_ixL {a : Addr} {xs : List V} {i : Int} (h : SqL K H a xs) (e : atI xs i = some v) (q : Q v H) : rIx K (.ref a) (.int i) H Q := .inl ⟨a, xs, i, v, rfl, rfl, h, e, q⟩
theorem s_ixT {a : Addr} {xs : List V} {i : Int} (h : SqT K H a xs) (e : atI xs i = some v) (q : Q v H) : rIx K (.ref a) (.int i) H Q := .inr (.inl ⟨a, xs, i, v, rfl, rfl, h, e, q⟩)
theorem s_getL {a : Addr} {xs : List V} {i : Int} (h : SqL K H a xs) (h0 : 0 ≤ i) (e : atI xs i = some v) (q : Q v H) : rGetL K (.ref a) (.int i) H Q := ⟨a, xs, i, v, rfl, rfl, h, h0, e, q⟩
/-- tests -/
theorem s_test (q : te σ H fun x H' => ∃ k, x = .bl k ∧ QB k H') : tTest te σ H QB := q
theorem s_tB (q : te σ H fun x H' => ∃ k, x = .bl k ∧ QB k H') : tB te σ H QB := q
theorem s_bl {b : Bool} {R : Bool → Prop} (q : R b) : ∃ k, V.bl b = V.bl k ∧ R k := ⟨b, rfl, q⟩
theorem s_and (q : t σ H fun c H1 => if c = true then u σ H1 QB else QB false H1) : tAnd t u σ H QB := q
theorem s_or (q : t σ H fun c H1 => if c = true then QB true H1 else u σ H1 QB) : tOr t u σ H QB := q
theorem s_not (q : t σ H fun c H1 => QB (!c) H1) : tNot t σ H QB := q
theorem s_andV (q : ta σ H fun x H1 => ∃ c, x = .bl c ∧ if c = true then tb σ H1 Q else Q (.bl false) H1) : tAndV ta tb σ H Q := q
theorem s_notV (q : ta σ H fun x H1 => ∃ c, x = .bl c ∧ Q (.bl (!c)) H1) : tNotV ta σ H Q := q
theorem i_d [Decidable p] (h1 : p → A) (h2 : ¬ p → B) : if decide p = true then A else B := by
  by_cases h : p
  · rw [if_pos (decide_eq_true h)]
    exact h1 h
  · rw [if_neg (fun z => h (of_decide_eq_true z))]
    exact h2 h
theorem i_n [Decidable p] (h1 : ¬ p → A) (h2 : p → B) : if (!decide p) = true then A else B := by
  by_cases h : p
  · rw [decide_eq_true h]
    exact h2 h
  · rw [decide_eq_false h]
    exact h1 h
theorem i_t (h : A) : if true = true then A else B := by
  rw [if_pos rfl]
  exact h
theorem i_f (h : B) : if false = true then A else B := by
  rw [if_neg Bool.false_ne_true]
  exact h
theorem i_nt (h : B) : if (!true) = true then A else B := i_f h
theorem i_nf (h : A) : if (!false) = true then A else B := i_t h
theorem i_dt [Decidable p] (hp : p) (h : A) : if decide p = true then A else B := i_d (fun _ => h) (fun n => absurd hp n)
theorem i_df [Decidable p] (hp : ¬ p) (h : B) : if decide p = true then A else B := i_d (fun z => absurd z hp) (fun _ => h)
theorem i_ndt [Decidable p] (hp : p) (h : B) : if (!decide p) = true then A else B := i_n (fun n => absurd hp n) (fun _ => h)
/-- calls, displays, slices -/
theorem s_nil {QA : List V → Hp → Prop} (q : QA [] H) : tNil σ H QA := q
theorem s_cons {tr : TA} {QA : List V → Hp → Prop} (q : ta σ H fun x H1 => tr σ H1 fun xs H2 => QA (x :: xs) H2) : tCons ta tr σ H QA := q
theorem s_call {sp : Sp} {E : XK} {tr : TA} (q : tr σ H fun vs H1 => sp vs H1 Q E) : tCall sp [] E tr σ H Q := by
  have e : (fun (vs : List V) H1 => sp (vs ++ []) H1 Q E) = fun vs H1 => sp vs H1 Q E := by
    funext vs H1
    rw [List.append_nil]
  show tr σ H fun vs H1 => sp (vs ++ []) H1 Q E
  rw [e]
  exact q
theorem s_CB {r : List V → Hp → VK → Prop} {tr : TA} (q : tr σ H fun vs H1 => r vs H1 Q) : tCB r tr σ H Q := q
noncomputable def NewL (xs : List V) (H : Hp) (Q : VK) : Prop := xs.length ≤ sizeLine ∧ ∀ p, H p = none → Q (.ref p) (upd H p (.lst xs))
noncomputable def NewT (xs : List V) (H : Hp) (Q : VK) : Prop := xs.length ≤ sizeLine ∧ ∀ p, H p = none → Q (.ref p) (upd H p (.tup xs))
noncomputable def NewRg (a b : Int) (H : Hp) (Q : VK) : Prop := RgOk a b ∧ ∀ p, H p = none → Q (.ref p) (upd H p (.lst (rgV a b)))
theorem s_lst {tr : TA} (q : tr σ H fun xs H1 => NewL xs H1 Q) : tLst tr σ H Q := q
theorem s_tup {tr : TA} (q : tr σ H fun xs H1 => NewT xs H1 Q) : tTup tr σ H Q := q
theorem s_lenL {a : Addr} {xs : List V} (h : SqL K H a xs) (q : Q (.int (xs.length : Int)) H) : rLen K [.ref a] H Q := .inl ⟨a, xs, rfl, .inl h, q⟩
theorem s_lenM {α : Type} {f : α → V} {l : List α} {a : Addr} (h : SqL K H a (l.map f)) (q : Q (.int (l.length : Int)) H) : rLen K [.ref a] H Q := .inl ⟨a, _, rfl, .inl h, by rw [List.length_map]; exact q⟩
theorem s_ixI {l : List Int} {a : Addr} {i : Int} (h : SqL K H a (l.map V.int)) (h0 : 0 ≤ i ∧ i < l.length) (q : ∀ v, l[i.toNat]? = some v → Q (.int v) H) : rIx K (.ref a) (.int i) H Q := by
  have hl : i.toNat < l.length := by omega
  exact .inl ⟨a, _, i, _, rfl, rfl, h, atI_lt h0.1 (by rw [List.getElem?_map, List.getElem?_eq_getElem hl]; rfl), q _ (List.getElem?_eq_getElem hl)⟩
theorem s_ix3 {a : Addr} {x y z i : Int} (h : SqL K H a [.int x, .int y, .int z]) (h0 : 0 ≤ i ∧ i < 3) (q : ∀ v, (i = 0 ∧ v = x ∨ i = 1 ∧ v = y ∨ i = 2 ∧ v = z) → Q (.int v) H) : rIx K (.ref a) (.int i) H Q := by
  have : i = 0 ∨ i = 1 ∨ i = 2 := by omega
  rcases this with rfl | rfl | rfl
  · exact .inl ⟨a, _, 0, _, rfl, rfl, h, rfl, q _ (.inl ⟨rfl, rfl⟩)⟩
  · exact .inl ⟨a, _, 1, _, rfl, rfl, h, rfl, q _ (.inr (.inl ⟨rfl, rfl⟩))⟩
  · exact .inl ⟨a, _, 2, _, rfl, rfl, h, rfl, q _ (.inr (.inr ⟨rfl, rfl⟩))⟩
theorem s_lenT {a : Addr} {xs : List V} (h : SqT K H a xs) (q : Q (.int (xs.length : Int)) H) : rLen K [.ref a] H Q := .inl ⟨a, xs, rfl, .inr h, q⟩
theorem s_lenS {z : Str} (h : z.length ≤ 100000) (q : Q (.int (z.length : Int)) H) : rLen K [.str z] H Q := .inr ⟨z, rfl, sz_of h, q⟩
theorem s_sl {r : V → Option Int → Option Int → Hp → VK → Prop} {tl th : TO} (q : te σ H fun x H1 => tl σ H1 fun l H2 => th σ H2 fun u H3 => r x l u H3 Q) : tSl r te tl th σ H Q := q
theorem s_np {QO : Option Int → Hp → Prop} (q : QO none H) : tNoPart σ H QO := q
theorem s_part {QO : Option Int → Hp → Prop} (q : te σ H fun x H1 => ∃ i, x = .int i ∧ QO (some i) H1) : tPart te σ H QO := q
theorem s_int {i : Int} {R : Int → Prop} (q : R i) : ∃ k, V.int i = V.int k ∧ R k := ⟨i, rfl, q⟩
theorem s_BM {T : String} {r : V → List V → Hp → VK → Prop} {tr : TA} (q : ta σ H fun x H1 => tyV K T x H1 ∧ tr σ H1 fun xs H2 => r x xs H2 Q) : tBM K T r ta tr σ H Q := q
theorem s_tyL {a : Addr} {xs : List V} {R : Prop} (h : SqL K H a xs) (q : R) : tyV K "list" (.ref a) H ∧ R := ⟨Or.inl ⟨rfl, xs, h⟩, q⟩
/-- statements -/
theorem s_seq {t u : TS} (q : t { D with nx := u D } σ H) : tSeq t u D σ H := q
theorem s_cut {t u : TS} (Mid : L2.St → Hp → Prop) (h : t { D with nx := Mid } σ H) (q : ∀ σ' H', Mid σ' H' → u D σ' H') : Evl.tCut t u D σ H := ⟨Mid, h, q⟩
theorem s_next (q : D.nx σ H) : tNext D σ H := q
theorem s_drop (q : te σ H fun _ H1 => D.nx σ H1) : tDrop te D σ H := q
theorem s_ret (q : te σ H D.rt) : tRet te D σ H := q
theorem s_if {t u : TS} {c : TT} (q : c σ H fun b H1 => if b = true then t D σ H1 else u D σ H1) : tIfS c t u D σ H := q
theorem s_asg {g : TG} (q : te σ H fun x H1 => g x σ H1 D.nx) : tAsg te g D σ H := q
theorem s_gname {i : Nat} {R : L2.St → Hp → Prop} (q : R (σ.set i (some v)) H) : gName i v σ H R := q
theorem s_gsub {to ti : TE} {ts : TSet} {R : L2.St → Hp → Prop} (q : to σ H fun o H1 => ti σ H1 fun i H2 => ts o i v H2 fun H3 => R σ H3) : gSub to ti ts v σ H R := q
theorem s_ipI {f : Int → Int → Int} {i j : Int} (q : Q (.int (f i j)) H) : ipI f (.int i) (.int j) H Q := ⟨i, j, rfl, rfl, q⟩
theorem s_augS {to ti : TE} {tget : V → V → Hp → VK → Prop} {tip : TIp} {tset : TSet}
    (q : to σ H fun o H1 => ti σ H1 fun i H2 => tget o i H2 fun x H3 => te σ H3 fun y H4 => tip x y H4 fun z H5 => tset o i z H5 fun H6 => D.nx σ H6) : tAugS to ti te tget tip tset D σ H := q
theorem s_max2 {i j : Int} (q : Q (.int (max i j)) H) : rMax2 [.int i, .int j] H Q := ⟨i, j, rfl, q⟩
theorem s_abs {i : Int} (q : Q (.int (if i < 0 then -i else i)) H) : rAbs [.int i] H Q := ⟨i, rfl, q⟩
theorem s_int1b {b : Bool} (q : Q (.int (if b then 1 else 0)) H) : rInt1 [.bl b] H Q := .inr ⟨b, rfl, q⟩
theorem s_isiI {n : String} {i : Int} {b : Bool} (h : kitB "int" n = some b) (q : Q (.bl b) H) : rIsi K [.int i, .ty n] H Q := ⟨.int i, .ty n, _, _, b, rfl, .ty n, .base (.int i), kit_ty h, q⟩
theorem s_isiB {n : String} {i : Bool} {b : Bool} (h : kitB "bool" n = some b) (q : Q (.bl b) H) : rIsi K [.bl i, .ty n] H Q := ⟨.bl i, .ty n, _, _, b, rfl, .ty n, .base (.bl i), kit_ty h, q⟩
theorem s_isiS {n : String} {i : Str} {b : Bool} (h : kitB "str" n = some b) (q : Q (.bl b) H) : rIsi K [.str i, .ty n] H Q := ⟨.str i, .ty n, _, _, b, rfl, .ty n, .base (.str i), kit_ty h, q⟩
theorem s_isiN {n : String} {b : Bool} (h : kitB "NoneType" n = some b) (q : Q (.bl b) H) : rIsi K [.non, .ty n] H Q := ⟨.non, .ty n, _, _, b, rfl, .ty n, .base .non, kit_ty h, q⟩
theorem ty_sq {a : Addr} {xs : List V} (h : SqL K H a xs) : TyX K H (.ref a) (.type "list") := by
  rcases h with (h | ⟨o, h⟩) | ⟨o, its, n, hk, hc, _⟩
  · exact .base (.lst h)
  · exact .base (.frz h)
  · exact .kList hk hc
theorem ty_st {a : Addr} {xs : List V} (h : SqT K H a xs) : TyX K H (.ref a) (.type "tuple") := by
  rcases h with (h | ⟨o, h⟩) | ⟨o, its, n, hk, hc, _⟩
  · exact .base (.tup h)
  · exact .fTuple h
  · exact .kTuple hk hc
theorem s_isiL {n : String} {a : Addr} {xs : List V} {b : Bool} (hs : SqL K H a xs) (h : kitB "list" n = some b) (q : Q (.bl b) H) : rIsi K [.ref a, .ty n] H Q := ⟨.ref a, .ty n, _, _, b, rfl, .ty n, ty_sq hs, kit_ty h, q⟩
theorem s_isiT {n : String} {a : Addr} {xs : List V} {b : Bool} (hs : SqT K H a xs) (h : kitB "tuple" n = some b) (q : Q (.bl b) H) : rIsi K [.ref a, .ty n] H Q := ⟨.ref a, .ty n, _, _, b, rfl, .ty n, ty_st hs, kit_ty h, q⟩
theorem k_ii : kitB "int" "int" = some true := by decide +kernel
theorem k_ib : kitB "int" "bool" = some false := by decide +kernel
theorem k_is : kitB "int" "str" = some false := by decide +kernel
theorem k_il : kitB "int" "list" = some false := by decide +kernel
theorem k_it : kitB "int" "tuple" = some false := by decide +kernel
theorem k_bl' : kitB "bool" "list" = some false := by decide +kernel
theorem k_bt : kitB "bool" "tuple" = some false := by decide +kernel
theorem k_sl : kitB "str" "list" = some false := by decide +kernel
theorem k_st : kitB "str" "tuple" = some false := by decide +kernel
theorem k_ll : kitB "list" "list" = some true := by decide +kernel
theorem k_lt : kitB "list" "tuple" = some false := by decide +kernel
theorem k_tl : kitB "tuple" "list" = some false := by decide +kernel
theorem k_tt : kitB "tuple" "tuple" = some true := by decide +kernel
theorem k_nl : kitB "NoneType" "list" = some false := by decide +kernel
theorem k_nt : kitB "NoneType" "tuple" = some false := by decide +kernel
end

section
variable {K : PySem.W.Frag} {σ : L2.St} {H : Hp} {ta tb tl te : TE} {tt : TT} {D : Ends} {Q : VK} {g : TG} {ts : TS} {vs : List Nat}
theorem s_wp {A B : L2.St} {R : Prop} (h : wipe A vs = wipe B vs) (q : R) : wipe A vs = wipe B vs ∧ R := ⟨h, q⟩
/-! lists of a range -/
/-! loops: what a for asks, and how it is answered by an invariant -/
noncomputable def ForJ (g : TG) (tb : TS) (D : Ends) (σ : L2.St) (J : It) (H1 : Hp) : Prop := tFor (fun _ H R => R J H) g tb D σ H1
noncomputable def ForL (K : PySem.W.Frag) (g : TG) (tb : TS) (D : Ends) (σ : L2.St) (x : V) (H1 : Hp) : Prop := ∃ a, x = .ref a ∧ (∃ xs, SqL K H1 a xs) ∧ ForJ g tb D σ (Itl K a) H1
noncomputable def ForT (K : PySem.W.Frag) (g : TG) (tb : TS) (D : Ends) (σ : L2.St) (x : V) (H1 : Hp) : Prop := ∃ a, x = .ref a ∧ (∃ xs, SqT K H1 a xs) ∧ ForJ g tb D σ (Itt K a) H1
noncomputable def ForR1 (g : TG) (tb : TS) (D : Ends) (σ : L2.St) (vs : List V) (H1 : Hp) : Prop := ∃ j : Int, vs = [.int j] ∧ -(2 ^ 62) ≤ j ∧ j < 2 ^ 62 ∧ ForJ g tb D σ (Itr 0 j.toNat) H1
noncomputable def ForR2 (g : TG) (tb : TS) (D : Ends) (σ : L2.St) (vs : List V) (H1 : Hp) : Prop := ∃ i j : Int, vs = [.int i, .int j] ∧ (-(2 ^ 62) ≤ i ∧ i < 2 ^ 62 ∧ -(2 ^ 62) ≤ j ∧ j < 2 ^ 62) ∧ ForJ g tb D σ (Itr i (j - i).toNat) H1
noncomputable def ForE (K : PySem.W.Frag) (g : TG) (tb : TS) (D : Ends) (σ : L2.St) (vs : List V) (H1 : Hp) : Prop := ∃ a xs, vs = [.ref a] ∧ SqL K H1 a xs ∧ ForJ g tb D σ (Ite K a) H1
noncomputable def ForZ (K : PySem.W.Frag) (g : TG) (tb : TS) (D : Ends) (σ : L2.St) (vs : List V) (H1 : Hp) : Prop := ∃ a b xs ys, vs = [.ref a, .ref b] ∧ SqL K H1 a xs ∧ SqL K H1 b ys ∧ ForJ g tb D σ (Itz K a b) H1
noncomputable def ForS (g : TG) (tb : TS) (D : Ends) (σ : L2.St) (v : V) (H1 : Hp) : Prop := ∃ x, v = .str x ∧ ForJ g tb D σ (Its x) H1
theorem s_forL (q : tl σ H fun x H1 => ForL K g ts D σ x H1) : tFor (iList K tl) g ts D σ H := q
theorem s_forT (q : tl σ H fun x H1 => ForT K g ts D σ x H1) : tFor (iTup K tl) g ts D σ H := q
theorem s_forR1 {ta : TA} (q : ta σ H fun x H1 => ForR1 g ts D σ x H1) : tFor (iRng1 ta) g ts D σ H := q
theorem s_forS (q : te σ H fun x H1 => ForS g ts D σ x H1) : tFor (iStr te) g ts D σ H := q
theorem u_forL {a : Addr} {xs : List V} (Pv : Nat → L2.St → Hp → Prop) (h : SqL K H a xs) (h0 : Pv 0 σ H) (hl : ∀ i σ H, i ≤ xs.length → Pv i σ H → SqL K H a xs)
    (hs : ∀ i x σ H, xs[i]? = some x → Pv i σ H → g x σ H fun σ2 H2 => ts { D with nx := Pv (i + 1), ct := Pv (i + 1), bk := D.nx } σ2 H2) (hd : ∀ σ H, Pv xs.length σ H → D.nx σ H) : ForL K g ts D σ (.ref a) H :=
  ⟨a, rfl, ⟨xs, h⟩, for_list Pv h0 hl hs hd⟩
theorem u_forT {a : Addr} {xs : List V} (Pv : Nat → L2.St → Hp → Prop) (h : SqT K H a xs) (h0 : Pv 0 σ H) (hl : ∀ i σ H, i ≤ xs.length → Pv i σ H → SqT K H a xs)
    (hs : ∀ i x σ H, xs[i]? = some x → Pv i σ H → g x σ H fun σ2 H2 => ts { D with nx := Pv (i + 1), ct := Pv (i + 1), bk := D.nx } σ2 H2) (hd : ∀ σ H, Pv xs.length σ H → D.nx σ H) : ForT K g ts D σ (.ref a) H :=
  ⟨a, rfl, ⟨xs, h⟩, for_tup Pv h0 hl hs hd⟩
theorem u_forR1 {n : Int} (Pv : Nat → L2.St → Hp → Prop) (hn : -1000000000000 ≤ n ∧ n ≤ 1000000000000) (h0 : Pv 0 σ H)
    (hs : ∀ (i : Nat) σ H, (i : Int) < n → Pv i σ H → g (.int (i : Int)) σ H fun σ2 H2 => ts { D with nx := Pv (i + 1), ct := Pv (i + 1), bk := D.nx } σ2 H2) (hd : ∀ σ H, Pv n.toNat σ H → D.nx σ H) : ForR1 g ts D σ [.int n] H := by
  have e62 : (2 : Int) ^ 62 = 4611686018427387904 := by decide
  refine ⟨n, rfl, by omega, by omega, for_range (lo := 0) (n := n.toNat) Pv h0 (fun i σ H hi p => ?_) hd⟩
  have e : (0 : Int) + (i : Int) = (i : Int) := Int.zero_add _
  rw [e]
  exact hs i σ H (by omega) p
/-! comprehensions -/
noncomputable def LcJ (g : TG) (tt : TT) (te : TE) (vs : List Nat) (σ : L2.St) (J : It) (H1 : Hp) (Q : VK) : Prop := tLc (fun _ H R => R J H) g tt te vs σ H1 Q
noncomputable def LcL (K : PySem.W.Frag) (g : TG) (tt : TT) (te : TE) (vs : List Nat) (σ : L2.St) (x : V) (H1 : Hp) (Q : VK) : Prop := ∃ a, x = .ref a ∧ (∃ xs, SqL K H1 a xs) ∧ LcJ g tt te vs σ (Itl K a) H1 Q
noncomputable def LcT (K : PySem.W.Frag) (g : TG) (tt : TT) (te : TE) (vs : List Nat) (σ : L2.St) (x : V) (H1 : Hp) (Q : VK) : Prop := ∃ a, x = .ref a ∧ (∃ xs, SqT K H1 a xs) ∧ LcJ g tt te vs σ (Itt K a) H1 Q
noncomputable def LcR1 (g : TG) (tt : TT) (te : TE) (vs : List Nat) (σ : L2.St) (x : List V) (H1 : Hp) (Q : VK) : Prop := ∃ j : Int, x = [.int j] ∧ -(2 ^ 62) ≤ j ∧ j < 2 ^ 62 ∧ LcJ g tt te vs σ (Itr 0 j.toNat) H1 Q
noncomputable def LcR2 (g : TG) (tt : TT) (te : TE) (vs : List Nat) (σ : L2.St) (x : List V) (H1 : Hp) (Q : VK) : Prop := ∃ i j : Int, x = [.int i, .int j] ∧ (-(2 ^ 62) ≤ i ∧ i < 2 ^ 62 ∧ -(2 ^ 62) ≤ j ∧ j < 2 ^ 62) ∧ LcJ g tt te vs σ (Itr i (j - i).toNat) H1 Q
noncomputable def LcE (K : PySem.W.Frag) (g : TG) (tt : TT) (te : TE) (vs : List Nat) (σ : L2.St) (x : List V) (H1 : Hp) (Q : VK) : Prop := ∃ a xs, x = [.ref a] ∧ SqL K H1 a xs ∧ LcJ g tt te vs σ (Ite K a) H1 Q
noncomputable def LcZ (K : PySem.W.Frag) (g : TG) (tt : TT) (te : TE) (vs : List Nat) (σ : L2.St) (x : List V) (H1 : Hp) (Q : VK) : Prop := ∃ a b xs ys, x = [.ref a, .ref b] ∧ SqL K H1 a xs ∧ SqL K H1 b ys ∧ LcJ g tt te vs σ (Itz K a b) H1 Q
theorem s_lcL (q : tl σ H fun x H1 => LcL K g tt te vs σ x H1 Q) : tLc (iList K tl) g tt te vs σ H Q := q
theorem s_lcT (q : tl σ H fun x H1 => LcT K g tt te vs σ x H1 Q) : tLc (iTup K tl) g tt te vs σ H Q := q
theorem s_lcR1 {ta : TA} (q : ta σ H fun x H1 => LcR1 g tt te vs σ x H1 Q) : tLc (iRng1 ta) g tt te vs σ H Q := q
/-- the turns of a comprehension: what is kept stands in the relation R to its item; R is told at any heap that has all but the list that is made -/
theorem lc_turns {α : Type} {J : It} (l : List α) (p : α → Bool) (R : α → V → Hp → Prop) (mono : ∀ x y H1 H2, Ex H1 H2 → R x y H1 → R x y H2) (hz : l.length ≤ 40000)
    (hgo : ∀ i H', i < l.length → Ex H H' → J.go i H') (hst : ∀ H', Ex H H' → J.stop l.length H')
    (turn : ∀ D, H D = none → ∀ (i : Nat) x, l[i]? = some x → ∀ v H0 H', Ex H H0 → (∃ o, H0 D = some o) → J.yld i H0 v H' → Ex H0 H' ∧
      ∀ (A : VK) (B : Hp → Prop), (p x = true → ∀ y H4, Ex H' H4 → (∀ Z, ExM D H4 Z → Ex H Z → R x y Z) → A y H4) → (p x = false → ∀ H3, Ex H' H3 → B H3) →
        g v (wipe σ vs) H' fun σ2 H2 => wipe σ2 vs = wipe σ vs ∧ tt σ2 H2 fun b H3 => if b = true then te σ2 H3 A else B H3)
    (fin : ∀ D H' ys, H D = none → Ex H H' → H' D = some (.lst ys) → Paired (fun x y => R x y H') (l.filter p) ys → Q (.ref D) H') : LcJ g tt te vs σ J H Q := by
  intro D hD
  refine ⟨fun i m H' => m = l.length - i ∧ i ≤ l.length ∧ Ex H H' ∧ ∃ ys, H' D = some (.lst ys) ∧ ys.length ≤ i ∧ ∃ Z, Z D = none ∧ Ex Z H' ∧ ExM D H' Z ∧ Paired (fun x y => R x y Z) ((l.take i).filter p) ys,
    ⟨l.length, by omega, by omega, Ex.new hD, [], upd_same, Nat.le_refl _, H, hD, Ex.new hD, fun b o n e => by rw [upd_ne n] at e; exact e, .nil⟩, ?_⟩
  rintro i m H' ⟨rfl, hi, e, ys, hys, hly, Z, zD, zE, zM, pr⟩
  by_cases hlt : i < l.length
  · refine .inr ⟨hgo i H' hlt e, fun H'' => i + 1 ≤ l.length ∧ Ex H H'' ∧ ∃ ys, H'' D = some (.lst ys) ∧ ys.length ≤ i + 1 ∧ ∃ Z, Z D = none ∧ Ex Z H'' ∧ ExM D H'' Z ∧ Paired (fun x y => R x y Z) ((l.take (i + 1)).filter p) ys,
      fun H'' q => ⟨l.length - (i + 1), by omega, rfl, q⟩, fun v H2 hy => ?_⟩
    have ei : l[i]? = some l[i] := List.getElem?_eq_getElem hlt
    have e1 : l.take (i + 1) = l.take i ++ [l[i]] := by rw [List.take_add_one, ei]; rfl
    obtain ⟨ey, tn⟩ := turn D hD i _ ei v H' H2 e ⟨_, hys⟩ hy
    refine tn _ _ (fun hp y H4 e4 r => ?_) (fun hp H3 e3 => ?_)
    · have e5 := ey.trans e4
      have eD : Ex H (upd H4 D (.lst (ys ++ [y]))) := (e.trans e5).mut hD
      let Z4 : Hp := fun b => if b = D then none else H4 b
      have k1 : Z4 D = none := if_pos rfl
      have k2 : ExM D H4 Z4 := fun b o n q => by
        show (if b = D then none else H4 b) = some o
        rw [if_neg n]
        exact q
      have k3 : Ex Z Z4 := fun b o q => k2 b o (ne_of_none q zD) (e5 _ _ (zE b o q))
      have k4 : Ex H Z4 := fun b o q => k2 b o (ne_of_none q hD) (e5 _ _ (e b o q))
      refine ⟨ys, e5 _ _ hys, sz_lt (by omega), by omega, eD, _, upd_same, by rw [List.length_append]; show _ + 1 ≤ _; omega, Z4, k1, fun b o q => ?_, fun b o n q => ?_, ?_⟩
      · have nb : b ≠ D := ne_of_none q k1
        rw [upd_ne nb]
        have q' : (if b = D then none else H4 b) = some o := q
        rw [if_neg nb] at q'
        exact q'
      · rw [upd_ne n] at q
        exact k2 b o n q
      · rw [e1, List.filter_append, List.filter_cons, if_pos hp]
        exact Paired.snoc (Paired.mapP pr fun a b r => mono a b _ _ k3 r) (r Z4 k2 k4)
    · refine ⟨by omega, e.trans (ey.trans e3), ys, (ey.trans e3) _ _ hys, by omega, ?_⟩
      let Z4 : Hp := fun b => if b = D then none else H3 b
      have k1 : Z4 D = none := if_pos rfl
      have k2 : ExM D H3 Z4 := fun b o n q => by
        show (if b = D then none else H3 b) = some o
        rw [if_neg n]
        exact q
      have k3 : Ex Z Z4 := fun b o q => k2 b o (ne_of_none q zD) ((ey.trans e3) _ _ (zE b o q))
      refine ⟨Z4, k1, fun b o q => ?_, k2, ?_⟩
      · have nb : b ≠ D := ne_of_none q k1
        have q' : (if b = D then none else H3 b) = some o := q
        rw [if_neg nb] at q'
        exact q'
      · rw [e1, List.filter_append, List.filter_cons, if_neg (by rw [hp]; exact Bool.false_ne_true)]
        show Paired _ (_ ++ []) _
        rw [List.append_nil]
        exact Paired.mapP pr fun a b r => mono a b _ _ k3 r
  · have ei : i = l.length := by omega
    subst ei
    rw [List.take_length] at pr
    exact .inl ⟨hst H' e, fin D H' ys hD e hys (Paired.mapP pr fun a b r => mono a b _ _ zE r)⟩
theorem pair_map {α β : Type} {F : α → β} : ∀ {l : List α} {ys : List β}, Paired (fun x y => y = F x) l ys → ys = l.map F
  | _, _, .nil => rfl
  | _, _, .cons h t => by rw [h, pair_map t]; rfl
/-- values of a pure element over a list: they hang on the item alone -/
theorem u_lcL {α : Type} {a : Addr} (em : α → V) (l : List α) (p : α → Bool) (F : α → V) (hS : SqL K H a (l.map em)) (hz : l.length ≤ 40000)
    (turn : ∀ x ∈ l, ∀ H', Ex H H' → ∀ (A : VK) (B : Hp → Prop), (p x = true → ∀ H4, Ex H' H4 → A (F x) H4) → (p x = false → ∀ H3, Ex H' H3 → B H3) →
      g (em x) (wipe σ vs) H' fun σ2 H2 => wipe σ2 vs = wipe σ vs ∧ tt σ2 H2 fun b H3 => if b = true then te σ2 H3 A else B H3)
    (fin : ∀ D H', H D = none → Ex H H' → H' D = some (.lst ((l.filter p).map F)) → Q (.ref D) H') : LcL K g tt te vs σ (.ref a) H Q := by
  refine ⟨a, rfl, ⟨_, hS⟩, lc_turns l p (fun x y _ => y = F x) (fun _ _ _ _ _ r => r) hz (fun i H' hi e => ⟨_, em l[i], e.sq hS, by rw [List.getElem?_map, List.getElem?_eq_getElem hi]; rfl⟩) (fun H' e => ⟨_, e.sq hS, by rw [List.length_map]; exact Nat.le_refl _⟩)
    (fun D hD i x hx v H0 H' e _ hy => ?_) (fun D H' ys hD e h pr => fin D H' hD e (by rw [h, pair_map pr]))⟩
  obtain ⟨rfl, fv⟩ := hy
  have ev : v = em x := by
    have q := fv _ (e.sq hS)
    rw [List.getElem?_map, hx] at q
    exact (Option.some.inj q).symm
  subst ev
  exact ⟨Ex.refl _, fun A B h1 h2 => turn x (List.mem_of_getElem? hx) _ e A B (fun hp H4 e4 => h1 hp _ H4 e4 fun _ _ _ => rfl) h2⟩
theorem filter_yes {α : Type} : ∀ l : List α, l.filter (fun _ => true) = l
  | [] => rfl
  | x :: l => by rw [List.filter_cons, if_pos rfl, filter_yes l]
/-- .. without a test -/
theorem u_mapL {α : Type} {a : Addr} (em : α → V) (l : List α) (F : α → V) (hS : SqL K H a (l.map em)) (hz : l.length ≤ 40000)
    (turn : ∀ x ∈ l, ∀ H', Ex H H' → ∀ A : VK, (∀ H4, Ex H' H4 → A (F x) H4) → g (em x) (wipe σ vs) H' fun σ2 H2 => wipe σ2 vs = wipe σ vs ∧ te σ2 H2 A)
    (fin : ∀ D H', H D = none → Ex H H' → H' D = some (.lst (l.map F)) → Q (.ref D) H') : LcL K g tYes te vs σ (.ref a) H Q :=
  u_lcL em l (fun _ => true) F hS hz (fun x hx H' e A B h1 _ => by
    have e2 : (fun (σ2 : L2.St) H2 => wipe σ2 vs = wipe σ vs ∧ tYes σ2 H2 fun b H3 => if b = true then te σ2 H3 A else B H3) = fun σ2 H2 => wipe σ2 vs = wipe σ vs ∧ te σ2 H2 A := by
      funext σ2 H2
      show (_ ∧ if true = true then te σ2 H2 A else B H2) = _
      rw [if_pos rfl]
    rw [e2]
    exact turn x hx H' e A (h1 rfl)) (by rw [filter_yes]; exact fin)
end
/-! ### greatest, least, sorted -/
noncomputable def maxI (l : List Int) : Int := match l with | [] => 0 | a :: t => t.foldl max a
noncomputable def minI (l : List Int) : Int := match l with | [] => 0 | a :: t => t.foldl min a
noncomputable def sortI (l : List Int) : List Int := l.mergeSort (fun a b => decide (a ≤ b))
/-! ### heaps as letters: the next heap, and what is known of it -/
theorem ex_ap {H H' : Hp} {a : Addr} {o : HO} (e : Ex H H') (h : H a = some o) : H' a = some o := e a o h
theorem exm_ap {H H' : Hp} {h a : Addr} {o : HO} (e : ExM h H H') (n : a ≠ h) (hh : H a = some o) : H' a = some o := e a o n hh
section
variable {K : PySem.W.Frag} {σ : L2.St} {H : Hp} {Q : VK} {v : V} {R : Hp → Prop}
theorem n_lst {xs : List V} (h : xs.length ≤ 100000) (q : ∀ p H', H p = none → Ex H H' → H' p = some (.lst xs) → Q (.ref p) H') : NewL xs H Q := ⟨sz_of h, fun p hp => q p _ hp (Ex.new hp) upd_same⟩
theorem n_slL {a : Addr} {xs : List V} {lo hi : Option Int} (h : SqL K H a xs) (q : ∀ p H', H p = none → Ex H H' → H' p = some (.lst (cutV xs lo hi)) → Q (.ref p) H') : rSlL K (.ref a) lo hi H Q := ⟨a, xs, rfl, h, fun p hp => q p _ hp (Ex.new hp) upd_same⟩
theorem n_cat {a b : Addr} {xs ys : List V} (h1 : H a = some (.lst xs)) (h2 : H b = some (.lst ys)) (hz : xs.length + ys.length ≤ 100000) (q : ∀ p H', H p = none → Ex H H' → H' p = some (.lst (xs ++ ys)) → Q (.ref p) H') : rPlus (.ref a) (.ref b) H Q :=
  .inr (.inl ⟨a, b, xs, ys, rfl, rfl, h1, h2, sz_of hz, fun p hp => q p _ hp (Ex.new hp) upd_same⟩)
theorem n_setL {a : Addr} {xs : List V} {k : Int} {j : Nat} (h : H a = some (.lst xs)) (hk : ixN xs.length k = some j) (q : ∀ H', ExM a H H' → H' a = some (.lst (xs.set j v)) → R H') : rSetL (.ref a) (.int k) v H R := ⟨a, xs, k, j, rfl, rfl, h, hk, q _ ExM.upd upd_same⟩
noncomputable def rRevL (K : PySem.W.Frag) (x : V) (H : Hp) (Q : VK) : Prop := ∃ a xs, x = .ref a ∧ SqL K H a xs ∧ ∀ p, H p = none → Q (.ref p) (upd H p (.lst xs.reverse))
end

/-- the cut of a list, of anything -/
noncomputable def cutI {α : Type} (xs : List α) (lo hi : Option Int) : List α := (xs.drop (HT.sIx xs.length 0 lo)).take (HT.sIx xs.length xs.length hi - HT.sIx xs.length 0 lo)
theorem cutV_map {α : Type} (f : α → V) (xs : List α) (lo hi : Option Int) : cutV (xs.map f) lo hi = (cutI xs lo hi).map f := by
  unfold cutV cutI
  rw [List.length_map, ← List.map_drop, ← List.map_take]
theorem cutV_ints (xs : List Int) (lo hi : Option Int) : cutV (xs.map V.int) lo hi = (cutI xs lo hi).map V.int := cutV_map _ _ _ _
theorem cutI_to {α : Type} (xs : List α) {k : Int} (h : 0 ≤ k) : cutI xs none (some k) = xs.take k.toNat := by
  obtain ⟨n, rfl⟩ : ∃ n : Nat, k = (n : Int) := ⟨k.toNat, by omega⟩
  unfold cutI
  rw [HT.sIx_none, HT.sIx_nat, List.drop_zero, Nat.sub_zero, Int.toNat_natCast, List.take_eq_take_iff]
  omega
theorem cutI_from {α : Type} (xs : List α) {k : Int} (h : 0 ≤ k) : cutI xs (some k) none = xs.drop k.toNat := by
  obtain ⟨n, rfl⟩ : ∃ n : Nat, k = (n : Int) := ⟨k.toNat, by omega⟩
  unfold cutI
  rw [HT.sIx_none, HT.sIx_nat, Int.toNat_natCast]
  by_cases hn : n ≤ xs.length
  · rw [Nat.min_eq_left hn, List.take_of_length_le (by rw [List.length_drop]; exact Nat.le_refl _)]
  · rw [Nat.min_eq_right (by omega), Nat.sub_self, List.take_zero, List.drop_of_length_le (by omega)]
section
variable {K : PySem.W.Frag} {H : Hp} {Q : VK} {a : Addr}
theorem s_all {bs : List Bool} (h : SqL K H a (bs.map V.bl)) (q : Q (.bl (bs.all id)) H) : rAll K [.ref a] H Q := ⟨a, bs, rfl, h, q⟩
end
section
variable {K : PySem.W.Frag} {H : Hp} {Q : VK} {a : Addr} {i : Int}
end
theorem cx_K {CX : CXT} {P : Program} {w : World} {K : PySem.W.Frag} {mg : Str → Option Value} {base : Heap} {N : List Str} {x : Str} {sc : Scope} {f : Addr} {cdv : Value} {A : Around} {outer : List Env} {s : Shared} {H : Hp} {E : XK} :
    (cxOf CX P w K mg base N x sc f cdv A outer s H E).nox.K = K := rfl
theorem cx_K2 {CX : CXT} {P : Program} {w : World} {K : PySem.W.Frag} {mg : Str → Option Value} {base : Heap} {N : List Str} {x : Str} {sc : Scope} {f : Addr} {cdv : Value} {A : Around} {outer : List Env} {s : Shared} {H : Hp} {E : XK} :
    (cxOf CX P w K mg base N x sc f cdv A outer s H E).K = K := rfl
/-! ### places -/
/-! ### data with types: what a value is as a thing of plain Lean -/
class Py (α : Type) where
  d : α → PyData
  dep : Nat
  depth : ∀ a, (d a).depth ≤ dep
  can : ∀ a, (d a).canLay0 = true
  eqv : ∀ a b, (PyData.eqv (d a) (d b) = true ↔ a = b)
instance : Py Int := ⟨PyData.int, 0, fun _ => Nat.le_refl _, fun _ => rfl, fun a b => by rw [PyData.eqv]; exact beq_iff_eq⟩
instance : Py Bool := ⟨PyData.bool, 0, fun _ => Nat.le_refl _, fun _ => rfl, fun a b => by rw [PyData.eqv]; exact beq_iff_eq⟩
theorem eqvAll_iff {α : Type} [Py α] : ∀ xs ys : List α, (PyData.eqvAll (xs.map Py.d) (ys.map Py.d) = true ↔ xs = ys)
  | [], [] => by simp [PyData.eqvAll]
  | [], _ :: _ => by simp [PyData.eqvAll]
  | _ :: _, [] => by simp [PyData.eqvAll]
  | x :: xs, y :: ys => by
    rw [List.map_cons, List.map_cons, PyData.eqvAll, Bool.and_eq_true, Py.eqv, eqvAll_iff xs ys, List.cons.injEq]
theorem canAll_of {α : Type} [Py α] : ∀ xs : List α, PyData.canLayAll0 (xs.map Py.d) = true
  | [] => rfl
  | x :: xs => by rw [List.map_cons, PyData.canLayAll0, Py.can, canAll_of xs]; rfl
theorem depthAll_of {α : Type} [Py α] : ∀ xs : List α, PyData.depthAll (xs.map Py.d) ≤ Py.dep α
  | [] => Nat.zero_le _
  | x :: xs => by
    rw [List.map_cons, PyData.depthAll]
    exact Nat.max_le.mpr ⟨Py.depth x, depthAll_of xs⟩
instance {α : Type} [Py α] : Py (List α) := ⟨fun xs => .list (xs.map Py.d), Py.dep α + 1, fun xs => by rw [PyData.depth]; exact Nat.succ_le_succ (depthAll_of xs), fun xs => by rw [PyData.canLay0]; exact canAll_of xs, fun a b => by rw [PyData.eqv]; exact eqvAll_iff a b⟩
instance {α β : Type} [Py α] [Py β] : Py (α × β) := ⟨fun p => .tuple [Py.d p.1, Py.d p.2], max (Py.dep α) (Py.dep β) + 1, fun p => by
    simp only [PyData.depth, PyData.depthAll]
    have h1 := Py.depth p.1
    have h2 := Py.depth p.2
    omega, fun p => by simp only [PyData.canLay0, PyData.canLayAll0, Py.can]; rfl, fun a b => by
    simp only [PyData.eqv, PyData.eqvAll, Bool.and_true, Bool.and_eq_true, Py.eqv]
    exact ⟨fun h => Prod.ext h.1 h.2, fun h => by rw [h]; exact ⟨rfl, rfl⟩⟩⟩
/-- a triple | four, as one tuple -/
structure T3 (α β γ : Type) where
  a : α
  b : β
  c : γ
  deriving DecidableEq
structure T4 (α β γ δ : Type) where
  a : α
  b : β
  c : γ
  d : δ
  deriving DecidableEq
instance {α β γ : Type} [Py α] [Py β] [Py γ] : Py (T3 α β γ) := ⟨fun p => .tuple [Py.d p.a, Py.d p.b, Py.d p.c], max (Py.dep α) (max (Py.dep β) (Py.dep γ)) + 1, fun p => by
    simp only [PyData.depth, PyData.depthAll]
    have h1 := Py.depth p.a
    have h2 := Py.depth p.b
    have h3 := Py.depth p.c
    omega, fun p => by simp only [PyData.canLay0, PyData.canLayAll0, Py.can]; rfl, fun a b => by
    obtain ⟨a1, a2, a3⟩ := a
    obtain ⟨b1, b2, b3⟩ := b
    simp only [PyData.eqv, PyData.eqvAll, Bool.and_true, Bool.and_eq_true, Py.eqv, T3.mk.injEq]⟩
instance {α β γ δ : Type} [Py α] [Py β] [Py γ] [Py δ] : Py (T4 α β γ δ) := ⟨fun p => .tuple [Py.d p.a, Py.d p.b, Py.d p.c, Py.d p.d], max (Py.dep α) (max (Py.dep β) (max (Py.dep γ) (Py.dep δ))) + 1, fun p => by
    simp only [PyData.depth, PyData.depthAll]
    have h1 := Py.depth p.a
    have h2 := Py.depth p.b
    have h3 := Py.depth p.c
    have h4 := Py.depth p.d
    omega, fun p => by simp only [PyData.canLay0, PyData.canLayAll0, Py.can]; rfl, fun a b => by
    obtain ⟨a1, a2, a3, a4⟩ := a
    obtain ⟨b1, b2, b3, b4⟩ := b
    simp only [PyData.eqv, PyData.eqvAll, Bool.and_true, Bool.and_eq_true, Py.eqv, T4.mk.injEq]⟩
theorem eqv_dec {α : Type} [Py α] [DecidableEq α] (a b : α) : PyData.eqv (Py.d a) (Py.d b) = decide (a = b) := by
  by_cases h : a = b
  · rw [decide_eq_true h]
    exact (Py.eqv a b).mpr h
  · rw [decide_eq_false h]
    cases e : PyData.eqv (Py.d a) (Py.d b) with
    | true => exact absurd ((Py.eqv a b).mp e) h
    | false => rfl
theorem shaped_of {α : Type} [Py α] (a : α) (h : Py.dep α ≤ 64) : SeqAt.shaped (Py.d a) = true := by
  unfold SeqAt.shaped
  rw [Py.can, decide_eq_true (Nat.le_trans (Py.depth a) h)]
  rfl
/-- the value v stands in H as the thing x -/
noncomputable abbrev Is (K : PySem.W.Frag) (H : Hp) {α : Type} [Py α] (v : V) (x : α) : Prop := Dp K H v (Py.d x)
theorem s_eqP {α : Type} [Py α] [DecidableEq α] {K : PySem.W.Frag} {H : Hp} {Q : VK} {v w : V} {x y : α} (h1 : Is K H v x) (h2 : Is K H w y) (hd : Py.dep α ≤ 64) (q : Q (.bl (decide (x = y))) H) : rEqA K v w H Q :=
  .inr ⟨_, _, h1, h2, shaped_of x hd, shaped_of y hd, by rw [eqv_dec]; exact q⟩
theorem s_neP {α : Type} [Py α] [DecidableEq α] {K : PySem.W.Frag} {H : Hp} {Q : VK} {v w : V} {x y : α} (h1 : Is K H v x) (h2 : Is K H w y) (hd : Py.dep α ≤ 64) (q : Q (.bl (decide (x ≠ y))) H) : rNeA K v w H Q :=
  .inr ⟨_, _, h1, h2, shaped_of x hd, shaped_of y hd, by rw [eqv_dec, ← decide_not]; exact q⟩

/-! ### a list of data that is filled: it stands at D, its items in Z -/
instance : Py (Option Int) := ⟨fun o => match o with | none => .none | some i => .int i, 0, fun o => by cases o <;> exact Nat.le_refl _, fun o => by cases o <;> rfl, fun a b => by
  cases a <;> cases b
  · exact ⟨fun _ => rfl, fun _ => rfl⟩
  · exact ⟨fun h => (Bool.false_ne_true h).elim, fun h => nomatch h⟩
  · exact ⟨fun h => (Bool.false_ne_true h).elim, fun h => nomatch h⟩
  · rename_i x y
    show (x == y) = true ↔ some x = some y
    rw [beq_iff_eq, Option.some.injEq]⟩
/-- a number or nothing, as a value -/
noncomputable def optV : Option Int → V
  | none => .non
  | some i => .int i
structure LA (K : PySem.W.Frag) (Z H : Hp) (D : Addr) {α : Type} [Py α] (l : List α) : Prop where
  ex : ∃ vs, H D = some (.lst vs) ∧ Paired (fun v x => Is K Z v x) vs l
  zd : Z D = none
  zh : Ex Z H
section
variable {K : PySem.W.Frag} {Z H H' : Hp} {D : Addr} {α : Type} [Py α] {l : List α}
theorem pair_get' {F : V → α → Prop} : ∀ {vs : List V} {l : List α}, Paired F vs l → ∀ {i : Nat} {v : V}, vs[i]? = some v → ∃ x, l[i]? = some x ∧ F v x
  | _, _, .nil, i, x, h => by simp at h
  | _, _, .cons a r, 0, x, h => by
    cases h
    exact ⟨_, rfl, a⟩
  | _, _, .cons a r, i + 1, x, h => pair_get' r (i := i) h
end

section
variable {K : PySem.W.Frag} {Z H : Hp} {D : Addr} {α β : Type} [Py α] [Py β] {l : List α} {Q : VK} {v : V}
end
section
variable {K : PySem.W.Frag} {Z H : Hp} {α β γ : Type} [Py α] [Py β] [Py γ] {v : V} {σ : L2.St} {R : L2.St → Hp → Prop}
theorem s_gt2 {H : Hp} {b : Addr} {x y : V} {g1 g2 : TG} (h : SqT K H b [x, y]) (q : g1 x σ H fun σ1 H1 => g2 y σ1 H1 R) : gTup K 2 (gCons g1 (gCons g2 gNil)) (.ref b) σ H R := by
  refine ⟨b, _, rfl, h, rfl, x, [y], rfl, ?_⟩
  have e3 : (fun (σ1 : L2.St) H1 => g2 y σ1 H1 R) = fun σ1 H1 => g2 y σ1 H1 fun σ2 H2 => ([] : List V) = [] ∧ R σ2 H2 := by
    funext σ1 H1
    have : R = fun σ2 H2 => ([] : List V) = [] ∧ R σ2 H2 := by
      funext σ2 H2
      exact propext ⟨fun z => ⟨rfl, z⟩, fun z => z.2⟩
    rw [← this]
  rw [e3] at q
  have e4 : (fun (σ1 : L2.St) H1 => g2 y σ1 H1 fun σ2 H2 => ([] : List V) = [] ∧ R σ2 H2) = fun σ1 H1 => gCons g2 gNil [y] σ1 H1 R := by
    funext σ1 H1
    refine propext ⟨fun z => ⟨y, [], rfl, z⟩, fun z => ?_⟩
    obtain ⟨y', r', e, z⟩ := z
    cases e
    exact z
  rw [e4] at q
  exact q
end
/-! ### what a def is, and that it keeps its promise -/
/-- the def x stands in the module as its text says -/
noncomputable def FunAt (K : PySem.W.Frag) (mg : Str → Option Value) (x : Str) (st : Stmt) (ps : List Str) : Prop := ∃ f fd, Fun K x x st f fd ∧ mg x = some (.ref f) ∧ Binds K fd ps []
/-- the def x keeps the promise sp, by at most level k -/
noncomputable def Has (P : Program) (w : World) (K : PySem.W.Frag) (mg : Str → Option Value) (base : Heap) (x : Str) (k : Nat) (sp : Sp) : Prop :=
  ∃ f fd ps, FnOk P w K mg base CX0 k f fd ps sp ∧ mg x = some (.ref f) ∧ PySem.W.keepIn K (.ref f) = true ∧ Binds K fd ps []
section
variable {X : Cx} {k k' : Nat} {sp : Sp} {x : Str} {p pos : Pos} {e : Expr} {es : List Expr} {t : TA}
theorem pe_callH (h : Has X.prog X.w X.K X.mg X.base x k sp) (hk : k ≤ k') (hr : Room k' X.A) (hg : Gl X x) (ha : PA X (e :: es) t) (hdb : (x == ("__debug__" : Str)) = false := by decide)
    (he : starEach (e :: es) X.env = (false, eval e X.env) :: starEach es X.env := by rfl) (hpl : (backTo pos (starEach es X.env)).any (·.1) = false := by rfl) : PE X (.Call (.Name x p) (e :: es) [] pos) (tCall sp [] E0 t) := by
  obtain ⟨f, fd, ps, F, hm, kp, hb⟩ := h
  exact pe_call F (hr.mono hk) hg hm kp hb .nil pass0 ha hdb he hpl
theorem pe_constI {i : Int} (h : ∃ t, X.mg x = some (.int i t)) (hg : Gl X x) (hd : (x == ("__debug__" : Str)) = false := by decide) : PE X (.Name x pos) (tC (.int i)) := by
  obtain ⟨t, h⟩ := h
  exact pe_glob hg h ⟨t, rfl⟩ hd
theorem pe_constS {i : Str} (h : ∃ t, X.mg x = some (.str i t)) (hg : Gl X x) (hd : (x == ("__debug__" : Str)) = false := by decide) : PE X (.Name x pos) (tC (.str i)) := by
  obtain ⟨t, h⟩ := h
  exact pe_glob hg h ⟨t, rfl⟩ hd
end
section
variable {P : Program} {w : World} {K : PySem.W.Frag} {mg : Str → Option Value} {base : Heap}
theorem fnok_of {x : Str} {st : Stmt} {N ps : List Str} {k : Nat} {sp : Sp} {f : Addr} {fd : FuncData} (F : Fun K x x st f fd) (S : FnScope N ps (defScope st)) (len : ∀ vs H Q E, sp vs H Q E → vs.length = ps.length)
    (hbody : ∀ (cdv : Value) (A : Around) (outer : List Env) (s : Shared) (H : Hp) (vs : List V) (Q : VK) (E : XK), Room k (A.deeper (envOfC x (defScope st) s.heap.objs.size f cdv)) → sp vs H Q E →
      ∃ t, PSs (cxOf CX0 P w K mg base N x (defScope st) f cdv A outer s H E).nox (defBody st) t ∧ t { nx := fun _ H' => Q .non H', rt := Q } (start N vs) H) : FnOk P w K mg base CX0 (k + 1) f fd ps sp := F.ok S len hbody
/-- a def's promise by its body -/
theorem has_of {x : Str} {st : Stmt} {N ps : List Str} {k : Nat} {sp : Sp} (F : FunAt K mg x st ps) (S : FnScope N ps (defScope st)) (len : ∀ vs H Q E, sp vs H Q E → vs.length = ps.length)
    (hbody : ∀ (f : Addr) (cdv : Value) (A : Around) (outer : List Env) (s : Shared) (H : Hp) (vs : List V) (Q : VK) (E : XK), Room k (A.deeper (envOfC x (defScope st) s.heap.objs.size f cdv)) → sp vs H Q E →
      ∃ t, PSs (cxOf CX0 P w K mg base N x (defScope st) f cdv A outer s H E).nox (defBody st) t ∧ t { nx := fun _ H' => Q .non H', rt := Q } (start N vs) H) : Has P w K mg base x (k + 1) sp := by
  obtain ⟨f, fd, F, hm, hb⟩ := F
  exact ⟨f, fd, ps, F.ok S len (hbody f), hm, F.kp, hb⟩
theorem Has.mono {x : Str} {j k : Nat} {sp : Sp} (h : Has P w K mg base x j sp) (hk : j ≤ k) : Has P w K mg base x k sp := by
  obtain ⟨f, fd, ps, F, r⟩ := h
  exact ⟨f, fd, ps, F.mono hk, r⟩
/-- a module's number, a module's text, as the head's facts tell it -/
theorem constI_mk {h : Heap} (X : K.In h) (G : h.Ns mainGlobals mg) {x : Str} {i : Int} {t : Tok} (a : PySem.W.nsIn K mainGlobals x = some (some (.int i t))) : ∃ t, mg x = some (.int i t) := ⟨t, PySem.W.mg_of X G a⟩
theorem constS_mk {h : Heap} (X : K.In h) (G : h.Ns mainGlobals mg) {x : Str} {i : Str} {t : Tok} (a : PySem.W.nsIn K mainGlobals x = some (some (.str i t))) : ∃ t, mg x = some (.str i t) := ⟨t, PySem.W.mg_of X G a⟩
/-- a def as the head's facts tell it -/
theorem funAt_mk {h : Heap} (X : K.In h) (G : h.Ns mainGlobals mg) {x : Str} {st : Stmt} {ps : List Str} {f : Addr} {oc : Value} {od an : Option Addr} {osl : Array (Option Value)} {kV doc pm cdv ct : Value}
    (a : PySem.W.nsIn K mainGlobals x = some (some (.ref f))) (l : K.lookup f = some ⟨oc, od, .func (PySem.W.fnOf x x (defArgs st) (defBody st) (defScope st) .none kV doc pm an cdv ct), osl⟩)
    (c : PySem.W.codeIn K cdv x = true) (k : PySem.W.keepIn K (.ref f) = true)
    (b : ∀ (kV doc pm : Value) (an : Option Addr) (cdv ct : Value) (us : List Value), us.length = ps.length → bindArgs (PySem.W.fnOf x x (defArgs st) (defBody st) (defScope st) .none kV doc pm an cdv ct) ⟨us, []⟩ = pure (ps.zip us)) : FunAt K mg x st ps :=
  ⟨f, _, fun_mk l c k, PySem.W.mg_of X G a, (fun_mk (st := st) l c k).binds b⟩
/-- the law itself at the end -/
theorem law_end {P : Program} {h : Heap} (X : K.In h) (G : h.Ns mainGlobals mg) {fa : Addr} (hfa : mg "law" = some (.ref fa)) {st : Stmt} {x : Str} {k : Nat} {sp : Sp} {f : Addr} {oc : Value} {od an : Option Addr} {osl : Array (Option Value)} {kV doc pm cdv ct : Value}
    (a : PySem.W.nsIn K mainGlobals "law" = some (some (.ref f))) (l : K.lookup f = some ⟨oc, od, .func (PySem.W.fnOf "law" "law" (defArgs st) (defBody st) (defScope st) .none kV doc pm an cdv ct), osl⟩)
    (c : PySem.W.codeIn K cdv "law" = true) (kp : PySem.W.keepIn K (.ref f) = true)
    (hb : ∀ (s : Shared) (v : Value), BindsTo s (PySem.W.fnOf "law" "law" (defArgs st) (defBody st) (defScope st) .none kV doc pm an cdv ct) ⟨[v], []⟩ [(x, v)])
    (b : ∀ base : Heap, Fun K "law" "law" st f (PySem.W.fnOf "law" "law" (defArgs st) (defBody st) (defScope st) .none kV doc pm an cdv ct) → FnOk P w K mg base CX0 k f (PySem.W.fnOf "law" "law" (defArgs st) (defBody st) (defScope st) .none kV doc pm an cdv ct) [x] sp) :
    ∃ fd : FuncData, (∀ (s : Shared) (v : Value), BindsTo s fd ⟨[v], []⟩ [(x, v)]) ∧ ∀ base : Heap, K.In base → base.Ns mainGlobals mg → FnOk P w K mg base CX0 k fa fd [x] sp := by
  have e := hfa.symm.trans (PySem.W.mg_of X G a)
  cases e
  exact ⟨_, hb, fun base _ _ => b base (fun_mk l c kp)⟩
end
end TR
/-! the hand that is drawn from: n draws are left (its counter stays below 2^60) -/
namespace TR
open PySem L2
noncomputable def Hand (K : PySem.W.Frag) (Z H : Hp) (h : Addr) (n : Nat) : Prop :=
  ∃ (d k : Int) (c : Addr) (cells : List Int), H h = some (.lst [.int d, .int k, .ref c]) ∧ 0 < cells.length ∧ 0 ≤ k ∧ k + n ≤ 1000000000000000000 ∧ Ex Z H ∧ Z h = none ∧ SqL K Z c (cells.map V.int)
theorem Hand.mono {K : PySem.W.Frag} {Z H : Hp} {h : Addr} {n m : Nat} (a : Hand K Z H h n) (l : m ≤ n) : Hand K Z H h m := by
  obtain ⟨d, k, c, cells, h1, h3, h4, h5, h6⟩ := a
  exact ⟨d, k, c, cells, h1, h3, h4, by omega, h6⟩
theorem Hand.ex {K : PySem.W.Frag} {Z H H' : Hp} {h : Addr} {n : Nat} (a : Hand K Z H h n) (e : Ex H H') : Hand K Z H' h n := by
  obtain ⟨d, k, c, cells, h1, h3, h4, h5, z1, z2, z3⟩ := a
  exact ⟨d, k, c, cells, e _ _ h1, h3, h4, h5, z1.trans e, z2, z3⟩
theorem Hand.exm {K : PySem.W.Frag} {Z H H' : Hp} {h g : Addr} {n : Nat} (a : Hand K Z H h n) (e : ExM g H H') (n1 : h ≠ g) (n2 : Z g = none) : Hand K Z H' h n := by
  obtain ⟨d, k, c, cells, h1, h3, h4, h5, z1, z2, z3⟩ := a
  exact ⟨d, k, c, cells, e _ _ n1 h1, h3, h4, h5, z1.exm n2 e, z2, z3⟩
theorem Hand.at {K : PySem.W.Frag} {Z H : Hp} {h : Addr} {n : Nat} (a : Hand K Z H h n) : ∃ o, H h = some o := by
  obtain ⟨d, k, c, cells, h1, _⟩ := a
  exact ⟨_, h1⟩
theorem Hand.z {K : PySem.W.Frag} {Z H : Hp} {h : Addr} {n : Nat} (a : Hand K Z H h n) : Ex Z H := by
  obtain ⟨d, k, c, cells, h1, h3, h4, h5, z1, z2, z3⟩ := a
  exact z1
theorem Hand.zn {K : PySem.W.Frag} {Z H : Hp} {h : Addr} {n : Nat} (a : Hand K Z H h n) : Z h = none := by
  obtain ⟨_, _, _, _, _, _, _, _, _, h6, _⟩ := a
  exact h6
theorem hand_ne {K : PySem.W.Frag} {Z H H' : Hp} {h p : Addr} {n : Nat} (hp : H' p = none) (a : Hand K Z H h n) (e : Ex H H') : p ≠ h := by
  obtain ⟨o, ho⟩ := a.at
  exact (ne_of_none (e _ _ ho) hp).symm
theorem hand_ne0 {K : PySem.W.Frag} {Z H : Hp} {h p : Addr} {n : Nat} (hp : H p = none) (a : Hand K Z H h n) : p ≠ h := hand_ne hp a (Ex.refl _)
section
variable {K : PySem.W.Frag} {σ : L2.St} {H : Hp} {te : TE} {Q : VK} {g : TG} {vs : List Nat}
end
/-! ### rows: a list of lists, each of them an object of its own -/
structure RW (K : PySem.W.Frag) (Z H : Hp) (p : Addr) (qs : List Addr) {α : Type} [Py α] (rs : List (List α)) : Prop where
  own : H p = some (.lst (qs.map V.ref))
  nd : (p :: qs).Nodup
  fr : ∀ q ∈ p :: qs, Z q = none
  zh : Ex Z H
  rows : Paired (fun q r => ∃ vs, H q = some (.lst vs) ∧ Paired (fun v x => Is K Z v x) vs r) qs rs
section
variable {K : PySem.W.Frag} {Z H H1 H' : Hp} {p q : Addr} {qs : List Addr} {α : Type} [Py α] {rs : List (List α)} {Q : VK}
theorem RW.at' {qs : List Addr} {rs : List (List α)} {F : Addr → List α → Prop} : Paired F qs rs → ∀ {i : Nat} {q : Addr}, qs[i]? = some q → ∃ r, rs[i]? = some r ∧ F q r
  | .nil, i, q, h => by simp at h
  | .cons a t, 0, q, h => by cases h; exact ⟨_, rfl, a⟩
  | .cons a t, i + 1, q, h => RW.at' t h
theorem paired_snoc {β γ : Type} {F : β → γ → Prop} : ∀ {xs : List β} {ys : List γ} {x : β} {y : γ}, Paired F xs ys → F x y → Paired F (xs ++ [x]) (ys ++ [y])
  | _, _, _, _, .nil, h => .cons h .nil
  | _, _, _, _, .cons a t, h => .cons a (paired_snoc t h)
theorem RW.push' {m : ExM q H H'} {F : Addr → List α → Prop} {G : Addr → List α → Prop} (hF : ∀ b r, b ≠ q → F b r → G b r) : ∀ {qs : List Addr} {rs : List (List α)} {i : Nat} {r' : List α}, Paired F qs rs → qs.Nodup → qs[i]? = some q → G q r' → Paired G qs (rs.set i r')
  | [], _, i, r', .nil, _, h, _ => by simp at h
  | b :: qs, r :: rs, 0, r', .cons a t, nd, h, g => by
    cases h
    refine .cons g ?_
    have nb := (List.nodup_cons.mp nd).1
    clear nd
    induction t with
    | nil => exact .nil
    | cons a2 t2 ih => exact .cons (hF _ _ (fun z => nb (z ▸ List.mem_cons_self)) a2) (ih fun z => nb (List.mem_cons_of_mem _ z))
  | b :: qs, r :: rs, i + 1, r', .cons a t, nd, h, g => by
    have nb : b ≠ q := fun z => (List.nodup_cons.mp nd).1 (z ▸ List.mem_of_getElem? h)
    exact .cons (hF _ _ nb a) (RW.push' (m := m) hF t (List.nodup_cons.mp nd).2 h g)
end
section
variable {K : PySem.W.Frag} {σ : L2.St} {H : Hp} {te : TE} {Q : VK} {g : TG} {vs : List Nat}
end
section
variable {K : PySem.W.Frag} {σ : L2.St} {H : Hp} {te : TE} {Q : VK} {g : TG} {vs : List Nat}
end
section
variable {K : PySem.W.Frag} {σ : L2.St} {H : Hp} {tt : TT} {te : TE} {Q : VK} {g : TG} {vs : List Nat}
end
section
variable {K : PySem.W.Frag} {H : Hp} {Q : VK}
end
section
variable {K : PySem.W.Frag} {σ : L2.St} {H : Hp} {te : TE} {Q : VK} {g : TG} {vs : List Nat}
end
section
variable {K : PySem.W.Frag} {σ : L2.St} {H : Hp} {tt : TT} {te : TE} {Q : VK} {g : TG} {vs : List Nat}
/-- targets one behind another -/
theorem g_n {R : L2.St → Hp → Prop} : (fun (σ : L2.St) H => gNil [] σ H R) = R := by
  funext σ H
  exact propext ⟨fun z => z.2, fun z => ⟨rfl, z⟩⟩
theorem g_c {g : TG} {rest : List V → L2.St → Hp → (L2.St → Hp → Prop) → Prop} {y : V} {ys : List V} {R : L2.St → Hp → Prop} : gCons g rest (y :: ys) σ H R = g y σ H (fun σ1 H1 => rest ys σ1 H1 R) := by
  refine propext ⟨fun z => ?_, fun z => ⟨y, ys, rfl, z⟩⟩
  obtain ⟨y', r', e, z⟩ := z
  cases e
  exact z
theorem s_gt3 {b : Addr} {x y z : V} {g1 g2 g3 : TG} {R : L2.St → Hp → Prop} (h : SqT K H b [x, y, z]) (q : g1 x σ H fun σ1 H1 => g2 y σ1 H1 fun σ2 H2 => g3 z σ2 H2 R) : gTup K 3 (gCons g1 (gCons g2 (gCons g3 gNil))) (.ref b) σ H R := by
  refine ⟨b, _, rfl, h, rfl, ?_⟩
  rw [g_c]
  simp only [g_c, g_n]
  exact q
/-- a value that is a list of numbers of its own -/
noncomputable def Lp (H : Hp) (v : V) (r : List Int) : Prop := ∃ a, v = .ref a ∧ H a = some (.lst (r.map V.int))
end
section
variable {K : PySem.W.Frag} {σ : L2.St} {H : Hp} {tt : TT} {te : TE} {Q : VK} {g : TG} {vs : List Nat}
theorem lc_yes {A : VK} {B : Hp → Prop} : (fun (σ2 : L2.St) H2 => wipe σ2 vs = wipe σ vs ∧ tYes σ2 H2 fun b H3 => if b = true then te σ2 H3 A else B H3) = fun σ2 H2 => wipe σ2 vs = wipe σ vs ∧ te σ2 H2 A := by
  funext σ2 H2
  show (_ ∧ if true = true then te σ2 H2 A else B H2) = _
  rw [if_pos rfl]
end
/-! ### pairs of numbers, sorted -/
/-- a value that is a tuple of two numbers -/
noncomputable def Tp (H : Hp) (v : V) (r : Int × Int) : Prop := ∃ a, v = .ref a ∧ H a = some (.tup [.int r.1, .int r.2])
noncomputable def lexI (a b : Int × Int) : Bool := decide (a.1 < b.1 ∨ (a.1 = b.1 ∧ a.2 ≤ b.2))
noncomputable def sortP (l : List (Int × Int)) : List (Int × Int) := l.mergeSort lexI
noncomputable def keyP (H : Hp) (v : V) : Int × Int := match v with
  | .ref t => match H t with
    | some (.tup [.int i, .int j]) => (i, j)
    | _ => (0, 0)
  | _ => (0, 0)
/-- values that are tuples of three, of four numbers -/
noncomputable def Rp (H : Hp) (v : V) (t : T3 Int Int Int) : Prop := ∃ a, v = .ref a ∧ H a = some (.tup [.int t.a, .int t.b, .int t.c])
noncomputable def Qp (H : Hp) (v : V) (t : T4 Int Int Int Int) : Prop := ∃ a, v = .ref a ∧ H a = some (.tup [.int t.a, .int t.b, .int t.c, .int t.d])
/-! ### a dict of counts -/
noncomputable def CntD (H : Hp) (p : Addr) (f : Int → Int) (n : Nat) : Prop := ∃ kvs : List (L2.Key × V), H p = some (.dK kvs) ∧ kvs.length ≤ n ∧ ∀ r : Int, (valV kvs (Sum.inl r)).getD (.int 0) = .int (f r)
noncomputable def DG1 (a : Addr) (y z : V) (H3 : Hp) (Q : VK) : Prop := ∃ o, DGet H3 a y o ∧ Q (o.getD z) H3
noncomputable def DG (ty tx : TE) (σ : L2.St) (x : V) (H1 : Hp) (Q : VK) : Prop := ∃ a, x = .ref a ∧ IsD H1 a ∧ ty σ H1 fun y H2 => tx σ H2 fun z H3 => DG1 a y z H3 Q
noncomputable def DP (x y v : V) (H : Hp) (R : Hp → Prop) : Prop := ∃ a H4, x = .ref a ∧ DPut H a y v H4 ∧ R H4
section
variable {σ : L2.St} {H : Hp} {td ty tx tv : TE} {Q : VK} {D : Ends} {p : Addr} {f : Int → Int} {n : Nat}
end
/-- a value that is a list of numbers, not the one at p -/
noncomputable def Lq (p : Addr) (H : Hp) (v : V) (r : List Int) : Prop := ∃ a, v = .ref a ∧ a ≠ p ∧ H a = some (.lst (r.map V.int))
end TR
namespace TR
open PySem L2
/-- a test | a value, with a word behind it: what follows is shown once, from Mid -/
noncomputable def tTCut (t : TT) : TT := fun σ H QB => ∃ Mid : Bool → Hp → Prop, t σ H Mid ∧ ∀ b H1, Mid b H1 → QB b H1
noncomputable def tECut (t : TE) : TE := fun σ H Q => ∃ Mid : VK, t σ H Mid ∧ ∀ v H1, Mid v H1 → Q v H1
end TR

/-! ### classes, methods, exceptions of the text -/
namespace TR
open PySem L2 PySem.Spec PyProof.Rows
/-- where a class of the text stands -/
noncomputable def clsA (K : PySem.W.Frag) (x : Str) : Addr := match PySem.W.nsIn K mainGlobals x with | some (some (.ref C)) => C | _ => 0
/-- a def that may raise keeps the promise -/
noncomputable def HasX (P : Program) (w : World) (K : PySem.W.Frag) (mg : Str → Option Value) (base : Heap) (x : Str) (k : Nat) (sp : Sp) : Prop :=
  ∃ f fd ps, FnOk P w K mg base (L2.CX P w) k f fd ps sp ∧ mg x = some (.ref f) ∧ PySem.W.keepIn K (.ref f) = true ∧ Binds K fd ps []
/-- a method -/
noncomputable def HasM (P : Program) (w : World) (K : PySem.W.Frag) (mg : Str → Option Value) (base : Heap) (x m : Str) (k : Nat) (sp : Sp) : Prop :=
  ∃ f fd ps, FnOk P w K mg base (L2.CX P w) k f fd ps sp ∧ Meth K (clsA K x) m f ∧ Binds K fd ps []
/-- a class that is made by its __init__ -/
noncomputable def HasK (P : Program) (w : World) (K : PySem.W.Frag) (mg : Str → Option Value) (base : Heap) (x : Str) (k : Nat) (sp : Sp) : Prop :=
  ∃ f fd ps, FnOk P w K mg base (L2.CX P w) k f fd ps sp ∧ Mk K (clsA K x) f ∧ mg x = some (.ref (clsA K x)) ∧ Binds K fd ps []
structure MethAt (K : PySem.W.Frag) (x m q : Str) (st : Stmt) (ps : List Str) : Prop where
  ex : ∃ f fd, Fun K m q st f fd ∧ Meth K (clsA K x) m f ∧ Binds K fd ps []
structure MakeAt (K : PySem.W.Frag) (mg : Str → Option Value) (x q : Str) (st : Stmt) (ps : List Str) : Prop where
  ex : ∃ f fd, Fun K "__init__" q st f fd ∧ Mk K (clsA K x) f ∧ mg x = some (.ref (clsA K x)) ∧ Binds K fd ps []
/-- an exception class with one field that its __init__ lays -/
structure ExF (K : PySem.W.Frag) (mg : Str → Option Value) (x f : Str) : Prop where
  o : OexC K (clsA K x)
  g : mg x = some (.ref (clsA K x))
  n : PySem.W.findIn K (.ref (clsA K x)) f = some none
structure ExAt (K : PySem.W.Frag) (x q : Str) (st : Stmt) (ps : List Str) : Prop where
  ex : ∃ fI fd, Fun K "__init__" q st fI fd ∧ PySem.W.findIn K (.ref (clsA K x)) "__init__" = some (some (.ref fI)) ∧ PySem.W.typeIn K (.ref fI) = some (.type "function") ∧ Binds K fd ps []
/-- the class over all own exceptions, itself right under ValueError -/
structure TeC (K : PySem.W.Frag) (mg : Str → Option Value) (x : Str) : Prop where
  g : mg x = some (.ref (clsA K x))
  ga : PySem.W.specialIn K (.ref (clsA K x)) "__getattribute__" = some (some (.builtin "type.__getattribute__"))
  rd : PySem.W.readsIn K (clsA K x) (.type "type") = true
  fi : PySem.W.findCls K (.ref (clsA K x)) (.type "type") "__init__" = some (.val (.builtin "ValueError.__init__"))
noncomputable def spInit (f : Str) (K : PySem.W.Frag) : Sp := fun vs H Q _ => ∃ (a C : Addr) (v : V), vs = [.ref a, v] ∧ OexC K C ∧ PySem.W.findIn K (.ref C) f = some none ∧ H a = some (exo a C none) ∧ ∀ d, H d = none → d ≠ a → Q .non (upd (upd H d (exd d [(f, v)])) a (exo a C (some d)))
noncomputable def HasE (P : Program) (w : World) (K : PySem.W.Frag) (mg : Str → Option Value) (base : Heap) (x f : Str) (k : Nat) : Prop :=
  ∃ fI fd ps, FnOk P w K mg base CX0 k fI fd ps (spInit f K) ∧ ExF K mg x f ∧ PySem.W.findIn K (.ref (clsA K x)) "__init__" = some (some (.ref fI)) ∧ PySem.W.typeIn K (.ref fI) = some (.type "function") ∧ Binds K fd ps []
/-- what may be let out at the slots σ -/
noncomputable abbrev Px (X : Cx) (E : L2.St → XK) : Prop := ∀ σ, PassesAt (L2.CX X.prog X.w) X σ (E σ)
noncomputable def tCallE (sp : Sp) (E : L2.St → XK) (t : TA) : TE := fun σ H Q => t σ H fun vs H1 => sp vs H1 Q (E σ)
noncomputable def tMethE (C : Addr) (m : Str) (sp : Sp) (E : L2.St → XK) (ta : TE) (t : TA) : TE := fun σ H Q => ta σ H fun x H1 => ∃ a dx fs, x = .ref a ∧ H1 a = some (.ins C dx fs) ∧ fs.lookup m = none ∧ t σ H1 fun vs H2 => sp (x :: vs) H2 Q (E σ)
noncomputable def tMakeE (C : Addr) (sp : Sp) (E : L2.St → XK) (t : TA) : TE := fun σ H Q => t σ H fun vs H1 => ∀ x dx, H1 x = none → H1 dx = none → dx ≠ x → sp (.ref x :: vs) (upd (upd H1 dx (.own x)) x (.ins C dx [])) (fun v H2 => v = .non ∧ Q (.ref x) H2) (E σ)
section
variable {X : Cx} {k k' : Nat} {sp : Sp} {x m f : Str} {p p1 p2 pos pos2 apos : Pos} {e o : Expr} {es : List Expr} {t : TA} {ta : TE} {E : L2.St → XK} {W : WX}
end
section
variable {X : Cx} {k k' : Nat} {sp : Sp} {x m f : Str} {p p1 p2 pos pos2 apos : Pos} {e o : Expr} {es : List Expr} {t : TA} {ta : TE} {W : WX}
/-- raise X(e) -/
noncomputable def tRaise (C : Addr) (f : Str) (W : WX) (t : TA) : TS := fun _ σ H => t σ H fun vs H1 => ∃ v, vs = [v] ∧ ∀ d, H1 d = none → W (.ref C) (some d) σ (upd H1 d (.xd [(f, v)]))
end
section
variable {P : Program} {w : World} {K : PySem.W.Frag} {mg : Str → Option Value} {base : Heap}
end
end TR
namespace TR
open PySem L2 PySem.Spec PyProof.Rows
end TR
namespace TR
open PySem L2 PySem.Spec PyProof.Rows
section
variable {P : Program} {w : World} {K : PySem.W.Frag} {mg : Str → Option Value} {base : Heap} {x y : Str} {k : Nat} {sp : Sp}
end
end TR
namespace TR
open PySem L2
section
variable {K : PySem.W.Frag} {H : Hp} {σ : L2.St} {Q : VK} {D : Ends} {C a dx : Addr} {f m : Str} {W : WX} {t : TA} {ta tv : TE} {E : L2.St → XK} {E1 : XK} {sp : Sp} {v : V} {fs : List (Str × V)}
noncomputable def RaP (C : Addr) (f : Str) (W : WX) (σ : L2.St) (vs : List V) (H : Hp) : Prop := ∃ v, vs = [v] ∧ ∀ d, H d = none → W (.ref C) (some d) σ (upd H d (.xd [(f, v)]))
noncomputable def MeP (C : Addr) (m : Str) (sp : Sp) (E1 : XK) (t : TA) (σ : L2.St) (x : V) (H1 : Hp) (Q : VK) : Prop := ∃ a dx fs, x = .ref a ∧ H1 a = some (.ins C dx fs) ∧ fs.lookup m = none ∧ t σ H1 fun vs H2 => sp (x :: vs) H2 Q E1
noncomputable def FlP (K : PySem.W.Frag) (f : Str) (x : V) (H : Hp) (Q : VK) : Prop := ∃ a C dx fs v, x = .ref a ∧ H a = some (.ins C dx fs) ∧ Cls K C ∧ NoAttr K C f ∧ fs.lookup f = some v ∧ Q v H
noncomputable def FsP (K : PySem.W.Frag) (f : Str) (y x : V) (H : Hp) (R : Hp → Prop) : Prop := ∃ a C dx fs, x = .ref a ∧ H a = some (.ins C dx fs) ∧ Cls K C ∧ NoAttr K C f ∧ fs.length < 1000 ∧ R (upd H a (.ins C dx (putF f y fs)))
noncomputable def MkP' (C : Addr) (sp : Sp) (E1 : XK) (vs : List V) (H1 : Hp) (Q : VK) : Prop := ∀ x dx, H1 x = none → H1 dx = none → dx ≠ x → sp (.ref x :: vs) (upd (upd H1 dx (.own x)) x (.ins C dx [])) (fun v H2 => v = .non ∧ Q (.ref x) H2) E1
end
end TR
namespace TR
open PySem L2
section
variable {K : PySem.W.Frag} {H : Hp} {σ : L2.St} {Q : VK} {D : Ends} {C a : Addr} {f : Str} {ta : TA} {to te : TE} {ws : List V} {y : V}
noncomputable def VeP (K : PySem.W.Frag) (vs : List V) (H1 : Hp) (Q : VK) : Prop := ∃ (a C : Addr) (ws : List V), vs = .ref a :: ws ∧ ws.length ≤ 1000 ∧ OexC K C ∧ H1 a = some (exo a C none) ∧ Q .non H1
noncomputable def OsP (K : PySem.W.Frag) (f : Str) (y x : V) (H2 : Hp) (R : Hp → Prop) : Prop := ∃ a C : Addr, x = .ref a ∧ OexC K C ∧ PySem.W.findIn K (.ref C) f = some none ∧
  ((H2 a = some (exo a C none) ∧ ∀ dx, H2 dx = none → dx ≠ a → R (upd (upd H2 dx (exd dx [(f, y)])) a (exo a C (some dx)))) ∨
    ∃ (dx : Addr) (fs : List (Str × V)), H2 a = some (exo a C (some dx)) ∧ H2 dx = some (exd dx fs) ∧ fs.length ≤ 900 ∧ R (upd H2 dx (exd dx ((f, y) :: fs))))
end
end TR
namespace TR
open PySem L2
theorem u_forS {g : TG} {ts : TS} {D : Ends} {σ : L2.St} {H : Hp} {x : Str} (Pv : Nat → L2.St → Hp → Prop) (h0 : Pv 0 σ H)
    (hs : ∀ (i : Nat) c σ H, x.cps[i]? = some c → Pv i σ H → g (.str ⟨#[c]⟩) σ H fun σ2 H2 => ts { D with nx := Pv (i + 1), ct := Pv (i + 1), bk := D.nx } σ2 H2) (hd : ∀ σ H, Pv x.cps.size σ H → D.nx σ H) : ForS g ts D σ (.str x) H := by
  refine ⟨x, rfl, fun i m σ H' => m = x.cps.size - i ∧ i ≤ x.cps.size ∧ Pv i σ H', ⟨x.cps.size, by simp, Nat.zero_le _, h0⟩, ?_⟩
  rintro i m σ H' ⟨rfl, hi, q⟩
  by_cases hlt : i < x.cps.size
  · refine .inr ⟨hlt, fun σ' H'' => Pv (i + 1) σ' H'', fun σ' H'' z => ⟨x.cps.size - (i + 1), by omega, rfl, hlt, z⟩, fun v H2 y => ?_⟩
    obtain ⟨rfl, c, hc, rfl⟩ := y
    exact hs i c σ _ hc q
  · have ei : i = x.cps.size := by omega
    subst ei
    exact .inl ⟨Nat.le_refl _, hd σ H' q⟩
end TR
namespace TR
open PySem L2 PySem.Spec PyProof.Rows
section
variable {X : Cx} {K : PySem.W.Frag} {k k' : Nat} {sp : Sp} {x m f : Str} {p pos apos : Pos} {e o : Expr} {es : List Expr} {t : TA} {ta : TE} {E : L2.St → XK}
end
end TR
namespace TR
open PySem L2
section
variable {K : PySem.W.Frag} {x y f : Str} {C D : Addr} {b : Bool}
end
section
variable {K : PySem.W.Frag} {c cls : Value} {i : Nat} {ts : Addr → Value → Option Addr → TS} {Wout : WX} {D : Ends} {d : Option Addr} {σ : L2.St} {H : Hp} {a dd C : Addr} {f : Str} {te : TE} {Q : VK} {fs : List (Str × V)} {v : V}
noncomputable def XfP (a : Addr) (cls : Value) (d : Option Addr) (C : Addr) (f : Str) (x : V) (H1 : Hp) (Q : VK) : Prop := x = .ref a ∧ cls = .ref C ∧ ∃ (dd : Addr) (fs : List (Str × V)) (v : V), d = some dd ∧ H1 dd = some (.xd fs) ∧ fs.lookup f = some v ∧ Q v H1
end
end TR
namespace TR
open PySem L2 PySem.Spec PyProof.Rows
/-- what isinstance(x, C) asks of an own class -/
structure IsiC (K : PySem.W.Frag) (C : Addr) : Prop where
  cl : Cls K C
  ha : PySem.W.findIn K (.ref C) "__class__" = some (some (.builtin "object.__class__"))
  hn : PySem.W.specialIn K (.builtin "object.__class__") "__get__" = some (some (.builtin "getset_descriptor.__get__"))
  htk : PySem.W.takesIn K (.builtin "object.__class__") = some true
  hm : PySem.W.mroIn K C (.type "object") = some true
  me : PySem.W.kitOne K (.ref C) (.ref C) = some true
end TR
namespace TR
open PySem L2 PySem.Spec PyProof.Rows
section
variable {X : Cx} {CX : CXT} {k k' : Nat} {f C : Addr} {fd : FuncData} {ps : List Str} {sp : Sp} {x : Str} {p pos : Pos} {e : Expr} {es : List Expr} {t : TA}
end
end TR
/-! an exception class without an __init__ of its own: raise X() -/
namespace TR
open PySem L2 PySem.Spec PyProof.Rows
noncomputable def bmVE : List Value := [.type "ValueError", .type "Exception", .type "BaseException", .type "object"]
structure ExB (K : PySem.W.Frag) (mg : Str → Option Value) (x : Str) : Prop where
  g : mg x = some (.ref (clsA K x))
  q : PySem.W.excIn K (clsA K x) bmVE "ValueError.__new__" = true
  kC : PySem.W.keepIn K (.ref (clsA K x)) = true
  exC : PySem.W.subIn K (.ref (clsA K x)) (.type "BaseException") = some true
  tyC : PySem.W.typeIn K (.ref (clsA K x)) = some (.type "type")
noncomputable def tRaise0 (C : Addr) (W : WX) : TS := fun _ σ H => W (.ref C) none σ H
section
variable {X : Cx} {x : Str} {p pos pos2 : Pos} {W : WX}
end
section
variable {K : PySem.W.Frag} {mg : Str → Option Value}
end
end TR
namespace TR
open PySem L2
end TR

/-! short words: hp (what stands at an address), ex (a heap grows into another), ne, fr, sq, st; s (one step of a reading), ss (steps as far as they go) -/
open PySem L2 TR
local macro_rules | `(tactic| walk_at "ex") => `(tactic| first
  | exact Ex.refl _
  | assumption
  | focus (apply Ex.trans; rotate_left; assumption; walk_at "ex")
  | focus (apply Ex.exm; rotate_left; rotate_left; assumption; walk_at "ex"; (walk_at "fr2")))
local macro_rules | `(tactic| walk_at "fr2") => `(tactic| first
  | assumption
  | focus (apply Ex.back; rotate_left; assumption; walk_at "ex"))
local macro_rules | `(tactic| walk_at "hp") => `(tactic| first
  | assumption
  | (apply ex_ap; assumption; walk_at "hp")
  | (apply exm_ap; assumption; walk_at "ne"; walk_at "hp"))
local macro_rules | `(tactic| walk_at "ne") => `(tactic| first
  | assumption
  | (apply Ne.symm; assumption)
  | exact TR.hand_ne0 (by assumption) (by assumption))
local macro_rules | `(tactic| walk_at "sq") => `(tactic| first
  | assumption
  | (apply sq_of; walk_at "hp")
  | focus (apply Ex.sq; rotate_left; assumption; walk_at "ex"))
local macro_rules | `(tactic| walk_at "st") => `(tactic| first
  | assumption
  | (apply st_of; walk_at "hp"))
local macro_rules | `(tactic| walk_at "is") => `(tactic| first
  | assumption)
local macro_rules | `(tactic| walk_at "la") => `(tactic| first
  | assumption)
local macro_rules | `(tactic| walk_at "at") => `(tactic| first
  | exact atI_lt (by decide) rfl
  | rfl)
local macro_rules | `(tactic| walk_at "ixn") => `(tactic| first
  | rfl)
local macro_rules | `(tactic| walk_at "len") => `(tactic| first
  | omega
  | (simp only [List.length_map, List.length_range, List.length_append, List.length_cons, List.length_nil, List.length_reverse, List.length_set]; omega))
local macro_rules | `(tactic| walk_at "od") => `(tactic| first
  | decide
  | omega
  | exact Nat.le_of_ble_eq_true rfl)
local macro_rules | `(tactic| walk_at "kit") => `(tactic| first
  | exact k_ii
  | exact k_ib
  | exact k_is
  | exact k_il
  | exact k_it
  | exact k_bl'
  | exact k_bt
  | exact k_sl
  | exact k_st
  | exact k_nl
  | exact k_nt
  | exact k_ll
  | exact k_lt
  | exact k_tl
  | exact k_tt)
local macro_rules | `(tactic| walk_at "s") => `(tactic| first
  | (with_reducible (first | apply s_seq | apply s_asg | apply s_gname | apply s_ret | apply s_if | apply s_next | apply s_drop))
  | ((with_reducible apply s_var); rfl)
  | (with_reducible (first | apply s_c | apply s_op | apply s_un | apply s_chain | apply s_test | apply s_tB | apply s_bl | apply s_and | apply s_or | apply s_not | apply s_andV | apply s_notV | apply s_I0 | apply s_U | apply s_plusI | apply s_eqI | apply s_neI | apply s_eqB | apply s_neB | apply s_eqS | apply s_neS))
  | ((with_reducible apply s_mod); walk_at "od"; intro _ _)
  | ((with_reducible apply s_div); walk_at "od"; walk_at "od")
  | (walk_at "pow")
  | ((with_reducible apply s_pow); decide; walk_at "od")
  | ((with_reducible apply s_mulL); walk_at "od")
  | ((with_reducible apply s_mulR); walk_at "od")
  | (with_reducible (first | apply s_nil | apply s_cons | apply s_call | apply s_CB | apply s_lst | apply s_tup | apply s_sl | apply s_np | apply s_part | apply s_int | apply s_BM | apply s_gsub | apply s_augS | apply s_ipI | apply s_forL | apply s_forT | apply s_forR1 | apply s_forS | apply s_lcL | apply s_lcT | apply s_lcR1))
  | ((with_reducible apply s_wp); rfl)
  | ((with_reducible apply s_all); walk_at "sq")
  | ((with_reducible apply s_gt2); walk_at "st")
  | (with_reducible (first | apply s_max2 | apply s_abs | apply s_int1b))
  | ((with_reducible apply s_isiI); walk_at "kit")
  | ((with_reducible apply s_isiB); walk_at "kit")
  | ((with_reducible apply s_isiS); walk_at "kit")
  | ((with_reducible apply s_isiN); walk_at "kit")
  | ((with_reducible apply s_isiL); walk_at "sq"; walk_at "kit")
  | ((with_reducible apply s_isiT); walk_at "st"; walk_at "kit")
  | ((with_reducible apply s_lenM); walk_at "sq")
  | ((with_reducible apply s_lenL); walk_at "sq")
  | ((with_reducible apply s_lenT); walk_at "st")
  | ((with_reducible apply n_slL); walk_at "sq"; intro _ _ _ _ _)
  | ((with_reducible apply s_tyL); walk_at "sq")
  | ((with_reducible apply n_lst); walk_at "od"; intro _ _ _ _ _)
  | ((with_reducible apply n_cat); walk_at "hp"; walk_at "hp"; walk_at "len"; intro _ _ _ _ _)
  | ((with_reducible apply s_ixL); walk_at "sq"; walk_at "at")
  | ((with_reducible apply s_ixT); walk_at "st"; walk_at "at")
  | ((with_reducible apply s_ix3); walk_at "sq"; omega; intro _ _)
  | ((with_reducible apply s_ixI); walk_at "sq"; omega; intro _ _)
  | ((with_reducible apply s_getL); walk_at "sq"; decide; walk_at "at")
  | ((with_reducible apply n_setL); walk_at "hp"; walk_at "ixn"; intro _ _ _)
  | ((with_reducible apply s_eqP (α := List Int)); walk_at "is"; walk_at "is"; decide)
  | ((with_reducible apply s_neP (α := List Int)); walk_at "is"; walk_at "is"; decide)
  | ((with_reducible apply s_eqP (α := Int × Int)); walk_at "is"; walk_at "is"; decide)
  | ((with_reducible apply s_neP (α := Int × Int)); walk_at "is"; walk_at "is"; decide)
  | ((with_reducible apply s_eqP (α := Bool × Int)); walk_at "is"; walk_at "is"; decide)
  | ((with_reducible apply s_neP (α := Bool × Int)); walk_at "is"; walk_at "is"; decide)
  | ((with_reducible apply s_eqP (α := Int × Option Int)); walk_at "is"; walk_at "is"; decide)
  | ((with_reducible apply s_neP (α := Int × Option Int)); walk_at "is"; walk_at "is"; decide)
  | ((with_reducible apply s_eqP (α := T3 Int Int Int)); walk_at "is"; walk_at "is"; decide)
  | ((with_reducible apply s_neP (α := T3 Int Int Int)); walk_at "is"; walk_at "is"; decide)
  | ((with_reducible apply s_eqP (α := T4 Int Int Int Int)); walk_at "is"; walk_at "is"; decide)
  | ((with_reducible apply s_neP (α := T4 Int Int Int Int)); walk_at "is"; walk_at "is"; decide)
  | ((with_reducible apply s_eqP (α := List (Int × Int))); walk_at "is"; walk_at "is"; decide)
  | ((with_reducible apply s_neP (α := List (Int × Int))); walk_at "is"; walk_at "is"; decide)
  | ((with_reducible apply s_eqP (α := List (T3 Int Int Int))); walk_at "is"; walk_at "is"; decide)
  | ((with_reducible apply s_neP (α := List (T3 Int Int Int))); walk_at "is"; walk_at "is"; decide)
  | ((with_reducible apply s_eqP (α := List (T4 Int Int Int Int))); walk_at "is"; walk_at "is"; decide)
  | ((with_reducible apply s_neP (α := List (T4 Int Int Int Int))); walk_at "is"; walk_at "is"; decide)
  | ((with_reducible apply s_eqP (α := List (List Int))); walk_at "is"; walk_at "is"; decide)
  | ((with_reducible apply s_neP (α := List (List Int))); walk_at "is"; walk_at "is"; decide)
  | (with_reducible (first | apply i_t | apply i_f | apply i_nt | apply i_nf))
  | ((with_reducible apply i_dt); (focus (first | trivial | assumption | omega | rfl)))
  | ((with_reducible apply i_df); (focus (first | assumption | omega | exact (fun h => h rfl))))
  | ((with_reducible apply i_ndt); (focus (first | trivial | assumption | omega | rfl))))
local macro_rules | `(tactic| walk_at "pow") => `(tactic| first
  | (with_reducible (first | apply s_pow2_56 | apply s_pow2_60 | apply s_pow10_6 | apply s_pow10_18)))
local macro_rules | `(tactic| walk_at "cx") => `(tactic| try dsimp only [cx_K, cx_K2])
local macro_rules | `(tactic| walk_at "ss") => `(tactic| ((try dsimp only); (repeat walk_at "s")))
/-! the slots made plain again (many names, comprehensions): reading them is slow otherwise -/
local macro_rules | `(tactic| walk_at "nm") => `(tactic| simp only [List.set_cons_succ, List.set_cons_zero, wipe, List.map_cons, List.map_nil])

/-! sorted of pairs of a number and a text, no two unlike ones of the same number -/
namespace SrtS
open PySem PySem.W PyProof.Rows SrtO
section
variable {prog : Program} {w : World} {A : Around} {E : Value → Shared → Prop} {s : Shared}
noncomputable def IsPS (h : Heap) (v : Value) (x : Int) (y : Str) : Prop := ∃ a o t u n, v = .ref a ∧ h.get? a = some o ∧ o.cls = .type "tuple" ∧ o.data = .seq #[.int x t, .str y u] n
noncomputable def ltI (p q : Int × Str) : Bool := decide (p.1 < q.1)
end
end SrtS
namespace L2
open PySem PySem.Spec PyProof.Rows
noncomputable def EntV (K : PySem.W.Frag) (H : Hp) (x : V) (e : Int × Str) : Prop := ∃ t, x = V.ref t ∧ SqT K H t [.int e.1, .str e.2]
noncomputable def rSortedPS (K : PySem.W.Frag) : List V → Hp → VK → Prop := fun vs H Q => ∃ (a : Addr) (xs : List V) (l : List (Int × Str)), vs = [V.ref a] ∧ SqL K H a xs ∧ Paired (EntV K H) xs l ∧
  (∀ x ∈ l, ∀ y ∈ l, x.1 = y.1 → x.2 = y.2) ∧
  ∀ (ps : List (V × (Int × Str))) p, ps.Pairwise (fun x y => x.2.1 ≤ y.2.1) → ps.Perm (xs.zip l) → H p = none → Q (.ref p) (upd H p (.lst (ps.map Prod.fst)))
end L2

/-! entries, rows, rooms, yards as data; comprehensions that draw -/
namespace TR
open PySem L2
/-- a text of signs that there are -/
noncomputable abbrev Tx := {x : Str // PyData.strOk x = true}
instance : Inhabited Tx := ⟨⟨⟨#[]⟩, by simp [PyData.strOk]⟩⟩
instance : Py Tx := ⟨fun x => .str x.1, 0, fun _ => Nat.le_refl _, fun x => x.2, fun a b => by
  rw [PyData.eqv, beq_iff_eq]
  exact Subtype.ext_iff.symm⟩
instance : Py (Option Tx) := ⟨fun o => match o with | none => .none | some i => .str i.1, 0, fun o => by cases o <;> exact Nat.le_refl _, fun o => by
  cases o with
  | none => rfl
  | some x => exact x.2, fun a b => by
  cases a <;> cases b
  · exact ⟨fun _ => rfl, fun _ => rfl⟩
  · exact ⟨fun h => (Bool.false_ne_true h).elim, fun h => nomatch h⟩
  · exact ⟨fun h => (Bool.false_ne_true h).elim, fun h => nomatch h⟩
  · rename_i x y
    show (x.1 == y.1) = true ↔ some x = some y
    rw [beq_iff_eq, Option.some.injEq]
    exact Subtype.ext_iff.symm⟩
noncomputable abbrev Ent := Int × Tx
noncomputable abbrev Row := List Ent
noncomputable abbrev Yard := T3 Int Int (List (List Row))
instance : DecidableEq Tx := fun a b => decidable_of_iff (a.1 = b.1) Subtype.ext_iff.symm
instance : DecidableEq Yard := fun a b => decidable_of_iff (a.a = b.a ∧ a.b = b.b ∧ a.c = b.c) (by
  obtain ⟨a1, a2, a3⟩ := a
  obtain ⟨b1, b2, b3⟩ := b
  exact T3.mk.injEq .. ▸ Iff.rfl)
section
variable {K : PySem.W.Frag} {H : Hp} {v : V}
end
/-! ### rows sorted by their keys -/
noncomputable def sortE (l : Row) : Row := l.mergeSort (fun a b => decide (a.1 ≤ b.1))
/-- no two unlike entries of one key -/
noncomputable def OneK (l : Row) : Prop := ∀ x ∈ l, ∀ y ∈ l, x.1 = y.1 → x.2 = y.2
end TR
namespace TR
open PySem L2
/-! ### pure values out of data, some of them -/
section
variable {K : PySem.W.Frag} {σ : L2.St} {H : Hp} {tt : TT} {te : TE} {Q : VK} {g : TG} {vs : List Nat}
end
/-! ### comprehensions that draw -/
section
variable {K : PySem.W.Frag} {σ : L2.St} {H : Hp} {te : TE} {Q : VK} {g : TG} {vs : List Nat}
theorem lc_handR {α : Type} (Rel : α → V → Hp → Prop) {J : It} {n : Nat} {Z : Hp} {h : Addr} {C c R : Nat} (xs : Nat → V) (hh : Hand K Z H h C) (hC : R + c * n ≤ C)
    (hgo : ∀ i H', i < n → ExM h H H' → J.go i H') (hst : ∀ H', ExM h H H' → J.stop n H') (hy : ∀ i v H0 H', i < n → ExM h H H0 → J.yld i H0 v H' → H' = H0 ∧ v = xs i)
    (turn : ∀ i, i < n → ∀ D H' R', ExM h H H' → H D = none → (∃ o, H' D = some o) → Hand K Z H' h (R' + c) → ∀ A : VK, (∀ x y H4, ExM h H' H4 → Hand K Z H4 h R' → (∀ Z1, Ex Z Z1 → (∀ b o, H' b = none → H4 b = some o → Z1 b = some o) → Rel x y Z1) → A y H4) →
      g (xs i) (wipe σ vs) H' fun σ2 H2 => wipe σ2 vs = wipe σ vs ∧ te σ2 H2 A)
    (hz : n ≤ 40000)
    (fin : ∀ (D : Addr) (ys : List V) (l : List α) (H' : Hp), H D = none → ExM h H H' → Hand K Z H' h R → H' D = some (.lst ys) → l.length = n → (∀ Z1, Ex Z Z1 → (∀ b o, H b = none → b ≠ D → H' b = some o → Z1 b = some o) → Paired (fun y x => Rel x y Z1) ys l) → Q (.ref D) H') : LcJ g tYes te vs σ J H Q := by
  intro D hD
  have nD : D ≠ h := hand_ne0 hD hh
  have nZ : Z D = none := Ex.back hh.z hD
  obtain ⟨oh, hoh⟩ := hh.at
  refine ⟨fun i m H' => m = n - i ∧ i ≤ n ∧ ExM h H H' ∧ Hand K Z H' h (R + c * (n - i)) ∧ ∃ (ys : List V) (l : List α), H' D = some (.lst ys) ∧ l.length = i ∧ ys.length = i ∧ (∀ Z1, Ex Z Z1 → (∀ b o, H b = none → b ≠ D → H' b = some o → Z1 b = some o) → Paired (fun y x => Rel x y Z1) ys l), ⟨n, by omega, by omega, (Ex.new hD).toM, (hh.ex (Ex.new hD)).mono (by simpa using hC), [], [], upd_same, rfl, rfl, fun _ _ _ => .nil⟩, ?_⟩
  rintro i m H' ⟨rfl, hi, e, hh', ys, l, hns, hln, hly, hpr⟩
  by_cases hlt : i < n
  · refine .inr ⟨hgo i H' hlt e, fun H'' => i + 1 ≤ n ∧ ExM h H H'' ∧ Hand K Z H'' h (R + c * (n - (i + 1))) ∧ ∃ (ys : List V) (l : List α), H'' D = some (.lst ys) ∧ l.length = i + 1 ∧ ys.length = i + 1 ∧ (∀ Z1, Ex Z Z1 → (∀ b o, H b = none → b ≠ D → H'' b = some o → Z1 b = some o) → Paired (fun y x => Rel x y Z1) ys l), fun H'' q => ⟨n - (i + 1), by omega, rfl, q⟩, fun v H2 y => ?_⟩
    obtain ⟨rfl, rfl⟩ := hy i v H' H2 hlt e y
    rw [lc_yes]
    have ec : R + c * (n - i) = R + c * (n - (i + 1)) + c := by
      rw [show n - i = (n - (i + 1)) + 1 by omega, Nat.mul_succ]
      omega
    rw [ec] at hh'
    refine turn i hlt D H2 _ e hD ⟨_, hns⟩ hh' _ fun x y H4 m4 hh4 hr => ?_
    have m5 : ExM h H (upd H4 D (.lst (ys ++ [y]))) := fun b o nb q => by
      rw [upd_ne (ne_of_none q hD)]
      exact (e.trans m4) b o nb q
    refine ⟨_, m4 _ _ nD hns, sz_lt (by omega), by omega, m5, hh4.exm ExM.upd (Ne.symm nD) nZ, ys ++ [y], l ++ [x], upd_same, by rw [List.length_append, hln]; rfl, by rw [List.length_append, hly]; rfl, fun Z1 ez hz1 => ?_⟩
    refine paired_snoc (hpr Z1 ez fun b o q1 q2 q3 => hz1 b o q1 q2 ?_) (hr Z1 ez fun b o q1 q2 => hz1 b o ?_ ?_ ?_)
    · have nb : b ≠ h := fun z => by rw [z, hoh] at q1; cases q1
      rw [upd_ne q2]
      exact m4 _ _ nb q3
    · cases q : H b with
      | none => rfl
      | some o' =>
        by_cases nb : b = h
        · subst nb
          obtain ⟨o2, ho2⟩ := hh'.at
          rw [q1] at ho2
          cases ho2
        · rw [e _ _ nb q] at q1
          cases q1
    · intro z
      rw [z, hns] at q1
      cases q1
    · rw [upd_ne (fun z => by rw [z, hns] at q1; cases q1)]
      exact q2
  · have ei : i = n := by omega
    subst ei
    exact .inl ⟨hst H' e, fin D ys l H' hD e (hh'.mono (by omega)) hns hln hpr⟩
theorem u_lcR1HR {α : Type} (Rel : α → V → Hp → Prop) {n : Int} {Z : Hp} {h : Addr} {C : Nat} (R c : Nat) (hh : Hand K Z H h C) (hC : R + c * n.toNat ≤ C) (hz : 0 ≤ n ∧ n ≤ 40000)
    (turn : ∀ i : Nat, (i : Int) < n → ∀ D H' R', ExM h H H' → H D = none → (∃ o, H' D = some o) → Hand K Z H' h (R' + c) → ∀ A : VK, (∀ x y H4, ExM h H' H4 → Hand K Z H4 h R' → (∀ Z1, Ex Z Z1 → (∀ b o, H' b = none → H4 b = some o → Z1 b = some o) → Rel x y Z1) → A y H4) →
      g (.int (i : Int)) (wipe σ vs) H' fun σ2 H2 => wipe σ2 vs = wipe σ vs ∧ te σ2 H2 A)
    (fin : ∀ (D : Addr) (ys : List V) (l : List α) (H' : Hp), H D = none → ExM h H H' → Hand K Z H' h R → H' D = some (.lst ys) → l.length = n.toNat → (∀ Z1, Ex Z Z1 → (∀ b o, H b = none → b ≠ D → H' b = some o → Z1 b = some o) → Paired (fun y x => Rel x y Z1) ys l) → Q (.ref D) H') : LcR1 g tYes te vs σ [.int n] H Q := by
  have e62 : (2 : Int) ^ 62 = 4611686018427387904 := by decide
  refine ⟨n, rfl, by omega, by omega, lc_handR Rel (n := n.toNat) (c := c) (R := R) (fun i => .int (i : Int)) hh hC (fun i H' hi e => hi) (fun H' e => Nat.le_refl _) (fun i v H0 H' hi e y => ?_) (fun i hi D H' R' e hD hh' A k => turn i (by omega) D H' R' e hD hh' A k) (by omega) fin⟩
  obtain ⟨rfl, rfl⟩ := y
  exact ⟨rfl, by rw [Int.zero_add]⟩
end
end TR

/-! data that stands in plain lists and tuples: all its lists are tracked -/
namespace TR
open PySem L2
mutual
inductive Dt (H : Hp) : V → PyData → Prop
  | non : Dt H .non .none
  | bl (b : Bool) : Dt H (.bl b) (.bool b)
  | int (i : Int) : Dt H (.int i) (.int i)
  | str (x : Str) : Dt H (.str x) (.str x)
  | lst {a : Addr} {vs : List V} {ds : List PyData} : H a = some (.lst vs) → DtAll H vs ds → Dt H (.ref a) (.list ds)
  | tup {a : Addr} {vs : List V} {ds : List PyData} : H a = some (.tup vs) → DtAll H vs ds → Dt H (.ref a) (.tuple ds)
inductive DtAll (H : Hp) : List V → List PyData → Prop
  | nil : DtAll H [] []
  | cons {v : V} {vs : List V} {d : PyData} {ds : List PyData} : Dt H v d → DtAll H vs ds → DtAll H (v :: vs) (d :: ds)
end
mutual
theorem Dt.ex {H H' : Hp} (e : Ex H H') : ∀ {v : V} {d : PyData}, Dt H v d → Dt H' v d
  | _, _, .non => .non
  | _, _, .bl b => .bl b
  | _, _, .int i => .int i
  | _, _, .str x => .str x
  | _, _, .lst s a => .lst (e _ _ s) (DtAll.ex e a)
  | _, _, .tup s a => .tup (e _ _ s) (DtAll.ex e a)
theorem DtAll.ex {H H' : Hp} (e : Ex H H') : ∀ {vs : List V} {ds : List PyData}, DtAll H vs ds → DtAll H' vs ds
  | _, _, .nil => .nil
  | _, _, .cons a r => .cons (Dt.ex e a) (DtAll.ex e r)
end
mutual
theorem Dt.dp {K : PySem.W.Frag} {H : Hp} : ∀ {v : V} {d : PyData}, Dt H v d → Dp K H v d
  | _, _, .non => .non
  | _, _, .bl b => .bl b
  | _, _, .int i => .int i
  | _, _, .str x => .str x
  | _, _, .lst s a => .lst (sq_of s) (DtAll.dp a)
  | _, _, .tup s a => .tup (st_of s) (DtAll.dp a)
theorem DtAll.dp {K : PySem.W.Frag} {H : Hp} : ∀ {vs : List V} {ds : List PyData}, DtAll H vs ds → DpAll K H vs ds
  | _, _, .nil => .nil
  | _, _, .cons a r => .cons (Dt.dp a) (DtAll.dp r)
end
/-- the value v stands in H as the thing x -/
noncomputable abbrev Ik (H : Hp) {α : Type} [Py α] (v : V) (x : α) : Prop := Dt H v (Py.d x)
section
variable {K : PySem.W.Frag} {H H' : Hp} {α β γ δ : Type} [Py α] [Py β] [Py γ] [Py δ] {v w u t : V} {x : α} {y : β} {z : γ} {r : δ} {a : Addr}
theorem Ik.is (h : Ik H v x) : Is K H v x := Dt.dp h
theorem Ik.ex (e : Ex H H') (h : Ik H v x) : Ik H' v x := Dt.ex e h
theorem Ik.int (i : Int) : Ik H (.int i) i := Dt.int i
theorem Ik.nil (h : H a = some (.lst [])) : Ik H (.ref a) ([] : List α) := .lst h .nil
theorem Ik.pair (h : H a = some (.tup [v, w])) (h1 : Ik H v x) (h2 : Ik H w y) : Ik H (.ref a) (x, y) := .tup h (.cons h1 (.cons h2 .nil))
theorem Ik.three (h : H a = some (.tup [v, w, u])) (h1 : Ik H v x) (h2 : Ik H w y) (h3 : Ik H u z) : Ik H (.ref a) (T3.mk x y z) := .tup h (.cons h1 (.cons h2 (.cons h3 .nil)))
theorem Ik.tx (x : Tx) : Ik H (.str x.1) x := Dt.str x.1
theorem Ik.list {xs : List α} (h : Ik H v xs) : ∃ a vs, v = .ref a ∧ H a = some (.lst vs) ∧ Paired (fun v x => Ik H v x) vs xs := by
  have go : ∀ (vs : List V) (ys : List α), DtAll H vs (ys.map Py.d) → Paired (fun v x => Ik H v x) vs ys := by
    intro vs ys
    induction ys generalizing vs with
    | nil => intro h; cases h; exact .nil
    | cons y ys ih =>
      intro h
      cases h with
      | cons h1 h2 => exact .cons h1 (ih _ h2)
  have h' : Dt H v (.list (xs.map Py.d)) := h
  cases h' with
  | lst s a => exact ⟨_, _, rfl, s, go _ _ a⟩
theorem Ik.of_list {vs : List V} {xs : List α} (s : H a = some (.lst vs)) (h : Paired (fun v x => Ik H v x) vs xs) : Ik H (.ref a) xs := by
  have go : ∀ {vs : List V} {ys : List α}, Paired (fun v x => Ik H v x) vs ys → DtAll H vs (ys.map Py.d) := by
    intro vs ys h
    induction h with
    | nil => exact .nil
    | cons h1 _ ih => exact .cons h1 ih
  exact .lst s (go h)
theorem pair_intsK : ∀ {vs : List V} {xs : List Int}, Paired (fun v x => Ik H v x) vs xs → vs = xs.map V.int
  | _, _, .nil => rfl
  | _, _, .cons (a := v) (b := i) h r => by
    have h' : Dt H v (.int i) := h
    cases h'
    rw [pair_intsK r]
    rfl
theorem ints_pairK : ∀ {xs : List Int}, Paired (fun v x => Ik H v x) (xs.map V.int) xs
  | [] => .nil
  | _ :: _ => .cons (Ik.int _) ints_pairK
theorem Ik.pair_of {p : α × β} (h : Ik H v p) : ∃ a x y, v = .ref a ∧ H a = some (.tup [x, y]) ∧ Ik H x p.1 ∧ Ik H y p.2 := by
  have h' : Dt H v (.tuple [Py.d p.1, Py.d p.2]) := h
  cases h' with
  | tup s a =>
    cases a with
    | cons h1 r => cases r with
      | cons h2 r2 => cases r2; exact ⟨_, _, _, rfl, s, h1, h2⟩
theorem Ik.three_of {t : T3 α β γ} (h : Ik H v t) : ∃ a x y z, v = .ref a ∧ H a = some (.tup [x, y, z]) ∧ Ik H x t.a ∧ Ik H y t.b ∧ Ik H z t.c := by
  have h' : Dt H v (.tuple [Py.d t.a, Py.d t.b, Py.d t.c]) := h
  cases h' with
  | tup s a =>
    cases a with
    | cons h1 r => cases r with
      | cons h2 r => cases r with
        | cons h3 r => cases r; exact ⟨_, _, _, _, rfl, s, h1, h2, h3⟩
theorem Ik.int_of {i : Int} (h : Ik H v i) : v = .int i := by
  have h' : Dt H v (.int i) := h
  cases h'
  rfl
theorem Ik.str_of {x : Tx} (h : Ik H v x) : v = .str x.1 := by
  have h' : Dt H v (.str x.1) := h
  cases h'
  rfl
theorem Ik.ent_of {e : Ent} (h : Ik H v e) : ∃ a, v = .ref a ∧ H a = some (.tup [.int e.1, .str e.2.1]) := by
  obtain ⟨a, x, y, h1, h2, h3, h4⟩ := h.pair_of
  rw [h3.int_of, h4.str_of] at h2
  exact ⟨a, h1, h2⟩
theorem Ik.ref_of {xs : List α} (h : Ik H v xs) : ∃ b, v = .ref b ∧ Ik H (.ref b) xs := by
  obtain ⟨b, vs, e, h6, h7⟩ := h.list
  exact ⟨b, e, e ▸ h⟩
theorem Ik.yard_of {y : Yard} (h : Ik H v y) : ∃ a b, v = .ref a ∧ H a = some (.tup [.int y.a, .int y.b, .ref b]) ∧ Ik H (.ref b) y.c := by
  obtain ⟨a, x1, x2, x3, h1, h2, h3, h4, h5⟩ := h.three_of
  obtain ⟨b, e, h6⟩ := h5.ref_of
  rw [h3.int_of, h4.int_of, e] at h2
  exact ⟨a, b, h1, h2, h6⟩
theorem itemK {vs : List V} {l : List α} (p : Paired (fun v x => Ik H v x) vs l) {i : Nat} {v : V} (h : vs[i]? = some v) : ∃ x, l[i]? = some x ∧ Ik H v x := pair_get' p h
end
section
variable {K : PySem.W.Frag} {Z H : Hp} {α β : Type} [Py α] [Py β] {v : V} {σ : L2.St} {R : L2.St → Hp → Prop} {Q : VK}
end
end TR

/-! T: from (Z, H) to (Z', H'). Z is what stays for ever; only M's things are changed -/
namespace TR
open PySem L2
structure T (M : List Addr) (Z H Z' H' : Hp) : Prop where
  z : Ex Z Z'
  zh : Ex Z' H'
  m : ∀ b o, b ∉ M → H b = some o → H' b = some o
  al : ∀ b o, H b = some o → ∃ o', H' b = some o'
  fr : ∀ b, b ∉ M → Z b = none → (∃ o, H b = some o) → Z' b = none
/-- p stands in H and may be changed -/
structure Mu (Z H : Hp) (p : Addr) : Prop where
  z : Z p = none
  a : ∃ o, H p = some o
/-- a list that stands in H, its things in Z -/
noncomputable def Li (Z H : Hp) (p : Addr) {α : Type} [Py α] (l : List α) : Prop := ∃ vs, H p = some (.lst vs) ∧ Paired (fun v x => Ik Z v x) vs l
/-- .. and that stays as it is -/
noncomputable def Ls (Z : Hp) (p : Addr) {α : Type} [Py α] (l : List α) : Prop := Li Z Z p l
/-- a list that is filled: it stands at D, its things in Z -/
structure Lm (Z H : Hp) (D : Addr) {α : Type} [Py α] (l : List α) : Prop where
  ex : ∃ vs, H D = some (.lst vs) ∧ Paired (fun v x => Ik Z v x) vs l
  zd : Z D = none
  zh : Ex Z H
theorem nm_nil {b : Addr} : b ∉ ([] : List Addr) := List.not_mem_nil
theorem nm_cons {b x : Addr} {M : List Addr} (h : b ≠ x) (t : b ∉ M) : b ∉ x :: M := fun z => by
  rcases List.mem_cons.mp z with z | z
  · exact h z
  · exact t z
theorem mm_nil {N : List Addr} {H : Hp} : ∀ x ∈ ([] : List Addr), x ∈ N ∨ H x = none := fun _ h => absurd h List.not_mem_nil
theorem mm_cons {N M : List Addr} {H : Hp} {y : Addr} (h : y ∈ N ∨ H y = none) (t : ∀ x ∈ M, x ∈ N ∨ H x = none) : ∀ x ∈ y :: M, x ∈ N ∨ H x = none := fun x hx => by
  rcases List.mem_cons.mp hx with e | hx
  · rw [e]; exact h
  · exact t x hx
theorem mm_same {N : List Addr} {H : Hp} : ∀ x ∈ N, x ∈ N ∨ H x = none := fun _ h => .inl h
section
variable {K : PySem.W.Frag} {M N : List Addr} {Z H Z1 H1 Z2 H2 Z' H' Z0 H0 : Hp} {p b h D : Addr} {o : HO} {v : V} {α : Type} {iα : Py α} {x : α} {l : List α} {n : Nat}
theorem T.refl (e : Ex Z H) : T M Z H Z H := ⟨Ex.refl _, e, fun _ _ _ h => h, fun _ o h => ⟨o, h⟩, fun _ _ h _ => h⟩
theorem T.step (a : T N Z H Z1 H1) (b : T M Z1 H1 Z2 H2) (h : ∀ x ∈ M, x ∈ N ∨ H x = none) : T N Z H Z2 H2 := by
  have nm : ∀ x, x ∉ N → (∃ o, H x = some o) → x ∉ M := fun x nx ⟨o, ho⟩ hx => by
    rcases h x hx with g | g
    · exact nx g
    · rw [ho] at g; cases g
  refine ⟨a.z.trans b.z, b.zh, fun c o nc hc => b.m c o (nm c nc ⟨o, hc⟩) (a.m c o nc hc), fun c o hc => ?_, fun c nc zc ⟨o, hc⟩ => ?_⟩
  · obtain ⟨o', ho'⟩ := a.al c o hc
    exact b.al c o' ho'
  · obtain ⟨o', ho'⟩ := a.al c o hc
    exact b.fr c (nm c nc ⟨o, hc⟩) (a.fr c nc zc ⟨o, hc⟩) ⟨o', ho'⟩
theorem T.nn (t : T M Z H Z' H') (n : H' b = none) : H b = none := by
  cases c : H b with
  | none => rfl
  | some o =>
    obtain ⟨o', ho'⟩ := t.al b o c
    rw [n] at ho'
    cases ho'
/-- all that stood stands: b is new -/
noncomputable def AC (H H' : Hp) : Prop := ∀ b, H' b = none → H b = none
theorem Ik.tt (t : T M Z H Z' H') (h : Ik Z v x) : Ik Z' v x := Ik.ex t.z h
theorem T.sqz {xs : List V} (t : T M Z H Z' H') (h : SqL K Z p xs) : SqL K Z' p xs := t.z.sq h
theorem T.pz (t : T M Z H Z' H') (h : Z p = some o) : Z' p = some o := t.z _ _ h
theorem T.hp (t : T M Z H Z' H') (n : p ∉ M) (h : H p = some o) : H' p = some o := t.m _ _ n h
theorem T.all (t : T M Z H Z' H') (h : ∃ o, H p = some o) : ∃ o, H' p = some o := by
  obtain ⟨o, ho⟩ := h
  exact t.al _ _ ho
theorem T.mu (t : T M Z H Z' H') (n : p ∉ M) (a : Mu Z H p) : Mu Z' H' p := ⟨t.fr _ n a.z a.a, t.all a.a⟩
theorem Hand.tt (t : T M Z H Z' H') (nm : h ∉ M) (a : Hand K Z H h n) : Hand K Z' H' h n := by
  obtain ⟨d, k, c, cells, h1, h3, h4, h5, z1, z2, z3⟩ := a
  exact ⟨d, k, c, cells, t.m _ _ nm h1, h3, h4, h5, t.zh, t.fr _ nm z2 ⟨_, h1⟩, t.z.sq z3⟩
theorem Lm.at_ (a : Lm Z H D l) : ∃ o, H D = some o := by
  obtain ⟨⟨vs, h1, h2⟩, h3, h4⟩ := a
  exact ⟨_, h1⟩
theorem Lm.mu (a : Lm Z H D l) : Mu Z H D := ⟨a.zd, a.at_⟩
theorem Lm.tt (t : T M Z H Z' H') (nm : D ∉ M) (a : Lm Z H D l) : Lm Z' H' D l := by
  have hd := a.zd
  have ha := a.at_
  obtain ⟨⟨vs, h1, h2⟩, h3, h4⟩ := a
  exact ⟨⟨vs, t.m _ _ nm h1, Paired.mapP h2 fun v x h => Ik.ex t.z h⟩, t.fr _ nm hd ha, t.zh⟩
theorem Ls.tt (t : T M Z H Z' H') (a : Ls Z p l) : Ls Z' p l := by
  obtain ⟨vs, h1, h2⟩ := a
  exact ⟨vs, t.z _ _ h1, Paired.mapP h2 fun v x h => Ik.ex t.z h⟩
theorem Ls.is (a : Ls Z p l) : Ik Z (.ref p) l := by
  obtain ⟨vs, h1, h2⟩ := a
  exact Ik.of_list h1 h2
theorem Ls.ints {l : List Int} (a : Ls Z p l) : Z p = some (.lst (l.map V.int)) := by
  obtain ⟨vs, h1, h2⟩ := a
  rw [h1, pair_intsK h2]
theorem Ik.li {l : List α} (a : Ik Z (.ref p) l) : Ls Z p l := by
  obtain ⟨b, vs, e, h, pr⟩ := a.list
  cases e
  exact ⟨vs, h, pr⟩
theorem Ls.ofInts {l : List Int} (h : Z p = some (.lst (l.map V.int))) : Ls Z p l := ⟨_, h, ints_pairK⟩
theorem Ik.l1 {w : V} (h : Z p = some (.lst [w])) (i : Ik Z w x) : Ik Z (.ref p) [x] := Ik.of_list h (.cons i .nil)
/-! ways in: from the old words -/
theorem T.ofExM (m : ExM h H H') (a : ∃ o, H' h = some o) (z : Ex Z H) (zn : Z h = none) : T [h] Z H Z H' :=
  ⟨Ex.refl _, z.exm zn m, fun _ o n e => m _ o (fun z => n (by rw [z]; exact List.mem_cons_self)) e, fun b o e => by
    by_cases c : b = h
    · rw [c]; exact a
    · exact ⟨o, m _ _ c e⟩, fun _ _ h _ => h⟩
theorem upd_ex2 (z : Ex Z H) : Ex (upd Z p o) (upd H p o) := fun b u e => by
  by_cases c : b = p
  · rw [c, upd_same] at e ⊢
    exact e
  · rw [upd_ne c] at e ⊢
    exact z _ _ e
/-- a new thing that stays as it is -/
theorem T.new (n : H p = none) (z : Ex Z H) : T M Z H (upd Z p o) (upd H p o) :=
  ⟨Ex.new (Ex.back z n), upd_ex2 z, fun b u _ e => by rw [upd_ne (ne_of_none e n)]; exact e, fun b u e => ⟨u, by rw [upd_ne (ne_of_none e n)]; exact e⟩, fun b _ zb ⟨u, e⟩ => by rw [upd_ne (ne_of_none e n)]; exact zb⟩
/-- a new thing that may be changed -/
theorem T.newM (n : H p = none) (z : Ex Z H) : T M Z H Z (upd H p o) :=
  ⟨Ex.refl _, z.trans (Ex.new n), fun b u _ e => by rw [upd_ne (ne_of_none e n)]; exact e, fun b u e => ⟨u, by rw [upd_ne (ne_of_none e n)]; exact e⟩, fun b _ zb _ => zb⟩
/-- a thing is changed -/
theorem T.set (a : Mu Z H p) (z : Ex Z H) : T [p] Z H Z (upd H p o) :=
  ⟨Ex.refl _, fun b u e => by rw [upd_ne (ne_of_none e a.z)]; exact z _ _ e, fun b u nb e => by rw [upd_ne (fun c => nb (by rw [c]; exact List.mem_cons_self))]; exact e, fun b u e => by
    by_cases c : b = p
    · exact ⟨_, by rw [c]; exact upd_same⟩
    · exact ⟨u, by rw [upd_ne c]; exact e⟩, fun b _ zb _ => zb⟩
/-- a thing is to stay as it is from now on -/
theorem T.fz (z : Ex Z H) (zp : Z p = none) (hp : H p = some o) : T [p] Z H (upd Z p o) H :=
  ⟨Ex.new zp, fun b u e => by
    by_cases c : b = p
    · rw [c, upd_same] at e
      cases e
      rw [c]; exact hp
    · rw [upd_ne c] at e
      exact z _ _ e, fun _ _ _ h => h, fun _ o h => ⟨o, h⟩, fun b nb zb _ => by rw [upd_ne (fun c => nb (by rw [c]; exact List.mem_cons_self))]; exact zb⟩
/-- .. of old words: all that is new stays as it is -/
noncomputable def grow (Z H H' : Hp) : Hp := fun b => match Z b with | some o => some o | none => match H b with | some _ => none | none => H' b
end
/-! ### new things: what is asked next -/
section
variable {K : PySem.W.Frag} {M : List Addr} {Z H : Hp} {Q : VK} {R : Hp → Prop} {p D a b : Addr} {v w : V} {α : Type} {iα : Py α} {x : α} {l r : List α} {xs : List V}
/-- an empty list that will be changed -/
theorem t_lst0 (z : Ex Z H) (q : ∀ p Z' H', H p = none → T [] Z H Z' H' → Mu Z' H' p → H' p = some (.lst []) → Q (.ref p) H') : NewL [] H Q :=
  ⟨sz_of (Nat.zero_le _), fun p hp => q p Z _ hp (T.newM hp z) ⟨Ex.back z hp, _, upd_same⟩ upd_same⟩
theorem t_lst (z : Ex Z H) (h : xs.length ≤ 100000) (q : ∀ p Z' H', H p = none → T [] Z H Z' H' → Z' p = some (.lst xs) → Q (.ref p) H') : NewL xs H Q :=
  ⟨sz_of h, fun p hp => q p _ _ hp (T.new hp z) upd_same⟩
theorem t_tup (z : Ex Z H) (h : xs.length ≤ 100000) (q : ∀ p Z' H', H p = none → T [] Z H Z' H' → Z' p = some (.tup xs) → Q (.ref p) H') : NewT xs H Q :=
  ⟨sz_of h, fun p hp => q p _ _ hp (T.new hp z) upd_same⟩
/-- the empty list that will be changed, as data -/
theorem Lm.of0 (m : Mu Z H p) (z : Ex Z H) (f : H p = some (.lst [])) : Lm Z H p ([] : List α) := ⟨⟨[], f, .nil⟩, m.z, z⟩
theorem t_app (a : Lm Z H D l) (i : Ik Z v x) (hz : l.length < 100000) (q : ∀ Z' H', T [D] Z H Z' H' → Lm Z' H' D (l ++ [x]) → Q .non H') : rAppend (.ref D) [v] H Q := by
  have mu := a.mu
  obtain ⟨⟨vs, h1, h2⟩, h3, h4⟩ := a
  have t : T [D] Z H Z (upd H D (.lst (vs ++ [v]))) := T.set mu h4
  exact ⟨D, vs, v, rfl, rfl, h1, sz_lt (by rw [Paired.length h2]; exact hz), q Z _ t ⟨⟨_, upd_same, Paired.snoc h2 i⟩, h3, t.zh⟩⟩
theorem t_tyLA {l : List α} {P : Prop} (a : Lm Z H D l) (q : P) : tyV K "list" (.ref D) H ∧ P := by
  obtain ⟨⟨vs, h1, h2⟩, h3, h4⟩ := a
  exact s_tyL (sq_of h1) q
/-- a list that was filled stays as it is from now on -/
theorem t_fz {G : Hp → Prop} (a : Lm Z H D l) (q : ∀ Z' H', T [D] Z H Z' H' → Ls Z' D l → G H') : G H := by
  obtain ⟨⟨vs, h1, h2⟩, h3, h4⟩ := a
  have t : T [D] Z H (upd Z D (.lst vs)) H := T.fz h4 h3 h1
  exact q _ _ t ⟨vs, upd_same, Paired.mapP h2 fun v x g => Ik.ex t.z g⟩
theorem t_fzV {G : Hp → Prop} (m : Mu Z H D) (z : Ex Z H) {o : HO} (f : H D = some o) (q : ∀ Z' H', T [D] Z H Z' H' → Z' D = some o → G H') : G H :=
  q _ _ (T.fz z m.z f) upd_same
theorem t_slL {lo hi : Option Int} (z : Ex Z H) (h : SqL K H a xs) (q : ∀ p Z' H', H p = none → T [] Z H Z' H' → Z' p = some (.lst (cutV xs lo hi)) → Q (.ref p) H') : rSlL K (.ref a) lo hi H Q :=
  ⟨a, xs, rfl, h, fun p hp => q p _ _ hp (T.new hp z) upd_same⟩
/-! what is read -/
end
/-! ### draws -/
noncomputable def spDraw (K : PySem.W.Frag) : Sp := fun vs H Q _ => ∃ (h : Addr) (m : Int) (n : Nat) (Z : Hp), vs = [.ref h, .int m] ∧ Hand K Z H h (n + 1) ∧ 0 < m ∧ m ≤ 4611686018427387904 ∧
  ∀ (r : Int) H', 0 ≤ r → r < m → ExM h H H' → Hand K Z H' h n → Q (.int r) H'
section
variable {K : PySem.W.Frag} {Z H : Hp} {h : Addr} {m : Int} {N : Nat} {Q : VK} {E : XK}
theorem Hand.t {H' : Hp} {n n' : Nat} (hh : Hand K Z H h n) (m : ExM h H H') (hh' : Hand K Z H' h n') : T [h] Z H Z H' := T.ofExM m hh'.at hh.z hh.zn
theorem drawT (hh : Hand K Z H h N) (hN : 1 ≤ N) (m0 : 0 < m) (m1 : m ≤ 4611686018427387904) (q : ∀ (r : Int) Z' H', 0 ≤ r → r < m → T [h] Z H Z' H' → Hand K Z' H' h (N - 1) → Q (.int r) H') : spDraw K [.ref h, .int m] H Q E :=
  ⟨h, m, N - 1, Z, rfl, hh.mono (by omega), m0, m1, fun r H' r0 r1 e hh' => q r Z H' r0 r1 (hh.t e hh') hh'⟩
noncomputable def spFar (K : PySem.W.Frag) : Sp := fun vs H Q _ => ∃ (h : Addr) (m : Int) (n : Nat) (Z : Hp), vs = [.ref h, .int m] ∧ Hand K Z H h (n + 7) ∧ 0 < m ∧ m ≤ 4611686018427387904 ∧
  ∀ (r : Int) H', 0 ≤ r → r < m → ExM h H H' → Hand K Z H' h n → Q (.int r) H'
noncomputable def spKey (K : PySem.W.Frag) : Sp := fun vs H Q _ => ∃ (h : Addr) (n : Nat) (Z : Hp), vs = [.ref h] ∧ Hand K Z H h (n + 12) ∧
  ∀ (r : Int) H', 0 ≤ r → r < 1152921504606846976 → ExM h H H' → Hand K Z H' h n → Q (.int r) H'
theorem keyT (hh : Hand K Z H h N) (hN : 12 ≤ N) (q : ∀ (r : Int) Z' H', 0 ≤ r → r < 1152921504606846976 → T [h] Z H Z' H' → Hand K Z' H' h (N - 12) → Q (.int r) H') : spKey K [.ref h] H Q E :=
  ⟨h, N - 12, Z, rfl, hh.mono (by omega), fun r H' r0 r1 e hh' => q r Z H' r0 r1 (hh.t e hh') hh'⟩
noncomputable def lettersS : Str := "abcdefghijklmnopqrstuvwxyz"
/-- a text of one to eight small letters -/
noncomputable def nameB (x : Str) : Bool := decide (1 ≤ x.length ∧ x.length ≤ 8) && x.cps.toList.all fun c => decide (c ∈ lettersS.cps.toList)
noncomputable def spThing (K : PySem.W.Frag) : Sp := fun vs H Q _ => ∃ (h : Addr) (n : Nat) (Z : Hp), vs = [.ref h] ∧ Hand K Z H h (n + 10) ∧
  ∀ (x : Tx) H', nameB x.1 = true → ExM h H H' → Hand K Z H' h n → Q (.str x.1) H'
theorem thingN {K : PySem.W.Frag} {Z H : Hp} {h : Addr} {N : Nat} {Q : VK} {E : XK} (hh : Hand K Z H h N) (hN : 10 ≤ N) (q : ∀ (x : Tx) Z' H', nameB x.1 = true → T [h] Z H Z' H' → Hand K Z' H' h (N - 10) → Q (.str x.1) H') : spThing K [.ref h] H Q E :=
  ⟨h, N - 10, Z, rfl, hh.mono (by omega), fun x H' nb e hh' => q x Z H' nb (T.ofExM e hh'.at hh.z hh.zn) hh'⟩
theorem thingT (hh : Hand K Z H h N) (hN : 10 ≤ N) (q : ∀ (x : Tx) Z' H', T [h] Z H Z' H' → Hand K Z' H' h (N - 10) → Q (.str x.1) H') : spThing K [.ref h] H Q E :=
  ⟨h, N - 10, Z, rfl, hh.mono (by omega), fun x H' _ e hh' => q x Z H' (hh.t e hh') hh'⟩
noncomputable def spOpen (K : PySem.W.Frag) : Sp := fun vs H Q _ => ∃ (a : Addr) (ns : List Int) (x : Int), vs = [.ref a, .int x] ∧ SqL K H a (ns.map V.int) ∧ 0 ≤ x ∧ x ≤ 1000 ∧
  ∀ (h c : Addr) (d : Int) (cells : List Int) H', H h = none → H c = none → h ≠ c → Ex H H' → H' h = some (.lst [.int d, .int (1 + 1009 * x), .ref c]) → H' c = some (.lst (cells.map V.int)) → 0 < cells.length → Q (.ref h) H'
theorem openT {a : Addr} {ns : List Int} {x : Int} (z : Ex Z H) (s : SqL K H a (ns.map V.int)) (x0 : 0 ≤ x) (x1 : x ≤ 1000) (q : ∀ h Z' H', H h = none → T [] Z H Z' H' → Hand K Z' H' h 900000000000000000 → Q (.ref h) H') : spOpen K [.ref a, .int x] H Q E :=
  ⟨a, ns, x, rfl, s, x0, x1, fun h c d cells H' nh nc ne e fh fc c0 => by
    have zh : Ex (upd Z c (.lst (cells.map V.int))) H' := fun b o eb => by
      by_cases cc : b = c
      · rw [cc, upd_same] at eb
        cases eb
        rw [cc]; exact fc
      · rw [upd_ne cc] at eb
        exact e _ _ (z _ _ eb)
    refine q h _ H' nh ⟨Ex.new (Ex.back z nc), zh, fun _ _ _ h => e _ _ h, fun _ o h => ⟨o, e _ _ h⟩, fun b _ zb ⟨o, ho⟩ => by rw [upd_ne (ne_of_none ho nc)]; exact zb⟩ ⟨d, 1 + 1009 * x, c, cells, fh, c0, by omega, by omega, zh, ?_, sq_of upd_same⟩
    rw [upd_ne ne]
    exact Ex.back z nh⟩
end
end TR
namespace TR
open PySem L2
theorem ne_alF {H : Hp} {a b : Addr} (n : H a = none) (h : ∃ o, H b = some o) : a ≠ b := fun z => by
  obtain ⟨o, ho⟩ := h
  rw [z, ho] at n
  cases n
theorem ne_alB {H : Hp} {a b : Addr} (n : H b = none) (h : ∃ o, H a = some o) : a ≠ b := (ne_alF n h).symm
end TR
namespace TR
open PySem L2
/-! a place of a list, found once -/
noncomputable def IxGo (xs : List V) (i : Int) (H : Hp) (Q : VK) : Prop := ∃ v, atI xs i = some v ∧ Q v H
section
variable {K : PySem.W.Frag} {H : Hp} {Q : VK} {a : Addr} {xs : List V} {i : Int} {v w : V}
theorem ixGo (h : SqL K H a xs) (q : IxGo xs i H Q) : rIx K (.ref a) (.int i) H Q := by
  obtain ⟨v, e, q⟩ := q
  exact s_ixL h e q
theorem ixGoT (h : SqT K H a xs) (q : IxGo xs i H Q) : rIx K (.ref a) (.int i) H Q := by
  obtain ⟨v, e, q⟩ := q
  exact s_ixT h e q
theorem ig_at (e : atI xs i = some v) (q : Q v H) : IxGo xs i H Q := ⟨v, e, q⟩
theorem ig_2b {x y : Int} {b : Bool} (q : ∀ v, (v = x ∨ v = y) → Q (.int v) H) : IxGo [.int x, .int y] (if b = true then 1 else 0) H Q := by
  cases b
  · exact ⟨_, rfl, q _ (.inl rfl)⟩
  · exact ⟨_, rfl, q _ (.inr rfl)⟩
theorem ig_2 {x y : Int} (h0 : 0 ≤ i ∧ i < 2) (q : ∀ v, (i = 0 ∧ v = x ∨ i = 1 ∧ v = y) → Q (.int v) H) : IxGo [.int x, .int y] i H Q := by
  have : i = 0 ∨ i = 1 := by omega
  rcases this with rfl | rfl
  · exact ⟨_, rfl, q _ (.inl ⟨rfl, rfl⟩)⟩
  · exact ⟨_, rfl, q _ (.inr ⟨rfl, rfl⟩)⟩
theorem ig_3 {x y z : Int} (h0 : 0 ≤ i ∧ i < 3) (q : ∀ v, (i = 0 ∧ v = x ∨ i = 1 ∧ v = y ∨ i = 2 ∧ v = z) → Q (.int v) H) : IxGo [.int x, .int y, .int z] i H Q := by
  have : i = 0 ∨ i = 1 ∨ i = 2 := by omega
  rcases this with rfl | rfl | rfl
  · exact ⟨_, rfl, q _ (.inl ⟨rfl, rfl⟩)⟩
  · exact ⟨_, rfl, q _ (.inr (.inl ⟨rfl, rfl⟩))⟩
  · exact ⟨_, rfl, q _ (.inr (.inr ⟨rfl, rfl⟩))⟩
end
end TR
namespace TR
open PySem L2
theorem t_slT {K : PySem.W.Frag} {Z H : Hp} {Q : VK} {a : Addr} {xs : List V} {lo hi : Option Int} (z : Ex Z H) (h : SqT K H a xs) (hn : ¬ (HT.sIx xs.length 0 lo = 0 ∧ HT.sIx xs.length xs.length hi = xs.length)) (q : ∀ p Z' H', H p = none → T [] Z H Z' H' → Z' p = some (.tup (cutV xs lo hi)) → Q (.ref p) H') : rSlT K (.ref a) lo hi H Q :=
  ⟨a, xs, rfl, h, hn, fun p hp => q p _ _ hp (T.new hp z) upd_same⟩
end TR
namespace TR
open PySem L2
theorem Lm.frz {Z H : Hp} {D : Addr} {α : Type} {iα : Py α} {l : List α} (a : Lm Z H D l) : ∃ Z', T [D] Z H Z' H ∧ Ls Z' D l := by
  obtain ⟨⟨vs, h1, h2⟩, h3, h4⟩ := a
  have t : T [D] Z H (upd Z D (.lst vs)) H := T.fz h4 h3 h1
  exact ⟨_, t, vs, upd_same, Paired.mapP h2 fun v x g => Ik.ex t.z g⟩
end TR
namespace TR
open PySem L2
theorem Lm.frq {Z H : Hp} {D : Addr} {α : Type} {iα : Py α} {l : List α} (a : Lm Z H D l) : ∃ Z' H', H' = H ∧ T [D] Z H Z' H' ∧ Ls Z' D l := by
  obtain ⟨Z', t, ls⟩ := a.frz
  exact ⟨Z', H, rfl, t, ls⟩
end TR
namespace TR
open PySem L2
noncomputable def spPlaces (lo : Int) (K : PySem.W.Frag) : Sp := fun vs H Q _ => ∃ (a : Addr) (ns : List Int) (x y : Int), vs = [.ref a, .int x, .int y] ∧ SqL K H a (ns.map V.int) ∧ 0 ≤ x ∧ x ≤ 100 ∧ 0 ≤ y ∧ y ≤ 100 ∧
  ∀ p H', H p = none → Ex H H' → H' p = some (.lst (rgV lo (lo + max x (min (ns.length : Int) y)))) → Q (.ref p) H'
end TR
namespace TR
open PySem L2
theorem at_list {K : PySem.W.Frag} {xs : List V} {H : Hp} {Q : VK} (q : rList1 K xs H Q) : rList1 K xs H Q := q
end TR
namespace TR
open PySem L2
theorem at_newl {xs : List V} {H : Hp} {Q : VK} (q : NewL xs H Q) : NewL xs H Q := q
end TR

/-! comprehensions and loops by T -/
namespace TR
open PySem L2
section
variable {K : PySem.W.Frag} {σ : L2.St} {H : Hp} {tt : TT} {te : TE} {Q : VK} {g : TG} {vs : List Nat}
theorem lcT {β : Type} {J : It} {n : Nat} {M : List Addr} {Z : Hp} (p : Nat → Bool) (I : Nat → Hp → Hp → Prop) (R : Nat → β → V → Hp → Prop)
    (mono : ∀ i x y Z1 Z2, Ex Z1 Z2 → R i x y Z1 → R i x y Z2)
    (stab : ∀ i Z1 H1 D o, I i Z1 H1 → H D = none → Z1 D = none → I i Z1 (upd H1 D o))
    (hz : n ≤ 40000) (zh : Ex Z H) (hM : ∀ b ∈ M, ∃ o, H b = some o) (h0 : I 0 Z H)
    (hgo : ∀ i Z1 H1, i < n → T M Z H Z1 H1 → J.go i H1) (hst : ∀ Z1 H1, T M Z H Z1 H1 → J.stop n H1)
    (turn : ∀ i, i < n → ∀ D Z1 H1, T M Z H Z1 H1 → H D = none → Mu Z1 H1 D → I i Z1 H1 → ∀ v H2, J.yld i H1 v H2 → ∀ (A : VK) (B : Hp → Prop),
      (p i = true → ∀ x y Z3 H3, T M Z1 H1 Z3 H3 → I (i + 1) Z3 H3 → R i x y Z3 → A y H3) → (p i = false → ∀ Z3 H3, T M Z1 H1 Z3 H3 → I (i + 1) Z3 H3 → B H3) →
      g v (wipe σ vs) H2 fun σ2 H2 => wipe σ2 vs = wipe σ vs ∧ tt σ2 H2 fun b H3 => if b = true then te σ2 H3 A else B H3)
    (fin : ∀ D ys (L : List (Nat × β)) Z' H', H D = none → T M Z H Z' H' → Mu Z' H' D → H' D = some (.lst ys) → I n Z' H' → L.map Prod.fst = (List.range n).filter p → Paired (fun y q => R q.1 q.2 y Z') ys L → Q (.ref D) H') : LcJ g tt te vs σ J H Q := by
  intro D hD
  have nD : D ∉ M := fun z => by
    obtain ⟨o, ho⟩ := hM D z
    rw [hD] at ho
    cases ho
  refine ⟨fun i m H' => m = n - i ∧ i ≤ n ∧ ∃ Z', T M Z H Z' H' ∧ Mu Z' H' D ∧ I i Z' H' ∧ ∃ (ys : List V) (L : List (Nat × β)), H' D = some (.lst ys) ∧ ys.length ≤ i ∧ L.map Prod.fst = (List.range i).filter p ∧ Paired (fun y q => R q.1 q.2 y Z') ys L,
    ⟨n, by omega, by omega, Z, T.newM hD zh, ⟨Ex.back zh hD, _, upd_same⟩, stab _ _ _ _ _ h0 hD (Ex.back zh hD), [], [], upd_same, Nat.le_refl _, rfl, .nil⟩, ?_⟩
  rintro i m H' ⟨rfl, hi, Z', t, mu, hI, ys, L, hys, hly, hL, pr⟩
  by_cases hlt : i < n
  · refine .inr ⟨hgo i Z' H' hlt t, fun H'' => i + 1 ≤ n ∧ ∃ Z'', T M Z H Z'' H'' ∧ Mu Z'' H'' D ∧ I (i + 1) Z'' H'' ∧ ∃ (ys : List V) (L : List (Nat × β)), H'' D = some (.lst ys) ∧ ys.length ≤ i + 1 ∧ L.map Prod.fst = (List.range (i + 1)).filter p ∧ Paired (fun y q => R q.1 q.2 y Z'') ys L,
      fun H'' q => ⟨n - (i + 1), by omega, rfl, q⟩, fun v H2 hy => ?_⟩
    refine turn i hlt D Z' H' t hD mu hI v H2 hy _ _ (fun hp x y Z3 H3 t3 hI3 r => ?_) (fun hp Z3 H3 t3 hI3 => ?_)
    · have t4 : T M Z H Z3 H3 := t.step t3 mm_same
      have mu3 := t3.mu nD mu
      have t5 : T M Z H Z3 (upd H3 D (.lst (ys ++ [y]))) := t4.step (T.set mu3 t4.zh) (mm_cons (.inr hD) mm_nil)
      refine ⟨ys, t3.hp nD hys, sz_lt (by omega), by omega, Z3, t5, ⟨mu3.z, _, upd_same⟩, stab _ _ _ _ _ hI3 hD mu3.z, ys ++ [y], L ++ [(i, x)], upd_same, by rw [List.length_append]; show _ + 1 ≤ _; omega, ?_, ?_⟩
      · rw [List.map_append, hL, List.range_succ, List.filter_append, List.filter_cons, if_pos hp]
        rfl
      · exact paired_snoc (Paired.mapP pr fun y q h => mono _ _ _ _ _ t3.z h) r
    · have t4 : T M Z H Z3 H3 := t.step t3 mm_same
      refine ⟨by omega, Z3, t4, t3.mu nD mu, hI3, ys, L, t3.hp nD hys, by omega, ?_, Paired.mapP pr fun y q h => mono _ _ _ _ _ t3.z h⟩
      rw [hL, List.range_succ, List.filter_append, List.filter_cons, if_neg (by rw [hp]; exact Bool.false_ne_true)]
      simp
  · have ei : i = n := by omega
    subst ei
    exact .inl ⟨hst Z' H' t, fin D ys L Z' H' hD t mu hys hI hL pr⟩
theorem kept_snd {β γ : Type} {xs : List β} {f : β → γ} : ∀ {L : List (Nat × γ)}, (∀ q ∈ L, ∃ b, xs[q.1]? = some b ∧ q.2 = f b) → L.map Prod.snd = ((L.map Prod.fst).filterMap fun i => xs[i]?).map f
  | [], _ => rfl
  | q :: L, h => by
    obtain ⟨b, h1, h2⟩ := h q List.mem_cons_self
    rw [List.map_cons, List.map_cons, List.filterMap_cons, h1, List.map_cons, ← kept_snd (L := L) fun r hr => h r (List.mem_cons_of_mem _ hr), h2]
theorem paired_r {β γ : Type} {F : β → γ → Prop} {xs : List β} {ys : List γ} (h : Paired F xs ys) : ∀ y ∈ ys, ∃ x, F x y := by
  induction h with
  | nil => exact fun _ h => absurd h List.not_mem_nil
  | cons a t ih =>
    intro y hy
    rcases List.mem_cons.mp hy with e | hy
    · rw [e]; exact ⟨_, a⟩
    · exact ih y hy
theorem paired_mapR {β γ δ : Type} {F : β → δ → Prop} {f : γ → δ} : ∀ {xs : List β} {ys : List γ}, Paired (fun x y => F x (f y)) xs ys → Paired F xs (ys.map f)
  | _, _, .nil => .nil
  | _, _, .cons a t => .cons a (paired_mapR t)
/-- things drawn, c draws a turn -/
theorem c_drawJ {β : Type} [Py β] {J : It} {n : Nat} {Z : Hp} {h : Addr} {C : Nat} (P : β → Prop) (R c : Nat) (xs : Nat → V) (hh : Hand K Z H h C) (hC : R + c * n ≤ C) (hz : n ≤ 40000)
    (hgo : ∀ i Z1 H1, i < n → T [h] Z H Z1 H1 → J.go i H1) (hst : ∀ Z1 H1, T [h] Z H Z1 H1 → J.stop n H1) (hy : ∀ i v Z1 H1 H2, i < n → T [h] Z H Z1 H1 → J.yld i H1 v H2 → H2 = H1 ∧ v = xs i)
    (turn : ∀ i : Nat, i < n → ∀ Z1 H1 R', T [h] Z H Z1 H1 → Hand K Z1 H1 h (R' + c) → ∀ A : VK, (∀ x y Z3 H3, T [h] Z1 H1 Z3 H3 → Hand K Z3 H3 h R' → Ik Z3 y x → P x → A y H3) → g (xs i) (wipe σ vs) H1 fun σ2 H2 => wipe σ2 vs = wipe σ vs ∧ te σ2 H2 A)
    (fin : ∀ D (l : List β) Z' H', H D = none → T [h] Z H Z' H' → Hand K Z' H' h R → Ls Z' D l → l.length = n → (∀ x ∈ l, P x) → Q (.ref D) H') : LcJ g tYes te vs σ J H Q := by
  refine lcT (n := n) (M := [h]) (Z := Z) (fun _ => true) (fun i Z1 H1 => Hand K Z1 H1 h (R + c * (n - i))) (fun i (x : β) y Z => Ik Z y x ∧ P x) (fun i x y Z1 Z2 e r => ⟨Ik.ex e r.1, r.2⟩) (fun i Z1 H1 D o hi nD zD => ?_) hz hh.z (fun b hb => by rw [List.mem_singleton.mp hb]; exact hh.at) (hh.mono (by simpa using hC))
    hgo hst (fun i hi D Z1 H1 t nD mu hI v H2 hv A B hA hB => ?_) (fun D ys L Z' H' nD t mu f1 hI hL pr => ?_)
  · obtain ⟨o1, ho1⟩ := hh.at
    exact hi.exm ExM.upd (ne_of_none ho1 nD) zD
  · obtain ⟨rfl, rfl⟩ := hy i v Z1 H1 H2 hi t hv
    rw [lc_yes]
    have ec : R + c * (n - i) = R + c * (n - (i + 1)) + c := by
      rw [show n - i = (n - (i + 1)) + 1 by omega, Nat.mul_succ]
      omega
    rw [ec] at hI
    exact turn i hi Z1 H2 _ t hI A fun x y Z3 H3 t3 h3 ix px => hA rfl x y Z3 H3 t3 h3 ⟨ix, px⟩
  · have la : Lm Z' H' D (L.map Prod.snd) := ⟨⟨ys, f1, paired_mapR (Paired.mapP pr fun y q h => h.1)⟩, mu.z, t.zh⟩
    refine t_fz la fun Z2 H2 t2 ls => fin D (L.map Prod.snd) Z2 H2 nD (t.step t2 (mm_cons (.inr nD) mm_nil)) ((Hand.tt t2 (nm_cons (hand_ne0 nD hh).symm nm_nil) hI).mono (by omega)) ls ?_ fun x hx => ?_
    · have := congrArg List.length hL
      rw [filter_yes, List.length_map, List.length_range] at this
      rw [List.length_map, this]
    · obtain ⟨q, hq, rfl⟩ := List.mem_map.mp hx
      obtain ⟨y, hy⟩ := paired_r pr q hq
      exact hy.2
theorem c_drawR {β : Type} [Py β] {n : Int} {Z : Hp} {h : Addr} {C : Nat} (P : β → Prop) (R c : Nat) (hh : Hand K Z H h C) (hz : 0 ≤ n ∧ n ≤ 40000) (hC : R + c * n.toNat ≤ C)
    (turn : ∀ i : Nat, (i : Int) < n → ∀ Z1 H1 R', T [h] Z H Z1 H1 → Hand K Z1 H1 h (R' + c) → ∀ A : VK, (∀ x y Z3 H3, T [h] Z1 H1 Z3 H3 → Hand K Z3 H3 h R' → Ik Z3 y x → P x → A y H3) → g (.int (i : Int)) (wipe σ vs) H1 fun σ2 H2 => wipe σ2 vs = wipe σ vs ∧ te σ2 H2 A)
    (fin : ∀ D (l : List β) Z' H', H D = none → T [h] Z H Z' H' → Hand K Z' H' h R → Ls Z' D l → (l.length : Int) = n → (∀ x ∈ l, P x) → Q (.ref D) H') : LcR1 g tYes te vs σ [.int n] H Q := by
  have e62 : (2 : Int) ^ 62 = 4611686018427387904 := by decide
  refine ⟨n, rfl, by omega, by omega, c_drawJ P R c (n := n.toNat) (fun i => .int (i : Int)) hh hC (by omega) (fun i Z1 H1 hi t => hi) (fun Z1 H1 t => Nat.le_refl _) (fun i v Z1 H1 H2 hi t hy => ?_) (fun i hi => turn i (by omega)) (fun D l Z' H' n1 t h1 ls hl => fin D l Z' H' n1 t h1 ls (by omega))⟩
  obtain ⟨rfl, rfl⟩ := hy
  exact ⟨rfl, by rw [Int.zero_add]⟩
end
section
variable {K : PySem.W.Frag} {σ : L2.St} {H : Hp} {D : Ends} {g : TG} {ts : TS}
/-- for over a list of data -/
theorem t_forL {β : Type} [Py β] {a : Addr} {xs : List β} {Z0 : Hp} (h : Ik Z0 (.ref a) xs) (Pv : Nat → L2.St → Hp → Prop) (hz : ∀ i σ H, Pv i σ H → Ex Z0 H) (h0 : Pv 0 σ H)
    (hs : ∀ (i : Nat) v x σ H, xs[i]? = some x → Ik Z0 v x → Pv i σ H → g v σ H fun σ2 H2 => ts { D with nx := Pv (i + 1), ct := Pv (i + 1), bk := D.nx } σ2 H2) (hd : ∀ σ H, Pv xs.length σ H → D.nx σ H) : ForL K g ts D σ (.ref a) H := by
  obtain ⟨b, us, e, h1, h2⟩ := h.list
  cases e
  have hl := Paired.length h2
  refine u_forL Pv ((hz _ _ _ h0).sq (sq_of h1)) h0 (fun i σ H _ p => (hz _ _ _ p).sq (sq_of h1)) (fun i v σ H hv p => ?_) (fun σ H p => hd σ H (by rw [← hl]; exact p))
  obtain ⟨x, hx, ix⟩ := itemK h2 hv
  exact hs i v x σ H hx ix p
end
end TR

/-! rooms that are changed: a list of lists of rows, beside a hand -/
namespace TR
open PySem L2
noncomputable def offH (H : Hp) (ps : List Addr) : Hp := fun b => if b ∈ ps then none else H b
theorem off_none {H : Hp} {ps : List Addr} {b : Addr} (h : b ∈ ps) : offH H ps b = none := if_pos h
theorem off_some {H : Hp} {ps : List Addr} {b : Addr} (h : b ∉ ps) : offH H ps b = H b := if_neg h
theorem off_ex {H : Hp} {ps : List Addr} : Ex (offH H ps) H := fun b o e => by
  by_cases c : b ∈ ps
  · rw [off_none c] at e; cases e
  · rw [off_some c] at e; exact e
theorem off_big {Z H : Hp} {ps : List Addr} (e : Ex Z H) (h : ∀ q ∈ ps, Z q = none) : Ex Z (offH H ps) := fun b o q => by
  rw [off_some (fun c => by rw [h b c] at q; cases q)]
  exact e b o q
structure HL (K : PySem.W.Frag) (Z0 H : Hp) (h p : Addr) (qs : List Addr) {α : Type} [Py α] (rs : List (List α)) : Prop where
  own : H p = some (.lst (qs.map V.ref))
  nd : (h :: p :: qs).Nodup
  fr : ∀ q ∈ h :: p :: qs, Z0 q = none
  zh : Ex Z0 H
  rows : Paired (fun q r => ∃ vs, H q = some (.lst vs) ∧ Paired (fun v x => Is K (offH H (h :: p :: qs)) v x) vs r) qs rs
section
variable {K : PySem.W.Frag} {Z0 H0 H H1 H' : Hp} {h p q D : Addr} {qs qs2 : List Addr} {α : Type} [Py α] {rs : List (List α)} {Q : VK}
theorem paired_mem {β γ : Type} {F G : β → γ → Prop} : ∀ {xs : List β} {ys : List γ}, Paired F xs ys → (∀ x y, x ∈ xs → F x y → G x y) → Paired G xs ys
  | _, _, .nil, _ => .nil
  | _, _, .cons a t, f => .cons (f _ _ List.mem_cons_self a) (paired_mem t fun x y hx => f x y (List.mem_cons_of_mem _ hx))
theorem cut_of {Z H : Hp} {h : Addr} (e : Ex Z H) (z : Z h = none) : Ex Z (cutH H h) := fun b o q => by
  show (if b = h then none else H b) = some o
  rw [if_neg (fun c => by rw [c, z] at q; cases q)]
  exact e b o q
end
section
variable {K : PySem.W.Frag} {σ : L2.St} {H : Hp} {te : TE} {Q : VK} {g : TG} {vs : List Nat}
end
/-- bounds of rooms: how many, how many rows each, how many entries each -/
noncomputable def HB (n m k : Nat) (rss : List (List Row)) : Prop := rss.length ≤ n ∧ ∀ rs ∈ rss, rs.length ≤ m ∧ ∀ r ∈ rs, r.length ≤ k
end TR

/-! rooms of rows that are all an asker's own: D their list, qs the rooms, F the rows -/
namespace TR
open PySem L2
section
variable {K : PySem.W.Frag} {σ : L2.St} {H : Hp} {tt : TT} {te : TE} {Q : VK} {g : TG} {vs : List Nat}
/-- a comprehension whose things have feet: new addresses of their own -/
theorem lcTN {β : Type} {J : It} {n : Nat} {M : List Addr} {Z : Hp} (I : Nat → Hp → Hp → Prop) (R : Nat → β → List Addr → V → Hp → Prop)
    (mono : ∀ i x fp y Z1 Z2, Ex Z1 Z2 → R i x fp y Z1 → R i x fp y Z2)
    (stab : ∀ i Z1 H1 D o, I i Z1 H1 → H D = none → Z1 D = none → I i Z1 (upd H1 D o))
    (hz : n ≤ 40000) (zh : Ex Z H) (hM : ∀ b ∈ M, ∃ o, H b = some o) (h0 : I 0 Z H)
    (hgo : ∀ i Z1 H1, i < n → T M Z H Z1 H1 → J.go i H1) (hst : ∀ Z1 H1, T M Z H Z1 H1 → J.stop n H1)
    (turn : ∀ i, i < n → ∀ D Z1 H1, T M Z H Z1 H1 → H D = none → Mu Z1 H1 D → I i Z1 H1 → ∀ v H2, J.yld i H1 v H2 → ∀ (A : VK),
      (∀ x fp y Z3 H3, T M Z1 H1 Z3 H3 → I (i + 1) Z3 H3 → R i x fp y Z3 → fp.Nodup → (∀ q ∈ fp, H1 q = none) → (∀ q ∈ fp, ∃ o, H3 q = some o) → A y H3) →
      g v (wipe σ vs) H2 fun σ2 H2 => wipe σ2 vs = wipe σ vs ∧ te σ2 H2 A)
    (fin : ∀ D ys (L : List (β × List Addr)) Z' H', H D = none → T M Z H Z' H' → Mu Z' H' D → H' D = some (.lst ys) → I n Z' H' → L.length = n → ys.length = n → (∀ j y q, ys[j]? = some y → L[j]? = some q → R j q.1 q.2 y Z') → (D :: (L.map Prod.snd).flatten).Nodup → (∀ q ∈ (L.map Prod.snd).flatten, H q = none) → (∀ q ∈ (L.map Prod.snd).flatten, ∃ o, H' q = some o) → Q (.ref D) H') : LcJ g tYes te vs σ J H Q := by
  intro D hD
  have nD : D ∉ M := fun z => by
    obtain ⟨o, ho⟩ := hM D z
    rw [hD] at ho
    cases ho
  refine ⟨fun i m H' => m = n - i ∧ i ≤ n ∧ ∃ Z', T M Z H Z' H' ∧ Mu Z' H' D ∧ I i Z' H' ∧ ∃ (ys : List V) (L : List (β × List Addr)), H' D = some (.lst ys) ∧ ys.length = i ∧ L.length = i ∧ (∀ j y q, ys[j]? = some y → L[j]? = some q → R j q.1 q.2 y Z') ∧ (D :: (L.map Prod.snd).flatten).Nodup ∧ (∀ q ∈ (L.map Prod.snd).flatten, H q = none) ∧ (∀ q ∈ (L.map Prod.snd).flatten, ∃ o, H' q = some o),
    ⟨n, by omega, by omega, Z, T.newM hD zh, ⟨Ex.back zh hD, _, upd_same⟩, stab _ _ _ _ _ h0 hD (Ex.back zh hD), [], [], upd_same, rfl, rfl, fun j y q h => by simp at h, by simp, by simp, by simp⟩, ?_⟩
  rintro i m H' ⟨rfl, hi, Z', t, mu, hI, ys, L, hys, hly, hL, pr, nd, fr, al⟩
  by_cases hlt : i < n
  · refine .inr ⟨hgo i Z' H' hlt t, fun H'' => i + 1 ≤ n ∧ ∃ Z'', T M Z H Z'' H'' ∧ Mu Z'' H'' D ∧ I (i + 1) Z'' H'' ∧ ∃ (ys : List V) (L : List (β × List Addr)), H'' D = some (.lst ys) ∧ ys.length = i + 1 ∧ L.length = i + 1 ∧ (∀ j y q, ys[j]? = some y → L[j]? = some q → R j q.1 q.2 y Z'') ∧ (D :: (L.map Prod.snd).flatten).Nodup ∧ (∀ q ∈ (L.map Prod.snd).flatten, H q = none) ∧ (∀ q ∈ (L.map Prod.snd).flatten, ∃ o, H'' q = some o),
      fun H'' q => ⟨n - (i + 1), by omega, rfl, q⟩, fun v H2 hy => ?_⟩
    rw [lc_yes]
    refine turn i hlt D Z' H' t hD mu hI v H2 hy _ (fun x fp y Z3 H3 t3 hI3 r nfp frp alp => ?_)
    have t4 : T M Z H Z3 H3 := t.step t3 mm_same
    have mu3 := t3.mu nD mu
    have t5 : T M Z H Z3 (upd H3 D (.lst (ys ++ [y]))) := t4.step (T.set mu3 t4.zh) (mm_cons (.inr hD) mm_nil)
    have efl : (List.map Prod.snd (L ++ [(x, fp)])).flatten = (L.map Prod.snd).flatten ++ fp := by simp
    have Dfp : D ∉ fp := fun z => by
      obtain ⟨o, ho⟩ := mu.a
      rw [frp D z] at ho
      cases ho
    refine ⟨ys, t3.hp nD hys, sz_lt (by omega), by omega, Z3, t5, ⟨mu3.z, _, upd_same⟩, stab _ _ _ _ _ hI3 hD mu3.z, ys ++ [y], L ++ [(x, fp)], upd_same, by rw [List.length_append, hly]; rfl, by rw [List.length_append, hL]; rfl, fun j y' q' h1 h2 => ?_, ?_, ?_, ?_⟩
    · rw [List.getElem?_append] at h1 h2
      rw [hly] at h1
      rw [hL] at h2
      by_cases c : j < i
      · rw [if_pos c] at h1 h2
        exact mono _ _ _ _ _ _ t3.z (pr j y' q' h1 h2)
      · rw [if_neg c] at h1 h2
        have ej : j = i := by
          have := (List.getElem?_eq_some_iff.mp h1).1
          rw [List.length_singleton] at this
          omega
        subst ej
        rw [Nat.sub_self] at h1 h2
        cases h1
        cases h2
        exact r
    · rw [efl, ← List.cons_append]
      refine List.nodup_append.mpr ⟨nd, nfp, fun a ha b hb e => ?_⟩
      rcases List.mem_cons.mp ha with e2 | ha
      · exact Dfp (by rw [← e2, e]; exact hb)
      · obtain ⟨o, ho⟩ := al a ha
        rw [e, frp b hb] at ho
        cases ho
    · rw [efl]
      intro q hq
      rcases List.mem_append.mp hq with hq | hq
      · exact fr q hq
      · exact t.nn (frp q hq)
    · rw [efl]
      intro q hq
      rcases List.mem_append.mp hq with hq2 | hq2
      · by_cases c : q = D
        · exact ⟨_, by rw [c]; exact upd_same⟩
        · obtain ⟨o, ho⟩ := t3.all (al q hq2)
          exact ⟨o, by rw [upd_ne c]; exact ho⟩
      · by_cases c : q = D
        · exact ⟨_, by rw [c]; exact upd_same⟩
        · obtain ⟨o, ho⟩ := alp q hq2
          exact ⟨o, by rw [upd_ne c]; exact ho⟩
  · have ei : i = n := by omega
    subst ei
    exact .inl ⟨hst Z' H' t, fin D ys L Z' H' hD t mu hys hI hL hly pr nd fr al⟩
end
section
variable {K : PySem.W.Frag} {M N F : List Addr} {Z H Z1 H1 Z2 H2 Z' H' : Hp} {p q D : Addr} {o : HO} {v : V} {α : Type} [Py α]
/-- what was to stay, and is new, may be changed after all -/
theorem T.unfz (t : T M Z H Z' H') (e : Ex Z H) (f : ∀ w ∈ F, H w = none) : T M Z H (offH Z' F) H' :=
  ⟨off_big t.z fun q hq => Ex.back e (f q hq), (off_ex (H := Z') (ps := F)).trans t.zh, t.m, t.al, fun b nb zb a => by
    by_cases c : b ∈ F
    · exact off_none c
    · rw [off_some c]; exact t.fr b nb zb a⟩
/-- many things are to stay from now on -/
noncomputable def onH (Z H : Hp) (F : List Addr) : Hp := fun b => if b ∈ F then H b else Z b
theorem on_in (h : p ∈ F) : onH Z H F p = H p := if_pos h
theorem on_out (h : p ∉ F) : onH Z H F p = Z p := if_neg h
theorem on_ex (h : ∀ q ∈ F, Z q = none) : Ex Z (onH Z H F) := fun b o e => by
  rw [on_out (fun c => by rw [h b c] at e; cases e)]
  exact e
theorem T.fzs (z : Ex Z H) (h : ∀ q ∈ F, Z q = none) : T F Z H (onH Z H F) H :=
  ⟨on_ex h, fun b o e => by
    by_cases c : b ∈ F
    · rw [on_in c] at e; exact e
    · rw [on_out c] at e; exact z _ _ e, fun _ _ _ h => h, fun _ o h => ⟨o, h⟩, fun b nb zb _ => by rw [on_out nb]; exact zb⟩
/-- a row that is one's own -/
noncomputable def RowO (Z H : Hp) (w : Addr) (r : List α) : Prop := ∃ vs, H w = some (.lst vs) ∧ Paired (fun v x => Ik Z v x) vs r
noncomputable def RoomO (Z H : Hp) (F : List Addr) (q : Addr) (rs : List (List α)) : Prop := ∃ ws : List Addr, H q = some (.lst (ws.map V.ref)) ∧ (∀ w ∈ ws, w ∈ F) ∧ Paired (fun w r => RowO Z H w r) ws rs
structure Y3 (Z H : Hp) (D : Addr) (qs F : List Addr) (rss : List (List (List α))) : Prop where
  own : H D = some (.lst (qs.map V.ref))
  nd : (D :: qs).Nodup
  nf : ∀ q ∈ D :: qs, q ∉ F
  z : ∀ q ∈ D :: (qs ++ F), Z q = none
  al : ∀ q ∈ D :: (qs ++ F), ∃ o, H q = some o
  zh : Ex Z H
  rows : Paired (fun q rs => RoomO Z H F q rs) qs rss
theorem RowO.tt {w : Addr} {r : List α} (t : T M Z H Z' H') (n : w ∉ M) (h : RowO Z H w r) : RowO Z' H' w r := by
  obtain ⟨vs, h1, h2⟩ := h
  exact ⟨vs, t.hp n h1, Paired.mapP h2 fun v x g => Ik.tt t g⟩
variable {qs : List Addr} {rss : List (List (List α))}
variable {Q : VK} {R : Hp → Prop}
end
end TR
namespace TR
open PySem L2
section
variable {K : PySem.W.Frag} {σ : L2.St} {H Z Z0 : Hp} {te : TE} {Q : VK} {g : TG} {vs : List Nat} {α : Type} [Py α]
/-- a new list of new lists: w, its things in Z0 -/
noncomputable def RowF (Z0 Z : Hp) (w : Addr) (r : List α) : Prop := ∃ vs, Z w = some (.lst vs) ∧ Paired (fun v x => Ik Z0 v x) vs r
end
end TR

namespace TR
open PySem L2
/-- rooms of rows that an asker spoils: only the shape is known -/
structure Sh (Z H : Hp) (D : Addr) (qs F : List Addr) (n B : Nat) : Prop where
  own : H D = some (.lst (qs.map V.ref))
  nd : D ∉ qs
  nf : ∀ q ∈ D :: qs, q ∉ F
  z : ∀ q ∈ D :: (qs ++ F), Z q = none
  zh : Ex Z H
  rooms : ∀ q ∈ qs, ∃ ws : List Addr, H q = some (.lst (ws.map V.ref)) ∧ ws.length ≤ n ∧ ∀ w ∈ ws, w ∈ F
  rows : ∀ w ∈ F, ∃ vs, H w = some (.lst vs) ∧ vs.length ≤ B
section
variable {Z H Z' H' : Hp} {D q w e : Addr} {M qs F : List Addr} {n B : Nat} {Q : VK} {v : V}
variable {α : Type} [Py α] {rss : List (List (List α))}
end
end TR
namespace TR
open PySem L2
section
variable {K : PySem.W.Frag} {Z H : Hp} {D q w : Addr} {qs F : List Addr} {n B : Nat} {Q : VK} {v : V}
end
end TR

/-! steps as data -/
namespace TR
open PySem L2
inductive Stp where
  | rooms (m : Int)
  | cut (r m : Int)
  | row (r a : Int) (w : Row)
  deriving DecidableEq
noncomputable def stpD : Stp → PyData
  | .rooms m => .tuple [.str "rooms", .int m]
  | .cut r m => .tuple [.str "cut", .int r, .int m]
  | .row r a w => .tuple [.str "row", .int r, .int a, Py.d w]
instance : Py Stp := ⟨stpD, 4, fun s => by
    cases s with
    | rooms m => simp [stpD, PyData.depth, PyData.depthAll]
    | cut r m => simp [stpD, PyData.depth, PyData.depthAll]
    | row r a w =>
      have h : (Py.d w).depth ≤ 3 := Nat.le_trans (Py.depth w) (by decide)
      simp [stpD, PyData.depth, PyData.depthAll]
      omega, fun s => by
    have h1 : PyData.strOk "rooms" = true := by decide +kernel
    have h2 : PyData.strOk "cut" = true := by decide +kernel
    have h3 : PyData.strOk "row" = true := by decide +kernel
    cases s <;> simp [stpD, PyData.canLay0, PyData.canLayAll0, Py.can, h1, h2, h3], fun a b => by
    have hr : ("rooms" : Str) ≠ "cut" := by decide
    have hs : ("cut" : Str) ≠ "rooms" := by decide
    cases a <;> cases b <;> simp [stpD, PyData.eqv, PyData.eqvAll, Py.eqv, hr, hs]⟩
section
variable {K : PySem.W.Frag} {H : Hp} {v : V} {p b : Addr} {r m a : Int} {w : Row}
theorem Ik.stp_rooms (h : H p = some (.tup [.str "rooms", .int m])) : Ik H (.ref p) (Stp.rooms m) := .tup h (.cons (.str _) (.cons (.int _) .nil))
theorem Ik.stp_cut (h : H p = some (.tup [.str "cut", .int r, .int m])) : Ik H (.ref p) (Stp.cut r m) := .tup h (.cons (.str _) (.cons (.int _) (.cons (.int _) .nil)))
theorem Ik.stp_row (h : H p = some (.tup [.str "row", .int r, .int a, v])) (i : Ik H v w) : Ik H (.ref p) (Stp.row r a w) := .tup h (.cons (.str _) (.cons (.int _) (.cons (.int _) (.cons i .nil))))
theorem Ik.rooms_of (h : Ik H v (Stp.rooms m)) : ∃ p, v = .ref p ∧ H p = some (.tup [.str "rooms", .int m]) := by
  have h' : Dt H v (.tuple [.str "rooms", .int m]) := h
  cases h' with
  | tup s a =>
    cases a with
    | cons h1 r => cases r with
      | cons h2 r => cases r; cases h1; cases h2; exact ⟨_, rfl, s⟩
theorem Ik.cut_of (h : Ik H v (Stp.cut r m)) : ∃ p, v = .ref p ∧ H p = some (.tup [.str "cut", .int r, .int m]) := by
  have h' : Dt H v (.tuple [.str "cut", .int r, .int m]) := h
  cases h' with
  | tup s a =>
    cases a with
    | cons h1 r => cases r with
      | cons h2 r => cases r with
        | cons h3 r => cases r; cases h1; cases h2; cases h3; exact ⟨_, rfl, s⟩
theorem Ik.row_of (h : Ik H v (Stp.row r a w)) : ∃ p b, v = .ref p ∧ H p = some (.tup [.str "row", .int r, .int a, .ref b]) ∧ Ik H (.ref b) w := by
  have h' : Dt H v (.tuple [.str "row", .int r, .int a, Py.d w]) := h
  cases h' with
  | tup s a =>
    cases a with
    | cons h1 r => cases r with
      | cons h2 r => cases r with
        | cons h3 r => cases r with
          | cons h4 r =>
            cases r; cases h1; cases h2; cases h3
            obtain ⟨b, rfl, i⟩ := Ik.ref_of (α := Ent) (xs := w) h4
            exact ⟨_, b, rfl, s, i⟩
end
/-! what a step does -/
/-- so many things at least -/
noncomputable def padTo {α : Type} (n : Nat) (d : α) (l : List α) : List α := l ++ List.replicate (n - l.length) d
noncomputable def withRow (rss : List (List Row)) (room at_ : Int) (row : Row) : List (List Row) :=
  let p := padTo (room.toNat + 1) [] rss
  p.set room.toNat ((padTo (at_.toNat + 1) [] (p.getD room.toNat [])).set at_.toNat row)
/-- the last rooms without rows go -/
noncomputable def trimR (rss : List (List Row)) : List (List Row) := (rss.reverse.dropWhile fun rs => decide (rs = [])).reverse
noncomputable def doneY (y : Yard) : Stp → Yard
  | .rooms m => ⟨y.a, m, trimR y.c⟩
  | .cut r m => ⟨y.a, y.b, trimR (if r < y.c.length then y.c.set r.toNat ((y.c.getD r.toNat []).take m.toNat) else y.c)⟩
  | .row r a w => ⟨y.a, y.b, trimR (withRow y.c r a w)⟩
end TR
namespace TR
open PySem L2
section
variable {K : PySem.W.Frag} {M F : List Addr} {Z H Z1 H1 Z' H' : Hp} {D q a : Addr} {qs : List Addr} {α : Type} [Py α] {rss : List (List (List α))} {Q : VK}
theorem mm_1 {N : List Addr} {H : Hp} {y : Addr} (h : y ∈ N ∨ H y = none) : ∀ x ∈ [y], x ∈ N ∨ H x = none := mm_cons h mm_nil
end
end TR
namespace TR
open PySem L2
noncomputable abbrev YLen (y : Yard) : Prop := y.c.length ≤ 10000 ∧ ∀ rs ∈ y.c, rs.length ≤ 10000
noncomputable def StpOk : Stp → Prop
  | .rooms _ => True
  | .cut r m => 0 ≤ r ∧ 0 ≤ m
  | .row r a _ => 0 ≤ r ∧ r ≤ 1000 ∧ 0 ≤ a ∧ a ≤ 9000
end TR
namespace TR
open PySem L2
noncomputable def StpB : Stp → Prop
  | .rooms _ => True
  | .cut r m => 0 ≤ r ∧ 0 ≤ m
  | .row r a w => 0 ≤ r ∧ r < 131 ∧ 0 ≤ a ∧ a < 131 ∧ w.length ≤ 8
end TR

namespace TR
/-- the rows that a room of so many keys takes -/
noncomputable def rowsI (m w : Int) : Int := max 1 ((m + w - 1) / w)
noncomputable def spillI (l : List Int) (w : Int) : Int := (l.map fun m => rowsI m w - 1).sum
end TR
namespace TR
end TR
namespace TR
/-- the rows of keys: sorted, cut -/
noncomputable def cutR (l : List Int) (w : Int) (k : Nat) : List Int := cutI (sortI l) (some ((k : Int) * w)) (some ((k : Int) * w + w))
noncomputable def rowsOf (l : List Int) (w : Int) : List (List Int) := (List.range (rowsI l.length w).toNat).map (cutR l w)
end TR
namespace TR
end TR
namespace TR
noncomputable def lastGe (r : List Int) (key : Int) : Bool := match r.getLast? with | some v => decide (key ≤ v) | none => false
/-- what a look through rows finds: there, looks -/
noncomputable def lookedI : List (List Int) → Int → Nat → Bool × Int
  | [], _, n => (false, (n : Int))
  | r :: rs, key, n => if lastGe r key = true then (decide (key ∈ r), (n : Int) + 1) else lookedI rs key (n + 1)
end TR
namespace TR
/-- how many are less -/
noncomputable def less (l : List Int) (key : Int) : Nat := (l.filter fun x => decide (x < key)).length
end TR

/-! powers of two, levels, rooms -/
namespace TR
theorem two_pos (k : Nat) : (1 : Int) ≤ 2 ^ k := by
  have h : (1 : Nat) ≤ 2 ^ k := Nat.one_le_two_pow
  have e : ((2 ^ k : Nat) : Int) = (2 : Int) ^ k := by rw [Int.natCast_pow]; rfl
  omega
theorem two_mono {a b : Nat} (h : a ≤ b) : (2 : Int) ^ a ≤ 2 ^ b := by
  have h1 : (2 : Nat) ^ a ≤ 2 ^ b := Nat.pow_le_pow_right (by decide) h
  have e1 : ((2 ^ a : Nat) : Int) = (2 : Int) ^ a := by rw [Int.natCast_pow]; rfl
  have e2 : ((2 ^ b : Nat) : Int) = (2 : Int) ^ b := by rw [Int.natCast_pow]; rfl
  omega
noncomputable def lev (r : Int) : Nat := Nat.log2 r.toNat
noncomputable def whole (r : Int) : Int := 2 ^ lev r
noncomputable def roomOf (key rooms : Int) : Int := if key % whole rooms < rooms - whole rooms then key % (2 * whole rooms) else key % whole rooms
end TR
/-! bits, and keys turned about -/
namespace TR
noncomputable def bit (x : Int) (k : Nat) : Int := x / 2 ^ k % 2
noncomputable def rev : Nat → Int → Int
  | 0, _ => 0
  | n + 1, x => rev n x * 2 + bit x n
/-- the first bit in which two differ -/
noncomputable def Dif (x y : Int) (d : Nat) : Prop := (∀ k, k < d → bit x k = bit y k) ∧ bit x d ≠ bit y d
noncomputable def partedAt (x y : Int) (d : Nat) : Int := 1 + max (x % 2 ^ (d + 1)) (y % 2 ^ (d + 1))
end TR
namespace TR
end TR
namespace TR
end TR

namespace TR
noncomputable def thingOf (r : Row) (key : Int) : Option Tx := ((r.filter fun e => decide (e.1 = key)).map Prod.snd)[0]?
noncomputable def foundR : List Row → Int → Nat → Option Tx × Int
  | [], _, m => (none, (m : Int))
  | r :: rs, key, m => if lastGe (r.map Prod.fst) key = true then (thingOf r key, ((m + 1 : Nat) : Int)) else foundR rs key (m + 1)
noncomputable def foundI (y : Yard) (key : Int) : Option Tx × Int := match y.c[(roomOf key y.b).toNat]? with
  | none => (none, 0)
  | some rows => foundR rows key 0
end TR

/-! rows of rising entries, clean yards -/
namespace TR
open PySem L2
theorem drop_lt {α : Type} {l : List α} {w : Nat} (h : ¬ (w = 0 ∨ l.length ≤ w)) : (l.drop w).length < l.length := by
  rw [List.length_drop]
  omega
noncomputable def cutE (w : Nat) (l : Row) : List Row := if h : w = 0 ∨ l.length ≤ w then [l] else l.take w :: cutE w (l.drop w)
termination_by l.length
decreasing_by exact drop_lt h
/-- a look through rows that rise all the way -/
noncomputable abbrev Rises (l : Row) : Prop := (l.map Prod.fst).Pairwise (· < ·)
noncomputable def fnd (R : List Row) (k : Int) : Option Tx := (foundR R k 0).1
end TR

namespace TR
open PySem L2
/-! ### rooms that are rewritten -/
noncomputable def putR (c : List (List Row)) (R : Nat) (X : List Row) : List (List Row) := (padTo (R + 1) [] c).set R X
noncomputable def NE (c : List (List Row)) : Prop := ∀ rs ∈ c, rs ≠ []
/-! ### the rows that aren't what stands there -/
noncomputable def writF (R : Nat) (now : List Row) : Nat → List Row → List Stp
  | _, [] => []
  | i, r :: rs => if now[i]? = some r then writF R now (i + 1) rs else .row (R : Int) (i : Int) r :: writF R now (i + 1) rs
noncomputable def writ (R : Nat) (rows now : List Row) : List Stp := writF R now 0 rows
noncomputable def onw (R : Nat) (rows now : List Row) : List Stp := writ R rows now ++ (if rows.length < now.length then [.cut (R : Int) (rows.length : Int)] else [])
noncomputable def backw (R : Nat) (rows now : List Row) : List Stp := (writ R rows now).reverse
end TR

namespace TR
open PySem L2
/-- from the last on: behind any of these steps the first rows are as they were, then rows without entries, then the new ones -/
noncomputable def backS (rows now : List Row) (m : Nat) : List Row := now.take m ++ List.replicate (m - now.length) [] ++ rows.drop m
end TR

/-! yards amid a change -/
namespace TR
open PySem L2
noncomputable def partE (r : Int) (es : Row) (i : Nat) : Row := sortE (es.filter fun e => decide (roomOf e.1 r = (i : Int)))
noncomputable def cleanC (w : Nat) (r : Int) (es : Row) : List (List Row) := (List.range r.toNat).map fun i => cutE w (partE r es i)
noncomputable def cleanY (w r : Int) (es : Row) : Yard := ⟨w, r, cleanC w.toNat r es⟩
noncomputable def fY (y : Yard) (k : Int) : Option Tx := (foundI y k).1
/-- no key twice -/
noncomputable abbrev Keys1 (es : Row) : Prop := (es.map Prod.fst).Nodup
/-- a room that tells its keys rightly -/
noncomputable def RoomG (es : Row) (b : Int) (i : Nat) (X : List Row) : Prop := (∀ e ∈ es, roomOf e.1 b = (i : Int) → fnd X e.1 = some e.2) ∧ ∀ r ∈ X, ∀ x ∈ r, x ∈ es
/-- all keys are found with their things, no others are -/
noncomputable def GoodF (es : Row) (y : Yard) : Prop := (∀ e ∈ es, fY y e.1 = some e.2) ∧ ∀ k, k ∉ es.map Prod.fst → fY y k = none
/-! ### splitting -/
noncomputable def splitRoom (r : Int) : Nat := (r - whole r).toNat
noncomputable def splitS (y : Yard) : List Stp :=
  let R := splitRoom y.b
  let A := (y.c.getD R []).flatten
  onw y.b.toNat (cutE y.a.toNat (sortE (A.filter fun e => decide (roomOf e.1 (y.b + 1) = y.b)))) [] ++ [.rooms (y.b + 1)] ++ onw R (cutE y.a.toNat (sortE (A.filter fun e => decide (roomOf e.1 (y.b + 1) ≠ y.b)))) (y.c.getD R [])
end TR

namespace TR
open PySem L2
end TR
namespace TR
open PySem L2
/-! ### joining -/
noncomputable def joinS (y : Yard) : List Stp :=
  let last := (y.b - 1).toNat
  let into := splitRoom (y.b - 1)
  backw into (cutE y.a.toNat (sortE ((y.c.getD into []).flatten ++ (y.c.getD last []).flatten))) (y.c.getD into []) ++ [.rooms (y.b - 1), .cut (last : Int) 0]
end TR

/-! T: lists of own lists, reverse, extend, ranges with a step; found -/
namespace TR
open PySem L2
section
variable {K : PySem.W.Frag} {M qs : List Addr} {Z H Z' H' : Hp} {Q : VK} {D q a b : Addr} {v : V} {α : Type} {iα : Py α} {x : α} {l r : List α}
end
/-! a list of own lists -/
structure Y2 (Z H : Hp) (D : Addr) (qs : List Addr) {α : Type} [Py α] (rs : List (List α)) : Prop where
  own : H D = some (.lst (qs.map V.ref))
  nd : (D :: qs).Nodup
  z : ∀ q ∈ D :: qs, Z q = none
  zh : Ex Z H
  rows : Paired (fun q r => RowO Z H q r) qs rs
section
variable {K : PySem.W.Frag} {M qs : List Addr} {Z H Z' H' : Hp} {Q : VK} {D q : Addr} {v : V} {α : Type} {iα : Py α} {x : α} {rs : List (List α)}
theorem Y2.len (a : Y2 Z H D qs rs) : qs.length = rs.length := Paired.length a.rows
theorem Y2.at (a : Y2 Z H D qs rs) {i : Nat} (h : qs[i]? = some q) : ∃ r, rs[i]? = some r ∧ RowO Z H q r := RW.at' a.rows h
theorem Y2.al (a : Y2 Z H D qs rs) : ∀ b ∈ D :: qs, ∃ o, H b = some o := fun b hb => by
  rcases List.mem_cons.mp hb with e | hb
  · rw [e]; exact ⟨_, a.own⟩
  · obtain ⟨i, hi⟩ := List.mem_iff_getElem?.mp hb
    obtain ⟨r, _, vs, h, _⟩ := a.at hi
    exact ⟨_, h⟩
theorem Y2.tt (t : T M Z H Z' H') (n : ∀ q ∈ D :: qs, q ∉ M) (a : Y2 Z H D qs rs) : Y2 Z' H' D qs rs :=
  ⟨t.hp (n D List.mem_cons_self) a.own, a.nd, fun q hq => t.fr q (n q hq) (a.z q hq) (a.al q hq), t.zh, paired_mem a.rows fun q r hq g => g.tt t (n q (List.mem_cons_of_mem _ hq))⟩
theorem Y2.tt0 (t : T [] Z H Z' H') (a : Y2 Z H D qs rs) : Y2 Z' H' D qs rs := a.tt t fun _ _ => nm_nil
/-- a thing more in one of them -/
theorem Y2.push {i : Nat} {r : List α} (a : Y2 Z H D qs rs) (hi : qs[i]? = some q) (hr : rs[i]? = some r) (hv : Ik Z v x) (hz : r.length < 100000)
    (k : ∀ Z' H', T [q] Z H Z' H' → Y2 Z' H' D qs (rs.set i (r ++ [x])) → Q .non H') : rAppend (.ref q) [v] H Q := by
  obtain ⟨r', hr', vs, h1, h2⟩ := a.at hi
  rw [hr] at hr'
  cases hr'
  have hm := List.mem_of_getElem? hi
  obtain ⟨d1, d2⟩ := List.nodup_cons.mp a.nd
  have mq : Mu Z H q := ⟨a.z q (List.mem_cons_of_mem _ hm), _, h1⟩
  have t : T [q] Z H Z (upd H q (.lst (vs ++ [v]))) := T.set mq a.zh
  refine ⟨q, vs, v, rfl, rfl, h1, sz_lt (by rw [Paired.length h2]; exact hz), k Z _ t ⟨t.hp (nm_cons (fun z => d1 (by rw [z]; exact hm)) nm_nil) a.own, a.nd, a.z, t.zh, ?_⟩⟩
  exact RW.push' (m := fun b o n e => by rw [upd_ne n]; exact e) (F := fun b r => RowO Z H b r) (H := H) (H' := upd H q (.lst (vs ++ [v]))) (fun b r nb g => g.tt t (nm_cons nb nm_nil)) a.rows d2 hi ⟨_, upd_same, Paired.snoc h2 hv⟩
theorem Y2.frq (a : Y2 Z H D qs rs) : ∃ Z' H', H' = H ∧ T (D :: qs) Z H Z' H' ∧ Ls Z' D rs := by
  have t := T.fzs (F := D :: qs) a.zh a.z
  refine ⟨_, H, rfl, t, _, (on_in List.mem_cons_self).trans a.own, ?_⟩
  have h := a.rows
  have g : ∀ b ∈ qs, onH Z H (D :: qs) b = H b := fun b hb => on_in (List.mem_cons_of_mem _ hb)
  have e := t.z
  revert g e
  generalize onH Z H (D :: qs) = Z2
  intro g e
  clear t a
  induction h with
  | nil => exact .nil
  | cons y t ih =>
    obtain ⟨vs, f1, f2⟩ := y
    exact .cons (Ik.of_list ((g _ List.mem_cons_self).trans f1) (Paired.mapP f2 fun v x g => Ik.ex e g)) (ih fun b hb => g b (List.mem_cons_of_mem _ hb))
end
section
variable {K : PySem.W.Frag} {σ : L2.St} {H Z : Hp} {tt : TT} {te : TE} {Q : VK} {g : TG} {vs : List Nat}
/-- ranges with a step -/
noncomputable def LcR3 (g : TG) (tt : TT) (te : TE) (vs : List Nat) (σ : L2.St) (x : List V) (H1 : Hp) (Q : VK) : Prop := ∃ (i j c : Int) (n : Nat), x = [.int i, .int j, .int c] ∧ RgC i j c n ∧ LcJ g tt te vs σ (Itc i c n) H1 Q
end
/-! found -/
noncomputable def YardOk (y : Yard) : Prop := 1 ≤ y.b ∧ y.c.length ≤ 10000 ∧ ∀ rs ∈ y.c, rs.length ≤ 10000 ∧ ∀ r ∈ rs, r.length ≤ 10000
noncomputable def optS : Option Tx → V
  | none => .non
  | some x => .str x.1
noncomputable def spFound (K : PySem.W.Frag) : Sp := fun vs H Q _ => ∃ (v : V) (y : Yard) (key : Int), vs = [v, .int key] ∧ Is K H v y ∧ YardOk y ∧
  ∀ (p : Addr) (v' : V) (H' : Hp), H p = none → Ex H H' → H' p = some (.tup [v', .int (foundI y key).2]) → Is K H' v' (foundI y key).1 → Q (.ref p) H'
noncomputable def spLawFound (K : PySem.W.Frag) : Sp := fun vs H Q _ => ∃ (v : V) (y : Yard) (key : Int), vs = [v, .int key] ∧ Is K H v y ∧ 0 ≤ key ∧ (1 ≤ y.b ∧ ∀ rs ∈ y.c, rs.length ≤ 10000 ∧ ∀ r ∈ rs, r.length ≤ 10000) ∧
  ∀ (p : Addr) (v' : V) (H' : Hp), H p = none → Ex H H' → H' p = some (.tup [v', .int (foundI y key).2]) → Is K H' v' (foundI y key).1 → Q (.ref p) H'
/-- keys, drawn -/
noncomputable def spKeys (K : PySem.W.Frag) : Sp := fun vs H Q _ => ∃ (h : Addr) (many : Int) (n : Nat) (Z : Hp), vs = [.ref h, .int many] ∧ 0 ≤ many ∧ many ≤ 160 ∧ Hand K Z H h (n + 2000) ∧
  ∀ (p : Addr) (ks : List Int) (H' : Hp), H p = none → ExM h H H' → Hand K Z H' h n → H' p = some (.lst (ks.map V.int)) → ks.length = many.toNat → ks.Nodup → (∀ k ∈ ks, 0 ≤ k ∧ k < 1152921504606846976) → Q (.ref p) H'
end TR
namespace TR
open PySem L2
noncomputable def partsL (r : Int) (l : Row) : List Row := (List.range r.toNat).map fun (i : Nat) => l.filter fun e => decide (roomOf e.1 r = (i : Int))
end TR
namespace TR
open PySem L2
end TR
namespace TR
open PySem L2
section
variable {K : PySem.W.Frag} {σ : L2.St} {H : Hp} {tt : TT} {te : TE} {Q : VK} {g : TG} {vs : List Nat}
end
end TR

namespace TR
end TR

/-! the law's doing of a step by the last room with rows -/
namespace TR
open PySem L2
noncomputable def someR (rss : List (List Row)) : List Int := ((List.range rss.length).filter fun i => decide (rss.getD i [] ≠ [])).map fun (i : Nat) => (i : Int)
end TR
namespace TR
open PySem L2
/-! the steps of a split and of a join are small -/
noncomputable def StpR : Stp → Prop
  | .rooms m => 1 ≤ m
  | s => StpB s
end TR

/-! putting and dropping: behind any steps the other keys are found, the change's own one as ahead up to one of the steps, as behind it from then on -/
namespace TR
open PySem L2
noncomputable def outE (es : Row) (k : Int) : Row := es.filter fun e => decide (e.1 ≠ k)
noncomputable def putE (es : Row) (k : Int) (t : Tx) : Row := outE es k ++ [(k, t)]
noncomputable def loE (l : Row) (k : Int) : Row := l.filter fun e => decide (e.1 < k)
noncomputable def hiE (l : Row) (k : Int) : Row := l.filter fun e => decide (k < e.1)
noncomputable def putS (y : Yard) (k : Int) (t : Tx) : List Stp :=
  backw (roomOf k y.b).toNat (cutE y.a.toNat (sortE (outE (y.c.getD (roomOf k y.b).toNat []).flatten k ++ [(k, t)]))) (y.c.getD (roomOf k y.b).toNat [])
noncomputable def dropS (y : Yard) (k : Int) : List Stp :=
  onw (roomOf k y.b).toNat (cutE y.a.toNat (sortE (outE (y.c.getD (roomOf k y.b).toNat []).flatten k))) (y.c.getD (roomOf k y.b).toNat [])
end TR
namespace TR
open PySem L2
end TR

/-! dicts of numbers and texts: d.items(), sorted(d.items()) -/
namespace L2
open PySem PySem.W PySem.Spec PyProof.Rows SrtO SrtS TR
noncomputable def kvE (e : Ent) : Key × V := (Sum.inl e.1, .str e.2.1)
section
variable {X : Cx}
noncomputable def rItemsK : V → List V → Hp → VK → Prop := fun x xs H Q => ∃ (a : Addr) (kvs : List (Key × V)), x = .ref a ∧ xs = [] ∧ H a = some (.dK kvs) ∧ ∀ p, H p = none → Q (.ref p) (upd H p (DX.itemsO p a))
noncomputable def rSortIt : List V → Hp → VK → Prop := fun vs H Q => ∃ (p a : Addr) (l : List Ent), vs = [.ref p] ∧ H p = some (DX.itemsO p a) ∧ H a = some (.dK (l.map kvE)) ∧ Keys1 l ∧
  ∀ (H' : Hp) (q : Addr) (ws : List V), Ex H H' → H q = none → H' q = some (.lst ws) → Paired (fun v (e : Ent) => ∃ t, v = V.ref t ∧ H t = none ∧ H' t = some (.tup [.int e.1, .str e.2.1])) ws (sortE l) → Q (.ref q) H'
end
end L2

/-! sorted(d) of a dict of numbers, any number of them -/
namespace L2
open PySem PySem.W PySem.Spec PyProof.Rows SrtO TR
section
variable {X : Cx}
noncomputable def rSortN : List V → Hp → VK → Prop := fun vs H Q => ∃ (b : Addr) (l : TR.Row), vs = [.ref b] ∧ H b = some (.dK (l.map kvE)) ∧ ∀ p, H p = none → Q (.ref p) (upd H p (.lst ((TR.sortI (l.map Prod.fst)).map V.int)))
end
end L2
namespace TR
open PySem L2
variable {Z H : Hp} {d : Addr} {l : Row} {Q : VK}
end TR

/-! dicts of numbers and texts, in T -/
namespace TR
open PySem L2
/-- a dict that may be changed -/
structure Dm (Z H : Hp) (D : Addr) (l : Row) : Prop where
  h : H D = some (.dK (l.map kvE))
  zd : Z D = none
  zh : Ex Z H
noncomputable def setE (l : Row) (k : Int) (t : Tx) : Row := if k ∈ l.map Prod.fst then l.map (fun e => if e.1 = k then (e.1, t) else e) else l ++ [(k, t)]
/-! the rules -/
noncomputable def rSI (x : V) (H : Hp) (Q : VK) : Prop := ∃ (d : Addr) (l : Row), x = .ref d ∧ H d = some (.dK (l.map kvE)) ∧ Keys1 l ∧
  ∀ (H' : Hp) (q : Addr) (ws : List V), Ex H H' → H q = none → H' q = some (.lst ws) → Paired (fun v (e : Ent) => ∃ t, v = V.ref t ∧ H t = none ∧ H' t = some (.tup [.int e.1, .str e.2.1])) ws (sortE l) → Q (.ref q) H'
noncomputable def tSI (te : TE) : TE := fun σ H Q => te σ H fun x H1 => rSI x H1 Q
section
variable {K : PySem.W.Frag} {M : List Addr} {Z H Z' H' : Hp} {p a d D : Addr} {l : Row} {k : Int} {t : Tx} {Q : VK}
noncomputable def rDict (K : PySem.W.Frag) : List V → Hp → VK → Prop := fun xs H Q => ∃ (a : Addr) (ps : List Addr) (kvs : List (L2.Key × V)), xs = [.ref a] ∧ SqL K H a (ps.map V.ref) ∧ Paired (fun p kv => SqT K H p [kV kv.1, kv.2]) ps kvs ∧ ∀ p, H p = none → Q (.ref p) (upd H p (.dK (mergeK [] kvs)))
noncomputable def rDictD : List V → Hp → VK → Prop := fun xs H Q => ∃ (a : Addr) (kvs : List (L2.Key × V)), xs = [.ref a] ∧ Rd H a (.dK kvs) ∧ ∀ p, H p = none → Q (.ref p) (upd H p (.dK kvs))
noncomputable def rSortD : List V → Hp → VK → Prop := fun xs H Q => ∃ (a : Addr) (kvs : List (L2.Key × V)) (ks : List Int), xs = [.ref a] ∧ Rd H a (.dK kvs) ∧ kvs.map (·.1) = ks.map Sum.inl ∧ ks.length < 64 ∧ ∀ (ys : List Int) (p : Addr), ys.Perm ks → ys.Pairwise (· ≤ ·) → H p = none → Q (.ref p) (upd H p (.lst (ys.map V.int)))
noncomputable def rLenDm : List V → Hp → VK → Prop := fun xs H Q => ∃ a kvs, xs = [V.ref a] ∧ H a = some (.dK kvs) ∧ Q (.int kvs.length) H
noncomputable def DGb (x y : V) (H : Hp) (Q : VK) : Prop := ∃ a o, x = .ref a ∧ DGet H a y o ∧ Q (o.getD .non) H
noncomputable def DGa (ty : TE) (σ : L2.St) (x : V) (H1 : Hp) (Q : VK) : Prop := ∃ a, x = .ref a ∧ IsD H1 a ∧ ty σ H1 fun y H2 => ∃ o, DGet H2 a y o ∧ Q (o.getD .non) H2
noncomputable def DIx (x y : V) (H : Hp) (Q : VK) : Prop := ∃ a v, x = .ref a ∧ DGet H a y (some v) ∧ Q v H
noncomputable def DInn (y x : V) (H : Hp) (Q : VK) : Prop := ∃ a o, x = .ref a ∧ DGet H a y o ∧ Q (.bl o.isSome) H
noncomputable def DNin (y x : V) (H : Hp) (Q : VK) : Prop := ∃ a o, x = .ref a ∧ DGet H a y o ∧ Q (.bl (!o.isSome)) H
noncomputable def DPa (ty : TE) (σ : L2.St) (x : V) (H1 : Hp) (Q : VK) : Prop := ∃ a, x = .ref a ∧ IsD H1 a ∧ ty σ H1 fun y H2 => ∃ kvs k v, H2 a = some (.dK kvs) ∧ y = kV k ∧ valV kvs k = some v ∧ Q v (upd H2 a (.dK (dropK kvs k)))
end
end TR
namespace TR
open PySem L2
end TR

/-! mended yards, and the steps that lead there -/
namespace TR
open PySem L2
/-! what a step does, room by room -/
/-- but for one room two yards are alike -/
noncomputable def Else (R : Nat) (y y' : Yard) : Prop := y'.a = y.a ∧ y'.b = y.b ∧ ∀ q, q ≠ R → y'.c.getD q [] = y.c.getD q []
/-! what stands -/
noncomputable def meetE (r : Int) (i : Nat) (acc : Row) (e : Ent) : Row := if roomOf e.1 r = (i : Int) ∧ e.1 ∉ acc.map Prod.fst then acc ++ [e] else acc
noncomputable def standF (r : Int) : Nat → List (List Row) → Row → Row
  | _, [], acc => acc
  | i, X :: c, acc => standF r (i + 1) c (X.flatten.foldl (meetE r i) acc)
noncomputable def standL (y : Yard) : Row := standF y.b 0 (y.c.take y.b.toNat) []
noncomputable def standY (y : Yard) : Row := sortE (standL y)
/-- all that is held -/
noncomputable def allE (c : List (List Row)) : Row := c.flatten.flatten
/-! the steps -/
noncomputable def cutsF (c : List (List Row)) (q : Nat) : List Stp := (((List.range (c.length - q)).map fun j => q + j).filter fun i => decide (c.getD i [] ≠ [])).reverse.map fun (i : Nat) => Stp.cut (i : Int) 0
noncomputable def mendR (d c : List (List Row)) (n : Nat) : List Stp := (List.range n).flatMap fun i => onw i (d.getD i []) (c.getD i [])
noncomputable def mendC (y : Yard) : List (List Row) := cleanC y.a.toNat y.b (standY y)
noncomputable def mendS (y : Yard) : List Stp := mendR (mendC y) y.c y.b.toNat ++ cutsF y.c y.b.toNat
end TR

/-! lists of lists that are told apart: every row is a row of its own -/
namespace TR
open PySem L2
section
variable {K : PySem.W.Frag} {σ : L2.St} {H Z Z0 : Hp} {te : TE} {Q : VK} {g : TG} {vs : List Nat} {α : Type} [Py α]
end
/-- new rows, all told apart; they stay (Z') until they are let go -/
noncomputable def NewRs (Z0 H Z' H' : Hp) (q : Addr) (ws : List Addr) {α : Type} [Py α] (rows : List (List α)) : Prop :=
  (q :: ws).Nodup ∧ (∀ b ∈ q :: ws, H b = none) ∧ (∀ b ∈ q :: ws, ∃ o, H' b = some o) ∧ Z' q = some (.lst (ws.map V.ref)) ∧ Paired (fun w r => RowF Z0 Z' w r) ws rows
/-- rooms of rows, all told apart -/
structure Y4 (Z H : Hp) (D : Addr) (qs : List Addr) (Fs : List (List Addr)) {α : Type} [Py α] (rss : List (List (List α))) : Prop where
  y : Y3 Z H D qs Fs.flatten rss
  nd : (D :: (qs ++ Fs.flatten)).Nodup
  at_ : Paired (fun f rs => H f.1 = some (.lst (f.2.map V.ref)) ∧ Paired (fun w r => RowO Z H w r) f.2 rs) (qs.zip Fs) rss
  ln : qs.length = Fs.length
section
variable {K : PySem.W.Frag} {σ : L2.St} {H Z Z0 : Hp} {te : TE} {Q : VK} {g : TG} {vs : List Nat} {α β : Type} [Py α] [Py β]
end
section
variable {K : PySem.W.Frag} {H Z : Hp} {D : Addr} {qs : List Addr} {Fs : List (List Addr)} {α : Type} [Py α] {r0 : List α} {rs0 : List (List α)} {rss : List (List (List α))}
end
section
variable {K : PySem.W.Frag} {M : List Addr} {H Z Z0 Z' H' : Hp} {a p D : Addr} {qs : List Addr} {Fs : List (List Addr)} {Q : VK}
end
/-! for over a range that goes down -/
section
variable {σ : L2.St} {H : Hp} {D : Ends} {g : TG} {ts : TS}
noncomputable def ForR3 (g : TG) (tb : TS) (D : Ends) (σ : L2.St) (vs : List V) (H1 : Hp) : Prop := ∃ (i j c : Int) (n : Nat), vs = [.int i, .int j, .int c] ∧ RgC i j c n ∧ ForJ g tb D σ (Itc i c n) H1
end
noncomputable abbrev YB (y : Yard) : Prop := 1 ≤ y.a ∧ y.a ≤ 1000 ∧ 1 ≤ y.b ∧ y.b ≤ 1000 ∧ y.c.length ≤ 10000 ∧ (∀ rs ∈ y.c, rs.length ≤ 10000) ∧ (allE y.c).length ≤ 39000
section
variable {K : PySem.W.Frag} {H Z : Hp} {Q : VK} {l D : Addr} {v : V} {α : Type} [Py α] {x : α}
end
/-! a clean yard stands as it is -/
end TR

/-! changes by their names -/
namespace TR
open PySem L2
noncomputable def tSplit : Tx := ⟨"split", by decide +kernel⟩
noncomputable def tJoin : Tx := ⟨"join", by decide +kernel⟩
noncomputable def tPut : Tx := ⟨"put", by decide +kernel⟩
noncomputable def tDrop : Tx := ⟨"drop", by decide +kernel⟩
noncomputable def tRoom : Tx := ⟨"room", by decide +kernel⟩
noncomputable def tLack : Tx := ⟨"lacking", by decide +kernel⟩
noncomputable def tTold : Tx := ⟨"told", by decide +kernel⟩
noncomputable def tNone : Tx := ⟨"", by decide +kernel⟩
noncomputable def okC (r : Int) (es : Row) (way : Str) (k : Int) : Prop := ¬ (way = "join" ∧ r = 1) ∧ ¬ (way = "drop" ∧ k ∉ es.map Prod.fst)
noncomputable def WayS (way : Str) : Prop := way = "split" ∨ way = "join" ∨ way = "drop" ∨ way = "put"
noncomputable def chS (y : Yard) (way : Str) (k : Int) (t : Tx) : List Stp := if way = "split" then splitS y else if way = "join" then joinS y else if way = "drop" then dropS y k else putS y k t
noncomputable def rN (r : Int) (way : Str) : Int := if way = "split" then r + 1 else if way = "join" then r - 1 else r
noncomputable def esN (es : Row) (way : Str) (k : Int) (t : Tx) : Row := if way = "drop" then outE es k else if way = "put" then putE es k t else es
section
variable {r k : Int} {es : Row}
end
/-! a display of two pairs -/
noncomputable def Disp2 (p : Addr) (x1 y1 x2 y2 : V) (H : Hp) (Q : VK) : Prop := H p = some (.dK []) ∧ ∃ kvs : List (L2.Key × V), [(x1, y1), (x2, y2)] = kvs.map (fun kv => (kV kv.1, kv.2)) ∧ kvs.length ≤ 15 ∧ Q (.ref p) (upd H p (.dK (mergeK [] kvs)))
end TR

/-! len(set(xs)): how many unlike ones; whether a yard is clean -/
namespace TR
open PySem L2 PySem.Spec PyProof.Rows
noncomputable def unlike (ns : List Int) : Nat := (PyProof.Rows.firstMet (fun i => ns.getD i 0) ns.length).length
noncomputable def tLenSetA (K : PySem.W.Frag) (ta : TE) : TE := fun σ H Q => ta σ H fun x H1 => ∃ (l : Addr) (ns : List Int), x = .ref l ∧ SqL K H1 l (ns.map V.int) ∧ ns.length ≤ 4000 ∧ Q (.int (unlike ns : Nat)) H1
/-- the clean yard of what it holds -/
noncomputable def CleanP (y : Yard) : Prop := Keys1 (allE y.c) ∧ y = cleanY y.a y.b (allE y.c)
end TR

/-! a comprehension over a dict's keys -/
namespace TR
open PySem L2
section
variable {K : PySem.W.Frag} {σ : L2.St} {Z H : Hp} {tt : TT} {te td : TE} {Q : VK} {g : TG} {vs : List Nat} {d : Addr} {l : Row}
noncomputable def keepAt (l : Row) (p : Ent → Bool) (i : Nat) : Bool := ((l[i]?).map p).getD false
end
end TR

/-! how many rooms so many keys ask -/
namespace TR
noncomputable def roomsFor (c f : Int) : Int := max 1 (-((-c) / f))
end TR

namespace TR
/-- keys told apart by their rooms, each room's in their order -/
noncomputable def spl (l : List Int) (n : Int) : List (List Int) := (List.range n.toNat).map fun (r : Nat) => l.filter fun x => decide (roomOf x n = (r : Int))
end TR

/-! tables: what an instance of Table is, in T -/
namespace TR
open PySem L2
/-- a value's kind -/
inductive KindV (K : PySem.W.Frag) (H : Hp) : V → String → Prop
  | int (i : Int) : KindV K H (.int i) "int"
  | bl (b : Bool) : KindV K H (.bl b) "bool"
  | str (x : Str) (h : x.length ≤ 100000) : KindV K H (.str x) "str"
  | non : KindV K H .non "NoneType"
  | lst {a : Addr} {xs : List V} (h : SqL K H a xs) : KindV K H (.ref a) "list"
  | tup {a : Addr} {xs : List V} (h : SqT K H a xs) : KindV K H (.ref a) "tuple"
  | dct {a : Addr} {l : List (L2.Key × V)} (h : H a = some (.dK l)) : KindV K H (.ref a) "dict"
theorem s_isiDk {K : PySem.W.Frag} {H : Hp} {Q : VK} {n : String} {a : Addr} {l : List (L2.Key × V)} {b : Bool} (hs : H a = some (.dK l)) (h : kitB "dict" n = some b) (q : Q (.bl b) H) : rIsi K [.ref a, .ty n] H Q := ⟨.ref a, .ty n, _, _, b, rfl, .ty n, .base (.dK hs), kit_ty h, q⟩
theorem k_di : kitB "dict" "int" = some false := by decide +kernel
theorem k_ds : kitB "dict" "str" = some false := by decide +kernel
noncomputable def rListDm : List V → Hp → VK → Prop := fun xs H Q => ∃ p kvs, xs = [.ref p] ∧ H p = some (.dK kvs) ∧ ∀ q, H q = none → Q (.ref q) (upd H q (.lst (kvs.map fun kv => kV kv.1)))
noncomputable def wholeV : V → Bool
  | .int _ => true
  | _ => false
noncomputable def keyV : V → Bool
  | .int i => decide (0 ≤ i ∧ i < 1152921504606846976)
  | _ => false
noncomputable def sizeV : V → Bool
  | .int i => decide (1 ≤ i ∧ i ≤ 8)
  | _ => false
noncomputable def nameV : V → Bool
  | .str x => nameB x
  | _ => false
section
variable {K : PySem.W.Frag} {Z H Z' H' : Hp} {M : List Addr} {v : V} {n : String}
theorem KindV.cases' {motive : Prop} (h : KindV K H v n) (int : ∀ i, v = .int i → motive) (other : wholeV v = false → motive) : motive := by
  cases h with
  | int i => exact int i rfl
  | bl b => exact other rfl
  | str x h => exact other rfl
  | non => exact other rfl
  | lst h => exact other rfl
  | tup h => exact other rfl
  | dct h => exact other rfl
end
theorem keyV_no {v : V} (h : wholeV v = false) : keyV v = false := by
  cases v <;> first | rfl | cases h
theorem sizeV_no {v : V} (h : wholeV v = false) : sizeV v = false := by
  cases v <;> first | rfl | cases h
/-- the attributes of a table -/
noncomputable def tfs (w f : V) (D : Addr) : List (Str × V) := [("wide", w), ("fill", f), ("things", .ref D)]
structure Tb (K : PySem.W.Frag) (Z H : Hp) (a D : Addr) (w f : Int) (l : Row) : Prop where
  at_ : ∃ dx, Z a = some (.ins (clsA K "Table") dx (tfs (.int w) (.int f) D))
  dm : Dm Z H D l
  k1 : Keys1 l
  w0 : 1 ≤ w ∧ w ≤ 8
  f0 : 1 ≤ f ∧ f ≤ 8
  le : l.length ≤ 64
  ks : ∀ e ∈ l, 0 ≤ e.1 ∧ e.1 < 1152921504606846976
/-- how many rooms a table has | a room's keys -/
noncomputable def roomsT (f : Int) (l : Row) : Int := roomsFor (l.length : Int) f
noncomputable def keysT_ (f : Int) (l : Row) (r : Int) : List Int := sortI ((l.filter fun e => decide (roomOf e.1 (roomsT f l) = r)).map Prod.fst)
section
variable {K : PySem.W.Frag} {Z H Z' H' : Hp} {M : List Addr} {a D p : Addr} {w f : Int} {l : Row} {Q : VK} {E : XK}
/-! promises -/
noncomputable def spTCount (K : PySem.W.Frag) : Sp := fun vs H Q _ => ∃ (a D : Addr) (w f : Int) (l : Row) (Z : Hp), vs = [.ref a] ∧ Tb K Z H a D w f l ∧ Q (.int (l.length : Int)) H
noncomputable def spTRooms (K : PySem.W.Frag) : Sp := fun vs H Q _ => ∃ (a D : Addr) (w f : Int) (l : Row) (Z : Hp), vs = [.ref a] ∧ Tb K Z H a D w f l ∧ Q (.int (roomsT f l)) H
noncomputable def spTKeysIn (K : PySem.W.Frag) : Sp := fun vs H Q _ => ∃ (a D : Addr) (w f r : Int) (l : Row) (Z : Hp), vs = [.ref a, .int r] ∧ Tb K Z H a D w f l ∧ ∀ p Z' H', H p = none → T [D] Z H Z' H' → Tb K Z' H' a D w f l → Lm Z' H' p (keysT_ f l r) → Q (.ref p) H'
noncomputable def spTEntries (K : PySem.W.Frag) : Sp := fun vs H Q _ => ∃ (a D : Addr) (w f : Int) (l : Row) (Z : Hp), vs = [.ref a] ∧ Tb K Z H a D w f l ∧ ∀ p Z' H', H p = none → T [] Z H Z' H' → Lm Z' H' p (sortE l) → Q (.ref p) H'
noncomputable def spTCounts (K : PySem.W.Frag) : Sp := fun vs H Q _ => ∃ (a D : Addr) (w f : Int) (l : Row) (Z : Hp), vs = [.ref a] ∧ Tb K Z H a D w f l ∧ ∀ p Z' H', H p = none → T [] Z H Z' H' → Ls Z' p ((spl (sortI (l.map Prod.fst)) (roomsT f l)).map fun r => (r.length : Int)) → Q (.ref p) H'
noncomputable def spTSpill (K : PySem.W.Frag) : Sp := fun vs H Q _ => ∃ (a D : Addr) (w f : Int) (l : Row) (Z : Hp), vs = [.ref a] ∧ Tb K Z H a D w f l ∧ ∀ Z' H', T [] Z H Z' H' → Q (.int (spillI ((spl (sortI (l.map Prod.fst)) (roomsT f l)).map fun r => (r.length : Int)) w)) H'
/-- the most rows of a room, the first such room -/
noncomputable def longI (ns : List Int) (w m : Int) (j : Nat) : Prop := m = maxI (ns.map fun m => rowsI m w) ∧ (ns.map fun m => rowsI m w)[j]? = some m ∧ ∀ i, i < j → (ns.map fun m => rowsI m w)[i]? ≠ some m
noncomputable def spTLongest (K : PySem.W.Frag) : Sp := fun vs H Q _ => ∃ (a D : Addr) (w f : Int) (l : Row) (Z : Hp), vs = [.ref a] ∧ Tb K Z H a D w f l ∧ ∀ p m j Z' H', H p = none → T [] Z H Z' H' → longI ((spl (sortI (l.map Prod.fst)) (roomsT f l)).map fun r => (r.length : Int)) w m j → Z' p = some (.tup [.int m, .int (j : Nat)]) → Q (.ref p) H'
/-- what a put tells -/
noncomputable def PutTold (Z H Z' H' : Hp) (f : Int) (l l' : Row) (r : V) : Prop :=
  if roomsT f l' = roomsT f l then r = .non else ∃ p c, r = .ref p ∧ H p = none ∧ H c = none ∧ Z' p = some (.tup [.int (roomsT f l - whole (roomsT f l)), .int (roomsT f l), .ref c]) ∧ Lm Z' H' c (keysT_ f l' (roomsT f l))
noncomputable def spTPut (K : PySem.W.Frag) : Sp := fun vs H Q E => ∃ (a D : Addr) (w f : Int) (l : Row) (Z : Hp) (v t : V) (n m : String), vs = [.ref a, v, t] ∧ Tb K Z H a D w f l ∧ KindV K H v n ∧ KindV K H t m ∧
  (keyV v = false → ∀ d, H d = none → E (.ref (clsA K "NoKey")) (some d) (upd H d (.xd [("key", v)]))) ∧
  (keyV v = true → nameV t = false → ∀ d, H d = none → E (.ref (clsA K "NoThing")) (some d) (upd H d (.xd [("thing", t)]))) ∧
  ∀ k x, v = .int k → t = .str x.1 → keyV v = true → nameV t = true →
    (k ∉ l.map Prod.fst → l.length = 64 → ∀ d, H d = none → E (.ref (clsA K "Full")) (some d) (upd H d (.xd [("many", .int 64)]))) ∧
    ((k ∈ l.map Prod.fst ∨ l.length < 64) → ∀ r Z' H', T [D] Z H Z' H' → Tb K Z' H' a D w f (setE l k x) → PutTold Z H Z' H' f l (setE l k x) r → Q r H')
end
end TR
namespace TR
open PySem L2
section
variable {K : PySem.W.Frag} {Z H Z' H' : Hp} {M : List Addr} {a d p : Addr} {l : Row} {Q : VK}
end
end TR
namespace TR
open PySem L2
end TR

namespace TR
open PySem L2
/-- a room's rows of entries -/
noncomputable def entOf (l : Row) (k : Int) : Ent := (k, (thingOf l k).getD ⟨"", by decide +kernel⟩)
noncomputable def rowsE (w f : Int) (l : Row) (r : Int) : List Row := (rowsOf (keysT_ f l r) w).map fun ks => ks.map (entOf l)
noncomputable def spTRoom (K : PySem.W.Frag) : Sp := fun vs H Q E => ∃ (a D : Addr) (w f : Int) (l : Row) (Z : Hp) (v : V) (n : String), vs = [.ref a, v] ∧ Tb K Z H a D w f l ∧ KindV K H v n ∧
  ((∀ r, v = .int r → ¬ (0 ≤ r ∧ r < roomsT f l)) → ∀ d, H d = none → E (.ref (clsA K "NoRoom")) (some d) (upd H d (.xd [("number", v)]))) ∧
  ∀ r, v = .int r → 0 ≤ r ∧ r < roomsT f l → ∀ (p : Addr) (ws : List Addr) Z' H', T [D] Z H Z' H' → Tb K Z' H' a D w f l → (p :: ws).Nodup → (∀ b ∈ p :: ws, H b = none) → Z' p = some (.lst (ws.map V.ref)) → Paired (fun x rw => Ls Z' x rw) ws (rowsE w f l r) → Q (.ref p) H'
noncomputable def spTTwin (K : PySem.W.Frag) : Sp := fun vs H Q _ => ∃ (a D : Addr) (w f : Int) (l : Row) (Z : Hp), vs = [.ref a] ∧ Tb K Z H a D w f l ∧ ∀ b D2 Z' H', H b = none → H D2 = none → T [] Z H Z' H' → Tb K Z' H' b D2 w f l → Q (.ref b) H'
noncomputable def spTInit (K : PySem.W.Frag) : Sp := fun vs H Q E => ∃ (a dx : Addr) (v u : V) (n m : String), vs = [.ref a, v, u] ∧ H a = some (.ins (clsA K "Table") dx []) ∧ KindV K H v n ∧ KindV K H u m ∧
  (sizeV v = true → sizeV u = true → ∀ D H', H D = none → (∀ b o, b ≠ a → H b = some o → H' b = some o) → H' a = some (.ins (clsA K "Table") dx (tfs v u D)) → H' D = some (.dK []) → Q .non H') ∧
  (sizeV v = false → ∀ H' d, Ex H H' → H' d = none → E (.ref (clsA K "NoSize")) (some d) (upd H' d (.xd [("thing", v)]))) ∧
  (sizeV v = true → sizeV u = false → ∀ H' d, Ex H H' → H' d = none → E (.ref (clsA K "NoSize")) (some d) (upd H' d (.xd [("thing", u)])))
end TR
namespace TR
open PySem L2
end TR

/-! keepers: a yard, and the steps that are left -/
namespace TR
open PySem L2
noncomputable def kfs (w f : Int) (u : V) (P : Addr) : List (Str × V) := [("wide", .int w), ("fill", .int f), ("now", u), ("waiting", .ref P)]
structure Kp (K : PySem.W.Frag) (Z H : Hp) (a P : Addr) (w f : Int) (y : Yard) (ss : List Stp) : Prop where
  ob : ∃ dx u, H a = some (.ins (clsA K "Keeper") dx (kfs w f u P)) ∧ Ik Z u y
  wl : Lm Z H P ss
  za : Z a = none
  na : a ≠ P
  w0 : 1 ≤ w ∧ w ≤ 8
  f0 : 1 ≤ f ∧ f ≤ 8
  ya : y.a = w
section
variable {K : PySem.W.Frag} {Z H Z' H' : Hp} {M : List Addr} {a P : Addr} {w f : Int} {y : Yard} {ss : List Stp}
end
/-- how many rooms there have to be -/
noncomputable def wantK (f : Int) (y : Yard) : Int := roomsFor ((standY y).length : Int) f
noncomputable def SettledP (f : Int) (y : Yard) (ss : List Stp) : Prop := ss = [] ∧ CleanP y ∧ y.b = wantK f y
/-- rooms more or fewer, one by one -/
noncomputable def growN (w want : Int) (es : Row) : Nat → Int → List Stp
  | 0, _ => []
  | n + 1, r => if want < r then joinS (cleanY w r es) ++ growN w want es n (r - 1) else splitS (cleanY w r es) ++ growN w want es n (r + 1)
noncomputable def growS (w f : Int) (es : Row) (r : Int) : List Stp := growN w (roomsFor (es.length : Int) f) es (r - roomsFor (es.length : Int) f).natAbs r
noncomputable def spKInit (K : PySem.W.Frag) : Sp := fun vs H Q E => ∃ (a dx : Addr) (v u : V) (n m : String) (Z : Hp), vs = [.ref a, v, u] ∧ H a = some (.ins (clsA K "Keeper") dx []) ∧ Ex Z H ∧ Z a = none ∧ KindV K H v n ∧ KindV K H u m ∧
  (∀ w f, v = .int w → u = .int f → 1 ≤ w ∧ w ≤ 8 → 1 ≤ f ∧ f ≤ 8 → ∀ P Z' H', T [a] Z H Z' H' → H P = none → Kp K Z' H' a P w f (cleanY w 1 []) [] → Q .non H') ∧
  (sizeV v = false → ∀ H' d, Ex H H' → H' d = none → E (.ref (clsA K "NoSize")) (some d) (upd H' d (.xd [("thing", v)]))) ∧
  (sizeV v = true → sizeV u = false → ∀ H' d, Ex H H' → H' d = none → E (.ref (clsA K "NoSize")) (some d) (upd H' d (.xd [("thing", u)])))
noncomputable def spKWanted (K : PySem.W.Frag) : Sp := fun vs H Q _ => ∃ (a P : Addr) (w f : Int) (y0 : Yard) (ss : List Stp) (Z : Hp) (v : V) (y : Yard), vs = [.ref a, v] ∧ Kp K Z H a P w f y0 ss ∧ Ik Z v y ∧ YB y ∧
  ∀ Z' H', T [] Z H Z' H' → Q (.int (wantK f y)) H'
noncomputable def spKSettled (K : PySem.W.Frag) : Sp := fun vs H Q _ => ∃ (a P : Addr) (w f : Int) (y : Yard) (ss : List Stp) (Z : Hp), vs = [.ref a] ∧ Kp K Z H a P w f y ss ∧ YB y ∧ (allE y.c).length ≤ 4000 ∧
  ∀ (b : Bool) Z' H', (b = true ↔ SettledP f y ss) → T [] Z H Z' H' → Q (.bl b) H'
noncomputable def spKNeed (K : PySem.W.Frag) : Sp := fun vs H Q E => ∃ (a P : Addr) (w f : Int) (y : Yard) (ss : List Stp) (Z : Hp), vs = [.ref a] ∧ Kp K Z H a P w f y ss ∧ YB y ∧ (allE y.c).length ≤ 4000 ∧
  (SettledP f y ss → ∀ Z' H', T [] Z H Z' H' → Q .non H') ∧ (¬ SettledP f y ss → ∀ Z' H', T [] Z H Z' H' → E (.ref (clsA K "Busy")) none H')
noncomputable def spKBegin (K : PySem.W.Frag) : Sp := fun vs H Q _ => ∃ (a P : Addr) (w f : Int) (y : Yard) (ss : List Stp) (Z : Hp) (sv : V) (st : List Stp) (r : Int) (es : Row), vs = [.ref a, sv] ∧ Kp K Z H a P w f y ss ∧ Ik Z sv st ∧ YLen y ∧ (∀ s ∈ st, StpOk s) ∧ st.length ≤ 40000 ∧
  st.foldl doneY y = cleanY w r es ∧ Keys1 es ∧ es.length ≤ 100 ∧ 1 ≤ r ∧ r ≤ 130 ∧
  ∀ P' Z' H', T [a] Z H Z' H' → H P' = none → Kp K Z' H' a P' w f y (st ++ growS w f es r) → Q (.int ((st ++ growS w f es r).length : Int)) H'
end TR
namespace TR
open PySem L2
noncomputable def spKEntries (K : PySem.W.Frag) : Sp := fun vs H Q _ => ∃ (a P : Addr) (w f : Int) (y : Yard) (ss : List Stp) (Z : Hp), vs = [.ref a] ∧ Kp K Z H a P w f y ss ∧ YB y ∧
  ∀ D Z' H', T [] Z H Z' H' → Ls Z' D (standY y) → Q (.ref D) H'
noncomputable def spKYard (K : PySem.W.Frag) : Sp := fun vs H Q _ => ∃ (a P : Addr) (w f : Int) (y : Yard) (ss : List Stp) (Z : Hp), vs = [.ref a] ∧ Kp K Z H a P w f y ss ∧ YLen y ∧
  ∀ (p D : Addr) (qs F : List Addr) Z' H', T [] Z H Z' H' → Z' p = some (.tup [.int y.a, .int y.b, .ref D]) → Y3 Z' H' D qs F y.c → (∀ b ∈ D :: (qs ++ F), H b = none) → Q (.ref p) H'
/-- stop | run -/
noncomputable def spKStop (K : PySem.W.Frag) : Sp := fun vs H Q _ => ∃ (a P : Addr) (w f : Int) (y : Yard) (ss : List Stp) (Z : Hp), vs = [.ref a] ∧ Kp K Z H a P w f y ss ∧
  ∀ P' Z' H', T [a] Z H Z' H' → H P' = none → Kp K Z' H' a P' w f y [] → Q (.int (ss.length : Int)) H'
noncomputable def spKRun (K : PySem.W.Frag) : Sp := fun vs H Q _ => ∃ (a P : Addr) (w f : Int) (y : Yard) (ss : List Stp) (Z : Hp), vs = [.ref a] ∧ Kp K Z H a P w f y ss ∧ YLen y ∧ (∀ s ∈ ss, StpOk s) ∧
  ∀ P' Z' H', T [a, P] Z H Z' H' → H P' = none → Kp K Z' H' a P' w f (ss.foldl doneY y) [] → Q (.int (ss.length : Int)) H'
/-- a told step: its row is the asker's own -/
noncomputable def ToldS (Z H : Hp) (v : V) : Stp → Prop
  | .row r b w => ∃ p q, v = .ref p ∧ Z p = some (.tup [.str "row", .int r, .int b, .ref q]) ∧ Lm Z H q w
  | s => Ik Z v s
/-- the rows that the asker may change -/
noncomputable def toldA : V → Hp → List Addr
  | .ref p, Z => match Z p with | some (.tup [.str _, .int _, .int _, .ref q]) => [q] | _ => []
  | _, _ => []
noncomputable def spToldStep (K : PySem.W.Frag) : Sp := fun vs H Q _ => ∃ (v : V) (Z Z0 : Hp) (s : Stp), vs = [v] ∧ Ex Z H ∧ Ex Z0 Z ∧ Ik Z0 v s ∧
  (∀ r b w, s = .row r b w → ∀ p q Z' H', T [] Z H Z' H' → H q = none → Z' p = some (.tup [.str "row", .int r, .int b, .ref q]) → Mu Z' H' q → RowF Z0 H' q w → Q (.ref p) H') ∧
  ((∀ r b w, s ≠ .row r b w) → Q v H)
end TR
namespace TR
open PySem L2
noncomputable def ToldV (H Z' H' : Hp) (v : V) : Stp → Prop
  | .row r b w => ∃ p q, v = .ref p ∧ Z' p = some (.tup [.str "row", .int r, .int b, .ref q]) ∧ Lm Z' H' q w ∧ H q = none
  | s => Ik Z' v s
noncomputable def spKStep (K : PySem.W.Frag) : Sp := fun vs H Q _ => ∃ (a P : Addr) (w f : Int) (y : Yard) (ss : List Stp) (Z : Hp), vs = [.ref a] ∧ Kp K Z H a P w f y ss ∧ YLen y ∧ (∀ s ∈ ss, StpOk s) ∧ ss.length ≤ 90000 ∧
  (ss = [] → ∀ Z' H', T [] Z H Z' H' → Q .non H') ∧
  (∀ s ss', ss = s :: ss' → ∀ v Z' H', T [a, P] Z H Z' H' → Kp K Z' H' a P w f (doneY y s) ss' → ToldV H Z' H' v s → Q v H')
noncomputable def spKMend (K : PySem.W.Frag) : Sp := fun vs H Q E => ∃ (a P : Addr) (w f : Int) (y : Yard) (ss : List Stp) (Z : Hp), vs = [.ref a] ∧ Kp K Z H a P w f y ss ∧ YB y ∧ (allE y.c).length ≤ 9000 ∧ trimR y.c = y.c ∧ (standY y).length ≤ 100 ∧ y.b ≤ 130 ∧ y.a ≤ 8 ∧
  (ss ≠ [] → ∀ Z' H', T [] Z H Z' H' → E (.ref (clsA K "Busy")) none H') ∧
  (ss = [] → ∀ P' Z' H', T [a] Z H Z' H' → H P' = none → Kp K Z' H' a P' w f y (mendS y ++ growS w f (standY y) y.b) → Q (.int ((mendS y ++ growS w f (standY y) y.b).length : Int)) H')
noncomputable def dropKS (f : Int) (y : Yard) (k : Int) : List Stp := dropS y k ++ growS y.a f (outE (standY y) k) y.b
noncomputable def putKS (f : Int) (y : Yard) (k : Int) (t : Tx) : List Stp := putS y k t ++ growS y.a f (putE (standY y) k t) y.b
noncomputable def spKDrop (K : PySem.W.Frag) : Sp := fun vs H Q E => ∃ (a P : Addr) (w f : Int) (y : Yard) (ss : List Stp) (Z : Hp) (v : V) (n : String), vs = [.ref a, v] ∧ Kp K Z H a P w f y ss ∧ YB y ∧ (allE y.c).length ≤ 4000 ∧ (standY y).length ≤ 64 ∧ y.b ≤ 130 ∧ KindV K H v n ∧
  (keyV v = false → ∀ d, H d = none → E (.ref (clsA K "NoKey")) (some d) (upd H d (.xd [("key", v)]))) ∧
  ∀ k, v = .int k → keyV v = true →
    (¬ SettledP f y ss → ∀ Z' H', T [] Z H Z' H' → E (.ref (clsA K "Busy")) none H') ∧
    (SettledP f y ss → k ∉ (standY y).map Prod.fst → ∀ d Z' H', T [] Z H Z' H' → H' d = none → E (.ref (clsA K "Lacking")) (some d) (upd H' d (.xd [("key", .int k)]))) ∧
    (SettledP f y ss → k ∈ (standY y).map Prod.fst → ∀ P' Z' H', T [a] Z H Z' H' → H P' = none → Kp K Z' H' a P' w f y (dropKS f y k) → Q (.int ((dropKS f y k).length : Int)) H')
noncomputable def spKPut (K : PySem.W.Frag) : Sp := fun vs H Q E => ∃ (a P : Addr) (w f : Int) (y : Yard) (ss : List Stp) (Z : Hp) (v t : V) (n m : String), vs = [.ref a, v, t] ∧ Kp K Z H a P w f y ss ∧ YB y ∧ (allE y.c).length ≤ 4000 ∧ (standY y).length ≤ 64 ∧ y.b ≤ 130 ∧ KindV K H v n ∧ KindV K H t m ∧
  (keyV v = false → ∀ d, H d = none → E (.ref (clsA K "NoKey")) (some d) (upd H d (.xd [("key", v)]))) ∧
  (keyV v = true → nameV t = false → ∀ d, H d = none → E (.ref (clsA K "NoThing")) (some d) (upd H d (.xd [("thing", t)]))) ∧
  ∀ k x, v = .int k → t = .str x.1 → keyV v = true → nameV t = true →
    (¬ SettledP f y ss → ∀ Z' H', T [] Z H Z' H' → E (.ref (clsA K "Busy")) none H') ∧
    (SettledP f y ss → k ∉ (standY y).map Prod.fst → (standY y).length = 64 → ∀ d Z' H', T [] Z H Z' H' → H' d = none → E (.ref (clsA K "Full")) (some d) (upd H' d (.xd [("many", .int 64)]))) ∧
    (SettledP f y ss → (k ∈ (standY y).map Prod.fst ∨ (standY y).length < 64) → ∀ P' Z' H', T [a] Z H Z' H' → H P' = none → Kp K Z' H' a P' w f y (putKS f y k x) → Q (.int ((putKS f y k x).length : Int)) H')
end TR
namespace TR
open PySem L2
section
variable {K : PySem.W.Frag} {Z H Z' H' : Hp} {a P P' : Addr} {w f : Int} {y y' : Yard} {ss ss' : List Stp} {v : V} {R : Hp → Prop}
end
end TR
namespace TR
open PySem L2
end TR
namespace TR
open PySem L2
end TR
namespace TR
open PySem L2
end TR
namespace TR
open PySem L2
noncomputable def spKFind (K : PySem.W.Frag) : Sp := fun vs H Q E => ∃ (a P : Addr) (w f : Int) (y : Yard) (ss : List Stp) (Z : Hp) (v : V) (n : String), vs = [.ref a, v] ∧ Kp K Z H a P w f y ss ∧ YardOk y ∧ KindV K H v n ∧
  (keyV v = false → ∀ d, H d = none → E (.ref (clsA K "NoKey")) (some d) (upd H d (.xd [("key", v)]))) ∧
  ∀ k, v = .int k → keyV v = true →
    (fY y k = none → ∀ d Z' H', T [] Z H Z' H' → H' d = none → E (.ref (clsA K "Lacking")) (some d) (upd H' d (.xd [("key", .int k)]))) ∧
    (∀ x, fY y k = some x → ∀ p Z' H', T [] Z H Z' H' → H p = none → Z' p = some (.tup [.str x.1, .int (foundI y k).2]) → Q (.ref p) H')
end TR

/-! what is due of a settled keeper -/
namespace TR
open PySem L2
end TR
namespace TR
open PySem L2
/-- all the stops of a keeper's steps are small yards -/
structure FitK (y : Yard) (ss : List Stp) : Prop where
  yb : ∀ m, YB ((ss.take m).foldl doneY y) ∧ (allE ((ss.take m).foldl doneY y).c).length ≤ 4000
  ok : ∀ s ∈ ss, StpOk s
  ln : ss.length ≤ 39000
end TR
namespace TR
open PySem L2
end TR

/-! a bound for all that a keeper can reach: rooms and places below N, rows of at most 8, keys out of ks -/
namespace TR
open PySem L2
noncomputable def StpN (N : Nat) (ks : List Int) : Stp → Prop
  | .rooms m => 1 ≤ m ∧ m ≤ N
  | .cut r m => 0 ≤ r ∧ r < N ∧ 0 ≤ m
  | .row r b w => 0 ≤ r ∧ r < N ∧ 0 ≤ b ∧ b < N ∧ w.length ≤ 8 ∧ ∀ e ∈ w, e.1 ∈ ks
end TR
namespace TR
open PySem L2
/-- all rows are so -/
noncomputable def AllR (P : Row → Prop) (c : List (List Row)) : Prop := ∀ rs ∈ c, ∀ r ∈ rs, P r
end TR
namespace TR
open PySem L2
/-- a yard within the bound -/
structure YN (N : Nat) (w : Int) (ks : List Int) (y : Yard) : Prop where
  a : y.a = w
  b : 1 ≤ y.b ∧ y.b ≤ N
  hb : HB N N 8 y.c
  ky : AllR (fun r => ∀ e ∈ r, e.1 ∈ ks) y.c
  tr : trimR y.c = y.c
end TR
namespace TR
open PySem L2
end TR
namespace TR
open PySem L2
/-! the steps of the changes are within the bound -/
section
variable {N R : Nat} {ks : List Int} {rows now : List Row} {w r k : Int} {es : Row} {t : Tx}
noncomputable def RowsN (N : Nat) (ks : List Int) (rows : List Row) : Prop := rows.length ≤ N ∧ ∀ x ∈ rows, x.length ≤ 8 ∧ ∀ e ∈ x, e.1 ∈ ks
/-- entries within the bound -/
structure EsN (N : Nat) (ks : List Int) (es : Row) : Prop where
  k1 : Keys1 es
  ky : ∀ e ∈ es, e.1 ∈ ks
  ln : es.length + 2 ≤ N
end
end TR
namespace TR
open PySem L2
section
variable {N R : Nat} {ks : List Int} {w r k f : Int} {es : Row} {t : Tx} {y : Yard} {ss : List Stp}
/-- what a keeper can reach: within the bound, and settled in the end -/
structure KI (N : Nat) (w f : Int) (ks : List Int) (y : Yard) (ss : List Stp) : Prop where
  yn : YN N w ks y
  ok : ∀ s ∈ ss, StpN N ks s
  ln : ss.length ≤ N * (3 * N + 4)
  en : SettledP f (ss.foldl doneY y) []
end
end TR

/-! stops, room by room: what stands there is found, and the rows ahead of it are passed -/
namespace TR
open PySem L2
noncomputable def PassR (w : Nat) (L : Row) (X : List Row) : Prop := ∀ (p : Nat) (e : Ent), L[p]? = some e → ∀ row ∈ X.take (p / w), lastGe (row.map Prod.fst) e.1 = false
noncomputable def RoomI (w : Nat) (es : Row) (b : Int) (i : Nat) (X : List Row) : Prop := RoomG es b i X ∧ X ≠ [] ∧ PassR w (partE b es i) X
noncomputable def GoodI (w : Nat) (es : Row) (y : Yard) : Prop := 1 ≤ y.b ∧ ∀ i, i < y.b.toNat → ∃ X, y.c[i]? = some X ∧ RoomI w es y.b i X
end TR
namespace TR
open PySem L2
end TR

/-! laws over tables -/
namespace TR
open PySem L2
noncomputable def cutG {α : Type} (w : Nat) (l : List α) : List (List α) := if h : w = 0 ∨ l.length ≤ w then [l] else l.take w :: cutG w (l.drop w)
termination_by l.length
decreasing_by exact drop_lt h
structure T6 (α β γ δ ε ζ : Type) where
  a : α
  b : β
  c : γ
  d : δ
  e : ε
  f : ζ
  deriving DecidableEq
instance {α β γ δ ε ζ : Type} [Py α] [Py β] [Py γ] [Py δ] [Py ε] [Py ζ] : Py (T6 α β γ δ ε ζ) := ⟨fun p => .tuple [Py.d p.a, Py.d p.b, Py.d p.c, Py.d p.d, Py.d p.e, Py.d p.f], max (Py.dep α) (max (Py.dep β) (max (Py.dep γ) (max (Py.dep δ) (max (Py.dep ε) (Py.dep ζ))))) + 1, fun p => by
    simp only [PyData.depth, PyData.depthAll]
    have h1 := Py.depth p.a
    have h2 := Py.depth p.b
    have h3 := Py.depth p.c
    have h4 := Py.depth p.d
    have h5 := Py.depth p.e
    have h6 := Py.depth p.f
    omega, fun p => by simp only [PyData.canLay0, PyData.canLayAll0, Py.can]; rfl, fun a b => by
    obtain ⟨a1, a2, a3, a4, a5, a6⟩ := a
    obtain ⟨b1, b2, b3, b4, b5, b6⟩ := b
    simp only [PyData.eqv, PyData.eqvAll, Bool.and_true, Bool.and_eq_true, Py.eqv, T6.mk.injEq]⟩
end TR
namespace TR
open PySem L2
section
variable {K : PySem.W.Frag} {σ : L2.St} {Z H : Hp} {te : TE} {Q : VK} {E : XK} {g : TG} {vs : List Nat} {a D : Addr} {w f : Int} {l : Row}
end
end TR
namespace TR
open PySem L2
end TR
namespace TR
open PySem L2
section
variable {K : PySem.W.Frag} {Z H Z' H' : Hp} {Q : VK} {E : XK} {a D : Addr} {w f : Int} {l : Row}
end
end TR
namespace TR
open PySem L2
end TR
namespace TR
open PySem L2
end TR
namespace TR
open PySem L2
end TR

/-! tables: what a drop tells -/
namespace TR
open PySem L2
noncomputable def spTNeed (K : PySem.W.Frag) : Sp := fun vs H Q E => ∃ (a D : Addr) (w f : Int) (l : Row) (Z : Hp) (v : V) (n : String), vs = [.ref a, v] ∧ Tb K Z H a D w f l ∧ KindV K H v n ∧
  (keyV v = false → ∀ d, H d = none → E (.ref (clsA K "NoKey")) (some d) (upd H d (.xd [("key", v)]))) ∧
  ∀ k, v = .int k → keyV v = true →
    (k ∉ l.map Prod.fst → ∀ d, H d = none → E (.ref (clsA K "Lacking")) (some d) (upd H d (.xd [("key", v)]))) ∧
    (k ∈ l.map Prod.fst → Q .non H)
noncomputable def DropTold (Z H Z' H' : Hp) (f : Int) (l : Row) (k : Int) (r : V) : Prop :=
  if roomsT f (outE l k) = roomsT f l then r = .non else ∃ p c, r = .ref p ∧ H p = none ∧ H c = none ∧ Z' p = some (.tup [.int (roomsT f l - 1), .int (roomsT f l - 1 - whole (roomsT f l - 1)), .ref c]) ∧ Lm Z' H' c ((keysT_ f l (roomsT f l - 1)).filter fun x => decide (x ≠ k))
noncomputable def spTDrop (K : PySem.W.Frag) : Sp := fun vs H Q E => ∃ (a D : Addr) (w f : Int) (l : Row) (Z : Hp) (v : V) (n : String), vs = [.ref a, v] ∧ Tb K Z H a D w f l ∧ KindV K H v n ∧
  (keyV v = false → ∀ d, H d = none → E (.ref (clsA K "NoKey")) (some d) (upd H d (.xd [("key", v)]))) ∧
  ∀ k, v = .int k → keyV v = true →
    (k ∉ l.map Prod.fst → ∀ d, H d = none → E (.ref (clsA K "Lacking")) (some d) (upd H d (.xd [("key", v)]))) ∧
    (k ∈ l.map Prod.fst → ∀ r Z' H', T [D] Z H Z' H' → Tb K Z' H' a D w f (outE l k) → DropTold Z H Z' H' f l k r → Q r H')
end TR
namespace TR
open PySem L2
end TR

/-! all the stops of a keeper's steps: what stands there is found, and there are about as many rooms as there have to be -/
namespace TR
open PySem L2
/-- steps whose numbers of rooms are q alone -/
noncomputable def RoomsQ (q : Int) (ss : List Stp) : Prop := ∀ s ∈ ss, ∀ m, s = .rooms m → m = q
section
variable {w r k want f : Int} {es : Row} {t : Tx} {y : Yard} {ss : List Stp}
/-- what stands at a stop, and how many rooms there are -/
structure GoodK (w f : Int) (es : Row) (y : Yard) : Prop where
  ya : y.a = w
  g : GoodI w.toNat es y
  n : (y.b - roomsFor (es.length : Int) f).natAbs ≤ 1
/-- all the stops -/
noncomputable def KG (w f : Int) (y : Yard) (ss : List Stp) : Prop := ∀ m, ∃ es, Keys1 es ∧ GoodK w f es ((ss.take m).foldl doneY y)
end
end TR

/-! a text among texts -/
namespace TR
open PySem L2
end TR

/-! what is seen of keys -/
namespace TR
open PySem L2
noncomputable def tNoneT : Tx := ⟨"none", by decide +kernel⟩
/-- what asking for a key tells: the thing and the looks, or none and the key -/
noncomputable def askD (y : Yard) (k : Int) : Tx × Int := match fY y k with | some x => (x, (foundI y k).2) | none => (tNoneT, k)
noncomputable def seenE (es : Row) (ks : List Int) : Row := ks.filterMap fun k => (thingOf es k).map fun t => (k, t)
end TR

/-! the changes of a clean yard by the words of a law, their stops, and what mends them -/
namespace TR
open PySem L2
noncomputable def chgW (way : Str) (y : Yard) (k : Int) (t : Tx) : List Stp := if way = "split" then splitS y else if way = "join" then joinS y else if way = "drop" then dropS y k else putS y k t
section
variable {N : Nat} {w r k : Int} {es : Row} {t : Tx} {way : Str} {ks : List Int} {y : Yard}
end
section
variable {N : Nat} {w : Int} {ks : List Int} {y : Yard}
/-- a yard that can be mended: what stands in it, and its bounds -/
structure MY (w : Int) (ks : List Int) (es : Row) (y : Yard) : Prop where
  k1 : Keys1 es
  g : GoodI w.toNat es y
  yn : YN 27 w ks y
end
noncomputable def isRowB : Stp → Bool
  | .row _ _ _ => true
  | _ => false
end TR

/-! told steps: a list of them, each row the asker's own -/
namespace TR
open PySem L2
/-- a told step as it stands (its row with it): fp the row -/
noncomputable def ToldF (Z0 Z : Hp) (fp : List Addr) (v : V) : Stp → Prop
  | .row r b w => ∃ p q, fp = [q] ∧ v = .ref p ∧ Z p = some (.tup [.str "row", .int r, .int b, .ref q]) ∧ RowF Z0 Z q w
  | s => fp = [] ∧ Ik Z0 v s
/-- a list of told steps: D the list, vs what it holds, L the rows -/
structure Told (Z H : Hp) (D : Addr) (vs : List V) (L : List (List Addr)) (ss : List Stp) : Prop where
  own : H D = some (.lst vs)
  nd : (D :: L.flatten).Nodup
  z : ∀ q ∈ D :: L.flatten, Z q = none
  zh : Ex Z H
  ln : L.length = ss.length
  it : ∀ (i : Nat) v (s : Stp) fp, vs[i]? = some v → ss[i]? = some s → L[i]? = some fp → match s with
    | .row r b w => ∃ p q, fp = [q] ∧ v = .ref p ∧ Z p = some (.tup [.str "row", .int r, .int b, .ref q]) ∧ RowO Z H q w
    | s => fp = [] ∧ Ik Z v s
  lv : vs.length = ss.length
section
variable {K : PySem.W.Frag} {σ : L2.St} {H Z : Hp} {te : TE} {Q : VK} {g : TG} {vs : List Nat}
end
noncomputable def spKLeft (K : PySem.W.Frag) : Sp := fun vs H Q _ => ∃ (a P : Addr) (w f : Int) (y : Yard) (ss : List Stp) (Z : Hp), vs = [.ref a] ∧ Kp K Z H a P w f y ss ∧ ss.length ≤ 40000 ∧
  ∀ (D : Addr) (ys : List V) (L : List (List Addr)) Z' H', T [] Z H Z' H' → Told Z' H' D ys L ss → (∀ b ∈ D :: L.flatten, H b = none) → Q (.ref D) H'
end TR

/-! told steps that stay as they are; a told step as data -/
namespace TR
open PySem L2
section
variable {K : PySem.W.Frag} {Z H Z' H' : Hp} {M : List Addr} {D : Addr} {vs : List V} {L : List (List Addr)} {ss : List Stp}
end
noncomputable def StpW : Stp → Prop
  | .row _ _ w => w.length ≤ 1000
  | _ => True
noncomputable def tZz : Tx := ⟨"zz", by decide +kernel⟩
/-- the first word of a step -/
noncomputable def stpN : Stp → Str
  | .rooms _ => "rooms"
  | .cut _ _ => "cut"
  | .row _ _ _ => "row"
end TR

/-! lists within lists, to any depth, that the asker may change -/
namespace TR
open PySem L2
noncomputable def notL : PyData → Bool
  | .list _ => false
  | _ => true
/-- v stands in H as x; its lists are M, and may be changed; what is no list stays -/
noncomputable def Ow : Nat → Hp → Hp → V → PyData → List Addr → Prop
  | 0, _, _, _, _, _ => False
  | d + 1, Z, H, v, x, M => (notL x = true ∧ Dt Z v x ∧ M = []) ∨
      ∃ (p : Addr) (us : List V) (L : List (PyData × List Addr)), v = .ref p ∧ H p = some (.lst us) ∧ Z p = none ∧ x = .list (L.map Prod.fst) ∧ M = p :: (L.map Prod.snd).flatten ∧ L.length ≤ 40000 ∧ Paired (fun u q => Ow d Z H u q.1 q.2) us L
theorem rg_take {β : Type} (xs : List β) : ∀ k, (List.range k).filterMap (fun i => xs[i]?) = xs.take k
  | 0 => rfl
  | k + 1 => by
    rw [List.range_succ, List.filterMap_append, rg_take xs k, List.take_add_one]
    congr 1
    all_goals (cases h : xs[k]? <;> simp [List.filterMap, h])
theorem pair_at {β γ : Type} {F : β → γ → Prop} : ∀ {xs : List β} {ys : List γ}, Paired F xs ys → ∀ {i : Nat} {x : β}, xs[i]? = some x → ∃ y, ys[i]? = some y ∧ F x y
  | _, _, .nil, i, x, h => by simp at h
  | _, _, .cons a t, 0, x, h => by cases h; exact ⟨_, rfl, a⟩
  | _, _, .cons a t, i + 1, x, h => pair_at t h
section
variable {K : PySem.W.Frag} {M N : List Addr} {Z H Z' H' : Hp} {v : V} {x : PyData} {d : Nat}
theorem dtAll_of {us : List V} {ds : List PyData} (h : Paired (fun u x => Dt H u x) us ds) : DtAll H us ds := by
  induction h with
  | nil => exact .nil
  | cons a t ih => exact .cons a ih
end
section
variable {K : PySem.W.Frag} {σ : L2.St} {H Z : Hp} {te : TE} {Q : VK} {g : TG} {vs : List Nat} {d : Nat} {p : Addr} {us : List V} {L : List (PyData × List Addr)}
end
theorem flat_dis {Ms : List (List Addr)} (nd : Ms.flatten.Nodup) {i j : Nat} {A B : List Addr} (hi : Ms[i]? = some A) (hj : Ms[j]? = some B) (h : i < j) : ∀ b ∈ B, b ∉ A := by
  obtain ⟨i1, e1⟩ := List.getElem?_eq_some_iff.mp hi
  obtain ⟨j1, e2⟩ := List.getElem?_eq_some_iff.mp hj
  have n2 := (List.pairwise_flatten.mp nd).2
  have n3 := List.pairwise_iff_getElem.mp n2 i j i1 j1 h
  rw [e1, e2] at n3
  exact fun b hb ha => n3 b ha b hb rfl
theorem flat_nd {Ms : List (List Addr)} (nd : Ms.flatten.Nodup) {A : List Addr} (h : A ∈ Ms) : A.Nodup := (List.pairwise_flatten.mp nd).1 A h
section
variable {K : PySem.W.Frag} {σ : L2.St} {H Z : Hp} {D : Ends} {g : TG} {ts : TS} {d : Nat} {p : Addr} {us : List V} {L : List (PyData × List Addr)}
end
end TR

namespace TR
/-- the keys of a key's room, and how many looks it costs -/
noncomputable def rowK (ks : List Int) (n k : Int) : List Int := (sortI ks).filter fun x => decide (roomOf x n = roomOf k n)
noncomputable def lookI (ks : List Int) (n w k : Int) : Int := 1 + (less (rowK ks n k) k : Int) / w
noncomputable def looksP (ks : List Int) (n w : Int) : List (Int × Int) := (sortI ks).map fun k => (k, lookI ks n w k)
/-- the keys of a room among the first ones -/
noncomputable def cntS (ks : List Int) (n : Int) (j : Nat) (r : Int) : Int := ((((sortI ks).take j).filter fun x => decide (roomOf x n = r)).length : Int)
/-- the looks of a room's keys, and their sum -/
noncomputable def lookRow (m : Nat) (w : Int) : List Int := (List.range m).map fun (i : Nat) => 1 + (i : Int) / w
end TR
namespace TR
open PySem L2
/-- a dict from rooms to lists of looks -/
noncomputable def DL (H : Hp) (d : Addr) (w : Int) (f : Int → Nat) (n : Nat) : Prop := ∃ kvs : List (L2.Key × V), H d = some (.dK kvs) ∧ kvs.length ≤ n ∧
  (∀ e ∈ kvs, ∃ (m : Nat) (a : Addr), m ≤ 1000 ∧ e.2 = .ref a ∧ a ≠ d ∧ H a = some (.lst ((lookRow m w).map V.int))) ∧
  ∀ r : Int, (valV kvs (Sum.inl r) = none ∧ f r = 0) ∨ ∃ a, valV kvs (Sum.inl r) = some (.ref a) ∧ a ≠ d ∧ H a = some (.lst ((lookRow (f r) w).map V.int))
section
variable {H : Hp} {Q : VK} {d : Addr} {w : Int} {f : Int → Nat} {n : Nat}
end
end TR

/-! what six questions answer, as own lists -/
namespace TR
open PySem L2
section
variable {K : PySem.W.Frag} {Z H H' : Hp} {p : Addr} {qs : List Addr} {v : V} {us : List V} {d : Nat}
end
/-- the first place of m -/
noncomputable def posI : List Int → Int → Nat
  | [], _ => 0
  | x :: l, m => if x = m then 0 else posI l m + 1
noncomputable def rowLensI (ks : List Int) (n w : Int) : List Int := ((spl (sortI ks) n).map fun r => (r.length : Int)).map fun m => rowsI m w
noncomputable def ansI (way : Int) (ks : List Int) (n w : Int) : PyData :=
  if way = 0 then Py.d (spl (sortI ks) n) else
  if way = 1 then Py.d ((spl (sortI ks) n).map fun r => (r.length : Int)) else
  if way = 2 then Py.d (rowsOf ks w) else
  if way = 3 then Py.d (looksP ks n w) else
  if way = 4 then Py.d (maxI (rowLensI ks n w), ((posI (rowLensI ks n w) (maxI (rowLensI ks n w)) : Nat) : Int)) else
  Py.d ((cutI ks none (some 9)).map fun k => lookedI (rowsOf ks w) k 0)
/-- told twice it is alike -/
noncomputable def OkD (x : PyData) : Prop := SeqAt.shaped x = true ∧ PyData.eqv x x = true
section
variable {K : PySem.W.Frag} {H : Hp} {Q : VK}
end
end TR

/-! steps whose rows are the asker's own; what stays for a while only -/
namespace TR
open PySem L2
noncomputable def isRow : Stp → Bool
  | .row _ _ _ => true
  | _ => false
/-- vs stand as the steps ss; F: the rows, each its own -/
inductive SA (Z H : Hp) : List V → List Addr → List Stp → Prop
  | nil : SA Z H [] [] []
  | flat {v : V} {s : Stp} {vs : List V} {F : List Addr} {ss : List Stp} : isRow s = false → Ik Z v s → SA Z H vs F ss → SA Z H (v :: vs) F (s :: ss)
  | row {p q : Addr} {r a : Int} {w : Row} {vs : List V} {F : List Addr} {ss : List Stp} : Z p = some (.tup [.str "row", .int r, .int a, .ref q]) → RowO Z H q w → SA Z H vs F ss → SA Z H (.ref p :: vs) (q :: F) (.row r a w :: ss)
structure Sm (Z H : Hp) (D : Addr) (F : List Addr) (ss : List Stp) : Prop where
  ex : ∃ vs, H D = some (.lst vs) ∧ SA Z H vs F ss
  nd : (D :: F).Nodup
  z : ∀ q ∈ D :: F, Z q = none
  zh : Ex Z H
section
variable {K : PySem.W.Frag} {Z H Z' H' Z1 : Hp} {M F G : List Addr} {vs us : List V} {ss s2 : List Stp} {D D' q p : Addr} {v : V} {Q : VK}
end
/-! what stays for a while -/
structure Tmp (F : List Addr) (Z H Z1 : Hp) : Prop where
  z : ∀ q ∈ F, Z q = none
  l : ∀ q ∈ F, ∃ us, H q = some (.lst us)
  e : Ex Z Z1
  eh : Ex Z1 H
  i : ∀ q ∈ F, Z1 q = H q
  o : ∀ q, q ∉ F → Z1 q = Z q
/-- no list in it -/
noncomputable def noL : PyData → Bool
  | .list _ => false
  | .tuple xs => noLs xs
  | _ => true
where noLs : List PyData → Bool
  | [] => true
  | x :: xs => noL x && noLs xs
section
variable {K : PySem.W.Frag} {Z H Z' H' Z1 : Hp} {M F G : List Addr} {vs us : List V} {ss s2 : List Stp} {D D' q p : Addr} {v : V} {Q : VK}
mutual
theorem dt_off (l : ∀ q ∈ F, ∃ us, Z' q = some (.lst us)) : ∀ {v : V} {x : PyData}, noL x = true → Dt Z' v x → Dt (offH Z' F) v x
  | _, _, _, .non => .non
  | _, _, _, .bl b => .bl b
  | _, _, _, .int i => .int i
  | _, _, _, .str x => .str x
  | _, _, n, .lst _ _ => by cases n
  | _, _, n, .tup (a := a) s r => .tup (by
      have na : a ∉ F := fun c => by
        obtain ⟨us, hu⟩ := l a c
        rw [s] at hu
        cases hu
      exact (off_some na).trans s) (dtAll_off l n r)
theorem dtAll_off (l : ∀ q ∈ F, ∃ us, Z' q = some (.lst us)) : ∀ {vs : List V} {xs : List PyData}, noL.noLs xs = true → DtAll Z' vs xs → DtAll (offH Z' F) vs xs
  | _, _, _, .nil => .nil
  | _, _, n, .cons a r => by
    have n' : (noL _ && noL.noLs _) = true := n
    rw [Bool.and_eq_true] at n'
    exact .cons (dt_off l n'.1 a) (dtAll_off l n'.2 r)
end
theorem tup_off {o : List V} (l : ∀ q ∈ F, ∃ us, Z' q = some (.lst us)) (f : Z' p = some (.tup o)) : offH Z' F p = some (.tup o) := by
  have na : p ∉ F := fun c => by
    obtain ⟨us, hu⟩ := l p c
    rw [f] at hu
    cases hu
  exact (off_some na).trans f
theorem ent_noL (e : Ent) : noL (Py.d e) = true := rfl
theorem off_nn (h : Z' q = none) : offH Z' F q = none := by
  by_cases c : q ∈ F
  · exact off_none c
  · exact (off_some c).trans h
end
end TR
namespace TR
open PySem L2
section
variable {K : PySem.W.Frag} {Z H Z' H' Z1 : Hp} {M F G : List Addr} {us : List V} {ss : List Stp} {D D' q p a : Addr} {v : V} {Q : VK} {α : Type} {iα : Py α} {l : List α}
end
section
variable {K : PySem.W.Frag} {σ : L2.St} {H Z : Hp} {te : TE} {tx : TT} {Q : VK} {g : TG} {vs : List Nat} {p D : Addr} {us : List V} {F : List Addr} {ss : List Stp}
/-- a comprehension over a list that stands, its things told by G -/
theorem c_mapH {β γ : Type} [Py γ] {G : V → β → Prop} {L : List β} (f : β → γ) (zh : Ex Z H) (h1 : H p = some (.lst us)) (pr : Paired G us L) (hz : L.length ≤ 40000)
    (turn : ∀ u x Z1 H1, G u x → T [] Z H Z1 H1 → ∀ A : VK, (∀ y Z3 H3, T [] Z1 H1 Z3 H3 → Ik Z3 y (f x) → A y H3) → g u (wipe σ vs) H1 fun σ2 H2 => wipe σ2 vs = wipe σ vs ∧ te σ2 H2 A)
    (fin : ∀ D Z' H', H D = none → T [] Z H Z' H' → Ls Z' D (L.map f) → Q (.ref D) H') : LcL K g tYes te vs σ (.ref p) H Q := by
  have hl := Paired.length pr
  refine ⟨p, rfl, ⟨us, sq_of h1⟩, lcT (n := L.length) (M := []) (Z := Z) (fun _ => true) (fun _ _ _ => True) (fun i (x : γ) y Z => (∃ b, L[i]? = some b ∧ x = f b) ∧ Ik Z y x) (fun i x y Z1 Z2 e r => ⟨r.1, Ik.ex e r.2⟩) (fun _ _ _ _ _ _ _ _ => trivial) hz zh (fun _ h => absurd h List.not_mem_nil) trivial
    (fun i Z1 H1 hi t => ⟨us, us[i]'(by omega), sq_of (t.hp nm_nil h1), List.getElem?_eq_getElem (by omega)⟩) (fun Z1 H1 t => ⟨us, sq_of (t.hp nm_nil h1), by omega⟩) (fun i hi D Z1 H1 t nD mu _ v H2 hy A B hA hB => ?_) (fun D ys L' Z' H' nD t mu f1 _ hL pr' => ?_)⟩
  · obtain ⟨rfl, fv⟩ := hy
    have hv := fv _ (sq_of (t.hp nm_nil h1))
    obtain ⟨q, hq, gq⟩ := pair_at pr hv
    rw [lc_yes]
    exact turn v q Z1 H2 gq t A fun y Z3 H3 t3 iy => hA rfl (f q) y Z3 H3 t3 trivial ⟨⟨q, hq, rfl⟩, iy⟩
  · have e2 : L'.map Prod.snd = L.map f := by
      rw [kept_snd (xs := L) (f := f) (fun q hq => by
        obtain ⟨y, hy⟩ := paired_r pr' q hq
        exact hy.1), hL, filter_yes, rg_take, List.take_length]
    have la : Lm Z' H' D (L.map f) := ⟨⟨ys, f1, by rw [← e2]; exact paired_mapR (Paired.mapP pr' fun y q h => h.2)⟩, mu.z, t.zh⟩
    exact t_fz la fun Z2 H2 t2 ls => fin D Z2 H2 nD (t.step t2 (mm_cons (.inr nD) mm_nil)) ls
end
section
variable {K : PySem.W.Frag} {σ : L2.St} {H Z : Hp} {D : Ends} {g : TG} {ts : TS} {p : Addr} {us : List V} {Ms : List (List Addr)}
end
end TR
namespace TR
open PySem L2
/-! data of any make, equal to itself -/
noncomputable def OkN (n : Nat) (x : PyData) : Prop := x.depth ≤ n ∧ x.canLay0 = true ∧ PyData.eqv x x = true
theorem okN_of {α : Type} [Py α] (a : α) {n : Nat} (h : Py.dep α ≤ n) : OkN n (Py.d a) := ⟨Nat.le_trans (Py.depth a) h, Py.can a, (Py.eqv a a).mpr rfl⟩
theorem OkN.ok {n : Nat} {x : PyData} (h : OkN n x) (hn : n ≤ 64) : OkD x := ⟨by
  unfold SeqAt.shaped
  rw [h.2.1, decide_eq_true (Nat.le_trans h.1 hn)]
  rfl, h.2.2⟩
noncomputable def cleanB (y : Yard) : Bool := @decide (CleanP y) (Classical.propDecidable _)
noncomputable def optD : Option Tx → PyData
  | none => .none
  | some x => .str x.1
section
variable {K : PySem.W.Frag} {Z H Z' H' : Hp} {M F G : List Addr} {us : List V} {ss : List Stp} {D q p : Addr} {v : V} {Q : VK}
/-- a list of any things that will be changed | a thing more | two of them -/
theorem nwR {us : List V} (z : Ex Z H) (h : us.length ≤ 100000) (k : ∀ p Z' H', H p = none → T [] Z H Z' H' → H' p = some (.lst us) → Z' p = none → Q (.ref p) H') : NewL us H Q :=
  ⟨sz_of h, fun p hp => k p Z _ hp (T.newM hp z) upd_same (Ex.back z hp)⟩
theorem apR {us : List V} (z : Ex Z H) (h : H p = some (.lst us)) (zp : Z p = none) (hz : us.length < 100000) (k : ∀ Z' H', T [p] Z H Z' H' → H' p = some (.lst (us ++ [v])) → Z' p = none → Q .non H') : rAppend (.ref p) [v] H Q :=
  ⟨p, us, v, rfl, rfl, h, sz_lt (by omega), k Z _ (T.set ⟨zp, _, h⟩ z) upd_same zp⟩
theorem catR {us vs : List V} {a b : Addr} (z : Ex Z H) (h : H a = some (.lst us)) (g : H b = some (.lst vs)) (hz : us.length + vs.length ≤ 100000) (k : ∀ p Z' H', H p = none → T [] Z H Z' H' → H' p = some (.lst (us ++ vs)) → Z' p = none → Q (.ref p) H') : rPlus (.ref a) (.ref b) H Q :=
  .inr (.inl ⟨a, b, us, vs, rfl, rfl, h, g, sz_of hz, fun p hp => k p Z _ hp (T.newM hp z) upd_same (Ex.back z hp)⟩)
end
end TR
namespace TR
open PySem L2
section
variable {w r k : Int} {es : Row} {way : Str} {t : Tx}
end
section
variable {w : Int} {ks : List Int} {y : Yard}
/-- what is told of a yard and its change -/
noncomputable def ansY (way : Str) (y : Yard) (k : Int) (t : Tx) : PyData :=
  let ss := chgW way y k t
  let y1 := (ss.take 1).foldl doneY y
  .list ([Py.d ss, Py.d (mendS y1)] ++ ([y1, ⟨y1.a, y1.b, mendC y1⟩, ss.foldl doneY y, doneY y (.rooms (1 + y.b % 5)), y] : List Yard).map Py.d ++ [.tuple [optD (fY y1 k), .int (foundI y1 k).2], .bool (cleanB y1)] ++ [.bool true])
end
end TR
namespace TR
open PySem L2
section
variable {K : PySem.W.Frag} {Z H Z' H' Zt : Hp} {A F : List Addr} {D p : Addr} {qs : List Addr} {rss : List (List Row)} {o : List V}
noncomputable def Dis (X Y : List Addr) : Prop := ∀ b ∈ Y, b ∉ X
/-- a yard that may be spoilt -/
noncomputable def SpP (u : V) (M : List Addr) (Z H : Hp) : Prop := ∃ (p D : Addr) (qs G : List Addr) (a b : Int), u = .ref p ∧ M = D :: (qs ++ G) ∧ Z p = some (.tup [.int a, .int b, .ref D]) ∧ Sh Z H D qs G 27 8 ∧ qs.length ≤ 60
end
end TR
namespace TR
open PySem L2
section
variable {K : PySem.W.Frag} {σ : L2.St} {H Z : Hp} {te : TE} {Q : VK} {g : TG} {vs : List Nat}
end
end TR
namespace TR
open PySem L2
end TR
namespace TR
open PySem L2
end TR

/-! data in lists and tuples: the asker's own lists within, or such that stay -/
namespace TR
open PySem L2
mutual
/-- v stands as x; M: its own lists. b: no other lists in it -/
inductive Ot (b : Bool) (Z H : Hp) : V → PyData → List Addr → Prop
  | fr {v : V} {x : PyData} : (b = true → noL x = true) → Dt Z v x → Ot b Z H v x []
  | lst {p : Addr} {us : List V} {xs : List PyData} {M : List Addr} : H p = some (.lst us) → Z p = none → OtAll b Z H us xs M → Ot b Z H (.ref p) (.list xs) (p :: M)
  | tup {p : Addr} {us : List V} {xs : List PyData} {M : List Addr} : Z p = some (.tup us) → OtAll b Z H us xs M → Ot b Z H (.ref p) (.tuple xs) M
inductive OtAll (b : Bool) (Z H : Hp) : List V → List PyData → List Addr → Prop
  | nil : OtAll b Z H [] [] []
  | cons {v : V} {x : PyData} {vs : List V} {xs : List PyData} {M N : List Addr} : Ot b Z H v x M → OtAll b Z H vs xs N → OtAll b Z H (v :: vs) (x :: xs) (M ++ N)
end
section
variable {K : PySem.W.Frag} {b : Bool} {M N F : List Addr} {Z H Z' H' Z1 : Hp} {v : V} {x : PyData} {us : List V} {xs : List PyData}
mutual
theorem Ot.al : ∀ {v : V} {x : PyData} {M : List Addr}, Ot b Z H v x M → ∀ q ∈ M, Z q = none ∧ ∃ us, H q = some (.lst us)
  | _, _, _, .fr _ _ => fun _ h => absurd h List.not_mem_nil
  | _, _, _, .lst h z a => fun q hq => by
    rcases List.mem_cons.mp hq with e | hq
    · rw [e]; exact ⟨z, _, h⟩
    · exact OtAll.al a q hq
  | _, _, _, .tup _ a => OtAll.al a
theorem OtAll.al : ∀ {us : List V} {xs : List PyData} {M : List Addr}, OtAll b Z H us xs M → ∀ q ∈ M, Z q = none ∧ ∃ us, H q = some (.lst us)
  | _, _, _, .nil => fun _ h => absurd h List.not_mem_nil
  | _, _, _, .cons a r => fun q hq => (List.mem_append.mp hq).elim (Ot.al a q) (OtAll.al r q)
end
mutual
theorem Ot.tt (t : T N Z H Z' H') : ∀ {v : V} {x : PyData} {M : List Addr}, Ot b Z H v x M → (∀ q ∈ M, q ∉ N) → Ot b Z' H' v x M
  | _, _, _, .fr n d => fun _ => .fr n (Dt.ex t.z d)
  | _, _, _, .lst (p := p) h z a => fun n => .lst (t.hp (n p List.mem_cons_self) h) (t.fr p (n p List.mem_cons_self) z ⟨_, h⟩) (OtAll.tt t a fun q hq => n q (List.mem_cons_of_mem _ hq))
  | _, _, _, .tup h a => fun n => .tup (t.pz h) (OtAll.tt t a n)
theorem OtAll.tt (t : T N Z H Z' H') : ∀ {us : List V} {xs : List PyData} {M : List Addr}, OtAll b Z H us xs M → (∀ q ∈ M, q ∉ N) → OtAll b Z' H' us xs M
  | _, _, _, .nil => fun _ => .nil
  | _, _, _, .cons a r => fun n => .cons (Ot.tt t a fun q hq => n q (List.mem_append_left _ hq)) (OtAll.tt t r fun q hq => n q (List.mem_append_right _ hq))
end
theorem Ot.tt0 (t : T [] Z H Z' H') (h : Ot b Z H v x M) : Ot b Z' H' v x M := h.tt t fun _ _ => nm_nil
theorem OtAll.tt0 (t : T [] Z H Z' H') (h : OtAll b Z H us xs M) : OtAll b Z' H' us xs M := h.tt t fun _ _ => nm_nil
mutual
theorem Ot.dp (z : Ex Z H) : ∀ {v : V} {x : PyData} {M : List Addr}, Ot b Z H v x M → Dp K H v x
  | _, _, _, .fr _ d => Dt.dp (Dt.ex z d)
  | _, _, _, .lst h _ a => .lst (sq_of h) (OtAll.dp z a)
  | _, _, _, .tup h a => .tup (st_of (z _ _ h)) (OtAll.dp z a)
theorem OtAll.dp (z : Ex Z H) : ∀ {us : List V} {xs : List PyData} {M : List Addr}, OtAll b Z H us xs M → DpAll K H us xs
  | _, _, _, .nil => .nil
  | _, _, _, .cons a r => .cons (Ot.dp z a) (OtAll.dp z r)
end
theorem otAll_len : ∀ {us : List V} {xs : List PyData} {M : List Addr}, OtAll b Z H us xs M → us.length = xs.length
  | _, _, _, .nil => rfl
  | _, _, _, .cons _ t => congrArg Nat.succ (otAll_len t)
/-- the things by their places, each with its own lists -/
theorem OtAll.get : ∀ {us : List V} {xs : List PyData} {M : List Addr}, OtAll b Z H us xs M → ∃ Ms : List (List Addr), M = Ms.flatten ∧ Ms.length = us.length ∧ ∀ (i : Nat) u x N, us[i]? = some u → xs[i]? = some x → Ms[i]? = some N → Ot b Z H u x N
  | _, _, _, .nil => ⟨[], rfl, rfl, fun i u x N h => by simp at h⟩
  | _, _, _, .cons (M := M) a r => by
    obtain ⟨Ms, h1, h2, h3⟩ := OtAll.get r
    refine ⟨M :: Ms, by rw [List.flatten_cons, h1], by rw [List.length_cons, List.length_cons, h2], fun i u x N hu hx hN => ?_⟩
    cases i with
    | zero => cases hu; cases hx; cases hN; exact a
    | succ i => exact h3 i u x N hu hx hN
theorem dtAll_ot : ∀ {us : List V} {xs : List PyData}, (b = true → noL.noLs xs = true) → DtAll Z us xs → OtAll b Z H us xs []
  | _, _, _, .nil => .nil
  | _, x :: xs, n, .cons a r => by
    have n' : b = true → noL x = true ∧ noL.noLs xs = true := fun e => by
      have h : (noL x && noL.noLs xs) = true := n e
      rwa [Bool.and_eq_true] at h
    exact .cons (M := []) (N := []) (.fr (fun e => (n' e).1) a) (dtAll_ot (fun e => (n' e).2) r)
/-- a list | a tuple, whichever way it stands -/
theorem Ot.list_inv {ds : List PyData} (z : Ex Z H) (h : Ot b Z H v (.list ds) M) : ∃ (p : Addr) (us : List V) (M' : List Addr), v = .ref p ∧ H p = some (.lst us) ∧ OtAll b Z H us ds M' ∧ (b = true → M = p :: M' ∧ Z p = none) := by
  cases h with
  | fr n d =>
    cases d with
    | lst s a =>
      refine ⟨_, _, [], rfl, z _ _ s, dtAll_ot (fun e => ?_) a, fun e => ?_⟩ <;> exact absurd (n e) (by simp [noL])
  | lst h1 h2 a => exact ⟨_, _, _, rfl, h1, a, fun _ => ⟨rfl, h2⟩⟩
theorem Ot.tup_inv {ds : List PyData} (z : Ex Z H) (h : Ot b Z H v (.tuple ds) M) : ∃ (p : Addr) (us : List V), v = .ref p ∧ Z p = some (.tup us) ∧ OtAll b Z H us ds M := by
  cases h with
  | fr n d =>
    cases d with
    | tup s a => exact ⟨_, _, rfl, s, dtAll_ot (fun e => n e) a⟩
  | tup h1 a => exact ⟨_, _, rfl, h1, a⟩
end
end TR

/-! comprehensions and loops over lists and tuples of any data -/
namespace TR
open PySem L2 RZ PySem.Spec PyProof.Rows
/-- what is walked is one of two kinds -/
noncomputable def iOr (w1 w2 : TI) : TI := fun σ H R => w1 σ H R ∨ w2 σ H R
theorem piO {X : Cx} {tg l : Expr} {w1 w2 : TI} (h1 : PI X tg l w1) (h2 : PI X tg l w2) : PI X tg l (iOr w1 w2) :=
  ⟨fun pins s σ H R I h => h.elim (h1.run pins s σ H R I) (h2.run pins s σ H R I)⟩
theorem pi_zipAK {X : Cx} {K : PySem.W.Frag} {elts : List Expr} {kk : Nat} {tpos p pos : Pos} {e e2 : Expr} {ta : TA} (hk : X.K = K) (h : PI X (.Tuple elts kk tpos) (.Call (.Name "zip" p) [e, e2] [] pos) (iZipA X.K ta)) : PI X (.Tuple elts kk tpos) (.Call (.Name "zip" p) [e, e2] [] pos) (iZipA K ta) := hk ▸ h
theorem isiTA {X : Cx} {K : PySem.W.Frag} (hk : X.K = K) : CallR X (.builtin "isinstance") (rIsiT K) := hk ▸ call_isiT
/-- tuple(..) of a list that is made -/
noncomputable def rTupL (K : PySem.W.Frag) : List V → Hp → VK → Prop := fun xs H Q => ∃ p ys, xs = [.ref p] ∧ ((SqL K H p ys ∧ ∀ l, H l = none → Q (.ref l) (upd H l (.tup ys))) ∨ (SqT K H p ys ∧ Q (.ref p) H))
theorem tupA {X : Cx} {K : PySem.W.Frag} (hk : X.K = K) : CallR X (.type "tuple") (rTupL K) := hk ▸ call_tuple_of
section
variable {K : PySem.W.Frag} {σ : L2.St} {H Z : Hp} {te : TE} {tx : TT} {Q : VK} {g : TG} {ts : TS} {D : Ends} {vs : List Nat} {w1 w2 : TI}
theorem s_forO1 (q : tFor w1 g ts D σ H) : tFor (iOr w1 w2) g ts D σ H := .inl q
theorem s_forO2 (q : tFor w2 g ts D σ H) : tFor (iOr w1 w2) g ts D σ H := .inr q
theorem s_lcO1 (q : tLc w1 g tx te vs σ H Q) : tLc (iOr w1 w2) g tx te vs σ H Q := .inl q
theorem s_lcO2 (q : tLc w2 g tx te vs σ H Q) : tLc (iOr w1 w2) g tx te vs σ H Q := .inr q
noncomputable def LcZA (K : PySem.W.Frag) (g : TG) (tt : TT) (te : TE) (vs : List Nat) (σ : L2.St) (x : List V) (H1 : Hp) (Q : VK) : Prop := ∃ a b xs ys, x = [.ref a, .ref b] ∧ ((SqL K H1 a xs ∧ SqL K H1 b ys ∧ LcJ g tt te vs σ (Itz K a b) H1 Q) ∨ (SqT K H1 a xs ∧ SqT K H1 b ys ∧ LcJ g tt te vs σ (ItzT K a b) H1 Q))
theorem s_lcZA {ta : TA} (q : ta σ H fun x H1 => LcZA K g tx te vs σ x H1 Q) : tLc (iZipA K ta) g tx te vs σ H Q := q
theorem t_tupL {p : Addr} {ys : List V} (z : Ex Z H) (h : Z p = some (.lst ys)) (k : ∀ q Z' H', H q = none → T [] Z H Z' H' → Z' q = some (.tup ys) → Q (.ref q) H') : rTupL K [.ref p] H Q :=
  ⟨p, ys, rfl, .inl ⟨sq_of (z _ _ h), fun l hl => k l _ _ hl (T.new hl z) upd_same⟩⟩
variable {b b' : Bool} {M N : List Addr} {us ws : List V} {xs : List PyData} {p q : Addr}
theorem c_otJ {J : It} (zh : Ex Z H) (a : OtAll b Z H us xs M) (hz : xs.length ≤ 40000)
    (hgo : ∀ i Z1 H1, i < us.length → T [] Z H Z1 H1 → J.go i H1) (hst : ∀ Z1 H1, T [] Z H Z1 H1 → J.stop us.length H1) (hy : ∀ i v Z1 H1 H2, T [] Z H Z1 H1 → J.yld i H1 v H2 → H2 = H1 ∧ us[i]? = some v)
    (turn : ∀ u x N Z1 H1, x ∈ xs → Ot b Z1 H1 u x N → T [] Z H Z1 H1 → ∀ A : VK, (∀ y Z3 H3, T [] Z1 H1 Z3 H3 → Dt Z3 y x → A y H3) → g u (wipe σ vs) H1 fun σ2 H2 => wipe σ2 vs = wipe σ vs ∧ te σ2 H2 A)
    (fin : ∀ D ys Z' H', H D = none → T [] Z H Z' H' → Z' D = some (.lst ys) → DtAll Z' ys xs → Q (.ref D) H') : LcJ g tYes te vs σ J H Q := by
  have hl := otAll_len a
  obtain ⟨Ms, rfl, ml, get⟩ := a.get
  refine lcT (n := us.length) (M := []) (Z := Z) (fun _ => true) (fun _ _ _ => True) (fun i (x : PyData) y Z => xs[i]? = some x ∧ Dt Z y x) (fun i x y Z1 Z2 e r => ⟨r.1, Dt.ex e r.2⟩) (fun _ _ _ _ _ _ _ _ => trivial) (by omega) zh (fun _ h => absurd h List.not_mem_nil) trivial
    hgo hst (fun i hi D Z1 H1 t nD mu _ v H2 hv A B hA hB => ?_) (fun D ys L' Z' H' nD t mu f1 _ hL pr' => ?_)
  · obtain ⟨rfl, hu⟩ := hy i v Z1 H1 H2 t hv
    have hx : xs[i]? = some (xs[i]'(by omega)) := List.getElem?_eq_getElem (by omega)
    have hM : Ms[i]? = some (Ms[i]'(by omega)) := List.getElem?_eq_getElem (by omega)
    rw [lc_yes]
    exact turn v _ _ Z1 H2 (List.mem_of_getElem? hx) ((get i v _ _ hu hx hM).tt0 t) t A fun y Z3 H3 t3 iy => hA rfl _ y Z3 H3 t3 trivial ⟨hx, iy⟩
  · have e2 : L'.map Prod.snd = xs := by
      have := kept_snd (xs := xs) (f := fun x => x) (L := L') (fun q hq => by
        obtain ⟨y, hy⟩ := paired_r pr' q hq
        exact ⟨q.2, hy.1, rfl⟩)
      rw [this, hL, filter_yes, rg_take, hl, List.take_length, List.map_id']
    have g2 : Paired (fun y x => Dt Z' y x) ys xs := by rw [← e2]; exact paired_mapR (Paired.mapP pr' fun y q h => h.2)
    exact t_fzV mu t.zh f1 fun Z2 H2 t2 z2 => fin D ys Z2 H2 nD (t.step t2 (mm_cons (.inr nD) mm_nil)) z2 (dtAll_of (Paired.mapP g2 fun y x h => Dt.ex t2.z h))
theorem c_otL (zh : Ex Z H) (h1 : H p = some (.lst us)) (a : OtAll b Z H us xs M) (hz : xs.length ≤ 40000)
    (turn : ∀ u x N Z1 H1, x ∈ xs → Ot b Z1 H1 u x N → T [] Z H Z1 H1 → ∀ A : VK, (∀ y Z3 H3, T [] Z1 H1 Z3 H3 → Dt Z3 y x → A y H3) → g u (wipe σ vs) H1 fun σ2 H2 => wipe σ2 vs = wipe σ vs ∧ te σ2 H2 A)
    (fin : ∀ D ys Z' H', H D = none → T [] Z H Z' H' → Z' D = some (.lst ys) → DtAll Z' ys xs → Q (.ref D) H') : LcL K g tYes te vs σ (.ref p) H Q :=
  ⟨p, rfl, ⟨us, sq_of h1⟩, c_otJ zh a hz (fun i Z1 H1 hi t => ⟨us, us[i], sq_of (t.hp nm_nil h1), List.getElem?_eq_getElem hi⟩) (fun Z1 H1 t => ⟨us, sq_of (t.hp nm_nil h1), Nat.le_refl _⟩) (fun i v Z1 H1 H2 t hy => ⟨hy.1, hy.2 _ (sq_of (t.hp nm_nil h1))⟩) turn fin⟩
theorem c_otT (zh : Ex Z H) (h1 : H p = some (.tup us)) (a : OtAll b Z H us xs M) (hz : xs.length ≤ 40000)
    (turn : ∀ u x N Z1 H1, x ∈ xs → Ot b Z1 H1 u x N → T [] Z H Z1 H1 → ∀ A : VK, (∀ y Z3 H3, T [] Z1 H1 Z3 H3 → Dt Z3 y x → A y H3) → g u (wipe σ vs) H1 fun σ2 H2 => wipe σ2 vs = wipe σ vs ∧ te σ2 H2 A)
    (fin : ∀ D ys Z' H', H D = none → T [] Z H Z' H' → Z' D = some (.lst ys) → DtAll Z' ys xs → Q (.ref D) H') : LcT K g tYes te vs σ (.ref p) H Q :=
  ⟨p, rfl, ⟨us, st_of h1⟩, c_otJ zh a hz (fun i Z1 H1 hi t => ⟨us, us[i], st_of (t.hp nm_nil h1), List.getElem?_eq_getElem hi⟩) (fun Z1 H1 t => ⟨us, st_of (t.hp nm_nil h1), Nat.le_refl _⟩) (fun i v Z1 H1 H2 t hy => ⟨hy.1, hy.2 _ (st_of (t.hp nm_nil h1))⟩) turn fin⟩
/-- two of the same data, side by side: what is asked of each pair is true -/
theorem c_otZ {J : It} (zh : Ex Z H) (a : OtAll b Z H us xs M) (a' : OtAll b' Z H ws xs N) (hz : xs.length ≤ 40000)
    (hgo : ∀ i Z1 H1, i < us.length → T [] Z H Z1 H1 → J.go i H1) (hst : ∀ Z1 H1, T [] Z H Z1 H1 → J.stop us.length H1)
    (hy : ∀ i v Z1 H1 H2, T [] Z H Z1 H1 → J.yld i H1 v H2 → ∃ T x y, v = .ref T ∧ H1 T = none ∧ H2 = upd H1 T (.tup [x, y]) ∧ us[i]? = some x ∧ ws[i]? = some y)
    (turn : ∀ u w x N N' (T0 : Addr) Z1 H1, x ∈ xs → Ot b Z1 H1 u x N → Ot b' Z1 H1 w x N' → Z1 T0 = some (.tup [u, w]) → T [] Z H Z1 H1 → ∀ A : VK, (∀ Z3 H3, T [] Z1 H1 Z3 H3 → A (.bl true) H3) → g (.ref T0) (wipe σ vs) H1 fun σ2 H2 => wipe σ2 vs = wipe σ vs ∧ te σ2 H2 A)
    (fin : ∀ D Z' H', H D = none → T [] Z H Z' H' → Z' D = some (.lst ((List.replicate us.length true).map V.bl)) → Q (.ref D) H') : LcJ g tYes te vs σ J H Q := by
  have hl := otAll_len a
  have hl' := otAll_len a'
  obtain ⟨Ms, rfl, ml, get⟩ := a.get
  obtain ⟨Ns, rfl, nl, get'⟩ := a'.get
  refine lcT (n := us.length) (M := []) (Z := Z) (fun _ => true) (fun _ _ _ => True) (fun i (x : Bool) y Z => x = true ∧ y = .bl true) (fun i x y Z1 Z2 e r => r) (fun _ _ _ _ _ _ _ _ => trivial) (by omega) zh (fun _ h => absurd h List.not_mem_nil) trivial
    hgo hst (fun i hi D Z1 H1 t nD mu _ v H2 hv A B hA hB => ?_) (fun D ys L' Z' H' nD t mu f1 _ hL pr' => ?_)
  · obtain ⟨T0, x, y, rfl, nT, rfl, hu, hw⟩ := hy i v Z1 H1 H2 t hv
    have hx : xs[i]? = some (xs[i]'(by omega)) := List.getElem?_eq_getElem (by omega)
    have hM : Ms[i]? = some (Ms[i]'(by omega)) := List.getElem?_eq_getElem (by omega)
    have hN : Ns[i]? = some (Ns[i]'(by omega)) := List.getElem?_eq_getElem (by omega)
    have tn : T [] Z1 H1 (upd Z1 T0 (.tup [x, y])) (upd H1 T0 (.tup [x, y])) := T.new nT t.zh
    have t2 := t.step tn mm_nil
    rw [lc_yes]
    exact turn x y _ _ _ T0 _ _ (List.mem_of_getElem? hx) ((get i x _ _ hu hx hM).tt0 t2) ((get' i y _ _ hw hx hN).tt0 t2) upd_same t2 A fun Z3 H3 t3 => hA rfl true (.bl true) Z3 H3 (tn.step t3 mm_nil) trivial ⟨rfl, rfl⟩
  · have e3 : ys = (List.replicate us.length true).map V.bl := by
      have h1 : ∀ {ys : List V} {L : List (Nat × Bool)}, Paired (fun y q => q.2 = true ∧ y = V.bl true) ys L → ys = (List.replicate L.length true).map V.bl := by
        intro ys L h
        induction h with
        | nil => rfl
        | cons a t ih => rw [List.length_cons, List.replicate_succ, List.map_cons, ← ih, a.2]
      have h2 := congrArg List.length hL
      rw [filter_yes, List.length_map, List.length_range] at h2
      rw [h1 pr', h2]
    rw [e3] at f1
    exact t_fzV mu t.zh f1 fun Z2 H2 t2 z2 => fin D Z2 H2 nD (t.step t2 (mm_cons (.inr nD) mm_nil)) z2
theorem c_otZL (zh : Ex Z H) (h1 : H p = some (.lst us)) (h2 : H q = some (.lst ws)) (a : OtAll b Z H us xs M) (a' : OtAll b' Z H ws xs N) (hz : xs.length ≤ 40000)
    (turn : ∀ u w x N N' (T0 : Addr) Z1 H1, x ∈ xs → Ot b Z1 H1 u x N → Ot b' Z1 H1 w x N' → Z1 T0 = some (.tup [u, w]) → T [] Z H Z1 H1 → ∀ A : VK, (∀ Z3 H3, T [] Z1 H1 Z3 H3 → A (.bl true) H3) → g (.ref T0) (wipe σ vs) H1 fun σ2 H2 => wipe σ2 vs = wipe σ vs ∧ te σ2 H2 A)
    (fin : ∀ D Z' H', H D = none → T [] Z H Z' H' → Z' D = some (.lst ((List.replicate us.length true).map V.bl)) → Q (.ref D) H') : LcZA K g tYes te vs σ [.ref p, .ref q] H Q := by
  have l1 := otAll_len a
  have l2 := otAll_len a'
  refine ⟨p, q, us, ws, rfl, .inl ⟨sq_of h1, sq_of h2, c_otZ zh a a' hz (fun i Z1 H1 hi t => ⟨us, ws, us[i], ws[i]'(by omega), sq_of (t.hp nm_nil h1), sq_of (t.hp nm_nil h2), List.getElem?_eq_getElem hi, List.getElem?_eq_getElem (by omega)⟩) (fun Z1 H1 t => ⟨us, ws, sq_of (t.hp nm_nil h1), sq_of (t.hp nm_nil h2), .inl (Nat.le_refl _)⟩) (fun i v Z1 H1 H2 t hy => ?_) turn fin⟩⟩
  obtain ⟨T0, x, y, e1, e2, e3, e4, e5⟩ := hy
  exact ⟨T0, x, y, e1, e2, e3, e4 _ (sq_of (t.hp nm_nil h1)), e5 _ (sq_of (t.hp nm_nil h2))⟩
theorem c_otZT (zh : Ex Z H) (h1 : H p = some (.tup us)) (h2 : H q = some (.tup ws)) (a : OtAll b Z H us xs M) (a' : OtAll b' Z H ws xs N) (hz : xs.length ≤ 40000)
    (turn : ∀ u w x N N' (T0 : Addr) Z1 H1, x ∈ xs → Ot b Z1 H1 u x N → Ot b' Z1 H1 w x N' → Z1 T0 = some (.tup [u, w]) → T [] Z H Z1 H1 → ∀ A : VK, (∀ Z3 H3, T [] Z1 H1 Z3 H3 → A (.bl true) H3) → g (.ref T0) (wipe σ vs) H1 fun σ2 H2 => wipe σ2 vs = wipe σ vs ∧ te σ2 H2 A)
    (fin : ∀ D Z' H', H D = none → T [] Z H Z' H' → Z' D = some (.lst ((List.replicate us.length true).map V.bl)) → Q (.ref D) H') : LcZA K g tYes te vs σ [.ref p, .ref q] H Q := by
  have l1 := otAll_len a
  have l2 := otAll_len a'
  refine ⟨p, q, us, ws, rfl, .inr ⟨st_of h1, st_of h2, c_otZ zh a a' hz (fun i Z1 H1 hi t => ⟨us, ws, us[i], ws[i]'(by omega), st_of (t.hp nm_nil h1), st_of (t.hp nm_nil h2), List.getElem?_eq_getElem hi, List.getElem?_eq_getElem (by omega)⟩) (fun Z1 H1 t => ⟨us, ws, st_of (t.hp nm_nil h1), st_of (t.hp nm_nil h2), .inl (Nat.le_refl _)⟩) (fun i v Z1 H1 H2 t hy => ?_) turn fin⟩⟩
  obtain ⟨T0, x, y, e1, e2, e3, e4, e5⟩ := hy
  exact ⟨T0, x, y, e1, e2, e3, e4 _ (st_of (t.hp nm_nil h1)), e5 _ (st_of (t.hp nm_nil h2))⟩
/-- for over a list | a tuple, each thing changed -/
theorem forOt_next (F : L2.St → Prop) (zh : Ex Z H) (a : OtAll b Z H us xs M) (nd : M.Nodup) :
    ∃ Ms : List (List Addr), M = Ms.flatten ∧ ∃ P : Nat → L2.St → Hp → Prop, (∀ σ, F σ → P 0 σ H) ∧ (∀ i σ H1, P i σ H1 → F σ ∧ ∃ Z1, T M Z H Z1 H1) ∧
      ∀ i σ H1 u, us[i]? = some u → P i σ H1 → F σ ∧ ∃ x N Z1, x ∈ xs ∧ Ot b Z1 H1 u x N ∧ N.Nodup ∧ T M Z H Z1 H1 ∧ ∀ σ' Z2 H2, F σ' → T N Z1 H1 Z2 H2 → P (i + 1) σ' H2 := by
  have hl := otAll_len a
  obtain ⟨Ms, rfl, ml, get⟩ := a.get
  refine ⟨Ms, rfl, fun i σ H1 => F σ ∧ ∃ Z1, T Ms.flatten Z H Z1 H1 ∧ ∀ j u x N, i ≤ j → us[j]? = some u → xs[j]? = some x → Ms[j]? = some N → Ot b Z1 H1 u x N, fun σ hF => ⟨hF, Z, T.refl zh, fun j u x N _ => get j u x N⟩, fun i σ H1 ⟨hF, Z1, t, _⟩ => ⟨hF, Z1, t⟩, fun i σ H1 u hu ⟨hF, Z1, t, ow⟩ => ?_⟩
  have il := (List.getElem?_eq_some_iff.mp hu).1
  have hx : xs[i]? = some (xs[i]'(by omega)) := List.getElem?_eq_getElem (by omega)
  have hM : Ms[i]? = some (Ms[i]'(by omega)) := List.getElem?_eq_getElem (by omega)
  have mM := List.mem_of_getElem? hM
  refine ⟨hF, _, _, Z1, List.mem_of_getElem? hx, ow i u _ _ (Nat.le_refl _) hu hx hM, flat_nd nd mM, t, fun σ' Z2 H2 hF' t2 => ⟨hF', Z2, t.step t2 (fun b hb => .inl (List.mem_flatten.mpr ⟨_, mM, hb⟩)), fun j u' x' N' hj hu' hx' hN' => ?_⟩⟩
  exact (ow j u' x' N' (by omega) hu' hx' hN').tt t2 (flat_dis nd hM hN' (by omega))
theorem t_forOtL (F : L2.St → Prop) (zh : Ex Z H) (h1 : H p = some (.lst us)) (np : p ∉ M) (a : OtAll b Z H us xs M) (nd : M.Nodup) (hF : F σ)
    (turn : ∀ u x N Z1 H1 σ, x ∈ xs → F σ → Ot b Z1 H1 u x N → N.Nodup → Ex Z1 H1 → ∀ Nx : L2.St → Hp → Prop, (∀ σ' Z2 H2, F σ' → T N Z1 H1 Z2 H2 → Nx σ' H2) → g u σ H1 fun σ2 H2 => ts { D with nx := Nx, ct := Nx, bk := D.nx } σ2 H2)
    (fin : ∀ σ' Z' H', F σ' → T M Z H Z' H' → D.nx σ' H') : ForL K g ts D σ (.ref p) H := by
  obtain ⟨Ms, _, P, p0, pF, pn⟩ := forOt_next F zh a nd
  refine u_forL P (sq_of h1) (p0 σ hF) (fun i σ H1 _ h => ?_) (fun i u σ H1 hu h => ?_) (fun σ H1 h => ?_)
  · obtain ⟨_, Z1, t⟩ := pF _ _ _ h
    exact sq_of (t.hp np h1)
  · obtain ⟨hF, x, N, Z1, hx, o, nN, t, k⟩ := pn i σ H1 u hu h
    exact turn u x N Z1 H1 σ hx hF o nN t.zh _ k
  · obtain ⟨hF, Z1, t⟩ := pF _ _ _ h
    exact fin σ Z1 H1 hF t
theorem t_forOtT (F : L2.St → Prop) (zh : Ex Z H) (h1 : Z p = some (.tup us)) (a : OtAll b Z H us xs M) (nd : M.Nodup) (hF : F σ)
    (turn : ∀ u x N Z1 H1 σ, x ∈ xs → F σ → Ot b Z1 H1 u x N → N.Nodup → Ex Z1 H1 → ∀ Nx : L2.St → Hp → Prop, (∀ σ' Z2 H2, F σ' → T N Z1 H1 Z2 H2 → Nx σ' H2) → g u σ H1 fun σ2 H2 => ts { D with nx := Nx, ct := Nx, bk := D.nx } σ2 H2)
    (fin : ∀ σ' Z' H', F σ' → T M Z H Z' H' → D.nx σ' H') : ForT K g ts D σ (.ref p) H := by
  obtain ⟨Ms, _, P, p0, pF, pn⟩ := forOt_next F zh a nd
  refine u_forT P (st_of (zh _ _ h1)) (p0 σ hF) (fun i σ H1 _ h => ?_) (fun i u σ H1 hu h => ?_) (fun σ H1 h => ?_)
  · obtain ⟨_, Z1, t⟩ := pF _ _ _ h
    exact st_of (t.zh _ _ (t.z _ _ h1))
  · obtain ⟨hF, x, N, Z1, hx, o, nN, t, k⟩ := pn i σ H1 u hu h
    exact turn u x N Z1 H1 σ hx hF o nN t.zh _ k
  · obtain ⟨hF, Z1, t⟩ := pF _ _ _ h
    exact fin σ Z1 H1 hF t
end
end TR
namespace TR
open PySem L2
/-- every list and tuple in it has at most a thousand things -/
noncomputable def wid : PyData → Bool
  | .list xs => decide (xs.length ≤ 1000) && wids xs
  | .tuple xs => decide (xs.length ≤ 1000) && wids xs
  | _ => true
where wids : List PyData → Bool
  | [] => true
  | x :: xs => wid x && wids xs
theorem wids_mem : ∀ {xs : List PyData}, wid.wids xs = true → ∀ x ∈ xs, wid x = true
  | [], _ => fun _ h => absurd h List.not_mem_nil
  | x :: xs, h => fun y hy => by
    have h' : (wid x && wid.wids xs) = true := h
    rw [Bool.and_eq_true] at h'
    rcases List.mem_cons.mp hy with e | hy
    · rw [e]; exact h'.1
    · exact wids_mem h'.2 y hy
theorem wids_of : ∀ {xs : List PyData}, (∀ x ∈ xs, wid x = true) → wid.wids xs = true
  | [], _ => rfl
  | x :: xs, h => by
    show (wid x && wid.wids xs) = true
    rw [h x List.mem_cons_self, wids_of fun y hy => h y (List.mem_cons_of_mem _ hy)]
    rfl
theorem wid_list {xs : List PyData} (h : wid (.list xs) = true) : xs.length ≤ 1000 ∧ ∀ x ∈ xs, wid x = true := by
  have h' : (decide (xs.length ≤ 1000) && wid.wids xs) = true := h
  rw [Bool.and_eq_true] at h'
  exact ⟨of_decide_eq_true h'.1, wids_mem h'.2⟩
theorem wid_tup {xs : List PyData} (h : wid (.tuple xs) = true) : xs.length ≤ 1000 ∧ ∀ x ∈ xs, wid x = true := wid_list (xs := xs) h
theorem wid_mkL {xs : List PyData} (h : xs.length ≤ 1000) (g : ∀ x ∈ xs, wid x = true) : wid (.list xs) = true := by
  show (decide (xs.length ≤ 1000) && wid.wids xs) = true
  rw [decide_eq_true h, wids_of g]
  rfl
theorem wid_mkT {xs : List PyData} (h : xs.length ≤ 1000) (g : ∀ x ∈ xs, wid x = true) : wid (.tuple xs) = true := wid_mkL h g
theorem dep_mem : ∀ {xs : List PyData} {d : Nat}, PyData.depthAll xs ≤ d → ∀ x ∈ xs, x.depth ≤ d
  | [], _, _ => fun _ h => absurd h List.not_mem_nil
  | x :: xs, d, h => fun y hy => by
    rw [PyData.depthAll] at h
    have h1 := Nat.max_le.mp h
    rcases List.mem_cons.mp hy with e | hy
    · rw [e]; exact h1.1
    · exact dep_mem h1.2 y hy
theorem dep_list {xs : List PyData} {d : Nat} (h : (PyData.list xs).depth ≤ d) : ∃ d', d = d' + 1 ∧ ∀ x ∈ xs, x.depth ≤ d' := by
  rw [PyData.depth] at h
  exact ⟨d - 1, by omega, dep_mem (by omega)⟩
theorem dep_tup {xs : List PyData} {d : Nat} (h : (PyData.tuple xs).depth ≤ d) : ∃ d', d = d' + 1 ∧ ∀ x ∈ xs, x.depth ≤ d' := by
  rw [PyData.depth] at h
  exact ⟨d - 1, by omega, dep_mem (by omega)⟩
/-- isinstance(x, (list, tuple)) -/
theorem s_isLT {K : PySem.W.Frag} {H : Hp} {Q : VK} {x : V} {n : String} {tp : Addr} {b1 b2 : Bool} (r : Bool) (ty : TyX K H x (.type n)) (h : H tp = some (.tup [.ty "list", .ty "tuple"])) (e1 : kitB n "list" = some b1) (e2 : kitB n "tuple" = some b2) (er : (b1 || b2) = r) (q : Q (.bl r) H) : rIsiT K [x, .ref tp] H Q := by
  rw [← er] at q
  refine ⟨x, tp, [.ty "list", .ty "tuple"], .type n, [.type "list", .type "tuple"], b1 || b2, rfl, h, .cons (.ty _) (.cons (.ty _) .nil), ty, ?_, q⟩
  have k1 : PySem.W.kitOne K (.type n) (.type "list") = some b1 := kit_ty e1
  have k2 : PySem.W.kitOne K (.type n) (.type "tuple") = some b2 := kit_ty e2
  unfold PySem.W.kitAny
  rw [k1]
  cases b1 with
  | true => rfl
  | false =>
    show PySem.W.kitAny K (.type n) [.type "tuple"] = _
    unfold PySem.W.kitAny
    rw [k2]
    cases b2 <;> rfl
/-- what no list and no tuple is -/
theorem Ot.sc_inv {b : Bool} {Z H : Hp} {v : V} {x : PyData} {M : List Addr} (h : Ot b Z H v x M) (n : ∀ xs, x ≠ .list xs) (m : ∀ xs, x ≠ .tuple xs) : M = [] ∧ Dt Z v x ∧ ((v = .non ∧ x = .none) ∨ (∃ b, v = .bl b ∧ x = .bool b) ∨ (∃ i, v = .int i ∧ x = .int i) ∨ ∃ s, v = .str s ∧ x = .str s) := by
  cases h with
  | fr _ d =>
    refine ⟨rfl, d, ?_⟩
    cases d with
    | non => exact .inl ⟨rfl, rfl⟩
    | bl b => exact .inr (.inl ⟨b, rfl, rfl⟩)
    | int i => exact .inr (.inr (.inl ⟨i, rfl, rfl⟩))
    | str s => exact .inr (.inr (.inr ⟨s, rfl, rfl⟩))
    | lst _ _ => exact absurd rfl (n _)
    | tup _ _ => exact absurd rfl (m _)
  | lst _ _ _ => exact absurd rfl (n _)
  | tup _ _ => exact absurd rfl (m _)
/-- one's own list is longer by a thing -/
theorem apR1 {Z H : Hp} {Q : VK} {p : Addr} {us : List V} {v : V} (z : Ex Z H) (h : H p = some (.lst us)) (zp : Z p = none) (hz : us.length < 100000) (k : ∀ Z' H', T [p] Z H Z' H' → Q .non H') : rAppend (.ref p) [v] H Q :=
  ⟨p, us, v, rfl, rfl, h, sz_lt (by omega), k Z _ (T.set ⟨zp, _, h⟩ z)⟩
end TR
namespace TR
open PySem L2
theorem okAll_mem : ∀ {xs : List PyData} {n : Nat}, PyData.depthAll xs ≤ n → PyData.canLayAll0 xs = true → PyData.eqvAll xs xs = true → ∀ x ∈ xs, OkN n x
  | [], _, _, _, _ => fun _ h => absurd h List.not_mem_nil
  | x :: xs, n, h1, h2, h3 => fun y hy => by
    rw [PyData.depthAll] at h1
    rw [PyData.canLayAll0, Bool.and_eq_true] at h2
    rw [PyData.eqvAll, Bool.and_eq_true] at h3
    have h1' := Nat.max_le.mp h1
    rcases List.mem_cons.mp hy with e | hy
    · rw [e]; exact ⟨h1'.1, h2.1, h3.1⟩
    · exact okAll_mem h1'.2 h2.2 h3.2 y hy
theorem okN_memL {n : Nat} {xs : List PyData} {x : PyData} (h : OkN (n + 1) (.list xs)) (hx : x ∈ xs) : OkN n x := by
  obtain ⟨h1, h2, h3⟩ := h
  rw [PyData.depth] at h1
  rw [PyData.canLay0] at h2
  rw [PyData.eqv] at h3
  exact okAll_mem (by omega) h2 h3 x hx
theorem okN_memT {n : Nat} {xs : List PyData} {x : PyData} (h : OkN (n + 1) (.tuple xs)) (hx : x ∈ xs) : OkN n x := by
  obtain ⟨h1, h2, h3⟩ := h
  rw [PyData.depth] at h1
  rw [PyData.canLay0] at h2
  rw [PyData.eqv] at h3
  exact okAll_mem (by omega) h2 h3 x hx
theorem all_rep (n : Nat) : (List.replicate n true).all id = true := by
  induction n with
  | zero => rfl
  | succ n ih => rw [List.replicate_succ, List.all_cons, ih]; rfl
end TR

namespace TR
open PySem L2
theorem strOk_iff {x : Str} : PyData.strOk x = true ↔ ∀ c ∈ TL.tl x, c < 0x110000 := by
  unfold PyData.strOk TL.tl
  rw [Array.all_eq_true']
  refine ⟨fun h c hc => of_decide_eq_true (h c (Array.mem_toList_iff.mp hc)), fun h c hc => decide_eq_true (h c (Array.mem_toList_iff.mpr hc))⟩
theorem joinL_mem {S : List Nat} : ∀ {ps : List (List Nat)} {c : Nat}, c ∈ TL.joinL S ps → c ∈ S ∨ ∃ p ∈ ps, c ∈ p
  | [], c, h => absurd h List.not_mem_nil
  | [p], c, h => .inr ⟨p, List.mem_cons_self, h⟩
  | p :: q :: r, c, h => by
    have h' : c ∈ p ++ (S ++ TL.joinL S (q :: r)) := h
    rcases List.mem_append.mp h' with h' | h'
    · exact .inr ⟨p, List.mem_cons_self, h'⟩
    · rcases List.mem_append.mp h' with h' | h'
      · exact .inl h'
      · rcases joinL_mem h' with g | ⟨p', g1, g2⟩
        · exact .inl g
        · exact .inr ⟨p', List.mem_cons_of_mem _ g1, g2⟩
theorem join_mem {y : Str} {l : List Str} {c : Nat} (h : c ∈ TL.tl (Txt.join y l)) : c ∈ TL.tl y ∨ ∃ x ∈ l, c ∈ TL.tl x := by
  rw [TL.join_eq, TL.tl_join] at h
  rcases joinL_mem h with g | ⟨p, g1, g2⟩
  · exact .inl g
  · obtain ⟨x, hx, rfl⟩ := List.mem_map.mp g1
    exact .inr ⟨x, hx, g2⟩
theorem join_ok {y : Str} {l : List Str} (hy : PyData.strOk y = true) (h : ∀ x ∈ l, PyData.strOk x = true) : PyData.strOk (Txt.join y l) = true :=
  strOk_iff.mpr fun c hc => by
    rcases join_mem hc with g | ⟨x, hx, g⟩
    · exact strOk_iff.mp hy c g
    · exact strOk_iff.mp (h x hx) c g
theorem joinL_len : ∀ {ps : List (List Nat)}, (TL.joinL [] ps).length = (ps.map List.length).sum
  | [] => rfl
  | [p] => by simp [TL.joinL]
  | p :: q :: r => by
    show (p ++ ([] ++ TL.joinL [] (q :: r))).length = _
    rw [List.length_append, List.nil_append, joinL_len (ps := q :: r)]
    simp
theorem s_ixStr {K : PySem.W.Frag} {H : Hp} {Q : VK} {z : Str} {i : Int} (h : 0 ≤ i ∧ i < (TL.tl z).length) (hz : z.length ≤ 100000) (q : ∀ c, c ∈ TL.tl z → Q (.str ⟨#[c]⟩) H) : rIx K (.str z) (.int i) H Q := by
  have hi : i.toNat < z.cps.toList.length := by have := h.2; show i.toNat < (TL.tl z).length; omega
  exact .inr (.inr ⟨z, i, _, rfl, rfl, sz_of hz, atI_lt h.1 (List.getElem?_eq_getElem hi), q _ (List.getElem_mem hi)⟩)
theorem s_joinL {K : PySem.W.Frag} {H : Hp} {Q : VK} {p : Addr} {y : Str} {l : List Str} (h : H p = some (.lst (l.map V.str))) (hz : (l.map (·.length)).sum + l.length * y.length ≤ 16777216) (q : Q (.str (Txt.join y l)) H) :
    ∃ (a : Str) (p' : Addr), ∃ ys : List Str, V.str y = .str a ∧ [V.ref p] = [.ref p'] ∧ (SqL K H p' (ys.map V.str) ∨ SqT K H p' (ys.map V.str)) ∧ (ys.map (·.length)).sum + ys.length * a.length ≤ 16777216 ∧ Q (.str (Txt.join a ys)) H :=
  ⟨y, p, l, rfl, rfl, .inl (sq_of h), hz, q⟩
end TR

/-! rows that an asker of a table may change: the list and its rows are new -/
namespace TR
open PySem L2
end TR

/-! entries, rows, steps and yards as texts -/
namespace TR
open PySem L2 TL
noncomputable def numS (i : Int) : Str := Str.ofString (toString i)
noncomputable def entS (e : Ent) : Str := numS e.1 ++ "=" ++ e.2.1
noncomputable def rowS (r : Row) : Str := if r = [] then "-" else Txt.join "," (r.map entS)
noncomputable def rowsS (rs : List Row) : Str := if rs = [] then "none" else Txt.join ";" (rs.map rowS)
noncomputable def stepS : Stp → Str
  | .row r a w => Txt.join " " ["row", numS r, numS a, rowS w]
  | .cut r a => Txt.join " " ["cut", numS r, numS a]
  | .rooms m => Txt.join " " ["rooms", numS m]
noncomputable def yardS (y : Yard) : Str := Txt.join " " ([numS y.a, numS y.b] ++ y.c.map rowsS)
theorem tl_ext {x y : Str} (h : tl x = tl y) : x = y := by rw [← mk_tl x, ← mk_tl y, h]
theorem tl_numS {i : Int} (h : 0 ≤ i) : tl (numS i) = numL i.toNat := by
  obtain ⟨n, rfl⟩ : ∃ n : Nat, i = (n : Int) := ⟨i.toNat, by omega⟩
  exact tl_num n
theorem tl_entS {e : Ent} (h : 0 ≤ e.1) : tl (entS e) = numL e.1.toNat ++ 61 :: tl e.2.1 := by
  unfold entS
  rw [tl_append, tl_append, tl_numS h, List.append_assoc]
  rfl
theorem tl_joinS (s : Str) (xs : List Str) : tl (Txt.join s xs) = joinL (tl s) (xs.map tl) := by rw [join_eq, tl_join]
theorem mem_joinL {S : List Nat} {c : Nat} : ∀ {ps : List (List Nat)}, c ∈ joinL S ps → c ∈ S ∨ ∃ p ∈ ps, c ∈ p
  | [], h => absurd h List.not_mem_nil
  | [p], h => .inr ⟨p, List.mem_cons_self, h⟩
  | p :: q :: r, h => by
    rcases List.mem_append.mp h with h | h
    · exact .inr ⟨p, List.mem_cons_self, h⟩
    · rcases List.mem_append.mp h with h | h
      · exact .inl h
      · rcases mem_joinL h with h | ⟨x, hx, h⟩
        · exact .inl h
        · exact .inr ⟨x, List.mem_cons_of_mem _ hx, h⟩
theorem joinL_in {S : List Nat} {c : Nat} {p : List Nat} : ∀ {ps : List (List Nat)}, p ∈ ps → c ∈ p → c ∈ joinL S ps
  | [x], h, hc => by rw [List.mem_singleton.mp h] at hc; exact hc
  | x :: q :: r, h, hc => by
    rcases List.mem_cons.mp h with e | h
    · rw [e] at hc; exact List.mem_append_left _ hc
    · exact List.mem_append_right _ (List.mem_append_right _ (joinL_in h hc))
theorem joinL_le {S : List Nat} {b : Nat} : ∀ {ps : List (List Nat)}, (∀ p ∈ ps, p.length ≤ b) → (joinL S ps).length ≤ ps.length * (b + S.length)
  | [], _ => Nat.zero_le _
  | [p], h => by
    have := h p List.mem_cons_self
    show p.length ≤ 1 * _
    omega
  | p :: q :: r, h => by
    have h1 := h p List.mem_cons_self
    have h2 := joinL_le (S := S) (ps := q :: r) fun x hx => h x (List.mem_cons_of_mem _ hx)
    show (p ++ (S ++ joinL S (q :: r))).length ≤ _
    rw [List.length_append, List.length_append, List.length_cons (as := q :: r), Nat.succ_mul]
    omega
/-- an entry that can be written -/
noncomputable def EntW (e : Ent) : Prop := 0 ≤ e.1 ∧ e.1 < 1152921504606846976 ∧ nameB e.2.1 = true
theorem nameB_low {x : Str} (h : nameB x = true) : 1 ≤ x.length ∧ x.length ≤ 8 ∧ ∀ c ∈ tl x, 97 ≤ c ∧ c ≤ 122 := by
  unfold nameB at h
  rw [Bool.and_eq_true] at h
  obtain ⟨h1, h2⟩ := h
  have h1 := of_decide_eq_true h1
  refine ⟨h1.1, h1.2, fun c hc => ?_⟩
  have h3 := of_decide_eq_true (List.all_eq_true.mp h2 c hc)
  have key : ∀ c ∈ lettersS.cps.toList, 97 ≤ c ∧ c ≤ 122 := by decide +kernel
  exact key c h3
theorem numL_low {n c : Nat} (h : c ∈ numL n) : 48 ≤ c ∧ c ≤ 57 := by
  refine ⟨Decidable.byContradiction fun g => ?_, Decidable.byContradiction fun g => ?_⟩
  · exact numL_free (n := n) (s := c) (.inl (by omega)) h
  · exact numL_free (n := n) (s := c) (.inr (by omega)) h
/-- the signs of an entry | of a row | of rows -/
theorem ent_sign {e : Ent} (h : EntW e) {c : Nat} (hc : c ∈ tl (entS e)) : (48 ≤ c ∧ c ≤ 57) ∨ c = 61 ∨ (97 ≤ c ∧ c ≤ 122) := by
  rw [tl_entS h.1] at hc
  rcases List.mem_append.mp hc with hc | hc
  · exact .inl (numL_low hc)
  · rcases List.mem_cons.mp hc with e1 | hc
    · exact .inr (.inl e1)
    · exact .inr (.inr ((nameB_low h.2.2).2.2 c hc))
theorem row_sign {r : Row} (h : ∀ e ∈ r, EntW e) {c : Nat} (hc : c ∈ tl (rowS r)) : c = 45 ∨ c = 44 ∨ (48 ≤ c ∧ c ≤ 57) ∨ c = 61 ∨ (97 ≤ c ∧ c ≤ 122) := by
  unfold rowS at hc
  split at hc
  · exact .inl (List.mem_singleton.mp hc)
  · rw [tl_joinS] at hc
    rcases mem_joinL hc with hc | ⟨p, hp, hc⟩
    · exact .inr (.inl (List.mem_singleton.mp hc))
    · rw [List.map_map] at hp
      obtain ⟨e, he, rfl⟩ := List.mem_map.mp hp
      exact .inr (.inr (ent_sign (h e he) hc))
theorem rows_sign {rs : List Row} (h : ∀ r ∈ rs, ∀ e ∈ r, EntW e) {c : Nat} (hc : c ∈ tl (rowsS rs)) : c = 59 ∨ c = 45 ∨ c = 44 ∨ (48 ≤ c ∧ c ≤ 57) ∨ c = 61 ∨ (97 ≤ c ∧ c ≤ 122) := by
  unfold rowsS at hc
  split at hc
  · have : c ∈ [110, 111, 110, 101] := hc
    simp at this
    omega
  · rw [tl_joinS] at hc
    rcases mem_joinL hc with hc | ⟨p, hp, hc⟩
    · exact .inl (List.mem_singleton.mp hc)
    · rw [List.map_map] at hp
      obtain ⟨r, hr, rfl⟩ := List.mem_map.mp hp
      exact .inr (row_sign (h r hr) hc)
/-- what tells a row with entries, and rows -/
theorem row_eq {r : Row} (h : ∀ e ∈ r, EntW e) (n : r ≠ []) : 61 ∈ tl (rowS r) := by
  unfold rowS
  rw [if_neg n, tl_joinS]
  obtain ⟨e, r', rfl⟩ := List.exists_cons_of_ne_nil n
  refine joinL_in (p := tl (entS e)) (by simp) ?_
  rw [tl_entS (h e List.mem_cons_self).1]
  simp
theorem row_bare {r : Row} (h : ∀ e ∈ r, EntW e) : (rowS r = "-") ↔ r = [] := by
  refine ⟨fun e => Decidable.byContradiction fun n => ?_, fun e => by rw [e]; rfl⟩
  have := row_eq h n
  rw [e] at this
  have : (61 : Nat) ∈ [45] := this
  simp at this
theorem rows_none {rs : List Row} (h : ∀ r ∈ rs, ∀ e ∈ r, EntW e) : (rowsS rs = "none") ↔ rs = [] := by
  refine ⟨fun e => Decidable.byContradiction fun n => ?_, fun e => by rw [e]; rfl⟩
  obtain ⟨r, rs', rfl⟩ := List.exists_cons_of_ne_nil n
  have key : ∀ c, c ∈ tl (rowS r) → c ∈ tl (rowsS (r :: rs')) := fun c hc => by
    unfold rowsS
    rw [if_neg n, tl_joinS]
    exact joinL_in (p := tl (rowS r)) (by simp) hc
  rw [e] at key
  by_cases c : r = []
  · have := key 45 (by rw [c]; exact List.mem_singleton.mpr rfl)
    have : (45 : Nat) ∈ [110, 111, 110, 101] := this
    simp at this
  · have := key 61 (row_eq (h r List.mem_cons_self) c)
    have : (61 : Nat) ∈ [110, 111, 110, 101] := this
    simp at this
/-! the read-back -/
theorem split_ent {e : Ent} (h : EntW e) : Txt.split (entS e) "=" = [numS e.1, e.2.1] := by
  have e1 : entS e = Txt.join "=" [numS e.1, e.2.1] := by rw [join_eq]; rfl
  rw [e1]
  refine split_join (s := 61) (S := []) rfl (by decide +kernel) (List.cons_ne_nil _ _) fun p hp hc => ?_
  rcases List.mem_cons.mp hp with rfl | hp
  · rw [tl_numS h.1] at hc
    have := numL_low hc
    omega
  · rw [List.mem_singleton.mp hp] at hc
    have := (nameB_low h.2.2).2.2 _ hc
    omega
theorem split_row {r : Row} (h : ∀ e ∈ r, EntW e) (n : r ≠ []) : Txt.split (rowS r) "," = r.map entS := by
  unfold rowS
  rw [if_neg n]
  refine split_join (s := 44) (S := []) rfl (by decide +kernel) (fun e => n (List.map_eq_nil_iff.mp e)) fun p hp hc => ?_
  obtain ⟨e, he, rfl⟩ := List.mem_map.mp hp
  have := ent_sign (h e he) hc
  omega
theorem split_rows {rs : List Row} (h : ∀ r ∈ rs, ∀ e ∈ r, EntW e) (n : rs ≠ []) : Txt.split (rowsS rs) ";" = rs.map rowS := by
  unfold rowsS
  rw [if_neg n]
  refine split_join (s := 59) (S := []) rfl (by decide +kernel) (fun e => n (List.map_eq_nil_iff.mp e)) fun p hp hc => ?_
  obtain ⟨r, hr, rfl⟩ := List.mem_map.mp hp
  have := row_sign (h r hr) hc
  omega
theorem split_words {ws : List Str} (n : ws ≠ []) (h : ∀ w ∈ ws, 32 ∉ tl w) : Txt.split (Txt.join " " ws) " " = ws :=
  split_join (s := 32) (S := []) rfl (by decide +kernel) n h
theorem num_free {i : Int} (h : 0 ≤ i) : 32 ∉ tl (numS i) := fun hc => by
  rw [tl_numS h] at hc
  have := numL_low hc
  omega
theorem row_free {r : Row} (h : ∀ e ∈ r, EntW e) : 32 ∉ tl (rowS r) := fun hc => by
  have := row_sign h hc
  omega
theorem rows_free {rs : List Row} (h : ∀ r ∈ rs, ∀ e ∈ r, EntW e) : 32 ∉ tl (rowsS rs) := fun hc => by
  have := rows_sign h hc
  omega
/-! lengths -/
theorem num_len {i : Int} (h : 0 ≤ i) (h2 : i < 1000000000000000000000000000000) : (numS i).length ≤ 30 := by
  rw [len_tl, tl_numS h]
  exact numL_len (by decide) (by omega)
theorem key_len {i : Int} (h : 0 ≤ i) (h2 : i < 1152921504606846976) : (numS i).length ≤ 19 := by
  rw [len_tl, tl_numS h]
  exact numL_len (by decide) (by omega)
theorem ent_len {e : Ent} (h : EntW e) : (tl (entS e)).length ≤ 28 := by
  have h1 := key_len h.1 h.2.1
  rw [len_tl, tl_numS h.1] at h1
  have h2 := (nameB_low h.2.2).2.1
  rw [len_tl] at h2
  rw [tl_entS h.1, List.length_append, List.length_cons]
  omega
theorem row_len {r : Row} (h : ∀ e ∈ r, EntW e) : (tl (rowS r)).length ≤ 1 + r.length * 29 := by
  unfold rowS
  split
  · show 1 ≤ _
    omega
  · rw [tl_joinS]
    have := joinL_le (S := tl ",") (ps := (r.map entS).map tl) (b := 28) fun p hp => by
      rw [List.map_map] at hp
      obtain ⟨e, he, rfl⟩ := List.mem_map.mp hp
      exact ent_len (h e he)
    rw [List.length_map, List.length_map] at this
    have e1 : (tl ",").length = 1 := rfl
    rw [e1] at this
    omega
theorem rows_len {rs : List Row} {b : Nat} (h : ∀ r ∈ rs, (∀ e ∈ r, EntW e) ∧ r.length ≤ b) : (tl (rowsS rs)).length ≤ 4 + rs.length * (2 + b * 29) := by
  unfold rowsS
  split
  · show 4 ≤ _
    omega
  · rw [tl_joinS]
    have := joinL_le (S := tl ";") (ps := (rs.map rowS).map tl) (b := 1 + b * 29) fun p hp => by
      rw [List.map_map] at hp
      obtain ⟨r, hr, rfl⟩ := List.mem_map.mp hp
      obtain ⟨h1, h2⟩ := h r hr
      have h3 := row_len h1
      have h4 : r.length * 29 ≤ b * 29 := Nat.mul_le_mul_right _ h2
      show (tl (rowS r)).length ≤ _
      omega
    rw [List.length_map, List.length_map] at this
    have e1 : (tl ";").length = 1 := rfl
    rw [e1, show 1 + b * 29 + 1 = 2 + b * 29 by omega] at this
    omega
end TR

/-! comprehensions whose things are the asker's own -/
namespace TR
open PySem L2
mutual
/-- own things that stay for a while: M their lists -/
inductive Fo (Z : Hp) : V → PyData → List Addr → Prop
  | fr {v : V} {x : PyData} : noL x = true → Dt Z v x → Fo Z v x []
  | lst {p : Addr} {us : List V} {xs : List PyData} {M : List Addr} : Z p = some (.lst us) → FoAll Z us xs M → Fo Z (.ref p) (.list xs) (p :: M)
  | tup {p : Addr} {us : List V} {xs : List PyData} {M : List Addr} : Z p = some (.tup us) → FoAll Z us xs M → Fo Z (.ref p) (.tuple xs) M
inductive FoAll (Z : Hp) : List V → List PyData → List Addr → Prop
  | nil : FoAll Z [] [] []
  | cons {v : V} {x : PyData} {vs : List V} {xs : List PyData} {M N : List Addr} : Fo Z v x M → FoAll Z vs xs N → FoAll Z (v :: vs) (x :: xs) (M ++ N)
end
section
variable {M N F : List Addr} {Z H Z' H' Z1 : Hp} {v : V} {x : PyData} {us : List V} {xs : List PyData}
mutual
theorem Fo.ex (e : Ex Z Z') : ∀ {v : V} {x : PyData} {M : List Addr}, Fo Z v x M → Fo Z' v x M
  | _, _, _, .fr n d => .fr n (Dt.ex e d)
  | _, _, _, .lst h a => .lst (e _ _ h) (FoAll.ex e a)
  | _, _, _, .tup h a => .tup (e _ _ h) (FoAll.ex e a)
theorem FoAll.ex (e : Ex Z Z') : ∀ {us : List V} {xs : List PyData} {M : List Addr}, FoAll Z us xs M → FoAll Z' us xs M
  | _, _, _, .nil => .nil
  | _, _, _, .cons a r => .cons (Fo.ex e a) (FoAll.ex e r)
end
mutual
theorem Fo.lst_at : ∀ {v : V} {x : PyData} {M : List Addr}, Fo Z v x M → ∀ q ∈ M, ∃ us, Z q = some (.lst us)
  | _, _, _, .fr _ _ => fun _ h => absurd h List.not_mem_nil
  | _, _, _, .lst h a => fun q hq => by
    rcases List.mem_cons.mp hq with e | hq
    · rw [e]; exact ⟨_, h⟩
    · exact FoAll.lst_at a q hq
  | _, _, _, .tup _ a => FoAll.lst_at a
theorem FoAll.lst_at : ∀ {us : List V} {xs : List PyData} {M : List Addr}, FoAll Z us xs M → ∀ q ∈ M, ∃ us, Z q = some (.lst us)
  | _, _, _, .nil => fun _ h => absurd h List.not_mem_nil
  | _, _, _, .cons a r => fun q hq => (List.mem_append.mp hq).elim (Fo.lst_at a q) (FoAll.lst_at r q)
end
mutual
theorem Ot.stayF (e : Ex Z Z1) : ∀ {v : V} {x : PyData} {M : List Addr}, Ot true Z H v x M → (∀ q ∈ M, Z1 q = H q) → Fo Z1 v x M
  | _, _, _, .fr n d => fun _ => .fr (n rfl) (Dt.ex e d)
  | _, _, _, .lst (p := p) h _ a => fun n => .lst ((n p List.mem_cons_self).trans h) (OtAll.stayF e a fun q hq => n q (List.mem_cons_of_mem _ hq))
  | _, _, _, .tup h a => fun n => .tup (e _ _ h) (OtAll.stayF e a n)
theorem OtAll.stayF (e : Ex Z Z1) : ∀ {us : List V} {xs : List PyData} {M : List Addr}, OtAll true Z H us xs M → (∀ q ∈ M, Z1 q = H q) → FoAll Z1 us xs M
  | _, _, _, .nil => fun _ => .nil
  | _, _, _, .cons a r => fun n => .cons (Ot.stayF e a fun q hq => n q (List.mem_append_left _ hq)) (OtAll.stayF e r fun q hq => n q (List.mem_append_right _ hq))
end
mutual
/-- .. and may be changed again -/
theorem Fo.free (l : ∀ q ∈ F, ∃ us, Z q = some (.lst us)) (e : Ex Z H) : ∀ {v : V} {x : PyData} {M : List Addr}, Fo Z v x M → (∀ q ∈ M, q ∈ F) → Ot true (offH Z F) H v x M
  | _, _, _, .fr n d => fun _ => .fr (fun _ => n) (dt_off l n d)
  | _, _, _, .lst (p := p) h a => fun n => .lst (e _ _ h) (off_none (n p List.mem_cons_self)) (FoAll.free l e a fun q hq => n q (List.mem_cons_of_mem _ hq))
  | _, _, _, .tup h a => fun n => .tup (tup_off l h) (FoAll.free l e a n)
theorem FoAll.free (l : ∀ q ∈ F, ∃ us, Z q = some (.lst us)) (e : Ex Z H) : ∀ {us : List V} {xs : List PyData} {M : List Addr}, FoAll Z us xs M → (∀ q ∈ M, q ∈ F) → OtAll true (offH Z F) H us xs M
  | _, _, _, .nil => fun _ => .nil
  | _, _, _, .cons a r => fun n => .cons (Fo.free l e a fun q hq => n q (List.mem_append_left _ hq)) (FoAll.free l e r fun q hq => n q (List.mem_append_right _ hq))
end
theorem foAll_of : ∀ {us : List V} {xs : List PyData} {Ms : List (List Addr)}, us.length = xs.length → Ms.length = xs.length → (∀ (i : Nat) u x N, us[i]? = some u → xs[i]? = some x → Ms[i]? = some N → Fo Z u x N) → FoAll Z us xs Ms.flatten
  | [], [], [], _, _, _ => .nil
  | u :: us, x :: xs, M :: Ms, h1, h2, h => .cons (h 0 u x M rfl rfl rfl) (foAll_of (Nat.succ.inj h1) (Nat.succ.inj h2) fun i u x N a b c => h (i + 1) u x N a b c)
  | [], _ :: _, _, h, _, _ => by cases h
  | _ :: _, [], _, h, _, _ => by cases h
  | _ :: _, _ :: _, [], _, h, _ => by cases h
  | [], [], _ :: _, _, h, _ => by cases h
end
section
variable {K : PySem.W.Frag} {σ : L2.St} {H Z : Hp} {te : TE} {Q : VK} {g : TG} {vs : List Nat} {a : Addr} {us : List V}
/-- what is told of each thing of a list that stands is the asker's own -/
theorem c_newOt {β : Type} {L : List β} {G : V → β → Prop} (f : β → PyData) (zh : Ex Z H) (h1 : H a = some (.lst us)) (pr : Paired G us L) (hz : L.length ≤ 40000)
    (turn : ∀ u x Z1 H1, G u x → x ∈ L → T [] Z H Z1 H1 → ∀ A : VK, (∀ y M Z3 H3, T [] Z1 H1 Z3 H3 → Ot true Z3 H3 y (f x) M → M.Nodup → (∀ b ∈ M, H1 b = none) → A y H3) → g u (wipe σ vs) H1 fun σ2 H2 => wipe σ2 vs = wipe σ vs ∧ te σ2 H2 A)
    (fin : ∀ D ys M Z' H', H D = none → T [] Z H Z' H' → H' D = some (.lst ys) → Z' D = none → OtAll true Z' H' ys (L.map f) M → (D :: M).Nodup → (∀ b ∈ M, H b = none) → Q (.ref D) H') : LcL K g tYes te vs σ (.ref a) H Q := by
  have hl := Paired.length pr
  refine ⟨a, rfl, ⟨us, sq_of h1⟩, lcTN (n := L.length) (M := []) (Z := Z) (fun _ _ _ => True) (fun i (x : PyData) fp y Z1 => (∃ b, L[i]? = some b ∧ x = f b) ∧ Fo Z1 y x fp) (fun i x fp y Z1 Z2 e r => ⟨r.1, r.2.ex e⟩) (fun _ _ _ _ _ _ _ _ => trivial) hz zh (fun _ h => absurd h List.not_mem_nil) trivial
    (fun i Z1 H1 hi t => ⟨us, us[i]'(by omega), sq_of (t.hp nm_nil h1), List.getElem?_eq_getElem (by omega)⟩) (fun Z1 H1 t => ⟨us, sq_of (t.hp nm_nil h1), by omega⟩) (fun i hi D Z1 H1 t nD mu _ v H2 hy A hA => ?_) (fun D ys L' Z' H' nD t mu f1 _ hL hY pr' nd fr al => ?_)⟩
  · obtain ⟨rfl, fv⟩ := hy
    have hv := fv _ (sq_of (t.hp nm_nil h1))
    obtain ⟨x, hx, gx⟩ := pair_at pr hv
    refine turn v x Z1 H2 gx (List.mem_of_getElem? hx) t A fun y M Z3 H3 t3 o nM frM => ?_
    obtain ⟨Z4, H4, e4, t4, fo⟩ : ∃ Z4 H4, H4 = H3 ∧ T M Z3 H3 Z4 H4 ∧ Fo Z4 y (f x) M := by
      have tt := T.fzs (F := M) t3.zh fun c hc => (o.al c hc).1
      exact ⟨_, H3, rfl, tt, o.stayF tt.z fun c hc => on_in hc⟩
    rw [← e4]
    rw [← e4] at o
    refine hA (f x) M y Z4 H4 (t3.step t4 fun b hb => .inr (frM b hb)) trivial ⟨⟨x, hx, rfl⟩, fo⟩ nM frM fun q hq => ?_
    obtain ⟨us', hu⟩ := fo.lst_at q hq
    exact ⟨_, t4.zh _ _ hu⟩
  · have fo : FoAll Z' ys (L.map f) (L'.map Prod.snd).flatten := foAll_of (by rw [List.length_map]; exact hY) (by rw [List.length_map, List.length_map]; exact hL) fun i u x N hu hx hN => by
      rw [List.getElem?_map] at hN
      cases hq : L'[i]? with
      | none => rw [hq] at hN; cases hN
      | some q =>
        rw [hq] at hN
        cases hN
        obtain ⟨⟨b, hb, eb⟩, r⟩ := pr' i u q hu hq
        rw [List.getElem?_map, hb] at hx
        cases hx
        rw [← eb]
        exact r
    have la := fo.lst_at
    have t2 := t.unfz zh fr
    refine fin D ys _ _ H' nD t2 f1 (off_nn mu.z) (fo.free la t.zh fun _ h => h) nd fr
end
end TR

/-! texts: split, join, int(text), str(number), a sign at a place -/
namespace TR
open PySem L2 TL PySem.Spec PyProof.Rows
noncomputable def rSplit : V → List V → Hp → VK → Prop := fun x xs H Q => ∃ a b, x = .str a ∧ xs = [.str b] ∧ (b.length == 0) = false ∧ a.length + 2 ≤ sizeLine ∧ rNewStrs (Txt.split a b) H Q
noncomputable def rJoin (K : PySem.W.Frag) : V → List V → Hp → VK → Prop := fun x xs H Q => ∃ a p, ∃ ys : List Str, x = .str a ∧ xs = [.ref p] ∧ (SqL K H p (ys.map V.str) ∨ SqT K H p (ys.map V.str)) ∧ (ys.map (·.length)).sum + ys.length * a.length ≤ 16777216 ∧ Q (.str (Txt.join a ys)) H
noncomputable def rIntT : List V → Hp → VK → Prop := fun xs H Q => ∃ a n, xs = [.str a] ∧ PySem.intText? a = some n ∧ a.length ≤ 640 ∧ Q (.int n) H
noncomputable def rStrI : List V → Hp → VK → Prop := fun xs H Q => ∃ i, xs = [.int i] ∧ i.natAbs.log2 < 1920 ∧ Q (.str (toString i)) H
theorem intTA {X : Cx} : CallR X (.type "int") rIntT := call_int_str
theorem strIA {X : Cx} : CallR X (.type "str") rStrI := call_str_int
theorem pe_m1 {X : Cx} {e : Expr} {r : V → List V → Hp → VK → Prop} {to te : TE} (h : PE X e (tM1 r to te)) : PE X e (tM1 r to te) := h
theorem pe_joinK {X : Cx} {K : PySem.W.Frag} (hk : X.K = K) {e : Expr} {to te : TE} (h : PE X e (tM1 (rJoin X.K) to te)) : PE X e (tM1 (rJoin K) to te) := hk ▸ h
section
variable {K : PySem.W.Frag} {σ : L2.St} {H Z : Hp} {to te : TE} {Q : VK} {r : V → List V → Hp → VK → Prop} {a b : Str} {p : Addr} {i : Int}
noncomputable def M1P (r : V → List V → Hp → VK → Prop) (te : TE) (σ : L2.St) (x : V) (H1 : Hp) (Q : VK) : Prop := (∃ a, x = .str a) ∧ te σ H1 fun y H2 => r x [y] H2 Q
theorem s_m1 (q : to σ H fun x H1 => M1P r te σ x H1 Q) : tM1 r to te σ H Q := q
theorem n_m1 (q : te σ H fun y H2 => r (.str a) [y] H2 Q) : M1P r te σ (.str a) H Q := ⟨⟨a, rfl⟩, q⟩
theorem t_split (z : Ex Z H) (hb : (b.length == 0) = false) (ha : a.length ≤ 16000000) (k : ∀ p Z' H', H p = none → T [] Z H Z' H' → Z' p = some (.lst ((Txt.split a b).map V.str)) → Q (.ref p) H') : rSplit (.str a) [.str b] H Q :=
  ⟨a, b, rfl, rfl, hb, by rw [sizeLine_eq]; omega, fun p hp => k p _ _ hp (T.new hp z) upd_same⟩
theorem t_join {ys : List Str} (h : SqL K H p (ys.map V.str)) (hz : (ys.map (·.length)).sum + ys.length * a.length ≤ 16777216) (q : Q (.str (Txt.join a ys)) H) : rJoin K (.str a) [.ref p] H Q :=
  ⟨a, p, ys, rfl, rfl, .inl h, hz, q⟩
theorem t_strI (h0 : 0 ≤ i) (h1 : i < 1000000000000000000000000000000000000000000000000000000000000) (q : Q (.str (numS i)) H) : rStrI [.int i] H Q := by
  refine ⟨i, rfl, ?_, q⟩
  have h2 : i.natAbs < 2 ^ 200 := Nat.lt_of_lt_of_le (show i.natAbs < 1000000000000000000000000000000000000000000000000000000000000 by omega) (by decide)
  by_cases c : i.natAbs = 0
  · rw [c]; decide
  · have := (Nat.log2_lt c).mpr h2
    omega
theorem t_intT {n : Int} (h0 : 0 ≤ n) (h1 : n < 1000000000000000000000000000000) (q : Q (.int n) H) : rIntT [.str (numS n)] H Q := by
  obtain ⟨m, rfl⟩ : ∃ m : Nat, n = (m : Int) := ⟨n.toNat, by omega⟩
  have hl := num_len h0 h1
  refine ⟨numS (m : Int), (m : Int), rfl, int_num ?_, by omega, q⟩
  rw [len_tl, tl_numS h0] at hl
  show (numL m).length ≤ 4300
  have : ((m : Int)).toNat = m := Int.toNat_natCast m
  rw [this] at hl
  omega
theorem s_plusS (h : a.length + b.length ≤ 16000000) (q : Q (.str (a ++ b)) H) : rPlus (.str a) (.str b) H Q := .inr (.inr ⟨a, b, rfl, rfl, by rw [sizeLine_eq]; omega, q⟩)
/-- the sign at a place -/
theorem s_ixSign {z : Str} {c : Nat} (h0 : 0 ≤ i) (hc : (tl z)[i.toNat]? = some c) (hz : z.length ≤ 16000000) (q : Q (.str ⟨#[c]⟩) H) : rIx K (.str z) (.int i) H Q :=
  .inr (.inr ⟨z, i, c, rfl, rfl, by rw [sizeLine_eq]; omega, atI_lt h0 hc, q⟩)
theorem s_lenTx {z : Str} (h : z.length ≤ 16000000) (q : Q (.int (z.length : Int)) H) : rLen K [.str z] H Q := .inr ⟨z, rfl, by rw [sizeLine_eq]; omega, q⟩
end
/-- no number but 0 begins with 0 -/
theorem numL_head : ∀ n : Nat, 0 < n → (numL n)[0]? ≠ some 48 := by
  intro n
  induction n using Nat.strongRecOn with
  | ind n ih =>
    intro h
    by_cases c : n < 10
    · rw [numL_lt c]
      intro e
      have : 48 + n = 48 := Option.some.inj e
      omega
    · rw [numL_step (by omega)]
      have h1 := ih (n / 10) (by omega) (by omega)
      intro e
      rw [List.getElem?_append] at e
      by_cases c2 : 0 < (numL (n / 10)).length
      · rw [if_pos c2] at e
        exact h1 e
      · exact numL_ne (n / 10) (List.eq_nil_of_length_eq_zero (by omega))
theorem numS_head {n : Int} (h : 0 ≤ n) : ∃ c, (tl (numS n))[0]? = some c ∧ (c = 48 → (numS n).length = 1) := by
  rw [tl_numS h]
  have ne := numL_ne n.toNat
  obtain ⟨c, r, e⟩ := List.exists_cons_of_ne_nil ne
  refine ⟨c, by rw [e]; rfl, fun hc => ?_⟩
  by_cases c0 : n.toNat = 0
  · rw [len_tl, tl_numS h, c0]
    rfl
  · exact absurd (by rw [e, hc]; rfl) (numL_head n.toNat (by omega))
theorem numS_pos {n : Int} (h : 0 ≤ n) : 1 ≤ (numS n).length := by
  rw [len_tl, tl_numS h]
  have ne := numL_ne n.toNat
  cases e : numL n.toNat with
  | nil => exact absurd e ne
  | cons c r => simp
noncomputable def figS : Str := "0123456789"
theorem fig_mem {c : Nat} (h : 48 ≤ c ∧ c ≤ 57) : c ∈ figS.cps.toList := by
  have e : figS.cps.toList = [48, 49, 50, 51, 52, 53, 54, 55, 56, 57] := by decide +kernel
  rw [e]
  simp only [List.mem_cons, List.not_mem_nil, or_false]
  omega
end TR
namespace TR
open PySem L2 TL
section
variable {K : PySem.W.Frag} {σ : L2.St} {H Z : Hp} {te : TE} {Q : VK} {g : TG} {vs : List Nat} {p : Addr} {us : List V}
/-- as c_mapH, the list may be changed -/
theorem c_mapHM {β γ : Type} [Py γ] {G : V → β → Prop} {L : List β} (f : β → γ) (zh : Ex Z H) (h1 : H p = some (.lst us)) (pr : Paired G us L) (hz : L.length ≤ 40000)
    (turn : ∀ u x Z1 H1, G u x → T [] Z H Z1 H1 → ∀ A : VK, (∀ y Z3 H3, T [] Z1 H1 Z3 H3 → Ik Z3 y (f x) → A y H3) → g u (wipe σ vs) H1 fun σ2 H2 => wipe σ2 vs = wipe σ vs ∧ te σ2 H2 A)
    (fin : ∀ D Z' H', H D = none → T [] Z H Z' H' → Lm Z' H' D (L.map f) → Q (.ref D) H') : LcL K g tYes te vs σ (.ref p) H Q := by
  have hl := Paired.length pr
  refine ⟨p, rfl, ⟨us, sq_of h1⟩, lcT (n := L.length) (M := []) (Z := Z) (fun _ => true) (fun _ _ _ => True) (fun i (x : γ) y Z => (∃ b, L[i]? = some b ∧ x = f b) ∧ Ik Z y x) (fun i x y Z1 Z2 e r => ⟨r.1, Ik.ex e r.2⟩) (fun _ _ _ _ _ _ _ _ => trivial) hz zh (fun _ h => absurd h List.not_mem_nil) trivial
    (fun i Z1 H1 hi t => ⟨us, us[i]'(by omega), sq_of (t.hp nm_nil h1), List.getElem?_eq_getElem (by omega)⟩) (fun Z1 H1 t => ⟨us, sq_of (t.hp nm_nil h1), by omega⟩) (fun i hi D Z1 H1 t nD mu _ v H2 hy A B hA hB => ?_) (fun D ys L' Z' H' nD t mu f1 _ hL pr' => ?_)⟩
  · obtain ⟨rfl, fv⟩ := hy
    have hv := fv _ (sq_of (t.hp nm_nil h1))
    obtain ⟨q, hq, gq⟩ := pair_at pr hv
    rw [lc_yes]
    exact turn v q Z1 H2 gq t A fun y Z3 H3 t3 iy => hA rfl (f q) y Z3 H3 t3 trivial ⟨⟨q, hq, rfl⟩, iy⟩
  · have e2 : L'.map Prod.snd = L.map f := by
      rw [kept_snd (xs := L) (f := f) (fun q hq => by
        obtain ⟨y, hy⟩ := paired_r pr' q hq
        exact hy.1), hL, filter_yes, rg_take, List.take_length]
    exact fin D Z' H' nD t ⟨⟨ys, f1, by rw [← e2]; exact paired_mapR (Paired.mapP pr' fun y q h => h.2)⟩, mu.z, t.zh⟩
end
theorem paired_strs : ∀ {r : Row}, (∀ e ∈ r, EntW e) → Paired (fun u (e : Ent) => u = V.str (entS e) ∧ EntW e) (r.map (V.str ∘ entS)) r
  | [], _ => .nil
  | e :: r, h => .cons ⟨rfl, h e List.mem_cons_self⟩ (paired_strs fun x hx => h x (List.mem_cons_of_mem _ hx))
theorem paired_strR : ∀ rs : List Row, Paired (fun u (r : Row) => u = V.str (rowS r)) (rs.map (V.str ∘ rowS)) rs
  | [] => .nil
  | _ :: rs => .cons rfl (paired_strR rs)
theorem paired_strRs : ∀ c : List (List Row), Paired (fun u (r : List Row) => u = V.str (rowsS r)) (c.map (V.str ∘ rowsS)) c
  | [] => .nil
  | _ :: rs => .cons rfl (paired_strRs rs)
/-- a row of one's own -/
theorem lm_ot {Z H : Hp} {p : Addr} {r : Row} (lm : Lm Z H p r) : Ot true Z H (.ref p) (Py.d r) [p] := by
  obtain ⟨⟨us, h1, h2⟩, h3, h4⟩ := lm
  refine .lst h1 h3 ?_
  clear h1
  induction h2 with
  | nil => exact .nil
  | cons a t ih => exact .cons (M := []) (N := []) (.fr (fun _ => ent_noL _) a) ih
end TR
namespace TR
open PySem L2 TL
theorem sum_le {b n : Nat} : ∀ {xs : List Str}, (∀ x ∈ xs, x.length ≤ b) → xs.length = n → (xs.map (·.length)).sum ≤ n * b
  | [], _, h => by rw [← h]; exact Nat.zero_le _
  | x :: xs, h, e => by
    rw [← e, List.length_cons, Nat.succ_mul, List.map_cons, List.sum_cons]
    have h1 := h x List.mem_cons_self
    have h2 := sum_le (xs := xs) (b := b) (fun y hy => h y (List.mem_cons_of_mem _ hy)) rfl
    omega
section
variable {K : PySem.W.Frag} {σ : L2.St} {H Z : Hp} {te : TE} {Q : VK} {g : TG} {vs : List Nat} {a : Addr}
/-- texts of the things of a list of data -/
theorem c_mapS {β : Type} [Py β] {xs : List β} (f : β → Str) (zh : Ex Z H) (h : Ik Z (.ref a) xs) (hz : xs.length ≤ 40000)
    (turn : ∀ u x Z1 H1, x ∈ xs → Ik Z u x → T [] Z H Z1 H1 → ∀ A : VK, (∀ Z3 H3, T [] Z1 H1 Z3 H3 → A (.str (f x)) H3) → g u (wipe σ vs) H1 fun σ2 H2 => wipe σ2 vs = wipe σ vs ∧ te σ2 H2 A)
    (fin : ∀ D Z' H', H D = none → T [] Z H Z' H' → Z' D = some (.lst ((xs.map f).map V.str)) → Q (.ref D) H') : LcL K g tYes te vs σ (.ref a) H Q := by
  obtain ⟨b, us, e, h1, h2⟩ := h.list
  cases e
  have hl := Paired.length h2
  refine ⟨a, rfl, ⟨us, zh.sq (sq_of h1)⟩, lcT (n := xs.length) (M := []) (Z := Z) (fun _ => true) (fun _ _ _ => True) (fun i (x : Str) y Z => (∃ b, xs[i]? = some b ∧ x = f b) ∧ y = .str x) (fun i x y Z1 Z2 e r => r) (fun _ _ _ _ _ _ _ _ => trivial) hz zh (fun _ h => absurd h List.not_mem_nil) trivial
    (fun i Z1 H1 hi t => ⟨us, us[i]'(by omega), (t.z.trans t.zh).sq (sq_of h1), List.getElem?_eq_getElem (by omega)⟩) (fun Z1 H1 t => ⟨us, (t.z.trans t.zh).sq (sq_of h1), by omega⟩) (fun i hi D Z1 H1 t nD mu _ v H2 hy A B hA hB => ?_) (fun D ys L Z' H' nD t mu f1 _ hL pr => ?_)⟩
  · obtain ⟨rfl, fv⟩ := hy
    have hv := fv _ ((t.z.trans t.zh).sq (sq_of h1))
    obtain ⟨x, hx, ix⟩ := itemK h2 hv
    rw [lc_yes]
    exact turn v x Z1 H2 (List.mem_of_getElem? hx) ix t A fun Z3 H3 t3 => hA rfl (f x) _ Z3 H3 t3 trivial ⟨⟨x, hx, rfl⟩, rfl⟩
  · have e2 : L.map Prod.snd = xs.map f := by
      rw [kept_snd (xs := xs) (f := f) (fun q hq => by
        obtain ⟨y, hy⟩ := paired_r pr q hq
        exact hy.1), hL, filter_yes, rg_take, List.take_length]
    have e3 : ys = (L.map Prod.snd).map V.str := by
      clear e2 hL f1
      induction pr with
      | nil => rfl
      | cons a t ih => rw [List.map_cons, List.map_cons, ← ih, a.2]
    rw [e3, e2] at f1
    exact t_fzV mu t.zh f1 fun Z2 H2 t2 z2 => fin D Z2 H2 nD (t.step t2 (mm_cons (.inr nD) mm_nil)) z2
end
end TR
namespace TR
open PySem L2 TL
/-- a step that can be written -/
noncomputable def StpT : Stp → Prop
  | .rooms m => 0 ≤ m ∧ m ≤ 130
  | .cut r m => 0 ≤ r ∧ r ≤ 130 ∧ 0 ≤ m ∧ m ≤ 130
  | .row r a w => 0 ≤ r ∧ r ≤ 130 ∧ 0 ≤ a ∧ a ≤ 130 ∧ (∀ e ∈ w, EntW e) ∧ w.length ≤ 150
theorem len_app (x y : Str) : (x ++ y).length = x.length + y.length := by rw [len_tl, tl_append, List.length_append, ← len_tl, ← len_tl]
theorem row_text (r a : Int) (w : Row) : ("row " ++ numS r ++ " " ++ numS a ++ " " ++ rowS w : Str) = stepS (.row r a w) := by
  refine tl_ext ?_
  have e : stepS (.row r a w) = Txt.join " " ["row", numS r, numS a, rowS w] := rfl
  rw [e, join_eq]
  show _ = tl ("row" ++ " " ++ (numS r ++ " " ++ (numS a ++ " " ++ rowS w)))
  simp only [tl_append, List.append_assoc]
  rfl
end TR
namespace TR
open PySem L2 TL
section
variable {K : PySem.W.Frag} {σ : L2.St} {H Z : Hp} {te : TE} {Q : VK} {g : TG} {vs : List Nat} {a : Addr} {us : List V}
/-- texts of the things of a tuple -/
theorem c_mapST {β : Type} {L : List β} {G : V → β → Prop} (f : β → Str) (zh : Ex Z H) (h1 : H a = some (.tup us)) (pr : Paired G us L) (hz : L.length ≤ 40000)
    (turn : ∀ u x Z1 H1, G u x → x ∈ L → T [] Z H Z1 H1 → ∀ A : VK, (∀ Z3 H3, T [] Z1 H1 Z3 H3 → A (.str (f x)) H3) → g u (wipe σ vs) H1 fun σ2 H2 => wipe σ2 vs = wipe σ vs ∧ te σ2 H2 A)
    (fin : ∀ D Z' H', H D = none → T [] Z H Z' H' → Z' D = some (.lst ((L.map f).map V.str)) → Q (.ref D) H') : LcT K g tYes te vs σ (.ref a) H Q := by
  have hl := Paired.length pr
  refine ⟨a, rfl, ⟨us, st_of h1⟩, lcT (n := L.length) (M := []) (Z := Z) (fun _ => true) (fun _ _ _ => True) (fun i (x : Str) y Z => (∃ b, L[i]? = some b ∧ x = f b) ∧ y = .str x) (fun i x y Z1 Z2 e r => r) (fun _ _ _ _ _ _ _ _ => trivial) hz zh (fun _ h => absurd h List.not_mem_nil) trivial
    (fun i Z1 H1 hi t => ⟨us, us[i]'(by omega), st_of (t.hp nm_nil h1), List.getElem?_eq_getElem (by omega)⟩) (fun Z1 H1 t => ⟨us, st_of (t.hp nm_nil h1), by omega⟩) (fun i hi D Z1 H1 t nD mu _ v H2 hy A B hA hB => ?_) (fun D ys L' Z' H' nD t mu f1 _ hL pr' => ?_)⟩
  · obtain ⟨rfl, fv⟩ := hy
    have hv := fv _ (st_of (t.hp nm_nil h1))
    obtain ⟨x, hx, gx⟩ := pair_at pr hv
    rw [lc_yes]
    exact turn v x Z1 H2 gx (List.mem_of_getElem? hx) t A fun Z3 H3 t3 => hA rfl (f x) _ Z3 H3 t3 trivial ⟨⟨x, hx, rfl⟩, rfl⟩
  · have e2 : L'.map Prod.snd = L.map f := by
      rw [kept_snd (xs := L) (f := f) (fun q hq => by
        obtain ⟨y, hy⟩ := paired_r pr' q hq
        exact hy.1), hL, filter_yes, rg_take, List.take_length]
    have e3 : ys = (L'.map Prod.snd).map V.str := by
      clear e2 hL f1
      induction pr' with
      | nil => rfl
      | cons a t ih => rw [List.map_cons, List.map_cons, ← ih, a.2]
    rw [e3, e2] at f1
    exact t_fzV mu t.zh f1 fun Z2 H2 t2 z2 => fin D Z2 H2 nD (t.step t2 (mm_cons (.inr nD) mm_nil)) z2
theorem pair_intsV : ∀ ns : List Int, Paired (fun u (n : Int) => u = V.int n) (ns.map V.int) ns
  | [] => .nil
  | _ :: ns => .cons rfl (pair_intsV ns)
/-- a yard that can be written -/
noncomputable def YardT (y : Yard) : Prop := (1 ≤ y.a ∧ y.a ≤ 8) ∧ (1 ≤ y.b ∧ y.b ≤ 130) ∧ y.c.length ≤ 200 ∧ (y.c.map List.length).sum ≤ 600 ∧ (∀ rs ∈ y.c, ∀ r ∈ rs, (∀ e ∈ r, EntW e) ∧ r.length ≤ 20) ∧ y.c.getLast? ≠ some []
end
end TR
namespace TR
open PySem L2 TL
theorem sumL_le {α : Type} {b : Nat} : ∀ {xs : List (List α)}, (∀ x ∈ xs, x.length ≤ b) → (xs.map List.length).sum ≤ b * xs.length
  | [], _ => Nat.zero_le _
  | x :: xs, h => by
    rw [List.map_cons, List.sum_cons, List.length_cons, Nat.mul_succ]
    have h1 := h x List.mem_cons_self
    have h2 := sumL_le (xs := xs) (b := b) fun y hy => h y (List.mem_cons_of_mem _ hy)
    omega
theorem held_len : ∀ {c : List (List Row)}, (∀ rs ∈ c, ∀ r ∈ rs, (∀ e ∈ r, EntW e) ∧ r.length ≤ 20) → ((c.map rowsS).map (·.length)).sum ≤ 4 * c.length + 582 * (c.map List.length).sum
  | [], _ => Nat.zero_le _
  | rs :: c, h => by
    have h1 := rows_len (h rs List.mem_cons_self)
    have h2 := held_len (c := c) fun x hx => h x (List.mem_cons_of_mem _ hx)
    rw [← len_tl] at h1
    simp only [List.map_cons, List.sum_cons, List.length_cons]
    omega
theorem sum_mem {c : List (List Row)} {rs : List Row} (h : rs ∈ c) : rs.length ≤ (c.map List.length).sum := by
  induction c with
  | nil => exact absurd h List.not_mem_nil
  | cons x c ih =>
    rw [List.map_cons, List.sum_cons]
    rcases List.mem_cons.mp h with e | h
    · rw [e]; omega
    · have := ih h
      omega
end TR
namespace TR
open PySem L2 TL
theorem split_yard {y : Yard} (h : YardT y) : Txt.split (yardS y) " " = [numS y.a, numS y.b] ++ y.c.map rowsS := by
  obtain ⟨⟨a0, a1⟩, ⟨b0, b1⟩, _, _, cr, _⟩ := h
  refine split_words (List.cons_ne_nil _ _) fun x hx => ?_
  rcases List.mem_append.mp hx with hx | hx
  · rcases List.mem_cons.mp hx with rfl | hx
    · exact num_free (by omega)
    · rw [List.mem_singleton.mp hx]; exact num_free (by omega)
  · obtain ⟨rs, hr, rfl⟩ := List.mem_map.mp hx
    exact rows_free fun r hr' => (cr rs hr r hr').1
theorem joinT_len {s : Str} {xs : List Str} : (Txt.join s xs).length ≤ (xs.map (·.length)).sum + xs.length * s.length := by
  rw [join_eq]
  have key : ∀ xs : List Str, (Str.join s xs).length ≤ (xs.map (·.length)).sum + xs.length * s.length := by
    intro xs
    induction xs with
    | nil => exact Nat.zero_le _
    | cons x xs ih =>
      cases xs with
      | nil =>
        show x.length ≤ x.length + 0 + 1 * s.length
        omega
      | cons z r =>
        show (x ++ s ++ Str.join s (z :: r)).length ≤ _
        rw [len_app, len_app, List.map_cons, List.sum_cons, List.length_cons (as := z :: r), Nat.succ_mul]
        omega
  exact key xs
theorem yard_len {y : Yard} (h : YardT y) : (yardS y).length ≤ 16000000 := by
  obtain ⟨⟨a0, a1⟩, ⟨b0, b1⟩, cl, cs, cr, _⟩ := h
  have h1 := num_len (i := y.a) (by omega) (by omega)
  have h2 := num_len (i := y.b) (by omega) (by omega)
  have h3 := held_len cr
  have h4 := joinT_len (s := " ") (xs := [numS y.a, numS y.b] ++ y.c.map rowsS)
  rw [List.map_append, List.sum_append, List.length_append, List.length_map (as := y.c)] at h4
  have h5 : ([numS y.a, numS y.b].map (·.length)).sum = (numS y.a).length + ((numS y.b).length + 0) := rfl
  have h6 : (" " : Str).length = 1 := rfl
  have h7 : [numS y.a, numS y.b].length = 2 := rfl
  rw [h5, h6, h7] at h4
  show (Txt.join " " ([numS y.a, numS y.b] ++ y.c.map rowsS)).length ≤ _
  omega
end TR
namespace TR
open PySem L2
theorem otAll_last {b : Bool} {Z H : Hp} {x : PyData} : ∀ {us : List V} {xs : List PyData} {M : List Addr}, OtAll b Z H us (xs ++ [x]) M → ∃ us' u N, us = us' ++ [u] ∧ Ot b Z H u x N
  | _, [], _, .cons (v := v) a t => by
    cases t
    exact ⟨[], v, _, rfl, a⟩
  | _, y :: xs, _, .cons (v := v) a t => by
    obtain ⟨us', u, N, rfl, o⟩ := otAll_last (xs := xs) t
    exact ⟨v :: us', u, N, rfl, o⟩
/-- a yard of one's own -/
theorem ot_yard {Z H : Hp} {p D : Addr} {ys : List V} {M : List Addr} {y : Yard} (f : Z p = some (.tup [.int y.a, .int y.b, .ref D])) (fD : H D = some (.lst ys)) (zD : Z D = none) (o : OtAll true Z H ys (y.c.map Py.d) M) : Ot true Z H (.ref p) (Py.d y) (D :: M) := by
  have h : OtAll true Z H [.int y.a, .int y.b, .ref D] [.int y.a, .int y.b, .list (y.c.map Py.d)] ([] ++ ([] ++ ((D :: M) ++ []))) := .cons (.fr (fun _ => rfl) (.int _)) (.cons (.fr (fun _ => rfl) (.int _)) (.cons (.lst fD zD o) .nil))
  rw [List.append_nil, List.nil_append, List.nil_append] at h
  exact .tup f h
end TR
namespace TR
open PySem L2
/-- one of two by a truth -/
theorem s_ixB2 {K : PySem.W.Frag} {H : Hp} {Q : VK} {p : Addr} {x y : V} {c : Bool} (h : SqL K H p [x, y]) (q : Q (if c = true then y else x) H) : rIx K (.ref p) (.int (if c = true then 1 else 0)) H Q := by
  cases c
  · exact s_ixL h (v := x) (atI_lt (by decide) rfl) q
  · exact s_ixL h (v := y) (atI_lt (by decide) rfl) q
end TR
namespace TR
open PySem L2
/-- a part of a step, and its text -/
noncomputable def PartT (Z : Hp) (u : V) (x : Str) : Prop := (∃ i : Int, u = .int i ∧ 0 ≤ i ∧ i ≤ 130 ∧ x = numS i) ∨ ∃ (b : Addr) (w : Row), u = .ref b ∧ Ik Z (.ref b) w ∧ (∀ e ∈ w, EntW e) ∧ w.length ≤ 150 ∧ x = rowS w
theorem PartT.tt {M : List Addr} {Z H Z' H' : Hp} {u : V} {x : Str} (t : T M Z H Z' H') (h : PartT Z u x) : PartT Z' u x := by
  rcases h with h | ⟨b, w, h1, h2, h3⟩
  · exact .inl h
  · exact .inr ⟨b, w, h1, Ik.tt t h2, h3⟩
theorem PartT.len {Z : Hp} {u : V} {x : Str} (h : PartT Z u x) : x.length ≤ 5000 := by
  rcases h with ⟨i, _, h0, h1, rfl⟩ | ⟨b, w, _, _, hw, hl, rfl⟩
  · have := num_len h0 (by omega)
    omega
  · have := row_len hw
    rw [TL.len_tl]
    omega
theorem stp_parts {Z H : Hp} {v : V} {s : Stp} (z : Ex Z H) (iv : Ik Z v s) (hw : StpT s) : ∃ (c : Addr) (nm : Str) (us : List V) (L : List Str), v = .ref c ∧ Z c = some (.tup (.str nm :: us)) ∧ ¬ (HT.sIx (V.str nm :: us).length 0 (some 1) = 0 ∧ HT.sIx (V.str nm :: us).length (V.str nm :: us).length none = (V.str nm :: us).length) ∧
    Paired (PartT Z) us L ∧ stepS s = Txt.join " " (nm :: L) ∧ nm.length ≤ 5 ∧ L.length ≤ 3 := by
  cases s with
  | row r a w =>
    obtain ⟨c, wb, rfl, hc, iw⟩ := iv.row_of
    obtain ⟨r0, r1, a0, a1, hw, hl⟩ := hw
    exact ⟨c, "row", _, [numS r, numS a, rowS w], rfl, hc, (by show ¬ (HT.sIx 4 0 (some 1) = 0 ∧ HT.sIx 4 4 none = 4); decide), .cons (.inl ⟨r, rfl, r0, r1, rfl⟩) (.cons (.inl ⟨a, rfl, a0, a1, rfl⟩) (.cons (.inr ⟨wb, w, rfl, iw, hw, hl, rfl⟩) .nil)), rfl, by decide, (by show 3 ≤ 3; decide)⟩
  | cut r m =>
    obtain ⟨c, rfl, hc⟩ := iv.cut_of
    obtain ⟨r0, r1, a0, a1⟩ := hw
    exact ⟨c, "cut", _, [numS r, numS m], rfl, hc, (by show ¬ (HT.sIx 3 0 (some 1) = 0 ∧ HT.sIx 3 3 none = 3); decide), .cons (.inl ⟨r, rfl, r0, r1, rfl⟩) (.cons (.inl ⟨m, rfl, a0, a1, rfl⟩) .nil), rfl, by decide, (by show 2 ≤ 3; decide)⟩
  | rooms m =>
    obtain ⟨c, rfl, hc⟩ := iv.rooms_of
    obtain ⟨a0, a1⟩ := hw
    exact ⟨c, "rooms", _, [numS m], rfl, hc, (by show ¬ (HT.sIx 2 0 (some 1) = 0 ∧ HT.sIx 2 2 none = 2); decide), .cons (.inl ⟨m, rfl, a0, a1, rfl⟩) .nil, rfl, by decide, (by show 1 ≤ 3; decide)⟩
end TR
namespace TR
open PySem L2
section
variable {K : PySem.W.Frag} {Z H : Hp} {Q : VK} {D q : Addr} {qs : List Addr} {α : Type} {iα : Py α} {rs : List (List α)} {r : List α}
/-- one more own list -/
theorem Y2.add (a : Y2 Z H D qs rs) (lm : Lm Z H q r) (nq : q ∉ D :: qs) (hz : qs.length < 100000) (k : ∀ Z' H', T [D] Z H Z' H' → Y2 Z' H' D (qs ++ [q]) (rs ++ [r]) → Q .non H') : rAppend (.ref D) [.ref q] H Q := by
  obtain ⟨d1, d2⟩ := List.nodup_cons.mp a.nd
  have t : T [D] Z H Z (upd H D (.lst (qs.map V.ref ++ [.ref q]))) := T.set ⟨a.z D List.mem_cons_self, _, a.own⟩ a.zh
  have nqD : q ∉ [D] := nm_cons (fun e => nq (e ▸ List.mem_cons_self)) nm_nil
  refine ⟨D, _, _, rfl, rfl, a.own, sz_lt (by rw [List.length_map]; omega), k Z _ t ⟨by rw [List.map_append]; exact upd_same, ?_, fun b hb => ?_, t.zh, ?_⟩⟩
  · refine List.nodup_cons.mpr ⟨fun z => ?_, List.nodup_append.mpr ⟨d2, List.nodup_cons.mpr ⟨List.not_mem_nil, List.nodup_nil⟩, fun x hx y hy e => ?_⟩⟩
    · rcases List.mem_append.mp z with z | z
      · exact d1 z
      · exact nq (List.mem_singleton.mp z ▸ List.mem_cons_self)
    · rw [List.mem_singleton.mp hy] at e
      exact nq (e ▸ List.mem_cons_of_mem _ hx)
  · rcases List.mem_cons.mp hb with e | hb
    · rw [e]; exact a.z D List.mem_cons_self
    · rcases List.mem_append.mp hb with hb | hb
      · exact a.z b (List.mem_cons_of_mem _ hb)
      · rw [List.mem_singleton.mp hb]; exact lm.zd
  · exact Paired.snoc (paired_mem a.rows fun q' r' hq g => g.tt t (nm_cons (fun e => d1 (e ▸ hq)) nm_nil)) (RowO.tt t nqD lm.ex)
theorem Y2.isH (a : Y2 Z H D qs rs) : Ik H (.ref D) rs := by
  refine Ik.of_list a.own ?_
  have h := a.rows
  have z := a.zh
  clear a
  induction h with
  | nil => exact .nil
  | cons g t ih =>
    obtain ⟨us, g1, g2⟩ := g
    exact .cons (Ik.of_list g1 (Paired.mapP g2 fun v x g => Ik.ex z g)) ih
theorem Y2.of0 (m : Mu Z H D) (z : Ex Z H) (f : H D = some (.lst [])) : Y2 Z H D [] ([] : List (List α)) := ⟨f, List.nodup_cons.mpr ⟨List.not_mem_nil, List.nodup_nil⟩, fun b hb => by rw [List.mem_singleton.mp hb]; exact m.z, z, .nil⟩
theorem Y2.not (a : Y2 Z H D qs rs) (h : H q = none) : q ∉ D :: qs := fun z => by
  obtain ⟨o, ho⟩ := a.al q z
  rw [h] at ho
  cases ho
end
end TR

/-! what is asked of rows, steps, yards as texts (k91) -/
namespace TR
open PySem L2
theorem wid_ent (e : Ent) : wid (Py.d e) = true := rfl
theorem wid_row {r : Row} (h : r.length ≤ 1000) : wid (Py.d r) = true := wid_mkL (by rw [List.length_map]; exact h) fun x hx => by
  obtain ⟨e, _, rfl⟩ := List.mem_map.mp hx
  exact wid_ent e
theorem wid_rows {rs : List Row} (h : rs.length ≤ 1000) (g : ∀ r ∈ rs, r.length ≤ 1000) : wid (Py.d rs) = true := wid_mkL (by rw [List.length_map]; exact h) fun x hx => by
  obtain ⟨r, hr, rfl⟩ := List.mem_map.mp hx
  exact wid_row (g r hr)
theorem wid_stp {s : Stp} (h : StpT s) : wid (Py.d s) = true := by
  cases s with
  | row r a w =>
    obtain ⟨_, _, _, _, _, hl⟩ := h
    refine wid_mkT (by show 4 ≤ 1000; decide) fun x hx => ?_
    rcases List.mem_cons.mp hx with rfl | hx
    · rfl
    rcases List.mem_cons.mp hx with rfl | hx
    · rfl
    rcases List.mem_cons.mp hx with rfl | hx
    · rfl
    rw [List.mem_singleton.mp hx]
    exact wid_row (Nat.le_trans hl (by decide))
  | cut r m => rfl
  | rooms m => rfl
theorem wid_yard {y : Yard} (h : YardT y) : wid (Py.d y) = true := by
  obtain ⟨_, _, cl, cs, cr, _⟩ := h
  refine wid_mkT (by show 3 ≤ 1000; decide) fun x hx => ?_
  rcases List.mem_cons.mp hx with rfl | hx
  · rfl
  rcases List.mem_cons.mp hx with rfl | hx
  · rfl
  rw [List.mem_singleton.mp hx]
  refine wid_mkL (by rw [List.length_map]; exact Nat.le_trans cl (by decide)) fun x hx => ?_
  obtain ⟨rs, hr, rfl⟩ := List.mem_map.mp hx
  exact wid_rows (Nat.le_trans (Nat.le_trans (sum_mem hr) cs) (by decide)) fun r hr' => Nat.le_trans (cr rs hr r hr').2 (by decide)
/-- what is asked: a thing and its text -/
noncomputable def AskW (way : Int) (d : PyData) (x : Str) : Prop := (way = 0 ∧ ∃ rs : List TR.Row, d = Py.d rs ∧ x = rowsS rs ∧ (∀ r ∈ rs, (∀ e ∈ r, EntW e) ∧ r.length ≤ 150) ∧ rs.length ≤ 700) ∨ (way = 1 ∧ ∃ s : Stp, d = Py.d s ∧ x = stepS s ∧ StpT s ∧ ∀ m, s = .rooms m → 1 ≤ m) ∨ (way = 2 ∧ ∃ y : Yard, d = Py.d y ∧ x = yardS y ∧ YardT y)
theorem AskW.ok {way : Int} {d : PyData} {x : Str} (h : AskW way d x) : OkN 6 d ∧ wid d = true := by
  rcases h with ⟨_, rs, rfl, _, h1, h2⟩ | ⟨_, s, rfl, _, h1, _⟩ | ⟨_, y, rfl, _, h1⟩
  · exact ⟨okN_of rs (by decide), wid_rows (Nat.le_trans h2 (by decide)) fun r hr => Nat.le_trans (h1 r hr).2 (by decide)⟩
  · exact ⟨okN_of s (by decide), wid_stp h1⟩
  · exact ⟨okN_of y (by decide), wid_yard h1⟩
theorem s_par2 {i j : Nat} {t1 t2 : TE} {D : Ends} {σ : L2.St} {H : Hp} (q : t1 σ H fun x H1 => t2 σ H1 fun y H2 => D.nx ((σ.set i (some x)).set j (some y)) H2) : tPar i j (tCons t1 (tCons t2 tNil)) D σ H := by
  have e : tPar i j (tCons t1 (tCons t2 tNil)) D σ H = (t1 σ H fun x H1 => t2 σ H1 fun y H2 => ∃ v w, [x, y] = [v, w] ∧ D.nx ((σ.set i (some v)).set j (some w)) H2) := rfl
  rw [e]
  have f : (fun (x : V) (H1 : Hp) => t2 σ H1 fun y H2 => ∃ v w, [x, y] = [v, w] ∧ D.nx ((σ.set i (some v)).set j (some w)) H2) = fun x H1 => t2 σ H1 fun y H2 => D.nx ((σ.set i (some x)).set j (some y)) H2 := by
    funext x H1
    congr 1
    funext y H2
    exact propext ⟨fun ⟨v, w, e, h⟩ => by cases e; exact h, fun h => ⟨x, y, rfl, h⟩⟩
  rw [f]
  exact q
end TR

/-! words of T: zh (all of Z stands), zz, pz (what stands in Z), hz (in H), iz (data in Z), sqz, stz, nm (not among), nez, al, hd (the hand), la, mu, li, ls, mm, fz (was not there), tt (the whole way); t, ts: steps -/
open PySem L2 TR
local macro_rules | `(tactic| walk_at "zh") => `(tactic| first
  | assumption
  | exact T.zh (by assumption)
  | exact Ex.refl _
  | exact Hand.z (by assumption))
local macro_rules | `(tactic| walk_at "zhx") => `(tactic| first
  | exact T.zh (by assumption)
  | assumption
  | exact Hand.z (by assumption))
local macro_rules | `(tactic| walk_at "pz") => `(tactic| first
  | assumption
  | (apply T.pz; assumption; walk_at "pz"))
local macro_rules | `(tactic| walk_at "hz") => `(tactic| first
  | assumption
  | (apply T.hp; assumption; walk_at "nm"; walk_at "hz"))
local macro_rules | `(tactic| walk_at "nm") => `(tactic| first
  | exact nm_nil
  | assumption
  | (apply nm_cons; walk_at "nez"; walk_at "nm"))
local macro_rules | `(tactic| walk_at "nez") => `(tactic| first
  | assumption
  | (apply Ne.symm; assumption)
  | (apply ne_alF; assumption; walk_at "al")
  | (apply ne_alB; assumption; walk_at "al"))
local macro_rules | `(tactic| walk_at "al") => `(tactic| first
  | exact Hand.at (by assumption)
  | exact Mu.a (by assumption)
  | exact Lm.at_ (by assumption)
  | exact ⟨_, by assumption⟩
  | (apply T.all; assumption; walk_at "al"))
local macro_rules | `(tactic| walk_at "hd") => `(tactic| first
  | assumption
  | (apply Hand.tt; assumption; walk_at "nm"; walk_at "hd"))
local macro_rules | `(tactic| walk_at "la") => `(tactic| first
  | assumption
  | (apply Lm.tt; assumption; walk_at "nm"; walk_at "la"))
local macro_rules | `(tactic| walk_at "ls") => `(tactic| first
  | assumption
  | (apply Ls.ofInts; walk_at "pz")
  | (apply Ls.tt; assumption; walk_at "ls"))
local macro_rules | `(tactic| walk_at "lsn") => `(tactic| first
  | (walk_at "ls"))
local macro_rules | `(tactic| walk_at "izc") => `(tactic| first
  | assumption
  | exact Ls.is (by assumption)
  | (apply Ik.tt; assumption; walk_at "izc"))
local macro_rules | `(tactic| walk_at "iz") => `(tactic| first
  | exact Ik.int _
  | exact Ik.tx _
  | walk_at "izc"
  | (apply Ik.pair; walk_at "pz"; walk_at "iz"; walk_at "iz")
  | (apply Ik.three; walk_at "pz"; walk_at "iz"; walk_at "iz"; walk_at "iz")
  | (apply Ik.nil; walk_at "pz")
  | (apply Ls.is; walk_at "lsn"))
local macro_rules | `(tactic| walk_at "sqz") => `(tactic| first
  | assumption
  | (apply sq_of; walk_at "pz")
  | (apply T.sqz; assumption; walk_at "sqz"))
/-! the old words, widened -/
local macro_rules | `(tactic| walk_at "hp") => `(tactic| first
  | assumption
  | exact T.zh (by assumption) _ _ (by assumption)
  | (apply ex_ap; walk_at "zhx"; walk_at "pz")
  | walk_at "hz"
  | (apply ex_ap; assumption; walk_at "hp")
  | (apply exm_ap; assumption; walk_at "ne"; walk_at "hp"))
local macro_rules | `(tactic| walk_at "sq") => `(tactic| first
  | assumption
  | (apply sq_of; walk_at "hp")
  | (apply Ex.sq; walk_at "zhx"; walk_at "sqz")
  | focus (apply Ex.sq; rotate_left; assumption; walk_at "ex"))
local macro_rules | `(tactic| walk_at "st") => `(tactic| first
  | assumption
  | (apply st_of; walk_at "hp"))
local macro_rules | `(tactic| walk_at "isK") => `(tactic| first
  | (apply Ik.ex; walk_at "zhx"; walk_at "iz")
  | (apply Ik.nil; walk_at "hp"))
local macro_rules | `(tactic| walk_at "is") => `(tactic| first
  | assumption
  | (apply Ik.is; walk_at "isK"))
/-! steps -/
local macro_rules | `(tactic| walk_at "ig") => `(tactic| first
  | ((with_reducible apply ig_at); walk_at "at")
  | ((with_reducible apply ig_2b); intro _ _)
  | ((with_reducible apply ig_2); omega; intro _ _)
  | ((with_reducible apply ig_3); omega; intro _ _))
local macro_rules | `(tactic| walk_at "q") => `(tactic| first
  | ((with_reducible apply s_var); rfl)
  | (with_reducible (first | apply s_seq | apply s_asg | apply s_gname | apply s_cons | apply s_nil | apply s_call | apply s_op | apply s_c | apply s_if | apply s_test | apply s_ret | apply s_next | apply s_drop | apply s_bl | apply s_and | apply s_or | apply s_not | apply s_CB | apply s_tup | apply s_lst | apply s_tB | apply s_un | apply s_sl | apply s_np | apply s_part)))
local macro_rules | `(tactic| walk_at "t2") => `(tactic| first
  | (with_reducible (first | apply s_chain | apply s_andV | apply s_notV | apply s_I0 | apply s_U | apply s_plusI | apply s_eqI | apply s_neI | apply s_eqB | apply s_neB | apply s_eqS | apply s_neS | apply s_int | apply s_BM | apply s_gsub | apply s_augS | apply s_ipI | apply s_forL | apply s_forT | apply s_forR1 | apply s_forS | apply s_lcL | apply s_lcT | apply s_lcR1))
  | ((with_reducible apply s_wp); rfl)
  | ((with_reducible apply s_mod); walk_at "od"; intro _ _)
  | ((with_reducible apply s_div); walk_at "od"; walk_at "od")
  | (walk_at "pow")
  | ((with_reducible apply s_pow); decide; walk_at "od")
  | ((with_reducible apply s_mulL); walk_at "od")
  | ((with_reducible apply s_mulR); walk_at "od")
  | ((with_reducible apply t_tup); walk_at "zh"; walk_at "od"; intro _ _ _ _ _ _)
  | ((with_reducible apply t_lst0); walk_at "zh"; intro _ _ _ _ _ _ _)
  | ((with_reducible apply t_lst); walk_at "zh"; walk_at "od"; intro _ _ _ _ _ _)
  | ((with_reducible apply drawT); walk_at "hd"; walk_at "od"; walk_at "od"; walk_at "od"; intro _ _ _ _ _ _ _)
  | ((with_reducible apply keyT); walk_at "hd"; walk_at "od"; intro _ _ _ _ _ _ _)
  | ((with_reducible apply thingT); walk_at "hd"; walk_at "od"; intro _ _ _ _ _)
  | ((with_reducible apply openT); walk_at "zh"; walk_at "sq"; walk_at "od"; walk_at "od"; intro _ _ _ _ _ _)
  | ((with_reducible apply s_all); walk_at "sq")
  | ((with_reducible apply s_lenM); walk_at "sq")
  | ((with_reducible apply s_lenL); walk_at "sq")
  | ((with_reducible apply s_lenT); walk_at "st")
  | ((with_reducible apply s_gt2); walk_at "st")
  | ((with_reducible apply s_gt3); walk_at "st")
  | (with_reducible (first | apply s_max2 | apply s_abs | apply s_int1b))
  | ((with_reducible apply s_isiI); walk_at "kit")
  | ((with_reducible apply s_isiB); walk_at "kit")
  | ((with_reducible apply s_isiS); walk_at "kit")
  | ((with_reducible apply s_isiN); walk_at "kit")
  | ((with_reducible apply s_isiT); walk_at "st"; walk_at "kit")
  | ((with_reducible apply s_isiL); walk_at "sq"; walk_at "kit")
  | ((with_reducible apply t_tyLA); walk_at "la")
  | ((with_reducible apply s_tyL); walk_at "sq")
  | ((with_reducible apply t_app); walk_at "la"; walk_at "iz"; walk_at "len"; intro _ _ _ _)
  | ((with_reducible apply ixGo); walk_at "sq"; walk_at "ig")
  | ((with_reducible apply ixGoT); walk_at "st"; walk_at "ig")
  | (with_reducible (first | apply i_t | apply i_f | apply i_nt | apply i_nf))
  | ((with_reducible apply i_dt); (focus (first | trivial | assumption | omega | rfl)))
  | ((with_reducible apply i_df); (focus (first | assumption | omega | exact (fun h => h rfl))))
  | ((with_reducible apply i_ndt); (focus (first | trivial | assumption | omega | rfl))))
local macro_rules | `(tactic| walk_at "t") => `(tactic| first
  | walk_at "q"
  | walk_at "t2")
local macro_rules | `(tactic| walk_at "ts") => `(tactic| ((try dsimp only); (repeat walk_at "t")))
/-! as ts, but it stops at list(..) -/
/-! words for yards (math/yt) -/
local macro_rules | `(tactic| walk_at "ty2") => `(tactic| first
  | walk_at "t2")
local macro_rules | `(tactic| walk_at "ty") => `(tactic| first
  | walk_at "q"
  | walk_at "ty2")
local macro_rules | `(tactic| walk_at "tys") => `(tactic| ((try dsimp only); (repeat walk_at "ty")))
local macro_rules | `(tactic| walk_at "tyN") => `(tactic| ((try dsimp only); (repeat ((fail_if_success (with_reducible apply at_newl)); walk_at "ty"))))

/-! words for dicts (math/dm) -/
local macro_rules | `(tactic| walk_at "al") => `(tactic| first
  | exact Hand.at (by assumption)
  | exact Mu.a (by assumption)
  | exact Lm.at_ (by assumption)
  | exact ⟨_, by assumption⟩
  | (apply T.all; assumption; walk_at "al"))
/-! words for classes and exceptions -/
/-! words for tables -/
local macro_rules | `(tactic| walk_at "al") => `(tactic| first
  | exact Hand.at (by assumption)
  | exact Mu.a (by assumption)
  | exact Lm.at_ (by assumption)
  | exact ⟨_, by assumption⟩
  | (apply T.all; assumption; walk_at "al"))
namespace Lw
open PySem L2 TR
open PySem.Spec PyProof.Rows

/-! ### the text -/
def topS (i : Nat) : Stmt := PySem.Challenge.pw_tailrooms_k91_written_and_read.main.body.getD i (.Pass ⟨0, 0, 0, 0⟩)

structure Z (K : PySem.W.Frag) (mg : Str → Option Value) : Prop where
  b_isinstance : mg "isinstance" = none
  b_list : mg "list" = none
  b_tuple : mg "tuple" = none
  b_bool : mg "bool" = none
  b_all : mg "all" = none
  b_zip : mg "zip" = none
  b_len : mg "len" = none
  b_int : mg "int" = none
  b_str : mg "str" = none
  b_range : mg "range" = none
  b_max : mg "max" = none
  b_abs : mg "abs" = none
  c_GREATEST : ∃ t, mg "GREATEST" = some (.int 8 t)
  c_LETTERS : ∃ t, mg "LETTERS" = some (.str "abcdefghijklmnopqrstuvwxyz" t)
  c_LONGEST_kinds : ∃ t, mg "LONGEST_kinds" = some (.int 8 t)
  c_KEYS : ∃ t, mg "KEYS" = some (.int 1152921504606846976 t)
  c_FIGURES : ∃ t, mg "FIGURES" = some (.str "0123456789" t)
  c_LONGEST_texts : ∃ t, mg "LONGEST_texts" = some (.int 30 t)
  c_BARE : ∃ t, mg "BARE" = some (.str "-" t)
  c_NONE : ∃ t, mg "NONE" = some (.str "none" t)
  c_MOST : ∃ t, mg "MOST" = some (.int 130 t)

noncomputable abbrev s_law_spoil : Stmt := topS 46

noncomputable abbrev s_law_same : Stmt := topS 44

noncomputable abbrev s_is_whole : Stmt := topS 8

noncomputable abbrev s_is_size : Stmt := topS 11

noncomputable abbrev s_is_name : Stmt := topS 10

noncomputable abbrev s_is_key : Stmt := topS 9

noncomputable abbrev s_read_number : Stmt := topS 22

noncomputable abbrev s_read_entry : Stmt := topS 24

noncomputable abbrev s_read_row : Stmt := topS 25

noncomputable abbrev s_read_rows : Stmt := topS 26

noncomputable abbrev s_read_few : Stmt := topS 23

noncomputable abbrev s_read_yard : Stmt := topS 28

noncomputable abbrev s_show_row : Stmt := topS 18

noncomputable abbrev s_show_rows : Stmt := topS 19

noncomputable abbrev s_show_yard : Stmt := topS 21

noncomputable abbrev s_read_step : Stmt := topS 27

noncomputable abbrev s_show_step : Stmt := topS 20

noncomputable abbrev s_law_asked : Stmt := topS 47

noncomputable abbrev s_law_copy : Stmt := topS 45

noncomputable abbrev s_law_right : Stmt := topS 48

noncomputable abbrev s_law_row_text : Stmt := topS 40

noncomputable abbrev s_law_rows_text : Stmt := topS 41

noncomputable abbrev s_law_yard_text : Stmt := topS 43

noncomputable abbrev s_law_step_text : Stmt := topS 42

noncomputable abbrev s_law_draw : Stmt := topS 31

noncomputable abbrev s_law_thing : Stmt := topS 35

noncomputable abbrev s_law_far : Stmt := topS 32

noncomputable abbrev s_law_power : Stmt := topS 33

noncomputable abbrev s_law_key : Stmt := topS 34

noncomputable abbrev s_law_row : Stmt := topS 36

noncomputable abbrev s_law_rows : Stmt := topS 37

noncomputable abbrev s_law_yard : Stmt := topS 38

noncomputable abbrev s_law_step : Stmt := topS 39

noncomputable abbrev s_law_open : Stmt := topS 30

noncomputable abbrev s_law : Stmt := topS 49

theorem sc_law_spoil : FnScope ["_law_told", "_law_one"] ["_law_told"] (defScope s_law_spoil) := ⟨rfl, rfl, rfl, by decide +kernel, rfl, by decide +kernel, by decide +kernel⟩

theorem sc_law_same : FnScope ["_law_told", "_law_due", "_law_one", "_law_other"] ["_law_told", "_law_due"] (defScope s_law_same) := ⟨rfl, rfl, rfl, by decide +kernel, rfl, by decide +kernel, by decide +kernel⟩

theorem sc_is_whole : FnScope ["thing"] ["thing"] (defScope s_is_whole) := ⟨rfl, rfl, rfl, by decide +kernel, rfl, by decide +kernel, by decide +kernel⟩

theorem sc_is_size : FnScope ["thing"] ["thing"] (defScope s_is_size) := ⟨rfl, rfl, rfl, by decide +kernel, rfl, by decide +kernel, by decide +kernel⟩

theorem sc_is_name : FnScope ["thing", "sign"] ["thing"] (defScope s_is_name) := ⟨rfl, rfl, rfl, by decide +kernel, rfl, by decide +kernel, by decide +kernel⟩

theorem sc_is_key : FnScope ["thing"] ["thing"] (defScope s_is_key) := ⟨rfl, rfl, rfl, by decide +kernel, rfl, by decide +kernel, by decide +kernel⟩

theorem sc_read_number : FnScope ["text", "sign"] ["text"] (defScope s_read_number) := ⟨rfl, rfl, rfl, by decide +kernel, rfl, by decide +kernel, by decide +kernel⟩

theorem sc_read_entry : FnScope ["text", "parts", "key"] ["text"] (defScope s_read_entry) := ⟨rfl, rfl, rfl, by decide +kernel, rfl, by decide +kernel, by decide +kernel⟩

theorem sc_read_row : FnScope ["text", "part"] ["text"] (defScope s_read_row) := ⟨rfl, rfl, rfl, by decide +kernel, rfl, by decide +kernel, by decide +kernel⟩

theorem sc_read_rows : FnScope ["text", "part"] ["text"] (defScope s_read_rows) := ⟨rfl, rfl, rfl, by decide +kernel, rfl, by decide +kernel, by decide +kernel⟩

theorem sc_read_few : FnScope ["text", "least", "number"] ["text", "least"] (defScope s_read_few) := ⟨rfl, rfl, rfl, by decide +kernel, rfl, by decide +kernel, by decide +kernel⟩

theorem sc_read_yard : FnScope ["text", "words", "wide", "rooms", "held", "word"] ["text"] (defScope s_read_yard) := ⟨rfl, rfl, rfl, by decide +kernel, rfl, by decide +kernel, by decide +kernel⟩

theorem sc_show_row : FnScope ["row", "key", "thing"] ["row"] (defScope s_show_row) := ⟨rfl, rfl, rfl, by decide +kernel, rfl, by decide +kernel, by decide +kernel⟩

theorem sc_show_rows : FnScope ["rows", "row"] ["rows"] (defScope s_show_rows) := ⟨rfl, rfl, rfl, by decide +kernel, rfl, by decide +kernel, by decide +kernel⟩

theorem sc_show_yard : FnScope ["yard", "wide", "rooms", "held", "rows"] ["yard"] (defScope s_show_yard) := ⟨rfl, rfl, rfl, by decide +kernel, rfl, by decide +kernel, by decide +kernel⟩

theorem sc_read_step : FnScope ["text", "words"] ["text"] (defScope s_read_step) := ⟨rfl, rfl, rfl, by decide +kernel, rfl, by decide +kernel, by decide +kernel⟩

theorem sc_show_step : FnScope ["step", "number"] ["step"] (defScope s_show_step) := ⟨rfl, rfl, rfl, by decide +kernel, rfl, by decide +kernel, by decide +kernel⟩

theorem sc_law_asked : FnScope ["_law_way", "_law_thing_here", "_law_text"] ["_law_way", "_law_thing_here", "_law_text"] (defScope s_law_asked) := ⟨rfl, rfl, rfl, by decide +kernel, rfl, by decide +kernel, by decide +kernel⟩

theorem sc_law_copy : FnScope ["_law_told", "_law_one"] ["_law_told"] (defScope s_law_copy) := ⟨rfl, rfl, rfl, by decide +kernel, rfl, by decide +kernel, by decide +kernel⟩

theorem sc_law_right : FnScope ["_law_way", "_law_thing_here", "_law_text", "_law_handed", "_law_k", "_law_wrote", "_law_told"] ["_law_way", "_law_thing_here", "_law_text"] (defScope s_law_right) := ⟨rfl, rfl, rfl, by decide +kernel, rfl, by decide +kernel, by decide +kernel⟩

theorem sc_law_row_text : FnScope ["_law_row_here", "_law_words", "_law_key_here", "_law_thing_here"] ["_law_row_here"] (defScope s_law_row_text) := ⟨rfl, rfl, rfl, by decide +kernel, rfl, by decide +kernel, by decide +kernel⟩

theorem sc_law_rows_text : FnScope ["_law_rows_here", "_law_row_here"] ["_law_rows_here"] (defScope s_law_rows_text) := ⟨rfl, rfl, rfl, by decide +kernel, rfl, by decide +kernel, by decide +kernel⟩

theorem sc_law_yard_text : FnScope ["_law_yard_here", "_law_words", "_law_rows_here"] ["_law_yard_here"] (defScope s_law_yard_text) := ⟨rfl, rfl, rfl, by decide +kernel, rfl, by decide +kernel, by decide +kernel⟩

theorem sc_law_step_text : FnScope ["_law_step_here", "_law_words", "_law_part"] ["_law_step_here"] (defScope s_law_step_text) := ⟨rfl, rfl, rfl, by decide +kernel, rfl, by decide +kernel, by decide +kernel⟩

theorem sc_law_draw : FnScope ["_law_hand", "_law_many", "_law_got", "_law_k", "_law_number"] ["_law_hand", "_law_many"] (defScope s_law_draw) := ⟨rfl, rfl, rfl, by decide +kernel, rfl, by decide +kernel, by decide +kernel⟩

theorem sc_law_thing : FnScope ["_law_hand", "_law_letters", "_law_k"] ["_law_hand"] (defScope s_law_thing) := ⟨rfl, rfl, rfl, by decide +kernel, rfl, by decide +kernel, by decide +kernel⟩

theorem sc_law_far : FnScope ["_law_hand", "_law_many", "_law_number", "_law_k"] ["_law_hand", "_law_many"] (defScope s_law_far) := ⟨rfl, rfl, rfl, by decide +kernel, rfl, by decide +kernel, by decide +kernel⟩

theorem sc_law_power : FnScope ["_law_many", "_law_number", "_law_k"] ["_law_many"] (defScope s_law_power) := ⟨rfl, rfl, rfl, by decide +kernel, rfl, by decide +kernel, by decide +kernel⟩

theorem sc_law_key : FnScope ["_law_hand", "_law_way", "_law_low"] ["_law_hand"] (defScope s_law_key) := ⟨rfl, rfl, rfl, by decide +kernel, rfl, by decide +kernel, by decide +kernel⟩

theorem sc_law_row : FnScope ["_law_hand", "_law_row_here", "_law_k"] ["_law_hand"] (defScope s_law_row) := ⟨rfl, rfl, rfl, by decide +kernel, rfl, by decide +kernel, by decide +kernel⟩

theorem sc_law_rows : FnScope ["_law_hand", "_law_most", "_law_rows_here", "_law_k"] ["_law_hand", "_law_most"] (defScope s_law_rows) := ⟨rfl, rfl, rfl, by decide +kernel, rfl, by decide +kernel, by decide +kernel⟩

theorem sc_law_yard : FnScope ["_law_hand", "_law_wide", "_law_rooms", "_law_held", "_law_great", "_law_k"] ["_law_hand"] (defScope s_law_yard) := ⟨rfl, rfl, rfl, by decide +kernel, rfl, by decide +kernel, by decide +kernel⟩

theorem sc_law_step : FnScope ["_law_hand", "_law_way", "_law_numbers", "_law_row_here", "_law_k"] ["_law_hand"] (defScope s_law_step) := ⟨rfl, rfl, rfl, by decide +kernel, rfl, by decide +kernel, by decide +kernel⟩

theorem sc_law_open : FnScope ["_law_script", "_law_place", "_law_cells", "_law_at", "_law_digits", "_law_cell"] ["_law_script", "_law_place"] (defScope s_law_open) := ⟨rfl, rfl, rfl, by decide +kernel, rfl, by decide +kernel, by decide +kernel⟩

theorem sc_law : FnScope ["_law_script", "_law_place", "_law_hand", "_law_most", "_law_step_here", "_law_yard_here", "_law_rows_here"] ["_law_script"] (defScope s_law) := ⟨rfl, rfl, rfl, by decide +kernel, rfl, by decide +kernel, by decide +kernel⟩

section
variable {P : Program} {w : World} {K : PySem.W.Frag} {mg : Str → Option Value} {base : Heap}

/-! ### _law_spoil -/
noncomputable def spR_law_spoil : Nat → PySem.W.Frag → Sp
  | 0, _ => fun _ _ _ _ => False
  | d + 1, _ => fun vs H Q _ => ∃ (v : V) (x : PyData) (M : List Addr) (Z : Hp), vs = [v] ∧ Ex Z H ∧ Ot true Z H v x M ∧ M.Nodup ∧ x.depth ≤ d ∧ wid x = true ∧ ∀ Z' H', T M Z H Z' H' → Q .non H'
noncomputable abbrev sp_law_spoil (K : PySem.W.Frag) : Sp := spR_law_spoil 7 K
theorem has_law_spoil (z : Z K mg) (F : FunAt K mg "_law_spoil" s_law_spoil ["_law_told"])  : Has P w K mg base "_law_spoil" 8 (sp_law_spoil K) := by
  refine (Nat.rec (motive := fun d => Has P w K mg base "_law_spoil" (1 + d) (spR_law_spoil d K)) (Has.mono (has_of (k := 0) F sc_law_spoil (fun _ _ _ _ h => h.elim) (fun _ _ _ _ _ _ _ _ _ _ h => h.elim)) (by omega)) (fun d h_law_spoil => has_of (k := 1 + d) F sc_law_spoil (fun vs H Q E h => ?_) (fun f cdv A outer s H vs Q E hr h => ?_)) 7 : Has P w K mg base "_law_spoil" (1 + 7) (spR_law_spoil 7 K))
  · obtain ⟨v, x, M, Z, rfl, _⟩ := h
    rfl
  · obtain ⟨v, x, M, Z, rfl, zh, o, nd, hd, hw, q⟩ := h
    refine ⟨_, (pss_cons (ps_if (pt_val (pe_callB (id := "isinstance") (isiTA (K := K) rfl) (by rfl) z.b_isinstance (by decide +kernel) (pa_cons (pv 0) (pa_cons (pe_tup (pa_cons (pe_bltn (v := .ty "list") (by rfl) z.b_list (by decide +kernel) rfl) (pa_cons (pe_bltn (v := .ty "tuple") (by rfl) z.b_tuple (by decide +kernel) rfl) pa_nil))) pa_nil)))) (pss_one (ps_for PassesOwn.never rfl (piO (piL (K := K) rfl (pv 0)) (piT (K := K) rfl (pv 0))) (pg_name (i := 1) sc_law_spoil.nd rfl (by first | exact Or.inl rfl | exact Or.inr rfl)) (pss_one (ps_expr (pe_callH h_law_spoil (by omega) hr rfl (pa_cons (pv 1) pa_nil)))))) pss_nil)
        (pss_one (ps_if (pt_val (pe_callB (id := "isinstance") (isiA (K := K) rfl) (by rfl) z.b_isinstance (by decide +kernel) (pa_cons (pv 0) (pa_cons (pe_bltn (v := .ty "list") (by rfl) z.b_list (by decide +kernel) rfl) pa_nil)))) (pss_one (ps_expr (pe_bm PySem.F.plainAttrs_list PySem.F.slot_list_append PySem.F.type_list_append mt_append (pv 0) (pa_cons pe_int pa_nil)))) pss_nil))), ?_⟩
    walk_at "cx"
    by_cases cl : ∃ xs, x = .list xs
    · obtain ⟨xs, rfl⟩ := cl
      obtain ⟨p, us, M', rfl, h1, a, mm⟩ := o.list_inv zh
      obtain ⟨rfl, zp⟩ := mm rfl
      obtain ⟨np, nd'⟩ := List.nodup_cons.mp nd
      have sp := sq_of (K := K) h1
      obtain ⟨d', rfl, dm⟩ := dep_list hd
      obtain ⟨wl, wm⟩ := wid_list hw
      have ul := otAll_len a
      walk_at "ts"
      rename_i tp Z0 H0 n0 t0 f0
      refine s_isLT true (ty_sq (sq_of (t0.hp nm_nil h1))) (t0.zh _ _ f0) k_ll k_lt rfl ?_
      have h10 := t0.hp nm_nil h1
      have sp0 := sq_of (K := K) h10
      have z0 := t0.zh
      have muP : Mu Z0 H0 p := t0.mu nm_nil ⟨zp, _, h1⟩
      walk_at "ts"
      refine s_forO1 ?_
      walk_at "ts"
      refine t_forOtL (fun σ => ∃ x1, σ = [some (.ref p), x1]) t0.zh h10 np (a.tt0 t0) nd' ⟨_, rfl⟩ (fun u x N Z1 H1 σ hx hF o1 nN z1 Nx hN => ?_) (fun σ Z1 H1 hF t1 => ?_)
      · obtain ⟨x1, rfl⟩ := hF
        walk_at "ts"
        exact ⟨u, x, N, Z1, rfl, z1, o1, nN, dm x hx, wm x hx, fun Z' H' t' => by
          walk_at "ts"
          exact hN _ Z' H' ⟨_, rfl⟩ t'⟩
      · obtain ⟨x1, rfl⟩ := hF
        have h11 := t1.hp np h10
        have sp1 := sq_of (K := K) h11
        have mu1 := t1.mu np muP
        walk_at "ts"
        refine apR1 t1.zh h11 mu1.z (by omega) fun Z2 H2 t2 => ?_
        walk_at "ts"
        exact q Z2 H2 ((((T.refl zh : T (p :: M') Z H Z H).step t0 mm_nil).step t1 (fun b hb => .inl (List.mem_cons_of_mem _ hb))).step t2 (mm_1 (.inl List.mem_cons_self)))
    by_cases ct : ∃ xs, x = .tuple xs
    · obtain ⟨xs, rfl⟩ := ct
      obtain ⟨p, us, rfl, h1, a⟩ := o.tup_inv zh
      obtain ⟨d', rfl, dm⟩ := dep_tup hd
      obtain ⟨wl, wm⟩ := wid_tup hw
      walk_at "ts"
      rename_i tp Z0 H0 n0 t0 f0
      have h10 := t0.z _ _ h1
      have sp0 := st_of (K := K) (t0.zh _ _ h10)
      refine s_isLT true (ty_st sp0) (t0.zh _ _ f0) k_tl k_tt rfl ?_
      have z0 := t0.zh
      walk_at "ts"
      refine s_forO2 ?_
      walk_at "ts"
      refine t_forOtT (fun σ => ∃ x1, σ = [some (.ref p), x1]) t0.zh h10 (a.tt0 t0) nd ⟨_, rfl⟩ (fun u x N Z1 H1 σ hx hF o1 nN z1 Nx hN => ?_) (fun σ Z1 H1 hF t1 => ?_)
      · obtain ⟨x1, rfl⟩ := hF
        walk_at "ts"
        exact ⟨u, x, N, Z1, rfl, z1, o1, nN, dm x hx, wm x hx, fun Z' H' t' => by
          walk_at "ts"
          exact hN _ Z' H' ⟨_, rfl⟩ t'⟩
      · obtain ⟨x1, rfl⟩ := hF
        have sp1 := st_of (K := K) (t1.zh _ _ (t1.z _ _ h10))
        walk_at "ts"
        exact q Z1 H1 (((T.refl zh : T M Z H Z H).step t0 mm_nil).step t1 mm_same)
    obtain ⟨rfl, dx, sc⟩ := o.sc_inv (fun xs e => cl ⟨xs, e⟩) (fun xs e => ct ⟨xs, e⟩)
    rcases sc with ⟨rfl, rfl⟩ | ⟨b', rfl, rfl⟩ | ⟨i, rfl, rfl⟩ | ⟨s, rfl, rfl⟩
    · walk_at "ts"
      rename_i tp Z0 H0 n0 t0 f0
      refine s_isLT false (.base .non) (t0.zh _ _ f0) k_nl k_nt rfl ?_
      walk_at "ts"
      exact q Z0 H0 t0
    · walk_at "ts"
      rename_i tp Z0 H0 n0 t0 f0
      refine s_isLT false (.base (.bl _)) (t0.zh _ _ f0) k_bl' k_bt rfl ?_
      walk_at "ts"
      exact q Z0 H0 t0
    · walk_at "ts"
      rename_i tp Z0 H0 n0 t0 f0
      refine s_isLT false (.base (.int _)) (t0.zh _ _ f0) k_il k_it rfl ?_
      walk_at "ts"
      exact q Z0 H0 t0
    · walk_at "ts"
      rename_i tp Z0 H0 n0 t0 f0
      refine s_isLT false (.base (.str _)) (t0.zh _ _ f0) k_sl k_st rfl ?_
      walk_at "ts"
      exact q Z0 H0 t0

/-! ### _law_same -/
noncomputable def spR_law_same : Nat → PySem.W.Frag → Sp
  | 0, _ => fun _ _ _ _ => False
  | d + 1, _ => fun vs H Q _ => ∃ (v w : V) (x : PyData) (M N : List Addr) (b b' : Bool) (Z : Hp), vs = [v, w] ∧ Ex Z H ∧ Ot b Z H v x M ∧ Ot b' Z H w x N ∧ x.depth ≤ d ∧ wid x = true ∧ OkN d x ∧ d ≤ 60 ∧ ∀ Z' H', T [] Z H Z' H' → Q (.bl true) H'
noncomputable abbrev sp_law_same (K : PySem.W.Frag) : Sp := spR_law_same 7 K
theorem has_law_same (z : Z K mg) (F : FunAt K mg "_law_same" s_law_same ["_law_told", "_law_due"])  : Has P w K mg base "_law_same" 8 (sp_law_same K) := by
  refine (Nat.rec (motive := fun d => Has P w K mg base "_law_same" (1 + d) (spR_law_same d K)) (Has.mono (has_of (k := 0) F sc_law_same (fun _ _ _ _ h => h.elim) (fun _ _ _ _ _ _ _ _ _ _ h => h.elim)) (by omega)) (fun d h_law_same => has_of (k := 1 + d) F sc_law_same (fun vs H Q E h => ?_) (fun f cdv A outer s H vs Q E hr h => ?_)) 7 : Has P w K mg base "_law_same" (1 + 7) (spR_law_same 7 K))
  · obtain ⟨v, w, x, M, N, b, b', Z, rfl, _⟩ := h
    rfl
  · obtain ⟨v, w, x, M, N, b, b', Z, rfl, zh, o, o', hd, hw, ok, d60, q⟩ := h
    refine ⟨_, (pss_cons (ps_if (pt_val (pe_callB (id := "isinstance") (isiTA (K := K) rfl) (by rfl) z.b_isinstance (by decide +kernel) (pa_cons (pv 1) (pa_cons (pe_tup (pa_cons (pe_bltn (v := .ty "list") (by rfl) z.b_list (by decide +kernel) rfl) (pa_cons (pe_bltn (v := .ty "tuple") (by rfl) z.b_tuple (by decide +kernel) rfl) pa_nil))) pa_nil)))) (pss_cons (ps_if (PW.pt (pw_or (pt_cmpR (neA (K := K) rfl hr.units) (pe_callB (id := "isinstance") (isiA (K := K) rfl) (by rfl) z.b_isinstance (by decide +kernel) (pa_cons (pv 0) (pa_cons (pe_bltn (v := .ty "list") (by rfl) z.b_list (by decide +kernel) rfl) pa_nil))) (pe_callB (id := "isinstance") (isiA (K := K) rfl) (by rfl) z.b_isinstance (by decide +kernel) (pa_cons (pv 1) (pa_cons (pe_bltn (v := .ty "list") (by rfl) z.b_list (by decide +kernel) rfl) pa_nil))) (nomark _)) (pw_or1 (pt_cmpR (neA (K := K) rfl hr.units) (pe_callB (id := "isinstance") (isiA (K := K) rfl) (by rfl) z.b_isinstance (by decide +kernel) (pa_cons (pv 0) (pa_cons (pe_bltn (v := .ty "tuple") (by rfl) z.b_tuple (by decide +kernel) rfl) pa_nil))) (pe_callB (id := "isinstance") (isiA (K := K) rfl) (by rfl) z.b_isinstance (by decide +kernel) (pa_cons (pv 1) (pa_cons (pe_bltn (v := .ty "tuple") (by rfl) z.b_tuple (by decide +kernel) rfl) pa_nil))) (nomark _))))) (pss_one (ps_ret pe_bl)) pss_nil)
        (pss_one (ps_ret (pe_and (pe_cmpR (eqA (K := K) rfl hr.units) (pe_callB (id := "len") (lenA (K := K) rfl) (by rfl) z.b_len (by decide +kernel) (pa_cons (pv 0) pa_nil)) (pe_callB (id := "len") (lenA (K := K) rfl) (by rfl) z.b_len (by decide +kernel) (pa_cons (pv 1) pa_nil)) (nomark _)) (pe_one (pe_callB (id := "all") (allA (K := K) rfl rfl) (by rfl) z.b_all (by decide +kernel) (pa_cons (pe_lc (own := [("_law_one", 2), ("_law_other", 3)]) (g := gTup K 2 (gCons (gName 2) (gCons (gName 3) gNil))) (tt := tYes) rfl sc_law_same.nd (pi_zipAK (K := K) rfl (RZ.pi_zipA (by rfl) z.b_zip (pa_cons (pv 0) (pa_cons (pv 1) pa_nil)))) (blkOk_by (own := [("_law_one", 2), ("_law_other", 3)]) (N := ["_law_told", "_law_due", "_law_one", "_law_other"]) (sc := defScope s_law_same) (by decide +kernel)) (fun _ _ _ _ _ => (pg_tup rfl (pgs_cons (pg_name (i := 2) sc_law_same.nd rfl (by first | exact Or.inl rfl | exact Or.inr rfl)) (pgs_cons (pg_name (i := 3) sc_law_same.nd rfl (by first | exact Or.inl rfl | exact Or.inr rfl)) pgs_nil)))) (fun _ _ _ _ _ => pts_nil) (fun _ _ _ _ _ => (pe_callH h_law_same (by omega) hr rfl (pa_cons (pv 2) (pa_cons (pv 3) pa_nil))))) pa_nil))))))) pss_nil)
        (pss_one (ps_ret (pe_and (pe_cmpR (eqA (K := K) rfl hr.units) (pe_callB (id := "isinstance") (isiA (K := K) rfl) (by rfl) z.b_isinstance (by decide +kernel) (pa_cons (pv 0) (pa_cons (pe_bltn (v := .ty "bool") (by rfl) z.b_bool (by decide +kernel) rfl) pa_nil))) (pe_callB (id := "isinstance") (isiA (K := K) rfl) (by rfl) z.b_isinstance (by decide +kernel) (pa_cons (pv 1) (pa_cons (pe_bltn (v := .ty "bool") (by rfl) z.b_bool (by decide +kernel) rfl) pa_nil))) (nomark _)) (pe_one (pe_cmpR (eqA (K := K) rfl hr.units) (pv 0) (pv 1) (nomark _))))))), ?_⟩
    walk_at "cx"
    by_cases cl : ∃ xs, x = .list xs
    · obtain ⟨xs, rfl⟩ := cl
      obtain ⟨p, us, M', rfl, h1, a, _⟩ := o.list_inv zh
      obtain ⟨p', us', N', rfl, h1', a', _⟩ := o'.list_inv zh
      obtain ⟨d', rfl, dm⟩ := dep_list hd
      obtain ⟨wl, wm⟩ := wid_list hw
      have ul := otAll_len a
      have ul' := otAll_len a'
      walk_at "ts"
      rename_i tp Z0 H0 n0 t0 f0
      have g1 := t0.hp nm_nil h1
      have g1' := t0.hp nm_nil h1'
      have s1 := sq_of (K := K) g1
      have s1' := sq_of (K := K) g1'
      refine s_isLT true (ty_sq s1') (t0.zh _ _ f0) k_ll k_lt rfl ?_
      have z0 := t0.zh
      walk_at "ts"
      refine s_lcZA ?_
      walk_at "ts"
      refine c_otZL z0 g1 g1' (a.tt0 t0) (a'.tt0 t0) (by omega) (fun u w x N N' T0 Z1 H1 hx o1 o1' fT t A hA => ?_) (fun D Z1 H1 nD t fD => ?_)
      · have z1 := t.zh
        have sT := st_of (K := K) (z1 _ _ fT)
        walk_at "ts"
        exact ⟨u, w, x, N, N', b, b', Z1, rfl, z1, o1, o1', dm x hx, wm x hx, okN_memL ok hx, by omega, fun Z' H' t' => by
          walk_at "ts"
          exact hA _ _ t'⟩
      · have sD := sq_of (K := K) (t.zh _ _ fD)
        have sD' : SqL K H1 D ((List.replicate us.length true).map V.bl) := sD
        walk_at "ts"
        rw [all_rep]
        exact q Z1 H1 (t0.step t mm_nil)
    by_cases ct : ∃ xs, x = .tuple xs
    · obtain ⟨xs, rfl⟩ := ct
      obtain ⟨p, us, rfl, h1, a⟩ := o.tup_inv zh
      obtain ⟨p', us', rfl, h1', a'⟩ := o'.tup_inv zh
      obtain ⟨d', rfl, dm⟩ := dep_tup hd
      obtain ⟨wl, wm⟩ := wid_tup hw
      have ul := otAll_len a
      have ul' := otAll_len a'
      walk_at "ts"
      rename_i tp Z0 H0 n0 t0 f0
      have z0 := t0.zh
      have g1 := z0 _ _ (t0.z _ _ h1)
      have g1' := z0 _ _ (t0.z _ _ h1')
      have s1 := st_of (K := K) g1
      have s1' := st_of (K := K) g1'
      refine s_isLT true (ty_st s1') (z0 _ _ f0) k_tl k_tt rfl ?_
      walk_at "ts"
      refine s_lcZA ?_
      walk_at "ts"
      refine c_otZT z0 g1 g1' (a.tt0 t0) (a'.tt0 t0) (by omega) (fun u w x N N' T0 Z1 H1 hx o1 o1' fT t A hA => ?_) (fun D Z1 H1 nD t fD => ?_)
      · have z1 := t.zh
        have sT := st_of (K := K) (z1 _ _ fT)
        walk_at "ts"
        exact ⟨u, w, x, N, N', b, b', Z1, rfl, z1, o1, o1', dm x hx, wm x hx, okN_memT ok hx, by omega, fun Z' H' t' => by
          walk_at "ts"
          exact hA _ _ t'⟩
      · have sD' : SqL K H1 D ((List.replicate us.length true).map V.bl) := sq_of (t.zh _ _ fD)
        walk_at "ts"
        rw [all_rep]
        exact q Z1 H1 (t0.step t mm_nil)
    obtain ⟨_, dx, sc⟩ := o.sc_inv (fun xs e => cl ⟨xs, e⟩) (fun xs e => ct ⟨xs, e⟩)
    obtain ⟨_, dx', _⟩ := o'.sc_inv (fun xs e => cl ⟨xs, e⟩) (fun xs e => ct ⟨xs, e⟩)
    rcases sc with ⟨rfl, rfl⟩ | ⟨b2, rfl, rfl⟩ | ⟨i, rfl, rfl⟩ | ⟨s, rfl, rfl⟩
    · cases dx'
      walk_at "ts"
      rename_i tp Z0 H0 n0 t0 f0
      refine s_isLT false (.base .non) (t0.zh _ _ f0) k_nl k_nt rfl ?_
      walk_at "ts"
      refine s_eqD (d := PyData.none) (e := PyData.none) (.non) (.non) (ok.ok (by omega : d ≤ 64)).1 (ok.ok (by omega : d ≤ 64)).1 ?_
      rw [(ok.ok (by omega : d ≤ 64)).2]
      exact q Z0 H0 t0
    · cases dx'
      walk_at "ts"
      rename_i tp Z0 H0 n0 t0 f0
      refine s_isLT false (.base (.bl _)) (t0.zh _ _ f0) k_bl' k_bt rfl ?_
      walk_at "ts"
      rw [decide_eq_true rfl]
      exact q Z0 H0 t0
    · cases dx'
      walk_at "ts"
      rename_i tp Z0 H0 n0 t0 f0
      refine s_isLT false (.base (.int _)) (t0.zh _ _ f0) k_il k_it rfl ?_
      walk_at "ts"
      rw [decide_eq_true rfl]
      exact q Z0 H0 t0
    · cases dx'
      walk_at "ts"
      rename_i tp Z0 H0 n0 t0 f0
      refine s_isLT false (.base (.str _)) (t0.zh _ _ f0) k_sl k_st rfl ?_
      walk_at "ts"
      rw [decide_eq_true rfl]
      exact q Z0 H0 t0

/-! ### is_whole -/
noncomputable def sp_is_whole (K : PySem.W.Frag) : Sp := fun vs H Q _ => ∃ (v : V) (n : String), vs = [v] ∧ KindV K H v n ∧ Q (.bl (wholeV v)) H
theorem has_is_whole (z : Z K mg) (F : FunAt K mg "is_whole" s_is_whole ["thing"])  : Has P w K mg base "is_whole" 1 (sp_is_whole K) := by
  refine has_of F sc_is_whole (fun vs H Q E h => ?_) (fun f cdv A outer s H vs Q E hr h => ?_)
  · obtain ⟨v, n, rfl, _⟩ := h
    rfl
  · obtain ⟨v, n, rfl, kv, q⟩ := h
    refine ⟨_, (pss_one (ps_ret (pe_and (pe_callB (id := "isinstance") (isiA (K := K) rfl) (by rfl) z.b_isinstance (by decide +kernel) (pa_cons (pv 0) (pa_cons (pe_bltn (v := .ty "int") (by rfl) z.b_int (by decide +kernel) rfl) pa_nil))) (pe_one (pe_not (pe_callB (id := "isinstance") (isiA (K := K) rfl) (by rfl) z.b_isinstance (by decide +kernel) (pa_cons (pv 0) (pa_cons (pe_bltn (v := .ty "bool") (by rfl) z.b_bool (by decide +kernel) rfl) pa_nil)))))))), ?_⟩
    walk_at "cx"
    cases kv with
    | dct h =>
      walk_at "ss"
      refine s_isiDk h k_di ?_
      walk_at "ss"
      exact q
    | _ =>
      walk_at "ss"
      exact q

/-! ### is_size -/
noncomputable def sp_is_size (K : PySem.W.Frag) : Sp := fun vs H Q _ => ∃ (v : V) (n : String), vs = [v] ∧ KindV K H v n ∧ Q (.bl (sizeV v)) H
theorem has_is_size (z : Z K mg) (F : FunAt K mg "is_size" s_is_size ["thing"]) (h_is_whole : Has P w K mg base "is_whole" 1 (sp_is_whole K)) : Has P w K mg base "is_size" 2 (sp_is_size K) := by
  refine has_of F sc_is_size (fun vs H Q E h => ?_) (fun f cdv A outer s H vs Q E hr h => ?_)
  · obtain ⟨v, n, rfl, _⟩ := h
    rfl
  · obtain ⟨v, n, rfl, kv, q⟩ := h
    refine ⟨_, (pss_one (ps_ret (pe_and (pe_callH h_is_whole (by decide) hr rfl (pa_cons (pv 0) pa_nil)) (pe_one (pe_chain op_le op_le pe_int (pv 0) (pe_constI z.c_GREATEST rfl)))))), ?_⟩
    walk_at "cx"
    walk_at "ss"
    refine ⟨_, _, rfl, kv, ?_⟩
    refine kv.cases' (fun i e => ?_) (fun e => ?_)
    · subst e
      rw [show wholeV (V.int i) = true from rfl]
      walk_at "ss"
      refine i_d (fun h1 => ?_) (fun h1 => ?_)
      · walk_at "ss"
        have e : sizeV (V.int i) = decide (i ≤ 8) := by
          show decide (_ ∧ _) = _
          by_cases c : i ≤ 8
          · rw [decide_eq_true c, decide_eq_true ⟨h1, c⟩]
          · rw [decide_eq_false c, decide_eq_false fun z => c z.2]
        rw [e] at q
        exact q
      · have e : sizeV (V.int i) = false := decide_eq_false fun z => h1 z.1
        rw [e] at q
        exact q
    · rw [e]
      walk_at "ss"
      rw [sizeV_no e] at q
      exact q

/-! ### is_name -/
noncomputable def sp_is_name (K : PySem.W.Frag) : Sp := fun vs H Q _ => ∃ (v : V) (n : String), vs = [v] ∧ KindV K H v n ∧ Q (.bl (nameV v)) H
theorem has_is_name (z : Z K mg) (F : FunAt K mg "is_name" s_is_name ["thing"])  : Has P w K mg base "is_name" 1 (sp_is_name K) := by
  refine has_of F sc_is_name (fun vs H Q E h => ?_) (fun f cdv A outer s H vs Q E hr h => ?_)
  · obtain ⟨v, n, rfl, _⟩ := h
    rfl
  · obtain ⟨v, n, rfl, kv, q⟩ := h
    refine ⟨_, (pss_cons (ps_if (PW.pt (pw_or (pt_not (pt_val (pe_callB (id := "isinstance") (isiA (K := K) rfl) (by rfl) z.b_isinstance (by decide +kernel) (pa_cons (pv 0) (pa_cons (pe_bltn (v := .ty "str") (by rfl) z.b_str (by decide +kernel) rfl) pa_nil))))) (pw_or1 (pt_not (pt_chain op_le op_le pe_int (pe_callB (id := "len") (lenA (K := K) rfl) (by rfl) z.b_len (by decide +kernel) (pa_cons (pv 0) pa_nil)) (pe_constI z.c_LONGEST_kinds rfl)))))) (pss_one (ps_ret pe_bl)) pss_nil)
        (pss_cons (ps_for PassesOwn.never rfl (pi_str (pv 0)) (pg_name (i := 1) sc_is_name.nd rfl (by first | exact Or.inl rfl | exact Or.inr rfl)) (pss_one (ps_if (pt_cmpR op_notIn_sign (pv 1) (pe_constS z.c_LETTERS rfl) (by rfl)) (pss_one (ps_ret pe_bl)) pss_nil)))
        (pss_one (ps_ret pe_bl)))), ?_⟩
    walk_at "cx"
    cases kv with
    | str x hx =>
      walk_at "ss"
      refine s_lenS hx ?_
      walk_at "ss"
      have no : ¬ (1 ≤ x.length ∧ x.length ≤ 8) → nameB x = false := fun h => by
        unfold nameB
        rw [decide_eq_false h]
        rfl
      refine i_d (fun h1 => ?_) (fun h1 => ?_)
      · walk_at "ss"
        refine i_n (fun h2 => ?_) (fun h2 => ?_)
        · walk_at "ss"
          have e : nameV (V.str x) = false := no fun z => h2 (by omega)
          rw [e] at q
          exact q
        · walk_at "ss"
          refine u_forS (fun i σ H' => (∀ c ∈ x.cps.toList.take i, c ∈ lettersS.cps.toList) ∧ ∃ x1 : Option V, σ = [some (.str x), x1] ∧ H' = H) ⟨fun c hc => by simp at hc, _, rfl, rfl⟩ (fun i c σ H' hc hh => ?_) (fun σ H' hh => ?_)
          · obtain ⟨g, x1, rfl, rfl⟩ := hh
            walk_at "ss"
            refine ⟨c, _, rfl, rfl, ?_⟩
            have hc' : x.cps.toList[i]? = some c := by rw [Array.getElem?_toList]; exact hc
            walk_at "ss"
            refine i_n (fun h3 => ?_) (fun h3 => ?_)
            · walk_at "ss"
              have e : nameV (V.str x) = false := by
                show nameB x = false
                unfold nameB
                rw [Bool.and_eq_false_iff]
                exact .inr (List.all_eq_false.mpr ⟨c, List.mem_of_getElem? hc', fun z => h3 (of_decide_eq_true z)⟩)
              rw [e] at q
              exact q
            · walk_at "ss"
              refine ⟨fun c' hc2 => ?_, _, rfl, rfl⟩
              rw [List.take_add_one, hc'] at hc2
              rcases List.mem_append.mp hc2 with hc2 | hc2
              · exact g c' hc2
              · rw [List.mem_singleton.mp hc2]
                exact h3
          · obtain ⟨g, x1, rfl, rfl⟩ := hh
            walk_at "ss"
            have e : nameV (V.str x) = true := by
              show nameB x = true
              unfold nameB
              rw [Bool.and_eq_true]
              refine ⟨decide_eq_true (by omega), List.all_eq_true.mpr fun c hc => decide_eq_true (g c ?_)⟩
              rw [← Array.length_toList, List.take_length]
              exact hc
            rw [e] at q
            exact q
      · walk_at "ss"
        have e : nameV (V.str x) = false := no fun z => h1 (by omega)
        rw [e] at q
        exact q
    | dct h =>
      walk_at "ss"
      refine s_isiDk h k_ds ?_
      walk_at "ss"
      exact q
    | _ =>
      walk_at "ss"
      exact q

/-! ### is_key -/
noncomputable def sp_is_key (K : PySem.W.Frag) : Sp := fun vs H Q _ => ∃ (v : V) (n : String), vs = [v] ∧ KindV K H v n ∧ Q (.bl (keyV v)) H
theorem has_is_key (z : Z K mg) (F : FunAt K mg "is_key" s_is_key ["thing"]) (h_is_whole : Has P w K mg base "is_whole" 1 (sp_is_whole K)) : Has P w K mg base "is_key" 2 (sp_is_key K) := by
  refine has_of F sc_is_key (fun vs H Q E h => ?_) (fun f cdv A outer s H vs Q E hr h => ?_)
  · obtain ⟨v, n, rfl, _⟩ := h
    rfl
  · obtain ⟨v, n, rfl, kv, q⟩ := h
    refine ⟨_, (pss_one (ps_ret (pe_and (pe_callH h_is_whole (by decide) hr rfl (pa_cons (pv 0) pa_nil)) (pe_one (pe_chain op_le op_lt pe_int (pv 0) (pe_constI z.c_KEYS rfl)))))), ?_⟩
    walk_at "cx"
    walk_at "ss"
    refine ⟨_, _, rfl, kv, ?_⟩
    refine kv.cases' (fun i e => ?_) (fun e => ?_)
    · subst e
      rw [show wholeV (V.int i) = true from rfl]
      walk_at "ss"
      refine i_d (fun h1 => ?_) (fun h1 => ?_)
      · walk_at "ss"
        have e : keyV (V.int i) = decide (i < 1152921504606846976) := by
          show decide (_ ∧ _) = _
          by_cases c : i < 1152921504606846976
          · rw [decide_eq_true c, decide_eq_true ⟨h1, c⟩]
          · rw [decide_eq_false c, decide_eq_false fun z => c z.2]
        rw [e] at q
        exact q
      · have e : keyV (V.int i) = false := decide_eq_false fun z => h1 z.1
        rw [e] at q
        exact q
    · rw [e]
      walk_at "ss"
      rw [keyV_no e] at q
      exact q

/-! ### read_number -/
noncomputable def sp_read_number (K : PySem.W.Frag) : Sp := fun vs H Q _ => ∃ n : Int, vs = [.str (numS n)] ∧ 0 ≤ n ∧ n < 1000000000000000000000000000000 ∧ Q (.int n) H
theorem has_read_number (z : Z K mg) (F : FunAt K mg "read_number" s_read_number ["text"])  : Has P w K mg base "read_number" 1 (sp_read_number K) := by
  refine has_of F sc_read_number (fun vs H Q E h => ?_) (fun f cdv A outer s H vs Q E hr h => ?_)
  · obtain ⟨n, rfl, _⟩ := h
    rfl
  · obtain ⟨n, rfl, n0, n1, q⟩ := h
    refine ⟨_, (pss_cons (ps_if (PW.pt (pw_or (pt_not (pt_chain op_le op_le pe_int (pe_callB (id := "len") (lenA (K := K) rfl) (by rfl) z.b_len (by decide +kernel) (pa_cons (pv 0) pa_nil)) (pe_constI z.c_LONGEST_texts rfl))) (pw_or1 (PW.pt (pw_and (pt_cmpR (eqA (K := K) rfl hr.units) (pe_ix (ixA (K := K) rfl) (pv 0) pe_int (fun _ _ => rfl)) pe_str (nomark _)) (pw_and1 (pt_cmpR op_gt (pe_callB (id := "len") (lenA (K := K) rfl) (by rfl) z.b_len (by decide +kernel) (pa_cons (pv 0) pa_nil)) pe_int (nomark _)))))))) (pss_one ps_never) pss_nil)
        (pss_cons (ps_for PassesOwn.never rfl (pi_str (pv 0)) (pg_name (i := 1) sc_read_number.nd rfl (by first | exact Or.inl rfl | exact Or.inr rfl)) (pss_one (ps_if (pt_cmpR op_notIn_sign (pv 1) (pe_constS z.c_FIGURES rfl) (by rfl)) (pss_one ps_never) pss_nil)))
        (pss_one (ps_ret (pe_callTy (T := "int") intTA (by rfl) z.b_int (by decide +kernel) (pa_cons (pv 0) pa_nil)))))), ?_⟩
    walk_at "cx"
    have hl := num_len n0 n1
    have hp := numS_pos n0
    obtain ⟨c, hc, h48⟩ := numS_head n0
    walk_at "ts"
    refine s_lenTx (by omega) ?_
    walk_at "ts"
    refine s_ixSign (by decide) hc (by omega) ?_
    walk_at "ts"
    have one : (⟨#[c]⟩ : Str) = "0" → c = 48 := fun e => by
      have := congrArg TL.tl e
      have : [c] = [48] := this
      cases this
      rfl
    have digits : ∀ c' ∈ (numS n).cps.toList, 48 ≤ c' ∧ c' ≤ 57 := fun c' hc' => by
      have : c' ∈ TL.tl (numS n) := hc'
      rw [tl_numS n0] at this
      exact numL_low this
    refine i_d (fun e => ?_) (fun e => ?_)
    · have l1 := h48 (one e)
      walk_at "ts"
      refine s_lenTx (by omega) ?_
      walk_at "ts"
      refine u_forS (fun i σ H' => ∃ x1, σ = [some (.str (numS n)), x1] ∧ H' = H) ⟨_, rfl, rfl⟩ (fun i c σ H' hc hh => ?_) (fun σ H' hh => ?_)
      · obtain ⟨x1, rfl, rfl⟩ := hh
        walk_at "ts"
        have hf := fig_mem (digits c (List.mem_of_getElem? (by rw [Array.getElem?_toList]; exact hc)))
        refine ⟨c, figS, rfl, rfl, ?_⟩
        walk_at "ts"
        exact ⟨_, rfl, rfl⟩
      · obtain ⟨x1, rfl, rfl⟩ := hh
        walk_at "ts"
        exact t_intT n0 n1 q
    · walk_at "ts"
      refine u_forS (fun i σ H' => ∃ x1, σ = [some (.str (numS n)), x1] ∧ H' = H) ⟨_, rfl, rfl⟩ (fun i c σ H' hc hh => ?_) (fun σ H' hh => ?_)
      · obtain ⟨x1, rfl, rfl⟩ := hh
        walk_at "ts"
        have hf := fig_mem (digits c (List.mem_of_getElem? (by rw [Array.getElem?_toList]; exact hc)))
        refine ⟨c, figS, rfl, rfl, ?_⟩
        walk_at "ts"
        exact ⟨_, rfl, rfl⟩
      · obtain ⟨x1, rfl, rfl⟩ := hh
        walk_at "ts"
        exact t_intT n0 n1 q

/-! ### read_entry -/
noncomputable def sp_read_entry (K : PySem.W.Frag) : Sp := fun vs H Q _ => ∃ (e : Ent) (Z : Hp), vs = [.str (entS e)] ∧ Ex Z H ∧ EntW e ∧ ∀ v Z' H', T [] Z H Z' H' → Ik Z' v e → Q v H'
theorem has_read_entry (z : Z K mg) (F : FunAt K mg "read_entry" s_read_entry ["text"]) (h_is_name : Has P w K mg base "is_name" 1 (sp_is_name K)) (h_is_key : Has P w K mg base "is_key" 2 (sp_is_key K)) (h_read_number : Has P w K mg base "read_number" 1 (sp_read_number K)) : Has P w K mg base "read_entry" 3 (sp_read_entry K) := by
  refine has_of F sc_read_entry (fun vs H Q E h => ?_) (fun f cdv A outer s H vs Q E hr h => ?_)
  · obtain ⟨_, _, rfl, _⟩ := h
    rfl
  · obtain ⟨e, Z, rfl, zh, hw, q⟩ := h
    refine ⟨_, (pss_cons (ps_set (i := 1) sc_read_entry.nd rfl (by first | exact Or.inl rfl | exact Or.inr rfl) (pe_m1 (r := rSplit) (pe_split (pv 0) pe_str)))
        (pss_cons (ps_if (pt_cmpR (neA (K := K) rfl hr.units) (pe_callB (id := "len") (lenA (K := K) rfl) (by rfl) z.b_len (by decide +kernel) (pa_cons (pv 1) pa_nil)) pe_int (nomark _)) (pss_one ps_never) pss_nil)
        (pss_cons (ps_set (i := 2) sc_read_entry.nd rfl (by first | exact Or.inl rfl | exact Or.inr rfl) (pe_callH h_read_number (by decide) hr rfl (pa_cons (pe_ix (ixA (K := K) rfl) (pv 1) pe_int (fun _ _ => rfl)) pa_nil)))
        (pss_cons (ps_if (PW.pt (pw_or (pt_not (pt_val (pe_callH h_is_key (by decide) hr rfl (pa_cons (pv 2) pa_nil)))) (pw_or1 (pt_not (pt_val (pe_callH h_is_name (by decide) hr rfl (pa_cons (pe_ix (ixA (K := K) rfl) (pv 1) pe_int (fun _ _ => rfl)) pa_nil))))))) (pss_one ps_never) pss_nil)
        (pss_one (ps_ret (pe_tup (pa_cons (pv 2) (pa_cons (pe_ix (ixA (K := K) rfl) (pv 1) pe_int (fun _ _ => rfl)) pa_nil))))))))), ?_⟩
    walk_at "cx"
    have el := ent_len hw
    obtain ⟨h0, h1, hn⟩ := id hw
    have nl := (nameB_low hn).2.1
    walk_at "ts"
    refine s_m1 ?_
    walk_at "ts"
    refine n_m1 ?_
    walk_at "ts"
    refine t_split zh rfl (by rw [TL.len_tl]; omega) fun p Z1 H1 np t1 f1 => ?_
    rw [split_ent hw] at f1
    have z1 := t1.zh
    have sp := sq_of (K := K) (z1 _ _ f1)
    walk_at "ts"
    refine ⟨e.1, rfl, h0, by omega, ?_⟩
    walk_at "ts"
    refine ⟨_, _, rfl, .int e.1, ?_⟩
    have ek : keyV (.int e.1) = true := decide_eq_true ⟨h0, h1⟩
    rw [ek]
    walk_at "ts"
    refine ⟨_, _, rfl, .str e.2.1 (by omega), ?_⟩
    have en : nameV (.str e.2.1) = true := hn
    rw [en]
    walk_at "ts"
    rename_i p2 Z2 H2 n2 t2 f2
    exact q _ Z2 H2 (t1.step t2 mm_nil) (Ik.pair f2 (Ik.int _) (Ik.tx e.2))

/-! ### read_row -/
noncomputable def sp_read_row (K : PySem.W.Frag) : Sp := fun vs H Q _ => ∃ (r : TR.Row) (Z : Hp), vs = [.str (rowS r)] ∧ Ex Z H ∧ (∀ e ∈ r, EntW e) ∧ r.length ≤ 1000 ∧ ∀ p Z' H', H p = none → T [] Z H Z' H' → Lm Z' H' p r → Q (.ref p) H'
theorem has_read_row (z : Z K mg) (F : FunAt K mg "read_row" s_read_row ["text"]) (h_read_entry : Has P w K mg base "read_entry" 3 (sp_read_entry K)) : Has P w K mg base "read_row" 4 (sp_read_row K) := by
  refine has_of F sc_read_row (fun vs H Q E h => ?_) (fun f cdv A outer s H vs Q E hr h => ?_)
  · obtain ⟨_, _, rfl, _⟩ := h
    rfl
  · obtain ⟨r, Z, rfl, zh, hw, hl, q⟩ := h
    refine ⟨_, (pss_cons (ps_if (pt_cmpR (eqA (K := K) rfl hr.units) (pv 0) (pe_constS z.c_BARE rfl) (nomark _)) (pss_one (ps_ret (pe_lst pa_nil))) pss_nil)
        (pss_one (ps_ret (pe_lc (own := [("part", 1)]) (g := gName 1) (tt := tYes) rfl sc_read_row.nd (piL (K := K) rfl (pe_m1 (r := rSplit) (pe_split (pv 0) pe_str))) (blkOk_by (own := [("part", 1)]) (N := ["text", "part"]) (sc := defScope s_read_row) (by decide +kernel)) (fun _ _ _ _ _ => (pg_name (i := 1) sc_read_row.nd rfl (by first | exact Or.inl rfl | exact Or.inr rfl))) (fun _ _ _ _ _ => pts_nil) (fun _ _ _ _ _ => (pe_callH h_read_entry (by decide) hr rfl (pa_cons (pv 1) pa_nil))))))), ?_⟩
    walk_at "cx"
    have rl := row_len hw
    have rb := row_bare hw
    walk_at "ts"
    refine i_d (fun c => ?_) (fun c => ?_)
    · have er := rb.mp c
      subst er
      walk_at "ts"
      rename_i p Z1 H1 n1 t1 m1 f1
      exact q p Z1 H1 n1 t1 (Lm.of0 m1 t1.zh f1)
    · have nr : r ≠ [] := fun e => c (rb.mpr e)
      walk_at "ts"
      refine s_m1 ?_
      walk_at "ts"
      refine n_m1 ?_
      walk_at "ts"
      refine t_split zh rfl (by rw [TL.len_tl]; omega) fun p Z1 H1 np t1 f1 => ?_
      rw [split_row hw nr] at f1
      have z1 := t1.zh
      walk_at "ts"
      refine c_mapHM (G := fun u (e : Ent) => u = V.str (entS e) ∧ EntW e) (L := r) (fun e : Ent => e) z1 (z1 _ _ f1) ?_ (by omega) (fun u e Z2 H2 hu t2 A hA => ?_) (fun D Z2 H2 nD t2 lm2 => ?_)
      · rw [List.map_map]
        exact paired_strs hw
      · obtain ⟨rfl, he⟩ := hu
        walk_at "ts"
        exact ⟨e, Z2, rfl, t2.zh, he, fun v Z' H' t' i => by
          walk_at "ts"
          exact hA v Z' H' t' i⟩
      · rw [List.map_id'] at lm2
        walk_at "ts"
        exact q D Z2 H2 (t1.nn nD) (t1.step t2 mm_nil) lm2

/-! ### read_rows -/
noncomputable def sp_read_rows (K : PySem.W.Frag) : Sp := fun vs H Q _ => ∃ (rs : List TR.Row) (Z : Hp), vs = [.str (rowsS rs)] ∧ Ex Z H ∧ (∀ r ∈ rs, (∀ e ∈ r, EntW e) ∧ r.length ≤ 700) ∧ rs.length ≤ 700 ∧ ∀ v M Z' H', T [] Z H Z' H' → Ot true Z' H' v (Py.d rs) M → M.Nodup → (∀ b ∈ M, H b = none) → Q v H'
theorem has_read_rows (z : Z K mg) (F : FunAt K mg "read_rows" s_read_rows ["text"]) (h_read_row : Has P w K mg base "read_row" 4 (sp_read_row K)) : Has P w K mg base "read_rows" 5 (sp_read_rows K) := by
  refine has_of F sc_read_rows (fun vs H Q E h => ?_) (fun f cdv A outer s H vs Q E hr h => ?_)
  · obtain ⟨_, _, rfl, _⟩ := h
    rfl
  · obtain ⟨rs, Z, rfl, zh, hw, hl, q⟩ := h
    refine ⟨_, (pss_cons (ps_if (pt_not (pt_val (pe_callB (id := "isinstance") (isiA (K := K) rfl) (by rfl) z.b_isinstance (by decide +kernel) (pa_cons (pv 0) (pa_cons (pe_bltn (v := .ty "str") (by rfl) z.b_str (by decide +kernel) rfl) pa_nil))))) (pss_one ps_never) pss_nil)
        (pss_cons (ps_if (pt_cmpR (eqA (K := K) rfl hr.units) (pv 0) (pe_constS z.c_NONE rfl) (nomark _)) (pss_one (ps_ret (pe_lst pa_nil))) pss_nil)
        (pss_one (ps_ret (pe_lc (own := [("part", 1)]) (g := gName 1) (tt := tYes) rfl sc_read_rows.nd (piL (K := K) rfl (pe_m1 (r := rSplit) (pe_split (pv 0) pe_str))) (blkOk_by (own := [("part", 1)]) (N := ["text", "part"]) (sc := defScope s_read_rows) (by decide +kernel)) (fun _ _ _ _ _ => (pg_name (i := 1) sc_read_rows.nd rfl (by first | exact Or.inl rfl | exact Or.inr rfl))) (fun _ _ _ _ _ => pts_nil) (fun _ _ _ _ _ => (pe_callH h_read_row (by decide) hr rfl (pa_cons (pv 1) pa_nil)))))))), ?_⟩
    walk_at "cx"
    have rl := rows_len hw
    have hw' : ∀ r ∈ rs, ∀ e ∈ r, EntW e := fun r hr => (hw r hr).1
    have rb := rows_none hw'
    walk_at "ts"
    refine i_d (fun c => ?_) (fun c => ?_)
    · have er := rb.mp c
      subst er
      walk_at "ts"
      rename_i p Z1 H1 n1 t1 m1 f1
      exact q (.ref p) [p] Z1 H1 t1 (.lst f1 m1.z .nil) (List.nodup_cons.mpr ⟨List.not_mem_nil, List.nodup_nil⟩) fun b hb => by rw [List.mem_singleton.mp hb]; exact n1
    · have nr : rs ≠ [] := fun e => c (rb.mpr e)
      walk_at "ts"
      refine s_m1 ?_
      walk_at "ts"
      refine n_m1 ?_
      walk_at "ts"
      refine t_split zh rfl (by rw [TL.len_tl]; omega) fun p Z1 H1 np t1 f1 => ?_
      rw [split_rows hw' nr] at f1
      have z1 := t1.zh
      walk_at "ts"
      refine c_newOt (G := fun u (r : TR.Row) => u = V.str (rowS r)) (L := rs) Py.d z1 (z1 _ _ f1) ?_ (by omega) (fun u r Z2 H2 hu hr t2 A hA => ?_) (fun D ys M Z2 H2 nD t2 fD zD oD nd frM => ?_)
      · rw [List.map_map]
        exact paired_strR rs
      · subst hu
        obtain ⟨h1, h2⟩ := hw r hr
        walk_at "ts"
        exact ⟨r, Z2, rfl, t2.zh, h1, Nat.le_trans h2 (by decide), fun p' Z' H' np' t' lm => by
          walk_at "ts"
          exact hA (.ref p') [p'] Z' H' t' (lm_ot lm) (List.nodup_cons.mpr ⟨List.not_mem_nil, List.nodup_nil⟩) fun b hb => by rw [List.mem_singleton.mp hb]; exact np'⟩
      · walk_at "ts"
        exact q (.ref D) (D :: M) Z2 H2 (t1.step t2 mm_nil) (.lst fD zD oD) nd fun b hb => (List.mem_cons.mp hb).elim (fun e => by rw [e]; exact t1.nn nD) fun h => t1.nn (frM b h)

/-! ### read_few -/
noncomputable def sp_read_few (K : PySem.W.Frag) : Sp := fun vs H Q _ => ∃ n l : Int, vs = [.str (numS n), .int l] ∧ 0 ≤ n ∧ l ≤ n ∧ n ≤ 130 ∧ Q (.int n) H
theorem has_read_few (z : Z K mg) (F : FunAt K mg "read_few" s_read_few ["text", "least"]) (h_read_number : Has P w K mg base "read_number" 1 (sp_read_number K)) : Has P w K mg base "read_few" 2 (sp_read_few K) := by
  refine has_of F sc_read_few (fun vs H Q E h => ?_) (fun f cdv A outer s H vs Q E hr h => ?_)
  · obtain ⟨n, l, rfl, _⟩ := h
    rfl
  · obtain ⟨n, l, rfl, n0, n1, n2, q⟩ := h
    refine ⟨_, (pss_cons (ps_set (i := 2) sc_read_few.nd rfl (by first | exact Or.inl rfl | exact Or.inr rfl) (pe_callH h_read_number (by decide) hr rfl (pa_cons (pv 0) pa_nil)))
        (pss_cons (ps_if (pt_not (pt_chain op_le op_le (pv 1) (pv 2) (pe_constI z.c_MOST rfl))) (pss_one ps_never) pss_nil)
        (pss_one (ps_ret (pv 2))))), ?_⟩
    walk_at "cx"
    walk_at "ts"
    refine ⟨n, rfl, n0, by omega, ?_⟩
    walk_at "ts"
    exact q

/-! ### read_yard -/
noncomputable def sp_read_yard (K : PySem.W.Frag) : Sp := fun vs H Q _ => ∃ (y : Yard) (Z : Hp), vs = [.str (yardS y)] ∧ Ex Z H ∧ YardT y ∧ ∀ v M Z' H', T [] Z H Z' H' → Ot true Z' H' v (Py.d y) M → M.Nodup → (∀ b ∈ M, H b = none) → Q v H'
theorem has_read_yard (z : Z K mg) (F : FunAt K mg "read_yard" s_read_yard ["text"]) (h_is_size : Has P w K mg base "is_size" 2 (sp_is_size K)) (h_read_rows : Has P w K mg base "read_rows" 5 (sp_read_rows K)) (h_read_few : Has P w K mg base "read_few" 2 (sp_read_few K)) (h_read_number : Has P w K mg base "read_number" 1 (sp_read_number K)) : Has P w K mg base "read_yard" 6 (sp_read_yard K) := by
  refine has_of F sc_read_yard (fun vs H Q E h => ?_) (fun f cdv A outer s H vs Q E hr h => ?_)
  · obtain ⟨_, _, rfl, _⟩ := h
    rfl
  · obtain ⟨y, Z, rfl, zh, hw, q⟩ := h
    refine ⟨_, (pss_cons (ps_if (pt_not (pt_val (pe_callB (id := "isinstance") (isiA (K := K) rfl) (by rfl) z.b_isinstance (by decide +kernel) (pa_cons (pv 0) (pa_cons (pe_bltn (v := .ty "str") (by rfl) z.b_str (by decide +kernel) rfl) pa_nil))))) (pss_one ps_never) pss_nil)
        (pss_cons (ps_set (i := 1) sc_read_yard.nd rfl (by first | exact Or.inl rfl | exact Or.inr rfl) (pe_m1 (r := rSplit) (pe_split (pv 0) pe_str)))
        (pss_cons (ps_if (pt_cmpR op_lt (pe_callB (id := "len") (lenA (K := K) rfl) (by rfl) z.b_len (by decide +kernel) (pa_cons (pv 1) pa_nil)) pe_int (nomark _)) (pss_one ps_never) pss_nil)
        (pss_cons (ps_set (i := 2) sc_read_yard.nd rfl (by first | exact Or.inl rfl | exact Or.inr rfl) (pe_callH h_read_number (by decide) hr rfl (pa_cons (pe_ix (ixA (K := K) rfl) (pv 1) pe_int (fun _ _ => rfl)) pa_nil)))
        (pss_cons (ps_set (i := 3) sc_read_yard.nd rfl (by first | exact Or.inl rfl | exact Or.inr rfl) (pe_callH h_read_few (by decide) hr rfl (pa_cons (pe_ix (ixA (K := K) rfl) (pv 1) pe_int (fun _ _ => rfl)) (pa_cons pe_int pa_nil))))
        (pss_cons (ps_setLc (i := 4) (own := [("word", 5)]) (g := gName 5) (tt := tYes) rfl sc_read_yard.nd rfl rfl (sw_true rfl rfl rfl (by decide +kernel)) (piL (K := K) rfl (pe_slice (slA (K := K) rfl) (pv 1) (po_some pe_int) po_none)) (blkOk_by (own := [("word", 5)]) (N := ["text", "words", "wide", "rooms", "held", "word"]) (sc := defScope s_read_yard) (by decide +kernel)) (fun _ _ _ _ _ => (pg_name (i := 5) sc_read_yard.nd rfl (by first | exact Or.inl rfl | exact Or.inr rfl))) (fun _ _ _ _ _ => pts_nil) (fun _ _ _ _ _ => (pe_callH h_read_rows (by decide) hr rfl (pa_cons (pv 5) pa_nil))))
        (pss_cons (ps_if (PW.pt (pw_or (pt_not (pt_val (pe_callH h_is_size (by decide) hr rfl (pa_cons (pv 2) pa_nil)))) (pw_or1 (PW.pt (pw_and (pt_cmpR (neA (K := K) rfl hr.units) (pv 4) (pe_lst pa_nil) (nomark _)) (pw_and1 (pt_cmpR (eqA (K := K) rfl hr.units) (pe_ix (ixA (K := K) rfl) (pv 4) (pe_un un_neg pe_int) (fun _ _ => rfl)) (pe_lst pa_nil) (nomark _)))))))) (pss_one ps_never) pss_nil)
        (pss_one (ps_ret (pe_tup (pa_cons (pv 2) (pa_cons (pv 3) (pa_cons (pv 4) pa_nil))))))))))))), ?_⟩
    walk_at "cx"
    have ly := yard_len hw
    have es := split_yard hw
    obtain ⟨⟨a0, a1⟩, ⟨b0, b1⟩, cl, cs, cr, last⟩ := hw
    walk_at "ts"
    refine s_m1 ?_
    walk_at "ts"
    refine n_m1 ?_
    walk_at "ts"
    refine t_split zh rfl ly fun p Z1 H1 np t1 f1 => ?_
    rw [es] at f1
    have z1 := t1.zh
    have sp : SqL K H1 p (V.str (numS y.a) :: V.str (numS y.b) :: (y.c.map rowsS).map V.str) := sq_of (z1 _ _ f1)
    clear f1
    walk_at "ts"
    refine i_df (by simp only [List.length_cons]; omega) ?_
    walk_at "ts"
    refine ⟨y.a, rfl, by omega, by omega, ?_⟩
    walk_at "ts"
    refine ⟨y.b, 1, rfl, by omega, b0, b1, ?_⟩
    walk_at "ts"
    refine t_slL z1 sp fun p2 Z2 H2 n2 t2 f2 => ?_
    have f2' : Z2 p2 = some (.lst ((y.c.map rowsS).map V.str)) := by
      rw [f2]
      show some (HO.lst (cutI _ (some 2) none)) = _
      rw [cutI_from _ (by decide)]
      rfl
    have z2 := t2.zh
    walk_at "ts"
    refine c_newOt (G := fun u (rs : List TR.Row) => u = V.str (rowsS rs)) (L := y.c) Py.d z2 (z2 _ _ f2') ?_ (by omega) (fun u rs Z3 H3 hu hr t3 A hA => ?_) (fun D ys M Z3 H3 nD t3 fD zD oD nd frM => ?_)
    · rw [List.map_map]
      exact paired_strRs y.c
    · subst hu
      have h1 := cr rs hr
      have h2 := sum_mem hr
      walk_at "ts"
      exact ⟨rs, Z3, rfl, t3.zh, fun r hr' => ⟨(h1 r hr').1, Nat.le_trans (h1 r hr').2 (by decide)⟩, by omega, fun v M Z' H' t' o nd fr => by
        walk_at "ts"
        exact hA v M Z' H' t' o nd fr⟩
    · have z3 := t3.zh
      walk_at "ts"
      refine ⟨_, _, rfl, .int y.a, ?_⟩
      have ek : sizeV (.int y.a) = true := decide_eq_true ⟨a0, a1⟩
      rw [ek]
      walk_at "ts"
      rename_i p4 Z4 H4 n4 t4 m4 f4
      have oD4 := oD.tt0 t4
      have fD4 := t4.hp nm_nil fD
      have zD4 := t4.fr D nm_nil zD ⟨_, fD⟩
      have z4 := t4.zh
      have isD : Is K H4 (.ref D) y.c := Dp.lst (sq_of fD4) (oD4.dp z4)
      have sD := sq_of (K := K) fD4
      refine s_neP (x := y.c) (y := ([] : List (List TR.Row))) isD (Ik.nil f4).is (by decide) ?_
      walk_at "ts"
      have T4 : T [] Z H Z4 H4 := ((t1.step t2 mm_nil).step t3 mm_nil).step t4 mm_nil
      have frD : ∀ b ∈ D :: M, H b = none := fun b hb => (List.mem_cons.mp hb).elim (fun e => by rw [e]; exact t1.nn (t2.nn nD)) fun h => t1.nn (t2.nn (frM b h))
      refine i_d (fun c => ?_) (fun c => ?_)
      · obtain ⟨l, x, ec⟩ : ∃ l x, y.c = l ++ [x] := ⟨y.c.dropLast, y.c.getLast c, (List.dropLast_concat_getLast c).symm⟩
        have nx : x ≠ [] := fun e => last (by rw [ec, e]; simp)
        have oD5 := oD4
        rw [ec, List.map_append] at oD5
        obtain ⟨us', u, N, eu, ou⟩ := otAll_last oD5
        rw [eu] at sD
        walk_at "ts"
        refine s_ixL sD (atI_last _ _) ?_
        walk_at "ts"
        rename_i p6 Z6 H6 n6 t6 m6 f6
        have isU : Is K H6 u x := (ou.tt0 t6).dp t6.zh
        refine s_eqP (x := x) (y := ([] : List TR.Row)) isU (Ik.nil f6).is (by decide) ?_
        walk_at "ts"
        refine i_df nx ?_
        walk_at "ts"
        rename_i p5 Z5 H5 n5 t5 f5
        have t45 := t6.step t5 mm_nil
        exact q (.ref p5) (D :: M) Z5 H5 (T4.step t45 mm_nil) (ot_yard f5 (t45.hp nm_nil fD4) (t45.fr D nm_nil zD4 ⟨_, fD4⟩) (oD4.tt0 t45)) nd frD
      · walk_at "ts"
        rename_i p5 Z5 H5 n5 t5 f5
        exact q (.ref p5) (D :: M) Z5 H5 (T4.step t5 mm_nil) (ot_yard f5 (t5.hp nm_nil fD4) (t5.fr D nm_nil zD4 ⟨_, fD4⟩) (oD4.tt0 t5)) nd frD

/-! ### show_row -/
noncomputable def sp_show_row (K : PySem.W.Frag) : Sp := fun vs H Q _ => ∃ (v : V) (r : TR.Row) (Z : Hp), vs = [v] ∧ Ex Z H ∧ Ik Z v r ∧ (∀ e ∈ r, EntW e) ∧ r.length ≤ 1000 ∧ ∀ Z' H', T [] Z H Z' H' → Q (.str (rowS r)) H'
theorem has_show_row (z : Z K mg) (F : FunAt K mg "show_row" s_show_row ["row"])  : Has P w K mg base "show_row" 1 (sp_show_row K) := by
  refine has_of F sc_show_row (fun vs H Q E h => ?_) (fun f cdv A outer s H vs Q E hr h => ?_)
  · obtain ⟨_, _, _, rfl, _⟩ := h
    rfl
  · obtain ⟨v, r, Z, rfl, zh, iv, hw, hl, q⟩ := h
    refine ⟨_, (pss_cons (ps_if (pt_cmpR (eqA (K := K) rfl hr.units) (pv 0) (pe_lst pa_nil) (nomark _)) (pss_one (ps_ret (pe_constS z.c_BARE rfl))) pss_nil)
        (pss_one (ps_ret (pe_joinK (K := K) rfl (pe_join pe_str (pe_lc (own := [("key", 1), ("thing", 2)]) (g := gTup K 2 (gCons (gName 1) (gCons (gName 2) gNil))) (tt := tYes) rfl sc_show_row.nd (piL (K := K) rfl (pv 0)) (blkOk_by (own := [("key", 1), ("thing", 2)]) (N := ["row", "key", "thing"]) (sc := defScope s_show_row) (by decide +kernel)) (fun _ _ _ _ _ => (pg_tup rfl (pgs_cons (pg_name (i := 1) sc_show_row.nd rfl (by first | exact Or.inl rfl | exact Or.inr rfl)) (pgs_cons (pg_name (i := 2) sc_show_row.nd rfl (by first | exact Or.inl rfl | exact Or.inr rfl)) pgs_nil)))) (fun _ _ _ _ _ => pts_nil) (fun _ _ _ _ _ => (pe_op op_plusA (pe_op op_plusA (pe_callTy (T := "str") strIA (by rfl) z.b_str (by decide +kernel) (pa_cons (pv 1) pa_nil)) pe_str) (pv 2))))))))), ?_⟩
    walk_at "cx"
    obtain ⟨p, rfl, ir⟩ := iv.ref_of
    walk_at "ts"
    rename_i p1 Z1 H1 n1 t1 m1 f1
    have z1 := t1.zh
    have ir1 := Ik.tt t1 ir
    refine s_eqP (x := r) (y := ([] : TR.Row)) (Ik.ex z1 ir1).is (Ik.nil f1).is (by decide) ?_
    walk_at "ts"
    refine i_d (fun c => ?_) (fun c => ?_)
    · subst c
      walk_at "ts"
      exact q Z1 H1 t1
    · walk_at "ts"
      refine s_m1 ?_
      walk_at "ts"
      refine n_m1 ?_
      walk_at "ts"
      refine c_mapS entS z1 ir1 (by omega) (fun u e Z2 H2 he hu t2 A hA => ?_) (fun D Z2 H2 nD t2 fD => ?_)
      · obtain ⟨b, rfl, hb⟩ := (Ik.tt t2 hu).ent_of
        obtain ⟨h0, h1, hn⟩ := hw e he
        have nl := (nameB_low hn).2.1
        have kl := key_len h0 h1
        have z2 := t2.zh
        have sb := st_of (K := K) (z2 _ _ hb)
        walk_at "ts"
        refine t_strI h0 (by omega) ?_
        walk_at "ts"
        refine s_plusS (by show (numS e.1).length + 1 ≤ _; omega) ?_
        walk_at "ts"
        refine s_plusS (by rw [TL.len_tl, TL.tl_append, List.length_append, ← TL.len_tl, ← TL.len_tl]; show (numS e.1).length + 1 + _ ≤ _; omega) ?_
        walk_at "ts"
        exact hA Z2 H2 (T.refl z2)
      · have sD := sq_of (K := K) (t2.zh _ _ fD)
        walk_at "ts"
        have sz : ((r.map entS).map (·.length)).sum ≤ r.length * 28 := sum_le (fun x hx => by
          obtain ⟨e, he, rfl⟩ := List.mem_map.mp hx
          rw [TL.len_tl]
          exact ent_len (hw e he)) (by rw [List.length_map])
        refine t_join sD (by rw [List.length_map]; show _ + r.length * 1 ≤ _; omega) ?_
        have e1 : Txt.join "," (r.map entS) = rowS r := (if_neg c).symm
        rw [e1]
        walk_at "ts"
        exact q Z2 H2 (t1.step t2 mm_nil)

/-! ### show_rows -/
noncomputable def sp_show_rows (K : PySem.W.Frag) : Sp := fun vs H Q _ => ∃ (v : V) (rs : List TR.Row) (Z : Hp), vs = [v] ∧ Ex Z H ∧ Ik Z v rs ∧ (∀ r ∈ rs, (∀ e ∈ r, EntW e) ∧ r.length ≤ 150) ∧ rs.length ≤ 700 ∧ ∀ Z' H', T [] Z H Z' H' → Q (.str (rowsS rs)) H'
theorem has_show_rows (z : Z K mg) (F : FunAt K mg "show_rows" s_show_rows ["rows"]) (h_show_row : Has P w K mg base "show_row" 1 (sp_show_row K)) : Has P w K mg base "show_rows" 2 (sp_show_rows K) := by
  refine has_of F sc_show_rows (fun vs H Q E h => ?_) (fun f cdv A outer s H vs Q E hr h => ?_)
  · obtain ⟨_, _, _, rfl, _⟩ := h
    rfl
  · obtain ⟨v, rs, Z, rfl, zh, iv, hw, hl, q⟩ := h
    refine ⟨_, (pss_cons (ps_if (pt_cmpR (eqA (K := K) rfl hr.units) (pv 0) (pe_lst pa_nil) (nomark _)) (pss_one (ps_ret (pe_constS z.c_NONE rfl))) pss_nil)
        (pss_one (ps_ret (pe_joinK (K := K) rfl (pe_join pe_str (pe_lc (own := [("row", 1)]) (g := gName 1) (tt := tYes) rfl sc_show_rows.nd (piL (K := K) rfl (pv 0)) (blkOk_by (own := [("row", 1)]) (N := ["rows", "row"]) (sc := defScope s_show_rows) (by decide +kernel)) (fun _ _ _ _ _ => (pg_name (i := 1) sc_show_rows.nd rfl (by first | exact Or.inl rfl | exact Or.inr rfl))) (fun _ _ _ _ _ => pts_nil) (fun _ _ _ _ _ => (pe_callH h_show_row (by decide) hr rfl (pa_cons (pv 1) pa_nil))))))))), ?_⟩
    walk_at "cx"
    obtain ⟨p, rfl, ir⟩ := iv.ref_of
    walk_at "ts"
    rename_i p1 Z1 H1 n1 t1 m1 f1
    have z1 := t1.zh
    have ir1 := Ik.tt t1 ir
    refine s_eqP (x := rs) (y := ([] : List TR.Row)) (Ik.ex z1 ir1).is (Ik.nil f1).is (by decide) ?_
    walk_at "ts"
    refine i_d (fun c => ?_) (fun c => ?_)
    · subst c
      walk_at "ts"
      exact q Z1 H1 t1
    · walk_at "ts"
      refine s_m1 ?_
      walk_at "ts"
      refine n_m1 ?_
      walk_at "ts"
      refine c_mapS rowS z1 ir1 (by omega) (fun u r Z2 H2 hr hu t2 A hA => ?_) (fun D Z2 H2 nD t2 fD => ?_)
      · obtain ⟨h1, h2⟩ := hw r hr
        walk_at "ts"
        exact ⟨u, r, Z2, rfl, t2.zh, Ik.tt t2 hu, h1, by omega, fun Z' H' t' => by
          walk_at "ts"
          exact hA Z' H' t'⟩
      · have sD := sq_of (K := K) (t2.zh _ _ fD)
        walk_at "ts"
        have sz : ((rs.map rowS).map (·.length)).sum ≤ rs.length * 4351 := sum_le (fun x hx => by
          obtain ⟨r, hr, rfl⟩ := List.mem_map.mp hx
          obtain ⟨h1, h2⟩ := hw r hr
          have := row_len h1
          rw [TL.len_tl]
          omega) (by rw [List.length_map])
        refine t_join sD (by rw [List.length_map]; show _ + rs.length * 1 ≤ _; omega) ?_
        have e1 : Txt.join ";" (rs.map rowS) = rowsS rs := (if_neg c).symm
        rw [e1]
        walk_at "ts"
        exact q Z2 H2 (t1.step t2 mm_nil)

/-! ### show_yard -/
noncomputable def sp_show_yard (K : PySem.W.Frag) : Sp := fun vs H Q _ => ∃ (v : V) (y : Yard) (Z : Hp), vs = [v] ∧ Ex Z H ∧ Ik Z v y ∧ YardT y ∧ ∀ Z' H', T [] Z H Z' H' → Q (.str (yardS y)) H'
theorem has_show_yard (z : Z K mg) (F : FunAt K mg "show_yard" s_show_yard ["yard"]) (h_show_rows : Has P w K mg base "show_rows" 2 (sp_show_rows K)) : Has P w K mg base "show_yard" 3 (sp_show_yard K) := by
  refine has_of F sc_show_yard (fun vs H Q E h => ?_) (fun f cdv A outer s H vs Q E hr h => ?_)
  · obtain ⟨_, _, _, rfl, _⟩ := h
    rfl
  · obtain ⟨v, y, Z, rfl, zh, iv, ⟨⟨a0, a1⟩, ⟨b0, b1⟩, cl, cs, cr, _⟩, q⟩ := h
    refine ⟨_, (pss_cons (ps_asg (pv 0) (pg_tup rfl (pgs_cons (pg_name (i := 1) sc_show_yard.nd rfl (by first | exact Or.inl rfl | exact Or.inr rfl)) (pgs_cons (pg_name (i := 2) sc_show_yard.nd rfl (by first | exact Or.inl rfl | exact Or.inr rfl)) (pgs_cons (pg_name (i := 3) sc_show_yard.nd rfl (by first | exact Or.inl rfl | exact Or.inr rfl)) pgs_nil)))))
        (pss_one (ps_ret (pe_joinK (K := K) rfl (pe_join pe_str (pe_op op_plusA (pe_lst (pa_cons (pe_callTy (T := "str") strIA (by rfl) z.b_str (by decide +kernel) (pa_cons (pv 1) pa_nil)) (pa_cons (pe_callTy (T := "str") strIA (by rfl) z.b_str (by decide +kernel) (pa_cons (pv 2) pa_nil)) pa_nil))) (pe_lc (own := [("rows", 4)]) (g := gName 4) (tt := tYes) rfl sc_show_yard.nd (piL (K := K) rfl (pv 3)) (blkOk_by (own := [("rows", 4)]) (N := ["yard", "wide", "rooms", "held", "rows"]) (sc := defScope s_show_yard) (by decide +kernel)) (fun _ _ _ _ _ => (pg_name (i := 4) sc_show_yard.nd rfl (by first | exact Or.inl rfl | exact Or.inr rfl))) (fun _ _ _ _ _ => pts_nil) (fun _ _ _ _ _ => (pe_callH h_show_rows (by decide) hr rfl (pa_cons (pv 4) pa_nil)))))))))), ?_⟩
    walk_at "cx"
    obtain ⟨pa, pb, rfl, ha, hb⟩ := iv.yard_of
    have sa := st_of (K := K) (zh _ _ ha)
    have l1 := num_len (i := y.a) (by omega) (by omega)
    have l2 := num_len (i := y.b) (by omega) (by omega)
    walk_at "ts"
    refine s_gt3 sa ?_
    walk_at "ts"
    refine s_m1 ?_
    walk_at "ts"
    refine n_m1 ?_
    walk_at "ts"
    refine t_strI (by omega) (by omega) ?_
    walk_at "ts"
    refine t_strI (by omega) (by omega) ?_
    walk_at "ts"
    rename_i pl Z1 H1 n1 t1 f1
    have z1 := t1.zh
    have hb1 := Ik.tt t1 hb
    refine c_mapS rowsS z1 hb1 (by omega) (fun u rs Z2 H2 hr hu t2 A hA => ?_) (fun D Z2 H2 nD t2 fD => ?_)
    · have h1 := cr rs hr
      have h2 := sum_mem hr
      walk_at "ts"
      exact ⟨u, rs, Z2, rfl, t2.zh, Ik.tt t2 hu, fun r hr' => ⟨(h1 r hr').1, Nat.le_trans (h1 r hr').2 (by decide)⟩, by omega, fun Z' H' t' => by
        walk_at "ts"
        exact hA Z' H' t'⟩
    · have z2 := t2.zh
      walk_at "ts"
      refine catR z2 (z2 _ _ (t2.z _ _ f1)) (z2 _ _ fD) (by rw [List.length_map, List.length_map]; show 2 + _ ≤ _; omega) fun p4 Z4 H4 n4 t4 f4 z4p => ?_
      have s4 : SqL K H4 p4 (([numS y.a, numS y.b] ++ y.c.map rowsS).map V.str) := by
        rw [List.map_append]
        exact sq_of f4
      walk_at "ts"
      have sz := held_len cr
      refine t_join s4 ?_ ?_
      · rw [List.map_append, List.sum_append, List.length_append, List.length_map (as := y.c)]
        show (numS y.a).length + ((numS y.b).length + 0) + _ + (2 + y.c.length) * 1 ≤ _
        omega
      · walk_at "ts"
        exact q Z4 H4 ((t1.step t2 mm_nil).step t4 mm_nil)

/-! ### read_step -/
noncomputable def sp_read_step (K : PySem.W.Frag) : Sp := fun vs H Q _ => ∃ (s : Stp) (Z : Hp), vs = [.str (stepS s)] ∧ Ex Z H ∧ StpT s ∧ (∀ m, s = .rooms m → 1 ≤ m) ∧ ∀ v M Z' H', T [] Z H Z' H' → Ot true Z' H' v (Py.d s) M → M.Nodup → (∀ b ∈ M, H b = none) → Q v H'
theorem has_read_step (z : Z K mg) (F : FunAt K mg "read_step" s_read_step ["text"]) (h_read_few : Has P w K mg base "read_few" 2 (sp_read_few K)) (h_read_row : Has P w K mg base "read_row" 4 (sp_read_row K)) : Has P w K mg base "read_step" 5 (sp_read_step K) := by
  refine has_of F sc_read_step (fun vs H Q E h => ?_) (fun f cdv A outer s H vs Q E hr h => ?_)
  · obtain ⟨_, _, rfl, _⟩ := h
    rfl
  · obtain ⟨s, Z, rfl, zh, hw, hm, q⟩ := h
    refine ⟨_, (pss_cons (ps_if (pt_not (pt_val (pe_callB (id := "isinstance") (isiA (K := K) rfl) (by rfl) z.b_isinstance (by decide +kernel) (pa_cons (pv 0) (pa_cons (pe_bltn (v := .ty "str") (by rfl) z.b_str (by decide +kernel) rfl) pa_nil))))) (pss_one ps_never) pss_nil)
        (pss_cons (ps_set (i := 1) sc_read_step.nd rfl (by first | exact Or.inl rfl | exact Or.inr rfl) (pe_m1 (r := rSplit) (pe_split (pv 0) pe_str)))
        (pss_cons (ps_if (PW.pt (pw_and (pt_cmpR (eqA (K := K) rfl hr.units) (pe_ix (ixA (K := K) rfl) (pv 1) pe_int (fun _ _ => rfl)) pe_str (nomark _)) (pw_and1 (pt_cmpR (eqA (K := K) rfl hr.units) (pe_callB (id := "len") (lenA (K := K) rfl) (by rfl) z.b_len (by decide +kernel) (pa_cons (pv 1) pa_nil)) pe_int (nomark _))))) (pss_one (ps_ret (pe_tup (pa_cons pe_str (pa_cons (pe_callH h_read_few (by decide) hr rfl (pa_cons (pe_ix (ixA (K := K) rfl) (pv 1) pe_int (fun _ _ => rfl)) (pa_cons pe_int pa_nil))) (pa_cons (pe_callH h_read_few (by decide) hr rfl (pa_cons (pe_ix (ixA (K := K) rfl) (pv 1) pe_int (fun _ _ => rfl)) (pa_cons pe_int pa_nil))) (pa_cons (pe_callH h_read_row (by decide) hr rfl (pa_cons (pe_ix (ixA (K := K) rfl) (pv 1) pe_int (fun _ _ => rfl)) pa_nil)) pa_nil))))))) pss_nil)
        (pss_cons (ps_if (PW.pt (pw_and (pt_cmpR (eqA (K := K) rfl hr.units) (pe_ix (ixA (K := K) rfl) (pv 1) pe_int (fun _ _ => rfl)) pe_str (nomark _)) (pw_and1 (pt_cmpR (eqA (K := K) rfl hr.units) (pe_callB (id := "len") (lenA (K := K) rfl) (by rfl) z.b_len (by decide +kernel) (pa_cons (pv 1) pa_nil)) pe_int (nomark _))))) (pss_one (ps_ret (pe_tup (pa_cons pe_str (pa_cons (pe_callH h_read_few (by decide) hr rfl (pa_cons (pe_ix (ixA (K := K) rfl) (pv 1) pe_int (fun _ _ => rfl)) (pa_cons pe_int pa_nil))) (pa_cons (pe_callH h_read_few (by decide) hr rfl (pa_cons (pe_ix (ixA (K := K) rfl) (pv 1) pe_int (fun _ _ => rfl)) (pa_cons pe_int pa_nil))) pa_nil)))))) pss_nil)
        (pss_cons (ps_if (PW.pt (pw_and (pt_cmpR (eqA (K := K) rfl hr.units) (pe_ix (ixA (K := K) rfl) (pv 1) pe_int (fun _ _ => rfl)) pe_str (nomark _)) (pw_and1 (pt_cmpR (eqA (K := K) rfl hr.units) (pe_callB (id := "len") (lenA (K := K) rfl) (by rfl) z.b_len (by decide +kernel) (pa_cons (pv 1) pa_nil)) pe_int (nomark _))))) (pss_one (ps_ret (pe_tup (pa_cons pe_str (pa_cons (pe_callH h_read_few (by decide) hr rfl (pa_cons (pe_ix (ixA (K := K) rfl) (pv 1) pe_int (fun _ _ => rfl)) (pa_cons pe_int pa_nil))) pa_nil))))) pss_nil)
        (pss_one ps_never)))))), ?_⟩
    walk_at "cx"
    cases s with
    | row r a w =>
      obtain ⟨r0, r1, a0, a1, hw, hl⟩ := hw
      have rl := row_len hw
      have l1 := num_len r0 (by omega)
      have l2 := num_len a0 (by omega)
      walk_at "ts"
      refine s_m1 ?_
      walk_at "ts"
      refine n_m1 ?_
      walk_at "ts"
      refine t_split zh rfl (by rw [← row_text, len_app, len_app, len_app, len_app, len_app]; show 4 + _ + 1 + _ + 1 + _ ≤ _; rw [TL.len_tl (rowS w)]; omega) fun p Z1 H1 np t1 f1 => ?_
      have es : Txt.split (stepS (.row r a w)) " " = (["row", numS r, numS a, rowS w] : List Str) := split_words (List.cons_ne_nil _ _) fun x hx => by
        simp only [List.mem_cons, List.not_mem_nil, or_false] at hx
        rcases hx with rfl | rfl | rfl | rfl
        · decide +kernel
        · exact num_free r0
        · exact num_free a0
        · exact row_free hw
      rw [es] at f1
      have z1 := t1.zh
      have sp := sq_of (K := K) (z1 _ _ f1)
      walk_at "ts"
      refine ⟨r, 0, rfl, r0, r0, r1, ?_⟩
      walk_at "ts"
      refine ⟨a, 0, rfl, a0, a0, a1, ?_⟩
      walk_at "ts"
      refine ⟨w, Z1, rfl, z1, hw, by omega, fun p2 Z2 H2 n2 t2 lm2 => ?_⟩
      walk_at "ts"
      rename_i p3 Z3 H3 n3 t3 f3
      have lm3 := lm2.tt t3 nm_nil
      refine q (.ref p3) [p2] Z3 H3 ((t1.step t2 mm_nil).step t3 mm_nil) ?_ (List.nodup_cons.mpr ⟨List.not_mem_nil, List.nodup_nil⟩) fun b hb => by rw [List.mem_singleton.mp hb]; exact t1.nn n2
      exact .tup f3 (.cons (M := []) (N := [p2]) (.fr (fun _ => rfl) (.str _)) (.cons (M := []) (N := [p2]) (.fr (fun _ => rfl) (.int _)) (.cons (M := []) (N := [p2]) (.fr (fun _ => rfl) (.int _)) (.cons (M := [p2]) (N := []) (lm_ot lm3) .nil))))
    | cut r m =>
      obtain ⟨r0, r1, m0, m1⟩ := hw
      have l1 := num_len r0 (by omega)
      have l2 := num_len m0 (by omega)
      walk_at "ts"
      refine s_m1 ?_
      walk_at "ts"
      refine n_m1 ?_
      walk_at "ts"
      refine t_split zh rfl ?_ fun p Z1 H1 np t1 f1 => ?_
      · have e : stepS (.cut r m) = Txt.join " " (["cut", numS r, numS m] : List Str) := rfl
        rw [e, TL.join_eq]
        show ("cut" ++ " " ++ (numS r ++ " " ++ numS m) : Str).length ≤ _
        rw [len_app, len_app, len_app, len_app]
        show 3 + 1 + (_ + 1 + _) ≤ _
        omega
      have es : Txt.split (stepS (.cut r m)) " " = (["cut", numS r, numS m] : List Str) := split_words (List.cons_ne_nil _ _) fun x hx => by
        simp only [List.mem_cons, List.not_mem_nil, or_false] at hx
        rcases hx with rfl | rfl | rfl
        · decide +kernel
        · exact num_free r0
        · exact num_free m0
      rw [es] at f1
      have z1 := t1.zh
      have sp := sq_of (K := K) (z1 _ _ f1)
      walk_at "ts"
      refine i_df (by decide) ?_
      walk_at "ts"
      refine ⟨r, 0, rfl, r0, r0, r1, ?_⟩
      walk_at "ts"
      refine ⟨m, 0, rfl, m0, m0, m1, ?_⟩
      walk_at "ts"
      rename_i p3 Z3 H3 n3 t3 f3
      exact q (.ref p3) [] Z3 H3 (t1.step t3 mm_nil) (.fr (fun _ => rfl) (Ik.stp_cut f3)) List.nodup_nil fun _ h => absurd h List.not_mem_nil
    | rooms m =>
      obtain ⟨m0, m1⟩ := hw
      have l2 := num_len m0 (by omega)
      walk_at "ts"
      refine s_m1 ?_
      walk_at "ts"
      refine n_m1 ?_
      walk_at "ts"
      refine t_split zh rfl ?_ fun p Z1 H1 np t1 f1 => ?_
      · have e : stepS (.rooms m) = Txt.join " " (["rooms", numS m] : List Str) := rfl
        rw [e, TL.join_eq]
        show ("rooms" ++ " " ++ numS m : Str).length ≤ _
        rw [len_app, len_app]
        show 5 + 1 + _ ≤ _
        omega
      have es : Txt.split (stepS (.rooms m)) " " = (["rooms", numS m] : List Str) := split_words (List.cons_ne_nil _ _) fun x hx => by
        simp only [List.mem_cons, List.not_mem_nil, or_false] at hx
        rcases hx with rfl | rfl
        · decide +kernel
        · exact num_free m0
      rw [es] at f1
      have z1 := t1.zh
      have sp := sq_of (K := K) (z1 _ _ f1)
      walk_at "ts"
      refine i_df (by decide) ?_
      walk_at "ts"
      refine i_df (by decide) ?_
      walk_at "ts"
      have mp := hm m rfl
      refine ⟨m, 1, rfl, m0, mp, m1, ?_⟩
      walk_at "ts"
      rename_i p3 Z3 H3 n3 t3 f3
      exact q (.ref p3) [] Z3 H3 (t1.step t3 mm_nil) (.fr (fun _ => rfl) (Ik.stp_rooms f3)) List.nodup_nil fun _ h => absurd h List.not_mem_nil

/-! ### show_step -/
noncomputable def sp_show_step (K : PySem.W.Frag) : Sp := fun vs H Q _ => ∃ (v : V) (s : Stp) (Z : Hp), vs = [v] ∧ Ex Z H ∧ Ik Z v s ∧ StpT s ∧ ∀ Z' H', T [] Z H Z' H' → Q (.str (stepS s)) H'
theorem has_show_step (z : Z K mg) (F : FunAt K mg "show_step" s_show_step ["step"]) (h_show_row : Has P w K mg base "show_row" 1 (sp_show_row K)) : Has P w K mg base "show_step" 2 (sp_show_step K) := by
  refine has_of F sc_show_step (fun vs H Q E h => ?_) (fun f cdv A outer s H vs Q E hr h => ?_)
  · obtain ⟨_, _, _, rfl, _⟩ := h
    rfl
  · obtain ⟨v, s, Z, rfl, zh, iv, hw, q⟩ := h
    refine ⟨_, (pss_cons (ps_if (pt_cmpR (eqA (K := K) rfl hr.units) (pe_ix (ixA (K := K) rfl) (pv 0) pe_int (fun _ _ => rfl)) pe_str (nomark _)) (pss_one (ps_ret (pe_op op_plusA (pe_op op_plusA (pe_op op_plusA (pe_op op_plusA (pe_op op_plusA pe_str (pe_callTy (T := "str") strIA (by rfl) z.b_str (by decide +kernel) (pa_cons (pe_ix (ixA (K := K) rfl) (pv 0) pe_int (fun _ _ => rfl)) pa_nil))) pe_str) (pe_callTy (T := "str") strIA (by rfl) z.b_str (by decide +kernel) (pa_cons (pe_ix (ixA (K := K) rfl) (pv 0) pe_int (fun _ _ => rfl)) pa_nil))) pe_str) (pe_callH h_show_row (by decide) hr rfl (pa_cons (pe_ix (ixA (K := K) rfl) (pv 0) pe_int (fun _ _ => rfl)) pa_nil))))) pss_nil)
        (pss_one (ps_ret (pe_joinK (K := K) rfl (pe_join pe_str (pe_op op_plusA (pe_lst (pa_cons (pe_ix (ixA (K := K) rfl) (pv 0) pe_int (fun _ _ => rfl)) pa_nil)) (pe_lc (own := [("number", 1)]) (g := gName 1) (tt := tYes) rfl sc_show_step.nd (piT (K := K) rfl (pe_slice (slTA (K := K) rfl) (pv 0) (po_some pe_int) po_none)) (blkOk_by (own := [("number", 1)]) (N := ["step", "number"]) (sc := defScope s_show_step) (by decide +kernel)) (fun _ _ _ _ _ => (pg_name (i := 1) sc_show_step.nd rfl (by first | exact Or.inl rfl | exact Or.inr rfl))) (fun _ _ _ _ _ => pts_nil) (fun _ _ _ _ _ => (pe_callTy (T := "str") strIA (by rfl) z.b_str (by decide +kernel) (pa_cons (pv 1) pa_nil)))))))))), ?_⟩
    walk_at "cx"
    cases s with
    | row r a w =>
      obtain ⟨c, wb, rfl, hc, iw⟩ := iv.row_of
      obtain ⟨r0, r1, a0, a1, hw, hl⟩ := hw
      have sc := st_of (K := K) (zh _ _ hc)
      have l1 := num_len r0 (by omega)
      have l2 := num_len a0 (by omega)
      walk_at "ts"
      refine t_strI r0 (by omega) ?_
      walk_at "ts"
      refine s_plusS (by show 4 + _ ≤ _; omega) ?_
      walk_at "ts"
      refine s_plusS (by rw [len_app]; show 4 + _ + 1 ≤ _; omega) ?_
      walk_at "ts"
      refine t_strI a0 (by omega) ?_
      walk_at "ts"
      refine s_plusS (by rw [len_app, len_app]; show 4 + _ + 1 + _ ≤ _; omega) ?_
      walk_at "ts"
      refine s_plusS (by rw [len_app, len_app, len_app]; show 4 + _ + 1 + _ + 1 ≤ _; omega) ?_
      walk_at "ts"
      refine ⟨.ref wb, w, Z, rfl, zh, iw, hw, by omega, fun Z1 H1 t1 => ?_⟩
      have rl := row_len hw
      walk_at "ts"
      refine s_plusS (by rw [len_app, len_app, len_app, len_app]; show 4 + _ + 1 + _ + 1 + _ ≤ _; rw [TL.len_tl (rowS w)]; omega) ?_
      rw [show ("row " ++ numS r ++ " " ++ numS a ++ " " ++ rowS w : Str) = stepS (.row r a w) from row_text r a w]
      walk_at "ts"
      exact q Z1 H1 t1
    | cut r m =>
      obtain ⟨c, rfl, hc⟩ := iv.cut_of
      obtain ⟨r0, r1, m0, m1⟩ := hw
      have sc := st_of (K := K) (zh _ _ hc)
      have l1 := num_len r0 (by omega)
      have l2 := num_len m0 (by omega)
      walk_at "ts"
      refine i_df (by decide) ?_
      walk_at "ts"
      refine s_m1 ?_
      walk_at "ts"
      refine n_m1 ?_
      walk_at "ts"
      rename_i pl Z1 H1 n1 t1 f1
      have z1 := t1.zh
      have sc1 := st_of (K := K) (z1 _ _ (t1.z _ _ hc))
      walk_at "ts"
      refine t_slT z1 sc1 (by show ¬ (HT.sIx 3 0 (some 1) = 0 ∧ HT.sIx 3 3 none = 3); decide) fun p2 Z2 H2 n2 t2 f2 => ?_
      have z2 := t2.zh
      have f2' : Z2 p2 = some (.tup ([r, m].map V.int)) := f2
      walk_at "ts"
      refine c_mapST numS z2 (z2 _ _ f2') (pair_intsV [r, m]) (by show 2 ≤ 40000; decide) (fun u n Z3 H3 hu hn t3 A hA => ?_) (fun D Z3 H3 nD t3 fD => ?_)
      · subst hu
        have nb : 0 ≤ n ∧ n ≤ 130 := by
          rcases List.mem_cons.mp hn with rfl | hn
          · exact ⟨r0, r1⟩
          · rw [List.mem_singleton.mp hn]; exact ⟨m0, m1⟩
        walk_at "ts"
        exact t_strI nb.1 (by omega) (hA Z3 H3 (T.refl t3.zh))
      · have z3 := t3.zh
        walk_at "ts"
        refine catR z3 (z3 _ _ (t3.z _ _ (t2.z _ _ f1))) (z3 _ _ fD) (by show 1 + 2 ≤ 100000; decide) fun p4 Z4 H4 n4 t4 f4 z4p => ?_
        have s4 : SqL K H4 p4 ((["cut", numS r, numS m] : List Str).map V.str) := sq_of f4
        walk_at "ts"
        refine t_join s4 (by show 3 + ((numS r).length + ((numS m).length + 0)) + 3 * 1 ≤ _; omega) ?_
        walk_at "ts"
        exact q Z4 H4 (((t1.step t2 mm_nil).step t3 mm_nil).step t4 mm_nil)
    | rooms m =>
      obtain ⟨c, rfl, hc⟩ := iv.rooms_of
      obtain ⟨m0, m1⟩ := hw
      have sc := st_of (K := K) (zh _ _ hc)
      have l2 := num_len m0 (by omega)
      walk_at "ts"
      refine i_df (by decide) ?_
      walk_at "ts"
      refine s_m1 ?_
      walk_at "ts"
      refine n_m1 ?_
      walk_at "ts"
      rename_i pl Z1 H1 n1 t1 f1
      have z1 := t1.zh
      have sc1 := st_of (K := K) (z1 _ _ (t1.z _ _ hc))
      walk_at "ts"
      refine t_slT z1 sc1 (by show ¬ (HT.sIx 2 0 (some 1) = 0 ∧ HT.sIx 2 2 none = 2); decide) fun p2 Z2 H2 n2 t2 f2 => ?_
      have z2 := t2.zh
      have f2' : Z2 p2 = some (.tup ([m].map V.int)) := f2
      walk_at "ts"
      refine c_mapST numS z2 (z2 _ _ f2') (pair_intsV [m]) (by show 1 ≤ 40000; decide) (fun u n Z3 H3 hu hn t3 A hA => ?_) (fun D Z3 H3 nD t3 fD => ?_)
      · subst hu
        rw [List.mem_singleton.mp hn] at hA ⊢
        walk_at "ts"
        exact t_strI m0 (by omega) (hA Z3 H3 (T.refl t3.zh))
      · have z3 := t3.zh
        walk_at "ts"
        refine catR z3 (z3 _ _ (t3.z _ _ (t2.z _ _ f1))) (z3 _ _ fD) (by show 1 + 1 ≤ 100000; decide) fun p4 Z4 H4 n4 t4 f4 z4p => ?_
        have s4 : SqL K H4 p4 ((["rooms", numS m] : List Str).map V.str) := sq_of f4
        walk_at "ts"
        refine t_join s4 (by show 5 + ((numS m).length + 0) + 2 * 1 ≤ _; omega) ?_
        walk_at "ts"
        exact q Z4 H4 (((t1.step t2 mm_nil).step t3 mm_nil).step t4 mm_nil)

/-! ### _law_asked -/
noncomputable def sp_law_asked (K : PySem.W.Frag) : Sp := fun vs H Q _ => ∃ (way : Int) (v : V) (x : Str) (d : PyData) (Z : Hp), vs = [.int way, v, .str x] ∧ Ex Z H ∧ Dt Z v d ∧
  ((way = 0 ∧ ∃ rs : List TR.Row, d = Py.d rs ∧ x = rowsS rs ∧ (∀ r ∈ rs, (∀ e ∈ r, EntW e) ∧ r.length ≤ 150) ∧ rs.length ≤ 700) ∨ (way = 1 ∧ ∃ s : Stp, d = Py.d s ∧ x = stepS s ∧ StpT s ∧ ∀ m, s = .rooms m → 1 ≤ m) ∨ (way = 2 ∧ ∃ y : Yard, d = Py.d y ∧ x = yardS y ∧ YardT y)) ∧
  ∀ p u M Z' H', T [] Z H Z' H' → Z' p = some (.tup [.str x, u]) → Ot true Z' H' u d M → M.Nodup → (∀ b ∈ M, H b = none) → Q (.ref p) H'
theorem has_law_asked (z : Z K mg) (F : FunAt K mg "_law_asked" s_law_asked ["_law_way", "_law_thing_here", "_law_text"]) (h_read_yard : Has P w K mg base "read_yard" 6 (sp_read_yard K)) (h_show_yard : Has P w K mg base "show_yard" 3 (sp_show_yard K)) (h_read_step : Has P w K mg base "read_step" 5 (sp_read_step K)) (h_show_step : Has P w K mg base "show_step" 2 (sp_show_step K)) (h_read_rows : Has P w K mg base "read_rows" 5 (sp_read_rows K)) (h_show_rows : Has P w K mg base "show_rows" 2 (sp_show_rows K)) : Has P w K mg base "_law_asked" 7 (sp_law_asked K) := by
  refine has_of F sc_law_asked (fun vs H Q E h => ?_) (fun f cdv A outer s H vs Q E hr h => ?_)
  · obtain ⟨_, _, _, _, _, rfl, _⟩ := h
    rfl
  · obtain ⟨way, v, x, d, Z, rfl, zh, dv, hw, q⟩ := h
    refine ⟨_, (pss_cons (ps_if (pt_cmpR (eqA (K := K) rfl hr.units) (pv 0) pe_int (nomark _)) (pss_one (ps_ret (pe_tup (pa_cons (pe_callH h_show_rows (by decide) hr rfl (pa_cons (pv 1) pa_nil)) (pa_cons (pe_callH h_read_rows (by decide) hr rfl (pa_cons (pv 2) pa_nil)) pa_nil))))) pss_nil)
        (pss_cons (ps_if (pt_cmpR (eqA (K := K) rfl hr.units) (pv 0) pe_int (nomark _)) (pss_one (ps_ret (pe_tup (pa_cons (pe_callH h_show_step (by decide) hr rfl (pa_cons (pv 1) pa_nil)) (pa_cons (pe_callH h_read_step (by decide) hr rfl (pa_cons (pv 2) pa_nil)) pa_nil))))) pss_nil)
        (pss_one (ps_ret (pe_tup (pa_cons (pe_callH h_show_yard (by decide) hr rfl (pa_cons (pv 1) pa_nil)) (pa_cons (pe_callH h_read_yard (by decide) hr rfl (pa_cons (pv 2) pa_nil)) pa_nil))))))), ?_⟩
    walk_at "cx"
    rcases hw with ⟨rfl, rs, rfl, rfl, hw, hl⟩ | ⟨rfl, s, rfl, rfl, hw, hm⟩ | ⟨rfl, y, rfl, rfl, hw⟩
    · walk_at "ts"
      refine ⟨v, rs, Z, rfl, zh, dv, hw, hl, fun Z1 H1 t1 => ?_⟩
      walk_at "ts"
      refine ⟨rs, Z1, rfl, t1.zh, fun r hr => ⟨(hw r hr).1, Nat.le_trans (hw r hr).2 (by decide)⟩, hl, fun u M Z2 H2 t2 o nd fr => ?_⟩
      have z2 := t2.zh
      walk_at "ts"
      rename_i p3 Z3 H3 n3 t3 f3
      exact q p3 u M Z3 H3 ((t1.step t2 mm_nil).step t3 mm_nil) f3 (o.tt0 t3) nd fun b hb => t1.nn (fr b hb)
    · walk_at "ts"
      refine ⟨v, s, Z, rfl, zh, dv, hw, fun Z1 H1 t1 => ?_⟩
      walk_at "ts"
      refine ⟨s, Z1, rfl, t1.zh, hw, hm, fun u M Z2 H2 t2 o nd fr => ?_⟩
      have z2 := t2.zh
      walk_at "ts"
      rename_i p3 Z3 H3 n3 t3 f3
      exact q p3 u M Z3 H3 ((t1.step t2 mm_nil).step t3 mm_nil) f3 (o.tt0 t3) nd fun b hb => t1.nn (fr b hb)
    · walk_at "ts"
      refine ⟨v, y, Z, rfl, zh, dv, hw, fun Z1 H1 t1 => ?_⟩
      walk_at "ts"
      refine ⟨y, Z1, rfl, t1.zh, hw, fun u M Z2 H2 t2 o nd fr => ?_⟩
      have z2 := t2.zh
      walk_at "ts"
      rename_i p3 Z3 H3 n3 t3 f3
      exact q p3 u M Z3 H3 ((t1.step t2 mm_nil).step t3 mm_nil) f3 (o.tt0 t3) nd fun b hb => t1.nn (fr b hb)

/-! ### _law_copy -/
noncomputable def spR_law_copy : Nat → PySem.W.Frag → Sp
  | 0, _ => fun _ _ _ _ => False
  | d + 1, _ => fun vs H Q _ => ∃ (v : V) (x : PyData) (M : List Addr) (b : Bool) (Z : Hp), vs = [v] ∧ Ex Z H ∧ Ot b Z H v x M ∧ x.depth ≤ d ∧ wid x = true ∧ ∀ v' Z' H', T [] Z H Z' H' → Dt Z' v' x → Q v' H'
noncomputable abbrev sp_law_copy (K : PySem.W.Frag) : Sp := spR_law_copy 7 K
theorem has_law_copy (z : Z K mg) (F : FunAt K mg "_law_copy" s_law_copy ["_law_told"])  : Has P w K mg base "_law_copy" 8 (sp_law_copy K) := by
  refine (Nat.rec (motive := fun d => Has P w K mg base "_law_copy" (1 + d) (spR_law_copy d K)) (Has.mono (has_of (k := 0) F sc_law_copy (fun _ _ _ _ h => h.elim) (fun _ _ _ _ _ _ _ _ _ _ h => h.elim)) (by omega)) (fun d h_law_copy => has_of (k := 1 + d) F sc_law_copy (fun vs H Q E h => ?_) (fun f cdv A outer s H vs Q E hr h => ?_)) 7 : Has P w K mg base "_law_copy" (1 + 7) (spR_law_copy 7 K))
  · obtain ⟨v, x, M, b, Z, rfl, _⟩ := h
    rfl
  · obtain ⟨v, x, M, b, Z, rfl, zh, o, hd, hw, q⟩ := h
    refine ⟨_, (pss_cons (ps_if (pt_val (pe_callB (id := "isinstance") (isiA (K := K) rfl) (by rfl) z.b_isinstance (by decide +kernel) (pa_cons (pv 0) (pa_cons (pe_bltn (v := .ty "list") (by rfl) z.b_list (by decide +kernel) rfl) pa_nil)))) (pss_one (ps_ret (pe_lc (own := [("_law_one", 1)]) (g := gName 1) (tt := tYes) rfl sc_law_copy.nd (piO (piL (K := K) rfl (pv 0)) (piT (K := K) rfl (pv 0))) (blkOk_by (own := [("_law_one", 1)]) (N := ["_law_told", "_law_one"]) (sc := defScope s_law_copy) (by decide +kernel)) (fun _ _ _ _ _ => (pg_name (i := 1) sc_law_copy.nd rfl (by first | exact Or.inl rfl | exact Or.inr rfl))) (fun _ _ _ _ _ => pts_nil) (fun _ _ _ _ _ => (pe_callH h_law_copy (by omega) hr rfl (pa_cons (pv 1) pa_nil)))))) pss_nil)
        (pss_cons (ps_if (pt_val (pe_callB (id := "isinstance") (isiA (K := K) rfl) (by rfl) z.b_isinstance (by decide +kernel) (pa_cons (pv 0) (pa_cons (pe_bltn (v := .ty "tuple") (by rfl) z.b_tuple (by decide +kernel) rfl) pa_nil)))) (pss_one (ps_ret (pe_callTy (T := "tuple") (tupA (K := K) rfl) (by rfl) z.b_tuple (by decide +kernel) (pa_cons (pe_lc (own := [("_law_one", 1)]) (g := gName 1) (tt := tYes) rfl sc_law_copy.nd (piO (piL (K := K) rfl (pv 0)) (piT (K := K) rfl (pv 0))) (blkOk_by (own := [("_law_one", 1)]) (N := ["_law_told", "_law_one"]) (sc := defScope s_law_copy) (by decide +kernel)) (fun _ _ _ _ _ => (pg_name (i := 1) sc_law_copy.nd rfl (by first | exact Or.inl rfl | exact Or.inr rfl))) (fun _ _ _ _ _ => pts_nil) (fun _ _ _ _ _ => (pe_callH h_law_copy (by omega) hr rfl (pa_cons (pv 1) pa_nil)))) pa_nil)))) pss_nil)
        (pss_one (ps_ret (pv 0))))), ?_⟩
    walk_at "cx"
    by_cases cl : ∃ xs, x = .list xs
    · obtain ⟨xs, rfl⟩ := cl
      obtain ⟨p, us, M', rfl, h1, a, _⟩ := o.list_inv zh
      have sp := sq_of (K := K) h1
      obtain ⟨d', rfl, dm⟩ := dep_list hd
      obtain ⟨wl, wm⟩ := wid_list hw
      walk_at "ts"
      refine s_lcO1 ?_
      walk_at "ts"
      refine c_otL zh h1 a (by omega) (fun u x N Z1 H1 hx o1 t A hA => ?_) (fun D ys Z1 H1 nD t fD dD => ?_)
      · have z1 := t.zh
        walk_at "ts"
        exact ⟨u, x, N, b, Z1, rfl, z1, o1, dm x hx, wm x hx, fun v' Z' H' t' d => by
          walk_at "ts"
          exact hA _ _ _ t' d⟩
      · walk_at "ts"
        exact q _ Z1 H1 t (.lst fD dD)
    by_cases ct : ∃ xs, x = .tuple xs
    · obtain ⟨xs, rfl⟩ := ct
      obtain ⟨p, us, rfl, h1, a⟩ := o.tup_inv zh
      have sp := st_of (K := K) (zh _ _ h1)
      obtain ⟨d', rfl, dm⟩ := dep_tup hd
      obtain ⟨wl, wm⟩ := wid_tup hw
      walk_at "ts"
      refine s_lcO2 ?_
      walk_at "ts"
      refine c_otT zh (zh _ _ h1) a (by omega) (fun u x N Z1 H1 hx o1 t A hA => ?_) (fun D ys Z1 H1 nD t fD dD => ?_)
      · have z1 := t.zh
        walk_at "ts"
        exact ⟨u, x, N, b, Z1, rfl, z1, o1, dm x hx, wm x hx, fun v' Z' H' t' d => by
          walk_at "ts"
          exact hA _ _ _ t' d⟩
      · walk_at "ts"
        refine t_tupL t.zh fD fun l Z2 H2 nl t2 f2 => ?_
        walk_at "ts"
        exact q _ Z2 H2 (t.step t2 mm_nil) (.tup f2 (DtAll.ex t2.z dD))
    obtain ⟨_, dx, sc⟩ := o.sc_inv (fun xs e => cl ⟨xs, e⟩) (fun xs e => ct ⟨xs, e⟩)
    rcases sc with ⟨rfl, rfl⟩ | ⟨b', rfl, rfl⟩ | ⟨i, rfl, rfl⟩ | ⟨s, rfl, rfl⟩
    all_goals
      walk_at "ts"
      exact q _ Z H (T.refl zh) dx

/-! ### _law_right -/
noncomputable def sp_law_right (K : PySem.W.Frag) : Sp := fun vs H Q _ => ∃ (way : Int) (v : V) (x : Str) (d : PyData) (Z : Hp), vs = [.int way, v, .str x] ∧ Ex Z H ∧ Dt Z v d ∧ AskW way d x ∧ ∀ Z' H', T [] Z H Z' H' → Q (.bl true) H'
theorem has_law_right (z : Z K mg) (F : FunAt K mg "_law_right" s_law_right ["_law_way", "_law_thing_here", "_law_text"]) (h_law_spoil : Has P w K mg base "_law_spoil" 8 (sp_law_spoil K)) (h_law_same : Has P w K mg base "_law_same" 8 (sp_law_same K)) (h_law_asked : Has P w K mg base "_law_asked" 7 (sp_law_asked K)) (h_law_copy : Has P w K mg base "_law_copy" 8 (sp_law_copy K)) : Has P w K mg base "_law_right" 9 (sp_law_right K) := by
  refine has_of F sc_law_right (fun vs H Q E h => ?_) (fun f cdv A outer s H vs Q E hr h => ?_)
  · obtain ⟨_, _, _, _, _, rfl, _⟩ := h
    rfl
  · obtain ⟨way, v, x, d, Z, rfl, zh, dv, hw, q⟩ := h
    refine ⟨_, (pss_cons (ps_set (i := 3) sc_law_right.nd rfl (by first | exact Or.inl rfl | exact Or.inr rfl) (pe_callH h_law_copy (by decide) hr rfl (pa_cons (pv 1) pa_nil)))
        (pss_cons (ps_for PassesOwn.never rfl (pi_range1 (by rfl) z.b_range (pa_cons pe_int pa_nil)) (pg_name (i := 4) sc_law_right.nd rfl (by first | exact Or.inl rfl | exact Or.inr rfl)) (pss_cons (ps_asg (pe_callH h_law_asked (by decide) hr rfl (pa_cons (pv 0) (pa_cons (pv 3) (pa_cons (pv 2) pa_nil)))) (pg_tup rfl (pgs_cons (pg_name (i := 5) sc_law_right.nd rfl (by first | exact Or.inl rfl | exact Or.inr rfl)) (pgs_cons (pg_name (i := 6) sc_law_right.nd rfl (by first | exact Or.inl rfl | exact Or.inr rfl)) pgs_nil))))
        (pss_cons (ps_if (PW.pt (pw_or (pt_not (pt_val (pe_callB (id := "isinstance") (isiA (K := K) rfl) (by rfl) z.b_isinstance (by decide +kernel) (pa_cons (pv 5) (pa_cons (pe_bltn (v := .ty "str") (by rfl) z.b_str (by decide +kernel) rfl) pa_nil))))) (pw_or (pt_cmpR (neA (K := K) rfl hr.units) (pv 5) (pv 2) (nomark _)) (pw_or (pt_not (pt_val (pe_callH h_law_same (by decide) hr rfl (pa_cons (pv 6) (pa_cons (pv 1) pa_nil))))) (pw_or1 (pt_not (pt_val (pe_callH h_law_same (by decide) hr rfl (pa_cons (pv 3) (pa_cons (pv 1) pa_nil)))))))))) (pss_one (ps_ret pe_bl)) pss_nil)
        (pss_one (ps_expr (pe_callH h_law_spoil (by decide) hr rfl (pa_cons (pv 6) pa_nil)))))))
        (pss_one (ps_ret pe_bl)))), ?_⟩
    obtain ⟨ok, wd⟩ := hw.ok
    have dd := ok.1
    walk_at "cx"
    walk_at "ts"
    refine ⟨v, d, [], false, Z, rfl, zh, .fr (fun h => by cases h) dv, dd, wd, fun v1 Z1 H1 t1 d1 => ?_⟩
    walk_at "ts"
    refine u_forR1 (fun i σ H' => ∃ x1 x2 x3 Z', σ = [some (.int way), some v, some (.str x), some v1, x1, x2, x3] ∧ T [] Z H Z' H' ∧ Dt Z' v1 d) (by omega) ⟨_, _, _, Z1, rfl, t1, d1⟩ (fun i σ H2 hi hh => ?_) (fun σ H2 hh => ?_)
    · obtain ⟨x1, x2, x3, Z2, rfl, t2, d2⟩ := hh
      have z2 := t2.zh
      walk_at "ts"
      refine ⟨way, v1, x, d, Z2, rfl, t2.zh, d2, hw, fun p u M Z3 H3 t3 f3 o nd fr => ?_⟩
      have z3 := t3.zh
      have sT := st_of (K := K) (z3 _ _ f3)
      walk_at "ts"
      refine s_gt2 sT ?_
      walk_at "ts"
      refine ⟨u, v, d, M, [], true, false, Z3, rfl, z3, o, .fr (fun h => by cases h) (Dt.ex (t2.z.trans t3.z) dv), dd, wd, ok, by decide, fun Z4 H4 t4 => ?_⟩
      have z4 := t4.zh
      walk_at "ts"
      refine ⟨v1, v, d, [], [], false, false, Z4, rfl, z4, .fr (fun h => by cases h) (Dt.ex (t3.z.trans t4.z) d2), .fr (fun h => by cases h) (Dt.ex ((t2.z.trans t3.z).trans t4.z) dv), dd, wd, ok, by decide, fun Z5 H5 t5 => ?_⟩
      have z5 := t5.zh
      have o5 := (o.tt0 t4).tt0 t5
      walk_at "ts"
      refine ⟨u, d, M, Z5, rfl, z5, o5, nd, dd, wd, fun Z6 H6 t6 => ?_⟩
      walk_at "ts"
      exact ⟨_, _, _, Z6, rfl, (((t2.step t3 mm_nil).step t4 mm_nil).step t5 mm_nil).step t6 fun b hb => .inr (t2.nn (fr b hb)), Dt.ex (((t3.z.trans t4.z).trans t5.z).trans t6.z) d2⟩
    · obtain ⟨x1, x2, x3, Z2, rfl, t2, d2⟩ := hh
      walk_at "ts"
      exact q Z2 H2 t2

/-! ### _law_row_text -/
noncomputable def sp_law_row_text (K : PySem.W.Frag) : Sp := fun vs H Q _ => ∃ (v : V) (r : TR.Row) (Z : Hp), vs = [v] ∧ Ex Z H ∧ Ik Z v r ∧ (∀ e ∈ r, EntW e) ∧ r.length ≤ 1000 ∧ ∀ Z' H', T [] Z H Z' H' → Q (.str (rowS r)) H'
theorem has_law_row_text (z : Z K mg) (F : FunAt K mg "_law_row_text" s_law_row_text ["_law_row_here"])  : Has P w K mg base "_law_row_text" 1 (sp_law_row_text K) := by
  refine has_of F sc_law_row_text (fun vs H Q E h => ?_) (fun f cdv A outer s H vs Q E hr h => ?_)
  · obtain ⟨_, _, _, rfl, _⟩ := h
    rfl
  · obtain ⟨v, r, Z, rfl, zh, iv, hw, hl, q⟩ := h
    refine ⟨_, (pss_cons (ps_set (i := 1) sc_law_row_text.nd rfl (by first | exact Or.inl rfl | exact Or.inr rfl) (pe_lst pa_nil))
        (pss_cons (ps_for PassesOwn.never rfl (piL (K := K) rfl (pv 0)) (pg_tup rfl (pgs_cons (pg_name (i := 2) sc_law_row_text.nd rfl (by first | exact Or.inl rfl | exact Or.inr rfl)) (pgs_cons (pg_name (i := 3) sc_law_row_text.nd rfl (by first | exact Or.inl rfl | exact Or.inr rfl)) pgs_nil))) (pss_one (ps_expr (pe_bm PySem.F.plainAttrs_list PySem.F.slot_list_append PySem.F.type_list_append mt_append (pv 1) (pa_cons (pe_op op_plusA (pe_op op_plusA (pe_callTy (T := "str") strIA (by rfl) z.b_str (by decide +kernel) (pa_cons (pv 2) pa_nil)) pe_str) (pv 3)) pa_nil)))))
        (pss_one (ps_ret (pe_ix (ixA (K := K) rfl) (pe_lst (pa_cons (pe_joinK (K := K) rfl (pe_join pe_str (pv 1))) (pa_cons pe_str pa_nil))) (pe_callTy (T := "int") call_int1A (by rfl) z.b_int (by decide +kernel) (pa_cons (pe_cmpR (eqA (K := K) rfl hr.units) (pv 0) (pe_lst pa_nil) (nomark _)) pa_nil)) (fun _ _ => rfl)))))), ?_⟩
    walk_at "cx"
    obtain ⟨p, rfl, ir⟩ := iv.ref_of
    walk_at "ts"
    rename_i W Z1 H1 n1 t1 m1 f1
    have z1 := t1.zh
    have ir1 := Ik.tt t1 ir
    refine t_forL ir1 (fun i σ H' => ∃ x1 x2 Z', σ = [some (.ref p), some (.ref W), x1, x2] ∧ T [W] Z1 H1 Z' H' ∧ Mu Z' H' W ∧ H' W = some (.lst (((r.take i).map entS).map V.str))) (fun i σ H' hh => ?_) ⟨_, _, Z1, rfl, T.refl z1, m1, f1⟩ (fun i v e σ H2 he ie hh => ?_) (fun σ H2 hh => ?_)
    · obtain ⟨x1, x2, Z2, _, t2, _⟩ := hh
      exact t2.z.trans t2.zh
    · obtain ⟨x1, x2, Z2, rfl, t2, m2, f2⟩ := hh
      have z2 := t2.zh
      obtain ⟨b, rfl, hb⟩ := (Ik.tt t2 ie).ent_of
      obtain ⟨h0, h1, hn⟩ := hw e (List.mem_of_getElem? he)
      have nl := (nameB_low hn).2.1
      have kl := key_len h0 h1
      have sb := st_of (K := K) (z2 _ _ hb)
      have sW := sq_of (K := K) f2
      have il := (List.getElem?_eq_some_iff.mp he).1
      have e1 : ((r.take (i + 1)).map entS).map V.str = ((r.take i).map entS).map V.str ++ [V.str (entS e)] := by
        rw [List.take_add_one, he]
        simp
      walk_at "ts"
      refine s_gt2 sb ?_
      walk_at "ts"
      refine t_strI h0 (by omega) ?_
      walk_at "ts"
      refine s_plusS (by show (numS e.1).length + 1 ≤ _; omega) ?_
      walk_at "ts"
      refine s_plusS (by rw [len_app]; show (numS e.1).length + 1 + _ ≤ _; omega) ?_
      walk_at "ts"
      refine apR z2 f2 m2.z (by rw [List.length_map, List.length_map, List.length_take]; omega) fun Z3 H3 t3 f3 z3W => ?_
      walk_at "ts"
      exact ⟨_, _, Z3, rfl, t2.step t3 mm_same, ⟨z3W, _, f3⟩, by rw [e1]; exact f3⟩
    · obtain ⟨x1, x2, Z2, rfl, t2, m2, f2⟩ := hh
      rw [List.take_length] at f2
      have sW := sq_of (K := K) f2
      have ir2 := Ik.tt t2 ir1
      have z2 := t2.zh
      walk_at "ts"
      refine s_m1 ?_
      walk_at "ts"
      refine n_m1 ?_
      have sz : ((r.map entS).map (·.length)).sum ≤ r.length * 28 := sum_le (fun x hx => by
        obtain ⟨e, he, rfl⟩ := List.mem_map.mp hx
        rw [TL.len_tl]
        exact ent_len (hw e he)) (by rw [List.length_map])
      walk_at "ts"
      refine t_join sW (by rw [List.length_map]; show _ + r.length * 1 ≤ _; omega) ?_
      walk_at "ts"
      rename_i p3 Z3 H3 n3 t3 f3 p4 Z4 H4 n4 t4 m4 f4
      have z4 := t4.zh
      have ir4 := Ik.tt t4 (Ik.tt t3 ir2)
      refine s_eqP (x := r) (y := ([] : TR.Row)) (Ik.ex z4 ir4).is (Ik.nil f4).is (by decide) ?_
      have s3 := sq_of (K := K) (z4 _ _ (t4.z _ _ f3))
      walk_at "ts"
      refine s_ixB2 s3 ?_
      have T4 : T [] Z H Z4 H4 := ((t1.step t2 (mm_1 (.inr n1))).step t3 mm_nil).step t4 mm_nil
      have e2 : (if decide (r = []) = true then V.str "-" else V.str (Txt.join "," (r.map entS))) = V.str (rowS r) := by
        unfold rowS
        by_cases c : r = []
        · rw [if_pos (decide_eq_true c), if_pos c]
        · rw [if_neg (by simpa using c), if_neg c]
      rw [e2]
      exact q Z4 H4 T4

/-! ### _law_rows_text -/
noncomputable def sp_law_rows_text (K : PySem.W.Frag) : Sp := fun vs H Q _ => ∃ (v : V) (rs : List TR.Row) (Z : Hp), vs = [v] ∧ Ex Z H ∧ Ik Z v rs ∧ (∀ r ∈ rs, (∀ e ∈ r, EntW e) ∧ r.length ≤ 150) ∧ rs.length ≤ 700 ∧ ∀ Z' H', T [] Z H Z' H' → Q (.str (rowsS rs)) H'
theorem has_law_rows_text (z : Z K mg) (F : FunAt K mg "_law_rows_text" s_law_rows_text ["_law_rows_here"]) (h_law_row_text : Has P w K mg base "_law_row_text" 1 (sp_law_row_text K)) : Has P w K mg base "_law_rows_text" 2 (sp_law_rows_text K) := by
  refine has_of F sc_law_rows_text (fun vs H Q E h => ?_) (fun f cdv A outer s H vs Q E hr h => ?_)
  · obtain ⟨_, _, _, rfl, _⟩ := h
    rfl
  · obtain ⟨v, rs, Z, rfl, zh, iv, hw, hl, q⟩ := h
    refine ⟨_, (pss_one (ps_ret (pe_ix (ixA (K := K) rfl) (pe_lst (pa_cons (pe_joinK (K := K) rfl (pe_join pe_str (pe_lc (own := [("_law_row_here", 1)]) (g := gName 1) (tt := tYes) rfl sc_law_rows_text.nd (piL (K := K) rfl (pv 0)) (blkOk_by (own := [("_law_row_here", 1)]) (N := ["_law_rows_here", "_law_row_here"]) (sc := defScope s_law_rows_text) (by decide +kernel)) (fun _ _ _ _ _ => (pg_name (i := 1) sc_law_rows_text.nd rfl (by first | exact Or.inl rfl | exact Or.inr rfl))) (fun _ _ _ _ _ => pts_nil) (fun _ _ _ _ _ => (pe_callH h_law_row_text (by decide) hr rfl (pa_cons (pv 1) pa_nil)))))) (pa_cons pe_str pa_nil))) (pe_callTy (T := "int") call_int1A (by rfl) z.b_int (by decide +kernel) (pa_cons (pe_cmpR (eqA (K := K) rfl hr.units) (pv 0) (pe_lst pa_nil) (nomark _)) pa_nil)) (fun _ _ => rfl)))), ?_⟩
    walk_at "cx"
    obtain ⟨p, rfl, ir⟩ := iv.ref_of
    walk_at "ts"
    refine s_m1 ?_
    walk_at "ts"
    refine n_m1 ?_
    walk_at "ts"
    refine c_mapS rowS zh ir (by omega) (fun u r Z2 H2 hr hu t2 A hA => ?_) (fun D Z2 H2 nD t2 fD => ?_)
    · obtain ⟨h1, h2⟩ := hw r hr
      walk_at "ts"
      exact ⟨u, r, Z2, rfl, t2.zh, Ik.tt t2 hu, h1, by omega, fun Z' H' t' => by
        walk_at "ts"
        exact hA Z' H' t'⟩
    · have sD := sq_of (K := K) (t2.zh _ _ fD)
      have sz : ((rs.map rowS).map (·.length)).sum ≤ rs.length * 4351 := sum_le (fun x hx => by
        obtain ⟨r, hr, rfl⟩ := List.mem_map.mp hx
        obtain ⟨h1, h2⟩ := hw r hr
        have := row_len h1
        rw [TL.len_tl]
        omega) (by rw [List.length_map])
      have ir2 := Ik.tt t2 ir
      have z2 := t2.zh
      walk_at "ts"
      refine t_join sD (by rw [List.length_map]; show _ + rs.length * 1 ≤ _; omega) ?_
      walk_at "ts"
      rename_i p3 Z3 H3 n3 t3 f3 p4 Z4 H4 n4 t4 m4 f4
      have z4 := t4.zh
      have ir4 := Ik.tt t4 (Ik.tt t3 ir2)
      refine s_eqP (x := rs) (y := ([] : List TR.Row)) (Ik.ex z4 ir4).is (Ik.nil f4).is (by decide) ?_
      have s3 := sq_of (K := K) (z4 _ _ (t4.z _ _ f3))
      walk_at "ts"
      refine s_ixB2 s3 ?_
      have e2 : (if decide (rs = []) = true then V.str "none" else V.str (Txt.join ";" (rs.map rowS))) = V.str (rowsS rs) := by
        unfold rowsS
        by_cases c : rs = []
        · rw [if_pos (decide_eq_true c), if_pos c]
        · rw [if_neg (by simpa using c), if_neg c]
      rw [e2]
      exact q Z4 H4 ((t2.step t3 mm_nil).step t4 mm_nil)

/-! ### _law_yard_text -/
noncomputable def sp_law_yard_text (K : PySem.W.Frag) : Sp := fun vs H Q _ => ∃ (v : V) (y : Yard) (Z : Hp), vs = [v] ∧ Ex Z H ∧ Ik Z v y ∧ YardT y ∧ ∀ Z' H', T [] Z H Z' H' → Q (.str (yardS y)) H'
theorem has_law_yard_text (z : Z K mg) (F : FunAt K mg "_law_yard_text" s_law_yard_text ["_law_yard_here"]) (h_law_rows_text : Has P w K mg base "_law_rows_text" 2 (sp_law_rows_text K)) : Has P w K mg base "_law_yard_text" 3 (sp_law_yard_text K) := by
  refine has_of F sc_law_yard_text (fun vs H Q E h => ?_) (fun f cdv A outer s H vs Q E hr h => ?_)
  · obtain ⟨_, _, _, rfl, _⟩ := h
    rfl
  · obtain ⟨v, y, Z, rfl, zh, iv, ⟨⟨a0, a1⟩, ⟨b0, b1⟩, cl, cs, cr, _⟩, q⟩ := h
    refine ⟨_, (pss_cons (ps_set (i := 1) sc_law_yard_text.nd rfl (by first | exact Or.inl rfl | exact Or.inr rfl) (pe_lst (pa_cons (pe_callTy (T := "str") strIA (by rfl) z.b_str (by decide +kernel) (pa_cons (pe_ix (ixA (K := K) rfl) (pv 0) pe_int (fun _ _ => rfl)) pa_nil)) (pa_cons (pe_callTy (T := "str") strIA (by rfl) z.b_str (by decide +kernel) (pa_cons (pe_ix (ixA (K := K) rfl) (pv 0) pe_int (fun _ _ => rfl)) pa_nil)) pa_nil))))
        (pss_cons (ps_for PassesOwn.never rfl (piL (K := K) rfl (pe_ix (ixA (K := K) rfl) (pv 0) pe_int (fun _ _ => rfl))) (pg_name (i := 2) sc_law_yard_text.nd rfl (by first | exact Or.inl rfl | exact Or.inr rfl)) (pss_one (ps_expr (pe_bm PySem.F.plainAttrs_list PySem.F.slot_list_append PySem.F.type_list_append mt_append (pv 1) (pa_cons (pe_callH h_law_rows_text (by decide) hr rfl (pa_cons (pv 2) pa_nil)) pa_nil)))))
        (pss_one (ps_ret (pe_joinK (K := K) rfl (pe_join pe_str (pv 1))))))), ?_⟩
    walk_at "cx"
    obtain ⟨pa, pb, rfl, ha, hb⟩ := iv.yard_of
    have sa := st_of (K := K) (zh _ _ ha)
    have l1 := num_len (i := y.a) (by omega) (by omega)
    have l2 := num_len (i := y.b) (by omega) (by omega)
    walk_at "tyN"
    refine t_strI (by omega) (by omega) ?_
    walk_at "tyN"
    refine t_strI (by omega) (by omega) ?_
    walk_at "tyN"
    refine nwR zh (by show 2 ≤ 100000; decide) fun W Z1 H1 n1 t1 f1 z1W => ?_
    have z1 := t1.zh
    have hb1 := Ik.tt t1 hb
    have sa1 := st_of (K := K) (z1 _ _ (t1.z _ _ ha))
    walk_at "ts"
    refine t_forL hb1 (fun i σ H' => ∃ x1 Z', σ = [some (.ref pa), some (.ref W), x1] ∧ T [W] Z1 H1 Z' H' ∧ Mu Z' H' W ∧ H' W = some (.lst (([numS y.a, numS y.b] ++ (y.c.take i).map rowsS).map V.str))) (fun i σ H' hh => ?_) ⟨_, Z1, rfl, T.refl z1, ⟨z1W, _, f1⟩, f1⟩ (fun i v rs σ H2 he ie hh => ?_) (fun σ H2 hh => ?_)
    · obtain ⟨x1, Z2, _, t2, _⟩ := hh
      exact t2.z.trans t2.zh
    · obtain ⟨x1, Z2, rfl, t2, m2, f2⟩ := hh
      have z2 := t2.zh
      have hm := List.mem_of_getElem? he
      have h1 := cr rs hm
      have h2 := sum_mem hm
      have sW := sq_of (K := K) f2
      have il := (List.getElem?_eq_some_iff.mp he).1
      have e1 : ([numS y.a, numS y.b] ++ (y.c.take (i + 1)).map rowsS).map V.str = ([numS y.a, numS y.b] ++ (y.c.take i).map rowsS).map V.str ++ [V.str (rowsS rs)] := by
        rw [List.take_add_one, he]
        simp
      walk_at "ts"
      refine ⟨v, rs, Z2, rfl, z2, Ik.tt t2 ie, fun r hr' => ⟨(h1 r hr').1, Nat.le_trans (h1 r hr').2 (by decide)⟩, by omega, fun Z3 H3 t3 => ?_⟩
      have f3 := t3.hp nm_nil f2
      have m3 := t3.mu nm_nil m2
      walk_at "ts"
      refine apR t3.zh f3 m3.z (by rw [List.length_map, List.length_append, List.length_map, List.length_take]; show 2 + _ < _; omega) fun Z4 H4 t4 f4 z4W => ?_
      walk_at "ts"
      exact ⟨_, Z4, rfl, (t2.step t3 mm_nil).step t4 mm_same, ⟨z4W, _, f4⟩, by rw [e1]; exact f4⟩
    · obtain ⟨x1, Z2, rfl, t2, m2, f2⟩ := hh
      rw [List.take_length] at f2
      have sW := sq_of (K := K) f2
      have sz := held_len cr
      walk_at "ts"
      refine s_m1 ?_
      walk_at "ts"
      refine n_m1 ?_
      walk_at "ts"
      refine t_join sW ?_ ?_
      · rw [List.map_append, List.sum_append, List.length_append, List.length_map (as := y.c)]
        show (numS y.a).length + ((numS y.b).length + 0) + _ + (2 + y.c.length) * 1 ≤ _
        omega
      · walk_at "ts"
        exact q Z2 H2 (t1.step t2 (mm_1 (.inr n1)))

/-! ### _law_step_text -/
noncomputable def sp_law_step_text (K : PySem.W.Frag) : Sp := fun vs H Q _ => ∃ (v : V) (s : Stp) (Z : Hp), vs = [v] ∧ Ex Z H ∧ Ik Z v s ∧ StpT s ∧ ∀ Z' H', T [] Z H Z' H' → Q (.str (stepS s)) H'
theorem has_law_step_text (z : Z K mg) (F : FunAt K mg "_law_step_text" s_law_step_text ["_law_step_here"]) (h_law_row_text : Has P w K mg base "_law_row_text" 1 (sp_law_row_text K)) : Has P w K mg base "_law_step_text" 2 (sp_law_step_text K) := by
  refine has_of F sc_law_step_text (fun vs H Q E h => ?_) (fun f cdv A outer s H vs Q E hr h => ?_)
  · obtain ⟨_, _, _, rfl, _⟩ := h
    rfl
  · obtain ⟨v, s, Z, rfl, zh, iv, hw, q⟩ := h
    refine ⟨_, (pss_cons (ps_set (i := 1) sc_law_step_text.nd rfl (by first | exact Or.inl rfl | exact Or.inr rfl) (pe_lst (pa_cons (pe_ix (ixA (K := K) rfl) (pv 0) pe_int (fun _ _ => rfl)) pa_nil)))
        (pss_cons (ps_for PassesOwn.never rfl (piT (K := K) rfl (pe_slice (slTA (K := K) rfl) (pv 0) (po_some pe_int) po_none)) (pg_name (i := 2) sc_law_step_text.nd rfl (by first | exact Or.inl rfl | exact Or.inr rfl)) (pss_one (ps_if (pt_val (pe_callB (id := "isinstance") (isiA (K := K) rfl) (by rfl) z.b_isinstance (by decide +kernel) (pa_cons (pv 2) (pa_cons (pe_bltn (v := .ty "list") (by rfl) z.b_list (by decide +kernel) rfl) pa_nil)))) (pss_one (ps_expr (pe_bm PySem.F.plainAttrs_list PySem.F.slot_list_append PySem.F.type_list_append mt_append (pv 1) (pa_cons (pe_callH h_law_row_text (by decide) hr rfl (pa_cons (pv 2) pa_nil)) pa_nil)))) (pss_one (ps_expr (pe_bm PySem.F.plainAttrs_list PySem.F.slot_list_append PySem.F.type_list_append mt_append (pv 1) (pa_cons (pe_callTy (T := "str") strIA (by rfl) z.b_str (by decide +kernel) (pa_cons (pv 2) pa_nil)) pa_nil)))))))
        (pss_one (ps_ret (pe_joinK (K := K) rfl (pe_join pe_str (pv 1))))))), ?_⟩
    walk_at "cx"
    obtain ⟨c, nm, us, L, rfl, hc, nl, pr, eS, sz, ul⟩ := stp_parts zh iv hw
    have sc := st_of (K := K) (zh _ _ hc)
    walk_at "tyN"
    refine nwR zh (by show 1 ≤ 100000; decide) fun W Z1 H1 n1 t1 f1 z1W => ?_
    have z1 := t1.zh
    have sc1 := st_of (K := K) (z1 _ _ (t1.z _ _ hc))
    walk_at "ts"
    refine t_slT z1 sc1 nl fun p2 Z2 H2 n2 t2 f2 => ?_
    have f2' : Z2 p2 = some (.tup us) := by
      rw [f2]
      show some (HO.tup (cutI _ (some 1) none)) = _
      rw [cutI_from _ (by decide)]
      rfl
    have z2 := t2.zh
    have pr2 : Paired (PartT Z2) us L := Paired.mapP pr fun u x h => PartT.tt t2 (PartT.tt t1 h)
    have lu := Paired.length pr2
    have mW : Mu Z2 H2 W := t2.mu nm_nil ⟨z1W, _, f1⟩
    have f12 := t2.hp nm_nil f1
    walk_at "ts"
    refine u_forT (fun i σ H' => ∃ x1 Z', σ = [some (.ref c), some (.ref W), x1] ∧ T [W] Z2 H2 Z' H' ∧ Mu Z' H' W ∧ H' W = some (.lst ((nm :: L.take i).map V.str))) (st_of (z2 _ _ f2')) ⟨_, Z2, rfl, T.refl z2, mW, f12⟩ (fun i σ H' _ hh => ?_) (fun i u σ H3 hu hh => ?_) (fun σ H3 hh => ?_)
    · obtain ⟨x1, Z3, _, t3, _⟩ := hh
      exact st_of (t3.zh _ _ (t3.z _ _ f2'))
    · obtain ⟨x1, Z3, rfl, t3, m3, f3⟩ := hh
      obtain ⟨x, hx, px⟩ := pair_at pr2 hu
      have px3 := PartT.tt t3 px
      have z3 := t3.zh
      have sW := sq_of (K := K) f3
      have il := (List.getElem?_eq_some_iff.mp hx).1
      have e1 : (nm :: L.take (i + 1)).map V.str = (nm :: L.take i).map V.str ++ [V.str x] := by
        rw [List.take_add_one, hx]
        simp
      rcases px3 with ⟨j, rfl, j0, j1, rfl⟩ | ⟨b, w, rfl, iw, hw, hl, rfl⟩
      · walk_at "ts"
        refine t_strI j0 (by omega) ?_
        walk_at "ts"
        refine apR z3 f3 m3.z (by rw [List.length_map, List.length_cons, List.length_take]; omega) fun Z4 H4 t4 f4 z4W => ?_
        walk_at "ts"
        exact ⟨_, Z4, rfl, t3.step t4 mm_same, ⟨z4W, _, f4⟩, by rw [e1]; exact f4⟩
      · obtain ⟨vsb, hvb, _⟩ := iw.li
        have sB := sq_of (K := K) (z3 _ _ hvb)
        walk_at "ts"
        refine ⟨.ref b, w, Z3, rfl, z3, iw, hw, by omega, fun Z4 H4 t4 => ?_⟩
        have f4 := t4.hp nm_nil f3
        have m4 := t4.mu nm_nil m3
        walk_at "ts"
        refine apR t4.zh f4 m4.z (by rw [List.length_map, List.length_cons, List.length_take]; omega) fun Z5 H5 t5 f5 z5W => ?_
        walk_at "ts"
        exact ⟨_, Z5, rfl, (t3.step t4 mm_nil).step t5 mm_same, ⟨z5W, _, f5⟩, by rw [e1]; exact f5⟩
    · obtain ⟨x1, Z3, rfl, t3, m3, f3⟩ := hh
      rw [List.take_of_length_le (by omega)] at f3
      have sW := sq_of (K := K) f3
      have sL : (L.map (·.length)).sum ≤ L.length * 5000 := sum_le (fun x hx => by
        obtain ⟨i, hi⟩ := List.mem_iff_getElem?.mp hx
        obtain ⟨u, _, pu⟩ : ∃ u, u ∈ us ∧ PartT Z2 u x := by
          have hi' := (List.getElem?_eq_some_iff.mp hi).1
          have hu : us[i]? = some (us[i]'(by omega)) := List.getElem?_eq_getElem (by omega)
          obtain ⟨x', hx', p'⟩ := pair_at pr2 hu
          rw [hi] at hx'
          cases hx'
          exact ⟨_, List.mem_of_getElem? hu, p'⟩
        exact pu.len) rfl
      walk_at "ts"
      refine s_m1 ?_
      walk_at "ts"
      refine n_m1 ?_
      walk_at "ts"
      refine t_join sW (by rw [List.map_cons, List.sum_cons, List.length_cons]; show _ + (L.length + 1) * 1 ≤ _; omega) ?_
      rw [← eS]
      exact q Z3 H3 ((t1.step t2 mm_nil).step t3 (mm_1 (.inr n1)))

/-! ### _law_draw -/
noncomputable abbrev sp_law_draw (K : PySem.W.Frag) : Sp := spDraw K
theorem has_law_draw (z : Z K mg) (F : FunAt K mg "_law_draw" s_law_draw ["_law_hand", "_law_many"])  : Has P w K mg base "_law_draw" 1 (sp_law_draw K) := by
  refine has_of F sc_law_draw (fun vs H Q E h => ?_) (fun f cdv A outer s H vs Q E hr h => ?_)
  · obtain ⟨a, m, n, Z, rfl, _⟩ := h
    rfl
  · obtain ⟨a, m, n, Z, rfl, ⟨d, k, c, cells, h1, h3, h4, h5, z1, z2, z3⟩, hm0, hm1, q⟩ := h
    refine ⟨_, (pss_cons (ps_if (pt_cmpR op_gt (pe_ix (ixA (K := K) rfl) (pv 0) pe_int (fun _ _ => rfl)) pe_int (nomark _)) (pss_cons (ps_set (i := 2) sc_law_draw.nd rfl (by first | exact Or.inl rfl | exact Or.inr rfl) (pe_op op_mod (pe_ix (ixA (K := K) rfl) (pv 0) pe_int (fun _ _ => rfl)) (pv 1)))
        (pss_cons (ps_asg (pe_op op_fdivW (pe_ix (ixA (K := K) rfl) (pv 0) pe_int (fun _ _ => rfl)) (pv 1)) (pg_sub (pv 0) pe_int set_list))
        (pss_one (ps_ret (pv 2))))) pss_nil)
        (pss_cons (ps_augS (pv 0) pe_int (getA (K := K) rfl) pe_int ip_add set_list)
        (pss_cons (ps_set (i := 3) sc_law_draw.nd rfl (by first | exact Or.inl rfl | exact Or.inr rfl) (pe_ix (ixA (K := K) rfl) (pv 0) pe_int (fun _ _ => rfl)))
        (pss_cons (ps_set (i := 4) sc_law_draw.nd rfl (by first | exact Or.inl rfl | exact Or.inr rfl) (pe_op op_mod (pe_op op_plusA (pe_op op_mod (pe_ix (ixA (K := K) rfl) (pe_ix (ixA (K := K) rfl) (pv 0) pe_int (fun _ _ => rfl)) (pe_op op_mod (pv 3) (pe_callB (id := "len") (lenA (K := K) rfl) (by rfl) z.b_len (by decide +kernel) (pa_cons (pe_ix (ixA (K := K) rfl) (pv 0) pe_int (fun _ _ => rfl)) pa_nil))) (fun _ _ => rfl)) pe_int) (pe_op op_multA pe_int (pv 3))) pe_int))
        (pss_cons (ps_set (i := 4) sc_law_draw.nd rfl (by first | exact Or.inl rfl | exact Or.inr rfl) (pe_op op_mod (pe_op op_plusA (pe_op op_plusA (pe_op op_pow (pv 4) pe_int) (pe_op op_multA (pe_op op_multA pe_int (pv 3)) (pv 3))) pe_int) pe_int))
        (pss_cons (ps_set (i := 4) sc_law_draw.nd rfl (by first | exact Or.inl rfl | exact Or.inr rfl) (pe_op op_mod (pe_op op_plusA (pe_op op_multA (pe_op op_pow (pv 4) pe_int) (pe_op op_plusA (pe_op op_multA pe_int (pv 3)) pe_int)) pe_int) pe_int))
        (pss_one (ps_ret (pe_op op_mod (pe_op op_fdivW (pe_op op_mod (pe_op op_multA (pv 4) pe_int) pe_int) pe_int) (pv 1)))))))))), ?_⟩
    walk_at "cx"
    walk_at "ss"
    refine i_d (fun hd => ?_) (fun hd => ?_)
    · walk_at "ss"
      rename_i G e1 e2
      exact q _ G (Int.emod_nonneg _ (by omega)) (Int.emod_lt_of_pos _ hm0) e1 ⟨_, k, c, cells, e2, h3, h4, by omega, z1.exm z2 e1, z2, z3⟩
    · walk_at "ss"
      rename_i G e1 e2 _ _ v hv _ _ _ _ _ _ _ _ _ _ b1 b2
      exact q _ G b1 b2 e1 ⟨d, k + 1, c, cells, e2, h3, by omega, by omega, z1.exm z2 e1, z2, z3⟩

/-! ### _law_thing -/
noncomputable abbrev sp_law_thing (K : PySem.W.Frag) : Sp := spThing K
theorem has_law_thing (z : Z K mg) (F : FunAt K mg "_law_thing" s_law_thing ["_law_hand"]) (h_law_draw : Has P w K mg base "_law_draw" 1 (sp_law_draw K)) : Has P w K mg base "_law_thing" 2 (sp_law_thing K) := by
  refine has_of F sc_law_thing (fun vs H Q E h => ?_) (fun f cdv A outer s H vs Q E hr h => ?_)
  · obtain ⟨a, n, Z, rfl, _⟩ := h
    rfl
  · obtain ⟨a, n, Z, rfl, hh, q⟩ := h
    refine ⟨_, (pss_cons (ps_set (i := 1) sc_law_thing.nd rfl (by first | exact Or.inl rfl | exact Or.inr rfl) pe_str)
        (pss_one (ps_ret (pe_join pe_str (pe_lc (own := [("_law_k", 2)]) (g := gName 2) (tt := tYes) rfl sc_law_thing.nd (pi_range1 (by rfl) z.b_range (pa_cons (pe_op op_plusA pe_int (pe_callH h_law_draw (by decide) hr rfl (pa_cons (pv 0) (pa_cons pe_int pa_nil)))) pa_nil)) (blkOk_by (own := [("_law_k", 2)]) (N := ["_law_hand", "_law_letters", "_law_k"]) (sc := defScope s_law_thing) (by decide +kernel)) (fun _ _ _ _ _ => (pg_name (i := 2) sc_law_thing.nd rfl (by first | exact Or.inl rfl | exact Or.inr rfl))) (fun _ _ _ _ _ => pts_nil) (fun _ _ _ _ _ => (pe_ix (ixA (K := K) rfl) (pv 1) (pe_callH h_law_draw (by decide) hr rfl (pa_cons (pv 0) (pa_cons pe_int pa_nil))) (fun _ _ => rfl)))))))), ?_⟩
    walk_at "cx"
    walk_at "ss"
    refine ⟨⟨_, rfl⟩, ?_⟩
    walk_at "ss"
    refine ⟨a, 8, n + 9, _, rfl, hh.mono (by omega), by decide, by decide, fun m H1 m0 m1 e1 hh1 => ?_⟩
    walk_at "ss"
    refine u_lcR1HR (fun (x : Str) y _ => y = .str x ∧ (PyData.strOk x = true ∧ ∀ c ∈ TL.tl x, c ∈ lettersS.cps.toList) ∧ x.length = 1) n 1 hh1 (by omega) (by omega) (fun i hi D H2 R' m2 nD oD hh2 A hA => ?_) (fun D ys l H2 nD m2 hh2 f2 hl hp => ?_)
    · walk_at "ss"
      refine ⟨a, 26, R', _, rfl, hh2, by decide, by decide, fun r H3 r0 r1 e3 hh3 => ?_⟩
      walk_at "ss"
      refine s_ixStr ⟨by omega, by show r < 26; omega⟩ (by decide) fun c hc => ?_
      refine hA ⟨#[c]⟩ _ H3 e3 hh3 fun _ _ _ => ⟨rfl, ⟨?_, fun c' hc' => ?_⟩, rfl⟩
      · refine strOk_iff.mpr fun c' hc' => ?_
        rw [List.mem_singleton.mp hc']
        exact strOk_iff.mp (by decide +kernel) c hc
      · rw [List.mem_singleton.mp hc']
        exact hc
    · have pr := hp H2 hh2.z fun b o _ _ s => s
      have pr : ys = l.map V.str ∧ (∀ x ∈ l, PyData.strOk x = true ∧ ∀ c ∈ TL.tl x, c ∈ lettersS.cps.toList) ∧ (l.map (·.length)).sum = l.length := by
        clear hl hp f2
        induction pr with
        | nil => exact ⟨rfl, fun _ h => absurd h List.not_mem_nil, rfl⟩
        | cons a t ih =>
          obtain ⟨i1, i2, i3⟩ := ih
          obtain ⟨a1, a2, a3⟩ := a
          refine ⟨by rw [a1, i1]; rfl, fun x hx => ?_, ?_⟩
          · rcases List.mem_cons.mp hx with e | hx
            · rw [e]; exact a2
            · exact i2 x hx
          · rw [List.map_cons, List.sum_cons, i3, a3, List.length_cons]
            omega
      obtain ⟨p1, p2, p3⟩ := pr
      rw [p1] at f2
      refine s_joinL f2 (by rw [p3]; show l.length + l.length * 0 ≤ _; omega) ?_
      walk_at "ss"
      refine q ⟨_, join_ok (by decide +kernel) fun x hx => (p2 x hx).1⟩ H2 ?_ (e1.trans m2) hh2
      have jl : (Txt.join "" l).length = l.length := by
        show (TL.tl (Txt.join "" l)).length = _
        rw [TL.join_eq, TL.tl_join]
        refine joinL_len.trans ?_
        rw [List.map_map, ← p3]
        rfl
      have jm : ∀ c ∈ TL.tl (Txt.join "" l), c ∈ lettersS.cps.toList := fun c hc => by
        rcases join_mem hc with g | ⟨x, hx, g⟩
        · exact absurd g List.not_mem_nil
        · exact (p2 x hx).2 c g
      unfold nameB
      rw [Bool.and_eq_true]
      exact ⟨decide_eq_true (by rw [jl]; omega), List.all_eq_true.mpr fun c hc => decide_eq_true (jm c hc)⟩

/-! ### _law_far -/
noncomputable abbrev sp_law_far (K : PySem.W.Frag) : Sp := spFar K
theorem has_law_far (z : Z K mg) (F : FunAt K mg "_law_far" s_law_far ["_law_hand", "_law_many"]) (h_law_draw : Has P w K mg base "_law_draw" 1 (sp_law_draw K)) : Has P w K mg base "_law_far" 2 (sp_law_far K) := by
  refine has_of F sc_law_far (fun vs H Q E h => ?_) (fun f cdv A outer s H vs Q E hr h => ?_)
  · obtain ⟨a, m, n, Z, rfl, _⟩ := h
    rfl
  · obtain ⟨a, m, n, Z, rfl, hh, h0, h1, q⟩ := h
    obtain ⟨d, k, c, cells, g1, g3, g4, g5, z1, z2, z3⟩ := id hh
    refine ⟨_, (pss_cons (ps_if (pt_cmpR op_gt (pe_ix (ixA (K := K) rfl) (pv 0) pe_int (fun _ _ => rfl)) pe_int (nomark _)) (pss_one (ps_ret (pe_callH h_law_draw (by decide) hr rfl (pa_cons (pv 0) (pa_cons (pv 1) pa_nil))))) pss_nil)
        (pss_cons (ps_set (i := 2) sc_law_far.nd rfl (by first | exact Or.inl rfl | exact Or.inr rfl) pe_int)
        (pss_cons (ps_for PassesOwn.never rfl (pi_range1 (by rfl) z.b_range (pa_cons pe_int pa_nil)) (pg_name (i := 3) sc_law_far.nd rfl (by first | exact Or.inl rfl | exact Or.inr rfl)) (pss_one (ps_set (i := 2) sc_law_far.nd rfl (by first | exact Or.inl rfl | exact Or.inr rfl) (pe_op op_plusA (pe_op op_multA (pv 2) (pe_op op_pow pe_int pe_int)) (pe_callH h_law_draw (by decide) hr rfl (pa_cons (pv 0) (pa_cons (pe_op op_pow pe_int pe_int) pa_nil)))))))
        (pss_one (ps_ret (pe_op op_mod (pv 2) (pv 1))))))), ?_⟩
    walk_at "cx"
    walk_at "ss"
    refine i_d (fun hd => ?_) (fun hd => ?_)
    · walk_at "ss"
      exact ⟨a, m, n, Z, rfl, hh.mono (by omega), h0, h1, q⟩
    · walk_at "ss"
      refine u_forR1 (fun i σ H' => ∃ x y, σ = [some (.ref a), some (.int m), some (.int x), y] ∧ ExM a H H' ∧ Hand K Z H' a (n + (7 - i))) (by decide) ⟨_, _, rfl, ExM.refl _, hh⟩ (fun i σ H' hi hw => ?_) (fun σ H' hw => ?_)
      · obtain ⟨x, y, rfl, e, hw⟩ := hw
        have hw' : Hand K Z H' a (n + (7 - (i + 1)) + 1) := hw.mono (by omega)
        walk_at "ss"
        refine ⟨a, _, _, _, rfl, hw', by decide, by decide, fun r H2 r0 r1 m2 hh2 => ?_⟩
        walk_at "ss"
        exact ⟨_, _, rfl, e.trans m2, hh2⟩
      · obtain ⟨x, y, rfl, e, hw⟩ := hw
        walk_at "ss"
        exact q _ _ (by omega) (by omega) e (hw.mono (by omega))

/-! ### _law_power -/
noncomputable def sp_law_power (K : PySem.W.Frag) : Sp := fun vs H Q _ => ∃ n : Int, vs = [.int n] ∧ 0 ≤ n ∧ n ≤ 1000 ∧ Q (.int (2 ^ n.toNat)) H
theorem has_law_power (z : Z K mg) (F : FunAt K mg "_law_power" s_law_power ["_law_many"])  : Has P w K mg base "_law_power" 1 (sp_law_power K) := by
  refine has_of F sc_law_power (fun vs H Q E h => ?_) (fun f cdv A outer s H vs Q E hr h => ?_)
  · obtain ⟨n, rfl, _⟩ := h
    rfl
  · obtain ⟨n, rfl, h0, h1, q⟩ := h
    refine ⟨_, (pss_cons (ps_set (i := 1) sc_law_power.nd rfl (by first | exact Or.inl rfl | exact Or.inr rfl) pe_int)
        (pss_cons (ps_for PassesOwn.never rfl (pi_range1 (by rfl) z.b_range (pa_cons (pv 0) pa_nil)) (pg_name (i := 2) sc_law_power.nd rfl (by first | exact Or.inl rfl | exact Or.inr rfl)) (pss_one (ps_set (i := 1) sc_law_power.nd rfl (by first | exact Or.inl rfl | exact Or.inr rfl) (pe_op op_multA (pv 1) pe_int))))
        (pss_one (ps_ret (pv 1))))), ?_⟩
    walk_at "cx"
    walk_at "ss"
    refine u_forR1 (fun i σ H' => ∃ x, σ = [some (.int n), some (.int (2 ^ i)), x] ∧ H' = H) (by omega) ⟨_, rfl, rfl⟩ (fun i σ H' hi hh => ?_) (fun σ H' hh => ?_)
    · obtain ⟨x, rfl, rfl⟩ := hh
      walk_at "ss"
      exact ⟨_, by rw [Int.pow_succ]; rfl, rfl⟩
    · obtain ⟨x, rfl, rfl⟩ := hh
      walk_at "ss"
      exact q

/-! ### _law_key -/
noncomputable abbrev sp_law_key (K : PySem.W.Frag) : Sp := spKey K
theorem has_law_key (z : Z K mg) (F : FunAt K mg "_law_key" s_law_key ["_law_hand"]) (h_law_far : Has P w K mg base "_law_far" 2 (sp_law_far K)) (h_law_power : Has P w K mg base "_law_power" 1 (sp_law_power K)) (h_law_draw : Has P w K mg base "_law_draw" 1 (sp_law_draw K)) : Has P w K mg base "_law_key" 3 (sp_law_key K) := by
  refine has_of F sc_law_key (fun vs H Q E h => ?_) (fun f cdv A outer s H vs Q E hr h => ?_)
  · obtain ⟨a, n, Z, rfl, _⟩ := h
    rfl
  · obtain ⟨a, n, Z, rfl, hh, q⟩ := h
    refine ⟨_, (pss_cons (ps_set (i := 1) sc_law_key.nd rfl (by first | exact Or.inl rfl | exact Or.inr rfl) (pe_callH h_law_draw (by decide) hr rfl (pa_cons (pv 0) (pa_cons pe_int pa_nil))))
        (pss_cons (ps_set (i := 2) sc_law_key.nd rfl (by first | exact Or.inl rfl | exact Or.inr rfl) (pe_callH h_law_draw (by decide) hr rfl (pa_cons (pv 0) (pa_cons (pe_ix (ixA (K := K) rfl) (pe_lst (pa_cons pe_int (pa_cons pe_int (pa_cons pe_int pa_nil)))) (pe_callH h_law_draw (by decide) hr rfl (pa_cons (pv 0) (pa_cons pe_int pa_nil))) (fun _ _ => rfl)) pa_nil))))
        (pss_cons (ps_if (pt_cmpR op_lt (pv 1) pe_int (nomark _)) (pss_one (ps_ret (pv 2))) pss_nil)
        (pss_cons (ps_if (pt_cmpR (eqA (K := K) rfl hr.units) (pv 1) pe_int (nomark _)) (pss_one (ps_ret (pe_op op_sub (pe_op op_sub (pe_op op_pow pe_int pe_int) pe_int) (pv 2)))) pss_nil)
        (pss_cons (ps_if (pt_cmpR (eqA (K := K) rfl hr.units) (pv 1) pe_int (nomark _)) (pss_one (ps_ret (pe_op op_plusA (pv 2) (pe_callH h_law_power (by decide) hr rfl (pa_cons (pe_op op_plusA pe_int (pe_callH h_law_draw (by decide) hr rfl (pa_cons (pv 0) (pa_cons pe_int pa_nil)))) pa_nil))))) pss_nil)
        (pss_cons (ps_if (pt_cmpR (eqA (K := K) rfl hr.units) (pv 1) pe_int (nomark _)) (pss_one (ps_ret (pe_op op_plusA (pe_op op_mod (pv 2) pe_int) (pe_op op_multA pe_int (pe_callH h_law_far (by decide) hr rfl (pa_cons (pv 0) (pa_cons (pe_op op_pow pe_int pe_int) pa_nil))))))) pss_nil)
        (pss_one (ps_ret (pe_callH h_law_far (by decide) hr rfl (pa_cons (pv 0) (pa_cons (pe_op op_pow pe_int pe_int) pa_nil))))))))))), ?_⟩
    walk_at "cx"
    walk_at "ss"
    refine ⟨a, 7, _, _, rfl, hh, by walk_at "od", by walk_at "od", fun wy H1 wy0 wy1 m1 hh1 => ?_⟩
    walk_at "ss"
    rename_i p1 H2 n2 e2 f2
    refine ⟨a, 3, _, _, rfl, hh1.ex e2, by walk_at "od", by walk_at "od", fun x H3 x0 x1 m3 hh3 => ?_⟩
    walk_at "ss"
    rename_i b hb
    have hb2 : 0 < b ∧ b ≤ 200 := by omega
    refine ⟨a, b, _, _, rfl, hh3, by walk_at "od", by walk_at "od", fun lo H4 lo0 lo1 m4 hh4 => ?_⟩
    have M : ExM a H H4 := ((m1.trans e2.toM).trans m3).trans m4
    walk_at "ss"
    refine i_d (fun hd => ?_) (fun hd => ?_)
    · walk_at "ss"
      exact q _ _ lo0 (by omega) M (hh4.mono (by omega))
    walk_at "ss"
    refine i_d (fun hd => ?_) (fun hd => ?_)
    · walk_at "ss"
      exact q _ _ (by omega) (by omega) M (hh4.mono (by omega))
    walk_at "ss"
    refine i_d (fun hd => ?_) (fun hd => ?_)
    · walk_at "ss"
      refine ⟨a, 52, _, _, rfl, hh4, by walk_at "od", by walk_at "od", fun y H5 y0 y1 m5 hh5 => ?_⟩
      walk_at "ss"
      refine ⟨_, rfl, by omega, by omega, ?_⟩
      have hp := two_pos (8 + y).toNat
      have hp2 := two_mono (show (8 + y).toNat ≤ 59 by omega)
      have e59 : (2 : Int) ^ 59 = 576460752303423488 := by decide
      walk_at "ss"
      exact q _ _ (by omega) (by omega) (M.trans m5) (hh5.mono (by omega))
    walk_at "ss"
    refine i_d (fun hd => ?_) (fun hd => ?_)
    · walk_at "ss"
      refine ⟨a, _, _, _, rfl, hh4.mono (m := n + 7) (by omega), by decide, by decide, fun y H5 y0 y1 m5 hh5 => ?_⟩
      walk_at "ss"
      exact q _ _ (by omega) (by omega) (M.trans m5) (hh5.mono (by omega))
    · walk_at "ss"
      refine ⟨a, _, _, _, rfl, hh4.mono (m := n + 7) (by omega), by decide, by decide, fun y H5 y0 y1 m5 hh5 => ?_⟩
      walk_at "ss"
      exact q _ _ (by omega) (by omega) (M.trans m5) (hh5.mono (by omega))

/-! ### _law_row -/
noncomputable def sp_law_row (K : PySem.W.Frag) : Sp := fun vs H Q _ => ∃ (h : Addr) (n : Nat) (Z : Hp), vs = [.ref h] ∧ Hand K Z H h (n + 300) ∧
  ∀ p (r : TR.Row) Z' H', H p = none → T [h] Z H Z' H' → Hand K Z' H' h n → Lm Z' H' p r → (∀ e ∈ r, EntW e) → r.length ≤ 8 → Q (.ref p) H'
theorem has_law_row (z : Z K mg) (F : FunAt K mg "_law_row" s_law_row ["_law_hand"]) (h_law_draw : Has P w K mg base "_law_draw" 1 (sp_law_draw K)) (h_law_thing : Has P w K mg base "_law_thing" 2 (sp_law_thing K)) (h_law_key : Has P w K mg base "_law_key" 3 (sp_law_key K)) : Has P w K mg base "_law_row" 4 (sp_law_row K) := by
  refine has_of F sc_law_row (fun vs H Q E h => ?_) (fun f cdv A outer s H vs Q E hr h => ?_)
  · obtain ⟨_, _, _, rfl, _⟩ := h
    rfl
  · obtain ⟨h, n, Z, rfl, hh, q⟩ := h
    refine ⟨_, (pss_cons (ps_set (i := 1) sc_law_row.nd rfl (by first | exact Or.inl rfl | exact Or.inr rfl) (pe_lst pa_nil))
        (pss_cons (ps_for PassesOwn.never rfl (pi_range1 (by rfl) z.b_range (pa_cons (pe_callH h_law_draw (by decide) hr rfl (pa_cons (pv 0) (pa_cons (pe_ix (ixA (K := K) rfl) (pe_lst (pa_cons pe_int (pa_cons pe_int (pa_cons pe_int pa_nil)))) (pe_callH h_law_draw (by decide) hr rfl (pa_cons (pv 0) (pa_cons pe_int pa_nil))) (fun _ _ => rfl)) pa_nil))) pa_nil)) (pg_name (i := 2) sc_law_row.nd rfl (by first | exact Or.inl rfl | exact Or.inr rfl)) (pss_one (ps_expr (pe_bm PySem.F.plainAttrs_list PySem.F.slot_list_append PySem.F.type_list_append mt_append (pv 1) (pa_cons (pe_tup (pa_cons (pe_callH h_law_key (by decide) hr rfl (pa_cons (pv 0) pa_nil)) (pa_cons (pe_callH h_law_thing (by decide) hr rfl (pa_cons (pv 0) pa_nil)) pa_nil))) pa_nil)))))
        (pss_one (ps_ret (pv 1))))), ?_⟩
    walk_at "cx"
    have z0 := hh.z
    walk_at "tys"
    rename_i p Z1 H1 n1 t1 m1 f1 p3 Z2 H2 n2 t2 f2 r2 Z3 H3 r20 r21 t3 hh3 many hm mn Z4 H4 mn0 mn1 t4 hh4
    have mn8 : mn < 9 := by omega
    have T4 : T [h] Z H Z4 H4 := (((T.refl z0 : T [h] Z H Z H).step t1 mm_nil).step t2 mm_nil).step t3 mm_same |>.step t4 mm_same
    have lm4 : Lm Z4 H4 p ([] : TR.Row) := (((Lm.of0 m1 t1.zh f1).tt t2 nm_nil).tt t3 (nm_cons (ne_alF n1 hh.at) nm_nil)).tt t4 (nm_cons (ne_alF n1 hh.at) nm_nil)
    have nph : p ≠ h := ne_alF n1 hh.at
    clear t1 t2 t3 t4 m1 f1 f2 hh3
    refine u_forR1 (fun i σ H' => ∃ x1 Z', ∃ r : TR.Row, σ = [some (.ref h), some (.ref p), x1] ∧ T [h] Z H Z' H' ∧ Hand K Z' H' h (n + 22 * (9 - i)) ∧ Lm Z' H' p r ∧ (∀ e ∈ r, EntW e) ∧ r.length = i) (by omega) ⟨_, Z4, [], rfl, T4, hh4.mono (by omega), lm4, fun _ h => absurd h List.not_mem_nil, rfl⟩ (fun i σ H5 hi hq => ?_) (fun σ H5 hq => ?_)
    · obtain ⟨x1, Z5, r, rfl, t5, hh5, lm5, ew, rl⟩ := hq
      have z5 := t5.zh
      have e22 : n + 22 * (9 - i) = n + 22 * (9 - (i + 1)) + 22 := by omega
      rw [e22] at hh5
      try dsimp only
      repeat ((fail_if_success (with_reducible apply thingT)); walk_at "ty")
      rename_i k6 Z6 H6 k60 k61 t6 hh6
      refine thingN hh6 (by omega) fun w Z7 H7 nb t7 hh7 => ?_
      have lm7 := (lm5.tt t6 (nm_cons nph nm_nil)).tt t7 (nm_cons nph nm_nil)
      have z7 := t7.zh
      walk_at "tys"
      rename_i p8 Z8 H8 n8 t8 f8 Z9 H9 t9 lm9
      refine ⟨_, Z9, _, rfl, (((t5.step t6 mm_same).step t7 mm_same).step t8 mm_nil).step t9 (mm_1 (.inr n1)), (((hh7.tt t8 nm_nil).tt t9 (nm_cons nph.symm nm_nil)).mono (by omega)), lm9, fun e he => ?_, by rw [List.length_append, rl]; rfl⟩
      rcases List.mem_append.mp he with he | he
      · exact ew e he
      · rw [List.mem_singleton.mp he]
        exact ⟨k60, k61, nb⟩
    · obtain ⟨x1, Z5, r, rfl, t5, hh5, lm5, ew, rl⟩ := hq
      walk_at "tys"
      exact q p r Z5 H5 n1 t5 (hh5.mono (by omega)) lm5 ew (by omega)

/-! ### _law_rows -/
noncomputable def sp_law_rows (K : PySem.W.Frag) : Sp := fun vs H Q _ => ∃ (h : Addr) (most : Int) (n : Nat) (Z : Hp), vs = [.ref h, .int most] ∧ 1 ≤ most ∧ most ≤ 131 ∧ Hand K Z H h (n + 40000) ∧
  ∀ p (rs : List TR.Row) Z' H', H p = none → T [h] Z H Z' H' → Hand K Z' H' h n → Lm Z' H' p rs → (∀ r ∈ rs, (∀ e ∈ r, EntW e) ∧ r.length ≤ 8) → (rs.length : Int) < most → Q (.ref p) H'
theorem has_law_rows (z : Z K mg) (F : FunAt K mg "_law_rows" s_law_rows ["_law_hand", "_law_most"]) (h_law_draw : Has P w K mg base "_law_draw" 1 (sp_law_draw K)) (h_law_row : Has P w K mg base "_law_row" 4 (sp_law_row K)) : Has P w K mg base "_law_rows" 5 (sp_law_rows K) := by
  refine has_of F sc_law_rows (fun vs H Q E h => ?_) (fun f cdv A outer s H vs Q E hr h => ?_)
  · obtain ⟨_, _, _, _, rfl, _⟩ := h
    rfl
  · obtain ⟨h, most, n, Z, rfl, m0, m1, hh, q⟩ := h
    refine ⟨_, (pss_cons (ps_set (i := 2) sc_law_rows.nd rfl (by first | exact Or.inl rfl | exact Or.inr rfl) (pe_lst pa_nil))
        (pss_cons (ps_for PassesOwn.never rfl (pi_range1 (by rfl) z.b_range (pa_cons (pe_callH h_law_draw (by decide) hr rfl (pa_cons (pv 0) (pa_cons (pv 1) pa_nil))) pa_nil)) (pg_name (i := 3) sc_law_rows.nd rfl (by first | exact Or.inl rfl | exact Or.inr rfl)) (pss_one (ps_expr (pe_bm PySem.F.plainAttrs_list PySem.F.slot_list_append PySem.F.type_list_append mt_append (pv 2) (pa_cons (pe_callH h_law_row (by decide) hr rfl (pa_cons (pv 0) pa_nil)) pa_nil)))))
        (pss_one (ps_ret (pv 2))))), ?_⟩
    walk_at "cx"
    have z0 := hh.z
    walk_at "tys"
    rename_i p Z1 H1 n1 t1 mu1 f1 mn Z4 H4 mn0 mn1 t4 hh4
    have T4 : T [h] Z H Z4 H4 := ((T.refl z0 : T [h] Z H Z H).step t1 mm_nil).step t4 mm_same
    have lm4 : Lm Z4 H4 p ([] : List TR.Row) := (Lm.of0 mu1 t1.zh f1).tt t4 (nm_cons (ne_alF n1 hh.at) nm_nil)
    have nph : p ≠ h := ne_alF n1 hh.at
    clear t1 t4 mu1 f1
    refine u_forR1 (fun i σ H' => ∃ x1 Z', ∃ rs : List TR.Row, σ = [some (.ref h), some (.int most), some (.ref p), x1] ∧ T [h] Z H Z' H' ∧ Hand K Z' H' h (n + 300 * (131 - i)) ∧ Lm Z' H' p rs ∧ (∀ r ∈ rs, (∀ e ∈ r, EntW e) ∧ r.length ≤ 8) ∧ rs.length = i) (by omega) ⟨_, Z4, [], rfl, T4, hh4.mono (by omega), lm4, fun _ h => absurd h List.not_mem_nil, rfl⟩ (fun i σ H5 hi hq => ?_) (fun σ H5 hq => ?_)
    · obtain ⟨x1, Z5, rs, rfl, t5, hh5, lm5, ew, rl⟩ := hq
      have z5 := t5.zh
      have e22 : n + 300 * (131 - i) = n + 300 * (131 - (i + 1)) + 300 := by omega
      rw [e22] at hh5
      walk_at "tys"
      refine ⟨h, n + 300 * (131 - (i + 1)), Z5, rfl, hh5, fun p6 r Z6 H6 n6 t6 hh6 lm6 rw_ rl6 => ?_⟩
      obtain ⟨Z7, H7, e7, t7, ls7⟩ := lm6.frq
      rw [← e7]
      clear e7
      have n60 : H p6 = none := t5.nn n6
      have lm7 := (lm5.tt t6 (nm_cons nph nm_nil)).tt t7 (nm_cons (ne_alB n6 lm5.at_) nm_nil)
      have h7 := hh6.tt t7 (nm_cons (ne_alB n6 hh5.at) nm_nil)
      walk_at "tys"
      rename_i Z8 H8 t8 lm8
      refine ⟨_, Z8, _, rfl, ((t5.step t6 mm_same).step t7 (mm_1 (.inr n60))).step t8 (mm_1 (.inr n1)), h7.tt t8 (nm_cons nph.symm nm_nil), lm8, fun r' hr' => ?_, by rw [List.length_append, rl]; rfl⟩
      rcases List.mem_append.mp hr' with hr' | hr'
      · exact ew r' hr'
      · rw [List.mem_singleton.mp hr']
        exact ⟨rw_, rl6⟩
    · obtain ⟨x1, Z5, rs, rfl, t5, hh5, lm5, ew, rl⟩ := hq
      walk_at "tys"
      exact q p rs Z5 H5 n1 t5 (hh5.mono (by omega)) lm5 ew (by omega)

/-! ### _law_yard -/
noncomputable def sp_law_yard (K : PySem.W.Frag) : Sp := fun vs H Q _ => ∃ (h : Addr) (n : Nat) (Z : Hp), vs = [.ref h] ∧ Hand K Z H h (n + 5500000) ∧
  ∀ v (y : Yard) Z' H', T [h] Z H Z' H' → Hand K Z' H' h n → Ik Z' v y → YardT y → Q v H'
theorem has_law_yard (z : Z K mg) (F : FunAt K mg "_law_yard" s_law_yard ["_law_hand"]) (h_law_row : Has P w K mg base "_law_row" 4 (sp_law_row K)) (h_law_rows : Has P w K mg base "_law_rows" 5 (sp_law_rows K)) (h_law_draw : Has P w K mg base "_law_draw" 1 (sp_law_draw K)) : Has P w K mg base "_law_yard" 6 (sp_law_yard K) := by
  refine has_of F sc_law_yard (fun vs H Q E h => ?_) (fun f cdv A outer s H vs Q E hr h => ?_)
  · obtain ⟨_, _, _, rfl, _⟩ := h
    rfl
  · obtain ⟨h, n, Z, rfl, hh, q⟩ := h
    refine ⟨_, (pss_cons (ps_set (i := 1) sc_law_yard.nd rfl (by first | exact Or.inl rfl | exact Or.inr rfl) (pe_op op_plusA pe_int (pe_callH h_law_draw (by decide) hr rfl (pa_cons (pv 0) (pa_cons pe_int pa_nil)))))
        (pss_cons (ps_set (i := 2) sc_law_yard.nd rfl (by first | exact Or.inl rfl | exact Or.inr rfl) (pe_op op_plusA pe_int (pe_callH h_law_draw (by decide) hr rfl (pa_cons (pv 0) (pa_cons pe_int pa_nil)))))
        (pss_cons (ps_set (i := 3) sc_law_yard.nd rfl (by first | exact Or.inl rfl | exact Or.inr rfl) (pe_lst pa_nil))
        (pss_cons (ps_set (i := 4) sc_law_yard.nd rfl (by first | exact Or.inl rfl | exact Or.inr rfl) (pe_callH h_law_draw (by decide) hr rfl (pa_cons (pv 0) (pa_cons pe_int pa_nil))))
        (pss_cons (ps_for PassesOwn.never rfl (pi_range1 (by rfl) z.b_range (pa_cons (pe_callH h_law_draw (by decide) hr rfl (pa_cons (pv 0) (pa_cons (pe_ix (ixA (K := K) rfl) (pe_lst (pa_cons pe_int (pa_cons pe_int pa_nil))) (pe_callTy (T := "int") call_int1A (by rfl) z.b_int (by decide +kernel) (pa_cons (pe_cmpR (eqA (K := K) rfl hr.units) (pv 4) pe_int (nomark _)) pa_nil)) (fun _ _ => rfl)) pa_nil))) pa_nil)) (pg_name (i := 5) sc_law_yard.nd rfl (by first | exact Or.inl rfl | exact Or.inr rfl)) (pss_one (ps_expr (pe_bm PySem.F.plainAttrs_list PySem.F.slot_list_append PySem.F.type_list_append mt_append (pv 3) (pa_cons (pe_callH h_law_rows (by decide) hr rfl (pa_cons (pv 0) (pa_cons (pe_ix (ixA (K := K) rfl) (pe_lst (pa_cons pe_int (pa_cons pe_int pa_nil))) (pe_callTy (T := "int") call_int1A (by rfl) z.b_int (by decide +kernel) (pa_cons (pe_cmpR (eqA (K := K) rfl hr.units) (pv 4) pe_int (nomark _)) pa_nil)) (fun _ _ => rfl)) pa_nil))) pa_nil)))))
        (pss_cons (ps_if (pt_cmpR (eqA (K := K) rfl hr.units) (pv 4) pe_int (nomark _)) (pss_one (ps_expr (pe_bm PySem.F.plainAttrs_list PySem.F.slot_list_append PySem.F.type_list_append mt_append (pv 3) (pa_cons (pe_callH h_law_rows (by decide) hr rfl (pa_cons (pv 0) (pa_cons pe_int pa_nil))) pa_nil)))) pss_nil)
        (pss_cons (ps_if (PW.pt (pw_and (pt_cmpR (neA (K := K) rfl hr.units) (pv 3) (pe_lst pa_nil) (nomark _)) (pw_and1 (pt_cmpR (eqA (K := K) rfl hr.units) (pe_ix (ixA (K := K) rfl) (pv 3) (pe_un un_neg pe_int) (fun _ _ => rfl)) (pe_lst pa_nil) (nomark _))))) (pss_one (ps_expr (pe_bm PySem.F.plainAttrs_list PySem.F.slot_list_append PySem.F.type_list_append mt_append (pe_ix (ixA (K := K) rfl) (pv 3) (pe_un un_neg pe_int) (fun _ _ => rfl)) (pa_cons (pe_callH h_law_row (by decide) hr rfl (pa_cons (pv 0) pa_nil)) pa_nil)))) pss_nil)
        (pss_one (ps_ret (pe_tup (pa_cons (pv 1) (pa_cons (pv 2) (pa_cons (pv 3) pa_nil))))))))))))), ?_⟩
    walk_at "cx"
    have z0 := hh.z
    walk_at "tys"
    rename_i w1 Z1 H1 w10 w11 t1 hh1 w2 Z2 H2 w20 w21 t2 hh2 p Z3 H3 n3 t3 mu3 f3 great Z4 H4 g0 g1 t4 hh4 p5 Z5 H5 n5 t5 f5 m5 hm m Z7 H7 m0 m1 t7 hh7
    have m131 : m < 131 := by omega
    have nph : p ≠ h := ne_alF n3 hh2.at
    have np1 : ∀ q ∈ p :: ([] : List Addr), q ∉ [h] := fun q hq => by
      rw [List.mem_singleton.mp hq]
      exact nm_cons nph nm_nil
    have T7 : T [h] Z H Z7 H7 := ((((((T.refl z0 : T [h] Z H Z H).step t1 mm_same).step t2 mm_same).step t3 mm_nil).step t4 mm_same).step t5 mm_nil).step t7 mm_same
    have y7 : Y2 Z7 H7 p [] ([] : List (List TR.Row)) := (((Y2.of0 mu3 t3.zh f3).tt t4 np1).tt0 t5).tt t7 np1
    have np0 : H p = none := t1.nn (t2.nn n3)
    clear t3 t4 t5 t7 mu3 f3 f5 np1 t1 t2 hh1 hh2 hh4
    refine u_forR1 (fun i σ H' => ∃ x1 Z' qs, ∃ rs : List (List TR.Row), σ = [some (.ref h), some (.int (1 + w1)), some (.int (1 + w2)), some (.ref p), some (.int great), x1] ∧ T [h] Z H Z' H' ∧ Hand K Z' H' h (n + 90000 + 40000 * (131 - i)) ∧ Y2 Z' H' p qs rs ∧ (∀ q ∈ p :: qs, H q = none) ∧ (∀ x ∈ rs, (∀ r ∈ x, (∀ e ∈ r, EntW e) ∧ r.length ≤ 8) ∧ x.length ≤ 3) ∧ rs.length = i) (by omega) ⟨_, Z7, [], [], rfl, T7, hh7.mono (by omega), y7, fun q hq => by rw [List.mem_singleton.mp hq]; exact np0, fun _ h => absurd h List.not_mem_nil, rfl⟩ (fun i σ H5 hi hq => ?_) (fun σ H5 hq => ?_)
    · obtain ⟨x1, Z5, qs, rs, rfl, t5, hh5, y5, nq, ew, rl⟩ := hq
      have z5 := t5.zh
      have e22 : n + 90000 + 40000 * (131 - i) = n + 90000 + 40000 * (131 - (i + 1)) + 40000 := by omega
      rw [e22] at hh5
      have yl := y5.len
      walk_at "tys"
      refine s_tyL (sq_of y5.own) ?_
      walk_at "tys"
      rename_i p8 Z8 H8 n8 t8 f8 v8 hv8
      refine ⟨h, v8, _, Z8, rfl, by omega, by omega, hh5.tt t8 nm_nil, fun p9 rr Z9 H9 n9 t9 hh9 lm9 rw9 rl9 => ?_⟩
      walk_at "tys"
      have y8 := y5.tt0 t8
      have y9 := y8.tt t9 fun q hq => nm_cons (ne_alF (nq q hq) hh.at) nm_nil
      have np9 : H p9 = none := t5.nn (t8.nn n9)
      refine y9.add lm9 (y8.not n9) (by omega) fun Z10 H10 t10 y10 => ?_
      refine ⟨_, Z10, _, _, rfl, ((t5.step t8 mm_nil).step t9 mm_same).step t10 (mm_1 (.inr np0)), hh9.tt t10 (nm_cons nph.symm nm_nil), y10, fun q hq => ?_, fun x hx => ?_, by rw [List.length_append, rl]; rfl⟩
      · rcases List.mem_cons.mp hq with e | hq
        · rw [e]; exact np0
        · rcases List.mem_append.mp hq with hq | hq
          · exact nq q (List.mem_cons_of_mem _ hq)
          · rw [List.mem_singleton.mp hq]; exact np9
      · rcases List.mem_append.mp hx with hx | hx
        · exact ew x hx
        · rw [List.mem_singleton.mp hx]
          exact ⟨rw9, by omega⟩
    · obtain ⟨x1, Z5, qs, rs, rfl, t5, hh5, y5, nq, ew, rl⟩ := hq
      have z5 := t5.zh
      walk_at "tys"
      refine i_d (fun c0 => ?_) (fun c0 => ?_)
      · walk_at "tys"
        refine s_tyL (sq_of y5.own) ?_
        walk_at "tys"
        refine ⟨h, 131, n + 50000, Z5, rfl, by decide, by decide, hh5.mono (by omega), fun p9 rr Z9 H9 n9 t9 hh9 lm9 rw9 rl9 => ?_⟩
        walk_at "tys"
        have yl := y5.len
        have y9 := y5.tt t9 fun q hq => nm_cons (ne_alF (nq q hq) hh.at) nm_nil
        have np9 : H p9 = none := t5.nn n9
        refine y9.add lm9 (y5.not n9) (by omega) fun Z6 H6 t10 y6 => ?_
        have T6 : T [h] Z H Z6 H6 := (t5.step t9 mm_same).step t10 (mm_1 (.inr np0))
        have hh6 := hh9.tt t10 (nm_cons nph.symm nm_nil)
        have nq6 : ∀ q ∈ p :: (qs ++ [p9]), H q = none := fun q hq => by
          rcases List.mem_cons.mp hq with e | hq
          · rw [e]; exact np0
          · rcases List.mem_append.mp hq with hq | hq
            · exact nq q (List.mem_cons_of_mem _ hq)
            · rw [List.mem_singleton.mp hq]; exact np9
        have ew6 : ∀ x ∈ rs ++ [rr], ∀ r ∈ x, (∀ e ∈ r, EntW e) ∧ r.length ≤ 8 := fun x hx => by
          rcases List.mem_append.mp hx with hx | hx
          · exact (ew x hx).1
          · rw [List.mem_singleton.mp hx]
            exact rw9
        have hl6 : (rs ++ [rr]).length ≤ 131 := by
          rw [List.length_append]
          show rs.length + 1 ≤ 131
          omega
        have hs6 : ((rs ++ [rr]).map List.length).sum ≤ 524 := by
          rw [List.map_append, List.sum_append]
          have h1 := sumL_le (b := 3) (xs := rs) fun x hx => (ew x hx).2
          show _ + (rr.length + 0) ≤ 524
          omega
        have z6 := T6.zh
        revert y6 nq6 ew6 hl6 hs6
        generalize qs ++ [p9] = qs6
        generalize rs ++ [rr] = rs6
        intro y6 nq6 ew6 hl6 hs6
        clear t5 t9 t10 y5 y9 lm9 hh9 hh5 z5
        walk_at "tys"
        try (walk_at "tys")
        rename_i p0 Zt Ht n0 t0 mu0 f0
        have yt := y6.tt0 t0
        refine s_neP (α := List (List TR.Row)) (y := []) yt.isH.is (Ik.nil f0).is (by decide) ?_
        walk_at "tys"
        refine i_d (fun ne => ?_) (fun e0 => ?_)
        · have rl6 := yt.len
          obtain ⟨rs0, rl, rfl⟩ := (show ∃ l x, rs6 = l ++ [x] from ⟨_, _, (List.dropLast_concat_getLast ne).symm⟩)
          obtain ⟨qs0, ql, rfl⟩ := (show ∃ l x, qs6 = l ++ [x] from ⟨_, _, (List.dropLast_concat_getLast (fun e => by
            rw [e, List.length_append] at rl6
            exact absurd rl6 (by show ¬ 0 = _ + 1; omega))).symm⟩)
          rw [List.length_append, List.length_append] at rl6
          have ll : qs0.length = rs0.length := Nat.add_right_cancel rl6
          have gq : (qs0 ++ [ql])[qs0.length]? = some ql := List.getElem?_concat_length
          have gr : (rs0 ++ [rl])[qs0.length]? = some rl := by rw [ll]; exact List.getElem?_concat_length
          have ro := yt.at gq
          have sp := sq_of (K := K) yt.own
          rw [List.map_append] at sp
          walk_at "tys"
          refine s_ixL sp (v := .ref ql) (atI_last _ _) ?_
          walk_at "tys"
          rename_i p1 Zu Hu n1 tu muu fu
          have yu := yt.tt0 tu
          obtain ⟨r', hr', vs, h1, h2⟩ := yu.at gq
          rw [gr] at hr'
          cases hr'
          refine s_eqP (α := List TR.Row) (x := rl) (y := []) (Ik.of_list h1 (Paired.mapP h2 fun v x g => Ik.ex yu.zh g)).is (Ik.nil fu).is (by decide) ?_
          walk_at "tys"
          refine i_d (fun c1 => ?_) (fun c1 => ?_)
          · walk_at "tys"
            have su := sq_of (K := K) yu.own
            rw [List.map_append] at su
            refine s_ixL su (v := .ref ql) (atI_last _ _) ?_
            refine s_tyL (sq_of h1) ?_
            walk_at "tys"
            refine ⟨h, n + 1000, Zu, rfl, ((hh6.tt t0 nm_nil).tt tu nm_nil).mono (by omega), fun p9 r9 Z9 H9 n9 t9 hh9 lm9 ew9 rl9 => ?_⟩
            obtain ⟨Zg, Hg, eg, tg, lg⟩ := lm9.frq
            rw [← eg]
            clear eg
            walk_at "tys"
            have n90 : H p9 = none := T6.nn (t0.nn (tu.nn n9))
            have yg := (yu.tt t9 fun q hq => nm_cons (ne_alF (nq6 q hq) hh.at) nm_nil).tt tg fun q hq => nm_cons (fun e => yu.not n9 (e ▸ hq)) nm_nil
            refine yg.push gq gr lg.is (by rw [c1]; decide) fun Zk Hk tk yk => ?_
            rw [show (rs0 ++ [rl]).set qs0.length (rl ++ [r9]) = rs0 ++ [[r9]] by rw [ll, c1]; simp] at yk
            have mql : ql ∈ p :: (qs0 ++ [ql]) := List.mem_cons_of_mem _ (List.mem_append_right _ List.mem_cons_self)
            obtain ⟨Zf, Hf, ef, tf, lf⟩ := yk.frq
            rw [← ef]
            clear ef
            walk_at "tys"
            rename_i p8 Z8 H8 n8 t8 f8
            have T8 : T [h] Z H Z8 H8 := (((((((T6.step t0 mm_nil).step tu mm_nil).step t9 mm_same).step tg (mm_1 (.inr n90))).step tk (mm_1 (.inr (nq6 ql mql)))).step tf (fun q hq => .inr (nq6 q hq)))).step t8 mm_nil
            have h8 := (((hh9.tt tg (nm_cons (ne_alF n90 hh.at).symm nm_nil)).tt tk (nm_cons (ne_alF (nq6 ql mql) hh.at).symm nm_nil)).tt tf (fun z => ne_alF (nq6 h z) hh.at rfl)).tt t8 nm_nil
            rw [List.map_append, List.sum_append] at hs6
            rw [List.length_append] at hl6
            exact q (.ref p8) ⟨1 + w1, 1 + w2, rs0 ++ [[r9]]⟩ Z8 H8 T8 (h8.mono (by omega)) (.tup f8 (.cons (.int _) (.cons (.int _) (.cons (lf.tt t8).is .nil)))) ⟨⟨by show 1 ≤ 1 + w1; omega, by show 1 + w1 ≤ 8; omega⟩, ⟨by show 1 ≤ 1 + w2; omega, by show 1 + w2 ≤ 130; omega⟩, by
              show (rs0 ++ [[r9]]).length ≤ 200
              rw [List.length_append]
              exact Nat.le_trans hl6 (by decide), by
              show ((rs0 ++ [[r9]]).map List.length).sum ≤ 600
              rw [List.map_append, List.sum_append]
              show _ + 1 ≤ 600
              omega, fun x hx r hr => by
              rcases List.mem_append.mp hx with hx | hx
              · exact ⟨(ew6 x (List.mem_append_left _ hx) r hr).1, Nat.le_trans (ew6 x (List.mem_append_left _ hx) r hr).2 (by decide)⟩
              · rw [List.mem_singleton.mp hx] at hr
                rw [List.mem_singleton.mp hr]
                exact ⟨ew9, Nat.le_trans rl9 (by decide)⟩, by
              show (rs0 ++ [[r9]]).getLast? ≠ some []
              rw [List.getLast?_concat]
              exact fun h => by cases h⟩
          · obtain ⟨Zf, Hf, ef, tf, lf⟩ := yu.frq
            rw [← ef]
            clear ef
            walk_at "tys"
            rename_i p8 Z8 H8 n8 t8 f8
            have T8 : T [h] Z H Z8 H8 := (((T6.step t0 mm_nil).step tu mm_nil).step tf (fun q hq => .inr (nq6 q hq))).step t8 mm_nil
            have h8 := (((hh6.tt t0 nm_nil).tt tu nm_nil).tt tf (fun z => ne_alF (nq6 h z) hh.at rfl)).tt t8 nm_nil
            exact q (.ref p8) ⟨1 + w1, 1 + w2, rs0 ++ [rl]⟩ Z8 H8 T8 (h8.mono (by omega)) (.tup f8 (.cons (.int _) (.cons (.int _) (.cons (lf.tt t8).is .nil)))) ⟨⟨by show 1 ≤ 1 + w1; omega, by show 1 + w1 ≤ 8; omega⟩, ⟨by show 1 ≤ 1 + w2; omega, by show 1 + w2 ≤ 130; omega⟩, Nat.le_trans hl6 (by decide), Nat.le_trans hs6 (by decide), fun x hx r hr => ⟨(ew6 x hx r hr).1, Nat.le_trans (ew6 x hx r hr).2 (by decide)⟩, by
              show (rs0 ++ [rl]).getLast? ≠ some []
              rw [List.getLast?_concat]
              exact fun h => c1 (Option.some.inj h)⟩
        · obtain ⟨Zf, Hf, ef, tf, lf⟩ := yt.frq
          rw [← ef]
          clear ef
          walk_at "tys"
          rename_i p8 Z8 H8 n8 t8 f8
          have T8 : T [h] Z H Z8 H8 := ((T6.step t0 mm_nil).step tf (fun q hq => .inr (nq6 q hq))).step t8 mm_nil
          have h8 := ((hh6.tt t0 nm_nil).tt tf (fun z => ne_alF (nq6 h z) hh.at rfl)).tt t8 nm_nil
          exact q (.ref p8) ⟨1 + w1, 1 + w2, rs6⟩ Z8 H8 T8 (h8.mono (by omega)) (.tup f8 (.cons (.int _) (.cons (.int _) (.cons (lf.tt t8).is .nil)))) ⟨⟨by show 1 ≤ 1 + w1; omega, by show 1 + w1 ≤ 8; omega⟩, ⟨by show 1 ≤ 1 + w2; omega, by show 1 + w2 ≤ 130; omega⟩, Nat.le_trans hl6 (by decide), Nat.le_trans hs6 (by decide), fun x hx r hr => ⟨(ew6 x hx r hr).1, Nat.le_trans (ew6 x hx r hr).2 (by decide)⟩, by
            show rs6.getLast? ≠ some []
            rw [Classical.not_not.mp e0]
            exact fun h => by cases h⟩
      · obtain ⟨Z6, qs6, rs6, T6, hh6, y6, nq6, ew6, hl6, hs6, z6⟩ : ∃ (Z6 : Hp) (qs6 : List Addr) (rs6 : List (List TR.Row)), T [h] Z H Z6 H5 ∧ Hand K Z6 H5 h (n + 50000) ∧ Y2 Z6 H5 p qs6 rs6 ∧ (∀ q ∈ p :: qs6, H q = none) ∧ (∀ x ∈ rs6, ∀ r ∈ x, (∀ e ∈ r, EntW e) ∧ r.length ≤ 8) ∧ rs6.length ≤ 131 ∧ (rs6.map List.length).sum ≤ 524 ∧ Ex Z6 H5 :=
          ⟨Z5, qs, rs, t5, hh5.mono (by omega), y5, nq, fun x hx => (ew x hx).1, by omega, by
            have h1 := sumL_le (b := 3) (xs := rs) fun x hx => (ew x hx).2
            omega, z5⟩
        clear hh5 t5 y5 nq ew rl z5
        walk_at "tys"
        try (walk_at "tys")
        rename_i p0 Zt Ht n0 t0 mu0 f0
        have yt := y6.tt0 t0
        refine s_neP (α := List (List TR.Row)) (y := []) yt.isH.is (Ik.nil f0).is (by decide) ?_
        walk_at "tys"
        refine i_d (fun ne => ?_) (fun e0 => ?_)
        · have rl6 := yt.len
          obtain ⟨rs0, rl, rfl⟩ := (show ∃ l x, rs6 = l ++ [x] from ⟨_, _, (List.dropLast_concat_getLast ne).symm⟩)
          obtain ⟨qs0, ql, rfl⟩ := (show ∃ l x, qs6 = l ++ [x] from ⟨_, _, (List.dropLast_concat_getLast (fun e => by
            rw [e, List.length_append] at rl6
            exact absurd rl6 (by show ¬ 0 = _ + 1; omega))).symm⟩)
          rw [List.length_append, List.length_append] at rl6
          have ll : qs0.length = rs0.length := Nat.add_right_cancel rl6
          have gq : (qs0 ++ [ql])[qs0.length]? = some ql := List.getElem?_concat_length
          have gr : (rs0 ++ [rl])[qs0.length]? = some rl := by rw [ll]; exact List.getElem?_concat_length
          have ro := yt.at gq
          have sp := sq_of (K := K) yt.own
          rw [List.map_append] at sp
          walk_at "tys"
          refine s_ixL sp (v := .ref ql) (atI_last _ _) ?_
          walk_at "tys"
          rename_i p1 Zu Hu n1 tu muu fu
          have yu := yt.tt0 tu
          obtain ⟨r', hr', vs, h1, h2⟩ := yu.at gq
          rw [gr] at hr'
          cases hr'
          refine s_eqP (α := List TR.Row) (x := rl) (y := []) (Ik.of_list h1 (Paired.mapP h2 fun v x g => Ik.ex yu.zh g)).is (Ik.nil fu).is (by decide) ?_
          walk_at "tys"
          refine i_d (fun c1 => ?_) (fun c1 => ?_)
          · walk_at "tys"
            have su := sq_of (K := K) yu.own
            rw [List.map_append] at su
            refine s_ixL su (v := .ref ql) (atI_last _ _) ?_
            refine s_tyL (sq_of h1) ?_
            walk_at "tys"
            refine ⟨h, n + 1000, Zu, rfl, ((hh6.tt t0 nm_nil).tt tu nm_nil).mono (by omega), fun p9 r9 Z9 H9 n9 t9 hh9 lm9 ew9 rl9 => ?_⟩
            obtain ⟨Zg, Hg, eg, tg, lg⟩ := lm9.frq
            rw [← eg]
            clear eg
            walk_at "tys"
            have n90 : H p9 = none := T6.nn (t0.nn (tu.nn n9))
            have yg := (yu.tt t9 fun q hq => nm_cons (ne_alF (nq6 q hq) hh.at) nm_nil).tt tg fun q hq => nm_cons (fun e => yu.not n9 (e ▸ hq)) nm_nil
            refine yg.push gq gr lg.is (by rw [c1]; decide) fun Zk Hk tk yk => ?_
            rw [show (rs0 ++ [rl]).set qs0.length (rl ++ [r9]) = rs0 ++ [[r9]] by rw [ll, c1]; simp] at yk
            have mql : ql ∈ p :: (qs0 ++ [ql]) := List.mem_cons_of_mem _ (List.mem_append_right _ List.mem_cons_self)
            obtain ⟨Zf, Hf, ef, tf, lf⟩ := yk.frq
            rw [← ef]
            clear ef
            walk_at "tys"
            rename_i p8 Z8 H8 n8 t8 f8
            have T8 : T [h] Z H Z8 H8 := (((((((T6.step t0 mm_nil).step tu mm_nil).step t9 mm_same).step tg (mm_1 (.inr n90))).step tk (mm_1 (.inr (nq6 ql mql)))).step tf (fun q hq => .inr (nq6 q hq)))).step t8 mm_nil
            have h8 := (((hh9.tt tg (nm_cons (ne_alF n90 hh.at).symm nm_nil)).tt tk (nm_cons (ne_alF (nq6 ql mql) hh.at).symm nm_nil)).tt tf (fun z => ne_alF (nq6 h z) hh.at rfl)).tt t8 nm_nil
            rw [List.map_append, List.sum_append] at hs6
            rw [List.length_append] at hl6
            exact q (.ref p8) ⟨1 + w1, 1 + w2, rs0 ++ [[r9]]⟩ Z8 H8 T8 (h8.mono (by omega)) (.tup f8 (.cons (.int _) (.cons (.int _) (.cons (lf.tt t8).is .nil)))) ⟨⟨by show 1 ≤ 1 + w1; omega, by show 1 + w1 ≤ 8; omega⟩, ⟨by show 1 ≤ 1 + w2; omega, by show 1 + w2 ≤ 130; omega⟩, by
              show (rs0 ++ [[r9]]).length ≤ 200
              rw [List.length_append]
              exact Nat.le_trans hl6 (by decide), by
              show ((rs0 ++ [[r9]]).map List.length).sum ≤ 600
              rw [List.map_append, List.sum_append]
              show _ + 1 ≤ 600
              omega, fun x hx r hr => by
              rcases List.mem_append.mp hx with hx | hx
              · exact ⟨(ew6 x (List.mem_append_left _ hx) r hr).1, Nat.le_trans (ew6 x (List.mem_append_left _ hx) r hr).2 (by decide)⟩
              · rw [List.mem_singleton.mp hx] at hr
                rw [List.mem_singleton.mp hr]
                exact ⟨ew9, Nat.le_trans rl9 (by decide)⟩, by
              show (rs0 ++ [[r9]]).getLast? ≠ some []
              rw [List.getLast?_concat]
              exact fun h => by cases h⟩
          · obtain ⟨Zf, Hf, ef, tf, lf⟩ := yu.frq
            rw [← ef]
            clear ef
            walk_at "tys"
            rename_i p8 Z8 H8 n8 t8 f8
            have T8 : T [h] Z H Z8 H8 := (((T6.step t0 mm_nil).step tu mm_nil).step tf (fun q hq => .inr (nq6 q hq))).step t8 mm_nil
            have h8 := (((hh6.tt t0 nm_nil).tt tu nm_nil).tt tf (fun z => ne_alF (nq6 h z) hh.at rfl)).tt t8 nm_nil
            exact q (.ref p8) ⟨1 + w1, 1 + w2, rs0 ++ [rl]⟩ Z8 H8 T8 (h8.mono (by omega)) (.tup f8 (.cons (.int _) (.cons (.int _) (.cons (lf.tt t8).is .nil)))) ⟨⟨by show 1 ≤ 1 + w1; omega, by show 1 + w1 ≤ 8; omega⟩, ⟨by show 1 ≤ 1 + w2; omega, by show 1 + w2 ≤ 130; omega⟩, Nat.le_trans hl6 (by decide), Nat.le_trans hs6 (by decide), fun x hx r hr => ⟨(ew6 x hx r hr).1, Nat.le_trans (ew6 x hx r hr).2 (by decide)⟩, by
              show (rs0 ++ [rl]).getLast? ≠ some []
              rw [List.getLast?_concat]
              exact fun h => c1 (Option.some.inj h)⟩
        · obtain ⟨Zf, Hf, ef, tf, lf⟩ := yt.frq
          rw [← ef]
          clear ef
          walk_at "tys"
          rename_i p8 Z8 H8 n8 t8 f8
          have T8 : T [h] Z H Z8 H8 := ((T6.step t0 mm_nil).step tf (fun q hq => .inr (nq6 q hq))).step t8 mm_nil
          have h8 := ((hh6.tt t0 nm_nil).tt tf (fun z => ne_alF (nq6 h z) hh.at rfl)).tt t8 nm_nil
          exact q (.ref p8) ⟨1 + w1, 1 + w2, rs6⟩ Z8 H8 T8 (h8.mono (by omega)) (.tup f8 (.cons (.int _) (.cons (.int _) (.cons (lf.tt t8).is .nil)))) ⟨⟨by show 1 ≤ 1 + w1; omega, by show 1 + w1 ≤ 8; omega⟩, ⟨by show 1 ≤ 1 + w2; omega, by show 1 + w2 ≤ 130; omega⟩, Nat.le_trans hl6 (by decide), Nat.le_trans hs6 (by decide), fun x hx r hr => ⟨(ew6 x hx r hr).1, Nat.le_trans (ew6 x hx r hr).2 (by decide)⟩, by
            show rs6.getLast? ≠ some []
            rw [Classical.not_not.mp e0]
            exact fun h => by cases h⟩

/-! ### _law_step -/
noncomputable def sp_law_step (K : PySem.W.Frag) : Sp := fun vs H Q _ => ∃ (h : Addr) (n : Nat) (Z : Hp), vs = [.ref h] ∧ Hand K Z H h (n + 1000) ∧
  ∀ v s Z' H', T [h] Z H Z' H' → Hand K Z' H' h n → Ik Z' v s → StpT s → (∀ m, s = .rooms m → 1 ≤ m) → Q v H'
theorem has_law_step (z : Z K mg) (F : FunAt K mg "_law_step" s_law_step ["_law_hand"]) (h_law_draw : Has P w K mg base "_law_draw" 1 (sp_law_draw K)) (h_law_row : Has P w K mg base "_law_row" 4 (sp_law_row K)) : Has P w K mg base "_law_step" 5 (sp_law_step K) := by
  refine has_of F sc_law_step (fun vs H Q E h => ?_) (fun f cdv A outer s H vs Q E hr h => ?_)
  · obtain ⟨_, _, _, rfl, _⟩ := h
    rfl
  · obtain ⟨h, n, Z, rfl, hh, q⟩ := h
    refine ⟨_, (pss_cons (ps_set (i := 1) sc_law_step.nd rfl (by first | exact Or.inl rfl | exact Or.inr rfl) (pe_callH h_law_draw (by decide) hr rfl (pa_cons (pv 0) (pa_cons pe_int pa_nil))))
        (pss_cons (ps_setLc (i := 2) (own := [("_law_k", 4)]) (g := gName 4) (tt := tYes) rfl sc_law_step.nd rfl rfl (sw_true rfl rfl rfl (by decide +kernel)) (pi_range1 (by rfl) z.b_range (pa_cons pe_int pa_nil)) (blkOk_by (own := [("_law_k", 4)]) (N := ["_law_hand", "_law_way", "_law_numbers", "_law_row_here", "_law_k"]) (sc := defScope s_law_step) (by decide +kernel)) (fun _ _ _ _ _ => (pg_name (i := 4) sc_law_step.nd rfl (by first | exact Or.inl rfl | exact Or.inr rfl))) (fun _ _ _ _ _ => pts_nil) (fun _ _ _ _ _ => (pe_callH h_law_draw (by decide) hr rfl (pa_cons (pv 0) (pa_cons (pe_ix (ixA (K := K) rfl) (pe_lst (pa_cons pe_int (pa_cons pe_int pa_nil))) (pe_callH h_law_draw (by decide) hr rfl (pa_cons (pv 0) (pa_cons pe_int pa_nil))) (fun _ _ => rfl)) pa_nil)))))
        (pss_cons (ps_if (pt_cmpR (eqA (K := K) rfl hr.units) (pv 1) pe_int (nomark _)) (pss_cons (ps_set (i := 3) sc_law_step.nd rfl (by first | exact Or.inl rfl | exact Or.inr rfl) (pe_callH h_law_row (by decide) hr rfl (pa_cons (pv 0) pa_nil)))
        (pss_cons (ps_for PassesOwn.never rfl (pi_range1 (by rfl) z.b_range (pa_cons (pe_op op_multA (pe_callH h_law_draw (by decide) hr rfl (pa_cons (pv 0) (pa_cons pe_int pa_nil))) (pe_callTy (T := "int") call_int1A (by rfl) z.b_int (by decide +kernel) (pa_cons (pe_cmpR (eqA (K := K) rfl hr.units) (pe_callH h_law_draw (by decide) hr rfl (pa_cons (pv 0) (pa_cons pe_int pa_nil))) pe_int (nomark _)) pa_nil))) pa_nil)) (pg_name (i := 4) sc_law_step.nd rfl (by first | exact Or.inl rfl | exact Or.inr rfl)) (pss_one (ps_expr (pe_bm PySem.F.plainAttrs_list PySem.F.slot_list_append PySem.F.type_list_append mt_append (pv 3) (pa_cons (pe_tup (pa_cons (pe_callH h_law_draw (by decide) hr rfl (pa_cons (pv 0) (pa_cons (pe_op op_pow pe_int pe_int) pa_nil))) (pa_cons pe_str pa_nil))) pa_nil)))))
        (pss_one (ps_ret (pe_tup (pa_cons pe_str (pa_cons (pe_ix (ixA (K := K) rfl) (pv 2) pe_int (fun _ _ => rfl)) (pa_cons (pe_ix (ixA (K := K) rfl) (pv 2) pe_int (fun _ _ => rfl)) (pa_cons (pv 3) pa_nil))))))))) pss_nil)
        (pss_cons (ps_if (pt_cmpR (eqA (K := K) rfl hr.units) (pv 1) pe_int (nomark _)) (pss_one (ps_ret (pe_tup (pa_cons pe_str (pa_cons (pe_ix (ixA (K := K) rfl) (pv 2) pe_int (fun _ _ => rfl)) (pa_cons (pe_ix (ixA (K := K) rfl) (pv 2) pe_int (fun _ _ => rfl)) pa_nil)))))) pss_nil)
        (pss_one (ps_ret (pe_tup (pa_cons pe_str (pa_cons (pe_callB (id := "max") (call_max2A rfl) (by rfl) z.b_max (by decide +kernel) (pa_cons pe_int (pa_cons (pe_ix (ixA (K := K) rfl) (pv 2) pe_int (fun _ _ => rfl)) pa_nil))) pa_nil))))))))), ?_⟩
    walk_at "cx"
    have z0 := hh.z
    walk_at "tys"
    rename_i way Z1 H1 w0 w1 t1 hh1
    refine c_drawR (β := Int) (fun x => 0 ≤ x ∧ x ≤ 130) (n + 900) 2 hh1 (by decide) (by show n + 900 + 2 * 2 ≤ _; omega) (fun i hi Z2 H2 R' t2 hh2 A hA => ?_) (fun N l Z2 H2 nN t2 hh2 lsN ll lP => ?_)
    · have z2 := t2.zh
      walk_at "tys"
      rename_i p3 Z3 H3 n3 t3 f3 r4 Z4 H4 r40 r41 t4 hh4 many hm r5 Z5 H5 r50 r51 t5 hh5
      have t25 : T [h] Z2 H2 Z5 H5 := (((T.refl z2 : T [h] Z2 H2 Z2 H2).step t3 mm_nil).step t4 mm_same).step t5 mm_same
      exact hA r5 _ Z5 H5 t25 (hh5.mono (by omega)) (Ik.int _) ⟨r50, by omega⟩
    obtain ⟨a, b, rfl⟩ : ∃ a b, l = [a, b] := by
      match l, ll with
      | [a, b], _ => exact ⟨a, b, rfl⟩
    obtain ⟨a0, a1⟩ := lP a List.mem_cons_self
    obtain ⟨b0, b1⟩ := lP b (List.mem_cons_of_mem _ List.mem_cons_self)
    have T2 : T [h] Z H Z2 H2 := t1.step t2 mm_same
    have z2 := T2.zh
    clear t1 t2 hh1
    walk_at "tys"
    refine i_d (fun c0 => ?_) (fun c0 => ?_)
    · walk_at "tys"
      refine ⟨h, n + 600, Z2, rfl, hh2.mono (by omega), fun p r Z3 H3 n3 t3 hh3 lm3 ew rl => ?_⟩
      have z3 := t3.zh
      have lsN3 := lsN.tt t3
      walk_at "tys"
      rename_i m Z4 H4 m0 m1 t4 hh4 s Z5 H5 s0 s1 t5 hh5
      generalize hk : (m * if decide (s = 7) = true then (1 : Int) else 0) = k
      have hk2 : 0 ≤ k ∧ k ≤ 112 := by
        rw [← hk]
        split <;> omega
      clear hk
      have nph : p ≠ h := ne_alF n3 hh2.at
      have T5 : T [h] Z2 H2 Z5 H5 := (t3.step t4 mm_same).step t5 mm_same
      have lm5 : Lm Z5 H5 p r := (lm3.tt t4 (nm_cons nph nm_nil)).tt t5 (nm_cons nph nm_nil)
      clear t3 t4 t5 lm3 hh3 hh4 lsN3 z3
      refine u_forR1 (fun i σ H' => ∃ x1 Z', ∃ rs : TR.Row, σ = [some (.ref h), some (.int way), some (.ref N), some (.ref p), x1] ∧ T [h] Z2 H2 Z' H' ∧ Hand K Z' H' h (n + 2 * (112 - i)) ∧ Lm Z' H' p rs ∧ (∀ e ∈ rs, EntW e) ∧ rs.length ≤ 8 + i) (by omega) ⟨_, Z5, _, rfl, T5, hh5.mono (by omega), lm5, ew, by omega⟩ (fun i σ H6 hi hq => ?_) (fun σ H6 hq => ?_)
      · obtain ⟨x1, Z6, rs, rfl, t6, hh6, lm6, ew6, rl6⟩ := hq
        have z6 := t6.zh
        have e22 : n + 2 * (112 - i) = n + 2 * (112 - (i + 1)) + 2 := by omega
        rw [e22] at hh6
        walk_at "tys"
        rename_i d Z7 H7 d0 d1 t7 hh7 p8 Z8 H8 n8 t8 f8
        have lm8 := (lm6.tt t7 (nm_cons nph nm_nil)).tt t8 nm_nil
        refine t_app (x := ((d, ⟨"b", by decide +kernel⟩) : Ent)) lm8 (.tup f8 (.cons (.int _) (.cons (.str _) .nil))) (by omega) fun Z9 H9 t9 lm9 => ?_
        refine ⟨_, Z9, _, rfl, ((t6.step t7 mm_same).step t8 mm_nil).step t9 (mm_1 (.inr n3)), (((hh7.tt t8 nm_nil).tt t9 (nm_cons nph.symm nm_nil)).mono (by omega)), lm9, fun e he => ?_, by rw [List.length_append]; show rs.length + 1 ≤ _; omega⟩
        rcases List.mem_append.mp he with he | he
        · exact ew6 e he
        · rw [List.mem_singleton.mp he]
          exact ⟨d0, by show d < 1152921504606846976; omega, by show nameB (Str.ofString "b") = true; decide +kernel⟩
      · obtain ⟨x1, Z6, rs, rfl, t6, hh6, lm6, ew6, rl6⟩ := hq
        obtain ⟨Z7, H7, e7, t7, ls7⟩ := lm6.frq
        rw [← e7]
        clear e7
        have h7 := hh6.tt t7 (nm_cons nph.symm nm_nil)
        have T7 := t6.step t7 (mm_1 (.inr n3))
        have lsN7 := lsN.tt T7
        have sN := sq_of (K := K) (T7.zh _ _ lsN7.ints)
        walk_at "tys"
        rename_i p8 Z8 H8 n8 t8 f8
        exact q (.ref p8) (.row a b rs) Z8 H8 ((T2.step T7 mm_same).step t8 mm_nil) ((h7.tt t8 nm_nil).mono (by omega)) (Ik.stp_row f8 (ls7.tt t8).is) ⟨a0, a1, b0, b1, ew6, by omega⟩ fun m e => by cases e
    · walk_at "tys"
      refine i_d (fun c1 => ?_) (fun c1 => ?_)
      · walk_at "tys"
        have sN := sq_of (K := K) (z2 _ _ lsN.ints)
        refine s_ixL sN (v := .int a) (by rfl) ?_
        walk_at "tys"
        rename_i p8 Z8 H8 n8 t8 f8
        exact q (.ref p8) (.cut a b) Z8 H8 (T2.step t8 mm_nil) ((hh2.tt t8 nm_nil).mono (by omega)) (Ik.stp_cut f8) ⟨a0, a1, b0, b1⟩ fun m e => by cases e
      · walk_at "tys"
        have sN := sq_of (K := K) (z2 _ _ lsN.ints)
        refine s_ixL sN (v := .int a) (by rfl) ?_
        walk_at "tys"
        rename_i p8 Z8 H8 n8 t8 f8
        refine q (.ref p8) (.rooms (max 1 a)) Z8 H8 (T2.step t8 mm_nil) ((hh2.tt t8 nm_nil).mono (by omega)) (Ik.stp_rooms f8) ⟨by omega, by omega⟩ fun m e => ?_
        cases e
        omega

/-! ### _law_open -/
noncomputable abbrev sp_law_open (K : PySem.W.Frag) : Sp := spOpen K
theorem has_law_open (z : Z K mg) (F : FunAt K mg "_law_open" s_law_open ["_law_script", "_law_place"])  : Has P w K mg base "_law_open" 1 (sp_law_open K) := by
  refine has_of F sc_law_open (fun vs H Q E h => ?_) (fun f cdv A outer s H vs Q E hr h => ?_)
  · obtain ⟨a, ns, x, rfl, _⟩ := h
    rfl
  · obtain ⟨a, ns, x, rfl, hS, h0, h1, q⟩ := h
    refine ⟨_, (pss_cons (ps_setLc (i := 2) (own := [("_law_cell", 5)]) (g := gName 5) (tt := tYes) rfl sc_law_open.nd rfl rfl (sw_true rfl rfl rfl (by decide +kernel)) (piL (K := K) rfl (pe_slice (slA (K := K) rfl) (pv 0) po_none (po_some pe_int))) (blkOk_by (own := [("_law_cell", 5)]) (N := ["_law_script", "_law_place", "_law_cells", "_law_at", "_law_digits", "_law_cell"]) (sc := defScope s_law_open) (by decide +kernel)) (fun _ _ _ _ _ => (pg_name (i := 5) sc_law_open.nd rfl (by first | exact Or.inl rfl | exact Or.inr rfl))) (fun _ _ _ _ _ => pts_nil) (fun _ _ _ _ _ => (pe_callB (id := "abs") call_absA (by rfl) z.b_abs (by decide +kernel) (pa_cons (pv 5) pa_nil))))
        (Evl.pss_cut (ps_if (pt_cmpR (eqA (K := K) rfl hr.units) (pv 2) (pe_lst pa_nil) (nomark _)) (pss_one (ps_set (i := 2) sc_law_open.nd rfl (by first | exact Or.inl rfl | exact Or.inr rfl) (pe_lst (pa_cons pe_int pa_nil)))) pss_nil)
        (pss_cons (ps_set (i := 3) sc_law_open.nd rfl (by first | exact Or.inl rfl | exact Or.inr rfl) (pe_op op_mod (pv 1) (pe_callB (id := "len") (lenA (K := K) rfl) (by rfl) z.b_len (by decide +kernel) (pa_cons (pv 2) pa_nil))))
        (pss_cons (ps_set (i := 4) sc_law_open.nd rfl (by first | exact Or.inl rfl | exact Or.inr rfl) pe_int)
        (Evl.pss_cut (ps_if (PW.pt (pw_and (pt_cmpR op_ge (pe_ix (ixA (K := K) rfl) (pv 2) (pv 3) (fun _ _ => rfl)) (pe_op op_pow pe_int pe_int) (nomark _)) (pw_and1 (pt_cmpR op_lt (pv 1) (pe_callB (id := "len") (lenA (K := K) rfl) (by rfl) z.b_len (by decide +kernel) (pa_cons (pv 2) pa_nil)) (nomark _))))) (pss_one (ps_set (i := 4) sc_law_open.nd rfl (by first | exact Or.inl rfl | exact Or.inr rfl) (pe_ix (ixA (K := K) rfl) (pv 2) (pv 3) (fun _ _ => rfl)))) pss_nil)
        (pss_one (ps_ret (pe_lst (pa_cons (pv 4) (pa_cons (pe_op op_plusA pe_int (pe_op op_multA pe_int (pv 1))) (pa_cons (pe_op op_plusA (pe_slice (slA (K := K) rfl) (pv 2) (po_some (pv 3)) po_none) (pe_slice (slA (K := K) rfl) (pv 2) po_none (po_some (pv 3)))) pa_nil))))))))))), ?_⟩
    walk_at "cx"
    walk_at "ss"
    rename_i p1 H1 n1 e1 f1
    obtain ⟨cs, hc, hl⟩ : ∃ cs : List Int, cutV (ns.map V.int) none (some 63) = cs.map V.int ∧ cs.length ≤ 63 := ⟨cutI ns none (some 63), cutV_ints _ _ _, by
      rw [cutI_to _ (by decide), List.length_take]
      exact Nat.min_le_left _ _⟩
    rw [hc] at f1
    refine u_mapL V.int cs (fun i => V.int (if i < 0 then -i else i)) (sq_of f1) (by omega) (fun i hi H2 e2 A ha => ?_) (fun D H2 n2 e2 f2 => ?_)
    · walk_at "ss"
      exact ha _ (Ex.refl _)
    · obtain ⟨xs, hx, hxl⟩ : ∃ xs : List Int, cs.map (fun i => V.int (if i < 0 then -i else i)) = xs.map V.int ∧ xs.length ≤ 63 := ⟨cs.map fun i => if i < 0 then -i else i, by rw [List.map_map]; rfl, by rw [List.length_map]; exact hl⟩
      rw [hx] at f2
      walk_at "ss"
      refine s_cut (fun σ' H' => ∃ (D : Addr) (ys : List Int), σ' = [some (.ref a), some (.int x), some (.ref D), none, none, none] ∧ Ex H H' ∧ H' D = some (.lst (ys.map V.int)) ∧ 0 < ys.length ∧ ys.length ≤ 63) ?_ ?_
      · walk_at "ss"
        refine i_d (fun hd => ?_) (fun hd => ?_)
        · walk_at "ss"
          rename_i G n3 e3 f3
          exact ⟨_, [0], rfl, by walk_at "ex", f3, by decide, by decide⟩
        · walk_at "ss"
          exact ⟨_, xs, rfl, by walk_at "ex", by walk_at "hp", List.length_pos_iff.mpr hd, hxl⟩
      · rintro σ' H3 ⟨D2, ys, rfl, e3, f3, hy, hy2⟩
        walk_at "ss"
        rename_i b1 b2
        refine s_cut (fun σ' H' => ∃ (d : Int), σ' = [some (.ref a), some (.int x), some (.ref D2), some (.int (x % ys.length)), some (.int d), none] ∧ H' = H3) ?_ ?_
        · walk_at "ss"
          refine i_d (fun hd => ?_) (fun hd => ?_)
          · walk_at "ss"
            refine i_d (fun hd => ?_) (fun hd => ?_)
            · walk_at "ss"
              exact ⟨_, rfl, rfl⟩
            · walk_at "ss"
              exact ⟨_, rfl, rfl⟩
          · walk_at "ss"
            exact ⟨_, rfl, rfl⟩
        · rintro σ' H4 ⟨d, rfl, rfl⟩
          walk_at "ss"
          rename_i p2 G2 n4 e4 f4 p3 G3 n5 e5 f5
          rw [cutV_ints, cutI_from _ b1] at f4
          rw [cutV_ints, cutI_to _ b1] at f5
          refine n_cat (by walk_at "hp") f5 ?_ fun p4 G4 n6 e6 f6 => ?_
          · rw [List.length_map, List.length_map, List.length_drop, List.length_take]
            omega
          · walk_at "ss"
            rename_i p5 G5 n7 e7 f7
            rw [← List.map_append] at f6
            have n0 : H p5 = none := Ex.back (by walk_at "ex") n7
            have n4' : H p4 = none := Ex.back (by walk_at "ex") n6
            exact q p5 p4 d _ G5 n0 n4' (fun z => by rw [z, f6] at n7; cases n7) (by walk_at "ex") f7 (e7 _ _ f6) (by rw [List.length_append, List.length_drop, List.length_take]; omega)

/-! ### law -/
noncomputable def sp_law (K : PySem.W.Frag) : Sp := fun vs H Q _ => ∃ (a : Addr) (ns : List Int), vs = [.ref a] ∧ SqL K H a (ns.map V.int) ∧ ns.length ≤ 63 ∧ ∀ H', Q (.bl true) H'
theorem ok_law {f : Addr} {fd : FuncData} (z : Z K mg) (F : Fun K "law" "law" s_law f fd) (h_law_right : Has P w K mg base "_law_right" 9 (sp_law_right K)) (h_law_yard_text : Has P w K mg base "_law_yard_text" 3 (sp_law_yard_text K)) (h_law_step_text : Has P w K mg base "_law_step_text" 2 (sp_law_step_text K)) (h_law_rows_text : Has P w K mg base "_law_rows_text" 2 (sp_law_rows_text K)) (h_law_rows : Has P w K mg base "_law_rows" 5 (sp_law_rows K)) (h_law_yard : Has P w K mg base "_law_yard" 6 (sp_law_yard K)) (h_law_step : Has P w K mg base "_law_step" 5 (sp_law_step K)) (h_law_draw : Has P w K mg base "_law_draw" 1 (sp_law_draw K)) (h_law_open : Has P w K mg base "_law_open" 1 (sp_law_open K)) : FnOk P w K mg base CX0 10 f fd ["_law_script"] (sp_law K) := by
  refine fnok_of F sc_law (fun vs H Q E h => ?_) (fun cdv A outer s H vs Q E hr h => ?_)
  · obtain ⟨a, ns, rfl, _⟩ := h
    rfl
  · obtain ⟨a, ns, rfl, hS, hl, q⟩ := h
    refine ⟨_, (pss_cons (ps_for PassesOwn.never rfl (pi_range1 (by rfl) z.b_range (pa_cons pe_int pa_nil)) (pg_name (i := 1) sc_law.nd rfl (by first | exact Or.inl rfl | exact Or.inr rfl)) (pss_cons (ps_set (i := 2) sc_law.nd rfl (by first | exact Or.inl rfl | exact Or.inr rfl) (pe_callH h_law_open (by decide) hr rfl (pa_cons (pv 0) (pa_cons (pv 1) pa_nil))))
        (pss_cons (ps_set (i := 3) sc_law.nd rfl (by first | exact Or.inl rfl | exact Or.inr rfl) (pe_ix (ixA (K := K) rfl) (pe_lst (pa_cons pe_int (pa_cons pe_int pa_nil))) (pe_callTy (T := "int") call_int1A (by rfl) z.b_int (by decide +kernel) (pa_cons (pe_cmpR (eqA (K := K) rfl hr.units) (pe_callH h_law_draw (by decide) hr rfl (pa_cons (pv 2) (pa_cons pe_int pa_nil))) pe_int (nomark _)) pa_nil)) (fun _ _ => rfl)))
        (pss_cons (ps_par (i := 4) (j := 5) rfl sc_law.nd rfl rfl (by decide) rfl rfl (pa_cons (pe_callH h_law_step (by decide) hr rfl (pa_cons (pv 2) pa_nil)) (pa_cons (pe_callH h_law_yard (by decide) hr rfl (pa_cons (pv 2) pa_nil)) pa_nil)) rfl)
        (pss_cons (ps_set (i := 6) sc_law.nd rfl (by first | exact Or.inl rfl | exact Or.inr rfl) (pe_callH h_law_rows (by decide) hr rfl (pa_cons (pv 2) (pa_cons (pv 3) pa_nil))))
        (pss_cons (ps_if (PW.pt (pw_or (pt_not (pt_val (pe_callH h_law_right (by decide) hr rfl (pa_cons pe_int (pa_cons (pv 6) (pa_cons (pe_callH h_law_rows_text (by decide) hr rfl (pa_cons (pv 6) pa_nil)) pa_nil)))))) (pw_or1 (pt_not (pt_val (pe_callH h_law_right (by decide) hr rfl (pa_cons pe_int (pa_cons (pv 4) (pa_cons (pe_callH h_law_step_text (by decide) hr rfl (pa_cons (pv 4) pa_nil)) pa_nil))))))))) (pss_one (ps_ret pe_bl)) pss_nil)
        (pss_one (ps_if (pt_not (pt_val (pe_callH h_law_right (by decide) hr rfl (pa_cons pe_int (pa_cons (pv 5) (pa_cons (pe_callH h_law_yard_text (by decide) hr rfl (pa_cons (pv 5) pa_nil)) pa_nil)))))) (pss_one (ps_ret pe_bl)) pss_nil))))))))
        (pss_one (ps_ret (pe_and (pe_callH h_law_right (by decide) hr rfl (pa_cons pe_int (pa_cons (pe_lst pa_nil) (pa_cons pe_str pa_nil)))) (pe_and (pe_callH h_law_right (by decide) hr rfl (pa_cons pe_int (pa_cons (pe_lst (pa_cons (pe_lst pa_nil) pa_nil)) (pa_cons pe_str pa_nil)))) (pe_one (pe_callH h_law_right (by decide) hr rfl (pa_cons pe_int (pa_cons (pe_tup (pa_cons pe_int (pa_cons pe_int (pa_cons (pe_lst pa_nil) pa_nil)))) (pa_cons pe_str pa_nil)))))))))), ?_⟩
    walk_at "cx"
    have z0 : Ex H H := Ex.refl _
    walk_at "tys"
    refine u_forR1 (fun i σ H' => ∃ x1 x2 x3 x4 x5 x6 Z', σ = [some (.ref a), x1, x2, x3, x4, x5, x6] ∧ T [] H H Z' H') (by omega) ⟨_, _, _, _, _, _, H, rfl, T.refl z0⟩ (fun i σ H1 hi hh => ?_) (fun σ H1 hh => ?_)
    · obtain ⟨x1, x2, x3, x4, x5, x6, Z1, rfl, t1⟩ := hh
      walk_at "tys"
      rename_i h Z2 H2 nh t2 hd2 p3 Z3 H3 n3 t3 f3 r4 Z4 H4 r40 r41 t4 hd4 most hm
      have t14 : T [h] Z1 H1 Z4 H4 := (((T.refl t1.zh : T [h] Z1 H1 Z1 H1).step t2 mm_nil).step t3 mm_nil).step t4 mm_same
      have hd4' : Hand K Z4 H4 h ((50000 + 5500000) + 1000) := hd4.mono (by omega)
      clear t2 t3 t4 hd2 hd4 f3
      refine s_par2 ?_
      walk_at "tys"
      refine ⟨h, 50000 + 5500000, Z4, rfl, hd4', fun vs s Z5 H5 t5 hd5 is ws ms => ?_⟩
      have t15 := t14.step t5 mm_same
      clear t14 t5 hd4'
      walk_at "tys"
      refine ⟨h, 50000, Z5, rfl, hd5, fun vy y Z6 H6 t6 hd6 iy wy => ?_⟩
      have t16 := t15.step t6 mm_same
      have is6 := Ik.tt t6 is
      clear t15 t6 hd5 is
      walk_at "tys"
      refine ⟨h, most, 10000, Z6, rfl, by omega, by omega, hd6, fun pr rs Z7 H7 n7 t7 hd7 lm7 ew rl => ?_⟩
      have t17 := t16.step t7 mm_same
      have is7 := Ik.tt t7 is6
      have iy7 := Ik.tt t7 iy
      have n17 : H1 pr = none := t16.nn n7
      clear t16 t7 hd6 is6 iy
      obtain ⟨Z8, H8, e8, t8, ls8⟩ := lm7.frq
      rw [← e8]
      clear e8
      have t18 : T [h] Z1 H1 Z8 H8 := t17.step t8 (mm_1 (.inr n17))
      have is8 := Ik.tt t8 is7
      have iy8 := Ik.tt t8 iy7
      clear t17 t8 is7 iy7 lm7 hd7
      have z8 := t18.zh
      have rw8 : ∀ r ∈ rs, (∀ e ∈ r, EntW e) ∧ r.length ≤ 150 := fun r hr => ⟨(ew r hr).1, Nat.le_trans (ew r hr).2 (by decide)⟩
      walk_at "tys"
      refine ⟨.ref pr, rs, Z8, rfl, z8, ls8.is, rw8, by omega, fun Z9 H9 t9 => ?_⟩
      have z9 := t9.zh
      walk_at "tys"
      refine ⟨0, .ref pr, rowsS rs, Py.d rs, Z9, rfl, z9, (ls8.tt t9).is, .inl ⟨rfl, rs, rfl, rfl, rw8, by omega⟩, fun Za Ha ta => ?_⟩
      have t8a := t9.step ta mm_nil
      clear t9 ta z9
      have za := t8a.zh
      walk_at "tys"
      refine ⟨vs, s, Za, rfl, za, Ik.tt t8a is8, ws, fun Zb Hb tb => ?_⟩
      have t8b := t8a.step tb mm_nil
      clear t8a tb za
      have zb := t8b.zh
      walk_at "tys"
      refine ⟨1, vs, stepS s, Py.d s, Zb, rfl, zb, Ik.tt t8b is8, .inr (.inl ⟨rfl, s, rfl, rfl, ws, ms⟩), fun Zc Hc tc => ?_⟩
      have t8c := t8b.step tc mm_nil
      clear t8b tc zb
      have zc := t8c.zh
      walk_at "tys"
      refine ⟨vy, y, Zc, rfl, zc, Ik.tt t8c iy8, wy, fun Zd Hd td => ?_⟩
      have t8d := t8c.step td mm_nil
      clear t8c td zc
      have zd := t8d.zh
      walk_at "tys"
      refine ⟨2, vy, yardS y, Py.d y, Zd, rfl, zd, Ik.tt t8d iy8, .inr (.inr ⟨rfl, y, rfl, rfl, wy⟩), fun Ze He te => ?_⟩
      have t8e := t8d.step te mm_nil
      clear t8d te zd
      walk_at "tys"
      exact ⟨_, _, _, _, _, _, Ze, rfl, t1.step (t18.step t8e mm_nil) (mm_1 (.inr (t1.nn nh)))⟩
    · obtain ⟨x1, x2, x3, x4, x5, x6, Z1, rfl, t1⟩ := hh
      walk_at "tys"
      rename_i p2 Z2 H2 n2 t2 m2 f2
      obtain ⟨Z3, H3, e3, t3, ls3⟩ := (Lm.of0 (α := TR.Row) m2 t2.zh f2).frq
      rw [← e3]
      clear e3
      refine ⟨0, .ref p2, "none", Py.d ([] : List TR.Row), Z3, rfl, t3.zh, ls3.is, .inl ⟨rfl, [], rfl, rfl, fun _ h => absurd h List.not_mem_nil, Nat.zero_le _⟩, fun Z4 H4 t4 => ?_⟩
      have z4 := t4.zh
      clear t1 t2 t3 m2 f2 ls3 z0
      walk_at "tys"
      rename_i p5 Z5 H5 n5 t5 m5 f5 p6 Z6 H6 n6 t6 f6
      have n56 : p5 ≠ p6 := ne_alB n6 m5.a
      obtain ⟨Z7, H7, e7, t7, ls7⟩ := ((Lm.of0 (α := Ent) m5 t5.zh f5).tt t6 nm_nil).frq
      rw [← e7]
      clear e7
      refine ⟨0, .ref p6, "-", Py.d ([[]] : List TR.Row), Z7, rfl, t7.zh, Ik.l1 (t7.z _ _ f6) ls7.is, .inl ⟨rfl, [[]], rfl, rfl, fun r hr => by rw [List.mem_singleton.mp hr]; exact ⟨fun _ h => absurd h List.not_mem_nil, Nat.zero_le _⟩, by decide⟩, fun Z8 H8 t8 => ?_⟩
      have z8 := t8.zh
      clear t4 t5 t6 t7 m5 f5 f6 ls7 z4 n56
      walk_at "tys"
      rename_i p9 Z9 H9 n9 t9 m9 f9 pa Za Ha na ta fa
      obtain ⟨Zb, Hb, eb, tb, lsb⟩ := ((Lm.of0 (α := List TR.Row) m9 t9.zh f9).tt ta nm_nil).frq
      rw [← eb]
      clear eb
      refine ⟨2, .ref pa, "8 130", Py.d (T3.mk (8 : Int) (130 : Int) ([] : List (List TR.Row))), Zb, rfl, tb.zh, Ik.three (tb.z _ _ fa) (Ik.int _) (Ik.int _) lsb.is, .inr (.inr ⟨rfl, T3.mk 8 130 [], rfl, rfl, ⟨⟨by decide, by decide⟩, ⟨by decide, by decide⟩, Nat.zero_le _, Nat.zero_le _, fun _ h => absurd h List.not_mem_nil, fun h => by cases h⟩⟩), fun Zc Hc tc => ?_⟩
      exact q Hc

end

end Lw
open PySem PySem.W PyProof.Rows
set_option maxHeartbeats 0 in

theorem PySem.Challenge.cw_tailrooms_k91_written_and_read_holds : PySem.Challenge.rw_tailrooms_k91_written_and_read.Holds := by

  w_on; o_law; k_head; (case hw => w_witness2)
  k_fill

  refine L2.walk_of (l := PySem.Challenge.rw_tailrooms_k91_written_and_read) (n := 63) (k := 10) (x := "_law_script") (CX := fun _ => L2.CX0) (sp := fun w => Lw.sp_law _) rfl (by decide) rfl ⟨rfl, by decide, by decide⟩ (fun w h Y => PySem.W.kIn_of Y) ?F (fun _ _ a ns hl _ hS => ⟨a, ns, rfl, hS, hl, fun _ => rfl⟩) (fun _ _ _ _ _ h => h)

  case F =>
    intro w mg fa h KX G hmg

    have zz : Lw.Z (L2.KOf KX) mg := by
      refine' ⟨PySem.W.mg_none_of KX G ?z0, PySem.W.mg_none_of KX G ?z1, PySem.W.mg_none_of KX G ?z2, PySem.W.mg_none_of KX G ?z3, PySem.W.mg_none_of KX G ?z4, PySem.W.mg_none_of KX G ?z5, PySem.W.mg_none_of KX G ?z6, PySem.W.mg_none_of KX G ?z7, PySem.W.mg_none_of KX G ?z8, PySem.W.mg_none_of KX G ?z9, PySem.W.mg_none_of KX G ?z10, PySem.W.mg_none_of KX G ?z11, TR.constI_mk KX G ?y0, TR.constS_mk KX G ?y1, TR.constI_mk KX G ?y2, TR.constI_mk KX G ?y3, TR.constS_mk KX G ?y4, TR.constI_mk KX G ?y5, TR.constS_mk KX G ?y6, TR.constS_mk KX G ?y7, TR.constI_mk KX G ?y8⟩
      (case z0 => k_is)
      (case z1 => k_is)
      (case z2 => k_is)
      (case z3 => k_is)
      (case z4 => k_is)
      (case z5 => k_is)
      (case z6 => k_is)
      (case z7 => k_is)
      (case z8 => k_is)
      (case z9 => k_is)
      (case z10 => k_is)
      (case z11 => k_is)
      (case y0 => k_is)
      (case y1 => k_is)
      (case y2 => k_is)
      (case y3 => k_is)
      (case y4 => k_is)
      (case y5 => k_is)
      (case y6 => k_is)
      (case y7 => k_is)
      (case y8 => k_is)

    have F0 : TR.FunAt (L2.KOf KX) mg "_law_spoil" Lw.s_law_spoil ["_law_told"] := by
      refine' TR.funAt_mk KX G (x := "_law_spoil") (st := Lw.s_law_spoil) (ps := ["_law_told"]) ?a ?l ?c ?k (fun _ _ _ _ _ _ us hl => match us, hl with | [_], _ => rfl)
      (case a => k_is); (case l => k_is); (case c => k_is); (case k => k_is)

    have F1 : TR.FunAt (L2.KOf KX) mg "_law_same" Lw.s_law_same ["_law_told", "_law_due"] := by
      refine' TR.funAt_mk KX G (x := "_law_same") (st := Lw.s_law_same) (ps := ["_law_told", "_law_due"]) ?a ?l ?c ?k (fun _ _ _ _ _ _ us hl => match us, hl with | [_, _], _ => rfl)
      (case a => k_is); (case l => k_is); (case c => k_is); (case k => k_is)

    have F2 : TR.FunAt (L2.KOf KX) mg "is_whole" Lw.s_is_whole ["thing"] := by
      refine' TR.funAt_mk KX G (x := "is_whole") (st := Lw.s_is_whole) (ps := ["thing"]) ?a ?l ?c ?k (fun _ _ _ _ _ _ us hl => match us, hl with | [_], _ => rfl)
      (case a => k_is); (case l => k_is); (case c => k_is); (case k => k_is)

    have F3 : TR.FunAt (L2.KOf KX) mg "is_size" Lw.s_is_size ["thing"] := by
      refine' TR.funAt_mk KX G (x := "is_size") (st := Lw.s_is_size) (ps := ["thing"]) ?a ?l ?c ?k (fun _ _ _ _ _ _ us hl => match us, hl with | [_], _ => rfl)
      (case a => k_is); (case l => k_is); (case c => k_is); (case k => k_is)

    have F4 : TR.FunAt (L2.KOf KX) mg "is_name" Lw.s_is_name ["thing"] := by
      refine' TR.funAt_mk KX G (x := "is_name") (st := Lw.s_is_name) (ps := ["thing"]) ?a ?l ?c ?k (fun _ _ _ _ _ _ us hl => match us, hl with | [_], _ => rfl)
      (case a => k_is); (case l => k_is); (case c => k_is); (case k => k_is)

    have F5 : TR.FunAt (L2.KOf KX) mg "is_key" Lw.s_is_key ["thing"] := by
      refine' TR.funAt_mk KX G (x := "is_key") (st := Lw.s_is_key) (ps := ["thing"]) ?a ?l ?c ?k (fun _ _ _ _ _ _ us hl => match us, hl with | [_], _ => rfl)
      (case a => k_is); (case l => k_is); (case c => k_is); (case k => k_is)

    have F6 : TR.FunAt (L2.KOf KX) mg "read_number" Lw.s_read_number ["text"] := by
      refine' TR.funAt_mk KX G (x := "read_number") (st := Lw.s_read_number) (ps := ["text"]) ?a ?l ?c ?k (fun _ _ _ _ _ _ us hl => match us, hl with | [_], _ => rfl)
      (case a => k_is); (case l => k_is); (case c => k_is); (case k => k_is)

    have F7 : TR.FunAt (L2.KOf KX) mg "read_entry" Lw.s_read_entry ["text"] := by
      refine' TR.funAt_mk KX G (x := "read_entry") (st := Lw.s_read_entry) (ps := ["text"]) ?a ?l ?c ?k (fun _ _ _ _ _ _ us hl => match us, hl with | [_], _ => rfl)
      (case a => k_is); (case l => k_is); (case c => k_is); (case k => k_is)

    have F8 : TR.FunAt (L2.KOf KX) mg "read_row" Lw.s_read_row ["text"] := by
      refine' TR.funAt_mk KX G (x := "read_row") (st := Lw.s_read_row) (ps := ["text"]) ?a ?l ?c ?k (fun _ _ _ _ _ _ us hl => match us, hl with | [_], _ => rfl)
      (case a => k_is); (case l => k_is); (case c => k_is); (case k => k_is)

    have F9 : TR.FunAt (L2.KOf KX) mg "read_rows" Lw.s_read_rows ["text"] := by
      refine' TR.funAt_mk KX G (x := "read_rows") (st := Lw.s_read_rows) (ps := ["text"]) ?a ?l ?c ?k (fun _ _ _ _ _ _ us hl => match us, hl with | [_], _ => rfl)
      (case a => k_is); (case l => k_is); (case c => k_is); (case k => k_is)

    have F10 : TR.FunAt (L2.KOf KX) mg "read_few" Lw.s_read_few ["text", "least"] := by
      refine' TR.funAt_mk KX G (x := "read_few") (st := Lw.s_read_few) (ps := ["text", "least"]) ?a ?l ?c ?k (fun _ _ _ _ _ _ us hl => match us, hl with | [_, _], _ => rfl)
      (case a => k_is); (case l => k_is); (case c => k_is); (case k => k_is)

    have F11 : TR.FunAt (L2.KOf KX) mg "read_yard" Lw.s_read_yard ["text"] := by
      refine' TR.funAt_mk KX G (x := "read_yard") (st := Lw.s_read_yard) (ps := ["text"]) ?a ?l ?c ?k (fun _ _ _ _ _ _ us hl => match us, hl with | [_], _ => rfl)
      (case a => k_is); (case l => k_is); (case c => k_is); (case k => k_is)

    have F12 : TR.FunAt (L2.KOf KX) mg "show_row" Lw.s_show_row ["row"] := by
      refine' TR.funAt_mk KX G (x := "show_row") (st := Lw.s_show_row) (ps := ["row"]) ?a ?l ?c ?k (fun _ _ _ _ _ _ us hl => match us, hl with | [_], _ => rfl)
      (case a => k_is); (case l => k_is); (case c => k_is); (case k => k_is)

    have F13 : TR.FunAt (L2.KOf KX) mg "show_rows" Lw.s_show_rows ["rows"] := by
      refine' TR.funAt_mk KX G (x := "show_rows") (st := Lw.s_show_rows) (ps := ["rows"]) ?a ?l ?c ?k (fun _ _ _ _ _ _ us hl => match us, hl with | [_], _ => rfl)
      (case a => k_is); (case l => k_is); (case c => k_is); (case k => k_is)

    have F14 : TR.FunAt (L2.KOf KX) mg "show_yard" Lw.s_show_yard ["yard"] := by
      refine' TR.funAt_mk KX G (x := "show_yard") (st := Lw.s_show_yard) (ps := ["yard"]) ?a ?l ?c ?k (fun _ _ _ _ _ _ us hl => match us, hl with | [_], _ => rfl)
      (case a => k_is); (case l => k_is); (case c => k_is); (case k => k_is)

    have F15 : TR.FunAt (L2.KOf KX) mg "read_step" Lw.s_read_step ["text"] := by
      refine' TR.funAt_mk KX G (x := "read_step") (st := Lw.s_read_step) (ps := ["text"]) ?a ?l ?c ?k (fun _ _ _ _ _ _ us hl => match us, hl with | [_], _ => rfl)
      (case a => k_is); (case l => k_is); (case c => k_is); (case k => k_is)

    have F16 : TR.FunAt (L2.KOf KX) mg "show_step" Lw.s_show_step ["step"] := by
      refine' TR.funAt_mk KX G (x := "show_step") (st := Lw.s_show_step) (ps := ["step"]) ?a ?l ?c ?k (fun _ _ _ _ _ _ us hl => match us, hl with | [_], _ => rfl)
      (case a => k_is); (case l => k_is); (case c => k_is); (case k => k_is)

    have F17 : TR.FunAt (L2.KOf KX) mg "_law_asked" Lw.s_law_asked ["_law_way", "_law_thing_here", "_law_text"] := by
      refine' TR.funAt_mk KX G (x := "_law_asked") (st := Lw.s_law_asked) (ps := ["_law_way", "_law_thing_here", "_law_text"]) ?a ?l ?c ?k (fun _ _ _ _ _ _ us hl => match us, hl with | [_, _, _], _ => rfl)
      (case a => k_is); (case l => k_is); (case c => k_is); (case k => k_is)

    have F18 : TR.FunAt (L2.KOf KX) mg "_law_copy" Lw.s_law_copy ["_law_told"] := by
      refine' TR.funAt_mk KX G (x := "_law_copy") (st := Lw.s_law_copy) (ps := ["_law_told"]) ?a ?l ?c ?k (fun _ _ _ _ _ _ us hl => match us, hl with | [_], _ => rfl)
      (case a => k_is); (case l => k_is); (case c => k_is); (case k => k_is)

    have F19 : TR.FunAt (L2.KOf KX) mg "_law_right" Lw.s_law_right ["_law_way", "_law_thing_here", "_law_text"] := by
      refine' TR.funAt_mk KX G (x := "_law_right") (st := Lw.s_law_right) (ps := ["_law_way", "_law_thing_here", "_law_text"]) ?a ?l ?c ?k (fun _ _ _ _ _ _ us hl => match us, hl with | [_, _, _], _ => rfl)
      (case a => k_is); (case l => k_is); (case c => k_is); (case k => k_is)

    have F20 : TR.FunAt (L2.KOf KX) mg "_law_row_text" Lw.s_law_row_text ["_law_row_here"] := by
      refine' TR.funAt_mk KX G (x := "_law_row_text") (st := Lw.s_law_row_text) (ps := ["_law_row_here"]) ?a ?l ?c ?k (fun _ _ _ _ _ _ us hl => match us, hl with | [_], _ => rfl)
      (case a => k_is); (case l => k_is); (case c => k_is); (case k => k_is)

    have F21 : TR.FunAt (L2.KOf KX) mg "_law_rows_text" Lw.s_law_rows_text ["_law_rows_here"] := by
      refine' TR.funAt_mk KX G (x := "_law_rows_text") (st := Lw.s_law_rows_text) (ps := ["_law_rows_here"]) ?a ?l ?c ?k (fun _ _ _ _ _ _ us hl => match us, hl with | [_], _ => rfl)
      (case a => k_is); (case l => k_is); (case c => k_is); (case k => k_is)

    have F22 : TR.FunAt (L2.KOf KX) mg "_law_yard_text" Lw.s_law_yard_text ["_law_yard_here"] := by
      refine' TR.funAt_mk KX G (x := "_law_yard_text") (st := Lw.s_law_yard_text) (ps := ["_law_yard_here"]) ?a ?l ?c ?k (fun _ _ _ _ _ _ us hl => match us, hl with | [_], _ => rfl)
      (case a => k_is); (case l => k_is); (case c => k_is); (case k => k_is)

    have F23 : TR.FunAt (L2.KOf KX) mg "_law_step_text" Lw.s_law_step_text ["_law_step_here"] := by
      refine' TR.funAt_mk KX G (x := "_law_step_text") (st := Lw.s_law_step_text) (ps := ["_law_step_here"]) ?a ?l ?c ?k (fun _ _ _ _ _ _ us hl => match us, hl with | [_], _ => rfl)
      (case a => k_is); (case l => k_is); (case c => k_is); (case k => k_is)

    have F24 : TR.FunAt (L2.KOf KX) mg "_law_draw" Lw.s_law_draw ["_law_hand", "_law_many"] := by
      refine' TR.funAt_mk KX G (x := "_law_draw") (st := Lw.s_law_draw) (ps := ["_law_hand", "_law_many"]) ?a ?l ?c ?k (fun _ _ _ _ _ _ us hl => match us, hl with | [_, _], _ => rfl)
      (case a => k_is); (case l => k_is); (case c => k_is); (case k => k_is)

    have F25 : TR.FunAt (L2.KOf KX) mg "_law_thing" Lw.s_law_thing ["_law_hand"] := by
      refine' TR.funAt_mk KX G (x := "_law_thing") (st := Lw.s_law_thing) (ps := ["_law_hand"]) ?a ?l ?c ?k (fun _ _ _ _ _ _ us hl => match us, hl with | [_], _ => rfl)
      (case a => k_is); (case l => k_is); (case c => k_is); (case k => k_is)

    have F26 : TR.FunAt (L2.KOf KX) mg "_law_far" Lw.s_law_far ["_law_hand", "_law_many"] := by
      refine' TR.funAt_mk KX G (x := "_law_far") (st := Lw.s_law_far) (ps := ["_law_hand", "_law_many"]) ?a ?l ?c ?k (fun _ _ _ _ _ _ us hl => match us, hl with | [_, _], _ => rfl)
      (case a => k_is); (case l => k_is); (case c => k_is); (case k => k_is)

    have F27 : TR.FunAt (L2.KOf KX) mg "_law_power" Lw.s_law_power ["_law_many"] := by
      refine' TR.funAt_mk KX G (x := "_law_power") (st := Lw.s_law_power) (ps := ["_law_many"]) ?a ?l ?c ?k (fun _ _ _ _ _ _ us hl => match us, hl with | [_], _ => rfl)
      (case a => k_is); (case l => k_is); (case c => k_is); (case k => k_is)

    have F28 : TR.FunAt (L2.KOf KX) mg "_law_key" Lw.s_law_key ["_law_hand"] := by
      refine' TR.funAt_mk KX G (x := "_law_key") (st := Lw.s_law_key) (ps := ["_law_hand"]) ?a ?l ?c ?k (fun _ _ _ _ _ _ us hl => match us, hl with | [_], _ => rfl)
      (case a => k_is); (case l => k_is); (case c => k_is); (case k => k_is)

    have F29 : TR.FunAt (L2.KOf KX) mg "_law_row" Lw.s_law_row ["_law_hand"] := by
      refine' TR.funAt_mk KX G (x := "_law_row") (st := Lw.s_law_row) (ps := ["_law_hand"]) ?a ?l ?c ?k (fun _ _ _ _ _ _ us hl => match us, hl with | [_], _ => rfl)
      (case a => k_is); (case l => k_is); (case c => k_is); (case k => k_is)

    have F30 : TR.FunAt (L2.KOf KX) mg "_law_rows" Lw.s_law_rows ["_law_hand", "_law_most"] := by
      refine' TR.funAt_mk KX G (x := "_law_rows") (st := Lw.s_law_rows) (ps := ["_law_hand", "_law_most"]) ?a ?l ?c ?k (fun _ _ _ _ _ _ us hl => match us, hl with | [_, _], _ => rfl)
      (case a => k_is); (case l => k_is); (case c => k_is); (case k => k_is)

    have F31 : TR.FunAt (L2.KOf KX) mg "_law_yard" Lw.s_law_yard ["_law_hand"] := by
      refine' TR.funAt_mk KX G (x := "_law_yard") (st := Lw.s_law_yard) (ps := ["_law_hand"]) ?a ?l ?c ?k (fun _ _ _ _ _ _ us hl => match us, hl with | [_], _ => rfl)
      (case a => k_is); (case l => k_is); (case c => k_is); (case k => k_is)

    have F32 : TR.FunAt (L2.KOf KX) mg "_law_step" Lw.s_law_step ["_law_hand"] := by
      refine' TR.funAt_mk KX G (x := "_law_step") (st := Lw.s_law_step) (ps := ["_law_hand"]) ?a ?l ?c ?k (fun _ _ _ _ _ _ us hl => match us, hl with | [_], _ => rfl)
      (case a => k_is); (case l => k_is); (case c => k_is); (case k => k_is)

    have F33 : TR.FunAt (L2.KOf KX) mg "_law_open" Lw.s_law_open ["_law_script", "_law_place"] := by
      refine' TR.funAt_mk KX G (x := "_law_open") (st := Lw.s_law_open) (ps := ["_law_script", "_law_place"]) ?a ?l ?c ?k (fun _ _ _ _ _ _ us hl => match us, hl with | [_, _], _ => rfl)
      (case a => k_is); (case l => k_is); (case c => k_is); (case k => k_is)

    refine' TR.law_end (st := Lw.s_law) (x := "_law_script") KX G hmg ?a ?l ?c ?k (fun s v => .of_eq rfl) (fun base FF => ?b)
    (case a => k_is); (case l => k_is); (case c => k_is); (case k => k_is)

    case b =>

      have h0 := Lw.has_law_spoil (P := PySem.Challenge.rw_tailrooms_k91_written_and_read.prog) (w := w) (base := base) zz F0 

      have h1 := Lw.has_law_same (P := PySem.Challenge.rw_tailrooms_k91_written_and_read.prog) (w := w) (base := base) zz F1 

      have h2 := Lw.has_is_whole (P := PySem.Challenge.rw_tailrooms_k91_written_and_read.prog) (w := w) (base := base) zz F2 

      have h3 := Lw.has_is_size (P := PySem.Challenge.rw_tailrooms_k91_written_and_read.prog) (w := w) (base := base) zz F3 h2

      have h4 := Lw.has_is_name (P := PySem.Challenge.rw_tailrooms_k91_written_and_read.prog) (w := w) (base := base) zz F4 

      have h5 := Lw.has_is_key (P := PySem.Challenge.rw_tailrooms_k91_written_and_read.prog) (w := w) (base := base) zz F5 h2

      have h6 := Lw.has_read_number (P := PySem.Challenge.rw_tailrooms_k91_written_and_read.prog) (w := w) (base := base) zz F6 

      have h7 := Lw.has_read_entry (P := PySem.Challenge.rw_tailrooms_k91_written_and_read.prog) (w := w) (base := base) zz F7 h4 h5 h6

      have h8 := Lw.has_read_row (P := PySem.Challenge.rw_tailrooms_k91_written_and_read.prog) (w := w) (base := base) zz F8 h7

      have h9 := Lw.has_read_rows (P := PySem.Challenge.rw_tailrooms_k91_written_and_read.prog) (w := w) (base := base) zz F9 h8

      have h10 := Lw.has_read_few (P := PySem.Challenge.rw_tailrooms_k91_written_and_read.prog) (w := w) (base := base) zz F10 h6

      have h11 := Lw.has_read_yard (P := PySem.Challenge.rw_tailrooms_k91_written_and_read.prog) (w := w) (base := base) zz F11 h3 h9 h10 h6

      have h12 := Lw.has_show_row (P := PySem.Challenge.rw_tailrooms_k91_written_and_read.prog) (w := w) (base := base) zz F12 

      have h13 := Lw.has_show_rows (P := PySem.Challenge.rw_tailrooms_k91_written_and_read.prog) (w := w) (base := base) zz F13 h12

      have h14 := Lw.has_show_yard (P := PySem.Challenge.rw_tailrooms_k91_written_and_read.prog) (w := w) (base := base) zz F14 h13

      have h15 := Lw.has_read_step (P := PySem.Challenge.rw_tailrooms_k91_written_and_read.prog) (w := w) (base := base) zz F15 h10 h8

      have h16 := Lw.has_show_step (P := PySem.Challenge.rw_tailrooms_k91_written_and_read.prog) (w := w) (base := base) zz F16 h12

      have h17 := Lw.has_law_asked (P := PySem.Challenge.rw_tailrooms_k91_written_and_read.prog) (w := w) (base := base) zz F17 h11 h14 h15 h16 h9 h13

      have h18 := Lw.has_law_copy (P := PySem.Challenge.rw_tailrooms_k91_written_and_read.prog) (w := w) (base := base) zz F18 

      have h19 := Lw.has_law_right (P := PySem.Challenge.rw_tailrooms_k91_written_and_read.prog) (w := w) (base := base) zz F19 h0 h1 h17 h18

      have h20 := Lw.has_law_row_text (P := PySem.Challenge.rw_tailrooms_k91_written_and_read.prog) (w := w) (base := base) zz F20 

      have h21 := Lw.has_law_rows_text (P := PySem.Challenge.rw_tailrooms_k91_written_and_read.prog) (w := w) (base := base) zz F21 h20

      have h22 := Lw.has_law_yard_text (P := PySem.Challenge.rw_tailrooms_k91_written_and_read.prog) (w := w) (base := base) zz F22 h21

      have h23 := Lw.has_law_step_text (P := PySem.Challenge.rw_tailrooms_k91_written_and_read.prog) (w := w) (base := base) zz F23 h20

      have h24 := Lw.has_law_draw (P := PySem.Challenge.rw_tailrooms_k91_written_and_read.prog) (w := w) (base := base) zz F24 

      have h25 := Lw.has_law_thing (P := PySem.Challenge.rw_tailrooms_k91_written_and_read.prog) (w := w) (base := base) zz F25 h24

      have h26 := Lw.has_law_far (P := PySem.Challenge.rw_tailrooms_k91_written_and_read.prog) (w := w) (base := base) zz F26 h24

      have h27 := Lw.has_law_power (P := PySem.Challenge.rw_tailrooms_k91_written_and_read.prog) (w := w) (base := base) zz F27 

      have h28 := Lw.has_law_key (P := PySem.Challenge.rw_tailrooms_k91_written_and_read.prog) (w := w) (base := base) zz F28 h26 h27 h24

      have h29 := Lw.has_law_row (P := PySem.Challenge.rw_tailrooms_k91_written_and_read.prog) (w := w) (base := base) zz F29 h24 h25 h28

      have h30 := Lw.has_law_rows (P := PySem.Challenge.rw_tailrooms_k91_written_and_read.prog) (w := w) (base := base) zz F30 h24 h29

      have h31 := Lw.has_law_yard (P := PySem.Challenge.rw_tailrooms_k91_written_and_read.prog) (w := w) (base := base) zz F31 h29 h30 h24

      have h32 := Lw.has_law_step (P := PySem.Challenge.rw_tailrooms_k91_written_and_read.prog) (w := w) (base := base) zz F32 h24 h29

      have h33 := Lw.has_law_open (P := PySem.Challenge.rw_tailrooms_k91_written_and_read.prog) (w := w) (base := base) zz F33 

      exact Lw.ok_law zz FF h19 h22 h23 h21 h30 h31 h32 h24 h33

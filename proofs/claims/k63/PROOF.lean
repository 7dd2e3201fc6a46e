import PyProof.Rows.All
import Wide.All
import OpenK.AllK
import Wide.FinOn
import HandS.ForMost
import HandS.Wide
import HandS.SortInts
import HandS.IsInst
import HandS.Conv
import HandS.Evl
import HandS.Style
import HandS.SortRule
import HandS.ForExc
import HandS.ExcInit
import HandS.ExcField
import HandS.TryMany
import HandS.Small
import HandS.Text
import PyProof.Rows.ChunkEnd
import HandS.DictTup
import KE.KItemsList
import HandS.More
import KE.KExcIs
import HandS.DictComp
import PyProof.Rows.IntBool
import PyProof.TwoTypesSub
import PyProof.EqKinds
import PyProof.Rows.RuleB_bool
import PyProof.WalkInts
import PySem.Challenge.RW_tailrooms_k63_puts_spoilt_anywhere
set_option Elab.async false
set_option linter.all false
set_option maxRecDepth 100000
set_option maxHeartbeats 4000000

/-! TR: joined rules, steps of a reading, the heap, the hand that is drawn from -/
noncomputable section
namespace TR
open PySem L2
open PySem.Spec PyProof.Rows

/-! ### joined rules -/
section
variable {X : Cx}
noncomputable def rPlus : R2 := fun x y H Q => (rI0 fun i j => .int (i + j)) x y H Q ∨ rCat x y H Q ∨
  (∃ i j, x = .str i ∧ y = .str j ∧ i.length + j.length ≤ sizeLine ∧ Q (.str (i ++ j)) H)
theorem op_plusA : OpR X (binaryOp .Add) rPlus := OpR.or op_add (OpR.or op_cat op_add_str)
noncomputable def rMult : R2 := fun x y H Q => (rI CMulW fun i j => .int (i * j)) x y H Q ∨ (rI CMul fun i j => .int (i * j)) x y H Q ∨ rRep x y H Q
theorem op_multA : OpR X (binaryOp .Mult) rMult := OpR.or op_mulW (OpR.or op_mul op_rep)
noncomputable def rEqA (K : PySem.W.Frag) : R2 := fun x y H Q => rEq x y H Q ∨ rEqD K x y H Q
noncomputable def rNeA (K : PySem.W.Frag) : R2 := fun x y H Q => rNe x y H Q ∨ rNeD K x y H Q
theorem op_eqA (hu : X.A.units + 64 < cLine) : OpR X (compareOp .Eq) (rEqA X.K) := OpR.or op_eq (op_eqD hu)
theorem op_neA (hu : X.A.units + 64 < cLine) : OpR X (compareOp .NotEq) (rNeA X.K) := OpR.or op_ne (op_neD hu)
theorem op_inA : OpR X (compareOp .In) (rIn X.K false) := op_in_seq
noncomputable def rLenS (K : PySem.W.Frag) : List V → Hp → VK → Prop := Evl.rLenS K
noncomputable def rLenT : List V → Hp → VK → Prop := fun xs H Q => ∃ z, xs = [.str z] ∧ z.length ≤ sizeLine ∧ Q (.int z.length) H
noncomputable def rLen (K : PySem.W.Frag) : List V → Hp → VK → Prop := fun xs H Q => rLenS K xs H Q ∨ rLenT xs H Q
theorem call_lenA : CallR X (.builtin "len") (rLen X.K) := CallR.or call_len_seq call_len_str
theorem cr_sumA (hc : X.calm = true) : CallR X (.builtin "sum") (rSum X.K) := cr_sum hc
theorem cr_allA (hc : X.calm = true) : CallR X (.builtin "all") (rAll X.K) := cr_all hc
noncomputable def rGetL (K : PySem.W.Frag) : R2 := fun x y H Q => ∃ p xs i v, x = .ref p ∧ y = .int i ∧ SqL K H p xs ∧ 0 ≤ i ∧ atI xs i = some v ∧ Q v H
theorem pget_list : PGet X (rGetL X.K) := by
  intro pins s σ H x0 y0 v u Q I rx ru hh
  obtain ⟨p, xs, i, z, ex, ei, hq, h0, he, q⟩ := hh
  subst ex
  subst ei
  cases rx
  obtain ⟨t, et⟩ := ru
  subst et
  obtain ⟨its, r, pl, _⟩ := I.list hq
  obtain ⟨j, h1, h2, h3, _, h5⟩ := atI_get he
  obtain ⟨y, ey, ry⟩ := r.get h2
  have hl := r.length
  have hn := line63
  rw [seqIndex_of h0 h5] at h1
  have hj : i.toNat = j := Option.some.inj h1
  exact wpAny_getItem_list pl.isList h0 (by omega) (by rw [hj]; simpa using ey) ⟨z, H, I, ry, q⟩
noncomputable def rIsNA : R2 := fun x y H Q => y = .non ∧ Q (.bl (decide (x = .non))) H
noncomputable def rNotNA : R2 := fun x y H Q => y = .non ∧ Q (.bl (!decide (x = .non))) H
noncomputable def rMax2 : List V → Hp → VK → Prop := fun xs H Q => ∃ i j, xs = [.int i, .int j] ∧ Q (.int (max i j)) H
noncomputable def rMin2 : List V → Hp → VK → Prop := fun xs H Q => ∃ i j, xs = [.int i, .int j] ∧ Q (.int (min i j)) H
noncomputable def rAbs : List V → Hp → VK → Prop := fun xs H Q => ∃ i, xs = [.int i] ∧ Q (.int (if i < 0 then -i else i)) H
theorem call_max2A (hc : X.calm = true) : CallR X (.builtin "max") rMax2 := by
  have e : rMax2 = fun xs H Q => ∃ i j, xs = [V.int i, V.int j] ∧ Q (.int (if j > i then j else i)) H := by
    funext xs H Q
    have e2 : ∀ i j : Int, max i j = if j > i then j else i := fun i j => by
      by_cases h : j > i
      · rw [if_pos h]
        omega
      · rw [if_neg h]
        omega
    show (∃ i j, xs = [V.int i, V.int j] ∧ Q (.int (max i j)) H) = _
    simp only [e2]
  rw [e]
  exact call_max2 hc
theorem call_min2A (hc : X.calm = true) : CallR X (.builtin "min") rMin2 := by
  have e : rMin2 = fun xs H Q => ∃ i j, xs = [V.int i, V.int j] ∧ Q (.int (if j < i then j else i)) H := by
    funext xs H Q
    have e2 : ∀ i j : Int, min i j = if j < i then j else i := fun i j => by
      by_cases h : j < i
      · rw [if_pos h]
        omega
      · rw [if_neg h]
        omega
    show (∃ i j, xs = [V.int i, V.int j] ∧ Q (.int (min i j)) H) = _
    simp only [e2]
  rw [e]
  exact call_min2 hc
theorem call_absA : CallR X (.builtin "abs") rAbs := call_abs
noncomputable def rInt1 : List V → Hp → VK → Prop := fun xs H Q => (∃ i, xs = [.int i] ∧ Q (.int i) H) ∨ ∃ k, xs = [.bl k] ∧ Q (.int (if k then 1 else 0)) H
theorem call_int1A : CallR X (.type "int") rInt1 := call_int1
noncomputable def rList1 (K : PySem.W.Frag) : List V → Hp → VK → Prop := Evl.rListS K
theorem call_listA : CallR X (.type "list") (rList1 X.K) := call_list_of
end

/-! ### the same rules, the written part K named (they may stand in a comprehension's block) -/
section
variable {X : Cx} {K : PySem.W.Frag}
theorem ixA (hk : X.K = K) : IxR X (rIx K) := hk ▸ ix_seq
theorem slA (hk : X.K = K) : SlR X (rSlL K) := hk ▸ sl_list
theorem lenA (hk : X.K = K) : CallR X (.builtin "len") (rLen K) := hk ▸ call_lenA
theorem eqA (hk : X.K = K) (hu : X.A.units + 64 < cLine) : OpR X (compareOp .Eq) (rEqA K) := hk ▸ op_eqA hu
theorem neA (hk : X.K = K) (hu : X.A.units + 64 < cLine) : OpR X (compareOp .NotEq) (rNeA K) := hk ▸ op_neA hu
theorem inA (hk : X.K = K) : OpR X (compareOp .In) (rIn K false) := hk ▸ op_inA
theorem isiA (hk : X.K = K) : CallR X (.builtin "isinstance") (rIsi K) := hk ▸ call_isi
theorem sumA (hk : X.K = K) (hc : X.calm = true) : CallR X (.builtin "sum") (rSum K) := hk ▸ cr_sumA hc
theorem allA (hk : X.K = K) (hc : X.calm = true) : CallR X (.builtin "all") (rAll K) := hk ▸ cr_allA hc
theorem sortA (hk : X.K = K) : CallR X (.builtin "sorted") (rSortedI K) := hk ▸ cr_sortedI
theorem listA (hk : X.K = K) : CallR X (.type "list") (rList1 K) := hk ▸ call_listA
theorem getA (hk : X.K = K) : PGet X (rGetL K) := hk ▸ pget_list
theorem piL {tg l : Expr} {tl : TE} (hk : X.K = K) (hl : PE X l tl) : PI X tg l (iList K tl) := hk ▸ pi_list hl
end

/-! ### heaps -/
/-- all of H is there in H' -/
noncomputable abbrev Ex := Evl.Ex
/-- all of H but what stands at h -/
noncomputable def ExM (h : Addr) (H H' : Hp) : Prop := ∀ a o, a ≠ h → H a = some o → H' a = some o
theorem Ex.refl (H : Hp) : Ex H H := Evl.Ex.refl H
theorem Ex.trans {H G F : Hp} (a : Ex H G) (b : Ex G F) : Ex H F := Evl.Ex.trans a b
theorem Ex.new {H : Hp} {a : Addr} {u : HO} (h : H a = none) : Ex H (L2.upd H a u) := Evl.Ex.new h
theorem Ex.mut {H G : Hp} {a : Addr} {u : HO} (e : Ex H G) (h : H a = none) : Ex H (L2.upd G a u) := Evl.Ex.mut e h
theorem Ex.exm {Z H H' : Hp} {h : Addr} (e : Ex Z H) (hz : Z h = none) (m : ExM h H H') : Ex Z H' := fun a o ha => m a o (ne_of_none ha hz) (e a o ha)
theorem Ex.toM {H H' : Hp} {h : Addr} (e : Ex H H') : ExM h H H' := fun a o _ ha => e a o ha
theorem ExM.refl {h : Addr} (H : Hp) : ExM h H H := fun _ _ _ e => e
theorem ExM.trans {h : Addr} {H H1 H2 : Hp} (a : ExM h H H1) (b : ExM h H1 H2) : ExM h H H2 := fun x o n e => b x o n (a x o n e)
theorem ExM.upd {h : Addr} {H : Hp} {o : HO} : ExM h H (upd H h o) := fun a u n e => by
  rw [upd_ne n]
  exact e
/-- a heap without one object -/
noncomputable def cutH (H : Hp) (h : Addr) : Hp := fun b => if b = h then none else H b
theorem Ex.back {H H' : Hp} {p : Addr} (e : Ex H H') (h : H' p = none) : H p = none := by
  cases h1 : H p with
  | none => rfl
  | some o =>
    rw [e p o h1] at h
    cases h
theorem ExM.back {H H' : Hp} {h p : Addr} (e : ExM h H H') (hp : H' p = none) (n : p ≠ h) : H p = none := by
  cases h1 : H p with
  | none => rfl
  | some o =>
    rw [e p o n h1] at hp
    cases hp
theorem Ex.sq {K : PySem.W.Frag} {H G : Hp} {p : Addr} {ys : List V} (e : Ex H G) (h : SqL K H p ys) : SqL K G p ys := Evl.ex_l e h
theorem Ex.st {K : PySem.W.Frag} {H G : Hp} {p : Addr} {ys : List V} (e : Ex H G) (h : SqT K H p ys) : SqT K G p ys := Evl.ex_t e h
theorem sq_of {K : PySem.W.Frag} {H : Hp} {p : Addr} {ys : List V} (h : H p = some (.lst ys)) : SqL K H p ys := SqL.of h
theorem st_of {K : PySem.W.Frag} {H : Hp} {p : Addr} {ys : List V} (h : H p = some (.tup ys)) : SqT K H p ys := SqT.of h
theorem sz_of {m : Nat} (h : m ≤ 100000) : m ≤ sizeLine := Evl.sz_of h
theorem sz_lt {m : Nat} (h : m < 100000) : m < sizeLine := Evl.sz_lt h

/-! ### places, first -/
theorem atI_lt {α : Type} {xs : List α} {i : Int} {v : α} (h0 : 0 ≤ i) (h : xs[i.toNat]? = some v) : atI xs i = some v := by
  have e : ((i.toNat : Nat) : Int) = i := Int.toNat_of_nonneg h0
  have q := atI_nat (xs := xs) (j := i.toNat) h
  rw [e] at q
  exact q
theorem ixN_lt {n : Nat} {i : Int} (h0 : 0 ≤ i) (h : i < n) : ixN n i = some i.toNat := by
  unfold ixN
  rw [if_pos h0, if_pos h]

/-! ### steps of a reading: each turns what is to be shown into what it asks next -/
section
variable {K : PySem.W.Frag} {σ : L2.St} {H : Hp} {ta tb tc te : TE} {t u : TT} {D : Ends} {Q : VK} {QB : Bool → Hp → Prop} {v x y : V} {p : Prop} {A B : Prop}
theorem s_var {i : Nat} (h : σ[i]? = some (some v)) (q : Q v H) : tVar i σ H Q := ⟨v, h, q⟩
theorem s_c (q : Q v H) : tC v σ H Q := q
theorem s_op {r : R2} (q : ta σ H fun x H1 => tb σ H1 fun y H2 => r x y H2 Q) : tOp r ta tb σ H Q := q
theorem s_un {r : V → Hp → VK → Prop} (q : ta σ H fun x H1 => r x H1 Q) : tUn r ta σ H Q := q
theorem s_I0 {g : Int → Int → V} {i j : Int} (q : Q (g i j) H) : rI0 g (.int i) (.int j) H Q := ⟨i, j, rfl, rfl, q⟩
theorem s_U {g : Int → V} {i : Int} (q : Q (g i) H) : rU g (.int i) H Q := ⟨i, rfl, q⟩
theorem s_plusI {i j : Int} (q : Q (.int (i + j)) H) : rPlus (.int i) (.int j) H Q := .inl ⟨i, j, rfl, rfl, q⟩
theorem s_mulL {i j : Int} (c : -(2 ^ 64) < i ∧ i < 2 ^ 64) (q : Q (.int (i * j)) H) : rMult (.int i) (.int j) H Q := .inr (.inl ⟨i, j, rfl, rfl, .inl c, q⟩)
theorem s_mulR {i j : Int} (c : -(2 ^ 64) < j ∧ j < 2 ^ 64) (q : Q (.int (i * j)) H) : rMult (.int i) (.int j) H Q := .inr (.inl ⟨i, j, rfl, rfl, .inr c, q⟩)
theorem s_div {i j : Int} {g : Int → Int → V} (h : 0 < j) (h2 : j < 2 ^ 63) (q : Q (g i j) H) : rI CDivW g (.int i) (.int j) H Q :=
  ⟨i, j, rfl, rfl, wide_div (b := 63) h (by have e : (2 : Int) ^ 63 = 9223372036854775808 := by decide
                                            have e2 : (2 : Nat) ^ 63 = 9223372036854775808 := by decide
                                            omega) (by decide) (by decide), q⟩
theorem s_mod {i j : Int} (h : 0 < j) (q : 0 ≤ i % j → i % j < j → Q (.int (i % j)) H) : rI (fun _ j => 0 < j) (fun i j => .int (i % j)) (.int i) (.int j) H Q := ⟨i, j, rfl, rfl, h, q (Int.emod_nonneg i (Int.ne_of_gt h)) (Int.emod_lt_of_pos i h)⟩
theorem s_pow10_6 (q : Q (.int 1000000) H) : rI CPow (fun i j => .int (i ^ j.toNat)) (.int 10) (.int 6) H Q := ⟨10, 6, rfl, rfl, ⟨by decide, by decide, by decide⟩, by
  have e : (10 : Int) ^ Int.toNat 6 = 1000000 := by decide
  show Q (.int ((10 : Int) ^ Int.toNat 6)) H
  rw [e]
  exact q⟩
theorem s_pow10_9 (q : Q (.int 1000000000) H) : rI CPow (fun i j => .int (i ^ j.toNat)) (.int 10) (.int 9) H Q := ⟨10, 9, rfl, rfl, ⟨by decide, by decide, by decide⟩, by
  have e : (10 : Int) ^ Int.toNat 9 = 1000000000 := by decide
  show Q (.int ((10 : Int) ^ Int.toNat 9)) H
  rw [e]
  exact q⟩
theorem s_pow10_10 (q : Q (.int 10000000000) H) : rI CPow (fun i j => .int (i ^ j.toNat)) (.int 10) (.int 10) H Q := ⟨10, 10, rfl, rfl, ⟨by decide, by decide, by decide⟩, by
  have e : (10 : Int) ^ Int.toNat 10 = 10000000000 := by decide
  show Q (.int ((10 : Int) ^ Int.toNat 10)) H
  rw [e]
  exact q⟩
theorem s_pow10_18 (q : Q (.int 1000000000000000000) H) : rI CPow (fun i j => .int (i ^ j.toNat)) (.int 10) (.int 18) H Q := ⟨10, 18, rfl, rfl, ⟨by decide, by decide, by decide⟩, by
  have e : (10 : Int) ^ Int.toNat 18 = 1000000000000000000 := by decide
  show Q (.int ((10 : Int) ^ Int.toNat 18)) H
  rw [e]
  exact q⟩
theorem s_pow {i j : Int} {g : Int → Int → V} (h1 : 0 ≤ j ∧ j ≤ 1000) (h2 : i.natAbs < 2 ^ 64) (q : Q (g i j) H) : rI CPow g (.int i) (.int j) H Q := ⟨i, j, rfl, rfl, ⟨h1.1, by omega, h2⟩, q⟩
theorem s_eqI {a b : Int} (q : Q (.bl (decide (a = b))) H) : rEqA K (.int a) (.int b) H Q := .inl ⟨rfl, by
  have e : decide (V.int a = V.int b) = decide (a = b) := by rw [dec_int, Bool.beq_eq_decide_eq]
  rw [e]
  exact q⟩
theorem s_neI {a b : Int} (q : Q (.bl (decide (a ≠ b))) H) : rNeA K (.int a) (.int b) H Q := .inl ⟨rfl, by
  have e : (!decide (V.int a = V.int b)) = decide (a ≠ b) := by rw [dec_int, Bool.beq_eq_decide_eq, decide_not]
  rw [e]
  exact q⟩
theorem s_eqS {a b : Str} (q : Q (.bl (decide (a = b))) H) : rEqA K (.str a) (.str b) H Q := .inl ⟨rfl, by
  have e : decide (V.str a = V.str b) = decide (a = b) := by
    by_cases h : a = b
    · rw [h, decide_eq_true rfl, decide_eq_true rfl]
    · rw [decide_eq_false h, decide_eq_false (fun e => h (V.str.inj e))]
  rw [e]
  exact q⟩
theorem s_eqD {d e : PyData} (h1 : Dp K H x d) (h2 : Dp K H y e) (s1 : SeqAt.shaped d = true) (s2 : SeqAt.shaped e = true) (q : Q (.bl (PyData.eqv d e)) H) : rEqA K x y H Q := .inr ⟨d, e, h1, h2, s1, s2, q⟩
/-- subscripts -/
theorem s_ixL {a : Addr} {xs : List V} {i : Int} (h : SqL K H a xs) (e : atI xs i = some v) (q : Q v H) : rIx K (.ref a) (.int i) H Q := .inl ⟨a, xs, i, v, rfl, rfl, h, e, q⟩
theorem s_ixT {a : Addr} {xs : List V} {i : Int} (h : SqT K H a xs) (e : atI xs i = some v) (q : Q v H) : rIx K (.ref a) (.int i) H Q := .inr (.inl ⟨a, xs, i, v, rfl, rfl, h, e, q⟩)
theorem s_getL {a : Addr} {xs : List V} {i : Int} (h : SqL K H a xs) (h0 : 0 ≤ i) (e : atI xs i = some v) (q : Q v H) : rGetL K (.ref a) (.int i) H Q := ⟨a, xs, i, v, rfl, rfl, h, h0, e, q⟩
/-- tests -/
theorem s_test (q : te σ H fun x H' => ∃ k, x = .bl k ∧ QB k H') : tTest te σ H QB := q
theorem s_tB (q : te σ H fun x H' => ∃ k, x = .bl k ∧ QB k H') : tB te σ H QB := q
theorem s_bl {b : Bool} {R : Bool → Prop} (q : R b) : ∃ k, V.bl b = V.bl k ∧ R k := ⟨b, rfl, q⟩
theorem s_and (q : t σ H fun c H1 => if c = true then u σ H1 QB else QB false H1) : tAnd t u σ H QB := q
theorem s_or (q : t σ H fun c H1 => if c = true then QB true H1 else u σ H1 QB) : tOr t u σ H QB := q
theorem s_not (q : t σ H fun c H1 => QB (!c) H1) : tNot t σ H QB := q
theorem s_andV (q : ta σ H fun x H1 => ∃ c, x = .bl c ∧ if c = true then tb σ H1 Q else Q (.bl false) H1) : tAndV ta tb σ H Q := q
theorem s_notV (q : ta σ H fun x H1 => ∃ c, x = .bl c ∧ Q (.bl (!c)) H1) : tNotV ta σ H Q := q
theorem i_d [Decidable p] (h1 : p → A) (h2 : ¬ p → B) : if decide p = true then A else B := by
  by_cases h : p
  · rw [if_pos (decide_eq_true h)]
    exact h1 h
  · rw [if_neg (fun z => h (of_decide_eq_true z))]
    exact h2 h
theorem i_t (h : A) : if true = true then A else B := by
  rw [if_pos rfl]
  exact h
theorem i_f (h : B) : if false = true then A else B := by
  rw [if_neg Bool.false_ne_true]
  exact h
theorem i_nt (h : B) : if (!true) = true then A else B := i_f h
theorem i_nf (h : A) : if (!false) = true then A else B := i_t h
theorem i_dt [Decidable p] (hp : p) (h : A) : if decide p = true then A else B := i_d (fun _ => h) (fun n => absurd hp n)
theorem i_df [Decidable p] (hp : ¬ p) (h : B) : if decide p = true then A else B := i_d (fun z => absurd z hp) (fun _ => h)
/-- calls, displays, slices -/
theorem s_nil {QA : List V → Hp → Prop} (q : QA [] H) : tNil σ H QA := q
theorem s_cons {tr : TA} {QA : List V → Hp → Prop} (q : ta σ H fun x H1 => tr σ H1 fun xs H2 => QA (x :: xs) H2) : tCons ta tr σ H QA := q
theorem s_call {sp : Sp} {E : XK} {tr : TA} (q : tr σ H fun vs H1 => sp vs H1 Q E) : tCall sp [] E tr σ H Q := by
  have e : (fun (vs : List V) H1 => sp (vs ++ []) H1 Q E) = fun vs H1 => sp vs H1 Q E := by
    funext vs H1
    rw [List.append_nil]
  show tr σ H fun vs H1 => sp (vs ++ []) H1 Q E
  rw [e]
  exact q
theorem s_CB {r : List V → Hp → VK → Prop} {tr : TA} (q : tr σ H fun vs H1 => r vs H1 Q) : tCB r tr σ H Q := q
noncomputable def NewL (xs : List V) (H : Hp) (Q : VK) : Prop := xs.length ≤ sizeLine ∧ ∀ p, H p = none → Q (.ref p) (upd H p (.lst xs))
noncomputable def NewT (xs : List V) (H : Hp) (Q : VK) : Prop := xs.length ≤ sizeLine ∧ ∀ p, H p = none → Q (.ref p) (upd H p (.tup xs))
noncomputable def NewRg (a b : Int) (H : Hp) (Q : VK) : Prop := RgOk a b ∧ ∀ p, H p = none → Q (.ref p) (upd H p (.lst (rgV a b)))
theorem s_lst {tr : TA} (q : tr σ H fun xs H1 => NewL xs H1 Q) : tLst tr σ H Q := q
theorem s_tup {tr : TA} (q : tr σ H fun xs H1 => NewT xs H1 Q) : tTup tr σ H Q := q
theorem s_lenL {a : Addr} {xs : List V} (h : SqL K H a xs) (q : Q (.int (xs.length : Int)) H) : rLen K [.ref a] H Q := .inl ⟨a, xs, rfl, .inl h, q⟩
theorem s_lenM {α : Type} {f : α → V} {l : List α} {a : Addr} (h : SqL K H a (l.map f)) (q : Q (.int (l.length : Int)) H) : rLen K [.ref a] H Q := .inl ⟨a, _, rfl, .inl h, by rw [List.length_map]; exact q⟩
theorem s_ixI {l : List Int} {a : Addr} {i : Int} (h : SqL K H a (l.map V.int)) (h0 : 0 ≤ i ∧ i < l.length) (q : ∀ v, l[i.toNat]? = some v → Q (.int v) H) : rIx K (.ref a) (.int i) H Q := by
  have hl : i.toNat < l.length := by omega
  exact .inl ⟨a, _, i, _, rfl, rfl, h, atI_lt h0.1 (by rw [List.getElem?_map, List.getElem?_eq_getElem hl]; rfl), q _ (List.getElem?_eq_getElem hl)⟩
theorem s_ix2b {a : Addr} {x y : Int} {b : Bool} (h : SqL K H a [.int x, .int y]) (q : ∀ v, (v = x ∨ v = y) → Q (.int v) H) : rIx K (.ref a) (.int (if b = true then 1 else 0)) H Q := by
  cases b
  · exact .inl ⟨a, _, 0, _, rfl, rfl, h, rfl, q _ (.inl rfl)⟩
  · exact .inl ⟨a, _, 1, _, rfl, rfl, h, rfl, q _ (.inr rfl)⟩
theorem s_ix4 {a : Addr} {x y z t i : Int} (h : SqL K H a [.int x, .int y, .int z, .int t]) (h0 : 0 ≤ i ∧ i < 4) (q : ∀ v, (i = 0 ∧ v = x ∨ i = 1 ∧ v = y ∨ i = 2 ∧ v = z ∨ i = 3 ∧ v = t) → Q (.int v) H) : rIx K (.ref a) (.int i) H Q := by
  have : i = 0 ∨ i = 1 ∨ i = 2 ∨ i = 3 := by omega
  rcases this with rfl | rfl | rfl | rfl
  · exact .inl ⟨a, _, 0, _, rfl, rfl, h, rfl, q _ (.inl ⟨rfl, rfl⟩)⟩
  · exact .inl ⟨a, _, 1, _, rfl, rfl, h, rfl, q _ (.inr (.inl ⟨rfl, rfl⟩))⟩
  · exact .inl ⟨a, _, 2, _, rfl, rfl, h, rfl, q _ (.inr (.inr (.inl ⟨rfl, rfl⟩)))⟩
  · exact .inl ⟨a, _, 3, _, rfl, rfl, h, rfl, q _ (.inr (.inr (.inr ⟨rfl, rfl⟩)))⟩
theorem s_sl {r : V → Option Int → Option Int → Hp → VK → Prop} {tl th : TO} (q : te σ H fun x H1 => tl σ H1 fun l H2 => th σ H2 fun u H3 => r x l u H3 Q) : tSl r te tl th σ H Q := q
theorem s_np {QO : Option Int → Hp → Prop} (q : QO none H) : tNoPart σ H QO := q
theorem s_part {QO : Option Int → Hp → Prop} (q : te σ H fun x H1 => ∃ i, x = .int i ∧ QO (some i) H1) : tPart te σ H QO := q
theorem s_int {i : Int} {R : Int → Prop} (q : R i) : ∃ k, V.int i = V.int k ∧ R k := ⟨i, rfl, q⟩
theorem s_BM {T : String} {r : V → List V → Hp → VK → Prop} {tr : TA} (q : ta σ H fun x H1 => tyV K T x H1 ∧ tr σ H1 fun xs H2 => r x xs H2 Q) : tBM K T r ta tr σ H Q := q
theorem s_tyL {a : Addr} {xs : List V} {R : Prop} (h : SqL K H a xs) (q : R) : tyV K "list" (.ref a) H ∧ R := ⟨Or.inl ⟨rfl, xs, h⟩, q⟩
/-- statements -/
theorem s_seq {t u : TS} (q : t { D with nx := u D } σ H) : tSeq t u D σ H := q
theorem s_cut {t u : TS} (Mid : L2.St → Hp → Prop) (h : t { D with nx := Mid } σ H) (q : ∀ σ' H', Mid σ' H' → u D σ' H') : Evl.tCut t u D σ H := ⟨Mid, h, q⟩
theorem s_next (q : D.nx σ H) : tNext D σ H := q
theorem s_drop (q : te σ H fun _ H1 => D.nx σ H1) : tDrop te D σ H := q
theorem s_ret (q : te σ H D.rt) : tRet te D σ H := q
theorem s_if {t u : TS} {c : TT} (q : c σ H fun b H1 => if b = true then t D σ H1 else u D σ H1) : tIfS c t u D σ H := q
theorem s_asg {g : TG} (q : te σ H fun x H1 => g x σ H1 D.nx) : tAsg te g D σ H := q
theorem s_gname {i : Nat} {R : L2.St → Hp → Prop} (q : R (σ.set i (some v)) H) : gName i v σ H R := q
theorem s_gsub {to ti : TE} {ts : TSet} {R : L2.St → Hp → Prop} (q : to σ H fun o H1 => ti σ H1 fun i H2 => ts o i v H2 fun H3 => R σ H3) : gSub to ti ts v σ H R := q
theorem s_ipI {f : Int → Int → Int} {i j : Int} (q : Q (.int (f i j)) H) : ipI f (.int i) (.int j) H Q := ⟨i, j, rfl, rfl, q⟩
theorem s_augS {to ti : TE} {tget : V → V → Hp → VK → Prop} {tip : TIp} {tset : TSet}
    (q : to σ H fun o H1 => ti σ H1 fun i H2 => tget o i H2 fun x H3 => te σ H3 fun y H4 => tip x y H4 fun z H5 => tset o i z H5 fun H6 => D.nx σ H6) : tAugS to ti te tget tip tset D σ H := q
theorem s_max2 {i j : Int} (q : Q (.int (max i j)) H) : rMax2 [.int i, .int j] H Q := ⟨i, j, rfl, q⟩
theorem s_min2 {i j : Int} (q : Q (.int (min i j)) H) : rMin2 [.int i, .int j] H Q := ⟨i, j, rfl, q⟩
theorem s_abs {i : Int} (q : Q (.int (if i < 0 then -i else i)) H) : rAbs [.int i] H Q := ⟨i, rfl, q⟩
theorem s_int1b {b : Bool} (q : Q (.int (if b then 1 else 0)) H) : rInt1 [.bl b] H Q := .inr ⟨b, rfl, q⟩
theorem s_isiI {n : String} {i : Int} {b : Bool} (h : kitB "int" n = some b) (q : Q (.bl b) H) : rIsi K [.int i, .ty n] H Q := ⟨.int i, .ty n, _, _, b, rfl, .ty n, .base (.int i), kit_ty h, q⟩
theorem s_isiB {n : String} {i : Bool} {b : Bool} (h : kitB "bool" n = some b) (q : Q (.bl b) H) : rIsi K [.bl i, .ty n] H Q := ⟨.bl i, .ty n, _, _, b, rfl, .ty n, .base (.bl i), kit_ty h, q⟩
theorem s_isiS {n : String} {i : Str} {b : Bool} (h : kitB "str" n = some b) (q : Q (.bl b) H) : rIsi K [.str i, .ty n] H Q := ⟨.str i, .ty n, _, _, b, rfl, .ty n, .base (.str i), kit_ty h, q⟩
theorem s_isiN {n : String} {b : Bool} (h : kitB "NoneType" n = some b) (q : Q (.bl b) H) : rIsi K [.non, .ty n] H Q := ⟨.non, .ty n, _, _, b, rfl, .ty n, .base .non, kit_ty h, q⟩
theorem ty_sq {a : Addr} {xs : List V} (h : SqL K H a xs) : TyX K H (.ref a) (.type "list") := by
  rcases h with (h | ⟨o, h⟩) | ⟨o, its, n, hk, hc, _⟩
  · exact .base (.lst h)
  · exact .base (.frz h)
  · exact .kList hk hc
theorem ty_st {a : Addr} {xs : List V} (h : SqT K H a xs) : TyX K H (.ref a) (.type "tuple") := by
  rcases h with (h | ⟨o, h⟩) | ⟨o, its, n, hk, hc, _⟩
  · exact .base (.tup h)
  · exact .fTuple h
  · exact .kTuple hk hc
theorem s_isiL {n : String} {a : Addr} {xs : List V} {b : Bool} (hs : SqL K H a xs) (h : kitB "list" n = some b) (q : Q (.bl b) H) : rIsi K [.ref a, .ty n] H Q := ⟨.ref a, .ty n, _, _, b, rfl, .ty n, ty_sq hs, kit_ty h, q⟩
theorem s_isiT {n : String} {a : Addr} {xs : List V} {b : Bool} (hs : SqT K H a xs) (h : kitB "tuple" n = some b) (q : Q (.bl b) H) : rIsi K [.ref a, .ty n] H Q := ⟨.ref a, .ty n, _, _, b, rfl, .ty n, ty_st hs, kit_ty h, q⟩
theorem k_ii : kitB "int" "int" = some true := by decide +kernel
theorem k_ib : kitB "int" "bool" = some false := by decide +kernel
theorem k_is : kitB "int" "str" = some false := by decide +kernel
theorem k_il : kitB "int" "list" = some false := by decide +kernel
theorem k_bi : kitB "bool" "int" = some true := by decide +kernel
theorem k_si : kitB "str" "int" = some false := by decide +kernel
theorem k_sl : kitB "str" "list" = some false := by decide +kernel
theorem k_li : kitB "list" "int" = some false := by decide +kernel
theorem k_ll : kitB "list" "list" = some true := by decide +kernel
theorem k_ti : kitB "tuple" "int" = some false := by decide +kernel
theorem k_tl : kitB "tuple" "list" = some false := by decide +kernel
theorem k_ni : kitB "NoneType" "int" = some false := by decide +kernel
theorem k_nl : kitB "NoneType" "list" = some false := by decide +kernel
end

section
variable {K : PySem.W.Frag} {σ : L2.St} {H : Hp} {ta tb tl te : TE} {tt : TT} {D : Ends} {Q : VK} {g : TG} {ts : TS} {vs : List Nat}
theorem s_wp {A B : L2.St} {R : Prop} (h : wipe A vs = wipe B vs) (q : R) : wipe A vs = wipe B vs ∧ R := ⟨h, q⟩
/-! lists of a range -/
/-! loops: what a for asks, and how it is answered by an invariant -/
noncomputable def ForJ (g : TG) (tb : TS) (D : Ends) (σ : L2.St) (J : It) (H1 : Hp) : Prop := tFor (fun _ H R => R J H) g tb D σ H1
noncomputable def ForL (K : PySem.W.Frag) (g : TG) (tb : TS) (D : Ends) (σ : L2.St) (x : V) (H1 : Hp) : Prop := ∃ a, x = .ref a ∧ (∃ xs, SqL K H1 a xs) ∧ ForJ g tb D σ (Itl K a) H1
noncomputable def ForT (K : PySem.W.Frag) (g : TG) (tb : TS) (D : Ends) (σ : L2.St) (x : V) (H1 : Hp) : Prop := ∃ a, x = .ref a ∧ (∃ xs, SqT K H1 a xs) ∧ ForJ g tb D σ (Itt K a) H1
noncomputable def ForR1 (g : TG) (tb : TS) (D : Ends) (σ : L2.St) (vs : List V) (H1 : Hp) : Prop := ∃ j : Int, vs = [.int j] ∧ -(2 ^ 62) ≤ j ∧ j < 2 ^ 62 ∧ ForJ g tb D σ (Itr 0 j.toNat) H1
noncomputable def ForR2 (g : TG) (tb : TS) (D : Ends) (σ : L2.St) (vs : List V) (H1 : Hp) : Prop := ∃ i j : Int, vs = [.int i, .int j] ∧ (-(2 ^ 62) ≤ i ∧ i < 2 ^ 62 ∧ -(2 ^ 62) ≤ j ∧ j < 2 ^ 62) ∧ ForJ g tb D σ (Itr i (j - i).toNat) H1
noncomputable def ForE (K : PySem.W.Frag) (g : TG) (tb : TS) (D : Ends) (σ : L2.St) (vs : List V) (H1 : Hp) : Prop := ∃ a xs, vs = [.ref a] ∧ SqL K H1 a xs ∧ ForJ g tb D σ (Ite K a) H1
noncomputable def ForZ (K : PySem.W.Frag) (g : TG) (tb : TS) (D : Ends) (σ : L2.St) (vs : List V) (H1 : Hp) : Prop := ∃ a b xs ys, vs = [.ref a, .ref b] ∧ SqL K H1 a xs ∧ SqL K H1 b ys ∧ ForJ g tb D σ (Itz K a b) H1
noncomputable def ForS (g : TG) (tb : TS) (D : Ends) (σ : L2.St) (v : V) (H1 : Hp) : Prop := ∃ x, v = .str x ∧ ForJ g tb D σ (Its x) H1
theorem s_forL (q : tl σ H fun x H1 => ForL K g ts D σ x H1) : tFor (iList K tl) g ts D σ H := q
theorem s_forR1 {ta : TA} (q : ta σ H fun x H1 => ForR1 g ts D σ x H1) : tFor (iRng1 ta) g ts D σ H := q
theorem u_forL {a : Addr} {xs : List V} (Pv : Nat → L2.St → Hp → Prop) (h : SqL K H a xs) (h0 : Pv 0 σ H) (hl : ∀ i σ H, i ≤ xs.length → Pv i σ H → SqL K H a xs)
    (hs : ∀ i x σ H, xs[i]? = some x → Pv i σ H → g x σ H fun σ2 H2 => ts { D with nx := Pv (i + 1), ct := Pv (i + 1), bk := D.nx } σ2 H2) (hd : ∀ σ H, Pv xs.length σ H → D.nx σ H) : ForL K g ts D σ (.ref a) H :=
  ⟨a, rfl, ⟨xs, h⟩, for_list Pv h0 hl hs hd⟩
theorem u_forR1 {n : Int} (Pv : Nat → L2.St → Hp → Prop) (hn : -1000000000000 ≤ n ∧ n ≤ 1000000000000) (h0 : Pv 0 σ H)
    (hs : ∀ (i : Nat) σ H, (i : Int) < n → Pv i σ H → g (.int (i : Int)) σ H fun σ2 H2 => ts { D with nx := Pv (i + 1), ct := Pv (i + 1), bk := D.nx } σ2 H2) (hd : ∀ σ H, Pv n.toNat σ H → D.nx σ H) : ForR1 g ts D σ [.int n] H := by
  have e62 : (2 : Int) ^ 62 = 4611686018427387904 := by decide
  refine ⟨n, rfl, by omega, by omega, for_range (lo := 0) (n := n.toNat) Pv h0 (fun i σ H hi p => ?_) hd⟩
  have e : (0 : Int) + (i : Int) = (i : Int) := Int.zero_add _
  rw [e]
  exact hs i σ H (by omega) p
/-! comprehensions -/
noncomputable def LcJ (g : TG) (tt : TT) (te : TE) (vs : List Nat) (σ : L2.St) (J : It) (H1 : Hp) (Q : VK) : Prop := tLc (fun _ H R => R J H) g tt te vs σ H1 Q
noncomputable def LcL (K : PySem.W.Frag) (g : TG) (tt : TT) (te : TE) (vs : List Nat) (σ : L2.St) (x : V) (H1 : Hp) (Q : VK) : Prop := ∃ a, x = .ref a ∧ (∃ xs, SqL K H1 a xs) ∧ LcJ g tt te vs σ (Itl K a) H1 Q
noncomputable def LcT (K : PySem.W.Frag) (g : TG) (tt : TT) (te : TE) (vs : List Nat) (σ : L2.St) (x : V) (H1 : Hp) (Q : VK) : Prop := ∃ a, x = .ref a ∧ (∃ xs, SqT K H1 a xs) ∧ LcJ g tt te vs σ (Itt K a) H1 Q
noncomputable def LcR1 (g : TG) (tt : TT) (te : TE) (vs : List Nat) (σ : L2.St) (x : List V) (H1 : Hp) (Q : VK) : Prop := ∃ j : Int, x = [.int j] ∧ -(2 ^ 62) ≤ j ∧ j < 2 ^ 62 ∧ LcJ g tt te vs σ (Itr 0 j.toNat) H1 Q
noncomputable def LcR2 (g : TG) (tt : TT) (te : TE) (vs : List Nat) (σ : L2.St) (x : List V) (H1 : Hp) (Q : VK) : Prop := ∃ i j : Int, x = [.int i, .int j] ∧ (-(2 ^ 62) ≤ i ∧ i < 2 ^ 62 ∧ -(2 ^ 62) ≤ j ∧ j < 2 ^ 62) ∧ LcJ g tt te vs σ (Itr i (j - i).toNat) H1 Q
noncomputable def LcE (K : PySem.W.Frag) (g : TG) (tt : TT) (te : TE) (vs : List Nat) (σ : L2.St) (x : List V) (H1 : Hp) (Q : VK) : Prop := ∃ a xs, x = [.ref a] ∧ SqL K H1 a xs ∧ LcJ g tt te vs σ (Ite K a) H1 Q
noncomputable def LcZ (K : PySem.W.Frag) (g : TG) (tt : TT) (te : TE) (vs : List Nat) (σ : L2.St) (x : List V) (H1 : Hp) (Q : VK) : Prop := ∃ a b xs ys, x = [.ref a, .ref b] ∧ SqL K H1 a xs ∧ SqL K H1 b ys ∧ LcJ g tt te vs σ (Itz K a b) H1 Q
theorem s_lcL (q : tl σ H fun x H1 => LcL K g tt te vs σ x H1 Q) : tLc (iList K tl) g tt te vs σ H Q := q
theorem s_lcZ {ta : TA} (q : ta σ H fun x H1 => LcZ K g tt te vs σ x H1 Q) : tLc (iZip K ta) g tt te vs σ H Q := q
/-- the turns of a comprehension: what is kept stands in the relation R to its item; R is told at any heap that has all but the list that is made -/
theorem lc_turns {α : Type} {J : It} (l : List α) (p : α → Bool) (R : α → V → Hp → Prop) (mono : ∀ x y H1 H2, Ex H1 H2 → R x y H1 → R x y H2) (hz : l.length ≤ 40000)
    (hgo : ∀ i H', i < l.length → Ex H H' → J.go i H') (hst : ∀ H', Ex H H' → J.stop l.length H')
    (turn : ∀ D, H D = none → ∀ (i : Nat) x, l[i]? = some x → ∀ v H0 H', Ex H H0 → (∃ o, H0 D = some o) → J.yld i H0 v H' → Ex H0 H' ∧
      ∀ (A : VK) (B : Hp → Prop), (p x = true → ∀ y H4, Ex H' H4 → (∀ Z, ExM D H4 Z → Ex H Z → R x y Z) → A y H4) → (p x = false → ∀ H3, Ex H' H3 → B H3) →
        g v (wipe σ vs) H' fun σ2 H2 => wipe σ2 vs = wipe σ vs ∧ tt σ2 H2 fun b H3 => if b = true then te σ2 H3 A else B H3)
    (fin : ∀ D H' ys, H D = none → Ex H H' → H' D = some (.lst ys) → Paired (fun x y => R x y H') (l.filter p) ys → Q (.ref D) H') : LcJ g tt te vs σ J H Q := by
  intro D hD
  refine ⟨fun i m H' => m = l.length - i ∧ i ≤ l.length ∧ Ex H H' ∧ ∃ ys, H' D = some (.lst ys) ∧ ys.length ≤ i ∧ ∃ Z, Z D = none ∧ Ex Z H' ∧ ExM D H' Z ∧ Paired (fun x y => R x y Z) ((l.take i).filter p) ys,
    ⟨l.length, by omega, by omega, Ex.new hD, [], upd_same, Nat.le_refl _, H, hD, Ex.new hD, fun b o n e => by rw [upd_ne n] at e; exact e, .nil⟩, ?_⟩
  rintro i m H' ⟨rfl, hi, e, ys, hys, hly, Z, zD, zE, zM, pr⟩
  by_cases hlt : i < l.length
  · refine .inr ⟨hgo i H' hlt e, fun H'' => i + 1 ≤ l.length ∧ Ex H H'' ∧ ∃ ys, H'' D = some (.lst ys) ∧ ys.length ≤ i + 1 ∧ ∃ Z, Z D = none ∧ Ex Z H'' ∧ ExM D H'' Z ∧ Paired (fun x y => R x y Z) ((l.take (i + 1)).filter p) ys,
      fun H'' q => ⟨l.length - (i + 1), by omega, rfl, q⟩, fun v H2 hy => ?_⟩
    have ei : l[i]? = some l[i] := List.getElem?_eq_getElem hlt
    have e1 : l.take (i + 1) = l.take i ++ [l[i]] := by rw [List.take_add_one, ei]; rfl
    obtain ⟨ey, tn⟩ := turn D hD i _ ei v H' H2 e ⟨_, hys⟩ hy
    refine tn _ _ (fun hp y H4 e4 r => ?_) (fun hp H3 e3 => ?_)
    · have e5 := ey.trans e4
      have eD : Ex H (upd H4 D (.lst (ys ++ [y]))) := (e.trans e5).mut hD
      let Z4 : Hp := fun b => if b = D then none else H4 b
      have k1 : Z4 D = none := if_pos rfl
      have k2 : ExM D H4 Z4 := fun b o n q => by
        show (if b = D then none else H4 b) = some o
        rw [if_neg n]
        exact q
      have k3 : Ex Z Z4 := fun b o q => k2 b o (ne_of_none q zD) (e5 _ _ (zE b o q))
      have k4 : Ex H Z4 := fun b o q => k2 b o (ne_of_none q hD) (e5 _ _ (e b o q))
      refine ⟨ys, e5 _ _ hys, sz_lt (by omega), by omega, eD, _, upd_same, by rw [List.length_append]; show _ + 1 ≤ _; omega, Z4, k1, fun b o q => ?_, fun b o n q => ?_, ?_⟩
      · have nb : b ≠ D := ne_of_none q k1
        rw [upd_ne nb]
        have q' : (if b = D then none else H4 b) = some o := q
        rw [if_neg nb] at q'
        exact q'
      · rw [upd_ne n] at q
        exact k2 b o n q
      · rw [e1, List.filter_append, List.filter_cons, if_pos hp]
        exact Paired.snoc (Paired.mapP pr fun a b r => mono a b _ _ k3 r) (r Z4 k2 k4)
    · refine ⟨by omega, e.trans (ey.trans e3), ys, (ey.trans e3) _ _ hys, by omega, ?_⟩
      let Z4 : Hp := fun b => if b = D then none else H3 b
      have k1 : Z4 D = none := if_pos rfl
      have k2 : ExM D H3 Z4 := fun b o n q => by
        show (if b = D then none else H3 b) = some o
        rw [if_neg n]
        exact q
      have k3 : Ex Z Z4 := fun b o q => k2 b o (ne_of_none q zD) ((ey.trans e3) _ _ (zE b o q))
      refine ⟨Z4, k1, fun b o q => ?_, k2, ?_⟩
      · have nb : b ≠ D := ne_of_none q k1
        have q' : (if b = D then none else H3 b) = some o := q
        rw [if_neg nb] at q'
        exact q'
      · rw [e1, List.filter_append, List.filter_cons, if_neg (by rw [hp]; exact Bool.false_ne_true)]
        show Paired _ (_ ++ []) _
        rw [List.append_nil]
        exact Paired.mapP pr fun a b r => mono a b _ _ k3 r
  · have ei : i = l.length := by omega
    subst ei
    rw [List.take_length] at pr
    exact .inl ⟨hst H' e, fin D H' ys hD e hys (Paired.mapP pr fun a b r => mono a b _ _ zE r)⟩
theorem pair_map {α β : Type} {F : α → β} : ∀ {l : List α} {ys : List β}, Paired (fun x y => y = F x) l ys → ys = l.map F
  | _, _, .nil => rfl
  | _, _, .cons h t => by rw [h, pair_map t]; rfl
/-- values of a pure element over a list: they hang on the item alone -/
theorem u_lcL {α : Type} {a : Addr} (em : α → V) (l : List α) (p : α → Bool) (F : α → V) (hS : SqL K H a (l.map em)) (hz : l.length ≤ 40000)
    (turn : ∀ x ∈ l, ∀ H', Ex H H' → ∀ (A : VK) (B : Hp → Prop), (p x = true → ∀ H4, Ex H' H4 → A (F x) H4) → (p x = false → ∀ H3, Ex H' H3 → B H3) →
      g (em x) (wipe σ vs) H' fun σ2 H2 => wipe σ2 vs = wipe σ vs ∧ tt σ2 H2 fun b H3 => if b = true then te σ2 H3 A else B H3)
    (fin : ∀ D H', H D = none → Ex H H' → H' D = some (.lst ((l.filter p).map F)) → Q (.ref D) H') : LcL K g tt te vs σ (.ref a) H Q := by
  refine ⟨a, rfl, ⟨_, hS⟩, lc_turns l p (fun x y _ => y = F x) (fun _ _ _ _ _ r => r) hz (fun i H' hi e => ⟨_, em l[i], e.sq hS, by rw [List.getElem?_map, List.getElem?_eq_getElem hi]; rfl⟩) (fun H' e => ⟨_, e.sq hS, by rw [List.length_map]; exact Nat.le_refl _⟩)
    (fun D hD i x hx v H0 H' e _ hy => ?_) (fun D H' ys hD e h pr => fin D H' hD e (by rw [h, pair_map pr]))⟩
  obtain ⟨rfl, fv⟩ := hy
  have ev : v = em x := by
    have q := fv _ (e.sq hS)
    rw [List.getElem?_map, hx] at q
    exact (Option.some.inj q).symm
  subst ev
  exact ⟨Ex.refl _, fun A B h1 h2 => turn x (List.mem_of_getElem? hx) _ e A B (fun hp H4 e4 => h1 hp _ H4 e4 fun _ _ _ => rfl) h2⟩
theorem filter_yes {α : Type} : ∀ l : List α, l.filter (fun _ => true) = l
  | [] => rfl
  | x :: l => by rw [List.filter_cons, if_pos rfl, filter_yes l]
/-- .. without a test -/
theorem u_mapL {α : Type} {a : Addr} (em : α → V) (l : List α) (F : α → V) (hS : SqL K H a (l.map em)) (hz : l.length ≤ 40000)
    (turn : ∀ x ∈ l, ∀ H', Ex H H' → ∀ A : VK, (∀ H4, Ex H' H4 → A (F x) H4) → g (em x) (wipe σ vs) H' fun σ2 H2 => wipe σ2 vs = wipe σ vs ∧ te σ2 H2 A)
    (fin : ∀ D H', H D = none → Ex H H' → H' D = some (.lst (l.map F)) → Q (.ref D) H') : LcL K g tYes te vs σ (.ref a) H Q :=
  u_lcL em l (fun _ => true) F hS hz (fun x hx H' e A B h1 _ => by
    have e2 : (fun (σ2 : L2.St) H2 => wipe σ2 vs = wipe σ vs ∧ tYes σ2 H2 fun b H3 => if b = true then te σ2 H3 A else B H3) = fun σ2 H2 => wipe σ2 vs = wipe σ vs ∧ te σ2 H2 A := by
      funext σ2 H2
      show (_ ∧ if true = true then te σ2 H2 A else B H2) = _
      rw [if_pos rfl]
    rw [e2]
    exact turn x hx H' e A (h1 rfl)) (by rw [filter_yes]; exact fin)
theorem u_mapLI {α : Type} {a : Addr} (em : α → V) (l : List α) (f : α → Int) (hS : SqL K H a (l.map em)) (hz : l.length ≤ 40000)
    (turn : ∀ x ∈ l, ∀ H', Ex H H' → ∀ A : VK, (∀ H4, Ex H' H4 → A (.int (f x)) H4) → g (em x) (wipe σ vs) H' fun σ2 H2 => wipe σ2 vs = wipe σ vs ∧ te σ2 H2 A)
    (fin : ∀ D H', H D = none → Ex H H' → H' D = some (.lst ((l.map f).map V.int)) → Q (.ref D) H') : LcL K g tYes te vs σ (.ref a) H Q :=
  u_mapL em l (fun x => .int (f x)) hS hz turn fun D H' h1 h2 h3 => fin D H' h1 h2 (by rw [h3, List.map_map]; rfl)
end
/-! ### greatest, least, sorted -/
noncomputable def maxI (l : List Int) : Int := match l with | [] => 0 | a :: t => t.foldl max a
noncomputable def minI (l : List Int) : Int := match l with | [] => 0 | a :: t => t.foldl min a
noncomputable def sortI (l : List Int) : List Int := l.mergeSort (fun a b => decide (a ≤ b))
theorem sortI_perm (l : List Int) : (sortI l).Perm l := List.mergeSort_perm l _
theorem sortI_sorted (l : List Int) : (sortI l).Pairwise (· ≤ ·) := (List.pairwise_mergeSort (le := fun a b : Int => decide (a ≤ b)) (fun a b c h1 h2 => decide_eq_true (Int.le_trans (of_decide_eq_true h1) (of_decide_eq_true h2))) (fun a b => by
  rcases Int.le_total a b with h | h
  · rw [decide_eq_true h]; rfl
  · rw [decide_eq_true h, Bool.or_true]) l).imp fun h => of_decide_eq_true h
theorem sortI_of {l l' : List Int} (p : l'.Perm l) (s : l'.Pairwise (· ≤ ·)) : l' = sortI l :=
  List.Perm.eq_of_pairwise (le := fun a b : Int => a ≤ b) (fun a b _ _ h1 h2 => Int.le_antisymm h1 h2) s (sortI_sorted l) (p.trans (sortI_perm l).symm)
theorem sortI_len (l : List Int) : (sortI l).length = l.length := (sortI_perm l).length_eq
/-! ### heaps as letters: the next heap, and what is known of it -/
theorem ex_ap {H H' : Hp} {a : Addr} {o : HO} (e : Ex H H') (h : H a = some o) : H' a = some o := e a o h
section
variable {K : PySem.W.Frag} {σ : L2.St} {H : Hp} {Q : VK} {v : V} {R : Hp → Prop}
theorem n_lst {xs : List V} (h : xs.length ≤ 100000) (q : ∀ p H', H p = none → Ex H H' → H' p = some (.lst xs) → Q (.ref p) H') : NewL xs H Q := ⟨sz_of h, fun p hp => q p _ hp (Ex.new hp) upd_same⟩
theorem n_tup {xs : List V} (h : xs.length ≤ 100000) (q : ∀ p H', H p = none → Ex H H' → H' p = some (.tup xs) → Q (.ref p) H') : NewT xs H Q := ⟨sz_of h, fun p hp => q p _ hp (Ex.new hp) upd_same⟩
theorem n_slL {a : Addr} {xs : List V} {lo hi : Option Int} (h : SqL K H a xs) (q : ∀ p H', H p = none → Ex H H' → H' p = some (.lst (cutV xs lo hi)) → Q (.ref p) H') : rSlL K (.ref a) lo hi H Q := ⟨a, xs, rfl, h, fun p hp => q p _ hp (Ex.new hp) upd_same⟩
theorem n_cat {a b : Addr} {xs ys : List V} (h1 : H a = some (.lst xs)) (h2 : H b = some (.lst ys)) (hz : xs.length + ys.length ≤ 100000) (q : ∀ p H', H p = none → Ex H H' → H' p = some (.lst (xs ++ ys)) → Q (.ref p) H') : rPlus (.ref a) (.ref b) H Q :=
  .inr (.inl ⟨a, b, xs, ys, rfl, rfl, h1, h2, sz_of hz, fun p hp => q p _ hp (Ex.new hp) upd_same⟩)
theorem n_setL {a : Addr} {xs : List V} {k : Int} {j : Nat} (h : H a = some (.lst xs)) (hk : ixN xs.length k = some j) (q : ∀ H', ExM a H H' → H' a = some (.lst (xs.set j v)) → R H') : rSetL (.ref a) (.int k) v H R := ⟨a, xs, k, j, rfl, rfl, h, hk, q _ ExM.upd upd_same⟩
noncomputable def rRevL (K : PySem.W.Frag) (x : V) (H : Hp) (Q : VK) : Prop := ∃ a xs, x = .ref a ∧ SqL K H a xs ∧ ∀ p, H p = none → Q (.ref p) (upd H p (.lst xs.reverse))
theorem n_sorted {a : Addr} {ns : List Int} (h : SqL K H a (ns.map V.int)) (q : ∀ p H', H p = none → Ex H H' → H' p = some (.lst ((sortI ns).map V.int)) → Q (.ref p) H') : rSortedI K [.ref a] H Q := ⟨a, ns, rfl, h, fun ns' p h1 h2 hp => by rw [sortI_of h1 h2]; exact q p _ hp (Ex.new hp) upd_same⟩
theorem n_app {a : Addr} {xs : List V} (h : H a = some (.lst xs)) (hz : xs.length < 100000) (q : ∀ H', ExM a H H' → H' a = some (.lst (xs ++ [v])) → Q .non H') : rAppend (.ref a) [v] H Q := ⟨a, xs, v, rfl, rfl, h, sz_lt hz, q _ ExM.upd upd_same⟩
end

/-- the cut of a list, of anything -/
noncomputable def cutI {α : Type} (xs : List α) (lo hi : Option Int) : List α := (xs.drop (HT.sIx xs.length 0 lo)).take (HT.sIx xs.length xs.length hi - HT.sIx xs.length 0 lo)
theorem cutV_map {α : Type} (f : α → V) (xs : List α) (lo hi : Option Int) : cutV (xs.map f) lo hi = (cutI xs lo hi).map f := by
  unfold cutV cutI
  rw [List.length_map, ← List.map_drop, ← List.map_take]
theorem cutV_ints (xs : List Int) (lo hi : Option Int) : cutV (xs.map V.int) lo hi = (cutI xs lo hi).map V.int := cutV_map _ _ _ _
theorem cutI_to {α : Type} (xs : List α) {k : Int} (h : 0 ≤ k) : cutI xs none (some k) = xs.take k.toNat := by
  obtain ⟨n, rfl⟩ : ∃ n : Nat, k = (n : Int) := ⟨k.toNat, by omega⟩
  unfold cutI
  rw [HT.sIx_none, HT.sIx_nat, List.drop_zero, Nat.sub_zero, Int.toNat_natCast, List.take_eq_take_iff]
  omega
theorem cutI_from {α : Type} (xs : List α) {k : Int} (h : 0 ≤ k) : cutI xs (some k) none = xs.drop k.toNat := by
  obtain ⟨n, rfl⟩ : ∃ n : Nat, k = (n : Int) := ⟨k.toNat, by omega⟩
  unfold cutI
  rw [HT.sIx_none, HT.sIx_nat, Int.toNat_natCast]
  by_cases hn : n ≤ xs.length
  · rw [Nat.min_eq_left hn, List.take_of_length_le (by rw [List.length_drop]; exact Nat.le_refl _)]
  · rw [Nat.min_eq_right (by omega), Nat.sub_self, List.take_zero, List.drop_of_length_le (by omega)]
section
variable {K : PySem.W.Frag} {H : Hp} {Q : VK} {a : Addr}
theorem s_sum {ns : List Int} (h : SqL K H a (ns.map V.int)) (q : Q (.int ns.sum) H) : rSum K [.ref a] H Q := ⟨a, ns, rfl, h, q⟩
theorem s_all {bs : List Bool} (h : SqL K H a (bs.map V.bl)) (q : Q (.bl (bs.all id)) H) : rAll K [.ref a] H Q := ⟨a, bs, rfl, h, q⟩
end
section
variable {K : PySem.W.Frag} {H : Hp} {Q : VK} {a : Addr} {i : Int}
end
theorem cx_K {CX : CXT} {P : Program} {w : World} {K : PySem.W.Frag} {mg : Str → Option Value} {base : Heap} {N : List Str} {x : Str} {sc : Scope} {f : Addr} {cdv : Value} {A : Around} {outer : List Env} {s : Shared} {H : Hp} {E : XK} :
    (cxOf CX P w K mg base N x sc f cdv A outer s H E).nox.K = K := rfl
theorem cx_K2 {CX : CXT} {P : Program} {w : World} {K : PySem.W.Frag} {mg : Str → Option Value} {base : Heap} {N : List Str} {x : Str} {sc : Scope} {f : Addr} {cdv : Value} {A : Around} {outer : List Env} {s : Shared} {H : Hp} {E : XK} :
    (cxOf CX P w K mg base N x sc f cdv A outer s H E).K = K := rfl
/-! ### places -/
/-! ### data with types: what a value is as a thing of plain Lean -/
class Py (α : Type) where
  d : α → PyData
  dep : Nat
  depth : ∀ a, (d a).depth ≤ dep
  can : ∀ a, (d a).canLay0 = true
  eqv : ∀ a b, (PyData.eqv (d a) (d b) = true ↔ a = b)
instance : Py Int := ⟨PyData.int, 0, fun _ => Nat.le_refl _, fun _ => rfl, fun a b => by rw [PyData.eqv]; exact beq_iff_eq⟩
instance : Py Bool := ⟨PyData.bool, 0, fun _ => Nat.le_refl _, fun _ => rfl, fun a b => by rw [PyData.eqv]; exact beq_iff_eq⟩
theorem eqvAll_iff {α : Type} [Py α] : ∀ xs ys : List α, (PyData.eqvAll (xs.map Py.d) (ys.map Py.d) = true ↔ xs = ys)
  | [], [] => by simp [PyData.eqvAll]
  | [], _ :: _ => by simp [PyData.eqvAll]
  | _ :: _, [] => by simp [PyData.eqvAll]
  | x :: xs, y :: ys => by
    rw [List.map_cons, List.map_cons, PyData.eqvAll, Bool.and_eq_true, Py.eqv, eqvAll_iff xs ys, List.cons.injEq]
theorem canAll_of {α : Type} [Py α] : ∀ xs : List α, PyData.canLayAll0 (xs.map Py.d) = true
  | [] => rfl
  | x :: xs => by rw [List.map_cons, PyData.canLayAll0, Py.can, canAll_of xs]; rfl
theorem depthAll_of {α : Type} [Py α] : ∀ xs : List α, PyData.depthAll (xs.map Py.d) ≤ Py.dep α
  | [] => Nat.zero_le _
  | x :: xs => by
    rw [List.map_cons, PyData.depthAll]
    exact Nat.max_le.mpr ⟨Py.depth x, depthAll_of xs⟩
instance {α : Type} [Py α] : Py (List α) := ⟨fun xs => .list (xs.map Py.d), Py.dep α + 1, fun xs => by rw [PyData.depth]; exact Nat.succ_le_succ (depthAll_of xs), fun xs => by rw [PyData.canLay0]; exact canAll_of xs, fun a b => by rw [PyData.eqv]; exact eqvAll_iff a b⟩
instance {α β : Type} [Py α] [Py β] : Py (α × β) := ⟨fun p => .tuple [Py.d p.1, Py.d p.2], max (Py.dep α) (Py.dep β) + 1, fun p => by
    simp only [PyData.depth, PyData.depthAll]
    have h1 := Py.depth p.1
    have h2 := Py.depth p.2
    omega, fun p => by simp only [PyData.canLay0, PyData.canLayAll0, Py.can]; rfl, fun a b => by
    simp only [PyData.eqv, PyData.eqvAll, Bool.and_true, Bool.and_eq_true, Py.eqv]
    exact ⟨fun h => Prod.ext h.1 h.2, fun h => by rw [h]; exact ⟨rfl, rfl⟩⟩⟩
/-- a triple | four, as one tuple -/
structure T3 (α β γ : Type) where
  a : α
  b : β
  c : γ
  deriving DecidableEq
structure T4 (α β γ δ : Type) where
  a : α
  b : β
  c : γ
  d : δ
  deriving DecidableEq
instance {α β γ : Type} [Py α] [Py β] [Py γ] : Py (T3 α β γ) := ⟨fun p => .tuple [Py.d p.a, Py.d p.b, Py.d p.c], max (Py.dep α) (max (Py.dep β) (Py.dep γ)) + 1, fun p => by
    simp only [PyData.depth, PyData.depthAll]
    have h1 := Py.depth p.a
    have h2 := Py.depth p.b
    have h3 := Py.depth p.c
    omega, fun p => by simp only [PyData.canLay0, PyData.canLayAll0, Py.can]; rfl, fun a b => by
    obtain ⟨a1, a2, a3⟩ := a
    obtain ⟨b1, b2, b3⟩ := b
    simp only [PyData.eqv, PyData.eqvAll, Bool.and_true, Bool.and_eq_true, Py.eqv, T3.mk.injEq]⟩
instance {α β γ δ : Type} [Py α] [Py β] [Py γ] [Py δ] : Py (T4 α β γ δ) := ⟨fun p => .tuple [Py.d p.a, Py.d p.b, Py.d p.c, Py.d p.d], max (Py.dep α) (max (Py.dep β) (max (Py.dep γ) (Py.dep δ))) + 1, fun p => by
    simp only [PyData.depth, PyData.depthAll]
    have h1 := Py.depth p.a
    have h2 := Py.depth p.b
    have h3 := Py.depth p.c
    have h4 := Py.depth p.d
    omega, fun p => by simp only [PyData.canLay0, PyData.canLayAll0, Py.can]; rfl, fun a b => by
    obtain ⟨a1, a2, a3, a4⟩ := a
    obtain ⟨b1, b2, b3, b4⟩ := b
    simp only [PyData.eqv, PyData.eqvAll, Bool.and_true, Bool.and_eq_true, Py.eqv, T4.mk.injEq]⟩
theorem eqv_dec {α : Type} [Py α] [DecidableEq α] (a b : α) : PyData.eqv (Py.d a) (Py.d b) = decide (a = b) := by
  by_cases h : a = b
  · rw [decide_eq_true h]
    exact (Py.eqv a b).mpr h
  · rw [decide_eq_false h]
    cases e : PyData.eqv (Py.d a) (Py.d b) with
    | true => exact absurd ((Py.eqv a b).mp e) h
    | false => rfl
theorem shaped_of {α : Type} [Py α] (a : α) (h : Py.dep α ≤ 64) : SeqAt.shaped (Py.d a) = true := by
  unfold SeqAt.shaped
  rw [Py.can, decide_eq_true (Nat.le_trans (Py.depth a) h)]
  rfl
/-- the value v stands in H as the thing x -/
noncomputable abbrev Is (K : PySem.W.Frag) (H : Hp) {α : Type} [Py α] (v : V) (x : α) : Prop := Dp K H v (Py.d x)
mutual
theorem Dp.ex {K : PySem.W.Frag} {H H' : Hp} (e : Ex H H') : ∀ {v : V} {d : PyData}, Dp K H v d → Dp K H' v d
  | _, _, .non => .non
  | _, _, .bl b => .bl b
  | _, _, .int i => .int i
  | _, _, .str x => .str x
  | _, _, .lst s a => .lst (e.sq s) (DpAll.ex e a)
  | _, _, .tup s a => .tup (e.st s) (DpAll.ex e a)
theorem DpAll.ex {K : PySem.W.Frag} {H H' : Hp} (e : Ex H H') : ∀ {vs : List V} {ds : List PyData}, DpAll K H vs ds → DpAll K H' vs ds
  | _, _, .nil => .nil
  | _, _, .cons a r => .cons (Dp.ex e a) (DpAll.ex e r)
end
theorem Is.ex {K : PySem.W.Frag} {H H' : Hp} {α : Type} [Py α] {v : V} {x : α} (e : Ex H H') (h : Is K H v x) : Is K H' v x := Dp.ex e h
theorem Is.int {K : PySem.W.Frag} {H : Hp} (i : Int) : Is K H (.int i) i := Dp.int i
theorem Is.pair {K : PySem.W.Frag} {H : Hp} {α β : Type} [Py α] [Py β] {a : Addr} {v w : V} {x : α} {y : β} (h : SqT K H a [v, w]) (h1 : Is K H v x) (h2 : Is K H w y) : Is K H (.ref a) (x, y) := .tup h (.cons h1 (.cons h2 .nil))
/-- the items of a list of data -/
theorem Is.list {K : PySem.W.Frag} {H : Hp} {α : Type} [Py α] {v : V} {xs : List α} (h : Is K H v xs) : ∃ a vs, v = .ref a ∧ SqL K H a vs ∧ Paired (fun v x => Is K H v x) vs xs := by
  have go : ∀ (vs : List V) (ys : List α), DpAll K H vs (ys.map Py.d) → Paired (fun v x => Is K H v x) vs ys := by
    intro vs ys
    induction ys generalizing vs with
    | nil => intro h; cases h; exact .nil
    | cons y ys ih =>
      intro h
      cases h with
      | cons h1 h2 => exact .cons h1 (ih _ h2)
  have h' : Dp K H v (.list (xs.map Py.d)) := h
  cases h' with
  | lst s a => exact ⟨_, _, rfl, s, go _ _ a⟩
theorem Is.of_list {K : PySem.W.Frag} {H : Hp} {α : Type} [Py α] {a : Addr} {vs : List V} {xs : List α} (s : SqL K H a vs) (h : Paired (fun v x => Is K H v x) vs xs) : Is K H (.ref a) xs := by
  have go : ∀ {vs : List V} {ys : List α}, Paired (fun v x => Is K H v x) vs ys → DpAll K H vs (ys.map Py.d) := by
    intro vs ys h
    induction h with
    | nil => exact .nil
    | cons h1 _ ih => exact .cons h1 ih
  exact .lst s (go h)
theorem s_eqP {α : Type} [Py α] [DecidableEq α] {K : PySem.W.Frag} {H : Hp} {Q : VK} {v w : V} {x y : α} (h1 : Is K H v x) (h2 : Is K H w y) (hd : Py.dep α ≤ 64) (q : Q (.bl (decide (x = y))) H) : rEqA K v w H Q :=
  .inr ⟨_, _, h1, h2, shaped_of x hd, shaped_of y hd, by rw [eqv_dec]; exact q⟩
theorem s_neP {α : Type} [Py α] [DecidableEq α] {K : PySem.W.Frag} {H : Hp} {Q : VK} {v w : V} {x y : α} (h1 : Is K H v x) (h2 : Is K H w y) (hd : Py.dep α ≤ 64) (q : Q (.bl (decide (x ≠ y))) H) : rNeA K v w H Q :=
  .inr ⟨_, _, h1, h2, shaped_of x hd, shaped_of y hd, by rw [eqv_dec, ← decide_not]; exact q⟩

/-! ### a list of data that is filled: it stands at D, its items in Z -/
instance : Py (Option Int) := ⟨fun o => match o with | none => .none | some i => .int i, 0, fun o => by cases o <;> exact Nat.le_refl _, fun o => by cases o <;> rfl, fun a b => by
  cases a <;> cases b
  · exact ⟨fun _ => rfl, fun _ => rfl⟩
  · exact ⟨fun h => (Bool.false_ne_true h).elim, fun h => nomatch h⟩
  · exact ⟨fun h => (Bool.false_ne_true h).elim, fun h => nomatch h⟩
  · rename_i x y
    show (x == y) = true ↔ some x = some y
    rw [beq_iff_eq, Option.some.injEq]⟩
theorem Is.no {K : PySem.W.Frag} {H : Hp} : Is K H .non (none : Option Int) := Dp.non
/-- a number or nothing, as a value -/
noncomputable def optV : Option Int → V
  | none => .non
  | some i => .int i
structure LA (K : PySem.W.Frag) (Z H : Hp) (D : Addr) {α : Type} [Py α] (l : List α) : Prop where
  ex : ∃ vs, H D = some (.lst vs) ∧ Paired (fun v x => Is K Z v x) vs l
  zd : Z D = none
  zh : Ex Z H
section
variable {K : PySem.W.Frag} {Z H H' : Hp} {D : Addr} {α : Type} [Py α] {l : List α}
theorem pair_get {F : V → α → Prop} : ∀ {vs : List V} {l : List α}, Paired F vs l → ∀ {i : Nat} {x : α}, l[i]? = some x → ∃ v, vs[i]? = some v ∧ F v x
  | _, _, .nil, i, x, h => by simp at h
  | _, _, .cons a r, 0, x, h => by
    cases h
    exact ⟨_, rfl, a⟩
  | _, _, .cons a r, i + 1, x, h => pair_get r (i := i) h
theorem pair_get' {F : V → α → Prop} : ∀ {vs : List V} {l : List α}, Paired F vs l → ∀ {i : Nat} {v : V}, vs[i]? = some v → ∃ x, l[i]? = some x ∧ F v x
  | _, _, .nil, i, x, h => by simp at h
  | _, _, .cons a r, 0, x, h => by
    cases h
    exact ⟨_, rfl, a⟩
  | _, _, .cons a r, i + 1, x, h => pair_get' r (i := i) h
end

section
variable {K : PySem.W.Frag} {Z H : Hp} {D : Addr} {α β : Type} [Py α] [Py β] {l : List α} {Q : VK} {v : V}
theorem s_lenIs {b : Addr} (a : Is K H (.ref b) l) (q : Q (.int (l.length : Int)) H) : rLen K [.ref b] H Q := by
  obtain ⟨b', vs, e, h, p⟩ := a.list
  cases e
  refine s_lenL h ?_
  rw [Paired.length p]
  exact q
end
section
variable {K : PySem.W.Frag} {Z H : Hp} {α β γ : Type} [Py α] [Py β] [Py γ] {v : V} {σ : L2.St} {R : L2.St → Hp → Prop}
theorem s_gt2 {H : Hp} {b : Addr} {x y : V} {g1 g2 : TG} (h : SqT K H b [x, y]) (q : g1 x σ H fun σ1 H1 => g2 y σ1 H1 R) : gTup K 2 (gCons g1 (gCons g2 gNil)) (.ref b) σ H R := by
  refine ⟨b, _, rfl, h, rfl, x, [y], rfl, ?_⟩
  have e3 : (fun (σ1 : L2.St) H1 => g2 y σ1 H1 R) = fun σ1 H1 => g2 y σ1 H1 fun σ2 H2 => ([] : List V) = [] ∧ R σ2 H2 := by
    funext σ1 H1
    have : R = fun σ2 H2 => ([] : List V) = [] ∧ R σ2 H2 := by
      funext σ2 H2
      exact propext ⟨fun z => ⟨rfl, z⟩, fun z => z.2⟩
    rw [← this]
  rw [e3] at q
  have e4 : (fun (σ1 : L2.St) H1 => g2 y σ1 H1 fun σ2 H2 => ([] : List V) = [] ∧ R σ2 H2) = fun σ1 H1 => gCons g2 gNil [y] σ1 H1 R := by
    funext σ1 H1
    refine propext ⟨fun z => ⟨y, [], rfl, z⟩, fun z => ?_⟩
    obtain ⟨y', r', e, z⟩ := z
    cases e
    exact z
  rw [e4] at q
  exact q
theorem pair_all {F : V → α → Prop} : ∀ {vs : List V} {l : List α}, Paired F vs l → ∀ v ∈ vs, ∃ x ∈ l, F v x
  | _, _, .nil, v, h => nomatch h
  | _, _, .cons a r, v, h => by
    rcases List.mem_cons.mp h with rfl | h
    · exact ⟨_, List.mem_cons_self, a⟩
    · obtain ⟨x, hx, f⟩ := pair_all r v h
      exact ⟨x, List.mem_cons_of_mem _ hx, f⟩
end
/-! ### what a def is, and that it keeps its promise -/
/-- the def x stands in the module as its text says -/
noncomputable def FunAt (K : PySem.W.Frag) (mg : Str → Option Value) (x : Str) (st : Stmt) (ps : List Str) : Prop := ∃ f fd, Fun K x x st f fd ∧ mg x = some (.ref f) ∧ Binds K fd ps []
/-- the def x keeps the promise sp, by at most level k -/
noncomputable def Has (P : Program) (w : World) (K : PySem.W.Frag) (mg : Str → Option Value) (base : Heap) (x : Str) (k : Nat) (sp : Sp) : Prop :=
  ∃ f fd ps, FnOk P w K mg base CX0 k f fd ps sp ∧ mg x = some (.ref f) ∧ PySem.W.keepIn K (.ref f) = true ∧ Binds K fd ps []
section
variable {X : Cx} {k k' : Nat} {sp : Sp} {x : Str} {p pos : Pos} {e : Expr} {es : List Expr} {t : TA}
theorem pe_callH (h : Has X.prog X.w X.K X.mg X.base x k sp) (hk : k ≤ k') (hr : Room k' X.A) (hg : Gl X x) (ha : PA X (e :: es) t) (hdb : (x == ("__debug__" : Str)) = false := by decide)
    (he : starEach (e :: es) X.env = (false, eval e X.env) :: starEach es X.env := by rfl) (hpl : (backTo pos (starEach es X.env)).any (·.1) = false := by rfl) : PE X (.Call (.Name x p) (e :: es) [] pos) (tCall sp [] E0 t) := by
  obtain ⟨f, fd, ps, F, hm, kp, hb⟩ := h
  exact pe_call F (hr.mono hk) hg hm kp hb .nil pass0 ha hdb he hpl
end
section
variable {P : Program} {w : World} {K : PySem.W.Frag} {mg : Str → Option Value} {base : Heap}
theorem fnok_of {x : Str} {st : Stmt} {N ps : List Str} {k : Nat} {sp : Sp} {f : Addr} {fd : FuncData} (F : Fun K x x st f fd) (S : FnScope N ps (defScope st)) (len : ∀ vs H Q E, sp vs H Q E → vs.length = ps.length)
    (hbody : ∀ (cdv : Value) (A : Around) (outer : List Env) (s : Shared) (H : Hp) (vs : List V) (Q : VK) (E : XK), Room k (A.deeper (envOfC x (defScope st) s.heap.objs.size f cdv)) → sp vs H Q E →
      ∃ t, PSs (cxOf CX0 P w K mg base N x (defScope st) f cdv A outer s H E).nox (defBody st) t ∧ t { nx := fun _ H' => Q .non H', rt := Q } (start N vs) H) : FnOk P w K mg base CX0 (k + 1) f fd ps sp := F.ok S len hbody
/-- a def's promise by its body -/
theorem has_of {x : Str} {st : Stmt} {N ps : List Str} {k : Nat} {sp : Sp} (F : FunAt K mg x st ps) (S : FnScope N ps (defScope st)) (len : ∀ vs H Q E, sp vs H Q E → vs.length = ps.length)
    (hbody : ∀ (f : Addr) (cdv : Value) (A : Around) (outer : List Env) (s : Shared) (H : Hp) (vs : List V) (Q : VK) (E : XK), Room k (A.deeper (envOfC x (defScope st) s.heap.objs.size f cdv)) → sp vs H Q E →
      ∃ t, PSs (cxOf CX0 P w K mg base N x (defScope st) f cdv A outer s H E).nox (defBody st) t ∧ t { nx := fun _ H' => Q .non H', rt := Q } (start N vs) H) : Has P w K mg base x (k + 1) sp := by
  obtain ⟨f, fd, F, hm, hb⟩ := F
  exact ⟨f, fd, ps, F.ok S len (hbody f), hm, F.kp, hb⟩
/-- a def as the head's facts tell it -/
theorem funAt_mk {h : Heap} (X : K.In h) (G : h.Ns mainGlobals mg) {x : Str} {st : Stmt} {ps : List Str} {f : Addr} {oc : Value} {od an : Option Addr} {osl : Array (Option Value)} {kV doc pm cdv ct : Value}
    (a : PySem.W.nsIn K mainGlobals x = some (some (.ref f))) (l : K.lookup f = some ⟨oc, od, .func (PySem.W.fnOf x x (defArgs st) (defBody st) (defScope st) .none kV doc pm an cdv ct), osl⟩)
    (c : PySem.W.codeIn K cdv x = true) (k : PySem.W.keepIn K (.ref f) = true)
    (b : ∀ (kV doc pm : Value) (an : Option Addr) (cdv ct : Value) (us : List Value), us.length = ps.length → bindArgs (PySem.W.fnOf x x (defArgs st) (defBody st) (defScope st) .none kV doc pm an cdv ct) ⟨us, []⟩ = pure (ps.zip us)) : FunAt K mg x st ps :=
  ⟨f, _, fun_mk l c k, PySem.W.mg_of X G a, (fun_mk (st := st) l c k).binds b⟩
/-- the law itself at the end -/
theorem law_end {P : Program} {h : Heap} (X : K.In h) (G : h.Ns mainGlobals mg) {fa : Addr} (hfa : mg "law" = some (.ref fa)) {st : Stmt} {x : Str} {k : Nat} {sp : Sp} {f : Addr} {oc : Value} {od an : Option Addr} {osl : Array (Option Value)} {kV doc pm cdv ct : Value}
    (a : PySem.W.nsIn K mainGlobals "law" = some (some (.ref f))) (l : K.lookup f = some ⟨oc, od, .func (PySem.W.fnOf "law" "law" (defArgs st) (defBody st) (defScope st) .none kV doc pm an cdv ct), osl⟩)
    (c : PySem.W.codeIn K cdv "law" = true) (kp : PySem.W.keepIn K (.ref f) = true)
    (hb : ∀ (s : Shared) (v : Value), BindsTo s (PySem.W.fnOf "law" "law" (defArgs st) (defBody st) (defScope st) .none kV doc pm an cdv ct) ⟨[v], []⟩ [(x, v)])
    (b : ∀ base : Heap, Fun K "law" "law" st f (PySem.W.fnOf "law" "law" (defArgs st) (defBody st) (defScope st) .none kV doc pm an cdv ct) → FnOk P w K mg base CX0 k f (PySem.W.fnOf "law" "law" (defArgs st) (defBody st) (defScope st) .none kV doc pm an cdv ct) [x] sp) :
    ∃ fd : FuncData, (∀ (s : Shared) (v : Value), BindsTo s fd ⟨[v], []⟩ [(x, v)]) ∧ ∀ base : Heap, K.In base → base.Ns mainGlobals mg → FnOk P w K mg base CX0 k fa fd [x] sp := by
  have e := hfa.symm.trans (PySem.W.mg_of X G a)
  cases e
  exact ⟨_, hb, fun base _ _ => b base (fun_mk l c kp)⟩
end
end TR
/-! the hand that is drawn from: n draws are left (its counter stays below 2^60) -/
namespace TR
open PySem L2
noncomputable def Hand (K : PySem.W.Frag) (Z H : Hp) (h : Addr) (n : Nat) : Prop :=
  ∃ (d k : Int) (c : Addr) (cells : List Int), H h = some (.lst [.int d, .int k, .ref c]) ∧ 0 < cells.length ∧ 0 ≤ k ∧ k + n ≤ 1000000000000000000 ∧ Ex Z H ∧ Z h = none ∧ SqL K Z c (cells.map V.int)
theorem Hand.mono {K : PySem.W.Frag} {Z H : Hp} {h : Addr} {n m : Nat} (a : Hand K Z H h n) (l : m ≤ n) : Hand K Z H h m := by
  obtain ⟨d, k, c, cells, h1, h3, h4, h5, h6⟩ := a
  exact ⟨d, k, c, cells, h1, h3, h4, by omega, h6⟩
theorem Hand.ex {K : PySem.W.Frag} {Z H H' : Hp} {h : Addr} {n : Nat} (a : Hand K Z H h n) (e : Ex H H') : Hand K Z H' h n := by
  obtain ⟨d, k, c, cells, h1, h3, h4, h5, z1, z2, z3⟩ := a
  exact ⟨d, k, c, cells, e _ _ h1, h3, h4, h5, z1.trans e, z2, z3⟩
theorem Hand.exm {K : PySem.W.Frag} {Z H H' : Hp} {h g : Addr} {n : Nat} (a : Hand K Z H h n) (e : ExM g H H') (n1 : h ≠ g) (n2 : Z g = none) : Hand K Z H' h n := by
  obtain ⟨d, k, c, cells, h1, h3, h4, h5, z1, z2, z3⟩ := a
  exact ⟨d, k, c, cells, e _ _ n1 h1, h3, h4, h5, z1.exm n2 e, z2, z3⟩
theorem Hand.at {K : PySem.W.Frag} {Z H : Hp} {h : Addr} {n : Nat} (a : Hand K Z H h n) : ∃ o, H h = some o := by
  obtain ⟨d, k, c, cells, h1, _⟩ := a
  exact ⟨_, h1⟩
theorem Hand.z {K : PySem.W.Frag} {Z H : Hp} {h : Addr} {n : Nat} (a : Hand K Z H h n) : Ex Z H := by
  obtain ⟨d, k, c, cells, h1, h3, h4, h5, z1, z2, z3⟩ := a
  exact z1
theorem Hand.zn {K : PySem.W.Frag} {Z H : Hp} {h : Addr} {n : Nat} (a : Hand K Z H h n) : Z h = none := by
  obtain ⟨_, _, _, _, _, _, _, _, _, h6, _⟩ := a
  exact h6
theorem hand_ne {K : PySem.W.Frag} {Z H H' : Hp} {h p : Addr} {n : Nat} (hp : H' p = none) (a : Hand K Z H h n) (e : Ex H H') : p ≠ h := by
  obtain ⟨o, ho⟩ := a.at
  exact (ne_of_none (e _ _ ho) hp).symm
theorem hand_ne0 {K : PySem.W.Frag} {Z H : Hp} {h p : Addr} {n : Nat} (hp : H p = none) (a : Hand K Z H h n) : p ≠ h := hand_ne hp a (Ex.refl _)
section
variable {K : PySem.W.Frag} {σ : L2.St} {H : Hp} {te : TE} {Q : VK} {g : TG} {vs : List Nat}
end
theorem at_ints {ns : List Int} {i : Nat} {v : V} (h : (ns.map V.int)[i]? = some v) : ∃ m, v = .int m ∧ ns[i]? = some m := by
  rw [List.getElem?_map] at h
  cases e : ns[i]? with
  | none => rw [e] at h; cases h
  | some m => rw [e] at h; exact ⟨m, (Option.some.inj h).symm, rfl⟩
/-! ### rows: a list of lists, each of them an object of its own -/
structure RW (K : PySem.W.Frag) (Z H : Hp) (p : Addr) (qs : List Addr) {α : Type} [Py α] (rs : List (List α)) : Prop where
  own : H p = some (.lst (qs.map V.ref))
  nd : (p :: qs).Nodup
  fr : ∀ q ∈ p :: qs, Z q = none
  zh : Ex Z H
  rows : Paired (fun q r => ∃ vs, H q = some (.lst vs) ∧ Paired (fun v x => Is K Z v x) vs r) qs rs
section
variable {K : PySem.W.Frag} {Z H H1 H' : Hp} {p q : Addr} {qs : List Addr} {α : Type} [Py α] {rs : List (List α)} {Q : VK}
theorem paired_snoc {β γ : Type} {F : β → γ → Prop} : ∀ {xs : List β} {ys : List γ} {x : β} {y : γ}, Paired F xs ys → F x y → Paired F (xs ++ [x]) (ys ++ [y])
  | _, _, _, _, .nil, h => .cons h .nil
  | _, _, _, _, .cons a t, h => .cons a (paired_snoc t h)
end
section
variable {K : PySem.W.Frag} {σ : L2.St} {H : Hp} {te : TE} {Q : VK} {g : TG} {vs : List Nat}
end
section
variable {K : PySem.W.Frag} {σ : L2.St} {H : Hp} {te : TE} {Q : VK} {g : TG} {vs : List Nat}
theorem paired_append {β γ : Type} {F : β → γ → Prop} : ∀ {xs : List β} {ys : List γ} {zs : List β} {ws : List γ}, Paired F xs ys → Paired F zs ws → Paired F (xs ++ zs) (ys ++ ws)
  | _, _, _, _, .nil, h => h
  | _, _, _, _, .cons a t, h => .cons a (paired_append t h)
end
section
variable {K : PySem.W.Frag} {σ : L2.St} {H : Hp} {tt : TT} {te : TE} {Q : VK} {g : TG} {vs : List Nat}
end
section
variable {K : PySem.W.Frag} {H : Hp} {Q : VK}
end
section
variable {K : PySem.W.Frag} {σ : L2.St} {H : Hp} {te : TE} {Q : VK} {g : TG} {vs : List Nat}
end
section
variable {K : PySem.W.Frag} {σ : L2.St} {H : Hp} {tt : TT} {te : TE} {Q : VK} {g : TG} {vs : List Nat}
/-- numbers of two lists side by side -/
theorem u_mapZI {a b : Addr} {xs ys : List Int} (f : Int → Int → Int) (hx : SqL K H a (xs.map V.int)) (hy : SqL K H b (ys.map V.int)) (hl : xs.length = ys.length) (hz : xs.length ≤ 40000)
    (turn : ∀ x y, x ∈ xs → y ∈ ys → ∀ T H', Ex H H' → H' T = some (.tup [.int x, .int y]) → ∀ A : VK, (∀ H4, Ex H' H4 → A (.int (f x y)) H4) → g (.ref T) (wipe σ vs) H' fun σ2 H2 => wipe σ2 vs = wipe σ vs ∧ te σ2 H2 A)
    (fin : ∀ D H', H D = none → Ex H H' → H' D = some (.lst (((xs.zip ys).map fun p => f p.1 p.2).map V.int)) → Q (.ref D) H') : LcZ K g tYes te vs σ [.ref a, .ref b] H Q := by
  have len : (xs.zip ys).length = xs.length := by rw [List.length_zip]; omega
  refine ⟨a, b, _, _, rfl, hx, hy, lc_turns (xs.zip ys) (fun _ => true) (fun p y _ => y = .int (f p.1 p.2)) (fun _ _ _ _ _ r => r) (by omega) (fun i H' hi e => ?_) (fun H' e => ⟨_, _, e.sq hx, e.sq hy, .inl (by rw [List.length_map]; omega)⟩)
    (fun D hD i p hp v H0 H' e _ hv => ?_) (fun D H' ws hD e h pr => fin D H' hD e (by rw [h, pair_map pr, filter_yes, List.map_map]; rfl))⟩
  · exact ⟨_, _, .int (xs[i]'(by omega)), .int (ys[i]'(by omega)), e.sq hx, e.sq hy, by rw [List.getElem?_map, List.getElem?_eq_getElem (by omega)]; rfl, by rw [List.getElem?_map, List.getElem?_eq_getElem (by omega)]; rfl⟩
  · obtain ⟨T, x, y, rfl, nT, rfl, gx, gy⟩ := hv
    have gx := gx _ (e.sq hx)
    have gy := gy _ (e.sq hy)
    obtain ⟨x', rfl, hx'⟩ := at_ints gx
    obtain ⟨y', rfl, hy'⟩ := at_ints gy
    have ep : p = (x', y') := by
      rw [List.getElem?_zip_eq_some.mpr (show xs[i]? = some (x', y').1 ∧ ys[i]? = some (x', y').2 from ⟨hx', hy'⟩)] at hp
      exact (Option.some.inj hp).symm
    subst ep
    refine ⟨Ex.new nT, fun A B h1 h2 => ?_⟩
    have e2 : (fun (σ2 : L2.St) H2 => wipe σ2 vs = wipe σ vs ∧ tYes σ2 H2 fun b H3 => if b = true then te σ2 H3 A else B H3) = fun σ2 H2 => wipe σ2 vs = wipe σ vs ∧ te σ2 H2 A := by
      funext σ2 H2
      show (_ ∧ if true = true then te σ2 H2 A else B H2) = _
      rw [if_pos rfl]
    rw [e2]
    exact turn x' y' (List.mem_of_getElem? hx') (List.mem_of_getElem? hy') T _ (e.trans (Ex.new nT)) upd_same A fun H4 e4 => h1 rfl _ H4 e4 fun _ _ _ => rfl
/-- targets one behind another -/
theorem g_n {R : L2.St → Hp → Prop} : (fun (σ : L2.St) H => gNil [] σ H R) = R := by
  funext σ H
  exact propext ⟨fun z => z.2, fun z => ⟨rfl, z⟩⟩
theorem g_c {g : TG} {rest : List V → L2.St → Hp → (L2.St → Hp → Prop) → Prop} {y : V} {ys : List V} {R : L2.St → Hp → Prop} : gCons g rest (y :: ys) σ H R = g y σ H (fun σ1 H1 => rest ys σ1 H1 R) := by
  refine propext ⟨fun z => ?_, fun z => ⟨y, ys, rfl, z⟩⟩
  obtain ⟨y', r', e, z⟩ := z
  cases e
  exact z
theorem s_gt3 {b : Addr} {x y z : V} {g1 g2 g3 : TG} {R : L2.St → Hp → Prop} (h : SqT K H b [x, y, z]) (q : g1 x σ H fun σ1 H1 => g2 y σ1 H1 fun σ2 H2 => g3 z σ2 H2 R) : gTup K 3 (gCons g1 (gCons g2 (gCons g3 gNil))) (.ref b) σ H R := by
  refine ⟨b, _, rfl, h, rfl, ?_⟩
  rw [g_c]
  simp only [g_c, g_n]
  exact q
/-- a value that is a list of numbers of its own -/
noncomputable def Lp (H : Hp) (v : V) (r : List Int) : Prop := ∃ a, v = .ref a ∧ H a = some (.lst (r.map V.int))
end
section
variable {K : PySem.W.Frag} {σ : L2.St} {H : Hp} {tt : TT} {te : TE} {Q : VK} {g : TG} {vs : List Nat}
theorem lc_yes {A : VK} {B : Hp → Prop} : (fun (σ2 : L2.St) H2 => wipe σ2 vs = wipe σ vs ∧ tYes σ2 H2 fun b H3 => if b = true then te σ2 H3 A else B H3) = fun σ2 H2 => wipe σ2 vs = wipe σ vs ∧ te σ2 H2 A := by
  funext σ2 H2
  show (_ ∧ if true = true then te σ2 H2 A else B H2) = _
  rw [if_pos rfl]
end
theorem inV_bls (i : Bool) : ∀ ns : List Bool, inV (.bl i) (ns.map V.bl) = decide (i ∈ ns)
  | [] => rfl
  | n :: ns => by
    have e : inV (.bl i) ((n :: ns).map V.bl) = (eqV (.bl n) (.bl i) || inV (.bl i) (ns.map V.bl)) := rfl
    have e2 : eqV (.bl n) (.bl i) = decide (n = i) := by cases n <;> cases i <;> rfl
    rw [e, e2, inV_bls i ns]
    by_cases h : n = i
    · subst h
      simp
    · have h' : ¬ i = n := fun z => h z.symm
      simp [h, h']
theorem flat_bls : ∀ ns : List Bool, (ns.map V.bl).all flatV = true
  | [] => rfl
  | n :: ns => flat_bls ns
theorem s_inB {K : PySem.W.Frag} {H : Hp} {Q : VK} {a : Addr} {i : Bool} (ns : List Bool) (h : SqL K H a (ns.map V.bl)) (q : Q (.bl (decide (i ∈ ns))) H) : rIn K false (.bl i) (.ref a) H Q := ⟨a, _, rfl, .inl h, rfl, flat_bls ns, by
  rw [if_neg Bool.false_ne_true, inV_bls]
  exact q⟩
/-! ### pairs of numbers, sorted -/
/-- a value that is a tuple of two numbers -/
noncomputable def Tp (H : Hp) (v : V) (r : Int × Int) : Prop := ∃ a, v = .ref a ∧ H a = some (.tup [.int r.1, .int r.2])
theorem Tp.ex {H H' : Hp} {v : V} {r : Int × Int} (e : Ex H H') (h : Tp H v r) : Tp H' v r := by
  obtain ⟨a, h1, h2⟩ := h
  exact ⟨a, h1, e _ _ h2⟩
theorem Tp.exm {H H' : Hp} {D : Addr} {xs : List V} {v : V} {r : Int × Int} (hD : H D = some (.lst xs)) (e : ExM D H H') (h : Tp H v r) : Tp H' v r := by
  obtain ⟨a, h1, h2⟩ := h
  refine ⟨a, h1, e _ _ (fun z => ?_) h2⟩
  rw [z, hD] at h2
  cases h2
theorem Tp.is {K : PySem.W.Frag} {H : Hp} {v : V} {r : Int × Int} (h : Tp H v r) : Is K H v r := by
  obtain ⟨a, rfl, h2⟩ := h
  exact Is.pair (st_of h2) (Is.int _) (Is.int _)
noncomputable def lexI (a b : Int × Int) : Bool := decide (a.1 < b.1 ∨ (a.1 = b.1 ∧ a.2 ≤ b.2))
theorem lexI_iff {a b : Int × Int} : lexI a b = true ↔ (a.1 < b.1 ∨ (a.1 = b.1 ∧ a.2 ≤ b.2)) := decide_eq_true_iff
noncomputable def sortP (l : List (Int × Int)) : List (Int × Int) := l.mergeSort lexI
theorem sortP_perm (l : List (Int × Int)) : (sortP l).Perm l := List.mergeSort_perm l _
theorem sortP_sorted (l : List (Int × Int)) : (sortP l).Pairwise (fun a b => lexI a b = true) := List.pairwise_mergeSort (le := lexI) (fun a b c h1 h2 => lexI_iff.mpr (by
  have h1 := lexI_iff.mp h1
  have h2 := lexI_iff.mp h2
  omega)) (fun a b => by
  by_cases c : lexI a b = true
  · rw [c]; rfl
  · have : lexI b a = true := lexI_iff.mpr (by
      have c : ¬ (a.1 < b.1 ∨ (a.1 = b.1 ∧ a.2 ≤ b.2)) := fun z => c (lexI_iff.mpr z)
      omega)
    rw [this, Bool.or_true]) l
theorem sortP_of {l l' : List (Int × Int)} (p : l'.Perm l) (s : l'.Pairwise (fun a b => lexI a b = true)) : l' = sortP l :=
  List.Perm.eq_of_pairwise (le := fun a b => lexI a b = true) (fun a b _ _ h1 h2 => by
    have h1 := lexI_iff.mp h1
    have h2 := lexI_iff.mp h2
    exact Prod.ext (by omega) (by omega)) s (sortP_sorted l) (p.trans (sortP_perm l).symm)
theorem sortP_len (l : List (Int × Int)) : (sortP l).length = l.length := (sortP_perm l).length_eq
theorem sortP_mem {l : List (Int × Int)} {a : Int × Int} : a ∈ sortP l ↔ a ∈ l := (sortP_perm l).mem_iff
theorem sortPA {X : Cx} {K : PySem.W.Frag} (hk : X.K = K) : CallR X (.builtin "sorted") (rSortedPO K) := hk ▸ cr_sortedPO
noncomputable def keyP (H : Hp) (v : V) : Int × Int := match v with
  | .ref t => match H t with
    | some (.tup [.int i, .int j]) => (i, j)
    | _ => (0, 0)
  | _ => (0, 0)
theorem keyP_of {H : Hp} {v : V} {r : Int × Int} (h : Tp H v r) : keyP H v = r := by
  obtain ⟨a, rfl, h2⟩ := h
  show (match H a with | some (.tup [.int i, .int j]) => (i, j) | _ => (0, 0)) = r
  rw [h2]
theorem keyP_map {H : Hp} : ∀ {vs : List V} {l : List (Int × Int)}, Paired (Tp H) vs l → vs.map (keyP H) = l
  | _, _, .nil => rfl
  | _, _, .cons a t => by rw [List.map_cons, keyP_of a, keyP_map t]
theorem n_sortedP {K : PySem.W.Frag} {H : Hp} {Q : VK} {a : Addr} {vs : List V} {l : List (Int × Int)} (h : SqL K H a vs) (pr : Paired (Tp H) vs l) (q : ∀ p ws H', H p = none → Ex H H' → H' p = some (.lst ws) → Paired (Tp H') ws (sortP l) → Q (.ref p) H') : rSortedPO K [.ref a] H Q := by
  have ho : ∀ x ∈ vs, Tp H x (keyP H x) := fun x hx => by
    obtain ⟨r, _, g⟩ := pair_all pr x hx
    rw [keyP_of g]
    exact g
  refine ⟨a, vs, keyP H, rfl, h, ho, fun ys p hs hb hp => ?_⟩
  have e : ys.map (keyP H) = sortP l := by
    refine sortP_of ?_ ?_
    · rw [← keyP_map pr]
      exact hb.perm.map _
    · refine List.pairwise_map.mpr (List.Pairwise.imp (fun {x y} z => ?_) hs)
      have z := SrtO.lexB_no.mp z
      exact lexI_iff.mpr (by omega)
  refine q p ys _ hp (Ex.new hp) upd_same ?_
  rw [← e]
  have hy : ∀ x ∈ ys, Tp H x (keyP H x) := fun x hx => ho x (hb.perm.mem_iff.mp hx)
  have e2 : Ex H (upd H p (.lst ys)) := Ex.new hp
  clear e hs hb ho
  generalize upd H p (.lst ys) = H' at e2
  induction ys with
  | nil => exact .nil
  | cons y ys ih => exact .cons (Tp.ex e2 (hy y List.mem_cons_self)) (ih fun x hx => hy x (List.mem_cons_of_mem _ hx))
/-- one thing, so many times -/
theorem n_rep {H : Hp} {Q : VK} {l : Addr} {v : V} {k : Int} (h : H l = some (.lst [v])) (hk : 0 ≤ k ∧ k ≤ 100000) (q : ∀ p H', H p = none → Ex H H' → H' p = some (.lst (List.replicate k.toNat v)) → Q (.ref p) H') : rMult (.ref l) (.int k) H Q := by
  have e63 : (2 : Int) ^ 63 = 9223372036854775808 := by decide
  refine .inr (.inr ⟨l, k, [v], rfl, rfl, h, by omega, by omega, sz_of (by rw [List.length_singleton]; omega), fun p hp => ?_⟩)
  have e : (List.replicate k.toNat [v]).flatten = List.replicate k.toNat v := by
    induction k.toNat with
    | zero => rfl
    | succ n ih => rw [List.replicate_succ, List.flatten_cons, ih, List.replicate_succ]; rfl
  rw [e]
  exact q p _ hp (Ex.new hp) upd_same
/-- values that are tuples of three, of four numbers -/
noncomputable def Rp (H : Hp) (v : V) (t : T3 Int Int Int) : Prop := ∃ a, v = .ref a ∧ H a = some (.tup [.int t.a, .int t.b, .int t.c])
noncomputable def Qp (H : Hp) (v : V) (t : T4 Int Int Int Int) : Prop := ∃ a, v = .ref a ∧ H a = some (.tup [.int t.a, .int t.b, .int t.c, .int t.d])
/-! ### a dict of counts -/
noncomputable def CntD (H : Hp) (p : Addr) (f : Int → Int) (n : Nat) : Prop := ∃ kvs : List (L2.Key × V), H p = some (.dK kvs) ∧ kvs.length ≤ n ∧ ∀ r : Int, (valV kvs (Sum.inl r)).getD (.int 0) = .int (f r)
noncomputable def DG1 (a : Addr) (y z : V) (H3 : Hp) (Q : VK) : Prop := ∃ o, DGet H3 a y o ∧ Q (o.getD z) H3
noncomputable def DG (ty tx : TE) (σ : L2.St) (x : V) (H1 : Hp) (Q : VK) : Prop := ∃ a, x = .ref a ∧ IsD H1 a ∧ ty σ H1 fun y H2 => tx σ H2 fun z H3 => DG1 a y z H3 Q
noncomputable def DP (x y v : V) (H : Hp) (R : Hp → Prop) : Prop := ∃ a H4, x = .ref a ∧ DPut H a y v H4 ∧ R H4
section
variable {σ : L2.St} {H : Hp} {td ty tx tv : TE} {Q : VK} {D : Ends} {p : Addr} {f : Int → Int} {n : Nat}
end
/-- a value that is a list of numbers, not the one at p -/
noncomputable def Lq (p : Addr) (H : Hp) (v : V) (r : List Int) : Prop := ∃ a, v = .ref a ∧ a ≠ p ∧ H a = some (.lst (r.map V.int))
end TR
namespace TR
open PySem L2
/-- a test | a value, with a word behind it: what follows is shown once, from Mid -/
noncomputable def tTCut (t : TT) : TT := fun σ H QB => ∃ Mid : Bool → Hp → Prop, t σ H Mid ∧ ∀ b H1, Mid b H1 → QB b H1
noncomputable def tECut (t : TE) : TE := fun σ H Q => ∃ Mid : VK, t σ H Mid ∧ ∀ v H1, Mid v H1 → Q v H1
end TR

/-! ### classes, methods, exceptions of the text -/
namespace TR
open PySem L2 PySem.Spec PyProof.Rows
/-- where a class of the text stands -/
noncomputable def clsA (K : PySem.W.Frag) (x : Str) : Addr := match PySem.W.nsIn K mainGlobals x with | some (some (.ref C)) => C | _ => 0
/-- a def that may raise keeps the promise -/
noncomputable def HasX (P : Program) (w : World) (K : PySem.W.Frag) (mg : Str → Option Value) (base : Heap) (x : Str) (k : Nat) (sp : Sp) : Prop :=
  ∃ f fd ps, FnOk P w K mg base (L2.CX P w) k f fd ps sp ∧ mg x = some (.ref f) ∧ PySem.W.keepIn K (.ref f) = true ∧ Binds K fd ps []
/-- a method -/
noncomputable def HasM (P : Program) (w : World) (K : PySem.W.Frag) (mg : Str → Option Value) (base : Heap) (x m : Str) (k : Nat) (sp : Sp) : Prop :=
  ∃ f fd ps, FnOk P w K mg base (L2.CX P w) k f fd ps sp ∧ Meth K (clsA K x) m f ∧ Binds K fd ps []
/-- a class that is made by its __init__ -/
noncomputable def HasK (P : Program) (w : World) (K : PySem.W.Frag) (mg : Str → Option Value) (base : Heap) (x : Str) (k : Nat) (sp : Sp) : Prop :=
  ∃ f fd ps, FnOk P w K mg base (L2.CX P w) k f fd ps sp ∧ Mk K (clsA K x) f ∧ mg x = some (.ref (clsA K x)) ∧ Binds K fd ps []
structure MethAt (K : PySem.W.Frag) (x m q : Str) (st : Stmt) (ps : List Str) : Prop where
  ex : ∃ f fd, Fun K m q st f fd ∧ Meth K (clsA K x) m f ∧ Binds K fd ps []
structure MakeAt (K : PySem.W.Frag) (mg : Str → Option Value) (x q : Str) (st : Stmt) (ps : List Str) : Prop where
  ex : ∃ f fd, Fun K "__init__" q st f fd ∧ Mk K (clsA K x) f ∧ mg x = some (.ref (clsA K x)) ∧ Binds K fd ps []
/-- an exception class with one field that its __init__ lays -/
structure ExF (K : PySem.W.Frag) (mg : Str → Option Value) (x f : Str) : Prop where
  o : OexC K (clsA K x)
  g : mg x = some (.ref (clsA K x))
  n : PySem.W.findIn K (.ref (clsA K x)) f = some none
structure ExAt (K : PySem.W.Frag) (x q : Str) (st : Stmt) (ps : List Str) : Prop where
  ex : ∃ fI fd, Fun K "__init__" q st fI fd ∧ PySem.W.findIn K (.ref (clsA K x)) "__init__" = some (some (.ref fI)) ∧ PySem.W.typeIn K (.ref fI) = some (.type "function") ∧ Binds K fd ps []
/-- the class over all own exceptions, itself right under ValueError -/
structure TeC (K : PySem.W.Frag) (mg : Str → Option Value) (x : Str) : Prop where
  g : mg x = some (.ref (clsA K x))
  ga : PySem.W.specialIn K (.ref (clsA K x)) "__getattribute__" = some (some (.builtin "type.__getattribute__"))
  rd : PySem.W.readsIn K (clsA K x) (.type "type") = true
  fi : PySem.W.findCls K (.ref (clsA K x)) (.type "type") "__init__" = some (.val (.builtin "ValueError.__init__"))
noncomputable def spInit (f : Str) (K : PySem.W.Frag) : Sp := fun vs H Q _ => ∃ (a C : Addr) (v : V), vs = [.ref a, v] ∧ OexC K C ∧ PySem.W.findIn K (.ref C) f = some none ∧ H a = some (exo a C none) ∧ ∀ d, H d = none → d ≠ a → Q .non (upd (upd H d (exd d [(f, v)])) a (exo a C (some d)))
noncomputable def HasE (P : Program) (w : World) (K : PySem.W.Frag) (mg : Str → Option Value) (base : Heap) (x f : Str) (k : Nat) : Prop :=
  ∃ fI fd ps, FnOk P w K mg base CX0 k fI fd ps (spInit f K) ∧ ExF K mg x f ∧ PySem.W.findIn K (.ref (clsA K x)) "__init__" = some (some (.ref fI)) ∧ PySem.W.typeIn K (.ref fI) = some (.type "function") ∧ Binds K fd ps []
/-- what may be let out at the slots σ -/
noncomputable abbrev Px (X : Cx) (E : L2.St → XK) : Prop := ∀ σ, PassesAt (L2.CX X.prog X.w) X σ (E σ)
noncomputable def tCallE (sp : Sp) (E : L2.St → XK) (t : TA) : TE := fun σ H Q => t σ H fun vs H1 => sp vs H1 Q (E σ)
noncomputable def tMethE (C : Addr) (m : Str) (sp : Sp) (E : L2.St → XK) (ta : TE) (t : TA) : TE := fun σ H Q => ta σ H fun x H1 => ∃ a dx fs, x = .ref a ∧ H1 a = some (.ins C dx fs) ∧ fs.lookup m = none ∧ t σ H1 fun vs H2 => sp (x :: vs) H2 Q (E σ)
noncomputable def tMakeE (C : Addr) (sp : Sp) (E : L2.St → XK) (t : TA) : TE := fun σ H Q => t σ H fun vs H1 => ∀ x dx, H1 x = none → H1 dx = none → dx ≠ x → sp (.ref x :: vs) (upd (upd H1 dx (.own x)) x (.ins C dx [])) (fun v H2 => v = .non ∧ Q (.ref x) H2) (E σ)
section
variable {X : Cx} {k k' : Nat} {sp : Sp} {x m f : Str} {p p1 p2 pos pos2 apos : Pos} {e o : Expr} {es : List Expr} {t : TA} {ta : TE} {E : L2.St → XK} {W : WX}
end
section
variable {X : Cx} {k k' : Nat} {sp : Sp} {x m f : Str} {p p1 p2 pos pos2 apos : Pos} {e o : Expr} {es : List Expr} {t : TA} {ta : TE} {W : WX}
/-- raise X(e) -/
noncomputable def tRaise (C : Addr) (f : Str) (W : WX) (t : TA) : TS := fun _ σ H => t σ H fun vs H1 => ∃ v, vs = [v] ∧ ∀ d, H1 d = none → W (.ref C) (some d) σ (upd H1 d (.xd [(f, v)]))
end
section
variable {P : Program} {w : World} {K : PySem.W.Frag} {mg : Str → Option Value} {base : Heap}
end
end TR
namespace TR
open PySem L2 PySem.Spec PyProof.Rows
end TR
namespace TR
open PySem L2 PySem.Spec PyProof.Rows
section
variable {P : Program} {w : World} {K : PySem.W.Frag} {mg : Str → Option Value} {base : Heap} {x y : Str} {k : Nat} {sp : Sp}
end
end TR
namespace TR
open PySem L2
section
variable {K : PySem.W.Frag} {H : Hp} {σ : L2.St} {Q : VK} {D : Ends} {C a dx : Addr} {f m : Str} {W : WX} {t : TA} {ta tv : TE} {E : L2.St → XK} {E1 : XK} {sp : Sp} {v : V} {fs : List (Str × V)}
noncomputable def RaP (C : Addr) (f : Str) (W : WX) (σ : L2.St) (vs : List V) (H : Hp) : Prop := ∃ v, vs = [v] ∧ ∀ d, H d = none → W (.ref C) (some d) σ (upd H d (.xd [(f, v)]))
noncomputable def MeP (C : Addr) (m : Str) (sp : Sp) (E1 : XK) (t : TA) (σ : L2.St) (x : V) (H1 : Hp) (Q : VK) : Prop := ∃ a dx fs, x = .ref a ∧ H1 a = some (.ins C dx fs) ∧ fs.lookup m = none ∧ t σ H1 fun vs H2 => sp (x :: vs) H2 Q E1
noncomputable def FlP (K : PySem.W.Frag) (f : Str) (x : V) (H : Hp) (Q : VK) : Prop := ∃ a C dx fs v, x = .ref a ∧ H a = some (.ins C dx fs) ∧ Cls K C ∧ NoAttr K C f ∧ fs.lookup f = some v ∧ Q v H
noncomputable def FsP (K : PySem.W.Frag) (f : Str) (y x : V) (H : Hp) (R : Hp → Prop) : Prop := ∃ a C dx fs, x = .ref a ∧ H a = some (.ins C dx fs) ∧ Cls K C ∧ NoAttr K C f ∧ fs.length < 1000 ∧ R (upd H a (.ins C dx (putF f y fs)))
noncomputable def MkP' (C : Addr) (sp : Sp) (E1 : XK) (vs : List V) (H1 : Hp) (Q : VK) : Prop := ∀ x dx, H1 x = none → H1 dx = none → dx ≠ x → sp (.ref x :: vs) (upd (upd H1 dx (.own x)) x (.ins C dx [])) (fun v H2 => v = .non ∧ Q (.ref x) H2) E1
end
end TR
namespace TR
open PySem L2
section
variable {K : PySem.W.Frag} {H : Hp} {σ : L2.St} {Q : VK} {D : Ends} {C a : Addr} {f : Str} {ta : TA} {to te : TE} {ws : List V} {y : V}
noncomputable def VeP (K : PySem.W.Frag) (vs : List V) (H1 : Hp) (Q : VK) : Prop := ∃ (a C : Addr) (ws : List V), vs = .ref a :: ws ∧ ws.length ≤ 1000 ∧ OexC K C ∧ H1 a = some (exo a C none) ∧ Q .non H1
noncomputable def OsP (K : PySem.W.Frag) (f : Str) (y x : V) (H2 : Hp) (R : Hp → Prop) : Prop := ∃ a C : Addr, x = .ref a ∧ OexC K C ∧ PySem.W.findIn K (.ref C) f = some none ∧
  ((H2 a = some (exo a C none) ∧ ∀ dx, H2 dx = none → dx ≠ a → R (upd (upd H2 dx (exd dx [(f, y)])) a (exo a C (some dx)))) ∨
    ∃ (dx : Addr) (fs : List (Str × V)), H2 a = some (exo a C (some dx)) ∧ H2 dx = some (exd dx fs) ∧ fs.length ≤ 900 ∧ R (upd H2 dx (exd dx ((f, y) :: fs))))
end
end TR
namespace TR
open PySem L2
end TR
namespace TR
open PySem L2 PySem.Spec PyProof.Rows
section
variable {X : Cx} {K : PySem.W.Frag} {k k' : Nat} {sp : Sp} {x m f : Str} {p pos apos : Pos} {e o : Expr} {es : List Expr} {t : TA} {ta : TE} {E : L2.St → XK}
end
end TR
namespace TR
open PySem L2
section
variable {K : PySem.W.Frag} {x y f : Str} {C D : Addr} {b : Bool}
end
section
variable {K : PySem.W.Frag} {c cls : Value} {i : Nat} {ts : Addr → Value → Option Addr → TS} {Wout : WX} {D : Ends} {d : Option Addr} {σ : L2.St} {H : Hp} {a dd C : Addr} {f : Str} {te : TE} {Q : VK} {fs : List (Str × V)} {v : V}
noncomputable def XfP (a : Addr) (cls : Value) (d : Option Addr) (C : Addr) (f : Str) (x : V) (H1 : Hp) (Q : VK) : Prop := x = .ref a ∧ cls = .ref C ∧ ∃ (dd : Addr) (fs : List (Str × V)) (v : V), d = some dd ∧ H1 dd = some (.xd fs) ∧ fs.lookup f = some v ∧ Q v H1
end
end TR
namespace TR
open PySem L2 PySem.Spec PyProof.Rows
/-- what isinstance(x, C) asks of an own class -/
structure IsiC (K : PySem.W.Frag) (C : Addr) : Prop where
  cl : Cls K C
  ha : PySem.W.findIn K (.ref C) "__class__" = some (some (.builtin "object.__class__"))
  hn : PySem.W.specialIn K (.builtin "object.__class__") "__get__" = some (some (.builtin "getset_descriptor.__get__"))
  htk : PySem.W.takesIn K (.builtin "object.__class__") = some true
  hm : PySem.W.mroIn K C (.type "object") = some true
  me : PySem.W.kitOne K (.ref C) (.ref C) = some true
end TR
namespace TR
open PySem L2 PySem.Spec PyProof.Rows
section
variable {X : Cx} {CX : CXT} {k k' : Nat} {f C : Addr} {fd : FuncData} {ps : List Str} {sp : Sp} {x : Str} {p pos : Pos} {e : Expr} {es : List Expr} {t : TA}
end
end TR
/-! an exception class without an __init__ of its own: raise X() -/
namespace TR
open PySem L2 PySem.Spec PyProof.Rows
noncomputable def bmVE : List Value := [.type "ValueError", .type "Exception", .type "BaseException", .type "object"]
structure ExB (K : PySem.W.Frag) (mg : Str → Option Value) (x : Str) : Prop where
  g : mg x = some (.ref (clsA K x))
  q : PySem.W.excIn K (clsA K x) bmVE "ValueError.__new__" = true
  kC : PySem.W.keepIn K (.ref (clsA K x)) = true
  exC : PySem.W.subIn K (.ref (clsA K x)) (.type "BaseException") = some true
  tyC : PySem.W.typeIn K (.ref (clsA K x)) = some (.type "type")
noncomputable def tRaise0 (C : Addr) (W : WX) : TS := fun _ σ H => W (.ref C) none σ H
section
variable {X : Cx} {x : Str} {p pos pos2 : Pos} {W : WX}
end
section
variable {K : PySem.W.Frag} {mg : Str → Option Value}
end
end TR
namespace TR
open PySem L2
end TR

/-! short words: hp (what stands at an address), ex (a heap grows into another), ne, fr, sq, st; s (one step of a reading), ss (steps as far as they go) -/
open PySem L2 TR
local macro_rules | `(tactic| walk_at "ex") => `(tactic| first
  | exact Ex.refl _
  | assumption
  | focus (apply Ex.trans; rotate_left; assumption; walk_at "ex")
  | focus (apply Ex.exm; rotate_left; rotate_left; assumption; walk_at "ex"; (walk_at "fr2")))
local macro_rules | `(tactic| walk_at "fr2") => `(tactic| first
  | assumption
  | focus (apply Ex.back; rotate_left; assumption; walk_at "ex"))
local macro_rules | `(tactic| walk_at "hp") => `(tactic| first
  | assumption
  | (apply ex_ap; assumption; walk_at "hp"))
local macro_rules | `(tactic| walk_at "ne") => `(tactic| first
  | assumption
  | (apply Ne.symm; assumption)
  | exact TR.hand_ne0 (by assumption) (by assumption))
local macro_rules | `(tactic| walk_at "sq") => `(tactic| first
  | assumption
  | (apply sq_of; walk_at "hp")
  | focus (apply Ex.sq; rotate_left; assumption; walk_at "ex"))
local macro_rules | `(tactic| walk_at "st") => `(tactic| first
  | assumption
  | (apply st_of; walk_at "hp")
  | focus (apply Ex.st; rotate_left; assumption; walk_at "ex"))
local macro_rules | `(tactic| walk_at "is") => `(tactic| first
  | exact Is.int _
  | assumption
  | exact Is.no
  | (apply Is.pair; walk_at "st"; walk_at "is"; walk_at "is")
  | focus (apply Is.ex; rotate_left; assumption; walk_at "ex"))
local macro_rules | `(tactic| walk_at "at") => `(tactic| first
  | exact atI_lt (by decide) rfl
  | rfl)
local macro_rules | `(tactic| walk_at "ixn") => `(tactic| first
  | exact ixN_lt (by decide) (by decide)
  | rfl)
local macro_rules | `(tactic| walk_at "len") => `(tactic| first
  | omega
  | (simp only [List.length_map, List.length_range, List.length_append, List.length_cons, List.length_nil, List.length_reverse, List.length_set]; omega)
  | (simp only [List.length_map, List.length_range, List.length_append, List.length_cons, List.length_nil, List.length_reverse, List.length_set, sortI_len]; omega))
local macro_rules | `(tactic| walk_at "od") => `(tactic| first
  | decide
  | omega
  | exact Nat.le_of_ble_eq_true rfl)
local macro_rules | `(tactic| walk_at "kit") => `(tactic| first
  | exact k_ii
  | exact k_ib
  | exact k_is
  | exact k_il
  | exact k_bi
  | exact k_si
  | exact k_sl
  | exact k_ni
  | exact k_nl
  | exact k_li
  | exact k_ll
  | exact k_ti
  | exact k_tl)
local macro_rules | `(tactic| walk_at "s") => `(tactic| first
  | (with_reducible (first | apply s_seq | apply s_asg | apply s_gname | apply s_ret | apply s_if | apply s_next | apply s_drop))
  | ((with_reducible apply s_var); rfl)
  | (with_reducible (first | apply s_c | apply s_op | apply s_un | apply s_test | apply s_tB | apply s_bl | apply s_and | apply s_or | apply s_not | apply s_andV | apply s_notV | apply s_I0 | apply s_U | apply s_plusI | apply s_eqI | apply s_neI | apply s_eqS))
  | ((with_reducible apply s_mod); walk_at "od"; intro _ _)
  | ((with_reducible apply s_div); walk_at "od"; walk_at "od")
  | (walk_at "pow")
  | ((with_reducible apply s_pow); decide; walk_at "od")
  | ((with_reducible apply s_mulL); walk_at "od")
  | ((with_reducible apply s_mulR); walk_at "od")
  | (with_reducible (first | apply s_nil | apply s_cons | apply s_call | apply s_CB | apply s_lst | apply s_tup | apply s_sl | apply s_np | apply s_part | apply s_int | apply s_BM | apply s_gsub | apply s_augS | apply s_ipI | apply s_forL | apply s_forR1 | apply s_lcL | apply s_lcZ))
  | ((with_reducible apply s_wp); rfl)
  | ((with_reducible apply s_sum); walk_at "sq")
  | ((with_reducible apply s_all); walk_at "sq")
  | ((with_reducible apply n_sorted); walk_at "sq"; intro _ _ _ _ _)
  | ((with_reducible apply s_gt2); walk_at "st")
  | (with_reducible (first | apply s_max2 | apply s_min2 | apply s_abs | apply s_int1b))
  | ((with_reducible apply s_isiI); walk_at "kit")
  | ((with_reducible apply s_isiB); walk_at "kit")
  | ((with_reducible apply s_isiS); walk_at "kit")
  | ((with_reducible apply s_isiN); walk_at "kit")
  | ((with_reducible apply s_isiL); walk_at "sq"; walk_at "kit")
  | ((with_reducible apply s_isiT); walk_at "st"; walk_at "kit")
  | ((with_reducible apply s_lenM); walk_at "sq")
  | ((with_reducible apply s_lenL); walk_at "sq")
  | ((with_reducible apply n_slL); walk_at "sq"; intro _ _ _ _ _)
  | ((with_reducible apply s_tyL); walk_at "sq")
  | ((with_reducible apply n_lst); walk_at "od"; intro _ _ _ _ _)
  | ((with_reducible apply n_tup); walk_at "od"; intro _ _ _ _ _)
  | ((with_reducible apply n_cat); walk_at "hp"; walk_at "hp"; walk_at "len"; intro _ _ _ _ _)
  | ((with_reducible apply s_ixL); walk_at "sq"; walk_at "at")
  | ((with_reducible apply s_ixT); walk_at "st"; walk_at "at")
  | ((with_reducible apply s_ix2b); walk_at "sq"; intro _ _)
  | ((with_reducible apply s_ix4); walk_at "sq"; omega; intro _ _)
  | ((with_reducible apply s_ixI); walk_at "sq"; omega; intro _ _)
  | ((with_reducible apply s_getL); walk_at "sq"; decide; walk_at "at")
  | ((with_reducible apply n_setL); walk_at "hp"; walk_at "ixn"; intro _ _ _)
  | ((with_reducible apply s_eqP (α := List Int)); walk_at "is"; walk_at "is"; decide)
  | ((with_reducible apply s_neP (α := List Int)); walk_at "is"; walk_at "is"; decide)
  | ((with_reducible apply s_eqP (α := Int × Int)); walk_at "is"; walk_at "is"; decide)
  | ((with_reducible apply s_neP (α := Int × Int)); walk_at "is"; walk_at "is"; decide)
  | ((with_reducible apply s_eqP (α := Bool × Int)); walk_at "is"; walk_at "is"; decide)
  | ((with_reducible apply s_neP (α := Bool × Int)); walk_at "is"; walk_at "is"; decide)
  | ((with_reducible apply s_eqP (α := Int × Option Int)); walk_at "is"; walk_at "is"; decide)
  | ((with_reducible apply s_neP (α := Int × Option Int)); walk_at "is"; walk_at "is"; decide)
  | ((with_reducible apply s_eqP (α := T3 Int Int Int)); walk_at "is"; walk_at "is"; decide)
  | ((with_reducible apply s_neP (α := T3 Int Int Int)); walk_at "is"; walk_at "is"; decide)
  | ((with_reducible apply s_eqP (α := T4 Int Int Int Int)); walk_at "is"; walk_at "is"; decide)
  | ((with_reducible apply s_neP (α := T4 Int Int Int Int)); walk_at "is"; walk_at "is"; decide)
  | ((with_reducible apply s_eqP (α := List (Int × Int))); walk_at "is"; walk_at "is"; decide)
  | ((with_reducible apply s_neP (α := List (Int × Int))); walk_at "is"; walk_at "is"; decide)
  | ((with_reducible apply s_eqP (α := List (T3 Int Int Int))); walk_at "is"; walk_at "is"; decide)
  | ((with_reducible apply s_neP (α := List (T3 Int Int Int))); walk_at "is"; walk_at "is"; decide)
  | ((with_reducible apply s_eqP (α := List (T4 Int Int Int Int))); walk_at "is"; walk_at "is"; decide)
  | ((with_reducible apply s_neP (α := List (T4 Int Int Int Int))); walk_at "is"; walk_at "is"; decide)
  | ((with_reducible apply s_eqP (α := List (List Int))); walk_at "is"; walk_at "is"; decide)
  | ((with_reducible apply s_neP (α := List (List Int))); walk_at "is"; walk_at "is"; decide)
  | (with_reducible (first | apply i_t | apply i_f | apply i_nt | apply i_nf))
  | ((with_reducible apply i_dt); (focus (first | trivial | assumption | omega | rfl)))
  | ((with_reducible apply i_df); (focus (first | assumption | omega | exact (fun h => h rfl)))))
local macro_rules | `(tactic| walk_at "pow") => `(tactic| first
  | (with_reducible (first | apply s_pow10_6 | apply s_pow10_9 | apply s_pow10_10 | apply s_pow10_18)))
local macro_rules | `(tactic| walk_at "cx") => `(tactic| try dsimp only [cx_K, cx_K2])
local macro_rules | `(tactic| walk_at "ss") => `(tactic| ((try dsimp only); (repeat walk_at "s")))
/-! the slots made plain again (many names, comprehensions): reading them is slow otherwise -/
local macro_rules | `(tactic| walk_at "nm") => `(tactic| simp only [List.set_cons_succ, List.set_cons_zero, wipe, List.map_cons, List.map_nil])

namespace TR
/-- the rows that a room of so many keys takes -/
noncomputable def rowsI (m w : Int) : Int := max 1 ((m + w - 1) / w)
noncomputable def spillI (l : List Int) (w : Int) : Int := (l.map fun m => rowsI m w - 1).sum
theorem rowsI_more {m w : Int} (hm : 0 ≤ m) (hw : 1 ≤ w) : rowsI m w = 1 + max 0 (m - 1) / w := by
  unfold rowsI
  by_cases c : m = 0
  · subst c
    rw [show (0 : Int) + w - 1 = w - 1 by omega, Int.ediv_eq_zero_of_lt (by omega) (by omega)]
    rw [Int.max_eq_left (show (0 : Int) - 1 ≤ 0 by omega), Int.zero_ediv]
    rfl
  · have e : (m + w - 1) / w = (m - 1) / w + 1 := by
      have := Int.add_mul_ediv_right (m - 1) 1 (show w ≠ 0 by omega)
      rw [Int.one_mul] at this
      rw [show m + w - 1 = m - 1 + w by omega, this]
    have h0 : 0 ≤ (m - 1) / w := Int.ediv_nonneg (by omega) (by omega)
    rw [e, Int.max_eq_right (by omega), Int.max_eq_right (show 0 ≤ m - 1 by omega)]
    omega
theorem rowsI_pos (m w : Int) : 1 ≤ rowsI m w := Int.le_max_left _ _
theorem spillI_more {l : List Int} {w : Int} (h : ∀ m ∈ l, 0 ≤ m) (hw : 1 ≤ w) : (l.map fun m => max 0 (m - 1) / w).sum = spillI l w := by
  unfold spillI
  congr 1
  exact List.map_congr_left fun m hm => by rw [rowsI_more (h m hm) hw]; omega
end TR
namespace TR
end TR
namespace TR
/-- the rows of keys: sorted, cut -/
noncomputable def cutR (l : List Int) (w : Int) (k : Nat) : List Int := cutI (sortI l) (some ((k : Int) * w)) (some ((k : Int) * w + w))
noncomputable def rowsOf (l : List Int) (w : Int) : List (List Int) := (List.range (rowsI l.length w).toNat).map (cutR l w)
end TR
namespace TR
theorem rowsI_facts {m w : Int} (hm : 0 ≤ m) (hw : 0 < w) : m ≤ rowsI m w * w ∧ w ≤ rowsI m w * w ∧ (rowsI m w = 1 ∨ (rowsI m w - 1) * w < m) ∧ rowsI m w * w < m + w + (if m = 0 then 1 else 0) ∧ rowsI m w ≤ m + 1 := by
  have h1 := Int.emod_add_mul_ediv (m + w - 1) w
  have h2 := Int.emod_nonneg (m + w - 1) (show w ≠ 0 by omega)
  have h3 := Int.emod_lt_of_pos (m + w - 1) hw
  have h4 : 0 ≤ (m + w - 1) / w := Int.ediv_nonneg (by omega) (by omega)
  unfold rowsI
  rw [Int.mul_comm w] at h1
  by_cases c : (m + w - 1) / w = 0
  · rw [c, Int.max_eq_left (by decide), Int.one_mul]
    rw [c, Int.zero_mul] at h1
    have : m = 0 := by omega
    subst this
    refine ⟨by omega, by omega, .inl rfl, by rw [if_pos rfl]; omega, by omega⟩
  · have c1 : 1 ≤ (m + w - 1) / w := by omega
    rw [Int.max_eq_right c1]
    have h5 := Int.mul_le_mul_of_nonneg_right c1 (show (0 : Int) ≤ w by omega)
    rw [Int.one_mul] at h5
    have h6 : (m + w - 1) / w < m + 2 := by
      refine Int.ediv_lt_of_lt_mul hw ?_
      have := Int.mul_le_mul_of_nonneg_left (show (1 : Int) ≤ w by omega) hm
      rw [Int.add_mul]
      omega
    have h7 : m ≠ 0 := fun z => c (by rw [z]; exact Int.ediv_eq_zero_of_lt (by omega) (by omega))
    refine ⟨by omega, by omega, .inr ?_, by rw [if_neg h7]; omega, by omega⟩
    rw [Int.sub_mul, Int.one_mul]
    omega
end TR
namespace TR
noncomputable def lastGe (r : List Int) (key : Int) : Bool := match r.getLast? with | some v => decide (key ≤ v) | none => false
/-- what a look through rows finds: there, looks -/
noncomputable def lookedI : List (List Int) → Int → Nat → Bool × Int
  | [], _, n => (false, (n : Int))
  | r :: rs, key, n => if lastGe r key = true then (decide (key ∈ r), (n : Int) + 1) else lookedI rs key (n + 1)
end TR
namespace TR
/-- how many are less -/
noncomputable def less (l : List Int) (key : Int) : Nat := (l.filter fun x => decide (x < key)).length
end TR

namespace TR
/-- keys put to the rooms' counts -/
noncomputable def addI (ms p : List Int) : List Int := (ms.zip p).map fun q => q.1 + q.2
noncomputable def freeI (m w : Int) : Int := w * rowsI m w - m
noncomputable def Put (ms p : List Int) (more : Int) : Prop := p.length = ms.length ∧ (∀ x ∈ p, 0 ≤ x) ∧ p.sum = more
theorem addI_len {ms p : List Int} (h : p.length = ms.length) : (addI ms p).length = ms.length := by
  unfold addI
  rw [List.length_map, List.length_zip]
  omega
theorem spillI_cons (m : Int) (ms : List Int) (w : Int) : spillI (m :: ms) w = rowsI m w - 1 + spillI ms w := rfl
theorem rowsI_mono {m t w : Int} (hw : 0 < w) (ht : 0 ≤ t) : rowsI m w ≤ rowsI (m + t) w := by
  have : (m + w - 1) / w ≤ (m + t + w - 1) / w := Int.ediv_le_ediv hw (by omega)
  unfold rowsI
  omega
theorem free_pos {m w : Int} (hm : 0 ≤ m) (hw : 0 < w) : 0 ≤ freeI m w := by
  have := (rowsI_facts hm hw).1
  unfold freeI
  rw [Int.mul_comm]
  omega
theorem rows_same {m t w : Int} (hm : 0 ≤ m) (ht : 0 ≤ t) (hw : 0 < w) (hf : t ≤ freeI m w) : rowsI (m + t) w = rowsI m w := by
  have h1 := rowsI_mono (m := m) hw ht
  have h2 := rowsI_pos m w
  unfold freeI at hf
  have : (m + t + w - 1) / w < rowsI m w + 1 := Int.ediv_lt_of_lt_mul hw (by rw [Int.add_mul, Int.one_mul, Int.mul_comm]; omega)
  have e : rowsI (m + t) w = max 1 ((m + t + w - 1) / w) := rfl
  omega
noncomputable def ceilI (x w : Int) : Int := (max 0 x + w - 1) / w
theorem ceil_zero {x w : Int} (hw : 0 < w) (h : x ≤ 0) : ceilI x w = 0 := by
  unfold ceilI
  rw [Int.max_eq_left h]
  exact Int.ediv_eq_zero_of_lt (by omega) (by omega)
theorem ceil_pos {x w : Int} (hw : 0 < w) : 0 ≤ ceilI x w := Int.ediv_nonneg (by omega) (by omega)
noncomputable def freeS (ms : List Int) (w : Int) : Int := (ms.map fun m => freeI m w).sum
/-- what a put of more keys costs at least -/
noncomputable def leastI (ms : List Int) (w more : Int) : Int := spillI ms w + ceilI (more - freeS ms w) w
/-- the way of least_spill -/
noncomputable def leastF (w : Int) (s : List Int × Int) (m : Int) : List Int × Int := (s.1 ++ [min s.2 (freeI m w)], s.2 - min s.2 (freeI m w))
noncomputable def leastSt (ms : List Int) (w more : Int) : List Int × Int := ms.foldl (leastF w) ([], more)
noncomputable def leastGo : List Int → Int → Int → List Int × Int
  | [], _, l => ([], l)
  | m :: ms, w, l => (min l (freeI m w) :: (leastGo ms w (l - min l (freeI m w))).1, (leastGo ms w (l - min l (freeI m w))).2)
theorem leastSt_go : ∀ (ms : List Int) (w l : Int) (pre : List Int), ms.foldl (leastF w) (pre, l) = (pre ++ (leastGo ms w l).1, (leastGo ms w l).2)
  | [], _, _, pre => by simp [leastGo]
  | m :: ms, w, l, pre => by
    rw [List.foldl_cons]
    show ms.foldl (leastF w) (pre ++ [min l (freeI m w)], l - min l (freeI m w)) = _
    rw [leastSt_go ms w _ _]
    simp [leastGo]
theorem leastGo_facts : ∀ (ms : List Int) {w l : Int}, 0 < w → 0 ≤ l → (∀ m ∈ ms, 0 ≤ m) →
    (leastGo ms w l).1.length = ms.length ∧ (∀ x ∈ (leastGo ms w l).1, 0 ≤ x ∧ x ≤ l) ∧ (leastGo ms w l).1.sum + (leastGo ms w l).2 = l ∧ (leastGo ms w l).2 = max 0 (l - freeS ms w) ∧ spillI (addI ms (leastGo ms w l).1) w = spillI ms w
  | [], w, l, _, hl, _ => by
    refine ⟨rfl, fun x hx => absurd hx List.not_mem_nil, ?_, ?_, rfl⟩
    · show (0 : Int) + l = l
      omega
    · show l = max 0 (l - 0)
      omega
  | m :: ms, w, l, hw, hl, hm => by
    have hf := free_pos (hm m List.mem_cons_self) hw
    obtain ⟨t, ht⟩ : ∃ t, t = min l (freeI m w) := ⟨_, rfl⟩
    obtain ⟨i1, i2, i3, i4, i5⟩ := leastGo_facts ms (w := w) (l := l - t) hw (by omega) (fun x hx => hm x (List.mem_cons_of_mem _ hx))
    have eg : leastGo (m :: ms) w l = (t :: (leastGo ms w (l - t)).1, (leastGo ms w (l - t)).2) := by rw [ht]; rfl
    have es : freeS (m :: ms) w = freeI m w + freeS ms w := rfl
    rw [eg, es]
    refine ⟨by simp [i1], fun x hx => ?_, by simp only [List.sum_cons]; omega, ?_, ?_⟩
    · rcases List.mem_cons.mp hx with rfl | hx
      · omega
      · have := i2 x hx
        omega
    · rw [i4]
      have : 0 ≤ freeS ms w := by
        have : ∀ l : List Int, (∀ m ∈ l, 0 ≤ m) → 0 ≤ freeS l w := by
          intro l
          induction l with
          | nil => intro _; exact Int.le_refl _
          | cons a l ih =>
            intro h
            have := free_pos (h a List.mem_cons_self) hw
            have := ih fun x hx => h x (List.mem_cons_of_mem _ hx)
            show 0 ≤ freeI a w + freeS l w
            omega
        exact this ms fun x hx => hm x (List.mem_cons_of_mem _ hx)
      omega
    · show spillI ((m + t) :: addI ms _) w = _
      rw [spillI_cons, spillI_cons, i5, rows_same (hm m List.mem_cons_self) (by omega) hw (by omega)]
theorem freeS_pos {w : Int} (hw : 0 < w) : ∀ {l : List Int}, (∀ m ∈ l, 0 ≤ m) → 0 ≤ freeS l w
  | [], _ => Int.le_refl _
  | a :: l, h => by
    have := free_pos (h a List.mem_cons_self) hw
    have := freeS_pos hw (l := l) fun x hx => h x (List.mem_cons_of_mem _ hx)
    show 0 ≤ freeI a w + freeS l w
    omega
noncomputable def leastPut (ms : List Int) (w more : Int) : List Int := (leastSt ms w more).1.set 0 ((leastSt ms w more).1.getD 0 0 + (leastSt ms w more).2)
theorem leastPut_facts {ms : List Int} {w more : Int} (hw : 0 < w) (h0 : 0 ≤ more) (hm : ∀ m ∈ ms, 0 ≤ m) (hn : ms ≠ []) : Put ms (leastPut ms w more) more ∧ spillI (addI ms (leastPut ms w more)) w = leastI ms w more := by
  cases ms with
  | nil => exact absurd rfl hn
  | cons m ms =>
    have e : leastSt (m :: ms) w more = leastGo (m :: ms) w more := by
      unfold leastSt
      rw [leastSt_go]
      rfl
    have hf := free_pos (hm m List.mem_cons_self) hw
    obtain ⟨t, ht⟩ : ∃ t, t = min more (freeI m w) := ⟨_, rfl⟩
    have hm' : ∀ x ∈ ms, 0 ≤ x := fun x hx => hm x (List.mem_cons_of_mem _ hx)
    obtain ⟨i1, i2, i3, i4, i5⟩ := leastGo_facts ms (w := w) (l := more - t) hw (by omega) hm'
    have fp := freeS_pos hw hm'
    have eg : leastGo (m :: ms) w more = (t :: (leastGo ms w (more - t)).1, (leastGo ms w (more - t)).2) := by rw [ht]; rfl
    have ep : leastPut (m :: ms) w more = (t + (leastGo ms w (more - t)).2) :: (leastGo ms w (more - t)).1 := by
      unfold leastPut
      rw [e, eg]
      rfl
    rw [ep]
    have es : freeS (m :: ms) w = freeI m w + freeS ms w := rfl
    refine ⟨⟨by simp [i1], fun x hx => ?_, by simp only [List.sum_cons]; omega⟩, ?_⟩
    · rcases List.mem_cons.mp hx with rfl | hx
      · omega
      · exact (i2 x hx).1
    · show spillI ((m + (t + _)) :: addI ms _) w = _
      unfold leastI
      rw [spillI_cons, spillI_cons, i5, es]
      by_cases c : more - (freeI m w + freeS ms w) ≤ 0
      · rw [ceil_zero hw c, show (leastGo ms w (more - t)).2 = 0 by omega, Int.add_zero, rows_same (hm m List.mem_cons_self) (by omega) hw (by omega)]
        omega
      · have e1 : (leastGo ms w (more - t)).2 = more - (freeI m w + freeS ms w) := by omega
        have e2 : t = freeI m w := by omega
        rw [e1, e2]
        generalize more - (freeI m w + freeS ms w) = x at *
        have e3 : m + (freeI m w + x) = w * rowsI m w + x := by unfold freeI; omega
        have e4 : rowsI (w * rowsI m w + x) w = rowsI m w + ceilI x w := by
          have hp := rowsI_pos m w
          have hc := ceil_pos (x := x) hw
          have : (w * rowsI m w + x + w - 1) / w = rowsI m w + ceilI x w := by
            unfold ceilI
            rw [Int.max_eq_right (by omega), show w * rowsI m w + x + w - 1 = (x + w - 1) + w * rowsI m w by omega, Int.add_mul_ediv_left _ _ (by omega)]
            omega
          show max 1 ((w * rowsI m w + x + w - 1) / w) = _
          rw [this]
          omega
        rw [e3, e4]
        omega
end TR
namespace TR
/-- all puts, as lists -/
noncomputable def putsG : Nat → Int → List (List Int)
  | 0, _ => [[]]
  | k + 1, more => (putsG k more).flatMap fun p => (List.range (more - p.sum + 1).toNat).map fun (i : Nat) => p ++ [(i : Int)]
noncomputable def putsI (rooms : Nat) (more : Int) : List (List Int) := (putsG (rooms - 1) more).map fun p => p ++ [more - p.sum]
theorem spillI_more' {ms p : List Int} {w : Int} (hm : ∀ m ∈ ms, 0 ≤ m) (hp : ∀ x ∈ p, 0 ≤ x) (hw : 1 ≤ w) : ((ms.zip p).map fun q => max 0 (q.1 + q.2 - 1) / w).sum = spillI (addI ms p) w := by
  have h : ∀ m ∈ addI ms p, 0 ≤ m := fun m h => by
    obtain ⟨q, hq, rfl⟩ := List.mem_map.mp h
    have := hm _ (List.of_mem_zip hq).1
    have := hp _ (List.of_mem_zip hq).2
    omega
  rw [← spillI_more h hw]
  unfold addI
  rw [List.map_map]
  rfl
end TR

/-! sorted of pairs of a number and a text, no two unlike ones of the same number -/
namespace SrtS
open PySem PySem.W PyProof.Rows SrtO
section
variable {prog : Program} {w : World} {A : Around} {E : Value → Shared → Prop} {s : Shared}
noncomputable def IsPS (h : Heap) (v : Value) (x : Int) (y : Str) : Prop := ∃ a o t u n, v = .ref a ∧ h.get? a = some o ∧ o.cls = .type "tuple" ∧ o.data = .seq #[.int x t, .str y u] n
noncomputable def ltI (p q : Int × Str) : Bool := decide (p.1 < q.1)
end
end SrtS
namespace L2
open PySem PySem.Spec PyProof.Rows
noncomputable def EntV (K : PySem.W.Frag) (H : Hp) (x : V) (e : Int × Str) : Prop := ∃ t, x = V.ref t ∧ SqT K H t [.int e.1, .str e.2]
noncomputable def rSortedPS (K : PySem.W.Frag) : List V → Hp → VK → Prop := fun vs H Q => ∃ (a : Addr) (xs : List V) (l : List (Int × Str)), vs = [V.ref a] ∧ SqL K H a xs ∧ Paired (EntV K H) xs l ∧
  (∀ x ∈ l, ∀ y ∈ l, x.1 = y.1 → x.2 = y.2) ∧
  ∀ (ps : List (V × (Int × Str))) p, ps.Pairwise (fun x y => x.2.1 ≤ y.2.1) → ps.Perm (xs.zip l) → H p = none → Q (.ref p) (upd H p (.lst (ps.map Prod.fst)))
end L2

/-! entries, rows, rooms, yards as data; comprehensions that draw -/
namespace TR
open PySem L2
/-- a text of signs that there are -/
noncomputable abbrev Tx := {x : Str // PyData.strOk x = true}
instance : Inhabited Tx := ⟨⟨⟨#[]⟩, by simp [PyData.strOk]⟩⟩
instance : Py Tx := ⟨fun x => .str x.1, 0, fun _ => Nat.le_refl _, fun x => x.2, fun a b => by
  rw [PyData.eqv, beq_iff_eq]
  exact Subtype.ext_iff.symm⟩
instance : Py (Option Tx) := ⟨fun o => match o with | none => .none | some i => .str i.1, 0, fun o => by cases o <;> exact Nat.le_refl _, fun o => by
  cases o with
  | none => rfl
  | some x => exact x.2, fun a b => by
  cases a <;> cases b
  · exact ⟨fun _ => rfl, fun _ => rfl⟩
  · exact ⟨fun h => (Bool.false_ne_true h).elim, fun h => nomatch h⟩
  · exact ⟨fun h => (Bool.false_ne_true h).elim, fun h => nomatch h⟩
  · rename_i x y
    show (x.1 == y.1) = true ↔ some x = some y
    rw [beq_iff_eq, Option.some.injEq]
    exact Subtype.ext_iff.symm⟩
noncomputable abbrev Ent := Int × Tx
noncomputable abbrev Row := List Ent
noncomputable abbrev Yard := T3 Int Int (List (List Row))
instance : DecidableEq Tx := fun a b => decidable_of_iff (a.1 = b.1) Subtype.ext_iff.symm
instance : DecidableEq Yard := fun a b => decidable_of_iff (a.a = b.a ∧ a.b = b.b ∧ a.c = b.c) (by
  obtain ⟨a1, a2, a3⟩ := a
  obtain ⟨b1, b2, b3⟩ := b
  exact T3.mk.injEq .. ▸ Iff.rfl)
section
variable {K : PySem.W.Frag} {H : Hp} {v : V}
end
/-! ### rows sorted by their keys -/
noncomputable def sortE (l : Row) : Row := l.mergeSort (fun a b => decide (a.1 ≤ b.1))
/-- no two unlike entries of one key -/
noncomputable def OneK (l : Row) : Prop := ∀ x ∈ l, ∀ y ∈ l, x.1 = y.1 → x.2 = y.2
end TR
namespace TR
open PySem L2
/-! ### pure values out of data, some of them -/
section
variable {K : PySem.W.Frag} {σ : L2.St} {H : Hp} {tt : TT} {te : TE} {Q : VK} {g : TG} {vs : List Nat}
end
/-! ### comprehensions that draw -/
section
variable {K : PySem.W.Frag} {σ : L2.St} {H : Hp} {te : TE} {Q : VK} {g : TG} {vs : List Nat}
end
end TR

/-! data that stands in plain lists and tuples: all its lists are tracked -/
namespace TR
open PySem L2
mutual
inductive Dt (H : Hp) : V → PyData → Prop
  | non : Dt H .non .none
  | bl (b : Bool) : Dt H (.bl b) (.bool b)
  | int (i : Int) : Dt H (.int i) (.int i)
  | str (x : Str) : Dt H (.str x) (.str x)
  | lst {a : Addr} {vs : List V} {ds : List PyData} : H a = some (.lst vs) → DtAll H vs ds → Dt H (.ref a) (.list ds)
  | tup {a : Addr} {vs : List V} {ds : List PyData} : H a = some (.tup vs) → DtAll H vs ds → Dt H (.ref a) (.tuple ds)
inductive DtAll (H : Hp) : List V → List PyData → Prop
  | nil : DtAll H [] []
  | cons {v : V} {vs : List V} {d : PyData} {ds : List PyData} : Dt H v d → DtAll H vs ds → DtAll H (v :: vs) (d :: ds)
end
mutual
theorem Dt.ex {H H' : Hp} (e : Ex H H') : ∀ {v : V} {d : PyData}, Dt H v d → Dt H' v d
  | _, _, .non => .non
  | _, _, .bl b => .bl b
  | _, _, .int i => .int i
  | _, _, .str x => .str x
  | _, _, .lst s a => .lst (e _ _ s) (DtAll.ex e a)
  | _, _, .tup s a => .tup (e _ _ s) (DtAll.ex e a)
theorem DtAll.ex {H H' : Hp} (e : Ex H H') : ∀ {vs : List V} {ds : List PyData}, DtAll H vs ds → DtAll H' vs ds
  | _, _, .nil => .nil
  | _, _, .cons a r => .cons (Dt.ex e a) (DtAll.ex e r)
end
mutual
theorem Dt.dp {K : PySem.W.Frag} {H : Hp} : ∀ {v : V} {d : PyData}, Dt H v d → Dp K H v d
  | _, _, .non => .non
  | _, _, .bl b => .bl b
  | _, _, .int i => .int i
  | _, _, .str x => .str x
  | _, _, .lst s a => .lst (sq_of s) (DtAll.dp a)
  | _, _, .tup s a => .tup (st_of s) (DtAll.dp a)
theorem DtAll.dp {K : PySem.W.Frag} {H : Hp} : ∀ {vs : List V} {ds : List PyData}, DtAll H vs ds → DpAll K H vs ds
  | _, _, .nil => .nil
  | _, _, .cons a r => .cons (Dt.dp a) (DtAll.dp r)
end
/-- the value v stands in H as the thing x -/
noncomputable abbrev Ik (H : Hp) {α : Type} [Py α] (v : V) (x : α) : Prop := Dt H v (Py.d x)
section
variable {K : PySem.W.Frag} {H H' : Hp} {α β γ δ : Type} [Py α] [Py β] [Py γ] [Py δ] {v w u t : V} {x : α} {y : β} {z : γ} {r : δ} {a : Addr}
theorem Ik.is (h : Ik H v x) : Is K H v x := Dt.dp h
theorem Ik.ex (e : Ex H H') (h : Ik H v x) : Ik H' v x := Dt.ex e h
theorem Ik.int (i : Int) : Ik H (.int i) i := Dt.int i
theorem Ik.bl (i : Bool) : Ik H (.bl i) i := Dt.bl i
theorem Ik.nil (h : H a = some (.lst [])) : Ik H (.ref a) ([] : List α) := .lst h .nil
theorem Ik.list {xs : List α} (h : Ik H v xs) : ∃ a vs, v = .ref a ∧ H a = some (.lst vs) ∧ Paired (fun v x => Ik H v x) vs xs := by
  have go : ∀ (vs : List V) (ys : List α), DtAll H vs (ys.map Py.d) → Paired (fun v x => Ik H v x) vs ys := by
    intro vs ys
    induction ys generalizing vs with
    | nil => intro h; cases h; exact .nil
    | cons y ys ih =>
      intro h
      cases h with
      | cons h1 h2 => exact .cons h1 (ih _ h2)
  have h' : Dt H v (.list (xs.map Py.d)) := h
  cases h' with
  | lst s a => exact ⟨_, _, rfl, s, go _ _ a⟩
theorem Ik.of_list {vs : List V} {xs : List α} (s : H a = some (.lst vs)) (h : Paired (fun v x => Ik H v x) vs xs) : Ik H (.ref a) xs := by
  have go : ∀ {vs : List V} {ys : List α}, Paired (fun v x => Ik H v x) vs ys → DtAll H vs (ys.map Py.d) := by
    intro vs ys h
    induction h with
    | nil => exact .nil
    | cons h1 _ ih => exact .cons h1 ih
  exact .lst s (go h)
theorem pair_intsK : ∀ {vs : List V} {xs : List Int}, Paired (fun v x => Ik H v x) vs xs → vs = xs.map V.int
  | _, _, .nil => rfl
  | _, _, .cons (a := v) (b := i) h r => by
    have h' : Dt H v (.int i) := h
    cases h'
    rw [pair_intsK r]
    rfl
theorem ints_pairK : ∀ {xs : List Int}, Paired (fun v x => Ik H v x) (xs.map V.int) xs
  | [] => .nil
  | _ :: _ => .cons (Ik.int _) ints_pairK
end
section
variable {K : PySem.W.Frag} {Z H : Hp} {α β : Type} [Py α] [Py β] {v : V} {σ : L2.St} {R : L2.St → Hp → Prop} {Q : VK}
end
end TR

/-! T: from (Z, H) to (Z', H'). Z is what stays for ever; only M's things are changed -/
namespace TR
open PySem L2
structure T (M : List Addr) (Z H Z' H' : Hp) : Prop where
  z : Ex Z Z'
  zh : Ex Z' H'
  m : ∀ b o, b ∉ M → H b = some o → H' b = some o
  al : ∀ b o, H b = some o → ∃ o', H' b = some o'
  fr : ∀ b, b ∉ M → Z b = none → (∃ o, H b = some o) → Z' b = none
/-- p stands in H and may be changed -/
structure Mu (Z H : Hp) (p : Addr) : Prop where
  z : Z p = none
  a : ∃ o, H p = some o
/-- a list that stands in H, its things in Z -/
noncomputable def Li (Z H : Hp) (p : Addr) {α : Type} [Py α] (l : List α) : Prop := ∃ vs, H p = some (.lst vs) ∧ Paired (fun v x => Ik Z v x) vs l
/-- .. and that stays as it is -/
noncomputable def Ls (Z : Hp) (p : Addr) {α : Type} [Py α] (l : List α) : Prop := Li Z Z p l
/-- a list that is filled: it stands at D, its things in Z -/
structure Lm (Z H : Hp) (D : Addr) {α : Type} [Py α] (l : List α) : Prop where
  ex : ∃ vs, H D = some (.lst vs) ∧ Paired (fun v x => Ik Z v x) vs l
  zd : Z D = none
  zh : Ex Z H
theorem nm_nil {b : Addr} : b ∉ ([] : List Addr) := List.not_mem_nil
theorem nm_cons {b x : Addr} {M : List Addr} (h : b ≠ x) (t : b ∉ M) : b ∉ x :: M := fun z => by
  rcases List.mem_cons.mp z with z | z
  · exact h z
  · exact t z
theorem mm_nil {N : List Addr} {H : Hp} : ∀ x ∈ ([] : List Addr), x ∈ N ∨ H x = none := fun _ h => absurd h List.not_mem_nil
theorem mm_cons {N M : List Addr} {H : Hp} {y : Addr} (h : y ∈ N ∨ H y = none) (t : ∀ x ∈ M, x ∈ N ∨ H x = none) : ∀ x ∈ y :: M, x ∈ N ∨ H x = none := fun x hx => by
  rcases List.mem_cons.mp hx with e | hx
  · rw [e]; exact h
  · exact t x hx
theorem mm_same {N : List Addr} {H : Hp} : ∀ x ∈ N, x ∈ N ∨ H x = none := fun _ h => .inl h
section
variable {K : PySem.W.Frag} {M N : List Addr} {Z H Z1 H1 Z2 H2 Z' H' Z0 H0 : Hp} {p b h D : Addr} {o : HO} {v : V} {α : Type} {iα : Py α} {x : α} {l : List α} {n : Nat}
theorem T.refl (e : Ex Z H) : T M Z H Z H := ⟨Ex.refl _, e, fun _ _ _ h => h, fun _ o h => ⟨o, h⟩, fun _ _ h _ => h⟩
theorem T.step (a : T N Z H Z1 H1) (b : T M Z1 H1 Z2 H2) (h : ∀ x ∈ M, x ∈ N ∨ H x = none) : T N Z H Z2 H2 := by
  have nm : ∀ x, x ∉ N → (∃ o, H x = some o) → x ∉ M := fun x nx ⟨o, ho⟩ hx => by
    rcases h x hx with g | g
    · exact nx g
    · rw [ho] at g; cases g
  refine ⟨a.z.trans b.z, b.zh, fun c o nc hc => b.m c o (nm c nc ⟨o, hc⟩) (a.m c o nc hc), fun c o hc => ?_, fun c nc zc ⟨o, hc⟩ => ?_⟩
  · obtain ⟨o', ho'⟩ := a.al c o hc
    exact b.al c o' ho'
  · obtain ⟨o', ho'⟩ := a.al c o hc
    exact b.fr c (nm c nc ⟨o, hc⟩) (a.fr c nc zc ⟨o, hc⟩) ⟨o', ho'⟩
theorem T.nn (t : T M Z H Z' H') (n : H' b = none) : H b = none := by
  cases c : H b with
  | none => rfl
  | some o =>
    obtain ⟨o', ho'⟩ := t.al b o c
    rw [n] at ho'
    cases ho'
/-- all that stood stands: b is new -/
noncomputable def AC (H H' : Hp) : Prop := ∀ b, H' b = none → H b = none
theorem Ik.tt (t : T M Z H Z' H') (h : Ik Z v x) : Ik Z' v x := Ik.ex t.z h
theorem T.pz (t : T M Z H Z' H') (h : Z p = some o) : Z' p = some o := t.z _ _ h
theorem T.hp (t : T M Z H Z' H') (n : p ∉ M) (h : H p = some o) : H' p = some o := t.m _ _ n h
theorem T.all (t : T M Z H Z' H') (h : ∃ o, H p = some o) : ∃ o, H' p = some o := by
  obtain ⟨o, ho⟩ := h
  exact t.al _ _ ho
theorem T.mu (t : T M Z H Z' H') (n : p ∉ M) (a : Mu Z H p) : Mu Z' H' p := ⟨t.fr _ n a.z a.a, t.all a.a⟩
theorem Hand.tt (t : T M Z H Z' H') (nm : h ∉ M) (a : Hand K Z H h n) : Hand K Z' H' h n := by
  obtain ⟨d, k, c, cells, h1, h3, h4, h5, z1, z2, z3⟩ := a
  exact ⟨d, k, c, cells, t.m _ _ nm h1, h3, h4, h5, t.zh, t.fr _ nm z2 ⟨_, h1⟩, t.z.sq z3⟩
theorem Ls.tt (t : T M Z H Z' H') (a : Ls Z p l) : Ls Z' p l := by
  obtain ⟨vs, h1, h2⟩ := a
  exact ⟨vs, t.z _ _ h1, Paired.mapP h2 fun v x h => Ik.ex t.z h⟩
theorem Ls.li (a : Ls Z p l) (e : Ex Z H) : Li Z H p l := by
  obtain ⟨vs, h1, h2⟩ := a
  exact ⟨vs, e _ _ h1, h2⟩
theorem Ls.is (a : Ls Z p l) : Ik Z (.ref p) l := by
  obtain ⟨vs, h1, h2⟩ := a
  exact Ik.of_list h1 h2
theorem Ls.ints {l : List Int} (a : Ls Z p l) : Z p = some (.lst (l.map V.int)) := by
  obtain ⟨vs, h1, h2⟩ := a
  rw [h1, pair_intsK h2]
theorem Ls.ofInts {l : List Int} (h : Z p = some (.lst (l.map V.int))) : Ls Z p l := ⟨_, h, ints_pairK⟩
theorem Ik.l2 {w u : V} {y : α} (h : Z p = some (.lst [w, u])) (i : Ik Z w x) (j : Ik Z u y) : Ik Z (.ref p) [x, y] := Ik.of_list h (.cons i (.cons j .nil))
theorem Ls.l1 {w : V} (h : Z p = some (.lst [w])) (i : Ik Z w x) : Ls Z p [x] := ⟨_, h, .cons i .nil⟩
/-! ways in: from the old words -/
theorem T.ofEx (e : Ex H H') (z : Ex Z H) : T M Z H Z H' := ⟨Ex.refl _, z.trans e, fun _ _ _ h => e _ _ h, fun _ o h => ⟨o, e _ _ h⟩, fun _ _ h _ => h⟩
theorem T.ofExM (m : ExM h H H') (a : ∃ o, H' h = some o) (z : Ex Z H) (zn : Z h = none) : T [h] Z H Z H' :=
  ⟨Ex.refl _, z.exm zn m, fun _ o n e => m _ o (fun z => n (by rw [z]; exact List.mem_cons_self)) e, fun b o e => by
    by_cases c : b = h
    · rw [c]; exact a
    · exact ⟨o, m _ _ c e⟩, fun _ _ h _ => h⟩
theorem upd_ex2 (z : Ex Z H) : Ex (upd Z p o) (upd H p o) := fun b u e => by
  by_cases c : b = p
  · rw [c, upd_same] at e ⊢
    exact e
  · rw [upd_ne c] at e ⊢
    exact z _ _ e
/-- a new thing that stays as it is -/
theorem T.new (n : H p = none) (z : Ex Z H) : T M Z H (upd Z p o) (upd H p o) :=
  ⟨Ex.new (Ex.back z n), upd_ex2 z, fun b u _ e => by rw [upd_ne (ne_of_none e n)]; exact e, fun b u e => ⟨u, by rw [upd_ne (ne_of_none e n)]; exact e⟩, fun b _ zb ⟨u, e⟩ => by rw [upd_ne (ne_of_none e n)]; exact zb⟩
/-- a new thing that may be changed -/
theorem T.newM (n : H p = none) (z : Ex Z H) : T M Z H Z (upd H p o) :=
  ⟨Ex.refl _, z.trans (Ex.new n), fun b u _ e => by rw [upd_ne (ne_of_none e n)]; exact e, fun b u e => ⟨u, by rw [upd_ne (ne_of_none e n)]; exact e⟩, fun b _ zb _ => zb⟩
/-- a thing is changed -/
theorem T.set (a : Mu Z H p) (z : Ex Z H) : T [p] Z H Z (upd H p o) :=
  ⟨Ex.refl _, fun b u e => by rw [upd_ne (ne_of_none e a.z)]; exact z _ _ e, fun b u nb e => by rw [upd_ne (fun c => nb (by rw [c]; exact List.mem_cons_self))]; exact e, fun b u e => by
    by_cases c : b = p
    · exact ⟨_, by rw [c]; exact upd_same⟩
    · exact ⟨u, by rw [upd_ne c]; exact e⟩, fun b _ zb _ => zb⟩
/-- a thing is to stay as it is from now on -/
theorem T.fz (z : Ex Z H) (zp : Z p = none) (hp : H p = some o) : T [p] Z H (upd Z p o) H :=
  ⟨Ex.new zp, fun b u e => by
    by_cases c : b = p
    · rw [c, upd_same] at e
      cases e
      rw [c]; exact hp
    · rw [upd_ne c] at e
      exact z _ _ e, fun _ _ _ h => h, fun _ o h => ⟨o, h⟩, fun b nb zb _ => by rw [upd_ne (fun c => nb (by rw [c]; exact List.mem_cons_self))]; exact zb⟩
/-- .. of old words: all that is new stays as it is -/
noncomputable def grow (Z H H' : Hp) : Hp := fun b => match Z b with | some o => some o | none => match H b with | some _ => none | none => H' b
end
/-! ### new things: what is asked next -/
section
variable {K : PySem.W.Frag} {M : List Addr} {Z H : Hp} {Q : VK} {R : Hp → Prop} {p D a b : Addr} {v w : V} {α : Type} {iα : Py α} {x : α} {l r : List α} {xs : List V}
/-- an empty list that will be changed -/
theorem t_lst0 (z : Ex Z H) (q : ∀ p Z' H', H p = none → T [] Z H Z' H' → Mu Z' H' p → H' p = some (.lst []) → Q (.ref p) H') : NewL [] H Q :=
  ⟨sz_of (Nat.zero_le _), fun p hp => q p Z _ hp (T.newM hp z) ⟨Ex.back z hp, _, upd_same⟩ upd_same⟩
theorem t_lst (z : Ex Z H) (h : xs.length ≤ 100000) (q : ∀ p Z' H', H p = none → T [] Z H Z' H' → Z' p = some (.lst xs) → Q (.ref p) H') : NewL xs H Q :=
  ⟨sz_of h, fun p hp => q p _ _ hp (T.new hp z) upd_same⟩
theorem t_tup (z : Ex Z H) (h : xs.length ≤ 100000) (q : ∀ p Z' H', H p = none → T [] Z H Z' H' → Z' p = some (.tup xs) → Q (.ref p) H') : NewT xs H Q :=
  ⟨sz_of h, fun p hp => q p _ _ hp (T.new hp z) upd_same⟩
theorem t_fzV {G : Hp → Prop} (m : Mu Z H D) (z : Ex Z H) {o : HO} (f : H D = some o) (q : ∀ Z' H', T [D] Z H Z' H' → Z' D = some o → G H') : G H :=
  q _ _ (T.fz z m.z f) upd_same
/-- two lists one behind the other -/
theorem t_cat (z : Ex Z H) (h1 : Li Z H a l) (h2 : Li Z H b r) (hz : l.length + r.length ≤ 100000) (q : ∀ p Z' H', H p = none → T [] Z H Z' H' → Ls Z' p (l ++ r) → Q (.ref p) H') : rPlus (.ref a) (.ref b) H Q := by
  obtain ⟨vs, f1, g1⟩ := h1
  obtain ⟨us, f2, g2⟩ := h2
  have l1 := Paired.length g1
  have l2 := Paired.length g2
  refine .inr (.inl ⟨a, b, vs, us, rfl, rfl, f1, f2, sz_of (by omega), fun p hp => ?_⟩)
  have t : T [] Z H (upd Z p (.lst (vs ++ us))) (upd H p (.lst (vs ++ us))) := T.new hp z
  exact q p _ _ hp t ⟨_, upd_same, paired_append (Paired.mapP g1 fun v x g => Ik.ex t.z g) (Paired.mapP g2 fun v x g => Ik.ex t.z g)⟩
/-- a copy that stays | that will be changed -/
theorem t_list (z : Ex Z H) (h : Ik Z (.ref a) l) (q : ∀ p Z' H', H p = none → T [] Z H Z' H' → Ls Z' p l → Q (.ref p) H') : rList1 K [.ref a] H Q := by
  obtain ⟨b, us, e, h1, h2⟩ := h.list
  cases e
  refine ⟨a, us, rfl, .inl (z.sq (sq_of h1)), fun p hp => ?_⟩
  have t : T [] Z H (upd Z p (.lst us)) (upd H p (.lst us)) := T.new hp z
  exact q p _ _ hp t ⟨_, upd_same, Paired.mapP h2 fun v x g => Ik.ex t.z g⟩
/-! what is read -/
theorem t_len (z : Ex Z H) (h : Ik Z (.ref a) l) (q : Q (.int (l.length : Int)) H) : rLen K [.ref a] H Q := s_lenIs (Ik.ex z h).is q
end
/-! ### draws -/
noncomputable def spDraw (K : PySem.W.Frag) : Sp := fun vs H Q _ => ∃ (h : Addr) (m : Int) (n : Nat) (Z : Hp), vs = [.ref h, .int m] ∧ Hand K Z H h (n + 1) ∧ 0 < m ∧ m ≤ 4611686018427387904 ∧
  ∀ (r : Int) H', 0 ≤ r → r < m → ExM h H H' → Hand K Z H' h n → Q (.int r) H'
section
variable {K : PySem.W.Frag} {Z H : Hp} {h : Addr} {m : Int} {N : Nat} {Q : VK} {E : XK}
theorem Hand.t {H' : Hp} {n n' : Nat} (hh : Hand K Z H h n) (m : ExM h H H') (hh' : Hand K Z H' h n') : T [h] Z H Z H' := T.ofExM m hh'.at hh.z hh.zn
theorem drawT (hh : Hand K Z H h N) (hN : 1 ≤ N) (m0 : 0 < m) (m1 : m ≤ 4611686018427387904) (q : ∀ (r : Int) Z' H', 0 ≤ r → r < m → T [h] Z H Z' H' → Hand K Z' H' h (N - 1) → Q (.int r) H') : spDraw K [.ref h, .int m] H Q E :=
  ⟨h, m, N - 1, Z, rfl, hh.mono (by omega), m0, m1, fun r H' r0 r1 e hh' => q r Z H' r0 r1 (hh.t e hh') hh'⟩
noncomputable def spFar (K : PySem.W.Frag) : Sp := fun vs H Q _ => ∃ (h : Addr) (m : Int) (n : Nat) (Z : Hp), vs = [.ref h, .int m] ∧ Hand K Z H h (n + 7) ∧ 0 < m ∧ m ≤ 4611686018427387904 ∧
  ∀ (r : Int) H', 0 ≤ r → r < m → ExM h H H' → Hand K Z H' h n → Q (.int r) H'
theorem farT (hh : Hand K Z H h N) (hN : 7 ≤ N) (m0 : 0 < m) (m1 : m ≤ 4611686018427387904) (q : ∀ (r : Int) Z' H', 0 ≤ r → r < m → T [h] Z H Z' H' → Hand K Z' H' h (N - 7) → Q (.int r) H') : spFar K [.ref h, .int m] H Q E :=
  ⟨h, m, N - 7, Z, rfl, hh.mono (by omega), m0, m1, fun r H' r0 r1 e hh' => q r Z H' r0 r1 (hh.t e hh') hh'⟩
noncomputable def spKey (K : PySem.W.Frag) : Sp := fun vs H Q _ => ∃ (h : Addr) (n : Nat) (Z : Hp), vs = [.ref h] ∧ Hand K Z H h (n + 12) ∧
  ∀ (r : Int) H', 0 ≤ r → r < 1152921504606846976 → ExM h H H' → Hand K Z H' h n → Q (.int r) H'
noncomputable def lettersS : Str := "abcdefghijklmnopqrstuvwxyz"
/-- a text of one to eight small letters -/
noncomputable def nameB (x : Str) : Bool := decide (1 ≤ x.length ∧ x.length ≤ 8) && x.cps.toList.all fun c => decide (c ∈ lettersS.cps.toList)
noncomputable def spThing (K : PySem.W.Frag) : Sp := fun vs H Q _ => ∃ (h : Addr) (n : Nat) (Z : Hp), vs = [.ref h] ∧ Hand K Z H h (n + 10) ∧
  ∀ (x : Tx) H', nameB x.1 = true → ExM h H H' → Hand K Z H' h n → Q (.str x.1) H'
noncomputable def spOpen (K : PySem.W.Frag) : Sp := fun vs H Q _ => ∃ (a : Addr) (ns : List Int) (x : Int), vs = [.ref a, .int x] ∧ SqL K H a (ns.map V.int) ∧ 0 ≤ x ∧ x ≤ 1000 ∧
  ∀ (h c : Addr) (d : Int) (cells : List Int) H', H h = none → H c = none → h ≠ c → Ex H H' → H' h = some (.lst [.int d, .int (1 + 1009 * x), .ref c]) → H' c = some (.lst (cells.map V.int)) → 0 < cells.length → Q (.ref h) H'
theorem openT {a : Addr} {ns : List Int} {x : Int} (z : Ex Z H) (s : SqL K H a (ns.map V.int)) (x0 : 0 ≤ x) (x1 : x ≤ 1000) (q : ∀ h Z' H', H h = none → T [] Z H Z' H' → Hand K Z' H' h 900000000000000000 → Q (.ref h) H') : spOpen K [.ref a, .int x] H Q E :=
  ⟨a, ns, x, rfl, s, x0, x1, fun h c d cells H' nh nc ne e fh fc c0 => by
    have zh : Ex (upd Z c (.lst (cells.map V.int))) H' := fun b o eb => by
      by_cases cc : b = c
      · rw [cc, upd_same] at eb
        cases eb
        rw [cc]; exact fc
      · rw [upd_ne cc] at eb
        exact e _ _ (z _ _ eb)
    refine q h _ H' nh ⟨Ex.new (Ex.back z nc), zh, fun _ _ _ h => e _ _ h, fun _ o h => ⟨o, e _ _ h⟩, fun b _ zb ⟨o, ho⟩ => by rw [upd_ne (ne_of_none ho nc)]; exact zb⟩ ⟨d, 1 + 1009 * x, c, cells, fh, c0, by omega, by omega, zh, ?_, sq_of upd_same⟩
    rw [upd_ne ne]
    exact Ex.back z nh⟩
end
end TR
namespace TR
open PySem L2
theorem ne_alF {H : Hp} {a b : Addr} (n : H a = none) (h : ∃ o, H b = some o) : a ≠ b := fun z => by
  obtain ⟨o, ho⟩ := h
  rw [z, ho] at n
  cases n
theorem ne_alB {H : Hp} {a b : Addr} (n : H b = none) (h : ∃ o, H a = some o) : a ≠ b := (ne_alF n h).symm
end TR
namespace TR
open PySem L2
/-! a place of a list, found once -/
noncomputable def IxGo (xs : List V) (i : Int) (H : Hp) (Q : VK) : Prop := ∃ v, atI xs i = some v ∧ Q v H
section
variable {K : PySem.W.Frag} {H : Hp} {Q : VK} {a : Addr} {xs : List V} {i : Int} {v w : V}
theorem ixGo (h : SqL K H a xs) (q : IxGo xs i H Q) : rIx K (.ref a) (.int i) H Q := by
  obtain ⟨v, e, q⟩ := q
  exact s_ixL h e q
theorem ixGoT (h : SqT K H a xs) (q : IxGo xs i H Q) : rIx K (.ref a) (.int i) H Q := by
  obtain ⟨v, e, q⟩ := q
  exact s_ixT h e q
theorem ig_at (e : atI xs i = some v) (q : Q v H) : IxGo xs i H Q := ⟨v, e, q⟩
theorem ig_2 {x y : Int} (h0 : 0 ≤ i ∧ i < 2) (q : ∀ v, (i = 0 ∧ v = x ∨ i = 1 ∧ v = y) → Q (.int v) H) : IxGo [.int x, .int y] i H Q := by
  have : i = 0 ∨ i = 1 := by omega
  rcases this with rfl | rfl
  · exact ⟨_, rfl, q _ (.inl ⟨rfl, rfl⟩)⟩
  · exact ⟨_, rfl, q _ (.inr ⟨rfl, rfl⟩)⟩
theorem ig_3 {x y z : Int} (h0 : 0 ≤ i ∧ i < 3) (q : ∀ v, (i = 0 ∧ v = x ∨ i = 1 ∧ v = y ∨ i = 2 ∧ v = z) → Q (.int v) H) : IxGo [.int x, .int y, .int z] i H Q := by
  have : i = 0 ∨ i = 1 ∨ i = 2 := by omega
  rcases this with rfl | rfl | rfl
  · exact ⟨_, rfl, q _ (.inl ⟨rfl, rfl⟩)⟩
  · exact ⟨_, rfl, q _ (.inr (.inl ⟨rfl, rfl⟩))⟩
  · exact ⟨_, rfl, q _ (.inr (.inr ⟨rfl, rfl⟩))⟩
end
end TR
namespace TR
open PySem L2
end TR
namespace TR
open PySem L2
end TR
namespace TR
open PySem L2
end TR
namespace TR
open PySem L2
/-- .. of old words: a new thing that stays -/
theorem T.ofNew {M : List Addr} {Z H H' : Hp} {p : Addr} {o : HO} (z : Ex Z H) (n : H p = none) (e : Ex H H') (f : H' p = some o) : T M Z H (upd Z p o) H' :=
  ⟨Ex.new (Ex.back z n), fun b u eb => by
    by_cases c : b = p
    · rw [c, upd_same] at eb
      cases eb
      rw [c]; exact f
    · rw [upd_ne c] at eb
      exact e _ _ (z _ _ eb), fun _ _ _ h => e _ _ h, fun _ o h => ⟨o, e _ _ h⟩, fun b _ zb ⟨o, ho⟩ => by rw [upd_ne (ne_of_none ho n)]; exact zb⟩
noncomputable def spPlaces (lo : Int) (K : PySem.W.Frag) : Sp := fun vs H Q _ => ∃ (a : Addr) (ns : List Int) (x y : Int), vs = [.ref a, .int x, .int y] ∧ SqL K H a (ns.map V.int) ∧ 0 ≤ x ∧ x ≤ 100 ∧ 0 ≤ y ∧ y ≤ 100 ∧
  ∀ p H', H p = none → Ex H H' → H' p = some (.lst (rgV lo (lo + max x (min (ns.length : Int) y)))) → Q (.ref p) H'
end TR
namespace TR
open PySem L2
theorem at_list {K : PySem.W.Frag} {xs : List V} {H : Hp} {Q : VK} (q : rList1 K xs H Q) : rList1 K xs H Q := q
end TR
namespace TR
open PySem L2
theorem at_newl {xs : List V} {H : Hp} {Q : VK} (q : NewL xs H Q) : NewL xs H Q := q
end TR

/-! comprehensions and loops by T -/
namespace TR
open PySem L2
section
variable {K : PySem.W.Frag} {σ : L2.St} {H : Hp} {tt : TT} {te : TE} {Q : VK} {g : TG} {vs : List Nat}
theorem lcT {β : Type} {J : It} {n : Nat} {M : List Addr} {Z : Hp} (p : Nat → Bool) (I : Nat → Hp → Hp → Prop) (R : Nat → β → V → Hp → Prop)
    (mono : ∀ i x y Z1 Z2, Ex Z1 Z2 → R i x y Z1 → R i x y Z2)
    (stab : ∀ i Z1 H1 D o, I i Z1 H1 → H D = none → Z1 D = none → I i Z1 (upd H1 D o))
    (hz : n ≤ 40000) (zh : Ex Z H) (hM : ∀ b ∈ M, ∃ o, H b = some o) (h0 : I 0 Z H)
    (hgo : ∀ i Z1 H1, i < n → T M Z H Z1 H1 → J.go i H1) (hst : ∀ Z1 H1, T M Z H Z1 H1 → J.stop n H1)
    (turn : ∀ i, i < n → ∀ D Z1 H1, T M Z H Z1 H1 → H D = none → Mu Z1 H1 D → I i Z1 H1 → ∀ v H2, J.yld i H1 v H2 → ∀ (A : VK) (B : Hp → Prop),
      (p i = true → ∀ x y Z3 H3, T M Z1 H1 Z3 H3 → I (i + 1) Z3 H3 → R i x y Z3 → A y H3) → (p i = false → ∀ Z3 H3, T M Z1 H1 Z3 H3 → I (i + 1) Z3 H3 → B H3) →
      g v (wipe σ vs) H2 fun σ2 H2 => wipe σ2 vs = wipe σ vs ∧ tt σ2 H2 fun b H3 => if b = true then te σ2 H3 A else B H3)
    (fin : ∀ D ys (L : List (Nat × β)) Z' H', H D = none → T M Z H Z' H' → Mu Z' H' D → H' D = some (.lst ys) → I n Z' H' → L.map Prod.fst = (List.range n).filter p → Paired (fun y q => R q.1 q.2 y Z') ys L → Q (.ref D) H') : LcJ g tt te vs σ J H Q := by
  intro D hD
  have nD : D ∉ M := fun z => by
    obtain ⟨o, ho⟩ := hM D z
    rw [hD] at ho
    cases ho
  refine ⟨fun i m H' => m = n - i ∧ i ≤ n ∧ ∃ Z', T M Z H Z' H' ∧ Mu Z' H' D ∧ I i Z' H' ∧ ∃ (ys : List V) (L : List (Nat × β)), H' D = some (.lst ys) ∧ ys.length ≤ i ∧ L.map Prod.fst = (List.range i).filter p ∧ Paired (fun y q => R q.1 q.2 y Z') ys L,
    ⟨n, by omega, by omega, Z, T.newM hD zh, ⟨Ex.back zh hD, _, upd_same⟩, stab _ _ _ _ _ h0 hD (Ex.back zh hD), [], [], upd_same, Nat.le_refl _, rfl, .nil⟩, ?_⟩
  rintro i m H' ⟨rfl, hi, Z', t, mu, hI, ys, L, hys, hly, hL, pr⟩
  by_cases hlt : i < n
  · refine .inr ⟨hgo i Z' H' hlt t, fun H'' => i + 1 ≤ n ∧ ∃ Z'', T M Z H Z'' H'' ∧ Mu Z'' H'' D ∧ I (i + 1) Z'' H'' ∧ ∃ (ys : List V) (L : List (Nat × β)), H'' D = some (.lst ys) ∧ ys.length ≤ i + 1 ∧ L.map Prod.fst = (List.range (i + 1)).filter p ∧ Paired (fun y q => R q.1 q.2 y Z'') ys L,
      fun H'' q => ⟨n - (i + 1), by omega, rfl, q⟩, fun v H2 hy => ?_⟩
    refine turn i hlt D Z' H' t hD mu hI v H2 hy _ _ (fun hp x y Z3 H3 t3 hI3 r => ?_) (fun hp Z3 H3 t3 hI3 => ?_)
    · have t4 : T M Z H Z3 H3 := t.step t3 mm_same
      have mu3 := t3.mu nD mu
      have t5 : T M Z H Z3 (upd H3 D (.lst (ys ++ [y]))) := t4.step (T.set mu3 t4.zh) (mm_cons (.inr hD) mm_nil)
      refine ⟨ys, t3.hp nD hys, sz_lt (by omega), by omega, Z3, t5, ⟨mu3.z, _, upd_same⟩, stab _ _ _ _ _ hI3 hD mu3.z, ys ++ [y], L ++ [(i, x)], upd_same, by rw [List.length_append]; show _ + 1 ≤ _; omega, ?_, ?_⟩
      · rw [List.map_append, hL, List.range_succ, List.filter_append, List.filter_cons, if_pos hp]
        rfl
      · exact paired_snoc (Paired.mapP pr fun y q h => mono _ _ _ _ _ t3.z h) r
    · have t4 : T M Z H Z3 H3 := t.step t3 mm_same
      refine ⟨by omega, Z3, t4, t3.mu nD mu, hI3, ys, L, t3.hp nD hys, by omega, ?_, Paired.mapP pr fun y q h => mono _ _ _ _ _ t3.z h⟩
      rw [hL, List.range_succ, List.filter_append, List.filter_cons, if_neg (by rw [hp]; exact Bool.false_ne_true)]
      simp
  · have ei : i = n := by omega
    subst ei
    exact .inl ⟨hst Z' H' t, fin D ys L Z' H' hD t mu hys hI hL pr⟩
theorem kept_snd {β γ : Type} {xs : List β} {f : β → γ} : ∀ {L : List (Nat × γ)}, (∀ q ∈ L, ∃ b, xs[q.1]? = some b ∧ q.2 = f b) → L.map Prod.snd = ((L.map Prod.fst).filterMap fun i => xs[i]?).map f
  | [], _ => rfl
  | q :: L, h => by
    obtain ⟨b, h1, h2⟩ := h q List.mem_cons_self
    rw [List.map_cons, List.map_cons, List.filterMap_cons, h1, List.map_cons, ← kept_snd (L := L) fun r hr => h r (List.mem_cons_of_mem _ hr), h2]
theorem paired_r {β γ : Type} {F : β → γ → Prop} {xs : List β} {ys : List γ} (h : Paired F xs ys) : ∀ y ∈ ys, ∃ x, F x y := by
  induction h with
  | nil => exact fun _ h => absurd h List.not_mem_nil
  | cons a t ih =>
    intro y hy
    rcases List.mem_cons.mp hy with e | hy
    · rw [e]; exact ⟨_, a⟩
    · exact ih y hy
end
section
variable {K : PySem.W.Frag} {σ : L2.St} {H : Hp} {D : Ends} {g : TG} {ts : TS}
end
end TR

/-! rooms that are changed: a list of lists of rows, beside a hand -/
namespace TR
open PySem L2
noncomputable def offH (H : Hp) (ps : List Addr) : Hp := fun b => if b ∈ ps then none else H b
structure HL (K : PySem.W.Frag) (Z0 H : Hp) (h p : Addr) (qs : List Addr) {α : Type} [Py α] (rs : List (List α)) : Prop where
  own : H p = some (.lst (qs.map V.ref))
  nd : (h :: p :: qs).Nodup
  fr : ∀ q ∈ h :: p :: qs, Z0 q = none
  zh : Ex Z0 H
  rows : Paired (fun q r => ∃ vs, H q = some (.lst vs) ∧ Paired (fun v x => Is K (offH H (h :: p :: qs)) v x) vs r) qs rs
section
variable {K : PySem.W.Frag} {Z0 H0 H H1 H' : Hp} {h p q D : Addr} {qs qs2 : List Addr} {α : Type} [Py α] {rs : List (List α)} {Q : VK}
end
section
variable {K : PySem.W.Frag} {σ : L2.St} {H : Hp} {te : TE} {Q : VK} {g : TG} {vs : List Nat}
end
/-- bounds of rooms: how many, how many rows each, how many entries each -/
noncomputable def HB (n m k : Nat) (rss : List (List Row)) : Prop := rss.length ≤ n ∧ ∀ rs ∈ rss, rs.length ≤ m ∧ ∀ r ∈ rs, r.length ≤ k
end TR

/-! rooms of rows that are all an asker's own: D their list, qs the rooms, F the rows -/
namespace TR
open PySem L2
section
variable {K : PySem.W.Frag} {σ : L2.St} {H : Hp} {tt : TT} {te : TE} {Q : VK} {g : TG} {vs : List Nat}
end
section
variable {K : PySem.W.Frag} {M N F : List Addr} {Z H Z1 H1 Z2 H2 Z' H' : Hp} {p q D : Addr} {o : HO} {v : V} {α : Type} [Py α]
/-- many things are to stay from now on -/
noncomputable def onH (Z H : Hp) (F : List Addr) : Hp := fun b => if b ∈ F then H b else Z b
/-- a row that is one's own -/
noncomputable def RowO (Z H : Hp) (w : Addr) (r : List α) : Prop := ∃ vs, H w = some (.lst vs) ∧ Paired (fun v x => Ik Z v x) vs r
noncomputable def RoomO (Z H : Hp) (F : List Addr) (q : Addr) (rs : List (List α)) : Prop := ∃ ws : List Addr, H q = some (.lst (ws.map V.ref)) ∧ (∀ w ∈ ws, w ∈ F) ∧ Paired (fun w r => RowO Z H w r) ws rs
structure Y3 (Z H : Hp) (D : Addr) (qs F : List Addr) (rss : List (List (List α))) : Prop where
  own : H D = some (.lst (qs.map V.ref))
  nd : (D :: qs).Nodup
  nf : ∀ q ∈ D :: qs, q ∉ F
  z : ∀ q ∈ D :: (qs ++ F), Z q = none
  al : ∀ q ∈ D :: (qs ++ F), ∃ o, H q = some o
  zh : Ex Z H
  rows : Paired (fun q rs => RoomO Z H F q rs) qs rss
variable {qs : List Addr} {rss : List (List (List α))}
variable {Q : VK} {R : Hp → Prop}
end
end TR
namespace TR
open PySem L2
section
variable {K : PySem.W.Frag} {σ : L2.St} {H Z Z0 : Hp} {te : TE} {Q : VK} {g : TG} {vs : List Nat} {α : Type} [Py α]
/-- a new list of new lists: w, its things in Z0 -/
noncomputable def RowF (Z0 Z : Hp) (w : Addr) (r : List α) : Prop := ∃ vs, Z w = some (.lst vs) ∧ Paired (fun v x => Ik Z0 v x) vs r
end
end TR

namespace TR
open PySem L2
/-- rooms of rows that an asker spoils: only the shape is known -/
structure Sh (Z H : Hp) (D : Addr) (qs F : List Addr) (n B : Nat) : Prop where
  own : H D = some (.lst (qs.map V.ref))
  nd : D ∉ qs
  nf : ∀ q ∈ D :: qs, q ∉ F
  z : ∀ q ∈ D :: (qs ++ F), Z q = none
  zh : Ex Z H
  rooms : ∀ q ∈ qs, ∃ ws : List Addr, H q = some (.lst (ws.map V.ref)) ∧ ws.length ≤ n ∧ ∀ w ∈ ws, w ∈ F
  rows : ∀ w ∈ F, ∃ vs, H w = some (.lst vs) ∧ vs.length ≤ B
section
variable {Z H Z' H' : Hp} {D q w e : Addr} {M qs F : List Addr} {n B : Nat} {Q : VK} {v : V}
variable {α : Type} [Py α] {rss : List (List (List α))}
end
end TR
namespace TR
open PySem L2
section
variable {K : PySem.W.Frag} {Z H : Hp} {D q w : Addr} {qs F : List Addr} {n B : Nat} {Q : VK} {v : V}
end
end TR

/-! steps as data -/
namespace TR
open PySem L2
inductive Stp where
  | rooms (m : Int)
  | cut (r m : Int)
  | row (r a : Int) (w : Row)
  deriving DecidableEq
noncomputable def stpD : Stp → PyData
  | .rooms m => .tuple [.str "rooms", .int m]
  | .cut r m => .tuple [.str "cut", .int r, .int m]
  | .row r a w => .tuple [.str "row", .int r, .int a, Py.d w]
instance : Py Stp := ⟨stpD, 4, fun s => by
    cases s with
    | rooms m => simp [stpD, PyData.depth, PyData.depthAll]
    | cut r m => simp [stpD, PyData.depth, PyData.depthAll]
    | row r a w =>
      have h : (Py.d w).depth ≤ 3 := Nat.le_trans (Py.depth w) (by decide)
      simp [stpD, PyData.depth, PyData.depthAll]
      omega, fun s => by
    have h1 : PyData.strOk "rooms" = true := by decide +kernel
    have h2 : PyData.strOk "cut" = true := by decide +kernel
    have h3 : PyData.strOk "row" = true := by decide +kernel
    cases s <;> simp [stpD, PyData.canLay0, PyData.canLayAll0, Py.can, h1, h2, h3], fun a b => by
    have hr : ("rooms" : Str) ≠ "cut" := by decide
    have hs : ("cut" : Str) ≠ "rooms" := by decide
    cases a <;> cases b <;> simp [stpD, PyData.eqv, PyData.eqvAll, Py.eqv, hr, hs]⟩
section
variable {K : PySem.W.Frag} {H : Hp} {v : V} {p b : Addr} {r m a : Int} {w : Row}
end
/-! what a step does -/
/-- so many things at least -/
noncomputable def padTo {α : Type} (n : Nat) (d : α) (l : List α) : List α := l ++ List.replicate (n - l.length) d
noncomputable def withRow (rss : List (List Row)) (room at_ : Int) (row : Row) : List (List Row) :=
  let p := padTo (room.toNat + 1) [] rss
  p.set room.toNat ((padTo (at_.toNat + 1) [] (p.getD room.toNat [])).set at_.toNat row)
/-- the last rooms without rows go -/
noncomputable def trimR (rss : List (List Row)) : List (List Row) := (rss.reverse.dropWhile fun rs => decide (rs = [])).reverse
noncomputable def doneY (y : Yard) : Stp → Yard
  | .rooms m => ⟨y.a, m, trimR y.c⟩
  | .cut r m => ⟨y.a, y.b, trimR (if r < y.c.length then y.c.set r.toNat ((y.c.getD r.toNat []).take m.toNat) else y.c)⟩
  | .row r a w => ⟨y.a, y.b, trimR (withRow y.c r a w)⟩
end TR
namespace TR
open PySem L2
section
variable {K : PySem.W.Frag} {M F : List Addr} {Z H Z1 H1 Z' H' : Hp} {D q a : Addr} {qs : List Addr} {α : Type} [Py α] {rss : List (List (List α))} {Q : VK}
theorem mm_1 {N : List Addr} {H : Hp} {y : Addr} (h : y ∈ N ∨ H y = none) : ∀ x ∈ [y], x ∈ N ∨ H x = none := mm_cons h mm_nil
end
end TR
namespace TR
open PySem L2
noncomputable abbrev YLen (y : Yard) : Prop := y.c.length ≤ 10000 ∧ ∀ rs ∈ y.c, rs.length ≤ 10000
noncomputable def StpOk : Stp → Prop
  | .rooms _ => True
  | .cut r m => 0 ≤ r ∧ 0 ≤ m
  | .row r a _ => 0 ≤ r ∧ r ≤ 1000 ∧ 0 ≤ a ∧ a ≤ 9000
end TR
namespace TR
open PySem L2
noncomputable def StpB : Stp → Prop
  | .rooms _ => True
  | .cut r m => 0 ≤ r ∧ 0 ≤ m
  | .row r a w => 0 ≤ r ∧ r < 131 ∧ 0 ≤ a ∧ a < 131 ∧ w.length ≤ 8
end TR

/-! powers of two, levels, rooms -/
namespace TR
noncomputable def lev (r : Int) : Nat := Nat.log2 r.toNat
noncomputable def whole (r : Int) : Int := 2 ^ lev r
noncomputable def roomOf (key rooms : Int) : Int := if key % whole rooms < rooms - whole rooms then key % (2 * whole rooms) else key % whole rooms
end TR
/-! bits, and keys turned about -/
namespace TR
noncomputable def bit (x : Int) (k : Nat) : Int := x / 2 ^ k % 2
noncomputable def rev : Nat → Int → Int
  | 0, _ => 0
  | n + 1, x => rev n x * 2 + bit x n
/-- the first bit in which two differ -/
noncomputable def Dif (x y : Int) (d : Nat) : Prop := (∀ k, k < d → bit x k = bit y k) ∧ bit x d ≠ bit y d
noncomputable def partedAt (x y : Int) (d : Nat) : Int := 1 + max (x % 2 ^ (d + 1)) (y % 2 ^ (d + 1))
end TR
namespace TR
end TR
namespace TR
end TR

namespace TR
noncomputable def thingOf (r : Row) (key : Int) : Option Tx := ((r.filter fun e => decide (e.1 = key)).map Prod.snd)[0]?
noncomputable def foundR : List Row → Int → Nat → Option Tx × Int
  | [], _, m => (none, (m : Int))
  | r :: rs, key, m => if lastGe (r.map Prod.fst) key = true then (thingOf r key, ((m + 1 : Nat) : Int)) else foundR rs key (m + 1)
noncomputable def foundI (y : Yard) (key : Int) : Option Tx × Int := match y.c[(roomOf key y.b).toNat]? with
  | none => (none, 0)
  | some rows => foundR rows key 0
end TR

/-! rows of rising entries, clean yards -/
namespace TR
open PySem L2
theorem drop_lt {α : Type} {l : List α} {w : Nat} (h : ¬ (w = 0 ∨ l.length ≤ w)) : (l.drop w).length < l.length := by
  rw [List.length_drop]
  omega
noncomputable def cutE (w : Nat) (l : Row) : List Row := if h : w = 0 ∨ l.length ≤ w then [l] else l.take w :: cutE w (l.drop w)
termination_by l.length
decreasing_by exact drop_lt h
/-- a look through rows that rise all the way -/
noncomputable abbrev Rises (l : Row) : Prop := (l.map Prod.fst).Pairwise (· < ·)
noncomputable def fnd (R : List Row) (k : Int) : Option Tx := (foundR R k 0).1
end TR

namespace TR
open PySem L2
/-! ### rooms that are rewritten -/
noncomputable def putR (c : List (List Row)) (R : Nat) (X : List Row) : List (List Row) := (padTo (R + 1) [] c).set R X
noncomputable def NE (c : List (List Row)) : Prop := ∀ rs ∈ c, rs ≠ []
/-! ### the rows that aren't what stands there -/
noncomputable def writF (R : Nat) (now : List Row) : Nat → List Row → List Stp
  | _, [] => []
  | i, r :: rs => if now[i]? = some r then writF R now (i + 1) rs else .row (R : Int) (i : Int) r :: writF R now (i + 1) rs
noncomputable def writ (R : Nat) (rows now : List Row) : List Stp := writF R now 0 rows
noncomputable def onw (R : Nat) (rows now : List Row) : List Stp := writ R rows now ++ (if rows.length < now.length then [.cut (R : Int) (rows.length : Int)] else [])
noncomputable def backw (R : Nat) (rows now : List Row) : List Stp := (writ R rows now).reverse
end TR

namespace TR
open PySem L2
/-- from the last on: behind any of these steps the first rows are as they were, then rows without entries, then the new ones -/
noncomputable def backS (rows now : List Row) (m : Nat) : List Row := now.take m ++ List.replicate (m - now.length) [] ++ rows.drop m
end TR

/-! yards amid a change -/
namespace TR
open PySem L2
noncomputable def partE (r : Int) (es : Row) (i : Nat) : Row := sortE (es.filter fun e => decide (roomOf e.1 r = (i : Int)))
noncomputable def cleanC (w : Nat) (r : Int) (es : Row) : List (List Row) := (List.range r.toNat).map fun i => cutE w (partE r es i)
noncomputable def cleanY (w r : Int) (es : Row) : Yard := ⟨w, r, cleanC w.toNat r es⟩
noncomputable def fY (y : Yard) (k : Int) : Option Tx := (foundI y k).1
/-- no key twice -/
noncomputable abbrev Keys1 (es : Row) : Prop := (es.map Prod.fst).Nodup
/-- a room that tells its keys rightly -/
noncomputable def RoomG (es : Row) (b : Int) (i : Nat) (X : List Row) : Prop := (∀ e ∈ es, roomOf e.1 b = (i : Int) → fnd X e.1 = some e.2) ∧ ∀ r ∈ X, ∀ x ∈ r, x ∈ es
/-- all keys are found with their things, no others are -/
noncomputable def GoodF (es : Row) (y : Yard) : Prop := (∀ e ∈ es, fY y e.1 = some e.2) ∧ ∀ k, k ∉ es.map Prod.fst → fY y k = none
/-! ### splitting -/
noncomputable def splitRoom (r : Int) : Nat := (r - whole r).toNat
noncomputable def splitS (y : Yard) : List Stp :=
  let R := splitRoom y.b
  let A := (y.c.getD R []).flatten
  onw y.b.toNat (cutE y.a.toNat (sortE (A.filter fun e => decide (roomOf e.1 (y.b + 1) = y.b)))) [] ++ [.rooms (y.b + 1)] ++ onw R (cutE y.a.toNat (sortE (A.filter fun e => decide (roomOf e.1 (y.b + 1) ≠ y.b)))) (y.c.getD R [])
end TR

namespace TR
open PySem L2
end TR
namespace TR
open PySem L2
/-! ### joining -/
noncomputable def joinS (y : Yard) : List Stp :=
  let last := (y.b - 1).toNat
  let into := splitRoom (y.b - 1)
  backw into (cutE y.a.toNat (sortE ((y.c.getD into []).flatten ++ (y.c.getD last []).flatten))) (y.c.getD into []) ++ [.rooms (y.b - 1), .cut (last : Int) 0]
end TR

/-! T: lists of own lists, reverse, extend, ranges with a step; found -/
namespace TR
open PySem L2
section
variable {K : PySem.W.Frag} {M qs : List Addr} {Z H Z' H' : Hp} {Q : VK} {D q a b : Addr} {v : V} {α : Type} {iα : Py α} {x : α} {l r : List α}
end
/-! a list of own lists -/
structure Y2 (Z H : Hp) (D : Addr) (qs : List Addr) {α : Type} [Py α] (rs : List (List α)) : Prop where
  own : H D = some (.lst (qs.map V.ref))
  nd : (D :: qs).Nodup
  z : ∀ q ∈ D :: qs, Z q = none
  zh : Ex Z H
  rows : Paired (fun q r => RowO Z H q r) qs rs
section
variable {K : PySem.W.Frag} {M qs : List Addr} {Z H Z' H' : Hp} {Q : VK} {D q : Addr} {v : V} {α : Type} {iα : Py α} {x : α} {rs : List (List α)}
end
section
variable {K : PySem.W.Frag} {σ : L2.St} {H Z : Hp} {tt : TT} {te : TE} {Q : VK} {g : TG} {vs : List Nat}
/-- ranges with a step -/
noncomputable def LcR3 (g : TG) (tt : TT) (te : TE) (vs : List Nat) (σ : L2.St) (x : List V) (H1 : Hp) (Q : VK) : Prop := ∃ (i j c : Int) (n : Nat), x = [.int i, .int j, .int c] ∧ RgC i j c n ∧ LcJ g tt te vs σ (Itc i c n) H1 Q
end
/-! found -/
noncomputable def YardOk (y : Yard) : Prop := 1 ≤ y.b ∧ y.c.length ≤ 10000 ∧ ∀ rs ∈ y.c, rs.length ≤ 10000 ∧ ∀ r ∈ rs, r.length ≤ 10000
noncomputable def optS : Option Tx → V
  | none => .non
  | some x => .str x.1
noncomputable def spFound (K : PySem.W.Frag) : Sp := fun vs H Q _ => ∃ (v : V) (y : Yard) (key : Int), vs = [v, .int key] ∧ Is K H v y ∧ YardOk y ∧
  ∀ (p : Addr) (v' : V) (H' : Hp), H p = none → Ex H H' → H' p = some (.tup [v', .int (foundI y key).2]) → Is K H' v' (foundI y key).1 → Q (.ref p) H'
noncomputable def spLawFound (K : PySem.W.Frag) : Sp := fun vs H Q _ => ∃ (v : V) (y : Yard) (key : Int), vs = [v, .int key] ∧ Is K H v y ∧ 0 ≤ key ∧ (1 ≤ y.b ∧ ∀ rs ∈ y.c, rs.length ≤ 10000 ∧ ∀ r ∈ rs, r.length ≤ 10000) ∧
  ∀ (p : Addr) (v' : V) (H' : Hp), H p = none → Ex H H' → H' p = some (.tup [v', .int (foundI y key).2]) → Is K H' v' (foundI y key).1 → Q (.ref p) H'
/-- keys, drawn -/
noncomputable def spKeys (K : PySem.W.Frag) : Sp := fun vs H Q _ => ∃ (h : Addr) (many : Int) (n : Nat) (Z : Hp), vs = [.ref h, .int many] ∧ 0 ≤ many ∧ many ≤ 160 ∧ Hand K Z H h (n + 2000) ∧
  ∀ (p : Addr) (ks : List Int) (H' : Hp), H p = none → ExM h H H' → Hand K Z H' h n → H' p = some (.lst (ks.map V.int)) → ks.length = many.toNat → ks.Nodup → (∀ k ∈ ks, 0 ≤ k ∧ k < 1152921504606846976) → Q (.ref p) H'
end TR
namespace TR
open PySem L2
noncomputable def partsL (r : Int) (l : Row) : List Row := (List.range r.toNat).map fun (i : Nat) => l.filter fun e => decide (roomOf e.1 r = (i : Int))
end TR
namespace TR
open PySem L2
end TR
namespace TR
open PySem L2
section
variable {K : PySem.W.Frag} {σ : L2.St} {H : Hp} {tt : TT} {te : TE} {Q : VK} {g : TG} {vs : List Nat}
end
end TR

namespace TR
end TR

/-! the law's doing of a step by the last room with rows -/
namespace TR
open PySem L2
noncomputable def someR (rss : List (List Row)) : List Int := ((List.range rss.length).filter fun i => decide (rss.getD i [] ≠ [])).map fun (i : Nat) => (i : Int)
end TR
namespace TR
open PySem L2
/-! the steps of a split and of a join are small -/
noncomputable def StpR : Stp → Prop
  | .rooms m => 1 ≤ m
  | s => StpB s
end TR

/-! putting and dropping: behind any steps the other keys are found, the change's own one as ahead up to one of the steps, as behind it from then on -/
namespace TR
open PySem L2
noncomputable def outE (es : Row) (k : Int) : Row := es.filter fun e => decide (e.1 ≠ k)
noncomputable def putE (es : Row) (k : Int) (t : Tx) : Row := outE es k ++ [(k, t)]
noncomputable def loE (l : Row) (k : Int) : Row := l.filter fun e => decide (e.1 < k)
noncomputable def hiE (l : Row) (k : Int) : Row := l.filter fun e => decide (k < e.1)
noncomputable def putS (y : Yard) (k : Int) (t : Tx) : List Stp :=
  backw (roomOf k y.b).toNat (cutE y.a.toNat (sortE (outE (y.c.getD (roomOf k y.b).toNat []).flatten k ++ [(k, t)]))) (y.c.getD (roomOf k y.b).toNat [])
noncomputable def dropS (y : Yard) (k : Int) : List Stp :=
  onw (roomOf k y.b).toNat (cutE y.a.toNat (sortE (outE (y.c.getD (roomOf k y.b).toNat []).flatten k))) (y.c.getD (roomOf k y.b).toNat [])
end TR
namespace TR
open PySem L2
end TR

/-! dicts of numbers and texts: d.items(), sorted(d.items()) -/
namespace L2
open PySem PySem.W PySem.Spec PyProof.Rows SrtO SrtS TR
noncomputable def kvE (e : Ent) : Key × V := (Sum.inl e.1, .str e.2.1)
section
variable {X : Cx}
noncomputable def rItemsK : V → List V → Hp → VK → Prop := fun x xs H Q => ∃ (a : Addr) (kvs : List (Key × V)), x = .ref a ∧ xs = [] ∧ H a = some (.dK kvs) ∧ ∀ p, H p = none → Q (.ref p) (upd H p (DX.itemsO p a))
noncomputable def rSortIt : List V → Hp → VK → Prop := fun vs H Q => ∃ (p a : Addr) (l : List Ent), vs = [.ref p] ∧ H p = some (DX.itemsO p a) ∧ H a = some (.dK (l.map kvE)) ∧ Keys1 l ∧
  ∀ (H' : Hp) (q : Addr) (ws : List V), Ex H H' → H q = none → H' q = some (.lst ws) → Paired (fun v (e : Ent) => ∃ t, v = V.ref t ∧ H t = none ∧ H' t = some (.tup [.int e.1, .str e.2.1])) ws (sortE l) → Q (.ref q) H'
end
end L2

/-! sorted(d) of a dict of numbers, any number of them -/
namespace L2
open PySem PySem.W PySem.Spec PyProof.Rows SrtO TR
section
variable {X : Cx}
noncomputable def rSortN : List V → Hp → VK → Prop := fun vs H Q => ∃ (b : Addr) (l : TR.Row), vs = [.ref b] ∧ H b = some (.dK (l.map kvE)) ∧ ∀ p, H p = none → Q (.ref p) (upd H p (.lst ((TR.sortI (l.map Prod.fst)).map V.int)))
end
end L2
namespace TR
open PySem L2
variable {Z H : Hp} {d : Addr} {l : Row} {Q : VK}
end TR

/-! dicts of numbers and texts, in T -/
namespace TR
open PySem L2
/-- a dict that may be changed -/
structure Dm (Z H : Hp) (D : Addr) (l : Row) : Prop where
  h : H D = some (.dK (l.map kvE))
  zd : Z D = none
  zh : Ex Z H
noncomputable def setE (l : Row) (k : Int) (t : Tx) : Row := if k ∈ l.map Prod.fst then l.map (fun e => if e.1 = k then (e.1, t) else e) else l ++ [(k, t)]
/-! the rules -/
noncomputable def rSI (x : V) (H : Hp) (Q : VK) : Prop := ∃ (d : Addr) (l : Row), x = .ref d ∧ H d = some (.dK (l.map kvE)) ∧ Keys1 l ∧
  ∀ (H' : Hp) (q : Addr) (ws : List V), Ex H H' → H q = none → H' q = some (.lst ws) → Paired (fun v (e : Ent) => ∃ t, v = V.ref t ∧ H t = none ∧ H' t = some (.tup [.int e.1, .str e.2.1])) ws (sortE l) → Q (.ref q) H'
noncomputable def tSI (te : TE) : TE := fun σ H Q => te σ H fun x H1 => rSI x H1 Q
section
variable {K : PySem.W.Frag} {M : List Addr} {Z H Z' H' : Hp} {p a d D : Addr} {l : Row} {k : Int} {t : Tx} {Q : VK}
noncomputable def rDict (K : PySem.W.Frag) : List V → Hp → VK → Prop := fun xs H Q => ∃ (a : Addr) (ps : List Addr) (kvs : List (L2.Key × V)), xs = [.ref a] ∧ SqL K H a (ps.map V.ref) ∧ Paired (fun p kv => SqT K H p [kV kv.1, kv.2]) ps kvs ∧ ∀ p, H p = none → Q (.ref p) (upd H p (.dK (mergeK [] kvs)))
noncomputable def rDictD : List V → Hp → VK → Prop := fun xs H Q => ∃ (a : Addr) (kvs : List (L2.Key × V)), xs = [.ref a] ∧ Rd H a (.dK kvs) ∧ ∀ p, H p = none → Q (.ref p) (upd H p (.dK kvs))
noncomputable def rSortD : List V → Hp → VK → Prop := fun xs H Q => ∃ (a : Addr) (kvs : List (L2.Key × V)) (ks : List Int), xs = [.ref a] ∧ Rd H a (.dK kvs) ∧ kvs.map (·.1) = ks.map Sum.inl ∧ ks.length < 64 ∧ ∀ (ys : List Int) (p : Addr), ys.Perm ks → ys.Pairwise (· ≤ ·) → H p = none → Q (.ref p) (upd H p (.lst (ys.map V.int)))
noncomputable def rLenDm : List V → Hp → VK → Prop := fun xs H Q => ∃ a kvs, xs = [V.ref a] ∧ H a = some (.dK kvs) ∧ Q (.int kvs.length) H
theorem Dm.new (n : H p = none) (z : Ex Z H) : T [] Z H Z (upd H p (.dK (l.map kvE))) ∧ Dm Z (upd H p (.dK (l.map kvE))) p l := by
  have t : T [] Z H Z (upd H p (.dK (l.map kvE))) := T.newM n z
  exact ⟨t, upd_same, Ex.back z n, t.zh⟩
theorem t_dnew (z : Ex Z H) (q : ∀ p Z' H', H p = none → T [] Z H Z' H' → Dm Z' H' p [] → Q (.ref p) H') {σ : L2.St} : tDNewK σ H Q := fun p hp => q p _ _ hp (Dm.new (l := []) hp z).1 (Dm.new (l := []) hp z).2
noncomputable def DGb (x y : V) (H : Hp) (Q : VK) : Prop := ∃ a o, x = .ref a ∧ DGet H a y o ∧ Q (o.getD .non) H
noncomputable def DGa (ty : TE) (σ : L2.St) (x : V) (H1 : Hp) (Q : VK) : Prop := ∃ a, x = .ref a ∧ IsD H1 a ∧ ty σ H1 fun y H2 => ∃ o, DGet H2 a y o ∧ Q (o.getD .non) H2
noncomputable def DIx (x y : V) (H : Hp) (Q : VK) : Prop := ∃ a v, x = .ref a ∧ DGet H a y (some v) ∧ Q v H
noncomputable def DInn (y x : V) (H : Hp) (Q : VK) : Prop := ∃ a o, x = .ref a ∧ DGet H a y o ∧ Q (.bl o.isSome) H
noncomputable def DNin (y x : V) (H : Hp) (Q : VK) : Prop := ∃ a o, x = .ref a ∧ DGet H a y o ∧ Q (.bl (!o.isSome)) H
noncomputable def DPa (ty : TE) (σ : L2.St) (x : V) (H1 : Hp) (Q : VK) : Prop := ∃ a, x = .ref a ∧ IsD H1 a ∧ ty σ H1 fun y H2 => ∃ kvs k v, H2 a = some (.dK kvs) ∧ y = kV k ∧ valV kvs k = some v ∧ Q v (upd H2 a (.dK (dropK kvs k)))
end
end TR
namespace TR
open PySem L2
end TR

/-! a comprehension over a dict's keys -/
namespace TR
open PySem L2
section
variable {K : PySem.W.Frag} {σ : L2.St} {Z H : Hp} {tt : TT} {te td : TE} {Q : VK} {g : TG} {vs : List Nat} {d : Addr} {l : Row}
noncomputable def keepAt (l : Row) (p : Ent → Bool) (i : Nat) : Bool := ((l[i]?).map p).getD false
end
end TR

/-! how many rooms so many keys ask -/
namespace TR
noncomputable def roomsFor (c f : Int) : Int := max 1 (-((-c) / f))
end TR

namespace TR
/-- keys told apart by their rooms, each room's in their order -/
noncomputable def spl (l : List Int) (n : Int) : List (List Int) := (List.range n.toNat).map fun (r : Nat) => l.filter fun x => decide (roomOf x n = (r : Int))
end TR

/-! tables: what an instance of Table is, in T -/
namespace TR
open PySem L2
/-- a value's kind -/
inductive KindV (K : PySem.W.Frag) (H : Hp) : V → String → Prop
  | int (i : Int) : KindV K H (.int i) "int"
  | bl (b : Bool) : KindV K H (.bl b) "bool"
  | str (x : Str) (h : x.length ≤ 100000) : KindV K H (.str x) "str"
  | non : KindV K H .non "NoneType"
  | lst {a : Addr} {xs : List V} (h : SqL K H a xs) : KindV K H (.ref a) "list"
  | tup {a : Addr} {xs : List V} (h : SqT K H a xs) : KindV K H (.ref a) "tuple"
  | dct {a : Addr} {l : List (L2.Key × V)} (h : H a = some (.dK l)) : KindV K H (.ref a) "dict"
theorem s_isiDk {K : PySem.W.Frag} {H : Hp} {Q : VK} {n : String} {a : Addr} {l : List (L2.Key × V)} {b : Bool} (hs : H a = some (.dK l)) (h : kitB "dict" n = some b) (q : Q (.bl b) H) : rIsi K [.ref a, .ty n] H Q := ⟨.ref a, .ty n, _, _, b, rfl, .ty n, .base (.dK hs), kit_ty h, q⟩
theorem k_di : kitB "dict" "int" = some false := by decide +kernel
noncomputable def rListDm : List V → Hp → VK → Prop := fun xs H Q => ∃ p kvs, xs = [.ref p] ∧ H p = some (.dK kvs) ∧ ∀ q, H q = none → Q (.ref q) (upd H q (.lst (kvs.map fun kv => kV kv.1)))
noncomputable def wholeV : V → Bool
  | .int _ => true
  | _ => false
noncomputable def keyV : V → Bool
  | .int i => decide (0 ≤ i ∧ i < 1152921504606846976)
  | _ => false
noncomputable def sizeV : V → Bool
  | .int i => decide (1 ≤ i ∧ i ≤ 8)
  | _ => false
noncomputable def nameV : V → Bool
  | .str x => nameB x
  | _ => false
section
variable {K : PySem.W.Frag} {Z H Z' H' : Hp} {M : List Addr} {v : V} {n : String}
end
/-- the attributes of a table -/
noncomputable def tfs (w f : V) (D : Addr) : List (Str × V) := [("wide", w), ("fill", f), ("things", .ref D)]
structure Tb (K : PySem.W.Frag) (Z H : Hp) (a D : Addr) (w f : Int) (l : Row) : Prop where
  at_ : ∃ dx, Z a = some (.ins (clsA K "Table") dx (tfs (.int w) (.int f) D))
  dm : Dm Z H D l
  k1 : Keys1 l
  w0 : 1 ≤ w ∧ w ≤ 8
  f0 : 1 ≤ f ∧ f ≤ 8
  le : l.length ≤ 64
  ks : ∀ e ∈ l, 0 ≤ e.1 ∧ e.1 < 1152921504606846976
/-- how many rooms a table has | a room's keys -/
noncomputable def roomsT (f : Int) (l : Row) : Int := roomsFor (l.length : Int) f
noncomputable def keysT_ (f : Int) (l : Row) (r : Int) : List Int := sortI ((l.filter fun e => decide (roomOf e.1 (roomsT f l) = r)).map Prod.fst)
section
variable {K : PySem.W.Frag} {Z H Z' H' : Hp} {M : List Addr} {a D p : Addr} {w f : Int} {l : Row} {Q : VK} {E : XK}
/-! promises -/
noncomputable def spTCount (K : PySem.W.Frag) : Sp := fun vs H Q _ => ∃ (a D : Addr) (w f : Int) (l : Row) (Z : Hp), vs = [.ref a] ∧ Tb K Z H a D w f l ∧ Q (.int (l.length : Int)) H
noncomputable def spTRooms (K : PySem.W.Frag) : Sp := fun vs H Q _ => ∃ (a D : Addr) (w f : Int) (l : Row) (Z : Hp), vs = [.ref a] ∧ Tb K Z H a D w f l ∧ Q (.int (roomsT f l)) H
noncomputable def spTKeysIn (K : PySem.W.Frag) : Sp := fun vs H Q _ => ∃ (a D : Addr) (w f r : Int) (l : Row) (Z : Hp), vs = [.ref a, .int r] ∧ Tb K Z H a D w f l ∧ ∀ p Z' H', H p = none → T [D] Z H Z' H' → Tb K Z' H' a D w f l → Lm Z' H' p (keysT_ f l r) → Q (.ref p) H'
noncomputable def spTEntries (K : PySem.W.Frag) : Sp := fun vs H Q _ => ∃ (a D : Addr) (w f : Int) (l : Row) (Z : Hp), vs = [.ref a] ∧ Tb K Z H a D w f l ∧ ∀ p Z' H', H p = none → T [] Z H Z' H' → Lm Z' H' p (sortE l) → Q (.ref p) H'
noncomputable def spTCounts (K : PySem.W.Frag) : Sp := fun vs H Q _ => ∃ (a D : Addr) (w f : Int) (l : Row) (Z : Hp), vs = [.ref a] ∧ Tb K Z H a D w f l ∧ ∀ p Z' H', H p = none → T [] Z H Z' H' → Ls Z' p ((spl (sortI (l.map Prod.fst)) (roomsT f l)).map fun r => (r.length : Int)) → Q (.ref p) H'
noncomputable def spTSpill (K : PySem.W.Frag) : Sp := fun vs H Q _ => ∃ (a D : Addr) (w f : Int) (l : Row) (Z : Hp), vs = [.ref a] ∧ Tb K Z H a D w f l ∧ ∀ Z' H', T [] Z H Z' H' → Q (.int (spillI ((spl (sortI (l.map Prod.fst)) (roomsT f l)).map fun r => (r.length : Int)) w)) H'
/-- the most rows of a room, the first such room -/
noncomputable def longI (ns : List Int) (w m : Int) (j : Nat) : Prop := m = maxI (ns.map fun m => rowsI m w) ∧ (ns.map fun m => rowsI m w)[j]? = some m ∧ ∀ i, i < j → (ns.map fun m => rowsI m w)[i]? ≠ some m
noncomputable def spTLongest (K : PySem.W.Frag) : Sp := fun vs H Q _ => ∃ (a D : Addr) (w f : Int) (l : Row) (Z : Hp), vs = [.ref a] ∧ Tb K Z H a D w f l ∧ ∀ p m j Z' H', H p = none → T [] Z H Z' H' → longI ((spl (sortI (l.map Prod.fst)) (roomsT f l)).map fun r => (r.length : Int)) w m j → Z' p = some (.tup [.int m, .int (j : Nat)]) → Q (.ref p) H'
/-- what a put tells -/
noncomputable def PutTold (Z H Z' H' : Hp) (f : Int) (l l' : Row) (r : V) : Prop :=
  if roomsT f l' = roomsT f l then r = .non else ∃ p c, r = .ref p ∧ H p = none ∧ H c = none ∧ Z' p = some (.tup [.int (roomsT f l - whole (roomsT f l)), .int (roomsT f l), .ref c]) ∧ Lm Z' H' c (keysT_ f l' (roomsT f l))
noncomputable def spTPut (K : PySem.W.Frag) : Sp := fun vs H Q E => ∃ (a D : Addr) (w f : Int) (l : Row) (Z : Hp) (v t : V) (n m : String), vs = [.ref a, v, t] ∧ Tb K Z H a D w f l ∧ KindV K H v n ∧ KindV K H t m ∧
  (keyV v = false → ∀ d, H d = none → E (.ref (clsA K "NoKey")) (some d) (upd H d (.xd [("key", v)]))) ∧
  (keyV v = true → nameV t = false → ∀ d, H d = none → E (.ref (clsA K "NoThing")) (some d) (upd H d (.xd [("thing", t)]))) ∧
  ∀ k x, v = .int k → t = .str x.1 → keyV v = true → nameV t = true →
    (k ∉ l.map Prod.fst → l.length = 64 → ∀ d, H d = none → E (.ref (clsA K "Full")) (some d) (upd H d (.xd [("many", .int 64)]))) ∧
    ((k ∈ l.map Prod.fst ∨ l.length < 64) → ∀ r Z' H', T [D] Z H Z' H' → Tb K Z' H' a D w f (setE l k x) → PutTold Z H Z' H' f l (setE l k x) r → Q r H')
end
end TR
namespace TR
open PySem L2
section
variable {K : PySem.W.Frag} {Z H Z' H' : Hp} {M : List Addr} {a d p : Addr} {l : Row} {Q : VK}
end
end TR
namespace TR
open PySem L2
end TR

namespace TR
open PySem L2
/-- a room's rows of entries -/
noncomputable def entOf (l : Row) (k : Int) : Ent := (k, (thingOf l k).getD ⟨"", by decide +kernel⟩)
noncomputable def rowsE (w f : Int) (l : Row) (r : Int) : List Row := (rowsOf (keysT_ f l r) w).map fun ks => ks.map (entOf l)
noncomputable def spTRoom (K : PySem.W.Frag) : Sp := fun vs H Q E => ∃ (a D : Addr) (w f : Int) (l : Row) (Z : Hp) (v : V) (n : String), vs = [.ref a, v] ∧ Tb K Z H a D w f l ∧ KindV K H v n ∧
  ((∀ r, v = .int r → ¬ (0 ≤ r ∧ r < roomsT f l)) → ∀ d, H d = none → E (.ref (clsA K "NoRoom")) (some d) (upd H d (.xd [("number", v)]))) ∧
  ∀ r, v = .int r → 0 ≤ r ∧ r < roomsT f l → ∀ (p : Addr) (ws : List Addr) Z' H', T [D] Z H Z' H' → Tb K Z' H' a D w f l → (p :: ws).Nodup → (∀ b ∈ p :: ws, H b = none) → Z' p = some (.lst (ws.map V.ref)) → Paired (fun x rw => Ls Z' x rw) ws (rowsE w f l r) → Q (.ref p) H'
noncomputable def spTTwin (K : PySem.W.Frag) : Sp := fun vs H Q _ => ∃ (a D : Addr) (w f : Int) (l : Row) (Z : Hp), vs = [.ref a] ∧ Tb K Z H a D w f l ∧ ∀ b D2 Z' H', H b = none → H D2 = none → T [] Z H Z' H' → Tb K Z' H' b D2 w f l → Q (.ref b) H'
noncomputable def spTInit (K : PySem.W.Frag) : Sp := fun vs H Q E => ∃ (a dx : Addr) (v u : V) (n m : String), vs = [.ref a, v, u] ∧ H a = some (.ins (clsA K "Table") dx []) ∧ KindV K H v n ∧ KindV K H u m ∧
  (sizeV v = true → sizeV u = true → ∀ D H', H D = none → (∀ b o, b ≠ a → H b = some o → H' b = some o) → H' a = some (.ins (clsA K "Table") dx (tfs v u D)) → H' D = some (.dK []) → Q .non H') ∧
  (sizeV v = false → ∀ H' d, Ex H H' → H' d = none → E (.ref (clsA K "NoSize")) (some d) (upd H' d (.xd [("thing", v)]))) ∧
  (sizeV v = true → sizeV u = false → ∀ H' d, Ex H H' → H' d = none → E (.ref (clsA K "NoSize")) (some d) (upd H' d (.xd [("thing", u)])))
end TR
namespace TR
open PySem L2
end TR

/-! laws over tables -/
namespace TR
open PySem L2
noncomputable def cutG {α : Type} (w : Nat) (l : List α) : List (List α) := if h : w = 0 ∨ l.length ≤ w then [l] else l.take w :: cutG w (l.drop w)
termination_by l.length
decreasing_by exact drop_lt h
structure T6 (α β γ δ ε ζ : Type) where
  a : α
  b : β
  c : γ
  d : δ
  e : ε
  f : ζ
  deriving DecidableEq
instance {α β γ δ ε ζ : Type} [Py α] [Py β] [Py γ] [Py δ] [Py ε] [Py ζ] : Py (T6 α β γ δ ε ζ) := ⟨fun p => .tuple [Py.d p.a, Py.d p.b, Py.d p.c, Py.d p.d, Py.d p.e, Py.d p.f], max (Py.dep α) (max (Py.dep β) (max (Py.dep γ) (max (Py.dep δ) (max (Py.dep ε) (Py.dep ζ))))) + 1, fun p => by
    simp only [PyData.depth, PyData.depthAll]
    have h1 := Py.depth p.a
    have h2 := Py.depth p.b
    have h3 := Py.depth p.c
    have h4 := Py.depth p.d
    have h5 := Py.depth p.e
    have h6 := Py.depth p.f
    omega, fun p => by simp only [PyData.canLay0, PyData.canLayAll0, Py.can]; rfl, fun a b => by
    obtain ⟨a1, a2, a3, a4, a5, a6⟩ := a
    obtain ⟨b1, b2, b3, b4, b5, b6⟩ := b
    simp only [PyData.eqv, PyData.eqvAll, Bool.and_true, Bool.and_eq_true, Py.eqv, T6.mk.injEq]⟩
end TR
namespace TR
open PySem L2
section
variable {K : PySem.W.Frag} {σ : L2.St} {Z H : Hp} {te : TE} {Q : VK} {E : XK} {g : TG} {vs : List Nat} {a D : Addr} {w f : Int} {l : Row}
end
end TR
namespace TR
open PySem L2
end TR
namespace TR
open PySem L2
section
variable {K : PySem.W.Frag} {Z H Z' H' : Hp} {Q : VK} {E : XK} {a D : Addr} {w f : Int} {l : Row}
end
end TR
namespace TR
open PySem L2
end TR
namespace TR
open PySem L2
end TR
namespace TR
open PySem L2
end TR

/-! isinstance of an exception that a suite holds: it has its own dict -/
namespace TR
open PySem L2 PySem.Spec PyProof.Rows
structure IsxC (K : PySem.W.Frag) (C : Addr) : Prop where
  x : XfC K C
  ha : PySem.W.findIn K (.ref C) "__class__" = some (some (.builtin "object.__class__"))
  hn : PySem.W.specialIn K (.builtin "object.__class__") "__get__" = some (some (.builtin "getset_descriptor.__get__"))
  ht : PySem.W.takesIn K (.builtin "object.__class__") = some true
  hm : PySem.W.mroIn K C (.type "object") = some true
/-- isinstance(e, c) | isinstance(e, (c1, c2, ..)): a the exception, cls its class, d its dict -/
noncomputable def rIsX (K : PySem.W.Frag) (a : Addr) (cls : Value) (d : Option Addr) (D : Addr) : List V → Hp → VK → Prop := fun xs H Q => ∃ (c : V) (u : Value) (b : Bool) (dd : Addr) (fs : List (Str × V)), xs = [.ref a, c] ∧ cls = .ref D ∧ d = some dd ∧ H dd = some (.xd fs) ∧ ClsV c u ∧ PySem.W.kitOne K (.ref D) u = some b ∧ Q (.bl b) H
noncomputable def rIsXT (K : PySem.W.Frag) (a : Addr) (cls : Value) (d : Option Addr) (D : Addr) : List V → Hp → VK → Prop := fun xs H Q => ∃ (tp : Addr) (cs : List V) (us : List Value) (b : Bool) (dd : Addr) (fs : List (Str × V)), xs = [.ref a, .ref tp] ∧ cls = .ref D ∧ d = some dd ∧ H dd = some (.xd fs) ∧ H tp = some (.tup cs) ∧ Paired ClsV cs us ∧ PySem.W.kitAny K (.ref D) us = some b ∧ Q (.bl b) H
section
variable {X : Cx} {K : PySem.W.Frag} {a D : Addr} {oe : Obj} {cls : Value} {d : Option Addr} {pn : List (Addr × Obj)}
end
section
variable {K : PySem.W.Frag} {H : Hp} {Q : VK} {a D dd tp : Addr} {fs : List (Str × V)} {b : Bool}
end
end TR

/-! d == {} -/
namespace L2
open PySem PySem.W PySem.Spec TR
section
variable {X : Cx}
noncomputable def rEqD0 : R2 := fun x y H Q => ∃ a b ks, x = .ref a ∧ y = .ref b ∧ H a = some (.dK ks) ∧ H b = some (.dK []) ∧ Q (.bl (decide (ks.length = 0))) H
theorem op_eqD0 (hu : X.A.units < cLine) : OpR X (compareOp .Eq) rEqD0 := by
  intro pins s σ H x y v u Q I rx ry h
  obtain ⟨a, b, ks, rfl, rfl, ea, eb, q⟩ := h
  obtain rfl : v = Value.ref a := rx
  obtain rfl : u = Value.ref b := ry
  obtain ⟨_, ya, va, ra, da⟩ := (show ObjOk X.prog X.w H s.heap a (.dK ks) from I.hok a _ ea)
  obtain ⟨_, yb, vb, rb, db⟩ := (show ObjOk X.prog X.w H s.heap b (.dK []) from I.hok b _ eb)
  have l1 : ks.length = va.length := ra.length
  have l2 : ([] : List (Key × V)).length = vb.length := rb.length
  have l3 : vb.length = 0 := l2.symm
  refine PySem.W.keq_eq (knd := mixKind X.prog X.w) (r := true) ya yb da db hu (fun e => hits_all rb ra fun p hp => ?_) (fin_bl I q ?_)
  · have : ks = [] := List.length_eq_zero_iff.mp (by omega)
    rw [this] at hp
    exact absurd hp List.not_mem_nil
  · rw [Bool.and_true, l3, l1]
    by_cases c : va.length = 0 <;> simp [c]
noncomputable def rNeD0 : R2 := fun x y H Q => ∃ a b ks, x = .ref a ∧ y = .ref b ∧ H a = some (.dK ks) ∧ H b = some (.dK []) ∧ Q (.bl (!decide (ks.length = 0))) H
end
end L2

/-! odd things, in the place of a number, a text or a key -/
namespace TR
open PySem L2
inductive OddV (Z : Hp) : V → String → Prop
  | int (i : Int) : OddV Z (.int i) "int"
  | bl (b : Bool) : OddV Z (.bl b) "bool"
  | str (x : Tx) (h : x.1.length ≤ 100000) : OddV Z (.str x.1) "str"
  | non : OddV Z .non "NoneType"
  | lst {a : Addr} {i : Int} (h : Z a = some (.lst [.int i])) : OddV Z (.ref a) "list"
  | tup {a : Addr} {i : Int} (h : Z a = some (.tup [.int i])) : OddV Z (.ref a) "tuple"
  | dct {a : Addr} (h : Z a = some (.dK [])) : OddV Z (.ref a) "dict"
section
variable {K : PySem.W.Frag} {Z H Z' H' : Hp} {v : V} {n : String}
theorem OddV.ex (h : OddV Z v n) (e : Ex Z Z') : OddV Z' v n := by
  cases h with
  | int i => exact .int i
  | bl b => exact .bl b
  | str x h => exact .str x h
  | non => exact .non
  | lst h => exact .lst (e _ _ h)
  | tup h => exact .tup (e _ _ h)
  | dct h => exact .dct (e _ _ h)
theorem OddV.kind (h : OddV Z v n) (e : Ex Z H) : KindV K H v n := by
  cases h with
  | int i => exact .int i
  | bl b => exact .bl b
  | str x h => exact .str x.1 h
  | non => exact .non
  | lst h => exact .lst (sq_of (e _ _ h))
  | tup h => exact .tup (st_of (e _ _ h))
  | dct h => exact .dct (e _ _ h)
end
/-- a list of six things -/
structure HL6 (α β γ δ ε ζ : Type) where
  a : α
  b : β
  c : γ
  d : δ
  e : ε
  f : ζ
  deriving DecidableEq
instance {α β γ δ ε ζ : Type} [Py α] [Py β] [Py γ] [Py δ] [Py ε] [Py ζ] : Py (HL6 α β γ δ ε ζ) := ⟨fun p => .list [Py.d p.a, Py.d p.b, Py.d p.c, Py.d p.d, Py.d p.e, Py.d p.f], max (Py.dep α) (max (Py.dep β) (max (Py.dep γ) (max (Py.dep δ) (max (Py.dep ε) (Py.dep ζ))))) + 1, fun p => by
    simp only [PyData.depth, PyData.depthAll]
    have h1 := Py.depth p.a
    have h2 := Py.depth p.b
    have h3 := Py.depth p.c
    have h4 := Py.depth p.d
    have h5 := Py.depth p.e
    have h6 := Py.depth p.f
    omega, fun p => by simp only [PyData.canLay0, PyData.canLayAll0, Py.can]; rfl, fun a b => by
    obtain ⟨a1, a2, a3, a4, a5, a6⟩ := a
    obtain ⟨b1, b2, b3, b4, b5, b6⟩ := b
    simp only [PyData.eqv, PyData.eqvAll, Bool.and_true, Bool.and_eq_true, Py.eqv, HL6.mk.injEq]⟩
/-- what is asked with sizes -/
noncomputable def TolD : Type := Tx × HL6 Int Int Int Int Row (List Row)
noncomputable def toldS : Tx := ⟨"told", by decide +kernel⟩
noncomputable def spAsked32 (K : PySem.W.Frag) : Sp := fun vs H Q _ => ∃ (v u : V) (n m : String) (Z : Hp), vs = [v, u] ∧ Ex Z H ∧ KindV K H v n ∧ KindV K H u m ∧
  (∀ w f, v = .int w → u = .int f → 1 ≤ w ∧ w ≤ 8 → 1 ≤ f ∧ f ≤ 8 → ∀ (p L e r : Addr) Z' H', T [] Z H Z' H' → Z' p = some (.tup [.str "told", .ref L]) → Z' L = some (.lst [.int w, .int f, .int 0, .int 1, .ref e, .ref r]) → Ik Z' (.ref p) ((toldS, HL6.mk w f 0 1 [] [[]]) : Tx × HL6 Int Int Int Int Row (List Row)) → Q (.ref p) H') ∧
  (∀ o, (sizeV v = false ∧ o = v ∨ sizeV v = true ∧ sizeV u = false ∧ o = u) → ∀ (p : Addr) Z' H', T [] Z H Z' H' → Z' p = some (.tup [.str "refused", o]) → Q (.ref p) H')
noncomputable def spSame32 (K : PySem.W.Frag) : Sp := fun vs H Q _ => ∃ (p : Addr) (v : V) (n : String) (Z : Hp), vs = [.ref p, v] ∧ Ex Z H ∧ OddV Z v n ∧ Z p = some (.tup [.str "refused", v]) ∧ Q (.bl true) H
noncomputable def spOdd32 (K : PySem.W.Frag) : Sp := fun vs H Q _ => ∃ (h : Addr) (n : Nat) (Z : Hp), vs = [.ref h] ∧ Hand K Z H h (n + 3) ∧
  ∀ (v : V) (m : String) Z' H', T [h] Z H Z' H' → Hand K Z' H' h n → OddV Z' v m → sizeV v = false → Q v H'
end TR
namespace TR
open PySem L2
end TR
namespace TR
open PySem L2
end TR
namespace TR
open PySem L2
end TR
namespace TR
open PySem L2
end TR

namespace TR
/-- what so many keys more get out of the needs, least first -/
noncomputable def greatG : List Int → Int → Int → Int
  | [], w, left => left / w
  | n :: ns, w, left => if left < n then 0 else 1 + greatG ns w (left - n)
noncomputable def over (l : Int) (ns : List Int) : Int := (ns.map fun n => max 0 (l - n)).sum
/-- the needs of the rooms that have keys -/
noncomputable def needV (ms : List Int) (w : Int) : List Int := (ms.filter fun m => decide (m > 0)).map fun m => freeI m w + 1
theorem needV_cons (m : Int) (ms : List Int) (w : Int) : needV (m :: ms) w = if m > 0 then (freeI m w + 1) :: needV ms w else needV ms w := by
  unfold needV
  by_cases c : m > 0
  · rw [if_pos c, List.filter_cons, if_pos (decide_eq_true c)]
    rfl
  · rw [if_neg c, List.filter_cons, if_neg (fun z => c (of_decide_eq_true z))]
theorem free_lt {m w : Int} (hm : 0 < m) (hw : 0 < w) : freeI m w < w := by
  have h := (rowsI_facts (show 0 ≤ m by omega) hw).2.2.2.1
  rw [if_neg (by omega)] at h
  unfold freeI
  rw [Int.mul_comm]
  omega
/-- the greatest spill behind any put -/
noncomputable def greatI (ms : List Int) (w more : Int) : Int := spillI ms w + (if needV ms w = [] then max 0 (more - 1) / w else greatG (sortI (needV ms w)) w more)
theorem zero_all {ms : List Int} {w : Int} (hm : ∀ m ∈ ms, 0 ≤ m) (h : needV ms w = []) : ∀ m ∈ ms, m = 0 := fun m hx => by
  unfold needV at h
  have h := List.map_eq_nil_iff.mp h
  have := List.filter_eq_nil_iff.mp h m hx
  have : ¬ m > 0 := fun z => this (decide_eq_true z)
  have := hm m hx
  omega
end TR
namespace TR
/-- the way of greatest_spill -/
noncomputable def greatF (s : List Int × Int) (nr : Int × Int) : List Int × Int := if nr.1 ≤ s.2 then (s.1.set nr.2.toNat nr.1, s.2 - nr.1) else s
/-- room by room: what a room needs for one row more -/
noncomputable def needP (ms : List Int) (w : Int) (j : Nat) : List (Int × Int) := ((List.range j).filter fun r => decide (ms.getD r 0 > 0)).map fun r => (freeI (ms.getD r 0) w + 1, (r : Int))
theorem needP_succ (ms : List Int) (w : Int) (j : Nat) : needP ms w (j + 1) = if ms.getD j 0 > 0 then needP ms w j ++ [(freeI (ms.getD j 0) w + 1, (j : Int))] else needP ms w j := by
  unfold needP
  rw [List.range_succ, List.filter_append, List.map_append]
  by_cases c : ms.getD j 0 > 0
  · rw [if_pos c, List.filter_cons, if_pos (decide_eq_true c)]
    rfl
  · rw [if_neg c, List.filter_cons, if_neg (fun z => c (of_decide_eq_true z))]
    simp
theorem needP_len (ms : List Int) (w : Int) (j : Nat) : (needP ms w j).length ≤ j := by
  unfold needP
  rw [List.length_map]
  have := List.length_filter_le (fun r => decide (ms.getD r 0 > 0)) (List.range j)
  rw [List.length_range] at this
  exact this
theorem needP_fst (ms : List Int) (w : Int) : (needP ms w ms.length).map Prod.fst = needV ms w := by
  have h : ∀ j, j ≤ ms.length → (needP ms w j).map Prod.fst = needV (ms.take j) w := by
    intro j
    induction j with
    | zero => intro _; rfl
    | succ j ih =>
      intro hj
      have hx : ms[j]? = some (ms.getD j 0) := by
        rw [List.getD_eq_getElem?_getD, List.getElem?_eq_getElem (by omega)]
        rfl
      rw [needP_succ, List.take_add_one, hx]
      show _ = needV (ms.take j ++ [ms.getD j 0]) w
      have e : needV (ms.take j ++ [ms.getD j 0]) w = needV (ms.take j) w ++ needV [ms.getD j 0] w := by
        unfold needV
        rw [List.filter_append, List.map_append]
      rw [e, needV_cons]
      by_cases c : ms.getD j 0 > 0
      · rw [if_pos c, if_pos c, List.map_append, ih (by omega)]
        rfl
      · rw [if_neg c, if_neg c, ih (by omega)]
        show _ = _ ++ []
        rw [List.append_nil]
  have := h ms.length (Nat.le_refl _)
  rw [List.take_length] at this
  exact this
/-- a room of the list, with its need -/
noncomputable def NR (ms : List Int) (w : Int) (q : Int × Int) : Prop := ∃ r : Nat, r < ms.length ∧ q.2 = (r : Int) ∧ ms.getD r 0 > 0 ∧ q.1 = freeI (ms.getD r 0) w + 1
theorem needP_all {ms : List Int} {w : Int} : ∀ q ∈ needP ms w ms.length, NR ms w q := fun q hq => by
  obtain ⟨r, hr, rfl⟩ := List.mem_map.mp hq
  obtain ⟨h1, h2⟩ := List.mem_filter.mp hr
  exact ⟨r, List.mem_range.mp h1, rfl, of_decide_eq_true h2, rfl⟩
theorem needP_nd (ms : List Int) (w : Int) (j : Nat) : (needP ms w j).Pairwise (fun a b => a.2 ≠ b.2) := by
  unfold needP
  refine List.pairwise_map.mpr (List.Pairwise.imp (fun {a b} h z => ?_) (List.Pairwise.filter _ (List.pairwise_lt_range (n := j))))
  have z : (a : Int) = (b : Int) := z
  omega
theorem set_spill {w : Int} : ∀ {ms p : List Int} {r : Nat} {x : Int}, p.length = ms.length → r < ms.length → spillI (addI ms (p.set r x)) w = spillI (addI ms p) w - rowsI (ms.getD r 0 + p.getD r 0) w + rowsI (ms.getD r 0 + x) w
  | m :: ms, t :: p, 0, x, hl, hr => by
    show spillI ((m + x) :: addI ms p) w = spillI ((m + t) :: addI ms p) w - rowsI (m + t) w + rowsI (m + x) w
    rw [spillI_cons, spillI_cons]
    omega
  | m :: ms, t :: p, r + 1, x, hl, hr => by
    have ih := set_spill (w := w) (ms := ms) (p := p) (r := r) (x := x) (by simpa using hl) (by simpa using hr)
    show spillI ((m + t) :: addI ms (p.set r x)) w = spillI ((m + t) :: addI ms p) w - rowsI (ms.getD r 0 + p.getD r 0) w + rowsI (ms.getD r 0 + x) w
    rw [spillI_cons, spillI_cons, ih]
    omega
theorem set_sum : ∀ {p : List Int} {r : Nat} {x : Int}, r < p.length → (p.set r x).sum = p.sum - p.getD r 0 + x
  | t :: p, 0, x, hr => by
    show x + p.sum = t + p.sum - t + x
    omega
  | t :: p, r + 1, x, hr => by
    have ih := set_sum (p := p) (r := r) (x := x) (by simpa using hr)
    show t + (p.set r x).sum = t + p.sum - p.getD r 0 + x
    omega
theorem set_get {p : List Int} {r q : Nat} {x : Int} (h : r ≠ q) : (p.set r x).getD q 0 = p.getD q 0 := by
  rw [List.getD_eq_getElem?_getD, List.getD_eq_getElem?_getD, List.getElem?_set_ne h]
theorem set_own {p : List Int} {r : Nat} {x : Int} (h : r < p.length) : (p.set r x).getD r 0 = x := by
  rw [List.getD_eq_getElem?_getD, List.getElem?_set_self h]
  rfl
theorem rows_step {m w x : Int} (hw : 0 < w) (hx : 0 ≤ x) : rowsI (m + (freeI m w + 1 + x)) w = rowsI m w + 1 + x / w := by
  have e : m + (freeI m w + 1 + x) = w * rowsI m w + 1 + x := by unfold freeI; omega
  have hp := rowsI_pos m w
  have h0 : 0 ≤ x / w := Int.ediv_nonneg hx (by omega)
  rw [e]
  show max 1 ((w * rowsI m w + 1 + x + w - 1) / w) = _
  rw [show w * rowsI m w + 1 + x + w - 1 = x + w * (rowsI m w + 1) by rw [Int.mul_add, Int.mul_one]; omega, Int.add_mul_ediv_left _ _ (by omega)]
  omega
/-- a put on the way: what stands, what is left -/
structure Way (ms p : List Int) (left more : Int) : Prop where
  len : p.length = ms.length
  nn : ∀ x ∈ p, 0 ≤ x
  sum : p.sum + left = more
  lf : 0 ≤ left
theorem fold_stop : ∀ {L : List (Int × Int)} {s : List Int × Int}, (∀ q ∈ L, s.2 < q.1) → L.foldl greatF s = s
  | [], _, _ => rfl
  | q :: L, s, h => by
    have h0 := h q List.mem_cons_self
    rw [List.foldl_cons]
    have e : greatF s q = s := by
      unfold greatF
      rw [if_neg (by omega)]
    rw [e]
    exact fold_stop fun x hx => h x (List.mem_cons_of_mem _ hx)
theorem fold_great {ms : List Int} {w more : Int} (hw : 0 < w) (hm : ∀ m ∈ ms, 0 ≤ m) : ∀ {L : List (Int × Int)} {p : List Int} {left : Int}, L.Pairwise (fun a b => a.1 ≤ b.1) → L.Pairwise (fun a b => a.2 ≠ b.2) → (∀ q ∈ L, NR ms w q) → Way ms p left more → (∀ q ∈ L, p.getD q.2.toNat 0 = 0) →
    Way ms (L.foldl greatF (p, left)).1 (L.foldl greatF (p, left)).2 more ∧ spillI (addI ms (L.foldl greatF (p, left)).1) w + (L.foldl greatF (p, left)).2 / w = spillI (addI ms p) w + greatG (L.map Prod.fst) w left ∧
    ∀ r : Nat, (∀ q ∈ L, q.2 ≠ (r : Int)) → (L.foldl greatF (p, left)).1.getD r 0 = p.getD r 0
  | [], p, left, _, _, _, h, _ => ⟨h, rfl, fun _ _ => rfl⟩
  | q :: L, p, left, hs, hd, hn, h, hz => by
    have hs' := List.pairwise_cons.mp hs
    have hd' := List.pairwise_cons.mp hd
    obtain ⟨r, r1, r2, r3, r4⟩ := hn q List.mem_cons_self
    have z0 := hz q List.mem_cons_self
    have rt : q.2.toNat = r := by omega
    rw [rt] at z0
    have mm := hm (ms.getD r 0) (by
      rw [List.getD_eq_getElem?_getD, List.getElem?_eq_getElem r1]
      exact List.getElem_mem r1)
    have fp := free_pos mm hw
    have fl := free_lt r3 hw
    by_cases c : left < q.1
    · rw [fold_stop (L := q :: L) (s := (p, left)) (fun x hx => by
        rcases List.mem_cons.mp hx with rfl | hx
        · exact c
        · exact Int.lt_of_lt_of_le c (hs'.1 x hx))]
      refine ⟨h, ?_, fun _ _ => rfl⟩
      have e : greatG ((q :: L).map Prod.fst) w left = 0 := by
        show (if left < q.1 then (0 : Int) else _) = 0
        rw [if_pos c]
      have e2 : left / w = 0 := Int.ediv_eq_zero_of_lt h.lf (by omega)
      rw [e]
      show _ + left / w = _
      rw [e2]
    · have ef : greatF (p, left) q = (p.set r q.1, left - q.1) := by
        unfold greatF
        rw [if_pos (by show q.1 ≤ left; omega), rt]
      rw [List.foldl_cons, ef]
      have rl : r < p.length := by rw [h.len]; exact r1
      have ss := set_sum (x := q.1) rl
      have hl := h.lf
      have hsum := h.sum
      obtain ⟨j1, j2, j3⟩ := fold_great (more := more) hw hm (L := L) (p := p.set r q.1) (left := left - q.1) hs'.2 hd'.2 (fun x hx => hn x (List.mem_cons_of_mem _ hx))
        ⟨by rw [List.length_set]; exact h.len, fun x hx => by
          rcases List.mem_or_eq_of_mem_set hx with hx | rfl
          · exact h.nn x hx
          · omega, by rw [ss, z0]; omega, by omega⟩ (fun x hx => by
          have ne := hd'.1 x hx
          obtain ⟨r', _, k2, _, _⟩ := hn x (List.mem_cons_of_mem _ hx)
          rw [set_get (by omega)]
          exact hz x (List.mem_cons_of_mem _ hx))
      refine ⟨j1, ?_, fun k hk => ?_⟩
      · rw [j2, set_spill h.len r1, z0, Int.add_zero]
        have e := rows_step (m := ms.getD r 0) (x := 0) hw (Int.le_refl 0)
        rw [Int.add_zero, Int.zero_ediv, Int.add_zero] at e
        rw [r4, e]
        have e2 : greatG ((q :: L).map Prod.fst) w left = 1 + greatG (L.map Prod.fst) w (left - q.1) := by
          show (if left < q.1 then (0 : Int) else _) = _
          rw [if_neg c]
        rw [e2, r4]
        omega
      · have hk0 := hk q List.mem_cons_self
        rw [j3 k (fun x hx => hk x (List.mem_cons_of_mem _ hx)), set_get (by omega)]
noncomputable def greatSt (ms : List Int) (w more : Int) : List Int × Int := (sortP (needP ms w ms.length)).foldl greatF (List.replicate ms.length 0, more)
noncomputable def restOf (L : List (Int × Int)) : Int := match L with | [] => 0 | q :: _ => q.2
noncomputable def greatPut (ms : List Int) (w more : Int) : List Int := (greatSt ms w more).1.set (restOf (sortP (needP ms w ms.length))).toNat ((greatSt ms w more).1.getD (restOf (sortP (needP ms w ms.length))).toNat 0 + (greatSt ms w more).2)
theorem rep_get (n r : Nat) : (List.replicate n (0 : Int)).getD r 0 = 0 := by
  rw [List.getD_eq_getElem?_getD, List.getElem?_replicate]
  split <;> rfl
theorem way_start (ms : List Int) {more : Int} (h0 : 0 ≤ more) : Way ms (List.replicate ms.length 0) more more := by
  refine ⟨List.length_replicate, fun x hx => by rw [List.eq_of_mem_replicate hx]; exact Int.le_refl _, ?_, h0⟩
  have : ∀ n : Nat, (List.replicate n (0 : Int)).sum = 0 := by
    intro n
    induction n with
    | zero => rfl
    | succ n ih => rw [List.replicate_succ, List.sum_cons, ih]; rfl
  rw [this]
  omega
theorem spill_rep (w : Int) : ∀ ms : List Int, spillI (addI ms (List.replicate ms.length 0)) w = spillI ms w
  | [] => rfl
  | m :: ms => by
    show spillI ((m + 0) :: addI ms (List.replicate ms.length 0)) w = _
    rw [spillI_cons, spillI_cons, spill_rep w ms, Int.add_zero]
theorem great_last {ms p : List Int} {w left more : Int} {r : Nat} (h : Way ms p left more) (hr : r < ms.length) : Put ms (p.set r (p.getD r 0 + left)) more ∧ spillI (addI ms (p.set r (p.getD r 0 + left))) w = spillI (addI ms p) w - rowsI (ms.getD r 0 + p.getD r 0) w + rowsI (ms.getD r 0 + (p.getD r 0 + left)) w := by
  have rl : r < p.length := by rw [h.len]; exact hr
  have hs := h.sum
  have hl := h.lf
  have h0 : 0 ≤ p.getD r 0 := by
    rw [List.getD_eq_getElem?_getD, List.getElem?_eq_getElem rl]
    exact h.nn _ (List.getElem_mem rl)
  refine ⟨⟨by rw [List.length_set]; exact h.len, fun x hx => ?_, by rw [set_sum rl]; omega⟩, set_spill h.len hr⟩
  rcases List.mem_or_eq_of_mem_set hx with hx | rfl
  · exact h.nn x hx
  · omega
theorem greatPut_facts {ms : List Int} {w more : Int} (hw : 0 < w) (h0 : 0 ≤ more) (hm : ∀ m ∈ ms, 0 ≤ m) (hn : ms ≠ []) :
    Put ms (greatPut ms w more) more ∧ spillI (addI ms (greatPut ms w more)) w = greatI ms w more ∧ 0 ≤ restOf (sortP (needP ms w ms.length)) ∧ restOf (sortP (needP ms w ms.length)) < ms.length ∧ (greatSt ms w more).1.length = ms.length := by
  have lp := List.length_pos_iff.mpr hn
  have hp := sortP_perm (needP ms w ms.length)
  have hs : (sortP (needP ms w ms.length)).Pairwise (fun a b => a.1 ≤ b.1) := (sortP_sorted _).imp fun h => by
    have := lexI_iff.mp h
    omega
  have hd : (sortP (needP ms w ms.length)).Pairwise (fun a b => a.2 ≠ b.2) := (hp.symm.pairwise_iff (fun {a b} h z => h z.symm)).mp (needP_nd ms w ms.length)
  have ha : ∀ q ∈ sortP (needP ms w ms.length), NR ms w q := fun q hq => needP_all q (sortP_mem.mp hq)
  have hv : (sortP (needP ms w ms.length)).map Prod.fst = sortI (needV ms w) := by
    refine sortI_of ?_ (List.pairwise_map.mpr hs)
    rw [← needP_fst]
    exact hp.map _
  have hz : ∀ q ∈ sortP (needP ms w ms.length), (List.replicate ms.length (0 : Int)).getD q.2.toNat 0 = 0 := fun q _ => rep_get _ _
  obtain ⟨f1, f2, f3⟩ := fold_great hw hm hs hd ha (way_start ms h0) hz
  rw [hv, spill_rep] at f2
  have hne : needV ms w = [] ↔ sortP (needP ms w ms.length) = [] := by
    rw [← needP_fst, List.map_eq_nil_iff]
    exact ⟨fun z => List.eq_nil_of_length_eq_zero (by rw [sortP_len, z]; rfl), fun z => List.eq_nil_of_length_eq_zero (by rw [← sortP_len, z]; rfl)⟩
  have ep : greatPut ms w more = (greatSt ms w more).1.set (restOf (sortP (needP ms w ms.length))).toNat ((greatSt ms w more).1.getD (restOf (sortP (needP ms w ms.length))).toNat 0 + (greatSt ms w more).2) := rfl
  have es : greatSt ms w more = (sortP (needP ms w ms.length)).foldl greatF (List.replicate ms.length 0, more) := rfl
  rw [← es] at f1 f2 f3
  rw [ep]
  unfold greatI
  by_cases c : needV ms w = []
  · have c2 := hne.mp c
    rw [if_pos c]
    have e0 : greatSt ms w more = (List.replicate ms.length 0, more) := by rw [es, c2]; rfl
    rw [c2]
    have er : restOf [] = 0 := rfl
    obtain ⟨k1, k2⟩ := great_last (w := w) f1 (r := 0) lp
    refine ⟨k1, ?_, Int.le_refl 0, by show (0 : Int) < _; omega, f1.len⟩
    show spillI (addI ms ((greatSt ms w more).1.set 0 ((greatSt ms w more).1.getD 0 0 + (greatSt ms w more).2))) w = _
    rw [k2, e0]
    show spillI (addI ms (List.replicate ms.length 0)) w - rowsI (ms.getD 0 0 + (List.replicate ms.length (0 : Int)).getD 0 0) w + rowsI (ms.getD 0 0 + ((List.replicate ms.length (0 : Int)).getD 0 0 + more)) w = _
    have em : ms.getD 0 0 = 0 := by
      rw [List.getD_eq_getElem?_getD, List.getElem?_eq_getElem lp]
      exact zero_all hm c _ (List.getElem_mem lp)
    rw [spill_rep, rep_get, em, rowsI_more (show (0 : Int) ≤ 0 + 0 by decide) hw, rowsI_more (show (0 : Int) ≤ 0 + (0 + more) by omega) hw]
    have : max 0 ((0 : Int) + 0 - 1) / w = 0 := by
      rw [show max 0 ((0 : Int) + 0 - 1) = 0 from rfl, Int.zero_ediv]
    rw [this, show (0 : Int) + (0 + more) - 1 = more - 1 by omega]
    omega
  · rw [if_neg c]
    have c2 := fun z => c (hne.mpr z)
    obtain ⟨q, L, hL⟩ : ∃ q L, sortP (needP ms w ms.length) = q :: L := by
      cases h : sortP (needP ms w ms.length) with
      | nil => exact absurd h c2
      | cons q L => exact ⟨q, L, rfl⟩
    obtain ⟨r, r1, r2, r3, r4⟩ := ha q (by rw [hL]; exact List.mem_cons_self)
    have er : restOf (sortP (needP ms w ms.length)) = (r : Int) := by rw [hL]; exact r2
    rw [er, Int.toNat_natCast]
    obtain ⟨k1, k2⟩ := great_last (w := w) f1 r1
    refine ⟨k1, ?_, by omega, by omega, f1.len⟩
    rw [k2]
    have mm := hm (ms.getD r 0) (by
      rw [List.getD_eq_getElem?_getD, List.getElem?_eq_getElem r1]
      exact List.getElem_mem r1)
    have fl := free_lt r3 hw
    have lf := f1.lf
    by_cases cq : q.1 ≤ more
    · have hs2 := es
      rw [hL, List.foldl_cons] at hs2
      have ef : greatF (List.replicate ms.length 0, more) q = ((List.replicate ms.length 0).set r q.1, more - q.1) := by
        unfold greatF
        rw [if_pos cq, r2, Int.toNat_natCast]
      rw [ef] at hs2
      rw [hL] at hs hd ha
      have hd' := List.pairwise_cons.mp hd
      have rl : r < (List.replicate ms.length (0 : Int)).length := by rw [List.length_replicate]; exact r1
      have w1 := way_start ms h0
      have fp := free_pos mm hw
      obtain ⟨_, _, g3⟩ := fold_great (ms := ms) (w := w) (more := more) hw hm (L := L) (p := (List.replicate ms.length 0).set r q.1) (left := more - q.1) (List.pairwise_cons.mp hs).2 hd'.2 (fun x hx => ha x (List.mem_cons_of_mem _ hx))
        ⟨by rw [List.length_set]; exact w1.len, fun x hx => by
          rcases List.mem_or_eq_of_mem_set hx with hx | rfl
          · exact w1.nn x hx
          · omega, by rw [set_sum rl, rep_get]; have := w1.sum; omega, by omega⟩ (fun x hx => by
          have ne := hd'.1 x hx
          obtain ⟨r', _, k2, _, _⟩ := ha x (List.mem_cons_of_mem _ hx)
          rw [set_get (by omega)]
          exact rep_get _ _)
      have g3 := g3 r (fun x hx z => hd'.1 x hx (by rw [z, r2]))
      rw [← hs2, set_own rl] at g3
      have st := rows_step (m := ms.getD r 0) (x := (greatSt ms w more).2) hw lf
      have s0 := rows_step (m := ms.getD r 0) (x := 0) hw (Int.le_refl 0)
      rw [Int.add_zero, Int.zero_ediv, Int.add_zero] at s0
      rw [g3, r4, st, s0]
      omega
    · have e0 : greatSt ms w more = (List.replicate ms.length 0, more) := by
        rw [es]
        refine fold_stop fun x hx => ?_
        show more < x.1
        rw [hL] at hx hs
        rcases List.mem_cons.mp hx with rfl | hx
        · omega
        · have := (List.pairwise_cons.mp hs).1 x hx
          omega
      have eg : greatG (sortI (needV ms w)) w more = 0 := by
        rw [← hv, hL]
        show (if more < q.1 then (0 : Int) else _) = 0
        rw [if_pos (by omega)]
      rw [eg, e0]
      show spillI (addI ms (List.replicate ms.length 0)) w - rowsI (ms.getD r 0 + (List.replicate ms.length (0 : Int)).getD r 0) w + rowsI (ms.getD r 0 + ((List.replicate ms.length (0 : Int)).getD r 0 + more)) w = _
      rw [spill_rep, rep_get, Int.add_zero, Int.zero_add, rows_same mm h0 hw (by omega)]
      omega
end TR
namespace TR
end TR
namespace TR
/-- what so many rows more cost at least -/
noncomputable def costG (ns : List Int) (w : Int) (E : Nat) : Int := (ns.take E).sum + w * ((E - ns.length : Nat) : Int)
/-- the fewest keys behind which the spill may be so great -/
noncomputable def fewestI (ms : List Int) (w limit : Int) : Int :=
  if limit - spillI ms w ≤ 0 then 0 else if needV ms w = [] then (limit - spillI ms w) * w + 1 else costG (sortI (needV ms w)) w (limit - spillI ms w).toNat
noncomputable def mostI (ms : List Int) (w limit : Int) : Int := (limit - spillI ms w) * w + freeS ms w
theorem free_mod {m w : Int} (hm : 0 ≤ m) (hw : 0 < w) : (0 - m) % w + w * (if m = 0 then 1 else 0) = freeI m w := by
  by_cases c : m = 0
  · subst c
    have r0 : rowsI 0 w = 1 := by
      rw [rowsI_more (Int.le_refl 0) hw, show max 0 ((0 : Int) - 1) = 0 from rfl, Int.zero_ediv]
      rfl
    unfold freeI
    rw [if_pos rfl, r0, Int.sub_self, Int.zero_emod]
    omega
  · rw [if_neg c, Int.mul_zero, Int.add_zero]
    have f1 := free_pos hm hw
    have f2 := free_lt (show 0 < m by omega) hw
    have e : (0 - m) = freeI m w + w * (- rowsI m w) := by
      unfold freeI
      rw [Int.mul_neg]
      omega
    rw [e, Int.add_mul_emod_self_left, Int.emod_eq_of_lt f1 f2]
theorem need_mod {m w : Int} (hm : 0 < m) (hw : 0 < w) : 1 + (0 - m) % w = freeI m w + 1 := by
  have := free_mod (show 0 ≤ m by omega) hw
  rw [if_neg (by omega), Int.mul_zero] at this
  omega
end TR

/-! truths among numbers: max, min, +, - -/
namespace PySem.NB
open PySem PySem.Spec PyProof.Rows
theorem gt_bi (a : Bool) (b : Int) (u : Tok) : Gives (Builtin.«int.__gt__» ⟨[.bool a, .int b u], []⟩) (.val (Value.bool (decide ((if a = true then (1 : Int) else 0) > b)))) :=
  .of_wp fun M A E s Q h => by obtain ⟨hp, g, d, tk, os⟩ := s; wp_walk; exact ⟨_, rfl, h⟩
theorem lt_bi (a : Bool) (b : Int) (u : Tok) : Gives (Builtin.«int.__lt__» ⟨[.bool a, .int b u], []⟩) (.val (Value.bool (decide ((if a = true then (1 : Int) else 0) < b)))) :=
  .of_wp fun M A E s Q h => by obtain ⟨hp, g, d, tk, os⟩ := s; wp_walk; exact ⟨_, rfl, h⟩
/-- a number, or a truth as a number -/
inductive NumV : Value → Int → Prop
  | int (n : Int) (t : Tok) : NumV (.int n t) n
  | bl (b : Bool) : NumV (.bool b) (if b = true then 1 else 0)
section
variable {prog : Program} {w : World} {A : Around} {E : Value → Shared → Prop} {s : Shared} {Q : Value → Shared → Prop}
theorem rc_gt {u v : Value} {m n : Int} (hu : NumV u m) (hv : NumV v n) (h : Q (.bool (decide (m > n))) s) : wpAny (model prog w) A (richCompare .Gt u v) Q E s := by
  cases hu with
  | int m t =>
    cases hv with
    | int n t' => exact richCompare_gives (op := .Gt) (typeIs_int s _ t) (typeIs_int s _ t') F.slot_int_gt F.entry_int_gt (F.args_int_gt_2 _ _) (gives_int_gt _ _ t t') (fun x => nomatch x) h
    | bl b => exact SeqAt.rc_sub_first_or (typeIs_int s m t) rfl (by decide) F.sub_bool_int F.slot_bool_lt_refl (call_gives F.slot_bool_lt rfl F.entry_int_lt (F.args_int_lt_2 _ _) (lt_bi b m t) ⟨nofun, by exact h⟩) (.inl rfl)
  | bl a =>
    cases hv with
    | int n t' => exact SeqAt.rc_left_or rfl (typeIs_int s n t') (by decide) F.sub_int_bool F.slot_bool_gt (call_gives F.slot_bool_gt rfl F.entry_int_gt (F.args_int_gt_2 _ _) (gt_bi a n t') ⟨nofun, h⟩) (.inl rfl)
    | bl b => exact richCompare_gives (op := .Gt) (typeIs_bool' s a) (typeIs_bool' s b) F.slot_bool_gt F.entry_int_gt (F.args_int_gt_2 _ _) (gives_int_gt_bools a b) (fun x => nomatch x) h
theorem rc_lt {u v : Value} {m n : Int} (hu : NumV u m) (hv : NumV v n) (h : Q (.bool (decide (m < n))) s) : wpAny (model prog w) A (richCompare .Lt u v) Q E s := by
  cases hu with
  | int m t =>
    cases hv with
    | int n t' => exact richCompare_gives (op := .Lt) (typeIs_int s _ t) (typeIs_int s _ t') F.slot_int_lt F.entry_int_lt (F.args_int_lt_2 _ _) (gives_int_lt _ _ t t') (fun x => nomatch x) h
    | bl b => exact SeqAt.rc_sub_first_or (typeIs_int s m t) rfl (by decide) F.sub_bool_int F.slot_bool_gt_refl (call_gives F.slot_bool_gt rfl F.entry_int_gt (F.args_int_gt_2 _ _) (gt_bi b m t) ⟨nofun, by exact h⟩) (.inl rfl)
  | bl a =>
    cases hv with
    | int n t' => exact SeqAt.rc_left_or rfl (typeIs_int s n t') (by decide) F.sub_int_bool F.slot_bool_lt (call_gives F.slot_bool_lt rfl F.entry_int_lt (F.args_int_lt_2 _ _) (lt_bi a n t') ⟨nofun, h⟩) (.inl rfl)
    | bl b => exact richCompare_gives (op := .Lt) (typeIs_bool' s a) (typeIs_bool' s b) F.slot_bool_lt F.entry_int_lt (F.args_int_lt_2 _ _) (gives_int_lt_bools a b) (fun x => nomatch x) h
end
end PySem.NB
namespace PySem.NB
open PySem PySem.Spec PyProof.Rows
section
variable {prog : Program} {w : World} {A : Around} {E : Value → Shared → Prop} {s : Shared} {Q : Value → Shared → Prop}
noncomputable def val2 (m n : Int) : Nat → Int
  | 0 => m
  | _ => n
theorem at2 {u v : Value} {m n : Int} (hu : NumV u m) (hv : NumV v n) : ∀ {i : Nat} {x : Value}, (#[u, v] : Array Value)[i]? = some x → NumV x (val2 m n i)
  | 0, _, h => by cases h; exact hu
  | 1, _, h => by cases h; exact hv
  | _ + 2, _, h => by simp at h
theorem max_two {u v : Value} {m n : Int} (hh : A.handled = none) (hu : NumV u m) (hv : NumV v n)
    (h : ∀ h' tk, (∀ c o, s.heap.get? c = some o → h'.get? c = some o) → Q (if n > m then v else u) { s with heap := h', toks := tk }) : wpAny (model prog w) A (call (.builtin "max") [u, v]) Q E s := by
  have hT : (s.heap.push { cls := .type "tuple", data := .seq #[u, v] }).IsTuple s.heap.objs.size #[u, v] := ⟨_, Heap.get?_push_size _ rfl, rfl, 0, rfl⟩
  refine call_max_two (wpAny_pyIter_tuple hT ?_)
  have hsz : (s.heap.push { cls := .type "tuple", data := .seq #[u, v] }).objs.size = s.heap.objs.size + 1 := Heap.size_push ..
  refine ⟨_, [_, s.heap.objs.size], [_], _, _, _, _, rfl, Walks.tuple (A := A.in1) hh _ s.heap.objs.size (by rw [hsz]; exact Nat.ne_of_lt (Nat.lt_succ_self _)) #[u, v],
    ⟨⟨_, Heap.get?_push_size _ rfl, rfl, rfl⟩, hT.push _⟩, fun c hc => ?_, by simp, (show CmpOf prog w A.in1 .Gt _ (fun i j => decide (val2 m n i > val2 m n j)) from fun i j vi vj s Q E hi hj h => rc_gt (at2 hu hv hi) (at2 hu hv hj) h), fun x h' tk hP hk => ?_⟩
  · show c < ((s.heap.push _).push _).objs.size
    rw [Heap.size_push, hsz]
    rcases List.mem_cons.mp hc with rfl | hc
    · rw [hsz]; exact Nat.lt_succ_self _
    · rcases List.mem_cons.mp hc with rfl | hc
      · exact Nat.lt_succ_of_lt (Nat.lt_succ_self _)
      · cases hc
  · have hold : ∀ c o, s.heap.get? c = some o → h'.get? c = some o := fun c o e => by
      refine hk c o (fun hm => ?_) (Heap.get?_push_of_some _ (Heap.get?_push_of_some _ e))
      rcases List.mem_cons.mp hm with e1 | hm
      · have := Heap.lt_size e; rw [e1, hsz] at this; exact Nat.lt_irrefl _ (Nat.lt_of_succ_lt this)
      · cases hm
    have := h h' tk hold
    have hx : x = if n > m then v else u := by
      have hP' : (#[u, v] : Array Value)[argBest (fun i j => decide (val2 m n i > val2 m n j)) 1]? = some x := hP
      by_cases hba : n > m
      · have e : argBest (fun i j => decide (val2 m n i > val2 m n j)) 1 = 1 := by simp [argBest, val2, hba]
        rw [e] at hP'
        rw [if_pos hba]
        exact (Option.some.inj hP').symm
      · have e : argBest (fun i j => decide (val2 m n i > val2 m n j)) 1 = 0 := by simp [argBest, val2, hba]
        rw [e] at hP'
        rw [if_neg hba]
        exact (Option.some.inj hP').symm
    rw [hx]; exact this
theorem min_two {u v : Value} {m n : Int} (hh : A.handled = none) (hu : NumV u m) (hv : NumV v n)
    (h : ∀ h' tk, (∀ c o, s.heap.get? c = some o → h'.get? c = some o) → Q (if n < m then v else u) { s with heap := h', toks := tk }) : wpAny (model prog w) A (call (.builtin "min") [u, v]) Q E s := by
  have hT : (s.heap.push { cls := .type "tuple", data := .seq #[u, v] }).IsTuple s.heap.objs.size #[u, v] := ⟨_, Heap.get?_push_size _ rfl, rfl, 0, rfl⟩
  refine call_min_two (wpAny_pyIter_tuple hT ?_)
  have hsz : (s.heap.push { cls := .type "tuple", data := .seq #[u, v] }).objs.size = s.heap.objs.size + 1 := Heap.size_push ..
  refine ⟨_, [_, s.heap.objs.size], [_], _, _, _, _, rfl, Walks.tuple (A := A.in1) hh _ s.heap.objs.size (by rw [hsz]; exact Nat.ne_of_lt (Nat.lt_succ_self _)) #[u, v],
    ⟨⟨_, Heap.get?_push_size _ rfl, rfl, rfl⟩, hT.push _⟩, fun c hc => ?_, by simp, (show CmpOf prog w A.in1 .Lt _ (fun i j => decide (val2 m n i < val2 m n j)) from fun i j vi vj s Q E hi hj h => rc_lt (at2 hu hv hi) (at2 hu hv hj) h), fun x h' tk hP hk => ?_⟩
  · show c < ((s.heap.push _).push _).objs.size
    rw [Heap.size_push, hsz]
    rcases List.mem_cons.mp hc with rfl | hc
    · rw [hsz]; exact Nat.lt_succ_self _
    · rcases List.mem_cons.mp hc with rfl | hc
      · exact Nat.lt_succ_of_lt (Nat.lt_succ_self _)
      · cases hc
  · have hold : ∀ c o, s.heap.get? c = some o → h'.get? c = some o := fun c o e => by
      refine hk c o (fun hm => ?_) (Heap.get?_push_of_some _ (Heap.get?_push_of_some _ e))
      rcases List.mem_cons.mp hm with e1 | hm
      · have := Heap.lt_size e; rw [e1, hsz] at this; exact Nat.lt_irrefl _ (Nat.lt_of_succ_lt this)
      · cases hm
    have := h h' tk hold
    have hx : x = if n < m then v else u := by
      have hP' : (#[u, v] : Array Value)[argBest (fun i j => decide (val2 m n i < val2 m n j)) 1]? = some x := hP
      by_cases hba : n < m
      · have e : argBest (fun i j => decide (val2 m n i < val2 m n j)) 1 = 1 := by simp [argBest, val2, hba]
        rw [e] at hP'
        rw [if_pos hba]
        exact (Option.some.inj hP').symm
      · have e : argBest (fun i j => decide (val2 m n i < val2 m n j)) 1 = 0 := by simp [argBest, val2, hba]
        rw [e] at hP'
        rw [if_neg hba]
        exact (Option.some.inj hP').symm
    rw [hx]; exact this
end
end PySem.NB
namespace L2
open PySem PySem.Spec PyProof.Rows PySem.NB
/-- a number, or a truth as a number -/
inductive NumX : V → Int → Prop
  | int (n : Int) : NumX (.int n) n
  | bl (b : Bool) : NumX (.bl b) (if b = true then 1 else 0)
theorem numX_rel {v : V} {u : Value} {n : Int} (h : NumX v n) (r : RelV v u) : NumV u n := by
  cases h with
  | int n => obtain ⟨t, rfl⟩ := r; exact .int n t
  | bl b => cases r; exact .bl b
noncomputable def rMaxN : List V → Hp → VK → Prop := fun xs H Q => ∃ x y m n, xs = [x, y] ∧ NumX x m ∧ NumX y n ∧ Q (if n > m then y else x) H
noncomputable def rMinN : List V → Hp → VK → Prop := fun xs H Q => ∃ x y m n, xs = [x, y] ∧ NumX x m ∧ NumX y n ∧ Q (if n < m then y else x) H
noncomputable def rSubN : R2 := fun x y H Q => ∃ m n, NumX x m ∧ NumX y n ∧ Q (.int (m - n)) H
noncomputable def rAddN : R2 := fun x y H Q => ∃ m n, NumX x m ∧ NumX y n ∧ Q (.int (m + n)) H
section
variable {X : Cx}
theorem call_maxN (hc : X.calm = true) : CallR X (.builtin "max") rMaxN := by
  intro pins s σ H xs us Q I r h
  obtain ⟨x, y, m, n, rfl, hx, hy, q⟩ := h
  obtain ⟨u, w', rfl, r1, r2⟩ := vals2 r
  refine NB.max_two (I.ok.hd hc) (numX_rel hx r1) (numX_rel hy r2) fun h' tk k => ⟨_, H, I.kept k, ?_, q⟩
  by_cases hj : n > m
  · rw [if_pos hj, if_pos hj]; exact r2
  · rw [if_neg hj, if_neg hj]; exact r1
theorem call_minN (hc : X.calm = true) : CallR X (.builtin "min") rMinN := by
  intro pins s σ H xs us Q I r h
  obtain ⟨x, y, m, n, rfl, hx, hy, q⟩ := h
  obtain ⟨u, w', rfl, r1, r2⟩ := vals2 r
  refine NB.min_two (I.ok.hd hc) (numX_rel hx r1) (numX_rel hy r2) fun h' tk k => ⟨_, H, I.kept k, ?_, q⟩
  by_cases hj : n < m
  · rw [if_pos hj, if_pos hj]; exact r2
  · rw [if_neg hj, if_neg hj]; exact r1
theorem op_subN : OpR X (binaryOp .Sub) rSubN := by
  intro pins s σ H x y v u Q I rx ry h
  obtain ⟨m, n, hx, hy, q⟩ := h
  cases hx with
  | int m =>
    obtain ⟨t, rfl⟩ := rx
    cases hy with
    | int n => obtain ⟨t', rfl⟩ := ry; exact sub_int ⟨.int _, H, I.tok _, ⟨_, rfl⟩, q⟩
    | bl b => cases ry; exact IntBool.sub_int_bool ⟨.int _, H, I.tok _, ⟨_, rfl⟩, q⟩
  | bl a =>
    cases rx
    cases hy with
    | int n => obtain ⟨t', rfl⟩ := ry; exact IntBool.sub_bool_int ⟨.int _, H, I.tok _, ⟨_, rfl⟩, q⟩
    | bl b => cases ry; exact sub_bool ⟨.int _, H, I.tok _, ⟨_, rfl⟩, q⟩
theorem op_addN : OpR X (binaryOp .Add) rAddN := by
  intro pins s σ H x y v u Q I rx ry h
  obtain ⟨m, n, hx, hy, q⟩ := h
  cases hx with
  | int m =>
    obtain ⟨t, rfl⟩ := rx
    cases hy with
    | int n => obtain ⟨t', rfl⟩ := ry; exact add_int ⟨.int _, H, I.tok _, ⟨_, rfl⟩, q⟩
    | bl b => cases ry; exact PySem.add_int_bool ⟨.int _, H, I.tok _, ⟨_, rfl⟩, q⟩
  | bl a =>
    cases rx
    cases hy with
    | int n => obtain ⟨t', rfl⟩ := ry; exact IntBool.add_bool_int ⟨.int _, H, I.tok _, ⟨_, rfl⟩, q⟩
    | bl b => cases ry; exact add_bool ⟨.int _, H, I.tok _, ⟨_, rfl⟩, q⟩
end
end L2

/-! == of two tuples whose things are data, or the very same thing -/
namespace L2
open PySem PySem.W PySem.Spec TR
inductive EqV (K : PySem.W.Frag) (H : Hp) : V → V → Bool → Prop where
  | dat {x y : V} {d e : PyData} (h1 : Dp K H x d) (h2 : Dp K H y e) (s1 : SeqAt.shaped d = true) (s2 : SeqAt.shaped e = true) : EqV K H x y (PyData.eqv d e)
  | same (a : Addr) : EqV K H (.ref a) (.ref a) true
noncomputable def rEqT (K : PySem.W.Frag) : R2 := fun x y H Q => ∃ (a b : Addr) (xs ys : List V) (e : Nat → Bool), x = .ref a ∧ y = .ref b ∧ SqT K H a xs ∧ SqT K H b ys ∧ xs.length = ys.length ∧ (∀ (j : Nat) v w, xs[j]? = some v → ys[j]? = some w → EqV K H v w (e j)) ∧ Q (.bl ((List.range xs.length).all e)) H
section
variable {X : Cx}
theorem vals_get : ∀ {xs : List V} {us : List Value} (_ : Vals xs us) (j : Nat) (h : j < us.length), ∃ v, xs[j]? = some v ∧ RelV v us[j]
  | _, _, .nil, j, h => absurd h (Nat.not_lt_zero j)
  | _, _, .cons r _, 0, _ => ⟨_, rfl, r⟩
  | _, _, .cons _ t, j + 1, h => vals_get t j (Nat.lt_of_succ_lt_succ h)
theorem eqV_at {pins : List (Addr × Obj)} {σ : L2.St} {H : Hp} {s : Shared} (I : Inv X pins σ H s) (hu : X.A.in1.units + 64 < cLine) {v w : V} {b : Bool} {u t : Value} (h : EqV X.K H v w b) (rv : RelV v u) (rw_ : RelV w t) : SeqAt.EqAt X.A.in1 s u t b := by
  cases h with
  | dat h1 h2 s1 s2 =>
    obtain ⟨as, r1⟩ := Dp.reads I _ _ _ h1 rv
    obtain ⟨bs, r2⟩ := Dp.reads I _ _ _ h2 rw_
    exact SeqAt.eqAt_reads _ _ _ s _ _ as bs r1 r2 (SeqAt.canLay_of_shaped s1) (SeqAt.canLay_of_shaped s2) (SeqAt.room_of_shaped s1 hu)
  | same a =>
    obtain rfl : u = Value.ref a := rv
    obtain rfl : t = Value.ref a := rw_
    exact SeqAt.EqAt.same _
theorem Room.u65 {k : Nat} {A : Around} (r : Room k A) : A.units + 65 < cLine := by have := r.un; omega
theorem EqV.int {K : PySem.W.Frag} {H : Hp} (i j : Int) : EqV K H (.int i) (.int j) (PyData.eqv (.int i) (.int j)) := .dat (.int i) (.int j) rfl rfl
end
end L2

/-! puts that were spoilt: lists of numbers and of other things -/
namespace TR
open PySem L2
/-- is it an int (a truth is one) -/
noncomputable def intV : V → Bool
  | .int _ => true
  | .bl _ => true
  | _ => false
noncomputable def blV : V → Bool
  | .bl _ => true
  | _ => false
noncomputable def okV : V → Bool
  | .int i => decide (0 ≤ i)
  | _ => false
noncomputable def iofV : V → Int
  | .int i => i
  | _ => 0
/-- of any of the odd kinds -/
noncomputable def OdE (Z : Hp) (v : V) : Prop := ∃ n, OddV Z v n
section
variable {K : PySem.W.Frag} {Z H Z' H' : Hp} {v : V} {n : String} {Q : VK}
theorem OdE.ex (h : OdE Z v) (e : Ex Z Z') : OdE Z' v := by
  obtain ⟨n, h⟩ := h
  exact ⟨n, h.ex e⟩
theorem OdE.int (i : Int) : OdE Z (.int i) := ⟨_, .int i⟩
theorem OdE.bl (i : Bool) : OdE Z (.bl i) := ⟨_, .bl i⟩
theorem intV_num (h : intV v = true) : ∃ n, NumX v n := by
  cases v with
  | int i => exact ⟨i, .int i⟩
  | bl b => exact ⟨_, .bl b⟩
  | _ => cases h
theorem s_isiOI (h : OdE Z v) (e : Ex Z H) (q : Q (.bl (intV v)) H) : rIsi K [v, .ty "int"] H Q := by
  obtain ⟨n, h⟩ := h
  cases h with
  | int i => exact s_isiI k_ii q
  | bl b => exact s_isiB k_bi q
  | str x _ => exact s_isiS k_si q
  | non => exact s_isiN k_ni q
  | lst h => exact s_isiL (sq_of (e _ _ h)) k_li q
  | tup h => exact s_isiT (st_of (e _ _ h)) k_ti q
  | dct h => exact s_isiDk (e _ _ h) k_di q
end
/-- the thing that is handed: a list of such, or something else -/
inductive ThV (Z : Hp) : V → Option (List V) → Prop
  | lst {p : Addr} {us : List V} : Z p = some (.lst us) → (∀ u ∈ us, OdE Z u) → ThV Z (.ref p) (some us)
  | non : ThV Z .non none
  | int (i : Int) : ThV Z (.int i) none
  | str (x : Tx) : x.1.length ≤ 100000 → ThV Z (.str x.1) none
  | tup {p : Addr} {l : List Int} : Z p = some (.tup (l.map V.int)) → ThV Z (.ref p) none
  | dct {p : Addr} : Z p = some (.dK []) → ThV Z (.ref p) none
section
variable {K : PySem.W.Frag} {Z H Z' H' : Hp} {v : V} {n : String} {Q : VK} {th : Option (List V)}
theorem ThV.ex (h : ThV Z v th) (e : Ex Z Z') : ThV Z' v th := by
  cases h with
  | lst h g => exact .lst (e _ _ h) fun u hu => (g u hu).ex e
  | non => exact .non
  | int i => exact .int i
  | str x h => exact .str x h
  | tup h => exact .tup (e _ _ h)
  | dct h => exact .dct (e _ _ h)
theorem k_dl : kitB "dict" "list" = some false := by decide +kernel
theorem s_isiTh (h : ThV Z v th) (e : Ex Z H) (q : Q (.bl th.isSome) H) : rIsi K [v, .ty "list"] H Q := by
  cases h with
  | lst h _ => exact s_isiL (sq_of (e _ _ h)) k_ll q
  | non => exact s_isiN k_nl q
  | int i => exact s_isiI k_il q
  | str x _ => exact s_isiS k_sl q
  | tup h => exact s_isiT (st_of (e _ _ h)) k_tl q
  | dct h => exact s_isiDk (e _ _ h) k_dl q
end
/-- the put that a thing is -/
noncomputable def putL (n : Nat) (more : Int) : Option (List V) → Option (List Int)
  | none => none
  | some us => if us.length = n ∧ us.all okV = true ∧ (us.map iofV).sum = more then some (us.map iofV) else none
theorem putL_eq {n : Nat} {more : Int} {us : List V} : putL n more (some us) = if us.length = n ∧ us.all okV = true ∧ (us.map iofV).sum = more then some (us.map iofV) else none := rfl
theorem ok_ints : ∀ {us : List V}, us.all okV = true → us = (us.map iofV).map V.int
  | [], _ => rfl
  | u :: us, h => by
    rw [List.all_cons, Bool.and_eq_true] at h
    have e := ok_ints h.2
    cases u with
    | int i =>
      show _ :: us = V.int i :: _
      rw [← e]
    | _ => cases h.1
theorem ok_pos {us : List V} (h : us.all okV = true) : ∀ x ∈ us.map iofV, 0 ≤ x := fun x hx => by
  obtain ⟨u, hu, rfl⟩ := List.mem_map.mp hx
  have := List.all_eq_true.mp h u hu
  cases u with
  | int i => exact of_decide_eq_true this
  | _ => cases this
theorem putL_some {n : Nat} {more : Int} {th : Option (List V)} {p : List Int} (h : putL n more th = some p) : ∃ us, th = some us ∧ us = p.map V.int ∧ p.length = n ∧ (∀ x ∈ p, 0 ≤ x) ∧ p.sum = more := by
  cases th with
  | none => cases h
  | some us =>
    rw [putL_eq] at h
    by_cases c : us.length = n ∧ us.all okV = true ∧ (us.map iofV).sum = more
    · rw [if_pos c] at h
      cases h
      exact ⟨us, rfl, ok_ints c.2.1, by rw [List.length_map]; exact c.1, ok_pos c.2.1, c.2.2⟩
    · rw [if_neg c] at h
      cases h
theorem putL_of {n : Nat} {more : Int} {us : List V} (h : us.length = n) (g : us.all okV = true) (e : (us.map iofV).sum = more) : putL n more (some us) = some (us.map iofV) := by
  rw [putL_eq, if_pos ⟨h, g, e⟩]
theorem putL_no {n : Nat} {more : Int} {us : List V} (h : ¬ (us.length = n ∧ us.all okV = true ∧ (us.map iofV).sum = more)) : putL n more (some us) = none := by
  rw [putL_eq, if_neg h]
/-- is it a put of the greatest | least spill -/
noncomputable def isG (ms : List Int) (w more : Int) (th : Option (List V)) : Bool := match putL ms.length more th with
  | some p => decide (spillI (addI ms p) w = greatI ms w more)
  | none => false
noncomputable def isL (ms : List Int) (w more : Int) (th : Option (List V)) : Bool := match putL ms.length more th with
  | some p => decide (spillI (addI ms p) w = leastI ms w more)
  | none => false
section
variable {K : PySem.W.Frag} {σ : L2.St} {H Z : Hp} {te : TE} {Q : VK} {g : TG} {vs : List Nat} {a : Addr} {us : List V}
theorem rg_tk {β : Type} (xs : List β) : ∀ k, (List.range k).filterMap (fun i => xs[i]?) = xs.take k
  | 0 => rfl
  | k + 1 => by
    rw [List.range_succ, List.filterMap_append, rg_tk xs k, List.take_add_one]
    congr 1
    all_goals (cases h : xs[k]? <;> simp [List.filterMap, h])
/-- truths of the things of a list of any things -/
theorem c_boolsV (f : V → Bool) (zh : Ex Z H) (h1 : H a = some (.lst us)) (hz : us.length ≤ 40000)
    (turn : ∀ u Z1 H1, u ∈ us → T [] Z H Z1 H1 → ∀ A : VK, (∀ Z3 H3, T [] Z1 H1 Z3 H3 → A (.bl (f u)) H3) → g u (wipe σ vs) H1 fun σ2 H2 => wipe σ2 vs = wipe σ vs ∧ te σ2 H2 A)
    (fin : ∀ D Z' H', H D = none → T [] Z H Z' H' → Z' D = some (.lst ((us.map f).map V.bl)) → Q (.ref D) H') : LcL K g tYes te vs σ (.ref a) H Q := by
  refine ⟨a, rfl, ⟨us, sq_of h1⟩, lcT (n := us.length) (M := []) (Z := Z) (fun _ => true) (fun _ _ _ => True) (fun i (x : Bool) y Z => (∃ b, us[i]? = some b ∧ x = f b) ∧ y = .bl x) (fun i x y Z1 Z2 e r => r) (fun _ _ _ _ _ _ _ _ => trivial) hz zh (fun _ h => absurd h List.not_mem_nil) trivial
    (fun i Z1 H1 hi t => ⟨us, us[i]'(by omega), sq_of (t.hp nm_nil h1), List.getElem?_eq_getElem (by omega)⟩) (fun Z1 H1 t => ⟨us, sq_of (t.hp nm_nil h1), Nat.le_refl _⟩) (fun i hi D Z1 H1 t nD mu _ v H2 hy A B hA hB => ?_) (fun D ys L' Z' H' nD t mu f1 _ hL pr' => ?_)⟩
  · obtain ⟨rfl, fv⟩ := hy
    have hv := fv _ (sq_of (t.hp nm_nil h1))
    rw [lc_yes]
    exact turn v Z1 H2 (List.mem_of_getElem? hv) t A fun Z3 H3 t3 => hA rfl (f v) _ Z3 H3 t3 trivial ⟨⟨v, hv, rfl⟩, rfl⟩
  · have e2 : L'.map Prod.snd = us.map f := by
      rw [kept_snd (xs := us) (f := f) (fun q hq => by
        obtain ⟨y, hy⟩ := paired_r pr' q hq
        exact hy.1), hL, filter_yes, rg_tk, List.take_length]
    have e3 : ys = (L'.map Prod.snd).map V.bl := by
      clear e2 hL f1
      induction pr' with
      | nil => rfl
      | cons a t ih => rw [List.map_cons, List.map_cons, ← ih, a.2]
    rw [e3, e2] at f1
    exact t_fzV mu t.zh f1 fun Z2 H2 t2 z2 => fin D Z2 H2 nD (t.step t2 (mm_cons (.inr nD) mm_nil)) z2
theorem t_newP {xs : List V} (z : Ex Z H) (h : xs.length ≤ 100000) (q : ∀ p Z' H', H p = none → T [] Z H Z' H' → Z' p = some (.lst xs) → Q (.ref p) H') : NewL xs H Q := ⟨sz_of h, fun p hp => q p _ _ hp (T.new hp z) upd_same⟩
theorem t_catP {xs ys : List V} {b : Addr} (z : Ex Z H) (h : H a = some (.lst xs)) (g : H b = some (.lst ys)) (hz : xs.length + ys.length ≤ 100000) (k : ∀ p Z' H', H p = none → T [] Z H Z' H' → Z' p = some (.lst (xs ++ ys)) → Q (.ref p) H') : rPlus (.ref a) (.ref b) H Q :=
  .inr (.inl ⟨a, b, xs, ys, rfl, rfl, h, g, sz_of hz, fun p hp => k p _ _ hp (T.new hp z) upd_same⟩)
end
noncomputable def rInsP : V → List V → Hp → VK → Prop := fun x vs H Q => ∃ (l : Addr) (xs : List V) (i : Int) (y : V), x = .ref l ∧ vs = [.int i, y] ∧ H l = some (.lst xs) ∧ xs.length < PySem.sizeLine ∧ 0 ≤ i ∧ i < 2 ^ 63 ∧ Q .non (upd H l (.lst (xs.take i.toNat ++ [y] ++ xs.drop i.toNat)))
theorem mt_insertP {X : Cx} : MtR X "list.insert" rInsP := mt_insert
section
variable {K : PySem.W.Frag} {H Z : Hp} {Q : VK} {R : Hp → Prop} {a p : Addr} {us : List V} {v : V} {i : Int}
theorem pt_list (z : Ex Z H) (h : H a = some (.lst us)) (q : ∀ p Z' H', H p = none → T [] Z H Z' H' → Z' p = none → H' p = some (.lst us) → Q (.ref p) H') : rList1 K [.ref a] H Q :=
  ⟨a, us, rfl, .inl (sq_of h), fun p hp => q p Z _ hp (T.newM hp z) (Ex.back z hp) upd_same⟩
theorem pt_set (z : Ex Z H) (h : H p = some (.lst us)) (zp : Z p = none) (hi : 0 ≤ i ∧ i < us.length) (k : ∀ Z' H', T [p] Z H Z' H' → Z' p = none → H' p = some (.lst (us.set i.toNat v)) → R H') : rSetL (.ref p) (.int i) v H R := by
  have t : T [p] Z H Z (upd H p (.lst (us.set i.toNat v))) := T.set ⟨zp, _, h⟩ z
  exact ⟨p, us, i, i.toNat, rfl, rfl, h, ixN_lt hi.1 hi.2, k Z _ t zp upd_same⟩
theorem pt_ins (z : Ex Z H) (h : H p = some (.lst us)) (zp : Z p = none) (hi : 0 ≤ i ∧ i < us.length) (hl : us.length < 100000) (k : ∀ Z' H', T [p] Z H Z' H' → Z' p = none → H' p = some (.lst (us.take i.toNat ++ [v] ++ us.drop i.toNat)) → Q .non H') : rInsP (.ref p) [.int i, v] H Q := by
  have t : T [p] Z H Z (upd H p (.lst (us.take i.toNat ++ [v] ++ us.drop i.toNat))) := T.set ⟨zp, _, h⟩ z
  have e63 : (2 : Int) ^ 63 = 9223372036854775808 := by decide
  exact ⟨p, us, i, v, rfl, rfl, h, sz_lt (by omega), hi.1, by omega, k Z _ t zp upd_same⟩
theorem pt_pop (z : Ex Z H) (h : H p = some (.lst us)) (zp : Z p = none) (hi : 0 ≤ i ∧ i < us.length) (hl : us.length < 100000) (k : ∀ u Z' H', us[i.toNat]? = some u → T [p] Z H Z' H' → Z' p = none → H' p = some (.lst (us.eraseIdx i.toNat)) → Q u H') : rPopAt (.ref p) [.int i] H Q := by
  have e63 : (2 : Int) ^ 63 = 9223372036854775808 := by decide
  have lt : i.toNat < us.length := by omega
  have t : T [p] Z H Z (upd H p (.lst (us.eraseIdx i.toNat))) := T.set ⟨zp, _, h⟩ z
  refine ⟨p, us, i, i.toNat, us[i.toNat], rfl, rfl, h, by omega, by omega, (ixN_seq (ixN_lt hi.1 hi.2)).1, List.getElem?_eq_getElem lt, k _ Z _ (List.getElem?_eq_getElem lt) t zp upd_same⟩
end
theorem T.own {M : List Addr} {Z H Z' H' : Hp} {p : Addr} {o : HO} (t : T M Z H Z' H') (n : p ∉ M) (h : H p = some o ∧ Z p = none) : H' p = some o ∧ Z' p = none := ⟨t.hp n h.1, t.fr _ n h.2 ⟨_, h.1⟩⟩
theorem ode_set {Z : Hp} {us : List V} {i : Nat} {v : V} (h : ∀ u ∈ us, OdE Z u) (g : OdE Z v) : ∀ u ∈ us.set i v, OdE Z u := fun u hu => (List.mem_or_eq_of_mem_set hu).elim (h u) fun e => e ▸ g
theorem set_num {us : List V} {i j : Nat} {k : Int} {u : V} (h : us[j]? = some u) (g : intV u = true) : ∃ u3, (us.set i (.int k))[j]? = some u3 ∧ ∃ m, NumX u3 m := by
  by_cases c : i = j
  · subst c
    have hl := (List.getElem?_eq_some_iff.mp h).1
    exact ⟨.int k, List.getElem?_set_self hl, k, .int k⟩
  · rw [List.getElem?_set_ne c]
    exact ⟨u, h, intV_num g⟩
theorem s_par2 {i j : Nat} {t1 t2 : TE} {D : Ends} {σ : L2.St} {H : Hp} (q : t1 σ H fun x H1 => t2 σ H1 fun y H2 => D.nx ((σ.set i (some x)).set j (some y)) H2) : tPar i j (tCons t1 (tCons t2 tNil)) D σ H := by
  have e : tPar i j (tCons t1 (tCons t2 tNil)) D σ H = (t1 σ H fun x H1 => t2 σ H1 fun y H2 => ∃ v w, [x, y] = [v, w] ∧ D.nx ((σ.set i (some v)).set j (some w)) H2) := rfl
  rw [e]
  have f : (fun (x : V) (H1 : Hp) => t2 σ H1 fun y H2 => ∃ v w, [x, y] = [v, w] ∧ D.nx ((σ.set i (some v)).set j (some w)) H2) = fun x H1 => t2 σ H1 fun y H2 => D.nx ((σ.set i (some x)).set j (some y)) H2 := by
    funext x H1
    congr 1
    funext y H2
    exact propext ⟨fun ⟨v, w, e, h⟩ => by cases e; exact h, fun h => ⟨x, y, rfl, h⟩⟩
  rw [f]
  exact q
end TR
namespace L2
open PySem PySem.W PySem.Spec TR
section
variable {X : Cx}
/-- == of two lists of the very same things -/
noncomputable def rEqLS (K : PySem.W.Frag) : R2 := fun x y H Q => ∃ (a b : Addr) (us : List V), x = .ref a ∧ y = .ref b ∧ SqL K H a us ∧ SqL K H b us ∧ (∀ u ∈ us, EqV K H u u true) ∧ Q (.bl true) H
theorem op_eqLS (hu : X.A.units + 65 < cLine) : OpR X (compareOp .Eq) (rEqLS X.K) := by
  intro pins s σ H x y v u Q I rx ry h
  obtain ⟨a, b, us, rfl, rfl, hx, hy, he, q⟩ := h
  obtain rfl : v = Value.ref a := rx
  obtain rfl : u = Value.ref b := ry
  obtain ⟨its, rv, ht, _⟩ := I.list hx
  obtain ⟨its2, rw_, ht2, _⟩ := I.list hy
  have l1 : us.length = its.length := rv.length
  have l2 : us.length = its2.length := rw_.length
  refine SeqAt.eq_listAt (items := its.toArray) (items2 := its2.toArray) (e := fun _ => true) ht.isList ht2.isList (by simp; omega) (by omega) (fun j h1 h2 => ?_) ?_
  · obtain ⟨v, e1, r1⟩ := vals_get rv j (by simpa using h1)
    obtain ⟨w, e2, r2⟩ := vals_get rw_ j (by simpa using h2)
    rw [e1] at e2
    cases e2
    exact eqV_at I (by rw [Around.in1_units]; omega) (he v (List.mem_of_getElem? e1)) (by simpa using r1) (by simpa using r2)
  · refine ⟨.bl true, H, I, ?_, q⟩
    show Value.bool _ = Value.bool true
    congr 1
    rw [List.all_eq_true]
    intro _ _
    rfl
theorem eqLSA {K : PySem.W.Frag} (hk : X.K = K) (hu : X.A.units + 65 < cLine) : OpR X (compareOp .Eq) (rEqLS K) := hk ▸ op_eqLS hu
/-- == of a list with one without things -/
noncomputable def rEqNil (K : PySem.W.Frag) : R2 := fun x y H Q => ∃ (a b : Addr) (us : List V), x = .ref a ∧ y = .ref b ∧ SqL K H a us ∧ SqL K H b [] ∧ Q (.bl (decide (us.length = 0))) H
theorem op_eqNil (hu : X.A.units + 65 < cLine) : OpR X (compareOp .Eq) (rEqNil X.K) := by
  intro pins s σ H x y v u Q I rx ry h
  obtain ⟨a, b, us, rfl, rfl, hx, hy, q⟩ := h
  obtain rfl : v = Value.ref a := rx
  obtain rfl : u = Value.ref b := ry
  obtain ⟨its, rv, ht, _⟩ := I.list hx
  obtain ⟨its2, rw_, ht2, _⟩ := I.list hy
  have l1 : us.length = its.length := rv.length
  have l2 : 0 = its2.length := rw_.length
  by_cases c : us.length = 0
  · refine SeqAt.eq_listAt (items := its.toArray) (items2 := its2.toArray) (e := fun _ => true) ht.isList ht2.isList (by simp; omega) (by omega) (fun j h1 h2 => ?_) ?_
    · exact absurd h1 (by simp; omega)
    · rw [decide_eq_true c] at q
      refine ⟨.bl true, H, I, ?_, q⟩
      show Value.bool _ = Value.bool true
      congr 1
      rw [List.all_eq_true]
      intro _ _
      rfl
  · rw [decide_eq_false c] at q
    exact SeqAt.eq_list_lengthsAt (items := its.toArray) (items2 := its2.toArray) ht.isList ht2.isList (by simp; omega) (by omega) ⟨.bl false, H, I, rfl, q⟩
theorem eqNilA {K : PySem.W.Frag} (hk : X.K = K) (hu : X.A.units + 65 < cLine) : OpR X (compareOp .Eq) (rEqNil K) := hk ▸ op_eqNil hu
end
theorem OdE.eqv {K : PySem.W.Frag} {Z H : Hp} {v : V} (h : OdE Z v) (e : Ex Z H) : EqV K H v v true := by
  obtain ⟨n, h⟩ := h
  cases h with
  | int i =>
    have := EqV.int (K := K) (H := H) i i
    rwa [show PyData.eqv (.int i) (.int i) = true from (Py.eqv (α := Int) i i).mpr rfl] at this
  | bl b =>
    have := EqV.dat (K := K) (H := H) (Dp.bl b) (Dp.bl b) rfl rfl
    rwa [show PyData.eqv (.bool b) (.bool b) = true from (Py.eqv (α := Bool) b b).mpr rfl] at this
  | str x _ =>
    have := EqV.dat (K := K) (H := H) (Dp.str x.1) (Dp.str x.1) (shaped_of x (by decide)) (shaped_of x (by decide))
    rwa [show PyData.eqv (.str x.1) (.str x.1) = true from (Py.eqv (α := Tx) x x).mpr rfl] at this
  | non =>
    have := EqV.dat (K := K) (H := H) Dp.non Dp.non rfl rfl
    rwa [show PyData.eqv .none .none = true from (Py.eqv (α := Option Int) none none).mpr rfl] at this
  | lst _ => exact .same _
  | tup _ => exact .same _
  | dct _ => exact .same _
end L2
namespace TR
open PySem L2
theorem tupI_shaped (l : List Int) : SeqAt.shaped (.tuple (l.map PyData.int)) = true := by
  have h := shaped_of l (by decide)
  have e : Py.d l = .list (l.map PyData.int) := rfl
  rw [e] at h
  unfold SeqAt.shaped at h ⊢
  simp only [PyData.canLay0, PyData.depth] at h ⊢
  exact h
theorem tupI_eqv (l : List Int) : PyData.eqv (.tuple (l.map PyData.int)) (.tuple (l.map PyData.int)) = true := by
  have h := (Py.eqv l l).mpr rfl
  have e : Py.d l = .list (l.map PyData.int) := rfl
  rw [e, PyData.eqv] at h
  rw [PyData.eqv]
  exact h
theorem tupI_dp {K : PySem.W.Frag} {H : Hp} {p : Addr} {l : List Int} (h : H p = some (.tup (l.map V.int))) : Dp K H (.ref p) (.tuple (l.map PyData.int)) := by
  refine .tup (st_of h) ?_
  clear h
  induction l with
  | nil => exact .nil
  | cons a t ih => exact .cons (.int a) ih
end TR
namespace TR
open PySem L2
/-- a pair that was told, with its list: both stay -/
theorem two_new {Z H H' : Hp} {P T : Addr} {o u : HO} (z : Ex Z H) (nP : H P = none) (nT : H T = none) (ne : T ≠ P) (e : Ex H H') (fP : H' P = some o) (fT : H' T = some u) : ∃ Z', TR.T [] Z H Z' H' ∧ Z' P = some o ∧ Z' T = some u := by
  have t1 : TR.T [] Z H (upd Z P o) H' := TR.T.ofNew z nP e fP
  have zT : upd Z P o T = none := by rw [upd_ne ne]; exact Ex.back z nT
  have t2 : TR.T [T] (upd Z P o) H' (upd (upd Z P o) T u) H' := TR.T.fz t1.zh zT fT
  exact ⟨_, t1.step t2 (mm_1 (.inr nT)), by rw [upd_ne (Ne.symm ne)]; exact upd_same, upd_same⟩
theorem ints_ode {Z : Hp} {l : List Int} : ∀ u ∈ l.map V.int, OdE Z u := fun u hu => by
  obtain ⟨i, _, rfl⟩ := List.mem_map.mp hu
  exact .int i
theorem ints_okV {l : List Int} (h : ∀ x ∈ l, 0 ≤ x) : (l.map V.int).all okV = true := by
  rw [List.all_eq_true]
  intro u hu
  obtain ⟨i, hi, rfl⟩ := List.mem_map.mp hu
  exact decide_eq_true (h i hi)
theorem ints_iof {l : List Int} : (l.map V.int).map iofV = l := by
  rw [List.map_map]
  exact List.map_id' l
theorem putL_put {ms p : List Int} {more : Int} (h : Put ms p more) : (putL ms.length more (some (p.map V.int))).isSome = true := by
  obtain ⟨h1, h2, h3⟩ := h
  rw [putL_of (by rw [List.length_map]; exact h1) (ints_okV h2) (by rw [ints_iof]; exact h3)]
  rfl
theorem pt_rep {Z H : Hp} {Q : VK} {l : Addr} {v : V} {k : Int} (z : Ex Z H) (h : H l = some (.lst [v])) (hk : 0 ≤ k ∧ k ≤ 100000) (q : ∀ p Z' H', H p = none → TR.T [] Z H Z' H' → Z' p = some (.lst (List.replicate k.toNat v)) → Q (.ref p) H') : rMult (.ref l) (.int k) H Q :=
  n_rep h hk fun p H' n e f => q p _ H' n (TR.T.ofNew z n e f) upd_same
/-- a put's list at an address -/
noncomputable def PutAt (Z : Hp) (m : Nat) (v : V) : Prop := ∃ (p : Addr) (us : List V), v = .ref p ∧ Z p = some (.lst us) ∧ (∀ u ∈ us, OdE Z u) ∧ us.length ≤ m
theorem PutAt.ex {Z Z' : Hp} {m : Nat} {v : V} (e : Ex Z Z') (h : PutAt Z m v) : PutAt Z' m v := by
  obtain ⟨p, us, h1, h2, h3, h4⟩ := h
  exact ⟨p, us, h1, e _ _ h2, fun u hu => (h3 u hu).ex e, h4⟩
end TR

/-! words of T: zh (all of Z stands), zz, pz (what stands in Z), hz (in H), iz (data in Z), sqz, stz, nm (not among), nez, al, hd (the hand), la, mu, li, ls, mm, fz (was not there), tt (the whole way); t, ts: steps -/
open PySem L2 TR
local macro_rules | `(tactic| walk_at "zh") => `(tactic| first
  | assumption
  | exact T.zh (by assumption)
  | exact Ex.refl _
  | exact Hand.z (by assumption))
local macro_rules | `(tactic| walk_at "zhx") => `(tactic| first
  | exact T.zh (by assumption)
  | assumption
  | exact Hand.z (by assumption))
local macro_rules | `(tactic| walk_at "pz") => `(tactic| first
  | assumption
  | (apply T.pz; assumption; walk_at "pz"))
local macro_rules | `(tactic| walk_at "hz") => `(tactic| first
  | assumption
  | (apply T.hp; assumption; walk_at "nm"; walk_at "hz"))
local macro_rules | `(tactic| walk_at "nm") => `(tactic| first
  | exact nm_nil
  | assumption
  | (apply nm_cons; walk_at "nez"; walk_at "nm"))
local macro_rules | `(tactic| walk_at "nez") => `(tactic| first
  | assumption
  | (apply Ne.symm; assumption)
  | (apply ne_alF; assumption; walk_at "al")
  | (apply ne_alB; assumption; walk_at "al"))
local macro_rules | `(tactic| walk_at "al") => `(tactic| first
  | exact Hand.at (by assumption)
  | exact Mu.a (by assumption)
  | exact ⟨_, by assumption⟩
  | (apply T.all; assumption; walk_at "al"))
local macro_rules | `(tactic| walk_at "hd") => `(tactic| first
  | assumption
  | (apply Hand.tt; assumption; walk_at "nm"; walk_at "hd"))
local macro_rules | `(tactic| walk_at "ls") => `(tactic| first
  | assumption
  | (apply Ls.ofInts; walk_at "pz")
  | (apply Ls.tt; assumption; walk_at "ls"))
local macro_rules | `(tactic| walk_at "lsn") => `(tactic| first
  | (walk_at "ls")
  | (apply Ls.l1; walk_at "pz"; walk_at "iz"))
local macro_rules | `(tactic| walk_at "li") => `(tactic| first
  | (apply Ls.li; walk_at "lsn"; walk_at "zh"))
local macro_rules | `(tactic| walk_at "izc") => `(tactic| first
  | assumption
  | exact Ls.is (by assumption)
  | (apply Ik.tt; assumption; walk_at "izc"))
local macro_rules | `(tactic| walk_at "iz") => `(tactic| first
  | exact Ik.int _
  | exact Ik.bl _
  | walk_at "izc"
  | (apply Ik.nil; walk_at "pz")
  | (apply Ls.is; walk_at "lsn"))
local macro_rules | `(tactic| walk_at "sqz") => `(tactic| first
  | assumption
  | (apply sq_of; walk_at "pz"))
local macro_rules | `(tactic| walk_at "stz") => `(tactic| first
  | assumption
  | (apply st_of; walk_at "pz"))
/-! the old words, widened -/
local macro_rules | `(tactic| walk_at "hp") => `(tactic| first
  | assumption
  | exact T.zh (by assumption) _ _ (by assumption)
  | (apply ex_ap; walk_at "zhx"; walk_at "pz")
  | walk_at "hz"
  | (apply ex_ap; assumption; walk_at "hp"))
local macro_rules | `(tactic| walk_at "sq") => `(tactic| first
  | assumption
  | (apply sq_of; walk_at "hp")
  | (apply Ex.sq; walk_at "zhx"; walk_at "sqz")
  | focus (apply Ex.sq; rotate_left; assumption; walk_at "ex"))
local macro_rules | `(tactic| walk_at "st") => `(tactic| first
  | assumption
  | (apply st_of; walk_at "hp")
  | (apply Ex.st; walk_at "zhx"; walk_at "stz")
  | focus (apply Ex.st; rotate_left; assumption; walk_at "ex"))
local macro_rules | `(tactic| walk_at "isK") => `(tactic| first
  | (apply Ik.ex; walk_at "zhx"; walk_at "iz")
  | (apply Ik.nil; walk_at "hp"))
local macro_rules | `(tactic| walk_at "is") => `(tactic| first
  | exact Is.int _
  | assumption
  | (apply Ik.is; walk_at "isK"))
/-! steps -/
local macro_rules | `(tactic| walk_at "ig") => `(tactic| first
  | ((with_reducible apply ig_at); walk_at "at")
  | ((with_reducible apply ig_2); omega; intro _ _)
  | ((with_reducible apply ig_3); omega; intro _ _))
local macro_rules | `(tactic| walk_at "q") => `(tactic| first
  | ((with_reducible apply s_var); rfl)
  | (with_reducible (first | apply s_seq | apply s_asg | apply s_gname | apply s_cons | apply s_nil | apply s_call | apply s_op | apply s_c | apply s_if | apply s_test | apply s_ret | apply s_next | apply s_drop | apply s_bl | apply s_and | apply s_or | apply s_not | apply s_CB | apply s_tup | apply s_lst | apply s_tB | apply s_un | apply s_sl | apply s_np | apply s_part)))
local macro_rules | `(tactic| walk_at "t2") => `(tactic| first
  | (with_reducible (first | apply s_andV | apply s_notV | apply s_I0 | apply s_U | apply s_plusI | apply s_eqI | apply s_neI | apply s_eqS | apply s_int | apply s_BM | apply s_gsub | apply s_augS | apply s_ipI | apply s_forL | apply s_forR1 | apply s_lcL | apply s_lcZ))
  | ((with_reducible apply s_wp); rfl)
  | ((with_reducible apply s_mod); walk_at "od"; intro _ _)
  | ((with_reducible apply s_div); walk_at "od"; walk_at "od")
  | (walk_at "pow")
  | ((with_reducible apply s_pow); decide; walk_at "od")
  | ((with_reducible apply s_mulL); walk_at "od")
  | ((with_reducible apply s_mulR); walk_at "od")
  | ((with_reducible apply t_tup); walk_at "zh"; walk_at "od"; intro _ _ _ _ _ _)
  | ((with_reducible apply t_lst0); walk_at "zh"; intro _ _ _ _ _ _ _)
  | ((with_reducible apply t_lst); walk_at "zh"; walk_at "od"; intro _ _ _ _ _ _)
  | ((with_reducible apply drawT); walk_at "hd"; walk_at "od"; walk_at "od"; walk_at "od"; intro _ _ _ _ _ _ _)
  | ((with_reducible apply farT); walk_at "hd"; walk_at "od"; walk_at "od"; walk_at "od"; intro _ _ _ _ _ _ _)
  | ((with_reducible apply openT); walk_at "zh"; walk_at "sq"; walk_at "od"; walk_at "od"; intro _ _ _ _ _ _)
  | ((with_reducible apply s_sum); walk_at "sq")
  | ((with_reducible apply s_all); walk_at "sq")
  | ((with_reducible apply t_cat); walk_at "zh"; walk_at "li"; walk_at "li"; walk_at "len"; intro _ _ _ _ _ _)
  | ((with_reducible apply t_list); walk_at "zh"; walk_at "izc"; intro _ _ _ _ _ _)
  | ((with_reducible apply t_len); walk_at "zh"; walk_at "izc")
  | ((with_reducible apply s_lenM); walk_at "sq")
  | ((with_reducible apply s_lenL); walk_at "sq")
  | ((with_reducible apply s_gt2); walk_at "st")
  | ((with_reducible apply s_gt3); walk_at "st")
  | (with_reducible (first | apply s_max2 | apply s_min2 | apply s_abs | apply s_int1b))
  | ((with_reducible apply s_isiI); walk_at "kit")
  | ((with_reducible apply s_isiB); walk_at "kit")
  | ((with_reducible apply s_isiS); walk_at "kit")
  | ((with_reducible apply s_isiN); walk_at "kit")
  | ((with_reducible apply s_isiT); walk_at "st"; walk_at "kit")
  | ((with_reducible apply s_isiL); walk_at "sq"; walk_at "kit")
  | ((with_reducible apply s_tyL); walk_at "sq")
  | ((with_reducible apply ixGo); walk_at "sq"; walk_at "ig")
  | ((with_reducible apply ixGoT); walk_at "st"; walk_at "ig")
  | (with_reducible (first | apply i_t | apply i_f | apply i_nt | apply i_nf))
  | ((with_reducible apply i_dt); (focus (first | trivial | assumption | omega | rfl)))
  | ((with_reducible apply i_df); (focus (first | assumption | omega | exact (fun h => h rfl)))))
local macro_rules | `(tactic| walk_at "t") => `(tactic| first
  | walk_at "q"
  | walk_at "t2")
local macro_rules | `(tactic| walk_at "ts") => `(tactic| ((try dsimp only); (repeat walk_at "t")))
/-! as ts, but it stops at list(..) -/
local macro_rules | `(tactic| walk_at "tsL") => `(tactic| ((try dsimp only); (repeat ((fail_if_success (with_reducible apply at_list)); walk_at "t"))))

/-! words for yards (math/yt) -/
local macro_rules | `(tactic| walk_at "ty2") => `(tactic| first
  | walk_at "t2")
/-! words for dicts (math/dm) -/
local macro_rules | `(tactic| walk_at "al") => `(tactic| first
  | exact Hand.at (by assumption)
  | exact Mu.a (by assumption)
  | exact ⟨_, by assumption⟩
  | (apply T.all; assumption; walk_at "al"))
local macro_rules | `(tactic| walk_at "tv2") => `(tactic| first
  | ((with_reducible apply t_dnew); walk_at "zh"; intro _ _ _ _ _ _)
  | walk_at "ty2")
/-! words for classes and exceptions -/
local macro_rules | `(tactic| walk_at "tx2") => `(tactic| first
  | walk_at "tv2")
/-! words for tables -/
local macro_rules | `(tactic| walk_at "al") => `(tactic| first
  | exact Hand.at (by assumption)
  | exact Mu.a (by assumption)
  | exact ⟨_, by assumption⟩
  | (apply T.all; assumption; walk_at "al"))
local macro_rules | `(tactic| walk_at "tl2") => `(tactic| first
  | walk_at "tx2")
local macro_rules | `(tactic| walk_at "tl") => `(tactic| first
  | walk_at "q"
  | walk_at "tl2")
local macro_rules | `(tactic| walk_at "tls") => `(tactic| ((try dsimp only); (repeat walk_at "tl")))
local macro_rules | `(tactic| walk_at "tlN") => `(tactic| ((try dsimp only); (repeat ((fail_if_success (with_reducible apply at_newl)); walk_at "tl"))))

namespace Lw
open PySem L2 TR
open PySem.Spec PyProof.Rows

/-! ### the text -/
def topS (i : Nat) : Stmt := PySem.Challenge.pw_tailrooms_k63_puts_spoilt_anywhere.main.body.getD i (.Pass ⟨0, 0, 0, 0⟩)

structure Z (K : PySem.W.Frag) (mg : Str → Option Value) : Prop where
  b_max : mg "max" = none
  b_sum : mg "sum" = none
  b_zip : mg "zip" = none
  b_min : mg "min" = none
  b_isinstance : mg "isinstance" = none
  b_bool : mg "bool" = none
  b_int : mg "int" = none
  b_all : mg "all" = none
  b_len : mg "len" = none
  b_list : mg "list" = none
  b_sorted : mg "sorted" = none
  b_range : mg "range" = none
  b_abs : mg "abs" = none
  b_tuple : mg "tuple" = none

noncomputable abbrev s_rows_for : Stmt := topS 3

noncomputable abbrev s_spill : Stmt := topS 5

noncomputable abbrev s_spill_behind : Stmt := topS 9

noncomputable abbrev s_free_of : Stmt := topS 8

noncomputable abbrev s_least_spill : Stmt := topS 11

noncomputable abbrev s_is_whole : Stmt := topS 1

noncomputable abbrev s_is_put : Stmt := topS 12

noncomputable abbrev s_is_least : Stmt := topS 14

noncomputable abbrev s_needs_of : Stmt := topS 7

noncomputable abbrev s_greatest_spill : Stmt := topS 10

noncomputable abbrev s_is_greatest : Stmt := topS 13

noncomputable abbrev s_law_is_put : Stmt := topS 25

noncomputable abbrev s_law_least : Stmt := topS 23

noncomputable abbrev s_law_needs : Stmt := topS 21

noncomputable abbrev s_law_greatest : Stmt := topS 22

noncomputable abbrev s_law_spill : Stmt := topS 20

noncomputable abbrev s_law_right : Stmt := topS 26

noncomputable abbrev s_law_draw : Stmt := topS 17

noncomputable abbrev s_law_far : Stmt := topS 18

noncomputable abbrev s_law_step : Stmt := topS 24

noncomputable abbrev s_law_world : Stmt := topS 19

noncomputable abbrev s_law_open : Stmt := topS 16

noncomputable abbrev s_law : Stmt := topS 27

theorem sc_rows_for : FnScope ["many", "wide"] ["many", "wide"] (defScope s_rows_for) := ⟨rfl, rfl, rfl, by decide +kernel, rfl, by decide +kernel, by decide +kernel⟩

theorem sc_spill : FnScope ["sizes", "wide", "many"] ["sizes", "wide"] (defScope s_spill) := ⟨rfl, rfl, rfl, by decide +kernel, rfl, by decide +kernel, by decide +kernel⟩

theorem sc_spill_behind : FnScope ["sizes", "wide", "put", "many", "more"] ["sizes", "wide", "put"] (defScope s_spill_behind) := ⟨rfl, rfl, rfl, by decide +kernel, rfl, by decide +kernel, by decide +kernel⟩

theorem sc_free_of : FnScope ["many", "wide"] ["many", "wide"] (defScope s_free_of) := ⟨rfl, rfl, rfl, by decide +kernel, rfl, by decide +kernel, by decide +kernel⟩

theorem sc_least_spill : FnScope ["sizes", "wide", "more", "put", "left", "many"] ["sizes", "wide", "more"] (defScope s_least_spill) := ⟨rfl, rfl, rfl, by decide +kernel, rfl, by decide +kernel, by decide +kernel⟩

theorem sc_is_whole : FnScope ["thing"] ["thing"] (defScope s_is_whole) := ⟨rfl, rfl, rfl, by decide +kernel, rfl, by decide +kernel, by decide +kernel⟩

theorem sc_is_put : FnScope ["sizes", "more", "thing", "one"] ["sizes", "more", "thing"] (defScope s_is_put) := ⟨rfl, rfl, rfl, by decide +kernel, rfl, by decide +kernel, by decide +kernel⟩

theorem sc_is_least : FnScope ["sizes", "wide", "more", "thing"] ["sizes", "wide", "more", "thing"] (defScope s_is_least) := ⟨rfl, rfl, rfl, by decide +kernel, rfl, by decide +kernel, by decide +kernel⟩

theorem sc_needs_of : FnScope ["sizes", "wide", "needs", "room"] ["sizes", "wide"] (defScope s_needs_of) := ⟨rfl, rfl, rfl, by decide +kernel, rfl, by decide +kernel, by decide +kernel⟩

theorem sc_greatest_spill : FnScope ["sizes", "wide", "more", "put", "needs", "left", "need", "room", "rest"] ["sizes", "wide", "more"] (defScope s_greatest_spill) := ⟨rfl, rfl, rfl, by decide +kernel, rfl, by decide +kernel, by decide +kernel⟩

theorem sc_is_greatest : FnScope ["sizes", "wide", "more", "thing"] ["sizes", "wide", "more", "thing"] (defScope s_is_greatest) := ⟨rfl, rfl, rfl, by decide +kernel, rfl, by decide +kernel, by decide +kernel⟩

theorem sc_law_is_put : FnScope ["_law_sizes", "_law_more", "_law_thing", "_law_one"] ["_law_sizes", "_law_more", "_law_thing"] (defScope s_law_is_put) := ⟨rfl, rfl, rfl, by decide +kernel, rfl, by decide +kernel, by decide +kernel⟩

theorem sc_law_least : FnScope ["_law_sizes", "_law_wide", "_law_more", "_law_rows", "_law_free", "_law_many"] ["_law_sizes", "_law_wide", "_law_more"] (defScope s_law_least) := ⟨rfl, rfl, rfl, by decide +kernel, rfl, by decide +kernel, by decide +kernel⟩

theorem sc_law_needs : FnScope ["_law_sizes", "_law_wide", "_law_many"] ["_law_sizes", "_law_wide"] (defScope s_law_needs) := ⟨rfl, rfl, rfl, by decide +kernel, rfl, by decide +kernel, by decide +kernel⟩

theorem sc_law_greatest : FnScope ["_law_sizes", "_law_wide", "_law_more", "_law_rows", "_law_needs_here", "_law_left", "_law_need", "_law_many"] ["_law_sizes", "_law_wide", "_law_more"] (defScope s_law_greatest) := ⟨rfl, rfl, rfl, by decide +kernel, rfl, by decide +kernel, by decide +kernel⟩

theorem sc_law_spill : FnScope ["_law_sizes", "_law_wide", "_law_put", "_law_many", "_law_one"] ["_law_sizes", "_law_wide", "_law_put"] (defScope s_law_spill) := ⟨rfl, rfl, rfl, by decide +kernel, rfl, by decide +kernel, by decide +kernel⟩

theorem sc_law_right : FnScope ["_law_sizes", "_law_wide", "_law_more", "_law_thing", "_law_due", "_law_rows", "_law_handed", "_law_kept", "_law_told", "_law_one"] ["_law_sizes", "_law_wide", "_law_more", "_law_thing"] (defScope s_law_right) := ⟨rfl, rfl, rfl, by decide +kernel, rfl, by decide +kernel, by decide +kernel⟩

theorem sc_law_draw : FnScope ["_law_hand", "_law_many", "_law_got", "_law_k", "_law_number"] ["_law_hand", "_law_many"] (defScope s_law_draw) := ⟨rfl, rfl, rfl, by decide +kernel, rfl, by decide +kernel, by decide +kernel⟩

theorem sc_law_far : FnScope ["_law_hand", "_law_many", "_law_number", "_law_k"] ["_law_hand", "_law_many"] (defScope s_law_far) := ⟨rfl, rfl, rfl, by decide +kernel, rfl, by decide +kernel, by decide +kernel⟩

theorem sc_law_step : FnScope ["_law_hand", "_law_put", "_law_way", "_law_at", "_law_other", "_law_many"] ["_law_hand", "_law_put"] (defScope s_law_step) := ⟨rfl, rfl, rfl, by decide +kernel, rfl, by decide +kernel, by decide +kernel⟩

theorem sc_law_world : FnScope ["_law_hand", "_law_wide", "_law_way", "_law_more", "_law_sizes", "_law_k", "_law_many"] ["_law_hand"] (defScope s_law_world) := ⟨rfl, rfl, rfl, by decide +kernel, rfl, by decide +kernel, by decide +kernel⟩

theorem sc_law_open : FnScope ["_law_script", "_law_place", "_law_cells", "_law_at", "_law_digits", "_law_cell"] ["_law_script", "_law_place"] (defScope s_law_open) := ⟨rfl, rfl, rfl, by decide +kernel, rfl, by decide +kernel, by decide +kernel⟩

theorem sc_law : FnScope ["_law_script", "_law_place", "_law_hand", "_law_which", "_law_sizes", "_law_wide", "_law_more", "_law_high", "_law_low", "_law_puts", "_law_put", "_law_step_here", "_law_thing"] ["_law_script"] (defScope s_law) := ⟨rfl, rfl, rfl, by decide +kernel, rfl, by decide +kernel, by decide +kernel⟩

section
variable {P : Program} {w : World} {K : PySem.W.Frag} {mg : Str → Option Value} {base : Heap}

/-! ### rows_for -/
noncomputable def sp_rows_for (K : PySem.W.Frag) : Sp := fun vs H Q _ => ∃ m w : Int, vs = [.int m, .int w] ∧ 0 < w ∧ w < 4611686018427387904 ∧ Q (.int (rowsI m w)) H
theorem has_rows_for (z : Z K mg) (F : FunAt K mg "rows_for" s_rows_for ["many", "wide"])  : Has P w K mg base "rows_for" 1 (sp_rows_for K) := by
  refine has_of F sc_rows_for (fun vs H Q E h => ?_) (fun f cdv A outer s H vs Q E hr h => ?_)
  · obtain ⟨m, w, rfl, _⟩ := h
    rfl
  · obtain ⟨m, w, rfl, w0, w1, q⟩ := h
    refine ⟨_, (pss_one (ps_ret (pe_callB (id := "max") (call_max2A rfl) (by rfl) z.b_max (by decide +kernel) (pa_cons pe_int (pa_cons (pe_op op_fdivW (pe_op op_sub (pe_op op_plusA (pv 0) (pv 1)) pe_int) (pv 1)) pa_nil))))), ?_⟩
    walk_at "cx"
    walk_at "ss"
    exact q

/-! ### spill -/
noncomputable def sp_spill (K : PySem.W.Frag) : Sp := fun vs H Q _ => ∃ (a : Addr) (ns : List Int) (w : Int), vs = [.ref a, .int w] ∧ SqL K H a (ns.map V.int) ∧ ns.length ≤ 40000 ∧ 0 < w ∧ w < 4611686018427387904 ∧ ∀ H', Ex H H' → Q (.int (spillI ns w)) H'
theorem has_spill (z : Z K mg) (F : FunAt K mg "spill" s_spill ["sizes", "wide"]) (h_rows_for : Has P w K mg base "rows_for" 1 (sp_rows_for K)) : Has P w K mg base "spill" 2 (sp_spill K) := by
  refine has_of F sc_spill (fun vs H Q E h => ?_) (fun f cdv A outer s H vs Q E hr h => ?_)
  · obtain ⟨a, ns, w, rfl, _⟩ := h
    rfl
  · obtain ⟨a, ns, w, rfl, hs, hl, w0, w1, q⟩ := h
    refine ⟨_, (pss_one (ps_ret (pe_callB (id := "sum") (sumA (K := K) rfl rfl) (by rfl) z.b_sum (by decide +kernel) (pa_cons (pe_lc (own := [("many", 2)]) (g := gName 2) (tt := tYes) rfl sc_spill.nd (piL (K := K) rfl (pv 0)) (blkOk_by (own := [("many", 2)]) (N := ["sizes", "wide", "many"]) (sc := defScope s_spill) (by decide +kernel)) (fun _ _ _ _ _ => (pg_name (i := 2) sc_spill.nd rfl (by first | exact Or.inl rfl | exact Or.inr rfl))) (fun _ _ _ _ _ => pts_nil) (fun _ _ _ _ _ => (pe_op op_sub (pe_callH h_rows_for (by decide) hr rfl (pa_cons (pv 2) (pa_cons (pv 1) pa_nil))) pe_int))) pa_nil)))), ?_⟩
    walk_at "cx"
    walk_at "ss"
    refine u_mapLI V.int ns (fun m => rowsI m w - 1) hs hl (fun m hm H1 e1 A hA => ?_) (fun D H1 n1 e1 f1 => ?_)
    · walk_at "ss"
      refine ⟨_, _, rfl, w0, w1, ?_⟩
      walk_at "ss"
      exact hA _ (Ex.refl _)
    · walk_at "ss"
      exact q _ e1

/-! ### spill_behind -/
noncomputable def sp_spill_behind (K : PySem.W.Frag) : Sp := fun vs H Q _ => ∃ (a b : Addr) (ms p : List Int) (w : Int), vs = [.ref a, .int w, .ref b] ∧ SqL K H a (ms.map V.int) ∧ SqL K H b (p.map V.int) ∧ p.length = ms.length ∧ ms.length ≤ 30000 ∧ 0 < w ∧ w ≤ 1000 ∧ ∀ H', Ex H H' → Q (.int (spillI (addI ms p) w)) H'
theorem has_spill_behind (z : Z K mg) (F : FunAt K mg "spill_behind" s_spill_behind ["sizes", "wide", "put"]) (h_spill : Has P w K mg base "spill" 2 (sp_spill K)) : Has P w K mg base "spill_behind" 3 (sp_spill_behind K) := by
  refine has_of F sc_spill_behind (fun vs H Q E h => ?_) (fun f cdv A outer s H vs Q E hr h => ?_)
  · obtain ⟨a, b, ms, p, w, rfl, _⟩ := h
    rfl
  · obtain ⟨a, b, ms, p, w, rfl, ha, hb, hl, hz, w0, w1, q⟩ := h
    refine ⟨_, (pss_one (ps_ret (pe_callH h_spill (by decide) hr rfl (pa_cons (pe_lc (own := [("many", 3), ("more", 4)]) (g := gTup K 2 (gCons (gName 3) (gCons (gName 4) gNil))) (tt := tYes) rfl sc_spill_behind.nd (pi_zip (by rfl) z.b_zip (pa_cons (pv 0) (pa_cons (pv 2) pa_nil))) (blkOk_by (own := [("many", 3), ("more", 4)]) (N := ["sizes", "wide", "put", "many", "more"]) (sc := defScope s_spill_behind) (by decide +kernel)) (fun _ _ _ _ _ => (pg_tup rfl (pgs_cons (pg_name (i := 3) sc_spill_behind.nd rfl (by first | exact Or.inl rfl | exact Or.inr rfl)) (pgs_cons (pg_name (i := 4) sc_spill_behind.nd rfl (by first | exact Or.inl rfl | exact Or.inr rfl)) pgs_nil)))) (fun _ _ _ _ _ => pts_nil) (fun _ _ _ _ _ => (pe_op op_plusA (pv 3) (pv 4)))) (pa_cons (pv 1) pa_nil))))), ?_⟩
    walk_at "cx"
    walk_at "ss"
    refine u_mapZI (fun x y => x + y) ha hb hl.symm (by omega) (fun x y hx hy T H1 e1 fT A hA => ?_) (fun D H1 n1 e1 f1 => ?_)
    · refine s_gt2 (st_of fT) ?_
      walk_at "ss"
      exact hA _ (Ex.refl _)
    walk_at "ss"
    refine ⟨D, addI ms p, w, rfl, sq_of f1, by rw [addI_len hl]; omega, w0, by omega, fun H2 e2 => ?_⟩
    exact q _ (e1.trans e2)

/-! ### free_of -/
noncomputable def sp_free_of (K : PySem.W.Frag) : Sp := fun vs H Q _ => ∃ m w : Int, vs = [.int m, .int w] ∧ 0 < w ∧ w ≤ 1000 ∧ Q (.int (freeI m w)) H
theorem has_free_of (z : Z K mg) (F : FunAt K mg "free_of" s_free_of ["many", "wide"]) (h_rows_for : Has P w K mg base "rows_for" 1 (sp_rows_for K)) : Has P w K mg base "free_of" 2 (sp_free_of K) := by
  refine has_of F sc_free_of (fun vs H Q E h => ?_) (fun f cdv A outer s H vs Q E hr h => ?_)
  · obtain ⟨m, w, rfl, _⟩ := h
    rfl
  · obtain ⟨m, w, rfl, w0, w1, q⟩ := h
    refine ⟨_, (pss_one (ps_ret (pe_op op_sub (pe_op op_multA (pv 1) (pe_callH h_rows_for (by decide) hr rfl (pa_cons (pv 0) (pa_cons (pv 1) pa_nil)))) (pv 0)))), ?_⟩
    walk_at "cx"
    walk_at "ss"
    refine ⟨_, _, rfl, w0, by omega, ?_⟩
    walk_at "ss"
    exact q

/-! ### least_spill -/
noncomputable def sp_least_spill (K : PySem.W.Frag) : Sp := fun vs H Q _ => ∃ (a : Addr) (ms : List Int) (w more : Int), vs = [.ref a, .int w, .int more] ∧ SqL K H a (ms.map V.int) ∧ ms ≠ [] ∧ (∀ m ∈ ms, 0 ≤ m) ∧ ms.length ≤ 30000 ∧ 0 < w ∧ w ≤ 1000 ∧ 0 ≤ more ∧
  ∀ (T P : Addr) (p : List Int) (H' : Hp), H P = none → H T = none → T ≠ P → Ex H H' → H' P = some (.lst (p.map V.int)) → H' T = some (.tup [.int (leastI ms w more), .ref P]) → Put ms p more → spillI (addI ms p) w = leastI ms w more → Q (.ref T) H'
theorem has_least_spill (z : Z K mg) (F : FunAt K mg "least_spill" s_least_spill ["sizes", "wide", "more"]) (h_spill_behind : Has P w K mg base "spill_behind" 3 (sp_spill_behind K)) (h_free_of : Has P w K mg base "free_of" 2 (sp_free_of K)) : Has P w K mg base "least_spill" 4 (sp_least_spill K) := by
  refine has_of F sc_least_spill (fun vs H Q E h => ?_) (fun f cdv A outer s H vs Q E hr h => ?_)
  · obtain ⟨a, ms, w, more, rfl, _⟩ := h
    rfl
  · obtain ⟨a, ms, w, more, rfl, ha, hn, hm, hl, w0, w1, m0, q⟩ := h
    refine ⟨_, (pss_cons (ps_set (i := 3) sc_least_spill.nd rfl (by first | exact Or.inl rfl | exact Or.inr rfl) (pe_lst pa_nil))
        (pss_cons (ps_set (i := 4) sc_least_spill.nd rfl (by first | exact Or.inl rfl | exact Or.inr rfl) (pv 2))
        (pss_cons (ps_for PassesOwn.never rfl (piL (K := K) rfl (pv 0)) (pg_name (i := 5) sc_least_spill.nd rfl (by first | exact Or.inl rfl | exact Or.inr rfl)) (pss_cons (ps_expr (pe_bm PySem.F.plainAttrs_list PySem.F.slot_list_append PySem.F.type_list_append mt_append (pv 3) (pa_cons (pe_callB (id := "min") (call_min2A rfl) (by rfl) z.b_min (by decide +kernel) (pa_cons (pv 4) (pa_cons (pe_callH h_free_of (by decide) hr rfl (pa_cons (pv 5) (pa_cons (pv 1) pa_nil))) pa_nil))) pa_nil)))
        (pss_one (ps_set (i := 4) sc_least_spill.nd rfl (by first | exact Or.inl rfl | exact Or.inr rfl) (pe_op op_sub (pv 4) (pe_ix (ixA (K := K) rfl) (pv 3) (pe_un un_neg pe_int) (fun _ _ => rfl)))))))
        (pss_cons (ps_asg (pe_op op_plusA (pe_ix (ixA (K := K) rfl) (pv 3) pe_int (fun _ _ => rfl)) (pv 4)) (pg_sub (pv 3) pe_int set_list))
        (pss_one (ps_ret (pe_tup (pa_cons (pe_callH h_spill_behind (by decide) hr rfl (pa_cons (pv 0) (pa_cons (pv 1) (pa_cons (pv 3) pa_nil)))) (pa_cons (pv 3) pa_nil))))))))), ?_⟩
    walk_at "cx"
    walk_at "ss"
    rename_i p1 H1 n1 e1 f1
    have s1 := e1.sq ha
    obtain ⟨g1, g2⟩ := leastPut_facts w0 m0 hm hn
    refine u_forL (fun j σ H' => ∃ x1, σ = [some (.ref a), some (.int w), some (.int more), some (.ref p1), some (.int (leastSt (ms.take j) w more).2), x1] ∧ Ex H H' ∧ H' p1 = some (.lst ((leastSt (ms.take j) w more).1.map V.int)) ∧ (leastSt (ms.take j) w more).1.length = j) s1 ⟨_, rfl, e1, f1, rfl⟩ (fun j σ H' _ hh => ?_) (fun j v σ H' hx hh => ?_) (fun σ H' hh => ?_)
    · obtain ⟨_, _, e, _⟩ := hh
      exact e.sq ha
    · obtain ⟨x1, rfl, e2, f2, l2⟩ := hh
      obtain ⟨m, rfl, hk⟩ := at_ints hx
      have jl := (List.getElem?_eq_some_iff.mp hk).1
      have st : leastSt (ms.take (j + 1)) w more = leastF w (leastSt (ms.take j) w more) m := by
        unfold leastSt
        rw [List.take_add_one, hk]
        show List.foldl _ _ (ms.take j ++ [m]) = _
        rw [List.foldl_append]
        rfl
      generalize leastSt (ms.take j) w more = S at *
      walk_at "ss"
      refine ⟨m, w, rfl, w0, w1, ?_⟩
      walk_at "ss"
      refine n_app f2 (by rw [List.length_map]; omega) fun H3 m3 f3 => ?_
      rw [show S.1.map V.int ++ [V.int (min S.2 (freeI m w))] = (S.1 ++ [min S.2 (freeI m w)]).map V.int by rw [List.map_append]; rfl] at f3
      walk_at "ss"
      refine s_ixL (sq_of f3) (v := .int (min S.2 (freeI m w))) ?_ ?_
      · rw [List.map_append]
        exact atI_last _ _
      walk_at "ss"
      rw [st]
      exact ⟨_, rfl, e2.exm n1 m3, f3, by show (S.1 ++ [_]).length = _; rw [List.length_append, l2]; rfl⟩
    · obtain ⟨x1, rfl, e2, f2, l2⟩ := hh
      rw [List.length_map, List.take_length] at f2 l2
      have lp := List.length_pos_iff.mpr hn
      rw [List.length_map, List.take_length]
      have ep : leastPut ms w more = (leastSt ms w more).1.set 0 ((leastSt ms w more).1.getD 0 0 + (leastSt ms w more).2) := rfl
      generalize leastSt ms w more = S at *
      have hv : S.1[0]? = some (S.1.getD 0 0) := by
        rw [List.getD_eq_getElem?_getD, List.getElem?_eq_getElem (by omega)]
        rfl
      walk_at "ss"
      rename_i v hv2
      have ev : v = S.1.getD 0 0 := by
        have : S.1[0]? = some v := hv2
        rw [hv] at this
        exact (Option.some.inj this).symm
      refine n_setL (j := 0) f2 (ixN_lt (by decide) (by rw [List.length_map]; omega)) fun H3 m3 f3 => ?_
      have f3 : H3 p1 = some (.lst ((leastPut ms w more).map V.int)) := by
        rw [f3, ep, ev, List.map_set]
      have e3 := e2.exm n1 m3
      walk_at "ss"
      refine ⟨a, p1, ms, _, w, rfl, e3.sq ha, sq_of f3, g1.1, hl, w0, w1, fun H4 e4 => ?_⟩
      walk_at "ss"
      rename_i p5 H5 n5 e5 f5
      rw [g2] at f5
      have e45 := e4.trans e5
      exact q p5 p1 _ H5 n1 (Ex.back e3 (Ex.back e4 n5)) (ne_of_none (e4 _ _ f3) n5).symm (e3.trans e45) (e45 _ _ f3) f5 g1 g2

/-! ### is_whole -/
noncomputable def sp_is_whole (K : PySem.W.Frag) : Sp := fun vs H Q _ => ∃ (v : V) (n : String), vs = [v] ∧ KindV K H v n ∧ Q (.bl (wholeV v)) H
theorem has_is_whole (z : Z K mg) (F : FunAt K mg "is_whole" s_is_whole ["thing"])  : Has P w K mg base "is_whole" 1 (sp_is_whole K) := by
  refine has_of F sc_is_whole (fun vs H Q E h => ?_) (fun f cdv A outer s H vs Q E hr h => ?_)
  · obtain ⟨v, n, rfl, _⟩ := h
    rfl
  · obtain ⟨v, n, rfl, kv, q⟩ := h
    refine ⟨_, (pss_one (ps_ret (pe_and (pe_callB (id := "isinstance") (isiA (K := K) rfl) (by rfl) z.b_isinstance (by decide +kernel) (pa_cons (pv 0) (pa_cons (pe_bltn (v := .ty "int") (by rfl) z.b_int (by decide +kernel) rfl) pa_nil))) (pe_one (pe_not (pe_callB (id := "isinstance") (isiA (K := K) rfl) (by rfl) z.b_isinstance (by decide +kernel) (pa_cons (pv 0) (pa_cons (pe_bltn (v := .ty "bool") (by rfl) z.b_bool (by decide +kernel) rfl) pa_nil)))))))), ?_⟩
    walk_at "cx"
    cases kv with
    | dct h =>
      walk_at "ss"
      refine s_isiDk h k_di ?_
      walk_at "ss"
      exact q
    | _ =>
      walk_at "ss"
      exact q

/-! ### is_put -/
noncomputable def sp_is_put (K : PySem.W.Frag) : Sp := fun vs H Q _ => ∃ (a : Addr) (ms : List Int) (more : Int) (v : V) (th : Option (List V)) (Z : Hp), vs = [.ref a, .int more, v] ∧ SqL K H a (ms.map V.int) ∧ Ex Z H ∧ ThV Z v th ∧ (∀ us, th = some us → us.length ≤ 30000) ∧ ∀ Z' H', T [] Z H Z' H' → Q (.bl (putL ms.length more th).isSome) H'
theorem has_is_put (z : Z K mg) (F : FunAt K mg "is_put" s_is_put ["sizes", "more", "thing"]) (h_is_whole : Has P w K mg base "is_whole" 1 (sp_is_whole K)) : Has P w K mg base "is_put" 2 (sp_is_put K) := by
  refine has_of F sc_is_put (fun vs H Q E h => ?_) (fun f cdv A outer s H vs Q E hr h => ?_)
  · obtain ⟨_, _, _, _, _, _, rfl, _⟩ := h
    rfl
  · obtain ⟨a, ms, more, v, th, Z, rfl, sa, zh, ht, hl, q⟩ := h
    refine ⟨_, (pss_cons (ps_if (PW.pt (pw_or (pt_not (pt_val (pe_callB (id := "isinstance") (isiA (K := K) rfl) (by rfl) z.b_isinstance (by decide +kernel) (pa_cons (pv 2) (pa_cons (pe_bltn (v := .ty "list") (by rfl) z.b_list (by decide +kernel) rfl) pa_nil))))) (pw_or1 (pt_cmpR (neA (K := K) rfl hr.units) (pe_callB (id := "len") (lenA (K := K) rfl) (by rfl) z.b_len (by decide +kernel) (pa_cons (pv 2) pa_nil)) (pe_callB (id := "len") (lenA (K := K) rfl) (by rfl) z.b_len (by decide +kernel) (pa_cons (pv 0) pa_nil)) (nomark _))))) (pss_one (ps_ret pe_bl)) pss_nil)
        (pss_cons (ps_if (pt_not (pt_val (pe_callB (id := "all") (allA (K := K) rfl rfl) (by rfl) z.b_all (by decide +kernel) (pa_cons (pe_lc (own := [("one", 3)]) (g := gName 3) (tt := tYes) rfl sc_is_put.nd (piL (K := K) rfl (pv 2)) (blkOk_by (own := [("one", 3)]) (N := ["sizes", "more", "thing", "one"]) (sc := defScope s_is_put) (by decide +kernel)) (fun _ _ _ _ _ => (pg_name (i := 3) sc_is_put.nd rfl (by first | exact Or.inl rfl | exact Or.inr rfl))) (fun _ _ _ _ _ => pts_nil) (fun _ _ _ _ _ => (pe_and (pe_callH h_is_whole (by decide) hr rfl (pa_cons (pv 3) pa_nil)) (pe_one (pe_cmpR op_ge (pv 3) pe_int (nomark _)))))) pa_nil)))) (pss_one (ps_ret pe_bl)) pss_nil)
        (pss_one (ps_ret (pe_cmpR (eqA (K := K) rfl hr.units) (pe_callB (id := "sum") (sumA (K := K) rfl rfl) (by rfl) z.b_sum (by decide +kernel) (pa_cons (pv 2) pa_nil)) (pv 1) (nomark _)))))), ?_⟩
    walk_at "cx"
    walk_at "ts"
    refine s_isiTh ht zh ?_
    cases th with
    | none =>
      rw [show (none : Option (List V)).isSome = false from rfl]
      walk_at "ts"
      exact q Z H (T.refl zh)
    | some us =>
      rw [show (some us).isSome = true from rfl]
      cases ht with
      | lst hp ho =>
      rename_i p
      have sp := sq_of (K := K) (zh _ _ hp)
      have ul := hl us rfl
      walk_at "ts"
      refine i_d (fun e0 => ?_) (fun e0 => ?_)
      · walk_at "ts"
        have := q Z H (T.refl zh)
        rw [putL_no fun z => e0 (by omega)] at this
        exact this
      · walk_at "ts"
        refine c_boolsV okV zh (zh _ _ hp) (by omega) (fun u Z1 H1 hu t1 A hA => ?_) (fun D Z1 H1 nD t1 fD => ?_)
        · have ou := (ho u hu).ex t1.z
          have z1 := t1.zh
          obtain ⟨n, od⟩ := ou
          walk_at "ts"
          refine ⟨u, n, rfl, od.kind t1.zh, ?_⟩
          cases u with
          | int i =>
            rw [show wholeV (.int i) = true from rfl]
            walk_at "ts"
            exact hA Z1 H1 (T.refl z1)
          | _ =>
            walk_at "ts"
            exact hA Z1 H1 (T.refl z1)
        · have sD := sq_of (K := K) (t1.zh _ _ fD)
          have z1 := t1.zh
          have eall : (us.map okV).all id = us.all okV := by rw [List.all_map]; rfl
          walk_at "ts"
          rw [eall]
          cases ec : us.all okV with
          | false =>
            walk_at "ts"
            have := q Z1 H1 t1
            rw [putL_no fun z => by rw [ec] at z; exact Bool.noConfusion z.2.1] at this
            exact this
          | true =>
            have si : SqL K H1 p ((us.map iofV).map V.int) := by
              have := sq_of (K := K) (t1.zh _ _ (t1.z _ _ hp))
              rw [ok_ints ec] at this
              exact this
            walk_at "ts"
            have := q Z1 H1 t1
            by_cases c : (us.map iofV).sum = more
            · rw [putL_of (by omega) ec c] at this
              rw [decide_eq_true c]
              exact this
            · rw [putL_no fun z => c z.2.2] at this
              rw [decide_eq_false c]
              exact this

/-! ### is_least -/
noncomputable def sp_is_least (K : PySem.W.Frag) : Sp := fun vs H Q _ => ∃ (a : Addr) (ms : List Int) (w more : Int) (v : V) (th : Option (List V)) (Z : Hp), vs = [.ref a, .int w, .int more, v] ∧ Ls Z a ms ∧ Ex Z H ∧ ms ≠ [] ∧ (∀ m ∈ ms, 0 ≤ m) ∧ ms.length ≤ 1000 ∧ 0 < w ∧ w ≤ 1000 ∧ 0 ≤ more ∧ ThV Z v th ∧ (∀ us, th = some us → us.length ≤ 30000) ∧ ∀ Z' H', T [] Z H Z' H' → Q (.bl (isL ms w more th)) H'
theorem has_is_least (z : Z K mg) (F : FunAt K mg "is_least" s_is_least ["sizes", "wide", "more", "thing"]) (h_spill_behind : Has P w K mg base "spill_behind" 3 (sp_spill_behind K)) (h_least_spill : Has P w K mg base "least_spill" 4 (sp_least_spill K)) (h_is_put : Has P w K mg base "is_put" 2 (sp_is_put K)) : Has P w K mg base "is_least" 5 (sp_is_least K) := by
  refine has_of F sc_is_least (fun vs H Q E h => ?_) (fun f cdv A outer s H vs Q E hr h => ?_)
  · obtain ⟨_, _, _, _, _, _, _, rfl, _⟩ := h
    rfl
  · obtain ⟨a, ms, w, more, v, th, Z, rfl, ls, zh, m0, mp, ml, w0, w1, mo, ht, hl, q⟩ := h
    refine ⟨_, (pss_cons (ps_if (pt_not (pt_val (pe_callH h_is_put (by decide) hr rfl (pa_cons (pv 0) (pa_cons (pv 2) (pa_cons (pv 3) pa_nil)))))) (pss_one (ps_ret pe_bl)) pss_nil)
        (pss_one (ps_ret (pe_cmpR (eqA (K := K) rfl hr.units) (pe_callH h_spill_behind (by decide) hr rfl (pa_cons (pv 0) (pa_cons (pv 1) (pa_cons (pv 3) pa_nil)))) (pe_ix (ixA (K := K) rfl) (pe_callH h_least_spill (by decide) hr rfl (pa_cons (pv 0) (pa_cons (pv 1) (pa_cons (pv 2) pa_nil)))) pe_int (fun _ _ => rfl)) (nomark _))))), ?_⟩
    walk_at "cx"
    walk_at "ts"
    refine ⟨a, ms, more, v, th, Z, rfl, sq_of (zh _ _ ls.ints), zh, ht, hl, fun Z1 H1 t1 => ?_⟩
    have z1 := t1.zh
    have lsz := (ls.tt t1).ints
    cases ep : putL ms.length more th with
    | none =>
      rw [show (none : Option (List Int)).isSome = false from rfl]
      walk_at "ts"
      have := q Z1 H1 t1
      unfold isL at this
      rw [ep] at this
      exact this
    | some p =>
      rw [show (some p).isSome = true from rfl]
      obtain ⟨us, rfl, rfl, pl, pp, ps⟩ := putL_some ep
      have ht1 := ht.ex t1.z
      cases ht1 with
      | lst hp _ =>
      walk_at "ts"
      refine ⟨_, _, ms, p, w, rfl, sq_of (z1 _ _ lsz), sq_of (z1 _ _ hp), pl, by omega, w0, w1, fun H2 e2 => ?_⟩
      walk_at "ts"
      refine ⟨_, ms, w, more, rfl, sq_of ((z1.trans e2) _ _ lsz), m0, mp, by omega, w0, w1, mo, fun tp P0 p' H3 _ _ _ e3 _ fT _ _ => ?_⟩
      have sT := st_of (K := K) fT
      walk_at "ts"
      have := q Z1 H3 (t1.step (T.ofEx (e2.trans e3) z1) mm_nil)
      unfold isL at this
      rw [ep] at this
      exact this

/-! ### needs_of -/
noncomputable def sp_needs_of (K : PySem.W.Frag) : Sp := fun vs H Q _ => ∃ (a : Addr) (ms : List Int) (w : Int), vs = [.ref a, .int w] ∧ SqL K H a (ms.map V.int) ∧ ms.length ≤ 30000 ∧ 0 < w ∧ w ≤ 1000 ∧
  ∀ (D : Addr) (ws : List V) (H' : Hp), H D = none → Ex H H' → H' D = some (.lst ws) → Paired (Tp H') ws (sortP (needP ms w ms.length)) → Q (.ref D) H'
theorem has_needs_of (z : Z K mg) (F : FunAt K mg "needs_of" s_needs_of ["sizes", "wide"]) (h_rows_for : Has P w K mg base "rows_for" 1 (sp_rows_for K)) : Has P w K mg base "needs_of" 2 (sp_needs_of K) := by
  refine has_of F sc_needs_of (fun vs H Q E h => ?_) (fun f cdv A outer s H vs Q E hr h => ?_)
  · obtain ⟨a, ms, w, rfl, _⟩ := h
    rfl
  · obtain ⟨a, ms, w, rfl, ha, hl, w0, w1, q⟩ := h
    refine ⟨_, (pss_cons (ps_set (i := 2) sc_needs_of.nd rfl (by first | exact Or.inl rfl | exact Or.inr rfl) (pe_lst pa_nil))
        (pss_cons (ps_for PassesOwn.never rfl (pi_range1 (by rfl) z.b_range (pa_cons (pe_callB (id := "len") (lenA (K := K) rfl) (by rfl) z.b_len (by decide +kernel) (pa_cons (pv 0) pa_nil)) pa_nil)) (pg_name (i := 3) sc_needs_of.nd rfl (by first | exact Or.inl rfl | exact Or.inr rfl)) (pss_one (ps_if (pt_cmpR op_gt (pe_ix (ixA (K := K) rfl) (pv 0) (pv 3) (fun _ _ => rfl)) pe_int (nomark _)) (pss_one (ps_expr (pe_bm PySem.F.plainAttrs_list PySem.F.slot_list_append PySem.F.type_list_append mt_append (pv 2) (pa_cons (pe_tup (pa_cons (pe_op op_sub (pe_op op_plusA (pe_op op_multA (pv 1) (pe_callH h_rows_for (by decide) hr rfl (pa_cons (pe_ix (ixA (K := K) rfl) (pv 0) (pv 3) (fun _ _ => rfl)) (pa_cons (pv 1) pa_nil)))) pe_int) (pe_ix (ixA (K := K) rfl) (pv 0) (pv 3) (fun _ _ => rfl))) (pa_cons (pv 3) pa_nil))) pa_nil)))) pss_nil)))
        (pss_one (ps_ret (pe_callB (id := "sorted") (sortPA (K := K) rfl) (by rfl) z.b_sorted (by decide +kernel) (pa_cons (pv 2) pa_nil)))))), ?_⟩
    walk_at "cx"
    walk_at "ss"
    rename_i p1 H1 n1 e1 f1
    have s1 := e1.sq ha
    walk_at "ss"
    refine u_forR1 (fun i σ H' => ∃ (ys : List V) (x : Option V), σ = [some (.ref a), some (.int w), some (.ref p1), x] ∧ Ex H H' ∧ H' p1 = some (.lst ys) ∧ Paired (Tp H') ys (needP ms w i)) (by omega) ⟨[], _, rfl, e1, f1, .nil⟩ (fun i σ H' hi hh => ?_) (fun σ H' hh => ?_)
    · obtain ⟨ys, x, rfl, e2, f2, pr2⟩ := hh
      have s2 := e2.sq ha
      have il : i < ms.length := by omega
      have hg : ms[i]? = some (ms.getD i 0) := by
        rw [List.getD_eq_getElem?_getD, List.getElem?_eq_getElem il]
        rfl
      have yl := Paired.length pr2
      have nl := needP_len ms w i
      have ns := needP_succ ms w i
      generalize ms.getD i 0 = m at *
      have same : ∀ v, ms[((i : Nat) : Int).toNat]? = some v → v = m := fun v hv => by
        rw [show ((i : Int)).toNat = i by omega, hg] at hv
        exact (Option.some.inj hv).symm
      walk_at "ss"
      rename_i v1 hv1
      obtain rfl := same _ hv1
      refine i_d (fun hd => ?_) (fun hd => ?_)
      · rw [if_pos hd] at ns
        walk_at "ss"
        rename_i v2 hv2
        obtain rfl := same _ hv2
        refine ⟨_, _, rfl, w0, by omega, ?_⟩
        walk_at "ss"
        rename_i v3 hv3 p3 H3 n3 e3 f3
        obtain rfl := same _ hv3
        refine n_app (e3 _ _ f2) (by omega) fun H4 m4 f4 => ?_
        walk_at "ss"
        have np : p3 ≠ p1 := (ne_of_none f2 n3).symm
        refine ⟨_, _, rfl, (e2.trans e3).exm n1 m4, f4, ?_⟩
        rw [ns]
        exact paired_append (Paired.mapP pr2 fun v r h => Tp.exm (e3 _ _ f2) m4 (Tp.ex e3 h)) (.cons ⟨p3, rfl, by rw [m4 _ _ np f3]; unfold freeI; congr 4; omega⟩ .nil)
      · rw [if_neg hd] at ns
        walk_at "ss"
        exact ⟨ys, _, rfl, e2, f2, by rw [ns]; exact pr2⟩
    · obtain ⟨ys, x, rfl, e2, f2, pr2⟩ := hh
      rw [show ((ms.length : Int)).toNat = ms.length by omega] at pr2
      walk_at "ss"
      refine n_sortedP (sq_of f2) pr2 fun p ws H3 n3 e3 f3 pr3 => ?_
      exact q p ws H3 (Ex.back e2 n3) (e2.trans e3) f3 pr3

/-! ### greatest_spill -/
noncomputable def sp_greatest_spill (K : PySem.W.Frag) : Sp := fun vs H Q _ => ∃ (a : Addr) (ms : List Int) (w more : Int), vs = [.ref a, .int w, .int more] ∧ SqL K H a (ms.map V.int) ∧ ms ≠ [] ∧ (∀ m ∈ ms, 0 ≤ m) ∧ ms.length ≤ 30000 ∧ 0 < w ∧ w ≤ 1000 ∧ 0 ≤ more ∧
  ∀ (T P : Addr) (p : List Int) (H' : Hp), H P = none → H T = none → T ≠ P → Ex H H' → H' P = some (.lst (p.map V.int)) → H' T = some (.tup [.int (greatI ms w more), .ref P]) → Put ms p more → spillI (addI ms p) w = greatI ms w more → Q (.ref T) H'
theorem has_greatest_spill (z : Z K mg) (F : FunAt K mg "greatest_spill" s_greatest_spill ["sizes", "wide", "more"]) (h_spill_behind : Has P w K mg base "spill_behind" 3 (sp_spill_behind K)) (h_needs_of : Has P w K mg base "needs_of" 2 (sp_needs_of K)) : Has P w K mg base "greatest_spill" 4 (sp_greatest_spill K) := by
  refine has_of F sc_greatest_spill (fun vs H Q E h => ?_) (fun f cdv A outer s H vs Q E hr h => ?_)
  · obtain ⟨a, ms, w, more, rfl, _⟩ := h
    rfl
  · obtain ⟨a, ms, w, more, rfl, ha, hn, hm, hl, w0, w1, m0, q⟩ := h
    refine ⟨_, (pss_cons (ps_set (i := 3) sc_greatest_spill.nd rfl (by first | exact Or.inl rfl | exact Or.inr rfl) (pe_op op_multA (pe_lst (pa_cons pe_int pa_nil)) (pe_callB (id := "len") (lenA (K := K) rfl) (by rfl) z.b_len (by decide +kernel) (pa_cons (pv 0) pa_nil))))
        (pss_cons (ps_set (i := 4) sc_greatest_spill.nd rfl (by first | exact Or.inl rfl | exact Or.inr rfl) (pe_callH h_needs_of (by decide) hr rfl (pa_cons (pv 0) (pa_cons (pv 1) pa_nil))))
        (pss_cons (ps_set (i := 5) sc_greatest_spill.nd rfl (by first | exact Or.inl rfl | exact Or.inr rfl) (pv 2))
        (pss_cons (ps_for PassesOwn.never rfl (piL (K := K) rfl (pv 4)) (pg_tup rfl (pgs_cons (pg_name (i := 6) sc_greatest_spill.nd rfl (by first | exact Or.inl rfl | exact Or.inr rfl)) (pgs_cons (pg_name (i := 7) sc_greatest_spill.nd rfl (by first | exact Or.inl rfl | exact Or.inr rfl)) pgs_nil))) (pss_one (ps_if (pt_cmpR op_le (pv 6) (pv 5) (nomark _)) (pss_cons (ps_asg (pv 6) (pg_sub (pv 3) (pv 7) set_list))
        (pss_one (ps_set (i := 5) sc_greatest_spill.nd rfl (by first | exact Or.inl rfl | exact Or.inr rfl) (pe_op op_sub (pv 5) (pv 6))))) pss_nil)))
        (pss_cons (ps_set (i := 8) sc_greatest_spill.nd rfl (by first | exact Or.inl rfl | exact Or.inr rfl) pe_int)
        (Evl.pss_cut (ps_if (pt_cmpR (neA (K := K) rfl hr.units) (pv 4) (pe_lst pa_nil) (nomark _)) (pss_one (ps_set (i := 8) sc_greatest_spill.nd rfl (by first | exact Or.inl rfl | exact Or.inr rfl) (pe_ix (ixA (K := K) rfl) (pe_ix (ixA (K := K) rfl) (pv 4) pe_int (fun _ _ => rfl)) pe_int (fun _ _ => rfl)))) pss_nil)
        (pss_cons (ps_asg (pe_op op_plusA (pe_ix (ixA (K := K) rfl) (pv 3) (pv 8) (fun _ _ => rfl)) (pv 5)) (pg_sub (pv 3) (pv 8) set_list))
        (pss_one (ps_ret (pe_tup (pa_cons (pe_callH h_spill_behind (by decide) hr rfl (pa_cons (pv 0) (pa_cons (pv 1) (pa_cons (pv 3) pa_nil)))) (pa_cons (pv 3) pa_nil)))))))))))), ?_⟩
    walk_at "cx"
    walk_at "ss"
    rename_i p1 H1 n1 e1 f1
    have s1 := e1.sq ha
    walk_at "ss"
    refine n_rep f1 (by omega) fun p2 H2 n2 e2 f2 => ?_
    rw [Int.toNat_natCast, show List.replicate ms.length (V.int 0) = (List.replicate ms.length (0 : Int)).map V.int by rw [List.map_replicate]] at f2
    have s2 := e2.sq s1
    walk_at "ss"
    refine ⟨a, ms, w, rfl, s2, hl, w0, w1, fun D ws H3 n3 e3 f3 pr3 => ?_⟩
    obtain ⟨g1, g2, g3, g4, g5⟩ := greatPut_facts w0 m0 hm hn
    have ep : greatPut ms w more = (greatSt ms w more).1.set (restOf (sortP (needP ms w ms.length))).toNat ((greatSt ms w more).1.getD (restOf (sortP (needP ms w ms.length))).toNat 0 + (greatSt ms w more).2) := rfl
    have es : greatSt ms w more = (sortP (needP ms w ms.length)).foldl greatF (List.replicate ms.length 0, more) := rfl
    have nr : ∀ q ∈ sortP (needP ms w ms.length), NR ms w q := fun q hq => needP_all q (sortP_mem.mp hq)
    have n02 : H p2 = none := Ex.back e1 n2
    generalize hL : sortP (needP ms w ms.length) = L at *
    obtain ⟨S, hS⟩ : ∃ S : Nat → List Int × Int, ∀ j, S j = (L.take j).foldl greatF (List.replicate ms.length 0, more) := ⟨_, fun _ => rfl⟩
    have hs0 : S 0 = (List.replicate ms.length 0, more) := hS 0
    have f23 := e3 _ _ f2
    have wl := Paired.length pr3
    have nD : D ≠ p2 := (ne_of_none f2 n3).symm
    walk_at "ss"
    refine u_forL (fun j σ H' => ∃ x1 x2 x3, σ = [some (.ref a), some (.int w), some (.int more), some (.ref p2), some (.ref D), some (.int (S j).2), x1, x2, x3] ∧ Ex H H' ∧ ExM p2 H3 H' ∧ H' p2 = some (.lst ((S j).1.map V.int)) ∧ (S j).1.length = ms.length) (sq_of f3) ⟨_, _, _, by rw [hs0]; rfl, (e1.trans e2).trans e3, ExM.refl _, by rw [hs0]; exact f23, by rw [hs0]; exact List.length_replicate⟩ (fun j σ H' _ hh => ?_) (fun j v σ H' hx hh => ?_) (fun σ H' hh => ?_)
    · obtain ⟨_, _, _, _, _, m, _⟩ := hh
      exact sq_of (m _ _ nD f3)
    · obtain ⟨x1, x2, x3, rfl, e4, m4, f4, l4⟩ := hh
      obtain ⟨q, hq, t, rfl, ft⟩ := pair_get' pr3 hx
      obtain ⟨r, r1, r2, r3, r4⟩ := nr q (List.mem_of_getElem? hq)
      have st : S (j + 1) = greatF (S j) q := by
        rw [hS, hS, List.take_add_one, hq]
        show List.foldl _ _ (L.take j ++ [q]) = _
        rw [List.foldl_append]
        rfl
      have ft4 : H' t = some (.tup [.int q.1, .int q.2]) := m4 _ _ (fun z => by rw [z, f23] at ft; cases ft) ft
      refine s_gt2 (st_of ft4) ?_
      unfold greatF at st
      generalize S j = T at *
      walk_at "ss"
      refine i_d (fun hd => ?_) (fun hd => ?_)
      · rw [if_pos hd] at st
        walk_at "ss"
        refine n_setL (j := r) f4 (by rw [r2, List.length_map, l4]; exact (ixN_lt (by omega) (by omega)).trans (by rw [Int.toNat_natCast])) fun H5 m5 f5 => ?_
        walk_at "ss"
        refine ⟨_, _, _, by rw [st]; rfl, e4.exm n02 m5, m4.trans m5, by rw [f5, st, r2, Int.toNat_natCast, List.map_set], by rw [st]; show (List.set _ _ _).length = _; rw [List.length_set]; exact l4⟩
      · rw [if_neg hd] at st
        walk_at "ss"
        exact ⟨_, _, _, by rw [st]; rfl, e4, m4, by rw [st]; exact f4, by rw [st]; exact l4⟩
    · obtain ⟨x1, x2, x3, rfl, e4, m4, f4, l4⟩ := hh
      have hSe : S ws.length = greatSt ms w more := by rw [hS, wl, List.take_length, es]
      rw [hSe] at f4 l4 ⊢
      have fD : H' D = some (.lst ws) := m4 _ _ nD f3
      have prD : Paired (Tp H') ws L := by
        have h : ∀ v r, Tp H3 v r → Tp H' v r := fun v r h => Tp.exm f23 m4 h
        exact Paired.mapP pr3 h
      have iD : Is K H' (.ref D) L := Is.of_list (sq_of fD) (Paired.mapP prD fun v r h => Tp.is h)
      generalize greatSt ms w more = T at *
      have n03 : H D = none := Ex.back (e1.trans e2) n3
      walk_at "ss"
      refine s_cut (fun σ' H5 => ∃ x1 x2, σ' = [some (.ref a), some (.int w), some (.int more), some (.ref p2), some (.ref D), some (.int T.2), x1, x2, some (.int (restOf L))] ∧ Ex H' H5) ?_ ?_
      · walk_at "ss"
        rename_i p5 H5 n5 e5 f5
        refine i_d (fun hd => ?_) (fun hd => ?_)
        · obtain ⟨q0, L0, rfl⟩ : ∃ q0 L0, L = q0 :: L0 := by
            cases L with
            | nil => exact absurd rfl hd
            | cons q0 L0 => exact ⟨q0, L0, rfl⟩
          obtain ⟨v0, hv0, t0, rfl, ft0⟩ := pair_get prD (show (q0 :: L0)[0]? = some q0 from rfl)
          walk_at "ss"
          refine s_ixL (sq_of (e5 _ _ fD)) (atI_lt (by decide) hv0) ?_
          refine s_ixT (st_of (e5 _ _ ft0)) (atI_lt (by decide) rfl) ?_
          walk_at "ss"
          exact ⟨_, _, rfl, e5⟩
        · have hL0 : L = [] := Decidable.not_not.mp hd
          subst hL0
          walk_at "ss"
          exact ⟨_, _, rfl, e5⟩
      rintro σ' H5 ⟨x1, x2, rfl, e5⟩
      have f5 := e5 _ _ f4
      walk_at "ss"
      rename_i v hv
      have ev : v = T.1.getD (restOf L).toNat 0 := by
        rw [List.getD_eq_getElem?_getD, hv]
        rfl
      refine n_setL (j := (restOf L).toNat) f5 (ixN_lt g3 (by rw [List.length_map]; omega)) fun H6 m6 f6 => ?_
      have e6 := (e4.trans e5).exm n02 m6
      have f6 : H6 p2 = some (.lst ((greatPut ms w more).map V.int)) := by rw [f6, ep, ev, List.map_set]
      walk_at "ss"
      refine ⟨a, p2, ms, _, w, rfl, e6.sq ha, sq_of f6, g1.1, hl, w0, w1, fun H7 e7 => ?_⟩
      walk_at "ss"
      rename_i p8 H8 n8 e8 f8
      rw [g2] at f8
      have e78 := e7.trans e8
      exact q p8 p2 _ H8 n02 (Ex.back e6 (Ex.back e7 n8)) (ne_of_none (e7 _ _ f6) n8).symm (e6.trans e78) (e78 _ _ f6) f8 g1 g2

/-! ### is_greatest -/
noncomputable def sp_is_greatest (K : PySem.W.Frag) : Sp := fun vs H Q _ => ∃ (a : Addr) (ms : List Int) (w more : Int) (v : V) (th : Option (List V)) (Z : Hp), vs = [.ref a, .int w, .int more, v] ∧ Ls Z a ms ∧ Ex Z H ∧ ms ≠ [] ∧ (∀ m ∈ ms, 0 ≤ m) ∧ ms.length ≤ 1000 ∧ 0 < w ∧ w ≤ 1000 ∧ 0 ≤ more ∧ ThV Z v th ∧ (∀ us, th = some us → us.length ≤ 30000) ∧ ∀ Z' H', T [] Z H Z' H' → Q (.bl (isG ms w more th)) H'
theorem has_is_greatest (z : Z K mg) (F : FunAt K mg "is_greatest" s_is_greatest ["sizes", "wide", "more", "thing"]) (h_spill_behind : Has P w K mg base "spill_behind" 3 (sp_spill_behind K)) (h_greatest_spill : Has P w K mg base "greatest_spill" 4 (sp_greatest_spill K)) (h_is_put : Has P w K mg base "is_put" 2 (sp_is_put K)) : Has P w K mg base "is_greatest" 5 (sp_is_greatest K) := by
  refine has_of F sc_is_greatest (fun vs H Q E h => ?_) (fun f cdv A outer s H vs Q E hr h => ?_)
  · obtain ⟨_, _, _, _, _, _, _, rfl, _⟩ := h
    rfl
  · obtain ⟨a, ms, w, more, v, th, Z, rfl, ls, zh, m0, mp, ml, w0, w1, mo, ht, hl, q⟩ := h
    refine ⟨_, (pss_cons (ps_if (pt_not (pt_val (pe_callH h_is_put (by decide) hr rfl (pa_cons (pv 0) (pa_cons (pv 2) (pa_cons (pv 3) pa_nil)))))) (pss_one (ps_ret pe_bl)) pss_nil)
        (pss_one (ps_ret (pe_cmpR (eqA (K := K) rfl hr.units) (pe_callH h_spill_behind (by decide) hr rfl (pa_cons (pv 0) (pa_cons (pv 1) (pa_cons (pv 3) pa_nil)))) (pe_ix (ixA (K := K) rfl) (pe_callH h_greatest_spill (by decide) hr rfl (pa_cons (pv 0) (pa_cons (pv 1) (pa_cons (pv 2) pa_nil)))) pe_int (fun _ _ => rfl)) (nomark _))))), ?_⟩
    walk_at "cx"
    walk_at "ts"
    refine ⟨a, ms, more, v, th, Z, rfl, sq_of (zh _ _ ls.ints), zh, ht, hl, fun Z1 H1 t1 => ?_⟩
    have z1 := t1.zh
    have lsz := (ls.tt t1).ints
    cases ep : putL ms.length more th with
    | none =>
      rw [show (none : Option (List Int)).isSome = false from rfl]
      walk_at "ts"
      have := q Z1 H1 t1
      unfold isG at this
      rw [ep] at this
      exact this
    | some p =>
      rw [show (some p).isSome = true from rfl]
      obtain ⟨us, rfl, rfl, pl, pp, ps⟩ := putL_some ep
      have ht1 := ht.ex t1.z
      cases ht1 with
      | lst hp _ =>
      walk_at "ts"
      refine ⟨_, _, ms, p, w, rfl, sq_of (z1 _ _ lsz), sq_of (z1 _ _ hp), pl, by omega, w0, w1, fun H2 e2 => ?_⟩
      walk_at "ts"
      refine ⟨_, ms, w, more, rfl, sq_of ((z1.trans e2) _ _ lsz), m0, mp, by omega, w0, w1, mo, fun tp P0 p' H3 _ _ _ e3 _ fT _ _ => ?_⟩
      have sT := st_of (K := K) fT
      walk_at "ts"
      have := q Z1 H3 (t1.step (T.ofEx (e2.trans e3) z1) mm_nil)
      unfold isG at this
      rw [ep] at this
      exact this

/-! ### _law_is_put -/
noncomputable def sp_law_is_put (K : PySem.W.Frag) : Sp := fun vs H Q _ => ∃ (a : Addr) (ms : List Int) (more : Int) (v : V) (th : Option (List V)) (Z : Hp), vs = [.ref a, .int more, v] ∧ Ls Z a ms ∧ Ex Z H ∧ ThV Z v th ∧ (∀ us, th = some us → us.length ≤ 30000) ∧ Q (.bl (putL ms.length more th).isSome) H
theorem has_law_is_put (z : Z K mg) (F : FunAt K mg "_law_is_put" s_law_is_put ["_law_sizes", "_law_more", "_law_thing"])  : Has P w K mg base "_law_is_put" 1 (sp_law_is_put K) := by
  refine has_of F sc_law_is_put (fun vs H Q E h => ?_) (fun f cdv A outer s H vs Q E hr h => ?_)
  · obtain ⟨_, _, _, _, _, _, rfl, _⟩ := h
    rfl
  · obtain ⟨a, ms, more, v, th, Z, rfl, ls, zh, ht, hl, q⟩ := h
    refine ⟨_, (pss_cons (ps_if (PW.pt (pw_or (pt_not (pt_val (pe_callB (id := "isinstance") (isiA (K := K) rfl) (by rfl) z.b_isinstance (by decide +kernel) (pa_cons (pv 2) (pa_cons (pe_bltn (v := .ty "list") (by rfl) z.b_list (by decide +kernel) rfl) pa_nil))))) (pw_or1 (pt_cmpR (neA (K := K) rfl hr.units) (pe_callB (id := "len") (lenA (K := K) rfl) (by rfl) z.b_len (by decide +kernel) (pa_cons (pv 2) pa_nil)) (pe_callB (id := "len") (lenA (K := K) rfl) (by rfl) z.b_len (by decide +kernel) (pa_cons (pv 0) pa_nil)) (nomark _))))) (pss_one (ps_ret pe_bl)) pss_nil)
        (pss_cons (ps_for PassesOwn.never rfl (piL (K := K) rfl (pv 2)) (pg_name (i := 3) sc_law_is_put.nd rfl (by first | exact Or.inl rfl | exact Or.inr rfl)) (pss_one (ps_if (PW.pt (pw_or (pt_not (pt_val (pe_callB (id := "isinstance") (isiA (K := K) rfl) (by rfl) z.b_isinstance (by decide +kernel) (pa_cons (pv 3) (pa_cons (pe_bltn (v := .ty "int") (by rfl) z.b_int (by decide +kernel) rfl) pa_nil))))) (pw_or (pt_val (pe_callB (id := "isinstance") (isiA (K := K) rfl) (by rfl) z.b_isinstance (by decide +kernel) (pa_cons (pv 3) (pa_cons (pe_bltn (v := .ty "bool") (by rfl) z.b_bool (by decide +kernel) rfl) pa_nil)))) (pw_or1 (pt_cmpR op_lt (pv 3) pe_int (nomark _)))))) (pss_one (ps_ret pe_bl)) pss_nil)))
        (pss_one (ps_ret (pe_cmpR (eqA (K := K) rfl hr.units) (pe_callB (id := "sum") (sumA (K := K) rfl rfl) (by rfl) z.b_sum (by decide +kernel) (pa_cons (pv 2) pa_nil)) (pv 1) (nomark _)))))), ?_⟩
    walk_at "cx"
    have sa := sq_of (K := K) (zh _ _ ls.ints)
    walk_at "ts"
    refine s_isiTh ht zh ?_
    cases th with
    | none =>
      rw [show (none : Option (List V)).isSome = false from rfl]
      walk_at "ts"
      exact q
    | some us =>
      rw [show (some us).isSome = true from rfl]
      cases ht with
      | lst hp ho =>
      rename_i p
      have sp := sq_of (K := K) (zh _ _ hp)
      have ul := hl us rfl
      walk_at "ts"
      refine i_d (fun e0 => ?_) (fun e0 => ?_)
      · walk_at "ts"
        rw [putL_no fun z => e0 (by omega)] at q
        exact q
      · walk_at "ts"
        refine u_forL (fun i σ H' => ∃ x1, σ = [some (.ref a), some (.int more), some (.ref p), x1] ∧ H' = H ∧ (us.take i).all okV = true) sp ⟨_, rfl, rfl, rfl⟩ (fun i σ H1 _ hh => ?_) (fun i u σ H1 hu hh => ?_) (fun σ H1 hh => ?_)
        · obtain ⟨x1, _, rfl, _⟩ := hh
          exact sp
        · obtain ⟨x1, rfl, rfl, al⟩ := hh
          have mu := List.mem_of_getElem? hu
          have ou := ho u mu
          have e1 : (us.take (i + 1)).all okV = okV u := by
            rw [List.take_add_one, hu, List.all_append, al]
            simp
          have bad : okV u = false → Q (.bl false) H1 := fun h => by
            rw [putL_no fun z => by
              have := List.all_eq_true.mp z.2.1 u mu
              rw [h] at this
              cases this] at q
            exact q
          walk_at "ts"
          refine s_isiOI ou zh ?_
          cases u with
          | int i0 =>
            rw [show intV (.int i0) = true from rfl]
            walk_at "ts"
            refine i_d (fun hn => ?_) (fun hn => ?_)
            · walk_at "ts"
              exact bad (decide_eq_false (by omega))
            · walk_at "ts"
              exact ⟨_, rfl, rfl, by rw [e1]; exact decide_eq_true (by omega)⟩
          | bl b0 =>
            rw [show intV (.bl b0) = true from rfl]
            walk_at "ts"
            exact bad rfl
          | _ =>
            rw [show intV _ = false from rfl]
            walk_at "ts"
            exact bad rfl
        · obtain ⟨x1, rfl, rfl, al⟩ := hh
          rw [List.take_length] at al
          have si : SqL K H1 p ((us.map iofV).map V.int) := by
            have := sp
            rw [ok_ints al] at this
            exact this
          walk_at "ts"
          by_cases c : (us.map iofV).sum = more
          · rw [putL_of (by omega) al c] at q
            rw [decide_eq_true c]
            exact q
          · rw [putL_no fun z => c z.2.2] at q
            rw [decide_eq_false c]
            exact q

/-! ### _law_least -/
noncomputable def sp_law_least (K : PySem.W.Frag) : Sp := fun vs H Q _ => ∃ (a : Addr) (ms : List Int) (w more : Int), vs = [.ref a, .int w, .int more] ∧ SqL K H a (ms.map V.int) ∧ (∀ m ∈ ms, 0 ≤ m) ∧ ms.length ≤ 1000 ∧ 0 < w ∧ w ≤ 1000 ∧ ∀ H', Ex H H' → Q (.int (leastI ms w more)) H'
theorem has_law_least (z : Z K mg) (F : FunAt K mg "_law_least" s_law_least ["_law_sizes", "_law_wide", "_law_more"])  : Has P w K mg base "_law_least" 1 (sp_law_least K) := by
  refine has_of F sc_law_least (fun vs H Q E h => ?_) (fun f cdv A outer s H vs Q E hr h => ?_)
  · obtain ⟨a, ms, w, more, rfl, _⟩ := h
    rfl
  · obtain ⟨a, ms, w, more, rfl, ha, hm, hl, w0, w1, q⟩ := h
    refine ⟨_, (pss_cons (ps_set (i := 3) sc_law_least.nd rfl (by first | exact Or.inl rfl | exact Or.inr rfl) (pe_callB (id := "sum") (sumA (K := K) rfl rfl) (by rfl) z.b_sum (by decide +kernel) (pa_cons (pe_lc (own := [("_law_many", 5)]) (g := gName 5) (tt := tYes) rfl sc_law_least.nd (piL (K := K) rfl (pv 0)) (blkOk_by (own := [("_law_many", 5)]) (N := ["_law_sizes", "_law_wide", "_law_more", "_law_rows", "_law_free", "_law_many"]) (sc := defScope s_law_least) (by decide +kernel)) (fun _ _ _ _ _ => (pg_name (i := 5) sc_law_least.nd rfl (by first | exact Or.inl rfl | exact Or.inr rfl))) (fun _ _ _ _ _ => pts_nil) (fun _ _ _ _ _ => (pe_op op_fdivW (pe_callB (id := "max") (call_max2A rfl) (by rfl) z.b_max (by decide +kernel) (pa_cons pe_int (pa_cons (pe_op op_sub (pv 5) pe_int) pa_nil))) (pv 1)))) pa_nil)))
        (pss_cons (ps_set (i := 4) sc_law_least.nd rfl (by first | exact Or.inl rfl | exact Or.inr rfl) (pe_callB (id := "sum") (sumA (K := K) rfl rfl) (by rfl) z.b_sum (by decide +kernel) (pa_cons (pe_lc (own := [("_law_many", 5)]) (g := gName 5) (tt := tYes) rfl sc_law_least.nd (piL (K := K) rfl (pv 0)) (blkOk_by (own := [("_law_many", 5)]) (N := ["_law_sizes", "_law_wide", "_law_more", "_law_rows", "_law_free", "_law_many"]) (sc := defScope s_law_least) (by decide +kernel)) (fun _ _ _ _ _ => (pg_name (i := 5) sc_law_least.nd rfl (by first | exact Or.inl rfl | exact Or.inr rfl))) (fun _ _ _ _ _ => pts_nil) (fun _ _ _ _ _ => (pe_op op_plusA (pe_op op_mod (pe_op op_sub pe_int (pv 5)) (pv 1)) (pe_op op_multA (pv 1) (pe_callTy (T := "int") call_int1A (by rfl) z.b_int (by decide +kernel) (pa_cons (pe_cmpR (eqA (K := K) rfl hr.units) (pv 5) pe_int (nomark _)) pa_nil)))))) pa_nil)))
        (pss_one (ps_ret (pe_op op_plusA (pv 3) (pe_op op_fdivW (pe_op op_sub (pe_op op_plusA (pe_callB (id := "max") (call_max2A rfl) (by rfl) z.b_max (by decide +kernel) (pa_cons pe_int (pa_cons (pe_op op_sub (pv 2) (pv 4)) pa_nil))) (pv 1)) pe_int) (pv 1))))))), ?_⟩
    walk_at "cx"
    walk_at "ss"
    refine u_mapLI V.int ms (fun m => max 0 (m - 1) / w) ha (by omega) (fun m hm H2 e2 A hA => ?_) (fun D H1 n1 e1 f1 => ?_)
    · walk_at "ss"
      exact hA _ (Ex.refl _)
    walk_at "ss"
    rw [spillI_more hm w0]
    have s1 := e1.sq ha
    refine u_mapLI V.int ms (fun m => freeI m w) s1 (by omega) (fun m hx H2 e2 A hA => ?_) (fun D2 H2 n2 e2 f2 => ?_)
    · walk_at "ss"
      have := free_mod (hm m hx) w0
      have ed : (if (decide (m = 0)) = true then (1 : Int) else 0) = if m = 0 then 1 else 0 := by
        by_cases c : m = 0
        · rw [if_pos c, if_pos (decide_eq_true c)]
        · rw [if_neg c, if_neg (fun z => c (of_decide_eq_true z))]
      rw [ed, this]
      exact hA _ (Ex.refl _)
    walk_at "ss"
    exact q _ (e1.trans e2)

/-! ### _law_needs -/
noncomputable def sp_law_needs (K : PySem.W.Frag) : Sp := fun vs H Q _ => ∃ (a : Addr) (ms : List Int) (w : Int), vs = [.ref a, .int w] ∧ SqL K H a (ms.map V.int) ∧ (∀ m ∈ ms, 0 ≤ m) ∧ ms.length ≤ 1000 ∧ 0 < w ∧ w ≤ 1000 ∧ ∀ p H', H p = none → Ex H H' → H' p = some (.lst ((sortI (needV ms w)).map V.int)) → Q (.ref p) H'
theorem has_law_needs (z : Z K mg) (F : FunAt K mg "_law_needs" s_law_needs ["_law_sizes", "_law_wide"])  : Has P w K mg base "_law_needs" 1 (sp_law_needs K) := by
  refine has_of F sc_law_needs (fun vs H Q E h => ?_) (fun f cdv A outer s H vs Q E hr h => ?_)
  · obtain ⟨a, ms, w, rfl, _⟩ := h
    rfl
  · obtain ⟨a, ms, w, rfl, ha, hm, hl, w0, w1, q⟩ := h
    refine ⟨_, (pss_one (ps_ret (pe_callB (id := "sorted") (sortA (K := K) rfl) (by rfl) z.b_sorted (by decide +kernel) (pa_cons (pe_lc (own := [("_law_many", 2)]) (g := gName 2) rfl sc_law_needs.nd (piL (K := K) rfl (pv 0)) (blkOk_by (own := [("_law_many", 2)]) (N := ["_law_sizes", "_law_wide", "_law_many"]) (sc := defScope s_law_needs) (by decide +kernel)) (fun _ _ _ _ _ => (pg_name (i := 2) sc_law_needs.nd rfl (by first | exact Or.inl rfl | exact Or.inr rfl))) (fun _ _ _ _ _ => pts_one (pt_cmpR op_gt (pv 2) pe_int (nomark _))) (fun _ _ _ _ _ => (pe_op op_plusA pe_int (pe_op op_mod (pe_op op_sub pe_int (pv 2)) (pv 1))))) pa_nil)))), ?_⟩
    walk_at "cx"
    walk_at "ss"
    refine u_lcL V.int ms (fun m => decide (m > 0)) (fun m => .int (1 + (0 - m) % w)) ha (by omega) (fun m hx H1 e1 A B hA hB => ?_) (fun D H1 n1 e1 f1 => ?_)
    · walk_at "ss"
      refine i_d (fun hd => ?_) (fun hd => ?_)
      · walk_at "ss"
        exact hA (decide_eq_true hd) _ (Ex.refl _)
      · exact hB (decide_eq_false hd) _ (Ex.refl _)
    have ef : ((ms.filter fun m => decide (m > 0)).map fun m => V.int (1 + (0 - m) % w)) = (needV ms w).map V.int := by
      unfold needV
      rw [List.map_map]
      refine List.map_congr_left fun m hx => ?_
      obtain ⟨_, h2⟩ := List.mem_filter.mp hx
      have h2 := of_decide_eq_true h2
      show V.int _ = V.int _
      rw [need_mod h2 w0]
    rw [ef] at f1
    walk_at "ss"
    rename_i p2 H2 n2 e2 f2
    exact q p2 H2 (Ex.back e1 n2) (e1.trans e2) f2

/-! ### _law_greatest -/
noncomputable def sp_law_greatest (K : PySem.W.Frag) : Sp := fun vs H Q _ => ∃ (a : Addr) (ms : List Int) (w more : Int), vs = [.ref a, .int w, .int more] ∧ SqL K H a (ms.map V.int) ∧ (∀ m ∈ ms, 0 ≤ m) ∧ ms.length ≤ 1000 ∧ 0 < w ∧ w ≤ 1000 ∧ 0 ≤ more ∧ ∀ H', Ex H H' → Q (.int (greatI ms w more)) H'
theorem has_law_greatest (z : Z K mg) (F : FunAt K mg "_law_greatest" s_law_greatest ["_law_sizes", "_law_wide", "_law_more"]) (h_law_needs : Has P w K mg base "_law_needs" 1 (sp_law_needs K)) : Has P w K mg base "_law_greatest" 2 (sp_law_greatest K) := by
  refine has_of F sc_law_greatest (fun vs H Q E h => ?_) (fun f cdv A outer s H vs Q E hr h => ?_)
  · obtain ⟨a, ms, w, more, rfl, _⟩ := h
    rfl
  · obtain ⟨a, ms, w, more, rfl, ha, hm, hl, w0, w1, m0, q⟩ := h
    refine ⟨_, (pss_cons (ps_set (i := 3) sc_law_greatest.nd rfl (by first | exact Or.inl rfl | exact Or.inr rfl) (pe_callB (id := "sum") (sumA (K := K) rfl rfl) (by rfl) z.b_sum (by decide +kernel) (pa_cons (pe_lc (own := [("_law_many", 7)]) (g := gName 7) (tt := tYes) rfl sc_law_greatest.nd (piL (K := K) rfl (pv 0)) (blkOk_by (own := [("_law_many", 7)]) (N := ["_law_sizes", "_law_wide", "_law_more", "_law_rows", "_law_needs_here", "_law_left", "_law_need", "_law_many"]) (sc := defScope s_law_greatest) (by decide +kernel)) (fun _ _ _ _ _ => (pg_name (i := 7) sc_law_greatest.nd rfl (by first | exact Or.inl rfl | exact Or.inr rfl))) (fun _ _ _ _ _ => pts_nil) (fun _ _ _ _ _ => (pe_op op_fdivW (pe_callB (id := "max") (call_max2A rfl) (by rfl) z.b_max (by decide +kernel) (pa_cons pe_int (pa_cons (pe_op op_sub (pv 7) pe_int) pa_nil))) (pv 1)))) pa_nil)))
        (pss_cons (ps_set (i := 4) sc_law_greatest.nd rfl (by first | exact Or.inl rfl | exact Or.inr rfl) (pe_callH h_law_needs (by decide) hr rfl (pa_cons (pv 0) (pa_cons (pv 1) pa_nil))))
        (pss_cons (ps_if (pt_cmpR (eqA (K := K) rfl hr.units) (pv 4) (pe_lst pa_nil) (nomark _)) (pss_one (ps_ret (pe_op op_plusA (pv 3) (pe_op op_fdivW (pe_callB (id := "max") (call_max2A rfl) (by rfl) z.b_max (by decide +kernel) (pa_cons pe_int (pa_cons (pe_op op_sub (pv 2) pe_int) pa_nil))) (pv 1))))) pss_nil)
        (pss_cons (ps_set (i := 5) sc_law_greatest.nd rfl (by first | exact Or.inl rfl | exact Or.inr rfl) (pv 2))
        (pss_cons (ps_for PassesOwn.never rfl (piL (K := K) rfl (pv 4)) (pg_name (i := 6) sc_law_greatest.nd rfl (by first | exact Or.inl rfl | exact Or.inr rfl)) (pss_cons (ps_if (pt_cmpR op_lt (pv 5) (pv 6) (nomark _)) (pss_one (ps_ret (pv 3))) pss_nil)
        (pss_cons (ps_set (i := 5) sc_law_greatest.nd rfl (by first | exact Or.inl rfl | exact Or.inr rfl) (pe_op op_sub (pv 5) (pv 6)))
        (pss_one (ps_set (i := 3) sc_law_greatest.nd rfl (by first | exact Or.inl rfl | exact Or.inr rfl) (pe_op op_plusA (pv 3) pe_int))))))
        (pss_one (ps_ret (pe_op op_plusA (pv 3) (pe_op op_fdivW (pv 5) (pv 1)))))))))), ?_⟩
    walk_at "cx"
    walk_at "ss"
    refine u_mapLI V.int ms (fun m => max 0 (m - 1) / w) ha (by omega) (fun m hm H2 e2 A hA => ?_) (fun D H1 n1 e1 f1 => ?_)
    · walk_at "ss"
      exact hA _ (Ex.refl _)
    walk_at "ss"
    rw [spillI_more hm w0]
    have s1 := e1.sq ha
    refine ⟨a, ms, w, rfl, s1, hm, hl, w0, w1, fun p H2 n2 e2 f2 => ?_⟩
    have eG : greatI ms w more = spillI ms w + (if needV ms w = [] then max 0 (more - 1) / w else greatG (sortI (needV ms w)) w more) := rfl
    have en : sortI (needV ms w) = [] ↔ needV ms w = [] := ⟨fun z => List.eq_nil_of_length_eq_zero (by rw [← sortI_len, z]; rfl), fun z => List.eq_nil_of_length_eq_zero (by rw [sortI_len, z]; rfl)⟩
    generalize sortI (needV ms w) = ns at *
    have e02 := e1.trans e2
    walk_at "ss"
    rename_i p3 H3 n3 e3 f3
    refine i_d (fun hd => ?_) (fun hd => ?_)
    · rw [if_pos (en.mp hd)] at eG
      walk_at "ss"
      rw [← eG]
      exact q _ (e02.trans e3)
    · rw [if_neg (fun z => hd (en.mpr z))] at eG
      have f23 := e3 _ _ f2
      walk_at "ss"
      refine u_forL (fun j σ H' => ∃ (left : Int) (x1 x2 : Option V), σ = [some (.ref a), some (.int w), some (.int more), some (.int (spillI ms w + (j : Int))), some (.ref p), some (.int left), x1, x2] ∧ Ex H3 H' ∧ greatG ns w more = (j : Int) + greatG (ns.drop j) w left) (sq_of f23) ⟨more, _, _, by rw [show ((0 : Nat) : Int) = 0 from rfl, Int.add_zero]; rfl, Ex.refl _, by rw [show ((0 : Nat) : Int) = 0 from rfl, Int.zero_add]; rfl⟩ (fun j σ H' _ hh => ?_) (fun j v σ H' hx hh => ?_) (fun σ H' hh => ?_)
      · obtain ⟨_, _, _, _, e, _⟩ := hh
        exact e.sq (sq_of f23)
      · obtain ⟨left, x1, x2, rfl, e4, hg⟩ := hh
        obtain ⟨n, rfl, hk⟩ := at_ints hx
        have jl := (List.getElem?_eq_some_iff.mp hk).1
        have ed : ns.drop j = n :: ns.drop (j + 1) := by
          rw [List.drop_eq_getElem_cons jl, (List.getElem?_eq_some_iff.mp hk).2]
        have eg : greatG (n :: ns.drop (j + 1)) w left = if left < n then (0 : Int) else 1 + greatG (ns.drop (j + 1)) w (left - n) := rfl
        rw [ed, eg] at hg
        walk_at "ss"
        refine i_d (fun hd2 => ?_) (fun hd2 => ?_)
        · rw [if_pos hd2] at hg
          walk_at "ss"
          rw [show spillI ms w + (j : Int) = greatI ms w more by omega]
          exact q _ ((e02.trans e3).trans e4)
        · rw [if_neg hd2] at hg
          walk_at "ss"
          exact ⟨left - n, _, _, by rw [show spillI ms w + ((j + 1 : Nat) : Int) = spillI ms w + (j : Int) + 1 by omega]; rfl, e4, by omega⟩
      · obtain ⟨left, x1, x2, rfl, e4, hg⟩ := hh
        rw [List.length_map, List.drop_length] at hg
        have eg : greatG [] w left = left / w := rfl
        rw [eg] at hg
        rw [List.length_map]
        walk_at "ss"
        rw [show spillI ms w + (ns.length : Int) + left / w = greatI ms w more by omega]
        exact q _ ((e02.trans e3).trans e4)

/-! ### _law_spill -/
noncomputable def sp_law_spill (K : PySem.W.Frag) : Sp := fun vs H Q _ => ∃ (a b : Addr) (ms p : List Int) (w : Int), vs = [.ref a, .int w, .ref b] ∧ SqL K H a (ms.map V.int) ∧ SqL K H b (p.map V.int) ∧ p.length = ms.length ∧ ms.length ≤ 30000 ∧ (∀ m ∈ ms, 0 ≤ m) ∧ (∀ x ∈ p, 0 ≤ x) ∧ 0 < w ∧ w ≤ 1000 ∧ ∀ H', Ex H H' → Q (.int (spillI (addI ms p) w)) H'
theorem has_law_spill (z : Z K mg) (F : FunAt K mg "_law_spill" s_law_spill ["_law_sizes", "_law_wide", "_law_put"])  : Has P w K mg base "_law_spill" 1 (sp_law_spill K) := by
  refine has_of F sc_law_spill (fun vs H Q E h => ?_) (fun f cdv A outer s H vs Q E hr h => ?_)
  · obtain ⟨a, b, ms, p, w, rfl, _⟩ := h
    rfl
  · obtain ⟨a, b, ms, p, w, rfl, ha, hb, hl, hz, hm, hp, w0, w1, q⟩ := h
    refine ⟨_, (pss_one (ps_ret (pe_callB (id := "sum") (sumA (K := K) rfl rfl) (by rfl) z.b_sum (by decide +kernel) (pa_cons (pe_lc (own := [("_law_many", 3), ("_law_one", 4)]) (g := gTup K 2 (gCons (gName 3) (gCons (gName 4) gNil))) (tt := tYes) rfl sc_law_spill.nd (pi_zip (by rfl) z.b_zip (pa_cons (pv 0) (pa_cons (pv 2) pa_nil))) (blkOk_by (own := [("_law_many", 3), ("_law_one", 4)]) (N := ["_law_sizes", "_law_wide", "_law_put", "_law_many", "_law_one"]) (sc := defScope s_law_spill) (by decide +kernel)) (fun _ _ _ _ _ => (pg_tup rfl (pgs_cons (pg_name (i := 3) sc_law_spill.nd rfl (by first | exact Or.inl rfl | exact Or.inr rfl)) (pgs_cons (pg_name (i := 4) sc_law_spill.nd rfl (by first | exact Or.inl rfl | exact Or.inr rfl)) pgs_nil)))) (fun _ _ _ _ _ => pts_nil) (fun _ _ _ _ _ => (pe_op op_fdivW (pe_callB (id := "max") (call_max2A rfl) (by rfl) z.b_max (by decide +kernel) (pa_cons pe_int (pa_cons (pe_op op_sub (pe_op op_plusA (pv 3) (pv 4)) pe_int) pa_nil))) (pv 1)))) pa_nil)))), ?_⟩
    walk_at "cx"
    walk_at "ss"
    refine u_mapZI (fun x y => max 0 (x + y - 1) / w) ha hb hl.symm (by omega) (fun x y hx hy T H1 e1 fT A hA => ?_) (fun D H1 n1 e1 f1 => ?_)
    · refine s_gt2 (st_of fT) ?_
      walk_at "ss"
      exact hA _ (Ex.refl _)
    walk_at "ss"
    rw [spillI_more' hm hp w0]
    exact q _ e1

/-! ### _law_right -/
inductive KeptV (Z : Hp) (v : V) : Option (List V) → V → Prop
  | lst {q : Addr} {us : List V} : Z q = some (.lst us) → KeptV Z v (some us) (.ref q)
  | no : KeptV Z v none v
noncomputable def sp_law_right (K : PySem.W.Frag) : Sp := fun vs H Q _ => ∃ (a : Addr) (ms : List Int) (w more : Int) (v : V) (th : Option (List V)) (Z : Hp), vs = [.ref a, .int w, .int more, v] ∧ Ls Z a ms ∧ Ex Z H ∧ ms ≠ [] ∧ (∀ m ∈ ms, 0 ≤ m) ∧ ms.length ≤ 1000 ∧ 0 < w ∧ w ≤ 1000 ∧ 0 ≤ more ∧ ThV Z v th ∧ (∀ us, th = some us → us.length ≤ 30000) ∧ ∀ Z' H', T [] Z H Z' H' → Q (.bl true) H'
theorem has_law_right (z : Z K mg) (F : FunAt K mg "_law_right" s_law_right ["_law_sizes", "_law_wide", "_law_more", "_law_thing"]) (h_is_least : Has P w K mg base "is_least" 5 (sp_is_least K)) (h_is_greatest : Has P w K mg base "is_greatest" 5 (sp_is_greatest K)) (h_law_is_put : Has P w K mg base "_law_is_put" 1 (sp_law_is_put K)) (h_law_least : Has P w K mg base "_law_least" 1 (sp_law_least K)) (h_law_greatest : Has P w K mg base "_law_greatest" 2 (sp_law_greatest K)) (h_law_spill : Has P w K mg base "_law_spill" 1 (sp_law_spill K)) : Has P w K mg base "_law_right" 6 (sp_law_right K) := by
  refine has_of F sc_law_right (fun vs H Q E h => ?_) (fun f cdv A outer s H vs Q E hr h => ?_)
  · obtain ⟨_, _, _, _, _, _, _, rfl, _⟩ := h
    rfl
  · obtain ⟨a, ms, w, more, v, th, Z, rfl, ls, zh, m0, mp, ml, w0, w1, mo, ht, hl, q⟩ := h
    refine ⟨_, (pss_cons (ps_set (i := 4) sc_law_right.nd rfl (by first | exact Or.inl rfl | exact Or.inr rfl) (pe_lst (pa_cons pe_bl (pa_cons pe_bl pa_nil))))
        (Evl.pss_cut (ps_if (pt_val (pe_callH h_law_is_put (by decide) hr rfl (pa_cons (pv 0) (pa_cons (pv 2) (pa_cons (pv 3) pa_nil))))) (pss_cons (ps_set (i := 5) sc_law_right.nd rfl (by first | exact Or.inl rfl | exact Or.inr rfl) (pe_callH h_law_spill (by decide) hr rfl (pa_cons (pv 0) (pa_cons (pv 1) (pa_cons (pv 3) pa_nil)))))
        (pss_one (ps_set (i := 4) sc_law_right.nd rfl (by first | exact Or.inl rfl | exact Or.inr rfl) (pe_lst (pa_cons (pe_cmpR (eqA (K := K) rfl hr.units) (pv 5) (pe_callH h_law_greatest (by decide) hr rfl (pa_cons (pv 0) (pa_cons (pv 1) (pa_cons (pv 2) pa_nil)))) (nomark _)) (pa_cons (pe_cmpR (eqA (K := K) rfl hr.units) (pv 5) (pe_callH h_law_least (by decide) hr rfl (pa_cons (pv 0) (pa_cons (pv 1) (pa_cons (pv 2) pa_nil)))) (nomark _)) pa_nil)))))) pss_nil)
        (pss_cons (ps_set (i := 6) sc_law_right.nd rfl (by first | exact Or.inl rfl | exact Or.inr rfl) (pe_callTy (T := "list") (listA (K := K) rfl) (by rfl) z.b_list (by decide +kernel) (pa_cons (pv 0) pa_nil)))
        (pss_cons (ps_set (i := 7) sc_law_right.nd rfl (by first | exact Or.inl rfl | exact Or.inr rfl) (pv 3))
        (Evl.pss_cut (ps_if (pt_val (pe_callB (id := "isinstance") (isiA (K := K) rfl) (by rfl) z.b_isinstance (by decide +kernel) (pa_cons (pv 3) (pa_cons (pe_bltn (v := .ty "list") (by rfl) z.b_list (by decide +kernel) rfl) pa_nil)))) (pss_one (ps_set (i := 7) sc_law_right.nd rfl (by first | exact Or.inl rfl | exact Or.inr rfl) (pe_callTy (T := "list") (listA (K := K) rfl) (by rfl) z.b_list (by decide +kernel) (pa_cons (pv 3) pa_nil)))) pss_nil)
        (pss_cons (ps_set (i := 8) sc_law_right.nd rfl (by first | exact Or.inl rfl | exact Or.inr rfl) (pe_lst (pa_cons (pe_callH h_is_greatest (by decide) hr rfl (pa_cons (pv 6) (pa_cons (pv 1) (pa_cons (pv 2) (pa_cons (pv 3) pa_nil))))) (pa_cons (pe_callH h_is_least (by decide) hr rfl (pa_cons (pv 6) (pa_cons (pv 1) (pa_cons (pv 2) (pa_cons (pv 3) pa_nil))))) pa_nil))))
        (pss_cons (ps_if (PW.pt (pw_or (pt_cmpR (inA (K := K) rfl) pe_bl (pe_lc (own := [("_law_one", 9)]) (g := gName 9) (tt := tYes) rfl sc_law_right.nd (piL (K := K) rfl (pv 8)) (blkOk_by (own := [("_law_one", 9)]) (N := ["_law_sizes", "_law_wide", "_law_more", "_law_thing", "_law_due", "_law_rows", "_law_handed", "_law_kept", "_law_told", "_law_one"]) (sc := defScope s_law_right) (by decide +kernel)) (fun _ _ _ _ _ => (pg_name (i := 9) sc_law_right.nd rfl (by first | exact Or.inl rfl | exact Or.inr rfl))) (fun _ _ _ _ _ => pts_nil) (fun _ _ _ _ _ => (pe_callB (id := "isinstance") (isiA (K := K) rfl) (by rfl) z.b_isinstance (by decide +kernel) (pa_cons (pv 9) (pa_cons (pe_bltn (v := .ty "bool") (by rfl) z.b_bool (by decide +kernel) rfl) pa_nil))))) (by rfl)) (pw_or1 (pt_cmpR (neA (K := K) rfl hr.units) (pv 8) (pv 4) (nomark _))))) (pss_one (ps_ret pe_bl)) pss_nil)
        (pss_one (ps_ret (pe_and (pe_cmpR (eqA (K := K) rfl hr.units) (pv 6) (pv 0) (nomark _)) (pe_one (pe_cmpR (OpR.or (eqA (K := K) rfl hr.units) (OpR.or (eqLSA (K := K) rfl (Room.u65 hr)) (op_eqD0 (Nat.lt_of_le_of_lt (Nat.le_add_right _ 64) hr.units)))) (pv 7) (pv 3) (nomark _))))))))))))), ?_⟩
    walk_at "cx"
    walk_at "tlN"
    refine t_newP zh (by show 2 ≤ 100000; decide) fun p0 Z0 H0 n0 t0 f0 => ?_
    have z0 := t0.zh
    have ls0 := ls.tt t0
    have ht0 := ht.ex t0.z
    walk_at "tlN"
    refine s_cut (fun σ' H' => ∃ pd x1 x2 x3 x4 x5 Z', σ' = [some (.ref a), some (.int w), some (.int more), some v, some (.ref pd), x1, x2, x3, x4, x5] ∧ T [] Z H Z' H' ∧ Z' pd = some (.lst [.bl (isG ms w more th), .bl (isL ms w more th)])) ?_ ?_
    · walk_at "tlN"
      refine ⟨a, ms, more, v, th, Z0, rfl, ls0, z0, ht0, hl, ?_⟩
      cases ep : putL ms.length more th with
      | none =>
        rw [show (none : Option (List Int)).isSome = false from rfl]
        walk_at "tlN"
        exact ⟨p0, _, _, _, _, _, Z0, rfl, t0, by unfold isG isL; rw [ep]; exact f0⟩
      | some p =>
        rw [show (some p).isSome = true from rfl]
        obtain ⟨us, rfl, rfl, pl, pp, ps⟩ := putL_some ep
        cases ht0 with
        | lst hp _ =>
        have lsz := ls0.ints
        walk_at "tlN"
        refine ⟨_, _, ms, p, w, rfl, sq_of (z0 _ _ lsz), sq_of (z0 _ _ hp), pl, by omega, mp, pp, w0, w1, fun H1 e1 => ?_⟩
        walk_at "tlN"
        refine ⟨_, ms, w, more, rfl, sq_of ((z0.trans e1) _ _ lsz), mp, ml, w0, w1, mo, fun H2 e2 => ?_⟩
        walk_at "tlN"
        refine ⟨_, ms, w, more, rfl, sq_of (((z0.trans e1).trans e2) _ _ lsz), mp, ml, w0, w1, fun H3 e3 => ?_⟩
        walk_at "tlN"
        have t3 : T [] Z H Z0 H3 := t0.step (T.ofEx ((e1.trans e2).trans e3) z0) mm_nil
        refine t_newP t3.zh (by show 2 ≤ 100000; decide) fun p4 Z4 H4 n4 t4 f4 => ?_
        walk_at "tlN"
        refine ⟨p4, _, _, _, _, _, Z4, rfl, t3.step t4 mm_nil, ?_⟩
        unfold isG isL
        rw [ep]
        exact f4
    clear t0 f0 z0 ls0 ht0 n0
    rintro σ H1 ⟨pd, x1, x2, x3, x4, x5, Z1, rfl, t1, fd⟩
    have z1 := t1.zh
    have ls1 := ls.tt t1
    have ht1 := ht.ex t1.z
    walk_at "tls"
    rename_i ph Z2 H2 n2 t2 ls2
    have t12 := t1.step t2 mm_nil
    have z2 := t2.zh
    have ht2 := ht1.ex t2.z
    have fd2 := t2.z _ _ fd
    refine s_cut (fun σ' H' => ∃ kv x1 x2 x3 Z', σ' = [some (.ref a), some (.int w), some (.int more), some v, some (.ref pd), x1, some (.ref ph), some kv, x2, x3] ∧ T [] Z2 H2 Z' H' ∧ KeptV Z' v th kv) ?_ ?_
    · walk_at "tls"
      refine s_isiTh ht2 z2 ?_
      cases th with
      | none =>
        rw [show (none : Option (List V)).isSome = false from rfl]
        walk_at "tls"
        exact ⟨v, _, _, _, Z2, rfl, T.refl z2, .no⟩
      | some us =>
        rw [show (some us).isSome = true from rfl]
        cases ht2 with
        | lst hp _ =>
        walk_at "tls"
        refine pt_list z2 (z2 _ _ hp) fun p3 Z3 H3 n3 t3 zp3 f3 => ?_
        have tf : T [p3] Z3 H3 (upd Z3 p3 (.lst us)) H3 := T.fz t3.zh zp3 f3
        walk_at "tls"
        exact ⟨.ref p3, _, _, _, _, rfl, t3.step tf (mm_1 (.inr n3)), .lst upd_same⟩
    rintro σ H3 ⟨kv, x1, x2, x3, Z3, rfl, t3, hk⟩
    have t13 := t12.step t3 mm_nil
    have z3 := t3.zh
    have ls3 := ls2.tt t3
    have lsa3 := (ls1.tt t2).tt t3
    have ht3 := ht2.ex t3.z
    have fd3 := t3.z _ _ fd2
    clear t1 t2 t3 t12 ls1 ls2 ht1 ht2 fd fd2 z1 z2
    walk_at "tlN"
    refine ⟨ph, ms, w, more, v, th, Z3, rfl, ls3, z3, m0, mp, ml, w0, w1, mo, ht3, hl, fun Z4 H4 t4 => ?_⟩
    walk_at "tlN"
    refine ⟨ph, ms, w, more, v, th, Z4, rfl, ls3.tt t4, t4.zh, m0, mp, ml, w0, w1, mo, ht3.ex t4.z, hl, fun Z5 H5 t5 => ?_⟩
    walk_at "tlN"
    refine t_newP t5.zh (by show 2 ≤ 100000; decide) fun pt Z6 H6 n6 t6 f6 => ?_
    have t36 := (t4.step t5 mm_nil).step t6 mm_nil
    have z6 := t6.zh
    walk_at "tls"
    refine c_boolsV (fun _ => true) z6 (z6 _ _ f6) (by show 2 ≤ 40000; decide) (fun u Z7 H7 hu t7 A hA => ?_) (fun D Z7 H7 nD t7 fD => ?_)
    · obtain ⟨b, rfl⟩ : ∃ b, u = .bl b := by
        rcases List.mem_cons.mp hu with e | hu
        · exact ⟨_, e⟩
        · exact ⟨_, List.mem_singleton.mp hu⟩
      have z7 := t7.zh
      walk_at "tls"
      exact hA Z7 H7 (T.refl z7)
    · have z7 := t7.zh
      have t37 := t36.step t7 mm_nil
      walk_at "tls"
      refine s_inB [true, true] (sq_of (z7 _ _ fD)) ?_
      rw [show decide (false ∈ [true, true]) = false by decide]
      walk_at "tls"
      have e1 : Ik Z7 (.ref pt) [isG ms w more th, isL ms w more th] := Ik.l2 (t7.z _ _ f6) (Ik.bl _) (Ik.bl _)
      have e2 : Ik Z7 (.ref pd) [isG ms w more th, isL ms w more th] := Ik.l2 (t37.z _ _ fd3) (Ik.bl _) (Ik.bl _)
      refine s_neP (x := [isG ms w more th, isL ms w more th]) (y := [isG ms w more th, isL ms w more th]) (Ik.ex z7 e1).is (Ik.ex z7 e2).is (by decide) ?_
      walk_at "tls"
      have la := lsa3.tt t37
      have lb := ls3.tt t37
      refine s_eqP (x := ms) (y := ms) (Ik.ex z7 lb.is).is (Ik.ex z7 la.is).is (by decide) ?_
      walk_at "tls"
      have e37 := t37.z
      have qq := q Z7 H7 (t13.step t37 mm_nil)
      have ht7 := ht3.ex e37
      cases hk with
      | lst fk =>
        cases ht7 with
        | lst fp ho => exact .inr (.inl ⟨_, _, _, rfl, rfl, sq_of (z7 _ _ (e37 _ _ fk)), sq_of (z7 _ _ fp), fun u hu => OdE.eqv (ho u hu) z7, qq⟩)
      | no =>
        cases ht7 with
        | non => exact .inl (s_eqP (α := Option Int) (x := none) (y := none) Is.no Is.no (by decide) qq)
        | int i => exact .inl (s_eqI (by rw [decide_eq_true rfl]; exact qq))
        | str x hx => exact .inl (s_eqS (by rw [decide_eq_true rfl]; exact qq))
        | tup fp => exact .inl (s_eqD (tupI_dp (z7 _ _ fp)) (tupI_dp (z7 _ _ fp)) (tupI_shaped _) (tupI_shaped _) (by rw [tupI_eqv]; exact qq))
        | dct fp => exact .inr (.inr ⟨_, _, [], rfl, rfl, z7 _ _ fp, z7 _ _ fp, qq⟩)

/-! ### _law_draw -/
noncomputable abbrev sp_law_draw (K : PySem.W.Frag) : Sp := spDraw K
theorem has_law_draw (z : Z K mg) (F : FunAt K mg "_law_draw" s_law_draw ["_law_hand", "_law_many"])  : Has P w K mg base "_law_draw" 1 (sp_law_draw K) := by
  refine has_of F sc_law_draw (fun vs H Q E h => ?_) (fun f cdv A outer s H vs Q E hr h => ?_)
  · obtain ⟨a, m, n, Z, rfl, _⟩ := h
    rfl
  · obtain ⟨a, m, n, Z, rfl, ⟨d, k, c, cells, h1, h3, h4, h5, z1, z2, z3⟩, hm0, hm1, q⟩ := h
    refine ⟨_, (pss_cons (ps_if (pt_cmpR op_gt (pe_ix (ixA (K := K) rfl) (pv 0) pe_int (fun _ _ => rfl)) pe_int (nomark _)) (pss_cons (ps_set (i := 2) sc_law_draw.nd rfl (by first | exact Or.inl rfl | exact Or.inr rfl) (pe_op op_mod (pe_ix (ixA (K := K) rfl) (pv 0) pe_int (fun _ _ => rfl)) (pv 1)))
        (pss_cons (ps_asg (pe_op op_fdivW (pe_ix (ixA (K := K) rfl) (pv 0) pe_int (fun _ _ => rfl)) (pv 1)) (pg_sub (pv 0) pe_int set_list))
        (pss_one (ps_ret (pv 2))))) pss_nil)
        (pss_cons (ps_augS (pv 0) pe_int (getA (K := K) rfl) pe_int ip_add set_list)
        (pss_cons (ps_set (i := 3) sc_law_draw.nd rfl (by first | exact Or.inl rfl | exact Or.inr rfl) (pe_ix (ixA (K := K) rfl) (pv 0) pe_int (fun _ _ => rfl)))
        (pss_cons (ps_set (i := 4) sc_law_draw.nd rfl (by first | exact Or.inl rfl | exact Or.inr rfl) (pe_op op_mod (pe_op op_plusA (pe_op op_mod (pe_ix (ixA (K := K) rfl) (pe_ix (ixA (K := K) rfl) (pv 0) pe_int (fun _ _ => rfl)) (pe_op op_mod (pv 3) (pe_callB (id := "len") (lenA (K := K) rfl) (by rfl) z.b_len (by decide +kernel) (pa_cons (pe_ix (ixA (K := K) rfl) (pv 0) pe_int (fun _ _ => rfl)) pa_nil))) (fun _ _ => rfl)) pe_int) (pe_op op_multA pe_int (pv 3))) pe_int))
        (pss_cons (ps_set (i := 4) sc_law_draw.nd rfl (by first | exact Or.inl rfl | exact Or.inr rfl) (pe_op op_mod (pe_op op_plusA (pe_op op_plusA (pe_op op_pow (pv 4) pe_int) (pe_op op_multA (pe_op op_multA pe_int (pv 3)) (pv 3))) pe_int) pe_int))
        (pss_cons (ps_set (i := 4) sc_law_draw.nd rfl (by first | exact Or.inl rfl | exact Or.inr rfl) (pe_op op_mod (pe_op op_plusA (pe_op op_multA (pe_op op_pow (pv 4) pe_int) (pe_op op_plusA (pe_op op_multA pe_int (pv 3)) pe_int)) pe_int) pe_int))
        (pss_one (ps_ret (pe_op op_mod (pe_op op_fdivW (pe_op op_mod (pe_op op_multA (pv 4) pe_int) pe_int) pe_int) (pv 1)))))))))), ?_⟩
    walk_at "cx"
    walk_at "ss"
    refine i_d (fun hd => ?_) (fun hd => ?_)
    · walk_at "ss"
      rename_i G e1 e2
      exact q _ G (Int.emod_nonneg _ (by omega)) (Int.emod_lt_of_pos _ hm0) e1 ⟨_, k, c, cells, e2, h3, h4, by omega, z1.exm z2 e1, z2, z3⟩
    · walk_at "ss"
      rename_i G e1 e2 _ _ v hv _ _ _ _ _ _ _ _ _ _ b1 b2
      exact q _ G b1 b2 e1 ⟨d, k + 1, c, cells, e2, h3, by omega, by omega, z1.exm z2 e1, z2, z3⟩

/-! ### _law_far -/
noncomputable abbrev sp_law_far (K : PySem.W.Frag) : Sp := spFar K
theorem has_law_far (z : Z K mg) (F : FunAt K mg "_law_far" s_law_far ["_law_hand", "_law_many"]) (h_law_draw : Has P w K mg base "_law_draw" 1 (sp_law_draw K)) : Has P w K mg base "_law_far" 2 (sp_law_far K) := by
  refine has_of F sc_law_far (fun vs H Q E h => ?_) (fun f cdv A outer s H vs Q E hr h => ?_)
  · obtain ⟨a, m, n, Z, rfl, _⟩ := h
    rfl
  · obtain ⟨a, m, n, Z, rfl, hh, h0, h1, q⟩ := h
    obtain ⟨d, k, c, cells, g1, g3, g4, g5, z1, z2, z3⟩ := id hh
    refine ⟨_, (pss_cons (ps_if (pt_cmpR op_gt (pe_ix (ixA (K := K) rfl) (pv 0) pe_int (fun _ _ => rfl)) pe_int (nomark _)) (pss_one (ps_ret (pe_callH h_law_draw (by decide) hr rfl (pa_cons (pv 0) (pa_cons (pv 1) pa_nil))))) pss_nil)
        (pss_cons (ps_set (i := 2) sc_law_far.nd rfl (by first | exact Or.inl rfl | exact Or.inr rfl) pe_int)
        (pss_cons (ps_for PassesOwn.never rfl (pi_range1 (by rfl) z.b_range (pa_cons pe_int pa_nil)) (pg_name (i := 3) sc_law_far.nd rfl (by first | exact Or.inl rfl | exact Or.inr rfl)) (pss_one (ps_set (i := 2) sc_law_far.nd rfl (by first | exact Or.inl rfl | exact Or.inr rfl) (pe_op op_plusA (pe_op op_multA (pv 2) (pe_op op_pow pe_int pe_int)) (pe_callH h_law_draw (by decide) hr rfl (pa_cons (pv 0) (pa_cons (pe_op op_pow pe_int pe_int) pa_nil)))))))
        (pss_one (ps_ret (pe_op op_mod (pv 2) (pv 1))))))), ?_⟩
    walk_at "cx"
    walk_at "ss"
    refine i_d (fun hd => ?_) (fun hd => ?_)
    · walk_at "ss"
      exact ⟨a, m, n, Z, rfl, hh.mono (by omega), h0, h1, q⟩
    · walk_at "ss"
      refine u_forR1 (fun i σ H' => ∃ x y, σ = [some (.ref a), some (.int m), some (.int x), y] ∧ ExM a H H' ∧ Hand K Z H' a (n + (7 - i))) (by decide) ⟨_, _, rfl, ExM.refl _, hh⟩ (fun i σ H' hi hw => ?_) (fun σ H' hw => ?_)
      · obtain ⟨x, y, rfl, e, hw⟩ := hw
        have hw' : Hand K Z H' a (n + (7 - (i + 1)) + 1) := hw.mono (by omega)
        walk_at "ss"
        refine ⟨a, _, _, _, rfl, hw', by decide, by decide, fun r H2 r0 r1 m2 hh2 => ?_⟩
        walk_at "ss"
        exact ⟨_, _, rfl, e.trans m2, hh2⟩
      · obtain ⟨x, y, rfl, e, hw⟩ := hw
        walk_at "ss"
        exact q _ _ (by omega) (by omega) e (hw.mono (by omega))

/-! ### _law_step -/
noncomputable def sp_law_step (K : PySem.W.Frag) : Sp := fun vs H Q _ => ∃ (h p : Addr) (us : List V) (n : Nat) (Z : Hp), vs = [.ref h, .ref p] ∧ Hand K Z H h (n + 20) ∧ Z p = some (.lst us) ∧ (∀ u ∈ us, OdE Z u) ∧ us.length ≤ 1000 ∧
  ∀ p' us' Z' H', T [h] Z H Z' H' → Hand K Z' H' h n → Z' p' = some (.lst us') → (∀ u ∈ us', OdE Z' u) → us'.length ≤ us.length + 1 → Q (.ref p') H'
theorem has_law_step (z : Z K mg) (F : FunAt K mg "_law_step" s_law_step ["_law_hand", "_law_put"]) (h_law_far : Has P w K mg base "_law_far" 2 (sp_law_far K)) (h_law_draw : Has P w K mg base "_law_draw" 1 (sp_law_draw K)) : Has P w K mg base "_law_step" 3 (sp_law_step K) := by
  refine has_of F sc_law_step (fun vs H Q E h => ?_) (fun f cdv A outer s H vs Q E hr h => ?_)
  · obtain ⟨_, _, _, _, _, rfl, _⟩ := h
    rfl
  · obtain ⟨h, p, us, n, Z, rfl, hh, hp, ho, hl, q⟩ := h
    refine ⟨_, (pss_cons (ps_set (i := 1) sc_law_step.nd rfl (by first | exact Or.inl rfl | exact Or.inr rfl) (pe_callTy (T := "list") (listA (K := K) rfl) (by rfl) z.b_list (by decide +kernel) (pa_cons (pv 1) pa_nil)))
        (pss_cons (ps_set (i := 2) sc_law_step.nd rfl (by first | exact Or.inl rfl | exact Or.inr rfl) (pe_callH h_law_draw (by decide) hr rfl (pa_cons (pv 0) (pa_cons pe_int pa_nil))))
        (pss_cons (ps_set (i := 3) sc_law_step.nd rfl (by first | exact Or.inl rfl | exact Or.inr rfl) (pe_callH h_law_draw (by decide) hr rfl (pa_cons (pv 0) (pa_cons pe_int pa_nil))))
        (pss_cons (ps_set (i := 4) sc_law_step.nd rfl (by first | exact Or.inl rfl | exact Or.inr rfl) (pe_callH h_law_draw (by decide) hr rfl (pa_cons (pv 0) (pa_cons pe_int pa_nil))))
        (pss_cons (ps_set (i := 5) sc_law_step.nd rfl (by first | exact Or.inl rfl | exact Or.inr rfl) (pe_op op_plusA pe_int (pe_callH h_law_far (by decide) hr rfl (pa_cons (pv 0) (pa_cons (pe_ix (ixA (K := K) rfl) (pe_lst (pa_cons pe_int (pa_cons pe_int (pa_cons (pe_op op_pow pe_int pe_int) pa_nil)))) (pe_callH h_law_draw (by decide) hr rfl (pa_cons (pv 0) (pa_cons pe_int pa_nil))) (fun _ _ => rfl)) pa_nil)))))
        (pss_cons (ps_if (pt_cmpR (eqNilA (K := K) rfl (Room.u65 hr)) (pv 1) (pe_lst pa_nil) (nomark _)) (pss_one (ps_ret (pe_op op_plusA (pv 1) (pe_lst (pa_cons (pv 5) pa_nil))))) pss_nil)
        (pss_cons (ps_set (i := 3) sc_law_step.nd rfl (by first | exact Or.inl rfl | exact Or.inr rfl) (pe_op op_mod (pv 3) (pe_callB (id := "len") (lenA (K := K) rfl) (by rfl) z.b_len (by decide +kernel) (pa_cons (pv 1) pa_nil))))
        (pss_cons (ps_set (i := 4) sc_law_step.nd rfl (by first | exact Or.inl rfl | exact Or.inr rfl) (pe_op op_mod (pv 4) (pe_callB (id := "len") (lenA (K := K) rfl) (by rfl) z.b_len (by decide +kernel) (pa_cons (pv 1) pa_nil))))
        (pss_cons (ps_if (PW.pt (pw_and (pt_cmpR op_lt (pv 2) pe_int (nomark _)) (pw_and (pt_val (pe_callB (id := "isinstance") (isiA (K := K) rfl) (by rfl) z.b_isinstance (by decide +kernel) (pa_cons (pe_ix (ixA (K := K) rfl) (pv 1) (pv 3) (fun _ _ => rfl)) (pa_cons (pe_bltn (v := .ty "int") (by rfl) z.b_int (by decide +kernel) rfl) pa_nil)))) (pw_and1 (pt_val (pe_callB (id := "isinstance") (isiA (K := K) rfl) (by rfl) z.b_isinstance (by decide +kernel) (pa_cons (pe_ix (ixA (K := K) rfl) (pv 1) (pv 4) (fun _ _ => rfl)) (pa_cons (pe_bltn (v := .ty "int") (by rfl) z.b_int (by decide +kernel) rfl) pa_nil)))))))) (pss_cons (ps_set (i := 5) sc_law_step.nd rfl (by first | exact Or.inl rfl | exact Or.inr rfl) (pe_callB (id := "min") (call_minN rfl) (by rfl) z.b_min (by decide +kernel) (pa_cons (pv 5) (pa_cons (pe_callB (id := "max") (call_maxN rfl) (by rfl) z.b_max (by decide +kernel) (pa_cons pe_int (pa_cons (pe_ix (ixA (K := K) rfl) (pv 1) (pv 3) (fun _ _ => rfl)) pa_nil))) pa_nil))))
        (pss_cons (ps_asg (pe_op op_subN (pe_ix (ixA (K := K) rfl) (pv 1) (pv 3) (fun _ _ => rfl)) (pv 5)) (pg_sub (pv 1) (pv 3) set_list))
        (pss_one (ps_asg (pe_op op_addN (pe_ix (ixA (K := K) rfl) (pv 1) (pv 4) (fun _ _ => rfl)) (pv 5)) (pg_sub (pv 1) (pv 4) set_list))))) (pss_one (ps_if (PW.pt (pw_and (pt_cmpR (eqA (K := K) rfl hr.units) (pv 2) pe_int (nomark _)) (pw_and1 (pt_val (pe_callB (id := "isinstance") (isiA (K := K) rfl) (by rfl) z.b_isinstance (by decide +kernel) (pa_cons (pe_ix (ixA (K := K) rfl) (pv 1) (pv 3) (fun _ _ => rfl)) (pa_cons (pe_bltn (v := .ty "int") (by rfl) z.b_int (by decide +kernel) rfl) pa_nil))))))) (pss_one (ps_asg (pe_op op_addN (pe_ix (ixA (K := K) rfl) (pv 1) (pv 3) (fun _ _ => rfl)) (pe_ix (ixA (K := K) rfl) (pe_lst (pa_cons pe_int (pa_cons (pe_un un_neg pe_int) pa_nil))) (pe_op op_mod (pv 5) pe_int) (fun _ _ => rfl))) (pg_sub (pv 1) (pv 3) set_list))) (pss_one (ps_if (pt_cmpR (eqA (K := K) rfl hr.units) (pv 2) pe_int (nomark _)) (pss_one (ps_expr (pe_bm PySem.F.plainAttrs_list PySem.F.slot_list_insert PySem.F.type_list_insert mt_insertP (pv 1) (pa_cons (pv 3) (pa_cons pe_int pa_nil))))) (pss_one (ps_if (pt_cmpR (eqA (K := K) rfl hr.units) (pv 2) pe_int (nomark _)) (pss_one (ps_expr (pe_bm PySem.F.plainAttrs_list PySem.F.slot_list_pop PySem.F.type_list_pop mt_popAt (pv 1) (pa_cons (pv 3) pa_nil)))) (pss_one (ps_if (pt_cmpR (eqA (K := K) rfl hr.units) (pv 2) pe_int (nomark _)) (pss_one (ps_asg (pe_ix (ixA (K := K) rfl) (pe_lst (pa_cons pe_non (pa_cons pe_str (pa_cons (pe_lst (pa_cons pe_int pa_nil)) (pa_cons (pe_tup (pa_cons pe_int pa_nil)) (pa_cons pe_dnewK pa_nil)))))) (pe_op op_mod (pv 5) pe_int) (fun _ _ => rfl)) (pg_sub (pv 1) (pv 3) set_list))) (pss_one (ps_if (pt_cmpR (eqA (K := K) rfl hr.units) (pv 2) pe_int (nomark _)) (pss_one (ps_asg (pe_ix (ixA (K := K) rfl) (pe_lst (pa_cons pe_bl (pa_cons pe_bl pa_nil))) (pe_op op_mod (pv 5) pe_int) (fun _ _ => rfl)) (pg_sub (pv 1) (pv 3) set_list))) (pss_one (ps_if (PW.pt (pw_and (pt_val (pe_callB (id := "isinstance") (isiA (K := K) rfl) (by rfl) z.b_isinstance (by decide +kernel) (pa_cons (pe_ix (ixA (K := K) rfl) (pv 1) (pv 3) (fun _ _ => rfl)) (pa_cons (pe_bltn (v := .ty "int") (by rfl) z.b_int (by decide +kernel) rfl) pa_nil)))) (pw_and (pt_val (pe_callB (id := "isinstance") (isiA (K := K) rfl) (by rfl) z.b_isinstance (by decide +kernel) (pa_cons (pe_ix (ixA (K := K) rfl) (pv 1) (pv 4) (fun _ _ => rfl)) (pa_cons (pe_bltn (v := .ty "int") (by rfl) z.b_int (by decide +kernel) rfl) pa_nil)))) (pw_and1 (pt_cmpR (neA (K := K) rfl hr.units) (pv 3) (pv 4) (nomark _)))))) (pss_cons (ps_asg (pe_op op_addN (pe_op op_addN (pe_ix (ixA (K := K) rfl) (pv 1) (pv 4) (fun _ _ => rfl)) (pe_ix (ixA (K := K) rfl) (pv 1) (pv 3) (fun _ _ => rfl))) (pv 5)) (pg_sub (pv 1) (pv 4) set_list))
        (pss_one (ps_asg (pe_op op_sub pe_int (pv 5)) (pg_sub (pv 1) (pv 3) set_list)))) pss_nil)))))))))))))
        (pss_one (ps_ret (pv 1)))))))))))), ?_⟩
    walk_at "cx"
    have z0 := hh.z
    walk_at "ts"
    refine pt_list z0 (z0 _ _ hp) fun p1 Z1 H1 n1 t1 zp1 f1 => ?_
    have hh1 := hh.tt t1 nm_nil
    have z1 := t1.zh
    have nh1 : p1 ≠ h := ne_alF n1 hh.at
    walk_at "ts"
    rename_i way Z2 H2 w0 w1 t2 hh2 at_ Z3 H3 a0 a1 t3 hh3 ot Z4 H4 o0 o1 t4 hh4 p5 Z5 H5 n5 t5 f5 r6 Z6 H6 r60 r61 t6 hh6 lim hlim many Z7 H7 m0 m1 t7 hh7 p8 Z8 H8 n8 t8 m8 f8
    have nn : ∀ {x : Addr}, x ≠ h → x ∉ [h] := fun hx => nm_cons hx nm_nil
    have own8 := t8.own nm_nil (t7.own (nn nh1) (t6.own (nn nh1) (t5.own nm_nil (t4.own (nn nh1) (t3.own (nn nh1) (t2.own (nn nh1) ⟨f1, zp1⟩))))))
    have T8 : T [h] Z H Z8 H8 := (((((((T.refl z0 : T [h] Z H Z H).step t1 mm_nil).step t2 mm_same).step t3 mm_same).step t4 mm_same).step t5 mm_nil).step t6 mm_same).step t7 mm_same |>.step t8 mm_nil
    have hh8 := (hh7.tt t8 nm_nil).mono (show n ≤ _ by omega)
    have pe : H8 p8 = some (.lst []) := f8
    have z8 := t8.zh
    clear t1 t2 t3 t4 t5 t6 t7 t8 f1 zp1 hh1 hh2 hh3 hh4 hh6 hh7 f5 z1 m8 f8
    obtain ⟨f8, zp8⟩ := own8
    have ho8 : ∀ u ∈ us, OdE Z8 u := fun u hu => (ho u hu).ex T8.z
    have fin : ∀ us' Z9 H9, T [p1] Z8 H8 Z9 H9 → Z9 p1 = none → H9 p1 = some (.lst us') → (∀ u ∈ us', OdE Z9 u) → us'.length ≤ us.length + 1 → Q (.ref p1) H9 := fun us' Z9 H9 t9 z9 f9 o9 l9 => by
      have tf : T [p1] Z9 H9 (upd Z9 p1 (.lst us')) H9 := T.fz t9.zh z9 f9
      exact q p1 us' _ H9 ((T8.step t9 (mm_1 (.inr n1))).step tf (mm_1 (.inr n1))) ((hh8.tt t9 (nm_cons nh1.symm nm_nil)).tt tf (nm_cons nh1.symm nm_nil)) upd_same (fun u hu => (o9 u hu).ex tf.z) l9
    have e57 : (10 : Int) ^ 9 = 1000000000 := by decide
    refine ⟨p1, p8, us, rfl, rfl, sq_of f8, sq_of pe, ?_⟩
    walk_at "ts"
    refine i_d (fun e0 => ?_) (fun e0 => ?_)
    · walk_at "tsL"
      rename_i p9 Z9 H9 n9 t9 f9
      obtain ⟨f10, zp10⟩ := t9.own nm_nil ⟨f8, zp8⟩
      refine t_catP t9.zh f10 (t9.zh _ _ f9) (by show us.length + 1 ≤ _; omega) fun pa Za Ha na ta fa => ?_
      exact q pa _ Za Ha ((T8.step t9 mm_nil).step ta mm_nil) ((hh8.tt t9 nm_nil).tt ta nm_nil) fa (fun u hu => by
        rcases List.mem_append.mp hu with hu | hu
        · exact (ho8 u hu).ex (t9.z.trans ta.z)
        · rw [List.mem_singleton.mp hu]; exact .int _) (by rw [List.length_append]; exact Nat.le_refl _)
    have ul : 0 < us.length := by omega
    walk_at "ts"
    rename_i x0 x1 y0 y1
    generalize at_ % (us.length : Int) = x at *
    generalize ot % (us.length : Int) = y at *
    obtain ⟨u1, hu1⟩ : ∃ u, us[x.toNat]? = some u := ⟨_, List.getElem?_eq_getElem (by omega)⟩
    obtain ⟨u2, hu2⟩ : ∃ u, us[y.toNat]? = some u := ⟨_, List.getElem?_eq_getElem (by omega)⟩
    have om1 := ho8 u1 (List.mem_of_getElem? hu1)
    have om2 := ho8 u2 (List.mem_of_getElem? hu2)
    refine i_d (fun e1 => ?_) (fun e1 => ?_)
    · walk_at "ts"
      refine s_ixL (sq_of f8) (atI_lt x0 hu1) ?_
      walk_at "ts"
      refine s_isiOI om1 z8 ?_
      cases i1 : intV u1 with
      | true =>
        walk_at "ts"
        refine s_ixL (sq_of f8) (atI_lt y0 hu2) ?_
        walk_at "ts"
        refine s_isiOI om2 z8 ?_
        cases i2 : intV u2 with
        | true =>
          walk_at "ts"
          refine s_ixL (sq_of f8) (atI_lt x0 hu1) ?_
          obtain ⟨k1, nx1⟩ := intV_num i1
          walk_at "ts"
          refine ⟨.int 0, u1, 0, k1, rfl, .int 0, nx1, ?_⟩
          obtain ⟨X, hX, mX, nX⟩ : ∃ X, (if k1 > 0 then u1 else V.int 0) = X ∧ ∃ m, NumX X m := by
            by_cases c : k1 > 0
            · exact ⟨_, rfl, k1, by rw [if_pos c]; exact nx1⟩
            · exact ⟨_, rfl, 0, by rw [if_neg c]; exact .int 0⟩
          rw [hX]
          walk_at "ts"
          refine ⟨.int (1 + many), X, _, mX, rfl, .int _, nX, ?_⟩
          obtain ⟨Y, hY, mY, nY⟩ : ∃ Y, (if mX < 1 + many then X else V.int (1 + many)) = Y ∧ ∃ m, NumX Y m := by
            by_cases c : mX < 1 + many
            · exact ⟨_, rfl, mX, by rw [if_pos c]; exact nX⟩
            · exact ⟨_, rfl, 1 + many, by rw [if_neg c]; exact .int _⟩
          rw [hY]
          walk_at "ts"
          refine s_ixL (sq_of f8) (atI_lt x0 hu1) ?_
          walk_at "ts"
          refine ⟨k1, mY, nx1, nY, ?_⟩
          walk_at "ts"
          refine pt_set z8 f8 zp8 ⟨x0, x1⟩ fun Z9 H9 t9 zp9 f9 => ?_
          walk_at "ts"
          obtain ⟨u3, hu3, m3, nx3⟩ := set_num (i := x.toNat) (k := k1 - mY) hu2 i2
          refine s_ixL (sq_of f9) (atI_lt y0 hu3) ?_
          walk_at "ts"
          refine ⟨m3, mY, nx3, nY, ?_⟩
          walk_at "ts"
          refine pt_set t9.zh f9 zp9 ⟨y0, by rw [List.length_set]; exact y1⟩ fun Za Ha ta zpa fa => ?_
          walk_at "ts"
          exact fin _ Za Ha (t9.step ta mm_same) zpa fa (ode_set (ode_set (fun u hu => (ho8 u hu).ex (t9.z.trans ta.z)) (.int _)) (.int _)) (by rw [List.length_set, List.length_set]; omega)
        | false =>
          walk_at "ts"
          refine s_ixL (sq_of f8) (atI_lt x0 hu1) ?_
          walk_at "ts"
          refine s_isiOI om1 z8 ?_
          rw [i1]
          walk_at "ts"
          refine s_ixL (sq_of f8) (atI_lt y0 hu2) ?_
          walk_at "ts"
          refine s_isiOI om2 z8 ?_
          rw [i2]
          walk_at "ts"
          exact fin us Z8 H8 (T.refl z8) zp8 f8 ho8 (Nat.le_succ _)
      | false =>
        walk_at "ts"
        refine s_ixL (sq_of f8) (atI_lt x0 hu1) ?_
        walk_at "ts"
        refine s_isiOI om1 z8 ?_
        rw [i1]
        walk_at "ts"
        exact fin us Z8 H8 (T.refl z8) zp8 f8 ho8 (Nat.le_succ _)
    · walk_at "ts"
      refine i_d (fun e2 => ?_) (fun e2 => ?_)
      · walk_at "ts"
        refine s_ixL (sq_of f8) (atI_lt x0 hu1) ?_
        walk_at "ts"
        refine s_isiOI om1 z8 ?_
        cases i1 : intV u1 with
        | true =>
          walk_at "ts"
          refine s_ixL (sq_of f8) (atI_lt x0 hu1) ?_
          obtain ⟨k1, nx1⟩ := intV_num i1
          walk_at "ts"
          rename_i p9 Z9 H9 n9 t9 f9 mo0 mo1 vv hvv
          obtain ⟨f9', zp9⟩ := t9.own nm_nil ⟨f8, zp8⟩
          refine ⟨k1, vv, nx1, .int vv, ?_⟩
          walk_at "ts"
          refine pt_set t9.zh f9' zp9 ⟨x0, x1⟩ fun Za Ha ta zpa fa => ?_
          walk_at "ts"
          exact fin _ Za Ha (((T.refl z8 : T [p1] Z8 H8 Z8 H8).step t9 mm_nil).step ta mm_same) zpa fa (ode_set (fun u hu => (ho8 u hu).ex (t9.z.trans ta.z)) (.int _)) (by rw [List.length_set]; omega)
        | false =>
          walk_at "ts"
          refine s_ixL (sq_of f8) (atI_lt x0 hu1) ?_
          walk_at "ts"
          refine s_isiOI om1 z8 ?_
          rw [i1]
          walk_at "ts"
          exact fin us Z8 H8 (T.refl z8) zp8 f8 ho8 (Nat.le_succ _)
      · walk_at "ts"
        refine i_d (fun e3 => ?_) (fun e3 => ?_)
        · walk_at "ts"
          refine pt_ins z8 f8 zp8 ⟨x0, x1⟩ (by omega) fun Z9 H9 t9 zp9 f9 => ?_
          walk_at "ts"
          refine fin _ Z9 H9 t9 zp9 f9 (fun u hu => ?_) (by simp only [List.length_append, List.length_take, List.length_drop, List.length_cons, List.length_nil]; omega)
          rcases List.mem_append.mp hu with hu | hu
          · rcases List.mem_append.mp hu with hu | hu
            · exact (ho8 u (List.mem_of_mem_take hu)).ex t9.z
            · rw [List.mem_singleton.mp hu]; exact .int _
          · exact (ho8 u (List.mem_of_mem_drop hu)).ex t9.z
        · walk_at "ts"
          refine i_d (fun e4 => ?_) (fun e4 => ?_)
          · walk_at "ts"
            refine pt_pop z8 f8 zp8 ⟨x0, x1⟩ (by omega) fun u Z9 H9 _ t9 zp9 f9 => ?_
            walk_at "ts"
            exact fin _ Z9 H9 t9 zp9 f9 (fun u hu => (ho8 u (List.mem_of_mem_eraseIdx hu)).ex t9.z) (by rw [List.length_eraseIdx]; split <;> omega)
          · walk_at "ts"
            refine i_d (fun e5 => ?_) (fun e5 => ?_)
            · walk_at "ts"
              rename_i p9 Z9 H9 n9 t9 f9 pa Za Ha na ta fa
              refine t_dnew ta.zh fun pb Zb Hb nb tb dm => ?_
              have zb := tb.zh
              have tf : T [pb] Zb Hb (upd Zb pb (.dK [])) Hb := T.fz tb.zh dm.zd dm.h
              have db : (upd Zb pb (.dK [])) pb = some (.dK []) := upd_same
              generalize upd Zb pb (.dK []) = Zc at tf db
              have zc := tf.zh
              have T8c : T [p1] Z8 H8 Zc Hb := ((((T.refl z8 : T [p1] Z8 H8 Z8 H8).step t9 mm_nil).step ta mm_nil).step tb mm_nil).step tf (mm_1 (.inr (t9.nn (ta.nn nb))))
              have own : Hb p1 = some (.lst us) ∧ Zc p1 = none := tf.own (nm_cons ((ne_alB nb ⟨_, (ta.own nm_nil (t9.own nm_nil ⟨f8, zp8⟩)).1⟩)) nm_nil) (tb.own nm_nil (ta.own nm_nil (t9.own nm_nil ⟨f8, zp8⟩)))
              walk_at "ts"
              rename_i pd Zd Hd nd td fd mo0 mo1
              obtain ⟨w, hw, ow⟩ : ∃ w, ([V.non, V.str "1", V.ref p9, V.ref pa, V.ref pb] : List V)[((1 + many) % 5).toNat]? = some w ∧ OdE Zd w := by
                have e9 : Zd p9 = some (.lst [V.int 1]) := td.z _ _ (tf.z _ _ (tb.z _ _ (ta.z _ _ f9)))
                have ea : Zd pa = some (.tup [V.int 1]) := td.z _ _ (tf.z _ _ (tb.z _ _ fa))
                have eb : Zd pb = some (.dK []) := td.z _ _ db
                have hc : (1 + many) % 5 = 0 ∨ (1 + many) % 5 = 1 ∨ (1 + many) % 5 = 2 ∨ (1 + many) % 5 = 3 ∨ (1 + many) % 5 = 4 := by omega
                rcases hc with c | c | c | c | c <;> rw [c]
                · exact ⟨_, rfl, _, .non⟩
                · exact ⟨_, rfl, _, .str ⟨"1", by decide +kernel⟩ (by decide +kernel)⟩
                · exact ⟨_, rfl, _, .lst e9⟩
                · exact ⟨_, rfl, _, .tup ea⟩
                · exact ⟨_, rfl, _, .dct eb⟩
              refine s_ixL (sq_of (td.zh _ _ fd)) (atI_lt mo0 hw) ?_
              walk_at "ts"
              obtain ⟨fp, zp⟩ := td.own nm_nil own
              refine pt_set td.zh fp zp ⟨x0, x1⟩ fun Ze He te zpe fe => ?_
              walk_at "ts"
              exact fin _ Ze He ((T8c.step td mm_nil).step te mm_same) zpe fe (ode_set (fun u hu => (ho8 u hu).ex ((T8c.z.trans td.z).trans te.z)) (ow.ex te.z)) (by rw [List.length_set]; omega)
            · walk_at "ts"
              refine i_d (fun e6 => ?_) (fun e6 => ?_)
              · walk_at "ts"
                rename_i p9 Z9 H9 n9 t9 f9 mo0 mo1
                obtain ⟨w, hw, ow⟩ : ∃ w, ([V.bl true, V.bl false] : List V)[((1 + many) % 2).toNat]? = some w ∧ OdE Z9 w := by
                  have hc : (1 + many) % 2 = 0 ∨ (1 + many) % 2 = 1 := by omega
                  rcases hc with c | c <;> rw [c]
                  · exact ⟨_, rfl, .bl _⟩
                  · exact ⟨_, rfl, .bl _⟩
                refine s_ixL (sq_of (t9.zh _ _ f9)) (atI_lt mo0 hw) ?_
                walk_at "ts"
                obtain ⟨fp, zp⟩ := t9.own nm_nil ⟨f8, zp8⟩
                refine pt_set t9.zh fp zp ⟨x0, x1⟩ fun Ze He te zpe fe => ?_
                walk_at "ts"
                exact fin _ Ze He (((T.refl z8 : T [p1] Z8 H8 Z8 H8).step t9 mm_nil).step te mm_same) zpe fe (ode_set (fun u hu => (ho8 u hu).ex (t9.z.trans te.z)) (ow.ex te.z)) (by rw [List.length_set]; omega)
              · walk_at "ts"
                refine s_ixL (sq_of f8) (atI_lt x0 hu1) ?_
                walk_at "ts"
                refine s_isiOI om1 z8 ?_
                cases i1 : intV u1 with
                | true =>
                  walk_at "ts"
                  refine s_ixL (sq_of f8) (atI_lt y0 hu2) ?_
                  walk_at "ts"
                  refine s_isiOI om2 z8 ?_
                  cases i2 : intV u2 with
                  | true =>
                    walk_at "ts"
                    refine i_d (fun e7 => ?_) (fun e7 => ?_)
                    · walk_at "ts"
                      obtain ⟨k1, nx1⟩ := intV_num i1
                      obtain ⟨k2, nx2⟩ := intV_num i2
                      refine s_ixL (sq_of f8) (atI_lt y0 hu2) ?_
                      walk_at "ts"
                      refine s_ixL (sq_of f8) (atI_lt x0 hu1) ?_
                      walk_at "ts"
                      refine ⟨k2, k1, nx2, nx1, ?_⟩
                      walk_at "ts"
                      refine ⟨k2 + k1, 1 + many, .int _, .int _, ?_⟩
                      walk_at "ts"
                      refine pt_set z8 f8 zp8 ⟨y0, y1⟩ fun Z9 H9 t9 zp9 f9 => ?_
                      walk_at "ts"
                      refine pt_set t9.zh f9 zp9 ⟨x0, by rw [List.length_set]; exact x1⟩ fun Za Ha ta zpa fa => ?_
                      walk_at "ts"
                      exact fin _ Za Ha (t9.step ta mm_same) zpa fa (ode_set (ode_set (fun u hu => (ho8 u hu).ex (t9.z.trans ta.z)) (.int _)) (.int _)) (by rw [List.length_set, List.length_set]; omega)
                    · walk_at "ts"
                      exact fin us Z8 H8 (T.refl z8) zp8 f8 ho8 (Nat.le_succ _)
                  | false =>
                    walk_at "ts"
                    exact fin us Z8 H8 (T.refl z8) zp8 f8 ho8 (Nat.le_succ _)
                | false =>
                  walk_at "ts"
                  exact fin us Z8 H8 (T.refl z8) zp8 f8 ho8 (Nat.le_succ _)

/-! ### _law_world -/
noncomputable def sp_law_world (K : PySem.W.Frag) : Sp := fun vs H Q _ => ∃ (h : Addr) (n : Nat) (Z : Hp), vs = [.ref h] ∧ Hand K Z H h (n + 3000) ∧
  ∀ (T P : Addr) (ms : List Int) (w more : Int) (H' : Hp), H P = none → ExM h H H' → Hand K Z H' h n → H' P = some (.lst (ms.map V.int)) → H' T = some (.tup [.ref P, .int w, .int more]) → ms ≠ [] → (∀ m ∈ ms, 0 ≤ m ∧ m ≤ 1000000000) → ms.length ≤ 120 → 0 < w → w ≤ 8 → 0 ≤ more → more ≤ 10000000000 → Q (.ref T) H'
theorem has_law_world (z : Z K mg) (F : FunAt K mg "_law_world" s_law_world ["_law_hand"]) (h_law_draw : Has P w K mg base "_law_draw" 1 (sp_law_draw K)) (h_law_far : Has P w K mg base "_law_far" 2 (sp_law_far K)) : Has P w K mg base "_law_world" 3 (sp_law_world K) := by
  refine has_of F sc_law_world (fun vs H Q E h => ?_) (fun f cdv A outer s H vs Q E hr h => ?_)
  · obtain ⟨h, n, Z, rfl, _⟩ := h
    rfl
  · obtain ⟨h, n, Z, rfl, hh, q⟩ := h
    refine ⟨_, (pss_cons (ps_set (i := 1) sc_law_world.nd rfl (by first | exact Or.inl rfl | exact Or.inr rfl) (pe_op op_plusA pe_int (pe_callH h_law_draw (by decide) hr rfl (pa_cons (pv 0) (pa_cons pe_int pa_nil)))))
        (pss_cons (ps_set (i := 2) sc_law_world.nd rfl (by first | exact Or.inl rfl | exact Or.inr rfl) (pe_callH h_law_draw (by decide) hr rfl (pa_cons (pv 0) (pa_cons pe_int pa_nil))))
        (pss_cons (ps_set (i := 3) sc_law_world.nd rfl (by first | exact Or.inl rfl | exact Or.inr rfl) (pe_callH h_law_far (by decide) hr rfl (pa_cons (pv 0) (pa_cons (pe_ix (ixA (K := K) rfl) (pe_lst (pa_cons pe_int (pa_cons pe_int (pa_cons (pe_op op_pow pe_int pe_int) (pa_cons (pe_op op_plusA (pe_op op_pow pe_int pe_int) pe_int) pa_nil))))) (pe_callH h_law_draw (by decide) hr rfl (pa_cons (pv 0) (pa_cons pe_int pa_nil))) (fun _ _ => rfl)) pa_nil))))
        (pss_cons (ps_set (i := 4) sc_law_world.nd rfl (by first | exact Or.inl rfl | exact Or.inr rfl) (pe_lst pa_nil))
        (pss_cons (ps_for PassesOwn.never rfl (pi_range1 (by rfl) z.b_range (pa_cons (pe_ix (ixA (K := K) rfl) (pe_lst (pa_cons (pe_op op_plusA pe_int (pe_callH h_law_draw (by decide) hr rfl (pa_cons (pv 0) (pa_cons pe_int pa_nil)))) (pa_cons pe_int pa_nil))) (pe_callTy (T := "int") call_int1A (by rfl) z.b_int (by decide +kernel) (pa_cons (pe_cmpR (eqA (K := K) rfl hr.units) (pe_callH h_law_draw (by decide) hr rfl (pa_cons (pv 0) (pa_cons pe_int pa_nil))) pe_int (nomark _)) pa_nil)) (fun _ _ => rfl)) pa_nil)) (pg_name (i := 5) sc_law_world.nd rfl (by first | exact Or.inl rfl | exact Or.inr rfl)) (pss_cons (ps_set (i := 6) sc_law_world.nd rfl (by first | exact Or.inl rfl | exact Or.inr rfl) (pe_callH h_law_far (by decide) hr rfl (pa_cons (pv 0) (pa_cons (pe_op op_plusA (pe_op op_pow pe_int pe_int) pe_int) pa_nil))))
        (pss_one (ps_expr (pe_bm PySem.F.plainAttrs_list PySem.F.slot_list_append PySem.F.type_list_append mt_append (pv 4) (pa_cons (pe_op op_mod (pv 6) (pe_ix (ixA (K := K) rfl) (pe_lst (pa_cons pe_int (pa_cons pe_int (pa_cons (pe_op op_plusA (pe_op op_pow pe_int pe_int) pe_int) (pa_cons pe_int pa_nil))))) (pv 2) (fun _ _ => rfl))) pa_nil))))))
        (pss_one (ps_ret (pe_tup (pa_cons (pv 4) (pa_cons (pv 1) (pa_cons (pv 3) pa_nil))))))))))), ?_⟩
    walk_at "cx"
    walk_at "ss"
    refine ⟨h, 8, _, _, rfl, hh, by decide, by decide, fun y H1 y0 y1 m1 hh1 => ?_⟩
    walk_at "ss"
    refine ⟨h, 4, _, _, rfl, hh1, by decide, by decide, fun way H2 r0 r1 m2 hh2 => ?_⟩
    walk_at "ss"
    rename_i p3 H3 n3 e3 f3
    refine ⟨h, 4, _, _, rfl, hh2.ex e3, by decide, by decide, fun z H4 z0 z1 m4 hh4 => ?_⟩
    have np3 : p3 ≠ h := by walk_at "ne"
    have f4 := m4 _ _ np3 f3
    walk_at "ss"
    rename_i v5 hv5
    have f5 := trivial
    refine ⟨h, v5, n + 2900, _, rfl, hh4.mono (by omega), by omega, by omega, fun more H6 s0 s1 m6 hh6 => ?_⟩
    walk_at "ss"
    rename_i p7 H7 n7 e7 f7
    refine ⟨h, 9, _, _, rfl, hh6.ex e7, by decide, by decide, fun t H8 t0 t1 m8 hh8 => ?_⟩
    have np7 : p7 ≠ h := by walk_at "ne"
    have f8 := m8 _ _ np7 f7
    walk_at "ss"
    rename_i p9 H9 n9 e9 f9
    refine ⟨h, 4, _, _, rfl, hh8.ex e9, by decide, by decide, fun u H10 u0 u1 m10 hh10 => ?_⟩
    have np9 : p9 ≠ h := by walk_at "ne"
    have f10 := m10 _ _ np9 f9
    have f710 := m10 _ _ np7 (e9 _ _ f8)
    walk_at "ss"
    rename_i many hmany
    have g7 : H10 p7 = some (.lst []) := f710
    have m010 : ExM h H H10 := (((((((m1.trans m2).trans e3.toM).trans m4).trans m6).trans e7.toM).trans m8).trans e9.toM).trans m10
    have n07 : H p7 = none := ((((m1.trans m2).trans e3.toM).trans m4).trans m6).back n7 np7
    have hm0 : 1 ≤ many ∧ many ≤ 120 := by omega
    refine u_forR1 (fun i σ H' => ∃ (ms : List Int) (x1 x2 : Option V), σ = [some (.ref h), some (.int (1 + y)), some (.int way), some (.int more), some (.ref p7), x1, x2] ∧ ExM h H H' ∧ Hand K Z H' h (n + 2800 - 10 * i) ∧ H' p7 = some (.lst (ms.map V.int)) ∧ ms.length = i ∧ ∀ m ∈ ms, 0 ≤ m ∧ m ≤ 1000000000) (by omega)
      ⟨[], _, _, rfl, m010, hh10.mono (by omega), g7, rfl, fun _ h => nomatch h⟩ (fun i σ H' hi hh => ?_) (fun σ H' hh => ?_)
    · obtain ⟨ms, x1, x2, rfl, m11, hh11, f11, l11, b11⟩ := hh
      walk_at "ss"
      refine ⟨h, 1000000001, n + 2800 - 10 * (i + 1), _, rfl, hh11.mono (by omega), by decide, by decide, fun far H12 b0 b1 m12 hh12 => ?_⟩
      have f12 : H12 p7 = some (.lst (ms.map V.int)) := m12 _ _ np7 f11
      walk_at "ss"
      rename_i p13 H13 n13 e13 f13 v13 hv13 c0 c1
      refine n_app (e13 _ _ f12) (by rw [List.length_map]; omega) fun H14 m14 f14 => ?_
      walk_at "ss"
      refine ⟨ms ++ [far % v13], _, _, rfl, fun b o nb g => ?_, ?_, by rw [f14, List.map_append]; rfl, by rw [List.length_append, l11]; rfl, fun x hx => ?_⟩
      · exact m14 b o (ne_of_none g n07) (e13 b o (m12 b o nb (m11 b o nb g)))
      · exact (hh12.ex e13).exm m14 np7.symm (Ex.back hh.z n07)
      · rcases List.mem_append.mp hx with hx | hx
        · exact b11 x hx
        · rw [List.mem_singleton.mp hx]
          omega
    · obtain ⟨ms, x1, x2, rfl, m11, hh11, f11, l11, b11⟩ := hh
      walk_at "ss"
      rename_i p12 H12 n12 e12 f12
      refine q p12 p7 ms _ more H12 n07 (m11.trans e12.toM) ((hh11.ex e12).mono (by omega)) (e12 _ _ f11) f12 (fun z => by rw [z, List.length_nil] at l11; omega) b11 (by omega) (by omega) (by omega) s0 (by omega)

/-! ### _law_open -/
noncomputable abbrev sp_law_open (K : PySem.W.Frag) : Sp := spOpen K
theorem has_law_open (z : Z K mg) (F : FunAt K mg "_law_open" s_law_open ["_law_script", "_law_place"])  : Has P w K mg base "_law_open" 1 (sp_law_open K) := by
  refine has_of F sc_law_open (fun vs H Q E h => ?_) (fun f cdv A outer s H vs Q E hr h => ?_)
  · obtain ⟨a, ns, x, rfl, _⟩ := h
    rfl
  · obtain ⟨a, ns, x, rfl, hS, h0, h1, q⟩ := h
    refine ⟨_, (pss_cons (ps_setLc (i := 2) (own := [("_law_cell", 5)]) (g := gName 5) (tt := tYes) rfl sc_law_open.nd rfl rfl (sw_true rfl rfl rfl (by decide +kernel)) (piL (K := K) rfl (pe_slice (slA (K := K) rfl) (pv 0) po_none (po_some pe_int))) (blkOk_by (own := [("_law_cell", 5)]) (N := ["_law_script", "_law_place", "_law_cells", "_law_at", "_law_digits", "_law_cell"]) (sc := defScope s_law_open) (by decide +kernel)) (fun _ _ _ _ _ => (pg_name (i := 5) sc_law_open.nd rfl (by first | exact Or.inl rfl | exact Or.inr rfl))) (fun _ _ _ _ _ => pts_nil) (fun _ _ _ _ _ => (pe_callB (id := "abs") call_absA (by rfl) z.b_abs (by decide +kernel) (pa_cons (pv 5) pa_nil))))
        (Evl.pss_cut (ps_if (pt_cmpR (eqA (K := K) rfl hr.units) (pv 2) (pe_lst pa_nil) (nomark _)) (pss_one (ps_set (i := 2) sc_law_open.nd rfl (by first | exact Or.inl rfl | exact Or.inr rfl) (pe_lst (pa_cons pe_int pa_nil)))) pss_nil)
        (pss_cons (ps_set (i := 3) sc_law_open.nd rfl (by first | exact Or.inl rfl | exact Or.inr rfl) (pe_op op_mod (pv 1) (pe_callB (id := "len") (lenA (K := K) rfl) (by rfl) z.b_len (by decide +kernel) (pa_cons (pv 2) pa_nil))))
        (pss_cons (ps_set (i := 4) sc_law_open.nd rfl (by first | exact Or.inl rfl | exact Or.inr rfl) pe_int)
        (Evl.pss_cut (ps_if (PW.pt (pw_and (pt_cmpR op_ge (pe_ix (ixA (K := K) rfl) (pv 2) (pv 3) (fun _ _ => rfl)) (pe_op op_pow pe_int pe_int) (nomark _)) (pw_and1 (pt_cmpR op_lt (pv 1) (pe_callB (id := "len") (lenA (K := K) rfl) (by rfl) z.b_len (by decide +kernel) (pa_cons (pv 2) pa_nil)) (nomark _))))) (pss_one (ps_set (i := 4) sc_law_open.nd rfl (by first | exact Or.inl rfl | exact Or.inr rfl) (pe_ix (ixA (K := K) rfl) (pv 2) (pv 3) (fun _ _ => rfl)))) pss_nil)
        (pss_one (ps_ret (pe_lst (pa_cons (pv 4) (pa_cons (pe_op op_plusA pe_int (pe_op op_multA pe_int (pv 1))) (pa_cons (pe_op op_plusA (pe_slice (slA (K := K) rfl) (pv 2) (po_some (pv 3)) po_none) (pe_slice (slA (K := K) rfl) (pv 2) po_none (po_some (pv 3)))) pa_nil))))))))))), ?_⟩
    walk_at "cx"
    walk_at "ss"
    rename_i p1 H1 n1 e1 f1
    obtain ⟨cs, hc, hl⟩ : ∃ cs : List Int, cutV (ns.map V.int) none (some 63) = cs.map V.int ∧ cs.length ≤ 63 := ⟨cutI ns none (some 63), cutV_ints _ _ _, by
      rw [cutI_to _ (by decide), List.length_take]
      exact Nat.min_le_left _ _⟩
    rw [hc] at f1
    refine u_mapL V.int cs (fun i => V.int (if i < 0 then -i else i)) (sq_of f1) (by omega) (fun i hi H2 e2 A ha => ?_) (fun D H2 n2 e2 f2 => ?_)
    · walk_at "ss"
      exact ha _ (Ex.refl _)
    · obtain ⟨xs, hx, hxl⟩ : ∃ xs : List Int, cs.map (fun i => V.int (if i < 0 then -i else i)) = xs.map V.int ∧ xs.length ≤ 63 := ⟨cs.map fun i => if i < 0 then -i else i, by rw [List.map_map]; rfl, by rw [List.length_map]; exact hl⟩
      rw [hx] at f2
      walk_at "ss"
      refine s_cut (fun σ' H' => ∃ (D : Addr) (ys : List Int), σ' = [some (.ref a), some (.int x), some (.ref D), none, none, none] ∧ Ex H H' ∧ H' D = some (.lst (ys.map V.int)) ∧ 0 < ys.length ∧ ys.length ≤ 63) ?_ ?_
      · walk_at "ss"
        refine i_d (fun hd => ?_) (fun hd => ?_)
        · walk_at "ss"
          rename_i G n3 e3 f3
          exact ⟨_, [0], rfl, by walk_at "ex", f3, by decide, by decide⟩
        · walk_at "ss"
          exact ⟨_, xs, rfl, by walk_at "ex", by walk_at "hp", List.length_pos_iff.mpr hd, hxl⟩
      · rintro σ' H3 ⟨D2, ys, rfl, e3, f3, hy, hy2⟩
        walk_at "ss"
        rename_i b1 b2
        refine s_cut (fun σ' H' => ∃ (d : Int), σ' = [some (.ref a), some (.int x), some (.ref D2), some (.int (x % ys.length)), some (.int d), none] ∧ H' = H3) ?_ ?_
        · walk_at "ss"
          refine i_d (fun hd => ?_) (fun hd => ?_)
          · walk_at "ss"
            refine i_d (fun hd => ?_) (fun hd => ?_)
            · walk_at "ss"
              exact ⟨_, rfl, rfl⟩
            · walk_at "ss"
              exact ⟨_, rfl, rfl⟩
          · walk_at "ss"
            exact ⟨_, rfl, rfl⟩
        · rintro σ' H4 ⟨d, rfl, rfl⟩
          walk_at "ss"
          rename_i p2 G2 n4 e4 f4 p3 G3 n5 e5 f5
          rw [cutV_ints, cutI_from _ b1] at f4
          rw [cutV_ints, cutI_to _ b1] at f5
          refine n_cat (by walk_at "hp") f5 ?_ fun p4 G4 n6 e6 f6 => ?_
          · rw [List.length_map, List.length_map, List.length_drop, List.length_take]
            omega
          · walk_at "ss"
            rename_i p5 G5 n7 e7 f7
            rw [← List.map_append] at f6
            have n0 : H p5 = none := Ex.back (by walk_at "ex") n7
            have n4' : H p4 = none := Ex.back (by walk_at "ex") n6
            exact q p5 p4 d _ G5 n0 n4' (fun z => by rw [z, f6] at n7; cases n7) (by walk_at "ex") f7 (e7 _ _ f6) (by rw [List.length_append, List.length_drop, List.length_take]; omega)

/-! ### law -/
noncomputable def sp_law (K : PySem.W.Frag) : Sp := fun vs H Q _ => ∃ (a : Addr) (ns : List Int), vs = [.ref a] ∧ SqL K H a (ns.map V.int) ∧ ns.length ≤ 63 ∧ ∀ H', Q (.bl true) H'
theorem ok_law {f : Addr} {fd : FuncData} (z : Z K mg) (F : Fun K "law" "law" s_law f fd) (h_law_right : Has P w K mg base "_law_right" 6 (sp_law_right K)) (h_law_step : Has P w K mg base "_law_step" 3 (sp_law_step K)) (h_law_is_put : Has P w K mg base "_law_is_put" 1 (sp_law_is_put K)) (h_law_least : Has P w K mg base "_law_least" 1 (sp_law_least K)) (h_law_greatest : Has P w K mg base "_law_greatest" 2 (sp_law_greatest K)) (h_least_spill : Has P w K mg base "least_spill" 4 (sp_least_spill K)) (h_greatest_spill : Has P w K mg base "greatest_spill" 4 (sp_greatest_spill K)) (h_law_world : Has P w K mg base "_law_world" 3 (sp_law_world K)) (h_law_draw : Has P w K mg base "_law_draw" 1 (sp_law_draw K)) (h_law_open : Has P w K mg base "_law_open" 1 (sp_law_open K)) : FnOk P w K mg base CX0 7 f fd ["_law_script"] (sp_law K) := by
  refine fnok_of F sc_law (fun vs H Q E h => ?_) (fun cdv A outer s H vs Q E hr h => ?_)
  · obtain ⟨a, ns, rfl, _⟩ := h
    rfl
  · obtain ⟨sa, ns, rfl, hS, hl, q⟩ := h
    refine ⟨_, (pss_cons (ps_for PassesOwn.never rfl (pi_range1 (by rfl) z.b_range (pa_cons pe_int pa_nil)) (pg_name (i := 1) sc_law.nd rfl (by first | exact Or.inl rfl | exact Or.inr rfl)) (pss_cons (ps_set (i := 2) sc_law.nd rfl (by first | exact Or.inl rfl | exact Or.inr rfl) (pe_callH h_law_open (by decide) hr rfl (pa_cons (pv 0) (pa_cons (pv 1) pa_nil))))
        (pss_cons (ps_set (i := 3) sc_law.nd rfl (by first | exact Or.inl rfl | exact Or.inr rfl) (pe_callH h_law_draw (by decide) hr rfl (pa_cons (pv 2) (pa_cons pe_int pa_nil))))
        (pss_cons (ps_asg (pe_callH h_law_world (by decide) hr rfl (pa_cons (pv 2) pa_nil)) (pg_tup rfl (pgs_cons (pg_name (i := 4) sc_law.nd rfl (by first | exact Or.inl rfl | exact Or.inr rfl)) (pgs_cons (pg_name (i := 5) sc_law.nd rfl (by first | exact Or.inl rfl | exact Or.inr rfl)) (pgs_cons (pg_name (i := 6) sc_law.nd rfl (by first | exact Or.inl rfl | exact Or.inr rfl)) pgs_nil)))))
        (pss_cons (ps_par (i := 7) (j := 8) rfl sc_law.nd rfl rfl (by decide) rfl rfl (pa_cons (pe_callH h_greatest_spill (by decide) hr rfl (pa_cons (pv 4) (pa_cons (pv 5) (pa_cons (pv 6) pa_nil)))) (pa_cons (pe_callH h_least_spill (by decide) hr rfl (pa_cons (pv 4) (pa_cons (pv 5) (pa_cons (pv 6) pa_nil)))) pa_nil)) rfl)
        (pss_cons (ps_if (PW.pt (pw_or (pt_cmpR (neA (K := K) rfl hr.units) (pe_ix (ixA (K := K) rfl) (pv 7) pe_int (fun _ _ => rfl)) (pe_callH h_law_greatest (by decide) hr rfl (pa_cons (pv 4) (pa_cons (pv 5) (pa_cons (pv 6) pa_nil)))) (nomark _)) (pw_or1 (pt_cmpR (neA (K := K) rfl hr.units) (pe_ix (ixA (K := K) rfl) (pv 8) pe_int (fun _ _ => rfl)) (pe_callH h_law_least (by decide) hr rfl (pa_cons (pv 4) (pa_cons (pv 5) (pa_cons (pv 6) pa_nil)))) (nomark _))))) (pss_one (ps_ret pe_bl)) pss_nil)
        (pss_cons (ps_set (i := 9) sc_law.nd rfl (by first | exact Or.inl rfl | exact Or.inr rfl) (pe_lst (pa_cons (pe_ix (ixA (K := K) rfl) (pv 7) pe_int (fun _ _ => rfl)) (pa_cons (pe_ix (ixA (K := K) rfl) (pv 8) pe_int (fun _ _ => rfl)) pa_nil))))
        (pss_cons (ps_if (PW.pt (pw_or (pt_not (pt_val (pe_callH h_law_is_put (by decide) hr rfl (pa_cons (pv 4) (pa_cons (pv 6) (pa_cons (pe_ix (ixA (K := K) rfl) (pv 9) pe_int (fun _ _ => rfl)) pa_nil)))))) (pw_or1 (pt_not (pt_val (pe_callH h_law_is_put (by decide) hr rfl (pa_cons (pv 4) (pa_cons (pv 6) (pa_cons (pe_ix (ixA (K := K) rfl) (pv 9) pe_int (fun _ _ => rfl)) pa_nil))))))))) (pss_one (ps_ret pe_bl)) pss_nil)
        (pss_cons (ps_for PassesOwn.never rfl (piL (K := K) rfl (pe_op op_plusA (pv 9) (pe_lst (pa_cons (pe_op op_plusA (pe_lst (pa_cons (pv 6) pa_nil)) (pe_op op_multA (pe_lst (pa_cons pe_int pa_nil)) (pe_op op_sub (pe_callB (id := "len") (lenA (K := K) rfl) (by rfl) z.b_len (by decide +kernel) (pa_cons (pv 4) pa_nil)) pe_int))) pa_nil)))) (pg_name (i := 10) sc_law.nd rfl (by first | exact Or.inl rfl | exact Or.inr rfl)) (pss_one (ps_for PassesOwn.never rfl (pi_range1 (by rfl) z.b_range (pa_cons pe_int pa_nil)) (pg_name (i := 11) sc_law.nd rfl (by first | exact Or.inl rfl | exact Or.inr rfl)) (pss_cons (ps_if (pt_not (pt_val (pe_callH h_law_right (by decide) hr rfl (pa_cons (pv 4) (pa_cons (pv 5) (pa_cons (pv 6) (pa_cons (pv 10) pa_nil))))))) (pss_one (ps_ret pe_bl)) pss_nil)
        (pss_one (ps_set (i := 10) sc_law.nd rfl (by first | exact Or.inl rfl | exact Or.inr rfl) (pe_callH h_law_step (by decide) hr rfl (pa_cons (pv 2) (pa_cons (pv 10) pa_nil)))))))))
        (pss_one (ps_for PassesOwn.never rfl (piL (K := K) rfl (pe_lst (pa_cons (pe_ix (ixA (K := K) rfl) (pe_lst (pa_cons pe_non (pa_cons (pe_callTy (T := "tuple") call_tuple_of (by rfl) z.b_tuple (by decide +kernel) (pa_cons (pe_ix (ixA (K := K) rfl) (pv 9) pe_int (fun _ _ => rfl)) pa_nil)) (pa_cons pe_str (pa_cons pe_int (pa_cons pe_dnewK pa_nil)))))) (pv 3) (fun _ _ => rfl)) (pa_cons (pe_lst pa_nil) (pa_cons (pe_op op_plusA (pe_ix (ixA (K := K) rfl) (pv 9) pe_int (fun _ _ => rfl)) (pe_lst (pa_cons pe_int pa_nil))) pa_nil))))) (pg_name (i := 12) sc_law.nd rfl (by first | exact Or.inl rfl | exact Or.inr rfl)) (pss_one (ps_if (pt_not (pt_val (pe_callH h_law_right (by decide) hr rfl (pa_cons (pv 4) (pa_cons (pv 5) (pa_cons (pv 6) (pa_cons (pv 12) pa_nil))))))) (pss_one (ps_ret pe_bl)) pss_nil)))))))))))))
        (pss_one (ps_ret pe_bl))), ?_⟩
    walk_at "cx"
    have z0 : Ex H H := Ex.refl _
    walk_at "ts"
    refine u_forR1 (fun i σ H' => ∃ x1 x2 x3 x4 x5 x6 x7 x8 x9 x10 x11 x12 Z', σ = [some (.ref sa), x1, x2, x3, x4, x5, x6, x7, x8, x9, x10, x11, x12] ∧ T [] H H Z' H') (by omega) ⟨_, _, _, _, _, _, _, _, _, _, _, _, H, rfl, T.refl z0⟩ (fun i σ H1 hi hq => ?_) (fun σ H1 hq => ?_)
    · obtain ⟨x1, x2, x3, x4, x5, x6, x7, x8, x9, x10, x11, x12, Z1, rfl, t1⟩ := hq
      have S1 : SqL K Z1 sa (ns.map V.int) := t1.z.sq hS
      have z1 := t1.zh
      walk_at "ts"
      rename_i h Z2 H2 nh t2 hh2 wh Z3 H3 wh0 wh1 t3 hh3
      have t13 : T [h] Z1 H1 Z3 H3 := ((T.refl z1 : T [h] Z1 H1 Z1 H1).step t2 mm_nil).step t3 mm_same
      have hh3' : Hand K Z3 H3 h (2000 + 3000) := hh3.mono (by omega)
      have z3 := t13.zh
      clear t2 t3 hh2 hh3 S1
      refine ⟨h, 2000, Z3, rfl, hh3', fun tw P ms w more H4 nP m4 hh4 fP fT m0 mb ml w0 w1 mo0 mo1 => ?_⟩
      have t4 : T [h] Z3 H3 Z3 H4 := T.ofExM m4 hh4.at z3 hh4.zn
      have zP : Z3 P = none := Ex.back z3 nP
      have tf : T [P] Z3 H4 (upd Z3 P (.lst (ms.map V.int))) H4 := T.fz hh4.z zP fP
      have lsP : Ls (upd Z3 P (.lst (ms.map V.int))) P ms := Ls.ofInts upd_same
      have hh4' := hh4.tt tf (nm_cons (ne_alB nP hh3'.at) nm_nil)
      generalize upd Z3 P (.lst (ms.map V.int)) = Z4 at tf lsP hh4'
      have t14 : T [h] Z1 H1 Z4 H4 := (t13.step t4 mm_same).step tf (mm_1 (.inr (t13.nn nP)))
      have z4 := t14.zh
      clear t13 t4 tf hh3' hh4 zP z3
      have mp : ∀ m ∈ ms, 0 ≤ m := fun m hm => (mb m hm).1
      walk_at "ts"
      refine s_gt3 (st_of fT) ?_
      walk_at "ts"
      refine s_par2 ?_
      walk_at "ts"
      refine ⟨P, ms, w, more, rfl, sq_of (z4 _ _ lsP.ints), m0, mp, by omega, w0, by omega, mo0, fun T1 P1 p1 H5 nP1 nT1 ne1 e5 fP1 fT1 pu1 sp1 => ?_⟩
      obtain ⟨Z5, t5, gP1, gT1⟩ := two_new z4 nP1 nT1 ne1 e5 fP1 fT1
      have z5 := t5.zh
      have ls5 := lsP.tt t5
      walk_at "ts"
      refine ⟨P, ms, w, more, rfl, sq_of (z5 _ _ ls5.ints), m0, mp, by omega, w0, by omega, mo0, fun T2 P2 p2 H6 nP2 nT2 ne2 e6 fP2 fT2 pu2 sp2 => ?_⟩
      obtain ⟨Z6, t6, gP2, gT2⟩ := two_new z5 nP2 nT2 ne2 e6 fP2 fT2
      have z6 := t6.zh
      have ls6 := ls5.tt t6
      have t16 := (t14.step t5 mm_nil).step t6 mm_nil
      have hh6 := (hh4'.tt t5 nm_nil).tt t6 nm_nil
      have gP1' := t6.z _ _ gP1
      have gT1' := t6.z _ _ gT1
      clear t14 t5 t6 hh4' lsP ls5 gP1 gT1 fP1 fT1 fP2 fT2 z4 z5 fP fT m4 e5 e6
      walk_at "ts"
      refine ⟨P, ms, w, more, rfl, sq_of (z6 _ _ ls6.ints), mp, by omega, w0, by omega, mo0, fun H7 e7 => ?_⟩
      walk_at "ts"
      refine ⟨P, ms, w, more, rfl, sq_of ((z6.trans e7) _ _ ls6.ints), mp, by omega, w0, by omega, fun H8 e8 => ?_⟩
      have t8 : T [] Z6 H6 Z6 H8 := T.ofEx (e7.trans e8) z6
      have t18 := t16.step t8 mm_nil
      have hh8 := hh6.tt t8 nm_nil
      have z8 := t8.zh
      clear t16 hh6 z6 e7 e8 t8
      walk_at "ts"
      rename_i pp Z9 H9 n9 t9 f9
      have z9 := t9.zh
      have ls9 := ls6.tt t9
      have g1 := t9.z _ _ gP1'
      have g2 := t9.z _ _ gP2
      have pl1 := pu1.1
      have pl2 := pu2.1
      refine ⟨P, ms, more, .ref P1, some (p1.map V.int), Z9, rfl, ls9, z9, .lst g1 ints_ode, fun us e => by cases e; rw [List.length_map]; omega, ?_⟩
      rw [putL_put pu1]
      walk_at "ts"
      refine ⟨P, ms, more, .ref P2, some (p2.map V.int), Z9, rfl, ls9, z9, .lst g2 ints_ode, fun us e => by cases e; rw [List.length_map]; omega, ?_⟩
      rw [putL_put pu2]
      have t19 := t18.step t9 mm_nil
      have hh9 := hh8.tt t9 nm_nil
      clear t18 t9 hh8 z8 ls6 gP1' gP2 gT1' gT2
      have lp := List.length_pos_iff.mpr m0
      walk_at "ts"
      rename_i pa Za Ha na ta fa pb Zb Hb nb tb fb
      refine pt_rep tb.zh (tb.zh _ _ fb) (by omega) fun pc Zc Hc nc tc fc => ?_
      have e9c := (ta.z.trans tb.z).trans tc.z
      refine t_catP tc.zh (tc.zh _ _ (tc.z _ _ (tb.z _ _ fa))) (tc.zh _ _ fc) (by rw [List.length_replicate]; show 1 + _ ≤ _; omega) fun pd Zd Hd nd td fd => ?_
      have zd := td.zh
      have t1d := (((t19.step ta mm_nil).step tb mm_nil).step tc mm_nil).step td mm_nil
      have hhd := (((hh9.tt ta nm_nil).tt tb nm_nil).tt tc nm_nil).tt td nm_nil
      have lsd := (((ls9.tt ta).tt tb).tt tc).tt td
      have e9d := e9c.trans td.z
      have g1d := e9d _ _ g1
      have g2d := e9d _ _ g2
      have f9d := e9d _ _ f9
      clear ta tb tc td fa fb fc e9c t19 hh9 ls9 g1 g2 f9 e9d z9
      walk_at "ts"
      rename_i pe Ze He ne te fe
      refine t_catP te.zh (te.zh _ _ (te.z _ _ f9d)) (te.zh _ _ fe) (by show 2 + 1 ≤ 100000; decide) fun pf Zf Hf nf tf ff => ?_
      have zf := tf.zh
      have t1f := (t1d.step te mm_nil).step tf mm_nil
      have hhf := (hhd.tt te nm_nil).tt tf nm_nil
      have lsf := (lsd.tt te).tt tf
      have edf := te.z.trans tf.z
      have g1f := edf _ _ g1d
      have g2f := edf _ _ g2d
      have fdf := edf _ _ fd
      have f9f := edf _ _ f9d
      clear te tf fe t1d hhd lsd g1d g2d fd f9d edf zd
      have each : ∀ v ∈ ([.ref P1, .ref P2] ++ [.ref pd] : List V), PutAt Zf 130 v := fun v hv => by
        rcases List.mem_append.mp hv with hv | hv
        · rcases List.mem_cons.mp hv with e | hv
          · exact ⟨P1, _, e, g1f, ints_ode, by rw [List.length_map]; omega⟩
          · exact ⟨P2, _, List.mem_singleton.mp hv, g2f, ints_ode, by rw [List.length_map]; omega⟩
        · refine ⟨pd, _, List.mem_singleton.mp hv, fdf, fun u hu => ?_, by rw [List.length_append, List.length_replicate]; show 1 + _ ≤ _; omega⟩
          rcases List.mem_append.mp hu with hu | hu
          · rw [List.mem_singleton.mp hu]; exact .int _
          · rw [List.eq_of_mem_replicate hu]; exact .int _
      walk_at "ts"
      refine u_forL (fun j σ H' => ∃ x1 x2 x3 x4 x5 x6 Z', σ = [some (.ref sa), x1, some (.ref h), some (.int wh), some (.ref P), some (.int w), some (.int more), x2, x3, some (.ref pp), x4, x5, x6] ∧ T [h] Zf Hf Z' H' ∧ Hand K Z' H' h (80 * (3 - j) + 100)) (sq_of (zf _ _ ff)) ⟨_, _, _, _, _, _, Zf, rfl, T.refl zf, hhf.mono (by omega)⟩ (fun j σ H' _ hh => ?_) (fun j v σ Hg hv hh => ?_) (fun σ Hg hh => ?_)
      · obtain ⟨x1, x2, x3, x4, x5, x6, Z', _, t, _⟩ := hh
        exact sq_of (t.zh _ _ (t.z _ _ ff))
      · obtain ⟨x1, x2, x3, x4, x5, x6, Zg, rfl, tg, hg⟩ := hh
        have jl : j < 3 := (List.getElem?_eq_some_iff.mp hv).1
        have pv := (each v (List.mem_of_getElem? hv)).ex tg.z
        obtain ⟨pu, us, rfl, fu, ou, lu⟩ := pv
        have zg := tg.zh
        walk_at "ts"
        refine u_forR1 (fun i σ H' => ∃ pu x1 x2 x3 x4 x5 Z', σ = [some (.ref sa), x1, some (.ref h), some (.int wh), some (.ref P), some (.int w), some (.int more), x2, x3, some (.ref pp), some (.ref pu), x4, x5] ∧ T [h] Zg Hg Z' H' ∧ Hand K Z' H' h (80 * (3 - (j + 1)) + 100 + 20 * (4 - i)) ∧ PutAt Z' (130 + i) (.ref pu)) (by omega) ⟨pu, _, _, _, _, _, Zg, rfl, T.refl zg, hg.mono (by omega), pu, us, rfl, fu, ou, lu⟩ (fun i σ Hi hi hh => ?_) (fun σ Hi hh => ?_)
        · obtain ⟨pu, x1, x2, x3, x4, x5, Zi, rfl, ti, hhi, pu', us', ee, fu', ou', lu'⟩ := hh
          cases ee
          have zi := ti.zh
          have i4 : i < 4 := by omega
          walk_at "ts"
          refine ⟨P, ms, w, more, .ref pu, some us', Zi, rfl, (lsf.tt tg).tt ti, zi, m0, mp, by omega, w0, by omega, mo0, .lst fu' ou', fun us e => by cases e; omega, fun Zj Hj tj => ?_⟩
          walk_at "ts"
          refine ⟨h, pu, us', 80 * (3 - (j + 1)) + 100 + 20 * (4 - (i + 1)), Zj, rfl, (hhi.tt tj nm_nil).mono (by omega), tj.z _ _ fu', fun u hu => (ou' u hu).ex tj.z, by omega, fun pk us2 Zk Hk tk hhk fk ok2 lk => ?_⟩
          walk_at "ts"
          exact ⟨pk, _, _, _, _, _, Zk, rfl, (ti.step tj mm_nil).step tk mm_same, hhk, pk, us2, rfl, fk, ok2, by omega⟩
        · obtain ⟨pu, x1, x2, x3, x4, x5, Zi, rfl, ti, hhi, _⟩ := hh
          exact ⟨_, _, _, _, _, _, Zi, rfl, tg.step ti mm_same, hhi.mono (by omega)⟩
      · obtain ⟨x1, x2, x3, x4, x5, x6, Zg, rfl, tg, hg⟩ := hh
        have zg := tg.zh
        have t1g := t1f.step tg mm_same
        have g1g := tg.z _ _ g1f
        have f9g := tg.z _ _ f9f
        have lsg := lsf.tt tg
        clear t1f tg each g1f g2f fdf ff f9f lsf hhf zf
        walk_at "ts"
        refine ⟨P1, p1.map V.int, rfl, .inl ⟨sq_of (zg _ _ g1g), fun tl ntl => ?_⟩⟩
        have t20 : T [] Zg Hg (upd Zg tl (.tup (p1.map V.int))) (upd Hg tl (.tup (p1.map V.int))) := T.new ntl zg
        have f20 : (upd Zg tl (.tup (p1.map V.int))) tl = some (.tup (p1.map V.int)) := upd_same
        generalize upd Zg tl (.tup (p1.map V.int)) = Z20 at t20 f20
        generalize upd Hg tl (.tup (p1.map V.int)) = H20 at t20
        have z20 := t20.zh
        walk_at "ts"
        refine t_dnew z20 fun pd2 Z21 H21 n21 t21 dm => ?_
        have tf : T [pd2] Z21 H21 (upd Z21 pd2 (.dK [])) H21 := T.fz t21.zh dm.zd dm.h
        have f22 : (upd Z21 pd2 (.dK [])) pd2 = some (.dK []) := upd_same
        generalize upd Z21 pd2 (.dK []) = Z22 at tf f22
        have z22 := tf.zh
        have tg2 : T [] Zg Hg Z22 H21 := (t20.step t21 mm_nil).step tf (mm_1 (.inr (t20.nn n21)))
        have f20' := tf.z _ _ (t21.z _ _ f20)
        clear t20 t21 tf dm f20 z20
        walk_at "ts"
        rename_i p23 Z23 H23 n23 t23 f23
        have z23 := t23.zh
        obtain ⟨th0, hth, oth⟩ : ∃ x, ([V.non, V.ref tl, V.str "put", V.int 7, V.ref pd2] : List V)[wh.toNat]? = some x ∧ ThV Z23 x none := by
          have hc : wh = 0 ∨ wh = 1 ∨ wh = 2 ∨ wh = 3 ∨ wh = 4 := by omega
          rcases hc with c | c | c | c | c <;> rw [c]
          · exact ⟨_, rfl, .non⟩
          · exact ⟨_, rfl, .tup (t23.z _ _ f20')⟩
          · exact ⟨_, rfl, .str ⟨"put", by decide +kernel⟩ (by decide +kernel)⟩
          · exact ⟨_, rfl, .int 7⟩
          · exact ⟨_, rfl, .dct (t23.z _ _ f22)⟩
        refine s_ixL (sq_of (z23 _ _ f23)) (atI_lt wh0 hth) ?_
        walk_at "ts"
        rename_i pA ZA HA nA tA mA fA pB ZB HB nB tB fB pC ZC HC nC tC lsC pD ZD HD nD tD fD
        have ownA := tD.own nm_nil (tC.own nm_nil (tB.own nm_nil ⟨fA, mA.z⟩))
        have tF : T [pA] ZD HD (upd ZD pA (.lst [])) HD := T.fz tD.zh ownA.2 ownA.1
        have fA2 : (upd ZD pA (.lst [])) pA = some (.lst []) := upd_same
        generalize upd ZD pA (.lst []) = ZE at tF fA2
        have zE := tF.zh
        have lsC2 := ((lsC.tt tD).tt tF).ints
        have fD2 := tF.z _ _ fD
        have oth2 := oth.ex (((tA.z.trans tB.z).trans tC.z).trans tD.z |>.trans tF.z)
        have tgE : T [] Zg Hg ZE HD := (((((tg2.step t23 mm_nil).step tA mm_nil).step tB mm_nil).step tC mm_nil).step tD mm_nil).step tF (mm_1 (.inr (tg2.nn (t23.nn nA))))
        have lsE := lsg.tt tgE
        clear tA tB tC tD tF fB lsC fD mA fA ownA t23 tg2 oth f23 f22 f20' z22 z23
        have each : ∀ v ∈ ([th0, .ref pA, .ref pC] : List V), ∃ th, ThV ZE v th ∧ ∀ us, th = some us → us.length ≤ 30000 := fun v hv => by
          rcases List.mem_cons.mp hv with e | hv
          · exact ⟨none, e ▸ oth2, fun us e => by cases e⟩
          rcases List.mem_cons.mp hv with e | hv
          · exact ⟨some [], e ▸ .lst fA2 fun _ h => absurd h List.not_mem_nil, fun us e => by cases e; exact Nat.zero_le _⟩
          · exact ⟨some ((p1 ++ [0]).map V.int), (List.mem_singleton.mp hv) ▸ .lst lsC2 ints_ode, fun us e => by cases e; rw [List.length_map, List.length_append]; show p1.length + 1 ≤ _; omega⟩
        refine u_forL (fun j σ H' => ∃ x1 x2 x3 x4 x5 x6 Z', σ = [some (.ref sa), x1, some (.ref h), some (.int wh), some (.ref P), some (.int w), some (.int more), x2, x3, some (.ref pp), x4, x5, x6] ∧ T [] ZE HD Z' H') (sq_of (zE _ _ fD2)) ⟨_, _, _, _, _, _, ZE, rfl, T.refl zE⟩ (fun j σ H' _ hh => ?_) (fun j v σ Hj hv hh => ?_) (fun σ Hj hh => ?_)
        · obtain ⟨x1, x2, x3, x4, x5, x6, Z', _, t⟩ := hh
          exact sq_of (t.zh _ _ (t.z _ _ fD2))
        · obtain ⟨x1, x2, x3, x4, x5, x6, Zj, rfl, tj⟩ := hh
          obtain ⟨th, hth, lth⟩ := each v (List.mem_of_getElem? hv)
          have zj := tj.zh
          walk_at "ts"
          refine ⟨P, ms, w, more, v, th, Zj, rfl, lsE.tt tj, zj, m0, mp, by omega, w0, by omega, mo0, hth.ex tj.z, lth, fun Zk Hk tk => ?_⟩
          walk_at "ts"
          exact ⟨_, _, _, _, _, _, Zk, rfl, tj.step tk mm_nil⟩
        · obtain ⟨x1, x2, x3, x4, x5, x6, Zj, rfl, tj⟩ := hh
          exact ⟨_, _, _, _, _, _, _, _, _, _, _, _, Zj, rfl, t1.step ((t1g.step tgE mm_nil).step tj mm_nil) (mm_1 (.inr (t1.nn nh)))⟩
    · obtain ⟨x1, x2, x3, x4, x5, x6, x7, x8, x9, x10, x11, x12, Z1, rfl, t1⟩ := hq
      walk_at "ts"
      exact q _

end

end Lw
open PySem PySem.W PyProof.Rows
set_option maxHeartbeats 0 in

theorem PySem.Challenge.cw_tailrooms_k63_puts_spoilt_anywhere_holds : PySem.Challenge.rw_tailrooms_k63_puts_spoilt_anywhere.Holds := by

  w_on; o_law; k_head; (case hw => w_witness2)
  k_fill

  refine L2.walk_of (l := PySem.Challenge.rw_tailrooms_k63_puts_spoilt_anywhere) (n := 63) (k := 7) (x := "_law_script") (CX := fun _ => L2.CX0) (sp := fun w => Lw.sp_law _) rfl (by decide) rfl ⟨rfl, by decide, by decide⟩ (fun w h Y => PySem.W.kIn_of Y) ?F (fun _ _ a ns hl _ hS => ⟨a, ns, rfl, hS, hl, fun _ => rfl⟩) (fun _ _ _ _ _ h => h)

  case F =>
    intro w mg fa h KX G hmg

    have zz : Lw.Z (L2.KOf KX) mg := by
      refine' ⟨PySem.W.mg_none_of KX G ?z0, PySem.W.mg_none_of KX G ?z1, PySem.W.mg_none_of KX G ?z2, PySem.W.mg_none_of KX G ?z3, PySem.W.mg_none_of KX G ?z4, PySem.W.mg_none_of KX G ?z5, PySem.W.mg_none_of KX G ?z6, PySem.W.mg_none_of KX G ?z7, PySem.W.mg_none_of KX G ?z8, PySem.W.mg_none_of KX G ?z9, PySem.W.mg_none_of KX G ?z10, PySem.W.mg_none_of KX G ?z11, PySem.W.mg_none_of KX G ?z12, PySem.W.mg_none_of KX G ?z13⟩
      (case z0 => k_is)
      (case z1 => k_is)
      (case z2 => k_is)
      (case z3 => k_is)
      (case z4 => k_is)
      (case z5 => k_is)
      (case z6 => k_is)
      (case z7 => k_is)
      (case z8 => k_is)
      (case z9 => k_is)
      (case z10 => k_is)
      (case z11 => k_is)
      (case z12 => k_is)
      (case z13 => k_is)

    have F0 : TR.FunAt (L2.KOf KX) mg "rows_for" Lw.s_rows_for ["many", "wide"] := by
      refine' TR.funAt_mk KX G (x := "rows_for") (st := Lw.s_rows_for) (ps := ["many", "wide"]) ?a ?l ?c ?k (fun _ _ _ _ _ _ us hl => match us, hl with | [_, _], _ => rfl)
      (case a => k_is); (case l => k_is); (case c => k_is); (case k => k_is)

    have F1 : TR.FunAt (L2.KOf KX) mg "spill" Lw.s_spill ["sizes", "wide"] := by
      refine' TR.funAt_mk KX G (x := "spill") (st := Lw.s_spill) (ps := ["sizes", "wide"]) ?a ?l ?c ?k (fun _ _ _ _ _ _ us hl => match us, hl with | [_, _], _ => rfl)
      (case a => k_is); (case l => k_is); (case c => k_is); (case k => k_is)

    have F2 : TR.FunAt (L2.KOf KX) mg "spill_behind" Lw.s_spill_behind ["sizes", "wide", "put"] := by
      refine' TR.funAt_mk KX G (x := "spill_behind") (st := Lw.s_spill_behind) (ps := ["sizes", "wide", "put"]) ?a ?l ?c ?k (fun _ _ _ _ _ _ us hl => match us, hl with | [_, _, _], _ => rfl)
      (case a => k_is); (case l => k_is); (case c => k_is); (case k => k_is)

    have F3 : TR.FunAt (L2.KOf KX) mg "free_of" Lw.s_free_of ["many", "wide"] := by
      refine' TR.funAt_mk KX G (x := "free_of") (st := Lw.s_free_of) (ps := ["many", "wide"]) ?a ?l ?c ?k (fun _ _ _ _ _ _ us hl => match us, hl with | [_, _], _ => rfl)
      (case a => k_is); (case l => k_is); (case c => k_is); (case k => k_is)

    have F4 : TR.FunAt (L2.KOf KX) mg "least_spill" Lw.s_least_spill ["sizes", "wide", "more"] := by
      refine' TR.funAt_mk KX G (x := "least_spill") (st := Lw.s_least_spill) (ps := ["sizes", "wide", "more"]) ?a ?l ?c ?k (fun _ _ _ _ _ _ us hl => match us, hl with | [_, _, _], _ => rfl)
      (case a => k_is); (case l => k_is); (case c => k_is); (case k => k_is)

    have F5 : TR.FunAt (L2.KOf KX) mg "is_whole" Lw.s_is_whole ["thing"] := by
      refine' TR.funAt_mk KX G (x := "is_whole") (st := Lw.s_is_whole) (ps := ["thing"]) ?a ?l ?c ?k (fun _ _ _ _ _ _ us hl => match us, hl with | [_], _ => rfl)
      (case a => k_is); (case l => k_is); (case c => k_is); (case k => k_is)

    have F6 : TR.FunAt (L2.KOf KX) mg "is_put" Lw.s_is_put ["sizes", "more", "thing"] := by
      refine' TR.funAt_mk KX G (x := "is_put") (st := Lw.s_is_put) (ps := ["sizes", "more", "thing"]) ?a ?l ?c ?k (fun _ _ _ _ _ _ us hl => match us, hl with | [_, _, _], _ => rfl)
      (case a => k_is); (case l => k_is); (case c => k_is); (case k => k_is)

    have F7 : TR.FunAt (L2.KOf KX) mg "is_least" Lw.s_is_least ["sizes", "wide", "more", "thing"] := by
      refine' TR.funAt_mk KX G (x := "is_least") (st := Lw.s_is_least) (ps := ["sizes", "wide", "more", "thing"]) ?a ?l ?c ?k (fun _ _ _ _ _ _ us hl => match us, hl with | [_, _, _, _], _ => rfl)
      (case a => k_is); (case l => k_is); (case c => k_is); (case k => k_is)

    have F8 : TR.FunAt (L2.KOf KX) mg "needs_of" Lw.s_needs_of ["sizes", "wide"] := by
      refine' TR.funAt_mk KX G (x := "needs_of") (st := Lw.s_needs_of) (ps := ["sizes", "wide"]) ?a ?l ?c ?k (fun _ _ _ _ _ _ us hl => match us, hl with | [_, _], _ => rfl)
      (case a => k_is); (case l => k_is); (case c => k_is); (case k => k_is)

    have F9 : TR.FunAt (L2.KOf KX) mg "greatest_spill" Lw.s_greatest_spill ["sizes", "wide", "more"] := by
      refine' TR.funAt_mk KX G (x := "greatest_spill") (st := Lw.s_greatest_spill) (ps := ["sizes", "wide", "more"]) ?a ?l ?c ?k (fun _ _ _ _ _ _ us hl => match us, hl with | [_, _, _], _ => rfl)
      (case a => k_is); (case l => k_is); (case c => k_is); (case k => k_is)

    have F10 : TR.FunAt (L2.KOf KX) mg "is_greatest" Lw.s_is_greatest ["sizes", "wide", "more", "thing"] := by
      refine' TR.funAt_mk KX G (x := "is_greatest") (st := Lw.s_is_greatest) (ps := ["sizes", "wide", "more", "thing"]) ?a ?l ?c ?k (fun _ _ _ _ _ _ us hl => match us, hl with | [_, _, _, _], _ => rfl)
      (case a => k_is); (case l => k_is); (case c => k_is); (case k => k_is)

    have F11 : TR.FunAt (L2.KOf KX) mg "_law_is_put" Lw.s_law_is_put ["_law_sizes", "_law_more", "_law_thing"] := by
      refine' TR.funAt_mk KX G (x := "_law_is_put") (st := Lw.s_law_is_put) (ps := ["_law_sizes", "_law_more", "_law_thing"]) ?a ?l ?c ?k (fun _ _ _ _ _ _ us hl => match us, hl with | [_, _, _], _ => rfl)
      (case a => k_is); (case l => k_is); (case c => k_is); (case k => k_is)

    have F12 : TR.FunAt (L2.KOf KX) mg "_law_least" Lw.s_law_least ["_law_sizes", "_law_wide", "_law_more"] := by
      refine' TR.funAt_mk KX G (x := "_law_least") (st := Lw.s_law_least) (ps := ["_law_sizes", "_law_wide", "_law_more"]) ?a ?l ?c ?k (fun _ _ _ _ _ _ us hl => match us, hl with | [_, _, _], _ => rfl)
      (case a => k_is); (case l => k_is); (case c => k_is); (case k => k_is)

    have F13 : TR.FunAt (L2.KOf KX) mg "_law_needs" Lw.s_law_needs ["_law_sizes", "_law_wide"] := by
      refine' TR.funAt_mk KX G (x := "_law_needs") (st := Lw.s_law_needs) (ps := ["_law_sizes", "_law_wide"]) ?a ?l ?c ?k (fun _ _ _ _ _ _ us hl => match us, hl with | [_, _], _ => rfl)
      (case a => k_is); (case l => k_is); (case c => k_is); (case k => k_is)

    have F14 : TR.FunAt (L2.KOf KX) mg "_law_greatest" Lw.s_law_greatest ["_law_sizes", "_law_wide", "_law_more"] := by
      refine' TR.funAt_mk KX G (x := "_law_greatest") (st := Lw.s_law_greatest) (ps := ["_law_sizes", "_law_wide", "_law_more"]) ?a ?l ?c ?k (fun _ _ _ _ _ _ us hl => match us, hl with | [_, _, _], _ => rfl)
      (case a => k_is); (case l => k_is); (case c => k_is); (case k => k_is)

    have F15 : TR.FunAt (L2.KOf KX) mg "_law_spill" Lw.s_law_spill ["_law_sizes", "_law_wide", "_law_put"] := by
      refine' TR.funAt_mk KX G (x := "_law_spill") (st := Lw.s_law_spill) (ps := ["_law_sizes", "_law_wide", "_law_put"]) ?a ?l ?c ?k (fun _ _ _ _ _ _ us hl => match us, hl with | [_, _, _], _ => rfl)
      (case a => k_is); (case l => k_is); (case c => k_is); (case k => k_is)

    have F16 : TR.FunAt (L2.KOf KX) mg "_law_right" Lw.s_law_right ["_law_sizes", "_law_wide", "_law_more", "_law_thing"] := by
      refine' TR.funAt_mk KX G (x := "_law_right") (st := Lw.s_law_right) (ps := ["_law_sizes", "_law_wide", "_law_more", "_law_thing"]) ?a ?l ?c ?k (fun _ _ _ _ _ _ us hl => match us, hl with | [_, _, _, _], _ => rfl)
      (case a => k_is); (case l => k_is); (case c => k_is); (case k => k_is)

    have F17 : TR.FunAt (L2.KOf KX) mg "_law_draw" Lw.s_law_draw ["_law_hand", "_law_many"] := by
      refine' TR.funAt_mk KX G (x := "_law_draw") (st := Lw.s_law_draw) (ps := ["_law_hand", "_law_many"]) ?a ?l ?c ?k (fun _ _ _ _ _ _ us hl => match us, hl with | [_, _], _ => rfl)
      (case a => k_is); (case l => k_is); (case c => k_is); (case k => k_is)

    have F18 : TR.FunAt (L2.KOf KX) mg "_law_far" Lw.s_law_far ["_law_hand", "_law_many"] := by
      refine' TR.funAt_mk KX G (x := "_law_far") (st := Lw.s_law_far) (ps := ["_law_hand", "_law_many"]) ?a ?l ?c ?k (fun _ _ _ _ _ _ us hl => match us, hl with | [_, _], _ => rfl)
      (case a => k_is); (case l => k_is); (case c => k_is); (case k => k_is)

    have F19 : TR.FunAt (L2.KOf KX) mg "_law_step" Lw.s_law_step ["_law_hand", "_law_put"] := by
      refine' TR.funAt_mk KX G (x := "_law_step") (st := Lw.s_law_step) (ps := ["_law_hand", "_law_put"]) ?a ?l ?c ?k (fun _ _ _ _ _ _ us hl => match us, hl with | [_, _], _ => rfl)
      (case a => k_is); (case l => k_is); (case c => k_is); (case k => k_is)

    have F20 : TR.FunAt (L2.KOf KX) mg "_law_world" Lw.s_law_world ["_law_hand"] := by
      refine' TR.funAt_mk KX G (x := "_law_world") (st := Lw.s_law_world) (ps := ["_law_hand"]) ?a ?l ?c ?k (fun _ _ _ _ _ _ us hl => match us, hl with | [_], _ => rfl)
      (case a => k_is); (case l => k_is); (case c => k_is); (case k => k_is)

    have F21 : TR.FunAt (L2.KOf KX) mg "_law_open" Lw.s_law_open ["_law_script", "_law_place"] := by
      refine' TR.funAt_mk KX G (x := "_law_open") (st := Lw.s_law_open) (ps := ["_law_script", "_law_place"]) ?a ?l ?c ?k (fun _ _ _ _ _ _ us hl => match us, hl with | [_, _], _ => rfl)
      (case a => k_is); (case l => k_is); (case c => k_is); (case k => k_is)

    refine' TR.law_end (st := Lw.s_law) (x := "_law_script") KX G hmg ?a ?l ?c ?k (fun s v => .of_eq rfl) (fun base FF => ?b)
    (case a => k_is); (case l => k_is); (case c => k_is); (case k => k_is)

    case b =>

      have h0 := Lw.has_rows_for (P := PySem.Challenge.rw_tailrooms_k63_puts_spoilt_anywhere.prog) (w := w) (base := base) zz F0 

      have h1 := Lw.has_spill (P := PySem.Challenge.rw_tailrooms_k63_puts_spoilt_anywhere.prog) (w := w) (base := base) zz F1 h0

      have h2 := Lw.has_spill_behind (P := PySem.Challenge.rw_tailrooms_k63_puts_spoilt_anywhere.prog) (w := w) (base := base) zz F2 h1

      have h3 := Lw.has_free_of (P := PySem.Challenge.rw_tailrooms_k63_puts_spoilt_anywhere.prog) (w := w) (base := base) zz F3 h0

      have h4 := Lw.has_least_spill (P := PySem.Challenge.rw_tailrooms_k63_puts_spoilt_anywhere.prog) (w := w) (base := base) zz F4 h2 h3

      have h5 := Lw.has_is_whole (P := PySem.Challenge.rw_tailrooms_k63_puts_spoilt_anywhere.prog) (w := w) (base := base) zz F5 

      have h6 := Lw.has_is_put (P := PySem.Challenge.rw_tailrooms_k63_puts_spoilt_anywhere.prog) (w := w) (base := base) zz F6 h5

      have h7 := Lw.has_is_least (P := PySem.Challenge.rw_tailrooms_k63_puts_spoilt_anywhere.prog) (w := w) (base := base) zz F7 h2 h4 h6

      have h8 := Lw.has_needs_of (P := PySem.Challenge.rw_tailrooms_k63_puts_spoilt_anywhere.prog) (w := w) (base := base) zz F8 h0

      have h9 := Lw.has_greatest_spill (P := PySem.Challenge.rw_tailrooms_k63_puts_spoilt_anywhere.prog) (w := w) (base := base) zz F9 h2 h8

      have h10 := Lw.has_is_greatest (P := PySem.Challenge.rw_tailrooms_k63_puts_spoilt_anywhere.prog) (w := w) (base := base) zz F10 h2 h9 h6

      have h11 := Lw.has_law_is_put (P := PySem.Challenge.rw_tailrooms_k63_puts_spoilt_anywhere.prog) (w := w) (base := base) zz F11 

      have h12 := Lw.has_law_least (P := PySem.Challenge.rw_tailrooms_k63_puts_spoilt_anywhere.prog) (w := w) (base := base) zz F12 

      have h13 := Lw.has_law_needs (P := PySem.Challenge.rw_tailrooms_k63_puts_spoilt_anywhere.prog) (w := w) (base := base) zz F13 

      have h14 := Lw.has_law_greatest (P := PySem.Challenge.rw_tailrooms_k63_puts_spoilt_anywhere.prog) (w := w) (base := base) zz F14 h13

      have h15 := Lw.has_law_spill (P := PySem.Challenge.rw_tailrooms_k63_puts_spoilt_anywhere.prog) (w := w) (base := base) zz F15 

      have h16 := Lw.has_law_right (P := PySem.Challenge.rw_tailrooms_k63_puts_spoilt_anywhere.prog) (w := w) (base := base) zz F16 h7 h10 h11 h12 h14 h15

      have h17 := Lw.has_law_draw (P := PySem.Challenge.rw_tailrooms_k63_puts_spoilt_anywhere.prog) (w := w) (base := base) zz F17 

      have h18 := Lw.has_law_far (P := PySem.Challenge.rw_tailrooms_k63_puts_spoilt_anywhere.prog) (w := w) (base := base) zz F18 h17

      have h19 := Lw.has_law_step (P := PySem.Challenge.rw_tailrooms_k63_puts_spoilt_anywhere.prog) (w := w) (base := base) zz F19 h18 h17

      have h20 := Lw.has_law_world (P := PySem.Challenge.rw_tailrooms_k63_puts_spoilt_anywhere.prog) (w := w) (base := base) zz F20 h17 h18

      have h21 := Lw.has_law_open (P := PySem.Challenge.rw_tailrooms_k63_puts_spoilt_anywhere.prog) (w := w) (base := base) zz F21 

      exact Lw.ok_law zz FF h16 h19 h11 h12 h14 h4 h9 h20 h17 h21

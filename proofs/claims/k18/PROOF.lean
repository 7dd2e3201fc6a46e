import PyProof.Rows.All
import Wide.All
import OpenK.AllK
import Wide.FinOn
import HandS.ForMost
import HandS.Wide
import HandS.SortInts
import HandS.IsInst
import HandS.Conv
import HandS.Evl
import HandS.Style
import HandS.SortRule
import HandS.ForExc
import HandS.ExcInit
import HandS.ExcField
import HandS.TryMany
import HandS.Small
import HandS.Text
import PyProof.Rows.ChunkEnd
import HandS.DictTup
import KE.KItemsList
import HandS.More
import KE.KExcIs
import HandS.HotCalls
import HandS.ExcValue
import HandS.ExcCtx
import HandS.Zip
import HandS.TryOnly
import HandS.DictComp
import PyProof.Rows.IntBool
import PyProof.TwoTypesSub
import PyProof.EqKinds
import PyProof.Rows.RuleB_bool
import PyProof.WalkInts
import PySem.Challenge.RW_tailrooms_k18_refusals_apart
set_option Elab.async false
set_option linter.all false
set_option maxRecDepth 100000
set_option maxHeartbeats 4000000

/-! TR: joined rules, steps of a reading, the heap, the hand that is drawn from -/
noncomputable section
namespace TR
open PySem L2
open PySem.Spec PyProof.Rows

/-! ### joined rules -/
section
variable {X : Cx}
noncomputable def rPlus : R2 := fun x y H Q => (rI0 fun i j => .int (i + j)) x y H Q ∨ rCat x y H Q ∨
  (∃ i j, x = .str i ∧ y = .str j ∧ i.length + j.length ≤ sizeLine ∧ Q (.str (i ++ j)) H)
theorem op_plusA : OpR X (binaryOp .Add) rPlus := OpR.or op_add (OpR.or op_cat op_add_str)
noncomputable def rMult : R2 := fun x y H Q => (rI CMulW fun i j => .int (i * j)) x y H Q ∨ (rI CMul fun i j => .int (i * j)) x y H Q ∨ rRep x y H Q
theorem op_multA : OpR X (binaryOp .Mult) rMult := OpR.or op_mulW (OpR.or op_mul op_rep)
noncomputable def rEqA (K : PySem.W.Frag) : R2 := fun x y H Q => rEq x y H Q ∨ rEqD K x y H Q
noncomputable def rNeA (K : PySem.W.Frag) : R2 := fun x y H Q => rNe x y H Q ∨ rNeD K x y H Q
theorem op_eqA (hu : X.A.units + 64 < cLine) : OpR X (compareOp .Eq) (rEqA X.K) := OpR.or op_eq (op_eqD hu)
theorem op_neA (hu : X.A.units + 64 < cLine) : OpR X (compareOp .NotEq) (rNeA X.K) := OpR.or op_ne (op_neD hu)
noncomputable def rLenS (K : PySem.W.Frag) : List V → Hp → VK → Prop := Evl.rLenS K
noncomputable def rLenT : List V → Hp → VK → Prop := fun xs H Q => ∃ z, xs = [.str z] ∧ z.length ≤ sizeLine ∧ Q (.int z.length) H
noncomputable def rLen (K : PySem.W.Frag) : List V → Hp → VK → Prop := fun xs H Q => rLenS K xs H Q ∨ rLenT xs H Q
theorem call_lenA : CallR X (.builtin "len") (rLen X.K) := CallR.or call_len_seq call_len_str
theorem cr_allA (hc : X.calm = true) : CallR X (.builtin "all") (rAll X.K) := cr_all hc
noncomputable def rGetL (K : PySem.W.Frag) : R2 := fun x y H Q => ∃ p xs i v, x = .ref p ∧ y = .int i ∧ SqL K H p xs ∧ 0 ≤ i ∧ atI xs i = some v ∧ Q v H
theorem pget_list : PGet X (rGetL X.K) := by
  intro pins s σ H x0 y0 v u Q I rx ru hh
  obtain ⟨p, xs, i, z, ex, ei, hq, h0, he, q⟩ := hh
  subst ex
  subst ei
  cases rx
  obtain ⟨t, et⟩ := ru
  subst et
  obtain ⟨its, r, pl, _⟩ := I.list hq
  obtain ⟨j, h1, h2, h3, _, h5⟩ := atI_get he
  obtain ⟨y, ey, ry⟩ := r.get h2
  have hl := r.length
  have hn := line63
  rw [seqIndex_of h0 h5] at h1
  have hj : i.toNat = j := Option.some.inj h1
  exact wpAny_getItem_list pl.isList h0 (by omega) (by rw [hj]; simpa using ey) ⟨z, H, I, ry, q⟩
noncomputable def rIsNA : R2 := fun x y H Q => y = .non ∧ Q (.bl (decide (x = .non))) H
noncomputable def rNotNA : R2 := fun x y H Q => y = .non ∧ Q (.bl (!decide (x = .non))) H
noncomputable def rMax2 : List V → Hp → VK → Prop := fun xs H Q => ∃ i j, xs = [.int i, .int j] ∧ Q (.int (max i j)) H
noncomputable def rMin2 : List V → Hp → VK → Prop := fun xs H Q => ∃ i j, xs = [.int i, .int j] ∧ Q (.int (min i j)) H
noncomputable def rAbs : List V → Hp → VK → Prop := fun xs H Q => ∃ i, xs = [.int i] ∧ Q (.int (if i < 0 then -i else i)) H
theorem call_max2A (hc : X.calm = true) : CallR X (.builtin "max") rMax2 := by
  have e : rMax2 = fun xs H Q => ∃ i j, xs = [V.int i, V.int j] ∧ Q (.int (if j > i then j else i)) H := by
    funext xs H Q
    have e2 : ∀ i j : Int, max i j = if j > i then j else i := fun i j => by
      by_cases h : j > i
      · rw [if_pos h]
        omega
      · rw [if_neg h]
        omega
    show (∃ i j, xs = [V.int i, V.int j] ∧ Q (.int (max i j)) H) = _
    simp only [e2]
  rw [e]
  exact call_max2 hc
theorem call_min2A (hc : X.calm = true) : CallR X (.builtin "min") rMin2 := by
  have e : rMin2 = fun xs H Q => ∃ i j, xs = [V.int i, V.int j] ∧ Q (.int (if j < i then j else i)) H := by
    funext xs H Q
    have e2 : ∀ i j : Int, min i j = if j < i then j else i := fun i j => by
      by_cases h : j < i
      · rw [if_pos h]
        omega
      · rw [if_neg h]
        omega
    show (∃ i j, xs = [V.int i, V.int j] ∧ Q (.int (min i j)) H) = _
    simp only [e2]
  rw [e]
  exact call_min2 hc
theorem call_absA : CallR X (.builtin "abs") rAbs := call_abs
noncomputable def rInt1 : List V → Hp → VK → Prop := fun xs H Q => (∃ i, xs = [.int i] ∧ Q (.int i) H) ∨ ∃ k, xs = [.bl k] ∧ Q (.int (if k then 1 else 0)) H
noncomputable def rList1 (K : PySem.W.Frag) : List V → Hp → VK → Prop := Evl.rListS K
end

/-! ### the same rules, the written part K named (they may stand in a comprehension's block) -/
section
variable {X : Cx} {K : PySem.W.Frag}
theorem ixA (hk : X.K = K) : IxR X (rIx K) := hk ▸ ix_seq
theorem slA (hk : X.K = K) : SlR X (rSlL K) := hk ▸ sl_list
theorem lenA (hk : X.K = K) : CallR X (.builtin "len") (rLen K) := hk ▸ call_lenA
theorem eqA (hk : X.K = K) (hu : X.A.units + 64 < cLine) : OpR X (compareOp .Eq) (rEqA K) := hk ▸ op_eqA hu
theorem neA (hk : X.K = K) (hu : X.A.units + 64 < cLine) : OpR X (compareOp .NotEq) (rNeA K) := hk ▸ op_neA hu
theorem isiA (hk : X.K = K) : CallR X (.builtin "isinstance") (rIsi K) := hk ▸ call_isi
theorem allA (hk : X.K = K) (hc : X.calm = true) : CallR X (.builtin "all") (rAll K) := hk ▸ cr_allA hc
theorem getA (hk : X.K = K) : PGet X (rGetL K) := hk ▸ pget_list
theorem piL {tg l : Expr} {tl : TE} (hk : X.K = K) (hl : PE X l tl) : PI X tg l (iList K tl) := hk ▸ pi_list hl
end

/-! ### heaps -/
/-- all of H is there in H' -/
noncomputable abbrev Ex := Evl.Ex
/-- all of H but what stands at h -/
noncomputable def ExM (h : Addr) (H H' : Hp) : Prop := ∀ a o, a ≠ h → H a = some o → H' a = some o
theorem Ex.refl (H : Hp) : Ex H H := Evl.Ex.refl H
theorem Ex.trans {H G F : Hp} (a : Ex H G) (b : Ex G F) : Ex H F := Evl.Ex.trans a b
theorem Ex.new {H : Hp} {a : Addr} {u : HO} (h : H a = none) : Ex H (L2.upd H a u) := Evl.Ex.new h
theorem Ex.mut {H G : Hp} {a : Addr} {u : HO} (e : Ex H G) (h : H a = none) : Ex H (L2.upd G a u) := Evl.Ex.mut e h
theorem Ex.exm {Z H H' : Hp} {h : Addr} (e : Ex Z H) (hz : Z h = none) (m : ExM h H H') : Ex Z H' := fun a o ha => m a o (ne_of_none ha hz) (e a o ha)
theorem ExM.refl {h : Addr} (H : Hp) : ExM h H H := fun _ _ _ e => e
theorem ExM.trans {h : Addr} {H H1 H2 : Hp} (a : ExM h H H1) (b : ExM h H1 H2) : ExM h H H2 := fun x o n e => b x o n (a x o n e)
theorem ExM.upd {h : Addr} {H : Hp} {o : HO} : ExM h H (upd H h o) := fun a u n e => by
  rw [upd_ne n]
  exact e
/-- a heap without one object -/
noncomputable def cutH (H : Hp) (h : Addr) : Hp := fun b => if b = h then none else H b
theorem Ex.back {H H' : Hp} {p : Addr} (e : Ex H H') (h : H' p = none) : H p = none := by
  cases h1 : H p with
  | none => rfl
  | some o =>
    rw [e p o h1] at h
    cases h
theorem Ex.sq {K : PySem.W.Frag} {H G : Hp} {p : Addr} {ys : List V} (e : Ex H G) (h : SqL K H p ys) : SqL K G p ys := Evl.ex_l e h
theorem sq_of {K : PySem.W.Frag} {H : Hp} {p : Addr} {ys : List V} (h : H p = some (.lst ys)) : SqL K H p ys := SqL.of h
theorem st_of {K : PySem.W.Frag} {H : Hp} {p : Addr} {ys : List V} (h : H p = some (.tup ys)) : SqT K H p ys := SqT.of h
theorem sz_of {m : Nat} (h : m ≤ 100000) : m ≤ sizeLine := Evl.sz_of h
theorem sz_lt {m : Nat} (h : m < 100000) : m < sizeLine := Evl.sz_lt h

/-! ### places, first -/
theorem atI_lt {α : Type} {xs : List α} {i : Int} {v : α} (h0 : 0 ≤ i) (h : xs[i.toNat]? = some v) : atI xs i = some v := by
  have e : ((i.toNat : Nat) : Int) = i := Int.toNat_of_nonneg h0
  have q := atI_nat (xs := xs) (j := i.toNat) h
  rw [e] at q
  exact q
/-! ### steps of a reading: each turns what is to be shown into what it asks next -/
section
variable {K : PySem.W.Frag} {σ : L2.St} {H : Hp} {ta tb tc te : TE} {t u : TT} {D : Ends} {Q : VK} {QB : Bool → Hp → Prop} {v x y : V} {p : Prop} {A B : Prop}
theorem s_var {i : Nat} (h : σ[i]? = some (some v)) (q : Q v H) : tVar i σ H Q := ⟨v, h, q⟩
theorem s_c (q : Q v H) : tC v σ H Q := q
theorem s_op {r : R2} (q : ta σ H fun x H1 => tb σ H1 fun y H2 => r x y H2 Q) : tOp r ta tb σ H Q := q
theorem s_I0 {g : Int → Int → V} {i j : Int} (q : Q (g i j) H) : rI0 g (.int i) (.int j) H Q := ⟨i, j, rfl, rfl, q⟩
theorem s_plusI {i j : Int} (q : Q (.int (i + j)) H) : rPlus (.int i) (.int j) H Q := .inl ⟨i, j, rfl, rfl, q⟩
theorem s_mulL {i j : Int} (c : -(2 ^ 64) < i ∧ i < 2 ^ 64) (q : Q (.int (i * j)) H) : rMult (.int i) (.int j) H Q := .inr (.inl ⟨i, j, rfl, rfl, .inl c, q⟩)
theorem s_mulR {i j : Int} (c : -(2 ^ 64) < j ∧ j < 2 ^ 64) (q : Q (.int (i * j)) H) : rMult (.int i) (.int j) H Q := .inr (.inl ⟨i, j, rfl, rfl, .inr c, q⟩)
theorem s_div {i j : Int} {g : Int → Int → V} (h : 0 < j) (h2 : j < 2 ^ 63) (q : Q (g i j) H) : rI CDivW g (.int i) (.int j) H Q :=
  ⟨i, j, rfl, rfl, wide_div (b := 63) h (by have e : (2 : Int) ^ 63 = 9223372036854775808 := by decide
                                            have e2 : (2 : Nat) ^ 63 = 9223372036854775808 := by decide
                                            omega) (by decide) (by decide), q⟩
theorem s_mod {i j : Int} (h : 0 < j) (q : 0 ≤ i % j → i % j < j → Q (.int (i % j)) H) : rI (fun _ j => 0 < j) (fun i j => .int (i % j)) (.int i) (.int j) H Q := ⟨i, j, rfl, rfl, h, q (Int.emod_nonneg i (Int.ne_of_gt h)) (Int.emod_lt_of_pos i h)⟩
theorem s_pow2_61 (q : Q (.int 2305843009213693952) H) : rI CPow (fun i j => .int (i ^ j.toNat)) (.int 2) (.int 61) H Q := ⟨2, 61, rfl, rfl, ⟨by decide, by decide, by decide⟩, by
  have e : (2 : Int) ^ Int.toNat 61 = 2305843009213693952 := by decide
  show Q (.int ((2 : Int) ^ Int.toNat 61)) H
  rw [e]
  exact q⟩
theorem s_pow2_62 (q : Q (.int 4611686018427387904) H) : rI CPow (fun i j => .int (i ^ j.toNat)) (.int 2) (.int 62) H Q := ⟨2, 62, rfl, rfl, ⟨by decide, by decide, by decide⟩, by
  have e : (2 : Int) ^ Int.toNat 62 = 4611686018427387904 := by decide
  show Q (.int ((2 : Int) ^ Int.toNat 62)) H
  rw [e]
  exact q⟩
theorem s_pow10_6 (q : Q (.int 1000000) H) : rI CPow (fun i j => .int (i ^ j.toNat)) (.int 10) (.int 6) H Q := ⟨10, 6, rfl, rfl, ⟨by decide, by decide, by decide⟩, by
  have e : (10 : Int) ^ Int.toNat 6 = 1000000 := by decide
  show Q (.int ((10 : Int) ^ Int.toNat 6)) H
  rw [e]
  exact q⟩
theorem s_pow10_18 (q : Q (.int 1000000000000000000) H) : rI CPow (fun i j => .int (i ^ j.toNat)) (.int 10) (.int 18) H Q := ⟨10, 18, rfl, rfl, ⟨by decide, by decide, by decide⟩, by
  have e : (10 : Int) ^ Int.toNat 18 = 1000000000000000000 := by decide
  show Q (.int ((10 : Int) ^ Int.toNat 18)) H
  rw [e]
  exact q⟩
theorem s_pow {i j : Int} {g : Int → Int → V} (h1 : 0 ≤ j ∧ j ≤ 1000) (h2 : i.natAbs < 2 ^ 64) (q : Q (g i j) H) : rI CPow g (.int i) (.int j) H Q := ⟨i, j, rfl, rfl, ⟨h1.1, by omega, h2⟩, q⟩
theorem s_eqI {a b : Int} (q : Q (.bl (decide (a = b))) H) : rEqA K (.int a) (.int b) H Q := .inl ⟨rfl, by
  have e : decide (V.int a = V.int b) = decide (a = b) := by rw [dec_int, Bool.beq_eq_decide_eq]
  rw [e]
  exact q⟩
theorem s_neB {a b : Bool} (q : Q (.bl (decide (a ≠ b))) H) : rNeA K (.bl a) (.bl b) H Q := .inl ⟨rfl, by
  have e : (!decide (V.bl a = V.bl b)) = decide (a ≠ b) := by cases a <;> cases b <;> rfl
  rw [e]
  exact q⟩
theorem s_eqD {d e : PyData} (h1 : Dp K H x d) (h2 : Dp K H y e) (s1 : SeqAt.shaped d = true) (s2 : SeqAt.shaped e = true) (q : Q (.bl (PyData.eqv d e)) H) : rEqA K x y H Q := .inr ⟨d, e, h1, h2, s1, s2, q⟩
theorem s_neD {d e : PyData} (h1 : Dp K H x d) (h2 : Dp K H y e) (s1 : SeqAt.shaped d = true) (s2 : SeqAt.shaped e = true) (q : Q (.bl (!PyData.eqv d e)) H) : rNeA K x y H Q := .inr ⟨d, e, h1, h2, s1, s2, q⟩
/-- subscripts -/
theorem s_ixL {a : Addr} {xs : List V} {i : Int} (h : SqL K H a xs) (e : atI xs i = some v) (q : Q v H) : rIx K (.ref a) (.int i) H Q := .inl ⟨a, xs, i, v, rfl, rfl, h, e, q⟩
theorem s_getL {a : Addr} {xs : List V} {i : Int} (h : SqL K H a xs) (h0 : 0 ≤ i) (e : atI xs i = some v) (q : Q v H) : rGetL K (.ref a) (.int i) H Q := ⟨a, xs, i, v, rfl, rfl, h, h0, e, q⟩
/-- tests -/
theorem s_test (q : te σ H fun x H' => ∃ k, x = .bl k ∧ QB k H') : tTest te σ H QB := q
theorem s_tB (q : te σ H fun x H' => ∃ k, x = .bl k ∧ QB k H') : tB te σ H QB := q
theorem s_bl {b : Bool} {R : Bool → Prop} (q : R b) : ∃ k, V.bl b = V.bl k ∧ R k := ⟨b, rfl, q⟩
theorem s_and (q : t σ H fun c H1 => if c = true then u σ H1 QB else QB false H1) : tAnd t u σ H QB := q
theorem s_or (q : t σ H fun c H1 => if c = true then QB true H1 else u σ H1 QB) : tOr t u σ H QB := q
theorem s_not (q : t σ H fun c H1 => QB (!c) H1) : tNot t σ H QB := q
theorem s_andV (q : ta σ H fun x H1 => ∃ c, x = .bl c ∧ if c = true then tb σ H1 Q else Q (.bl false) H1) : tAndV ta tb σ H Q := q
theorem i_d [Decidable p] (h1 : p → A) (h2 : ¬ p → B) : if decide p = true then A else B := by
  by_cases h : p
  · rw [if_pos (decide_eq_true h)]
    exact h1 h
  · rw [if_neg (fun z => h (of_decide_eq_true z))]
    exact h2 h
theorem i_f (h : B) : if false = true then A else B := by
  rw [if_neg Bool.false_ne_true]
  exact h
theorem i_nt (h : B) : if (!true) = true then A else B := i_f h
theorem i_dt [Decidable p] (hp : p) (h : A) : if decide p = true then A else B := i_d (fun _ => h) (fun n => absurd hp n)
theorem i_df [Decidable p] (hp : ¬ p) (h : B) : if decide p = true then A else B := i_d (fun z => absurd z hp) (fun _ => h)
/-- calls, displays, slices -/
theorem s_nil {QA : List V → Hp → Prop} (q : QA [] H) : tNil σ H QA := q
theorem s_cons {tr : TA} {QA : List V → Hp → Prop} (q : ta σ H fun x H1 => tr σ H1 fun xs H2 => QA (x :: xs) H2) : tCons ta tr σ H QA := q
theorem s_call {sp : Sp} {E : XK} {tr : TA} (q : tr σ H fun vs H1 => sp vs H1 Q E) : tCall sp [] E tr σ H Q := by
  have e : (fun (vs : List V) H1 => sp (vs ++ []) H1 Q E) = fun vs H1 => sp vs H1 Q E := by
    funext vs H1
    rw [List.append_nil]
  show tr σ H fun vs H1 => sp (vs ++ []) H1 Q E
  rw [e]
  exact q
theorem s_CB {r : List V → Hp → VK → Prop} {tr : TA} (q : tr σ H fun vs H1 => r vs H1 Q) : tCB r tr σ H Q := q
noncomputable def NewL (xs : List V) (H : Hp) (Q : VK) : Prop := xs.length ≤ sizeLine ∧ ∀ p, H p = none → Q (.ref p) (upd H p (.lst xs))
noncomputable def NewT (xs : List V) (H : Hp) (Q : VK) : Prop := xs.length ≤ sizeLine ∧ ∀ p, H p = none → Q (.ref p) (upd H p (.tup xs))
noncomputable def NewRg (a b : Int) (H : Hp) (Q : VK) : Prop := RgOk a b ∧ ∀ p, H p = none → Q (.ref p) (upd H p (.lst (rgV a b)))
theorem s_lst {tr : TA} (q : tr σ H fun xs H1 => NewL xs H1 Q) : tLst tr σ H Q := q
theorem s_tup {tr : TA} (q : tr σ H fun xs H1 => NewT xs H1 Q) : tTup tr σ H Q := q
theorem s_lenM {α : Type} {f : α → V} {l : List α} {a : Addr} (h : SqL K H a (l.map f)) (q : Q (.int (l.length : Int)) H) : rLen K [.ref a] H Q := .inl ⟨a, _, rfl, .inl h, by rw [List.length_map]; exact q⟩
theorem s_ixI {l : List Int} {a : Addr} {i : Int} (h : SqL K H a (l.map V.int)) (h0 : 0 ≤ i ∧ i < l.length) (q : ∀ v, l[i.toNat]? = some v → Q (.int v) H) : rIx K (.ref a) (.int i) H Q := by
  have hl : i.toNat < l.length := by omega
  exact .inl ⟨a, _, i, _, rfl, rfl, h, atI_lt h0.1 (by rw [List.getElem?_map, List.getElem?_eq_getElem hl]; rfl), q _ (List.getElem?_eq_getElem hl)⟩
theorem s_sl {r : V → Option Int → Option Int → Hp → VK → Prop} {tl th : TO} (q : te σ H fun x H1 => tl σ H1 fun l H2 => th σ H2 fun u H3 => r x l u H3 Q) : tSl r te tl th σ H Q := q
theorem s_np {QO : Option Int → Hp → Prop} (q : QO none H) : tNoPart σ H QO := q
theorem s_part {QO : Option Int → Hp → Prop} (q : te σ H fun x H1 => ∃ i, x = .int i ∧ QO (some i) H1) : tPart te σ H QO := q
theorem s_int {i : Int} {R : Int → Prop} (q : R i) : ∃ k, V.int i = V.int k ∧ R k := ⟨i, rfl, q⟩
/-- statements -/
theorem s_seq {t u : TS} (q : t { D with nx := u D } σ H) : tSeq t u D σ H := q
theorem s_cut {t u : TS} (Mid : L2.St → Hp → Prop) (h : t { D with nx := Mid } σ H) (q : ∀ σ' H', Mid σ' H' → u D σ' H') : Evl.tCut t u D σ H := ⟨Mid, h, q⟩
theorem s_next (q : D.nx σ H) : tNext D σ H := q
theorem s_ret (q : te σ H D.rt) : tRet te D σ H := q
theorem s_if {t u : TS} {c : TT} (q : c σ H fun b H1 => if b = true then t D σ H1 else u D σ H1) : tIfS c t u D σ H := q
theorem s_asg {g : TG} (q : te σ H fun x H1 => g x σ H1 D.nx) : tAsg te g D σ H := q
theorem s_gname {i : Nat} {R : L2.St → Hp → Prop} (q : R (σ.set i (some v)) H) : gName i v σ H R := q
theorem s_gsub {to ti : TE} {ts : TSet} {R : L2.St → Hp → Prop} (q : to σ H fun o H1 => ti σ H1 fun i H2 => ts o i v H2 fun H3 => R σ H3) : gSub to ti ts v σ H R := q
theorem s_ipI {f : Int → Int → Int} {i j : Int} (q : Q (.int (f i j)) H) : ipI f (.int i) (.int j) H Q := ⟨i, j, rfl, rfl, q⟩
theorem s_augS {to ti : TE} {tget : V → V → Hp → VK → Prop} {tip : TIp} {tset : TSet}
    (q : to σ H fun o H1 => ti σ H1 fun i H2 => tget o i H2 fun x H3 => te σ H3 fun y H4 => tip x y H4 fun z H5 => tset o i z H5 fun H6 => D.nx σ H6) : tAugS to ti te tget tip tset D σ H := q
theorem s_max2 {i j : Int} (q : Q (.int (max i j)) H) : rMax2 [.int i, .int j] H Q := ⟨i, j, rfl, q⟩
theorem s_min2 {i j : Int} (q : Q (.int (min i j)) H) : rMin2 [.int i, .int j] H Q := ⟨i, j, rfl, q⟩
theorem s_abs {i : Int} (q : Q (.int (if i < 0 then -i else i)) H) : rAbs [.int i] H Q := ⟨i, rfl, q⟩
theorem s_isiI {n : String} {i : Int} {b : Bool} (h : kitB "int" n = some b) (q : Q (.bl b) H) : rIsi K [.int i, .ty n] H Q := ⟨.int i, .ty n, _, _, b, rfl, .ty n, .base (.int i), kit_ty h, q⟩
theorem s_isiB {n : String} {i : Bool} {b : Bool} (h : kitB "bool" n = some b) (q : Q (.bl b) H) : rIsi K [.bl i, .ty n] H Q := ⟨.bl i, .ty n, _, _, b, rfl, .ty n, .base (.bl i), kit_ty h, q⟩
theorem s_isiS {n : String} {i : Str} {b : Bool} (h : kitB "str" n = some b) (q : Q (.bl b) H) : rIsi K [.str i, .ty n] H Q := ⟨.str i, .ty n, _, _, b, rfl, .ty n, .base (.str i), kit_ty h, q⟩
theorem s_isiN {n : String} {b : Bool} (h : kitB "NoneType" n = some b) (q : Q (.bl b) H) : rIsi K [.non, .ty n] H Q := ⟨.non, .ty n, _, _, b, rfl, .ty n, .base .non, kit_ty h, q⟩
theorem ty_sq {a : Addr} {xs : List V} (h : SqL K H a xs) : TyX K H (.ref a) (.type "list") := by
  rcases h with (h | ⟨o, h⟩) | ⟨o, its, n, hk, hc, _⟩
  · exact .base (.lst h)
  · exact .base (.frz h)
  · exact .kList hk hc
theorem ty_st {a : Addr} {xs : List V} (h : SqT K H a xs) : TyX K H (.ref a) (.type "tuple") := by
  rcases h with (h | ⟨o, h⟩) | ⟨o, its, n, hk, hc, _⟩
  · exact .base (.tup h)
  · exact .fTuple h
  · exact .kTuple hk hc
theorem s_isiL {n : String} {a : Addr} {xs : List V} {b : Bool} (hs : SqL K H a xs) (h : kitB "list" n = some b) (q : Q (.bl b) H) : rIsi K [.ref a, .ty n] H Q := ⟨.ref a, .ty n, _, _, b, rfl, .ty n, ty_sq hs, kit_ty h, q⟩
theorem s_isiT {n : String} {a : Addr} {xs : List V} {b : Bool} (hs : SqT K H a xs) (h : kitB "tuple" n = some b) (q : Q (.bl b) H) : rIsi K [.ref a, .ty n] H Q := ⟨.ref a, .ty n, _, _, b, rfl, .ty n, ty_st hs, kit_ty h, q⟩
theorem k_ib : kitB "int" "bool" = some false := by decide +kernel
theorem k_is : kitB "int" "str" = some false := by decide +kernel
theorem k_bb : kitB "bool" "bool" = some true := by decide +kernel
theorem k_sb : kitB "str" "bool" = some false := by decide +kernel
theorem k_lb : kitB "list" "bool" = some false := by decide +kernel
theorem k_tb : kitB "tuple" "bool" = some false := by decide +kernel
theorem k_nb : kitB "NoneType" "bool" = some false := by decide +kernel
end

section
variable {K : PySem.W.Frag} {σ : L2.St} {H : Hp} {ta tb tl te : TE} {tt : TT} {D : Ends} {Q : VK} {g : TG} {ts : TS} {vs : List Nat}
theorem s_wp {A B : L2.St} {R : Prop} (h : wipe A vs = wipe B vs) (q : R) : wipe A vs = wipe B vs ∧ R := ⟨h, q⟩
/-! lists of a range -/
/-! loops: what a for asks, and how it is answered by an invariant -/
noncomputable def ForJ (g : TG) (tb : TS) (D : Ends) (σ : L2.St) (J : It) (H1 : Hp) : Prop := tFor (fun _ H R => R J H) g tb D σ H1
noncomputable def ForL (K : PySem.W.Frag) (g : TG) (tb : TS) (D : Ends) (σ : L2.St) (x : V) (H1 : Hp) : Prop := ∃ a, x = .ref a ∧ (∃ xs, SqL K H1 a xs) ∧ ForJ g tb D σ (Itl K a) H1
noncomputable def ForT (K : PySem.W.Frag) (g : TG) (tb : TS) (D : Ends) (σ : L2.St) (x : V) (H1 : Hp) : Prop := ∃ a, x = .ref a ∧ (∃ xs, SqT K H1 a xs) ∧ ForJ g tb D σ (Itt K a) H1
noncomputable def ForR1 (g : TG) (tb : TS) (D : Ends) (σ : L2.St) (vs : List V) (H1 : Hp) : Prop := ∃ j : Int, vs = [.int j] ∧ -(2 ^ 62) ≤ j ∧ j < 2 ^ 62 ∧ ForJ g tb D σ (Itr 0 j.toNat) H1
noncomputable def ForR2 (g : TG) (tb : TS) (D : Ends) (σ : L2.St) (vs : List V) (H1 : Hp) : Prop := ∃ i j : Int, vs = [.int i, .int j] ∧ (-(2 ^ 62) ≤ i ∧ i < 2 ^ 62 ∧ -(2 ^ 62) ≤ j ∧ j < 2 ^ 62) ∧ ForJ g tb D σ (Itr i (j - i).toNat) H1
noncomputable def ForE (K : PySem.W.Frag) (g : TG) (tb : TS) (D : Ends) (σ : L2.St) (vs : List V) (H1 : Hp) : Prop := ∃ a xs, vs = [.ref a] ∧ SqL K H1 a xs ∧ ForJ g tb D σ (Ite K a) H1
noncomputable def ForZ (K : PySem.W.Frag) (g : TG) (tb : TS) (D : Ends) (σ : L2.St) (vs : List V) (H1 : Hp) : Prop := ∃ a b xs ys, vs = [.ref a, .ref b] ∧ SqL K H1 a xs ∧ SqL K H1 b ys ∧ ForJ g tb D σ (Itz K a b) H1
noncomputable def ForS (g : TG) (tb : TS) (D : Ends) (σ : L2.St) (v : V) (H1 : Hp) : Prop := ∃ x, v = .str x ∧ ForJ g tb D σ (Its x) H1
theorem s_forR1 {ta : TA} (q : ta σ H fun x H1 => ForR1 g ts D σ x H1) : tFor (iRng1 ta) g ts D σ H := q
theorem u_forR1 {n : Int} (Pv : Nat → L2.St → Hp → Prop) (hn : -1000000000000 ≤ n ∧ n ≤ 1000000000000) (h0 : Pv 0 σ H)
    (hs : ∀ (i : Nat) σ H, (i : Int) < n → Pv i σ H → g (.int (i : Int)) σ H fun σ2 H2 => ts { D with nx := Pv (i + 1), ct := Pv (i + 1), bk := D.nx } σ2 H2) (hd : ∀ σ H, Pv n.toNat σ H → D.nx σ H) : ForR1 g ts D σ [.int n] H := by
  have e62 : (2 : Int) ^ 62 = 4611686018427387904 := by decide
  refine ⟨n, rfl, by omega, by omega, for_range (lo := 0) (n := n.toNat) Pv h0 (fun i σ H hi p => ?_) hd⟩
  have e : (0 : Int) + (i : Int) = (i : Int) := Int.zero_add _
  rw [e]
  exact hs i σ H (by omega) p
/-! comprehensions -/
noncomputable def LcJ (g : TG) (tt : TT) (te : TE) (vs : List Nat) (σ : L2.St) (J : It) (H1 : Hp) (Q : VK) : Prop := tLc (fun _ H R => R J H) g tt te vs σ H1 Q
noncomputable def LcL (K : PySem.W.Frag) (g : TG) (tt : TT) (te : TE) (vs : List Nat) (σ : L2.St) (x : V) (H1 : Hp) (Q : VK) : Prop := ∃ a, x = .ref a ∧ (∃ xs, SqL K H1 a xs) ∧ LcJ g tt te vs σ (Itl K a) H1 Q
noncomputable def LcT (K : PySem.W.Frag) (g : TG) (tt : TT) (te : TE) (vs : List Nat) (σ : L2.St) (x : V) (H1 : Hp) (Q : VK) : Prop := ∃ a, x = .ref a ∧ (∃ xs, SqT K H1 a xs) ∧ LcJ g tt te vs σ (Itt K a) H1 Q
noncomputable def LcR1 (g : TG) (tt : TT) (te : TE) (vs : List Nat) (σ : L2.St) (x : List V) (H1 : Hp) (Q : VK) : Prop := ∃ j : Int, x = [.int j] ∧ -(2 ^ 62) ≤ j ∧ j < 2 ^ 62 ∧ LcJ g tt te vs σ (Itr 0 j.toNat) H1 Q
noncomputable def LcR2 (g : TG) (tt : TT) (te : TE) (vs : List Nat) (σ : L2.St) (x : List V) (H1 : Hp) (Q : VK) : Prop := ∃ i j : Int, x = [.int i, .int j] ∧ (-(2 ^ 62) ≤ i ∧ i < 2 ^ 62 ∧ -(2 ^ 62) ≤ j ∧ j < 2 ^ 62) ∧ LcJ g tt te vs σ (Itr i (j - i).toNat) H1 Q
noncomputable def LcE (K : PySem.W.Frag) (g : TG) (tt : TT) (te : TE) (vs : List Nat) (σ : L2.St) (x : List V) (H1 : Hp) (Q : VK) : Prop := ∃ a xs, x = [.ref a] ∧ SqL K H1 a xs ∧ LcJ g tt te vs σ (Ite K a) H1 Q
noncomputable def LcZ (K : PySem.W.Frag) (g : TG) (tt : TT) (te : TE) (vs : List Nat) (σ : L2.St) (x : List V) (H1 : Hp) (Q : VK) : Prop := ∃ a b xs ys, x = [.ref a, .ref b] ∧ SqL K H1 a xs ∧ SqL K H1 b ys ∧ LcJ g tt te vs σ (Itz K a b) H1 Q
theorem s_lcL (q : tl σ H fun x H1 => LcL K g tt te vs σ x H1 Q) : tLc (iList K tl) g tt te vs σ H Q := q
theorem s_lcR1 {ta : TA} (q : ta σ H fun x H1 => LcR1 g tt te vs σ x H1 Q) : tLc (iRng1 ta) g tt te vs σ H Q := q
/-- the turns of a comprehension: what is kept stands in the relation R to its item; R is told at any heap that has all but the list that is made -/
theorem lc_turns {α : Type} {J : It} (l : List α) (p : α → Bool) (R : α → V → Hp → Prop) (mono : ∀ x y H1 H2, Ex H1 H2 → R x y H1 → R x y H2) (hz : l.length ≤ 40000)
    (hgo : ∀ i H', i < l.length → Ex H H' → J.go i H') (hst : ∀ H', Ex H H' → J.stop l.length H')
    (turn : ∀ D, H D = none → ∀ (i : Nat) x, l[i]? = some x → ∀ v H0 H', Ex H H0 → (∃ o, H0 D = some o) → J.yld i H0 v H' → Ex H0 H' ∧
      ∀ (A : VK) (B : Hp → Prop), (p x = true → ∀ y H4, Ex H' H4 → (∀ Z, ExM D H4 Z → Ex H Z → R x y Z) → A y H4) → (p x = false → ∀ H3, Ex H' H3 → B H3) →
        g v (wipe σ vs) H' fun σ2 H2 => wipe σ2 vs = wipe σ vs ∧ tt σ2 H2 fun b H3 => if b = true then te σ2 H3 A else B H3)
    (fin : ∀ D H' ys, H D = none → Ex H H' → H' D = some (.lst ys) → Paired (fun x y => R x y H') (l.filter p) ys → Q (.ref D) H') : LcJ g tt te vs σ J H Q := by
  intro D hD
  refine ⟨fun i m H' => m = l.length - i ∧ i ≤ l.length ∧ Ex H H' ∧ ∃ ys, H' D = some (.lst ys) ∧ ys.length ≤ i ∧ ∃ Z, Z D = none ∧ Ex Z H' ∧ ExM D H' Z ∧ Paired (fun x y => R x y Z) ((l.take i).filter p) ys,
    ⟨l.length, by omega, by omega, Ex.new hD, [], upd_same, Nat.le_refl _, H, hD, Ex.new hD, fun b o n e => by rw [upd_ne n] at e; exact e, .nil⟩, ?_⟩
  rintro i m H' ⟨rfl, hi, e, ys, hys, hly, Z, zD, zE, zM, pr⟩
  by_cases hlt : i < l.length
  · refine .inr ⟨hgo i H' hlt e, fun H'' => i + 1 ≤ l.length ∧ Ex H H'' ∧ ∃ ys, H'' D = some (.lst ys) ∧ ys.length ≤ i + 1 ∧ ∃ Z, Z D = none ∧ Ex Z H'' ∧ ExM D H'' Z ∧ Paired (fun x y => R x y Z) ((l.take (i + 1)).filter p) ys,
      fun H'' q => ⟨l.length - (i + 1), by omega, rfl, q⟩, fun v H2 hy => ?_⟩
    have ei : l[i]? = some l[i] := List.getElem?_eq_getElem hlt
    have e1 : l.take (i + 1) = l.take i ++ [l[i]] := by rw [List.take_add_one, ei]; rfl
    obtain ⟨ey, tn⟩ := turn D hD i _ ei v H' H2 e ⟨_, hys⟩ hy
    refine tn _ _ (fun hp y H4 e4 r => ?_) (fun hp H3 e3 => ?_)
    · have e5 := ey.trans e4
      have eD : Ex H (upd H4 D (.lst (ys ++ [y]))) := (e.trans e5).mut hD
      let Z4 : Hp := fun b => if b = D then none else H4 b
      have k1 : Z4 D = none := if_pos rfl
      have k2 : ExM D H4 Z4 := fun b o n q => by
        show (if b = D then none else H4 b) = some o
        rw [if_neg n]
        exact q
      have k3 : Ex Z Z4 := fun b o q => k2 b o (ne_of_none q zD) (e5 _ _ (zE b o q))
      have k4 : Ex H Z4 := fun b o q => k2 b o (ne_of_none q hD) (e5 _ _ (e b o q))
      refine ⟨ys, e5 _ _ hys, sz_lt (by omega), by omega, eD, _, upd_same, by rw [List.length_append]; show _ + 1 ≤ _; omega, Z4, k1, fun b o q => ?_, fun b o n q => ?_, ?_⟩
      · have nb : b ≠ D := ne_of_none q k1
        rw [upd_ne nb]
        have q' : (if b = D then none else H4 b) = some o := q
        rw [if_neg nb] at q'
        exact q'
      · rw [upd_ne n] at q
        exact k2 b o n q
      · rw [e1, List.filter_append, List.filter_cons, if_pos hp]
        exact Paired.snoc (Paired.mapP pr fun a b r => mono a b _ _ k3 r) (r Z4 k2 k4)
    · refine ⟨by omega, e.trans (ey.trans e3), ys, (ey.trans e3) _ _ hys, by omega, ?_⟩
      let Z4 : Hp := fun b => if b = D then none else H3 b
      have k1 : Z4 D = none := if_pos rfl
      have k2 : ExM D H3 Z4 := fun b o n q => by
        show (if b = D then none else H3 b) = some o
        rw [if_neg n]
        exact q
      have k3 : Ex Z Z4 := fun b o q => k2 b o (ne_of_none q zD) ((ey.trans e3) _ _ (zE b o q))
      refine ⟨Z4, k1, fun b o q => ?_, k2, ?_⟩
      · have nb : b ≠ D := ne_of_none q k1
        have q' : (if b = D then none else H3 b) = some o := q
        rw [if_neg nb] at q'
        exact q'
      · rw [e1, List.filter_append, List.filter_cons, if_neg (by rw [hp]; exact Bool.false_ne_true)]
        show Paired _ (_ ++ []) _
        rw [List.append_nil]
        exact Paired.mapP pr fun a b r => mono a b _ _ k3 r
  · have ei : i = l.length := by omega
    subst ei
    rw [List.take_length] at pr
    exact .inl ⟨hst H' e, fin D H' ys hD e hys (Paired.mapP pr fun a b r => mono a b _ _ zE r)⟩
theorem pair_map {α β : Type} {F : α → β} : ∀ {l : List α} {ys : List β}, Paired (fun x y => y = F x) l ys → ys = l.map F
  | _, _, .nil => rfl
  | _, _, .cons h t => by rw [h, pair_map t]; rfl
/-- values of a pure element over a list: they hang on the item alone -/
theorem u_lcL {α : Type} {a : Addr} (em : α → V) (l : List α) (p : α → Bool) (F : α → V) (hS : SqL K H a (l.map em)) (hz : l.length ≤ 40000)
    (turn : ∀ x ∈ l, ∀ H', Ex H H' → ∀ (A : VK) (B : Hp → Prop), (p x = true → ∀ H4, Ex H' H4 → A (F x) H4) → (p x = false → ∀ H3, Ex H' H3 → B H3) →
      g (em x) (wipe σ vs) H' fun σ2 H2 => wipe σ2 vs = wipe σ vs ∧ tt σ2 H2 fun b H3 => if b = true then te σ2 H3 A else B H3)
    (fin : ∀ D H', H D = none → Ex H H' → H' D = some (.lst ((l.filter p).map F)) → Q (.ref D) H') : LcL K g tt te vs σ (.ref a) H Q := by
  refine ⟨a, rfl, ⟨_, hS⟩, lc_turns l p (fun x y _ => y = F x) (fun _ _ _ _ _ r => r) hz (fun i H' hi e => ⟨_, em l[i], e.sq hS, by rw [List.getElem?_map, List.getElem?_eq_getElem hi]; rfl⟩) (fun H' e => ⟨_, e.sq hS, by rw [List.length_map]; exact Nat.le_refl _⟩)
    (fun D hD i x hx v H0 H' e _ hy => ?_) (fun D H' ys hD e h pr => fin D H' hD e (by rw [h, pair_map pr]))⟩
  obtain ⟨rfl, fv⟩ := hy
  have ev : v = em x := by
    have q := fv _ (e.sq hS)
    rw [List.getElem?_map, hx] at q
    exact (Option.some.inj q).symm
  subst ev
  exact ⟨Ex.refl _, fun A B h1 h2 => turn x (List.mem_of_getElem? hx) _ e A B (fun hp H4 e4 => h1 hp _ H4 e4 fun _ _ _ => rfl) h2⟩
theorem filter_yes {α : Type} : ∀ l : List α, l.filter (fun _ => true) = l
  | [] => rfl
  | x :: l => by rw [List.filter_cons, if_pos rfl, filter_yes l]
/-- .. without a test -/
theorem u_mapL {α : Type} {a : Addr} (em : α → V) (l : List α) (F : α → V) (hS : SqL K H a (l.map em)) (hz : l.length ≤ 40000)
    (turn : ∀ x ∈ l, ∀ H', Ex H H' → ∀ A : VK, (∀ H4, Ex H' H4 → A (F x) H4) → g (em x) (wipe σ vs) H' fun σ2 H2 => wipe σ2 vs = wipe σ vs ∧ te σ2 H2 A)
    (fin : ∀ D H', H D = none → Ex H H' → H' D = some (.lst (l.map F)) → Q (.ref D) H') : LcL K g tYes te vs σ (.ref a) H Q :=
  u_lcL em l (fun _ => true) F hS hz (fun x hx H' e A B h1 _ => by
    have e2 : (fun (σ2 : L2.St) H2 => wipe σ2 vs = wipe σ vs ∧ tYes σ2 H2 fun b H3 => if b = true then te σ2 H3 A else B H3) = fun σ2 H2 => wipe σ2 vs = wipe σ vs ∧ te σ2 H2 A := by
      funext σ2 H2
      show (_ ∧ if true = true then te σ2 H2 A else B H2) = _
      rw [if_pos rfl]
    rw [e2]
    exact turn x hx H' e A (h1 rfl)) (by rw [filter_yes]; exact fin)
end
/-! ### greatest, least, sorted -/
noncomputable def maxI (l : List Int) : Int := match l with | [] => 0 | a :: t => t.foldl max a
noncomputable def minI (l : List Int) : Int := match l with | [] => 0 | a :: t => t.foldl min a
noncomputable def sortI (l : List Int) : List Int := l.mergeSort (fun a b => decide (a ≤ b))
/-! ### heaps as letters: the next heap, and what is known of it -/
theorem ex_ap {H H' : Hp} {a : Addr} {o : HO} (e : Ex H H') (h : H a = some o) : H' a = some o := e a o h
section
variable {K : PySem.W.Frag} {σ : L2.St} {H : Hp} {Q : VK} {v : V} {R : Hp → Prop}
theorem n_lst {xs : List V} (h : xs.length ≤ 100000) (q : ∀ p H', H p = none → Ex H H' → H' p = some (.lst xs) → Q (.ref p) H') : NewL xs H Q := ⟨sz_of h, fun p hp => q p _ hp (Ex.new hp) upd_same⟩
theorem n_slL {a : Addr} {xs : List V} {lo hi : Option Int} (h : SqL K H a xs) (q : ∀ p H', H p = none → Ex H H' → H' p = some (.lst (cutV xs lo hi)) → Q (.ref p) H') : rSlL K (.ref a) lo hi H Q := ⟨a, xs, rfl, h, fun p hp => q p _ hp (Ex.new hp) upd_same⟩
theorem n_cat {a b : Addr} {xs ys : List V} (h1 : H a = some (.lst xs)) (h2 : H b = some (.lst ys)) (hz : xs.length + ys.length ≤ 100000) (q : ∀ p H', H p = none → Ex H H' → H' p = some (.lst (xs ++ ys)) → Q (.ref p) H') : rPlus (.ref a) (.ref b) H Q :=
  .inr (.inl ⟨a, b, xs, ys, rfl, rfl, h1, h2, sz_of hz, fun p hp => q p _ hp (Ex.new hp) upd_same⟩)
theorem n_setL {a : Addr} {xs : List V} {k : Int} {j : Nat} (h : H a = some (.lst xs)) (hk : ixN xs.length k = some j) (q : ∀ H', ExM a H H' → H' a = some (.lst (xs.set j v)) → R H') : rSetL (.ref a) (.int k) v H R := ⟨a, xs, k, j, rfl, rfl, h, hk, q _ ExM.upd upd_same⟩
noncomputable def rRevL (K : PySem.W.Frag) (x : V) (H : Hp) (Q : VK) : Prop := ∃ a xs, x = .ref a ∧ SqL K H a xs ∧ ∀ p, H p = none → Q (.ref p) (upd H p (.lst xs.reverse))
end

/-- the cut of a list, of anything -/
noncomputable def cutI {α : Type} (xs : List α) (lo hi : Option Int) : List α := (xs.drop (HT.sIx xs.length 0 lo)).take (HT.sIx xs.length xs.length hi - HT.sIx xs.length 0 lo)
theorem cutV_map {α : Type} (f : α → V) (xs : List α) (lo hi : Option Int) : cutV (xs.map f) lo hi = (cutI xs lo hi).map f := by
  unfold cutV cutI
  rw [List.length_map, ← List.map_drop, ← List.map_take]
theorem cutV_ints (xs : List Int) (lo hi : Option Int) : cutV (xs.map V.int) lo hi = (cutI xs lo hi).map V.int := cutV_map _ _ _ _
theorem cutI_to {α : Type} (xs : List α) {k : Int} (h : 0 ≤ k) : cutI xs none (some k) = xs.take k.toNat := by
  obtain ⟨n, rfl⟩ : ∃ n : Nat, k = (n : Int) := ⟨k.toNat, by omega⟩
  unfold cutI
  rw [HT.sIx_none, HT.sIx_nat, List.drop_zero, Nat.sub_zero, Int.toNat_natCast, List.take_eq_take_iff]
  omega
theorem cutI_from {α : Type} (xs : List α) {k : Int} (h : 0 ≤ k) : cutI xs (some k) none = xs.drop k.toNat := by
  obtain ⟨n, rfl⟩ : ∃ n : Nat, k = (n : Int) := ⟨k.toNat, by omega⟩
  unfold cutI
  rw [HT.sIx_none, HT.sIx_nat, Int.toNat_natCast]
  by_cases hn : n ≤ xs.length
  · rw [Nat.min_eq_left hn, List.take_of_length_le (by rw [List.length_drop]; exact Nat.le_refl _)]
  · rw [Nat.min_eq_right (by omega), Nat.sub_self, List.take_zero, List.drop_of_length_le (by omega)]
section
variable {K : PySem.W.Frag} {H : Hp} {Q : VK} {a : Addr}
theorem s_all {bs : List Bool} (h : SqL K H a (bs.map V.bl)) (q : Q (.bl (bs.all id)) H) : rAll K [.ref a] H Q := ⟨a, bs, rfl, h, q⟩
end
section
variable {K : PySem.W.Frag} {H : Hp} {Q : VK} {a : Addr} {i : Int}
end
theorem cx_K {CX : CXT} {P : Program} {w : World} {K : PySem.W.Frag} {mg : Str → Option Value} {base : Heap} {N : List Str} {x : Str} {sc : Scope} {f : Addr} {cdv : Value} {A : Around} {outer : List Env} {s : Shared} {H : Hp} {E : XK} :
    (cxOf CX P w K mg base N x sc f cdv A outer s H E).nox.K = K := rfl
theorem cx_K2 {CX : CXT} {P : Program} {w : World} {K : PySem.W.Frag} {mg : Str → Option Value} {base : Heap} {N : List Str} {x : Str} {sc : Scope} {f : Addr} {cdv : Value} {A : Around} {outer : List Env} {s : Shared} {H : Hp} {E : XK} :
    (cxOf CX P w K mg base N x sc f cdv A outer s H E).K = K := rfl
/-! ### places -/
/-! ### data with types: what a value is as a thing of plain Lean -/
class Py (α : Type) where
  d : α → PyData
  dep : Nat
  depth : ∀ a, (d a).depth ≤ dep
  can : ∀ a, (d a).canLay0 = true
  eqv : ∀ a b, (PyData.eqv (d a) (d b) = true ↔ a = b)
instance : Py Int := ⟨PyData.int, 0, fun _ => Nat.le_refl _, fun _ => rfl, fun a b => by rw [PyData.eqv]; exact beq_iff_eq⟩
instance : Py Bool := ⟨PyData.bool, 0, fun _ => Nat.le_refl _, fun _ => rfl, fun a b => by rw [PyData.eqv]; exact beq_iff_eq⟩
theorem eqvAll_iff {α : Type} [Py α] : ∀ xs ys : List α, (PyData.eqvAll (xs.map Py.d) (ys.map Py.d) = true ↔ xs = ys)
  | [], [] => by simp [PyData.eqvAll]
  | [], _ :: _ => by simp [PyData.eqvAll]
  | _ :: _, [] => by simp [PyData.eqvAll]
  | x :: xs, y :: ys => by
    rw [List.map_cons, List.map_cons, PyData.eqvAll, Bool.and_eq_true, Py.eqv, eqvAll_iff xs ys, List.cons.injEq]
theorem canAll_of {α : Type} [Py α] : ∀ xs : List α, PyData.canLayAll0 (xs.map Py.d) = true
  | [] => rfl
  | x :: xs => by rw [List.map_cons, PyData.canLayAll0, Py.can, canAll_of xs]; rfl
theorem depthAll_of {α : Type} [Py α] : ∀ xs : List α, PyData.depthAll (xs.map Py.d) ≤ Py.dep α
  | [] => Nat.zero_le _
  | x :: xs => by
    rw [List.map_cons, PyData.depthAll]
    exact Nat.max_le.mpr ⟨Py.depth x, depthAll_of xs⟩
instance {α : Type} [Py α] : Py (List α) := ⟨fun xs => .list (xs.map Py.d), Py.dep α + 1, fun xs => by rw [PyData.depth]; exact Nat.succ_le_succ (depthAll_of xs), fun xs => by rw [PyData.canLay0]; exact canAll_of xs, fun a b => by rw [PyData.eqv]; exact eqvAll_iff a b⟩
instance {α β : Type} [Py α] [Py β] : Py (α × β) := ⟨fun p => .tuple [Py.d p.1, Py.d p.2], max (Py.dep α) (Py.dep β) + 1, fun p => by
    simp only [PyData.depth, PyData.depthAll]
    have h1 := Py.depth p.1
    have h2 := Py.depth p.2
    omega, fun p => by simp only [PyData.canLay0, PyData.canLayAll0, Py.can]; rfl, fun a b => by
    simp only [PyData.eqv, PyData.eqvAll, Bool.and_true, Bool.and_eq_true, Py.eqv]
    exact ⟨fun h => Prod.ext h.1 h.2, fun h => by rw [h]; exact ⟨rfl, rfl⟩⟩⟩
/-- a triple | four, as one tuple -/
structure T3 (α β γ : Type) where
  a : α
  b : β
  c : γ
  deriving DecidableEq
structure T4 (α β γ δ : Type) where
  a : α
  b : β
  c : γ
  d : δ
  deriving DecidableEq
instance {α β γ : Type} [Py α] [Py β] [Py γ] : Py (T3 α β γ) := ⟨fun p => .tuple [Py.d p.a, Py.d p.b, Py.d p.c], max (Py.dep α) (max (Py.dep β) (Py.dep γ)) + 1, fun p => by
    simp only [PyData.depth, PyData.depthAll]
    have h1 := Py.depth p.a
    have h2 := Py.depth p.b
    have h3 := Py.depth p.c
    omega, fun p => by simp only [PyData.canLay0, PyData.canLayAll0, Py.can]; rfl, fun a b => by
    obtain ⟨a1, a2, a3⟩ := a
    obtain ⟨b1, b2, b3⟩ := b
    simp only [PyData.eqv, PyData.eqvAll, Bool.and_true, Bool.and_eq_true, Py.eqv, T3.mk.injEq]⟩
instance {α β γ δ : Type} [Py α] [Py β] [Py γ] [Py δ] : Py (T4 α β γ δ) := ⟨fun p => .tuple [Py.d p.a, Py.d p.b, Py.d p.c, Py.d p.d], max (Py.dep α) (max (Py.dep β) (max (Py.dep γ) (Py.dep δ))) + 1, fun p => by
    simp only [PyData.depth, PyData.depthAll]
    have h1 := Py.depth p.a
    have h2 := Py.depth p.b
    have h3 := Py.depth p.c
    have h4 := Py.depth p.d
    omega, fun p => by simp only [PyData.canLay0, PyData.canLayAll0, Py.can]; rfl, fun a b => by
    obtain ⟨a1, a2, a3, a4⟩ := a
    obtain ⟨b1, b2, b3, b4⟩ := b
    simp only [PyData.eqv, PyData.eqvAll, Bool.and_true, Bool.and_eq_true, Py.eqv, T4.mk.injEq]⟩
theorem eqv_dec {α : Type} [Py α] [DecidableEq α] (a b : α) : PyData.eqv (Py.d a) (Py.d b) = decide (a = b) := by
  by_cases h : a = b
  · rw [decide_eq_true h]
    exact (Py.eqv a b).mpr h
  · rw [decide_eq_false h]
    cases e : PyData.eqv (Py.d a) (Py.d b) with
    | true => exact absurd ((Py.eqv a b).mp e) h
    | false => rfl
theorem shaped_of {α : Type} [Py α] (a : α) (h : Py.dep α ≤ 64) : SeqAt.shaped (Py.d a) = true := by
  unfold SeqAt.shaped
  rw [Py.can, decide_eq_true (Nat.le_trans (Py.depth a) h)]
  rfl
/-- the value v stands in H as the thing x -/
noncomputable abbrev Is (K : PySem.W.Frag) (H : Hp) {α : Type} [Py α] (v : V) (x : α) : Prop := Dp K H v (Py.d x)
theorem s_eqP {α : Type} [Py α] [DecidableEq α] {K : PySem.W.Frag} {H : Hp} {Q : VK} {v w : V} {x y : α} (h1 : Is K H v x) (h2 : Is K H w y) (hd : Py.dep α ≤ 64) (q : Q (.bl (decide (x = y))) H) : rEqA K v w H Q :=
  .inr ⟨_, _, h1, h2, shaped_of x hd, shaped_of y hd, by rw [eqv_dec]; exact q⟩
theorem s_neP {α : Type} [Py α] [DecidableEq α] {K : PySem.W.Frag} {H : Hp} {Q : VK} {v w : V} {x y : α} (h1 : Is K H v x) (h2 : Is K H w y) (hd : Py.dep α ≤ 64) (q : Q (.bl (decide (x ≠ y))) H) : rNeA K v w H Q :=
  .inr ⟨_, _, h1, h2, shaped_of x hd, shaped_of y hd, by rw [eqv_dec, ← decide_not]; exact q⟩

/-! ### a list of data that is filled: it stands at D, its items in Z -/
instance : Py (Option Int) := ⟨fun o => match o with | none => .none | some i => .int i, 0, fun o => by cases o <;> exact Nat.le_refl _, fun o => by cases o <;> rfl, fun a b => by
  cases a <;> cases b
  · exact ⟨fun _ => rfl, fun _ => rfl⟩
  · exact ⟨fun h => (Bool.false_ne_true h).elim, fun h => nomatch h⟩
  · exact ⟨fun h => (Bool.false_ne_true h).elim, fun h => nomatch h⟩
  · rename_i x y
    show (x == y) = true ↔ some x = some y
    rw [beq_iff_eq, Option.some.injEq]⟩
/-- a number or nothing, as a value -/
noncomputable def optV : Option Int → V
  | none => .non
  | some i => .int i
structure LA (K : PySem.W.Frag) (Z H : Hp) (D : Addr) {α : Type} [Py α] (l : List α) : Prop where
  ex : ∃ vs, H D = some (.lst vs) ∧ Paired (fun v x => Is K Z v x) vs l
  zd : Z D = none
  zh : Ex Z H
section
variable {K : PySem.W.Frag} {Z H H' : Hp} {D : Addr} {α : Type} [Py α] {l : List α}
end

section
variable {K : PySem.W.Frag} {Z H : Hp} {D : Addr} {α β : Type} [Py α] [Py β] {l : List α} {Q : VK} {v : V}
end
section
variable {K : PySem.W.Frag} {Z H : Hp} {α β γ : Type} [Py α] [Py β] [Py γ] {v : V} {σ : L2.St} {R : L2.St → Hp → Prop}
end
/-! ### what a def is, and that it keeps its promise -/
/-- the def x stands in the module as its text says -/
noncomputable def FunAt (K : PySem.W.Frag) (mg : Str → Option Value) (x : Str) (st : Stmt) (ps : List Str) : Prop := ∃ f fd, Fun K x x st f fd ∧ mg x = some (.ref f) ∧ Binds K fd ps []
/-- the def x keeps the promise sp, by at most level k -/
noncomputable def Has (P : Program) (w : World) (K : PySem.W.Frag) (mg : Str → Option Value) (base : Heap) (x : Str) (k : Nat) (sp : Sp) : Prop :=
  ∃ f fd ps, FnOk P w K mg base CX0 k f fd ps sp ∧ mg x = some (.ref f) ∧ PySem.W.keepIn K (.ref f) = true ∧ Binds K fd ps []
section
variable {X : Cx} {k k' : Nat} {sp : Sp} {x : Str} {p pos : Pos} {e : Expr} {es : List Expr} {t : TA}
theorem pe_callH (h : Has X.prog X.w X.K X.mg X.base x k sp) (hk : k ≤ k') (hr : Room k' X.A) (hg : Gl X x) (ha : PA X (e :: es) t) (hdb : (x == ("__debug__" : Str)) = false := by decide)
    (he : starEach (e :: es) X.env = (false, eval e X.env) :: starEach es X.env := by rfl) (hpl : (backTo pos (starEach es X.env)).any (·.1) = false := by rfl) : PE X (.Call (.Name x p) (e :: es) [] pos) (tCall sp [] E0 t) := by
  obtain ⟨f, fd, ps, F, hm, kp, hb⟩ := h
  exact pe_call F (hr.mono hk) hg hm kp hb .nil pass0 ha hdb he hpl
end
section
variable {P : Program} {w : World} {K : PySem.W.Frag} {mg : Str → Option Value} {base : Heap}
theorem fnok_of {x : Str} {st : Stmt} {N ps : List Str} {k : Nat} {sp : Sp} {f : Addr} {fd : FuncData} (F : Fun K x x st f fd) (S : FnScope N ps (defScope st)) (len : ∀ vs H Q E, sp vs H Q E → vs.length = ps.length)
    (hbody : ∀ (cdv : Value) (A : Around) (outer : List Env) (s : Shared) (H : Hp) (vs : List V) (Q : VK) (E : XK), Room k (A.deeper (envOfC x (defScope st) s.heap.objs.size f cdv)) → sp vs H Q E →
      ∃ t, PSs (cxOf CX0 P w K mg base N x (defScope st) f cdv A outer s H E).nox (defBody st) t ∧ t { nx := fun _ H' => Q .non H', rt := Q } (start N vs) H) : FnOk P w K mg base CX0 (k + 1) f fd ps sp := F.ok S len hbody
/-- a def's promise by its body -/
theorem has_of {x : Str} {st : Stmt} {N ps : List Str} {k : Nat} {sp : Sp} (F : FunAt K mg x st ps) (S : FnScope N ps (defScope st)) (len : ∀ vs H Q E, sp vs H Q E → vs.length = ps.length)
    (hbody : ∀ (f : Addr) (cdv : Value) (A : Around) (outer : List Env) (s : Shared) (H : Hp) (vs : List V) (Q : VK) (E : XK), Room k (A.deeper (envOfC x (defScope st) s.heap.objs.size f cdv)) → sp vs H Q E →
      ∃ t, PSs (cxOf CX0 P w K mg base N x (defScope st) f cdv A outer s H E).nox (defBody st) t ∧ t { nx := fun _ H' => Q .non H', rt := Q } (start N vs) H) : Has P w K mg base x (k + 1) sp := by
  obtain ⟨f, fd, F, hm, hb⟩ := F
  exact ⟨f, fd, ps, F.ok S len (hbody f), hm, F.kp, hb⟩
/-- a def as the head's facts tell it -/
theorem funAt_mk {h : Heap} (X : K.In h) (G : h.Ns mainGlobals mg) {x : Str} {st : Stmt} {ps : List Str} {f : Addr} {oc : Value} {od an : Option Addr} {osl : Array (Option Value)} {kV doc pm cdv ct : Value}
    (a : PySem.W.nsIn K mainGlobals x = some (some (.ref f))) (l : K.lookup f = some ⟨oc, od, .func (PySem.W.fnOf x x (defArgs st) (defBody st) (defScope st) .none kV doc pm an cdv ct), osl⟩)
    (c : PySem.W.codeIn K cdv x = true) (k : PySem.W.keepIn K (.ref f) = true)
    (b : ∀ (kV doc pm : Value) (an : Option Addr) (cdv ct : Value) (us : List Value), us.length = ps.length → bindArgs (PySem.W.fnOf x x (defArgs st) (defBody st) (defScope st) .none kV doc pm an cdv ct) ⟨us, []⟩ = pure (ps.zip us)) : FunAt K mg x st ps :=
  ⟨f, _, fun_mk l c k, PySem.W.mg_of X G a, (fun_mk (st := st) l c k).binds b⟩
/-- the law itself at the end -/
theorem law_end {P : Program} {h : Heap} (X : K.In h) (G : h.Ns mainGlobals mg) {fa : Addr} (hfa : mg "law" = some (.ref fa)) {st : Stmt} {x : Str} {k : Nat} {sp : Sp} {f : Addr} {oc : Value} {od an : Option Addr} {osl : Array (Option Value)} {kV doc pm cdv ct : Value}
    (a : PySem.W.nsIn K mainGlobals "law" = some (some (.ref f))) (l : K.lookup f = some ⟨oc, od, .func (PySem.W.fnOf "law" "law" (defArgs st) (defBody st) (defScope st) .none kV doc pm an cdv ct), osl⟩)
    (c : PySem.W.codeIn K cdv "law" = true) (kp : PySem.W.keepIn K (.ref f) = true)
    (hb : ∀ (s : Shared) (v : Value), BindsTo s (PySem.W.fnOf "law" "law" (defArgs st) (defBody st) (defScope st) .none kV doc pm an cdv ct) ⟨[v], []⟩ [(x, v)])
    (b : ∀ base : Heap, Fun K "law" "law" st f (PySem.W.fnOf "law" "law" (defArgs st) (defBody st) (defScope st) .none kV doc pm an cdv ct) → FnOk P w K mg base CX0 k f (PySem.W.fnOf "law" "law" (defArgs st) (defBody st) (defScope st) .none kV doc pm an cdv ct) [x] sp) :
    ∃ fd : FuncData, (∀ (s : Shared) (v : Value), BindsTo s fd ⟨[v], []⟩ [(x, v)]) ∧ ∀ base : Heap, K.In base → base.Ns mainGlobals mg → FnOk P w K mg base CX0 k fa fd [x] sp := by
  have e := hfa.symm.trans (PySem.W.mg_of X G a)
  cases e
  exact ⟨_, hb, fun base _ _ => b base (fun_mk l c kp)⟩
end
end TR
/-! the hand that is drawn from: n draws are left (its counter stays below 2^60) -/
namespace TR
open PySem L2
noncomputable def Hand (K : PySem.W.Frag) (Z H : Hp) (h : Addr) (n : Nat) : Prop :=
  ∃ (d k : Int) (c : Addr) (cells : List Int), H h = some (.lst [.int d, .int k, .ref c]) ∧ 0 < cells.length ∧ 0 ≤ k ∧ k + n ≤ 1000000000000000000 ∧ Ex Z H ∧ Z h = none ∧ SqL K Z c (cells.map V.int)
theorem Hand.mono {K : PySem.W.Frag} {Z H : Hp} {h : Addr} {n m : Nat} (a : Hand K Z H h n) (l : m ≤ n) : Hand K Z H h m := by
  obtain ⟨d, k, c, cells, h1, h3, h4, h5, h6⟩ := a
  exact ⟨d, k, c, cells, h1, h3, h4, by omega, h6⟩
theorem Hand.exm {K : PySem.W.Frag} {Z H H' : Hp} {h g : Addr} {n : Nat} (a : Hand K Z H h n) (e : ExM g H H') (n1 : h ≠ g) (n2 : Z g = none) : Hand K Z H' h n := by
  obtain ⟨d, k, c, cells, h1, h3, h4, h5, z1, z2, z3⟩ := a
  exact ⟨d, k, c, cells, e _ _ n1 h1, h3, h4, h5, z1.exm n2 e, z2, z3⟩
theorem Hand.at {K : PySem.W.Frag} {Z H : Hp} {h : Addr} {n : Nat} (a : Hand K Z H h n) : ∃ o, H h = some o := by
  obtain ⟨d, k, c, cells, h1, _⟩ := a
  exact ⟨_, h1⟩
theorem Hand.z {K : PySem.W.Frag} {Z H : Hp} {h : Addr} {n : Nat} (a : Hand K Z H h n) : Ex Z H := by
  obtain ⟨d, k, c, cells, h1, h3, h4, h5, z1, z2, z3⟩ := a
  exact z1
theorem Hand.zn {K : PySem.W.Frag} {Z H : Hp} {h : Addr} {n : Nat} (a : Hand K Z H h n) : Z h = none := by
  obtain ⟨_, _, _, _, _, _, _, _, _, h6, _⟩ := a
  exact h6
theorem hand_ne {K : PySem.W.Frag} {Z H H' : Hp} {h p : Addr} {n : Nat} (hp : H' p = none) (a : Hand K Z H h n) (e : Ex H H') : p ≠ h := by
  obtain ⟨o, ho⟩ := a.at
  exact (ne_of_none (e _ _ ho) hp).symm
theorem hand_ne0 {K : PySem.W.Frag} {Z H : Hp} {h p : Addr} {n : Nat} (hp : H p = none) (a : Hand K Z H h n) : p ≠ h := hand_ne hp a (Ex.refl _)
section
variable {K : PySem.W.Frag} {σ : L2.St} {H : Hp} {te : TE} {Q : VK} {g : TG} {vs : List Nat}
end
/-! ### rows: a list of lists, each of them an object of its own -/
structure RW (K : PySem.W.Frag) (Z H : Hp) (p : Addr) (qs : List Addr) {α : Type} [Py α] (rs : List (List α)) : Prop where
  own : H p = some (.lst (qs.map V.ref))
  nd : (p :: qs).Nodup
  fr : ∀ q ∈ p :: qs, Z q = none
  zh : Ex Z H
  rows : Paired (fun q r => ∃ vs, H q = some (.lst vs) ∧ Paired (fun v x => Is K Z v x) vs r) qs rs
section
variable {K : PySem.W.Frag} {Z H H1 H' : Hp} {p q : Addr} {qs : List Addr} {α : Type} [Py α] {rs : List (List α)} {Q : VK}
theorem paired_snoc {β γ : Type} {F : β → γ → Prop} : ∀ {xs : List β} {ys : List γ} {x : β} {y : γ}, Paired F xs ys → F x y → Paired F (xs ++ [x]) (ys ++ [y])
  | _, _, _, _, .nil, h => .cons h .nil
  | _, _, _, _, .cons a t, h => .cons a (paired_snoc t h)
end
section
variable {K : PySem.W.Frag} {σ : L2.St} {H : Hp} {te : TE} {Q : VK} {g : TG} {vs : List Nat}
end
section
variable {K : PySem.W.Frag} {σ : L2.St} {H : Hp} {te : TE} {Q : VK} {g : TG} {vs : List Nat}
end
section
variable {K : PySem.W.Frag} {σ : L2.St} {H : Hp} {tt : TT} {te : TE} {Q : VK} {g : TG} {vs : List Nat}
end
section
variable {K : PySem.W.Frag} {H : Hp} {Q : VK}
end
section
variable {K : PySem.W.Frag} {σ : L2.St} {H : Hp} {te : TE} {Q : VK} {g : TG} {vs : List Nat}
end
section
variable {K : PySem.W.Frag} {σ : L2.St} {H : Hp} {tt : TT} {te : TE} {Q : VK} {g : TG} {vs : List Nat}
/-- a value that is a list of numbers of its own -/
noncomputable def Lp (H : Hp) (v : V) (r : List Int) : Prop := ∃ a, v = .ref a ∧ H a = some (.lst (r.map V.int))
end
section
variable {K : PySem.W.Frag} {σ : L2.St} {H : Hp} {tt : TT} {te : TE} {Q : VK} {g : TG} {vs : List Nat}
theorem lc_yes {A : VK} {B : Hp → Prop} : (fun (σ2 : L2.St) H2 => wipe σ2 vs = wipe σ vs ∧ tYes σ2 H2 fun b H3 => if b = true then te σ2 H3 A else B H3) = fun σ2 H2 => wipe σ2 vs = wipe σ vs ∧ te σ2 H2 A := by
  funext σ2 H2
  show (_ ∧ if true = true then te σ2 H2 A else B H2) = _
  rw [if_pos rfl]
end
/-! ### pairs of numbers, sorted -/
/-- a value that is a tuple of two numbers -/
noncomputable def Tp (H : Hp) (v : V) (r : Int × Int) : Prop := ∃ a, v = .ref a ∧ H a = some (.tup [.int r.1, .int r.2])
noncomputable def lexI (a b : Int × Int) : Bool := decide (a.1 < b.1 ∨ (a.1 = b.1 ∧ a.2 ≤ b.2))
noncomputable def sortP (l : List (Int × Int)) : List (Int × Int) := l.mergeSort lexI
noncomputable def keyP (H : Hp) (v : V) : Int × Int := match v with
  | .ref t => match H t with
    | some (.tup [.int i, .int j]) => (i, j)
    | _ => (0, 0)
  | _ => (0, 0)
/-- values that are tuples of three, of four numbers -/
noncomputable def Rp (H : Hp) (v : V) (t : T3 Int Int Int) : Prop := ∃ a, v = .ref a ∧ H a = some (.tup [.int t.a, .int t.b, .int t.c])
noncomputable def Qp (H : Hp) (v : V) (t : T4 Int Int Int Int) : Prop := ∃ a, v = .ref a ∧ H a = some (.tup [.int t.a, .int t.b, .int t.c, .int t.d])
/-! ### a dict of counts -/
noncomputable def CntD (H : Hp) (p : Addr) (f : Int → Int) (n : Nat) : Prop := ∃ kvs : List (L2.Key × V), H p = some (.dK kvs) ∧ kvs.length ≤ n ∧ ∀ r : Int, (valV kvs (Sum.inl r)).getD (.int 0) = .int (f r)
noncomputable def DG1 (a : Addr) (y z : V) (H3 : Hp) (Q : VK) : Prop := ∃ o, DGet H3 a y o ∧ Q (o.getD z) H3
noncomputable def DG (ty tx : TE) (σ : L2.St) (x : V) (H1 : Hp) (Q : VK) : Prop := ∃ a, x = .ref a ∧ IsD H1 a ∧ ty σ H1 fun y H2 => tx σ H2 fun z H3 => DG1 a y z H3 Q
noncomputable def DP (x y v : V) (H : Hp) (R : Hp → Prop) : Prop := ∃ a H4, x = .ref a ∧ DPut H a y v H4 ∧ R H4
section
variable {σ : L2.St} {H : Hp} {td ty tx tv : TE} {Q : VK} {D : Ends} {p : Addr} {f : Int → Int} {n : Nat}
end
/-- a value that is a list of numbers, not the one at p -/
noncomputable def Lq (p : Addr) (H : Hp) (v : V) (r : List Int) : Prop := ∃ a, v = .ref a ∧ a ≠ p ∧ H a = some (.lst (r.map V.int))
end TR
namespace TR
open PySem L2
/-- a test | a value, with a word behind it: what follows is shown once, from Mid -/
noncomputable def tTCut (t : TT) : TT := fun σ H QB => ∃ Mid : Bool → Hp → Prop, t σ H Mid ∧ ∀ b H1, Mid b H1 → QB b H1
noncomputable def tECut (t : TE) : TE := fun σ H Q => ∃ Mid : VK, t σ H Mid ∧ ∀ v H1, Mid v H1 → Q v H1
end TR

/-! ### classes, methods, exceptions of the text -/
namespace TR
open PySem L2 PySem.Spec PyProof.Rows
/-- where a class of the text stands -/
noncomputable def clsA (K : PySem.W.Frag) (x : Str) : Addr := match PySem.W.nsIn K mainGlobals x with | some (some (.ref C)) => C | _ => 0
theorem clsA_of {K : PySem.W.Frag} {x : Str} {C : Addr} (h : PySem.W.nsIn K mainGlobals x = some (some (.ref C))) : clsA K x = C := by
  unfold clsA
  rw [h]
/-- a def that may raise keeps the promise -/
noncomputable def HasX (P : Program) (w : World) (K : PySem.W.Frag) (mg : Str → Option Value) (base : Heap) (x : Str) (k : Nat) (sp : Sp) : Prop :=
  ∃ f fd ps, FnOk P w K mg base (L2.CX P w) k f fd ps sp ∧ mg x = some (.ref f) ∧ PySem.W.keepIn K (.ref f) = true ∧ Binds K fd ps []
/-- a method -/
noncomputable def HasM (P : Program) (w : World) (K : PySem.W.Frag) (mg : Str → Option Value) (base : Heap) (x m : Str) (k : Nat) (sp : Sp) : Prop :=
  ∃ f fd ps, FnOk P w K mg base (L2.CX P w) k f fd ps sp ∧ Meth K (clsA K x) m f ∧ Binds K fd ps []
/-- a class that is made by its __init__ -/
noncomputable def HasK (P : Program) (w : World) (K : PySem.W.Frag) (mg : Str → Option Value) (base : Heap) (x : Str) (k : Nat) (sp : Sp) : Prop :=
  ∃ f fd ps, FnOk P w K mg base (L2.CX P w) k f fd ps sp ∧ Mk K (clsA K x) f ∧ mg x = some (.ref (clsA K x)) ∧ Binds K fd ps []
structure MethAt (K : PySem.W.Frag) (x m q : Str) (st : Stmt) (ps : List Str) : Prop where
  ex : ∃ f fd, Fun K m q st f fd ∧ Meth K (clsA K x) m f ∧ Binds K fd ps []
structure MakeAt (K : PySem.W.Frag) (mg : Str → Option Value) (x q : Str) (st : Stmt) (ps : List Str) : Prop where
  ex : ∃ f fd, Fun K "__init__" q st f fd ∧ Mk K (clsA K x) f ∧ mg x = some (.ref (clsA K x)) ∧ Binds K fd ps []
/-- an exception class with one field that its __init__ lays -/
structure ExF (K : PySem.W.Frag) (mg : Str → Option Value) (x f : Str) : Prop where
  o : OexC K (clsA K x)
  g : mg x = some (.ref (clsA K x))
  n : PySem.W.findIn K (.ref (clsA K x)) f = some none
structure ExAt (K : PySem.W.Frag) (x q : Str) (st : Stmt) (ps : List Str) : Prop where
  ex : ∃ fI fd, Fun K "__init__" q st fI fd ∧ PySem.W.findIn K (.ref (clsA K x)) "__init__" = some (some (.ref fI)) ∧ PySem.W.typeIn K (.ref fI) = some (.type "function") ∧ Binds K fd ps []
/-- the class over all own exceptions, itself right under ValueError -/
structure TeC (K : PySem.W.Frag) (mg : Str → Option Value) (x : Str) : Prop where
  g : mg x = some (.ref (clsA K x))
  ga : PySem.W.specialIn K (.ref (clsA K x)) "__getattribute__" = some (some (.builtin "type.__getattribute__"))
  rd : PySem.W.readsIn K (clsA K x) (.type "type") = true
  fi : PySem.W.findCls K (.ref (clsA K x)) (.type "type") "__init__" = some (.val (.builtin "ValueError.__init__"))
noncomputable def spInit (f : Str) (K : PySem.W.Frag) : Sp := fun vs H Q _ => ∃ (a C : Addr) (v : V), vs = [.ref a, v] ∧ OexC K C ∧ PySem.W.findIn K (.ref C) f = some none ∧ H a = some (exo a C none) ∧ ∀ d, H d = none → d ≠ a → Q .non (upd (upd H d (exd d [(f, v)])) a (exo a C (some d)))
noncomputable def HasE (P : Program) (w : World) (K : PySem.W.Frag) (mg : Str → Option Value) (base : Heap) (x f : Str) (k : Nat) : Prop :=
  ∃ fI fd ps, FnOk P w K mg base CX0 k fI fd ps (spInit f K) ∧ ExF K mg x f ∧ PySem.W.findIn K (.ref (clsA K x)) "__init__" = some (some (.ref fI)) ∧ PySem.W.typeIn K (.ref fI) = some (.type "function") ∧ Binds K fd ps []
/-- what may be let out at the slots σ -/
noncomputable abbrev Px (X : Cx) (E : L2.St → XK) : Prop := ∀ σ, PassesAt (L2.CX X.prog X.w) X σ (E σ)
noncomputable def tCallE (sp : Sp) (E : L2.St → XK) (t : TA) : TE := fun σ H Q => t σ H fun vs H1 => sp vs H1 Q (E σ)
noncomputable def tMethE (C : Addr) (m : Str) (sp : Sp) (E : L2.St → XK) (ta : TE) (t : TA) : TE := fun σ H Q => ta σ H fun x H1 => ∃ a dx fs, x = .ref a ∧ H1 a = some (.ins C dx fs) ∧ fs.lookup m = none ∧ t σ H1 fun vs H2 => sp (x :: vs) H2 Q (E σ)
noncomputable def tMakeE (C : Addr) (sp : Sp) (E : L2.St → XK) (t : TA) : TE := fun σ H Q => t σ H fun vs H1 => ∀ x dx, H1 x = none → H1 dx = none → dx ≠ x → sp (.ref x :: vs) (upd (upd H1 dx (.own x)) x (.ins C dx [])) (fun v H2 => v = .non ∧ Q (.ref x) H2) (E σ)
section
variable {X : Cx} {k k' : Nat} {sp : Sp} {x m f : Str} {p p1 p2 pos pos2 apos : Pos} {e o : Expr} {es : List Expr} {t : TA} {ta : TE} {E : L2.St → XK} {W : WX}
end
section
variable {X : Cx} {k k' : Nat} {sp : Sp} {x m f : Str} {p p1 p2 pos pos2 apos : Pos} {e o : Expr} {es : List Expr} {t : TA} {ta : TE} {W : WX}
/-- TailError.__init__(self, ..) -/
theorem pe_teinit {pl : Sem Bool} (T : TeC X.K X.mg x) (hg : Gl X x) (ha : PA X (e :: es) t) (hdb : (x == ("__debug__" : Str)) = false := by decide)
    (hc : eval (.Call (.Attribute (.Name x p1) "__init__" p2) (e :: es) [] pos) X.env = (do
      let ov ← eval (.Name x p1) X.env
      standAt p2.atName
      let (f, first) ← holding [ov] (getMethod ov "__init__" pl)
      callWith pos f first (backTo pos (starEach (e :: es) X.env)) (backToKw pos (keywordEach [] X.env))) := by rfl)
    (he : starEach (e :: es) X.env = (false, eval e X.env) :: starEach es X.env := by rfl) (hpl : (backTo pos (starEach es X.env)).any (·.1) = false := by rfl) :
    PE X (.Call (.Attribute (.Name x p1) "__init__" p2) (e :: es) [] pos) (tVeI X.K t) := by
  refine ⟨fun pins s σ H Q I h => ?_⟩
  refine PySem.W.methodCall_KW (ld_glob I hg T.g ?_ hdb) hc
  refine PySem.W.method_cls I.kIn T.ga (PySem.W.cls_value I.kIn T.rd T.fi (by decide +kernel) ?_)
  show wpAny _ _ (callWith pos (Value.builtin "ValueError.__init__") [] (backTo pos (starEach (e :: es) X.env)) []) _ _ _
  refine PyProof.Rows.callWith_method1 (thn (ha.run pos pins _ σ H _ (I.tok _) h) fun us s1 ⟨vs, H1, I1, r1, a, C, ws, ev, hl, T, ea, q⟩ => ?_) he hpl
  subst ev
  cases r1 with
  | @cons _ u0 _ ur ra rw' =>
    obtain rfl : u0 = Value.ref a := ra
    have hlen : ur.length ≤ sizeLine := by
      rw [← Paired.length rw', sizeLine_eq]
      omega
    exact oinit_ok T I1 ea hlen fun s' J => ⟨.non, H1, J, rfl, q⟩
/-- raise X(e) -/
noncomputable def tRaise (C : Addr) (f : Str) (W : WX) (t : TA) : TS := fun _ σ H => t σ H fun vs H1 => ∃ v, vs = [v] ∧ ∀ d, H1 d = none → W (.ref C) (some d) σ (upd H1 d (.xd [(f, v)]))
theorem pa_weak {es : List Expr} (h : PA X es t) : PA X es (fun σ H Q' => ∃ Q0 : List V → Hp → Prop, t σ H Q0 ∧ ∀ vs H1, Q0 vs H1 → Q' vs H1) :=
  ⟨fun pos pins s σ H Q I ⟨Q0, h1, h2⟩ => wpAny_mono (h.run pos pins s σ H Q0 I h1) (fun us s' ⟨vs, H', I', r, q⟩ => ⟨vs, H', I', r, h2 vs H' q⟩) fun _ _ e => e⟩
end
section
variable {P : Program} {w : World} {K : PySem.W.Frag} {mg : Str → Option Value} {base : Heap}
theorem has_ofE {x q g : Str} {st : Stmt} {N ps : List Str} {k : Nat} (T : ExF K mg x g) (F : ExAt K x q st ps) (S : FnScope N ps (defScope st)) (len : ∀ vs H Q E, spInit g K vs H Q E → vs.length = ps.length)
    (hbody : ∀ (f : Addr) (cdv : Value) (A : Around) (outer : List Env) (s : Shared) (H : Hp) (vs : List V) (Q : VK) (E : XK), Room k (A.deeper (envOfC q (defScope st) s.heap.objs.size f cdv)) → spInit g K vs H Q E →
      ∃ t, PSs (cxOf CX0 P w K mg base N q (defScope st) f cdv A outer s H E).nox (defBody st) t ∧ t { nx := fun _ H' => Q .non H', rt := Q } (start N vs) H) : HasE P w K mg base x g (k + 1) := by
  obtain ⟨f, fd, F, h1, h2, hb⟩ := F.ex
  exact ⟨f, fd, ps, F.ok S len (hbody f), T, h1, h2, hb⟩
theorem exAt_mk {h : Heap} (X : K.In h) {x q : Str} {st : Stmt} {ps : List Str} {f C : Addr} {oc : Value} {od an : Option Addr} {osl : Array (Option Value)} {kV doc pm cdv ct : Value}
    (aC : PySem.W.nsIn K mainGlobals x = some (some (.ref C))) (a : PySem.W.findIn K (.ref C) "__init__" = some (some (.ref f))) (l : K.lookup f = some ⟨oc, od, .func (PySem.W.fnOf "__init__" q (defArgs st) (defBody st) (defScope st) .none kV doc pm an cdv ct), osl⟩)
    (c : PySem.W.codeIn K cdv q = true) (t : PySem.W.typeIn K (.ref f) = some (.type "function")) (k : PySem.W.keepIn K (.ref f) = true)
    (b : ∀ (kV doc pm : Value) (an : Option Addr) (cdv ct : Value) (us : List Value), us.length = ps.length → bindArgs (PySem.W.fnOf "__init__" q (defArgs st) (defBody st) (defScope st) .none kV doc pm an cdv ct) ⟨us, []⟩ = pure (ps.zip us)) : ExAt K x q st ps := by
  refine ⟨f, _, fun_mk l c k, ?_, t, (fun_mk (st := st) l c k).binds b⟩
  rw [clsA_of aC]
  exact a
theorem exF_mk {h : Heap} (X : K.In h) (G : h.Ns mainGlobals mg) {x f : Str} {C : Addr} (aC : PySem.W.nsIn K mainGlobals x = some (some (.ref C)))
    {nm q : Str} {N : Addr} {bs bm : List Value} {sn : List Str} {sub : List Value} {ab : Bool} {col : Option Bool} {dd : Option Addr} {k0 k1 k2 k3 k5 : Option Value}
    (l : K.lookup C = some (excClassObj nm q C N bs bm true sn sub ab col dd k0 k1 k2 k3 k5 "ValueError.__new__")) (r : PySem.HandSPX.refsVE bm = true)
    (sa : PySem.W.findIn K (.ref C) "__setattr__" = some (some (.builtin "object.__setattr__"))) (eC : PySem.W.subIn K (.ref C) (.type "BaseException") = some true) (tC : PySem.W.typeIn K (.ref C) = some (.type "type")) (kC : PySem.W.keepIn K (.ref C) = true)
    (n : PySem.W.findIn K (.ref C) f = some none) : ExF K mg x f := by
  refine ⟨?_, ?_, ?_⟩
  · rw [clsA_of aC]
    exact ⟨⟨nm, q, N, bs, bm, sn, sub, ab, col, dd, k0, k1, k2, k3, k5, l, r⟩, sa, eC, tC, kC⟩
  · rw [clsA_of aC]
    exact PySem.W.mg_of X G aC
  · rw [clsA_of aC]
    exact n
theorem teC_mk {h : Heap} (X : K.In h) (G : h.Ns mainGlobals mg) {x : Str} {C : Addr} (aC : PySem.W.nsIn K mainGlobals x = some (some (.ref C))) (ga : PySem.W.specialIn K (.ref C) "__getattribute__" = some (some (.builtin "type.__getattribute__")))
    (rd : PySem.W.readsIn K C (.type "type") = true) (fi : PySem.W.findCls K (.ref C) (.type "type") "__init__" = some (.val (.builtin "ValueError.__init__"))) : TeC K mg x := by
  refine ⟨?_, ?_, ?_, ?_⟩
  · rw [clsA_of aC]
    exact PySem.W.mg_of X G aC
  all_goals (rw [clsA_of aC]; assumption)
end
end TR
namespace TR
open PySem L2 PySem.Spec PyProof.Rows
theorem clsG_mk {K : PySem.W.Frag} {mg : Str → Option Value} {h : Heap} (X : K.In h) (G : h.Ns mainGlobals mg) {x : Str} {C : Addr} (aC : PySem.W.nsIn K mainGlobals x = some (some (.ref C))) : mg x = some (.ref (clsA K x)) := by
  rw [clsA_of aC]
  exact PySem.W.mg_of X G aC
end TR
namespace TR
open PySem L2 PySem.Spec PyProof.Rows
section
variable {P : Program} {w : World} {K : PySem.W.Frag} {mg : Str → Option Value} {base : Heap} {x y : Str} {k : Nat} {sp : Sp}
end
end TR
namespace TR
open PySem L2
section
variable {K : PySem.W.Frag} {H : Hp} {σ : L2.St} {Q : VK} {D : Ends} {C a dx : Addr} {f m : Str} {W : WX} {t : TA} {ta tv : TE} {E : L2.St → XK} {E1 : XK} {sp : Sp} {v : V} {fs : List (Str × V)}
noncomputable def RaP (C : Addr) (f : Str) (W : WX) (σ : L2.St) (vs : List V) (H : Hp) : Prop := ∃ v, vs = [v] ∧ ∀ d, H d = none → W (.ref C) (some d) σ (upd H d (.xd [(f, v)]))
theorem s_raise (q : t σ H fun vs H1 => RaP C f W σ vs H1) : tRaise C f W t D σ H := q
theorem n_raise (q : ∀ d, H d = none → W (.ref C) (some d) σ (upd H d (.xd [(f, v)]))) : RaP C f W σ [v] H := ⟨v, rfl, q⟩
noncomputable def MeP (C : Addr) (m : Str) (sp : Sp) (E1 : XK) (t : TA) (σ : L2.St) (x : V) (H1 : Hp) (Q : VK) : Prop := ∃ a dx fs, x = .ref a ∧ H1 a = some (.ins C dx fs) ∧ fs.lookup m = none ∧ t σ H1 fun vs H2 => sp (x :: vs) H2 Q E1
noncomputable def FlP (K : PySem.W.Frag) (f : Str) (x : V) (H : Hp) (Q : VK) : Prop := ∃ a C dx fs v, x = .ref a ∧ H a = some (.ins C dx fs) ∧ Cls K C ∧ NoAttr K C f ∧ fs.lookup f = some v ∧ Q v H
noncomputable def FsP (K : PySem.W.Frag) (f : Str) (y x : V) (H : Hp) (R : Hp → Prop) : Prop := ∃ a C dx fs, x = .ref a ∧ H a = some (.ins C dx fs) ∧ Cls K C ∧ NoAttr K C f ∧ fs.length < 1000 ∧ R (upd H a (.ins C dx (putF f y fs)))
noncomputable def MkP' (C : Addr) (sp : Sp) (E1 : XK) (vs : List V) (H1 : Hp) (Q : VK) : Prop := ∀ x dx, H1 x = none → H1 dx = none → dx ≠ x → sp (.ref x :: vs) (upd (upd H1 dx (.own x)) x (.ins C dx [])) (fun v H2 => v = .non ∧ Q (.ref x) H2) E1
end
end TR
namespace TR
open PySem L2
section
variable {K : PySem.W.Frag} {H : Hp} {σ : L2.St} {Q : VK} {D : Ends} {C a : Addr} {f : Str} {ta : TA} {to te : TE} {ws : List V} {y : V}
noncomputable def VeP (K : PySem.W.Frag) (vs : List V) (H1 : Hp) (Q : VK) : Prop := ∃ (a C : Addr) (ws : List V), vs = .ref a :: ws ∧ ws.length ≤ 1000 ∧ OexC K C ∧ H1 a = some (exo a C none) ∧ Q .non H1
theorem s_ve (q : ta σ H fun vs H1 => VeP K vs H1 Q) : tVeI K ta σ H Q := q
theorem n_ve (o : OexC K C) (h : H a = some (exo a C none)) (l : ws.length ≤ 1000) (q : Q .non H) : VeP K (.ref a :: ws) H Q := ⟨a, C, ws, rfl, l, o, h, q⟩
noncomputable def OsP (K : PySem.W.Frag) (f : Str) (y x : V) (H2 : Hp) (R : Hp → Prop) : Prop := ∃ a C : Addr, x = .ref a ∧ OexC K C ∧ PySem.W.findIn K (.ref C) f = some none ∧
  ((H2 a = some (exo a C none) ∧ ∀ dx, H2 dx = none → dx ≠ a → R (upd (upd H2 dx (exd dx [(f, y)])) a (exo a C (some dx)))) ∨
    ∃ (dx : Addr) (fs : List (Str × V)), H2 a = some (exo a C (some dx)) ∧ H2 dx = some (exd dx fs) ∧ fs.length ≤ 900 ∧ R (upd H2 dx (exd dx ((f, y) :: fs))))
theorem s_os (q : te σ H fun y H1 => to σ H1 fun x H2 => OsP K f y x H2 (D.nx σ)) : tOst K f to te D σ H := q
theorem n_os {R : Hp → Prop} (o : OexC K C) (n : PySem.W.findIn K (.ref C) f = some none) (h : H a = some (exo a C none)) (q : ∀ dx, H dx = none → dx ≠ a → R (upd (upd H dx (exd dx [(f, y)])) a (exo a C (some dx)))) : OsP K f y (.ref a) H R := ⟨a, C, rfl, o, n, .inl ⟨h, q⟩⟩
end
end TR
namespace TR
open PySem L2
end TR
namespace TR
open PySem L2 PySem.Spec PyProof.Rows
section
variable {X : Cx} {K : PySem.W.Frag} {k k' : Nat} {sp : Sp} {x m f : Str} {p pos apos : Pos} {e o : Expr} {es : List Expr} {t : TA} {ta : TE} {E : L2.St → XK}
end
end TR
namespace TR
open PySem L2
section
variable {K : PySem.W.Frag} {x y f : Str} {C D : Addr} {b : Bool}
theorem exm_mk {h : Heap} (X : K.In h) (aC : PySem.W.nsIn K mainGlobals x = some (some (.ref C))) (aD : PySem.W.nsIn K mainGlobals y = some (some (.ref D))) (eb : PySem.W.subIn K (.ref D) (.type "BaseException") = some true) (ec : PySem.W.isClsIn K D = true) (et : PySem.W.typeIn K (.ref D) = some (.type "type"))
    (es : PySem.W.subIn K (.ref C) (.ref D) = some b) : PySem.W.exmOne (L2.KOf X) (.ref (clsA (L2.KOf X) x)) (.ref (clsA (L2.KOf X) y)) = some b := by
  show PySem.W.exmOne K (.ref (clsA K x)) (.ref (clsA K y)) = some b
  rw [clsA_of aC, clsA_of aD]
  have c1 : (PySem.W.subIn K (.ref D) (.type "BaseException") == some true) = true := by rw [eb]; rfl
  have c2 : ((PySem.W.clsIn K D).isSome && PySem.W.typeIn K (.ref D) == some (.type "type")) = true := by
    rw [show (PySem.W.clsIn K D).isSome = true from ec, et]
    rfl
  unfold PySem.W.exmOne PySem.W.kitCls
  rw [if_pos c1]
  dsimp only
  rw [if_pos c2]
  exact es
theorem fn_mk {h : Heap} (X : K.In h) (aC : PySem.W.nsIn K mainGlobals x = some (some (.ref C))) (h : PySem.W.findIn K (.ref C) f = some none) : PySem.W.findIn (L2.KOf X) (.ref (clsA (L2.KOf X) x)) f = some none := by
  show PySem.W.findIn K (.ref (clsA K x)) f = some none
  rw [clsA_of aC]
  exact h
theorem xf_mk {h : Heap} (X : K.In h) (aC : PySem.W.nsIn K mainGlobals x = some (some (.ref C))) (ga : PySem.W.findIn K (.ref C) "__getattribute__" = some (some (.builtin "BaseException.__getattribute__"))) (gg : PySem.W.findIn K (.ref C) "__getattr__" = some none)
    (ex : PySem.W.subIn K (.ref C) (.type "BaseException") = some true) (hd : PySem.W.hasDictIn K C = true) : XfC (L2.KOf X) (clsA (L2.KOf X) x) := by
  show XfC K (clsA K x)
  rw [clsA_of aC]
  exact ⟨ga, gg, ex, hd⟩
end
section
variable {K : PySem.W.Frag} {c cls : Value} {i : Nat} {ts : Addr → Value → Option Addr → TS} {Wout : WX} {D : Ends} {d : Option Addr} {σ : L2.St} {H : Hp} {a dd C : Addr} {f : Str} {te : TE} {Q : VK} {fs : List (Str × V)} {v : V}
theorem n_as (m : PySem.W.exmOne K cls c = some true) (q : ∀ a, H a = none → ts a cls d { nx := fun σ' H' => D.nx (σ'.set i none) H', rt := D.rt, bk := fun σ' H' => D.bk (σ'.set i none) H', ct := fun σ' H' => D.ct (σ'.set i none) H' } (σ.set i (some (.ref a))) H) : wAs K c i ts Wout D cls d σ H := ⟨true, m, fun _ => q, fun z => Bool.noConfusion z⟩
theorem n_asNo (m : PySem.W.exmOne K cls c = some false) (q : Wout cls d σ H) : wAs K c i ts Wout D cls d σ H := ⟨false, m, (fun z => Bool.noConfusion z), fun _ => q⟩
noncomputable def XfP (a : Addr) (cls : Value) (d : Option Addr) (C : Addr) (f : Str) (x : V) (H1 : Hp) (Q : VK) : Prop := x = .ref a ∧ cls = .ref C ∧ ∃ (dd : Addr) (fs : List (Str × V)) (v : V), d = some dd ∧ H1 dd = some (.xd fs) ∧ fs.lookup f = some v ∧ Q v H1
theorem s_xf (q : te σ H fun x H1 => XfP a cls d C f x H1 Q) : tXf a cls d C f te σ H Q := q
theorem n_xf (h : H dd = some (.xd fs)) (l : fs.lookup f = some v) (q : Q v H) : XfP a (.ref C) (some dd) C f (.ref a) H Q := ⟨rfl, rfl, dd, fs, v, rfl, h, l, q⟩
end
end TR
namespace TR
open PySem L2 PySem.Spec PyProof.Rows
/-- what isinstance(x, C) asks of an own class -/
structure IsiC (K : PySem.W.Frag) (C : Addr) : Prop where
  cl : Cls K C
  ha : PySem.W.findIn K (.ref C) "__class__" = some (some (.builtin "object.__class__"))
  hn : PySem.W.specialIn K (.builtin "object.__class__") "__get__" = some (some (.builtin "getset_descriptor.__get__"))
  htk : PySem.W.takesIn K (.builtin "object.__class__") = some true
  hm : PySem.W.mroIn K C (.type "object") = some true
  me : PySem.W.kitOne K (.ref C) (.ref C) = some true
end TR
namespace TR
open PySem L2 PySem.Spec PyProof.Rows
section
variable {X : Cx} {CX : CXT} {k k' : Nat} {f C : Addr} {fd : FuncData} {ps : List Str} {sp : Sp} {x : Str} {p pos : Pos} {e : Expr} {es : List Expr} {t : TA}
end
end TR
/-! an exception class without an __init__ of its own: raise X() -/
namespace TR
open PySem L2 PySem.Spec PyProof.Rows
noncomputable def bmVE : List Value := [.type "ValueError", .type "Exception", .type "BaseException", .type "object"]
structure ExB (K : PySem.W.Frag) (mg : Str → Option Value) (x : Str) : Prop where
  g : mg x = some (.ref (clsA K x))
  q : PySem.W.excIn K (clsA K x) bmVE "ValueError.__new__" = true
  kC : PySem.W.keepIn K (.ref (clsA K x)) = true
  exC : PySem.W.subIn K (.ref (clsA K x)) (.type "BaseException") = some true
  tyC : PySem.W.typeIn K (.ref (clsA K x)) = some (.type "type")
noncomputable def tRaise0 (C : Addr) (W : WX) : TS := fun _ σ H => W (.ref C) none σ H
section
variable {X : Cx} {x : Str} {p pos pos2 : Pos} {W : WX}
end
theorem s_raise0 {C : Addr} {W : WX} {D : Ends} {σ : L2.St} {H : Hp} (q : W (.ref C) none σ H) : tRaise0 C W D σ H := q
section
variable {K : PySem.W.Frag} {mg : Str → Option Value}
theorem exB_mk {h : Heap} (X : K.In h) (G : h.Ns mainGlobals mg) {x : Str} {C : Addr} (aC : PySem.W.nsIn K mainGlobals x = some (some (.ref C))) (q : PySem.W.excIn K C bmVE "ValueError.__new__" = true) (kC : PySem.W.keepIn K (.ref C) = true)
    (eC : PySem.W.subIn K (.ref C) (.type "BaseException") = some true) (tC : PySem.W.typeIn K (.ref C) = some (.type "type")) : ExB K mg x := by
  refine ⟨?_, ?_, ?_, ?_, ?_⟩
  · rw [clsA_of aC]; exact PySem.W.mg_of X G aC
  · rw [clsA_of aC]; exact q
  · rw [clsA_of aC]; exact kC
  · rw [clsA_of aC]; exact eC
  · rw [clsA_of aC]; exact tC
end
end TR
namespace TR
open PySem L2
end TR

/-! short words: hp (what stands at an address), ex (a heap grows into another), ne, fr, sq, st; s (one step of a reading), ss (steps as far as they go) -/
open PySem L2 TR
local macro_rules | `(tactic| walk_at "ex") => `(tactic| first
  | exact Ex.refl _
  | assumption
  | focus (apply Ex.trans; rotate_left; assumption; walk_at "ex")
  | focus (apply Ex.exm; rotate_left; rotate_left; assumption; walk_at "ex"; (walk_at "fr2")))
local macro_rules | `(tactic| walk_at "fr2") => `(tactic| first
  | assumption
  | focus (apply Ex.back; rotate_left; assumption; walk_at "ex"))
local macro_rules | `(tactic| walk_at "hp") => `(tactic| first
  | assumption
  | (apply ex_ap; assumption; walk_at "hp"))
local macro_rules | `(tactic| walk_at "sq") => `(tactic| first
  | assumption
  | (apply sq_of; walk_at "hp")
  | focus (apply Ex.sq; rotate_left; assumption; walk_at "ex"))
local macro_rules | `(tactic| walk_at "st") => `(tactic| first
  | assumption
  | (apply st_of; walk_at "hp"))
local macro_rules | `(tactic| walk_at "is") => `(tactic| first
  | assumption)
local macro_rules | `(tactic| walk_at "at") => `(tactic| first
  | exact atI_lt (by decide) rfl
  | rfl)
local macro_rules | `(tactic| walk_at "ixn") => `(tactic| first
  | rfl)
local macro_rules | `(tactic| walk_at "len") => `(tactic| first
  | omega
  | (simp only [List.length_map, List.length_range, List.length_append, List.length_cons, List.length_nil, List.length_reverse, List.length_set]; omega))
local macro_rules | `(tactic| walk_at "od") => `(tactic| first
  | decide
  | omega
  | exact Nat.le_of_ble_eq_true rfl)
local macro_rules | `(tactic| walk_at "kit") => `(tactic| first
  | exact k_ib
  | exact k_is
  | exact k_bb
  | exact k_sb
  | exact k_nb
  | exact k_lb
  | exact k_tb)
local macro_rules | `(tactic| walk_at "s") => `(tactic| first
  | (with_reducible (first | apply s_seq | apply s_asg | apply s_gname | apply s_ret | apply s_if | apply s_next))
  | ((with_reducible apply s_var); rfl)
  | (with_reducible (first | apply s_c | apply s_op | apply s_test | apply s_tB | apply s_bl | apply s_and | apply s_or | apply s_not | apply s_andV | apply s_I0 | apply s_plusI | apply s_eqI | apply s_neB))
  | ((with_reducible apply s_mod); walk_at "od"; intro _ _)
  | ((with_reducible apply s_div); walk_at "od"; walk_at "od")
  | (walk_at "pow")
  | ((with_reducible apply s_pow); decide; walk_at "od")
  | ((with_reducible apply s_mulL); walk_at "od")
  | ((with_reducible apply s_mulR); walk_at "od")
  | (with_reducible (first | apply s_nil | apply s_cons | apply s_call | apply s_CB | apply s_lst | apply s_tup | apply s_sl | apply s_np | apply s_part | apply s_int | apply s_gsub | apply s_augS | apply s_ipI | apply s_forR1 | apply s_lcL | apply s_lcR1))
  | ((with_reducible apply s_wp); rfl)
  | ((with_reducible apply s_all); walk_at "sq")
  | (with_reducible (first | apply s_max2 | apply s_min2 | apply s_abs))
  | ((with_reducible apply s_isiI); walk_at "kit")
  | ((with_reducible apply s_isiB); walk_at "kit")
  | ((with_reducible apply s_isiS); walk_at "kit")
  | ((with_reducible apply s_isiN); walk_at "kit")
  | ((with_reducible apply s_isiL); walk_at "sq"; walk_at "kit")
  | ((with_reducible apply s_isiT); walk_at "st"; walk_at "kit")
  | ((with_reducible apply s_lenM); walk_at "sq")
  | ((with_reducible apply n_slL); walk_at "sq"; intro _ _ _ _ _)
  | ((with_reducible apply n_lst); walk_at "od"; intro _ _ _ _ _)
  | ((with_reducible apply n_cat); walk_at "hp"; walk_at "hp"; walk_at "len"; intro _ _ _ _ _)
  | ((with_reducible apply s_ixL); walk_at "sq"; walk_at "at")
  | ((with_reducible apply s_ixI); walk_at "sq"; omega; intro _ _)
  | ((with_reducible apply s_getL); walk_at "sq"; decide; walk_at "at")
  | ((with_reducible apply n_setL); walk_at "hp"; walk_at "ixn"; intro _ _ _)
  | ((with_reducible apply s_eqP (α := List Int)); walk_at "is"; walk_at "is"; decide)
  | ((with_reducible apply s_neP (α := List Int)); walk_at "is"; walk_at "is"; decide)
  | ((with_reducible apply s_eqP (α := Int × Int)); walk_at "is"; walk_at "is"; decide)
  | ((with_reducible apply s_neP (α := Int × Int)); walk_at "is"; walk_at "is"; decide)
  | ((with_reducible apply s_eqP (α := Bool × Int)); walk_at "is"; walk_at "is"; decide)
  | ((with_reducible apply s_neP (α := Bool × Int)); walk_at "is"; walk_at "is"; decide)
  | ((with_reducible apply s_eqP (α := Int × Option Int)); walk_at "is"; walk_at "is"; decide)
  | ((with_reducible apply s_neP (α := Int × Option Int)); walk_at "is"; walk_at "is"; decide)
  | ((with_reducible apply s_eqP (α := T3 Int Int Int)); walk_at "is"; walk_at "is"; decide)
  | ((with_reducible apply s_neP (α := T3 Int Int Int)); walk_at "is"; walk_at "is"; decide)
  | ((with_reducible apply s_eqP (α := T4 Int Int Int Int)); walk_at "is"; walk_at "is"; decide)
  | ((with_reducible apply s_neP (α := T4 Int Int Int Int)); walk_at "is"; walk_at "is"; decide)
  | ((with_reducible apply s_eqP (α := List (Int × Int))); walk_at "is"; walk_at "is"; decide)
  | ((with_reducible apply s_neP (α := List (Int × Int))); walk_at "is"; walk_at "is"; decide)
  | ((with_reducible apply s_eqP (α := List (T3 Int Int Int))); walk_at "is"; walk_at "is"; decide)
  | ((with_reducible apply s_neP (α := List (T3 Int Int Int))); walk_at "is"; walk_at "is"; decide)
  | ((with_reducible apply s_eqP (α := List (T4 Int Int Int Int))); walk_at "is"; walk_at "is"; decide)
  | ((with_reducible apply s_neP (α := List (T4 Int Int Int Int))); walk_at "is"; walk_at "is"; decide)
  | ((with_reducible apply s_eqP (α := List (List Int))); walk_at "is"; walk_at "is"; decide)
  | ((with_reducible apply s_neP (α := List (List Int))); walk_at "is"; walk_at "is"; decide)
  | (with_reducible (first | apply i_f | apply i_nt))
  | ((with_reducible apply i_dt); (focus (first | trivial | assumption | omega | rfl)))
  | ((with_reducible apply i_df); (focus (first | assumption | omega | exact (fun h => h rfl)))))
local macro_rules | `(tactic| walk_at "pow") => `(tactic| first
  | (with_reducible (first | apply s_pow2_61 | apply s_pow2_62 | apply s_pow10_6 | apply s_pow10_18)))
local macro_rules | `(tactic| walk_at "cx") => `(tactic| try dsimp only [cx_K, cx_K2])
local macro_rules | `(tactic| walk_at "ss") => `(tactic| ((try dsimp only); (repeat walk_at "s")))
/-! the slots made plain again (many names, comprehensions): reading them is slow otherwise -/
local macro_rules | `(tactic| walk_at "nm") => `(tactic| simp only [List.set_cons_succ, List.set_cons_zero, wipe, List.map_cons, List.map_nil])

/-! sorted of pairs of a number and a text, no two unlike ones of the same number -/
namespace SrtS
open PySem PySem.W PyProof.Rows SrtO
section
variable {prog : Program} {w : World} {A : Around} {E : Value → Shared → Prop} {s : Shared}
noncomputable def IsPS (h : Heap) (v : Value) (x : Int) (y : Str) : Prop := ∃ a o t u n, v = .ref a ∧ h.get? a = some o ∧ o.cls = .type "tuple" ∧ o.data = .seq #[.int x t, .str y u] n
noncomputable def ltI (p q : Int × Str) : Bool := decide (p.1 < q.1)
theorem swo_I {α : Type} (k : α → Int × Str) : Swo fun v u => ltI (k v) (k u) := by
  unfold ltI
  refine ⟨fun x y h => ?_, fun x y z h1 h2 => ?_⟩
  · have a := of_decide_eq_true h
    exact decide_eq_false (by omega)
  · have a := of_decide_eq_false h1
    have b := of_decide_eq_false h2
    exact decide_eq_false (by omega)
end
end SrtS
namespace L2
open PySem PySem.Spec PyProof.Rows
noncomputable def EntV (K : PySem.W.Frag) (H : Hp) (x : V) (e : Int × Str) : Prop := ∃ t, x = V.ref t ∧ SqT K H t [.int e.1, .str e.2]
noncomputable def rSortedPS (K : PySem.W.Frag) : List V → Hp → VK → Prop := fun vs H Q => ∃ (a : Addr) (xs : List V) (l : List (Int × Str)), vs = [V.ref a] ∧ SqL K H a xs ∧ Paired (EntV K H) xs l ∧
  (∀ x ∈ l, ∀ y ∈ l, x.1 = y.1 → x.2 = y.2) ∧
  ∀ (ps : List (V × (Int × Str))) p, ps.Pairwise (fun x y => x.2.1 ≤ y.2.1) → ps.Perm (xs.zip l) → H p = none → Q (.ref p) (upd H p (.lst (ps.map Prod.fst)))
end L2

/-! entries, rows, rooms, yards as data; comprehensions that draw -/
namespace TR
open PySem L2
/-- a text of signs that there are -/
noncomputable abbrev Tx := {x : Str // PyData.strOk x = true}
instance : Inhabited Tx := ⟨⟨⟨#[]⟩, by simp [PyData.strOk]⟩⟩
instance : Py Tx := ⟨fun x => .str x.1, 0, fun _ => Nat.le_refl _, fun x => x.2, fun a b => by
  rw [PyData.eqv, beq_iff_eq]
  exact Subtype.ext_iff.symm⟩
instance : Py (Option Tx) := ⟨fun o => match o with | none => .none | some i => .str i.1, 0, fun o => by cases o <;> exact Nat.le_refl _, fun o => by
  cases o with
  | none => rfl
  | some x => exact x.2, fun a b => by
  cases a <;> cases b
  · exact ⟨fun _ => rfl, fun _ => rfl⟩
  · exact ⟨fun h => (Bool.false_ne_true h).elim, fun h => nomatch h⟩
  · exact ⟨fun h => (Bool.false_ne_true h).elim, fun h => nomatch h⟩
  · rename_i x y
    show (x.1 == y.1) = true ↔ some x = some y
    rw [beq_iff_eq, Option.some.injEq]
    exact Subtype.ext_iff.symm⟩
noncomputable abbrev Ent := Int × Tx
noncomputable abbrev Row := List Ent
noncomputable abbrev Yard := T3 Int Int (List (List Row))
instance : DecidableEq Tx := fun a b => decidable_of_iff (a.1 = b.1) Subtype.ext_iff.symm
instance : DecidableEq Yard := fun a b => decidable_of_iff (a.a = b.a ∧ a.b = b.b ∧ a.c = b.c) (by
  obtain ⟨a1, a2, a3⟩ := a
  obtain ⟨b1, b2, b3⟩ := b
  exact T3.mk.injEq .. ▸ Iff.rfl)
section
variable {K : PySem.W.Frag} {H : Hp} {v : V}
end
/-! ### rows sorted by their keys -/
noncomputable def sortE (l : Row) : Row := l.mergeSort (fun a b => decide (a.1 ≤ b.1))
/-- no two unlike entries of one key -/
noncomputable def OneK (l : Row) : Prop := ∀ x ∈ l, ∀ y ∈ l, x.1 = y.1 → x.2 = y.2
end TR
namespace TR
open PySem L2
/-! ### pure values out of data, some of them -/
section
variable {K : PySem.W.Frag} {σ : L2.St} {H : Hp} {tt : TT} {te : TE} {Q : VK} {g : TG} {vs : List Nat}
end
/-! ### comprehensions that draw -/
section
variable {K : PySem.W.Frag} {σ : L2.St} {H : Hp} {te : TE} {Q : VK} {g : TG} {vs : List Nat}
end
end TR

/-! data that stands in plain lists and tuples: all its lists are tracked -/
namespace TR
open PySem L2
mutual
inductive Dt (H : Hp) : V → PyData → Prop
  | non : Dt H .non .none
  | bl (b : Bool) : Dt H (.bl b) (.bool b)
  | int (i : Int) : Dt H (.int i) (.int i)
  | str (x : Str) : Dt H (.str x) (.str x)
  | lst {a : Addr} {vs : List V} {ds : List PyData} : H a = some (.lst vs) → DtAll H vs ds → Dt H (.ref a) (.list ds)
  | tup {a : Addr} {vs : List V} {ds : List PyData} : H a = some (.tup vs) → DtAll H vs ds → Dt H (.ref a) (.tuple ds)
inductive DtAll (H : Hp) : List V → List PyData → Prop
  | nil : DtAll H [] []
  | cons {v : V} {vs : List V} {d : PyData} {ds : List PyData} : Dt H v d → DtAll H vs ds → DtAll H (v :: vs) (d :: ds)
end
mutual
theorem Dt.ex {H H' : Hp} (e : Ex H H') : ∀ {v : V} {d : PyData}, Dt H v d → Dt H' v d
  | _, _, .non => .non
  | _, _, .bl b => .bl b
  | _, _, .int i => .int i
  | _, _, .str x => .str x
  | _, _, .lst s a => .lst (e _ _ s) (DtAll.ex e a)
  | _, _, .tup s a => .tup (e _ _ s) (DtAll.ex e a)
theorem DtAll.ex {H H' : Hp} (e : Ex H H') : ∀ {vs : List V} {ds : List PyData}, DtAll H vs ds → DtAll H' vs ds
  | _, _, .nil => .nil
  | _, _, .cons a r => .cons (Dt.ex e a) (DtAll.ex e r)
end
mutual
theorem Dt.dp {K : PySem.W.Frag} {H : Hp} : ∀ {v : V} {d : PyData}, Dt H v d → Dp K H v d
  | _, _, .non => .non
  | _, _, .bl b => .bl b
  | _, _, .int i => .int i
  | _, _, .str x => .str x
  | _, _, .lst s a => .lst (sq_of s) (DtAll.dp a)
  | _, _, .tup s a => .tup (st_of s) (DtAll.dp a)
theorem DtAll.dp {K : PySem.W.Frag} {H : Hp} : ∀ {vs : List V} {ds : List PyData}, DtAll H vs ds → DpAll K H vs ds
  | _, _, .nil => .nil
  | _, _, .cons a r => .cons (Dt.dp a) (DtAll.dp r)
end
/-- the value v stands in H as the thing x -/
noncomputable abbrev Ik (H : Hp) {α : Type} [Py α] (v : V) (x : α) : Prop := Dt H v (Py.d x)
section
variable {K : PySem.W.Frag} {H H' : Hp} {α β γ δ : Type} [Py α] [Py β] [Py γ] [Py δ] {v w u t : V} {x : α} {y : β} {z : γ} {r : δ} {a : Addr}
theorem Ik.is (h : Ik H v x) : Is K H v x := Dt.dp h
theorem Ik.ex (e : Ex H H') (h : Ik H v x) : Ik H' v x := Dt.ex e h
theorem Ik.int (i : Int) : Ik H (.int i) i := Dt.int i
theorem Ik.bl (i : Bool) : Ik H (.bl i) i := Dt.bl i
theorem Ik.nil (h : H a = some (.lst [])) : Ik H (.ref a) ([] : List α) := .lst h .nil
theorem Ik.of_list {vs : List V} {xs : List α} (s : H a = some (.lst vs)) (h : Paired (fun v x => Ik H v x) vs xs) : Ik H (.ref a) xs := by
  have go : ∀ {vs : List V} {ys : List α}, Paired (fun v x => Ik H v x) vs ys → DtAll H vs (ys.map Py.d) := by
    intro vs ys h
    induction h with
    | nil => exact .nil
    | cons h1 _ ih => exact .cons h1 ih
  exact .lst s (go h)
theorem ints_pairK : ∀ {xs : List Int}, Paired (fun v x => Ik H v x) (xs.map V.int) xs
  | [] => .nil
  | _ :: _ => .cons (Ik.int _) ints_pairK
theorem Ik.bl_of {i : Bool} (h : Ik H v i) : v = .bl i := by
  have h' : Dt H v (.bool i) := h
  cases h'
  rfl
end
section
variable {K : PySem.W.Frag} {Z H : Hp} {α β : Type} [Py α] [Py β] {v : V} {σ : L2.St} {R : L2.St → Hp → Prop} {Q : VK}
end
end TR

/-! T: from (Z, H) to (Z', H'). Z is what stays for ever; only M's things are changed -/
namespace TR
open PySem L2
structure T (M : List Addr) (Z H Z' H' : Hp) : Prop where
  z : Ex Z Z'
  zh : Ex Z' H'
  m : ∀ b o, b ∉ M → H b = some o → H' b = some o
  al : ∀ b o, H b = some o → ∃ o', H' b = some o'
  fr : ∀ b, b ∉ M → Z b = none → (∃ o, H b = some o) → Z' b = none
/-- p stands in H and may be changed -/
structure Mu (Z H : Hp) (p : Addr) : Prop where
  z : Z p = none
  a : ∃ o, H p = some o
/-- a list that stands in H, its things in Z -/
noncomputable def Li (Z H : Hp) (p : Addr) {α : Type} [Py α] (l : List α) : Prop := ∃ vs, H p = some (.lst vs) ∧ Paired (fun v x => Ik Z v x) vs l
/-- .. and that stays as it is -/
noncomputable def Ls (Z : Hp) (p : Addr) {α : Type} [Py α] (l : List α) : Prop := Li Z Z p l
/-- a list that is filled: it stands at D, its things in Z -/
structure Lm (Z H : Hp) (D : Addr) {α : Type} [Py α] (l : List α) : Prop where
  ex : ∃ vs, H D = some (.lst vs) ∧ Paired (fun v x => Ik Z v x) vs l
  zd : Z D = none
  zh : Ex Z H
theorem nm_nil {b : Addr} : b ∉ ([] : List Addr) := List.not_mem_nil
theorem nm_cons {b x : Addr} {M : List Addr} (h : b ≠ x) (t : b ∉ M) : b ∉ x :: M := fun z => by
  rcases List.mem_cons.mp z with z | z
  · exact h z
  · exact t z
theorem mm_nil {N : List Addr} {H : Hp} : ∀ x ∈ ([] : List Addr), x ∈ N ∨ H x = none := fun _ h => absurd h List.not_mem_nil
theorem mm_cons {N M : List Addr} {H : Hp} {y : Addr} (h : y ∈ N ∨ H y = none) (t : ∀ x ∈ M, x ∈ N ∨ H x = none) : ∀ x ∈ y :: M, x ∈ N ∨ H x = none := fun x hx => by
  rcases List.mem_cons.mp hx with e | hx
  · rw [e]; exact h
  · exact t x hx
theorem mm_same {N : List Addr} {H : Hp} : ∀ x ∈ N, x ∈ N ∨ H x = none := fun _ h => .inl h
section
variable {K : PySem.W.Frag} {M N : List Addr} {Z H Z1 H1 Z2 H2 Z' H' Z0 H0 : Hp} {p b h D : Addr} {o : HO} {v : V} {α : Type} {iα : Py α} {x : α} {l : List α} {n : Nat}
theorem T.refl (e : Ex Z H) : T M Z H Z H := ⟨Ex.refl _, e, fun _ _ _ h => h, fun _ o h => ⟨o, h⟩, fun _ _ h _ => h⟩
theorem T.step (a : T N Z H Z1 H1) (b : T M Z1 H1 Z2 H2) (h : ∀ x ∈ M, x ∈ N ∨ H x = none) : T N Z H Z2 H2 := by
  have nm : ∀ x, x ∉ N → (∃ o, H x = some o) → x ∉ M := fun x nx ⟨o, ho⟩ hx => by
    rcases h x hx with g | g
    · exact nx g
    · rw [ho] at g; cases g
  refine ⟨a.z.trans b.z, b.zh, fun c o nc hc => b.m c o (nm c nc ⟨o, hc⟩) (a.m c o nc hc), fun c o hc => ?_, fun c nc zc ⟨o, hc⟩ => ?_⟩
  · obtain ⟨o', ho'⟩ := a.al c o hc
    exact b.al c o' ho'
  · obtain ⟨o', ho'⟩ := a.al c o hc
    exact b.fr c (nm c nc ⟨o, hc⟩) (a.fr c nc zc ⟨o, hc⟩) ⟨o', ho'⟩
/-- all that stood stands: b is new -/
noncomputable def AC (H H' : Hp) : Prop := ∀ b, H' b = none → H b = none
theorem T.hp (t : T M Z H Z' H') (n : p ∉ M) (h : H p = some o) : H' p = some o := t.m _ _ n h
theorem T.all (t : T M Z H Z' H') (h : ∃ o, H p = some o) : ∃ o, H' p = some o := by
  obtain ⟨o, ho⟩ := h
  exact t.al _ _ ho
theorem T.mu (t : T M Z H Z' H') (n : p ∉ M) (a : Mu Z H p) : Mu Z' H' p := ⟨t.fr _ n a.z a.a, t.all a.a⟩
theorem Hand.tt (t : T M Z H Z' H') (nm : h ∉ M) (a : Hand K Z H h n) : Hand K Z' H' h n := by
  obtain ⟨d, k, c, cells, h1, h3, h4, h5, z1, z2, z3⟩ := a
  exact ⟨d, k, c, cells, t.m _ _ nm h1, h3, h4, h5, t.zh, t.fr _ nm z2 ⟨_, h1⟩, t.z.sq z3⟩
theorem Ls.tt (t : T M Z H Z' H') (a : Ls Z p l) : Ls Z' p l := by
  obtain ⟨vs, h1, h2⟩ := a
  exact ⟨vs, t.z _ _ h1, Paired.mapP h2 fun v x h => Ik.ex t.z h⟩
theorem Ls.is (a : Ls Z p l) : Ik Z (.ref p) l := by
  obtain ⟨vs, h1, h2⟩ := a
  exact Ik.of_list h1 h2
theorem Ls.ofInts {l : List Int} (h : Z p = some (.lst (l.map V.int))) : Ls Z p l := ⟨_, h, ints_pairK⟩
/-! ways in: from the old words -/
theorem T.ofEx (e : Ex H H') (z : Ex Z H) : T M Z H Z H' := ⟨Ex.refl _, z.trans e, fun _ _ _ h => e _ _ h, fun _ o h => ⟨o, e _ _ h⟩, fun _ _ h _ => h⟩
theorem T.ofExM (m : ExM h H H') (a : ∃ o, H' h = some o) (z : Ex Z H) (zn : Z h = none) : T [h] Z H Z H' :=
  ⟨Ex.refl _, z.exm zn m, fun _ o n e => m _ o (fun z => n (by rw [z]; exact List.mem_cons_self)) e, fun b o e => by
    by_cases c : b = h
    · rw [c]; exact a
    · exact ⟨o, m _ _ c e⟩, fun _ _ h _ => h⟩
theorem upd_ex2 (z : Ex Z H) : Ex (upd Z p o) (upd H p o) := fun b u e => by
  by_cases c : b = p
  · rw [c, upd_same] at e ⊢
    exact e
  · rw [upd_ne c] at e ⊢
    exact z _ _ e
/-- a new thing that stays as it is -/
theorem T.new (n : H p = none) (z : Ex Z H) : T M Z H (upd Z p o) (upd H p o) :=
  ⟨Ex.new (Ex.back z n), upd_ex2 z, fun b u _ e => by rw [upd_ne (ne_of_none e n)]; exact e, fun b u e => ⟨u, by rw [upd_ne (ne_of_none e n)]; exact e⟩, fun b _ zb ⟨u, e⟩ => by rw [upd_ne (ne_of_none e n)]; exact zb⟩
/-- a new thing that may be changed -/
theorem T.newM (n : H p = none) (z : Ex Z H) : T M Z H Z (upd H p o) :=
  ⟨Ex.refl _, z.trans (Ex.new n), fun b u _ e => by rw [upd_ne (ne_of_none e n)]; exact e, fun b u e => ⟨u, by rw [upd_ne (ne_of_none e n)]; exact e⟩, fun b _ zb _ => zb⟩
/-- a thing is changed -/
theorem T.set (a : Mu Z H p) (z : Ex Z H) : T [p] Z H Z (upd H p o) :=
  ⟨Ex.refl _, fun b u e => by rw [upd_ne (ne_of_none e a.z)]; exact z _ _ e, fun b u nb e => by rw [upd_ne (fun c => nb (by rw [c]; exact List.mem_cons_self))]; exact e, fun b u e => by
    by_cases c : b = p
    · exact ⟨_, by rw [c]; exact upd_same⟩
    · exact ⟨u, by rw [upd_ne c]; exact e⟩, fun b _ zb _ => zb⟩
/-- a thing is to stay as it is from now on -/
theorem T.fz (z : Ex Z H) (zp : Z p = none) (hp : H p = some o) : T [p] Z H (upd Z p o) H :=
  ⟨Ex.new zp, fun b u e => by
    by_cases c : b = p
    · rw [c, upd_same] at e
      cases e
      rw [c]; exact hp
    · rw [upd_ne c] at e
      exact z _ _ e, fun _ _ _ h => h, fun _ o h => ⟨o, h⟩, fun b nb zb _ => by rw [upd_ne (fun c => nb (by rw [c]; exact List.mem_cons_self))]; exact zb⟩
/-- .. of old words: all that is new stays as it is -/
noncomputable def grow (Z H H' : Hp) : Hp := fun b => match Z b with | some o => some o | none => match H b with | some _ => none | none => H' b
end
/-! ### new things: what is asked next -/
section
variable {K : PySem.W.Frag} {M : List Addr} {Z H : Hp} {Q : VK} {R : Hp → Prop} {p D a b : Addr} {v w : V} {α : Type} {iα : Py α} {x : α} {l r : List α} {xs : List V}
theorem t_lst (z : Ex Z H) (h : xs.length ≤ 100000) (q : ∀ p Z' H', H p = none → T [] Z H Z' H' → Z' p = some (.lst xs) → Q (.ref p) H') : NewL xs H Q :=
  ⟨sz_of h, fun p hp => q p _ _ hp (T.new hp z) upd_same⟩
theorem t_tup (z : Ex Z H) (h : xs.length ≤ 100000) (q : ∀ p Z' H', H p = none → T [] Z H Z' H' → Z' p = some (.tup xs) → Q (.ref p) H') : NewT xs H Q :=
  ⟨sz_of h, fun p hp => q p _ _ hp (T.new hp z) upd_same⟩
/-- a list that was filled stays as it is from now on -/
theorem t_fz {G : Hp → Prop} (a : Lm Z H D l) (q : ∀ Z' H', T [D] Z H Z' H' → Ls Z' D l → G H') : G H := by
  obtain ⟨⟨vs, h1, h2⟩, h3, h4⟩ := a
  have t : T [D] Z H (upd Z D (.lst vs)) H := T.fz h4 h3 h1
  exact q _ _ t ⟨vs, upd_same, Paired.mapP h2 fun v x g => Ik.ex t.z g⟩
theorem t_fzV {G : Hp → Prop} (m : Mu Z H D) (z : Ex Z H) {o : HO} (f : H D = some o) (q : ∀ Z' H', T [D] Z H Z' H' → Z' D = some o → G H') : G H :=
  q _ _ (T.fz z m.z f) upd_same
/-! what is read -/
end
/-! ### draws -/
noncomputable def spDraw (K : PySem.W.Frag) : Sp := fun vs H Q _ => ∃ (h : Addr) (m : Int) (n : Nat) (Z : Hp), vs = [.ref h, .int m] ∧ Hand K Z H h (n + 1) ∧ 0 < m ∧ m ≤ 4611686018427387904 ∧
  ∀ (r : Int) H', 0 ≤ r → r < m → ExM h H H' → Hand K Z H' h n → Q (.int r) H'
section
variable {K : PySem.W.Frag} {Z H : Hp} {h : Addr} {m : Int} {N : Nat} {Q : VK} {E : XK}
theorem Hand.t {H' : Hp} {n n' : Nat} (hh : Hand K Z H h n) (m : ExM h H H') (hh' : Hand K Z H' h n') : T [h] Z H Z H' := T.ofExM m hh'.at hh.z hh.zn
theorem drawT (hh : Hand K Z H h N) (hN : 1 ≤ N) (m0 : 0 < m) (m1 : m ≤ 4611686018427387904) (q : ∀ (r : Int) Z' H', 0 ≤ r → r < m → T [h] Z H Z' H' → Hand K Z' H' h (N - 1) → Q (.int r) H') : spDraw K [.ref h, .int m] H Q E :=
  ⟨h, m, N - 1, Z, rfl, hh.mono (by omega), m0, m1, fun r H' r0 r1 e hh' => q r Z H' r0 r1 (hh.t e hh') hh'⟩
noncomputable def spFar (K : PySem.W.Frag) : Sp := fun vs H Q _ => ∃ (h : Addr) (m : Int) (n : Nat) (Z : Hp), vs = [.ref h, .int m] ∧ Hand K Z H h (n + 7) ∧ 0 < m ∧ m ≤ 4611686018427387904 ∧
  ∀ (r : Int) H', 0 ≤ r → r < m → ExM h H H' → Hand K Z H' h n → Q (.int r) H'
theorem farT (hh : Hand K Z H h N) (hN : 7 ≤ N) (m0 : 0 < m) (m1 : m ≤ 4611686018427387904) (q : ∀ (r : Int) Z' H', 0 ≤ r → r < m → T [h] Z H Z' H' → Hand K Z' H' h (N - 7) → Q (.int r) H') : spFar K [.ref h, .int m] H Q E :=
  ⟨h, m, N - 7, Z, rfl, hh.mono (by omega), m0, m1, fun r H' r0 r1 e hh' => q r Z H' r0 r1 (hh.t e hh') hh'⟩
noncomputable def spKey (K : PySem.W.Frag) : Sp := fun vs H Q _ => ∃ (h : Addr) (n : Nat) (Z : Hp), vs = [.ref h] ∧ Hand K Z H h (n + 12) ∧
  ∀ (r : Int) H', 0 ≤ r → r < 1152921504606846976 → ExM h H H' → Hand K Z H' h n → Q (.int r) H'
noncomputable def lettersS : Str := "abcdefghijklmnopqrstuvwxyz"
/-- a text of one to eight small letters -/
noncomputable def nameB (x : Str) : Bool := decide (1 ≤ x.length ∧ x.length ≤ 8) && x.cps.toList.all fun c => decide (c ∈ lettersS.cps.toList)
noncomputable def spThing (K : PySem.W.Frag) : Sp := fun vs H Q _ => ∃ (h : Addr) (n : Nat) (Z : Hp), vs = [.ref h] ∧ Hand K Z H h (n + 10) ∧
  ∀ (x : Tx) H', nameB x.1 = true → ExM h H H' → Hand K Z H' h n → Q (.str x.1) H'
noncomputable def spOpen (K : PySem.W.Frag) : Sp := fun vs H Q _ => ∃ (a : Addr) (ns : List Int) (x : Int), vs = [.ref a, .int x] ∧ SqL K H a (ns.map V.int) ∧ 0 ≤ x ∧ x ≤ 1000 ∧
  ∀ (h c : Addr) (d : Int) (cells : List Int) H', H h = none → H c = none → h ≠ c → Ex H H' → H' h = some (.lst [.int d, .int (1 + 1009 * x), .ref c]) → H' c = some (.lst (cells.map V.int)) → 0 < cells.length → Q (.ref h) H'
theorem openT {a : Addr} {ns : List Int} {x : Int} (z : Ex Z H) (s : SqL K H a (ns.map V.int)) (x0 : 0 ≤ x) (x1 : x ≤ 1000) (q : ∀ h Z' H', H h = none → T [] Z H Z' H' → Hand K Z' H' h 900000000000000000 → Q (.ref h) H') : spOpen K [.ref a, .int x] H Q E :=
  ⟨a, ns, x, rfl, s, x0, x1, fun h c d cells H' nh nc ne e fh fc c0 => by
    have zh : Ex (upd Z c (.lst (cells.map V.int))) H' := fun b o eb => by
      by_cases cc : b = c
      · rw [cc, upd_same] at eb
        cases eb
        rw [cc]; exact fc
      · rw [upd_ne cc] at eb
        exact e _ _ (z _ _ eb)
    refine q h _ H' nh ⟨Ex.new (Ex.back z nc), zh, fun _ _ _ h => e _ _ h, fun _ o h => ⟨o, e _ _ h⟩, fun b _ zb ⟨o, ho⟩ => by rw [upd_ne (ne_of_none ho nc)]; exact zb⟩ ⟨d, 1 + 1009 * x, c, cells, fh, c0, by omega, by omega, zh, ?_, sq_of upd_same⟩
    rw [upd_ne ne]
    exact Ex.back z nh⟩
end
end TR
namespace TR
open PySem L2
end TR
namespace TR
open PySem L2
/-! a place of a list, found once -/
noncomputable def IxGo (xs : List V) (i : Int) (H : Hp) (Q : VK) : Prop := ∃ v, atI xs i = some v ∧ Q v H
section
variable {K : PySem.W.Frag} {H : Hp} {Q : VK} {a : Addr} {xs : List V} {i : Int} {v w : V}
theorem ixGo (h : SqL K H a xs) (q : IxGo xs i H Q) : rIx K (.ref a) (.int i) H Q := by
  obtain ⟨v, e, q⟩ := q
  exact s_ixL h e q
theorem ig_at (e : atI xs i = some v) (q : Q v H) : IxGo xs i H Q := ⟨v, e, q⟩
end
end TR
namespace TR
open PySem L2
end TR
namespace TR
open PySem L2
end TR
namespace TR
open PySem L2
end TR
namespace TR
open PySem L2
/-- .. of old words: a new thing that stays -/
theorem T.ofNew {M : List Addr} {Z H H' : Hp} {p : Addr} {o : HO} (z : Ex Z H) (n : H p = none) (e : Ex H H') (f : H' p = some o) : T M Z H (upd Z p o) H' :=
  ⟨Ex.new (Ex.back z n), fun b u eb => by
    by_cases c : b = p
    · rw [c, upd_same] at eb
      cases eb
      rw [c]; exact f
    · rw [upd_ne c] at eb
      exact e _ _ (z _ _ eb), fun _ _ _ h => e _ _ h, fun _ o h => ⟨o, e _ _ h⟩, fun b _ zb ⟨o, ho⟩ => by rw [upd_ne (ne_of_none ho n)]; exact zb⟩
noncomputable def spPlaces (lo : Int) (K : PySem.W.Frag) : Sp := fun vs H Q _ => ∃ (a : Addr) (ns : List Int) (x y : Int), vs = [.ref a, .int x, .int y] ∧ SqL K H a (ns.map V.int) ∧ 0 ≤ x ∧ x ≤ 100 ∧ 0 ≤ y ∧ y ≤ 100 ∧
  ∀ p H', H p = none → Ex H H' → H' p = some (.lst (rgV lo (lo + max x (min (ns.length : Int) y)))) → Q (.ref p) H'
end TR
namespace TR
open PySem L2
theorem at_list {K : PySem.W.Frag} {xs : List V} {H : Hp} {Q : VK} (q : rList1 K xs H Q) : rList1 K xs H Q := q
end TR
namespace TR
open PySem L2
theorem at_newl {xs : List V} {H : Hp} {Q : VK} (q : NewL xs H Q) : NewL xs H Q := q
end TR

/-! comprehensions and loops by T -/
namespace TR
open PySem L2
section
variable {K : PySem.W.Frag} {σ : L2.St} {H : Hp} {tt : TT} {te : TE} {Q : VK} {g : TG} {vs : List Nat}
theorem lcT {β : Type} {J : It} {n : Nat} {M : List Addr} {Z : Hp} (p : Nat → Bool) (I : Nat → Hp → Hp → Prop) (R : Nat → β → V → Hp → Prop)
    (mono : ∀ i x y Z1 Z2, Ex Z1 Z2 → R i x y Z1 → R i x y Z2)
    (stab : ∀ i Z1 H1 D o, I i Z1 H1 → H D = none → Z1 D = none → I i Z1 (upd H1 D o))
    (hz : n ≤ 40000) (zh : Ex Z H) (hM : ∀ b ∈ M, ∃ o, H b = some o) (h0 : I 0 Z H)
    (hgo : ∀ i Z1 H1, i < n → T M Z H Z1 H1 → J.go i H1) (hst : ∀ Z1 H1, T M Z H Z1 H1 → J.stop n H1)
    (turn : ∀ i, i < n → ∀ D Z1 H1, T M Z H Z1 H1 → H D = none → Mu Z1 H1 D → I i Z1 H1 → ∀ v H2, J.yld i H1 v H2 → ∀ (A : VK) (B : Hp → Prop),
      (p i = true → ∀ x y Z3 H3, T M Z1 H1 Z3 H3 → I (i + 1) Z3 H3 → R i x y Z3 → A y H3) → (p i = false → ∀ Z3 H3, T M Z1 H1 Z3 H3 → I (i + 1) Z3 H3 → B H3) →
      g v (wipe σ vs) H2 fun σ2 H2 => wipe σ2 vs = wipe σ vs ∧ tt σ2 H2 fun b H3 => if b = true then te σ2 H3 A else B H3)
    (fin : ∀ D ys (L : List (Nat × β)) Z' H', H D = none → T M Z H Z' H' → Mu Z' H' D → H' D = some (.lst ys) → I n Z' H' → L.map Prod.fst = (List.range n).filter p → Paired (fun y q => R q.1 q.2 y Z') ys L → Q (.ref D) H') : LcJ g tt te vs σ J H Q := by
  intro D hD
  have nD : D ∉ M := fun z => by
    obtain ⟨o, ho⟩ := hM D z
    rw [hD] at ho
    cases ho
  refine ⟨fun i m H' => m = n - i ∧ i ≤ n ∧ ∃ Z', T M Z H Z' H' ∧ Mu Z' H' D ∧ I i Z' H' ∧ ∃ (ys : List V) (L : List (Nat × β)), H' D = some (.lst ys) ∧ ys.length ≤ i ∧ L.map Prod.fst = (List.range i).filter p ∧ Paired (fun y q => R q.1 q.2 y Z') ys L,
    ⟨n, by omega, by omega, Z, T.newM hD zh, ⟨Ex.back zh hD, _, upd_same⟩, stab _ _ _ _ _ h0 hD (Ex.back zh hD), [], [], upd_same, Nat.le_refl _, rfl, .nil⟩, ?_⟩
  rintro i m H' ⟨rfl, hi, Z', t, mu, hI, ys, L, hys, hly, hL, pr⟩
  by_cases hlt : i < n
  · refine .inr ⟨hgo i Z' H' hlt t, fun H'' => i + 1 ≤ n ∧ ∃ Z'', T M Z H Z'' H'' ∧ Mu Z'' H'' D ∧ I (i + 1) Z'' H'' ∧ ∃ (ys : List V) (L : List (Nat × β)), H'' D = some (.lst ys) ∧ ys.length ≤ i + 1 ∧ L.map Prod.fst = (List.range (i + 1)).filter p ∧ Paired (fun y q => R q.1 q.2 y Z'') ys L,
      fun H'' q => ⟨n - (i + 1), by omega, rfl, q⟩, fun v H2 hy => ?_⟩
    refine turn i hlt D Z' H' t hD mu hI v H2 hy _ _ (fun hp x y Z3 H3 t3 hI3 r => ?_) (fun hp Z3 H3 t3 hI3 => ?_)
    · have t4 : T M Z H Z3 H3 := t.step t3 mm_same
      have mu3 := t3.mu nD mu
      have t5 : T M Z H Z3 (upd H3 D (.lst (ys ++ [y]))) := t4.step (T.set mu3 t4.zh) (mm_cons (.inr hD) mm_nil)
      refine ⟨ys, t3.hp nD hys, sz_lt (by omega), by omega, Z3, t5, ⟨mu3.z, _, upd_same⟩, stab _ _ _ _ _ hI3 hD mu3.z, ys ++ [y], L ++ [(i, x)], upd_same, by rw [List.length_append]; show _ + 1 ≤ _; omega, ?_, ?_⟩
      · rw [List.map_append, hL, List.range_succ, List.filter_append, List.filter_cons, if_pos hp]
        rfl
      · exact paired_snoc (Paired.mapP pr fun y q h => mono _ _ _ _ _ t3.z h) r
    · have t4 : T M Z H Z3 H3 := t.step t3 mm_same
      refine ⟨by omega, Z3, t4, t3.mu nD mu, hI3, ys, L, t3.hp nD hys, by omega, ?_, Paired.mapP pr fun y q h => mono _ _ _ _ _ t3.z h⟩
      rw [hL, List.range_succ, List.filter_append, List.filter_cons, if_neg (by rw [hp]; exact Bool.false_ne_true)]
      simp
  · have ei : i = n := by omega
    subst ei
    exact .inl ⟨hst Z' H' t, fin D ys L Z' H' hD t mu hys hI hL pr⟩
theorem paired_r {β γ : Type} {F : β → γ → Prop} {xs : List β} {ys : List γ} (h : Paired F xs ys) : ∀ y ∈ ys, ∃ x, F x y := by
  induction h with
  | nil => exact fun _ h => absurd h List.not_mem_nil
  | cons a t ih =>
    intro y hy
    rcases List.mem_cons.mp hy with e | hy
    · rw [e]; exact ⟨_, a⟩
    · exact ih y hy
theorem paired_mapR {β γ δ : Type} {F : β → δ → Prop} {f : γ → δ} : ∀ {xs : List β} {ys : List γ}, Paired (fun x y => F x (f y)) xs ys → Paired F xs (ys.map f)
  | _, _, .nil => .nil
  | _, _, .cons a t => .cons a (paired_mapR t)
/-- .. of a range -/
theorem c_keepR {γ : Type} [Py γ] {n : Int} {Z : Hp} (p : Nat → Bool) (f : Nat → γ) (zh : Ex Z H) (hz : -40000 ≤ n ∧ n ≤ 40000)
    (turn : ∀ i : Nat, (i : Int) < n → ∀ Z1 H1, T [] Z H Z1 H1 → ∀ (A : VK) (B : Hp → Prop), (p i = true → ∀ y Z3 H3, T [] Z1 H1 Z3 H3 → Ik Z3 y (f i) → A y H3) → (p i = false → ∀ Z3 H3, T [] Z1 H1 Z3 H3 → B H3) →
      g (.int (i : Int)) (wipe σ vs) H1 fun σ2 H2 => wipe σ2 vs = wipe σ vs ∧ tt σ2 H2 fun b H3 => if b = true then te σ2 H3 A else B H3)
    (fin : ∀ D Z' H', H D = none → T [] Z H Z' H' → Ls Z' D (((List.range n.toNat).filter p).map f) → Q (.ref D) H') : LcR1 g tt te vs σ [.int n] H Q := by
  have e62 : (2 : Int) ^ 62 = 4611686018427387904 := by decide
  refine ⟨n, rfl, by omega, by omega, lcT (n := n.toNat) (M := []) (Z := Z) p (fun _ _ _ => True) (fun i (x : γ) y Z => x = f i ∧ Ik Z y x) (fun i x y Z1 Z2 e r => ⟨r.1, Ik.ex e r.2⟩) (fun _ _ _ _ _ _ _ _ => trivial) (by omega) zh (fun _ h => absurd h List.not_mem_nil) trivial
    (fun i Z1 H1 hi t => hi) (fun Z1 H1 t => Nat.le_refl _) (fun i hi D Z1 H1 t nD mu _ v H2 hy A B hA hB => ?_) (fun D ys L Z' H' nD t mu f1 _ hL pr => ?_)⟩
  · obtain ⟨rfl, rfl⟩ := hy
    rw [Int.zero_add]
    exact turn i (by omega) Z1 H2 t A B (fun hp y Z3 H3 t3 iy => hA hp (f i) y Z3 H3 t3 trivial ⟨rfl, iy⟩) (fun hp Z3 H3 t3 => hB hp Z3 H3 t3 trivial)
  · have e2 : L.map Prod.snd = ((List.range n.toNat).filter p).map f := by
      rw [← hL, List.map_map]
      exact List.map_congr_left fun q hq => by
        obtain ⟨y, hy⟩ := paired_r pr q hq
        exact hy.1
    have la : Lm Z' H' D (((List.range n.toNat).filter p).map f) := ⟨⟨ys, f1, by rw [← e2]; exact paired_mapR (Paired.mapP pr fun y q h => h.2)⟩, mu.z, t.zh⟩
    exact t_fz la fun Z2 H2 t2 ls => fin D Z2 H2 nD (t.step t2 (mm_cons (.inr nD) mm_nil)) ls
theorem c_mapR {γ : Type} [Py γ] {n : Int} {Z : Hp} (f : Nat → γ) (zh : Ex Z H) (hz : -40000 ≤ n ∧ n ≤ 40000)
    (turn : ∀ i : Nat, (i : Int) < n → ∀ Z1 H1, T [] Z H Z1 H1 → ∀ (A : VK), (∀ y Z3 H3, T [] Z1 H1 Z3 H3 → Ik Z3 y (f i) → A y H3) → g (.int (i : Int)) (wipe σ vs) H1 fun σ2 H2 => wipe σ2 vs = wipe σ vs ∧ te σ2 H2 A)
    (fin : ∀ D Z' H', H D = none → T [] Z H Z' H' → Ls Z' D ((List.range n.toNat).map f) → Q (.ref D) H') : LcR1 g tYes te vs σ [.int n] H Q :=
  c_keepR (fun _ => true) f zh hz (fun i hi Z1 H1 t A B hA hB => by rw [lc_yes]; exact turn i hi Z1 H1 t A fun y Z3 H3 t3 iy => hA rfl y Z3 H3 t3 iy) (by rw [filter_yes]; exact fin)
end
section
variable {K : PySem.W.Frag} {σ : L2.St} {H : Hp} {D : Ends} {g : TG} {ts : TS}
end
end TR

/-! rooms that are changed: a list of lists of rows, beside a hand -/
namespace TR
open PySem L2
noncomputable def offH (H : Hp) (ps : List Addr) : Hp := fun b => if b ∈ ps then none else H b
structure HL (K : PySem.W.Frag) (Z0 H : Hp) (h p : Addr) (qs : List Addr) {α : Type} [Py α] (rs : List (List α)) : Prop where
  own : H p = some (.lst (qs.map V.ref))
  nd : (h :: p :: qs).Nodup
  fr : ∀ q ∈ h :: p :: qs, Z0 q = none
  zh : Ex Z0 H
  rows : Paired (fun q r => ∃ vs, H q = some (.lst vs) ∧ Paired (fun v x => Is K (offH H (h :: p :: qs)) v x) vs r) qs rs
section
variable {K : PySem.W.Frag} {Z0 H0 H H1 H' : Hp} {h p q D : Addr} {qs qs2 : List Addr} {α : Type} [Py α] {rs : List (List α)} {Q : VK}
end
section
variable {K : PySem.W.Frag} {σ : L2.St} {H : Hp} {te : TE} {Q : VK} {g : TG} {vs : List Nat}
end
/-- bounds of rooms: how many, how many rows each, how many entries each -/
noncomputable def HB (n m k : Nat) (rss : List (List Row)) : Prop := rss.length ≤ n ∧ ∀ rs ∈ rss, rs.length ≤ m ∧ ∀ r ∈ rs, r.length ≤ k
end TR

/-! rooms of rows that are all an asker's own: D their list, qs the rooms, F the rows -/
namespace TR
open PySem L2
section
variable {K : PySem.W.Frag} {σ : L2.St} {H : Hp} {tt : TT} {te : TE} {Q : VK} {g : TG} {vs : List Nat}
end
section
variable {K : PySem.W.Frag} {M N F : List Addr} {Z H Z1 H1 Z2 H2 Z' H' : Hp} {p q D : Addr} {o : HO} {v : V} {α : Type} [Py α]
/-- many things are to stay from now on -/
noncomputable def onH (Z H : Hp) (F : List Addr) : Hp := fun b => if b ∈ F then H b else Z b
/-- a row that is one's own -/
noncomputable def RowO (Z H : Hp) (w : Addr) (r : List α) : Prop := ∃ vs, H w = some (.lst vs) ∧ Paired (fun v x => Ik Z v x) vs r
noncomputable def RoomO (Z H : Hp) (F : List Addr) (q : Addr) (rs : List (List α)) : Prop := ∃ ws : List Addr, H q = some (.lst (ws.map V.ref)) ∧ (∀ w ∈ ws, w ∈ F) ∧ Paired (fun w r => RowO Z H w r) ws rs
structure Y3 (Z H : Hp) (D : Addr) (qs F : List Addr) (rss : List (List (List α))) : Prop where
  own : H D = some (.lst (qs.map V.ref))
  nd : (D :: qs).Nodup
  nf : ∀ q ∈ D :: qs, q ∉ F
  z : ∀ q ∈ D :: (qs ++ F), Z q = none
  al : ∀ q ∈ D :: (qs ++ F), ∃ o, H q = some o
  zh : Ex Z H
  rows : Paired (fun q rs => RoomO Z H F q rs) qs rss
variable {qs : List Addr} {rss : List (List (List α))}
variable {Q : VK} {R : Hp → Prop}
end
end TR
namespace TR
open PySem L2
section
variable {K : PySem.W.Frag} {σ : L2.St} {H Z Z0 : Hp} {te : TE} {Q : VK} {g : TG} {vs : List Nat} {α : Type} [Py α]
/-- a new list of new lists: w, its things in Z0 -/
noncomputable def RowF (Z0 Z : Hp) (w : Addr) (r : List α) : Prop := ∃ vs, Z w = some (.lst vs) ∧ Paired (fun v x => Ik Z0 v x) vs r
end
end TR

namespace TR
open PySem L2
/-- rooms of rows that an asker spoils: only the shape is known -/
structure Sh (Z H : Hp) (D : Addr) (qs F : List Addr) (n B : Nat) : Prop where
  own : H D = some (.lst (qs.map V.ref))
  nd : D ∉ qs
  nf : ∀ q ∈ D :: qs, q ∉ F
  z : ∀ q ∈ D :: (qs ++ F), Z q = none
  zh : Ex Z H
  rooms : ∀ q ∈ qs, ∃ ws : List Addr, H q = some (.lst (ws.map V.ref)) ∧ ws.length ≤ n ∧ ∀ w ∈ ws, w ∈ F
  rows : ∀ w ∈ F, ∃ vs, H w = some (.lst vs) ∧ vs.length ≤ B
section
variable {Z H Z' H' : Hp} {D q w e : Addr} {M qs F : List Addr} {n B : Nat} {Q : VK} {v : V}
variable {α : Type} [Py α] {rss : List (List (List α))}
end
end TR
namespace TR
open PySem L2
section
variable {K : PySem.W.Frag} {Z H : Hp} {D q w : Addr} {qs F : List Addr} {n B : Nat} {Q : VK} {v : V}
end
end TR

/-! steps as data -/
namespace TR
open PySem L2
inductive Stp where
  | rooms (m : Int)
  | cut (r m : Int)
  | row (r a : Int) (w : Row)
  deriving DecidableEq
noncomputable def stpD : Stp → PyData
  | .rooms m => .tuple [.str "rooms", .int m]
  | .cut r m => .tuple [.str "cut", .int r, .int m]
  | .row r a w => .tuple [.str "row", .int r, .int a, Py.d w]
instance : Py Stp := ⟨stpD, 4, fun s => by
    cases s with
    | rooms m => simp [stpD, PyData.depth, PyData.depthAll]
    | cut r m => simp [stpD, PyData.depth, PyData.depthAll]
    | row r a w =>
      have h : (Py.d w).depth ≤ 3 := Nat.le_trans (Py.depth w) (by decide)
      simp [stpD, PyData.depth, PyData.depthAll]
      omega, fun s => by
    have h1 : PyData.strOk "rooms" = true := by decide +kernel
    have h2 : PyData.strOk "cut" = true := by decide +kernel
    have h3 : PyData.strOk "row" = true := by decide +kernel
    cases s <;> simp [stpD, PyData.canLay0, PyData.canLayAll0, Py.can, h1, h2, h3], fun a b => by
    have hr : ("rooms" : Str) ≠ "cut" := by decide
    have hs : ("cut" : Str) ≠ "rooms" := by decide
    cases a <;> cases b <;> simp [stpD, PyData.eqv, PyData.eqvAll, Py.eqv, hr, hs]⟩
section
variable {K : PySem.W.Frag} {H : Hp} {v : V} {p b : Addr} {r m a : Int} {w : Row}
end
/-! what a step does -/
/-- so many things at least -/
noncomputable def padTo {α : Type} (n : Nat) (d : α) (l : List α) : List α := l ++ List.replicate (n - l.length) d
noncomputable def withRow (rss : List (List Row)) (room at_ : Int) (row : Row) : List (List Row) :=
  let p := padTo (room.toNat + 1) [] rss
  p.set room.toNat ((padTo (at_.toNat + 1) [] (p.getD room.toNat [])).set at_.toNat row)
/-- the last rooms without rows go -/
noncomputable def trimR (rss : List (List Row)) : List (List Row) := (rss.reverse.dropWhile fun rs => decide (rs = [])).reverse
noncomputable def doneY (y : Yard) : Stp → Yard
  | .rooms m => ⟨y.a, m, trimR y.c⟩
  | .cut r m => ⟨y.a, y.b, trimR (if r < y.c.length then y.c.set r.toNat ((y.c.getD r.toNat []).take m.toNat) else y.c)⟩
  | .row r a w => ⟨y.a, y.b, trimR (withRow y.c r a w)⟩
end TR
namespace TR
open PySem L2
section
variable {K : PySem.W.Frag} {M F : List Addr} {Z H Z1 H1 Z' H' : Hp} {D q a : Addr} {qs : List Addr} {α : Type} [Py α] {rss : List (List (List α))} {Q : VK}
theorem mm_1 {N : List Addr} {H : Hp} {y : Addr} (h : y ∈ N ∨ H y = none) : ∀ x ∈ [y], x ∈ N ∨ H x = none := mm_cons h mm_nil
end
end TR
namespace TR
open PySem L2
noncomputable abbrev YLen (y : Yard) : Prop := y.c.length ≤ 10000 ∧ ∀ rs ∈ y.c, rs.length ≤ 10000
noncomputable def StpOk : Stp → Prop
  | .rooms _ => True
  | .cut r m => 0 ≤ r ∧ 0 ≤ m
  | .row r a _ => 0 ≤ r ∧ r ≤ 1000 ∧ 0 ≤ a ∧ a ≤ 9000
end TR
namespace TR
open PySem L2
noncomputable def StpB : Stp → Prop
  | .rooms _ => True
  | .cut r m => 0 ≤ r ∧ 0 ≤ m
  | .row r a w => 0 ≤ r ∧ r < 131 ∧ 0 ≤ a ∧ a < 131 ∧ w.length ≤ 8
end TR

namespace TR
/-- the rows that a room of so many keys takes -/
noncomputable def rowsI (m w : Int) : Int := max 1 ((m + w - 1) / w)
noncomputable def spillI (l : List Int) (w : Int) : Int := (l.map fun m => rowsI m w - 1).sum
end TR
namespace TR
end TR
namespace TR
/-- the rows of keys: sorted, cut -/
noncomputable def cutR (l : List Int) (w : Int) (k : Nat) : List Int := cutI (sortI l) (some ((k : Int) * w)) (some ((k : Int) * w + w))
noncomputable def rowsOf (l : List Int) (w : Int) : List (List Int) := (List.range (rowsI l.length w).toNat).map (cutR l w)
end TR
namespace TR
end TR
namespace TR
noncomputable def lastGe (r : List Int) (key : Int) : Bool := match r.getLast? with | some v => decide (key ≤ v) | none => false
/-- what a look through rows finds: there, looks -/
noncomputable def lookedI : List (List Int) → Int → Nat → Bool × Int
  | [], _, n => (false, (n : Int))
  | r :: rs, key, n => if lastGe r key = true then (decide (key ∈ r), (n : Int) + 1) else lookedI rs key (n + 1)
end TR
namespace TR
/-- how many are less -/
noncomputable def less (l : List Int) (key : Int) : Nat := (l.filter fun x => decide (x < key)).length
end TR

/-! powers of two, levels, rooms -/
namespace TR
noncomputable def lev (r : Int) : Nat := Nat.log2 r.toNat
noncomputable def whole (r : Int) : Int := 2 ^ lev r
noncomputable def roomOf (key rooms : Int) : Int := if key % whole rooms < rooms - whole rooms then key % (2 * whole rooms) else key % whole rooms
end TR
/-! bits, and keys turned about -/
namespace TR
noncomputable def bit (x : Int) (k : Nat) : Int := x / 2 ^ k % 2
noncomputable def rev : Nat → Int → Int
  | 0, _ => 0
  | n + 1, x => rev n x * 2 + bit x n
/-- the first bit in which two differ -/
noncomputable def Dif (x y : Int) (d : Nat) : Prop := (∀ k, k < d → bit x k = bit y k) ∧ bit x d ≠ bit y d
noncomputable def partedAt (x y : Int) (d : Nat) : Int := 1 + max (x % 2 ^ (d + 1)) (y % 2 ^ (d + 1))
end TR
namespace TR
end TR
namespace TR
end TR

namespace TR
noncomputable def thingOf (r : Row) (key : Int) : Option Tx := ((r.filter fun e => decide (e.1 = key)).map Prod.snd)[0]?
noncomputable def foundR : List Row → Int → Nat → Option Tx × Int
  | [], _, m => (none, (m : Int))
  | r :: rs, key, m => if lastGe (r.map Prod.fst) key = true then (thingOf r key, ((m + 1 : Nat) : Int)) else foundR rs key (m + 1)
noncomputable def foundI (y : Yard) (key : Int) : Option Tx × Int := match y.c[(roomOf key y.b).toNat]? with
  | none => (none, 0)
  | some rows => foundR rows key 0
end TR

/-! rows of rising entries, clean yards -/
namespace TR
open PySem L2
theorem drop_lt {α : Type} {l : List α} {w : Nat} (h : ¬ (w = 0 ∨ l.length ≤ w)) : (l.drop w).length < l.length := by
  rw [List.length_drop]
  omega
noncomputable def cutE (w : Nat) (l : Row) : List Row := if h : w = 0 ∨ l.length ≤ w then [l] else l.take w :: cutE w (l.drop w)
termination_by l.length
decreasing_by exact drop_lt h
/-- a look through rows that rise all the way -/
noncomputable abbrev Rises (l : Row) : Prop := (l.map Prod.fst).Pairwise (· < ·)
noncomputable def fnd (R : List Row) (k : Int) : Option Tx := (foundR R k 0).1
end TR

namespace TR
open PySem L2
/-! ### rooms that are rewritten -/
noncomputable def putR (c : List (List Row)) (R : Nat) (X : List Row) : List (List Row) := (padTo (R + 1) [] c).set R X
noncomputable def NE (c : List (List Row)) : Prop := ∀ rs ∈ c, rs ≠ []
/-! ### the rows that aren't what stands there -/
noncomputable def writF (R : Nat) (now : List Row) : Nat → List Row → List Stp
  | _, [] => []
  | i, r :: rs => if now[i]? = some r then writF R now (i + 1) rs else .row (R : Int) (i : Int) r :: writF R now (i + 1) rs
noncomputable def writ (R : Nat) (rows now : List Row) : List Stp := writF R now 0 rows
noncomputable def onw (R : Nat) (rows now : List Row) : List Stp := writ R rows now ++ (if rows.length < now.length then [.cut (R : Int) (rows.length : Int)] else [])
noncomputable def backw (R : Nat) (rows now : List Row) : List Stp := (writ R rows now).reverse
end TR

namespace TR
open PySem L2
/-- from the last on: behind any of these steps the first rows are as they were, then rows without entries, then the new ones -/
noncomputable def backS (rows now : List Row) (m : Nat) : List Row := now.take m ++ List.replicate (m - now.length) [] ++ rows.drop m
end TR

/-! yards amid a change -/
namespace TR
open PySem L2
noncomputable def partE (r : Int) (es : Row) (i : Nat) : Row := sortE (es.filter fun e => decide (roomOf e.1 r = (i : Int)))
noncomputable def cleanC (w : Nat) (r : Int) (es : Row) : List (List Row) := (List.range r.toNat).map fun i => cutE w (partE r es i)
noncomputable def cleanY (w r : Int) (es : Row) : Yard := ⟨w, r, cleanC w.toNat r es⟩
noncomputable def fY (y : Yard) (k : Int) : Option Tx := (foundI y k).1
/-- no key twice -/
noncomputable abbrev Keys1 (es : Row) : Prop := (es.map Prod.fst).Nodup
/-- a room that tells its keys rightly -/
noncomputable def RoomG (es : Row) (b : Int) (i : Nat) (X : List Row) : Prop := (∀ e ∈ es, roomOf e.1 b = (i : Int) → fnd X e.1 = some e.2) ∧ ∀ r ∈ X, ∀ x ∈ r, x ∈ es
/-- all keys are found with their things, no others are -/
noncomputable def GoodF (es : Row) (y : Yard) : Prop := (∀ e ∈ es, fY y e.1 = some e.2) ∧ ∀ k, k ∉ es.map Prod.fst → fY y k = none
/-! ### splitting -/
noncomputable def splitRoom (r : Int) : Nat := (r - whole r).toNat
noncomputable def splitS (y : Yard) : List Stp :=
  let R := splitRoom y.b
  let A := (y.c.getD R []).flatten
  onw y.b.toNat (cutE y.a.toNat (sortE (A.filter fun e => decide (roomOf e.1 (y.b + 1) = y.b)))) [] ++ [.rooms (y.b + 1)] ++ onw R (cutE y.a.toNat (sortE (A.filter fun e => decide (roomOf e.1 (y.b + 1) ≠ y.b)))) (y.c.getD R [])
end TR

namespace TR
open PySem L2
end TR
namespace TR
open PySem L2
/-! ### joining -/
noncomputable def joinS (y : Yard) : List Stp :=
  let last := (y.b - 1).toNat
  let into := splitRoom (y.b - 1)
  backw into (cutE y.a.toNat (sortE ((y.c.getD into []).flatten ++ (y.c.getD last []).flatten))) (y.c.getD into []) ++ [.rooms (y.b - 1), .cut (last : Int) 0]
end TR

/-! T: lists of own lists, reverse, extend, ranges with a step; found -/
namespace TR
open PySem L2
section
variable {K : PySem.W.Frag} {M qs : List Addr} {Z H Z' H' : Hp} {Q : VK} {D q a b : Addr} {v : V} {α : Type} {iα : Py α} {x : α} {l r : List α}
end
/-! a list of own lists -/
structure Y2 (Z H : Hp) (D : Addr) (qs : List Addr) {α : Type} [Py α] (rs : List (List α)) : Prop where
  own : H D = some (.lst (qs.map V.ref))
  nd : (D :: qs).Nodup
  z : ∀ q ∈ D :: qs, Z q = none
  zh : Ex Z H
  rows : Paired (fun q r => RowO Z H q r) qs rs
section
variable {K : PySem.W.Frag} {M qs : List Addr} {Z H Z' H' : Hp} {Q : VK} {D q : Addr} {v : V} {α : Type} {iα : Py α} {x : α} {rs : List (List α)}
end
section
variable {K : PySem.W.Frag} {σ : L2.St} {H Z : Hp} {tt : TT} {te : TE} {Q : VK} {g : TG} {vs : List Nat}
/-- ranges with a step -/
noncomputable def LcR3 (g : TG) (tt : TT) (te : TE) (vs : List Nat) (σ : L2.St) (x : List V) (H1 : Hp) (Q : VK) : Prop := ∃ (i j c : Int) (n : Nat), x = [.int i, .int j, .int c] ∧ RgC i j c n ∧ LcJ g tt te vs σ (Itc i c n) H1 Q
end
/-! found -/
noncomputable def YardOk (y : Yard) : Prop := 1 ≤ y.b ∧ y.c.length ≤ 10000 ∧ ∀ rs ∈ y.c, rs.length ≤ 10000 ∧ ∀ r ∈ rs, r.length ≤ 10000
noncomputable def optS : Option Tx → V
  | none => .non
  | some x => .str x.1
noncomputable def spFound (K : PySem.W.Frag) : Sp := fun vs H Q _ => ∃ (v : V) (y : Yard) (key : Int), vs = [v, .int key] ∧ Is K H v y ∧ YardOk y ∧
  ∀ (p : Addr) (v' : V) (H' : Hp), H p = none → Ex H H' → H' p = some (.tup [v', .int (foundI y key).2]) → Is K H' v' (foundI y key).1 → Q (.ref p) H'
noncomputable def spLawFound (K : PySem.W.Frag) : Sp := fun vs H Q _ => ∃ (v : V) (y : Yard) (key : Int), vs = [v, .int key] ∧ Is K H v y ∧ 0 ≤ key ∧ (1 ≤ y.b ∧ ∀ rs ∈ y.c, rs.length ≤ 10000 ∧ ∀ r ∈ rs, r.length ≤ 10000) ∧
  ∀ (p : Addr) (v' : V) (H' : Hp), H p = none → Ex H H' → H' p = some (.tup [v', .int (foundI y key).2]) → Is K H' v' (foundI y key).1 → Q (.ref p) H'
/-- keys, drawn -/
noncomputable def spKeys (K : PySem.W.Frag) : Sp := fun vs H Q _ => ∃ (h : Addr) (many : Int) (n : Nat) (Z : Hp), vs = [.ref h, .int many] ∧ 0 ≤ many ∧ many ≤ 160 ∧ Hand K Z H h (n + 2000) ∧
  ∀ (p : Addr) (ks : List Int) (H' : Hp), H p = none → ExM h H H' → Hand K Z H' h n → H' p = some (.lst (ks.map V.int)) → ks.length = many.toNat → ks.Nodup → (∀ k ∈ ks, 0 ≤ k ∧ k < 1152921504606846976) → Q (.ref p) H'
end TR
namespace TR
open PySem L2
noncomputable def partsL (r : Int) (l : Row) : List Row := (List.range r.toNat).map fun (i : Nat) => l.filter fun e => decide (roomOf e.1 r = (i : Int))
end TR
namespace TR
open PySem L2
end TR
namespace TR
open PySem L2
section
variable {K : PySem.W.Frag} {σ : L2.St} {H : Hp} {tt : TT} {te : TE} {Q : VK} {g : TG} {vs : List Nat}
end
end TR

namespace TR
end TR

/-! the law's doing of a step by the last room with rows -/
namespace TR
open PySem L2
noncomputable def someR (rss : List (List Row)) : List Int := ((List.range rss.length).filter fun i => decide (rss.getD i [] ≠ [])).map fun (i : Nat) => (i : Int)
end TR
namespace TR
open PySem L2
/-! the steps of a split and of a join are small -/
noncomputable def StpR : Stp → Prop
  | .rooms m => 1 ≤ m
  | s => StpB s
end TR

/-! putting and dropping: behind any steps the other keys are found, the change's own one as ahead up to one of the steps, as behind it from then on -/
namespace TR
open PySem L2
noncomputable def outE (es : Row) (k : Int) : Row := es.filter fun e => decide (e.1 ≠ k)
noncomputable def putE (es : Row) (k : Int) (t : Tx) : Row := outE es k ++ [(k, t)]
noncomputable def loE (l : Row) (k : Int) : Row := l.filter fun e => decide (e.1 < k)
noncomputable def hiE (l : Row) (k : Int) : Row := l.filter fun e => decide (k < e.1)
noncomputable def putS (y : Yard) (k : Int) (t : Tx) : List Stp :=
  backw (roomOf k y.b).toNat (cutE y.a.toNat (sortE (outE (y.c.getD (roomOf k y.b).toNat []).flatten k ++ [(k, t)]))) (y.c.getD (roomOf k y.b).toNat [])
noncomputable def dropS (y : Yard) (k : Int) : List Stp :=
  onw (roomOf k y.b).toNat (cutE y.a.toNat (sortE (outE (y.c.getD (roomOf k y.b).toNat []).flatten k))) (y.c.getD (roomOf k y.b).toNat [])
end TR
namespace TR
open PySem L2
end TR

/-! dicts of numbers and texts: d.items(), sorted(d.items()) -/
namespace L2
open PySem PySem.W PySem.Spec PyProof.Rows SrtO SrtS TR
noncomputable def kvE (e : Ent) : Key × V := (Sum.inl e.1, .str e.2.1)
section
variable {X : Cx}
noncomputable def rItemsK : V → List V → Hp → VK → Prop := fun x xs H Q => ∃ (a : Addr) (kvs : List (Key × V)), x = .ref a ∧ xs = [] ∧ H a = some (.dK kvs) ∧ ∀ p, H p = none → Q (.ref p) (upd H p (DX.itemsO p a))
noncomputable def rSortIt : List V → Hp → VK → Prop := fun vs H Q => ∃ (p a : Addr) (l : List Ent), vs = [.ref p] ∧ H p = some (DX.itemsO p a) ∧ H a = some (.dK (l.map kvE)) ∧ Keys1 l ∧
  ∀ (H' : Hp) (q : Addr) (ws : List V), Ex H H' → H q = none → H' q = some (.lst ws) → Paired (fun v (e : Ent) => ∃ t, v = V.ref t ∧ H t = none ∧ H' t = some (.tup [.int e.1, .str e.2.1])) ws (sortE l) → Q (.ref q) H'
end
end L2

/-! sorted(d) of a dict of numbers, any number of them -/
namespace L2
open PySem PySem.W PySem.Spec PyProof.Rows SrtO TR
section
variable {X : Cx}
noncomputable def rSortN : List V → Hp → VK → Prop := fun vs H Q => ∃ (b : Addr) (l : TR.Row), vs = [.ref b] ∧ H b = some (.dK (l.map kvE)) ∧ ∀ p, H p = none → Q (.ref p) (upd H p (.lst ((TR.sortI (l.map Prod.fst)).map V.int)))
end
end L2
namespace TR
open PySem L2
variable {Z H : Hp} {d : Addr} {l : Row} {Q : VK}
end TR

/-! dicts of numbers and texts, in T -/
namespace TR
open PySem L2
/-- a dict that may be changed -/
structure Dm (Z H : Hp) (D : Addr) (l : Row) : Prop where
  h : H D = some (.dK (l.map kvE))
  zd : Z D = none
  zh : Ex Z H
noncomputable def setE (l : Row) (k : Int) (t : Tx) : Row := if k ∈ l.map Prod.fst then l.map (fun e => if e.1 = k then (e.1, t) else e) else l ++ [(k, t)]
/-! the rules -/
noncomputable def rSI (x : V) (H : Hp) (Q : VK) : Prop := ∃ (d : Addr) (l : Row), x = .ref d ∧ H d = some (.dK (l.map kvE)) ∧ Keys1 l ∧
  ∀ (H' : Hp) (q : Addr) (ws : List V), Ex H H' → H q = none → H' q = some (.lst ws) → Paired (fun v (e : Ent) => ∃ t, v = V.ref t ∧ H t = none ∧ H' t = some (.tup [.int e.1, .str e.2.1])) ws (sortE l) → Q (.ref q) H'
noncomputable def tSI (te : TE) : TE := fun σ H Q => te σ H fun x H1 => rSI x H1 Q
section
variable {K : PySem.W.Frag} {M : List Addr} {Z H Z' H' : Hp} {p a d D : Addr} {l : Row} {k : Int} {t : Tx} {Q : VK}
noncomputable def rDict (K : PySem.W.Frag) : List V → Hp → VK → Prop := fun xs H Q => ∃ (a : Addr) (ps : List Addr) (kvs : List (L2.Key × V)), xs = [.ref a] ∧ SqL K H a (ps.map V.ref) ∧ Paired (fun p kv => SqT K H p [kV kv.1, kv.2]) ps kvs ∧ ∀ p, H p = none → Q (.ref p) (upd H p (.dK (mergeK [] kvs)))
noncomputable def rDictD : List V → Hp → VK → Prop := fun xs H Q => ∃ (a : Addr) (kvs : List (L2.Key × V)), xs = [.ref a] ∧ Rd H a (.dK kvs) ∧ ∀ p, H p = none → Q (.ref p) (upd H p (.dK kvs))
noncomputable def rSortD : List V → Hp → VK → Prop := fun xs H Q => ∃ (a : Addr) (kvs : List (L2.Key × V)) (ks : List Int), xs = [.ref a] ∧ Rd H a (.dK kvs) ∧ kvs.map (·.1) = ks.map Sum.inl ∧ ks.length < 64 ∧ ∀ (ys : List Int) (p : Addr), ys.Perm ks → ys.Pairwise (· ≤ ·) → H p = none → Q (.ref p) (upd H p (.lst (ys.map V.int)))
noncomputable def rLenDm : List V → Hp → VK → Prop := fun xs H Q => ∃ a kvs, xs = [V.ref a] ∧ H a = some (.dK kvs) ∧ Q (.int kvs.length) H
noncomputable def DGb (x y : V) (H : Hp) (Q : VK) : Prop := ∃ a o, x = .ref a ∧ DGet H a y o ∧ Q (o.getD .non) H
noncomputable def DGa (ty : TE) (σ : L2.St) (x : V) (H1 : Hp) (Q : VK) : Prop := ∃ a, x = .ref a ∧ IsD H1 a ∧ ty σ H1 fun y H2 => ∃ o, DGet H2 a y o ∧ Q (o.getD .non) H2
noncomputable def DIx (x y : V) (H : Hp) (Q : VK) : Prop := ∃ a v, x = .ref a ∧ DGet H a y (some v) ∧ Q v H
noncomputable def DInn (y x : V) (H : Hp) (Q : VK) : Prop := ∃ a o, x = .ref a ∧ DGet H a y o ∧ Q (.bl o.isSome) H
noncomputable def DNin (y x : V) (H : Hp) (Q : VK) : Prop := ∃ a o, x = .ref a ∧ DGet H a y o ∧ Q (.bl (!o.isSome)) H
noncomputable def DPa (ty : TE) (σ : L2.St) (x : V) (H1 : Hp) (Q : VK) : Prop := ∃ a, x = .ref a ∧ IsD H1 a ∧ ty σ H1 fun y H2 => ∃ kvs k v, H2 a = some (.dK kvs) ∧ y = kV k ∧ valV kvs k = some v ∧ Q v (upd H2 a (.dK (dropK kvs k)))
end
end TR
namespace TR
open PySem L2
end TR

/-! a comprehension over a dict's keys -/
namespace TR
open PySem L2
section
variable {K : PySem.W.Frag} {σ : L2.St} {Z H : Hp} {tt : TT} {te td : TE} {Q : VK} {g : TG} {vs : List Nat} {d : Addr} {l : Row}
noncomputable def keepAt (l : Row) (p : Ent → Bool) (i : Nat) : Bool := ((l[i]?).map p).getD false
end
end TR

/-! how many rooms so many keys ask -/
namespace TR
noncomputable def roomsFor (c f : Int) : Int := max 1 (-((-c) / f))
end TR

namespace TR
/-- keys told apart by their rooms, each room's in their order -/
noncomputable def spl (l : List Int) (n : Int) : List (List Int) := (List.range n.toNat).map fun (r : Nat) => l.filter fun x => decide (roomOf x n = (r : Int))
end TR

/-! tables: what an instance of Table is, in T -/
namespace TR
open PySem L2
/-- a value's kind -/
inductive KindV (K : PySem.W.Frag) (H : Hp) : V → String → Prop
  | int (i : Int) : KindV K H (.int i) "int"
  | bl (b : Bool) : KindV K H (.bl b) "bool"
  | str (x : Str) (h : x.length ≤ 100000) : KindV K H (.str x) "str"
  | non : KindV K H .non "NoneType"
  | lst {a : Addr} {xs : List V} (h : SqL K H a xs) : KindV K H (.ref a) "list"
  | tup {a : Addr} {xs : List V} (h : SqT K H a xs) : KindV K H (.ref a) "tuple"
  | dct {a : Addr} {l : List (L2.Key × V)} (h : H a = some (.dK l)) : KindV K H (.ref a) "dict"
theorem s_isiDk {K : PySem.W.Frag} {H : Hp} {Q : VK} {n : String} {a : Addr} {l : List (L2.Key × V)} {b : Bool} (hs : H a = some (.dK l)) (h : kitB "dict" n = some b) (q : Q (.bl b) H) : rIsi K [.ref a, .ty n] H Q := ⟨.ref a, .ty n, _, _, b, rfl, .ty n, .base (.dK hs), kit_ty h, q⟩
theorem k_db : kitB "dict" "bool" = some false := by decide +kernel
noncomputable def rListDm : List V → Hp → VK → Prop := fun xs H Q => ∃ p kvs, xs = [.ref p] ∧ H p = some (.dK kvs) ∧ ∀ q, H q = none → Q (.ref q) (upd H q (.lst (kvs.map fun kv => kV kv.1)))
noncomputable def wholeV : V → Bool
  | .int _ => true
  | _ => false
noncomputable def keyV : V → Bool
  | .int i => decide (0 ≤ i ∧ i < 1152921504606846976)
  | _ => false
noncomputable def sizeV : V → Bool
  | .int i => decide (1 ≤ i ∧ i ≤ 8)
  | _ => false
noncomputable def nameV : V → Bool
  | .str x => nameB x
  | _ => false
section
variable {K : PySem.W.Frag} {Z H Z' H' : Hp} {M : List Addr} {v : V} {n : String}
end
/-- the attributes of a table -/
noncomputable def tfs (w f : V) (D : Addr) : List (Str × V) := [("wide", w), ("fill", f), ("things", .ref D)]
structure Tb (K : PySem.W.Frag) (Z H : Hp) (a D : Addr) (w f : Int) (l : Row) : Prop where
  at_ : ∃ dx, Z a = some (.ins (clsA K "Table") dx (tfs (.int w) (.int f) D))
  dm : Dm Z H D l
  k1 : Keys1 l
  w0 : 1 ≤ w ∧ w ≤ 8
  f0 : 1 ≤ f ∧ f ≤ 8
  le : l.length ≤ 64
  ks : ∀ e ∈ l, 0 ≤ e.1 ∧ e.1 < 1152921504606846976
/-- how many rooms a table has | a room's keys -/
noncomputable def roomsT (f : Int) (l : Row) : Int := roomsFor (l.length : Int) f
noncomputable def keysT_ (f : Int) (l : Row) (r : Int) : List Int := sortI ((l.filter fun e => decide (roomOf e.1 (roomsT f l) = r)).map Prod.fst)
section
variable {K : PySem.W.Frag} {Z H Z' H' : Hp} {M : List Addr} {a D p : Addr} {w f : Int} {l : Row} {Q : VK} {E : XK}
/-! promises -/
noncomputable def spTCount (K : PySem.W.Frag) : Sp := fun vs H Q _ => ∃ (a D : Addr) (w f : Int) (l : Row) (Z : Hp), vs = [.ref a] ∧ Tb K Z H a D w f l ∧ Q (.int (l.length : Int)) H
noncomputable def spTRooms (K : PySem.W.Frag) : Sp := fun vs H Q _ => ∃ (a D : Addr) (w f : Int) (l : Row) (Z : Hp), vs = [.ref a] ∧ Tb K Z H a D w f l ∧ Q (.int (roomsT f l)) H
noncomputable def spTKeysIn (K : PySem.W.Frag) : Sp := fun vs H Q _ => ∃ (a D : Addr) (w f r : Int) (l : Row) (Z : Hp), vs = [.ref a, .int r] ∧ Tb K Z H a D w f l ∧ ∀ p Z' H', H p = none → T [D] Z H Z' H' → Tb K Z' H' a D w f l → Lm Z' H' p (keysT_ f l r) → Q (.ref p) H'
noncomputable def spTEntries (K : PySem.W.Frag) : Sp := fun vs H Q _ => ∃ (a D : Addr) (w f : Int) (l : Row) (Z : Hp), vs = [.ref a] ∧ Tb K Z H a D w f l ∧ ∀ p Z' H', H p = none → T [] Z H Z' H' → Lm Z' H' p (sortE l) → Q (.ref p) H'
noncomputable def spTCounts (K : PySem.W.Frag) : Sp := fun vs H Q _ => ∃ (a D : Addr) (w f : Int) (l : Row) (Z : Hp), vs = [.ref a] ∧ Tb K Z H a D w f l ∧ ∀ p Z' H', H p = none → T [] Z H Z' H' → Ls Z' p ((spl (sortI (l.map Prod.fst)) (roomsT f l)).map fun r => (r.length : Int)) → Q (.ref p) H'
noncomputable def spTSpill (K : PySem.W.Frag) : Sp := fun vs H Q _ => ∃ (a D : Addr) (w f : Int) (l : Row) (Z : Hp), vs = [.ref a] ∧ Tb K Z H a D w f l ∧ ∀ Z' H', T [] Z H Z' H' → Q (.int (spillI ((spl (sortI (l.map Prod.fst)) (roomsT f l)).map fun r => (r.length : Int)) w)) H'
/-- the most rows of a room, the first such room -/
noncomputable def longI (ns : List Int) (w m : Int) (j : Nat) : Prop := m = maxI (ns.map fun m => rowsI m w) ∧ (ns.map fun m => rowsI m w)[j]? = some m ∧ ∀ i, i < j → (ns.map fun m => rowsI m w)[i]? ≠ some m
noncomputable def spTLongest (K : PySem.W.Frag) : Sp := fun vs H Q _ => ∃ (a D : Addr) (w f : Int) (l : Row) (Z : Hp), vs = [.ref a] ∧ Tb K Z H a D w f l ∧ ∀ p m j Z' H', H p = none → T [] Z H Z' H' → longI ((spl (sortI (l.map Prod.fst)) (roomsT f l)).map fun r => (r.length : Int)) w m j → Z' p = some (.tup [.int m, .int (j : Nat)]) → Q (.ref p) H'
/-- what a put tells -/
noncomputable def PutTold (Z H Z' H' : Hp) (f : Int) (l l' : Row) (r : V) : Prop :=
  if roomsT f l' = roomsT f l then r = .non else ∃ p c, r = .ref p ∧ H p = none ∧ H c = none ∧ Z' p = some (.tup [.int (roomsT f l - whole (roomsT f l)), .int (roomsT f l), .ref c]) ∧ Lm Z' H' c (keysT_ f l' (roomsT f l))
noncomputable def spTPut (K : PySem.W.Frag) : Sp := fun vs H Q E => ∃ (a D : Addr) (w f : Int) (l : Row) (Z : Hp) (v t : V) (n m : String), vs = [.ref a, v, t] ∧ Tb K Z H a D w f l ∧ KindV K H v n ∧ KindV K H t m ∧
  (keyV v = false → ∀ d, H d = none → E (.ref (clsA K "NoKey")) (some d) (upd H d (.xd [("key", v)]))) ∧
  (keyV v = true → nameV t = false → ∀ d, H d = none → E (.ref (clsA K "NoThing")) (some d) (upd H d (.xd [("thing", t)]))) ∧
  ∀ k x, v = .int k → t = .str x.1 → keyV v = true → nameV t = true →
    (k ∉ l.map Prod.fst → l.length = 64 → ∀ d, H d = none → E (.ref (clsA K "Full")) (some d) (upd H d (.xd [("many", .int 64)]))) ∧
    ((k ∈ l.map Prod.fst ∨ l.length < 64) → ∀ r Z' H', T [D] Z H Z' H' → Tb K Z' H' a D w f (setE l k x) → PutTold Z H Z' H' f l (setE l k x) r → Q r H')
end
end TR
namespace TR
open PySem L2
section
variable {K : PySem.W.Frag} {Z H Z' H' : Hp} {M : List Addr} {a d p : Addr} {l : Row} {Q : VK}
end
end TR
namespace TR
open PySem L2
end TR

namespace TR
open PySem L2
/-- a room's rows of entries -/
noncomputable def entOf (l : Row) (k : Int) : Ent := (k, (thingOf l k).getD ⟨"", by decide +kernel⟩)
noncomputable def rowsE (w f : Int) (l : Row) (r : Int) : List Row := (rowsOf (keysT_ f l r) w).map fun ks => ks.map (entOf l)
noncomputable def spTRoom (K : PySem.W.Frag) : Sp := fun vs H Q E => ∃ (a D : Addr) (w f : Int) (l : Row) (Z : Hp) (v : V) (n : String), vs = [.ref a, v] ∧ Tb K Z H a D w f l ∧ KindV K H v n ∧
  ((∀ r, v = .int r → ¬ (0 ≤ r ∧ r < roomsT f l)) → ∀ d, H d = none → E (.ref (clsA K "NoRoom")) (some d) (upd H d (.xd [("number", v)]))) ∧
  ∀ r, v = .int r → 0 ≤ r ∧ r < roomsT f l → ∀ (p : Addr) (ws : List Addr) Z' H', T [D] Z H Z' H' → Tb K Z' H' a D w f l → (p :: ws).Nodup → (∀ b ∈ p :: ws, H b = none) → Z' p = some (.lst (ws.map V.ref)) → Paired (fun x rw => Ls Z' x rw) ws (rowsE w f l r) → Q (.ref p) H'
noncomputable def spTTwin (K : PySem.W.Frag) : Sp := fun vs H Q _ => ∃ (a D : Addr) (w f : Int) (l : Row) (Z : Hp), vs = [.ref a] ∧ Tb K Z H a D w f l ∧ ∀ b D2 Z' H', H b = none → H D2 = none → T [] Z H Z' H' → Tb K Z' H' b D2 w f l → Q (.ref b) H'
noncomputable def spTInit (K : PySem.W.Frag) : Sp := fun vs H Q E => ∃ (a dx : Addr) (v u : V) (n m : String), vs = [.ref a, v, u] ∧ H a = some (.ins (clsA K "Table") dx []) ∧ KindV K H v n ∧ KindV K H u m ∧
  (sizeV v = true → sizeV u = true → ∀ D H', H D = none → (∀ b o, b ≠ a → H b = some o → H' b = some o) → H' a = some (.ins (clsA K "Table") dx (tfs v u D)) → H' D = some (.dK []) → Q .non H') ∧
  (sizeV v = false → ∀ H' d, Ex H H' → H' d = none → E (.ref (clsA K "NoSize")) (some d) (upd H' d (.xd [("thing", v)]))) ∧
  (sizeV v = true → sizeV u = false → ∀ H' d, Ex H H' → H' d = none → E (.ref (clsA K "NoSize")) (some d) (upd H' d (.xd [("thing", u)])))
end TR
namespace TR
open PySem L2
end TR

/-! laws over tables -/
namespace TR
open PySem L2
noncomputable def cutG {α : Type} (w : Nat) (l : List α) : List (List α) := if h : w = 0 ∨ l.length ≤ w then [l] else l.take w :: cutG w (l.drop w)
termination_by l.length
decreasing_by exact drop_lt h
structure T6 (α β γ δ ε ζ : Type) where
  a : α
  b : β
  c : γ
  d : δ
  e : ε
  f : ζ
  deriving DecidableEq
instance {α β γ δ ε ζ : Type} [Py α] [Py β] [Py γ] [Py δ] [Py ε] [Py ζ] : Py (T6 α β γ δ ε ζ) := ⟨fun p => .tuple [Py.d p.a, Py.d p.b, Py.d p.c, Py.d p.d, Py.d p.e, Py.d p.f], max (Py.dep α) (max (Py.dep β) (max (Py.dep γ) (max (Py.dep δ) (max (Py.dep ε) (Py.dep ζ))))) + 1, fun p => by
    simp only [PyData.depth, PyData.depthAll]
    have h1 := Py.depth p.a
    have h2 := Py.depth p.b
    have h3 := Py.depth p.c
    have h4 := Py.depth p.d
    have h5 := Py.depth p.e
    have h6 := Py.depth p.f
    omega, fun p => by simp only [PyData.canLay0, PyData.canLayAll0, Py.can]; rfl, fun a b => by
    obtain ⟨a1, a2, a3, a4, a5, a6⟩ := a
    obtain ⟨b1, b2, b3, b4, b5, b6⟩ := b
    simp only [PyData.eqv, PyData.eqvAll, Bool.and_true, Bool.and_eq_true, Py.eqv, T6.mk.injEq]⟩
end TR
namespace TR
open PySem L2
section
variable {K : PySem.W.Frag} {σ : L2.St} {Z H : Hp} {te : TE} {Q : VK} {E : XK} {g : TG} {vs : List Nat} {a D : Addr} {w f : Int} {l : Row}
end
end TR
namespace TR
open PySem L2
end TR
namespace TR
open PySem L2
section
variable {K : PySem.W.Frag} {Z H Z' H' : Hp} {Q : VK} {E : XK} {a D : Addr} {w f : Int} {l : Row}
end
end TR
namespace TR
open PySem L2
end TR
namespace TR
open PySem L2
end TR
namespace TR
open PySem L2
theorem pair_bls {Z : Hp} {vs : List V} {l : List Bool} (h : Paired (fun v x => Ik Z v x) vs l) : vs = l.map V.bl := by
  induction h with
  | nil => rfl
  | cons h1 _ ih => rw [h1.bl_of, ih]; rfl
theorem Ls.bools {Z : Hp} {p : Addr} {l : List Bool} (a : Ls Z p l) : Z p = some (.lst (l.map V.bl)) := by
  obtain ⟨vs, h, pr⟩ := a
  rw [h, pair_bls pr]
end TR

/-! isinstance of an exception that a suite holds: it has its own dict -/
namespace TR
open PySem L2 PySem.Spec PyProof.Rows
structure IsxC (K : PySem.W.Frag) (C : Addr) : Prop where
  x : XfC K C
  ha : PySem.W.findIn K (.ref C) "__class__" = some (some (.builtin "object.__class__"))
  hn : PySem.W.specialIn K (.builtin "object.__class__") "__get__" = some (some (.builtin "getset_descriptor.__get__"))
  ht : PySem.W.takesIn K (.builtin "object.__class__") = some true
  hm : PySem.W.mroIn K C (.type "object") = some true
/-- isinstance(e, c) | isinstance(e, (c1, c2, ..)): a the exception, cls its class, d its dict -/
noncomputable def rIsX (K : PySem.W.Frag) (a : Addr) (cls : Value) (d : Option Addr) (D : Addr) : List V → Hp → VK → Prop := fun xs H Q => ∃ (c : V) (u : Value) (b : Bool) (dd : Addr) (fs : List (Str × V)), xs = [.ref a, c] ∧ cls = .ref D ∧ d = some dd ∧ H dd = some (.xd fs) ∧ ClsV c u ∧ PySem.W.kitOne K (.ref D) u = some b ∧ Q (.bl b) H
noncomputable def rIsXT (K : PySem.W.Frag) (a : Addr) (cls : Value) (d : Option Addr) (D : Addr) : List V → Hp → VK → Prop := fun xs H Q => ∃ (tp : Addr) (cs : List V) (us : List Value) (b : Bool) (dd : Addr) (fs : List (Str × V)), xs = [.ref a, .ref tp] ∧ cls = .ref D ∧ d = some dd ∧ H dd = some (.xd fs) ∧ H tp = some (.tup cs) ∧ Paired ClsV cs us ∧ PySem.W.kitAny K (.ref D) us = some b ∧ Q (.bl b) H
section
variable {X : Cx} {K : PySem.W.Frag} {a D : Addr} {oe : Obj} {cls : Value} {d : Option Addr} {pn : List (Addr × Obj)}
theorem isx_kit {od : Option Obj} (C : IsxC K D) : PySem.W.KitX K (.ref a) (.ref D) (fun h => PySem.W.InstAt h a oe D od) := by
  obtain ⟨cd, hc, _⟩ := PySem.W.any_some C.x.hdC
  exact PySem.W.kitx_exc (by rw [hc]; rfl) C.x.ga C.x.gg C.x.exC C.ha C.hn C.ht C.hm
end
section
variable {K : PySem.W.Frag} {H : Hp} {Q : VK} {a D dd tp : Addr} {fs : List (Str × V)} {b : Bool}
theorem exm_kit {t : Value} {C : Addr} (h : PySem.W.exmOne K t (.ref C) = some b) : PySem.W.kitCls K t (.ref C) = some b := by
  unfold PySem.W.exmOne at h
  split at h
  · exact h
  · cases h
theorem kit_yes {t : Value} {C : Addr} (h : PySem.W.exmOne K t (.ref C) = some true) : PySem.W.kitOne K t (.ref C) = some true := by
  unfold PySem.W.kitOne
  split
  · rfl
  · exact exm_kit h
theorem kit_no {C : Addr} (h : PySem.W.exmOne K (.ref D) (.ref D) = some true) (h2 : PySem.W.exmOne K (.ref D) (.ref C) = some false) : PySem.W.kitOne K (.ref D) (.ref C) = some false := by
  unfold PySem.W.kitOne
  split
  · rename_i e
    have : D = C := Value.ref.inj (beq_iff_eq.mp e)
    subst this
    rw [h] at h2
    cases h2
  · exact exm_kit h2
theorem kit_ty' {T : String} (h : PySem.W.subIn K (.ref D) (.type T) = some b) (m : PySem.W.kitMeta T = true) : PySem.W.kitOne K (.ref D) (.type T) = some b := by
  unfold PySem.W.kitOne
  rw [if_neg (by intro e; cases beq_iff_eq.mp e)]
  unfold PySem.W.kitCls
  dsimp only
  rw [if_pos m]
  exact h
theorem meta_ve : PySem.W.kitMeta "ValueError" = true := by decide +kernel
theorem isx_mk {h : Heap} (X : K.In h) {x : Str} {C : Addr} (aC : PySem.W.nsIn K mainGlobals x = some (some (.ref C))) (ga : PySem.W.findIn K (.ref C) "__getattribute__" = some (some (.builtin "BaseException.__getattribute__")))
    (gg : PySem.W.findIn K (.ref C) "__getattr__" = some none) (exC : PySem.W.subIn K (.ref C) (.type "BaseException") = some true) (hdC : PySem.W.hasDictIn K C = true) (ha : PySem.W.findIn K (.ref C) "__class__" = some (some (.builtin "object.__class__")))
    (hn : PySem.W.specialIn K (.builtin "object.__class__") "__get__" = some (some (.builtin "getset_descriptor.__get__"))) (ht : PySem.W.takesIn K (.builtin "object.__class__") = some true)
    (hm : PySem.W.mroIn K C (.type "object") = some true) : IsxC (L2.KOf X) (clsA (L2.KOf X) x) := by
  show IsxC K (clsA K x)
  rw [clsA_of aC]
  exact ⟨⟨ga, gg, exC, hdC⟩, ha, hn, ht, hm⟩
theorem sve_mk {h : Heap} (X : K.In h) {x : Str} {C : Addr} (aC : PySem.W.nsIn K mainGlobals x = some (some (.ref C))) (hs : PySem.W.subIn K (.ref C) (.type "ValueError") = some true) : PySem.W.subIn (L2.KOf X) (.ref (clsA (L2.KOf X) x)) (.type "ValueError") = some true := by
  show PySem.W.subIn K (.ref (clsA K x)) (.type "ValueError") = some true
  rw [clsA_of aC]
  exact hs
end
end TR

/-! several except clauses, with names or without -/
namespace TR
open PySem L2 PySem.Spec PyProof.Rows
noncomputable abbrev Cl : Type := Value × Option Nat × (Addr → Value → Option Addr → TS)
/-- what the clauses wish of an exception of the body, one behind the other -/
noncomputable def wCl (K : PySem.W.Frag) (Wout : WX) (D : Ends) : List Cl → WX
  | [] => Wout
  | (c, some i, ts) :: r => wAs K c i ts (wCl K Wout D r) D
  | (c, none, ts) :: r => wMany K (wCl K Wout D r) D [(c, ts)]
inductive ClOk (X : Cx) : ExceptHandler → Cl → Prop
  | plain {x : Str} {c : Value} {ts : Addr → Value → Option Addr → TS} {s₀ : Stmt} {ss : List Stmt} {np p : Pos} (hc : Names X x c)
      (hs : ∀ (a : Addr) (oe : Obj) (cls : Value) (d : Option Addr) (pn : List (Addr × Obj)), Zc cls d oe → (∃ vs, oe.data = .fields vs) → PSs (X.suite a ((a, oe) :: pn)) (s₀ :: ss) (ts a cls d)) :
      ClOk X (.ExceptHandler (some (.Name x np)) none (s₀ :: ss) p) (c, none, ts)
  | named {x n : Str} {c : Value} {i : Nat} {ts : Addr → Value → Option Addr → TS} {s₀ : Stmt} {ss : List Stmt} {np p : Pos} (hc : Names X x c) (hi : X.N[i]? = some n) (hl : X.env.kindOf n = some .local)
      (hs : ∀ (a : Addr) (oe : Obj) (cls : Value) (d : Option Addr) (pn : List (Addr × Obj)), Zc cls d oe → (∃ vs, oe.data = .fields vs) → PSs (X.suite a ((a, oe) :: pn)) (s₀ :: ss) (ts a cls d)) :
      ClOk X (.ExceptHandler (some (.Name x np)) (some n) (s₀ :: ss) p) (c, some i, ts)
inductive ClsOk (X : Cx) : List ExceptHandler → List Cl → Prop
  | nil : ClsOk X [] []
  | cons {h : ExceptHandler} {l : Cl} {hs : List ExceptHandler} {ls : List Cl} (a : ClOk X h l) (r : ClsOk X hs ls) : ClsOk X (h :: hs) (l :: ls)
section
variable {X : Cx} {body : List Stmt} {h0 : ExceptHandler} {hs0 : List ExceptHandler} {ls0 : List Cl} {pos : Pos} {tb : WX → TS} {Wout : WX}
end
end TR

/-! an exception that a suite holds, handed to a def: isinstance and fields there -/
namespace TR
open PySem L2 PySem.Spec PyProof.Rows
/-- the promise of a def that is handed the exception: where it is, its class, its dict -/
noncomputable abbrev SpV := Addr → Value → Option Addr → Hp → VK → Prop
structure FnV (P : Program) (w : World) (K : PySem.W.Frag) (mg : Str → Option Value) (base : Heap) (k : Nat) (f : Addr) (fd : FuncData) (y : Str) (sp : SpV) : Prop where
  run : ∀ (A : Around) (outer : List Env) (s : Shared) (H : Hp) (args : Args) (p : Addr × Obj) (cls : Value) (d : Option Addr) (Q : VK), L2H.RoomH k A → L2H.PinOk outer H s p → Zc cls d p.2 → (∃ vs, p.2.data = .fields vs) → Env0 P w K mg base A outer s H → BindsTo s fd args [(y, .ref p.1)] → sp p.1 cls d H Q →
    codeAny (model P w) A (.call (.ref f) args) (CR CX0 outer P w H s Q E0) s
noncomputable def HasV (P : Program) (w : World) (K : PySem.W.Frag) (mg : Str → Option Value) (base : Heap) (x : Str) (k : Nat) (sp : SpV) : Prop :=
  ∃ f fd y, FnV P w K mg base k f fd y sp ∧ mg x = some (.ref f) ∧ PySem.W.keepIn K (.ref f) = true ∧ Binds K fd [y] []
section
variable {P : Program} {w : World} {K : PySem.W.Frag} {mg : Str → Option Value} {base : Heap}
theorem has_ofV {x y : Str} {st : Stmt} {N : List Str} {k : Nat} {sp : SpV} (F : FunAt K mg x st [y]) (S : FnScope N [y] (defScope st))
    (hbody : ∀ (f : Addr) (cdv : Value) (A : Around) (outer : List Env) (s : Shared) (H : Hp) (Q : VK) (a : Addr) (oe : Obj) (cls : Value) (d : Option Addr), L2H.RoomH k (A.deeper (envOfC x (defScope st) s.heap.objs.size f cdv)) → Zc cls d oe → (∃ vs, oe.data = .fields vs) → sp a cls d H Q →
      ∃ t, PSs (L2H.cxH CX0 P w K mg base N x (defScope st) f cdv A outer s H E0 (a, oe)) (defBody st) t ∧ t { nx := fun _ H' => Q .non H', rt := Q } (start N [.ref a]) H) : HasV P w K mg base x (k + 1) sp := by
  obtain ⟨f, fd, F, hm, hb⟩ := F
  have kp := F.kp
  obtain ⟨oc, od, kV, doc, pm, an, cdv, ct, osl, rfl, lk, hcd⟩ := F.ex
  refine ⟨f, _, y, ⟨fun A outer s H args p cls d Q hr hpin hz hf e0 hbt hsp => ?_⟩, hm, kp, hb⟩
  have KX : K.In s.heap := e0.mod.kin.keeps fun b o e => (e0.bs b o e).1
  have lim : s.heap.NoLimit := e0.mod.nolimit.keeps fun b o e => (e0.bs b o e).1
  have hkind : ∀ z ∈ ([y] : List Str).zip [Value.ref p.1], (defScope st).names.lookup z.1 = some .local ∨ ((defScope st).names.lookup z.1 = some .cell ∧ ((cellsFrom (s.heap.objs.size + 1) (defScope st).names []).lookup z.1).isSome = true) := fun ⟨n, v⟩ hy => by
    rcases S.par n (List.of_mem_zip hy).1 with q | q
    · exact .inl q
    · exact .inr ⟨q, PySem.W.cellsFrom_some _ _ _ (.inl q)⟩
  refine codeAny_call_function hr.depth (KX _ _ lk) rfl S.co S.gen rfl (PySem.W.codeRec_of KX hcd) (hbt _ _ _ _ ?_)
  refine wpAny_newFunctionEnv_cells S.kind hkind fun env he s1 x1 => ?_
  subst he
  refine ⟨lim.keeps x1.toInCall.keep, codeAny_func ?_⟩
  obtain ⟨t, ht, hq⟩ := hbody f cdv A outer s H Q p.1 p.2 cls d (hr.deeper _) hz hf hsp
  have I : Inv (L2H.cxH CX0 P w K mg base N x (defScope st) f cdv A outer s H E0 p) [] (L2.start N [.ref p.1]) H s1 := L2H.inv_startH (us := [Value.ref p.1]) S hpin e0 rfl (.cons rfl .nil) x1
  refine wpAny_mono (ht.run [] s1 (L2.start N [.ref p.1]) H _ I hq) (fun fl s' hs => ?_) fun e s' hs => hs
  have fin : ∀ {σ' : L2.St} {H' : Hp} {v : V} {u : Value}, Inv (L2H.cxH CX0 P w K mg base N x (defScope st) f cdv A outer s H E0 p) [] σ' H' s' → RelV v u → Q v H' → CE outer P w H s Q u s' :=
    fun {σ' H' v u} J rv q => ⟨v, H', J.os, J.bare, J.base, J.hok, rv, q⟩
  cases fl with
  | ret u =>
    obtain ⟨v, σ', H', J, rv, q⟩ := hs
    exact fin J rv q
  | next =>
    obtain ⟨σ', H', J, q⟩ := hs
    exact fin (v := V.non) (u := Value.none) J rfl q
  | brk =>
    obtain ⟨_, _, _, q⟩ := hs
    exact False.elim q
  | cont =>
    obtain ⟨_, _, _, q⟩ := hs
    exact False.elim q
end
/-- f(e) within the suite -/
noncomputable def tCallSx (sp : SpV) (a : Addr) (cls : Value) (d : Option Addr) (te : TE) : TE := fun σ H Q => te σ H fun x H1 => x = .ref a ∧ sp a cls d H1 Q
section
variable {X : Cx} {a : Addr} {oe : Obj} {cls : Value} {d : Option Addr} {pn : List (Addr × Obj)}
theorem pe_callSx {k k' : Nat} {sp : SpV} {x : Str} {p pos : Pos} {e : Expr} {te : TE} (hz : Zc cls d oe) (hf : ∃ vs, oe.data = .fields vs)
    (h : HasV X.prog X.w X.K X.mg X.base x k sp) (hr : Room k' X.A) (hk : k ≤ k') (hg : Gl X x) (he : PE (X.suite a ((a, oe) :: pn)) e te) (hdb : (x == ("__debug__" : Str)) = false := by decide)
    (hst : starEach [e] X.env = (false, eval e X.env) :: starEach [] X.env := by rfl) (hpl : (backTo pos (starEach [] X.env)).any (·.1) = false := by rfl) : PE (X.suite a ((a, oe) :: pn)) (.Call (.Name x p) [e] [] pos) (tCallSx sp a cls d te) := by
  obtain ⟨f, fd, y, F, hm, kp, hb⟩ := h
  refine ⟨fun pins s σ H Q I h => ?_⟩
  refine wpAny_Call_Name_kw (ld_glob (X := X.suite a ((a, oe) :: pn)) I hg hm ?_ hdb)
  have ha : PA (X.suite a ((a, oe) :: pn)) [e] (tCons te tNil) := pa_cons he pa_nil hst
  refine PySem.W.callWith_K (h₀ := X.base) I.ok.mod.kin kp (thn (ha.run pos pins s σ H (fun vs H1 => ∃ y, vs = [y] ∧ y = .ref a ∧ sp a cls d H1 Q) I (by
    show te σ H fun x H1 => tNil σ H1 fun xs H2 => _
    have e' : (fun (x : V) (H1 : Hp) => tNil σ H1 fun xs H2 => ∃ y, x :: xs = [y] ∧ y = V.ref a ∧ sp a cls d H2 Q) = fun x H1 => x = .ref a ∧ sp a cls d H1 Q := by
      funext y H1
      exact propext ⟨fun ⟨y', e1, e2, e3⟩ => by cases e1; exact ⟨e2, e3⟩, fun ⟨e2, e3⟩ => ⟨y, rfl, e2, e3⟩⟩
    rw [e']
    exact h)) fun us s1 ⟨vs, H1, I1, r, y, e1, e2, q⟩ => ⟨I1.kIn, ?_⟩) hst hpl
  subst e1
  subst e2
  obtain ⟨u, rfl⟩ : ∃ u, us = [u] := by
    cases r with
    | cons _ t => cases t; exact ⟨_, rfl⟩
  obtain rfl : u = Value.ref a := by
    cases r with
    | cons r1 _ => exact r1
  have P1 := I1.pin (a, oe) (List.mem_append_left _ List.mem_cons_self)
  have hpin : L2H.PinOk (X.suite a ((a, oe) :: pn)).stack H1 s1 (a, oe) := ⟨P1.1, P1.2.1, fun hm => (List.mem_cons.mp (I1.stkSub a hm)).elim P1.2.2.1 P1.2.2.2.1, P1.2.2.2.2⟩
  have b := hb s1 [Value.ref a] I1.kIn (by rfl)
  have hrH : L2H.RoomH k (X.suite a ((a, oe) :: pn)).A := ⟨(hr.mono hk).dp, (hr.mono hk).un⟩
  refine wpAny_call (codeAny_mono (F.run _ (X.suite a ((a, oe) :: pn)).stack s1 H1 ⟨[Value.ref a], []⟩ (a, oe) cls d Q hrH hpin hz hf I1.env0 b q) fun r' s' hq => ?_)
  cases r' with
  | error e => exact (pass0 (X := X.suite a ((a, oe) :: pn))) pins σ H1 s1 e s' I1 hq
  | ok fl =>
    cases fl with
    | ret v => exact I1.after hq
    | next => exact False.elim hq
    | brk => exact False.elim hq
    | cont => exact False.elim hq
end
/-- isinstance(e, C) | isinstance(e, (C1, ..)) of the exception that stands in the pins -/
noncomputable def rIsV (K : PySem.W.Frag) (a : Addr) (cls : Value) (d : Option Addr) : List V → Hp → VK → Prop := fun xs H Q => ∃ (D : Addr) (c : V) (u : Value) (b : Bool), xs = [.ref a, c] ∧ cls = .ref D ∧ IsxC K D ∧ (∀ dd, d = some dd → ∃ fs, H dd = some (.xd fs)) ∧ ClsV c u ∧ PySem.W.kitOne K (.ref D) u = some b ∧ Q (.bl b) H
noncomputable def rIsVT (K : PySem.W.Frag) (a : Addr) (cls : Value) (d : Option Addr) : List V → Hp → VK → Prop := fun xs H Q => ∃ (D tp : Addr) (cs : List V) (us : List Value) (b : Bool), xs = [.ref a, .ref tp] ∧ cls = .ref D ∧ IsxC K D ∧ (∀ dd, d = some dd → ∃ fs, H dd = some (.xd fs)) ∧ H tp = some (.tup cs) ∧ Paired ClsV cs us ∧ PySem.W.kitAny K (.ref D) us = some b ∧ Q (.bl b) H
section
variable {X : Cx} {K : PySem.W.Frag} {a : Addr} {oe : Obj} {cls : Value} {d : Option Addr}
theorem excV_inst {D : Addr} {pins : List (Addr × Obj)} {σ : L2.St} {H : Hp} {s : Shared} (I : Inv X pins σ H s) (hp : X.pn = [(a, oe)]) (hz : Zc (.ref D) d oe) (hf : ∃ vs, oe.data = .fields vs) (hx : ∀ dd, d = some dd → ∃ fs, H dd = some (.xd fs)) : ∃ od, PySem.W.InstAt s.heap a oe D od := by
  obtain ⟨ha, _⟩ := I.pin (a, oe) (List.mem_append_left _ (by rw [hp]; exact List.mem_cons_self))
  obtain ⟨vs, hd⟩ := hf
  cases d with
  | none => exact ⟨none, ha, hz.1, by unfold PySem.W.notCls; rw [hd] <;> rfl, by rw [hz.2]; trivial⟩
  | some dd =>
    obtain ⟨fs, hx⟩ := hx dd rfl
    have hx : ObjOk X.prog X.w H s.heap dd (.xd fs) := I.hok dd _ hx
    obtain ⟨mA, hns, hr⟩ := hx
    obtain ⟨od, ho, hl⟩ := lookIn_ns hns
    exact ⟨some od, ha, hz.1, by unfold PySem.W.notCls; rw [hd] <;> rfl, by rw [hz.2]; exact ho⟩
theorem isVA (hk : X.K = K) (hp : X.pn = [(a, oe)]) (hz : Zc cls d oe) (hf : ∃ vs, oe.data = .fields vs) : CallR X (.builtin "isinstance") (rIsV K a cls d) := by
  subst hk
  intro pins s σ H xs us Q I r h
  obtain ⟨D, c, u, b, rfl, rfl, C, hx, k, e, q⟩ := h
  obtain ⟨u1, u2, rfl, r1, r2⟩ := vals2 r
  cases (show u1 = Value.ref a from r1)
  have e2 := k.eq r2
  subst e2
  obtain ⟨od, J⟩ := excV_inst I hp hz hf hx
  exact PySem.W.kia_one (isx_kit C) I.kIn J e (fun z => nomatch z) fun tk => ⟨.bl b, H, I.tok tk, rfl, q⟩
/-- e.f of it -/
noncomputable def tXfV (K : PySem.W.Frag) (a : Addr) (cls : Value) (d : Option Addr) (f : Str) (te : TE) : TE := fun σ H Q => te σ H fun x H1 => ∃ (C dd : Addr) (fs : List (Str × V)) (v : V), x = .ref a ∧ cls = .ref C ∧ d = some dd ∧ XfC K C ∧ PySem.W.findIn K (.ref C) f = some none ∧ H1 dd = some (.xd fs) ∧ fs.lookup f = some v ∧ Q v H1
end
section
variable {K : PySem.W.Frag} {H : Hp} {Q : VK} {a D tp C dd : Addr} {d : Option Addr} {b : Bool} {cls : Value}
theorem s_isV {c : V} {u : Value} (C : IsxC K D) (hx : ∀ dd, d = some dd → ∃ fs, H dd = some (.xd fs)) (k : ClsV c u) (e : PySem.W.kitOne K (.ref D) u = some b) (q : Q (.bl b) H) : rIsV K a (.ref D) d [.ref a, c] H Q := ⟨D, c, u, b, rfl, rfl, C, hx, k, e, q⟩
/-- the field of an exception that stands in the pins -/
noncomputable def XfVP (K : PySem.W.Frag) (a : Addr) (cls : Value) (d : Option Addr) (f : Str) (x : V) (H1 : Hp) (Q : VK) : Prop := ∃ (C dd : Addr) (fs : List (Str × V)) (v : V), x = .ref a ∧ cls = .ref C ∧ d = some dd ∧ XfC K C ∧ PySem.W.findIn K (.ref C) f = some none ∧ H1 dd = some (.xd fs) ∧ fs.lookup f = some v ∧ Q v H1
/-! the suite's exception handed on -/
noncomputable def SxP (sp : SpV) (a : Addr) (cls : Value) (d : Option Addr) (x : V) (H1 : Hp) (Q : VK) : Prop := x = .ref a ∧ sp a cls d H1 Q
theorem s_Sx {sp : SpV} {te : TE} {σ : L2.St} (q : te σ H fun x H1 => SxP sp a cls d x H1 Q) : tCallSx sp a cls d te σ H Q := q
theorem n_Sx {sp : SpV} (q : sp a cls d H Q) : SxP sp a cls d (.ref a) H Q := ⟨rfl, q⟩
end
end TR

/-! own exceptions as values: made, asked by isinstance, their fields read -/
namespace TR
open PySem L2 PySem.Spec PyProof.Rows
theorem upd_three {H : Hp} {a d : Addr} {o1 o2 o3 : HO} (h : d ≠ a) : upd (upd (upd H a o1) d o2) a o3 = upd (upd H d o2) a o3 := by
  funext b
  by_cases c : b = a
  · rw [c, upd_same, upd_same]
  · rw [upd_ne c, upd_ne c]
    by_cases c2 : b = d
    · rw [c2, upd_same, upd_same]
    · rw [upd_ne c2, upd_ne c2, upd_ne c]
/-- C(e), C an own exception class with an __init__ that lays one field -/
noncomputable def tMkV (C : Addr) (f : Str) (t : TA) : TE := fun σ H Q => t σ H fun vs H1 => ∃ v, vs = [v] ∧ ∀ a d, H1 a = none → H1 d = none → d ≠ a → Q (.ref a) (upd (upd H1 d (exd d [(f, v)])) a (exo a C (some d)))
/-- C(), C without an __init__ of its own -/
noncomputable def tMkV0 (C : Addr) : TE := fun _ H Q => ∀ a, H a = none → Q (.ref a) (upd H a (exo a C none))
section
variable {X : Cx} {K : PySem.W.Frag} {k k' : Nat} {x f : Str} {p pos : Pos} {e : Expr} {t : TA}
theorem pe_mkV (hk : X.K = K) (h : HasE X.prog X.w K X.mg X.base x f k) (hl : k ≤ k') (hr : Room (k' + 1) X.A) (hg : Gl X x) (ha : PA X [e] t) (hdb : (x == ("__debug__" : Str)) = false := by decide)
    (he : starEach [e] X.env = (false, eval e X.env) :: starEach [] X.env := by rfl) (hpl : (backTo pos (starEach [] X.env)).any (·.1) = false := by rfl) : PE X (.Call (.Name x p) [e] [] pos) (tMkV (clsA K x) f t) := by
  subst hk
  obtain ⟨fI, fd, ps, F1, T, iC, tI, hb⟩ := h
  refine ⟨fun pins s σ H Q I h => ?_⟩
  obtain ⟨nm, q, N, bs, bm, sn, sub, ab, col, dd, k0, k1, k2, k3, k5, hC, hbm⟩ := T.o.cls
  refine wpAny_Call_Name_kw (ld_glob I hg T.g ?_ hdb)
  refine PySem.W.callWith_K (h₀ := X.base) I.ok.mod.kin T.o.kC (thn (ha.run pos pins s σ H _ I h) fun us s1 ⟨vs, H1, I1, r1, v, ev, q1⟩ => ⟨I1.kIn, ?_⟩) he hpl
  subst ev
  show wpAny _ _ (call (.ref (clsA X.K x)) us) _ _ _
  obtain ⟨hp, g, dr, tk, os⟩ := s1
  have hsz : hp.objs.size ≤ hp.objs.size + 1 := Nat.le_succ _
  have hn : H1 (hp.objs.size + 1) = none := I1.hok.fresh hsz
  have kk : ∀ b o, hp.get? b = some o → ((hp.push (PySem.W.kdv_tup us)).push (PySem.HandSPX.excO (clsA X.K x) hp.objs.size)).get? b = some o := fun b o e => Heap.get?_push_of_some _ (Heap.get?_push_of_some _ e)
  have hget : ((hp.push (PySem.W.kdv_tup us)).push (PySem.HandSPX.excO (clsA X.K x) hp.objs.size)).get? (hp.objs.size + 1) = some (PySem.HandSPX.excO (clsA X.K x) hp.objs.size) := by heap_get
  have I2 : Inv X pins σ (upd H1 (hp.objs.size + 1) (exo (hp.objs.size + 1) (clsA X.K x) none)) ⟨(hp.push (PySem.W.kdv_tup us)).push (PySem.HandSPX.excO (clsA X.K x) hp.objs.size), g, dr, tk, os⟩ :=
    I1.laid (t' := tk) (a := hp.objs.size + 1) (o := exo (hp.objs.size + 1) (clsA X.K x) none) (h' := (hp.push (PySem.W.kdv_tup us)).push (PySem.HandSPX.excO (clsA X.K x) hp.objs.size)) kk hsz (exo_ok hget)
  have r2 : Vals (V.ref (hp.objs.size + 1) :: [v]) (Value.ref (hp.objs.size + 1) :: us) := .cons rfl r1
  have hq : spInit f X.K (V.ref (hp.objs.size + 1) :: [v]) (upd H1 (hp.objs.size + 1) (exo (hp.objs.size + 1) (clsA X.K x) none)) (fun w H2 => w = .non ∧ Q (.ref (hp.objs.size + 1)) H2) E0 :=
    ⟨_, clsA X.K x, v, rfl, T.o, T.n, upd_same, fun d hd hda => ⟨rfl, by
      rw [upd_three hda]
      exact q1 _ d hn (by rw [upd_ne hda] at hd; exact hd) hda⟩⟩
  have hl2 : (Value.ref (hp.objs.size + 1) :: us).length = ps.length := by
    have e := r2.length
    rw [F1.len _ _ _ _ hq] at e
    exact e.symm
  have hus : us.length ≤ sizeLine := by
    rw [← Paired.length r1, sizeLine_eq]
    show 1 ≤ _
    decide
  have b := hb _ (Value.ref (hp.objs.size + 1) :: us) I2.kIn (by rw [List.append_nil]; exact hl2)
  rw [List.append_nil] at b
  refine wpAny_call (PySem.HandSPX.call_own PySem.F.excBase_ValueError (fun Y => PySem.HandSPX.refsVE_contains Y bm hbm) (I1.kIn _ _ hC) (PySem.W.looks_findIn I1.kIn iC) (fun self => PySem.W.bind_fn I1.kIn self tI) hus
    (codeAny_mono (F1.run _ X.stack _ _ ⟨Value.ref (hp.objs.size + 1) :: us, []⟩ (Value.ref (hp.objs.size + 1) :: us) _ _ E0 ((hr.mono (Nat.succ_le_succ hl)).make (clsA X.K x) us []) (I2.env0.make (clsA X.K x) us []) b r2 hq) fun r s' hq' => ?_))
  cases r with
  | error er => exact pass0 pins σ _ _ er s' I2 hq'
  | ok fl =>
    cases fl with
    | ret u =>
      obtain ⟨w, H', I3, rv, ev, q3⟩ := I2.after hq'
      subst ev
      exact ⟨rv, ⟨V.ref (hp.objs.size + 1), H', I3, rfl, q3⟩⟩
    | next => exact False.elim hq'
    | brk => exact False.elim hq'
    | cont => exact False.elim hq'
theorem pe_mkV0 (hk : X.K = K) (B : ExB K X.mg x) (hg : Gl X x) (hdb : (x == ("__debug__" : Str)) = false := by decide) : PE X (.Call (.Name x p) [] [] pos) (tMkV0 (clsA K x)) := by
  subst hk
  refine ⟨fun pins s σ H Q I h => ?_⟩
  refine wpAny_Call_Name_kw (ld_glob I hg B.g ?_ hdb)
  refine PySem.W.callWith_K0 I.kIn B.kC ?_
  show wpAny _ _ (call (.ref (clsA X.K x)) []) _ _ _
  obtain ⟨bm, N, nm, qn, bs, hdct, sn, sub, ab, col, dd, k0, k1, k2, k3, k5, mN, hC, hN, hni, T⟩ := exc_obj I.kIn B.q
  refine wpAny_call_exc_subT PySem.F.excBase_ValueError T hC hN hni (fun h' a hm => ?_) (by show 0 ≤ sizeLine; rw [sizeLine_eq]; omega)
  have hn : H a = none := I.hok.gone hm.new
  obtain ⟨t, ht, _, _⟩ := hm.there
  exact ⟨.ref a, upd H a (exo a (clsA X.K x) none), I.laidN hm.keeps hm.new hn (exo_ok ht), rfl, h a hn⟩
end
/-- isinstance(x, C), x an own exception that stands -/
noncomputable def rIsE (K : PySem.W.Frag) : List V → Hp → VK → Prop := fun xs H Q => ∃ (a D : Addr) (d : Option Addr) (c : V) (u : Value) (b : Bool), xs = [.ref a, c] ∧ H a = some (exo a D d) ∧ (∀ dd, d = some dd → ∃ fs, H dd = some (exd dd fs)) ∧ IsxC K D ∧ ClsV c u ∧ PySem.W.kitOne K (.ref D) u = some b ∧ Q (.bl b) H
/-- x.f of it -/
noncomputable def tXe (K : PySem.W.Frag) (f : Str) (te : TE) : TE := fun σ H Q => te σ H fun x H1 => ∃ (a C dd : Addr) (fs : List (Str × V)) (v : V), x = .ref a ∧ H1 a = some (exo a C (some dd)) ∧ H1 dd = some (exd dd fs) ∧ XfC K C ∧ PySem.W.findIn K (.ref C) f = some none ∧ fs.lookup f = some v ∧ Q v H1
section
variable {X : Cx} {K : PySem.W.Frag}
theorem exo_inst {D a : Addr} {d : Option Addr} {pins : List (Addr × Obj)} {σ : L2.St} {H : Hp} {s : Shared} (I : Inv X pins σ H s) (h : H a = some (exo a D d)) (hx : ∀ dd, d = some dd → ∃ fs, H dd = some (exd dd fs)) : ∃ oe od, PySem.W.InstAt s.heap a oe D od := by
  obtain ⟨t1, ha⟩ := exo_at I.hok h
  cases d with
  | none => exact ⟨_, none, ha, rfl, rfl, trivial⟩
  | some dd =>
    obtain ⟨fs, hd⟩ := hx dd rfl
    obtain ⟨mA, hns, rel⟩ := exd_at I.hok hd
    obtain ⟨od, ho, hl⟩ := lookIn_ns hns
    exact ⟨_, some od, ha, rfl, rfl, ho⟩
theorem isEA (hk : X.K = K) : CallR X (.builtin "isinstance") (rIsE K) := by
  subst hk
  intro pins s σ H xs us Q I r h
  obtain ⟨a, D, d, c, u, b, rfl, h, hx, C, k, e, q⟩ := h
  obtain ⟨u1, u2, rfl, r1, r2⟩ := vals2 r
  cases (show u1 = Value.ref a from r1)
  have e2 := k.eq r2
  subst e2
  obtain ⟨oe, od, J⟩ := exo_inst I h hx
  exact PySem.W.kia_one (isx_kit C) I.kIn J e (fun z => nomatch z) fun tk => ⟨.bl b, H, I.tok tk, rfl, q⟩
theorem pe_xe {e : Expr} {te : TE} {pos : Pos} {n : Str} (hk : X.K = K) (he : PE X e te) (hb : attributeBase e n X.env (eval e X.env) = eval e X.env := by rfl) : PE X (.Attribute e n pos) (tXe K n te) := by
  subst hk
  refine ⟨fun pins s σ H Q I h => ?_⟩
  refine attr_of hb (thn (he.run pins s σ H _ I h) fun u s1 hh => ?_)
  obtain ⟨x, H1, I1, rx, a, C, dd, fs, v, ex, h1, h2, T, hno, l, q⟩ := hh
  subst ex
  obtain rfl : u = Value.ref a := rx
  obtain ⟨t1, ha⟩ := exo_at I1.hok h1
  obtain ⟨mA, hns, hr⟩ := exd_at I1.hok h2
  obtain ⟨od, ho, hl⟩ := lookIn_ns hns
  obtain ⟨u, hu, ru⟩ := RelO.some_of (v := v) (o := mA n) (by rw [← l]; exact hr n)
  have J : PySem.W.InstAt s1.heap a _ C (some od) := ⟨ha, rfl, rfl, ho⟩
  exact HandSPX.exc_get I1.kIn J T.ga T.gg T.exC (PySem.W.findObj_own T.hdC hno rfl (by rw [hl, hu])) (handed_of ru) ⟨v, H1, I1.tok _, ru, q⟩
end
/-- an exception that stands: its class, its field and what it bears (none: no field) -/
noncomputable def ExV (Z : Hp) (a C : Addr) : Option (Str × V) → Prop
  | none => Z a = some (exo a C none)
  | some (f, v) => ∃ d, Z a = some (exo a C (some d)) ∧ Z d = some (exd d [(f, v)])
theorem ExV.ex {Z Z' : Hp} {a C : Addr} {o : Option (Str × V)} (e : Ex Z Z') (h : ExV Z a C o) : ExV Z' a C o := by
  cases o with
  | none => exact e _ _ h
  | some p =>
    obtain ⟨d, h1, h2⟩ := h
    exact ⟨d, e _ _ h1, e _ _ h2⟩
section
variable {K : PySem.W.Frag} {Z H : Hp} {Q : VK} {a C : Addr} {f : Str} {v : V} {σ : L2.St} {t : TA} {te : TE}
theorem ExV.any {o : Option (Str × V)} (h : ExV Z a C o) : ∃ d, Z a = some (exo a C d) ∧ ∀ dd, d = some dd → ∃ fs, Z dd = some (exd dd fs) := by
  cases o with
  | none => exact ⟨none, h, fun _ z => nomatch z⟩
  | some p =>
    obtain ⟨d, h1, h2⟩ := h
    exact ⟨some d, h1, fun dd z => by cases z; exact ⟨_, h2⟩⟩
theorem s_isE {o : Option (Str × V)} {c : V} {u : Value} {b : Bool} (h : ExV Z a C o) (z : Ex Z H) (x : IsxC K C) (k : ClsV c u) (e : PySem.W.kitOne K (.ref C) u = some b) (q : Q (.bl b) H) : rIsE K [.ref a, c] H Q := by
  obtain ⟨d, h1, h2⟩ := (h.ex z).any
  exact ⟨a, C, d, c, u, b, rfl, h1, h2, x, k, e, q⟩
noncomputable def MkVP (C : Addr) (f : Str) (vs : List V) (H1 : Hp) (Q : VK) : Prop := ∃ v, vs = [v] ∧ ∀ a d, H1 a = none → H1 d = none → d ≠ a → Q (.ref a) (upd (upd H1 d (exd d [(f, v)])) a (exo a C (some d)))
theorem s_mkV (q : t σ H fun vs H1 => MkVP C f vs H1 Q) : tMkV C f t σ H Q := q
theorem t_mkV (z : Ex Z H) (q : ∀ a Z' H', H a = none → T [] Z H Z' H' → ExV Z' a C (some (f, v)) → Q (.ref a) H') : MkVP C f [v] H Q := by
  refine ⟨v, rfl, fun a d ha hd ne => ?_⟩
  have t1 : T [] Z H (upd Z d (exd d [(f, v)])) (upd H d (exd d [(f, v)])) := T.new hd z
  have t2 : T [] (upd Z d (exd d [(f, v)])) (upd H d (exd d [(f, v)])) (upd (upd Z d (exd d [(f, v)])) a (exo a C (some d))) (upd (upd H d (exd d [(f, v)])) a (exo a C (some d))) := T.new (by rw [upd_ne (Ne.symm ne)]; exact ha) t1.zh
  exact q a _ _ ha (t1.step t2 (fun _ h => absurd h List.not_mem_nil)) ⟨d, upd_same, by rw [upd_ne ne, upd_same]⟩
theorem t_mkV0 (z : Ex Z H) (q : ∀ a Z' H', H a = none → T [] Z H Z' H' → ExV Z' a C none → Q (.ref a) H') : tMkV0 C σ H Q := fun a ha => q a _ _ ha (T.new ha z) upd_same
noncomputable def XeP (K : PySem.W.Frag) (f : Str) (x : V) (H1 : Hp) (Q : VK) : Prop := ∃ (a C dd : Addr) (fs : List (Str × V)) (v : V), x = .ref a ∧ H1 a = some (exo a C (some dd)) ∧ H1 dd = some (exd dd fs) ∧ XfC K C ∧ PySem.W.findIn K (.ref C) f = some none ∧ fs.lookup f = some v ∧ Q v H1
theorem s_xe (q : te σ H fun x H1 => XeP K f x H1 Q) : tXe K f te σ H Q := q
theorem n_xe (h : ExV Z a C (some (f, v))) (z : Ex Z H) (x : XfC K C) (n : PySem.W.findIn K (.ref C) f = some none) (q : Q v H) : XeP K f (.ref a) H Q := by
  obtain ⟨d, h1, h2⟩ := h.ex z
  exact ⟨a, C, d, _, v, rfl, h1, h2, x, n, by simp [List.lookup], q⟩
end
end TR

/-! where nothing is handled yet: exceptions whose context is None; a comprehension within an except suite -/
namespace TR
open PySem L2 PySem.Spec PyProof.Rows
inductive ClOkN (X : Cx) : ExceptHandler → Cl → Prop
  | plain {x : Str} {c : Value} {ts : Addr → Value → Option Addr → TS} {s₀ : Stmt} {ss : List Stmt} {np p : Pos} (hc : Names X x c)
      (hs : ∀ (a : Addr) (oe : Obj) (cls : Value) (d : Option Addr) (pn : List (Addr × Obj)), L2N.Zn cls d oe → (∃ vs, oe.data = .fields vs) → PSs (X.suite a ((a, oe) :: pn)) (s₀ :: ss) (ts a cls d)) :
      ClOkN X (.ExceptHandler (some (.Name x np)) none (s₀ :: ss) p) (c, none, ts)
  | named {x n : Str} {c : Value} {i : Nat} {ts : Addr → Value → Option Addr → TS} {s₀ : Stmt} {ss : List Stmt} {np p : Pos} (hc : Names X x c) (hi : X.N[i]? = some n) (hl : X.env.kindOf n = some .local)
      (hs : ∀ (a : Addr) (oe : Obj) (cls : Value) (d : Option Addr) (pn : List (Addr × Obj)), L2N.Zn cls d oe → (∃ vs, oe.data = .fields vs) → PSs (X.suite a ((a, oe) :: pn)) (s₀ :: ss) (ts a cls d)) :
      ClOkN X (.ExceptHandler (some (.Name x np)) (some n) (s₀ :: ss) p) (c, some i, ts)
inductive ClsOkN (X : Cx) : List ExceptHandler → List Cl → Prop
  | nil : ClsOkN X [] []
  | cons {h : ExceptHandler} {l : Cl} {hs : List ExceptHandler} {ls : List Cl} (a : ClOkN X h l) (r : ClsOkN X hs ls) : ClsOkN X (h :: hs) (l :: ls)
section
variable {X : Cx} {body : List Stmt} {h0 : ExceptHandler} {hs0 : List ExceptHandler} {ls0 : List Cl} {pos : Pos} {tb : WX → TS} {Wout : WX}
theorem ps_try_clsN (st : X.stack = X.env :: X.outer) (fr : X.env.frame = some X.env.locals) (nd : X.N.Nodup) (tk : L2N.Takes X Wout)
    (hb : ∀ (W : WX) (pn : List (Addr × Obj)) (xe : Value → Shared → Prop), L2N.Takes (X.tr pn xe) W → PassesOwn (model X.prog X.w) X.A X.env xe → PSs (X.tr pn xe) body (tb W))
    (hh : ClsOkN X (h0 :: hs0) ls0) : PS X (.Try body (h0 :: hs0) [] [] pos) (fun D σ H => tb (wCl X.K Wout D ls0) D σ H) := by
  refine ⟨fun pins s σ H D I h => ?_⟩
  have ok := I.ok
  have fA : X.A.frames = some (X.env :: X.outer) := by rw [ok.frames, st]
  refine wpAny_Try_except ?_
  refine wpAny_mono ((hb (wCl X.K Wout D ls0) (X.pn ++ pins) (fun e s₁ => wpAny (model X.prog X.w) X.A (noteFrame e X.env) (fun _ s₂ => wpAny (model X.prog X.w) X.A (setFlight e none) (fun _ s₃ =>
    wpAny (model X.prog X.w) X.A (handleBy e X.env (h0 :: hs0)) (SP X pins D) X.xe s₃) X.xe s₂) X.xe s₁) (fun u s' xx => ?_) PassesOwn.looking).run [] s σ H D (I.toTry _) h) (fun f s1 q => ?_) (fun e s1 he => he)
  · obtain ⟨a, B, sI, pins', σ', H', cls, d, rfl, Jt, nb, up, sky, na, os, ag, w⟩ := xx
    have J := Jt.ofTry ok
    rw [st] at sky
    show wpAny (model X.prog X.w) X.A (noteFrame (.ref a) X.env) _ _ _
    refine L2N.Sky.land L2N.Zn.steady fA fr sky fun h3 fl3 up3 => ?_
    have J3 : Inv X pins σ' H' { s' with heap := h3 } := J.landed nb fl3.1 (up.trans up3) os ag
    obtain ⟨o3, v3, e3, z3, d3⟩ := fl3.there
    have out : a ∉ frs (X.env :: X.outer) := fun m => by
      obtain ⟨_, o', e', nf⟩ := fl3.2.2.1.mem m
      rw [e3] at e'; cases e'
      exact nf _ d3
    have nL : a ≠ X.env.locals := fun z => out (List.mem_filterMap.mpr ⟨X.env, List.mem_cons_self, by rw [fr, z]⟩)
    have nF : a ∉ X.fs := fun m => by
      obtain ⟨e, he, q⟩ := List.mem_filterMap.mp m
      exact out (List.mem_filterMap.mpr ⟨e, List.mem_cons_of_mem _ he, q⟩)
    have S3 := J3.suite e3 d3 na nL nF
    have look : PySem.W.Looks (model X.prog X.w) h3 (typeOf (.ref a)) cls := fun A Q E s k q => wpAny_typeOf_ref (k _ _ e3) (by rw [z3.1]; exact q)
    have name : ∀ {x : Str} {c : Value} {np : Pos} {Q E : Value → Shared → Prop}, Names X x c → Q c { s' with heap := h3 } → wpAny (model X.prog X.w) (X.A.mark (some (.ref a))) (eval (.Name x np) X.env) Q E { s' with heap := h3 } := fun {x c np Q E} hc q => by
      obtain ⟨g, gd, m | ⟨m, v, nn⟩⟩ := hc
      · exact ld_glob (X := X.suite a ((a, o3) :: (X.pn ++ pins))) S3 g m q gd
      · exact ld_blt (X := X.suite a ((a, o3) :: (X.pn ++ pins))) S3 g m v q nn gd
    have go : ∀ {hs : List ExceptHandler} {ls : List Cl}, ClsOkN X hs ls → wCl X.K Wout D ls cls d σ' H' → wpAny (model X.prog X.w) X.A (handleBy (.ref a) X.env hs) (SP X pins D) X.xe { s' with heap := h3 } := by
      intro hs ls hk
      induction hk with
      | nil =>
        intro w
        refine wpAny_handleBy_nil ?_
        obtain ⟨k1, k2, k3, oe, vs, T, oT, ts', he, hz, hd, h1, hr⟩ := id fl3
        unfold PySem.passOn
        refine wpAny_bind (wpAny_field he hd h1 ?_)
        rw [if_neg (show ¬ ((Value.ref T == Value.none) = true) from by simp)]
        have fin : wpAny (model X.prog X.w) X.A (setFlight (.ref a) X.env.frame) (fun _ s4 => wpAny (model X.prog X.w) X.A (throw (.ref a) : Sem Flow) (SP X pins D) X.xe s4) X.xe { s' with heap := h3 } := by
          rw [fr]
          refine HandSPX.setFlight_upZ fl3 fun h4 hh4 up4 => wpAny_throw (tk _ _ ?_)
          exact ⟨a, B, sI, pins, σ', H', cls, d, rfl, J, nb, (up.trans up3).trans up4, .inr (.inr (by rw [st]; exact hh4)), na, os, ag, w⟩
        first
          | exact wpAny_bind (wpAny_pure (wpAny_bind fin))
          | exact wpAny_bind fin
      | @cons h l hs2 ls2 hk1 r ih =>
        intro w
        cases hk1 with
        | @plain x c ts s₀ ss np p hc hsu =>
          obtain ⟨b, hb1, hyes, hno⟩ := w
          refine wpAny_handleBy_cons (codeAny_handlers_test ?_) (by intro q; cases q)
          refine name hc ((PySem.W.exm_one (M := model X.prog X.w) J3.kIn look hb1).here ?_)
          cases b with
          | true =>
            refine codeAny_handlers_suite ?_
            refine HandSPX.lands_againZ fl3 fun h4 fl4 up4 => ?_
            have J4 : Inv X pins σ' H' { s' with heap := h4 } := J.landed nb fl4.1 ((up.trans up3).trans up4) os ag
            obtain ⟨o4, v4, e4, z4, d4⟩ := fl4.there
            refine wpAny_mono ((hsu a o4 cls d (X.pn ++ pins) z4 ⟨_, d4⟩).run [] _ _ H' _ (J4.suite e4 d4 na nL nF) (hyes rfl a na)) (fun f s6 q => ?_) (fun _ _ z => False.elim z)
            cases f with
            | next => obtain ⟨σ6, H6, S6, q6⟩ := q; exact ⟨_, _, S6.unsuite ok, q6⟩
            | brk => obtain ⟨σ6, H6, S6, q6⟩ := q; exact ⟨_, _, S6.unsuite ok, q6⟩
            | cont => obtain ⟨σ6, H6, S6, q6⟩ := q; exact ⟨_, _, S6.unsuite ok, q6⟩
            | ret u => obtain ⟨v6, σ6, H6, S6, r6, q6⟩ := q; exact ⟨_, _, _, S6.unsuite ok, r6, q6⟩
          | false => exact ih (hno rfl)
        | @named x n c i ts s₀ ss np p hc hi hl hsu =>
          obtain ⟨b, hb1, hyes, hno⟩ := w
          refine wpAny_handleBy_cons (codeAny_handlers_test ?_) (by intro q; cases q)
          refine name hc ((PySem.W.exm_one (M := model X.prog X.w) J3.kIn look hb1).here ?_)
          cases b with
          | true =>
            refine codeAny_handlers_suite_as ?_
            refine HandSPX.lands_againZ fl3 fun h4 fl4 up4 => ?_
            have J4 : Inv X pins σ' H' { s' with heap := h4 } := J.landed nb fl4.1 ((up.trans up3).trans up4) os ag
            obtain ⟨o4, v4, e4, z4, d4⟩ := fl4.there
            refine store_ok (X := X.suite a ((a, o4) :: (X.pn ++ pins))) (v := .ref a) (J4.suite e4 d4 na nL nF) nd hi (.inl hl) rfl (fun s5 S5 => ?_) (.inr hl)
            refine wpAny_mono ((hsu a o4 cls d (X.pn ++ pins) z4 ⟨_, d4⟩).run [] s5 _ H' _ S5 (hyes rfl a na)) (fun f s6 q => ?_) (fun _ _ z => False.elim z)
            have bye : ∀ {σ6 : L2.St} {H6 : Hp} {Q : Shared → Prop}, Inv (X.suite a ((a, o4) :: (X.pn ++ pins))) [] σ6 H6 s6 → (∀ s7, Inv X pins (σ6.set i none) H6 s7 → Q s7) →
                wpAny (model X.prog X.w) X.A (do bindName X.env n .none; unbindBehindTheSuite X.env n p) (fun _ s7 => Q s7) X.xe s6 := fun S6 hq => gone_ok (S6.unsuite ok) nd hi hl hq
            cases f with
            | next => obtain ⟨σ6, H6, S6, q6⟩ := q; exact bye S6 fun s7 J7 => ⟨_, _, J7, q6⟩
            | brk => obtain ⟨σ6, H6, S6, q6⟩ := q; exact bye S6 fun s7 J7 => ⟨_, _, J7, q6⟩
            | cont => obtain ⟨σ6, H6, S6, q6⟩ := q; exact bye S6 fun s7 J7 => ⟨_, _, J7, q6⟩
            | ret u => obtain ⟨v6, σ6, H6, S6, r6, q6⟩ := q; exact bye S6 fun s7 J7 => ⟨_, _, _, J7, r6, q6⟩
          | false => exact ih (hno rfl)
    exact go hh w
  · cases f with
    | next => obtain ⟨σ', H', J', q⟩ := q; exact wpAny_execs_nil ⟨σ', H', J'.ofTry ok, q⟩
    | brk => obtain ⟨σ', H', J', q⟩ := q; exact ⟨σ', H', J'.ofTry ok, q⟩
    | cont => obtain ⟨σ', H', J', q⟩ := q; exact ⟨σ', H', J'.ofTry ok, q⟩
    | ret u => obtain ⟨v, σ', H', J', r, q⟩ := q; exact ⟨v, σ', H', J'.ofTry ok, r, q⟩
end

theorem takesN0 {X : Cx} : L2N.Takes X (fun _ _ _ _ => False) := fun u s' x => by
  obtain ⟨a, B, sI, pins, σ, H, cls, d, e, I, nb, up, sky, na, os, ag, w⟩ := x
  exact w.elim
theorem hotS {X : Cx} {a : Addr} {oe : Obj} {cls : Value} {d : Option Addr} {pn : List (Addr × Obj)} (hn : L2N.Zn cls d oe) (hf : ∃ vs, oe.data = .fields vs) : L2H.HotC (X.suite a ((a, oe) :: pn)) := by
  obtain ⟨vs, e⟩ := hf
  exact ⟨(a, oe), ⟨rfl, vs, e, hn.2.2 vs e⟩, List.mem_cons_self⟩
section
variable {X : Cx} {k k' : Nat} {x f : Str} {p pos pos2 : Pos} {e : Expr} {t : TA} {W : WX}
theorem pmk_oexN {C fI : Addr} {fd : FuncData} {ps : List Str} {sp : Sp} (T : OexC X.K C) (iC : PySem.W.findIn X.K (.ref C) "__init__" = some (some (.ref fI))) (tI : PySem.W.typeIn X.K (.ref fI) = some (.type "function"))
    (F1 : FnOk X.prog X.w X.K X.mg X.base CX0 k fI fd ps sp) (hr : Room (k + 1) X.A) (hb : Binds X.K fd ps []) (hg : Gl X x) (hm : X.mg x = some (.ref C)) (ha : PA X [e] t)
    (hdb : (x == ("__debug__" : Str)) = false := by decide) (he : starEach [e] X.env = (false, eval e X.env) :: starEach [] X.env := by rfl) (hpl : (backTo pos (starEach [] X.env)).any (·.1) = false := by rfl) :
    L2N.PMk X (.Call (.Name x p) [e] [] pos) (tMkO C sp [] t) := by
  intro pins s σ H Q I h
  obtain ⟨nm, q, N, bs, bm, sn, sub, ab, col, dd, k0, k1, k2, k3, k5, hC, hbm⟩ := T.cls
  refine wpAny_Call_Name_kw (ld_glob I hg hm ?_ hdb)
  refine PySem.W.callWith_K (h₀ := X.base) I.ok.mod.kin T.kC (thn (ha.run pos pins s σ H _ I h) fun us s1 ⟨vs, H1, I1, r1, hz, q1⟩ => ⟨I1.kIn, ?_⟩) he hpl
  show wpAny _ _ (call (.ref C) us) _ _ _
  obtain ⟨hp, g, dr, tk, os⟩ := s1
  have hsz : hp.objs.size ≤ hp.objs.size + 1 := Nat.le_succ _
  have hn : H1 (hp.objs.size + 1) = none := I1.hok.fresh hsz
  have hq := q1 (hp.objs.size + 1) hn
  rw [List.append_nil] at hq
  have kk : ∀ b o, hp.get? b = some o → ((hp.push (PySem.W.kdv_tup us)).push (PySem.HandSPX.excO C hp.objs.size)).get? b = some o := fun b o e => Heap.get?_push_of_some _ (Heap.get?_push_of_some _ e)
  have hget : ((hp.push (PySem.W.kdv_tup us)).push (PySem.HandSPX.excO C hp.objs.size)).get? (hp.objs.size + 1) = some (PySem.HandSPX.excO C hp.objs.size) := by heap_get
  have I2 : Inv X pins σ (upd H1 (hp.objs.size + 1) (exo (hp.objs.size + 1) C none)) ⟨(hp.push (PySem.W.kdv_tup us)).push (PySem.HandSPX.excO C hp.objs.size), g, dr, tk, os⟩ :=
    I1.laid (t' := tk) (a := hp.objs.size + 1) (o := exo (hp.objs.size + 1) C none) (h' := (hp.push (PySem.W.kdv_tup us)).push (PySem.HandSPX.excO C hp.objs.size)) kk hsz (exo_ok hget)
  have r2 : Vals (V.ref (hp.objs.size + 1) :: vs) (Value.ref (hp.objs.size + 1) :: us) := .cons rfl r1
  have hl : (Value.ref (hp.objs.size + 1) :: us).length = ps.length := by
    have e := r2.length
    rw [F1.len _ _ _ _ hq] at e
    exact e.symm
  have hus : us.length ≤ sizeLine := by
    rw [← Paired.length r1, sizeLine_eq]
    omega
  have b := hb _ (Value.ref (hp.objs.size + 1) :: us) I2.kIn (by rw [List.append_nil]; exact hl)
  rw [List.append_nil] at b
  refine wpAny_call (PySem.HandSPX.call_own PySem.F.excBase_ValueError (fun Y => PySem.HandSPX.refsVE_contains Y bm hbm) (I1.kIn _ _ hC) (PySem.W.looks_findIn I1.kIn iC) (fun self => PySem.W.bind_fn I1.kIn self tI) hus
    (codeAny_mono (F1.run _ X.stack _ _ ⟨Value.ref (hp.objs.size + 1) :: us, []⟩ (Value.ref (hp.objs.size + 1) :: us) _ _ E0 (hr.make C us []) (I2.env0.make C us []) b r2 hq) fun r s' hq' => ?_))
  cases r with
  | error er => exact pass0 pins σ _ _ er s' I2 hq'
  | ok fl =>
    cases fl with
    | ret u =>
      obtain ⟨v, H2, os2, bare2, un2, hok2, rv, ev, d, fs, ea, ed, hd1, q2⟩ := hq'
      subst ev
      obtain ⟨h2, g2, d2, t2, os'⟩ := s'
      obtain ⟨t0, G, J, kG, ge, hoe, na⟩ := mk_end0 (d2 := d2) (t2 := t2) I1 hsz kk un2 hok2 os2 bare2 ea ed hd1
      exact ⟨rv, ⟨_, _, _, ⟨G, g2, d2, t2, os'⟩, _, .ref C, some d, rfl, J, kG, ge, hoe, ⟨rfl, rfl, fun vs e => by cases e; rfl⟩, rfl, rfl, na, rfl, bare2, raises_own T.exC T.tyC, q2⟩⟩
    | next => exact False.elim hq'
    | brk => exact False.elim hq'
    | cont => exact False.elim hq'
theorem ps_raiseXN {K : PySem.W.Frag} (kk : X.K = K) (tk : L2N.Takes X W) (h : HasE X.prog X.w K X.mg X.base x f k) (hk : k ≤ k') (hr : Room (k' + 1) X.A) (hc : X.calm = true) (hg : Gl X x) (ha : PA X [e] t) (hdb : (x == ("__debug__" : Str)) = false := by decide)
    (he : starEach [e] X.env = (false, eval e X.env) :: starEach [] X.env := by rfl) (hpl : (backTo pos (starEach [] X.env)).any (·.1) = false := by rfl) : PS X (.Raise (some (.Call (.Name x p) [e] [] pos)) none pos2) (tRaise (clsA K x) f W t) := by
  subst kk
  obtain ⟨fI, fd, ps, F, T, iC, tI, hb⟩ := h
  have r := L2N.ps_raise (pos := pos2) hc tk (pmk_oexN (p := p) T.o iC tI F (hr.mono (Nat.succ_le_succ hk)) hb hg T.g (pa_weak ha) hdb he hpl)
  refine ⟨fun pins s σ H D I h => r.run pins s σ H D I ?_⟩
  refine ⟨_, h, fun vs H1 ⟨v, ev, q⟩ => ?_⟩
  subst ev
  refine ⟨by show 1 ≤ 1000; decide, fun a ha => ⟨a, clsA X.K x, v, rfl, T.o, T.n, upd_same, fun d hd hda => ⟨rfl, d, [(f, v)], upd_same, by rw [upd_ne hda, upd_same], by rw [upd_ne hda] at hd; exact hd, ?_⟩⟩⟩
  have e1 : upd (del (upd (upd (upd H1 a (exo a (clsA X.K x) none)) d (exd d [(f, v)])) a (exo a (clsA X.K x) (some d))) a) d (.xd [(f, v)]) = upd H1 d (.xd [(f, v)]) := by
    funext b
    by_cases c : b = d
    · rw [c, upd_same, upd_same]
    · rw [upd_ne c, upd_ne c]
      by_cases c2 : b = a
      · rw [c2, del_same, ha]
      · rw [del_ne c2, upd_ne c2, upd_ne c, upd_ne c2]
  rw [e1]
  exact q d (by rw [upd_ne hda] at hd; exact hd)
theorem pmk_own0N (B : ExB X.K X.mg x) (hg : Gl X x) (hdb : (x == ("__debug__" : Str)) = false := by decide) : L2N.PMk X (.Call (.Name x p) [] [] pos) (fun _ H Q => Q (.ref (clsA X.K x)) none H) := by
  intro pins s σ H Q I h
  refine wpAny_Call_Name_kw (ld_glob I hg B.g ?_ hdb)
  refine PySem.W.callWith_K0 I.kIn B.kC ?_
  show wpAny _ _ (call (.ref (clsA X.K x)) []) _ _ _
  obtain ⟨bm, N, nm, qn, bs, hdct, sn, sub, ab, col, dd, k0, k1, k2, k3, k5, mN, hC, hN, hni, T⟩ := exc_obj I.kIn B.q
  refine wpAny_call_exc_subT PySem.F.excBase_ValueError T hC hN hni (fun h' e hm => ?_) (by show 0 ≤ sizeLine; rw [sizeLine_eq]; omega)
  exact L2N.mk_of I hm (raises_own B.exC B.tyC) h (I.hok.gone hm.new)
theorem ps_raise0N {K : PySem.W.Frag} (kk : X.K = K) (tk : L2N.Takes X W) (B : ExB K X.mg x) (hc : X.calm = true) (hg : Gl X x) (hdb : (x == ("__debug__" : Str)) = false := by decide) : PS X (.Raise (some (.Call (.Name x p) [] [] pos)) none pos2) (tRaise0 (clsA K x) W) := by
  subst kk
  exact L2N.ps_raise hc tk (pmk_own0N B hg hdb)
end

/-! ### a comprehension over range within an except suite -/
/-- a range's iterator has come -/
structure PIR (X : Cx) (tg iter : Expr) (wi : TI) : Prop where
  run : ∀ (pins : List (Addr × Obj)) (s : Shared) (σ : L2.St) (H : Hp) (R : It → Hp → Prop), Inv X pins σ H s → wi σ H R →
    wpAny (model X.prog X.w) X.A (eval iter X.env) (fun v s1 => wpAny (model X.prog X.w) X.A (pyIter v) (fun itv s2 => ∃ (it : Addr) (lo : Int) (n : Nat) (H' : Hp), itv = .ref it ∧ Inv X pins σ H' s2 ∧
      IsRangeIter s2.heap it (lo + ((0 : Nat) : Int) * 1) ((n : Int) - ((0 : Nat) : Int)) 1 ∧ FpOk X pins H' it ∧ R (Itr lo n) H') X.xe s1) X.xe s
section
variable {X : Cx} {tg : Expr}
theorem pi_rangeR {a : Expr} {ta : TA} {p pos : Pos} (hg : Gl X "range") (hm : X.mg "range" = none) (ha : PA X [a] ta) (hs : starEach [a] X.env = [(false, eval a X.env)] := by rfl) : PIR X tg (.Call (.Name "range" p) [a] [] pos) (iRng1 ta) := by
  refine ⟨fun pins s σ H R I h => ?_⟩
  refine Call_ (ld_blt I hg hm boot_range (PyProof.Rows.callWith_type1 (thn (ha.run pos pins s σ H _ I h) fun us s1 ⟨vs, H1, I1, r1, j, ev, lo, hi, q⟩ => ?_) hs rfl))
  subst ev
  cases r1 with
  | cons r rr =>
    cases rr
    obtain ⟨t, rfl⟩ := r
    refine call_range_1 ?_
    refine wpAny_pyIter_range (IsRange.new ..) (small_one (by omega) (by omega) lo hi) ?_
    have J : ∀ (o : Obj) (tk : Nat), Inv X pins σ H1 { s1 with heap := s1.heap.push o, toks := tk } := fun o tk => I1.kept fun b o' e => Heap.get?_push_of_some _ e
    refine ⟨_, 0, j.toNat, H1, rfl, (J _ _).kept (t' := _) fun b o e => Heap.get?_push_of_some _ e, ?_, (J _ _).fpOk (Nat.le_refl _) ((J _ _).hok.fresh (Nat.le_refl _)), q⟩
    have e1 : (0 : Int) + ((0 : Nat) : Int) * 1 = 0 := by simp
    have e2 : ((j.toNat : Nat) : Int) - ((0 : Nat) : Int) = Builtin.Range.rangeSize 0 j 1 := by rw [rangeSize_one]; split <;> omega
    rw [e1, e2]
    exact Heap.get?_push_size _ rfl
theorem pe_lcH {elt iter : Expr} {ifs : List Expr} {scope : Scope} {own : List (Str × Nat)} {pos : Pos} {wi : TI} {g : TG} {tt : TT} {te : TE} (hot : L2H.HotC X) (nd : X.N.Nodup) (hi : PIR X tg iter wi) (ok : BlkOk X.N X.env.scope scope own)
    (hg : ∀ (s : Shared) (H : Hp) (C : Addr) (cl : List (Str × Addr)) (fp : List Addr), PG (X.blk s H scope (compEnvC scope cl C X.env) fp) tg g) (ht : ∀ (s : Shared) (H : Hp) (C : Addr) (cl : List (Str × Addr)) (fp : List Addr), PTs (X.blk s H scope (compEnvC scope cl C X.env) fp) ifs tt)
    (he : ∀ (s : Shared) (H : Hp) (C : Addr) (cl : List (Str × Addr)) (fp : List Addr), PE (X.blk s H scope (compEnvC scope cl C X.env) fp) elt te) (fold : ∀ x, foldedSetIterable iter X.env x = pure x := by intro _; rfl) :
    PE X (.ListComp elt [⟨tg, iter, ifs, 0⟩] scope pos) (tLc wi g tt te (own.map (·.2))) := by
  refine ⟨fun pins s σ H Q I h => ?_⟩
  rw [eval_ListComp]
  have frees : ∀ y ∈ scope.names, y.2 = .free → ∃ c, X.env.cells.lookup y.1 = some c := fun y m e => (ok.free y m e).elim (fun k => I.ok.has _ (.inl k)) fun k => I.ok.has _ (.inr k)
  refine wpAny_comprehension_free (use := none) rfl fold (closure_ok frees) ok.kind (fun y m e => by rw [ok.uniq y m, e]) (thn (hi.run pins s σ H _ I h) fun v0 s1 h1 => thn h1 fun itv s2 h2 => ?_)
  obtain ⟨it, lo, n, H2, rfl, I2, st2, f2, q⟩ := h2
  refine wpAny_newObj_type (newEnv_comp ?_) (by show 0 ≤ sizeLine; decide)
  generalize hD : s2.heap.objs.size = D
  have nD : H2 D = none := I2.hok.fresh (Nat.le_of_eq hD)
  obtain ⟨W, ⟨m0, w0⟩, turn⟩ := q D nD
  have itD : it < D := by rw [← hD]; exact Heap.lt_size st2
  -- the list, new
  generalize hs3 : ({ s2 with heap := s2.heap.push { cls := .type "list", data := .seq ([] : List Value).toArray } } : Shared) = s3
  have h3 : s3.heap = s2.heap.push { cls := .type "list", data := .seq ([] : List Value).toArray } := by rw [← hs3]
  have I3 : Inv X pins σ (upd H2 D (.lst [])) s3 := by
    rw [← hs3]
    refine I2.laid (t' := s2.toks) (fun b o e => Heap.get?_push_of_some _ e) (Nat.le_of_eq hD) ⟨Nat.zero_le _, [], 0, .nil, ?_⟩
    rw [← hD]
    exact Heap.get?_push_size _ rfl
  have f3 : ∀ b ∈ [it], FpOk X pins (upd H2 D (.lst [])) b ∧ b < s3.heap.objs.size := fun b hb => by
    obtain rfl : b = it := List.mem_singleton.mp hb
    refine ⟨⟨by rw [upd_ne (Nat.ne_of_lt itD)]; exact f2.1, f2.2⟩, ?_⟩
    rw [h3, Heap.size_push, hD]
    exact Nat.lt_succ_of_lt itD
  have I4 := block_start I3 ok nd f3
  have pg := hg s3 (upd H2 D (.lst [])) s3.heap.objs.size (cellsFrom (s3.heap.objs.size + 1) scope.names (cloFrom X.env.cells scope.names [])) [it]
  have pt := ht s3 (upd H2 D (.lst [])) s3.heap.objs.size (cellsFrom (s3.heap.objs.size + 1) scope.names (cloFrom X.env.cells scope.names [])) [it]
  have pe := he s3 (upd H2 D (.lst [])) s3.heap.objs.size (cellsFrom (s3.heap.objs.size + 1) scope.names (cloFrom X.env.cells scope.names [])) [it]
  show codeAny _ _ (.compStart (.ListComp elt [⟨tg, iter, ifs, 0⟩] scope pos) 0 (.ref it) (.ref D) (compEnvC scope (cellsFrom (s3.heap.objs.size + 1) scope.names (cloFrom X.env.cells scope.names [])) s3.heap.objs.size X.env)) (compPost (model X.prog X.w) X.A X.xe none _ (.ref D) s3.heap.objs.size) { s3 with heap := pushCells (s3.heap.push { cls := .type "dict", data := .dict #[] }) scope.names }
  have st3 : IsRangeIter s3.heap it (lo + ((0 : Nat) : Int) * 1) ((n : Int) - ((0 : Nat) : Int)) 1 := by
    rw [h3]
    exact Heap.get?_push_of_some _ st2
  have n3 : (upd H2 D (.lst [])) it = none := (f3 it List.mem_cons_self).1.1
  generalize hce : compEnvC scope (cellsFrom (s3.heap.objs.size + 1) scope.names (cloFrom X.env.cells scope.names [])) s3.heap.objs.size X.env = ce at I4 pg pt pe ⊢
  have cL : ce.locals = s3.heap.objs.size := by subst hce; rfl
  generalize hH3 : upd H2 D (.lst []) = H3 at I3 I4 pg pt pe w0 n3 f3
  generalize hs4 : ({ s3 with heap := pushCells (s3.heap.push { cls := .type "dict", data := .dict #[] }) scope.names } : Shared) = s4 at I4 ⊢
  have st4 : IsRangeIter s4.heap it (lo + ((0 : Nat) : Int) * 1) ((n : Int) - ((0 : Nat) : Int)) 1 := by
    rw [← hs4]
    exact pushCells_keeps _ _ _ _ (Heap.get?_push_of_some _ st3)
  have stat : ∀ {H' : Hp} {σ' : L2.St} {s' : Shared}, Inv (X.blk s3 H3 scope ce [it]) [] σ' H' s' → H' it = none → FpOk (X.blk s3 H3 scope ce [it]) [] H' it := fun {H' σ' s'} I' hn =>
    have m : it ∈ (X.blk s3 H3 scope ce [it]).ex := List.mem_cons_self
    ⟨hn, (I'.ok.exf it m).1, I'.ok.exfs it m, .inl m, fun x c e => (I'.ok.exf it m).2 x c e, fun p hp => absurd (show p ∈ ([] : List (Addr × Obj)) ++ [] from hp) (by simp)⟩
  have loop : codeAny (model X.prog X.w) X.A (.compLoop (.ListComp elt [⟨tg, iter, ifs, 0⟩] scope pos) 0 (.ref it) (.ref D) ce) (compPost (model X.prog X.w) X.A X.xe none (EP X pins σ Q) (.ref D) s3.heap.objs.size) s4 := by
    refine compLoop_any (fun m s' => ∃ i H', Inv (X.blk s3 H3 scope ce [it]) [] (wipe σ (own.map (·.2))) H' s' ∧ IsRangeIter s'.heap it (lo + ((i : Nat) : Int) * 1) ((n : Int) - ((i : Nat) : Int)) 1 ∧ H' it = none ∧ W i m H') ?_ m0 ⟨0, H3, I4, st4, n3, w0⟩
    rintro m s5 ⟨i, H5, I5, st5, n5, w5⟩
    rcases turn i m H5 w5 with ⟨stop, qq⟩ | ⟨go, Nx, hNx, step⟩
    · -- the end, seen from the suite
      have I7 : Inv X pins σ H5 s5 := I3.call' (ch := [it]) I5.os I5.base I5.hok I5.bare fun b hb => ⟨(f3 b hb).1.2.2.2.1, (f3 b hb).1.2.1, (f3 b hb).1.2.2.2.2.1, (f3 b hb).1.2.2.2.2.2⟩
      have nC : H5 s3.heap.objs.size = none := by
        have z : H5 ce.locals = none := I5.free
        rw [cL] at z
        exact z
      obtain ⟨mC, hn, _⟩ := I5.loc
      have hn : s5.heap.Ns ce.locals mC := hn
      rw [cL] at hn
      obtain ⟨x1, hx1⟩ := hot.at I7
      have hs : n ≤ i := stop
      refine HotX.pyNext_range_end_hot hx1 st5 (by omega) fun h' eb => ?_
      have fz : FpOk X pins H5 it := ⟨n5, f2.2⟩
      have J : Inv X pins σ H5 { s5 with heap := h' } := I7.turned (t' := s5.toks) (fun b o _ e => eb b o e) fz.1 fz.2.1 fz.2.2.2.1 fz.2.2.2.2.1 fz.2.2.2.2.2
      have fC : FpOk X pins H5 s3.heap.objs.size := I3.fpOk (Nat.le_refl _) nC
      exact ⟨mC, hn.at fun o e => eb _ _ e, fun h'' sb => ⟨.ref D, H5, J.turned (t' := s5.toks) (fun b o hb e => (sb.2 b hb).trans e) fC.1 fC.2.1 fC.2.2.2.1 fC.2.2.2.2.1 fC.2.2.2.2.2, rfl, qq⟩⟩
    · have hlt : i < n := go
      refine wpAny_pyNext_range_item st5 (by omega) fun h' st' sb => ?_
      have st6 : IsRangeIter h' it (lo + ((i + 1 : Nat) : Int) * 1) ((n : Int) - ((i + 1 : Nat) : Int)) 1 := by
        have e1 : lo + ((i : Nat) : Int) * 1 + 1 = lo + ((i + 1 : Nat) : Int) * 1 := by omega
        have e2 : (n : Int) - ((i : Nat) : Int) - 1 = (n : Int) - ((i + 1 : Nat) : Int) := by omega
        rw [← e1, ← e2]
        exact st'
      have fi := stat I5 n5
      have I6 : Inv (X.blk s3 H3 scope ce [it]) [] (wipe σ (own.map (·.2))) H5 { s5 with heap := h', toks := s5.toks + 1 } := I5.turned (fun b o hb e => (sb.2 b hb).trans e) fi.1 fi.2.1 fi.2.2.2.1 fi.2.2.2.2.1 fi.2.2.2.2.2
      refine go_of (s := { s5 with heap := h', toks := s5.toks + 1 }) (n := "range_iterator") st6 rfl rfl (by decide) ?_
      have ob : ∀ b ∈ [it], ∃ o, ({ s5 with heap := h', toks := s5.toks + 1 } : Shared).heap.get? b = some o ∧ ∀ v, o.data ≠ .cell v := fun b hb => by
        obtain rfl : b = it := List.mem_singleton.mp hb
        exact ⟨_, st6, fun v z => by
          have z' : Data.fields _ = Data.cell v := z
          cases z'⟩
      have I7 := I6.pinned (fun b hb => by
        obtain rfl : b = it := List.mem_singleton.mp hb
        exact stat I6 n5) ob
      refine thnF (pg.run _ _ _ H5 (.int (lo + i)) _ _ I7 ⟨s5.toks, by rw [Int.mul_one]⟩ (step _ H5 ⟨rfl, rfl⟩)) fun _ s8 ⟨σ8, H8, I8, hw8, q8⟩ => ?_
      refine thnF (pt.run _ s8 σ8 H8 _ I8 q8) fun b s9 ⟨H9, I9, q9⟩ => ?_
      have next : ∀ {s' : Shared} {H' : Hp}, Inv (X.blk s3 H3 scope ce [it]) ([] ++ pinsAt [it] h') σ8 H' s' → Nx H' → ∃ k, k < m ∧ ∃ i H', Inv (X.blk s3 H3 scope ce [it]) [] (wipe σ (own.map (·.2))) H' s' ∧ IsRangeIter s'.heap it (lo + ((i : Nat) : Int) * 1) ((n : Int) - ((i : Nat) : Int)) 1 ∧ H' it = none ∧ W i k H' := fun {s' H'} I' nx => by
        obtain ⟨k, hk, w'⟩ := hNx H' nx
        obtain ⟨o, eo, _⟩ := ob it List.mem_cons_self
        have pin := I'.pin (it, o) (List.mem_append_right _ (List.mem_append_right _ (mem_pinsAt List.mem_cons_self eo)))
        have st6' : h'.get? it = some _ := st6
        have eo' : h'.get? it = some o := eo
        rw [st6'] at eo'
        refine ⟨k, hk, i + 1, H', (I'.unpinned (pins := [])).weak (by rw [← hw8, wipe_length]) (fun j v e => ?_), ?_, pin.2.1, w'⟩
        · rw [← hw8] at e
          exact (wipe_some e).1
        · have p1 : s'.heap.get? it = some o := pin.1
          rw [← Option.some.inj eo'] at p1
          exact p1
      cases b with
      | false =>
        simp only [Bool.false_eq_true, if_false] at q9 ⊢
        exact next I9 q9
      | true =>
        simp only [if_true] at q9 ⊢
        refine thnF (pe.run _ s9 σ8 H9 _ I9 q9) fun z s10 ⟨yv, H10, I10, r10, acc, hD10, hz10, nx⟩ => ?_
        exact app_ok (X := X.blk s3 H3 scope ce [it]) I10 hD10 hz10 r10 fun s11 I11 => next I11 nx
  exact codeAny_compStart_list loop ((L2H.turn_rangeH (P := X.prog) (w := X.w) (K := X.K) (tg := tg) it lo n).self X.A 0 _ _ _ st4 loop)
end
end TR

/-! mended yards, and the steps that lead there -/
namespace TR
open PySem L2
/-! what a step does, room by room -/
/-- but for one room two yards are alike -/
noncomputable def Else (R : Nat) (y y' : Yard) : Prop := y'.a = y.a ∧ y'.b = y.b ∧ ∀ q, q ≠ R → y'.c.getD q [] = y.c.getD q []
/-! what stands -/
noncomputable def meetE (r : Int) (i : Nat) (acc : Row) (e : Ent) : Row := if roomOf e.1 r = (i : Int) ∧ e.1 ∉ acc.map Prod.fst then acc ++ [e] else acc
noncomputable def standF (r : Int) : Nat → List (List Row) → Row → Row
  | _, [], acc => acc
  | i, X :: c, acc => standF r (i + 1) c (X.flatten.foldl (meetE r i) acc)
noncomputable def standL (y : Yard) : Row := standF y.b 0 (y.c.take y.b.toNat) []
noncomputable def standY (y : Yard) : Row := sortE (standL y)
/-- all that is held -/
noncomputable def allE (c : List (List Row)) : Row := c.flatten.flatten
/-! the steps -/
noncomputable def cutsF (c : List (List Row)) (q : Nat) : List Stp := (((List.range (c.length - q)).map fun j => q + j).filter fun i => decide (c.getD i [] ≠ [])).reverse.map fun (i : Nat) => Stp.cut (i : Int) 0
noncomputable def mendR (d c : List (List Row)) (n : Nat) : List Stp := (List.range n).flatMap fun i => onw i (d.getD i []) (c.getD i [])
noncomputable def mendC (y : Yard) : List (List Row) := cleanC y.a.toNat y.b (standY y)
noncomputable def mendS (y : Yard) : List Stp := mendR (mendC y) y.c y.b.toNat ++ cutsF y.c y.b.toNat
end TR

/-! lists of lists that are told apart: every row is a row of its own -/
namespace TR
open PySem L2
section
variable {K : PySem.W.Frag} {σ : L2.St} {H Z Z0 : Hp} {te : TE} {Q : VK} {g : TG} {vs : List Nat} {α : Type} [Py α]
end
/-- new rows, all told apart; they stay (Z') until they are let go -/
noncomputable def NewRs (Z0 H Z' H' : Hp) (q : Addr) (ws : List Addr) {α : Type} [Py α] (rows : List (List α)) : Prop :=
  (q :: ws).Nodup ∧ (∀ b ∈ q :: ws, H b = none) ∧ (∀ b ∈ q :: ws, ∃ o, H' b = some o) ∧ Z' q = some (.lst (ws.map V.ref)) ∧ Paired (fun w r => RowF Z0 Z' w r) ws rows
/-- rooms of rows, all told apart -/
structure Y4 (Z H : Hp) (D : Addr) (qs : List Addr) (Fs : List (List Addr)) {α : Type} [Py α] (rss : List (List (List α))) : Prop where
  y : Y3 Z H D qs Fs.flatten rss
  nd : (D :: (qs ++ Fs.flatten)).Nodup
  at_ : Paired (fun f rs => H f.1 = some (.lst (f.2.map V.ref)) ∧ Paired (fun w r => RowO Z H w r) f.2 rs) (qs.zip Fs) rss
  ln : qs.length = Fs.length
section
variable {K : PySem.W.Frag} {σ : L2.St} {H Z Z0 : Hp} {te : TE} {Q : VK} {g : TG} {vs : List Nat} {α β : Type} [Py α] [Py β]
end
section
variable {K : PySem.W.Frag} {H Z : Hp} {D : Addr} {qs : List Addr} {Fs : List (List Addr)} {α : Type} [Py α] {r0 : List α} {rs0 : List (List α)} {rss : List (List (List α))}
end
section
variable {K : PySem.W.Frag} {M : List Addr} {H Z Z0 Z' H' : Hp} {a p D : Addr} {qs : List Addr} {Fs : List (List Addr)} {Q : VK}
end
/-! for over a range that goes down -/
section
variable {σ : L2.St} {H : Hp} {D : Ends} {g : TG} {ts : TS}
noncomputable def ForR3 (g : TG) (tb : TS) (D : Ends) (σ : L2.St) (vs : List V) (H1 : Hp) : Prop := ∃ (i j c : Int) (n : Nat), vs = [.int i, .int j, .int c] ∧ RgC i j c n ∧ ForJ g tb D σ (Itc i c n) H1
end
noncomputable abbrev YB (y : Yard) : Prop := 1 ≤ y.a ∧ y.a ≤ 1000 ∧ 1 ≤ y.b ∧ y.b ≤ 1000 ∧ y.c.length ≤ 10000 ∧ (∀ rs ∈ y.c, rs.length ≤ 10000) ∧ (allE y.c).length ≤ 39000
section
variable {K : PySem.W.Frag} {H Z : Hp} {Q : VK} {l D : Addr} {v : V} {α : Type} [Py α] {x : α}
end
/-! a clean yard stands as it is -/
end TR

/-! changes by their names -/
namespace TR
open PySem L2
noncomputable def tSplit : Tx := ⟨"split", by decide +kernel⟩
noncomputable def tJoin : Tx := ⟨"join", by decide +kernel⟩
noncomputable def tPut : Tx := ⟨"put", by decide +kernel⟩
noncomputable def tDrop : Tx := ⟨"drop", by decide +kernel⟩
noncomputable def tRoom : Tx := ⟨"room", by decide +kernel⟩
noncomputable def tLack : Tx := ⟨"lacking", by decide +kernel⟩
noncomputable def tTold : Tx := ⟨"told", by decide +kernel⟩
noncomputable def tNone : Tx := ⟨"", by decide +kernel⟩
noncomputable def okC (r : Int) (es : Row) (way : Str) (k : Int) : Prop := ¬ (way = "join" ∧ r = 1) ∧ ¬ (way = "drop" ∧ k ∉ es.map Prod.fst)
noncomputable def WayS (way : Str) : Prop := way = "split" ∨ way = "join" ∨ way = "drop" ∨ way = "put"
noncomputable def chS (y : Yard) (way : Str) (k : Int) (t : Tx) : List Stp := if way = "split" then splitS y else if way = "join" then joinS y else if way = "drop" then dropS y k else putS y k t
noncomputable def rN (r : Int) (way : Str) : Int := if way = "split" then r + 1 else if way = "join" then r - 1 else r
noncomputable def esN (es : Row) (way : Str) (k : Int) (t : Tx) : Row := if way = "drop" then outE es k else if way = "put" then putE es k t else es
section
variable {r k : Int} {es : Row}
end
/-! a display of two pairs -/
noncomputable def Disp2 (p : Addr) (x1 y1 x2 y2 : V) (H : Hp) (Q : VK) : Prop := H p = some (.dK []) ∧ ∃ kvs : List (L2.Key × V), [(x1, y1), (x2, y2)] = kvs.map (fun kv => (kV kv.1, kv.2)) ∧ kvs.length ≤ 15 ∧ Q (.ref p) (upd H p (.dK (mergeK [] kvs)))
end TR

/-! len(set(xs)): how many unlike ones; whether a yard is clean -/
namespace TR
open PySem L2 PySem.Spec PyProof.Rows
noncomputable def unlike (ns : List Int) : Nat := (PyProof.Rows.firstMet (fun i => ns.getD i 0) ns.length).length
noncomputable def tLenSetA (K : PySem.W.Frag) (ta : TE) : TE := fun σ H Q => ta σ H fun x H1 => ∃ (l : Addr) (ns : List Int), x = .ref l ∧ SqL K H1 l (ns.map V.int) ∧ ns.length ≤ 4000 ∧ Q (.int (unlike ns : Nat)) H1
/-- the clean yard of what it holds -/
noncomputable def CleanP (y : Yard) : Prop := Keys1 (allE y.c) ∧ y = cleanY y.a y.b (allE y.c)
end TR

/-! keepers: a yard, and the steps that are left -/
namespace TR
open PySem L2
noncomputable def kfs (w f : Int) (u : V) (P : Addr) : List (Str × V) := [("wide", .int w), ("fill", .int f), ("now", u), ("waiting", .ref P)]
structure Kp (K : PySem.W.Frag) (Z H : Hp) (a P : Addr) (w f : Int) (y : Yard) (ss : List Stp) : Prop where
  ob : ∃ dx u, H a = some (.ins (clsA K "Keeper") dx (kfs w f u P)) ∧ Ik Z u y
  wl : Lm Z H P ss
  za : Z a = none
  na : a ≠ P
  w0 : 1 ≤ w ∧ w ≤ 8
  f0 : 1 ≤ f ∧ f ≤ 8
  ya : y.a = w
section
variable {K : PySem.W.Frag} {Z H Z' H' : Hp} {M : List Addr} {a P : Addr} {w f : Int} {y : Yard} {ss : List Stp}
end
/-- how many rooms there have to be -/
noncomputable def wantK (f : Int) (y : Yard) : Int := roomsFor ((standY y).length : Int) f
noncomputable def SettledP (f : Int) (y : Yard) (ss : List Stp) : Prop := ss = [] ∧ CleanP y ∧ y.b = wantK f y
/-- rooms more or fewer, one by one -/
noncomputable def growN (w want : Int) (es : Row) : Nat → Int → List Stp
  | 0, _ => []
  | n + 1, r => if want < r then joinS (cleanY w r es) ++ growN w want es n (r - 1) else splitS (cleanY w r es) ++ growN w want es n (r + 1)
noncomputable def growS (w f : Int) (es : Row) (r : Int) : List Stp := growN w (roomsFor (es.length : Int) f) es (r - roomsFor (es.length : Int) f).natAbs r
noncomputable def spKInit (K : PySem.W.Frag) : Sp := fun vs H Q E => ∃ (a dx : Addr) (v u : V) (n m : String) (Z : Hp), vs = [.ref a, v, u] ∧ H a = some (.ins (clsA K "Keeper") dx []) ∧ Ex Z H ∧ Z a = none ∧ KindV K H v n ∧ KindV K H u m ∧
  (∀ w f, v = .int w → u = .int f → 1 ≤ w ∧ w ≤ 8 → 1 ≤ f ∧ f ≤ 8 → ∀ P Z' H', T [a] Z H Z' H' → H P = none → Kp K Z' H' a P w f (cleanY w 1 []) [] → Q .non H') ∧
  (sizeV v = false → ∀ H' d, Ex H H' → H' d = none → E (.ref (clsA K "NoSize")) (some d) (upd H' d (.xd [("thing", v)]))) ∧
  (sizeV v = true → sizeV u = false → ∀ H' d, Ex H H' → H' d = none → E (.ref (clsA K "NoSize")) (some d) (upd H' d (.xd [("thing", u)])))
noncomputable def spKWanted (K : PySem.W.Frag) : Sp := fun vs H Q _ => ∃ (a P : Addr) (w f : Int) (y0 : Yard) (ss : List Stp) (Z : Hp) (v : V) (y : Yard), vs = [.ref a, v] ∧ Kp K Z H a P w f y0 ss ∧ Ik Z v y ∧ YB y ∧
  ∀ Z' H', T [] Z H Z' H' → Q (.int (wantK f y)) H'
noncomputable def spKSettled (K : PySem.W.Frag) : Sp := fun vs H Q _ => ∃ (a P : Addr) (w f : Int) (y : Yard) (ss : List Stp) (Z : Hp), vs = [.ref a] ∧ Kp K Z H a P w f y ss ∧ YB y ∧ (allE y.c).length ≤ 4000 ∧
  ∀ (b : Bool) Z' H', (b = true ↔ SettledP f y ss) → T [] Z H Z' H' → Q (.bl b) H'
noncomputable def spKNeed (K : PySem.W.Frag) : Sp := fun vs H Q E => ∃ (a P : Addr) (w f : Int) (y : Yard) (ss : List Stp) (Z : Hp), vs = [.ref a] ∧ Kp K Z H a P w f y ss ∧ YB y ∧ (allE y.c).length ≤ 4000 ∧
  (SettledP f y ss → ∀ Z' H', T [] Z H Z' H' → Q .non H') ∧ (¬ SettledP f y ss → ∀ Z' H', T [] Z H Z' H' → E (.ref (clsA K "Busy")) none H')
noncomputable def spKBegin (K : PySem.W.Frag) : Sp := fun vs H Q _ => ∃ (a P : Addr) (w f : Int) (y : Yard) (ss : List Stp) (Z : Hp) (sv : V) (st : List Stp) (r : Int) (es : Row), vs = [.ref a, sv] ∧ Kp K Z H a P w f y ss ∧ Ik Z sv st ∧ YLen y ∧ (∀ s ∈ st, StpOk s) ∧ st.length ≤ 40000 ∧
  st.foldl doneY y = cleanY w r es ∧ Keys1 es ∧ es.length ≤ 100 ∧ 1 ≤ r ∧ r ≤ 130 ∧
  ∀ P' Z' H', T [a] Z H Z' H' → H P' = none → Kp K Z' H' a P' w f y (st ++ growS w f es r) → Q (.int ((st ++ growS w f es r).length : Int)) H'
end TR
namespace TR
open PySem L2
noncomputable def spKEntries (K : PySem.W.Frag) : Sp := fun vs H Q _ => ∃ (a P : Addr) (w f : Int) (y : Yard) (ss : List Stp) (Z : Hp), vs = [.ref a] ∧ Kp K Z H a P w f y ss ∧ YB y ∧
  ∀ D Z' H', T [] Z H Z' H' → Ls Z' D (standY y) → Q (.ref D) H'
noncomputable def spKYard (K : PySem.W.Frag) : Sp := fun vs H Q _ => ∃ (a P : Addr) (w f : Int) (y : Yard) (ss : List Stp) (Z : Hp), vs = [.ref a] ∧ Kp K Z H a P w f y ss ∧ YLen y ∧
  ∀ (p D : Addr) (qs F : List Addr) Z' H', T [] Z H Z' H' → Z' p = some (.tup [.int y.a, .int y.b, .ref D]) → Y3 Z' H' D qs F y.c → (∀ b ∈ D :: (qs ++ F), H b = none) → Q (.ref p) H'
/-- stop | run -/
noncomputable def spKStop (K : PySem.W.Frag) : Sp := fun vs H Q _ => ∃ (a P : Addr) (w f : Int) (y : Yard) (ss : List Stp) (Z : Hp), vs = [.ref a] ∧ Kp K Z H a P w f y ss ∧
  ∀ P' Z' H', T [a] Z H Z' H' → H P' = none → Kp K Z' H' a P' w f y [] → Q (.int (ss.length : Int)) H'
noncomputable def spKRun (K : PySem.W.Frag) : Sp := fun vs H Q _ => ∃ (a P : Addr) (w f : Int) (y : Yard) (ss : List Stp) (Z : Hp), vs = [.ref a] ∧ Kp K Z H a P w f y ss ∧ YLen y ∧ (∀ s ∈ ss, StpOk s) ∧
  ∀ P' Z' H', T [a, P] Z H Z' H' → H P' = none → Kp K Z' H' a P' w f (ss.foldl doneY y) [] → Q (.int (ss.length : Int)) H'
/-- a told step: its row is the asker's own -/
noncomputable def ToldS (Z H : Hp) (v : V) : Stp → Prop
  | .row r b w => ∃ p q, v = .ref p ∧ Z p = some (.tup [.str "row", .int r, .int b, .ref q]) ∧ Lm Z H q w
  | s => Ik Z v s
/-- the rows that the asker may change -/
noncomputable def toldA : V → Hp → List Addr
  | .ref p, Z => match Z p with | some (.tup [.str _, .int _, .int _, .ref q]) => [q] | _ => []
  | _, _ => []
noncomputable def spToldStep (K : PySem.W.Frag) : Sp := fun vs H Q _ => ∃ (v : V) (Z Z0 : Hp) (s : Stp), vs = [v] ∧ Ex Z H ∧ Ex Z0 Z ∧ Ik Z0 v s ∧
  (∀ r b w, s = .row r b w → ∀ p q Z' H', T [] Z H Z' H' → H q = none → Z' p = some (.tup [.str "row", .int r, .int b, .ref q]) → Mu Z' H' q → RowF Z0 H' q w → Q (.ref p) H') ∧
  ((∀ r b w, s ≠ .row r b w) → Q v H)
end TR
namespace TR
open PySem L2
noncomputable def ToldV (H Z' H' : Hp) (v : V) : Stp → Prop
  | .row r b w => ∃ p q, v = .ref p ∧ Z' p = some (.tup [.str "row", .int r, .int b, .ref q]) ∧ Lm Z' H' q w ∧ H q = none
  | s => Ik Z' v s
noncomputable def spKStep (K : PySem.W.Frag) : Sp := fun vs H Q _ => ∃ (a P : Addr) (w f : Int) (y : Yard) (ss : List Stp) (Z : Hp), vs = [.ref a] ∧ Kp K Z H a P w f y ss ∧ YLen y ∧ (∀ s ∈ ss, StpOk s) ∧ ss.length ≤ 90000 ∧
  (ss = [] → ∀ Z' H', T [] Z H Z' H' → Q .non H') ∧
  (∀ s ss', ss = s :: ss' → ∀ v Z' H', T [a, P] Z H Z' H' → Kp K Z' H' a P w f (doneY y s) ss' → ToldV H Z' H' v s → Q v H')
noncomputable def spKMend (K : PySem.W.Frag) : Sp := fun vs H Q E => ∃ (a P : Addr) (w f : Int) (y : Yard) (ss : List Stp) (Z : Hp), vs = [.ref a] ∧ Kp K Z H a P w f y ss ∧ YB y ∧ (allE y.c).length ≤ 9000 ∧ trimR y.c = y.c ∧ (standY y).length ≤ 100 ∧ y.b ≤ 130 ∧ y.a ≤ 8 ∧
  (ss ≠ [] → ∀ Z' H', T [] Z H Z' H' → E (.ref (clsA K "Busy")) none H') ∧
  (ss = [] → ∀ P' Z' H', T [a] Z H Z' H' → H P' = none → Kp K Z' H' a P' w f y (mendS y ++ growS w f (standY y) y.b) → Q (.int ((mendS y ++ growS w f (standY y) y.b).length : Int)) H')
noncomputable def dropKS (f : Int) (y : Yard) (k : Int) : List Stp := dropS y k ++ growS y.a f (outE (standY y) k) y.b
noncomputable def putKS (f : Int) (y : Yard) (k : Int) (t : Tx) : List Stp := putS y k t ++ growS y.a f (putE (standY y) k t) y.b
noncomputable def spKDrop (K : PySem.W.Frag) : Sp := fun vs H Q E => ∃ (a P : Addr) (w f : Int) (y : Yard) (ss : List Stp) (Z : Hp) (v : V) (n : String), vs = [.ref a, v] ∧ Kp K Z H a P w f y ss ∧ YB y ∧ (allE y.c).length ≤ 4000 ∧ (standY y).length ≤ 64 ∧ y.b ≤ 130 ∧ KindV K H v n ∧
  (keyV v = false → ∀ d, H d = none → E (.ref (clsA K "NoKey")) (some d) (upd H d (.xd [("key", v)]))) ∧
  ∀ k, v = .int k → keyV v = true →
    (¬ SettledP f y ss → ∀ Z' H', T [] Z H Z' H' → E (.ref (clsA K "Busy")) none H') ∧
    (SettledP f y ss → k ∉ (standY y).map Prod.fst → ∀ d Z' H', T [] Z H Z' H' → H' d = none → E (.ref (clsA K "Lacking")) (some d) (upd H' d (.xd [("key", .int k)]))) ∧
    (SettledP f y ss → k ∈ (standY y).map Prod.fst → ∀ P' Z' H', T [a] Z H Z' H' → H P' = none → Kp K Z' H' a P' w f y (dropKS f y k) → Q (.int ((dropKS f y k).length : Int)) H')
noncomputable def spKPut (K : PySem.W.Frag) : Sp := fun vs H Q E => ∃ (a P : Addr) (w f : Int) (y : Yard) (ss : List Stp) (Z : Hp) (v t : V) (n m : String), vs = [.ref a, v, t] ∧ Kp K Z H a P w f y ss ∧ YB y ∧ (allE y.c).length ≤ 4000 ∧ (standY y).length ≤ 64 ∧ y.b ≤ 130 ∧ KindV K H v n ∧ KindV K H t m ∧
  (keyV v = false → ∀ d, H d = none → E (.ref (clsA K "NoKey")) (some d) (upd H d (.xd [("key", v)]))) ∧
  (keyV v = true → nameV t = false → ∀ d, H d = none → E (.ref (clsA K "NoThing")) (some d) (upd H d (.xd [("thing", t)]))) ∧
  ∀ k x, v = .int k → t = .str x.1 → keyV v = true → nameV t = true →
    (¬ SettledP f y ss → ∀ Z' H', T [] Z H Z' H' → E (.ref (clsA K "Busy")) none H') ∧
    (SettledP f y ss → k ∉ (standY y).map Prod.fst → (standY y).length = 64 → ∀ d Z' H', T [] Z H Z' H' → H' d = none → E (.ref (clsA K "Full")) (some d) (upd H' d (.xd [("many", .int 64)]))) ∧
    (SettledP f y ss → (k ∈ (standY y).map Prod.fst ∨ (standY y).length < 64) → ∀ P' Z' H', T [a] Z H Z' H' → H P' = none → Kp K Z' H' a P' w f y (putKS f y k x) → Q (.int ((putKS f y k x).length : Int)) H')
end TR
namespace TR
open PySem L2
section
variable {K : PySem.W.Frag} {Z H Z' H' : Hp} {a P P' : Addr} {w f : Int} {y y' : Yard} {ss ss' : List Stp} {v : V} {R : Hp → Prop}
end
end TR
namespace TR
open PySem L2
end TR
namespace TR
open PySem L2
end TR
namespace TR
open PySem L2
end TR
namespace TR
open PySem L2
noncomputable def spKFind (K : PySem.W.Frag) : Sp := fun vs H Q E => ∃ (a P : Addr) (w f : Int) (y : Yard) (ss : List Stp) (Z : Hp) (v : V) (n : String), vs = [.ref a, v] ∧ Kp K Z H a P w f y ss ∧ YardOk y ∧ KindV K H v n ∧
  (keyV v = false → ∀ d, H d = none → E (.ref (clsA K "NoKey")) (some d) (upd H d (.xd [("key", v)]))) ∧
  ∀ k, v = .int k → keyV v = true →
    (fY y k = none → ∀ d Z' H', T [] Z H Z' H' → H' d = none → E (.ref (clsA K "Lacking")) (some d) (upd H' d (.xd [("key", .int k)]))) ∧
    (∀ x, fY y k = some x → ∀ p Z' H', T [] Z H Z' H' → H p = none → Z' p = some (.tup [.str x.1, .int (foundI y k).2]) → Q (.ref p) H')
end TR

/-! what is due of a settled keeper -/
namespace TR
open PySem L2
end TR
namespace TR
open PySem L2
/-- all the stops of a keeper's steps are small yards -/
structure FitK (y : Yard) (ss : List Stp) : Prop where
  yb : ∀ m, YB ((ss.take m).foldl doneY y) ∧ (allE ((ss.take m).foldl doneY y).c).length ≤ 4000
  ok : ∀ s ∈ ss, StpOk s
  ln : ss.length ≤ 39000
end TR
namespace TR
open PySem L2
end TR

/-! a bound for all that a keeper can reach: rooms and places below N, rows of at most 8, keys out of ks -/
namespace TR
open PySem L2
noncomputable def StpN (N : Nat) (ks : List Int) : Stp → Prop
  | .rooms m => 1 ≤ m ∧ m ≤ N
  | .cut r m => 0 ≤ r ∧ r < N ∧ 0 ≤ m
  | .row r b w => 0 ≤ r ∧ r < N ∧ 0 ≤ b ∧ b < N ∧ w.length ≤ 8 ∧ ∀ e ∈ w, e.1 ∈ ks
end TR
namespace TR
open PySem L2
/-- all rows are so -/
noncomputable def AllR (P : Row → Prop) (c : List (List Row)) : Prop := ∀ rs ∈ c, ∀ r ∈ rs, P r
end TR
namespace TR
open PySem L2
/-- a yard within the bound -/
structure YN (N : Nat) (w : Int) (ks : List Int) (y : Yard) : Prop where
  a : y.a = w
  b : 1 ≤ y.b ∧ y.b ≤ N
  hb : HB N N 8 y.c
  ky : AllR (fun r => ∀ e ∈ r, e.1 ∈ ks) y.c
  tr : trimR y.c = y.c
end TR
namespace TR
open PySem L2
end TR
namespace TR
open PySem L2
/-! the steps of the changes are within the bound -/
section
variable {N R : Nat} {ks : List Int} {rows now : List Row} {w r k : Int} {es : Row} {t : Tx}
noncomputable def RowsN (N : Nat) (ks : List Int) (rows : List Row) : Prop := rows.length ≤ N ∧ ∀ x ∈ rows, x.length ≤ 8 ∧ ∀ e ∈ x, e.1 ∈ ks
/-- entries within the bound -/
structure EsN (N : Nat) (ks : List Int) (es : Row) : Prop where
  k1 : Keys1 es
  ky : ∀ e ∈ es, e.1 ∈ ks
  ln : es.length + 2 ≤ N
end
end TR
namespace TR
open PySem L2
section
variable {N R : Nat} {ks : List Int} {w r k f : Int} {es : Row} {t : Tx} {y : Yard} {ss : List Stp}
/-- what a keeper can reach: within the bound, and settled in the end -/
structure KI (N : Nat) (w f : Int) (ks : List Int) (y : Yard) (ss : List Stp) : Prop where
  yn : YN N w ks y
  ok : ∀ s ∈ ss, StpN N ks s
  ln : ss.length ≤ N * (3 * N + 4)
  en : SettledP f (ss.foldl doneY y) []
end
end TR

/-! stops, room by room: what stands there is found, and the rows ahead of it are passed -/
namespace TR
open PySem L2
noncomputable def PassR (w : Nat) (L : Row) (X : List Row) : Prop := ∀ (p : Nat) (e : Ent), L[p]? = some e → ∀ row ∈ X.take (p / w), lastGe (row.map Prod.fst) e.1 = false
noncomputable def RoomI (w : Nat) (es : Row) (b : Int) (i : Nat) (X : List Row) : Prop := RoomG es b i X ∧ X ≠ [] ∧ PassR w (partE b es i) X
noncomputable def GoodI (w : Nat) (es : Row) (y : Yard) : Prop := 1 ≤ y.b ∧ ∀ i, i < y.b.toNat → ∃ X, y.c[i]? = some X ∧ RoomI w es y.b i X
end TR
namespace TR
open PySem L2
end TR

/-! tables: what a drop tells -/
namespace TR
open PySem L2
noncomputable def spTNeed (K : PySem.W.Frag) : Sp := fun vs H Q E => ∃ (a D : Addr) (w f : Int) (l : Row) (Z : Hp) (v : V) (n : String), vs = [.ref a, v] ∧ Tb K Z H a D w f l ∧ KindV K H v n ∧
  (keyV v = false → ∀ d, H d = none → E (.ref (clsA K "NoKey")) (some d) (upd H d (.xd [("key", v)]))) ∧
  ∀ k, v = .int k → keyV v = true →
    (k ∉ l.map Prod.fst → ∀ d, H d = none → E (.ref (clsA K "Lacking")) (some d) (upd H d (.xd [("key", v)]))) ∧
    (k ∈ l.map Prod.fst → Q .non H)
noncomputable def DropTold (Z H Z' H' : Hp) (f : Int) (l : Row) (k : Int) (r : V) : Prop :=
  if roomsT f (outE l k) = roomsT f l then r = .non else ∃ p c, r = .ref p ∧ H p = none ∧ H c = none ∧ Z' p = some (.tup [.int (roomsT f l - 1), .int (roomsT f l - 1 - whole (roomsT f l - 1)), .ref c]) ∧ Lm Z' H' c ((keysT_ f l (roomsT f l - 1)).filter fun x => decide (x ≠ k))
noncomputable def spTDrop (K : PySem.W.Frag) : Sp := fun vs H Q E => ∃ (a D : Addr) (w f : Int) (l : Row) (Z : Hp) (v : V) (n : String), vs = [.ref a, v] ∧ Tb K Z H a D w f l ∧ KindV K H v n ∧
  (keyV v = false → ∀ d, H d = none → E (.ref (clsA K "NoKey")) (some d) (upd H d (.xd [("key", v)]))) ∧
  ∀ k, v = .int k → keyV v = true →
    (k ∉ l.map Prod.fst → ∀ d, H d = none → E (.ref (clsA K "Lacking")) (some d) (upd H d (.xd [("key", v)]))) ∧
    (k ∈ l.map Prod.fst → ∀ r Z' H', T [D] Z H Z' H' → Tb K Z' H' a D w f (outE l k) → DropTold Z H Z' H' f l k r → Q r H')
end TR
namespace TR
open PySem L2
end TR

/-! all the stops of a keeper's steps: what stands there is found, and there are about as many rooms as there have to be -/
namespace TR
open PySem L2
/-- steps whose numbers of rooms are q alone -/
noncomputable def RoomsQ (q : Int) (ss : List Stp) : Prop := ∀ s ∈ ss, ∀ m, s = .rooms m → m = q
section
variable {w r k want f : Int} {es : Row} {t : Tx} {y : Yard} {ss : List Stp}
/-- what stands at a stop, and how many rooms there are -/
structure GoodK (w f : Int) (es : Row) (y : Yard) : Prop where
  ya : y.a = w
  g : GoodI w.toNat es y
  n : (y.b - roomsFor (es.length : Int) f).natAbs ≤ 1
/-- all the stops -/
noncomputable def KG (w f : Int) (y : Yard) (ss : List Stp) : Prop := ∀ m, ∃ es, Keys1 es ∧ GoodK w f es ((ss.take m).foldl doneY y)
end
end TR

/-! a text among texts -/
namespace TR
open PySem L2
end TR

/-! what is seen of keys -/
namespace TR
open PySem L2
noncomputable def tNoneT : Tx := ⟨"none", by decide +kernel⟩
/-- what asking for a key tells: the thing and the looks, or none and the key -/
noncomputable def askD (y : Yard) (k : Int) : Tx × Int := match fY y k with | some x => (x, (foundI y k).2) | none => (tNoneT, k)
noncomputable def seenE (es : Row) (ks : List Int) : Row := ks.filterMap fun k => (thingOf es k).map fun t => (k, t)
end TR

/-! the changes of a clean yard by the words of a law, their stops, and what mends them -/
namespace TR
open PySem L2
noncomputable def chgW (way : Str) (y : Yard) (k : Int) (t : Tx) : List Stp := if way = "split" then splitS y else if way = "join" then joinS y else if way = "drop" then dropS y k else putS y k t
section
variable {N : Nat} {w r k : Int} {es : Row} {t : Tx} {way : Str} {ks : List Int} {y : Yard}
end
section
variable {N : Nat} {w : Int} {ks : List Int} {y : Yard}
/-- a yard that can be mended: what stands in it, and its bounds -/
structure MY (w : Int) (ks : List Int) (es : Row) (y : Yard) : Prop where
  k1 : Keys1 es
  g : GoodI w.toNat es y
  yn : YN 27 w ks y
end
noncomputable def isRowB : Stp → Bool
  | .row _ _ _ => true
  | _ => false
end TR

/-! told steps: a list of them, each row the asker's own -/
namespace TR
open PySem L2
/-- a told step as it stands (its row with it): fp the row -/
noncomputable def ToldF (Z0 Z : Hp) (fp : List Addr) (v : V) : Stp → Prop
  | .row r b w => ∃ p q, fp = [q] ∧ v = .ref p ∧ Z p = some (.tup [.str "row", .int r, .int b, .ref q]) ∧ RowF Z0 Z q w
  | s => fp = [] ∧ Ik Z0 v s
/-- a list of told steps: D the list, vs what it holds, L the rows -/
structure Told (Z H : Hp) (D : Addr) (vs : List V) (L : List (List Addr)) (ss : List Stp) : Prop where
  own : H D = some (.lst vs)
  nd : (D :: L.flatten).Nodup
  z : ∀ q ∈ D :: L.flatten, Z q = none
  zh : Ex Z H
  ln : L.length = ss.length
  it : ∀ (i : Nat) v (s : Stp) fp, vs[i]? = some v → ss[i]? = some s → L[i]? = some fp → match s with
    | .row r b w => ∃ p q, fp = [q] ∧ v = .ref p ∧ Z p = some (.tup [.str "row", .int r, .int b, .ref q]) ∧ RowO Z H q w
    | s => fp = [] ∧ Ik Z v s
  lv : vs.length = ss.length
section
variable {K : PySem.W.Frag} {σ : L2.St} {H Z : Hp} {te : TE} {Q : VK} {g : TG} {vs : List Nat}
end
noncomputable def spKLeft (K : PySem.W.Frag) : Sp := fun vs H Q _ => ∃ (a P : Addr) (w f : Int) (y : Yard) (ss : List Stp) (Z : Hp), vs = [.ref a] ∧ Kp K Z H a P w f y ss ∧ ss.length ≤ 40000 ∧
  ∀ (D : Addr) (ys : List V) (L : List (List Addr)) Z' H', T [] Z H Z' H' → Told Z' H' D ys L ss → (∀ b ∈ D :: L.flatten, H b = none) → Q (.ref D) H'
end TR

/-! told steps that stay as they are; a told step as data -/
namespace TR
open PySem L2
section
variable {K : PySem.W.Frag} {Z H Z' H' : Hp} {M : List Addr} {D : Addr} {vs : List V} {L : List (List Addr)} {ss : List Stp}
end
noncomputable def StpW : Stp → Prop
  | .row _ _ w => w.length ≤ 1000
  | _ => True
noncomputable def tZz : Tx := ⟨"zz", by decide +kernel⟩
/-- the first word of a step -/
noncomputable def stpN : Stp → Str
  | .rooms _ => "rooms"
  | .cut _ _ => "cut"
  | .row _ _ _ => "row"
end TR

/-! lists within lists, to any depth, that the asker may change -/
namespace TR
open PySem L2
noncomputable def notL : PyData → Bool
  | .list _ => false
  | _ => true
/-- v stands in H as x; its lists are M, and may be changed; what is no list stays -/
noncomputable def Ow : Nat → Hp → Hp → V → PyData → List Addr → Prop
  | 0, _, _, _, _, _ => False
  | d + 1, Z, H, v, x, M => (notL x = true ∧ Dt Z v x ∧ M = []) ∨
      ∃ (p : Addr) (us : List V) (L : List (PyData × List Addr)), v = .ref p ∧ H p = some (.lst us) ∧ Z p = none ∧ x = .list (L.map Prod.fst) ∧ M = p :: (L.map Prod.snd).flatten ∧ L.length ≤ 40000 ∧ Paired (fun u q => Ow d Z H u q.1 q.2) us L
section
variable {K : PySem.W.Frag} {M N : List Addr} {Z H Z' H' : Hp} {v : V} {x : PyData} {d : Nat}
end
section
variable {K : PySem.W.Frag} {σ : L2.St} {H Z : Hp} {te : TE} {Q : VK} {g : TG} {vs : List Nat} {d : Nat} {p : Addr} {us : List V} {L : List (PyData × List Addr)}
end
section
variable {K : PySem.W.Frag} {σ : L2.St} {H Z : Hp} {D : Ends} {g : TG} {ts : TS} {d : Nat} {p : Addr} {us : List V} {L : List (PyData × List Addr)}
end
end TR

namespace TR
/-- the keys of a key's room, and how many looks it costs -/
noncomputable def rowK (ks : List Int) (n k : Int) : List Int := (sortI ks).filter fun x => decide (roomOf x n = roomOf k n)
noncomputable def lookI (ks : List Int) (n w k : Int) : Int := 1 + (less (rowK ks n k) k : Int) / w
noncomputable def looksP (ks : List Int) (n w : Int) : List (Int × Int) := (sortI ks).map fun k => (k, lookI ks n w k)
/-- the keys of a room among the first ones -/
noncomputable def cntS (ks : List Int) (n : Int) (j : Nat) (r : Int) : Int := ((((sortI ks).take j).filter fun x => decide (roomOf x n = r)).length : Int)
/-- the looks of a room's keys, and their sum -/
noncomputable def lookRow (m : Nat) (w : Int) : List Int := (List.range m).map fun (i : Nat) => 1 + (i : Int) / w
end TR
namespace TR
open PySem L2
/-- a dict from rooms to lists of looks -/
noncomputable def DL (H : Hp) (d : Addr) (w : Int) (f : Int → Nat) (n : Nat) : Prop := ∃ kvs : List (L2.Key × V), H d = some (.dK kvs) ∧ kvs.length ≤ n ∧
  (∀ e ∈ kvs, ∃ (m : Nat) (a : Addr), m ≤ 1000 ∧ e.2 = .ref a ∧ a ≠ d ∧ H a = some (.lst ((lookRow m w).map V.int))) ∧
  ∀ r : Int, (valV kvs (Sum.inl r) = none ∧ f r = 0) ∨ ∃ a, valV kvs (Sum.inl r) = some (.ref a) ∧ a ≠ d ∧ H a = some (.lst ((lookRow (f r) w).map V.int))
section
variable {H : Hp} {Q : VK} {d : Addr} {w : Int} {f : Int → Nat} {n : Nat}
end
end TR

/-! what six questions answer, as own lists -/
namespace TR
open PySem L2
section
variable {K : PySem.W.Frag} {Z H H' : Hp} {p : Addr} {qs : List Addr} {v : V} {us : List V} {d : Nat}
end
/-- the first place of m -/
noncomputable def posI : List Int → Int → Nat
  | [], _ => 0
  | x :: l, m => if x = m then 0 else posI l m + 1
noncomputable def rowLensI (ks : List Int) (n w : Int) : List Int := ((spl (sortI ks) n).map fun r => (r.length : Int)).map fun m => rowsI m w
noncomputable def ansI (way : Int) (ks : List Int) (n w : Int) : PyData :=
  if way = 0 then Py.d (spl (sortI ks) n) else
  if way = 1 then Py.d ((spl (sortI ks) n).map fun r => (r.length : Int)) else
  if way = 2 then Py.d (rowsOf ks w) else
  if way = 3 then Py.d (looksP ks n w) else
  if way = 4 then Py.d (maxI (rowLensI ks n w), ((posI (rowLensI ks n w) (maxI (rowLensI ks n w)) : Nat) : Int)) else
  Py.d ((cutI ks none (some 9)).map fun k => lookedI (rowsOf ks w) k 0)
/-- told twice it is alike -/
noncomputable def OkD (x : PyData) : Prop := SeqAt.shaped x = true ∧ PyData.eqv x x = true
section
variable {K : PySem.W.Frag} {H : Hp} {Q : VK}
end
end TR

/-! steps whose rows are the asker's own; what stays for a while only -/
namespace TR
open PySem L2
noncomputable def isRow : Stp → Bool
  | .row _ _ _ => true
  | _ => false
/-- vs stand as the steps ss; F: the rows, each its own -/
inductive SA (Z H : Hp) : List V → List Addr → List Stp → Prop
  | nil : SA Z H [] [] []
  | flat {v : V} {s : Stp} {vs : List V} {F : List Addr} {ss : List Stp} : isRow s = false → Ik Z v s → SA Z H vs F ss → SA Z H (v :: vs) F (s :: ss)
  | row {p q : Addr} {r a : Int} {w : Row} {vs : List V} {F : List Addr} {ss : List Stp} : Z p = some (.tup [.str "row", .int r, .int a, .ref q]) → RowO Z H q w → SA Z H vs F ss → SA Z H (.ref p :: vs) (q :: F) (.row r a w :: ss)
structure Sm (Z H : Hp) (D : Addr) (F : List Addr) (ss : List Stp) : Prop where
  ex : ∃ vs, H D = some (.lst vs) ∧ SA Z H vs F ss
  nd : (D :: F).Nodup
  z : ∀ q ∈ D :: F, Z q = none
  zh : Ex Z H
section
variable {K : PySem.W.Frag} {Z H Z' H' Z1 : Hp} {M F G : List Addr} {vs us : List V} {ss s2 : List Stp} {D D' q p : Addr} {v : V} {Q : VK}
end
/-! what stays for a while -/
structure Tmp (F : List Addr) (Z H Z1 : Hp) : Prop where
  z : ∀ q ∈ F, Z q = none
  l : ∀ q ∈ F, ∃ us, H q = some (.lst us)
  e : Ex Z Z1
  eh : Ex Z1 H
  i : ∀ q ∈ F, Z1 q = H q
  o : ∀ q, q ∉ F → Z1 q = Z q
/-- no list in it -/
noncomputable def noL : PyData → Bool
  | .list _ => false
  | .tuple xs => noLs xs
  | _ => true
where noLs : List PyData → Bool
  | [] => true
  | x :: xs => noL x && noLs xs
section
variable {K : PySem.W.Frag} {Z H Z' H' Z1 : Hp} {M F G : List Addr} {vs us : List V} {ss s2 : List Stp} {D D' q p : Addr} {v : V} {Q : VK}
end
end TR
namespace TR
open PySem L2
section
variable {K : PySem.W.Frag} {Z H Z' H' Z1 : Hp} {M F G : List Addr} {us : List V} {ss : List Stp} {D D' q p a : Addr} {v : V} {Q : VK} {α : Type} {iα : Py α} {l : List α}
end
section
variable {K : PySem.W.Frag} {σ : L2.St} {H Z : Hp} {te : TE} {tx : TT} {Q : VK} {g : TG} {vs : List Nat} {p D : Addr} {us : List V} {F : List Addr} {ss : List Stp}
end
section
variable {K : PySem.W.Frag} {σ : L2.St} {H Z : Hp} {D : Ends} {g : TG} {ts : TS} {p : Addr} {us : List V} {Ms : List (List Addr)}
end
end TR
namespace TR
open PySem L2
/-! data of any make, equal to itself -/
noncomputable def OkN (n : Nat) (x : PyData) : Prop := x.depth ≤ n ∧ x.canLay0 = true ∧ PyData.eqv x x = true
theorem okN_of {α : Type} [Py α] (a : α) {n : Nat} (h : Py.dep α ≤ n) : OkN n (Py.d a) := ⟨Nat.le_trans (Py.depth a) h, Py.can a, (Py.eqv a a).mpr rfl⟩
theorem okN_all {n : Nat} : ∀ {ds : List PyData}, (∀ x ∈ ds, OkN n x) → PyData.depthAll ds ≤ n ∧ PyData.canLayAll0 ds = true ∧ PyData.eqvAll ds ds = true
  | [], _ => ⟨Nat.zero_le _, rfl, by simp [PyData.eqvAll]⟩
  | x :: ds, h => by
    obtain ⟨h1, h2, h3⟩ := h x List.mem_cons_self
    obtain ⟨g1, g2, g3⟩ := okN_all fun y hy => h y (List.mem_cons_of_mem _ hy)
    refine ⟨?_, ?_, ?_⟩
    · rw [PyData.depthAll]; exact Nat.max_le.mpr ⟨h1, g1⟩
    · rw [PyData.canLayAll0, h2, g2]; rfl
    · rw [PyData.eqvAll, h3, g3]; rfl
theorem okN_list {n : Nat} {ds : List PyData} (h : ∀ x ∈ ds, OkN n x) : OkN (n + 1) (.list ds) := by
  obtain ⟨g1, g2, g3⟩ := okN_all h
  exact ⟨by rw [PyData.depth]; exact Nat.succ_le_succ g1, by rw [PyData.canLay0]; exact g2, by rw [PyData.eqv]; exact g3⟩
theorem okN_tup {n : Nat} {ds : List PyData} (h : ∀ x ∈ ds, OkN n x) : OkN (n + 1) (.tuple ds) := by
  obtain ⟨g1, g2, g3⟩ := okN_all h
  exact ⟨by rw [PyData.depth]; exact Nat.succ_le_succ g1, by rw [PyData.canLay0]; exact g2, by rw [PyData.eqv]; exact g3⟩
theorem OkN.ok {n : Nat} {x : PyData} (h : OkN n x) (hn : n ≤ 64) : OkD x := ⟨by
  unfold SeqAt.shaped
  rw [h.2.1, decide_eq_true (Nat.le_trans h.1 hn)]
  rfl, h.2.2⟩
theorem OkN.mono {n m : Nat} {x : PyData} (h : OkN n x) (hn : n ≤ m) : OkN m x := ⟨Nat.le_trans h.1 hn, h.2⟩
theorem okN_int (i : Int) : OkN 0 (.int i) := okN_of i (Nat.le_refl _)
theorem okN_bool (b : Bool) : OkN 0 (.bool b) := okN_of b (Nat.le_refl _)
noncomputable def cleanB (y : Yard) : Bool := @decide (CleanP y) (Classical.propDecidable _)
noncomputable def optD : Option Tx → PyData
  | none => .none
  | some x => .str x.1
section
variable {K : PySem.W.Frag} {Z H Z' H' : Hp} {M F G : List Addr} {us : List V} {ss : List Stp} {D q p : Addr} {v : V} {Q : VK}
end
end TR
namespace TR
open PySem L2
section
variable {w r k : Int} {es : Row} {way : Str} {t : Tx}
end
section
variable {w : Int} {ks : List Int} {y : Yard}
/-- what is told of a yard and its change -/
noncomputable def ansY (way : Str) (y : Yard) (k : Int) (t : Tx) : PyData :=
  let ss := chgW way y k t
  let y1 := (ss.take 1).foldl doneY y
  .list ([Py.d ss, Py.d (mendS y1)] ++ ([y1, ⟨y1.a, y1.b, mendC y1⟩, ss.foldl doneY y, doneY y (.rooms (1 + y.b % 5)), y] : List Yard).map Py.d ++ [.tuple [optD (fY y1 k), .int (foundI y1 k).2], .bool (cleanB y1)] ++ [.bool true])
end
end TR
namespace TR
open PySem L2
section
variable {K : PySem.W.Frag} {Z H Z' H' Zt : Hp} {A F : List Addr} {D p : Addr} {qs : List Addr} {rss : List (List Row)} {o : List V}
noncomputable def Dis (X Y : List Addr) : Prop := ∀ b ∈ Y, b ∉ X
/-- a yard that may be spoilt -/
noncomputable def SpP (u : V) (M : List Addr) (Z H : Hp) : Prop := ∃ (p D : Addr) (qs G : List Addr) (a b : Int), u = .ref p ∧ M = D :: (qs ++ G) ∧ Z p = some (.tup [.int a, .int b, .ref D]) ∧ Sh Z H D qs G 27 8 ∧ qs.length ≤ 60
end
end TR
namespace TR
open PySem L2
section
variable {K : PySem.W.Frag} {σ : L2.St} {H Z : Hp} {te : TE} {Q : VK} {g : TG} {vs : List Nat}
theorem dtAll_len {Z : Hp} : ∀ {us : List V} {ds : List PyData}, DtAll Z us ds → us.length = ds.length
  | _, _, .nil => rfl
  | _, _, .cons _ t => congrArg Nat.succ (dtAll_len t)
end
end TR
namespace TR
open PySem L2
end TR
namespace TR
open PySem L2
end TR

/-! data in lists and tuples: the asker's own lists within, or such that stay -/
namespace TR
open PySem L2
mutual
/-- v stands as x; M: its own lists. b: no other lists in it -/
inductive Ot (b : Bool) (Z H : Hp) : V → PyData → List Addr → Prop
  | fr {v : V} {x : PyData} : (b = true → noL x = true) → Dt Z v x → Ot b Z H v x []
  | lst {p : Addr} {us : List V} {xs : List PyData} {M : List Addr} : H p = some (.lst us) → Z p = none → OtAll b Z H us xs M → Ot b Z H (.ref p) (.list xs) (p :: M)
  | tup {p : Addr} {us : List V} {xs : List PyData} {M : List Addr} : Z p = some (.tup us) → OtAll b Z H us xs M → Ot b Z H (.ref p) (.tuple xs) M
inductive OtAll (b : Bool) (Z H : Hp) : List V → List PyData → List Addr → Prop
  | nil : OtAll b Z H [] [] []
  | cons {v : V} {x : PyData} {vs : List V} {xs : List PyData} {M N : List Addr} : Ot b Z H v x M → OtAll b Z H vs xs N → OtAll b Z H (v :: vs) (x :: xs) (M ++ N)
end
section
variable {K : PySem.W.Frag} {b : Bool} {M N F : List Addr} {Z H Z' H' Z1 : Hp} {v : V} {x : PyData} {us : List V} {xs : List PyData}
end
end TR

/-! comprehensions and loops over lists and tuples of any data -/
namespace TR
open PySem L2 RZ PySem.Spec PyProof.Rows
/-- what is walked is one of two kinds -/
noncomputable def iOr (w1 w2 : TI) : TI := fun σ H R => w1 σ H R ∨ w2 σ H R
/-- tuple(..) of a list that is made -/
noncomputable def rTupL (K : PySem.W.Frag) : List V → Hp → VK → Prop := fun xs H Q => ∃ p ys, xs = [.ref p] ∧ ((SqL K H p ys ∧ ∀ l, H l = none → Q (.ref l) (upd H l (.tup ys))) ∨ (SqT K H p ys ∧ Q (.ref p) H))
section
variable {K : PySem.W.Frag} {σ : L2.St} {H Z : Hp} {te : TE} {tx : TT} {Q : VK} {g : TG} {ts : TS} {D : Ends} {vs : List Nat} {w1 w2 : TI}
noncomputable def LcZA (K : PySem.W.Frag) (g : TG) (tt : TT) (te : TE) (vs : List Nat) (σ : L2.St) (x : List V) (H1 : Hp) (Q : VK) : Prop := ∃ a b xs ys, x = [.ref a, .ref b] ∧ ((SqL K H1 a xs ∧ SqL K H1 b ys ∧ LcJ g tt te vs σ (Itz K a b) H1 Q) ∨ (SqT K H1 a xs ∧ SqT K H1 b ys ∧ LcJ g tt te vs σ (ItzT K a b) H1 Q))
variable {b b' : Bool} {M N : List Addr} {us ws : List V} {xs : List PyData} {p q : Addr}
end
end TR
namespace TR
open PySem L2
/-- every list and tuple in it has at most a thousand things -/
noncomputable def wid : PyData → Bool
  | .list xs => decide (xs.length ≤ 1000) && wids xs
  | .tuple xs => decide (xs.length ≤ 1000) && wids xs
  | _ => true
where wids : List PyData → Bool
  | [] => true
  | x :: xs => wid x && wids xs
end TR
namespace TR
open PySem L2
end TR

/-! comprehensions whose things are the asker's own -/
namespace TR
open PySem L2
mutual
/-- own things that stay for a while: M their lists -/
inductive Fo (Z : Hp) : V → PyData → List Addr → Prop
  | fr {v : V} {x : PyData} : noL x = true → Dt Z v x → Fo Z v x []
  | lst {p : Addr} {us : List V} {xs : List PyData} {M : List Addr} : Z p = some (.lst us) → FoAll Z us xs M → Fo Z (.ref p) (.list xs) (p :: M)
  | tup {p : Addr} {us : List V} {xs : List PyData} {M : List Addr} : Z p = some (.tup us) → FoAll Z us xs M → Fo Z (.ref p) (.tuple xs) M
inductive FoAll (Z : Hp) : List V → List PyData → List Addr → Prop
  | nil : FoAll Z [] [] []
  | cons {v : V} {x : PyData} {vs : List V} {xs : List PyData} {M N : List Addr} : Fo Z v x M → FoAll Z vs xs N → FoAll Z (v :: vs) (x :: xs) (M ++ N)
end
section
variable {M N F : List Addr} {Z H Z' H' Z1 : Hp} {v : V} {x : PyData} {us : List V} {xs : List PyData}
end
section
variable {K : PySem.W.Frag} {σ : L2.St} {H Z : Hp} {te : TE} {Q : VK} {g : TG} {vs : List Nat} {a : Addr} {us : List V}
end
end TR

/-! a keeper, a hand, and a dict beside of what stands behind the keeper's steps -/
namespace TR
open PySem L2
structure KSt (K : PySem.W.Frag) (Z0 H0 : Hp) (h a P0 d0 : Addr) (w f : Int) (ks : List Int) (n : Nat) (P d : Addr) (y : Yard) (ss : List Stp) (es : Row) (Z H : Hp) : Prop where
  t : T [h, a, P0, d0] Z0 H0 Z H
  ha : h ≠ a
  hP : h ≠ P
  hd : h ≠ d
  ad : a ≠ d
  Pd : P ≠ d
  fP : P = P0 ∨ H0 P = none
  fd : d = d0 ∨ H0 d = none
  hh : Hand K Z H h n
  kp : Kp K Z H a P w f y ss
  ki : KI 16 w f ks y ss
  kg : KG w f y ss
  dm : Dm Z H d es
  k1 : Keys1 es
  st : sortE es = standY (ss.foldl doneY y)
section
variable {K : PySem.W.Frag} {Z0 H0 Z H Z' H' : Hp} {h a P0 d0 P P' d d' : Addr} {w f : Int} {ks : List Int} {n m : Nat} {y y' : Yard} {ss ss' : List Stp} {es es' : Row} {M : List Addr}
end
end TR

/-! what keepers tell, wrecked by the asker -/
namespace TR
open PySem L2
/-- wrecked: turned about, a thing more, all the way down -/
noncomputable def wrk : PyData → PyData
  | .list xs => .list ((wrks xs).reverse ++ [.tuple [.int 9, .str "zz"]])
  | .tuple xs => .tuple (wrks xs)
  | x => x
where wrks : List PyData → List PyData
  | [] => []
  | x :: xs => wrk x :: wrks xs
/-- every list and tuple in it has at most b things -/
noncomputable def widB (b : Nat) : PyData → Bool
  | .list xs => decide (xs.length ≤ b) && wids xs
  | .tuple xs => decide (xs.length ≤ b) && wids xs
  | _ => true
where wids : List PyData → Bool
  | [] => true
  | x :: xs => widB b x && wids xs
section
variable {b : Nat}
theorem widBs_of : ∀ {xs : List PyData}, (∀ x ∈ xs, widB b x = true) → widB.wids b xs = true
  | [], _ => rfl
  | x :: xs, h => by
    show (widB b x && widB.wids b xs) = true
    rw [h x List.mem_cons_self, widBs_of fun y hy => h y (List.mem_cons_of_mem _ hy)]
    rfl
theorem widB_mkL {xs : List PyData} (h : xs.length ≤ b) (g : ∀ x ∈ xs, widB b x = true) : widB b (.list xs) = true := by
  show (decide (xs.length ≤ b) && widB.wids b xs) = true
  rw [decide_eq_true h, widBs_of g]
  rfl
theorem widB_mkT {xs : List PyData} (h : xs.length ≤ b) (g : ∀ x ∈ xs, widB b x = true) : widB b (.tuple xs) = true := widB_mkL h g
end
/-- data that fits: its depth, its widths, equal to itself -/
structure FitD (n b : Nat) (x : PyData) : Prop where
  ok : OkN n x
  wd : widB b x = true
section
variable {n b : Nat} {x : PyData} {xs : List PyData}
theorem FitD.list (l : xs.length ≤ b) (h : ∀ x ∈ xs, FitD n b x) : FitD (n + 1) b (.list xs) := ⟨okN_list fun x hx => (h x hx).ok, widB_mkL l fun x hx => (h x hx).wd⟩
theorem FitD.tup (l : xs.length ≤ b) (h : ∀ x ∈ xs, FitD n b x) : FitD (n + 1) b (.tuple xs) := ⟨okN_tup fun x hx => (h x hx).ok, widB_mkT l fun x hx => (h x hx).wd⟩
end
end TR
namespace TR
open PySem L2 PySem.Spec PyProof.Rows
section
variable {K : PySem.W.Frag} {σ : L2.St} {H Z : Hp} {te : TE} {tx : TT} {Q : VK} {g : TG} {ts : TS} {D : Ends} {vs : List Nat}
variable {b : Bool} {M N : List Addr} {us : List V} {xs : List PyData} {p q : Addr} {v : V} {x : PyData}
end
end TR
namespace TR
open PySem L2
section
variable {Z H : Hp} {Q : VK} {p : Addr} {us vs : List V} {v : V} {xs ys : List PyData}
end
end TR
namespace TR
open PySem L2
end TR
namespace TR
open PySem L2
section
variable {K : PySem.W.Frag} {Z H Z1 H1 : Hp} {D p : Addr} {M : List Addr}
end
end TR
namespace TR
open PySem L2
/-- found, or lacking -/
noncomputable def fndD (y : Yard) (k : Int) : PyData := match fY y k with
  | some x => .tuple [.str x.1, .int (foundI y k).2]
  | none => .tuple [.str "lacking", .int k]
noncomputable def stlB (f : Int) (y : Yard) (ss : List Stp) : Bool := @decide (SettledP f y ss) (Classical.propDecidable _)
/-- what a keeper answers -/
noncomputable def ansK (w f : Int) (y : Yard) (ss : List Stp) (ks : List Int) : Nat → PyData
  | 0 => Py.d ss
  | 1 => Py.d (standY y)
  | 2 => Py.d y
  | 3 => .list (ks.map (fndD y))
  | _ => .list [.bool (stlB f y ss), .int w, .int f]
/-- what the law's keepers may be -/
structure KQ (w : Int) (ks : List Int) (y : Yard) (ss : List Stp) : Prop where
  yn : YN 16 w ks y
  ok : ∀ s ∈ ss, StpN 16 ks s
  ln : ss.length ≤ 17000
noncomputable def PoolOk (ks : List Int) : Prop := ks.length ≤ 11 ∧ ∀ k ∈ ks, 0 ≤ k ∧ k < 1152921504606846976
section
variable {w f : Int} {ks : List Int} {y : Yard} {s : Stp} {ss : List Stp}
/-! all of it fits -/
theorem fit_int {n b : Nat} (i : Int) : FitD n b (.int i) := ⟨(okN_int i).mono (Nat.zero_le _), rfl⟩
theorem fit_bool {n b : Nat} (i : Bool) : FitD n b (.bool i) := ⟨(okN_bool i).mono (Nat.zero_le _), rfl⟩
theorem fit_tx {n b : Nat} (x : Tx) : FitD n b (.str x.1) := ⟨okN_of x (Nat.zero_le _), rfl⟩
end
noncomputable def allD (X : Nat → PyData) : PyData := .list [.list ((List.range 5).map X), .list ((List.range 5).map fun n => wrk (X n))]
/-! what is asked, by its number, in a dict -/
structure Vd (Z H : Hp) (d : Addr) (kvs : List (L2.Key × V)) : Prop where
  h : H d = some (.dK kvs)
  zd : Z d = none
  zh : Ex Z H
section
variable {K : PySem.W.Frag} {Z H Z' H' : Hp} {d : Addr} {M : List Addr} {kvs : List (L2.Key × V)} {k : Int} {v : V} {Q : VK} {R : Hp → Prop}
end
/-- asked so far: the answers by their numbers, each the asker's own -/
structure Askd (Z0 H0 Z H : Hp) (d : Addr) (X : Nat → PyData) (P : Nat → Prop) (U : Nat → V) (MM : Nat → List Addr) (kvs : List (L2.Key × V)) : Prop where
  vd : Vd Z H d kvs
  t : T [] Z0 H0 Z H
  nd0 : H0 d = none
  get : ∀ k : Nat, P k → valV kvs (Sum.inl (k : Int)) = some (U k)
  ot : ∀ k : Nat, P k → Ot true Z H (U k) (X k) (MM k)
  nd : ∀ k, P k → (MM k).Nodup
  dis : ∀ k l, P k → P l → k ≠ l → ∀ b ∈ MM k, b ∉ MM l
  dn : ∀ k, P k → d ∉ MM k
  fr : ∀ k, P k → ∀ b ∈ MM k, H0 b = none
section
variable {Z0 H0 Z H Z' H' Z2 H2 : Hp} {d : Addr} {X : Nat → PyData} {P P' : Nat → Prop} {U : Nat → V} {MM : Nat → List Addr} {kvs : List (L2.Key × V)} {a : Nat} {v : V} {M : List Addr}
/-- wrecked so far -/
structure Wrkd (Z0 H0 Z H : Hp) (d : Addr) (X : Nat → PyData) (i : Nat) (U : Nat → V) (MM : Nat → List Addr) (kvs : List (L2.Key × V)) : Prop where
  vd : Vd Z H d kvs
  t : T [] Z0 H0 Z H
  get : ∀ k : Nat, k < 5 → valV kvs (Sum.inl (k : Int)) = some (U k)
  dt : ∀ k : Nat, k < i → k < 5 → Dt Z (U k) (wrk (X k))
  ot : ∀ k : Nat, i ≤ k → k < 5 → Ot true Z H (U k) (X k) (MM k)
  nd : ∀ k, k < 5 → (MM k).Nodup
  dis : ∀ k l, k < 5 → l < 5 → k ≠ l → ∀ b ∈ MM k, b ∉ MM l
  dn : ∀ k, k < 5 → d ∉ MM k
  fr : ∀ k, k < 5 → ∀ b ∈ MM k, H0 b = none
end
end TR
namespace TR
open PySem L2
end TR
namespace TR
open PySem L2
end TR
namespace TR
open PySem L2
end TR
namespace TR
open PySem L2
/-- a keeper and a hand, changed in turns -/
structure AQ (K : PySem.W.Frag) (Z0 H0 : Hp) (h a P0 : Addr) (w f : Int) (ks : List Int) (n : Nat) (P : Addr) (y : Yard) (ss : List Stp) (Z H : Hp) : Prop where
  t : T [h, a, P0] Z0 H0 Z H
  fP : P = P0 ∨ H0 P = none
  hP : h ≠ P
  ha : h ≠ a
  hh : Hand K Z H h n
  kp : Kp K Z H a P w f y ss
  kq : KQ w ks y ss
section
variable {K : PySem.W.Frag} {Z0 H0 Z H Z' H' : Hp} {h a P0 P P' : Addr} {w f : Int} {ks : List Int} {n m : Nat} {y y' : Yard} {ss ss' : List Stp}
end
/-- a deed of the law -/
noncomputable def DeedOk (ks : List Int) (d : T3 Tx Int Tx) : Prop := (d.a.1 = "put" ∨ d.a.1 = "drop") ∧ d.b ∈ ks ∧ nameB d.c.1 = true
end TR
namespace TR
open PySem L2
/-- two keepers, a hand and a pool, all new since (Z0, H0) -/
structure WQ (K : PySem.W.Frag) (Z0 H0 : Hp) (h pp : Addr) (ks : List Int) (n : Nat) (a P : Addr) (w f : Int) (y : Yard) (ss : List Stp) (b Q : Addr) (v g : Int) (u : Yard) (rr : List Stp) (Z H : Hp) : Prop where
  t : T [] Z0 H0 Z H
  nh : H0 h = none
  na : H0 a = none
  nP : H0 P = none
  nb : H0 b = none
  nQ : H0 Q = none
  hh : Hand K Z H h n
  k1 : Kp K Z H a P w f y ss
  k2 : Kp K Z H b Q v g u rr
  q1 : KQ w ks y ss
  q2 : KQ v ks u rr
  ls : Ls Z pp ks
  ha : h ≠ a
  hP : h ≠ P
  hb : h ≠ b
  hQ : h ≠ Q
  ab : a ≠ b
  aQ : a ≠ Q
  Pb : P ≠ b
  PQ : P ≠ Q
section
variable {K : PySem.W.Frag} {Z0 H0 Z H Z' H' : Hp} {h pp a P b Q P' : Addr} {w f v g : Int} {ks : List Int} {n m : Nat} {y u y' : Yard} {ss rr ss' : List Stp}
end
end TR

/-! sorted of triples: two numbers and a text, no two unlike ones of the same first number -/
namespace SrtT
open PySem PySem.W PyProof.Rows SrtO
section
variable {prog : Program} {w : World} {A : Around} {E : Value → Shared → Prop} {s : Shared}
noncomputable def IsP3 (h : Heap) (v : Value) (x : Int) (y : Int × Str) : Prop := ∃ a o t r u n, v = .ref a ∧ h.get? a = some o ∧ o.cls = .type "tuple" ∧ o.data = .seq #[.int x t, .int y.1 r, .str y.2 u] n
noncomputable def ltI (p q : Int × (Int × Str)) : Bool := decide (p.1 < q.1)
theorem swo_I {α : Type} (k : α → Int × (Int × Str)) : Swo fun v u => ltI (k v) (k u) := by
  unfold ltI
  refine ⟨fun x y h => ?_, fun x y z h1 h2 => ?_⟩
  · have a := of_decide_eq_true h
    exact decide_eq_false (by omega)
  · have a := of_decide_eq_false h1
    have b := of_decide_eq_false h2
    exact decide_eq_false (by omega)
end
end SrtT
namespace L2
open PySem PySem.Spec PyProof.Rows
noncomputable def TriV (K : PySem.W.Frag) (H : Hp) (x : V) (e : Int × (Int × Str)) : Prop := ∃ t, x = V.ref t ∧ SqT K H t [.int e.1, .int e.2.1, .str e.2.2]
noncomputable def rSortedP3 (K : PySem.W.Frag) : List V → Hp → VK → Prop := fun vs H Q => ∃ (a : Addr) (xs : List V) (l : List (Int × (Int × Str))), vs = [V.ref a] ∧ SqL K H a xs ∧ Paired (TriV K H) xs l ∧
  (∀ x ∈ l, ∀ y ∈ l, x.1 = y.1 → x.2 = y.2) ∧
  ∀ (ps : List (V × (Int × (Int × Str)))) p, ps.Pairwise (fun x y => x.2.1 ≤ y.2.1) → ps.Perm (xs.zip l) → H p = none → Q (.ref p) (upd H p (.lst (ps.map Prod.fst)))
/-- xs[a:c] = ys of another list -/
noncomputable def rSetSl : V → Option Int → Option Int → V → Hp → (Hp → Prop) → Prop := fun o lo hi v H Q => ∃ (l b : Addr) (xs ys : List V) (a c : Int), o = .ref l ∧ v = .ref b ∧ lo = some a ∧ hi = some c ∧ H l = some (.lst xs) ∧ H b = some (.lst ys) ∧ l ≠ b ∧ 0 ≤ a ∧ a ≤ c ∧ c ≤ xs.length ∧ xs.length + ys.length ≤ PySem.sizeLine ∧ Q (upd H l (.lst (xs.take a.toNat ++ ys ++ xs.drop c.toNat)))
noncomputable def gSubSl (to : TE) (tl th : TO) : TG := fun v σ H Q => to σ H fun x H1 => tl σ H1 fun l H2 => th σ H2 fun u H3 => rSetSl x l u v H3 fun H4 => Q σ H4
end L2

/-! d == {} -/
namespace L2
open PySem PySem.W PySem.Spec TR
section
variable {X : Cx}
noncomputable def rEqD0 : R2 := fun x y H Q => ∃ a b ks, x = .ref a ∧ y = .ref b ∧ H a = some (.dK ks) ∧ H b = some (.dK []) ∧ Q (.bl (decide (ks.length = 0))) H
noncomputable def rNeD0 : R2 := fun x y H Q => ∃ a b ks, x = .ref a ∧ y = .ref b ∧ H a = some (.dK ks) ∧ H b = some (.dK []) ∧ Q (.bl (!decide (ks.length = 0))) H
end
end L2

/-! odd things, in the place of a number, a text or a key -/
namespace TR
open PySem L2
inductive OddV (Z : Hp) : V → String → Prop
  | int (i : Int) : OddV Z (.int i) "int"
  | bl (b : Bool) : OddV Z (.bl b) "bool"
  | str (x : Tx) (h : x.1.length ≤ 100000) : OddV Z (.str x.1) "str"
  | non : OddV Z .non "NoneType"
  | lst {a : Addr} {i : Int} (h : Z a = some (.lst [.int i])) : OddV Z (.ref a) "list"
  | tup {a : Addr} {i : Int} (h : Z a = some (.tup [.int i])) : OddV Z (.ref a) "tuple"
  | dct {a : Addr} (h : Z a = some (.dK [])) : OddV Z (.ref a) "dict"
section
variable {K : PySem.W.Frag} {Z H Z' H' : Hp} {v : V} {n : String}
theorem ig_mem {Q : VK} {xs : List V} {i : Int} (h : 0 ≤ i ∧ i < xs.length) (q : ∀ v, v ∈ xs → xs[i.toNat]? = some v → Q v H) : IxGo xs i H Q := by
  have hl : i.toNat < xs.length := by omega
  exact ⟨xs[i.toNat], atI_lt h.1 (List.getElem?_eq_getElem hl), q _ (List.getElem_mem hl) (List.getElem?_eq_getElem hl)⟩
end
/-- a list of six things -/
structure HL6 (α β γ δ ε ζ : Type) where
  a : α
  b : β
  c : γ
  d : δ
  e : ε
  f : ζ
  deriving DecidableEq
instance {α β γ δ ε ζ : Type} [Py α] [Py β] [Py γ] [Py δ] [Py ε] [Py ζ] : Py (HL6 α β γ δ ε ζ) := ⟨fun p => .list [Py.d p.a, Py.d p.b, Py.d p.c, Py.d p.d, Py.d p.e, Py.d p.f], max (Py.dep α) (max (Py.dep β) (max (Py.dep γ) (max (Py.dep δ) (max (Py.dep ε) (Py.dep ζ))))) + 1, fun p => by
    simp only [PyData.depth, PyData.depthAll]
    have h1 := Py.depth p.a
    have h2 := Py.depth p.b
    have h3 := Py.depth p.c
    have h4 := Py.depth p.d
    have h5 := Py.depth p.e
    have h6 := Py.depth p.f
    omega, fun p => by simp only [PyData.canLay0, PyData.canLayAll0, Py.can]; rfl, fun a b => by
    obtain ⟨a1, a2, a3, a4, a5, a6⟩ := a
    obtain ⟨b1, b2, b3, b4, b5, b6⟩ := b
    simp only [PyData.eqv, PyData.eqvAll, Bool.and_true, Bool.and_eq_true, Py.eqv, HL6.mk.injEq]⟩
/-- what is asked with sizes -/
noncomputable def TolD : Type := Tx × HL6 Int Int Int Int Row (List Row)
noncomputable def toldS : Tx := ⟨"told", by decide +kernel⟩
noncomputable def spAsked32 (K : PySem.W.Frag) : Sp := fun vs H Q _ => ∃ (v u : V) (n m : String) (Z : Hp), vs = [v, u] ∧ Ex Z H ∧ KindV K H v n ∧ KindV K H u m ∧
  (∀ w f, v = .int w → u = .int f → 1 ≤ w ∧ w ≤ 8 → 1 ≤ f ∧ f ≤ 8 → ∀ (p L e r : Addr) Z' H', T [] Z H Z' H' → Z' p = some (.tup [.str "told", .ref L]) → Z' L = some (.lst [.int w, .int f, .int 0, .int 1, .ref e, .ref r]) → Ik Z' (.ref p) ((toldS, HL6.mk w f 0 1 [] [[]]) : Tx × HL6 Int Int Int Int Row (List Row)) → Q (.ref p) H') ∧
  (∀ o, (sizeV v = false ∧ o = v ∨ sizeV v = true ∧ sizeV u = false ∧ o = u) → ∀ (p : Addr) Z' H', T [] Z H Z' H' → Z' p = some (.tup [.str "refused", o]) → Q (.ref p) H')
noncomputable def spSame32 (K : PySem.W.Frag) : Sp := fun vs H Q _ => ∃ (p : Addr) (v : V) (n : String) (Z : Hp), vs = [.ref p, v] ∧ Ex Z H ∧ OddV Z v n ∧ Z p = some (.tup [.str "refused", v]) ∧ Q (.bl true) H
noncomputable def spOdd32 (K : PySem.W.Frag) : Sp := fun vs H Q _ => ∃ (h : Addr) (n : Nat) (Z : Hp), vs = [.ref h] ∧ Hand K Z H h (n + 3) ∧
  ∀ (v : V) (m : String) Z' H', T [h] Z H Z' H' → Hand K Z' H' h n → OddV Z' v m → sizeV v = false → Q v H'
end TR
namespace TR
open PySem L2
theorem t_newF {Z H : Hp} {Q : VK} {vs : List V} (z : Ex Z H) (h : vs.length ≤ 100000) (q : ∀ p Z' H', H p = none → T [] Z H Z' H' → Z' p = some (.lst vs) → Q (.ref p) H') : NewL vs H Q := ⟨sz_of h, fun p hp => q p _ _ hp (T.new hp z) upd_same⟩
end TR
namespace TR
open PySem L2
end TR
namespace TR
open PySem L2
end TR
namespace TR
open PySem L2
end TR

namespace TR
/-- keys put to the rooms' counts -/
noncomputable def addI (ms p : List Int) : List Int := (ms.zip p).map fun q => q.1 + q.2
noncomputable def freeI (m w : Int) : Int := w * rowsI m w - m
noncomputable def Put (ms p : List Int) (more : Int) : Prop := p.length = ms.length ∧ (∀ x ∈ p, 0 ≤ x) ∧ p.sum = more
noncomputable def ceilI (x w : Int) : Int := (max 0 x + w - 1) / w
noncomputable def freeS (ms : List Int) (w : Int) : Int := (ms.map fun m => freeI m w).sum
/-- what a put of more keys costs at least -/
noncomputable def leastI (ms : List Int) (w more : Int) : Int := spillI ms w + ceilI (more - freeS ms w) w
/-- the way of least_spill -/
noncomputable def leastF (w : Int) (s : List Int × Int) (m : Int) : List Int × Int := (s.1 ++ [min s.2 (freeI m w)], s.2 - min s.2 (freeI m w))
noncomputable def leastSt (ms : List Int) (w more : Int) : List Int × Int := ms.foldl (leastF w) ([], more)
noncomputable def leastGo : List Int → Int → Int → List Int × Int
  | [], _, l => ([], l)
  | m :: ms, w, l => (min l (freeI m w) :: (leastGo ms w (l - min l (freeI m w))).1, (leastGo ms w (l - min l (freeI m w))).2)
noncomputable def leastPut (ms : List Int) (w more : Int) : List Int := (leastSt ms w more).1.set 0 ((leastSt ms w more).1.getD 0 0 + (leastSt ms w more).2)
end TR
namespace TR
/-- all puts, as lists -/
noncomputable def putsG : Nat → Int → List (List Int)
  | 0, _ => [[]]
  | k + 1, more => (putsG k more).flatMap fun p => (List.range (more - p.sum + 1).toNat).map fun (i : Nat) => p ++ [(i : Int)]
noncomputable def putsI (rooms : Nat) (more : Int) : List (List Int) := (putsG (rooms - 1) more).map fun p => p ++ [more - p.sum]
end TR

namespace TR
/-- what so many keys more get out of the needs, least first -/
noncomputable def greatG : List Int → Int → Int → Int
  | [], w, left => left / w
  | n :: ns, w, left => if left < n then 0 else 1 + greatG ns w (left - n)
noncomputable def over (l : Int) (ns : List Int) : Int := (ns.map fun n => max 0 (l - n)).sum
/-- the needs of the rooms that have keys -/
noncomputable def needV (ms : List Int) (w : Int) : List Int := (ms.filter fun m => decide (m > 0)).map fun m => freeI m w + 1
/-- the greatest spill behind any put -/
noncomputable def greatI (ms : List Int) (w more : Int) : Int := spillI ms w + (if needV ms w = [] then max 0 (more - 1) / w else greatG (sortI (needV ms w)) w more)
end TR
namespace TR
/-- the way of greatest_spill -/
noncomputable def greatF (s : List Int × Int) (nr : Int × Int) : List Int × Int := if nr.1 ≤ s.2 then (s.1.set nr.2.toNat nr.1, s.2 - nr.1) else s
/-- room by room: what a room needs for one row more -/
noncomputable def needP (ms : List Int) (w : Int) (j : Nat) : List (Int × Int) := ((List.range j).filter fun r => decide (ms.getD r 0 > 0)).map fun r => (freeI (ms.getD r 0) w + 1, (r : Int))
/-- a room of the list, with its need -/
noncomputable def NR (ms : List Int) (w : Int) (q : Int × Int) : Prop := ∃ r : Nat, r < ms.length ∧ q.2 = (r : Int) ∧ ms.getD r 0 > 0 ∧ q.1 = freeI (ms.getD r 0) w + 1
/-- a put on the way: what stands, what is left -/
structure Way (ms p : List Int) (left more : Int) : Prop where
  len : p.length = ms.length
  nn : ∀ x ∈ p, 0 ≤ x
  sum : p.sum + left = more
  lf : 0 ≤ left
noncomputable def greatSt (ms : List Int) (w more : Int) : List Int × Int := (sortP (needP ms w ms.length)).foldl greatF (List.replicate ms.length 0, more)
noncomputable def restOf (L : List (Int × Int)) : Int := match L with | [] => 0 | q :: _ => q.2
noncomputable def greatPut (ms : List Int) (w more : Int) : List Int := (greatSt ms w more).1.set (restOf (sortP (needP ms w ms.length))).toNat ((greatSt ms w more).1.getD (restOf (sortP (needP ms w ms.length))).toNat 0 + (greatSt ms w more).2)
end TR
namespace TR
end TR
namespace TR
/-- what so many rows more cost at least -/
noncomputable def costG (ns : List Int) (w : Int) (E : Nat) : Int := (ns.take E).sum + w * ((E - ns.length : Nat) : Int)
/-- the fewest keys behind which the spill may be so great -/
noncomputable def fewestI (ms : List Int) (w limit : Int) : Int :=
  if limit - spillI ms w ≤ 0 then 0 else if needV ms w = [] then (limit - spillI ms w) * w + 1 else costG (sortI (needV ms w)) w (limit - spillI ms w).toNat
noncomputable def mostI (ms : List Int) (w limit : Int) : Int := (limit - spillI ms w) * w + freeS ms w
end TR

/-! truths among numbers: max, min, +, - -/
namespace PySem.NB
open PySem PySem.Spec PyProof.Rows
/-- a number, or a truth as a number -/
inductive NumV : Value → Int → Prop
  | int (n : Int) (t : Tok) : NumV (.int n t) n
  | bl (b : Bool) : NumV (.bool b) (if b = true then 1 else 0)
section
variable {prog : Program} {w : World} {A : Around} {E : Value → Shared → Prop} {s : Shared} {Q : Value → Shared → Prop}
end
end PySem.NB
namespace PySem.NB
open PySem PySem.Spec PyProof.Rows
section
variable {prog : Program} {w : World} {A : Around} {E : Value → Shared → Prop} {s : Shared} {Q : Value → Shared → Prop}
noncomputable def val2 (m n : Int) : Nat → Int
  | 0 => m
  | _ => n
end
end PySem.NB
namespace L2
open PySem PySem.Spec PyProof.Rows PySem.NB
/-- a number, or a truth as a number -/
inductive NumX : V → Int → Prop
  | int (n : Int) : NumX (.int n) n
  | bl (b : Bool) : NumX (.bl b) (if b = true then 1 else 0)
noncomputable def rMaxN : List V → Hp → VK → Prop := fun xs H Q => ∃ x y m n, xs = [x, y] ∧ NumX x m ∧ NumX y n ∧ Q (if n > m then y else x) H
noncomputable def rMinN : List V → Hp → VK → Prop := fun xs H Q => ∃ x y m n, xs = [x, y] ∧ NumX x m ∧ NumX y n ∧ Q (if n < m then y else x) H
noncomputable def rSubN : R2 := fun x y H Q => ∃ m n, NumX x m ∧ NumX y n ∧ Q (.int (m - n)) H
noncomputable def rAddN : R2 := fun x y H Q => ∃ m n, NumX x m ∧ NumX y n ∧ Q (.int (m + n)) H
section
variable {X : Cx}
end
end L2

/-! == of two tuples whose things are data, or the very same thing -/
namespace L2
open PySem PySem.W PySem.Spec TR
inductive EqV (K : PySem.W.Frag) (H : Hp) : V → V → Bool → Prop where
  | dat {x y : V} {d e : PyData} (h1 : Dp K H x d) (h2 : Dp K H y e) (s1 : SeqAt.shaped d = true) (s2 : SeqAt.shaped e = true) : EqV K H x y (PyData.eqv d e)
  | same (a : Addr) : EqV K H (.ref a) (.ref a) true
noncomputable def rEqT (K : PySem.W.Frag) : R2 := fun x y H Q => ∃ (a b : Addr) (xs ys : List V) (e : Nat → Bool), x = .ref a ∧ y = .ref b ∧ SqT K H a xs ∧ SqT K H b ys ∧ xs.length = ys.length ∧ (∀ (j : Nat) v w, xs[j]? = some v → ys[j]? = some w → EqV K H v w (e j)) ∧ Q (.bl ((List.range xs.length).all e)) H
section
variable {X : Cx}
end
end L2

/-! puts that were spoilt: lists of numbers and of other things -/
namespace TR
open PySem L2
/-- is it an int (a truth is one) -/
noncomputable def intV : V → Bool
  | .int _ => true
  | .bl _ => true
  | _ => false
noncomputable def blV : V → Bool
  | .bl _ => true
  | _ => false
noncomputable def okV : V → Bool
  | .int i => decide (0 ≤ i)
  | _ => false
noncomputable def iofV : V → Int
  | .int i => i
  | _ => 0
/-- of any of the odd kinds -/
noncomputable def OdE (Z : Hp) (v : V) : Prop := ∃ n, OddV Z v n
section
variable {K : PySem.W.Frag} {Z H Z' H' : Hp} {v : V} {n : String} {Q : VK}
end
/-- the thing that is handed: a list of such, or something else -/
inductive ThV (Z : Hp) : V → Option (List V) → Prop
  | lst {p : Addr} {us : List V} : Z p = some (.lst us) → (∀ u ∈ us, OdE Z u) → ThV Z (.ref p) (some us)
  | non : ThV Z .non none
  | int (i : Int) : ThV Z (.int i) none
  | str (x : Tx) : x.1.length ≤ 100000 → ThV Z (.str x.1) none
  | tup {p : Addr} {l : List Int} : Z p = some (.tup (l.map V.int)) → ThV Z (.ref p) none
  | dct {p : Addr} : Z p = some (.dK []) → ThV Z (.ref p) none
section
variable {K : PySem.W.Frag} {Z H Z' H' : Hp} {v : V} {n : String} {Q : VK} {th : Option (List V)}
end
/-- the put that a thing is -/
noncomputable def putL (n : Nat) (more : Int) : Option (List V) → Option (List Int)
  | none => none
  | some us => if us.length = n ∧ us.all okV = true ∧ (us.map iofV).sum = more then some (us.map iofV) else none
/-- is it a put of the greatest | least spill -/
noncomputable def isG (ms : List Int) (w more : Int) (th : Option (List V)) : Bool := match putL ms.length more th with
  | some p => decide (spillI (addI ms p) w = greatI ms w more)
  | none => false
noncomputable def isL (ms : List Int) (w more : Int) (th : Option (List V)) : Bool := match putL ms.length more th with
  | some p => decide (spillI (addI ms p) w = leastI ms w more)
  | none => false
section
variable {K : PySem.W.Frag} {σ : L2.St} {H Z : Hp} {te : TE} {Q : VK} {g : TG} {vs : List Nat} {a : Addr} {us : List V}
theorem t_catP {xs ys : List V} {b : Addr} (z : Ex Z H) (h : H a = some (.lst xs)) (g : H b = some (.lst ys)) (hz : xs.length + ys.length ≤ 100000) (k : ∀ p Z' H', H p = none → T [] Z H Z' H' → Z' p = some (.lst (xs ++ ys)) → Q (.ref p) H') : rPlus (.ref a) (.ref b) H Q :=
  .inr (.inl ⟨a, b, xs, ys, rfl, rfl, h, g, sz_of hz, fun p hp => k p _ _ hp (T.new hp z) upd_same⟩)
end
noncomputable def rInsP : V → List V → Hp → VK → Prop := fun x vs H Q => ∃ (l : Addr) (xs : List V) (i : Int) (y : V), x = .ref l ∧ vs = [.int i, y] ∧ H l = some (.lst xs) ∧ xs.length < PySem.sizeLine ∧ 0 ≤ i ∧ i < 2 ^ 63 ∧ Q .non (upd H l (.lst (xs.take i.toNat ++ [y] ++ xs.drop i.toNat)))
section
variable {K : PySem.W.Frag} {H Z : Hp} {Q : VK} {R : Hp → Prop} {a p : Addr} {us : List V} {v : V} {i : Int}
end
end TR
namespace L2
open PySem PySem.W PySem.Spec TR
section
variable {X : Cx}
/-- == of two lists of the very same things -/
noncomputable def rEqLS (K : PySem.W.Frag) : R2 := fun x y H Q => ∃ (a b : Addr) (us : List V), x = .ref a ∧ y = .ref b ∧ SqL K H a us ∧ SqL K H b us ∧ (∀ u ∈ us, EqV K H u u true) ∧ Q (.bl true) H
/-- == of a list with one without things -/
noncomputable def rEqNil (K : PySem.W.Frag) : R2 := fun x y H Q => ∃ (a b : Addr) (us : List V), x = .ref a ∧ y = .ref b ∧ SqL K H a us ∧ SqL K H b [] ∧ Q (.bl (decide (us.length = 0))) H
end
end L2
namespace TR
open PySem L2
end TR
namespace TR
open PySem L2
/-- a put's list at an address -/
noncomputable def PutAt (Z : Hp) (m : Nat) (v : V) : Prop := ∃ (p : Addr) (us : List V), v = .ref p ∧ Z p = some (.lst us) ∧ (∀ u ∈ us, OdE Z u) ∧ us.length ≤ m
end TR

/-! tables: looks, find; tables of the same entries in another order -/
namespace TR
open PySem L2
noncomputable def looksT (w f : Int) (l : Row) (k : Int) : Bool × Int := lookedI (rowsOf (keysT_ f l (roomOf k (roomsT f l))) w) k 0
noncomputable def spTLooks (K : PySem.W.Frag) : Sp := fun vs H Q E => ∃ (a D : Addr) (w f : Int) (l : Row) (Z : Hp) (v : V) (n : String), vs = [.ref a, v] ∧ Tb K Z H a D w f l ∧ KindV K H v n ∧
  (keyV v = false → ∀ d, H d = none → E (.ref (clsA K "NoKey")) (some d) (upd H d (.xd [("key", v)]))) ∧
  ∀ k, v = .int k → keyV v = true → ∀ p Z' H', H p = none → T [D] Z H Z' H' → Tb K Z' H' a D w f l → Z' p = some (.tup [.bl (looksT w f l k).1, .int (looksT w f l k).2]) → Q (.ref p) H'
noncomputable def spTFind (K : PySem.W.Frag) : Sp := fun vs H Q E => ∃ (a D : Addr) (w f : Int) (l : Row) (Z : Hp) (v : V) (n : String), vs = [.ref a, v] ∧ Tb K Z H a D w f l ∧ KindV K H v n ∧
  (keyV v = false → ∀ d, H d = none → E (.ref (clsA K "NoKey")) (some d) (upd H d (.xd [("key", v)]))) ∧
  ∀ k, v = .int k → keyV v = true →
    (k ∉ l.map Prod.fst → ∀ d, H d = none → E (.ref (clsA K "Lacking")) (some d) (upd H d (.xd [("key", v)]))) ∧
    (∀ t, thingOf l k = some t → ∀ p Z' H', H p = none → T [D] Z H Z' H' → Tb K Z' H' a D w f l → Z' p = some (.tup [.str t.1, .int (looksT w f l k).2]) → Q (.ref p) H')
section
variable {K : PySem.W.Frag} {Z H Z' H' : Hp} {Q : VK} {E : XK} {a D : Addr} {w f : Int} {l : Row} {k : Int}
end
/-! a looked for key -/
/-! the same entries in another order -/
section
variable {l m : Row} {w f r k : Int}
end
/-- what a law's state tells -/
noncomputable def cntsT (f : Int) (l : Row) : List Int := (List.range (roomsT f l).toNat).map fun (i : Nat) => ((keysT_ f l (i : Int)).length : Int)
noncomputable abbrev St6 : Type := T6 Int Int Row (List (List Row)) Int (Int × Int)
noncomputable def st6 (w f : Int) (l : Row) (m : Int) (j : Nat) : St6 := T6.mk (l.length : Int) (roomsT f l) (sortE l) ((List.range (roomsT f l).toNat).map fun (i : Nat) => rowsE w f l (i : Int)) (spillI (cntsT f l) w) (m, (j : Int))
end TR
namespace TR
open PySem L2
section
variable {K : PySem.W.Frag} {Z H : Hp} {D : Addr} {α : Type} {iα : Py α} {l : List α} {Q : VK} {i : Int}
end
end TR
namespace TR
open PySem L2
end TR
namespace TR
open PySem L2
end TR
namespace TR
open PySem L2
end TR
namespace TR
open PySem L2
noncomputable def toldX : Tx := ⟨"told", by decide +kernel⟩
noncomputable def lackX : Tx := ⟨"lacking", by decide +kernel⟩
end TR
namespace TR
end TR

/-! sorted of pairs of a number and an object, no two unlike ones of the same number -/
namespace SrtR
open PySem PySem.W PyProof.Rows SrtO
section
variable {prog : Program} {w : World} {A : Around} {E : Value → Shared → Prop} {s : Shared}
noncomputable def IsPR (h : Heap) (v : Value) (x : Int) (y : Addr) : Prop := ∃ a o t n, v = .ref a ∧ h.get? a = some o ∧ o.cls = .type "tuple" ∧ o.data = .seq #[.int x t, .ref y] n
noncomputable def ltI (p q : Int × Addr) : Bool := decide (p.1 < q.1)
theorem swo_I {α : Type} (k : α → Int × Addr) : Swo fun v u => ltI (k v) (k u) := by
  unfold ltI
  refine ⟨fun x y h => ?_, fun x y z h1 h2 => ?_⟩
  · have a := of_decide_eq_true h
    exact decide_eq_false (by omega)
  · have a := of_decide_eq_false h1
    have b := of_decide_eq_false h2
    exact decide_eq_false (by omega)
end
end SrtR
namespace L2
open PySem PySem.Spec PyProof.Rows
noncomputable def RefV (K : PySem.W.Frag) (H : Hp) (x : V) (e : Int × Addr) : Prop := ∃ t, x = V.ref t ∧ SqT K H t [.int e.1, .ref e.2]
noncomputable def rSortedPR (K : PySem.W.Frag) : List V → Hp → VK → Prop := fun vs H Q => ∃ (a : Addr) (xs : List V) (l : List (Int × Addr)), vs = [V.ref a] ∧ SqL K H a xs ∧ Paired (RefV K H) xs l ∧
  (∀ x ∈ l, ∀ y ∈ l, x.1 = y.1 → x.2 = y.2) ∧
  ∀ (ps : List (V × (Int × Addr))) p, ps.Pairwise (fun x y => x.2.1 ≤ y.2.1) → ps.Perm (xs.zip l) → H p = none → Q (.ref p) (upd H p (.lst (ps.map Prod.fst)))
end L2

namespace TR
/-- how many bits tell a room's keys, and how long its stretch is -/
noncomputable def deep (room r : Int) : Nat := if room < r - whole r ∨ room ≥ whole r then lev r + 1 else lev r
noncomputable def lenI (room r : Int) : Int := 2 ^ (60 - deep room r)
/-- the rooms with their marks, by the marks -/
noncomputable def lineP (r : Int) : List (Int × Int) := sortP ((List.range r.toNat).map fun (k : Nat) => (rev 60 (k : Int), (k : Int)))
noncomputable def lineI (r : Int) : List Int := (lineP r).map Prod.snd
/-- a room told bit by bit -/
noncomputable def lowRoom (x r : Int) (k : Nat) : Int := if k ≤ lev r then x % 2 ^ k else roomOf x r
end TR

/-! walks: entries by their turned keys, pages -/
namespace TR
open PySem L2
noncomputable def sortM {β : Type} (l : List (Int × β)) : List (Int × β) := l.mergeSort (fun a b => decide (a.1 ≤ b.1))
/-- entries by their turned keys -/
noncomputable def tkE (e : Ent) : Int := rev 60 e.1
noncomputable def sortT (l : Row) : Row := l.mergeSort (fun a b => decide (tkE a ≤ tkE b))
noncomputable def KeyR (l : Row) : Prop := ∀ e ∈ l, 0 ≤ e.1 ∧ e.1 < 1152921504606846976
/-- what a page tells -/
noncomputable def markRoom (f : Int) (l : Row) (m : Int) : Int := roomOf (rev 60 m) (roomsT f l)
noncomputable def markEnd (f : Int) (l : Row) (m : Int) : Int := rev 60 (markRoom f l m) + lenI (markRoom f l m) (roomsT f l)
noncomputable def pageT (f : Int) (l : Row) (m : Int) : Row := (sortT l).filter fun e => decide (m ≤ tkE e) && decide (tkE e < markEnd f l m)
/-- a room's entries -/
noncomputable def roomEnts (f : Int) (l : Row) (r : Int) : Row := l.filter fun e => decide (roomOf e.1 (roomsT f l) = r)
end TR
namespace TR
open PySem L2
section
variable {K : PySem.W.Frag} {Z H : Hp} {a : Addr} {Q : VK}
end
end TR
namespace TR
open PySem L2
noncomputable def pageKeys (f : Int) (l : Row) (m : Int) : Row := pageT f l m
end TR
namespace TR
end TR
namespace TR
noncomputable def oddX : Tx := ⟨"odd", by decide +kernel⟩
end TR
namespace TR
open PySem L2
end TR
namespace TR
open PySem L2
end TR
namespace TR
open PySem L2
noncomputable def endM : Int := 1152921504606846976
/-- the entries whose turned keys lie from m on, ahead of b | ahead of m
-/
noncomputable def seg (es : Row) (m b : Int) : Row := (sortT es).filter fun e => decide (m ≤ tkE e) && decide (tkE e < b)
noncomputable def preT (l : Row) (m : Int) : Row := (sortT l).filter fun e => decide (tkE e < m)
/-- how many turned keys are no less than a mark -/
noncomputable def aheadN (l : Row) (m : Int) : Int := (((sortT l).filter fun e => decide (m ≤ tkE e)).length : Int)
/-- whether pages are a walk from a mark on -/
noncomputable def walkB (es : Row) : Int → List (T3 Int Row Int) → Bool
  | m, [] => decide (m = 1152921504606846976)
  | m, p :: ps => if p.a = m ∧ m < p.c ∧ p.c ≤ 1152921504606846976 ∧ p.b = seg es p.a p.c then walkB es p.c ps else false
end TR

/-! pages that were spoilt: data of any kind -/
namespace TR
open PySem L2
noncomputable def wholeD : PyData → Bool
  | .int _ => true
  | _ => false
noncomputable def entD (e : Ent) : PyData → Bool
  | .tuple [a, b] => wholeD a && PyData.eqv (.tuple [a, b]) (Py.d e)
  | _ => false
noncomputable def sameD : List PyData → Row → Bool
  | [], [] => true
  | x :: xs, e :: es => entD e x && sameD xs es
  | _, _ => false
noncomputable def pageD : PyData → Bool
  | .tuple [a, .list _, c] => wholeD a && wholeD c
  | _ => false
/-- whether pages of any data are a walk from a mark on -/
noncomputable def walkD (es : Row) : Int → List PyData → Bool
  | m, [] => decide (m = 1152921504606846976)
  | m, .tuple [.int a, .list xs, .int c] :: ps => if a = m ∧ m < c ∧ c ≤ 1152921504606846976 ∧ sameD xs (seg es a c) = true then walkD es c ps else false
  | _, _ :: _ => false
noncomputable def isWalkD (es : Row) : PyData → Bool
  | .list ps => walkD es 0 ps
  | _ => false
section
variable {K : PySem.W.Frag} {Z H Z' H' : Hp} {v : V} {x : PyData} {Q : VK} {us : List V} {xs : List PyData}
noncomputable def isIntD : PyData → Bool
  | .int _ => true
  | .bool _ => true
  | _ => false
noncomputable def isBoolD : PyData → Bool
  | .bool _ => true
  | _ => false
noncomputable def isListD : PyData → Bool
  | .list _ => true
  | _ => false
noncomputable def isTupD : PyData → Bool
  | .tuple _ => true
  | _ => false
theorem s_isiDB (h : Dt Z v x) (e : Ex Z H) (q : Q (.bl (isBoolD x)) H) : rIsi K [v, .ty "bool"] H Q := by
  cases h with
  | int i => exact s_isiI k_ib q
  | bl b => exact s_isiB k_bb q
  | str x => exact s_isiS k_sb q
  | non => exact s_isiN k_nb q
  | lst h _ => exact s_isiL (sq_of (e _ _ h)) k_lb q
  | tup h _ => exact s_isiT (st_of (e _ _ h)) k_tb q
end
end TR
namespace TR
open PySem L2
section
variable {K : PySem.W.Frag} {σ : L2.St} {H Z : Hp} {te : TE} {Q : VK} {g : TG} {vs : List Nat} {a p : Addr} {us : List V} {xs : List PyData}
end
/-- entries with their turned keys ahead -/
noncomputable def triE (e : Ent) : T3 Int Int Tx := ⟨tkE e, e.1, e.2⟩
end TR
namespace TR
open PySem L2
noncomputable def entW : PyData → Bool
  | .tuple (a :: _) => wholeD a
  | _ => false
/-- what is asked whether it is a walk: data, or a dict without keys -/
noncomputable def ThD (Z : Hp) (v : V) (th : Option PyData) : Prop := (∃ y, th = some y ∧ Dt Z v y ∧ FitD 6 200 y) ∨ (th = none ∧ ∃ b, v = .ref b ∧ Z b = some (.dK []))
noncomputable def isWalkO (es : Row) : Option PyData → Bool
  | some y => isWalkD es y
  | none => false
end TR
namespace TR
open PySem L2
end TR
namespace TR
open PySem L2
/-- of any data, n levels deep -/
noncomputable def DtE (n : Nat) (Z : Hp) (v : V) : Prop := ∃ x, Dt Z v x ∧ FitD n 200 x
section
variable {K : PySem.W.Frag} {n m : Nat} {Z Z' H : Hp} {v : V} {us : List V} {p : Addr} {i : Int} {Q : VK} {R : Hp → Prop}
theorem DtE.ex (e : Ex Z Z') (h : DtE n Z v) : DtE n Z' v := by
  obtain ⟨x, h1, h2⟩ := h
  exact ⟨x, Dt.ex e h1, h2⟩
theorem DtE.int (i : Int) : DtE n Z (.int i) := ⟨_, .int i, fit_int i⟩
theorem DtE.bl (i : Bool) : DtE n Z (.bl i) := ⟨_, .bl i, fit_bool i⟩
theorem DtE.non : DtE n Z .non := ⟨_, .non, ⟨(okN_of (none : Option Int) (Nat.le_refl _)).mono (Nat.zero_le _), rfl⟩⟩
theorem DtE.tx (x : Tx) : DtE n Z (.str x.1) := ⟨_, .str x.1, fit_tx x⟩
theorem dte_all : ∀ {us : List V}, (∀ u ∈ us, DtE n Z u) → ∃ xs, DtAll Z us xs ∧ ∀ x ∈ xs, FitD n 200 x
  | [], _ => ⟨[], .nil, fun _ h => absurd h List.not_mem_nil⟩
  | u :: us, h => by
    obtain ⟨x, h1, h2⟩ := h u List.mem_cons_self
    obtain ⟨xs, h3, h4⟩ := dte_all fun w hw => h w (List.mem_cons_of_mem _ hw)
    refine ⟨x :: xs, .cons h1 h3, fun y hy => ?_⟩
    rcases List.mem_cons.mp hy with rfl | hy
    · exact h2
    · exact h4 y hy
theorem dte_list (h : Z p = some (.lst us)) (l : us.length ≤ 200) (g : ∀ u ∈ us, DtE n Z u) : DtE (n + 1) Z (.ref p) := by
  obtain ⟨xs, h1, h2⟩ := dte_all g
  exact ⟨_, .lst h h1, FitD.list (by rw [← dtAll_len h1]; exact l) h2⟩
theorem dte_tup (h : Z p = some (.tup us)) (l : us.length ≤ 200) (g : ∀ u ∈ us, DtE n Z u) : DtE (n + 1) Z (.ref p) := by
  obtain ⟨xs, h1, h2⟩ := dte_all g
  exact ⟨_, .tup h h1, FitD.tup (by rw [← dtAll_len h1]; exact l) h2⟩
theorem fa1 {P : V → Prop} {a : V} (h : P a) : ∀ u ∈ [a], P u := fun u hu => by rw [List.mem_singleton.mp hu]; exact h
theorem fa_cons {P : V → Prop} {a : V} {l : List V} (h : P a) (g : ∀ u ∈ l, P u) : ∀ u ∈ a :: l, P u := fun u hu => (List.mem_cons.mp hu).elim (fun e => e ▸ h) (g u)
end
end TR
namespace TR
open PySem L2
end TR
namespace TR
open PySem L2
/-- a thing and what was kept of it -/
noncomputable def KpD (Z : Hp) (u v : V) (th : Option PyData) : Prop := (∃ y, th = some y ∧ Dt Z u y ∧ Dt Z v y ∧ FitD 6 200 y) ∨ (th = none ∧ v = u ∧ ∃ a, u = .ref a ∧ Z a = some (.dK []))
end TR

namespace TR
open PySem L2
end TR

/-! a comprehension over a text, that tells truths -/
namespace TR
open PySem L2 PySem.Spec
/-- a display of one pair: what is asked behind the pair -/
noncomputable def DispP (p : Addr) (x y : V) (H2 : Hp) (Q : VK) : Prop := H2 p = some (.dK []) ∧ ∃ kvs : List (L2.Key × V), [(x, y)] = kvs.map (fun kv => (kV kv.1, kv.2)) ∧ kvs.length ≤ 15 ∧ Q (.ref p) (upd H2 p (.dK (mergeK [] kvs)))
theorem s_disp1 {σ : L2.St} {H : Hp} {Q : VK} {tk tv : TE} (q : ∀ p, H p = none → tk σ (upd H p (.dK [])) fun x H1 => tv σ H1 fun y H2 => DispP p x y H2 Q) : tDisp [(tk, tv)] σ H Q := q
theorem t_disp {Z H : Hp} {Q : VK} {p : Addr} {x y : V} (k : L2.Key) (e : x = kV k) (np : H p = none) (z : Ex Z H) (q : ∀ Z' H', T [] Z H Z' H' → Z' p = some (.dK [(k, y)]) → Q (.ref p) H') : DispP p x y (upd H p (.dK [])) Q := by
  refine ⟨upd_same, [(k, y)], by rw [e]; rfl, by show 1 ≤ 15; decide, ?_⟩
  have ex : Ex H (upd (upd H p (.dK [])) p (.dK [(k, y)])) := fun b o hb => by
    have nb : b ≠ p := fun c => by rw [c, np] at hb; cases hb
    rw [upd_ne nb, upd_ne nb]
    exact hb
  exact q _ _ (T.ofNew z np ex upd_same) upd_same
end TR

/-! k18: the twelve refusals as values, what they are made of -/
namespace TR
open PySem L2
/-- what they are made of: data, or a dict of a number -/
noncomputable def ThX (Z : Hp) (v : V) : Prop := DtE 2 Z v ∨ ∃ (a : Addr) (i : Int), v = .ref a ∧ Z a = some (.dK [(Sum.inr "a", V.int i)])
section
variable {K : PySem.W.Frag} {Z H Z' H' : Hp} {v : V} {Q : VK}
theorem ThX.ex (e : Ex Z Z') (h : ThX Z v) : ThX Z' v := by
  rcases h with h | ⟨a, i, h1, h2⟩
  · exact .inl (h.ex e)
  · exact .inr ⟨a, i, h1, e _ _ h2⟩
/-- is it a truth -/
noncomputable def isBl : V → Bool
  | .bl _ => true
  | _ => false
theorem s_isiThB (h : ThX Z v) (e : Ex Z H) (q : Q (.bl (isBl v)) H) : rIsi K [v, .ty "bool"] H Q := by
  rcases h with ⟨x, d, f⟩ | ⟨a, i, rfl, h2⟩
  · refine s_isiDB d e ?_
    have : isBoolD x = isBl v := by cases d <;> rfl
    rw [this]
    exact q
  · exact s_isiDk (e _ _ h2) k_db q
noncomputable def rNeX (K : PySem.W.Frag) : R2 := fun x y H Q => rNeA K x y H Q ∨ rNeDA x y H Q
noncomputable def rEqX (K : PySem.W.Frag) : R2 := fun x y H Q => rEqA K x y H Q ∨ rEqDA x y H Q
theorem s_neX (h : ThX Z v) (e : Ex Z H) (q : Q (.bl false) H) : rNeX K v v H Q := by
  rcases h with ⟨x, d, f⟩ | ⟨a, i, rfl, h2⟩
  · refine .inl (s_neD (d := x) (e := x) (Dt.dp (Dt.ex e d)) (Dt.dp (Dt.ex e d)) (f.ok.ok (by decide)).1 (f.ok.ok (by decide)).1 ?_)
    rw [(f.ok.ok (by decide)).2]
    exact q
  · refine .inr ⟨a, a, _, _, rfl, rfl, e _ _ h2, e _ _ h2, rfl, fun p hp => ?_, q⟩
    rw [List.mem_singleton.mp hp]
    exact ⟨by simp [valV], rfl⟩
theorem s_eqX (h : ThX Z v) (e : Ex Z H) (q : Q (.bl true) H) : rEqX K v v H Q := by
  rcases h with ⟨x, d, f⟩ | ⟨a, i, rfl, h2⟩
  · refine .inl (s_eqD (d := x) (e := x) (Dt.dp (Dt.ex e d)) (Dt.dp (Dt.ex e d)) (f.ok.ok (by decide)).1 (f.ok.ok (by decide)).1 ?_)
    rw [(f.ok.ok (by decide)).2]
    exact q
  · refine .inr ⟨a, a, _, _, rfl, rfl, e _ _ h2, e _ _ h2, rfl, fun p hp => ?_, q⟩
    rw [List.mem_singleton.mp hp]
    exact ⟨by simp [valV], rfl⟩
end
theorem paired_lX {β γ : Type} {F : β → γ → Prop} : ∀ {xs : List β} {ys : List γ}, Paired F xs ys → ∀ x ∈ xs, ∃ y, F x y
  | _, _, .nil, _, h => absurd h List.not_mem_nil
  | _, _, .cons a t, x, h => by
    rcases List.mem_cons.mp h with e | h
    · rw [e]; exact ⟨_, a⟩
    · exact paired_lX t x h
section
variable {X : Cx} {K : PySem.W.Frag}
theorem neXA (hk : X.K = K) (hu : X.A.units + 64 < cLine) : OpR X (compareOp .NotEq) (rNeX K) := OpR.or (neA hk hu) (op_ne_dictA (by omega))
theorem eqXA (hk : X.K = K) (hu : X.A.units + 64 < cLine) : OpR X (compareOp .Eq) (rEqX K) := OpR.or (eqA hk hu) (op_eq_dictA (by omega))
end
section
variable {K : PySem.W.Frag} {σ : L2.St} {H : Hp} {Q : VK} {g : TG} {te : TE} {vs : List Nat}
/-- things drawn, of any make -/
theorem c_drawV {n : Int} {Z : Hp} {h : Addr} {C : Nat} (P : Hp → V → Prop) (mono : ∀ {Z Z' v}, Ex Z Z' → P Z v → P Z' v) (R c : Nat) (hh : Hand K Z H h C) (hz : 0 ≤ n ∧ n ≤ 40000) (hC : R + c * n.toNat ≤ C)
    (turn : ∀ i : Nat, (i : Int) < n → ∀ Z1 H1 R', T [h] Z H Z1 H1 → Hand K Z1 H1 h (R' + c) → ∀ A : VK, (∀ y Z3 H3, T [h] Z1 H1 Z3 H3 → Hand K Z3 H3 h R' → P Z3 y → A y H3) → g (.int (i : Int)) (wipe σ vs) H1 fun σ2 H2 => wipe σ2 vs = wipe σ vs ∧ te σ2 H2 A)
    (fin : ∀ D ys Z' H', H D = none → T [h] Z H Z' H' → Hand K Z' H' h R → Z' D = some (.lst ys) → (ys.length : Int) = n → (∀ y ∈ ys, P Z' y) → Q (.ref D) H') : LcR1 g tYes te vs σ [.int n] H Q := by
  have e62 : (2 : Int) ^ 62 = 4611686018427387904 := by decide
  refine ⟨n, rfl, by omega, by omega, lcT (n := n.toNat) (M := [h]) (Z := Z) (fun _ => true) (fun i Z1 H1 => Hand K Z1 H1 h (R + c * (n.toNat - i))) (fun i (x : Bool) y Z => P Z y) (fun i x y Z1 Z2 e r => mono e r) (fun i Z1 H1 D o hi nD zD => ?_) (by omega) hh.z (fun b hb => by rw [List.mem_singleton.mp hb]; exact hh.at) (hh.mono (by simpa using hC))
    (fun i Z1 H1 hi t => hi) (fun Z1 H1 t => Nat.le_refl _) (fun i hi D Z1 H1 t nD mu hI v H2 hv A B hA hB => ?_) (fun D ys L Z' H' nD t mu f1 hI hL pr => ?_)⟩
  · obtain ⟨o1, ho1⟩ := hh.at
    exact hi.exm ExM.upd (ne_of_none ho1 nD) zD
  · obtain ⟨rfl, rfl⟩ := hv
    rw [Int.zero_add, lc_yes]
    have ec : R + c * (n.toNat - i) = R + c * (n.toNat - (i + 1)) + c := by
      rw [show n.toNat - i = (n.toNat - (i + 1)) + 1 by omega, Nat.mul_succ]
      omega
    rw [ec] at hI
    exact turn i (by omega) Z1 H2 _ t hI A fun y Z3 H3 t3 h3 py => hA rfl true y Z3 H3 t3 h3 py
  · have hl : (ys.length : Int) = n := by
      have e1 := Paired.length pr
      have e2 := congrArg List.length hL
      rw [filter_yes, List.length_map, List.length_range] at e2
      rw [e1, e2]
      omega
    refine t_fzV mu t.zh f1 fun Z2 H2 t2 z2 => fin D ys Z2 H2 nD (t.step t2 (mm_cons (.inr nD) mm_nil)) ((Hand.tt t2 (nm_cons (hand_ne0 nD hh).symm nm_nil) hI).mono (by omega)) z2 hl fun y hy => ?_
    obtain ⟨q, hq⟩ := paired_lX pr y hy
    exact mono t2.z hq
end
/-- their names, the names of their fields -/
noncomputable def nmX : Nat → Str
  | 0 => "NoSize" | 1 => "NoKey" | 2 => "NoThing" | 3 => "NoRoom" | 4 => "Lacking" | 5 => "Full" | 6 => "NoMark" | 7 => "NoName" | 8 => "Taken" | 9 => "Busy" | 10 => "NoText" | _ => "NoLine"
/-- what the law's words ask of the twelve classes -/
structure FamX (K : PySem.W.Frag) : Prop where
  isx : ∀ i, i < 12 → IsxC K (clsA K (nmX i))
  kit : ∀ i j, i < 12 → j < 12 → PySem.W.kitOne K (.ref (clsA K (nmX i))) (.ref (clsA K (nmX j))) = some (decide (i = j))
  te : ∀ i, i < 12 → PySem.W.kitOne K (.ref (clsA K (nmX i))) (.ref (clsA K "TailError")) = some true
  ve : ∀ i, i < 12 → PySem.W.kitOne K (.ref (clsA K (nmX i))) (.type "ValueError") = some true
/-- the twelve, made of vs -/
structure MadeX (K : PySem.W.Frag) (Z : Hp) (vs : List V) (p : Addr) : Prop where
  ex : ∃ a0 a1 a2 a3 a4 a5 a6 a7 a8 a9 a10 a11 v0 v1 v2 v3 v4 v5 v6 v7 v8, vs = [v0, v1, v2, v3, v4, v5, v6, v7, v8] ∧
    Z p = some (.lst [.ref a0, .ref a1, .ref a2, .ref a3, .ref a4, .ref a5, .ref a6, .ref a7, .ref a8, .ref a9, .ref a10, .ref a11]) ∧
    ExV Z a0 (clsA K "NoSize") (some ("thing", v0)) ∧ ExV Z a1 (clsA K "NoKey") (some ("key", v1)) ∧ ExV Z a2 (clsA K "NoThing") (some ("thing", v2)) ∧ ExV Z a3 (clsA K "NoRoom") (some ("number", v3)) ∧
    ExV Z a4 (clsA K "Lacking") (some ("key", v4)) ∧ ExV Z a5 (clsA K "Full") (some ("many", v5)) ∧ ExV Z a6 (clsA K "NoMark") (some ("mark", v6)) ∧ ExV Z a7 (clsA K "NoName") (some ("name", v7)) ∧ ExV Z a8 (clsA K "Taken") (some ("name", v8)) ∧
    ExV Z a9 (clsA K "Busy") none ∧ ExV Z a10 (clsA K "NoText") none ∧ ExV Z a11 (clsA K "NoLine") none
theorem MadeX.exz {K : PySem.W.Frag} {Z Z' : Hp} {vs : List V} {p : Addr} (e : Ex Z Z') (h : MadeX K Z vs p) : MadeX K Z' vs p := by
  obtain ⟨a0, a1, a2, a3, a4, a5, a6, a7, a8, a9, a10, a11, v0, v1, v2, v3, v4, v5, v6, v7, v8, h0, hp, x0, x1, x2, x3, x4, x5, x6, x7, x8, x9, x10, x11⟩ := h
  exact ⟨a0, a1, a2, a3, a4, a5, a6, a7, a8, a9, a10, a11, v0, v1, v2, v3, v4, v5, v6, v7, v8, h0, e _ _ hp, x0.ex e, x1.ex e, x2.ex e, x3.ex e, x4.ex e, x5.ex e, x6.ex e, x7.ex e, x8.ex e, x9.ex e, x10.ex e, x11.ex e⟩
theorem MadeX.at_ {K : PySem.W.Frag} {Z : Hp} {vs : List V} {p : Addr} (h : MadeX K Z vs p) : ∃ us : List V, Z p = some (.lst us) ∧ us.length = 12 ∧ ∀ i v, us[i]? = some v → ∃ a o, v = .ref a ∧ ExV Z a (clsA K (nmX i)) o := by
  obtain ⟨a0, a1, a2, a3, a4, a5, a6, a7, a8, a9, a10, a11, v0, v1, v2, v3, v4, v5, v6, v7, v8, h0, hp, x0, x1, x2, x3, x4, x5, x6, x7, x8, x9, x10, x11⟩ := h
  refine ⟨_, hp, rfl, fun i v hv => ?_⟩
  match i, hv with
  | 0, hv => cases hv; exact ⟨_, _, rfl, x0⟩
  | 1, hv => cases hv; exact ⟨_, _, rfl, x1⟩
  | 2, hv => cases hv; exact ⟨_, _, rfl, x2⟩
  | 3, hv => cases hv; exact ⟨_, _, rfl, x3⟩
  | 4, hv => cases hv; exact ⟨_, _, rfl, x4⟩
  | 5, hv => cases hv; exact ⟨_, _, rfl, x5⟩
  | 6, hv => cases hv; exact ⟨_, _, rfl, x6⟩
  | 7, hv => cases hv; exact ⟨_, _, rfl, x7⟩
  | 8, hv => cases hv; exact ⟨_, _, rfl, x8⟩
  | 9, hv => cases hv; exact ⟨_, _, rfl, x9⟩
  | 10, hv => cases hv; exact ⟨_, _, rfl, x10⟩
  | 11, hv => cases hv; exact ⟨_, _, rfl, x11⟩
/-- which of the twelve it is -/
noncomputable def flgX (i : Nat) : List Bool := (List.range 12).map fun j => decide (i = j)
end TR
namespace TR
theorem nine {α : Type} : ∀ {xs : List α}, xs.length = 9 → ∃ v0 v1 v2 v3 v4 v5 v6 v7 v8, xs = [v0, v1, v2, v3, v4, v5, v6, v7, v8]
  | [v0, v1, v2, v3, v4, v5, v6, v7, v8], _ => ⟨v0, v1, v2, v3, v4, v5, v6, v7, v8, rfl⟩
end TR
namespace TR
open PySem L2
theorem s_slX {x : Str} {lo hi : Option Int} {H : Hp} {Q : VK} (h : x.length ≤ 1000) (q : Q (.str (cutS x lo hi)) H) : rSlS (.str x) lo hi H Q := ⟨x, rfl, sz_of (by omega), q⟩
theorem strX_part {x : Str} {lo hi : Option Int} (h : PyData.strOk x = true) : PyData.strOk (cutS x lo hi) = true := by
  have e : ∀ {x : Str}, PyData.strOk x = true ↔ ∀ c ∈ x.cps.toList, c < 0x110000 := fun {x} => by
    unfold PyData.strOk
    rw [← Array.all_toList, List.all_eq_true]
    simp
  rw [e] at h ⊢
  exact fun c hc => h c (List.mem_of_mem_drop (List.mem_of_mem_take hc))
/-- one of the ten things -/
theorem thX_ten {Z : Hp} {N : Int} {x : Str} {p t d : Addr} {v : V} (hx : PyData.strOk x = true) (hp : Z p = some (.lst [.int N])) (ht : Z t = some (.tup [.int N, .str "a"])) (hd : Z d = some (.dK [(Sum.inr "a", V.int N)]))
    (hv : v ∈ [V.int N, .str x, .non, .bl true, .bl false, .ref p, .ref t, .ref d, .int 0, .str ""]) : ThX Z v := by
  simp only [List.mem_cons, List.not_mem_nil, or_false] at hv
  rcases hv with rfl | rfl | rfl | rfl | rfl | rfl | rfl | rfl | rfl | rfl
  · exact .inl (.int _)
  · exact .inl (.tx ⟨x, hx⟩)
  · exact .inl .non
  · exact .inl (.bl _)
  · exact .inl (.bl _)
  · exact .inl (dte_list hp (by show 1 ≤ 200; decide) (fa1 (.int _)))
  · exact .inl (dte_tup ht (by show 2 ≤ 200; decide) (fa_cons (.int _) (fa1 (.tx ⟨"a", by decide +kernel⟩))))
  · exact .inr ⟨d, N, rfl, hd⟩
  · exact .inl (.int _)
  · exact .inl (.tx ⟨"", by decide +kernel⟩)
end TR
namespace TR
open PySem L2
theorem ls_bools {Z : Hp} {p : Addr} {l : List Bool} (h : Z p = some (.lst (l.map V.bl))) : Ls Z p l := by
  refine ⟨_, h, ?_⟩
  clear h
  induction l with
  | nil => exact .nil
  | cons b l ih => exact .cons (Ik.bl b) ih
end TR
namespace TR
open PySem L2
theorem T.ehX {Z H Z' H' : Hp} (t : T [] Z H Z' H') : Ex H H' := fun b o h => t.m b o nm_nil h
end TR

/-! words of T: zh (all of Z stands), zz, pz (what stands in Z), hz (in H), iz (data in Z), sqz, stz, nm (not among), nez, al, hd (the hand), la, mu, li, ls, mm, fz (was not there), tt (the whole way); t, ts: steps -/
open PySem L2 TR
local macro_rules | `(tactic| walk_at "zh") => `(tactic| first
  | assumption
  | exact T.zh (by assumption)
  | exact Ex.refl _
  | exact Hand.z (by assumption))
local macro_rules | `(tactic| walk_at "zhx") => `(tactic| first
  | exact T.zh (by assumption)
  | assumption
  | exact Hand.z (by assumption))
local macro_rules | `(tactic| walk_at "pz") => `(tactic| first
  | assumption)
local macro_rules | `(tactic| walk_at "hz") => `(tactic| first
  | assumption
  | (apply T.hp; assumption; walk_at "nm"; walk_at "hz"))
local macro_rules | `(tactic| walk_at "nm") => `(tactic| first
  | exact nm_nil
  | assumption
  | (apply nm_cons; walk_at "nez"; walk_at "nm"))
local macro_rules | `(tactic| walk_at "nez") => `(tactic| first
  | assumption
  | (apply Ne.symm; assumption))
local macro_rules | `(tactic| walk_at "hd") => `(tactic| first
  | assumption
  | (apply Hand.tt; assumption; walk_at "nm"; walk_at "hd"))
local macro_rules | `(tactic| walk_at "ls") => `(tactic| first
  | assumption
  | (apply Ls.ofInts; walk_at "pz")
  | (apply Ls.tt; assumption; walk_at "ls"))
local macro_rules | `(tactic| walk_at "lsn") => `(tactic| first
  | (walk_at "ls"))
local macro_rules | `(tactic| walk_at "izc") => `(tactic| first
  | assumption
  | exact Ls.is (by assumption))
local macro_rules | `(tactic| walk_at "iz") => `(tactic| first
  | exact Ik.int _
  | exact Ik.bl _
  | walk_at "izc"
  | (apply Ik.nil; walk_at "pz")
  | (apply Ls.is; walk_at "lsn"))
local macro_rules | `(tactic| walk_at "sqz") => `(tactic| first
  | assumption
  | (apply sq_of; walk_at "pz"))
/-! the old words, widened -/
local macro_rules | `(tactic| walk_at "hp") => `(tactic| first
  | assumption
  | exact T.zh (by assumption) _ _ (by assumption)
  | (apply ex_ap; walk_at "zhx"; walk_at "pz")
  | walk_at "hz"
  | (apply ex_ap; assumption; walk_at "hp"))
local macro_rules | `(tactic| walk_at "sq") => `(tactic| first
  | assumption
  | (apply sq_of; walk_at "hp")
  | (apply Ex.sq; walk_at "zhx"; walk_at "sqz")
  | focus (apply Ex.sq; rotate_left; assumption; walk_at "ex"))
local macro_rules | `(tactic| walk_at "st") => `(tactic| first
  | assumption
  | (apply st_of; walk_at "hp"))
local macro_rules | `(tactic| walk_at "isK") => `(tactic| first
  | (apply Ik.ex; walk_at "zhx"; walk_at "iz")
  | (apply Ik.nil; walk_at "hp"))
local macro_rules | `(tactic| walk_at "is") => `(tactic| first
  | assumption
  | (apply Ik.is; walk_at "isK"))
/-! steps -/
local macro_rules | `(tactic| walk_at "ig") => `(tactic| first
  | ((with_reducible apply ig_at); walk_at "at"))
local macro_rules | `(tactic| walk_at "q") => `(tactic| first
  | ((with_reducible apply s_var); rfl)
  | (with_reducible (first | apply s_seq | apply s_asg | apply s_gname | apply s_cons | apply s_nil | apply s_call | apply s_op | apply s_c | apply s_if | apply s_test | apply s_ret | apply s_next | apply s_bl | apply s_and | apply s_or | apply s_not | apply s_CB | apply s_tup | apply s_lst | apply s_tB | apply s_sl | apply s_np | apply s_part)))
local macro_rules | `(tactic| walk_at "t2") => `(tactic| first
  | (with_reducible (first | apply s_andV | apply s_I0 | apply s_plusI | apply s_eqI | apply s_neB | apply s_int | apply s_gsub | apply s_augS | apply s_ipI | apply s_forR1 | apply s_lcL | apply s_lcR1))
  | ((with_reducible apply s_wp); rfl)
  | ((with_reducible apply s_mod); walk_at "od"; intro _ _)
  | ((with_reducible apply s_div); walk_at "od"; walk_at "od")
  | (walk_at "pow")
  | ((with_reducible apply s_pow); decide; walk_at "od")
  | ((with_reducible apply s_mulL); walk_at "od")
  | ((with_reducible apply s_mulR); walk_at "od")
  | ((with_reducible apply t_tup); walk_at "zh"; walk_at "od"; intro _ _ _ _ _ _)
  | ((with_reducible apply t_lst); walk_at "zh"; walk_at "od"; intro _ _ _ _ _ _)
  | ((with_reducible apply drawT); walk_at "hd"; walk_at "od"; walk_at "od"; walk_at "od"; intro _ _ _ _ _ _ _)
  | ((with_reducible apply farT); walk_at "hd"; walk_at "od"; walk_at "od"; walk_at "od"; intro _ _ _ _ _ _ _)
  | ((with_reducible apply openT); walk_at "zh"; walk_at "sq"; walk_at "od"; walk_at "od"; intro _ _ _ _ _ _)
  | ((with_reducible apply s_all); walk_at "sq")
  | ((with_reducible apply s_lenM); walk_at "sq")
  | (with_reducible (first | apply s_max2 | apply s_min2 | apply s_abs))
  | ((with_reducible apply s_isiI); walk_at "kit")
  | ((with_reducible apply s_isiB); walk_at "kit")
  | ((with_reducible apply s_isiS); walk_at "kit")
  | ((with_reducible apply s_isiN); walk_at "kit")
  | ((with_reducible apply s_isiT); walk_at "st"; walk_at "kit")
  | ((with_reducible apply s_isiL); walk_at "sq"; walk_at "kit")
  | ((with_reducible apply ixGo); walk_at "sq"; walk_at "ig")
  | (with_reducible (first | apply i_f | apply i_nt))
  | ((with_reducible apply i_dt); (focus (first | trivial | assumption | omega | rfl)))
  | ((with_reducible apply i_df); (focus (first | assumption | omega | exact (fun h => h rfl)))))
/-! as ts, but it stops at list(..) -/
/-! words for yards (math/yt) -/
local macro_rules | `(tactic| walk_at "ty2") => `(tactic| first
  | walk_at "t2")
/-! words for dicts (math/dm) -/
local macro_rules | `(tactic| walk_at "tv2") => `(tactic| first
  | walk_at "ty2")
/-! words for classes and exceptions -/
local macro_rules | `(tactic| walk_at "tx2") => `(tactic| first
  | (with_reducible (first | apply s_raise | apply s_raise0))
  | ((with_reducible apply n_raise); intro _ _)
  | (with_reducible (first | apply s_xf))
  | ((with_reducible apply n_xf); walk_at "hp"; rfl)
  | walk_at "tv2")
/-! words for tables -/
local macro_rules | `(tactic| walk_at "tl2") => `(tactic| first
  | walk_at "tx2")
local macro_rules | `(tactic| walk_at "tl") => `(tactic| first
  | walk_at "q"
  | walk_at "tl2")
local macro_rules | `(tactic| walk_at "tls") => `(tactic| ((try dsimp only); (repeat walk_at "tl")))
local macro_rules | `(tactic| walk_at "tlN") => `(tactic| ((try dsimp only); (repeat ((fail_if_success (with_reducible apply at_newl)); walk_at "tl"))))

namespace Lw
open PySem L2 TR
open PySem.Spec PyProof.Rows

/-! ### the text -/
def topS (i : Nat) : Stmt := PySem.Challenge.pw_tailrooms_k18_refusals_apart.main.body.getD i (.Pass ⟨0, 0, 0, 0⟩)

structure Z (K : PySem.W.Frag) (mg : Str → Option Value) : Prop where
  b_isinstance : mg "isinstance" = none
  b_range : mg "range" = none
  b_bool : mg "bool" = none
  b_len : mg "len" = none
  b_abs : mg "abs" = none
  b_max : mg "max" = none
  b_min : mg "min" = none
  b_all : mg "all" = none
  b_ValueError : mg "ValueError" = none
  t_TailError : TeC K mg "TailError"
  g_TailError : mg "TailError" = some (.ref (clsA K "TailError"))
  g_NoLine : mg "NoLine" = some (.ref (clsA K "NoLine"))
  g_NoText : mg "NoText" = some (.ref (clsA K "NoText"))
  g_Busy : mg "Busy" = some (.ref (clsA K "Busy"))
  g_Taken : mg "Taken" = some (.ref (clsA K "Taken"))
  g_NoName : mg "NoName" = some (.ref (clsA K "NoName"))
  g_NoMark : mg "NoMark" = some (.ref (clsA K "NoMark"))
  g_Full : mg "Full" = some (.ref (clsA K "Full"))
  g_Lacking : mg "Lacking" = some (.ref (clsA K "Lacking"))
  g_NoRoom : mg "NoRoom" = some (.ref (clsA K "NoRoom"))
  g_NoThing : mg "NoThing" = some (.ref (clsA K "NoThing"))
  g_NoKey : mg "NoKey" = some (.ref (clsA K "NoKey"))
  g_NoSize : mg "NoSize" = some (.ref (clsA K "NoSize"))
  ix_NoSize : IsxC K (clsA K "NoSize")
  sv_NoSize : PySem.W.subIn K (.ref (clsA K "NoSize")) (.type "ValueError") = some true
  ix_NoKey : IsxC K (clsA K "NoKey")
  sv_NoKey : PySem.W.subIn K (.ref (clsA K "NoKey")) (.type "ValueError") = some true
  ix_NoThing : IsxC K (clsA K "NoThing")
  sv_NoThing : PySem.W.subIn K (.ref (clsA K "NoThing")) (.type "ValueError") = some true
  ix_NoRoom : IsxC K (clsA K "NoRoom")
  sv_NoRoom : PySem.W.subIn K (.ref (clsA K "NoRoom")) (.type "ValueError") = some true
  ix_Lacking : IsxC K (clsA K "Lacking")
  sv_Lacking : PySem.W.subIn K (.ref (clsA K "Lacking")) (.type "ValueError") = some true
  ix_Full : IsxC K (clsA K "Full")
  sv_Full : PySem.W.subIn K (.ref (clsA K "Full")) (.type "ValueError") = some true
  ix_NoMark : IsxC K (clsA K "NoMark")
  sv_NoMark : PySem.W.subIn K (.ref (clsA K "NoMark")) (.type "ValueError") = some true
  ix_NoName : IsxC K (clsA K "NoName")
  sv_NoName : PySem.W.subIn K (.ref (clsA K "NoName")) (.type "ValueError") = some true
  ix_Taken : IsxC K (clsA K "Taken")
  sv_Taken : PySem.W.subIn K (.ref (clsA K "Taken")) (.type "ValueError") = some true
  ix_Busy : IsxC K (clsA K "Busy")
  sv_Busy : PySem.W.subIn K (.ref (clsA K "Busy")) (.type "ValueError") = some true
  ix_NoText : IsxC K (clsA K "NoText")
  sv_NoText : PySem.W.subIn K (.ref (clsA K "NoText")) (.type "ValueError") = some true
  ix_NoLine : IsxC K (clsA K "NoLine")
  sv_NoLine : PySem.W.subIn K (.ref (clsA K "NoLine")) (.type "ValueError") = some true
  x_NoKey : XfC K (clsA K "NoKey")
  x_NoName : XfC K (clsA K "NoName")
  x_Taken : XfC K (clsA K "Taken")
  x_NoMark : XfC K (clsA K "NoMark")
  x_Full : XfC K (clsA K "Full")
  x_Lacking : XfC K (clsA K "Lacking")
  x_NoRoom : XfC K (clsA K "NoRoom")
  x_NoSize : XfC K (clsA K "NoSize")
  x_NoThing : XfC K (clsA K "NoThing")
  xn_NoKey_key : PySem.W.findIn K (.ref (clsA K "NoKey")) "key" = some none
  xn_NoName_name : PySem.W.findIn K (.ref (clsA K "NoName")) "name" = some none
  xn_Taken_name : PySem.W.findIn K (.ref (clsA K "Taken")) "name" = some none
  xn_NoMark_mark : PySem.W.findIn K (.ref (clsA K "NoMark")) "mark" = some none
  xn_Full_many : PySem.W.findIn K (.ref (clsA K "Full")) "many" = some none
  xn_Lacking_key : PySem.W.findIn K (.ref (clsA K "Lacking")) "key" = some none
  xn_NoRoom_number : PySem.W.findIn K (.ref (clsA K "NoRoom")) "number" = some none
  xn_NoSize_thing : PySem.W.findIn K (.ref (clsA K "NoSize")) "thing" = some none
  xn_NoThing_thing : PySem.W.findIn K (.ref (clsA K "NoThing")) "thing" = some none
  m_Taken_TailError : PySem.W.exmOne K (.ref (clsA K "Taken")) (.ref (clsA K "TailError")) = some true
  m_NoKey_TailError : PySem.W.exmOne K (.ref (clsA K "NoKey")) (.ref (clsA K "TailError")) = some true
  m_NoName_TailError : PySem.W.exmOne K (.ref (clsA K "NoName")) (.ref (clsA K "TailError")) = some true
  m_NoMark_TailError : PySem.W.exmOne K (.ref (clsA K "NoMark")) (.ref (clsA K "TailError")) = some true
  m_Full_TailError : PySem.W.exmOne K (.ref (clsA K "Full")) (.ref (clsA K "TailError")) = some true
  m_Lacking_TailError : PySem.W.exmOne K (.ref (clsA K "Lacking")) (.ref (clsA K "TailError")) = some true
  m_NoRoom_TailError : PySem.W.exmOne K (.ref (clsA K "NoRoom")) (.ref (clsA K "TailError")) = some true
  m_NoThing_TailError : PySem.W.exmOne K (.ref (clsA K "NoThing")) (.ref (clsA K "TailError")) = some true
  m_NoSize_TailError : PySem.W.exmOne K (.ref (clsA K "NoSize")) (.ref (clsA K "TailError")) = some true
  m_Busy_TailError : PySem.W.exmOne K (.ref (clsA K "Busy")) (.ref (clsA K "TailError")) = some true
  m_NoLine_TailError : PySem.W.exmOne K (.ref (clsA K "NoLine")) (.ref (clsA K "TailError")) = some true
  m_NoText_TailError : PySem.W.exmOne K (.ref (clsA K "NoText")) (.ref (clsA K "TailError")) = some true
  m_Taken_NoKey : PySem.W.exmOne K (.ref (clsA K "Taken")) (.ref (clsA K "NoKey")) = some false
  m_NoKey_NoKey : PySem.W.exmOne K (.ref (clsA K "NoKey")) (.ref (clsA K "NoKey")) = some true
  m_NoName_NoKey : PySem.W.exmOne K (.ref (clsA K "NoName")) (.ref (clsA K "NoKey")) = some false
  m_NoMark_NoKey : PySem.W.exmOne K (.ref (clsA K "NoMark")) (.ref (clsA K "NoKey")) = some false
  m_Full_NoKey : PySem.W.exmOne K (.ref (clsA K "Full")) (.ref (clsA K "NoKey")) = some false
  m_Lacking_NoKey : PySem.W.exmOne K (.ref (clsA K "Lacking")) (.ref (clsA K "NoKey")) = some false
  m_NoRoom_NoKey : PySem.W.exmOne K (.ref (clsA K "NoRoom")) (.ref (clsA K "NoKey")) = some false
  m_NoThing_NoKey : PySem.W.exmOne K (.ref (clsA K "NoThing")) (.ref (clsA K "NoKey")) = some false
  m_NoSize_NoKey : PySem.W.exmOne K (.ref (clsA K "NoSize")) (.ref (clsA K "NoKey")) = some false
  m_Busy_NoKey : PySem.W.exmOne K (.ref (clsA K "Busy")) (.ref (clsA K "NoKey")) = some false
  m_NoLine_NoKey : PySem.W.exmOne K (.ref (clsA K "NoLine")) (.ref (clsA K "NoKey")) = some false
  m_NoText_NoKey : PySem.W.exmOne K (.ref (clsA K "NoText")) (.ref (clsA K "NoKey")) = some false
  m_NoSize_NoSize : PySem.W.exmOne K (.ref (clsA K "NoSize")) (.ref (clsA K "NoSize")) = some true
  m_NoSize_NoLine : PySem.W.exmOne K (.ref (clsA K "NoSize")) (.ref (clsA K "NoLine")) = some false
  m_NoKey_NoLine : PySem.W.exmOne K (.ref (clsA K "NoKey")) (.ref (clsA K "NoLine")) = some false
  m_NoThing_NoThing : PySem.W.exmOne K (.ref (clsA K "NoThing")) (.ref (clsA K "NoThing")) = some true
  m_NoThing_NoLine : PySem.W.exmOne K (.ref (clsA K "NoThing")) (.ref (clsA K "NoLine")) = some false
  m_NoRoom_NoRoom : PySem.W.exmOne K (.ref (clsA K "NoRoom")) (.ref (clsA K "NoRoom")) = some true
  m_NoRoom_NoLine : PySem.W.exmOne K (.ref (clsA K "NoRoom")) (.ref (clsA K "NoLine")) = some false
  m_Lacking_Lacking : PySem.W.exmOne K (.ref (clsA K "Lacking")) (.ref (clsA K "Lacking")) = some true
  m_Lacking_NoLine : PySem.W.exmOne K (.ref (clsA K "Lacking")) (.ref (clsA K "NoLine")) = some false
  m_Full_Full : PySem.W.exmOne K (.ref (clsA K "Full")) (.ref (clsA K "Full")) = some true
  m_Full_NoLine : PySem.W.exmOne K (.ref (clsA K "Full")) (.ref (clsA K "NoLine")) = some false
  m_NoMark_NoMark : PySem.W.exmOne K (.ref (clsA K "NoMark")) (.ref (clsA K "NoMark")) = some true
  m_NoMark_NoLine : PySem.W.exmOne K (.ref (clsA K "NoMark")) (.ref (clsA K "NoLine")) = some false
  m_NoName_NoName : PySem.W.exmOne K (.ref (clsA K "NoName")) (.ref (clsA K "NoName")) = some true
  m_NoName_NoLine : PySem.W.exmOne K (.ref (clsA K "NoName")) (.ref (clsA K "NoLine")) = some false
  m_Taken_Taken : PySem.W.exmOne K (.ref (clsA K "Taken")) (.ref (clsA K "Taken")) = some true
  m_Taken_NoLine : PySem.W.exmOne K (.ref (clsA K "Taken")) (.ref (clsA K "NoLine")) = some false
  m_Busy_Busy : PySem.W.exmOne K (.ref (clsA K "Busy")) (.ref (clsA K "Busy")) = some true
  m_Busy_NoLine : PySem.W.exmOne K (.ref (clsA K "Busy")) (.ref (clsA K "NoLine")) = some false
  m_NoText_NoText : PySem.W.exmOne K (.ref (clsA K "NoText")) (.ref (clsA K "NoText")) = some true
  m_NoText_NoLine : PySem.W.exmOne K (.ref (clsA K "NoText")) (.ref (clsA K "NoLine")) = some false
  m_NoLine_NoLine : PySem.W.exmOne K (.ref (clsA K "NoLine")) (.ref (clsA K "NoLine")) = some true
  m_NoSize_NoText : PySem.W.exmOne K (.ref (clsA K "NoSize")) (.ref (clsA K "NoText")) = some false
  m_NoKey_NoText : PySem.W.exmOne K (.ref (clsA K "NoKey")) (.ref (clsA K "NoText")) = some false
  m_NoThing_NoText : PySem.W.exmOne K (.ref (clsA K "NoThing")) (.ref (clsA K "NoText")) = some false
  m_NoRoom_NoText : PySem.W.exmOne K (.ref (clsA K "NoRoom")) (.ref (clsA K "NoText")) = some false
  m_Lacking_NoText : PySem.W.exmOne K (.ref (clsA K "Lacking")) (.ref (clsA K "NoText")) = some false
  m_Full_NoText : PySem.W.exmOne K (.ref (clsA K "Full")) (.ref (clsA K "NoText")) = some false
  m_NoMark_NoText : PySem.W.exmOne K (.ref (clsA K "NoMark")) (.ref (clsA K "NoText")) = some false
  m_NoName_NoText : PySem.W.exmOne K (.ref (clsA K "NoName")) (.ref (clsA K "NoText")) = some false
  m_Taken_NoText : PySem.W.exmOne K (.ref (clsA K "Taken")) (.ref (clsA K "NoText")) = some false
  m_Busy_NoText : PySem.W.exmOne K (.ref (clsA K "Busy")) (.ref (clsA K "NoText")) = some false
  m_NoLine_NoText : PySem.W.exmOne K (.ref (clsA K "NoLine")) (.ref (clsA K "NoText")) = some false
  m_NoSize_Busy : PySem.W.exmOne K (.ref (clsA K "NoSize")) (.ref (clsA K "Busy")) = some false
  m_NoKey_Busy : PySem.W.exmOne K (.ref (clsA K "NoKey")) (.ref (clsA K "Busy")) = some false
  m_NoThing_Busy : PySem.W.exmOne K (.ref (clsA K "NoThing")) (.ref (clsA K "Busy")) = some false
  m_NoRoom_Busy : PySem.W.exmOne K (.ref (clsA K "NoRoom")) (.ref (clsA K "Busy")) = some false
  m_Lacking_Busy : PySem.W.exmOne K (.ref (clsA K "Lacking")) (.ref (clsA K "Busy")) = some false
  m_Full_Busy : PySem.W.exmOne K (.ref (clsA K "Full")) (.ref (clsA K "Busy")) = some false
  m_NoMark_Busy : PySem.W.exmOne K (.ref (clsA K "NoMark")) (.ref (clsA K "Busy")) = some false
  m_NoName_Busy : PySem.W.exmOne K (.ref (clsA K "NoName")) (.ref (clsA K "Busy")) = some false
  m_Taken_Busy : PySem.W.exmOne K (.ref (clsA K "Taken")) (.ref (clsA K "Busy")) = some false
  m_NoText_Busy : PySem.W.exmOne K (.ref (clsA K "NoText")) (.ref (clsA K "Busy")) = some false
  m_NoLine_Busy : PySem.W.exmOne K (.ref (clsA K "NoLine")) (.ref (clsA K "Busy")) = some false
  m_NoSize_Taken : PySem.W.exmOne K (.ref (clsA K "NoSize")) (.ref (clsA K "Taken")) = some false
  m_NoKey_Taken : PySem.W.exmOne K (.ref (clsA K "NoKey")) (.ref (clsA K "Taken")) = some false
  m_NoThing_Taken : PySem.W.exmOne K (.ref (clsA K "NoThing")) (.ref (clsA K "Taken")) = some false
  m_NoRoom_Taken : PySem.W.exmOne K (.ref (clsA K "NoRoom")) (.ref (clsA K "Taken")) = some false
  m_Lacking_Taken : PySem.W.exmOne K (.ref (clsA K "Lacking")) (.ref (clsA K "Taken")) = some false
  m_Full_Taken : PySem.W.exmOne K (.ref (clsA K "Full")) (.ref (clsA K "Taken")) = some false
  m_NoMark_Taken : PySem.W.exmOne K (.ref (clsA K "NoMark")) (.ref (clsA K "Taken")) = some false
  m_NoName_Taken : PySem.W.exmOne K (.ref (clsA K "NoName")) (.ref (clsA K "Taken")) = some false
  m_Busy_Taken : PySem.W.exmOne K (.ref (clsA K "Busy")) (.ref (clsA K "Taken")) = some false
  m_NoText_Taken : PySem.W.exmOne K (.ref (clsA K "NoText")) (.ref (clsA K "Taken")) = some false
  m_NoLine_Taken : PySem.W.exmOne K (.ref (clsA K "NoLine")) (.ref (clsA K "Taken")) = some false
  m_NoSize_NoName : PySem.W.exmOne K (.ref (clsA K "NoSize")) (.ref (clsA K "NoName")) = some false
  m_NoKey_NoName : PySem.W.exmOne K (.ref (clsA K "NoKey")) (.ref (clsA K "NoName")) = some false
  m_NoThing_NoName : PySem.W.exmOne K (.ref (clsA K "NoThing")) (.ref (clsA K "NoName")) = some false
  m_NoRoom_NoName : PySem.W.exmOne K (.ref (clsA K "NoRoom")) (.ref (clsA K "NoName")) = some false
  m_Lacking_NoName : PySem.W.exmOne K (.ref (clsA K "Lacking")) (.ref (clsA K "NoName")) = some false
  m_Full_NoName : PySem.W.exmOne K (.ref (clsA K "Full")) (.ref (clsA K "NoName")) = some false
  m_NoMark_NoName : PySem.W.exmOne K (.ref (clsA K "NoMark")) (.ref (clsA K "NoName")) = some false
  m_Taken_NoName : PySem.W.exmOne K (.ref (clsA K "Taken")) (.ref (clsA K "NoName")) = some false
  m_Busy_NoName : PySem.W.exmOne K (.ref (clsA K "Busy")) (.ref (clsA K "NoName")) = some false
  m_NoText_NoName : PySem.W.exmOne K (.ref (clsA K "NoText")) (.ref (clsA K "NoName")) = some false
  m_NoLine_NoName : PySem.W.exmOne K (.ref (clsA K "NoLine")) (.ref (clsA K "NoName")) = some false
  m_NoSize_NoMark : PySem.W.exmOne K (.ref (clsA K "NoSize")) (.ref (clsA K "NoMark")) = some false
  m_NoKey_NoMark : PySem.W.exmOne K (.ref (clsA K "NoKey")) (.ref (clsA K "NoMark")) = some false
  m_NoThing_NoMark : PySem.W.exmOne K (.ref (clsA K "NoThing")) (.ref (clsA K "NoMark")) = some false
  m_NoRoom_NoMark : PySem.W.exmOne K (.ref (clsA K "NoRoom")) (.ref (clsA K "NoMark")) = some false
  m_Lacking_NoMark : PySem.W.exmOne K (.ref (clsA K "Lacking")) (.ref (clsA K "NoMark")) = some false
  m_Full_NoMark : PySem.W.exmOne K (.ref (clsA K "Full")) (.ref (clsA K "NoMark")) = some false
  m_NoName_NoMark : PySem.W.exmOne K (.ref (clsA K "NoName")) (.ref (clsA K "NoMark")) = some false
  m_Taken_NoMark : PySem.W.exmOne K (.ref (clsA K "Taken")) (.ref (clsA K "NoMark")) = some false
  m_Busy_NoMark : PySem.W.exmOne K (.ref (clsA K "Busy")) (.ref (clsA K "NoMark")) = some false
  m_NoText_NoMark : PySem.W.exmOne K (.ref (clsA K "NoText")) (.ref (clsA K "NoMark")) = some false
  m_NoLine_NoMark : PySem.W.exmOne K (.ref (clsA K "NoLine")) (.ref (clsA K "NoMark")) = some false
  m_NoSize_Full : PySem.W.exmOne K (.ref (clsA K "NoSize")) (.ref (clsA K "Full")) = some false
  m_NoKey_Full : PySem.W.exmOne K (.ref (clsA K "NoKey")) (.ref (clsA K "Full")) = some false
  m_NoThing_Full : PySem.W.exmOne K (.ref (clsA K "NoThing")) (.ref (clsA K "Full")) = some false
  m_NoRoom_Full : PySem.W.exmOne K (.ref (clsA K "NoRoom")) (.ref (clsA K "Full")) = some false
  m_Lacking_Full : PySem.W.exmOne K (.ref (clsA K "Lacking")) (.ref (clsA K "Full")) = some false
  m_NoMark_Full : PySem.W.exmOne K (.ref (clsA K "NoMark")) (.ref (clsA K "Full")) = some false
  m_NoName_Full : PySem.W.exmOne K (.ref (clsA K "NoName")) (.ref (clsA K "Full")) = some false
  m_Taken_Full : PySem.W.exmOne K (.ref (clsA K "Taken")) (.ref (clsA K "Full")) = some false
  m_Busy_Full : PySem.W.exmOne K (.ref (clsA K "Busy")) (.ref (clsA K "Full")) = some false
  m_NoText_Full : PySem.W.exmOne K (.ref (clsA K "NoText")) (.ref (clsA K "Full")) = some false
  m_NoLine_Full : PySem.W.exmOne K (.ref (clsA K "NoLine")) (.ref (clsA K "Full")) = some false
  m_NoSize_Lacking : PySem.W.exmOne K (.ref (clsA K "NoSize")) (.ref (clsA K "Lacking")) = some false
  m_NoKey_Lacking : PySem.W.exmOne K (.ref (clsA K "NoKey")) (.ref (clsA K "Lacking")) = some false
  m_NoThing_Lacking : PySem.W.exmOne K (.ref (clsA K "NoThing")) (.ref (clsA K "Lacking")) = some false
  m_NoRoom_Lacking : PySem.W.exmOne K (.ref (clsA K "NoRoom")) (.ref (clsA K "Lacking")) = some false
  m_Full_Lacking : PySem.W.exmOne K (.ref (clsA K "Full")) (.ref (clsA K "Lacking")) = some false
  m_NoMark_Lacking : PySem.W.exmOne K (.ref (clsA K "NoMark")) (.ref (clsA K "Lacking")) = some false
  m_NoName_Lacking : PySem.W.exmOne K (.ref (clsA K "NoName")) (.ref (clsA K "Lacking")) = some false
  m_Taken_Lacking : PySem.W.exmOne K (.ref (clsA K "Taken")) (.ref (clsA K "Lacking")) = some false
  m_Busy_Lacking : PySem.W.exmOne K (.ref (clsA K "Busy")) (.ref (clsA K "Lacking")) = some false
  m_NoText_Lacking : PySem.W.exmOne K (.ref (clsA K "NoText")) (.ref (clsA K "Lacking")) = some false
  m_NoLine_Lacking : PySem.W.exmOne K (.ref (clsA K "NoLine")) (.ref (clsA K "Lacking")) = some false
  m_NoSize_NoRoom : PySem.W.exmOne K (.ref (clsA K "NoSize")) (.ref (clsA K "NoRoom")) = some false
  m_NoKey_NoRoom : PySem.W.exmOne K (.ref (clsA K "NoKey")) (.ref (clsA K "NoRoom")) = some false
  m_NoThing_NoRoom : PySem.W.exmOne K (.ref (clsA K "NoThing")) (.ref (clsA K "NoRoom")) = some false
  m_Lacking_NoRoom : PySem.W.exmOne K (.ref (clsA K "Lacking")) (.ref (clsA K "NoRoom")) = some false
  m_Full_NoRoom : PySem.W.exmOne K (.ref (clsA K "Full")) (.ref (clsA K "NoRoom")) = some false
  m_NoMark_NoRoom : PySem.W.exmOne K (.ref (clsA K "NoMark")) (.ref (clsA K "NoRoom")) = some false
  m_NoName_NoRoom : PySem.W.exmOne K (.ref (clsA K "NoName")) (.ref (clsA K "NoRoom")) = some false
  m_Taken_NoRoom : PySem.W.exmOne K (.ref (clsA K "Taken")) (.ref (clsA K "NoRoom")) = some false
  m_Busy_NoRoom : PySem.W.exmOne K (.ref (clsA K "Busy")) (.ref (clsA K "NoRoom")) = some false
  m_NoText_NoRoom : PySem.W.exmOne K (.ref (clsA K "NoText")) (.ref (clsA K "NoRoom")) = some false
  m_NoLine_NoRoom : PySem.W.exmOne K (.ref (clsA K "NoLine")) (.ref (clsA K "NoRoom")) = some false
  m_NoSize_NoThing : PySem.W.exmOne K (.ref (clsA K "NoSize")) (.ref (clsA K "NoThing")) = some false
  m_NoKey_NoThing : PySem.W.exmOne K (.ref (clsA K "NoKey")) (.ref (clsA K "NoThing")) = some false
  m_NoRoom_NoThing : PySem.W.exmOne K (.ref (clsA K "NoRoom")) (.ref (clsA K "NoThing")) = some false
  m_Lacking_NoThing : PySem.W.exmOne K (.ref (clsA K "Lacking")) (.ref (clsA K "NoThing")) = some false
  m_Full_NoThing : PySem.W.exmOne K (.ref (clsA K "Full")) (.ref (clsA K "NoThing")) = some false
  m_NoMark_NoThing : PySem.W.exmOne K (.ref (clsA K "NoMark")) (.ref (clsA K "NoThing")) = some false
  m_NoName_NoThing : PySem.W.exmOne K (.ref (clsA K "NoName")) (.ref (clsA K "NoThing")) = some false
  m_Taken_NoThing : PySem.W.exmOne K (.ref (clsA K "Taken")) (.ref (clsA K "NoThing")) = some false
  m_Busy_NoThing : PySem.W.exmOne K (.ref (clsA K "Busy")) (.ref (clsA K "NoThing")) = some false
  m_NoText_NoThing : PySem.W.exmOne K (.ref (clsA K "NoText")) (.ref (clsA K "NoThing")) = some false
  m_NoLine_NoThing : PySem.W.exmOne K (.ref (clsA K "NoLine")) (.ref (clsA K "NoThing")) = some false
  m_NoKey_NoSize : PySem.W.exmOne K (.ref (clsA K "NoKey")) (.ref (clsA K "NoSize")) = some false
  m_NoThing_NoSize : PySem.W.exmOne K (.ref (clsA K "NoThing")) (.ref (clsA K "NoSize")) = some false
  m_NoRoom_NoSize : PySem.W.exmOne K (.ref (clsA K "NoRoom")) (.ref (clsA K "NoSize")) = some false
  m_Lacking_NoSize : PySem.W.exmOne K (.ref (clsA K "Lacking")) (.ref (clsA K "NoSize")) = some false
  m_Full_NoSize : PySem.W.exmOne K (.ref (clsA K "Full")) (.ref (clsA K "NoSize")) = some false
  m_NoMark_NoSize : PySem.W.exmOne K (.ref (clsA K "NoMark")) (.ref (clsA K "NoSize")) = some false
  m_NoName_NoSize : PySem.W.exmOne K (.ref (clsA K "NoName")) (.ref (clsA K "NoSize")) = some false
  m_Taken_NoSize : PySem.W.exmOne K (.ref (clsA K "Taken")) (.ref (clsA K "NoSize")) = some false
  m_Busy_NoSize : PySem.W.exmOne K (.ref (clsA K "Busy")) (.ref (clsA K "NoSize")) = some false
  m_NoText_NoSize : PySem.W.exmOne K (.ref (clsA K "NoText")) (.ref (clsA K "NoSize")) = some false
  m_NoLine_NoSize : PySem.W.exmOne K (.ref (clsA K "NoLine")) (.ref (clsA K "NoSize")) = some false
  eb_Busy : ExB K mg "Busy"
  eb_NoLine : ExB K mg "NoLine"
  eb_NoText : ExB K mg "NoText"

noncomputable abbrev s_Taken___init : Stmt := inClass (topS 13) 0

noncomputable abbrev s_NoKey___init : Stmt := inClass (topS 3) 0

noncomputable abbrev s_law_flags : Stmt := topS 19

noncomputable abbrev s_law_taken : Stmt := topS 23

noncomputable abbrev s_law_same : Stmt := topS 22

noncomputable abbrev s_law_values : Stmt := topS 21

noncomputable abbrev s_NoName___init : Stmt := inClass (topS 12) 0

noncomputable abbrev s_NoMark___init : Stmt := inClass (topS 8) 0

noncomputable abbrev s_Full___init : Stmt := inClass (topS 7) 0

noncomputable abbrev s_Lacking___init : Stmt := inClass (topS 6) 0

noncomputable abbrev s_NoRoom___init : Stmt := inClass (topS 5) 0

noncomputable abbrev s_NoThing___init : Stmt := inClass (topS 4) 0

noncomputable abbrev s_NoSize___init : Stmt := inClass (topS 2) 0

noncomputable abbrev s_law_made : Stmt := topS 20

noncomputable abbrev s_law_draw : Stmt := topS 16

noncomputable abbrev s_law_far : Stmt := topS 17

noncomputable abbrev s_law_thing : Stmt := topS 18

noncomputable abbrev s_law_open : Stmt := topS 15

noncomputable abbrev s_law : Stmt := topS 24

theorem sc_Taken___init : FnScope ["self", "name"] ["self", "name"] (defScope s_Taken___init) := ⟨rfl, rfl, rfl, by decide +kernel, rfl, by decide +kernel, by decide +kernel⟩

theorem sc_NoKey___init : FnScope ["self", "key"] ["self", "key"] (defScope s_NoKey___init) := ⟨rfl, rfl, rfl, by decide +kernel, rfl, by decide +kernel, by decide +kernel⟩

theorem sc_law_flags : FnScope ["_law_e", "_law_some"] ["_law_e"] (defScope s_law_flags) := ⟨rfl, rfl, rfl, by decide +kernel, rfl, by decide +kernel, by decide +kernel⟩

theorem sc_law_taken : FnScope ["_law_k", "_law_thing_here", "_law_e", "_law_j"] ["_law_k", "_law_thing_here"] (defScope s_law_taken) := ⟨rfl, rfl, rfl, by decide +kernel, rfl, by decide +kernel, by decide +kernel⟩

theorem sc_law_same : FnScope ["_law_one", "_law_other", "_law_k"] ["_law_one", "_law_other"] (defScope s_law_same) := ⟨rfl, rfl, rfl, by decide +kernel, rfl, by decide +kernel, by decide +kernel⟩

theorem sc_law_values : FnScope ["_law_made_here", "_law_told"] ["_law_made_here"] (defScope s_law_values) := ⟨rfl, rfl, rfl, by decide +kernel, rfl, by decide +kernel, by decide +kernel⟩

theorem sc_NoName___init : FnScope ["self", "name"] ["self", "name"] (defScope s_NoName___init) := ⟨rfl, rfl, rfl, by decide +kernel, rfl, by decide +kernel, by decide +kernel⟩

theorem sc_NoMark___init : FnScope ["self", "mark"] ["self", "mark"] (defScope s_NoMark___init) := ⟨rfl, rfl, rfl, by decide +kernel, rfl, by decide +kernel, by decide +kernel⟩

theorem sc_Full___init : FnScope ["self", "many"] ["self", "many"] (defScope s_Full___init) := ⟨rfl, rfl, rfl, by decide +kernel, rfl, by decide +kernel, by decide +kernel⟩

theorem sc_Lacking___init : FnScope ["self", "key"] ["self", "key"] (defScope s_Lacking___init) := ⟨rfl, rfl, rfl, by decide +kernel, rfl, by decide +kernel, by decide +kernel⟩

theorem sc_NoRoom___init : FnScope ["self", "number"] ["self", "number"] (defScope s_NoRoom___init) := ⟨rfl, rfl, rfl, by decide +kernel, rfl, by decide +kernel, by decide +kernel⟩

theorem sc_NoThing___init : FnScope ["self", "thing"] ["self", "thing"] (defScope s_NoThing___init) := ⟨rfl, rfl, rfl, by decide +kernel, rfl, by decide +kernel, by decide +kernel⟩

theorem sc_NoSize___init : FnScope ["self", "thing"] ["self", "thing"] (defScope s_NoSize___init) := ⟨rfl, rfl, rfl, by decide +kernel, rfl, by decide +kernel, by decide +kernel⟩

theorem sc_law_made : FnScope ["_law_some", "_law_made_here"] ["_law_some"] (defScope s_law_made) := ⟨rfl, rfl, rfl, by decide +kernel, rfl, by decide +kernel, by decide +kernel⟩

theorem sc_law_draw : FnScope ["_law_hand", "_law_many", "_law_got", "_law_k", "_law_number"] ["_law_hand", "_law_many"] (defScope s_law_draw) := ⟨rfl, rfl, rfl, by decide +kernel, rfl, by decide +kernel, by decide +kernel⟩

theorem sc_law_far : FnScope ["_law_hand", "_law_many", "_law_number", "_law_k"] ["_law_hand", "_law_many"] (defScope s_law_far) := ⟨rfl, rfl, rfl, by decide +kernel, rfl, by decide +kernel, by decide +kernel⟩

theorem sc_law_thing : FnScope ["_law_hand", "_law_number", "_law_some"] ["_law_hand"] (defScope s_law_thing) := ⟨rfl, rfl, rfl, by decide +kernel, rfl, by decide +kernel, by decide +kernel⟩

theorem sc_law_open : FnScope ["_law_script", "_law_place", "_law_cells", "_law_at", "_law_digits", "_law_cell"] ["_law_script", "_law_place"] (defScope s_law_open) := ⟨rfl, rfl, rfl, by decide +kernel, rfl, by decide +kernel, by decide +kernel⟩

theorem sc_law : FnScope ["_law_script", "_law_place", "_law_hand", "_law_some", "_law_more", "_law_made_here", "_law_others", "_law_k", "_law_j"] ["_law_script"] (defScope s_law) := ⟨rfl, rfl, rfl, by decide +kernel, rfl, by decide +kernel, by decide +kernel⟩

section
variable {P : Program} {w : World} {K : PySem.W.Frag} {mg : Str → Option Value} {base : Heap}

/-! ### Taken.__init__ -/
theorem has_Taken___init (z : Z K mg) (T : ExF K mg "Taken" "name") (F : ExAt K "Taken" "Taken.__init__" s_Taken___init ["self", "name"]) : HasE P w K mg base "Taken" "name" 1 := by
  refine has_ofE T F sc_Taken___init (fun vs H Q E h => ?_) (fun f cdv A outer s H vs Q E hr h => ?_)
  · obtain ⟨_, _, _, rfl, _⟩ := h
    rfl
  · obtain ⟨a, C, v, rfl, o, n, ha, q⟩ := h
    refine ⟨_, (pss_cons (ps_expr (pe_teinit z.t_TailError rfl (pa_cons (pv 0) (pa_cons pe_str pa_nil))))
        (pss_one (ps_ost (pv 0) (pv 1)))), ?_⟩
    walk_at "cx"
    walk_at "ss"
    refine s_ve ?_
    walk_at "ss"
    refine n_ve o ha (by show 1 ≤ 1000; decide) ?_
    walk_at "ss"
    refine s_os ?_
    walk_at "ss"
    exact n_os o n ha q

/-! ### NoKey.__init__ -/
theorem has_NoKey___init (z : Z K mg) (T : ExF K mg "NoKey" "key") (F : ExAt K "NoKey" "NoKey.__init__" s_NoKey___init ["self", "key"]) : HasE P w K mg base "NoKey" "key" 1 := by
  refine has_ofE T F sc_NoKey___init (fun vs H Q E h => ?_) (fun f cdv A outer s H vs Q E hr h => ?_)
  · obtain ⟨_, _, _, rfl, _⟩ := h
    rfl
  · obtain ⟨a, C, v, rfl, o, n, ha, q⟩ := h
    refine ⟨_, (pss_cons (ps_expr (pe_teinit z.t_TailError rfl (pa_cons (pv 0) (pa_cons pe_str pa_nil))))
        (pss_one (ps_ost (pv 0) (pv 1)))), ?_⟩
    walk_at "cx"
    walk_at "ss"
    refine s_ve ?_
    walk_at "ss"
    refine n_ve o ha (by show 1 ≤ 1000; decide) ?_
    walk_at "ss"
    refine s_os ?_
    walk_at "ss"
    exact n_os o n ha q

/-! ### _law_flags -/
noncomputable def sp_law_flags (K : PySem.W.Frag) : Sp := fun vs H Q _ => ∃ (a : Addr) (i : Nat) (o : Option (Str × V)) (Z : Hp), vs = [.ref a] ∧ i < 12 ∧ ExV Z a (clsA K (nmX i)) o ∧ Ex Z H ∧
  ∀ p Z' H', T [] Z H Z' H' → Ls Z' p (flgX i) → Q (.ref p) H'
noncomputable def spv_law_flags (K : PySem.W.Frag) : SpV := fun _ cls d H Q => ∃ (i : Nat), i < 12 ∧ cls = .ref (clsA K (nmX i)) ∧ (∀ dd, d = some dd → ∃ fs, H dd = some (.xd fs)) ∧
  ∀ p Z' H', T [] H H Z' H' → Ls Z' p (flgX i) → Q (.ref p) H'
theorem famX {mg : Str → Option Value} {K : PySem.W.Frag} (z : Z K mg) : FamX K where
  isx := fun i hi => match i, hi with
    | 0, _ => z.ix_NoSize
    | 1, _ => z.ix_NoKey
    | 2, _ => z.ix_NoThing
    | 3, _ => z.ix_NoRoom
    | 4, _ => z.ix_Lacking
    | 5, _ => z.ix_Full
    | 6, _ => z.ix_NoMark
    | 7, _ => z.ix_NoName
    | 8, _ => z.ix_Taken
    | 9, _ => z.ix_Busy
    | 10, _ => z.ix_NoText
    | 11, _ => z.ix_NoLine
  kit := fun i j hi hj => match i, j, hi, hj with
    | 0, 0, _, _ => kit_yes z.m_NoSize_NoSize
    | 0, 1, _, _ => kit_no z.m_NoSize_NoSize z.m_NoSize_NoKey
    | 0, 2, _, _ => kit_no z.m_NoSize_NoSize z.m_NoSize_NoThing
    | 0, 3, _, _ => kit_no z.m_NoSize_NoSize z.m_NoSize_NoRoom
    | 0, 4, _, _ => kit_no z.m_NoSize_NoSize z.m_NoSize_Lacking
    | 0, 5, _, _ => kit_no z.m_NoSize_NoSize z.m_NoSize_Full
    | 0, 6, _, _ => kit_no z.m_NoSize_NoSize z.m_NoSize_NoMark
    | 0, 7, _, _ => kit_no z.m_NoSize_NoSize z.m_NoSize_NoName
    | 0, 8, _, _ => kit_no z.m_NoSize_NoSize z.m_NoSize_Taken
    | 0, 9, _, _ => kit_no z.m_NoSize_NoSize z.m_NoSize_Busy
    | 0, 10, _, _ => kit_no z.m_NoSize_NoSize z.m_NoSize_NoText
    | 0, 11, _, _ => kit_no z.m_NoSize_NoSize z.m_NoSize_NoLine
    | 1, 0, _, _ => kit_no z.m_NoKey_NoKey z.m_NoKey_NoSize
    | 1, 1, _, _ => kit_yes z.m_NoKey_NoKey
    | 1, 2, _, _ => kit_no z.m_NoKey_NoKey z.m_NoKey_NoThing
    | 1, 3, _, _ => kit_no z.m_NoKey_NoKey z.m_NoKey_NoRoom
    | 1, 4, _, _ => kit_no z.m_NoKey_NoKey z.m_NoKey_Lacking
    | 1, 5, _, _ => kit_no z.m_NoKey_NoKey z.m_NoKey_Full
    | 1, 6, _, _ => kit_no z.m_NoKey_NoKey z.m_NoKey_NoMark
    | 1, 7, _, _ => kit_no z.m_NoKey_NoKey z.m_NoKey_NoName
    | 1, 8, _, _ => kit_no z.m_NoKey_NoKey z.m_NoKey_Taken
    | 1, 9, _, _ => kit_no z.m_NoKey_NoKey z.m_NoKey_Busy
    | 1, 10, _, _ => kit_no z.m_NoKey_NoKey z.m_NoKey_NoText
    | 1, 11, _, _ => kit_no z.m_NoKey_NoKey z.m_NoKey_NoLine
    | 2, 0, _, _ => kit_no z.m_NoThing_NoThing z.m_NoThing_NoSize
    | 2, 1, _, _ => kit_no z.m_NoThing_NoThing z.m_NoThing_NoKey
    | 2, 2, _, _ => kit_yes z.m_NoThing_NoThing
    | 2, 3, _, _ => kit_no z.m_NoThing_NoThing z.m_NoThing_NoRoom
    | 2, 4, _, _ => kit_no z.m_NoThing_NoThing z.m_NoThing_Lacking
    | 2, 5, _, _ => kit_no z.m_NoThing_NoThing z.m_NoThing_Full
    | 2, 6, _, _ => kit_no z.m_NoThing_NoThing z.m_NoThing_NoMark
    | 2, 7, _, _ => kit_no z.m_NoThing_NoThing z.m_NoThing_NoName
    | 2, 8, _, _ => kit_no z.m_NoThing_NoThing z.m_NoThing_Taken
    | 2, 9, _, _ => kit_no z.m_NoThing_NoThing z.m_NoThing_Busy
    | 2, 10, _, _ => kit_no z.m_NoThing_NoThing z.m_NoThing_NoText
    | 2, 11, _, _ => kit_no z.m_NoThing_NoThing z.m_NoThing_NoLine
    | 3, 0, _, _ => kit_no z.m_NoRoom_NoRoom z.m_NoRoom_NoSize
    | 3, 1, _, _ => kit_no z.m_NoRoom_NoRoom z.m_NoRoom_NoKey
    | 3, 2, _, _ => kit_no z.m_NoRoom_NoRoom z.m_NoRoom_NoThing
    | 3, 3, _, _ => kit_yes z.m_NoRoom_NoRoom
    | 3, 4, _, _ => kit_no z.m_NoRoom_NoRoom z.m_NoRoom_Lacking
    | 3, 5, _, _ => kit_no z.m_NoRoom_NoRoom z.m_NoRoom_Full
    | 3, 6, _, _ => kit_no z.m_NoRoom_NoRoom z.m_NoRoom_NoMark
    | 3, 7, _, _ => kit_no z.m_NoRoom_NoRoom z.m_NoRoom_NoName
    | 3, 8, _, _ => kit_no z.m_NoRoom_NoRoom z.m_NoRoom_Taken
    | 3, 9, _, _ => kit_no z.m_NoRoom_NoRoom z.m_NoRoom_Busy
    | 3, 10, _, _ => kit_no z.m_NoRoom_NoRoom z.m_NoRoom_NoText
    | 3, 11, _, _ => kit_no z.m_NoRoom_NoRoom z.m_NoRoom_NoLine
    | 4, 0, _, _ => kit_no z.m_Lacking_Lacking z.m_Lacking_NoSize
    | 4, 1, _, _ => kit_no z.m_Lacking_Lacking z.m_Lacking_NoKey
    | 4, 2, _, _ => kit_no z.m_Lacking_Lacking z.m_Lacking_NoThing
    | 4, 3, _, _ => kit_no z.m_Lacking_Lacking z.m_Lacking_NoRoom
    | 4, 4, _, _ => kit_yes z.m_Lacking_Lacking
    | 4, 5, _, _ => kit_no z.m_Lacking_Lacking z.m_Lacking_Full
    | 4, 6, _, _ => kit_no z.m_Lacking_Lacking z.m_Lacking_NoMark
    | 4, 7, _, _ => kit_no z.m_Lacking_Lacking z.m_Lacking_NoName
    | 4, 8, _, _ => kit_no z.m_Lacking_Lacking z.m_Lacking_Taken
    | 4, 9, _, _ => kit_no z.m_Lacking_Lacking z.m_Lacking_Busy
    | 4, 10, _, _ => kit_no z.m_Lacking_Lacking z.m_Lacking_NoText
    | 4, 11, _, _ => kit_no z.m_Lacking_Lacking z.m_Lacking_NoLine
    | 5, 0, _, _ => kit_no z.m_Full_Full z.m_Full_NoSize
    | 5, 1, _, _ => kit_no z.m_Full_Full z.m_Full_NoKey
    | 5, 2, _, _ => kit_no z.m_Full_Full z.m_Full_NoThing
    | 5, 3, _, _ => kit_no z.m_Full_Full z.m_Full_NoRoom
    | 5, 4, _, _ => kit_no z.m_Full_Full z.m_Full_Lacking
    | 5, 5, _, _ => kit_yes z.m_Full_Full
    | 5, 6, _, _ => kit_no z.m_Full_Full z.m_Full_NoMark
    | 5, 7, _, _ => kit_no z.m_Full_Full z.m_Full_NoName
    | 5, 8, _, _ => kit_no z.m_Full_Full z.m_Full_Taken
    | 5, 9, _, _ => kit_no z.m_Full_Full z.m_Full_Busy
    | 5, 10, _, _ => kit_no z.m_Full_Full z.m_Full_NoText
    | 5, 11, _, _ => kit_no z.m_Full_Full z.m_Full_NoLine
    | 6, 0, _, _ => kit_no z.m_NoMark_NoMark z.m_NoMark_NoSize
    | 6, 1, _, _ => kit_no z.m_NoMark_NoMark z.m_NoMark_NoKey
    | 6, 2, _, _ => kit_no z.m_NoMark_NoMark z.m_NoMark_NoThing
    | 6, 3, _, _ => kit_no z.m_NoMark_NoMark z.m_NoMark_NoRoom
    | 6, 4, _, _ => kit_no z.m_NoMark_NoMark z.m_NoMark_Lacking
    | 6, 5, _, _ => kit_no z.m_NoMark_NoMark z.m_NoMark_Full
    | 6, 6, _, _ => kit_yes z.m_NoMark_NoMark
    | 6, 7, _, _ => kit_no z.m_NoMark_NoMark z.m_NoMark_NoName
    | 6, 8, _, _ => kit_no z.m_NoMark_NoMark z.m_NoMark_Taken
    | 6, 9, _, _ => kit_no z.m_NoMark_NoMark z.m_NoMark_Busy
    | 6, 10, _, _ => kit_no z.m_NoMark_NoMark z.m_NoMark_NoText
    | 6, 11, _, _ => kit_no z.m_NoMark_NoMark z.m_NoMark_NoLine
    | 7, 0, _, _ => kit_no z.m_NoName_NoName z.m_NoName_NoSize
    | 7, 1, _, _ => kit_no z.m_NoName_NoName z.m_NoName_NoKey
    | 7, 2, _, _ => kit_no z.m_NoName_NoName z.m_NoName_NoThing
    | 7, 3, _, _ => kit_no z.m_NoName_NoName z.m_NoName_NoRoom
    | 7, 4, _, _ => kit_no z.m_NoName_NoName z.m_NoName_Lacking
    | 7, 5, _, _ => kit_no z.m_NoName_NoName z.m_NoName_Full
    | 7, 6, _, _ => kit_no z.m_NoName_NoName z.m_NoName_NoMark
    | 7, 7, _, _ => kit_yes z.m_NoName_NoName
    | 7, 8, _, _ => kit_no z.m_NoName_NoName z.m_NoName_Taken
    | 7, 9, _, _ => kit_no z.m_NoName_NoName z.m_NoName_Busy
    | 7, 10, _, _ => kit_no z.m_NoName_NoName z.m_NoName_NoText
    | 7, 11, _, _ => kit_no z.m_NoName_NoName z.m_NoName_NoLine
    | 8, 0, _, _ => kit_no z.m_Taken_Taken z.m_Taken_NoSize
    | 8, 1, _, _ => kit_no z.m_Taken_Taken z.m_Taken_NoKey
    | 8, 2, _, _ => kit_no z.m_Taken_Taken z.m_Taken_NoThing
    | 8, 3, _, _ => kit_no z.m_Taken_Taken z.m_Taken_NoRoom
    | 8, 4, _, _ => kit_no z.m_Taken_Taken z.m_Taken_Lacking
    | 8, 5, _, _ => kit_no z.m_Taken_Taken z.m_Taken_Full
    | 8, 6, _, _ => kit_no z.m_Taken_Taken z.m_Taken_NoMark
    | 8, 7, _, _ => kit_no z.m_Taken_Taken z.m_Taken_NoName
    | 8, 8, _, _ => kit_yes z.m_Taken_Taken
    | 8, 9, _, _ => kit_no z.m_Taken_Taken z.m_Taken_Busy
    | 8, 10, _, _ => kit_no z.m_Taken_Taken z.m_Taken_NoText
    | 8, 11, _, _ => kit_no z.m_Taken_Taken z.m_Taken_NoLine
    | 9, 0, _, _ => kit_no z.m_Busy_Busy z.m_Busy_NoSize
    | 9, 1, _, _ => kit_no z.m_Busy_Busy z.m_Busy_NoKey
    | 9, 2, _, _ => kit_no z.m_Busy_Busy z.m_Busy_NoThing
    | 9, 3, _, _ => kit_no z.m_Busy_Busy z.m_Busy_NoRoom
    | 9, 4, _, _ => kit_no z.m_Busy_Busy z.m_Busy_Lacking
    | 9, 5, _, _ => kit_no z.m_Busy_Busy z.m_Busy_Full
    | 9, 6, _, _ => kit_no z.m_Busy_Busy z.m_Busy_NoMark
    | 9, 7, _, _ => kit_no z.m_Busy_Busy z.m_Busy_NoName
    | 9, 8, _, _ => kit_no z.m_Busy_Busy z.m_Busy_Taken
    | 9, 9, _, _ => kit_yes z.m_Busy_Busy
    | 9, 10, _, _ => kit_no z.m_Busy_Busy z.m_Busy_NoText
    | 9, 11, _, _ => kit_no z.m_Busy_Busy z.m_Busy_NoLine
    | 10, 0, _, _ => kit_no z.m_NoText_NoText z.m_NoText_NoSize
    | 10, 1, _, _ => kit_no z.m_NoText_NoText z.m_NoText_NoKey
    | 10, 2, _, _ => kit_no z.m_NoText_NoText z.m_NoText_NoThing
    | 10, 3, _, _ => kit_no z.m_NoText_NoText z.m_NoText_NoRoom
    | 10, 4, _, _ => kit_no z.m_NoText_NoText z.m_NoText_Lacking
    | 10, 5, _, _ => kit_no z.m_NoText_NoText z.m_NoText_Full
    | 10, 6, _, _ => kit_no z.m_NoText_NoText z.m_NoText_NoMark
    | 10, 7, _, _ => kit_no z.m_NoText_NoText z.m_NoText_NoName
    | 10, 8, _, _ => kit_no z.m_NoText_NoText z.m_NoText_Taken
    | 10, 9, _, _ => kit_no z.m_NoText_NoText z.m_NoText_Busy
    | 10, 10, _, _ => kit_yes z.m_NoText_NoText
    | 10, 11, _, _ => kit_no z.m_NoText_NoText z.m_NoText_NoLine
    | 11, 0, _, _ => kit_no z.m_NoLine_NoLine z.m_NoLine_NoSize
    | 11, 1, _, _ => kit_no z.m_NoLine_NoLine z.m_NoLine_NoKey
    | 11, 2, _, _ => kit_no z.m_NoLine_NoLine z.m_NoLine_NoThing
    | 11, 3, _, _ => kit_no z.m_NoLine_NoLine z.m_NoLine_NoRoom
    | 11, 4, _, _ => kit_no z.m_NoLine_NoLine z.m_NoLine_Lacking
    | 11, 5, _, _ => kit_no z.m_NoLine_NoLine z.m_NoLine_Full
    | 11, 6, _, _ => kit_no z.m_NoLine_NoLine z.m_NoLine_NoMark
    | 11, 7, _, _ => kit_no z.m_NoLine_NoLine z.m_NoLine_NoName
    | 11, 8, _, _ => kit_no z.m_NoLine_NoLine z.m_NoLine_Taken
    | 11, 9, _, _ => kit_no z.m_NoLine_NoLine z.m_NoLine_Busy
    | 11, 10, _, _ => kit_no z.m_NoLine_NoLine z.m_NoLine_NoText
    | 11, 11, _, _ => kit_yes z.m_NoLine_NoLine
  te := fun i hi => match i, hi with
    | 0, _ => kit_yes z.m_NoSize_TailError
    | 1, _ => kit_yes z.m_NoKey_TailError
    | 2, _ => kit_yes z.m_NoThing_TailError
    | 3, _ => kit_yes z.m_NoRoom_TailError
    | 4, _ => kit_yes z.m_Lacking_TailError
    | 5, _ => kit_yes z.m_Full_TailError
    | 6, _ => kit_yes z.m_NoMark_TailError
    | 7, _ => kit_yes z.m_NoName_TailError
    | 8, _ => kit_yes z.m_Taken_TailError
    | 9, _ => kit_yes z.m_Busy_TailError
    | 10, _ => kit_yes z.m_NoText_TailError
    | 11, _ => kit_yes z.m_NoLine_TailError
  ve := fun i hi => match i, hi with
    | 0, _ => kit_ty' z.sv_NoSize meta_ve
    | 1, _ => kit_ty' z.sv_NoKey meta_ve
    | 2, _ => kit_ty' z.sv_NoThing meta_ve
    | 3, _ => kit_ty' z.sv_NoRoom meta_ve
    | 4, _ => kit_ty' z.sv_Lacking meta_ve
    | 5, _ => kit_ty' z.sv_Full meta_ve
    | 6, _ => kit_ty' z.sv_NoMark meta_ve
    | 7, _ => kit_ty' z.sv_NoName meta_ve
    | 8, _ => kit_ty' z.sv_Taken meta_ve
    | 9, _ => kit_ty' z.sv_Busy meta_ve
    | 10, _ => kit_ty' z.sv_NoText meta_ve
    | 11, _ => kit_ty' z.sv_NoLine meta_ve
theorem has_law_flags (z : Z K mg) (F : FunAt K mg "_law_flags" s_law_flags ["_law_e"])  : Has P w K mg base "_law_flags" 1 (sp_law_flags K) := by
  refine has_of F sc_law_flags (fun vs H Q E h => ?_) (fun f cdv A outer s H vs Q E hr h => ?_)
  · obtain ⟨_, _, _, _, rfl, _⟩ := h
    rfl
  · obtain ⟨a, i, o, Z, rfl, hi, ha, z0, q⟩ := h
    refine ⟨_, (pss_cons (ps_set (i := 1) sc_law_flags.nd rfl (by first | exact Or.inl rfl | exact Or.inr rfl) (pe_lst (pa_cons (pe_callB (id := "isinstance") (isEA (K := K) rfl) (by rfl) z.b_isinstance (by decide +kernel) (pa_cons (pv 0) (pa_cons (pe_glob (v := .ref (clsA K "NoSize")) rfl z.g_NoSize rfl) pa_nil))) (pa_cons (pe_callB (id := "isinstance") (isEA (K := K) rfl) (by rfl) z.b_isinstance (by decide +kernel) (pa_cons (pv 0) (pa_cons (pe_glob (v := .ref (clsA K "NoKey")) rfl z.g_NoKey rfl) pa_nil))) (pa_cons (pe_callB (id := "isinstance") (isEA (K := K) rfl) (by rfl) z.b_isinstance (by decide +kernel) (pa_cons (pv 0) (pa_cons (pe_glob (v := .ref (clsA K "NoThing")) rfl z.g_NoThing rfl) pa_nil))) (pa_cons (pe_callB (id := "isinstance") (isEA (K := K) rfl) (by rfl) z.b_isinstance (by decide +kernel) (pa_cons (pv 0) (pa_cons (pe_glob (v := .ref (clsA K "NoRoom")) rfl z.g_NoRoom rfl) pa_nil))) pa_nil))))))
        (pss_cons (ps_set (i := 1) sc_law_flags.nd rfl (by first | exact Or.inl rfl | exact Or.inr rfl) (pe_op op_plusA (pv 1) (pe_lst (pa_cons (pe_callB (id := "isinstance") (isEA (K := K) rfl) (by rfl) z.b_isinstance (by decide +kernel) (pa_cons (pv 0) (pa_cons (pe_glob (v := .ref (clsA K "Lacking")) rfl z.g_Lacking rfl) pa_nil))) (pa_cons (pe_callB (id := "isinstance") (isEA (K := K) rfl) (by rfl) z.b_isinstance (by decide +kernel) (pa_cons (pv 0) (pa_cons (pe_glob (v := .ref (clsA K "Full")) rfl z.g_Full rfl) pa_nil))) (pa_cons (pe_callB (id := "isinstance") (isEA (K := K) rfl) (by rfl) z.b_isinstance (by decide +kernel) (pa_cons (pv 0) (pa_cons (pe_glob (v := .ref (clsA K "NoMark")) rfl z.g_NoMark rfl) pa_nil))) (pa_cons (pe_callB (id := "isinstance") (isEA (K := K) rfl) (by rfl) z.b_isinstance (by decide +kernel) (pa_cons (pv 0) (pa_cons (pe_glob (v := .ref (clsA K "NoName")) rfl z.g_NoName rfl) pa_nil))) pa_nil)))))))
        (pss_one (ps_ret (pe_op op_plusA (pv 1) (pe_lst (pa_cons (pe_callB (id := "isinstance") (isEA (K := K) rfl) (by rfl) z.b_isinstance (by decide +kernel) (pa_cons (pv 0) (pa_cons (pe_glob (v := .ref (clsA K "Taken")) rfl z.g_Taken rfl) pa_nil))) (pa_cons (pe_callB (id := "isinstance") (isEA (K := K) rfl) (by rfl) z.b_isinstance (by decide +kernel) (pa_cons (pv 0) (pa_cons (pe_glob (v := .ref (clsA K "Busy")) rfl z.g_Busy rfl) pa_nil))) (pa_cons (pe_callB (id := "isinstance") (isEA (K := K) rfl) (by rfl) z.b_isinstance (by decide +kernel) (pa_cons (pv 0) (pa_cons (pe_glob (v := .ref (clsA K "NoText")) rfl z.g_NoText rfl) pa_nil))) (pa_cons (pe_callB (id := "isinstance") (isEA (K := K) rfl) (by rfl) z.b_isinstance (by decide +kernel) (pa_cons (pv 0) (pa_cons (pe_glob (v := .ref (clsA K "NoLine")) rfl z.g_NoLine rfl) pa_nil))) pa_nil)))))))))), ?_⟩
    walk_at "cx"
    have fam := famX z
    walk_at "tlN"
    refine s_isE ha z0 (fam.isx i hi) (.own _) (fam.kit i 0 hi (by decide)) ?_
    walk_at "tlN"
    refine s_isE ha z0 (fam.isx i hi) (.own _) (fam.kit i 1 hi (by decide)) ?_
    walk_at "tlN"
    refine s_isE ha z0 (fam.isx i hi) (.own _) (fam.kit i 2 hi (by decide)) ?_
    walk_at "tlN"
    refine s_isE ha z0 (fam.isx i hi) (.own _) (fam.kit i 3 hi (by decide)) ?_
    walk_at "tlN"
    refine t_newF z0 (by show 4 ≤ 100000; decide) fun p1 Z1 H1 n1 t1 f1 => ?_
    have z1 := t1.zh
    walk_at "tlN"
    have ha1 := ha.ex t1.z
    refine s_isE ha1 t1.zh (fam.isx i hi) (.own _) (fam.kit i 4 hi (by decide)) ?_
    walk_at "tlN"
    refine s_isE ha1 t1.zh (fam.isx i hi) (.own _) (fam.kit i 5 hi (by decide)) ?_
    walk_at "tlN"
    refine s_isE ha1 t1.zh (fam.isx i hi) (.own _) (fam.kit i 6 hi (by decide)) ?_
    walk_at "tlN"
    refine s_isE ha1 t1.zh (fam.isx i hi) (.own _) (fam.kit i 7 hi (by decide)) ?_
    walk_at "tlN"
    refine t_newF t1.zh (by show 4 ≤ 100000; decide) fun p2 Z2 H2 n2 t2 f2 => ?_
    have z2 := t2.zh
    walk_at "tlN"
    refine t_catP t2.zh (t2.zh _ _ (t2.z _ _ f1)) (t2.zh _ _ f2) (by show 4 + 4 ≤ 100000; decide) fun p3 Z3 H3 n3 t3 f3 => ?_
    have z3 := t3.zh
    walk_at "tlN"
    have ha3 := (ha1.ex t2.z).ex t3.z
    refine s_isE ha3 z3 (fam.isx i hi) (.own _) (fam.kit i 8 hi (by decide)) ?_
    walk_at "tlN"
    refine s_isE ha3 z3 (fam.isx i hi) (.own _) (fam.kit i 9 hi (by decide)) ?_
    walk_at "tlN"
    refine s_isE ha3 z3 (fam.isx i hi) (.own _) (fam.kit i 10 hi (by decide)) ?_
    walk_at "tlN"
    refine s_isE ha3 z3 (fam.isx i hi) (.own _) (fam.kit i 11 hi (by decide)) ?_
    walk_at "tlN"
    refine t_newF z3 (by show 4 ≤ 100000; decide) fun p4 Z4 H4 n4 t4 f4 => ?_
    have z4 := t4.zh
    walk_at "tlN"
    refine t_catP t4.zh (t4.zh _ _ (t4.z _ _ f3)) (t4.zh _ _ f4) (by show 8 + 4 ≤ 100000; decide) fun p5 Z5 H5 n5 t5 f5 => ?_
    have z5 := t5.zh
    exact q p5 Z5 H5 ((((t1.step t2 mm_nil).step t3 mm_nil).step t4 mm_nil).step t5 mm_nil) (ls_bools (l := flgX i) f5)

theorem hasv_law_flags (z : Z K mg) (F : FunAt K mg "_law_flags" s_law_flags ["_law_e"]) : HasV P w K mg base "_law_flags" 1 (spv_law_flags K) := by
  refine has_ofV F sc_law_flags (fun f cdv A outer s H Q a oe cls d hr hz hf h => ?_)
  obtain ⟨i, hi, rfl, hx, q⟩ := h
  refine ⟨_, (pss_cons (ps_set (i := 1) sc_law_flags.nd rfl (by first | exact Or.inl rfl | exact Or.inr rfl) (pe_lst (pa_cons (pe_callB (id := "isinstance") (isVA (K := K) rfl rfl hz hf) (by rfl) z.b_isinstance (by decide +kernel) (pa_cons (pv 0) (pa_cons (pe_glob (v := .ref (clsA K "NoSize")) rfl z.g_NoSize rfl) pa_nil))) (pa_cons (pe_callB (id := "isinstance") (isVA (K := K) rfl rfl hz hf) (by rfl) z.b_isinstance (by decide +kernel) (pa_cons (pv 0) (pa_cons (pe_glob (v := .ref (clsA K "NoKey")) rfl z.g_NoKey rfl) pa_nil))) (pa_cons (pe_callB (id := "isinstance") (isVA (K := K) rfl rfl hz hf) (by rfl) z.b_isinstance (by decide +kernel) (pa_cons (pv 0) (pa_cons (pe_glob (v := .ref (clsA K "NoThing")) rfl z.g_NoThing rfl) pa_nil))) (pa_cons (pe_callB (id := "isinstance") (isVA (K := K) rfl rfl hz hf) (by rfl) z.b_isinstance (by decide +kernel) (pa_cons (pv 0) (pa_cons (pe_glob (v := .ref (clsA K "NoRoom")) rfl z.g_NoRoom rfl) pa_nil))) pa_nil))))))
        (pss_cons (ps_set (i := 1) sc_law_flags.nd rfl (by first | exact Or.inl rfl | exact Or.inr rfl) (pe_op op_plusA (pv 1) (pe_lst (pa_cons (pe_callB (id := "isinstance") (isVA (K := K) rfl rfl hz hf) (by rfl) z.b_isinstance (by decide +kernel) (pa_cons (pv 0) (pa_cons (pe_glob (v := .ref (clsA K "Lacking")) rfl z.g_Lacking rfl) pa_nil))) (pa_cons (pe_callB (id := "isinstance") (isVA (K := K) rfl rfl hz hf) (by rfl) z.b_isinstance (by decide +kernel) (pa_cons (pv 0) (pa_cons (pe_glob (v := .ref (clsA K "Full")) rfl z.g_Full rfl) pa_nil))) (pa_cons (pe_callB (id := "isinstance") (isVA (K := K) rfl rfl hz hf) (by rfl) z.b_isinstance (by decide +kernel) (pa_cons (pv 0) (pa_cons (pe_glob (v := .ref (clsA K "NoMark")) rfl z.g_NoMark rfl) pa_nil))) (pa_cons (pe_callB (id := "isinstance") (isVA (K := K) rfl rfl hz hf) (by rfl) z.b_isinstance (by decide +kernel) (pa_cons (pv 0) (pa_cons (pe_glob (v := .ref (clsA K "NoName")) rfl z.g_NoName rfl) pa_nil))) pa_nil)))))))
        (pss_one (ps_ret (pe_op op_plusA (pv 1) (pe_lst (pa_cons (pe_callB (id := "isinstance") (isVA (K := K) rfl rfl hz hf) (by rfl) z.b_isinstance (by decide +kernel) (pa_cons (pv 0) (pa_cons (pe_glob (v := .ref (clsA K "Taken")) rfl z.g_Taken rfl) pa_nil))) (pa_cons (pe_callB (id := "isinstance") (isVA (K := K) rfl rfl hz hf) (by rfl) z.b_isinstance (by decide +kernel) (pa_cons (pv 0) (pa_cons (pe_glob (v := .ref (clsA K "Busy")) rfl z.g_Busy rfl) pa_nil))) (pa_cons (pe_callB (id := "isinstance") (isVA (K := K) rfl rfl hz hf) (by rfl) z.b_isinstance (by decide +kernel) (pa_cons (pv 0) (pa_cons (pe_glob (v := .ref (clsA K "NoText")) rfl z.g_NoText rfl) pa_nil))) (pa_cons (pe_callB (id := "isinstance") (isVA (K := K) rfl rfl hz hf) (by rfl) z.b_isinstance (by decide +kernel) (pa_cons (pv 0) (pa_cons (pe_glob (v := .ref (clsA K "NoLine")) rfl z.g_NoLine rfl) pa_nil))) pa_nil)))))))))), ?_⟩
  · walk_at "cx"
    have fam := famX z
    have z0 : Ex H H := Ex.refl _
    walk_at "tlN"
    refine s_isV (fam.isx i hi) hx (.own _) (fam.kit i 0 hi (by decide)) ?_
    walk_at "tlN"
    refine s_isV (fam.isx i hi) hx (.own _) (fam.kit i 1 hi (by decide)) ?_
    walk_at "tlN"
    refine s_isV (fam.isx i hi) hx (.own _) (fam.kit i 2 hi (by decide)) ?_
    walk_at "tlN"
    refine s_isV (fam.isx i hi) hx (.own _) (fam.kit i 3 hi (by decide)) ?_
    walk_at "tlN"
    refine t_newF z0 (by show 4 ≤ 100000; decide) fun p1 Z1 H1 n1 t1 f1 => ?_
    have z1 := t1.zh
    walk_at "tlN"
    have hx1 : ∀ dd, d = some dd → ∃ fs, H1 dd = some (.xd fs) := fun dd e => by
      obtain ⟨fs, g⟩ := hx dd e
      exact ⟨fs, t1.hp nm_nil g⟩
    refine s_isV (fam.isx i hi) hx1 (.own _) (fam.kit i 4 hi (by decide)) ?_
    walk_at "tlN"
    refine s_isV (fam.isx i hi) hx1 (.own _) (fam.kit i 5 hi (by decide)) ?_
    walk_at "tlN"
    refine s_isV (fam.isx i hi) hx1 (.own _) (fam.kit i 6 hi (by decide)) ?_
    walk_at "tlN"
    refine s_isV (fam.isx i hi) hx1 (.own _) (fam.kit i 7 hi (by decide)) ?_
    walk_at "tlN"
    refine t_newF t1.zh (by show 4 ≤ 100000; decide) fun p2 Z2 H2 n2 t2 f2 => ?_
    have z2 := t2.zh
    walk_at "tlN"
    refine t_catP t2.zh (t2.zh _ _ (t2.z _ _ f1)) (t2.zh _ _ f2) (by show 4 + 4 ≤ 100000; decide) fun p3 Z3 H3 n3 t3 f3 => ?_
    have z3 := t3.zh
    walk_at "tlN"
    have hx3 : ∀ dd, d = some dd → ∃ fs, H3 dd = some (.xd fs) := fun dd e => by
      obtain ⟨fs, g⟩ := hx1 dd e
      exact ⟨fs, t3.hp nm_nil (t2.hp nm_nil g)⟩
    refine s_isV (fam.isx i hi) hx3 (.own _) (fam.kit i 8 hi (by decide)) ?_
    walk_at "tlN"
    refine s_isV (fam.isx i hi) hx3 (.own _) (fam.kit i 9 hi (by decide)) ?_
    walk_at "tlN"
    refine s_isV (fam.isx i hi) hx3 (.own _) (fam.kit i 10 hi (by decide)) ?_
    walk_at "tlN"
    refine s_isV (fam.isx i hi) hx3 (.own _) (fam.kit i 11 hi (by decide)) ?_
    walk_at "tlN"
    refine t_newF z3 (by show 4 ≤ 100000; decide) fun p4 Z4 H4 n4 t4 f4 => ?_
    have z4 := t4.zh
    walk_at "tlN"
    refine t_catP t4.zh (t4.zh _ _ (t4.z _ _ f3)) (t4.zh _ _ f4) (by show 8 + 4 ≤ 100000; decide) fun p5 Z5 H5 n5 t5 f5 => ?_
    have z5 := t5.zh
    exact q p5 Z5 H5 ((((t1.step t2 mm_nil).step t3 mm_nil).step t4 mm_nil).step t5 mm_nil) (ls_bools (l := flgX i) f5)

/-! ### _law_taken -/
noncomputable def sp_law_taken (K : PySem.W.Frag) : Sp := fun vs H Q _ => ∃ (k : Int) (v : V) (Z : Hp), vs = [.int k, v] ∧ 0 ≤ k ∧ k < 3 ∧ ThX Z v ∧ Ex Z H ∧
  ∀ Z' H', T [] Z H Z' H' → Q (.bl true) H'
theorem has_law_taken (z : Z K mg) (F : FunAt K mg "_law_taken" s_law_taken ["_law_k", "_law_thing_here"]) (e_Taken : HasE P w K mg base "Taken" "name" 1) (e_NoKey : HasE P w K mg base "NoKey" "key" 1) (v_law_flags : HasV P w K mg base "_law_flags" 1 (spv_law_flags K)) : Has P w K mg base "_law_taken" 3 (sp_law_taken K) := by
  refine has_of F sc_law_taken (fun vs H Q E h => ?_) (fun f cdv A outer s H vs Q E hr h => ?_)
  · obtain ⟨_, _, _, rfl, _⟩ := h
    rfl
  · obtain ⟨k, v, Z, rfl, k0, k3, hv, z0, q⟩ := h
    refine ⟨_, (pss_cons (ps_try_clsN (Wout := fun _ _ _ _ => False) rfl rfl sc_law_taken.nd takesN0 (fun W pn xe tk pq => (pss_cons (ps_if (pt_cmpR (eqA (K := K) rfl hr.units) (pv 0) pe_int (nomark _)) (pss_one (ps_raiseXN (K := K) rfl tk e_NoKey (Nat.le_refl _) (hr.mono (by decide)) rfl rfl (pa_cons (pv 1) pa_nil))) pss_nil)
        (pss_cons (ps_if (pt_cmpR (eqA (K := K) rfl hr.units) (pv 0) pe_int (nomark _)) (pss_one (ps_raise0N (K := K) rfl tk z.eb_Busy rfl rfl)) pss_nil)
        (pss_one (ps_raiseXN (K := K) rfl tk e_Taken (Nat.le_refl _) (hr.mono (by decide)) rfl rfl (pa_cons (pv 1) pa_nil)))))) (ClsOkN.cons (ClOkN.named (i := 2) ⟨rfl, by decide, Or.inl z.g_NoKey⟩ rfl rfl (fun a oe cls d pn hn hf => have hz := L2N.Zn.zc hn; (pss_one (ps_ret (pe_and (pe_cmpR (eqA (K := K) rfl hr.units) (pv 0) pe_int (nomark _)) (pe_one (pe_cmpR (eqXA (K := K) rfl hr.units) (pe_xf z.x_NoKey z.xn_NoKey_key hz hf (pv 2)) (pv 1) (nomark _)))))))) (ClsOkN.cons (ClOkN.named (i := 2) ⟨rfl, by decide, Or.inl z.g_TailError⟩ rfl rfl (fun a oe cls d pn hn hf => have hz := L2N.Zn.zc hn; (pss_one (ps_ret (pe_and (pe_cmpR op_gt (pv 0) pe_int (nomark _)) (pe_one (pe_cmpR (eqA (K := K) rfl hr.units) (pe_callSx hz hf v_law_flags hr (by decide) rfl (pv 2)) (pe_lcH (own := [("_law_j", 3)]) (g := gName 3) (tt := tYes) (hotS hn hf) sc_law_taken.nd (pi_rangeR (by rfl) z.b_range (pa_cons pe_int pa_nil)) (blkOk_by (own := [("_law_j", 3)]) (N := ["_law_k", "_law_thing_here", "_law_e", "_law_j"]) (sc := defScope s_law_taken) (by decide +kernel)) (fun _ _ _ _ _ => (pg_name (i := 3) sc_law_taken.nd rfl (by first | exact Or.inl rfl | exact Or.inr rfl))) (fun _ _ _ _ _ => pts_nil) (fun _ _ _ _ _ => (pe_cmpR (eqA (K := K) rfl hr.units) (pv 3) (pe_ix (ixA (K := K) rfl) (pe_lst (pa_cons pe_int (pa_cons pe_int pa_nil))) (pe_op op_mod (pv 0) pe_int) (fun _ _ => rfl)) (nomark _)))) (nomark _)))))))) ClsOkN.nil)))
        (pss_one (ps_ret pe_bl))), ?_⟩
    walk_at "cx"
    walk_at "tlN"
    refine i_d (fun e0 => ?_) (fun e0 => ?_)
    · walk_at "tlN"
      rename_i d hd
      have tA : T [] Z H _ _ := T.new (o := HO.xd [("key", v)]) hd z0
      have fd : (upd H d (HO.xd [("key", v)])) d = some (.xd [("key", v)]) := upd_same
      have zA := tA.zh
      refine n_as z.m_NoKey_NoKey fun ea na => ?_
      generalize upd H d (HO.xd [("key", v)]) = HA at tA fd zA na ⊢
      walk_at "tlN"
      refine s_eqX (hv.ex tA.z) zA ?_
      walk_at "tlN"
      exact q _ HA tA
    · walk_at "tlN"
      refine i_d (fun e1 => ?_) (fun e1 => ?_)
      · walk_at "tlN"
        obtain rfl : k = 1 := e1
        refine n_asNo z.m_Busy_NoKey ?_
        refine n_as z.m_Busy_TailError fun ea na => ?_
        walk_at "tlN"
        refine s_Sx ?_
        walk_at "tlN"
        refine n_Sx ⟨9, by decide, rfl, (fun dd h => by cases h), fun p Z1 H1 t1 ls1 => ?_⟩
        have z1 := t1.zh
        walk_at "tlN"
        refine c_mapR (fun j : Nat => decide ((9 : Nat) = j)) z1 (by decide) (fun j hj Z2 H2 t2 A hA => ?_) (fun D Z2 H2 nD t2 ls2 => ?_)
        · have z2 := t2.zh
          walk_at "tls"
          rename_i p2 Z3 H3 n3 t3 f3 _ _
          have e : decide ((j : Int) = 9) = decide ((9 : Nat) = j) := decide_eq_decide.mpr ⟨by omega, by omega⟩
          rw [e]
          exact hA _ Z3 H3 t3 (Ik.bl _)
        · have z2 := t2.zh
          have i1 := (ls1.tt t2).is
          have i2 := ls2.is
          walk_at "tlN"
          refine s_eqP (x := flgX 9) (y := (List.range (Int.toNat 12)).map fun j => decide (9 = j)) (Ik.ex z2 i1).is (Ik.ex z2 i2).is (by decide) ?_
          rw [show decide (flgX 9 = (List.range (Int.toNat 12)).map fun j => decide (9 = j)) = true by decide]
          exact q Z H2 (T.ofEx (t1.ehX.trans t2.ehX) z0)
      · walk_at "tlN"
        rename_i d hd
        have tA : T [] Z H _ _ := T.new (o := HO.xd [("name", v)]) hd z0
        have fd : (upd H d (HO.xd [("name", v)])) d = some (.xd [("name", v)]) := upd_same
        have zA := tA.zh
        generalize upd H d (HO.xd [("name", v)]) = HA at tA fd zA ⊢
        obtain rfl : k = 2 := by omega
        refine n_asNo z.m_Taken_NoKey ?_
        refine n_as z.m_Taken_TailError fun ea na => ?_
        walk_at "tlN"
        refine s_Sx ?_
        walk_at "tlN"
        refine n_Sx ⟨8, by decide, rfl, (fun dd h => by cases h; exact ⟨_, fd⟩), fun p Z1 H1 t1 ls1 => ?_⟩
        have z1 := t1.zh
        walk_at "tlN"
        refine c_mapR (fun j : Nat => decide ((8 : Nat) = j)) z1 (by decide) (fun j hj Z2 H2 t2 A hA => ?_) (fun D Z2 H2 nD t2 ls2 => ?_)
        · have z2 := t2.zh
          walk_at "tls"
          rename_i p2 Z3 H3 n3 t3 f3 _ _
          have e : decide ((j : Int) = 8) = decide ((8 : Nat) = j) := decide_eq_decide.mpr ⟨by omega, by omega⟩
          rw [e]
          exact hA _ Z3 H3 t3 (Ik.bl _)
        · have z2 := t2.zh
          have i1 := (ls1.tt t2).is
          have i2 := ls2.is
          walk_at "tlN"
          refine s_eqP (x := flgX 8) (y := (List.range (Int.toNat 12)).map fun j => decide (8 = j)) (Ik.ex z2 i1).is (Ik.ex z2 i2).is (by decide) ?_
          rw [show decide (flgX 8 = (List.range (Int.toNat 12)).map fun j => decide (8 = j)) = true by decide]
          exact q Z H2 (T.ofEx (tA.ehX.trans (t1.ehX.trans t2.ehX)) z0)

/-! ### _law_same -/
noncomputable def sp_law_same (K : PySem.W.Frag) : Sp := fun vs H Q _ => ∃ (a b : Addr) (xs : List V) (Z : Hp), vs = [.ref a, .ref b] ∧ Z a = some (.lst xs) ∧ Z b = some (.lst xs) ∧ xs.length = 9 ∧ (∀ v ∈ xs, ThX Z v) ∧ Ex Z H ∧
  ∀ Z' H', T [] Z H Z' H' → Q (.bl true) H'
theorem has_law_same (z : Z K mg) (F : FunAt K mg "_law_same" s_law_same ["_law_one", "_law_other"])  : Has P w K mg base "_law_same" 1 (sp_law_same K) := by
  refine has_of F sc_law_same (fun vs H Q E h => ?_) (fun f cdv A outer s H vs Q E hr h => ?_)
  · obtain ⟨_, _, _, _, rfl, _⟩ := h
    rfl
  · obtain ⟨a, b, xs, Z, rfl, ha, hb, hl, hv, z0, q⟩ := h
    refine ⟨_, (pss_cons (ps_for PassesOwn.never rfl (pi_range1 (by rfl) z.b_range (pa_cons pe_int pa_nil)) (pg_name (i := 2) sc_law_same.nd rfl (by first | exact Or.inl rfl | exact Or.inr rfl)) (pss_one (ps_if (PW.pt (pw_or (pt_cmpR (neA (K := K) rfl hr.units) (pe_callB (id := "isinstance") (isiA (K := K) rfl) (by rfl) z.b_isinstance (by decide +kernel) (pa_cons (pe_ix (ixA (K := K) rfl) (pv 0) (pv 2) (fun _ _ => rfl)) (pa_cons (pe_bltn (v := .ty "bool") (by rfl) z.b_bool (by decide +kernel) rfl) pa_nil))) (pe_callB (id := "isinstance") (isiA (K := K) rfl) (by rfl) z.b_isinstance (by decide +kernel) (pa_cons (pe_ix (ixA (K := K) rfl) (pv 1) (pv 2) (fun _ _ => rfl)) (pa_cons (pe_bltn (v := .ty "bool") (by rfl) z.b_bool (by decide +kernel) rfl) pa_nil))) (nomark _)) (pw_or1 (pt_cmpR (neXA (K := K) rfl hr.units) (pe_ix (ixA (K := K) rfl) (pv 0) (pv 2) (fun _ _ => rfl)) (pe_ix (ixA (K := K) rfl) (pv 1) (pv 2) (fun _ _ => rfl)) (nomark _))))) (pss_one (ps_ret pe_bl)) pss_nil)))
        (pss_one (ps_ret pe_bl))), ?_⟩
    walk_at "cx"
    have sa := sq_of (K := K) (z0 _ _ ha)
    have sb := sq_of (K := K) (z0 _ _ hb)
    walk_at "tlN"
    refine u_forR1 (fun i σ H' => ∃ x1, σ = [some (.ref a), some (.ref b), x1] ∧ H' = H) (by decide) ⟨_, rfl, rfl⟩ (fun i σ H1 hi hh => ?_) (fun σ H1 hh => ?_)
    · obtain ⟨x1, rfl, rfl⟩ := hh
      walk_at "tlN"
      refine ixGo sa (ig_mem ⟨by omega, by rw [hl]; exact hi⟩ fun v hv1 ev => ?_)
      have tv := hv v hv1
      walk_at "tlN"
      refine s_isiThB tv z0 ?_
      walk_at "tlN"
      refine ixGo sb (ig_mem ⟨by omega, by rw [hl]; exact hi⟩ fun v2 _ ev2 => ?_)
      obtain rfl : v = v2 := Option.some.inj (ev.symm.trans ev2)
      walk_at "tlN"
      refine s_isiThB tv z0 ?_
      walk_at "tlN"
      refine ixGo sa (ig_mem ⟨by omega, by rw [hl]; exact hi⟩ fun v3 _ ev3 => ?_)
      obtain rfl : v = v3 := Option.some.inj (ev.symm.trans ev3)
      walk_at "tlN"
      refine ixGo sb (ig_mem ⟨by omega, by rw [hl]; exact hi⟩ fun v4 _ ev4 => ?_)
      obtain rfl : v = v4 := Option.some.inj (ev.symm.trans ev4)
      refine s_neX tv z0 ?_
      walk_at "tlN"
      exact ⟨_, rfl, rfl⟩
    · obtain ⟨x1, rfl, rfl⟩ := hh
      walk_at "tlN"
      exact q Z H1 (T.refl z0)

/-! ### _law_values -/
noncomputable def sp_law_values (K : PySem.W.Frag) : Sp := fun vs H Q _ => ∃ (p : Addr) (xs : List V) (Z : Hp), vs = [.ref p] ∧ MadeX K Z xs p ∧ Ex Z H ∧
  ∀ q Z' H', T [] Z H Z' H' → Z' q = some (.lst xs) → Q (.ref q) H'
theorem has_law_values (z : Z K mg) (F : FunAt K mg "_law_values" s_law_values ["_law_made_here"])  : Has P w K mg base "_law_values" 1 (sp_law_values K) := by
  refine has_of F sc_law_values (fun vs H Q E h => ?_) (fun f cdv A outer s H vs Q E hr h => ?_)
  · obtain ⟨_, _, _, rfl, _⟩ := h
    rfl
  · obtain ⟨p, xs, Z, rfl, mx, z0, q⟩ := h
    refine ⟨_, (pss_cons (ps_set (i := 1) sc_law_values.nd rfl (by first | exact Or.inl rfl | exact Or.inr rfl) (pe_lst (pa_cons (pe_xe (K := K) rfl (pe_ix (ixA (K := K) rfl) (pv 0) pe_int (fun _ _ => rfl))) (pa_cons (pe_xe (K := K) rfl (pe_ix (ixA (K := K) rfl) (pv 0) pe_int (fun _ _ => rfl))) (pa_cons (pe_xe (K := K) rfl (pe_ix (ixA (K := K) rfl) (pv 0) pe_int (fun _ _ => rfl))) (pa_cons (pe_xe (K := K) rfl (pe_ix (ixA (K := K) rfl) (pv 0) pe_int (fun _ _ => rfl))) (pa_cons (pe_xe (K := K) rfl (pe_ix (ixA (K := K) rfl) (pv 0) pe_int (fun _ _ => rfl))) (pa_cons (pe_xe (K := K) rfl (pe_ix (ixA (K := K) rfl) (pv 0) pe_int (fun _ _ => rfl))) pa_nil))))))))
        (pss_one (ps_ret (pe_op op_plusA (pv 1) (pe_lst (pa_cons (pe_xe (K := K) rfl (pe_ix (ixA (K := K) rfl) (pv 0) pe_int (fun _ _ => rfl))) (pa_cons (pe_xe (K := K) rfl (pe_ix (ixA (K := K) rfl) (pv 0) pe_int (fun _ _ => rfl))) (pa_cons (pe_xe (K := K) rfl (pe_ix (ixA (K := K) rfl) (pv 0) pe_int (fun _ _ => rfl))) pa_nil)))))))), ?_⟩
    walk_at "cx"
    obtain ⟨a0, a1, a2, a3, a4, a5, a6, a7, a8, a9, a10, a11, v0, v1, v2, v3, v4, v5, v6, v7, v8, rfl, hp, x0, x1, x2, x3, x4, x5, x6, x7, x8, x9, x10, x11⟩ := mx
    have sp := sq_of (K := K) (z0 _ _ hp)
    walk_at "tlN"
    refine s_xe ?_
    walk_at "tlN"
    refine n_xe x0 z0 z.x_NoSize z.xn_NoSize_thing ?_
    walk_at "tlN"
    refine s_xe ?_
    walk_at "tlN"
    refine n_xe x1 z0 z.x_NoKey z.xn_NoKey_key ?_
    walk_at "tlN"
    refine s_xe ?_
    walk_at "tlN"
    refine n_xe x2 z0 z.x_NoThing z.xn_NoThing_thing ?_
    walk_at "tlN"
    refine s_xe ?_
    walk_at "tlN"
    refine n_xe x3 z0 z.x_NoRoom z.xn_NoRoom_number ?_
    walk_at "tlN"
    refine s_xe ?_
    walk_at "tlN"
    refine n_xe x4 z0 z.x_Lacking z.xn_Lacking_key ?_
    walk_at "tlN"
    refine s_xe ?_
    walk_at "tlN"
    refine n_xe x5 z0 z.x_Full z.xn_Full_many ?_
    walk_at "tlN"
    refine t_newF z0 (by show 6 ≤ 100000; decide) fun pa Za Ha na ta fa => ?_
    have za := ta.zh
    have spa := sq_of (K := K) (za _ _ (ta.z _ _ hp))
    walk_at "tlN"
    refine s_xe ?_
    walk_at "tlN"
    refine n_xe (x6.ex ta.z) za z.x_NoMark z.xn_NoMark_mark ?_
    walk_at "tlN"
    refine s_xe ?_
    walk_at "tlN"
    refine n_xe (x7.ex ta.z) za z.x_NoName z.xn_NoName_name ?_
    walk_at "tlN"
    refine s_xe ?_
    walk_at "tlN"
    refine n_xe (x8.ex ta.z) za z.x_Taken z.xn_Taken_name ?_
    walk_at "tlN"
    refine t_newF za (by show 3 ≤ 100000; decide) fun pb Zb Hb nb tb fb => ?_
    have zb := tb.zh
    walk_at "tlN"
    refine t_catP zb (zb _ _ (tb.z _ _ fa)) (zb _ _ fb) (by show 6 + 3 ≤ 100000; decide) fun pc Zc Hc nc tc fc => ?_
    have zc := tc.zh
    walk_at "tlN"
    exact q pc Zc Hc ((ta.step tb mm_nil).step tc mm_nil) fc

/-! ### NoName.__init__ -/
theorem has_NoName___init (z : Z K mg) (T : ExF K mg "NoName" "name") (F : ExAt K "NoName" "NoName.__init__" s_NoName___init ["self", "name"]) : HasE P w K mg base "NoName" "name" 1 := by
  refine has_ofE T F sc_NoName___init (fun vs H Q E h => ?_) (fun f cdv A outer s H vs Q E hr h => ?_)
  · obtain ⟨_, _, _, rfl, _⟩ := h
    rfl
  · obtain ⟨a, C, v, rfl, o, n, ha, q⟩ := h
    refine ⟨_, (pss_cons (ps_expr (pe_teinit z.t_TailError rfl (pa_cons (pv 0) (pa_cons pe_str pa_nil))))
        (pss_one (ps_ost (pv 0) (pv 1)))), ?_⟩
    walk_at "cx"
    walk_at "ss"
    refine s_ve ?_
    walk_at "ss"
    refine n_ve o ha (by show 1 ≤ 1000; decide) ?_
    walk_at "ss"
    refine s_os ?_
    walk_at "ss"
    exact n_os o n ha q

/-! ### NoMark.__init__ -/
theorem has_NoMark___init (z : Z K mg) (T : ExF K mg "NoMark" "mark") (F : ExAt K "NoMark" "NoMark.__init__" s_NoMark___init ["self", "mark"]) : HasE P w K mg base "NoMark" "mark" 1 := by
  refine has_ofE T F sc_NoMark___init (fun vs H Q E h => ?_) (fun f cdv A outer s H vs Q E hr h => ?_)
  · obtain ⟨_, _, _, rfl, _⟩ := h
    rfl
  · obtain ⟨a, C, v, rfl, o, n, ha, q⟩ := h
    refine ⟨_, (pss_cons (ps_expr (pe_teinit z.t_TailError rfl (pa_cons (pv 0) (pa_cons pe_str pa_nil))))
        (pss_one (ps_ost (pv 0) (pv 1)))), ?_⟩
    walk_at "cx"
    walk_at "ss"
    refine s_ve ?_
    walk_at "ss"
    refine n_ve o ha (by show 1 ≤ 1000; decide) ?_
    walk_at "ss"
    refine s_os ?_
    walk_at "ss"
    exact n_os o n ha q

/-! ### Full.__init__ -/
theorem has_Full___init (z : Z K mg) (T : ExF K mg "Full" "many") (F : ExAt K "Full" "Full.__init__" s_Full___init ["self", "many"]) : HasE P w K mg base "Full" "many" 1 := by
  refine has_ofE T F sc_Full___init (fun vs H Q E h => ?_) (fun f cdv A outer s H vs Q E hr h => ?_)
  · obtain ⟨_, _, _, rfl, _⟩ := h
    rfl
  · obtain ⟨a, C, v, rfl, o, n, ha, q⟩ := h
    refine ⟨_, (pss_cons (ps_expr (pe_teinit z.t_TailError rfl (pa_cons (pv 0) (pa_cons pe_str pa_nil))))
        (pss_one (ps_ost (pv 0) (pv 1)))), ?_⟩
    walk_at "cx"
    walk_at "ss"
    refine s_ve ?_
    walk_at "ss"
    refine n_ve o ha (by show 1 ≤ 1000; decide) ?_
    walk_at "ss"
    refine s_os ?_
    walk_at "ss"
    exact n_os o n ha q

/-! ### Lacking.__init__ -/
theorem has_Lacking___init (z : Z K mg) (T : ExF K mg "Lacking" "key") (F : ExAt K "Lacking" "Lacking.__init__" s_Lacking___init ["self", "key"]) : HasE P w K mg base "Lacking" "key" 1 := by
  refine has_ofE T F sc_Lacking___init (fun vs H Q E h => ?_) (fun f cdv A outer s H vs Q E hr h => ?_)
  · obtain ⟨_, _, _, rfl, _⟩ := h
    rfl
  · obtain ⟨a, C, v, rfl, o, n, ha, q⟩ := h
    refine ⟨_, (pss_cons (ps_expr (pe_teinit z.t_TailError rfl (pa_cons (pv 0) (pa_cons pe_str pa_nil))))
        (pss_one (ps_ost (pv 0) (pv 1)))), ?_⟩
    walk_at "cx"
    walk_at "ss"
    refine s_ve ?_
    walk_at "ss"
    refine n_ve o ha (by show 1 ≤ 1000; decide) ?_
    walk_at "ss"
    refine s_os ?_
    walk_at "ss"
    exact n_os o n ha q

/-! ### NoRoom.__init__ -/
theorem has_NoRoom___init (z : Z K mg) (T : ExF K mg "NoRoom" "number") (F : ExAt K "NoRoom" "NoRoom.__init__" s_NoRoom___init ["self", "number"]) : HasE P w K mg base "NoRoom" "number" 1 := by
  refine has_ofE T F sc_NoRoom___init (fun vs H Q E h => ?_) (fun f cdv A outer s H vs Q E hr h => ?_)
  · obtain ⟨_, _, _, rfl, _⟩ := h
    rfl
  · obtain ⟨a, C, v, rfl, o, n, ha, q⟩ := h
    refine ⟨_, (pss_cons (ps_expr (pe_teinit z.t_TailError rfl (pa_cons (pv 0) (pa_cons pe_str pa_nil))))
        (pss_one (ps_ost (pv 0) (pv 1)))), ?_⟩
    walk_at "cx"
    walk_at "ss"
    refine s_ve ?_
    walk_at "ss"
    refine n_ve o ha (by show 1 ≤ 1000; decide) ?_
    walk_at "ss"
    refine s_os ?_
    walk_at "ss"
    exact n_os o n ha q

/-! ### NoThing.__init__ -/
theorem has_NoThing___init (z : Z K mg) (T : ExF K mg "NoThing" "thing") (F : ExAt K "NoThing" "NoThing.__init__" s_NoThing___init ["self", "thing"]) : HasE P w K mg base "NoThing" "thing" 1 := by
  refine has_ofE T F sc_NoThing___init (fun vs H Q E h => ?_) (fun f cdv A outer s H vs Q E hr h => ?_)
  · obtain ⟨_, _, _, rfl, _⟩ := h
    rfl
  · obtain ⟨a, C, v, rfl, o, n, ha, q⟩ := h
    refine ⟨_, (pss_cons (ps_expr (pe_teinit z.t_TailError rfl (pa_cons (pv 0) (pa_cons pe_str pa_nil))))
        (pss_one (ps_ost (pv 0) (pv 1)))), ?_⟩
    walk_at "cx"
    walk_at "ss"
    refine s_ve ?_
    walk_at "ss"
    refine n_ve o ha (by show 1 ≤ 1000; decide) ?_
    walk_at "ss"
    refine s_os ?_
    walk_at "ss"
    exact n_os o n ha q

/-! ### NoSize.__init__ -/
theorem has_NoSize___init (z : Z K mg) (T : ExF K mg "NoSize" "thing") (F : ExAt K "NoSize" "NoSize.__init__" s_NoSize___init ["self", "thing"]) : HasE P w K mg base "NoSize" "thing" 1 := by
  refine has_ofE T F sc_NoSize___init (fun vs H Q E h => ?_) (fun f cdv A outer s H vs Q E hr h => ?_)
  · obtain ⟨_, _, _, rfl, _⟩ := h
    rfl
  · obtain ⟨a, C, v, rfl, o, n, ha, q⟩ := h
    refine ⟨_, (pss_cons (ps_expr (pe_teinit z.t_TailError rfl (pa_cons (pv 0) (pa_cons pe_str pa_nil))))
        (pss_one (ps_ost (pv 0) (pv 1)))), ?_⟩
    walk_at "cx"
    walk_at "ss"
    refine s_ve ?_
    walk_at "ss"
    refine n_ve o ha (by show 1 ≤ 1000; decide) ?_
    walk_at "ss"
    refine s_os ?_
    walk_at "ss"
    exact n_os o n ha q

/-! ### _law_made -/
noncomputable def sp_law_made (K : PySem.W.Frag) : Sp := fun vs H Q _ => ∃ (p : Addr) (xs : List V) (Z : Hp), vs = [.ref p] ∧ Z p = some (.lst xs) ∧ xs.length = 9 ∧ Ex Z H ∧
  ∀ q Z' H', T [] Z H Z' H' → MadeX K Z' xs q → Q (.ref q) H'
theorem has_law_made (z : Z K mg) (F : FunAt K mg "_law_made" s_law_made ["_law_some"]) (e_Taken : HasE P w K mg base "Taken" "name" 1) (e_NoName : HasE P w K mg base "NoName" "name" 1) (e_NoMark : HasE P w K mg base "NoMark" "mark" 1) (e_Full : HasE P w K mg base "Full" "many" 1) (e_Lacking : HasE P w K mg base "Lacking" "key" 1) (e_NoRoom : HasE P w K mg base "NoRoom" "number" 1) (e_NoThing : HasE P w K mg base "NoThing" "thing" 1) (e_NoKey : HasE P w K mg base "NoKey" "key" 1) (e_NoSize : HasE P w K mg base "NoSize" "thing" 1) : Has P w K mg base "_law_made" 3 (sp_law_made K) := by
  refine has_of F sc_law_made (fun vs H Q E h => ?_) (fun f cdv A outer s H vs Q E hr h => ?_)
  · obtain ⟨_, _, _, rfl, _⟩ := h
    rfl
  · obtain ⟨p, xs, Z, rfl, hp, hl, z0, q⟩ := h
    refine ⟨_, (pss_cons (ps_set (i := 1) sc_law_made.nd rfl (by first | exact Or.inl rfl | exact Or.inr rfl) (pe_lst (pa_cons (pe_mkV (K := K) rfl e_NoSize (Nat.le_refl _) (hr.mono (by decide)) rfl (pa_cons (pe_ix (ixA (K := K) rfl) (pv 0) pe_int (fun _ _ => rfl)) pa_nil)) (pa_cons (pe_mkV (K := K) rfl e_NoKey (Nat.le_refl _) (hr.mono (by decide)) rfl (pa_cons (pe_ix (ixA (K := K) rfl) (pv 0) pe_int (fun _ _ => rfl)) pa_nil)) (pa_cons (pe_mkV (K := K) rfl e_NoThing (Nat.le_refl _) (hr.mono (by decide)) rfl (pa_cons (pe_ix (ixA (K := K) rfl) (pv 0) pe_int (fun _ _ => rfl)) pa_nil)) (pa_cons (pe_mkV (K := K) rfl e_NoRoom (Nat.le_refl _) (hr.mono (by decide)) rfl (pa_cons (pe_ix (ixA (K := K) rfl) (pv 0) pe_int (fun _ _ => rfl)) pa_nil)) (pa_cons (pe_mkV (K := K) rfl e_Lacking (Nat.le_refl _) (hr.mono (by decide)) rfl (pa_cons (pe_ix (ixA (K := K) rfl) (pv 0) pe_int (fun _ _ => rfl)) pa_nil)) (pa_cons (pe_mkV (K := K) rfl e_Full (Nat.le_refl _) (hr.mono (by decide)) rfl (pa_cons (pe_ix (ixA (K := K) rfl) (pv 0) pe_int (fun _ _ => rfl)) pa_nil)) pa_nil))))))))
        (pss_one (ps_ret (pe_op op_plusA (pv 1) (pe_lst (pa_cons (pe_mkV (K := K) rfl e_NoMark (Nat.le_refl _) (hr.mono (by decide)) rfl (pa_cons (pe_ix (ixA (K := K) rfl) (pv 0) pe_int (fun _ _ => rfl)) pa_nil)) (pa_cons (pe_mkV (K := K) rfl e_NoName (Nat.le_refl _) (hr.mono (by decide)) rfl (pa_cons (pe_ix (ixA (K := K) rfl) (pv 0) pe_int (fun _ _ => rfl)) pa_nil)) (pa_cons (pe_mkV (K := K) rfl e_Taken (Nat.le_refl _) (hr.mono (by decide)) rfl (pa_cons (pe_ix (ixA (K := K) rfl) (pv 0) pe_int (fun _ _ => rfl)) pa_nil)) (pa_cons (pe_mkV0 (K := K) rfl z.eb_Busy rfl) (pa_cons (pe_mkV0 (K := K) rfl z.eb_NoText rfl) (pa_cons (pe_mkV0 (K := K) rfl z.eb_NoLine rfl) pa_nil))))))))))), ?_⟩
    walk_at "cx"
    obtain ⟨v0, v1, v2, v3, v4, v5, v6, v7, v8, rfl⟩ : ∃ v0 v1 v2 v3 v4 v5 v6 v7 v8, xs = [v0, v1, v2, v3, v4, v5, v6, v7, v8] := nine hl
    have sp := sq_of (K := K) (z0 _ _ hp)
    walk_at "tlN"
    refine s_mkV ?_
    walk_at "tlN"
    refine t_mkV z0 fun a0 Z1 H1 n0 t1 x0 => ?_
    have z1 := t1.zh
    have hp1 := t1.z _ _ hp
    have sp1 := sq_of (K := K) (z1 _ _ hp1)
    walk_at "tlN"
    refine s_mkV ?_
    walk_at "tlN"
    refine t_mkV z1 fun a1 Z2 H2 n1 t2 x1 => ?_
    have z2 := t2.zh
    have hp2 := t2.z _ _ hp1
    have sp2 := sq_of (K := K) (z2 _ _ hp2)
    walk_at "tlN"
    refine s_mkV ?_
    walk_at "tlN"
    refine t_mkV z2 fun a2 Z3 H3 n2 t3 x2 => ?_
    have z3 := t3.zh
    have hp3 := t3.z _ _ hp2
    have sp3 := sq_of (K := K) (z3 _ _ hp3)
    walk_at "tlN"
    refine s_mkV ?_
    walk_at "tlN"
    refine t_mkV z3 fun a3 Z4 H4 n3 t4 x3 => ?_
    have z4 := t4.zh
    have hp4 := t4.z _ _ hp3
    have sp4 := sq_of (K := K) (z4 _ _ hp4)
    walk_at "tlN"
    refine s_mkV ?_
    walk_at "tlN"
    refine t_mkV z4 fun a4 Z5 H5 n4 t5 x4 => ?_
    have z5 := t5.zh
    have hp5 := t5.z _ _ hp4
    have sp5 := sq_of (K := K) (z5 _ _ hp5)
    walk_at "tlN"
    refine s_mkV ?_
    walk_at "tlN"
    refine t_mkV z5 fun a5 Z6 H6 n5 t6 x5 => ?_
    have z6 := t6.zh
    have hp6 := t6.z _ _ hp5
    have sp6 := sq_of (K := K) (z6 _ _ hp6)
    walk_at "tlN"
    refine t_newF z6 (by show 6 ≤ 100000; decide) fun pa Za Ha na ta fa => ?_
    have z6 := ta.zh
    have hp6 := ta.z _ _ hp6
    have sp6 := sq_of (K := K) (z6 _ _ hp6)
    walk_at "tlN"
    refine s_mkV ?_
    walk_at "tlN"
    refine t_mkV z6 fun a6 Z7 H7 n6 t7 x6 => ?_
    have z7 := t7.zh
    have hp7 := t7.z _ _ hp6
    have sp7 := sq_of (K := K) (z7 _ _ hp7)
    walk_at "tlN"
    refine s_mkV ?_
    walk_at "tlN"
    refine t_mkV z7 fun a7 Z8 H8 n7 t8 x7 => ?_
    have z8 := t8.zh
    have hp8 := t8.z _ _ hp7
    have sp8 := sq_of (K := K) (z8 _ _ hp8)
    walk_at "tlN"
    refine s_mkV ?_
    walk_at "tlN"
    refine t_mkV z8 fun a8 Z9 H9 n8 t9 x8 => ?_
    have z9 := t9.zh
    have hp9 := t9.z _ _ hp8
    have sp9 := sq_of (K := K) (z9 _ _ hp9)
    walk_at "tlN"
    refine t_mkV0 z9 fun a9 Z10 H10 n9 t10 x9 => ?_
    have z10 := t10.zh
    have hp10 := t10.z _ _ hp9
    have sp10 := sq_of (K := K) (z10 _ _ hp10)
    walk_at "tlN"
    refine t_mkV0 z10 fun a10 Z11 H11 n10 t11 x10 => ?_
    have z11 := t11.zh
    have hp11 := t11.z _ _ hp10
    have sp11 := sq_of (K := K) (z11 _ _ hp11)
    walk_at "tlN"
    refine t_mkV0 z11 fun a11 Z12 H12 n11 t12 x11 => ?_
    have z12 := t12.zh
    have hp12 := t12.z _ _ hp11
    have sp12 := sq_of (K := K) (z12 _ _ hp12)
    walk_at "tlN"
    refine t_newF z12 (by show 6 ≤ 100000; decide) fun pb Zb Hb nb tb fb => ?_
    have zb := tb.zh
    walk_at "tlN"
    have e6 : Ex Za Zb := (((((t7.z.trans t8.z).trans t9.z).trans t10.z).trans t11.z).trans t12.z).trans tb.z
    refine t_catP zb (zb _ _ (e6 _ _ fa)) (zb _ _ fb) (by show 6 + 6 ≤ 100000; decide) fun pc Zc Hc nc tc fc => ?_
    have zc := tc.zh
    walk_at "tlN"
    have eb : Ex Zb Zc := tc.z
    have e12 : Ex Z12 Zc := tb.z.trans eb
    have e11 : Ex Z11 Zc := t12.z.trans e12
    have e10 : Ex Z10 Zc := t11.z.trans e11
    have e9 : Ex Z9 Zc := t10.z.trans e10
    have e8 : Ex Z8 Zc := t9.z.trans e9
    have e7 : Ex Z7 Zc := t8.z.trans e8
    have ea : Ex Za Zc := t7.z.trans e7
    have e6 : Ex Z6 Zc := ta.z.trans ea
    have e5 : Ex Z5 Zc := t6.z.trans e6
    have e4 : Ex Z4 Zc := t5.z.trans e5
    have e3 : Ex Z3 Zc := t4.z.trans e4
    have e2 : Ex Z2 Zc := t3.z.trans e3
    have e1 : Ex Z1 Zc := t2.z.trans e2
    exact q pc Zc Hc ((((((((((((((t1.step t2 mm_nil).step t3 mm_nil).step t4 mm_nil).step t5 mm_nil).step t6 mm_nil).step ta mm_nil).step t7 mm_nil).step t8 mm_nil).step t9 mm_nil).step t10 mm_nil).step t11 mm_nil).step t12 mm_nil).step tb mm_nil).step tc mm_nil) ⟨a0, a1, a2, a3, a4, a5, a6, a7, a8, a9, a10, a11, v0, v1, v2, v3, v4, v5, v6, v7, v8, rfl, fc, x0.ex e1, x1.ex e2, x2.ex e3, x3.ex e4, x4.ex e5, x5.ex e6, x6.ex e7, x7.ex e8, x8.ex e9, x9.ex e10, x10.ex e11, x11.ex e12⟩

/-! ### _law_draw -/
noncomputable abbrev sp_law_draw (K : PySem.W.Frag) : Sp := spDraw K
theorem has_law_draw (z : Z K mg) (F : FunAt K mg "_law_draw" s_law_draw ["_law_hand", "_law_many"])  : Has P w K mg base "_law_draw" 1 (sp_law_draw K) := by
  refine has_of F sc_law_draw (fun vs H Q E h => ?_) (fun f cdv A outer s H vs Q E hr h => ?_)
  · obtain ⟨a, m, n, Z, rfl, _⟩ := h
    rfl
  · obtain ⟨a, m, n, Z, rfl, ⟨d, k, c, cells, h1, h3, h4, h5, z1, z2, z3⟩, hm0, hm1, q⟩ := h
    refine ⟨_, (pss_cons (ps_if (pt_cmpR op_gt (pe_ix (ixA (K := K) rfl) (pv 0) pe_int (fun _ _ => rfl)) pe_int (nomark _)) (pss_cons (ps_set (i := 2) sc_law_draw.nd rfl (by first | exact Or.inl rfl | exact Or.inr rfl) (pe_op op_mod (pe_ix (ixA (K := K) rfl) (pv 0) pe_int (fun _ _ => rfl)) (pv 1)))
        (pss_cons (ps_asg (pe_op op_fdivW (pe_ix (ixA (K := K) rfl) (pv 0) pe_int (fun _ _ => rfl)) (pv 1)) (pg_sub (pv 0) pe_int set_list))
        (pss_one (ps_ret (pv 2))))) pss_nil)
        (pss_cons (ps_augS (pv 0) pe_int (getA (K := K) rfl) pe_int ip_add set_list)
        (pss_cons (ps_set (i := 3) sc_law_draw.nd rfl (by first | exact Or.inl rfl | exact Or.inr rfl) (pe_ix (ixA (K := K) rfl) (pv 0) pe_int (fun _ _ => rfl)))
        (pss_cons (ps_set (i := 4) sc_law_draw.nd rfl (by first | exact Or.inl rfl | exact Or.inr rfl) (pe_op op_mod (pe_op op_plusA (pe_op op_mod (pe_ix (ixA (K := K) rfl) (pe_ix (ixA (K := K) rfl) (pv 0) pe_int (fun _ _ => rfl)) (pe_op op_mod (pv 3) (pe_callB (id := "len") (lenA (K := K) rfl) (by rfl) z.b_len (by decide +kernel) (pa_cons (pe_ix (ixA (K := K) rfl) (pv 0) pe_int (fun _ _ => rfl)) pa_nil))) (fun _ _ => rfl)) pe_int) (pe_op op_multA pe_int (pv 3))) pe_int))
        (pss_cons (ps_set (i := 4) sc_law_draw.nd rfl (by first | exact Or.inl rfl | exact Or.inr rfl) (pe_op op_mod (pe_op op_plusA (pe_op op_plusA (pe_op op_pow (pv 4) pe_int) (pe_op op_multA (pe_op op_multA pe_int (pv 3)) (pv 3))) pe_int) pe_int))
        (pss_cons (ps_set (i := 4) sc_law_draw.nd rfl (by first | exact Or.inl rfl | exact Or.inr rfl) (pe_op op_mod (pe_op op_plusA (pe_op op_multA (pe_op op_pow (pv 4) pe_int) (pe_op op_plusA (pe_op op_multA pe_int (pv 3)) pe_int)) pe_int) pe_int))
        (pss_one (ps_ret (pe_op op_mod (pe_op op_fdivW (pe_op op_mod (pe_op op_multA (pv 4) pe_int) pe_int) pe_int) (pv 1)))))))))), ?_⟩
    walk_at "cx"
    walk_at "ss"
    refine i_d (fun hd => ?_) (fun hd => ?_)
    · walk_at "ss"
      rename_i G e1 e2
      exact q _ G (Int.emod_nonneg _ (by omega)) (Int.emod_lt_of_pos _ hm0) e1 ⟨_, k, c, cells, e2, h3, h4, by omega, z1.exm z2 e1, z2, z3⟩
    · walk_at "ss"
      rename_i G e1 e2 _ _ v hv _ _ _ _ _ _ _ _ _ _ b1 b2
      exact q _ G b1 b2 e1 ⟨d, k + 1, c, cells, e2, h3, by omega, by omega, z1.exm z2 e1, z2, z3⟩

/-! ### _law_far -/
noncomputable abbrev sp_law_far (K : PySem.W.Frag) : Sp := spFar K
theorem has_law_far (z : Z K mg) (F : FunAt K mg "_law_far" s_law_far ["_law_hand", "_law_many"]) (h_law_draw : Has P w K mg base "_law_draw" 1 (sp_law_draw K)) : Has P w K mg base "_law_far" 2 (sp_law_far K) := by
  refine has_of F sc_law_far (fun vs H Q E h => ?_) (fun f cdv A outer s H vs Q E hr h => ?_)
  · obtain ⟨a, m, n, Z, rfl, _⟩ := h
    rfl
  · obtain ⟨a, m, n, Z, rfl, hh, h0, h1, q⟩ := h
    obtain ⟨d, k, c, cells, g1, g3, g4, g5, z1, z2, z3⟩ := id hh
    refine ⟨_, (pss_cons (ps_if (pt_cmpR op_gt (pe_ix (ixA (K := K) rfl) (pv 0) pe_int (fun _ _ => rfl)) pe_int (nomark _)) (pss_one (ps_ret (pe_callH h_law_draw (by decide) hr rfl (pa_cons (pv 0) (pa_cons (pv 1) pa_nil))))) pss_nil)
        (pss_cons (ps_set (i := 2) sc_law_far.nd rfl (by first | exact Or.inl rfl | exact Or.inr rfl) pe_int)
        (pss_cons (ps_for PassesOwn.never rfl (pi_range1 (by rfl) z.b_range (pa_cons pe_int pa_nil)) (pg_name (i := 3) sc_law_far.nd rfl (by first | exact Or.inl rfl | exact Or.inr rfl)) (pss_one (ps_set (i := 2) sc_law_far.nd rfl (by first | exact Or.inl rfl | exact Or.inr rfl) (pe_op op_plusA (pe_op op_multA (pv 2) (pe_op op_pow pe_int pe_int)) (pe_callH h_law_draw (by decide) hr rfl (pa_cons (pv 0) (pa_cons (pe_op op_pow pe_int pe_int) pa_nil)))))))
        (pss_one (ps_ret (pe_op op_mod (pv 2) (pv 1))))))), ?_⟩
    walk_at "cx"
    walk_at "ss"
    refine i_d (fun hd => ?_) (fun hd => ?_)
    · walk_at "ss"
      exact ⟨a, m, n, Z, rfl, hh.mono (by omega), h0, h1, q⟩
    · walk_at "ss"
      refine u_forR1 (fun i σ H' => ∃ x y, σ = [some (.ref a), some (.int m), some (.int x), y] ∧ ExM a H H' ∧ Hand K Z H' a (n + (7 - i))) (by decide) ⟨_, _, rfl, ExM.refl _, hh⟩ (fun i σ H' hi hw => ?_) (fun σ H' hw => ?_)
      · obtain ⟨x, y, rfl, e, hw⟩ := hw
        have hw' : Hand K Z H' a (n + (7 - (i + 1)) + 1) := hw.mono (by omega)
        walk_at "ss"
        refine ⟨a, _, _, _, rfl, hw', by decide, by decide, fun r H2 r0 r1 m2 hh2 => ?_⟩
        walk_at "ss"
        exact ⟨_, _, rfl, e.trans m2, hh2⟩
      · obtain ⟨x, y, rfl, e, hw⟩ := hw
        walk_at "ss"
        exact q _ _ (by omega) (by omega) e (hw.mono (by omega))

/-! ### _law_thing -/
noncomputable def sp_law_thing (K : PySem.W.Frag) : Sp := fun vs H Q _ => ∃ (h : Addr) (n : Nat) (Z : Hp), vs = [.ref h] ∧ Hand K Z H h (n + 20) ∧
  ∀ v Z' H', T [h] Z H Z' H' → Hand K Z' H' h n → ThX Z' v → Q v H'
theorem has_law_thing (z : Z K mg) (F : FunAt K mg "_law_thing" s_law_thing ["_law_hand"]) (h_law_draw : Has P w K mg base "_law_draw" 1 (sp_law_draw K)) (h_law_far : Has P w K mg base "_law_far" 2 (sp_law_far K)) : Has P w K mg base "_law_thing" 3 (sp_law_thing K) := by
  refine has_of F sc_law_thing (fun vs H Q E h => ?_) (fun f cdv A outer s H vs Q E hr h => ?_)
  · obtain ⟨_, _, _, rfl, _⟩ := h
    rfl
  · obtain ⟨h, n, Z, rfl, hh, q⟩ := h
    refine ⟨_, (pss_cons (ps_set (i := 1) sc_law_thing.nd rfl (by first | exact Or.inl rfl | exact Or.inr rfl) (pe_op op_sub (pe_callH h_law_far (by decide) hr rfl (pa_cons (pv 0) (pa_cons (pe_op op_pow pe_int pe_int) pa_nil))) (pe_op op_multA (pe_callH h_law_draw (by decide) hr rfl (pa_cons (pv 0) (pa_cons pe_int pa_nil))) (pe_op op_pow pe_int pe_int))))
        (pss_cons (ps_set (i := 2) sc_law_thing.nd rfl (by first | exact Or.inl rfl | exact Or.inr rfl) (pe_lst (pa_cons (pv 1) (pa_cons (pe_slice sl_str pe_str po_none (po_some (pe_callH h_law_draw (by decide) hr rfl (pa_cons (pv 0) (pa_cons pe_int pa_nil))))) (pa_cons pe_non (pa_cons pe_bl (pa_cons pe_bl (pa_cons (pe_lst (pa_cons (pv 1) pa_nil)) pa_nil))))))))
        (pss_cons (ps_set (i := 2) sc_law_thing.nd rfl (by first | exact Or.inl rfl | exact Or.inr rfl) (pe_op op_plusA (pv 2) (pe_lst (pa_cons (pe_tup (pa_cons (pv 1) (pa_cons pe_str pa_nil))) (pa_cons (pe_disp (pps_cons pe_str (pv 1) pps_nil) (by rfl) (by rfl) (by intro h; cases h) (by decide)) (pa_cons pe_int (pa_cons pe_str pa_nil)))))))
        (pss_one (ps_ret (pe_ix (ixA (K := K) rfl) (pv 2) (pe_callH h_law_draw (by decide) hr rfl (pa_cons (pv 0) (pa_cons pe_int pa_nil))) (fun _ _ => rfl))))))), ?_⟩
    walk_at "cx"
    have z0 : Ex Z H := hh.z
    walk_at "tlN"
    rename_i r1 Z1 H1 r10 r11 t1 hh1 r2 Z2 H2 r20 r21 t2 hh2 r3 Z3 H3 r30 r31 t3 hh3
    refine s_slX (by decide) ?_
    have z3 := t3.zh
    generalize hN : r1 - r2 * (2 ^ Int.toNat 61) = N
    walk_at "tlN"
    refine t_newF z3 (by show 1 ≤ 100000; decide) fun p4 Z4 H4 n4 t4 f4 => ?_
    have z4 := t4.zh
    walk_at "tlN"
    refine t_newF z4 (by show 6 ≤ 100000; decide) fun p5 Z5 H5 n5 t5 f5 => ?_
    have z5 := t5.zh
    walk_at "tlN"
    rename_i pt Zt Ht nt tt ft
    have zt := tt.zh
    refine s_disp1 fun pd nd => ?_
    walk_at "tlN"
    refine t_disp (.inr "a") rfl nd zt fun Z6 H6 t6 f6 => ?_
    have z6 := t6.zh
    walk_at "tlN"
    refine t_newF z6 (by show 4 ≤ 100000; decide) fun p7 Z7 H7 n7 t7 f7 => ?_
    have z7 := t7.zh
    refine t_catP z7 (z7 _ _ (t7.z _ _ (t6.z _ _ (tt.z _ _ f5)))) (z7 _ _ f7) (by show 6 + 4 ≤ 100000; decide) fun p8 Z8 H8 n8 t8 f8 => ?_
    have hh8 := ((((((hh3.tt t4 nm_nil).tt t5 nm_nil).tt tt nm_nil).tt t6 nm_nil).tt t7 nm_nil).tt t8 nm_nil)
    have z8 := t8.zh
    walk_at "tlN"
    rename_i r9 Z9 H9 r90 r91 t9 hh9
    refine ixGo (sq_of (t9.zh _ _ (t9.z _ _ f8))) (ig_mem ⟨by omega, by show _ < (10 : Int); omega⟩ fun v hv _ => ?_)
    have T9 : T [h] Z H Z9 H9 := (((((((((((T.refl z0 : T [h] Z H Z H).step t1 mm_same).step t2 mm_same).step t3 mm_same).step t4 mm_nil).step t5 mm_nil).step tt mm_nil).step t6 mm_nil).step t7 mm_nil).step t8 mm_nil).step t9 mm_same)
    have e7 := t7.z.trans (t8.z.trans t9.z)
    exact q v Z9 H9 T9 (hh9.mono (by omega)) (thX_ten (strX_part (by decide +kernel)) (e7 _ _ (t6.z _ _ (tt.z _ _ (t5.z _ _ f4)))) (e7 _ _ (t6.z _ _ ft)) (e7 _ _ f6) hv)

/-! ### _law_open -/
noncomputable abbrev sp_law_open (K : PySem.W.Frag) : Sp := spOpen K
theorem has_law_open (z : Z K mg) (F : FunAt K mg "_law_open" s_law_open ["_law_script", "_law_place"])  : Has P w K mg base "_law_open" 1 (sp_law_open K) := by
  refine has_of F sc_law_open (fun vs H Q E h => ?_) (fun f cdv A outer s H vs Q E hr h => ?_)
  · obtain ⟨a, ns, x, rfl, _⟩ := h
    rfl
  · obtain ⟨a, ns, x, rfl, hS, h0, h1, q⟩ := h
    refine ⟨_, (pss_cons (ps_setLc (i := 2) (own := [("_law_cell", 5)]) (g := gName 5) (tt := tYes) rfl sc_law_open.nd rfl rfl (sw_true rfl rfl rfl (by decide +kernel)) (piL (K := K) rfl (pe_slice (slA (K := K) rfl) (pv 0) po_none (po_some pe_int))) (blkOk_by (own := [("_law_cell", 5)]) (N := ["_law_script", "_law_place", "_law_cells", "_law_at", "_law_digits", "_law_cell"]) (sc := defScope s_law_open) (by decide +kernel)) (fun _ _ _ _ _ => (pg_name (i := 5) sc_law_open.nd rfl (by first | exact Or.inl rfl | exact Or.inr rfl))) (fun _ _ _ _ _ => pts_nil) (fun _ _ _ _ _ => (pe_callB (id := "abs") call_absA (by rfl) z.b_abs (by decide +kernel) (pa_cons (pv 5) pa_nil))))
        (Evl.pss_cut (ps_if (pt_cmpR (eqA (K := K) rfl hr.units) (pv 2) (pe_lst pa_nil) (nomark _)) (pss_one (ps_set (i := 2) sc_law_open.nd rfl (by first | exact Or.inl rfl | exact Or.inr rfl) (pe_lst (pa_cons pe_int pa_nil)))) pss_nil)
        (pss_cons (ps_set (i := 3) sc_law_open.nd rfl (by first | exact Or.inl rfl | exact Or.inr rfl) (pe_op op_mod (pv 1) (pe_callB (id := "len") (lenA (K := K) rfl) (by rfl) z.b_len (by decide +kernel) (pa_cons (pv 2) pa_nil))))
        (pss_cons (ps_set (i := 4) sc_law_open.nd rfl (by first | exact Or.inl rfl | exact Or.inr rfl) pe_int)
        (Evl.pss_cut (ps_if (PW.pt (pw_and (pt_cmpR op_ge (pe_ix (ixA (K := K) rfl) (pv 2) (pv 3) (fun _ _ => rfl)) (pe_op op_pow pe_int pe_int) (nomark _)) (pw_and1 (pt_cmpR op_lt (pv 1) (pe_callB (id := "len") (lenA (K := K) rfl) (by rfl) z.b_len (by decide +kernel) (pa_cons (pv 2) pa_nil)) (nomark _))))) (pss_one (ps_set (i := 4) sc_law_open.nd rfl (by first | exact Or.inl rfl | exact Or.inr rfl) (pe_ix (ixA (K := K) rfl) (pv 2) (pv 3) (fun _ _ => rfl)))) pss_nil)
        (pss_one (ps_ret (pe_lst (pa_cons (pv 4) (pa_cons (pe_op op_plusA pe_int (pe_op op_multA pe_int (pv 1))) (pa_cons (pe_op op_plusA (pe_slice (slA (K := K) rfl) (pv 2) (po_some (pv 3)) po_none) (pe_slice (slA (K := K) rfl) (pv 2) po_none (po_some (pv 3)))) pa_nil))))))))))), ?_⟩
    walk_at "cx"
    walk_at "ss"
    rename_i p1 H1 n1 e1 f1
    obtain ⟨cs, hc, hl⟩ : ∃ cs : List Int, cutV (ns.map V.int) none (some 63) = cs.map V.int ∧ cs.length ≤ 63 := ⟨cutI ns none (some 63), cutV_ints _ _ _, by
      rw [cutI_to _ (by decide), List.length_take]
      exact Nat.min_le_left _ _⟩
    rw [hc] at f1
    refine u_mapL V.int cs (fun i => V.int (if i < 0 then -i else i)) (sq_of f1) (by omega) (fun i hi H2 e2 A ha => ?_) (fun D H2 n2 e2 f2 => ?_)
    · walk_at "ss"
      exact ha _ (Ex.refl _)
    · obtain ⟨xs, hx, hxl⟩ : ∃ xs : List Int, cs.map (fun i => V.int (if i < 0 then -i else i)) = xs.map V.int ∧ xs.length ≤ 63 := ⟨cs.map fun i => if i < 0 then -i else i, by rw [List.map_map]; rfl, by rw [List.length_map]; exact hl⟩
      rw [hx] at f2
      walk_at "ss"
      refine s_cut (fun σ' H' => ∃ (D : Addr) (ys : List Int), σ' = [some (.ref a), some (.int x), some (.ref D), none, none, none] ∧ Ex H H' ∧ H' D = some (.lst (ys.map V.int)) ∧ 0 < ys.length ∧ ys.length ≤ 63) ?_ ?_
      · walk_at "ss"
        refine i_d (fun hd => ?_) (fun hd => ?_)
        · walk_at "ss"
          rename_i G n3 e3 f3
          exact ⟨_, [0], rfl, by walk_at "ex", f3, by decide, by decide⟩
        · walk_at "ss"
          exact ⟨_, xs, rfl, by walk_at "ex", by walk_at "hp", List.length_pos_iff.mpr hd, hxl⟩
      · rintro σ' H3 ⟨D2, ys, rfl, e3, f3, hy, hy2⟩
        walk_at "ss"
        rename_i b1 b2
        refine s_cut (fun σ' H' => ∃ (d : Int), σ' = [some (.ref a), some (.int x), some (.ref D2), some (.int (x % ys.length)), some (.int d), none] ∧ H' = H3) ?_ ?_
        · walk_at "ss"
          refine i_d (fun hd => ?_) (fun hd => ?_)
          · walk_at "ss"
            refine i_d (fun hd => ?_) (fun hd => ?_)
            · walk_at "ss"
              exact ⟨_, rfl, rfl⟩
            · walk_at "ss"
              exact ⟨_, rfl, rfl⟩
          · walk_at "ss"
            exact ⟨_, rfl, rfl⟩
        · rintro σ' H4 ⟨d, rfl, rfl⟩
          walk_at "ss"
          rename_i p2 G2 n4 e4 f4 p3 G3 n5 e5 f5
          rw [cutV_ints, cutI_from _ b1] at f4
          rw [cutV_ints, cutI_to _ b1] at f5
          refine n_cat (by walk_at "hp") f5 ?_ fun p4 G4 n6 e6 f6 => ?_
          · rw [List.length_map, List.length_map, List.length_drop, List.length_take]
            omega
          · walk_at "ss"
            rename_i p5 G5 n7 e7 f7
            rw [← List.map_append] at f6
            have n0 : H p5 = none := Ex.back (by walk_at "ex") n7
            have n4' : H p4 = none := Ex.back (by walk_at "ex") n6
            exact q p5 p4 d _ G5 n0 n4' (fun z => by rw [z, f6] at n7; cases n7) (by walk_at "ex") f7 (e7 _ _ f6) (by rw [List.length_append, List.length_drop, List.length_take]; omega)

/-! ### law -/
noncomputable def sp_law (K : PySem.W.Frag) : Sp := fun vs H Q _ => ∃ (a : Addr) (ns : List Int), vs = [.ref a] ∧ SqL K H a (ns.map V.int) ∧ ns.length ≤ 63 ∧ ∀ H', Q (.bl true) H'
theorem ok_law {f : Addr} {fd : FuncData} (z : Z K mg) (F : Fun K "law" "law" s_law f fd) (h_law_taken : Has P w K mg base "_law_taken" 3 (sp_law_taken K)) (h_law_same : Has P w K mg base "_law_same" 1 (sp_law_same K)) (h_law_values : Has P w K mg base "_law_values" 1 (sp_law_values K)) (h_law_flags : Has P w K mg base "_law_flags" 1 (sp_law_flags K)) (h_law_made : Has P w K mg base "_law_made" 3 (sp_law_made K)) (h_law_thing : Has P w K mg base "_law_thing" 3 (sp_law_thing K)) (h_law_open : Has P w K mg base "_law_open" 1 (sp_law_open K)) : FnOk P w K mg base CX0 4 f fd ["_law_script"] (sp_law K) := by
  refine fnok_of F sc_law (fun vs H Q E h => ?_) (fun cdv A outer s H vs Q E hr h => ?_)
  · obtain ⟨_, _, rfl, _⟩ := h
    rfl
  · obtain ⟨a, ns, rfl, sa, hl, q⟩ := h
    refine ⟨_, (pss_cons (ps_for PassesOwn.never rfl (pi_range1 (by rfl) z.b_range (pa_cons (pe_callB (id := "max") (call_max2A rfl) (by rfl) z.b_max (by decide +kernel) (pa_cons pe_int (pa_cons (pe_callB (id := "min") (call_min2A rfl) (by rfl) z.b_min (by decide +kernel) (pa_cons pe_int (pa_cons (pe_callB (id := "len") (lenA (K := K) rfl) (by rfl) z.b_len (by decide +kernel) (pa_cons (pv 0) pa_nil)) pa_nil))) pa_nil))) pa_nil)) (pg_name (i := 1) sc_law.nd rfl (by first | exact Or.inl rfl | exact Or.inr rfl)) (pss_cons (ps_set (i := 2) sc_law.nd rfl (by first | exact Or.inl rfl | exact Or.inr rfl) (pe_callH h_law_open (by decide) hr rfl (pa_cons (pv 0) (pa_cons (pv 1) pa_nil))))
        (pss_cons (ps_set (i := 3) sc_law.nd rfl (by first | exact Or.inl rfl | exact Or.inr rfl) (pe_lc (own := [("_law_k", 7)]) (g := gName 7) (tt := tYes) rfl sc_law.nd (pi_range1 (by rfl) z.b_range (pa_cons pe_int pa_nil)) (blkOk_by (own := [("_law_k", 7)]) (N := ["_law_script", "_law_place", "_law_hand", "_law_some", "_law_more", "_law_made_here", "_law_others", "_law_k", "_law_j"]) (sc := defScope s_law) (by decide +kernel)) (fun _ _ _ _ _ => (pg_name (i := 7) sc_law.nd rfl (by first | exact Or.inl rfl | exact Or.inr rfl))) (fun _ _ _ _ _ => pts_nil) (fun _ _ _ _ _ => (pe_callH h_law_thing (by decide) hr rfl (pa_cons (pv 2) pa_nil)))))
        (pss_cons (ps_setLc (i := 4) (own := [("_law_k", 7)]) (g := gName 7) (tt := tYes) rfl sc_law.nd rfl rfl (sw_true rfl rfl rfl (by decide +kernel)) (pi_range1 (by rfl) z.b_range (pa_cons pe_int pa_nil)) (blkOk_by (own := [("_law_k", 7)]) (N := ["_law_script", "_law_place", "_law_hand", "_law_some", "_law_more", "_law_made_here", "_law_others", "_law_k", "_law_j"]) (sc := defScope s_law) (by decide +kernel)) (fun _ _ _ _ _ => (pg_name (i := 7) sc_law.nd rfl (by first | exact Or.inl rfl | exact Or.inr rfl))) (fun _ _ _ _ _ => pts_nil) (fun _ _ _ _ _ => (pe_callH h_law_thing (by decide) hr rfl (pa_cons (pv 2) pa_nil))))
        (pss_cons (ps_set (i := 5) sc_law.nd rfl (by first | exact Or.inl rfl | exact Or.inr rfl) (pe_callH h_law_made (by decide) hr rfl (pa_cons (pv 3) pa_nil)))
        (pss_cons (ps_set (i := 6) sc_law.nd rfl (by first | exact Or.inl rfl | exact Or.inr rfl) (pe_callH h_law_made (by decide) hr rfl (pa_cons (pv 4) pa_nil)))
        (pss_cons (ps_for PassesOwn.never rfl (pi_range1 (by rfl) z.b_range (pa_cons pe_int pa_nil)) (pg_name (i := 7) sc_law.nd rfl (by first | exact Or.inl rfl | exact Or.inr rfl)) (pss_cons (ps_if (PW.pt (pw_or (pt_not (pt_val (pe_callB (id := "isinstance") (isEA (K := K) rfl) (by rfl) z.b_isinstance (by decide +kernel) (pa_cons (pe_ix (ixA (K := K) rfl) (pv 5) (pv 7) (fun _ _ => rfl)) (pa_cons (pe_glob (v := .ref (clsA K "TailError")) rfl z.g_TailError rfl) pa_nil))))) (pw_or1 (pt_not (pt_val (pe_callB (id := "isinstance") (isEA (K := K) rfl) (by rfl) z.b_isinstance (by decide +kernel) (pa_cons (pe_ix (ixA (K := K) rfl) (pv 5) (pv 7) (fun _ _ => rfl)) (pa_cons (pe_bltn (v := .ty "ValueError") (by rfl) z.b_ValueError (by decide +kernel) rfl) pa_nil)))))))) (pss_one (ps_ret pe_bl)) pss_nil)
        (pss_one (ps_if (pt_cmpR (neA (K := K) rfl hr.units) (pe_callH h_law_flags (by decide) hr rfl (pa_cons (pe_ix (ixA (K := K) rfl) (pv 5) (pv 7) (fun _ _ => rfl)) pa_nil)) (pe_lc (own := [("_law_j", 8)]) (g := gName 8) (tt := tYes) rfl sc_law.nd (pi_range1 (by rfl) z.b_range (pa_cons pe_int pa_nil)) (blkOk_by (own := [("_law_j", 8)]) (N := ["_law_script", "_law_place", "_law_hand", "_law_some", "_law_more", "_law_made_here", "_law_others", "_law_k", "_law_j"]) (sc := defScope s_law) (by decide +kernel)) (fun _ _ _ _ _ => (pg_name (i := 8) sc_law.nd rfl (by first | exact Or.inl rfl | exact Or.inr rfl))) (fun _ _ _ _ _ => pts_nil) (fun _ _ _ _ _ => (pe_cmpR (eqA (K := K) rfl hr.units) (pv 8) (pv 7) (nomark _)))) (nomark _)) (pss_one (ps_ret pe_bl)) pss_nil))))
        (pss_cons (ps_if (PW.pt (pw_or (pt_not (pt_val (pe_callH h_law_same (by decide) hr rfl (pa_cons (pe_callH h_law_values (by decide) hr rfl (pa_cons (pv 6) pa_nil)) (pa_cons (pv 4) pa_nil))))) (pw_or1 (pt_not (pt_val (pe_callH h_law_same (by decide) hr rfl (pa_cons (pe_callH h_law_values (by decide) hr rfl (pa_cons (pv 5) pa_nil)) (pa_cons (pv 3) pa_nil)))))))) (pss_one (ps_ret pe_bl)) pss_nil)
        (pss_one (ps_if (pt_not (pt_val (pe_callB (id := "all") (allA (K := K) rfl rfl) (by rfl) z.b_all (by decide +kernel) (pa_cons (pe_lc (own := [("_law_k", 7)]) (g := gName 7) (tt := tYes) rfl sc_law.nd (pi_range1 (by rfl) z.b_range (pa_cons pe_int pa_nil)) (blkOk_by (own := [("_law_k", 7)]) (N := ["_law_script", "_law_place", "_law_hand", "_law_some", "_law_more", "_law_made_here", "_law_others", "_law_k", "_law_j"]) (sc := defScope s_law) (by decide +kernel)) (fun _ _ _ _ _ => (pg_name (i := 7) sc_law.nd rfl (by first | exact Or.inl rfl | exact Or.inr rfl))) (fun _ _ _ _ _ => pts_nil) (fun _ _ _ _ _ => (pe_callH h_law_taken (by decide) hr rfl (pa_cons (pv 7) (pa_cons (pe_ix (ixA (K := K) rfl) (pv 3) (pv 7) (fun _ _ => rfl)) pa_nil))))) pa_nil)))) (pss_one (ps_ret pe_bl)) pss_nil))))))))))
        (pss_one (ps_ret pe_bl))), ?_⟩
    walk_at "cx"
    have z0 : Ex H H := Ex.refl _
    walk_at "tlN"
    refine u_forR1 (fun i σ H' => ∃ x1 x2 x3 x4 x5 x6 x7 x8 Z', σ = [some (.ref a), x1, x2, x3, x4, x5, x6, x7, x8] ∧ T [] H H Z' H') (by omega) ⟨_, _, _, _, _, _, _, _, H, rfl, T.refl z0⟩ (fun i σ H1 hi hq => ?_) (fun σ H1 hq => ?_)
    · obtain ⟨x1, x2, x3, x4, x5, x6, x7, x8, Z1, rfl, t1⟩ := hq
      have sa1 := t1.z.sq sa
      have z1 := t1.zh
      walk_at "tlN"
      rename_i h Z2 H2 nh t2 hh2
      have hh2' : Hand K Z2 H2 h (1000 + 20 * 9 + 20 * 9) := hh2.mono (by omega)
      refine c_drawV (P := ThX) (mono := ThX.ex) (1000 + 20 * 9) 20 hh2' (by decide) (by decide) (fun j hj Z3 H3 R t3 hh3 A hA => ?_) (fun p1 xs Z3 H3 n1 t3 hh3 f1 l1 b1 => ?_)
      · have z3 := t3.zh
        walk_at "tlN"
        exact ⟨h, R, Z3, rfl, hh3, fun v Z4 H4 t4 hh4 tv => hA v Z4 H4 t4 hh4 tv⟩
      · skip
        have z3 := t3.zh
        walk_at "tlN"
        refine c_drawV (P := ThX) (mono := ThX.ex) 1000 20 hh3 (by decide) (by decide) (fun j hj Z4 H4 R t4 hh4 A hA => ?_) (fun p2 ys Z4 H4 n4 t4 hh4 f4 l4 b4 => ?_)
        · have z4 := t4.zh
          walk_at "tlN"
          exact ⟨h, R, Z4, rfl, hh4, fun v Z5 H5 t5 hh5 tv => hA v Z5 H5 t5 hh5 tv⟩
        · have z4 := t4.zh
          walk_at "tlN"
          refine ⟨p1, xs, Z4, rfl, t4.z _ _ f1, by omega, z4, fun m1 Z5 H5 t5 mx => ?_⟩
          have z5 := t5.zh
          walk_at "tlN"
          refine ⟨p2, ys, Z5, rfl, t5.z _ _ f4, by omega, z5, fun m2 Z6 H6 t6 my => ?_⟩
          have z6 := t6.zh
          have mx6 := mx.exz t6.z
          walk_at "tlN"
          have fam := famX z
          refine u_forR1 (fun k σ H' => ∃ x1 x2 Z', σ = [some (.ref a), some (.int (i : Int)), some (.ref h), some (.ref p1), some (.ref p2), some (.ref m1), some (.ref m2), x1, x2] ∧ T [] Z6 H6 Z' H') (by decide) ⟨_, _, Z6, rfl, T.refl z6⟩ (fun k σ H7 hk hq => ?_) (fun σ H7 hq => ?_)
          · obtain ⟨x1, x2, Z7, rfl, t7⟩ := hq
            have z7 := t7.zh
            obtain ⟨us, hu, lu, at_⟩ := (mx6.exz t7.z).at_
            have hk' : k < 12 := by omega
            have su := sq_of (K := K) (z7 _ _ hu)
            walk_at "tlN"
            refine ixGo su (ig_mem ⟨by omega, by rw [lu]; exact hk⟩ fun v hv ev => ?_)
            obtain ⟨e, o, rfl, xe⟩ := at_ k v ev
            walk_at "tlN"
            refine s_isE xe z7 (fam.isx k hk') (.own _) (fam.te k hk') ?_
            walk_at "tlN"
            refine ixGo su (ig_mem ⟨by omega, by rw [lu]; exact hk⟩ fun v hv ev2 => ?_)
            obtain rfl : V.ref e = v := Option.some.inj (ev.symm.trans ev2)
            walk_at "tlN"
            refine s_isE xe z7 (fam.isx k hk') (.ty _) (fam.ve k hk') ?_
            walk_at "tlN"
            refine ixGo su (ig_mem ⟨by omega, by rw [lu]; exact hk⟩ fun v hv ev3 => ?_)
            obtain rfl : V.ref e = v := Option.some.inj (ev.symm.trans ev3)
            walk_at "tlN"
            refine ⟨e, k, o, Z7, rfl, hk', xe, z7, fun p Z8 H8 t8 ls8 => ?_⟩
            have z8 := t8.zh
            walk_at "tlN"
            refine c_mapR (fun j : Nat => decide (k = j)) z8 (by decide) (fun j hj Z9 H9 t9 A hA => ?_) (fun D Z9 H9 nD t9 ls9 => ?_)
            · have z9 := t9.zh
              walk_at "tlN"
              have e : decide ((j : Int) = (k : Int)) = decide (k = j) := decide_eq_decide.mpr ⟨by omega, by omega⟩
              rw [e]
              exact hA _ Z9 H9 (T.refl z9) (Ik.bl _)
            · have z9 := t9.zh
              have i8 := (ls8.tt t9).is
              have i9 := ls9.is
              walk_at "tlN"
              refine s_neP (x := flgX k) (y := (List.range (Int.toNat 12)).map fun j => decide (k = j)) (Ik.ex z9 i8).is (Ik.ex z9 i9).is (by decide) ?_
              rw [show decide (flgX k ≠ (List.range (Int.toNat 12)).map fun j => decide (k = j)) = false from decide_eq_false fun h => h rfl]
              walk_at "tlN"
              exact ⟨_, _, Z9, rfl, (t7.step t8 mm_nil).step t9 mm_nil⟩
          · obtain ⟨x1, x2, Z7, rfl, t7⟩ := hq
            have z7 := t7.zh
            walk_at "tlN"
            refine ⟨m2, ys, Z7, rfl, my.exz t7.z, z7, fun q1 Z8 H8 t8 g8 => ?_⟩
            have z8 := t8.zh
            walk_at "tlN"
            refine ⟨q1, p2, ys, Z8, rfl, g8, t8.z _ _ (t7.z _ _ (t6.z _ _ (t5.z _ _ f4))), by omega, fun v hv => (b4 v hv).ex (t5.z.trans (t6.z.trans (t7.z.trans t8.z))), z8, fun Z9 H9 t9 => ?_⟩
            have z9 := t9.zh
            walk_at "tlN"
            refine ⟨m1, xs, Z9, rfl, mx6.exz (t7.z.trans (t8.z.trans t9.z)), z9, fun q2 Za Ha ta ga => ?_⟩
            have za := ta.zh
            walk_at "tlN"
            have ex3 : Ex Z3 Za := t4.z.trans (t5.z.trans (t6.z.trans (t7.z.trans (t8.z.trans (t9.z.trans ta.z)))))
            refine ⟨q2, p1, xs, Za, rfl, ga, ex3 _ _ f1, by omega, fun v hv => (b1 v hv).ex ex3, za, fun Zb Hb tb => ?_⟩
            have zb := tb.zh
            walk_at "tlN"
            refine c_mapR (fun j : Nat => true) zb (by decide) (fun j hj Zc Hc tc A hA => ?_) (fun D Zc Hc nD tc lsc => ?_)
            · have zc := tc.zh
              walk_at "tlN"
              refine ixGo (sq_of (zc _ _ (tc.z _ _ (tb.z _ _ (ex3 _ _ f1))))) (ig_mem ⟨by omega, by omega⟩ fun v hv _ => ?_)
              walk_at "tlN"
              exact ⟨j, v, Zc, rfl, by omega, by omega, (b1 v hv).ex (ex3.trans (tb.z.trans tc.z)), zc, fun Zd Hd td => hA _ Zd Hd td (Ik.bl true)⟩
            · have zc := tc.zh
              walk_at "tlN"
              have sc : SqL K Hc D (((List.range (Int.toNat 3)).map fun _ => true).map V.bl) := sq_of (zc _ _ lsc.bools)
              walk_at "tlN"
              rw [show ((List.range (Int.toNat 3)).map fun _ => true).all id = true from rfl]
              walk_at "tlN"
              have tt : T [] Z1 H1 Z4 H4 := ((((T.refl z1 : T [] Z1 H1 Z1 H1).step t2 mm_nil).step t3 (mm_1 (.inr nh))).step t4 (mm_1 (.inr nh)))
              exact ⟨_, _, _, _, _, _, _, _, Zc, rfl, ((((((((((t1.step tt mm_nil).step t5 mm_nil).step t6 mm_nil).step t7 mm_nil).step t8 mm_nil).step t9 mm_nil).step ta mm_nil).step tb mm_nil).step tc mm_nil))⟩
    · obtain ⟨x1, x2, x3, x4, x5, x6, x7, x8, Z1, rfl, t1⟩ := hq
      walk_at "tlN"
      exact q _

end

end Lw
open PySem PySem.W PyProof.Rows
set_option maxHeartbeats 0 in

theorem PySem.Challenge.cw_tailrooms_k18_refusals_apart_holds : PySem.Challenge.rw_tailrooms_k18_refusals_apart.Holds := by

  w_on; o_law; k_head; (case hw => w_witness2)
  k_fill

  refine L2.walk_of (l := PySem.Challenge.rw_tailrooms_k18_refusals_apart) (n := 63) (k := 4) (x := "_law_script") (CX := fun _ => L2.CX0) (sp := fun w => Lw.sp_law _) rfl (by decide) rfl ⟨rfl, by decide, by decide⟩ (fun w h Y => PySem.W.kIn_of Y) ?F (fun _ _ a ns hl _ hS => ⟨a, ns, rfl, hS, hl, fun _ => rfl⟩) (fun _ _ _ _ _ h => h)

  case F =>
    intro w mg fa h KX G hmg

    have zz : Lw.Z (L2.KOf KX) mg := by
      refine' ⟨PySem.W.mg_none_of KX G ?z0, PySem.W.mg_none_of KX G ?z1, PySem.W.mg_none_of KX G ?z2, PySem.W.mg_none_of KX G ?z3, PySem.W.mg_none_of KX G ?z4, PySem.W.mg_none_of KX G ?z5, PySem.W.mg_none_of KX G ?z6, PySem.W.mg_none_of KX G ?z7, PySem.W.mg_none_of KX G ?z8, TR.teC_mk KX G ?ta_TailError ?tb_TailError ?tc_TailError ?td_TailError, TR.clsG_mk KX G ?ga_TailError, TR.clsG_mk KX G ?ga_NoLine, TR.clsG_mk KX G ?ga_NoText, TR.clsG_mk KX G ?ga_Busy, TR.clsG_mk KX G ?ga_Taken, TR.clsG_mk KX G ?ga_NoName, TR.clsG_mk KX G ?ga_NoMark, TR.clsG_mk KX G ?ga_Full, TR.clsG_mk KX G ?ga_Lacking, TR.clsG_mk KX G ?ga_NoRoom, TR.clsG_mk KX G ?ga_NoThing, TR.clsG_mk KX G ?ga_NoKey, TR.clsG_mk KX G ?ga_NoSize, TR.isx_mk KX ?qa_NoSize ?qb_NoSize ?qc_NoSize ?qd_NoSize ?qe_NoSize ?qf_NoSize ?qg_NoSize ?qh_NoSize ?qi_NoSize, TR.sve_mk KX ?qj_NoSize ?qk_NoSize, TR.isx_mk KX ?qa_NoKey ?qb_NoKey ?qc_NoKey ?qd_NoKey ?qe_NoKey ?qf_NoKey ?qg_NoKey ?qh_NoKey ?qi_NoKey, TR.sve_mk KX ?qj_NoKey ?qk_NoKey, TR.isx_mk KX ?qa_NoThing ?qb_NoThing ?qc_NoThing ?qd_NoThing ?qe_NoThing ?qf_NoThing ?qg_NoThing ?qh_NoThing ?qi_NoThing, TR.sve_mk KX ?qj_NoThing ?qk_NoThing, TR.isx_mk KX ?qa_NoRoom ?qb_NoRoom ?qc_NoRoom ?qd_NoRoom ?qe_NoRoom ?qf_NoRoom ?qg_NoRoom ?qh_NoRoom ?qi_NoRoom, TR.sve_mk KX ?qj_NoRoom ?qk_NoRoom, TR.isx_mk KX ?qa_Lacking ?qb_Lacking ?qc_Lacking ?qd_Lacking ?qe_Lacking ?qf_Lacking ?qg_Lacking ?qh_Lacking ?qi_Lacking, TR.sve_mk KX ?qj_Lacking ?qk_Lacking, TR.isx_mk KX ?qa_Full ?qb_Full ?qc_Full ?qd_Full ?qe_Full ?qf_Full ?qg_Full ?qh_Full ?qi_Full, TR.sve_mk KX ?qj_Full ?qk_Full, TR.isx_mk KX ?qa_NoMark ?qb_NoMark ?qc_NoMark ?qd_NoMark ?qe_NoMark ?qf_NoMark ?qg_NoMark ?qh_NoMark ?qi_NoMark, TR.sve_mk KX ?qj_NoMark ?qk_NoMark, TR.isx_mk KX ?qa_NoName ?qb_NoName ?qc_NoName ?qd_NoName ?qe_NoName ?qf_NoName ?qg_NoName ?qh_NoName ?qi_NoName, TR.sve_mk KX ?qj_NoName ?qk_NoName, TR.isx_mk KX ?qa_Taken ?qb_Taken ?qc_Taken ?qd_Taken ?qe_Taken ?qf_Taken ?qg_Taken ?qh_Taken ?qi_Taken, TR.sve_mk KX ?qj_Taken ?qk_Taken, TR.isx_mk KX ?qa_Busy ?qb_Busy ?qc_Busy ?qd_Busy ?qe_Busy ?qf_Busy ?qg_Busy ?qh_Busy ?qi_Busy, TR.sve_mk KX ?qj_Busy ?qk_Busy, TR.isx_mk KX ?qa_NoText ?qb_NoText ?qc_NoText ?qd_NoText ?qe_NoText ?qf_NoText ?qg_NoText ?qh_NoText ?qi_NoText, TR.sve_mk KX ?qj_NoText ?qk_NoText, TR.isx_mk KX ?qa_NoLine ?qb_NoLine ?qc_NoLine ?qd_NoLine ?qe_NoLine ?qf_NoLine ?qg_NoLine ?qh_NoLine ?qi_NoLine, TR.sve_mk KX ?qj_NoLine ?qk_NoLine, TR.xf_mk KX ?xa_NoKey ?xb_NoKey ?xc_NoKey ?xd_NoKey ?xe_NoKey, TR.xf_mk KX ?xa_NoName ?xb_NoName ?xc_NoName ?xd_NoName ?xe_NoName, TR.xf_mk KX ?xa_Taken ?xb_Taken ?xc_Taken ?xd_Taken ?xe_Taken, TR.xf_mk KX ?xa_NoMark ?xb_NoMark ?xc_NoMark ?xd_NoMark ?xe_NoMark, TR.xf_mk KX ?xa_Full ?xb_Full ?xc_Full ?xd_Full ?xe_Full, TR.xf_mk KX ?xa_Lacking ?xb_Lacking ?xc_Lacking ?xd_Lacking ?xe_Lacking, TR.xf_mk KX ?xa_NoRoom ?xb_NoRoom ?xc_NoRoom ?xd_NoRoom ?xe_NoRoom, TR.xf_mk KX ?xa_NoSize ?xb_NoSize ?xc_NoSize ?xd_NoSize ?xe_NoSize, TR.xf_mk KX ?xa_NoThing ?xb_NoThing ?xc_NoThing ?xd_NoThing ?xe_NoThing, TR.fn_mk KX ?fa_NoKey_key ?fb_NoKey_key, TR.fn_mk KX ?fa_NoName_name ?fb_NoName_name, TR.fn_mk KX ?fa_Taken_name ?fb_Taken_name, TR.fn_mk KX ?fa_NoMark_mark ?fb_NoMark_mark, TR.fn_mk KX ?fa_Full_many ?fb_Full_many, TR.fn_mk KX ?fa_Lacking_key ?fb_Lacking_key, TR.fn_mk KX ?fa_NoRoom_number ?fb_NoRoom_number, TR.fn_mk KX ?fa_NoSize_thing ?fb_NoSize_thing, TR.fn_mk KX ?fa_NoThing_thing ?fb_NoThing_thing, TR.exm_mk KX ?ma_Taken_TailError ?mb_Taken_TailError ?mc_Taken_TailError ?md_Taken_TailError ?me_Taken_TailError ?mf_Taken_TailError, TR.exm_mk KX ?ma_NoKey_TailError ?mb_NoKey_TailError ?mc_NoKey_TailError ?md_NoKey_TailError ?me_NoKey_TailError ?mf_NoKey_TailError, TR.exm_mk KX ?ma_NoName_TailError ?mb_NoName_TailError ?mc_NoName_TailError ?md_NoName_TailError ?me_NoName_TailError ?mf_NoName_TailError, TR.exm_mk KX ?ma_NoMark_TailError ?mb_NoMark_TailError ?mc_NoMark_TailError ?md_NoMark_TailError ?me_NoMark_TailError ?mf_NoMark_TailError, TR.exm_mk KX ?ma_Full_TailError ?mb_Full_TailError ?mc_Full_TailError ?md_Full_TailError ?me_Full_TailError ?mf_Full_TailError, TR.exm_mk KX ?ma_Lacking_TailError ?mb_Lacking_TailError ?mc_Lacking_TailError ?md_Lacking_TailError ?me_Lacking_TailError ?mf_Lacking_TailError, TR.exm_mk KX ?ma_NoRoom_TailError ?mb_NoRoom_TailError ?mc_NoRoom_TailError ?md_NoRoom_TailError ?me_NoRoom_TailError ?mf_NoRoom_TailError, TR.exm_mk KX ?ma_NoThing_TailError ?mb_NoThing_TailError ?mc_NoThing_TailError ?md_NoThing_TailError ?me_NoThing_TailError ?mf_NoThing_TailError, TR.exm_mk KX ?ma_NoSize_TailError ?mb_NoSize_TailError ?mc_NoSize_TailError ?md_NoSize_TailError ?me_NoSize_TailError ?mf_NoSize_TailError, TR.exm_mk KX ?ma_Busy_TailError ?mb_Busy_TailError ?mc_Busy_TailError ?md_Busy_TailError ?me_Busy_TailError ?mf_Busy_TailError, TR.exm_mk KX ?ma_NoLine_TailError ?mb_NoLine_TailError ?mc_NoLine_TailError ?md_NoLine_TailError ?me_NoLine_TailError ?mf_NoLine_TailError, TR.exm_mk KX ?ma_NoText_TailError ?mb_NoText_TailError ?mc_NoText_TailError ?md_NoText_TailError ?me_NoText_TailError ?mf_NoText_TailError, TR.exm_mk KX ?ma_Taken_NoKey ?mb_Taken_NoKey ?mc_Taken_NoKey ?md_Taken_NoKey ?me_Taken_NoKey ?mf_Taken_NoKey, TR.exm_mk KX ?ma_NoKey_NoKey ?mb_NoKey_NoKey ?mc_NoKey_NoKey ?md_NoKey_NoKey ?me_NoKey_NoKey ?mf_NoKey_NoKey, TR.exm_mk KX ?ma_NoName_NoKey ?mb_NoName_NoKey ?mc_NoName_NoKey ?md_NoName_NoKey ?me_NoName_NoKey ?mf_NoName_NoKey, TR.exm_mk KX ?ma_NoMark_NoKey ?mb_NoMark_NoKey ?mc_NoMark_NoKey ?md_NoMark_NoKey ?me_NoMark_NoKey ?mf_NoMark_NoKey, TR.exm_mk KX ?ma_Full_NoKey ?mb_Full_NoKey ?mc_Full_NoKey ?md_Full_NoKey ?me_Full_NoKey ?mf_Full_NoKey, TR.exm_mk KX ?ma_Lacking_NoKey ?mb_Lacking_NoKey ?mc_Lacking_NoKey ?md_Lacking_NoKey ?me_Lacking_NoKey ?mf_Lacking_NoKey, TR.exm_mk KX ?ma_NoRoom_NoKey ?mb_NoRoom_NoKey ?mc_NoRoom_NoKey ?md_NoRoom_NoKey ?me_NoRoom_NoKey ?mf_NoRoom_NoKey, TR.exm_mk KX ?ma_NoThing_NoKey ?mb_NoThing_NoKey ?mc_NoThing_NoKey ?md_NoThing_NoKey ?me_NoThing_NoKey ?mf_NoThing_NoKey, TR.exm_mk KX ?ma_NoSize_NoKey ?mb_NoSize_NoKey ?mc_NoSize_NoKey ?md_NoSize_NoKey ?me_NoSize_NoKey ?mf_NoSize_NoKey, TR.exm_mk KX ?ma_Busy_NoKey ?mb_Busy_NoKey ?mc_Busy_NoKey ?md_Busy_NoKey ?me_Busy_NoKey ?mf_Busy_NoKey, TR.exm_mk KX ?ma_NoLine_NoKey ?mb_NoLine_NoKey ?mc_NoLine_NoKey ?md_NoLine_NoKey ?me_NoLine_NoKey ?mf_NoLine_NoKey, TR.exm_mk KX ?ma_NoText_NoKey ?mb_NoText_NoKey ?mc_NoText_NoKey ?md_NoText_NoKey ?me_NoText_NoKey ?mf_NoText_NoKey, TR.exm_mk KX ?ma_NoSize_NoSize ?mb_NoSize_NoSize ?mc_NoSize_NoSize ?md_NoSize_NoSize ?me_NoSize_NoSize ?mf_NoSize_NoSize, TR.exm_mk KX ?ma_NoSize_NoLine ?mb_NoSize_NoLine ?mc_NoSize_NoLine ?md_NoSize_NoLine ?me_NoSize_NoLine ?mf_NoSize_NoLine, TR.exm_mk KX ?ma_NoKey_NoLine ?mb_NoKey_NoLine ?mc_NoKey_NoLine ?md_NoKey_NoLine ?me_NoKey_NoLine ?mf_NoKey_NoLine, TR.exm_mk KX ?ma_NoThing_NoThing ?mb_NoThing_NoThing ?mc_NoThing_NoThing ?md_NoThing_NoThing ?me_NoThing_NoThing ?mf_NoThing_NoThing, TR.exm_mk KX ?ma_NoThing_NoLine ?mb_NoThing_NoLine ?mc_NoThing_NoLine ?md_NoThing_NoLine ?me_NoThing_NoLine ?mf_NoThing_NoLine, TR.exm_mk KX ?ma_NoRoom_NoRoom ?mb_NoRoom_NoRoom ?mc_NoRoom_NoRoom ?md_NoRoom_NoRoom ?me_NoRoom_NoRoom ?mf_NoRoom_NoRoom, TR.exm_mk KX ?ma_NoRoom_NoLine ?mb_NoRoom_NoLine ?mc_NoRoom_NoLine ?md_NoRoom_NoLine ?me_NoRoom_NoLine ?mf_NoRoom_NoLine, TR.exm_mk KX ?ma_Lacking_Lacking ?mb_Lacking_Lacking ?mc_Lacking_Lacking ?md_Lacking_Lacking ?me_Lacking_Lacking ?mf_Lacking_Lacking, TR.exm_mk KX ?ma_Lacking_NoLine ?mb_Lacking_NoLine ?mc_Lacking_NoLine ?md_Lacking_NoLine ?me_Lacking_NoLine ?mf_Lacking_NoLine, TR.exm_mk KX ?ma_Full_Full ?mb_Full_Full ?mc_Full_Full ?md_Full_Full ?me_Full_Full ?mf_Full_Full, TR.exm_mk KX ?ma_Full_NoLine ?mb_Full_NoLine ?mc_Full_NoLine ?md_Full_NoLine ?me_Full_NoLine ?mf_Full_NoLine, TR.exm_mk KX ?ma_NoMark_NoMark ?mb_NoMark_NoMark ?mc_NoMark_NoMark ?md_NoMark_NoMark ?me_NoMark_NoMark ?mf_NoMark_NoMark, TR.exm_mk KX ?ma_NoMark_NoLine ?mb_NoMark_NoLine ?mc_NoMark_NoLine ?md_NoMark_NoLine ?me_NoMark_NoLine ?mf_NoMark_NoLine, TR.exm_mk KX ?ma_NoName_NoName ?mb_NoName_NoName ?mc_NoName_NoName ?md_NoName_NoName ?me_NoName_NoName ?mf_NoName_NoName, TR.exm_mk KX ?ma_NoName_NoLine ?mb_NoName_NoLine ?mc_NoName_NoLine ?md_NoName_NoLine ?me_NoName_NoLine ?mf_NoName_NoLine, TR.exm_mk KX ?ma_Taken_Taken ?mb_Taken_Taken ?mc_Taken_Taken ?md_Taken_Taken ?me_Taken_Taken ?mf_Taken_Taken, TR.exm_mk KX ?ma_Taken_NoLine ?mb_Taken_NoLine ?mc_Taken_NoLine ?md_Taken_NoLine ?me_Taken_NoLine ?mf_Taken_NoLine, TR.exm_mk KX ?ma_Busy_Busy ?mb_Busy_Busy ?mc_Busy_Busy ?md_Busy_Busy ?me_Busy_Busy ?mf_Busy_Busy, TR.exm_mk KX ?ma_Busy_NoLine ?mb_Busy_NoLine ?mc_Busy_NoLine ?md_Busy_NoLine ?me_Busy_NoLine ?mf_Busy_NoLine, TR.exm_mk KX ?ma_NoText_NoText ?mb_NoText_NoText ?mc_NoText_NoText ?md_NoText_NoText ?me_NoText_NoText ?mf_NoText_NoText, TR.exm_mk KX ?ma_NoText_NoLine ?mb_NoText_NoLine ?mc_NoText_NoLine ?md_NoText_NoLine ?me_NoText_NoLine ?mf_NoText_NoLine, TR.exm_mk KX ?ma_NoLine_NoLine ?mb_NoLine_NoLine ?mc_NoLine_NoLine ?md_NoLine_NoLine ?me_NoLine_NoLine ?mf_NoLine_NoLine, TR.exm_mk KX ?ma_NoSize_NoText ?mb_NoSize_NoText ?mc_NoSize_NoText ?md_NoSize_NoText ?me_NoSize_NoText ?mf_NoSize_NoText, TR.exm_mk KX ?ma_NoKey_NoText ?mb_NoKey_NoText ?mc_NoKey_NoText ?md_NoKey_NoText ?me_NoKey_NoText ?mf_NoKey_NoText, TR.exm_mk KX ?ma_NoThing_NoText ?mb_NoThing_NoText ?mc_NoThing_NoText ?md_NoThing_NoText ?me_NoThing_NoText ?mf_NoThing_NoText, TR.exm_mk KX ?ma_NoRoom_NoText ?mb_NoRoom_NoText ?mc_NoRoom_NoText ?md_NoRoom_NoText ?me_NoRoom_NoText ?mf_NoRoom_NoText, TR.exm_mk KX ?ma_Lacking_NoText ?mb_Lacking_NoText ?mc_Lacking_NoText ?md_Lacking_NoText ?me_Lacking_NoText ?mf_Lacking_NoText, TR.exm_mk KX ?ma_Full_NoText ?mb_Full_NoText ?mc_Full_NoText ?md_Full_NoText ?me_Full_NoText ?mf_Full_NoText, TR.exm_mk KX ?ma_NoMark_NoText ?mb_NoMark_NoText ?mc_NoMark_NoText ?md_NoMark_NoText ?me_NoMark_NoText ?mf_NoMark_NoText, TR.exm_mk KX ?ma_NoName_NoText ?mb_NoName_NoText ?mc_NoName_NoText ?md_NoName_NoText ?me_NoName_NoText ?mf_NoName_NoText, TR.exm_mk KX ?ma_Taken_NoText ?mb_Taken_NoText ?mc_Taken_NoText ?md_Taken_NoText ?me_Taken_NoText ?mf_Taken_NoText, TR.exm_mk KX ?ma_Busy_NoText ?mb_Busy_NoText ?mc_Busy_NoText ?md_Busy_NoText ?me_Busy_NoText ?mf_Busy_NoText, TR.exm_mk KX ?ma_NoLine_NoText ?mb_NoLine_NoText ?mc_NoLine_NoText ?md_NoLine_NoText ?me_NoLine_NoText ?mf_NoLine_NoText, TR.exm_mk KX ?ma_NoSize_Busy ?mb_NoSize_Busy ?mc_NoSize_Busy ?md_NoSize_Busy ?me_NoSize_Busy ?mf_NoSize_Busy, TR.exm_mk KX ?ma_NoKey_Busy ?mb_NoKey_Busy ?mc_NoKey_Busy ?md_NoKey_Busy ?me_NoKey_Busy ?mf_NoKey_Busy, TR.exm_mk KX ?ma_NoThing_Busy ?mb_NoThing_Busy ?mc_NoThing_Busy ?md_NoThing_Busy ?me_NoThing_Busy ?mf_NoThing_Busy, TR.exm_mk KX ?ma_NoRoom_Busy ?mb_NoRoom_Busy ?mc_NoRoom_Busy ?md_NoRoom_Busy ?me_NoRoom_Busy ?mf_NoRoom_Busy, TR.exm_mk KX ?ma_Lacking_Busy ?mb_Lacking_Busy ?mc_Lacking_Busy ?md_Lacking_Busy ?me_Lacking_Busy ?mf_Lacking_Busy, TR.exm_mk KX ?ma_Full_Busy ?mb_Full_Busy ?mc_Full_Busy ?md_Full_Busy ?me_Full_Busy ?mf_Full_Busy, TR.exm_mk KX ?ma_NoMark_Busy ?mb_NoMark_Busy ?mc_NoMark_Busy ?md_NoMark_Busy ?me_NoMark_Busy ?mf_NoMark_Busy, TR.exm_mk KX ?ma_NoName_Busy ?mb_NoName_Busy ?mc_NoName_Busy ?md_NoName_Busy ?me_NoName_Busy ?mf_NoName_Busy, TR.exm_mk KX ?ma_Taken_Busy ?mb_Taken_Busy ?mc_Taken_Busy ?md_Taken_Busy ?me_Taken_Busy ?mf_Taken_Busy, TR.exm_mk KX ?ma_NoText_Busy ?mb_NoText_Busy ?mc_NoText_Busy ?md_NoText_Busy ?me_NoText_Busy ?mf_NoText_Busy, TR.exm_mk KX ?ma_NoLine_Busy ?mb_NoLine_Busy ?mc_NoLine_Busy ?md_NoLine_Busy ?me_NoLine_Busy ?mf_NoLine_Busy, TR.exm_mk KX ?ma_NoSize_Taken ?mb_NoSize_Taken ?mc_NoSize_Taken ?md_NoSize_Taken ?me_NoSize_Taken ?mf_NoSize_Taken, TR.exm_mk KX ?ma_NoKey_Taken ?mb_NoKey_Taken ?mc_NoKey_Taken ?md_NoKey_Taken ?me_NoKey_Taken ?mf_NoKey_Taken, TR.exm_mk KX ?ma_NoThing_Taken ?mb_NoThing_Taken ?mc_NoThing_Taken ?md_NoThing_Taken ?me_NoThing_Taken ?mf_NoThing_Taken, TR.exm_mk KX ?ma_NoRoom_Taken ?mb_NoRoom_Taken ?mc_NoRoom_Taken ?md_NoRoom_Taken ?me_NoRoom_Taken ?mf_NoRoom_Taken, TR.exm_mk KX ?ma_Lacking_Taken ?mb_Lacking_Taken ?mc_Lacking_Taken ?md_Lacking_Taken ?me_Lacking_Taken ?mf_Lacking_Taken, TR.exm_mk KX ?ma_Full_Taken ?mb_Full_Taken ?mc_Full_Taken ?md_Full_Taken ?me_Full_Taken ?mf_Full_Taken, TR.exm_mk KX ?ma_NoMark_Taken ?mb_NoMark_Taken ?mc_NoMark_Taken ?md_NoMark_Taken ?me_NoMark_Taken ?mf_NoMark_Taken, TR.exm_mk KX ?ma_NoName_Taken ?mb_NoName_Taken ?mc_NoName_Taken ?md_NoName_Taken ?me_NoName_Taken ?mf_NoName_Taken, TR.exm_mk KX ?ma_Busy_Taken ?mb_Busy_Taken ?mc_Busy_Taken ?md_Busy_Taken ?me_Busy_Taken ?mf_Busy_Taken, TR.exm_mk KX ?ma_NoText_Taken ?mb_NoText_Taken ?mc_NoText_Taken ?md_NoText_Taken ?me_NoText_Taken ?mf_NoText_Taken, TR.exm_mk KX ?ma_NoLine_Taken ?mb_NoLine_Taken ?mc_NoLine_Taken ?md_NoLine_Taken ?me_NoLine_Taken ?mf_NoLine_Taken, TR.exm_mk KX ?ma_NoSize_NoName ?mb_NoSize_NoName ?mc_NoSize_NoName ?md_NoSize_NoName ?me_NoSize_NoName ?mf_NoSize_NoName, TR.exm_mk KX ?ma_NoKey_NoName ?mb_NoKey_NoName ?mc_NoKey_NoName ?md_NoKey_NoName ?me_NoKey_NoName ?mf_NoKey_NoName, TR.exm_mk KX ?ma_NoThing_NoName ?mb_NoThing_NoName ?mc_NoThing_NoName ?md_NoThing_NoName ?me_NoThing_NoName ?mf_NoThing_NoName, TR.exm_mk KX ?ma_NoRoom_NoName ?mb_NoRoom_NoName ?mc_NoRoom_NoName ?md_NoRoom_NoName ?me_NoRoom_NoName ?mf_NoRoom_NoName, TR.exm_mk KX ?ma_Lacking_NoName ?mb_Lacking_NoName ?mc_Lacking_NoName ?md_Lacking_NoName ?me_Lacking_NoName ?mf_Lacking_NoName, TR.exm_mk KX ?ma_Full_NoName ?mb_Full_NoName ?mc_Full_NoName ?md_Full_NoName ?me_Full_NoName ?mf_Full_NoName, TR.exm_mk KX ?ma_NoMark_NoName ?mb_NoMark_NoName ?mc_NoMark_NoName ?md_NoMark_NoName ?me_NoMark_NoName ?mf_NoMark_NoName, TR.exm_mk KX ?ma_Taken_NoName ?mb_Taken_NoName ?mc_Taken_NoName ?md_Taken_NoName ?me_Taken_NoName ?mf_Taken_NoName, TR.exm_mk KX ?ma_Busy_NoName ?mb_Busy_NoName ?mc_Busy_NoName ?md_Busy_NoName ?me_Busy_NoName ?mf_Busy_NoName, TR.exm_mk KX ?ma_NoText_NoName ?mb_NoText_NoName ?mc_NoText_NoName ?md_NoText_NoName ?me_NoText_NoName ?mf_NoText_NoName, TR.exm_mk KX ?ma_NoLine_NoName ?mb_NoLine_NoName ?mc_NoLine_NoName ?md_NoLine_NoName ?me_NoLine_NoName ?mf_NoLine_NoName, TR.exm_mk KX ?ma_NoSize_NoMark ?mb_NoSize_NoMark ?mc_NoSize_NoMark ?md_NoSize_NoMark ?me_NoSize_NoMark ?mf_NoSize_NoMark, TR.exm_mk KX ?ma_NoKey_NoMark ?mb_NoKey_NoMark ?mc_NoKey_NoMark ?md_NoKey_NoMark ?me_NoKey_NoMark ?mf_NoKey_NoMark, TR.exm_mk KX ?ma_NoThing_NoMark ?mb_NoThing_NoMark ?mc_NoThing_NoMark ?md_NoThing_NoMark ?me_NoThing_NoMark ?mf_NoThing_NoMark, TR.exm_mk KX ?ma_NoRoom_NoMark ?mb_NoRoom_NoMark ?mc_NoRoom_NoMark ?md_NoRoom_NoMark ?me_NoRoom_NoMark ?mf_NoRoom_NoMark, TR.exm_mk KX ?ma_Lacking_NoMark ?mb_Lacking_NoMark ?mc_Lacking_NoMark ?md_Lacking_NoMark ?me_Lacking_NoMark ?mf_Lacking_NoMark, TR.exm_mk KX ?ma_Full_NoMark ?mb_Full_NoMark ?mc_Full_NoMark ?md_Full_NoMark ?me_Full_NoMark ?mf_Full_NoMark, TR.exm_mk KX ?ma_NoName_NoMark ?mb_NoName_NoMark ?mc_NoName_NoMark ?md_NoName_NoMark ?me_NoName_NoMark ?mf_NoName_NoMark, TR.exm_mk KX ?ma_Taken_NoMark ?mb_Taken_NoMark ?mc_Taken_NoMark ?md_Taken_NoMark ?me_Taken_NoMark ?mf_Taken_NoMark, TR.exm_mk KX ?ma_Busy_NoMark ?mb_Busy_NoMark ?mc_Busy_NoMark ?md_Busy_NoMark ?me_Busy_NoMark ?mf_Busy_NoMark, TR.exm_mk KX ?ma_NoText_NoMark ?mb_NoText_NoMark ?mc_NoText_NoMark ?md_NoText_NoMark ?me_NoText_NoMark ?mf_NoText_NoMark, TR.exm_mk KX ?ma_NoLine_NoMark ?mb_NoLine_NoMark ?mc_NoLine_NoMark ?md_NoLine_NoMark ?me_NoLine_NoMark ?mf_NoLine_NoMark, TR.exm_mk KX ?ma_NoSize_Full ?mb_NoSize_Full ?mc_NoSize_Full ?md_NoSize_Full ?me_NoSize_Full ?mf_NoSize_Full, TR.exm_mk KX ?ma_NoKey_Full ?mb_NoKey_Full ?mc_NoKey_Full ?md_NoKey_Full ?me_NoKey_Full ?mf_NoKey_Full, TR.exm_mk KX ?ma_NoThing_Full ?mb_NoThing_Full ?mc_NoThing_Full ?md_NoThing_Full ?me_NoThing_Full ?mf_NoThing_Full, TR.exm_mk KX ?ma_NoRoom_Full ?mb_NoRoom_Full ?mc_NoRoom_Full ?md_NoRoom_Full ?me_NoRoom_Full ?mf_NoRoom_Full, TR.exm_mk KX ?ma_Lacking_Full ?mb_Lacking_Full ?mc_Lacking_Full ?md_Lacking_Full ?me_Lacking_Full ?mf_Lacking_Full, TR.exm_mk KX ?ma_NoMark_Full ?mb_NoMark_Full ?mc_NoMark_Full ?md_NoMark_Full ?me_NoMark_Full ?mf_NoMark_Full, TR.exm_mk KX ?ma_NoName_Full ?mb_NoName_Full ?mc_NoName_Full ?md_NoName_Full ?me_NoName_Full ?mf_NoName_Full, TR.exm_mk KX ?ma_Taken_Full ?mb_Taken_Full ?mc_Taken_Full ?md_Taken_Full ?me_Taken_Full ?mf_Taken_Full, TR.exm_mk KX ?ma_Busy_Full ?mb_Busy_Full ?mc_Busy_Full ?md_Busy_Full ?me_Busy_Full ?mf_Busy_Full, TR.exm_mk KX ?ma_NoText_Full ?mb_NoText_Full ?mc_NoText_Full ?md_NoText_Full ?me_NoText_Full ?mf_NoText_Full, TR.exm_mk KX ?ma_NoLine_Full ?mb_NoLine_Full ?mc_NoLine_Full ?md_NoLine_Full ?me_NoLine_Full ?mf_NoLine_Full, TR.exm_mk KX ?ma_NoSize_Lacking ?mb_NoSize_Lacking ?mc_NoSize_Lacking ?md_NoSize_Lacking ?me_NoSize_Lacking ?mf_NoSize_Lacking, TR.exm_mk KX ?ma_NoKey_Lacking ?mb_NoKey_Lacking ?mc_NoKey_Lacking ?md_NoKey_Lacking ?me_NoKey_Lacking ?mf_NoKey_Lacking, TR.exm_mk KX ?ma_NoThing_Lacking ?mb_NoThing_Lacking ?mc_NoThing_Lacking ?md_NoThing_Lacking ?me_NoThing_Lacking ?mf_NoThing_Lacking, TR.exm_mk KX ?ma_NoRoom_Lacking ?mb_NoRoom_Lacking ?mc_NoRoom_Lacking ?md_NoRoom_Lacking ?me_NoRoom_Lacking ?mf_NoRoom_Lacking, TR.exm_mk KX ?ma_Full_Lacking ?mb_Full_Lacking ?mc_Full_Lacking ?md_Full_Lacking ?me_Full_Lacking ?mf_Full_Lacking, TR.exm_mk KX ?ma_NoMark_Lacking ?mb_NoMark_Lacking ?mc_NoMark_Lacking ?md_NoMark_Lacking ?me_NoMark_Lacking ?mf_NoMark_Lacking, TR.exm_mk KX ?ma_NoName_Lacking ?mb_NoName_Lacking ?mc_NoName_Lacking ?md_NoName_Lacking ?me_NoName_Lacking ?mf_NoName_Lacking, TR.exm_mk KX ?ma_Taken_Lacking ?mb_Taken_Lacking ?mc_Taken_Lacking ?md_Taken_Lacking ?me_Taken_Lacking ?mf_Taken_Lacking, TR.exm_mk KX ?ma_Busy_Lacking ?mb_Busy_Lacking ?mc_Busy_Lacking ?md_Busy_Lacking ?me_Busy_Lacking ?mf_Busy_Lacking, TR.exm_mk KX ?ma_NoText_Lacking ?mb_NoText_Lacking ?mc_NoText_Lacking ?md_NoText_Lacking ?me_NoText_Lacking ?mf_NoText_Lacking, TR.exm_mk KX ?ma_NoLine_Lacking ?mb_NoLine_Lacking ?mc_NoLine_Lacking ?md_NoLine_Lacking ?me_NoLine_Lacking ?mf_NoLine_Lacking, TR.exm_mk KX ?ma_NoSize_NoRoom ?mb_NoSize_NoRoom ?mc_NoSize_NoRoom ?md_NoSize_NoRoom ?me_NoSize_NoRoom ?mf_NoSize_NoRoom, TR.exm_mk KX ?ma_NoKey_NoRoom ?mb_NoKey_NoRoom ?mc_NoKey_NoRoom ?md_NoKey_NoRoom ?me_NoKey_NoRoom ?mf_NoKey_NoRoom, TR.exm_mk KX ?ma_NoThing_NoRoom ?mb_NoThing_NoRoom ?mc_NoThing_NoRoom ?md_NoThing_NoRoom ?me_NoThing_NoRoom ?mf_NoThing_NoRoom, TR.exm_mk KX ?ma_Lacking_NoRoom ?mb_Lacking_NoRoom ?mc_Lacking_NoRoom ?md_Lacking_NoRoom ?me_Lacking_NoRoom ?mf_Lacking_NoRoom, TR.exm_mk KX ?ma_Full_NoRoom ?mb_Full_NoRoom ?mc_Full_NoRoom ?md_Full_NoRoom ?me_Full_NoRoom ?mf_Full_NoRoom, TR.exm_mk KX ?ma_NoMark_NoRoom ?mb_NoMark_NoRoom ?mc_NoMark_NoRoom ?md_NoMark_NoRoom ?me_NoMark_NoRoom ?mf_NoMark_NoRoom, TR.exm_mk KX ?ma_NoName_NoRoom ?mb_NoName_NoRoom ?mc_NoName_NoRoom ?md_NoName_NoRoom ?me_NoName_NoRoom ?mf_NoName_NoRoom, TR.exm_mk KX ?ma_Taken_NoRoom ?mb_Taken_NoRoom ?mc_Taken_NoRoom ?md_Taken_NoRoom ?me_Taken_NoRoom ?mf_Taken_NoRoom, TR.exm_mk KX ?ma_Busy_NoRoom ?mb_Busy_NoRoom ?mc_Busy_NoRoom ?md_Busy_NoRoom ?me_Busy_NoRoom ?mf_Busy_NoRoom, TR.exm_mk KX ?ma_NoText_NoRoom ?mb_NoText_NoRoom ?mc_NoText_NoRoom ?md_NoText_NoRoom ?me_NoText_NoRoom ?mf_NoText_NoRoom, TR.exm_mk KX ?ma_NoLine_NoRoom ?mb_NoLine_NoRoom ?mc_NoLine_NoRoom ?md_NoLine_NoRoom ?me_NoLine_NoRoom ?mf_NoLine_NoRoom, TR.exm_mk KX ?ma_NoSize_NoThing ?mb_NoSize_NoThing ?mc_NoSize_NoThing ?md_NoSize_NoThing ?me_NoSize_NoThing ?mf_NoSize_NoThing, TR.exm_mk KX ?ma_NoKey_NoThing ?mb_NoKey_NoThing ?mc_NoKey_NoThing ?md_NoKey_NoThing ?me_NoKey_NoThing ?mf_NoKey_NoThing, TR.exm_mk KX ?ma_NoRoom_NoThing ?mb_NoRoom_NoThing ?mc_NoRoom_NoThing ?md_NoRoom_NoThing ?me_NoRoom_NoThing ?mf_NoRoom_NoThing, TR.exm_mk KX ?ma_Lacking_NoThing ?mb_Lacking_NoThing ?mc_Lacking_NoThing ?md_Lacking_NoThing ?me_Lacking_NoThing ?mf_Lacking_NoThing, TR.exm_mk KX ?ma_Full_NoThing ?mb_Full_NoThing ?mc_Full_NoThing ?md_Full_NoThing ?me_Full_NoThing ?mf_Full_NoThing, TR.exm_mk KX ?ma_NoMark_NoThing ?mb_NoMark_NoThing ?mc_NoMark_NoThing ?md_NoMark_NoThing ?me_NoMark_NoThing ?mf_NoMark_NoThing, TR.exm_mk KX ?ma_NoName_NoThing ?mb_NoName_NoThing ?mc_NoName_NoThing ?md_NoName_NoThing ?me_NoName_NoThing ?mf_NoName_NoThing, TR.exm_mk KX ?ma_Taken_NoThing ?mb_Taken_NoThing ?mc_Taken_NoThing ?md_Taken_NoThing ?me_Taken_NoThing ?mf_Taken_NoThing, TR.exm_mk KX ?ma_Busy_NoThing ?mb_Busy_NoThing ?mc_Busy_NoThing ?md_Busy_NoThing ?me_Busy_NoThing ?mf_Busy_NoThing, TR.exm_mk KX ?ma_NoText_NoThing ?mb_NoText_NoThing ?mc_NoText_NoThing ?md_NoText_NoThing ?me_NoText_NoThing ?mf_NoText_NoThing, TR.exm_mk KX ?ma_NoLine_NoThing ?mb_NoLine_NoThing ?mc_NoLine_NoThing ?md_NoLine_NoThing ?me_NoLine_NoThing ?mf_NoLine_NoThing, TR.exm_mk KX ?ma_NoKey_NoSize ?mb_NoKey_NoSize ?mc_NoKey_NoSize ?md_NoKey_NoSize ?me_NoKey_NoSize ?mf_NoKey_NoSize, TR.exm_mk KX ?ma_NoThing_NoSize ?mb_NoThing_NoSize ?mc_NoThing_NoSize ?md_NoThing_NoSize ?me_NoThing_NoSize ?mf_NoThing_NoSize, TR.exm_mk KX ?ma_NoRoom_NoSize ?mb_NoRoom_NoSize ?mc_NoRoom_NoSize ?md_NoRoom_NoSize ?me_NoRoom_NoSize ?mf_NoRoom_NoSize, TR.exm_mk KX ?ma_Lacking_NoSize ?mb_Lacking_NoSize ?mc_Lacking_NoSize ?md_Lacking_NoSize ?me_Lacking_NoSize ?mf_Lacking_NoSize, TR.exm_mk KX ?ma_Full_NoSize ?mb_Full_NoSize ?mc_Full_NoSize ?md_Full_NoSize ?me_Full_NoSize ?mf_Full_NoSize, TR.exm_mk KX ?ma_NoMark_NoSize ?mb_NoMark_NoSize ?mc_NoMark_NoSize ?md_NoMark_NoSize ?me_NoMark_NoSize ?mf_NoMark_NoSize, TR.exm_mk KX ?ma_NoName_NoSize ?mb_NoName_NoSize ?mc_NoName_NoSize ?md_NoName_NoSize ?me_NoName_NoSize ?mf_NoName_NoSize, TR.exm_mk KX ?ma_Taken_NoSize ?mb_Taken_NoSize ?mc_Taken_NoSize ?md_Taken_NoSize ?me_Taken_NoSize ?mf_Taken_NoSize, TR.exm_mk KX ?ma_Busy_NoSize ?mb_Busy_NoSize ?mc_Busy_NoSize ?md_Busy_NoSize ?me_Busy_NoSize ?mf_Busy_NoSize, TR.exm_mk KX ?ma_NoText_NoSize ?mb_NoText_NoSize ?mc_NoText_NoSize ?md_NoText_NoSize ?me_NoText_NoSize ?mf_NoText_NoSize, TR.exm_mk KX ?ma_NoLine_NoSize ?mb_NoLine_NoSize ?mc_NoLine_NoSize ?md_NoLine_NoSize ?me_NoLine_NoSize ?mf_NoLine_NoSize, TR.exB_mk KX G ?ba_Busy ?bb_Busy ?bc_Busy ?bd_Busy ?be_Busy, TR.exB_mk KX G ?ba_NoLine ?bb_NoLine ?bc_NoLine ?bd_NoLine ?be_NoLine, TR.exB_mk KX G ?ba_NoText ?bb_NoText ?bc_NoText ?bd_NoText ?be_NoText⟩
      (case z0 => k_is)
      (case z1 => k_is)
      (case z2 => k_is)
      (case z3 => k_is)
      (case z4 => k_is)
      (case z5 => k_is)
      (case z6 => k_is)
      (case z7 => k_is)
      (case z8 => k_is)
      (case ta_TailError => k_is)
      (case tb_TailError => k_is)
      (case tc_TailError => k_is)
      (case td_TailError => k_is)
      (case ga_TailError => k_is)
      (case ga_NoLine => k_is)
      (case ga_NoText => k_is)
      (case ga_Busy => k_is)
      (case ga_Taken => k_is)
      (case ga_NoName => k_is)
      (case ga_NoMark => k_is)
      (case ga_Full => k_is)
      (case ga_Lacking => k_is)
      (case ga_NoRoom => k_is)
      (case ga_NoThing => k_is)
      (case ga_NoKey => k_is)
      (case ga_NoSize => k_is)
      (case qa_NoSize => k_is)
      (case qb_NoSize => k_is)
      (case qc_NoSize => k_is)
      (case qd_NoSize => k_is)
      (case qe_NoSize => k_is)
      (case qf_NoSize => k_is)
      (case qg_NoSize => k_is)
      (case qh_NoSize => k_is)
      (case qi_NoSize => k_is)
      (case qj_NoSize => k_is)
      (case qk_NoSize => k_is)
      (case qa_NoKey => k_is)
      (case qb_NoKey => k_is)
      (case qc_NoKey => k_is)
      (case qd_NoKey => k_is)
      (case qe_NoKey => k_is)
      (case qf_NoKey => k_is)
      (case qg_NoKey => k_is)
      (case qh_NoKey => k_is)
      (case qi_NoKey => k_is)
      (case qj_NoKey => k_is)
      (case qk_NoKey => k_is)
      (case qa_NoThing => k_is)
      (case qb_NoThing => k_is)
      (case qc_NoThing => k_is)
      (case qd_NoThing => k_is)
      (case qe_NoThing => k_is)
      (case qf_NoThing => k_is)
      (case qg_NoThing => k_is)
      (case qh_NoThing => k_is)
      (case qi_NoThing => k_is)
      (case qj_NoThing => k_is)
      (case qk_NoThing => k_is)
      (case qa_NoRoom => k_is)
      (case qb_NoRoom => k_is)
      (case qc_NoRoom => k_is)
      (case qd_NoRoom => k_is)
      (case qe_NoRoom => k_is)
      (case qf_NoRoom => k_is)
      (case qg_NoRoom => k_is)
      (case qh_NoRoom => k_is)
      (case qi_NoRoom => k_is)
      (case qj_NoRoom => k_is)
      (case qk_NoRoom => k_is)
      (case qa_Lacking => k_is)
      (case qb_Lacking => k_is)
      (case qc_Lacking => k_is)
      (case qd_Lacking => k_is)
      (case qe_Lacking => k_is)
      (case qf_Lacking => k_is)
      (case qg_Lacking => k_is)
      (case qh_Lacking => k_is)
      (case qi_Lacking => k_is)
      (case qj_Lacking => k_is)
      (case qk_Lacking => k_is)
      (case qa_Full => k_is)
      (case qb_Full => k_is)
      (case qc_Full => k_is)
      (case qd_Full => k_is)
      (case qe_Full => k_is)
      (case qf_Full => k_is)
      (case qg_Full => k_is)
      (case qh_Full => k_is)
      (case qi_Full => k_is)
      (case qj_Full => k_is)
      (case qk_Full => k_is)
      (case qa_NoMark => k_is)
      (case qb_NoMark => k_is)
      (case qc_NoMark => k_is)
      (case qd_NoMark => k_is)
      (case qe_NoMark => k_is)
      (case qf_NoMark => k_is)
      (case qg_NoMark => k_is)
      (case qh_NoMark => k_is)
      (case qi_NoMark => k_is)
      (case qj_NoMark => k_is)
      (case qk_NoMark => k_is)
      (case qa_NoName => k_is)
      (case qb_NoName => k_is)
      (case qc_NoName => k_is)
      (case qd_NoName => k_is)
      (case qe_NoName => k_is)
      (case qf_NoName => k_is)
      (case qg_NoName => k_is)
      (case qh_NoName => k_is)
      (case qi_NoName => k_is)
      (case qj_NoName => k_is)
      (case qk_NoName => k_is)
      (case qa_Taken => k_is)
      (case qb_Taken => k_is)
      (case qc_Taken => k_is)
      (case qd_Taken => k_is)
      (case qe_Taken => k_is)
      (case qf_Taken => k_is)
      (case qg_Taken => k_is)
      (case qh_Taken => k_is)
      (case qi_Taken => k_is)
      (case qj_Taken => k_is)
      (case qk_Taken => k_is)
      (case qa_Busy => k_is)
      (case qb_Busy => k_is)
      (case qc_Busy => k_is)
      (case qd_Busy => k_is)
      (case qe_Busy => k_is)
      (case qf_Busy => k_is)
      (case qg_Busy => k_is)
      (case qh_Busy => k_is)
      (case qi_Busy => k_is)
      (case qj_Busy => k_is)
      (case qk_Busy => k_is)
      (case qa_NoText => k_is)
      (case qb_NoText => k_is)
      (case qc_NoText => k_is)
      (case qd_NoText => k_is)
      (case qe_NoText => k_is)
      (case qf_NoText => k_is)
      (case qg_NoText => k_is)
      (case qh_NoText => k_is)
      (case qi_NoText => k_is)
      (case qj_NoText => k_is)
      (case qk_NoText => k_is)
      (case qa_NoLine => k_is)
      (case qb_NoLine => k_is)
      (case qc_NoLine => k_is)
      (case qd_NoLine => k_is)
      (case qe_NoLine => k_is)
      (case qf_NoLine => k_is)
      (case qg_NoLine => k_is)
      (case qh_NoLine => k_is)
      (case qi_NoLine => k_is)
      (case qj_NoLine => k_is)
      (case qk_NoLine => k_is)
      (case xa_NoKey => k_is)
      (case xb_NoKey => k_is)
      (case xc_NoKey => k_is)
      (case xd_NoKey => k_is)
      (case xe_NoKey => k_is)
      (case xa_NoName => k_is)
      (case xb_NoName => k_is)
      (case xc_NoName => k_is)
      (case xd_NoName => k_is)
      (case xe_NoName => k_is)
      (case xa_Taken => k_is)
      (case xb_Taken => k_is)
      (case xc_Taken => k_is)
      (case xd_Taken => k_is)
      (case xe_Taken => k_is)
      (case xa_NoMark => k_is)
      (case xb_NoMark => k_is)
      (case xc_NoMark => k_is)
      (case xd_NoMark => k_is)
      (case xe_NoMark => k_is)
      (case xa_Full => k_is)
      (case xb_Full => k_is)
      (case xc_Full => k_is)
      (case xd_Full => k_is)
      (case xe_Full => k_is)
      (case xa_Lacking => k_is)
      (case xb_Lacking => k_is)
      (case xc_Lacking => k_is)
      (case xd_Lacking => k_is)
      (case xe_Lacking => k_is)
      (case xa_NoRoom => k_is)
      (case xb_NoRoom => k_is)
      (case xc_NoRoom => k_is)
      (case xd_NoRoom => k_is)
      (case xe_NoRoom => k_is)
      (case xa_NoSize => k_is)
      (case xb_NoSize => k_is)
      (case xc_NoSize => k_is)
      (case xd_NoSize => k_is)
      (case xe_NoSize => k_is)
      (case xa_NoThing => k_is)
      (case xb_NoThing => k_is)
      (case xc_NoThing => k_is)
      (case xd_NoThing => k_is)
      (case xe_NoThing => k_is)
      (case fa_NoKey_key => k_is)
      (case fb_NoKey_key => k_is)
      (case fa_NoName_name => k_is)
      (case fb_NoName_name => k_is)
      (case fa_Taken_name => k_is)
      (case fb_Taken_name => k_is)
      (case fa_NoMark_mark => k_is)
      (case fb_NoMark_mark => k_is)
      (case fa_Full_many => k_is)
      (case fb_Full_many => k_is)
      (case fa_Lacking_key => k_is)
      (case fb_Lacking_key => k_is)
      (case fa_NoRoom_number => k_is)
      (case fb_NoRoom_number => k_is)
      (case fa_NoSize_thing => k_is)
      (case fb_NoSize_thing => k_is)
      (case fa_NoThing_thing => k_is)
      (case fb_NoThing_thing => k_is)
      (case ma_Taken_TailError => k_is)
      (case mb_Taken_TailError => k_is)
      (case mc_Taken_TailError => k_is)
      (case md_Taken_TailError => k_is)
      (case me_Taken_TailError => k_is)
      (case mf_Taken_TailError => k_is)
      (case ma_NoKey_TailError => k_is)
      (case mb_NoKey_TailError => k_is)
      (case mc_NoKey_TailError => k_is)
      (case md_NoKey_TailError => k_is)
      (case me_NoKey_TailError => k_is)
      (case mf_NoKey_TailError => k_is)
      (case ma_NoName_TailError => k_is)
      (case mb_NoName_TailError => k_is)
      (case mc_NoName_TailError => k_is)
      (case md_NoName_TailError => k_is)
      (case me_NoName_TailError => k_is)
      (case mf_NoName_TailError => k_is)
      (case ma_NoMark_TailError => k_is)
      (case mb_NoMark_TailError => k_is)
      (case mc_NoMark_TailError => k_is)
      (case md_NoMark_TailError => k_is)
      (case me_NoMark_TailError => k_is)
      (case mf_NoMark_TailError => k_is)
      (case ma_Full_TailError => k_is)
      (case mb_Full_TailError => k_is)
      (case mc_Full_TailError => k_is)
      (case md_Full_TailError => k_is)
      (case me_Full_TailError => k_is)
      (case mf_Full_TailError => k_is)
      (case ma_Lacking_TailError => k_is)
      (case mb_Lacking_TailError => k_is)
      (case mc_Lacking_TailError => k_is)
      (case md_Lacking_TailError => k_is)
      (case me_Lacking_TailError => k_is)
      (case mf_Lacking_TailError => k_is)
      (case ma_NoRoom_TailError => k_is)
      (case mb_NoRoom_TailError => k_is)
      (case mc_NoRoom_TailError => k_is)
      (case md_NoRoom_TailError => k_is)
      (case me_NoRoom_TailError => k_is)
      (case mf_NoRoom_TailError => k_is)
      (case ma_NoThing_TailError => k_is)
      (case mb_NoThing_TailError => k_is)
      (case mc_NoThing_TailError => k_is)
      (case md_NoThing_TailError => k_is)
      (case me_NoThing_TailError => k_is)
      (case mf_NoThing_TailError => k_is)
      (case ma_NoSize_TailError => k_is)
      (case mb_NoSize_TailError => k_is)
      (case mc_NoSize_TailError => k_is)
      (case md_NoSize_TailError => k_is)
      (case me_NoSize_TailError => k_is)
      (case mf_NoSize_TailError => k_is)
      (case ma_Busy_TailError => k_is)
      (case mb_Busy_TailError => k_is)
      (case mc_Busy_TailError => k_is)
      (case md_Busy_TailError => k_is)
      (case me_Busy_TailError => k_is)
      (case mf_Busy_TailError => k_is)
      (case ma_NoLine_TailError => k_is)
      (case mb_NoLine_TailError => k_is)
      (case mc_NoLine_TailError => k_is)
      (case md_NoLine_TailError => k_is)
      (case me_NoLine_TailError => k_is)
      (case mf_NoLine_TailError => k_is)
      (case ma_NoText_TailError => k_is)
      (case mb_NoText_TailError => k_is)
      (case mc_NoText_TailError => k_is)
      (case md_NoText_TailError => k_is)
      (case me_NoText_TailError => k_is)
      (case mf_NoText_TailError => k_is)
      (case ma_Taken_NoKey => k_is)
      (case mb_Taken_NoKey => k_is)
      (case mc_Taken_NoKey => k_is)
      (case md_Taken_NoKey => k_is)
      (case me_Taken_NoKey => k_is)
      (case mf_Taken_NoKey => k_is)
      (case ma_NoKey_NoKey => k_is)
      (case mb_NoKey_NoKey => k_is)
      (case mc_NoKey_NoKey => k_is)
      (case md_NoKey_NoKey => k_is)
      (case me_NoKey_NoKey => k_is)
      (case mf_NoKey_NoKey => k_is)
      (case ma_NoName_NoKey => k_is)
      (case mb_NoName_NoKey => k_is)
      (case mc_NoName_NoKey => k_is)
      (case md_NoName_NoKey => k_is)
      (case me_NoName_NoKey => k_is)
      (case mf_NoName_NoKey => k_is)
      (case ma_NoMark_NoKey => k_is)
      (case mb_NoMark_NoKey => k_is)
      (case mc_NoMark_NoKey => k_is)
      (case md_NoMark_NoKey => k_is)
      (case me_NoMark_NoKey => k_is)
      (case mf_NoMark_NoKey => k_is)
      (case ma_Full_NoKey => k_is)
      (case mb_Full_NoKey => k_is)
      (case mc_Full_NoKey => k_is)
      (case md_Full_NoKey => k_is)
      (case me_Full_NoKey => k_is)
      (case mf_Full_NoKey => k_is)
      (case ma_Lacking_NoKey => k_is)
      (case mb_Lacking_NoKey => k_is)
      (case mc_Lacking_NoKey => k_is)
      (case md_Lacking_NoKey => k_is)
      (case me_Lacking_NoKey => k_is)
      (case mf_Lacking_NoKey => k_is)
      (case ma_NoRoom_NoKey => k_is)
      (case mb_NoRoom_NoKey => k_is)
      (case mc_NoRoom_NoKey => k_is)
      (case md_NoRoom_NoKey => k_is)
      (case me_NoRoom_NoKey => k_is)
      (case mf_NoRoom_NoKey => k_is)
      (case ma_NoThing_NoKey => k_is)
      (case mb_NoThing_NoKey => k_is)
      (case mc_NoThing_NoKey => k_is)
      (case md_NoThing_NoKey => k_is)
      (case me_NoThing_NoKey => k_is)
      (case mf_NoThing_NoKey => k_is)
      (case ma_NoSize_NoKey => k_is)
      (case mb_NoSize_NoKey => k_is)
      (case mc_NoSize_NoKey => k_is)
      (case md_NoSize_NoKey => k_is)
      (case me_NoSize_NoKey => k_is)
      (case mf_NoSize_NoKey => k_is)
      (case ma_Busy_NoKey => k_is)
      (case mb_Busy_NoKey => k_is)
      (case mc_Busy_NoKey => k_is)
      (case md_Busy_NoKey => k_is)
      (case me_Busy_NoKey => k_is)
      (case mf_Busy_NoKey => k_is)
      (case ma_NoLine_NoKey => k_is)
      (case mb_NoLine_NoKey => k_is)
      (case mc_NoLine_NoKey => k_is)
      (case md_NoLine_NoKey => k_is)
      (case me_NoLine_NoKey => k_is)
      (case mf_NoLine_NoKey => k_is)
      (case ma_NoText_NoKey => k_is)
      (case mb_NoText_NoKey => k_is)
      (case mc_NoText_NoKey => k_is)
      (case md_NoText_NoKey => k_is)
      (case me_NoText_NoKey => k_is)
      (case mf_NoText_NoKey => k_is)
      (case ma_NoSize_NoSize => k_is)
      (case mb_NoSize_NoSize => k_is)
      (case mc_NoSize_NoSize => k_is)
      (case md_NoSize_NoSize => k_is)
      (case me_NoSize_NoSize => k_is)
      (case mf_NoSize_NoSize => k_is)
      (case ma_NoSize_NoLine => k_is)
      (case mb_NoSize_NoLine => k_is)
      (case mc_NoSize_NoLine => k_is)
      (case md_NoSize_NoLine => k_is)
      (case me_NoSize_NoLine => k_is)
      (case mf_NoSize_NoLine => k_is)
      (case ma_NoKey_NoLine => k_is)
      (case mb_NoKey_NoLine => k_is)
      (case mc_NoKey_NoLine => k_is)
      (case md_NoKey_NoLine => k_is)
      (case me_NoKey_NoLine => k_is)
      (case mf_NoKey_NoLine => k_is)
      (case ma_NoThing_NoThing => k_is)
      (case mb_NoThing_NoThing => k_is)
      (case mc_NoThing_NoThing => k_is)
      (case md_NoThing_NoThing => k_is)
      (case me_NoThing_NoThing => k_is)
      (case mf_NoThing_NoThing => k_is)
      (case ma_NoThing_NoLine => k_is)
      (case mb_NoThing_NoLine => k_is)
      (case mc_NoThing_NoLine => k_is)
      (case md_NoThing_NoLine => k_is)
      (case me_NoThing_NoLine => k_is)
      (case mf_NoThing_NoLine => k_is)
      (case ma_NoRoom_NoRoom => k_is)
      (case mb_NoRoom_NoRoom => k_is)
      (case mc_NoRoom_NoRoom => k_is)
      (case md_NoRoom_NoRoom => k_is)
      (case me_NoRoom_NoRoom => k_is)
      (case mf_NoRoom_NoRoom => k_is)
      (case ma_NoRoom_NoLine => k_is)
      (case mb_NoRoom_NoLine => k_is)
      (case mc_NoRoom_NoLine => k_is)
      (case md_NoRoom_NoLine => k_is)
      (case me_NoRoom_NoLine => k_is)
      (case mf_NoRoom_NoLine => k_is)
      (case ma_Lacking_Lacking => k_is)
      (case mb_Lacking_Lacking => k_is)
      (case mc_Lacking_Lacking => k_is)
      (case md_Lacking_Lacking => k_is)
      (case me_Lacking_Lacking => k_is)
      (case mf_Lacking_Lacking => k_is)
      (case ma_Lacking_NoLine => k_is)
      (case mb_Lacking_NoLine => k_is)
      (case mc_Lacking_NoLine => k_is)
      (case md_Lacking_NoLine => k_is)
      (case me_Lacking_NoLine => k_is)
      (case mf_Lacking_NoLine => k_is)
      (case ma_Full_Full => k_is)
      (case mb_Full_Full => k_is)
      (case mc_Full_Full => k_is)
      (case md_Full_Full => k_is)
      (case me_Full_Full => k_is)
      (case mf_Full_Full => k_is)
      (case ma_Full_NoLine => k_is)
      (case mb_Full_NoLine => k_is)
      (case mc_Full_NoLine => k_is)
      (case md_Full_NoLine => k_is)
      (case me_Full_NoLine => k_is)
      (case mf_Full_NoLine => k_is)
      (case ma_NoMark_NoMark => k_is)
      (case mb_NoMark_NoMark => k_is)
      (case mc_NoMark_NoMark => k_is)
      (case md_NoMark_NoMark => k_is)
      (case me_NoMark_NoMark => k_is)
      (case mf_NoMark_NoMark => k_is)
      (case ma_NoMark_NoLine => k_is)
      (case mb_NoMark_NoLine => k_is)
      (case mc_NoMark_NoLine => k_is)
      (case md_NoMark_NoLine => k_is)
      (case me_NoMark_NoLine => k_is)
      (case mf_NoMark_NoLine => k_is)
      (case ma_NoName_NoName => k_is)
      (case mb_NoName_NoName => k_is)
      (case mc_NoName_NoName => k_is)
      (case md_NoName_NoName => k_is)
      (case me_NoName_NoName => k_is)
      (case mf_NoName_NoName => k_is)
      (case ma_NoName_NoLine => k_is)
      (case mb_NoName_NoLine => k_is)
      (case mc_NoName_NoLine => k_is)
      (case md_NoName_NoLine => k_is)
      (case me_NoName_NoLine => k_is)
      (case mf_NoName_NoLine => k_is)
      (case ma_Taken_Taken => k_is)
      (case mb_Taken_Taken => k_is)
      (case mc_Taken_Taken => k_is)
      (case md_Taken_Taken => k_is)
      (case me_Taken_Taken => k_is)
      (case mf_Taken_Taken => k_is)
      (case ma_Taken_NoLine => k_is)
      (case mb_Taken_NoLine => k_is)
      (case mc_Taken_NoLine => k_is)
      (case md_Taken_NoLine => k_is)
      (case me_Taken_NoLine => k_is)
      (case mf_Taken_NoLine => k_is)
      (case ma_Busy_Busy => k_is)
      (case mb_Busy_Busy => k_is)
      (case mc_Busy_Busy => k_is)
      (case md_Busy_Busy => k_is)
      (case me_Busy_Busy => k_is)
      (case mf_Busy_Busy => k_is)
      (case ma_Busy_NoLine => k_is)
      (case mb_Busy_NoLine => k_is)
      (case mc_Busy_NoLine => k_is)
      (case md_Busy_NoLine => k_is)
      (case me_Busy_NoLine => k_is)
      (case mf_Busy_NoLine => k_is)
      (case ma_NoText_NoText => k_is)
      (case mb_NoText_NoText => k_is)
      (case mc_NoText_NoText => k_is)
      (case md_NoText_NoText => k_is)
      (case me_NoText_NoText => k_is)
      (case mf_NoText_NoText => k_is)
      (case ma_NoText_NoLine => k_is)
      (case mb_NoText_NoLine => k_is)
      (case mc_NoText_NoLine => k_is)
      (case md_NoText_NoLine => k_is)
      (case me_NoText_NoLine => k_is)
      (case mf_NoText_NoLine => k_is)
      (case ma_NoLine_NoLine => k_is)
      (case mb_NoLine_NoLine => k_is)
      (case mc_NoLine_NoLine => k_is)
      (case md_NoLine_NoLine => k_is)
      (case me_NoLine_NoLine => k_is)
      (case mf_NoLine_NoLine => k_is)
      (case ma_NoSize_NoText => k_is)
      (case mb_NoSize_NoText => k_is)
      (case mc_NoSize_NoText => k_is)
      (case md_NoSize_NoText => k_is)
      (case me_NoSize_NoText => k_is)
      (case mf_NoSize_NoText => k_is)
      (case ma_NoKey_NoText => k_is)
      (case mb_NoKey_NoText => k_is)
      (case mc_NoKey_NoText => k_is)
      (case md_NoKey_NoText => k_is)
      (case me_NoKey_NoText => k_is)
      (case mf_NoKey_NoText => k_is)
      (case ma_NoThing_NoText => k_is)
      (case mb_NoThing_NoText => k_is)
      (case mc_NoThing_NoText => k_is)
      (case md_NoThing_NoText => k_is)
      (case me_NoThing_NoText => k_is)
      (case mf_NoThing_NoText => k_is)
      (case ma_NoRoom_NoText => k_is)
      (case mb_NoRoom_NoText => k_is)
      (case mc_NoRoom_NoText => k_is)
      (case md_NoRoom_NoText => k_is)
      (case me_NoRoom_NoText => k_is)
      (case mf_NoRoom_NoText => k_is)
      (case ma_Lacking_NoText => k_is)
      (case mb_Lacking_NoText => k_is)
      (case mc_Lacking_NoText => k_is)
      (case md_Lacking_NoText => k_is)
      (case me_Lacking_NoText => k_is)
      (case mf_Lacking_NoText => k_is)
      (case ma_Full_NoText => k_is)
      (case mb_Full_NoText => k_is)
      (case mc_Full_NoText => k_is)
      (case md_Full_NoText => k_is)
      (case me_Full_NoText => k_is)
      (case mf_Full_NoText => k_is)
      (case ma_NoMark_NoText => k_is)
      (case mb_NoMark_NoText => k_is)
      (case mc_NoMark_NoText => k_is)
      (case md_NoMark_NoText => k_is)
      (case me_NoMark_NoText => k_is)
      (case mf_NoMark_NoText => k_is)
      (case ma_NoName_NoText => k_is)
      (case mb_NoName_NoText => k_is)
      (case mc_NoName_NoText => k_is)
      (case md_NoName_NoText => k_is)
      (case me_NoName_NoText => k_is)
      (case mf_NoName_NoText => k_is)
      (case ma_Taken_NoText => k_is)
      (case mb_Taken_NoText => k_is)
      (case mc_Taken_NoText => k_is)
      (case md_Taken_NoText => k_is)
      (case me_Taken_NoText => k_is)
      (case mf_Taken_NoText => k_is)
      (case ma_Busy_NoText => k_is)
      (case mb_Busy_NoText => k_is)
      (case mc_Busy_NoText => k_is)
      (case md_Busy_NoText => k_is)
      (case me_Busy_NoText => k_is)
      (case mf_Busy_NoText => k_is)
      (case ma_NoLine_NoText => k_is)
      (case mb_NoLine_NoText => k_is)
      (case mc_NoLine_NoText => k_is)
      (case md_NoLine_NoText => k_is)
      (case me_NoLine_NoText => k_is)
      (case mf_NoLine_NoText => k_is)
      (case ma_NoSize_Busy => k_is)
      (case mb_NoSize_Busy => k_is)
      (case mc_NoSize_Busy => k_is)
      (case md_NoSize_Busy => k_is)
      (case me_NoSize_Busy => k_is)
      (case mf_NoSize_Busy => k_is)
      (case ma_NoKey_Busy => k_is)
      (case mb_NoKey_Busy => k_is)
      (case mc_NoKey_Busy => k_is)
      (case md_NoKey_Busy => k_is)
      (case me_NoKey_Busy => k_is)
      (case mf_NoKey_Busy => k_is)
      (case ma_NoThing_Busy => k_is)
      (case mb_NoThing_Busy => k_is)
      (case mc_NoThing_Busy => k_is)
      (case md_NoThing_Busy => k_is)
      (case me_NoThing_Busy => k_is)
      (case mf_NoThing_Busy => k_is)
      (case ma_NoRoom_Busy => k_is)
      (case mb_NoRoom_Busy => k_is)
      (case mc_NoRoom_Busy => k_is)
      (case md_NoRoom_Busy => k_is)
      (case me_NoRoom_Busy => k_is)
      (case mf_NoRoom_Busy => k_is)
      (case ma_Lacking_Busy => k_is)
      (case mb_Lacking_Busy => k_is)
      (case mc_Lacking_Busy => k_is)
      (case md_Lacking_Busy => k_is)
      (case me_Lacking_Busy => k_is)
      (case mf_Lacking_Busy => k_is)
      (case ma_Full_Busy => k_is)
      (case mb_Full_Busy => k_is)
      (case mc_Full_Busy => k_is)
      (case md_Full_Busy => k_is)
      (case me_Full_Busy => k_is)
      (case mf_Full_Busy => k_is)
      (case ma_NoMark_Busy => k_is)
      (case mb_NoMark_Busy => k_is)
      (case mc_NoMark_Busy => k_is)
      (case md_NoMark_Busy => k_is)
      (case me_NoMark_Busy => k_is)
      (case mf_NoMark_Busy => k_is)
      (case ma_NoName_Busy => k_is)
      (case mb_NoName_Busy => k_is)
      (case mc_NoName_Busy => k_is)
      (case md_NoName_Busy => k_is)
      (case me_NoName_Busy => k_is)
      (case mf_NoName_Busy => k_is)
      (case ma_Taken_Busy => k_is)
      (case mb_Taken_Busy => k_is)
      (case mc_Taken_Busy => k_is)
      (case md_Taken_Busy => k_is)
      (case me_Taken_Busy => k_is)
      (case mf_Taken_Busy => k_is)
      (case ma_NoText_Busy => k_is)
      (case mb_NoText_Busy => k_is)
      (case mc_NoText_Busy => k_is)
      (case md_NoText_Busy => k_is)
      (case me_NoText_Busy => k_is)
      (case mf_NoText_Busy => k_is)
      (case ma_NoLine_Busy => k_is)
      (case mb_NoLine_Busy => k_is)
      (case mc_NoLine_Busy => k_is)
      (case md_NoLine_Busy => k_is)
      (case me_NoLine_Busy => k_is)
      (case mf_NoLine_Busy => k_is)
      (case ma_NoSize_Taken => k_is)
      (case mb_NoSize_Taken => k_is)
      (case mc_NoSize_Taken => k_is)
      (case md_NoSize_Taken => k_is)
      (case me_NoSize_Taken => k_is)
      (case mf_NoSize_Taken => k_is)
      (case ma_NoKey_Taken => k_is)
      (case mb_NoKey_Taken => k_is)
      (case mc_NoKey_Taken => k_is)
      (case md_NoKey_Taken => k_is)
      (case me_NoKey_Taken => k_is)
      (case mf_NoKey_Taken => k_is)
      (case ma_NoThing_Taken => k_is)
      (case mb_NoThing_Taken => k_is)
      (case mc_NoThing_Taken => k_is)
      (case md_NoThing_Taken => k_is)
      (case me_NoThing_Taken => k_is)
      (case mf_NoThing_Taken => k_is)
      (case ma_NoRoom_Taken => k_is)
      (case mb_NoRoom_Taken => k_is)
      (case mc_NoRoom_Taken => k_is)
      (case md_NoRoom_Taken => k_is)
      (case me_NoRoom_Taken => k_is)
      (case mf_NoRoom_Taken => k_is)
      (case ma_Lacking_Taken => k_is)
      (case mb_Lacking_Taken => k_is)
      (case mc_Lacking_Taken => k_is)
      (case md_Lacking_Taken => k_is)
      (case me_Lacking_Taken => k_is)
      (case mf_Lacking_Taken => k_is)
      (case ma_Full_Taken => k_is)
      (case mb_Full_Taken => k_is)
      (case mc_Full_Taken => k_is)
      (case md_Full_Taken => k_is)
      (case me_Full_Taken => k_is)
      (case mf_Full_Taken => k_is)
      (case ma_NoMark_Taken => k_is)
      (case mb_NoMark_Taken => k_is)
      (case mc_NoMark_Taken => k_is)
      (case md_NoMark_Taken => k_is)
      (case me_NoMark_Taken => k_is)
      (case mf_NoMark_Taken => k_is)
      (case ma_NoName_Taken => k_is)
      (case mb_NoName_Taken => k_is)
      (case mc_NoName_Taken => k_is)
      (case md_NoName_Taken => k_is)
      (case me_NoName_Taken => k_is)
      (case mf_NoName_Taken => k_is)
      (case ma_Busy_Taken => k_is)
      (case mb_Busy_Taken => k_is)
      (case mc_Busy_Taken => k_is)
      (case md_Busy_Taken => k_is)
      (case me_Busy_Taken => k_is)
      (case mf_Busy_Taken => k_is)
      (case ma_NoText_Taken => k_is)
      (case mb_NoText_Taken => k_is)
      (case mc_NoText_Taken => k_is)
      (case md_NoText_Taken => k_is)
      (case me_NoText_Taken => k_is)
      (case mf_NoText_Taken => k_is)
      (case ma_NoLine_Taken => k_is)
      (case mb_NoLine_Taken => k_is)
      (case mc_NoLine_Taken => k_is)
      (case md_NoLine_Taken => k_is)
      (case me_NoLine_Taken => k_is)
      (case mf_NoLine_Taken => k_is)
      (case ma_NoSize_NoName => k_is)
      (case mb_NoSize_NoName => k_is)
      (case mc_NoSize_NoName => k_is)
      (case md_NoSize_NoName => k_is)
      (case me_NoSize_NoName => k_is)
      (case mf_NoSize_NoName => k_is)
      (case ma_NoKey_NoName => k_is)
      (case mb_NoKey_NoName => k_is)
      (case mc_NoKey_NoName => k_is)
      (case md_NoKey_NoName => k_is)
      (case me_NoKey_NoName => k_is)
      (case mf_NoKey_NoName => k_is)
      (case ma_NoThing_NoName => k_is)
      (case mb_NoThing_NoName => k_is)
      (case mc_NoThing_NoName => k_is)
      (case md_NoThing_NoName => k_is)
      (case me_NoThing_NoName => k_is)
      (case mf_NoThing_NoName => k_is)
      (case ma_NoRoom_NoName => k_is)
      (case mb_NoRoom_NoName => k_is)
      (case mc_NoRoom_NoName => k_is)
      (case md_NoRoom_NoName => k_is)
      (case me_NoRoom_NoName => k_is)
      (case mf_NoRoom_NoName => k_is)
      (case ma_Lacking_NoName => k_is)
      (case mb_Lacking_NoName => k_is)
      (case mc_Lacking_NoName => k_is)
      (case md_Lacking_NoName => k_is)
      (case me_Lacking_NoName => k_is)
      (case mf_Lacking_NoName => k_is)
      (case ma_Full_NoName => k_is)
      (case mb_Full_NoName => k_is)
      (case mc_Full_NoName => k_is)
      (case md_Full_NoName => k_is)
      (case me_Full_NoName => k_is)
      (case mf_Full_NoName => k_is)
      (case ma_NoMark_NoName => k_is)
      (case mb_NoMark_NoName => k_is)
      (case mc_NoMark_NoName => k_is)
      (case md_NoMark_NoName => k_is)
      (case me_NoMark_NoName => k_is)
      (case mf_NoMark_NoName => k_is)
      (case ma_Taken_NoName => k_is)
      (case mb_Taken_NoName => k_is)
      (case mc_Taken_NoName => k_is)
      (case md_Taken_NoName => k_is)
      (case me_Taken_NoName => k_is)
      (case mf_Taken_NoName => k_is)
      (case ma_Busy_NoName => k_is)
      (case mb_Busy_NoName => k_is)
      (case mc_Busy_NoName => k_is)
      (case md_Busy_NoName => k_is)
      (case me_Busy_NoName => k_is)
      (case mf_Busy_NoName => k_is)
      (case ma_NoText_NoName => k_is)
      (case mb_NoText_NoName => k_is)
      (case mc_NoText_NoName => k_is)
      (case md_NoText_NoName => k_is)
      (case me_NoText_NoName => k_is)
      (case mf_NoText_NoName => k_is)
      (case ma_NoLine_NoName => k_is)
      (case mb_NoLine_NoName => k_is)
      (case mc_NoLine_NoName => k_is)
      (case md_NoLine_NoName => k_is)
      (case me_NoLine_NoName => k_is)
      (case mf_NoLine_NoName => k_is)
      (case ma_NoSize_NoMark => k_is)
      (case mb_NoSize_NoMark => k_is)
      (case mc_NoSize_NoMark => k_is)
      (case md_NoSize_NoMark => k_is)
      (case me_NoSize_NoMark => k_is)
      (case mf_NoSize_NoMark => k_is)
      (case ma_NoKey_NoMark => k_is)
      (case mb_NoKey_NoMark => k_is)
      (case mc_NoKey_NoMark => k_is)
      (case md_NoKey_NoMark => k_is)
      (case me_NoKey_NoMark => k_is)
      (case mf_NoKey_NoMark => k_is)
      (case ma_NoThing_NoMark => k_is)
      (case mb_NoThing_NoMark => k_is)
      (case mc_NoThing_NoMark => k_is)
      (case md_NoThing_NoMark => k_is)
      (case me_NoThing_NoMark => k_is)
      (case mf_NoThing_NoMark => k_is)
      (case ma_NoRoom_NoMark => k_is)
      (case mb_NoRoom_NoMark => k_is)
      (case mc_NoRoom_NoMark => k_is)
      (case md_NoRoom_NoMark => k_is)
      (case me_NoRoom_NoMark => k_is)
      (case mf_NoRoom_NoMark => k_is)
      (case ma_Lacking_NoMark => k_is)
      (case mb_Lacking_NoMark => k_is)
      (case mc_Lacking_NoMark => k_is)
      (case md_Lacking_NoMark => k_is)
      (case me_Lacking_NoMark => k_is)
      (case mf_Lacking_NoMark => k_is)
      (case ma_Full_NoMark => k_is)
      (case mb_Full_NoMark => k_is)
      (case mc_Full_NoMark => k_is)
      (case md_Full_NoMark => k_is)
      (case me_Full_NoMark => k_is)
      (case mf_Full_NoMark => k_is)
      (case ma_NoName_NoMark => k_is)
      (case mb_NoName_NoMark => k_is)
      (case mc_NoName_NoMark => k_is)
      (case md_NoName_NoMark => k_is)
      (case me_NoName_NoMark => k_is)
      (case mf_NoName_NoMark => k_is)
      (case ma_Taken_NoMark => k_is)
      (case mb_Taken_NoMark => k_is)
      (case mc_Taken_NoMark => k_is)
      (case md_Taken_NoMark => k_is)
      (case me_Taken_NoMark => k_is)
      (case mf_Taken_NoMark => k_is)
      (case ma_Busy_NoMark => k_is)
      (case mb_Busy_NoMark => k_is)
      (case mc_Busy_NoMark => k_is)
      (case md_Busy_NoMark => k_is)
      (case me_Busy_NoMark => k_is)
      (case mf_Busy_NoMark => k_is)
      (case ma_NoText_NoMark => k_is)
      (case mb_NoText_NoMark => k_is)
      (case mc_NoText_NoMark => k_is)
      (case md_NoText_NoMark => k_is)
      (case me_NoText_NoMark => k_is)
      (case mf_NoText_NoMark => k_is)
      (case ma_NoLine_NoMark => k_is)
      (case mb_NoLine_NoMark => k_is)
      (case mc_NoLine_NoMark => k_is)
      (case md_NoLine_NoMark => k_is)
      (case me_NoLine_NoMark => k_is)
      (case mf_NoLine_NoMark => k_is)
      (case ma_NoSize_Full => k_is)
      (case mb_NoSize_Full => k_is)
      (case mc_NoSize_Full => k_is)
      (case md_NoSize_Full => k_is)
      (case me_NoSize_Full => k_is)
      (case mf_NoSize_Full => k_is)
      (case ma_NoKey_Full => k_is)
      (case mb_NoKey_Full => k_is)
      (case mc_NoKey_Full => k_is)
      (case md_NoKey_Full => k_is)
      (case me_NoKey_Full => k_is)
      (case mf_NoKey_Full => k_is)
      (case ma_NoThing_Full => k_is)
      (case mb_NoThing_Full => k_is)
      (case mc_NoThing_Full => k_is)
      (case md_NoThing_Full => k_is)
      (case me_NoThing_Full => k_is)
      (case mf_NoThing_Full => k_is)
      (case ma_NoRoom_Full => k_is)
      (case mb_NoRoom_Full => k_is)
      (case mc_NoRoom_Full => k_is)
      (case md_NoRoom_Full => k_is)
      (case me_NoRoom_Full => k_is)
      (case mf_NoRoom_Full => k_is)
      (case ma_Lacking_Full => k_is)
      (case mb_Lacking_Full => k_is)
      (case mc_Lacking_Full => k_is)
      (case md_Lacking_Full => k_is)
      (case me_Lacking_Full => k_is)
      (case mf_Lacking_Full => k_is)
      (case ma_NoMark_Full => k_is)
      (case mb_NoMark_Full => k_is)
      (case mc_NoMark_Full => k_is)
      (case md_NoMark_Full => k_is)
      (case me_NoMark_Full => k_is)
      (case mf_NoMark_Full => k_is)
      (case ma_NoName_Full => k_is)
      (case mb_NoName_Full => k_is)
      (case mc_NoName_Full => k_is)
      (case md_NoName_Full => k_is)
      (case me_NoName_Full => k_is)
      (case mf_NoName_Full => k_is)
      (case ma_Taken_Full => k_is)
      (case mb_Taken_Full => k_is)
      (case mc_Taken_Full => k_is)
      (case md_Taken_Full => k_is)
      (case me_Taken_Full => k_is)
      (case mf_Taken_Full => k_is)
      (case ma_Busy_Full => k_is)
      (case mb_Busy_Full => k_is)
      (case mc_Busy_Full => k_is)
      (case md_Busy_Full => k_is)
      (case me_Busy_Full => k_is)
      (case mf_Busy_Full => k_is)
      (case ma_NoText_Full => k_is)
      (case mb_NoText_Full => k_is)
      (case mc_NoText_Full => k_is)
      (case md_NoText_Full => k_is)
      (case me_NoText_Full => k_is)
      (case mf_NoText_Full => k_is)
      (case ma_NoLine_Full => k_is)
      (case mb_NoLine_Full => k_is)
      (case mc_NoLine_Full => k_is)
      (case md_NoLine_Full => k_is)
      (case me_NoLine_Full => k_is)
      (case mf_NoLine_Full => k_is)
      (case ma_NoSize_Lacking => k_is)
      (case mb_NoSize_Lacking => k_is)
      (case mc_NoSize_Lacking => k_is)
      (case md_NoSize_Lacking => k_is)
      (case me_NoSize_Lacking => k_is)
      (case mf_NoSize_Lacking => k_is)
      (case ma_NoKey_Lacking => k_is)
      (case mb_NoKey_Lacking => k_is)
      (case mc_NoKey_Lacking => k_is)
      (case md_NoKey_Lacking => k_is)
      (case me_NoKey_Lacking => k_is)
      (case mf_NoKey_Lacking => k_is)
      (case ma_NoThing_Lacking => k_is)
      (case mb_NoThing_Lacking => k_is)
      (case mc_NoThing_Lacking => k_is)
      (case md_NoThing_Lacking => k_is)
      (case me_NoThing_Lacking => k_is)
      (case mf_NoThing_Lacking => k_is)
      (case ma_NoRoom_Lacking => k_is)
      (case mb_NoRoom_Lacking => k_is)
      (case mc_NoRoom_Lacking => k_is)
      (case md_NoRoom_Lacking => k_is)
      (case me_NoRoom_Lacking => k_is)
      (case mf_NoRoom_Lacking => k_is)
      (case ma_Full_Lacking => k_is)
      (case mb_Full_Lacking => k_is)
      (case mc_Full_Lacking => k_is)
      (case md_Full_Lacking => k_is)
      (case me_Full_Lacking => k_is)
      (case mf_Full_Lacking => k_is)
      (case ma_NoMark_Lacking => k_is)
      (case mb_NoMark_Lacking => k_is)
      (case mc_NoMark_Lacking => k_is)
      (case md_NoMark_Lacking => k_is)
      (case me_NoMark_Lacking => k_is)
      (case mf_NoMark_Lacking => k_is)
      (case ma_NoName_Lacking => k_is)
      (case mb_NoName_Lacking => k_is)
      (case mc_NoName_Lacking => k_is)
      (case md_NoName_Lacking => k_is)
      (case me_NoName_Lacking => k_is)
      (case mf_NoName_Lacking => k_is)
      (case ma_Taken_Lacking => k_is)
      (case mb_Taken_Lacking => k_is)
      (case mc_Taken_Lacking => k_is)
      (case md_Taken_Lacking => k_is)
      (case me_Taken_Lacking => k_is)
      (case mf_Taken_Lacking => k_is)
      (case ma_Busy_Lacking => k_is)
      (case mb_Busy_Lacking => k_is)
      (case mc_Busy_Lacking => k_is)
      (case md_Busy_Lacking => k_is)
      (case me_Busy_Lacking => k_is)
      (case mf_Busy_Lacking => k_is)
      (case ma_NoText_Lacking => k_is)
      (case mb_NoText_Lacking => k_is)
      (case mc_NoText_Lacking => k_is)
      (case md_NoText_Lacking => k_is)
      (case me_NoText_Lacking => k_is)
      (case mf_NoText_Lacking => k_is)
      (case ma_NoLine_Lacking => k_is)
      (case mb_NoLine_Lacking => k_is)
      (case mc_NoLine_Lacking => k_is)
      (case md_NoLine_Lacking => k_is)
      (case me_NoLine_Lacking => k_is)
      (case mf_NoLine_Lacking => k_is)
      (case ma_NoSize_NoRoom => k_is)
      (case mb_NoSize_NoRoom => k_is)
      (case mc_NoSize_NoRoom => k_is)
      (case md_NoSize_NoRoom => k_is)
      (case me_NoSize_NoRoom => k_is)
      (case mf_NoSize_NoRoom => k_is)
      (case ma_NoKey_NoRoom => k_is)
      (case mb_NoKey_NoRoom => k_is)
      (case mc_NoKey_NoRoom => k_is)
      (case md_NoKey_NoRoom => k_is)
      (case me_NoKey_NoRoom => k_is)
      (case mf_NoKey_NoRoom => k_is)
      (case ma_NoThing_NoRoom => k_is)
      (case mb_NoThing_NoRoom => k_is)
      (case mc_NoThing_NoRoom => k_is)
      (case md_NoThing_NoRoom => k_is)
      (case me_NoThing_NoRoom => k_is)
      (case mf_NoThing_NoRoom => k_is)
      (case ma_Lacking_NoRoom => k_is)
      (case mb_Lacking_NoRoom => k_is)
      (case mc_Lacking_NoRoom => k_is)
      (case md_Lacking_NoRoom => k_is)
      (case me_Lacking_NoRoom => k_is)
      (case mf_Lacking_NoRoom => k_is)
      (case ma_Full_NoRoom => k_is)
      (case mb_Full_NoRoom => k_is)
      (case mc_Full_NoRoom => k_is)
      (case md_Full_NoRoom => k_is)
      (case me_Full_NoRoom => k_is)
      (case mf_Full_NoRoom => k_is)
      (case ma_NoMark_NoRoom => k_is)
      (case mb_NoMark_NoRoom => k_is)
      (case mc_NoMark_NoRoom => k_is)
      (case md_NoMark_NoRoom => k_is)
      (case me_NoMark_NoRoom => k_is)
      (case mf_NoMark_NoRoom => k_is)
      (case ma_NoName_NoRoom => k_is)
      (case mb_NoName_NoRoom => k_is)
      (case mc_NoName_NoRoom => k_is)
      (case md_NoName_NoRoom => k_is)
      (case me_NoName_NoRoom => k_is)
      (case mf_NoName_NoRoom => k_is)
      (case ma_Taken_NoRoom => k_is)
      (case mb_Taken_NoRoom => k_is)
      (case mc_Taken_NoRoom => k_is)
      (case md_Taken_NoRoom => k_is)
      (case me_Taken_NoRoom => k_is)
      (case mf_Taken_NoRoom => k_is)
      (case ma_Busy_NoRoom => k_is)
      (case mb_Busy_NoRoom => k_is)
      (case mc_Busy_NoRoom => k_is)
      (case md_Busy_NoRoom => k_is)
      (case me_Busy_NoRoom => k_is)
      (case mf_Busy_NoRoom => k_is)
      (case ma_NoText_NoRoom => k_is)
      (case mb_NoText_NoRoom => k_is)
      (case mc_NoText_NoRoom => k_is)
      (case md_NoText_NoRoom => k_is)
      (case me_NoText_NoRoom => k_is)
      (case mf_NoText_NoRoom => k_is)
      (case ma_NoLine_NoRoom => k_is)
      (case mb_NoLine_NoRoom => k_is)
      (case mc_NoLine_NoRoom => k_is)
      (case md_NoLine_NoRoom => k_is)
      (case me_NoLine_NoRoom => k_is)
      (case mf_NoLine_NoRoom => k_is)
      (case ma_NoSize_NoThing => k_is)
      (case mb_NoSize_NoThing => k_is)
      (case mc_NoSize_NoThing => k_is)
      (case md_NoSize_NoThing => k_is)
      (case me_NoSize_NoThing => k_is)
      (case mf_NoSize_NoThing => k_is)
      (case ma_NoKey_NoThing => k_is)
      (case mb_NoKey_NoThing => k_is)
      (case mc_NoKey_NoThing => k_is)
      (case md_NoKey_NoThing => k_is)
      (case me_NoKey_NoThing => k_is)
      (case mf_NoKey_NoThing => k_is)
      (case ma_NoRoom_NoThing => k_is)
      (case mb_NoRoom_NoThing => k_is)
      (case mc_NoRoom_NoThing => k_is)
      (case md_NoRoom_NoThing => k_is)
      (case me_NoRoom_NoThing => k_is)
      (case mf_NoRoom_NoThing => k_is)
      (case ma_Lacking_NoThing => k_is)
      (case mb_Lacking_NoThing => k_is)
      (case mc_Lacking_NoThing => k_is)
      (case md_Lacking_NoThing => k_is)
      (case me_Lacking_NoThing => k_is)
      (case mf_Lacking_NoThing => k_is)
      (case ma_Full_NoThing => k_is)
      (case mb_Full_NoThing => k_is)
      (case mc_Full_NoThing => k_is)
      (case md_Full_NoThing => k_is)
      (case me_Full_NoThing => k_is)
      (case mf_Full_NoThing => k_is)
      (case ma_NoMark_NoThing => k_is)
      (case mb_NoMark_NoThing => k_is)
      (case mc_NoMark_NoThing => k_is)
      (case md_NoMark_NoThing => k_is)
      (case me_NoMark_NoThing => k_is)
      (case mf_NoMark_NoThing => k_is)
      (case ma_NoName_NoThing => k_is)
      (case mb_NoName_NoThing => k_is)
      (case mc_NoName_NoThing => k_is)
      (case md_NoName_NoThing => k_is)
      (case me_NoName_NoThing => k_is)
      (case mf_NoName_NoThing => k_is)
      (case ma_Taken_NoThing => k_is)
      (case mb_Taken_NoThing => k_is)
      (case mc_Taken_NoThing => k_is)
      (case md_Taken_NoThing => k_is)
      (case me_Taken_NoThing => k_is)
      (case mf_Taken_NoThing => k_is)
      (case ma_Busy_NoThing => k_is)
      (case mb_Busy_NoThing => k_is)
      (case mc_Busy_NoThing => k_is)
      (case md_Busy_NoThing => k_is)
      (case me_Busy_NoThing => k_is)
      (case mf_Busy_NoThing => k_is)
      (case ma_NoText_NoThing => k_is)
      (case mb_NoText_NoThing => k_is)
      (case mc_NoText_NoThing => k_is)
      (case md_NoText_NoThing => k_is)
      (case me_NoText_NoThing => k_is)
      (case mf_NoText_NoThing => k_is)
      (case ma_NoLine_NoThing => k_is)
      (case mb_NoLine_NoThing => k_is)
      (case mc_NoLine_NoThing => k_is)
      (case md_NoLine_NoThing => k_is)
      (case me_NoLine_NoThing => k_is)
      (case mf_NoLine_NoThing => k_is)
      (case ma_NoKey_NoSize => k_is)
      (case mb_NoKey_NoSize => k_is)
      (case mc_NoKey_NoSize => k_is)
      (case md_NoKey_NoSize => k_is)
      (case me_NoKey_NoSize => k_is)
      (case mf_NoKey_NoSize => k_is)
      (case ma_NoThing_NoSize => k_is)
      (case mb_NoThing_NoSize => k_is)
      (case mc_NoThing_NoSize => k_is)
      (case md_NoThing_NoSize => k_is)
      (case me_NoThing_NoSize => k_is)
      (case mf_NoThing_NoSize => k_is)
      (case ma_NoRoom_NoSize => k_is)
      (case mb_NoRoom_NoSize => k_is)
      (case mc_NoRoom_NoSize => k_is)
      (case md_NoRoom_NoSize => k_is)
      (case me_NoRoom_NoSize => k_is)
      (case mf_NoRoom_NoSize => k_is)
      (case ma_Lacking_NoSize => k_is)
      (case mb_Lacking_NoSize => k_is)
      (case mc_Lacking_NoSize => k_is)
      (case md_Lacking_NoSize => k_is)
      (case me_Lacking_NoSize => k_is)
      (case mf_Lacking_NoSize => k_is)
      (case ma_Full_NoSize => k_is)
      (case mb_Full_NoSize => k_is)
      (case mc_Full_NoSize => k_is)
      (case md_Full_NoSize => k_is)
      (case me_Full_NoSize => k_is)
      (case mf_Full_NoSize => k_is)
      (case ma_NoMark_NoSize => k_is)
      (case mb_NoMark_NoSize => k_is)
      (case mc_NoMark_NoSize => k_is)
      (case md_NoMark_NoSize => k_is)
      (case me_NoMark_NoSize => k_is)
      (case mf_NoMark_NoSize => k_is)
      (case ma_NoName_NoSize => k_is)
      (case mb_NoName_NoSize => k_is)
      (case mc_NoName_NoSize => k_is)
      (case md_NoName_NoSize => k_is)
      (case me_NoName_NoSize => k_is)
      (case mf_NoName_NoSize => k_is)
      (case ma_Taken_NoSize => k_is)
      (case mb_Taken_NoSize => k_is)
      (case mc_Taken_NoSize => k_is)
      (case md_Taken_NoSize => k_is)
      (case me_Taken_NoSize => k_is)
      (case mf_Taken_NoSize => k_is)
      (case ma_Busy_NoSize => k_is)
      (case mb_Busy_NoSize => k_is)
      (case mc_Busy_NoSize => k_is)
      (case md_Busy_NoSize => k_is)
      (case me_Busy_NoSize => k_is)
      (case mf_Busy_NoSize => k_is)
      (case ma_NoText_NoSize => k_is)
      (case mb_NoText_NoSize => k_is)
      (case mc_NoText_NoSize => k_is)
      (case md_NoText_NoSize => k_is)
      (case me_NoText_NoSize => k_is)
      (case mf_NoText_NoSize => k_is)
      (case ma_NoLine_NoSize => k_is)
      (case mb_NoLine_NoSize => k_is)
      (case mc_NoLine_NoSize => k_is)
      (case md_NoLine_NoSize => k_is)
      (case me_NoLine_NoSize => k_is)
      (case mf_NoLine_NoSize => k_is)
      (case ba_Busy => k_is)
      (case bb_Busy => first | k_is | k_exc | (unfold bmVE; k_exc))
      (case bc_Busy => k_is)
      (case bd_Busy => k_is)
      (case be_Busy => k_is)
      (case ba_NoLine => k_is)
      (case bb_NoLine => first | k_is | k_exc | (unfold bmVE; k_exc))
      (case bc_NoLine => k_is)
      (case bd_NoLine => k_is)
      (case be_NoLine => k_is)
      (case ba_NoText => k_is)
      (case bb_NoText => first | k_is | k_exc | (unfold bmVE; k_exc))
      (case bc_NoText => k_is)
      (case bd_NoText => k_is)
      (case be_NoText => k_is)

    have F0 : TR.ExAt (L2.KOf KX) "Taken" "Taken.__init__" Lw.s_Taken___init ["self", "name"] := by
      refine' TR.exAt_mk KX (x := "Taken") (q := "Taken.__init__") (st := Lw.s_Taken___init) (ps := ["self", "name"]) ?aC ?a ?l ?c ?t ?k (fun _ _ _ _ _ _ us hl => match us, hl with | [_, _], _ => rfl)
      (case aC => k_is); (case a => k_is); (case l => k_is); (case c => k_is); (case t => k_is); (case k => k_is)

    have T0 : TR.ExF (L2.KOf KX) mg "Taken" "name" := by
      refine' TR.exF_mk KX G ?aC ?l ?r ?sa ?eC ?tC ?kC ?n
      (case aC => k_is); (case l => k_is); (case r => decide +kernel); (case sa => k_is); (case eC => k_is); (case tC => k_is); (case kC => k_is); (case n => k_is)

    have F1 : TR.ExAt (L2.KOf KX) "NoKey" "NoKey.__init__" Lw.s_NoKey___init ["self", "key"] := by
      refine' TR.exAt_mk KX (x := "NoKey") (q := "NoKey.__init__") (st := Lw.s_NoKey___init) (ps := ["self", "key"]) ?aC ?a ?l ?c ?t ?k (fun _ _ _ _ _ _ us hl => match us, hl with | [_, _], _ => rfl)
      (case aC => k_is); (case a => k_is); (case l => k_is); (case c => k_is); (case t => k_is); (case k => k_is)

    have T1 : TR.ExF (L2.KOf KX) mg "NoKey" "key" := by
      refine' TR.exF_mk KX G ?aC ?l ?r ?sa ?eC ?tC ?kC ?n
      (case aC => k_is); (case l => k_is); (case r => decide +kernel); (case sa => k_is); (case eC => k_is); (case tC => k_is); (case kC => k_is); (case n => k_is)

    have F2 : TR.FunAt (L2.KOf KX) mg "_law_flags" Lw.s_law_flags ["_law_e"] := by
      refine' TR.funAt_mk KX G (x := "_law_flags") (st := Lw.s_law_flags) (ps := ["_law_e"]) ?a ?l ?c ?k (fun _ _ _ _ _ _ us hl => match us, hl with | [_], _ => rfl)
      (case a => k_is); (case l => k_is); (case c => k_is); (case k => k_is)

    have F3 : TR.FunAt (L2.KOf KX) mg "_law_taken" Lw.s_law_taken ["_law_k", "_law_thing_here"] := by
      refine' TR.funAt_mk KX G (x := "_law_taken") (st := Lw.s_law_taken) (ps := ["_law_k", "_law_thing_here"]) ?a ?l ?c ?k (fun _ _ _ _ _ _ us hl => match us, hl with | [_, _], _ => rfl)
      (case a => k_is); (case l => k_is); (case c => k_is); (case k => k_is)

    have F4 : TR.FunAt (L2.KOf KX) mg "_law_same" Lw.s_law_same ["_law_one", "_law_other"] := by
      refine' TR.funAt_mk KX G (x := "_law_same") (st := Lw.s_law_same) (ps := ["_law_one", "_law_other"]) ?a ?l ?c ?k (fun _ _ _ _ _ _ us hl => match us, hl with | [_, _], _ => rfl)
      (case a => k_is); (case l => k_is); (case c => k_is); (case k => k_is)

    have F5 : TR.FunAt (L2.KOf KX) mg "_law_values" Lw.s_law_values ["_law_made_here"] := by
      refine' TR.funAt_mk KX G (x := "_law_values") (st := Lw.s_law_values) (ps := ["_law_made_here"]) ?a ?l ?c ?k (fun _ _ _ _ _ _ us hl => match us, hl with | [_], _ => rfl)
      (case a => k_is); (case l => k_is); (case c => k_is); (case k => k_is)

    have F6 : TR.ExAt (L2.KOf KX) "NoName" "NoName.__init__" Lw.s_NoName___init ["self", "name"] := by
      refine' TR.exAt_mk KX (x := "NoName") (q := "NoName.__init__") (st := Lw.s_NoName___init) (ps := ["self", "name"]) ?aC ?a ?l ?c ?t ?k (fun _ _ _ _ _ _ us hl => match us, hl with | [_, _], _ => rfl)
      (case aC => k_is); (case a => k_is); (case l => k_is); (case c => k_is); (case t => k_is); (case k => k_is)

    have T6 : TR.ExF (L2.KOf KX) mg "NoName" "name" := by
      refine' TR.exF_mk KX G ?aC ?l ?r ?sa ?eC ?tC ?kC ?n
      (case aC => k_is); (case l => k_is); (case r => decide +kernel); (case sa => k_is); (case eC => k_is); (case tC => k_is); (case kC => k_is); (case n => k_is)

    have F7 : TR.ExAt (L2.KOf KX) "NoMark" "NoMark.__init__" Lw.s_NoMark___init ["self", "mark"] := by
      refine' TR.exAt_mk KX (x := "NoMark") (q := "NoMark.__init__") (st := Lw.s_NoMark___init) (ps := ["self", "mark"]) ?aC ?a ?l ?c ?t ?k (fun _ _ _ _ _ _ us hl => match us, hl with | [_, _], _ => rfl)
      (case aC => k_is); (case a => k_is); (case l => k_is); (case c => k_is); (case t => k_is); (case k => k_is)

    have T7 : TR.ExF (L2.KOf KX) mg "NoMark" "mark" := by
      refine' TR.exF_mk KX G ?aC ?l ?r ?sa ?eC ?tC ?kC ?n
      (case aC => k_is); (case l => k_is); (case r => decide +kernel); (case sa => k_is); (case eC => k_is); (case tC => k_is); (case kC => k_is); (case n => k_is)

    have F8 : TR.ExAt (L2.KOf KX) "Full" "Full.__init__" Lw.s_Full___init ["self", "many"] := by
      refine' TR.exAt_mk KX (x := "Full") (q := "Full.__init__") (st := Lw.s_Full___init) (ps := ["self", "many"]) ?aC ?a ?l ?c ?t ?k (fun _ _ _ _ _ _ us hl => match us, hl with | [_, _], _ => rfl)
      (case aC => k_is); (case a => k_is); (case l => k_is); (case c => k_is); (case t => k_is); (case k => k_is)

    have T8 : TR.ExF (L2.KOf KX) mg "Full" "many" := by
      refine' TR.exF_mk KX G ?aC ?l ?r ?sa ?eC ?tC ?kC ?n
      (case aC => k_is); (case l => k_is); (case r => decide +kernel); (case sa => k_is); (case eC => k_is); (case tC => k_is); (case kC => k_is); (case n => k_is)

    have F9 : TR.ExAt (L2.KOf KX) "Lacking" "Lacking.__init__" Lw.s_Lacking___init ["self", "key"] := by
      refine' TR.exAt_mk KX (x := "Lacking") (q := "Lacking.__init__") (st := Lw.s_Lacking___init) (ps := ["self", "key"]) ?aC ?a ?l ?c ?t ?k (fun _ _ _ _ _ _ us hl => match us, hl with | [_, _], _ => rfl)
      (case aC => k_is); (case a => k_is); (case l => k_is); (case c => k_is); (case t => k_is); (case k => k_is)

    have T9 : TR.ExF (L2.KOf KX) mg "Lacking" "key" := by
      refine' TR.exF_mk KX G ?aC ?l ?r ?sa ?eC ?tC ?kC ?n
      (case aC => k_is); (case l => k_is); (case r => decide +kernel); (case sa => k_is); (case eC => k_is); (case tC => k_is); (case kC => k_is); (case n => k_is)

    have F10 : TR.ExAt (L2.KOf KX) "NoRoom" "NoRoom.__init__" Lw.s_NoRoom___init ["self", "number"] := by
      refine' TR.exAt_mk KX (x := "NoRoom") (q := "NoRoom.__init__") (st := Lw.s_NoRoom___init) (ps := ["self", "number"]) ?aC ?a ?l ?c ?t ?k (fun _ _ _ _ _ _ us hl => match us, hl with | [_, _], _ => rfl)
      (case aC => k_is); (case a => k_is); (case l => k_is); (case c => k_is); (case t => k_is); (case k => k_is)

    have T10 : TR.ExF (L2.KOf KX) mg "NoRoom" "number" := by
      refine' TR.exF_mk KX G ?aC ?l ?r ?sa ?eC ?tC ?kC ?n
      (case aC => k_is); (case l => k_is); (case r => decide +kernel); (case sa => k_is); (case eC => k_is); (case tC => k_is); (case kC => k_is); (case n => k_is)

    have F11 : TR.ExAt (L2.KOf KX) "NoThing" "NoThing.__init__" Lw.s_NoThing___init ["self", "thing"] := by
      refine' TR.exAt_mk KX (x := "NoThing") (q := "NoThing.__init__") (st := Lw.s_NoThing___init) (ps := ["self", "thing"]) ?aC ?a ?l ?c ?t ?k (fun _ _ _ _ _ _ us hl => match us, hl with | [_, _], _ => rfl)
      (case aC => k_is); (case a => k_is); (case l => k_is); (case c => k_is); (case t => k_is); (case k => k_is)

    have T11 : TR.ExF (L2.KOf KX) mg "NoThing" "thing" := by
      refine' TR.exF_mk KX G ?aC ?l ?r ?sa ?eC ?tC ?kC ?n
      (case aC => k_is); (case l => k_is); (case r => decide +kernel); (case sa => k_is); (case eC => k_is); (case tC => k_is); (case kC => k_is); (case n => k_is)

    have F12 : TR.ExAt (L2.KOf KX) "NoSize" "NoSize.__init__" Lw.s_NoSize___init ["self", "thing"] := by
      refine' TR.exAt_mk KX (x := "NoSize") (q := "NoSize.__init__") (st := Lw.s_NoSize___init) (ps := ["self", "thing"]) ?aC ?a ?l ?c ?t ?k (fun _ _ _ _ _ _ us hl => match us, hl with | [_, _], _ => rfl)
      (case aC => k_is); (case a => k_is); (case l => k_is); (case c => k_is); (case t => k_is); (case k => k_is)

    have T12 : TR.ExF (L2.KOf KX) mg "NoSize" "thing" := by
      refine' TR.exF_mk KX G ?aC ?l ?r ?sa ?eC ?tC ?kC ?n
      (case aC => k_is); (case l => k_is); (case r => decide +kernel); (case sa => k_is); (case eC => k_is); (case tC => k_is); (case kC => k_is); (case n => k_is)

    have F13 : TR.FunAt (L2.KOf KX) mg "_law_made" Lw.s_law_made ["_law_some"] := by
      refine' TR.funAt_mk KX G (x := "_law_made") (st := Lw.s_law_made) (ps := ["_law_some"]) ?a ?l ?c ?k (fun _ _ _ _ _ _ us hl => match us, hl with | [_], _ => rfl)
      (case a => k_is); (case l => k_is); (case c => k_is); (case k => k_is)

    have F14 : TR.FunAt (L2.KOf KX) mg "_law_draw" Lw.s_law_draw ["_law_hand", "_law_many"] := by
      refine' TR.funAt_mk KX G (x := "_law_draw") (st := Lw.s_law_draw) (ps := ["_law_hand", "_law_many"]) ?a ?l ?c ?k (fun _ _ _ _ _ _ us hl => match us, hl with | [_, _], _ => rfl)
      (case a => k_is); (case l => k_is); (case c => k_is); (case k => k_is)

    have F15 : TR.FunAt (L2.KOf KX) mg "_law_far" Lw.s_law_far ["_law_hand", "_law_many"] := by
      refine' TR.funAt_mk KX G (x := "_law_far") (st := Lw.s_law_far) (ps := ["_law_hand", "_law_many"]) ?a ?l ?c ?k (fun _ _ _ _ _ _ us hl => match us, hl with | [_, _], _ => rfl)
      (case a => k_is); (case l => k_is); (case c => k_is); (case k => k_is)

    have F16 : TR.FunAt (L2.KOf KX) mg "_law_thing" Lw.s_law_thing ["_law_hand"] := by
      refine' TR.funAt_mk KX G (x := "_law_thing") (st := Lw.s_law_thing) (ps := ["_law_hand"]) ?a ?l ?c ?k (fun _ _ _ _ _ _ us hl => match us, hl with | [_], _ => rfl)
      (case a => k_is); (case l => k_is); (case c => k_is); (case k => k_is)

    have F17 : TR.FunAt (L2.KOf KX) mg "_law_open" Lw.s_law_open ["_law_script", "_law_place"] := by
      refine' TR.funAt_mk KX G (x := "_law_open") (st := Lw.s_law_open) (ps := ["_law_script", "_law_place"]) ?a ?l ?c ?k (fun _ _ _ _ _ _ us hl => match us, hl with | [_, _], _ => rfl)
      (case a => k_is); (case l => k_is); (case c => k_is); (case k => k_is)

    refine' TR.law_end (st := Lw.s_law) (x := "_law_script") KX G hmg ?a ?l ?c ?k (fun s v => .of_eq rfl) (fun base FF => ?b)
    (case a => k_is); (case l => k_is); (case c => k_is); (case k => k_is)

    case b =>

      have h0 := Lw.has_Taken___init (P := PySem.Challenge.rw_tailrooms_k18_refusals_apart.prog) (w := w) (base := base) zz T0 F0 

      have h1 := Lw.has_NoKey___init (P := PySem.Challenge.rw_tailrooms_k18_refusals_apart.prog) (w := w) (base := base) zz T1 F1 

      have h2 := Lw.has_law_flags (P := PySem.Challenge.rw_tailrooms_k18_refusals_apart.prog) (w := w) (base := base) zz F2 

      have v2 := Lw.hasv_law_flags (P := PySem.Challenge.rw_tailrooms_k18_refusals_apart.prog) (w := w) (base := base) zz F2

      have h3 := Lw.has_law_taken (P := PySem.Challenge.rw_tailrooms_k18_refusals_apart.prog) (w := w) (base := base) zz F3 h0 h1 v2

      have h4 := Lw.has_law_same (P := PySem.Challenge.rw_tailrooms_k18_refusals_apart.prog) (w := w) (base := base) zz F4 

      have h5 := Lw.has_law_values (P := PySem.Challenge.rw_tailrooms_k18_refusals_apart.prog) (w := w) (base := base) zz F5 

      have h6 := Lw.has_NoName___init (P := PySem.Challenge.rw_tailrooms_k18_refusals_apart.prog) (w := w) (base := base) zz T6 F6 

      have h7 := Lw.has_NoMark___init (P := PySem.Challenge.rw_tailrooms_k18_refusals_apart.prog) (w := w) (base := base) zz T7 F7 

      have h8 := Lw.has_Full___init (P := PySem.Challenge.rw_tailrooms_k18_refusals_apart.prog) (w := w) (base := base) zz T8 F8 

      have h9 := Lw.has_Lacking___init (P := PySem.Challenge.rw_tailrooms_k18_refusals_apart.prog) (w := w) (base := base) zz T9 F9 

      have h10 := Lw.has_NoRoom___init (P := PySem.Challenge.rw_tailrooms_k18_refusals_apart.prog) (w := w) (base := base) zz T10 F10 

      have h11 := Lw.has_NoThing___init (P := PySem.Challenge.rw_tailrooms_k18_refusals_apart.prog) (w := w) (base := base) zz T11 F11 

      have h12 := Lw.has_NoSize___init (P := PySem.Challenge.rw_tailrooms_k18_refusals_apart.prog) (w := w) (base := base) zz T12 F12 

      have h13 := Lw.has_law_made (P := PySem.Challenge.rw_tailrooms_k18_refusals_apart.prog) (w := w) (base := base) zz F13 h0 h6 h7 h8 h9 h10 h11 h1 h12

      have h14 := Lw.has_law_draw (P := PySem.Challenge.rw_tailrooms_k18_refusals_apart.prog) (w := w) (base := base) zz F14 

      have h15 := Lw.has_law_far (P := PySem.Challenge.rw_tailrooms_k18_refusals_apart.prog) (w := w) (base := base) zz F15 h14

      have h16 := Lw.has_law_thing (P := PySem.Challenge.rw_tailrooms_k18_refusals_apart.prog) (w := w) (base := base) zz F16 h14 h15

      have h17 := Lw.has_law_open (P := PySem.Challenge.rw_tailrooms_k18_refusals_apart.prog) (w := w) (base := base) zz F17 

      exact Lw.ok_law zz FF h3 h4 h5 h2 h13 h16 h17

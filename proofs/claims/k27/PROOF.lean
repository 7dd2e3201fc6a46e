import PyProof.Rows.All
import Wide.All
import OpenK.AllK
import Wide.FinOn
import HandS.ForMost
import HandS.Wide
import HandS.SortInts
import HandS.IsInst
import HandS.Conv
import HandS.Evl
import HandS.Style
import HandS.SortRule
import HandS.ForExc
import HandS.ExcInit
import HandS.ExcField
import HandS.TryMany
import HandS.Small
import HandS.Text
import PyProof.Rows.ChunkEnd
import HandS.DictTup
import KE.KItemsList
import HandS.More
import PySem.Challenge.RW_tailrooms_k27_lists_changed_and_again
set_option Elab.async false
set_option linter.all false
set_option maxRecDepth 100000
set_option maxHeartbeats 4000000

/-! TR: joined rules, steps of a reading, the heap, the hand that is drawn from -/
noncomputable section
namespace TR
open PySem L2
open PySem.Spec PyProof.Rows

/-! ### joined rules -/
section
variable {X : Cx}
noncomputable def rPlus : R2 := fun x y H Q => (rI0 fun i j => .int (i + j)) x y H Q ∨ rCat x y H Q ∨
  (∃ i j, x = .str i ∧ y = .str j ∧ i.length + j.length ≤ sizeLine ∧ Q (.str (i ++ j)) H)
theorem op_plusA : OpR X (binaryOp .Add) rPlus := OpR.or op_add (OpR.or op_cat op_add_str)
noncomputable def rMult : R2 := fun x y H Q => (rI CMulW fun i j => .int (i * j)) x y H Q ∨ (rI CMul fun i j => .int (i * j)) x y H Q ∨ rRep x y H Q
theorem op_multA : OpR X (binaryOp .Mult) rMult := OpR.or op_mulW (OpR.or op_mul op_rep)
noncomputable def rEqA (K : PySem.W.Frag) : R2 := fun x y H Q => rEq x y H Q ∨ rEqD K x y H Q
noncomputable def rNeA (K : PySem.W.Frag) : R2 := fun x y H Q => rNe x y H Q ∨ rNeD K x y H Q
theorem op_eqA (hu : X.A.units + 64 < cLine) : OpR X (compareOp .Eq) (rEqA X.K) := OpR.or op_eq (op_eqD hu)
theorem op_neA (hu : X.A.units + 64 < cLine) : OpR X (compareOp .NotEq) (rNeA X.K) := OpR.or op_ne (op_neD hu)
theorem op_inA : OpR X (compareOp .In) (rIn X.K false) := op_in_seq
noncomputable def rLenS (K : PySem.W.Frag) : List V → Hp → VK → Prop := Evl.rLenS K
noncomputable def rLenT : List V → Hp → VK → Prop := fun xs H Q => ∃ z, xs = [.str z] ∧ z.length ≤ sizeLine ∧ Q (.int z.length) H
noncomputable def rLen (K : PySem.W.Frag) : List V → Hp → VK → Prop := fun xs H Q => rLenS K xs H Q ∨ rLenT xs H Q
theorem call_lenA : CallR X (.builtin "len") (rLen X.K) := CallR.or call_len_seq call_len_str
theorem cr_maxA (hc : X.calm = true) : CallR X (.builtin "max") (rMax X.K) := cr_max hc
noncomputable def rGetL (K : PySem.W.Frag) : R2 := fun x y H Q => ∃ p xs i v, x = .ref p ∧ y = .int i ∧ SqL K H p xs ∧ 0 ≤ i ∧ atI xs i = some v ∧ Q v H
theorem pget_list : PGet X (rGetL X.K) := by
  intro pins s σ H x0 y0 v u Q I rx ru hh
  obtain ⟨p, xs, i, z, ex, ei, hq, h0, he, q⟩ := hh
  subst ex
  subst ei
  cases rx
  obtain ⟨t, et⟩ := ru
  subst et
  obtain ⟨its, r, pl, _⟩ := I.list hq
  obtain ⟨j, h1, h2, h3, _, h5⟩ := atI_get he
  obtain ⟨y, ey, ry⟩ := r.get h2
  have hl := r.length
  have hn := line63
  rw [seqIndex_of h0 h5] at h1
  have hj : i.toNat = j := Option.some.inj h1
  exact wpAny_getItem_list pl.isList h0 (by omega) (by rw [hj]; simpa using ey) ⟨z, H, I, ry, q⟩
noncomputable def rIsNA : R2 := fun x y H Q => y = .non ∧ Q (.bl (decide (x = .non))) H
noncomputable def rNotNA : R2 := fun x y H Q => y = .non ∧ Q (.bl (!decide (x = .non))) H
noncomputable def rMax2 : List V → Hp → VK → Prop := fun xs H Q => ∃ i j, xs = [.int i, .int j] ∧ Q (.int (max i j)) H
noncomputable def rMin2 : List V → Hp → VK → Prop := fun xs H Q => ∃ i j, xs = [.int i, .int j] ∧ Q (.int (min i j)) H
noncomputable def rAbs : List V → Hp → VK → Prop := fun xs H Q => ∃ i, xs = [.int i] ∧ Q (.int (if i < 0 then -i else i)) H
theorem call_max2A (hc : X.calm = true) : CallR X (.builtin "max") rMax2 := by
  have e : rMax2 = fun xs H Q => ∃ i j, xs = [V.int i, V.int j] ∧ Q (.int (if j > i then j else i)) H := by
    funext xs H Q
    have e2 : ∀ i j : Int, max i j = if j > i then j else i := fun i j => by
      by_cases h : j > i
      · rw [if_pos h]
        omega
      · rw [if_neg h]
        omega
    show (∃ i j, xs = [V.int i, V.int j] ∧ Q (.int (max i j)) H) = _
    simp only [e2]
  rw [e]
  exact call_max2 hc
theorem call_absA : CallR X (.builtin "abs") rAbs := call_abs
noncomputable def rInt1 : List V → Hp → VK → Prop := fun xs H Q => (∃ i, xs = [.int i] ∧ Q (.int i) H) ∨ ∃ k, xs = [.bl k] ∧ Q (.int (if k then 1 else 0)) H
noncomputable def rList1 (K : PySem.W.Frag) : List V → Hp → VK → Prop := Evl.rListS K
theorem call_listA : CallR X (.type "list") (rList1 X.K) := call_list_of
end

/-! ### the same rules, the written part K named (they may stand in a comprehension's block) -/
section
variable {X : Cx} {K : PySem.W.Frag}
theorem ixA (hk : X.K = K) : IxR X (rIx K) := hk ▸ ix_seq
theorem slA (hk : X.K = K) : SlR X (rSlL K) := hk ▸ sl_list
theorem lenA (hk : X.K = K) : CallR X (.builtin "len") (rLen K) := hk ▸ call_lenA
theorem eqA (hk : X.K = K) (hu : X.A.units + 64 < cLine) : OpR X (compareOp .Eq) (rEqA K) := hk ▸ op_eqA hu
theorem neA (hk : X.K = K) (hu : X.A.units + 64 < cLine) : OpR X (compareOp .NotEq) (rNeA K) := hk ▸ op_neA hu
theorem inA (hk : X.K = K) : OpR X (compareOp .In) (rIn K false) := hk ▸ op_inA
theorem isiA (hk : X.K = K) : CallR X (.builtin "isinstance") (rIsi K) := hk ▸ call_isi
theorem maxA (hk : X.K = K) (hc : X.calm = true) : CallR X (.builtin "max") (rMax K) := hk ▸ cr_maxA hc
theorem sortA (hk : X.K = K) : CallR X (.builtin "sorted") (rSortedI K) := hk ▸ cr_sortedI
theorem listA (hk : X.K = K) : CallR X (.type "list") (rList1 K) := hk ▸ call_listA
theorem indexA (hk : X.K = K) : MtR X "list.index" (rIndex K) := hk ▸ mt_index
theorem getA (hk : X.K = K) : PGet X (rGetL K) := hk ▸ pget_list
theorem piL {tg l : Expr} {tl : TE} (hk : X.K = K) (hl : PE X l tl) : PI X tg l (iList K tl) := hk ▸ pi_list hl
end

/-! ### heaps -/
/-- all of H is there in H' -/
noncomputable abbrev Ex := Evl.Ex
/-- all of H but what stands at h -/
noncomputable def ExM (h : Addr) (H H' : Hp) : Prop := ∀ a o, a ≠ h → H a = some o → H' a = some o
theorem Ex.refl (H : Hp) : Ex H H := Evl.Ex.refl H
theorem Ex.trans {H G F : Hp} (a : Ex H G) (b : Ex G F) : Ex H F := Evl.Ex.trans a b
theorem Ex.new {H : Hp} {a : Addr} {u : HO} (h : H a = none) : Ex H (L2.upd H a u) := Evl.Ex.new h
theorem Ex.mut {H G : Hp} {a : Addr} {u : HO} (e : Ex H G) (h : H a = none) : Ex H (L2.upd G a u) := Evl.Ex.mut e h
theorem Ex.exm {Z H H' : Hp} {h : Addr} (e : Ex Z H) (hz : Z h = none) (m : ExM h H H') : Ex Z H' := fun a o ha => m a o (ne_of_none ha hz) (e a o ha)
theorem Ex.toM {H H' : Hp} {h : Addr} (e : Ex H H') : ExM h H H' := fun a o _ ha => e a o ha
theorem ExM.refl {h : Addr} (H : Hp) : ExM h H H := fun _ _ _ e => e
theorem ExM.trans {h : Addr} {H H1 H2 : Hp} (a : ExM h H H1) (b : ExM h H1 H2) : ExM h H H2 := fun x o n e => b x o n (a x o n e)
theorem ExM.upd {h : Addr} {H : Hp} {o : HO} : ExM h H (upd H h o) := fun a u n e => by
  rw [upd_ne n]
  exact e
/-- a heap without one object -/
noncomputable def cutH (H : Hp) (h : Addr) : Hp := fun b => if b = h then none else H b
theorem Ex.back {H H' : Hp} {p : Addr} (e : Ex H H') (h : H' p = none) : H p = none := by
  cases h1 : H p with
  | none => rfl
  | some o =>
    rw [e p o h1] at h
    cases h
theorem Ex.sq {K : PySem.W.Frag} {H G : Hp} {p : Addr} {ys : List V} (e : Ex H G) (h : SqL K H p ys) : SqL K G p ys := Evl.ex_l e h
theorem Ex.st {K : PySem.W.Frag} {H G : Hp} {p : Addr} {ys : List V} (e : Ex H G) (h : SqT K H p ys) : SqT K G p ys := Evl.ex_t e h
theorem sq_of {K : PySem.W.Frag} {H : Hp} {p : Addr} {ys : List V} (h : H p = some (.lst ys)) : SqL K H p ys := SqL.of h
theorem st_of {K : PySem.W.Frag} {H : Hp} {p : Addr} {ys : List V} (h : H p = some (.tup ys)) : SqT K H p ys := SqT.of h
theorem sz_of {m : Nat} (h : m ≤ 100000) : m ≤ sizeLine := Evl.sz_of h
theorem sz_lt {m : Nat} (h : m < 100000) : m < sizeLine := Evl.sz_lt h

/-! ### places, first -/
theorem atI_lt {α : Type} {xs : List α} {i : Int} {v : α} (h0 : 0 ≤ i) (h : xs[i.toNat]? = some v) : atI xs i = some v := by
  have e : ((i.toNat : Nat) : Int) = i := Int.toNat_of_nonneg h0
  have q := atI_nat (xs := xs) (j := i.toNat) h
  rw [e] at q
  exact q
/-! ### steps of a reading: each turns what is to be shown into what it asks next -/
section
variable {K : PySem.W.Frag} {σ : L2.St} {H : Hp} {ta tb tc te : TE} {t u : TT} {D : Ends} {Q : VK} {QB : Bool → Hp → Prop} {v x y : V} {p : Prop} {A B : Prop}
theorem s_var {i : Nat} (h : σ[i]? = some (some v)) (q : Q v H) : tVar i σ H Q := ⟨v, h, q⟩
theorem s_c (q : Q v H) : tC v σ H Q := q
theorem s_op {r : R2} (q : ta σ H fun x H1 => tb σ H1 fun y H2 => r x y H2 Q) : tOp r ta tb σ H Q := q
theorem s_un {r : V → Hp → VK → Prop} (q : ta σ H fun x H1 => r x H1 Q) : tUn r ta σ H Q := q
theorem s_I0 {g : Int → Int → V} {i j : Int} (q : Q (g i j) H) : rI0 g (.int i) (.int j) H Q := ⟨i, j, rfl, rfl, q⟩
theorem s_U {g : Int → V} {i : Int} (q : Q (g i) H) : rU g (.int i) H Q := ⟨i, rfl, q⟩
theorem s_plusI {i j : Int} (q : Q (.int (i + j)) H) : rPlus (.int i) (.int j) H Q := .inl ⟨i, j, rfl, rfl, q⟩
theorem s_mulL {i j : Int} (c : -(2 ^ 64) < i ∧ i < 2 ^ 64) (q : Q (.int (i * j)) H) : rMult (.int i) (.int j) H Q := .inr (.inl ⟨i, j, rfl, rfl, .inl c, q⟩)
theorem s_mulR {i j : Int} (c : -(2 ^ 64) < j ∧ j < 2 ^ 64) (q : Q (.int (i * j)) H) : rMult (.int i) (.int j) H Q := .inr (.inl ⟨i, j, rfl, rfl, .inr c, q⟩)
theorem s_div {i j : Int} {g : Int → Int → V} (h : 0 < j) (h2 : j < 2 ^ 63) (q : Q (g i j) H) : rI CDivW g (.int i) (.int j) H Q :=
  ⟨i, j, rfl, rfl, wide_div (b := 63) h (by have e : (2 : Int) ^ 63 = 9223372036854775808 := by decide
                                            have e2 : (2 : Nat) ^ 63 = 9223372036854775808 := by decide
                                            omega) (by decide) (by decide), q⟩
theorem s_mod {i j : Int} (h : 0 < j) (q : 0 ≤ i % j → i % j < j → Q (.int (i % j)) H) : rI (fun _ j => 0 < j) (fun i j => .int (i % j)) (.int i) (.int j) H Q := ⟨i, j, rfl, rfl, h, q (Int.emod_nonneg i (Int.ne_of_gt h)) (Int.emod_lt_of_pos i h)⟩
theorem s_pow2_56 (q : Q (.int 72057594037927936) H) : rI CPow (fun i j => .int (i ^ j.toNat)) (.int 2) (.int 56) H Q := ⟨2, 56, rfl, rfl, ⟨by decide, by decide, by decide⟩, by
  have e : (2 : Int) ^ Int.toNat 56 = 72057594037927936 := by decide
  show Q (.int ((2 : Int) ^ Int.toNat 56)) H
  rw [e]
  exact q⟩
theorem s_pow2_60 (q : Q (.int 1152921504606846976) H) : rI CPow (fun i j => .int (i ^ j.toNat)) (.int 2) (.int 60) H Q := ⟨2, 60, rfl, rfl, ⟨by decide, by decide, by decide⟩, by
  have e : (2 : Int) ^ Int.toNat 60 = 1152921504606846976 := by decide
  show Q (.int ((2 : Int) ^ Int.toNat 60)) H
  rw [e]
  exact q⟩
theorem s_pow10_6 (q : Q (.int 1000000) H) : rI CPow (fun i j => .int (i ^ j.toNat)) (.int 10) (.int 6) H Q := ⟨10, 6, rfl, rfl, ⟨by decide, by decide, by decide⟩, by
  have e : (10 : Int) ^ Int.toNat 6 = 1000000 := by decide
  show Q (.int ((10 : Int) ^ Int.toNat 6)) H
  rw [e]
  exact q⟩
theorem s_pow10_18 (q : Q (.int 1000000000000000000) H) : rI CPow (fun i j => .int (i ^ j.toNat)) (.int 10) (.int 18) H Q := ⟨10, 18, rfl, rfl, ⟨by decide, by decide, by decide⟩, by
  have e : (10 : Int) ^ Int.toNat 18 = 1000000000000000000 := by decide
  show Q (.int ((10 : Int) ^ Int.toNat 18)) H
  rw [e]
  exact q⟩
theorem s_pow {i j : Int} {g : Int → Int → V} (h1 : 0 ≤ j ∧ j ≤ 1000) (h2 : i.natAbs < 2 ^ 64) (q : Q (g i j) H) : rI CPow g (.int i) (.int j) H Q := ⟨i, j, rfl, rfl, ⟨h1.1, by omega, h2⟩, q⟩
theorem s_eqI {a b : Int} (q : Q (.bl (decide (a = b))) H) : rEqA K (.int a) (.int b) H Q := .inl ⟨rfl, by
  have e : decide (V.int a = V.int b) = decide (a = b) := by rw [dec_int, Bool.beq_eq_decide_eq]
  rw [e]
  exact q⟩
theorem s_neD {d e : PyData} (h1 : Dp K H x d) (h2 : Dp K H y e) (s1 : SeqAt.shaped d = true) (s2 : SeqAt.shaped e = true) (q : Q (.bl (!PyData.eqv d e)) H) : rNeA K x y H Q := .inr ⟨d, e, h1, h2, s1, s2, q⟩
/-- subscripts -/
theorem s_ixL {a : Addr} {xs : List V} {i : Int} (h : SqL K H a xs) (e : atI xs i = some v) (q : Q v H) : rIx K (.ref a) (.int i) H Q := .inl ⟨a, xs, i, v, rfl, rfl, h, e, q⟩
theorem s_ixT {a : Addr} {xs : List V} {i : Int} (h : SqT K H a xs) (e : atI xs i = some v) (q : Q v H) : rIx K (.ref a) (.int i) H Q := .inr (.inl ⟨a, xs, i, v, rfl, rfl, h, e, q⟩)
theorem s_getL {a : Addr} {xs : List V} {i : Int} (h : SqL K H a xs) (h0 : 0 ≤ i) (e : atI xs i = some v) (q : Q v H) : rGetL K (.ref a) (.int i) H Q := ⟨a, xs, i, v, rfl, rfl, h, h0, e, q⟩
/-- tests -/
theorem s_test (q : te σ H fun x H' => ∃ k, x = .bl k ∧ QB k H') : tTest te σ H QB := q
theorem s_tB (q : te σ H fun x H' => ∃ k, x = .bl k ∧ QB k H') : tB te σ H QB := q
theorem s_bl {b : Bool} {R : Bool → Prop} (q : R b) : ∃ k, V.bl b = V.bl k ∧ R k := ⟨b, rfl, q⟩
theorem s_and (q : t σ H fun c H1 => if c = true then u σ H1 QB else QB false H1) : tAnd t u σ H QB := q
theorem s_or (q : t σ H fun c H1 => if c = true then QB true H1 else u σ H1 QB) : tOr t u σ H QB := q
theorem i_d [Decidable p] (h1 : p → A) (h2 : ¬ p → B) : if decide p = true then A else B := by
  by_cases h : p
  · rw [if_pos (decide_eq_true h)]
    exact h1 h
  · rw [if_neg (fun z => h (of_decide_eq_true z))]
    exact h2 h
theorem i_t (h : A) : if true = true then A else B := by
  rw [if_pos rfl]
  exact h
theorem i_f (h : B) : if false = true then A else B := by
  rw [if_neg Bool.false_ne_true]
  exact h
theorem i_nt (h : B) : if (!true) = true then A else B := i_f h
theorem i_df [Decidable p] (hp : ¬ p) (h : B) : if decide p = true then A else B := i_d (fun z => absurd z hp) (fun _ => h)
/-- calls, displays, slices -/
theorem s_nil {QA : List V → Hp → Prop} (q : QA [] H) : tNil σ H QA := q
theorem s_cons {tr : TA} {QA : List V → Hp → Prop} (q : ta σ H fun x H1 => tr σ H1 fun xs H2 => QA (x :: xs) H2) : tCons ta tr σ H QA := q
theorem s_call {sp : Sp} {E : XK} {tr : TA} (q : tr σ H fun vs H1 => sp vs H1 Q E) : tCall sp [] E tr σ H Q := by
  have e : (fun (vs : List V) H1 => sp (vs ++ []) H1 Q E) = fun vs H1 => sp vs H1 Q E := by
    funext vs H1
    rw [List.append_nil]
  show tr σ H fun vs H1 => sp (vs ++ []) H1 Q E
  rw [e]
  exact q
theorem s_CB {r : List V → Hp → VK → Prop} {tr : TA} (q : tr σ H fun vs H1 => r vs H1 Q) : tCB r tr σ H Q := q
noncomputable def NewL (xs : List V) (H : Hp) (Q : VK) : Prop := xs.length ≤ sizeLine ∧ ∀ p, H p = none → Q (.ref p) (upd H p (.lst xs))
noncomputable def NewT (xs : List V) (H : Hp) (Q : VK) : Prop := xs.length ≤ sizeLine ∧ ∀ p, H p = none → Q (.ref p) (upd H p (.tup xs))
noncomputable def NewRg (a b : Int) (H : Hp) (Q : VK) : Prop := RgOk a b ∧ ∀ p, H p = none → Q (.ref p) (upd H p (.lst (rgV a b)))
theorem s_lst {tr : TA} (q : tr σ H fun xs H1 => NewL xs H1 Q) : tLst tr σ H Q := q
theorem s_tup {tr : TA} (q : tr σ H fun xs H1 => NewT xs H1 Q) : tTup tr σ H Q := q
theorem s_lenM {α : Type} {f : α → V} {l : List α} {a : Addr} (h : SqL K H a (l.map f)) (q : Q (.int (l.length : Int)) H) : rLen K [.ref a] H Q := .inl ⟨a, _, rfl, .inl h, by rw [List.length_map]; exact q⟩
theorem s_ixI {l : List Int} {a : Addr} {i : Int} (h : SqL K H a (l.map V.int)) (h0 : 0 ≤ i ∧ i < l.length) (q : ∀ v, l[i.toNat]? = some v → Q (.int v) H) : rIx K (.ref a) (.int i) H Q := by
  have hl : i.toNat < l.length := by omega
  exact .inl ⟨a, _, i, _, rfl, rfl, h, atI_lt h0.1 (by rw [List.getElem?_map, List.getElem?_eq_getElem hl]; rfl), q _ (List.getElem?_eq_getElem hl)⟩
theorem s_ix3 {a : Addr} {x y z i : Int} (h : SqL K H a [.int x, .int y, .int z]) (h0 : 0 ≤ i ∧ i < 3) (q : ∀ v, (i = 0 ∧ v = x ∨ i = 1 ∧ v = y ∨ i = 2 ∧ v = z) → Q (.int v) H) : rIx K (.ref a) (.int i) H Q := by
  have : i = 0 ∨ i = 1 ∨ i = 2 := by omega
  rcases this with rfl | rfl | rfl
  · exact .inl ⟨a, _, 0, _, rfl, rfl, h, rfl, q _ (.inl ⟨rfl, rfl⟩)⟩
  · exact .inl ⟨a, _, 1, _, rfl, rfl, h, rfl, q _ (.inr (.inl ⟨rfl, rfl⟩))⟩
  · exact .inl ⟨a, _, 2, _, rfl, rfl, h, rfl, q _ (.inr (.inr ⟨rfl, rfl⟩))⟩
theorem s_sl {r : V → Option Int → Option Int → Hp → VK → Prop} {tl th : TO} (q : te σ H fun x H1 => tl σ H1 fun l H2 => th σ H2 fun u H3 => r x l u H3 Q) : tSl r te tl th σ H Q := q
theorem s_np {QO : Option Int → Hp → Prop} (q : QO none H) : tNoPart σ H QO := q
theorem s_part {QO : Option Int → Hp → Prop} (q : te σ H fun x H1 => ∃ i, x = .int i ∧ QO (some i) H1) : tPart te σ H QO := q
theorem s_int {i : Int} {R : Int → Prop} (q : R i) : ∃ k, V.int i = V.int k ∧ R k := ⟨i, rfl, q⟩
theorem s_BM {T : String} {r : V → List V → Hp → VK → Prop} {tr : TA} (q : ta σ H fun x H1 => tyV K T x H1 ∧ tr σ H1 fun xs H2 => r x xs H2 Q) : tBM K T r ta tr σ H Q := q
theorem s_tyL {a : Addr} {xs : List V} {R : Prop} (h : SqL K H a xs) (q : R) : tyV K "list" (.ref a) H ∧ R := ⟨Or.inl ⟨rfl, xs, h⟩, q⟩
/-- statements -/
theorem s_seq {t u : TS} (q : t { D with nx := u D } σ H) : tSeq t u D σ H := q
theorem s_cut {t u : TS} (Mid : L2.St → Hp → Prop) (h : t { D with nx := Mid } σ H) (q : ∀ σ' H', Mid σ' H' → u D σ' H') : Evl.tCut t u D σ H := ⟨Mid, h, q⟩
theorem s_next (q : D.nx σ H) : tNext D σ H := q
theorem s_drop (q : te σ H fun _ H1 => D.nx σ H1) : tDrop te D σ H := q
theorem s_ret (q : te σ H D.rt) : tRet te D σ H := q
theorem s_if {t u : TS} {c : TT} (q : c σ H fun b H1 => if b = true then t D σ H1 else u D σ H1) : tIfS c t u D σ H := q
theorem s_asg {g : TG} (q : te σ H fun x H1 => g x σ H1 D.nx) : tAsg te g D σ H := q
theorem s_gname {i : Nat} {R : L2.St → Hp → Prop} (q : R (σ.set i (some v)) H) : gName i v σ H R := q
theorem s_gsub {to ti : TE} {ts : TSet} {R : L2.St → Hp → Prop} (q : to σ H fun o H1 => ti σ H1 fun i H2 => ts o i v H2 fun H3 => R σ H3) : gSub to ti ts v σ H R := q
theorem s_aug {i : Nat} {ti : TIp} (h : σ[i]? = some (some x)) (q : te σ H fun y H1 => ti x y H1 fun z H2 => D.nx (σ.set i (some z)) H2) : tAug i te ti D σ H := ⟨x, h, q⟩
theorem s_ipI {f : Int → Int → Int} {i j : Int} (q : Q (.int (f i j)) H) : ipI f (.int i) (.int j) H Q := ⟨i, j, rfl, rfl, q⟩
theorem s_augS {to ti : TE} {tget : V → V → Hp → VK → Prop} {tip : TIp} {tset : TSet}
    (q : to σ H fun o H1 => ti σ H1 fun i H2 => tget o i H2 fun x H3 => te σ H3 fun y H4 => tip x y H4 fun z H5 => tset o i z H5 fun H6 => D.nx σ H6) : tAugS to ti te tget tip tset D σ H := q
theorem s_max2 {i j : Int} (q : Q (.int (max i j)) H) : rMax2 [.int i, .int j] H Q := ⟨i, j, rfl, q⟩
theorem s_abs {i : Int} (q : Q (.int (if i < 0 then -i else i)) H) : rAbs [.int i] H Q := ⟨i, rfl, q⟩
theorem s_isiI {n : String} {i : Int} {b : Bool} (h : kitB "int" n = some b) (q : Q (.bl b) H) : rIsi K [.int i, .ty n] H Q := ⟨.int i, .ty n, _, _, b, rfl, .ty n, .base (.int i), kit_ty h, q⟩
theorem s_isiB {n : String} {i : Bool} {b : Bool} (h : kitB "bool" n = some b) (q : Q (.bl b) H) : rIsi K [.bl i, .ty n] H Q := ⟨.bl i, .ty n, _, _, b, rfl, .ty n, .base (.bl i), kit_ty h, q⟩
theorem s_isiS {n : String} {i : Str} {b : Bool} (h : kitB "str" n = some b) (q : Q (.bl b) H) : rIsi K [.str i, .ty n] H Q := ⟨.str i, .ty n, _, _, b, rfl, .ty n, .base (.str i), kit_ty h, q⟩
theorem s_isiN {n : String} {b : Bool} (h : kitB "NoneType" n = some b) (q : Q (.bl b) H) : rIsi K [.non, .ty n] H Q := ⟨.non, .ty n, _, _, b, rfl, .ty n, .base .non, kit_ty h, q⟩
theorem ty_sq {a : Addr} {xs : List V} (h : SqL K H a xs) : TyX K H (.ref a) (.type "list") := by
  rcases h with (h | ⟨o, h⟩) | ⟨o, its, n, hk, hc, _⟩
  · exact .base (.lst h)
  · exact .base (.frz h)
  · exact .kList hk hc
theorem ty_st {a : Addr} {xs : List V} (h : SqT K H a xs) : TyX K H (.ref a) (.type "tuple") := by
  rcases h with (h | ⟨o, h⟩) | ⟨o, its, n, hk, hc, _⟩
  · exact .base (.tup h)
  · exact .fTuple h
  · exact .kTuple hk hc
theorem s_isiL {n : String} {a : Addr} {xs : List V} {b : Bool} (hs : SqL K H a xs) (h : kitB "list" n = some b) (q : Q (.bl b) H) : rIsi K [.ref a, .ty n] H Q := ⟨.ref a, .ty n, _, _, b, rfl, .ty n, ty_sq hs, kit_ty h, q⟩
theorem s_isiT {n : String} {a : Addr} {xs : List V} {b : Bool} (hs : SqT K H a xs) (h : kitB "tuple" n = some b) (q : Q (.bl b) H) : rIsi K [.ref a, .ty n] H Q := ⟨.ref a, .ty n, _, _, b, rfl, .ty n, ty_st hs, kit_ty h, q⟩
theorem k_ii : kitB "int" "int" = some true := by decide +kernel
theorem k_is : kitB "int" "str" = some false := by decide +kernel
end

section
variable {K : PySem.W.Frag} {σ : L2.St} {H : Hp} {ta tb tl te : TE} {tt : TT} {D : Ends} {Q : VK} {g : TG} {ts : TS} {vs : List Nat}
theorem s_wp {A B : L2.St} {R : Prop} (h : wipe A vs = wipe B vs) (q : R) : wipe A vs = wipe B vs ∧ R := ⟨h, q⟩
/-! lists of a range -/
/-! loops: what a for asks, and how it is answered by an invariant -/
noncomputable def ForJ (g : TG) (tb : TS) (D : Ends) (σ : L2.St) (J : It) (H1 : Hp) : Prop := tFor (fun _ H R => R J H) g tb D σ H1
noncomputable def ForL (K : PySem.W.Frag) (g : TG) (tb : TS) (D : Ends) (σ : L2.St) (x : V) (H1 : Hp) : Prop := ∃ a, x = .ref a ∧ (∃ xs, SqL K H1 a xs) ∧ ForJ g tb D σ (Itl K a) H1
noncomputable def ForT (K : PySem.W.Frag) (g : TG) (tb : TS) (D : Ends) (σ : L2.St) (x : V) (H1 : Hp) : Prop := ∃ a, x = .ref a ∧ (∃ xs, SqT K H1 a xs) ∧ ForJ g tb D σ (Itt K a) H1
noncomputable def ForR1 (g : TG) (tb : TS) (D : Ends) (σ : L2.St) (vs : List V) (H1 : Hp) : Prop := ∃ j : Int, vs = [.int j] ∧ -(2 ^ 62) ≤ j ∧ j < 2 ^ 62 ∧ ForJ g tb D σ (Itr 0 j.toNat) H1
noncomputable def ForR2 (g : TG) (tb : TS) (D : Ends) (σ : L2.St) (vs : List V) (H1 : Hp) : Prop := ∃ i j : Int, vs = [.int i, .int j] ∧ (-(2 ^ 62) ≤ i ∧ i < 2 ^ 62 ∧ -(2 ^ 62) ≤ j ∧ j < 2 ^ 62) ∧ ForJ g tb D σ (Itr i (j - i).toNat) H1
noncomputable def ForE (K : PySem.W.Frag) (g : TG) (tb : TS) (D : Ends) (σ : L2.St) (vs : List V) (H1 : Hp) : Prop := ∃ a xs, vs = [.ref a] ∧ SqL K H1 a xs ∧ ForJ g tb D σ (Ite K a) H1
noncomputable def ForZ (K : PySem.W.Frag) (g : TG) (tb : TS) (D : Ends) (σ : L2.St) (vs : List V) (H1 : Hp) : Prop := ∃ a b xs ys, vs = [.ref a, .ref b] ∧ SqL K H1 a xs ∧ SqL K H1 b ys ∧ ForJ g tb D σ (Itz K a b) H1
noncomputable def ForS (g : TG) (tb : TS) (D : Ends) (σ : L2.St) (v : V) (H1 : Hp) : Prop := ∃ x, v = .str x ∧ ForJ g tb D σ (Its x) H1
theorem s_forL (q : tl σ H fun x H1 => ForL K g ts D σ x H1) : tFor (iList K tl) g ts D σ H := q
theorem s_forR1 {ta : TA} (q : ta σ H fun x H1 => ForR1 g ts D σ x H1) : tFor (iRng1 ta) g ts D σ H := q
theorem s_forR2 {ta : TA} (q : ta σ H fun x H1 => ForR2 g ts D σ x H1) : tFor (iRng2 ta) g ts D σ H := q
theorem u_forL {a : Addr} {xs : List V} (Pv : Nat → L2.St → Hp → Prop) (h : SqL K H a xs) (h0 : Pv 0 σ H) (hl : ∀ i σ H, i ≤ xs.length → Pv i σ H → SqL K H a xs)
    (hs : ∀ i x σ H, xs[i]? = some x → Pv i σ H → g x σ H fun σ2 H2 => ts { D with nx := Pv (i + 1), ct := Pv (i + 1), bk := D.nx } σ2 H2) (hd : ∀ σ H, Pv xs.length σ H → D.nx σ H) : ForL K g ts D σ (.ref a) H :=
  ⟨a, rfl, ⟨xs, h⟩, for_list Pv h0 hl hs hd⟩
theorem u_forR1 {n : Int} (Pv : Nat → L2.St → Hp → Prop) (hn : -1000000000000 ≤ n ∧ n ≤ 1000000000000) (h0 : Pv 0 σ H)
    (hs : ∀ (i : Nat) σ H, (i : Int) < n → Pv i σ H → g (.int (i : Int)) σ H fun σ2 H2 => ts { D with nx := Pv (i + 1), ct := Pv (i + 1), bk := D.nx } σ2 H2) (hd : ∀ σ H, Pv n.toNat σ H → D.nx σ H) : ForR1 g ts D σ [.int n] H := by
  have e62 : (2 : Int) ^ 62 = 4611686018427387904 := by decide
  refine ⟨n, rfl, by omega, by omega, for_range (lo := 0) (n := n.toNat) Pv h0 (fun i σ H hi p => ?_) hd⟩
  have e : (0 : Int) + (i : Int) = (i : Int) := Int.zero_add _
  rw [e]
  exact hs i σ H (by omega) p
theorem u_forR2 {lo n : Int} (Pv : Nat → L2.St → Hp → Prop) (hn : -1000000000000 ≤ lo ∧ lo ≤ 1000000000000 ∧ -1000000000000 ≤ n ∧ n ≤ 1000000000000) (h0 : Pv 0 σ H)
    (hs : ∀ (i : Nat) σ H, lo + (i : Int) < n → Pv i σ H → g (.int (lo + (i : Int))) σ H fun σ2 H2 => ts { D with nx := Pv (i + 1), ct := Pv (i + 1), bk := D.nx } σ2 H2) (hd : ∀ σ H, Pv (n - lo).toNat σ H → D.nx σ H) : ForR2 g ts D σ [.int lo, .int n] H := by
  have e62 : (2 : Int) ^ 62 = 4611686018427387904 := by decide
  exact ⟨lo, n, rfl, ⟨by omega, by omega, by omega, by omega⟩, for_range (lo := lo) (n := (n - lo).toNat) Pv h0 (fun i σ H hi p => hs i σ H (by omega) p) hd⟩
theorem u_while {c : TT} (Pv : Nat → L2.St → Hp → Prop) (m0 : Nat) (h0 : Pv m0 σ H)
    (hs : ∀ m σ H, Pv m σ H → c σ H fun b H1 => if b = true then ∃ N : L2.St → Hp → Prop, (∀ σ' H', N σ' H' → ∃ m', m' < m ∧ Pv m' σ' H') ∧ ts { D with nx := N, ct := N, bk := D.nx } σ H1 else D.nx σ H1) : tWhile c ts D σ H := ⟨Pv, ⟨m0, h0⟩, hs⟩
theorem w_body {m : Nat} {Pv : Nat → L2.St → Hp → Prop} {rt : VK} {bk : L2.St → Hp → Prop} (q : ts ⟨fun σ' H' => ∃ m', m' < m ∧ Pv m' σ' H', rt, bk, fun σ' H' => ∃ m', m' < m ∧ Pv m' σ' H'⟩ σ H) :
    ∃ N : L2.St → Hp → Prop, (∀ σ' H', N σ' H' → ∃ m', m' < m ∧ Pv m' σ' H') ∧ ts ⟨N, rt, bk, N⟩ σ H := ⟨_, fun _ _ h => h, q⟩
/-! comprehensions -/
noncomputable def LcJ (g : TG) (tt : TT) (te : TE) (vs : List Nat) (σ : L2.St) (J : It) (H1 : Hp) (Q : VK) : Prop := tLc (fun _ H R => R J H) g tt te vs σ H1 Q
noncomputable def LcL (K : PySem.W.Frag) (g : TG) (tt : TT) (te : TE) (vs : List Nat) (σ : L2.St) (x : V) (H1 : Hp) (Q : VK) : Prop := ∃ a, x = .ref a ∧ (∃ xs, SqL K H1 a xs) ∧ LcJ g tt te vs σ (Itl K a) H1 Q
noncomputable def LcT (K : PySem.W.Frag) (g : TG) (tt : TT) (te : TE) (vs : List Nat) (σ : L2.St) (x : V) (H1 : Hp) (Q : VK) : Prop := ∃ a, x = .ref a ∧ (∃ xs, SqT K H1 a xs) ∧ LcJ g tt te vs σ (Itt K a) H1 Q
noncomputable def LcR1 (g : TG) (tt : TT) (te : TE) (vs : List Nat) (σ : L2.St) (x : List V) (H1 : Hp) (Q : VK) : Prop := ∃ j : Int, x = [.int j] ∧ -(2 ^ 62) ≤ j ∧ j < 2 ^ 62 ∧ LcJ g tt te vs σ (Itr 0 j.toNat) H1 Q
noncomputable def LcR2 (g : TG) (tt : TT) (te : TE) (vs : List Nat) (σ : L2.St) (x : List V) (H1 : Hp) (Q : VK) : Prop := ∃ i j : Int, x = [.int i, .int j] ∧ (-(2 ^ 62) ≤ i ∧ i < 2 ^ 62 ∧ -(2 ^ 62) ≤ j ∧ j < 2 ^ 62) ∧ LcJ g tt te vs σ (Itr i (j - i).toNat) H1 Q
noncomputable def LcE (K : PySem.W.Frag) (g : TG) (tt : TT) (te : TE) (vs : List Nat) (σ : L2.St) (x : List V) (H1 : Hp) (Q : VK) : Prop := ∃ a xs, x = [.ref a] ∧ SqL K H1 a xs ∧ LcJ g tt te vs σ (Ite K a) H1 Q
noncomputable def LcZ (K : PySem.W.Frag) (g : TG) (tt : TT) (te : TE) (vs : List Nat) (σ : L2.St) (x : List V) (H1 : Hp) (Q : VK) : Prop := ∃ a b xs ys, x = [.ref a, .ref b] ∧ SqL K H1 a xs ∧ SqL K H1 b ys ∧ LcJ g tt te vs σ (Itz K a b) H1 Q
theorem s_lcL (q : tl σ H fun x H1 => LcL K g tt te vs σ x H1 Q) : tLc (iList K tl) g tt te vs σ H Q := q
theorem s_lcR1 {ta : TA} (q : ta σ H fun x H1 => LcR1 g tt te vs σ x H1 Q) : tLc (iRng1 ta) g tt te vs σ H Q := q
/-- the turns of a comprehension: what is kept stands in the relation R to its item; R is told at any heap that has all but the list that is made -/
theorem lc_turns {α : Type} {J : It} (l : List α) (p : α → Bool) (R : α → V → Hp → Prop) (mono : ∀ x y H1 H2, Ex H1 H2 → R x y H1 → R x y H2) (hz : l.length ≤ 40000)
    (hgo : ∀ i H', i < l.length → Ex H H' → J.go i H') (hst : ∀ H', Ex H H' → J.stop l.length H')
    (turn : ∀ D, H D = none → ∀ (i : Nat) x, l[i]? = some x → ∀ v H0 H', Ex H H0 → (∃ o, H0 D = some o) → J.yld i H0 v H' → Ex H0 H' ∧
      ∀ (A : VK) (B : Hp → Prop), (p x = true → ∀ y H4, Ex H' H4 → (∀ Z, ExM D H4 Z → Ex H Z → R x y Z) → A y H4) → (p x = false → ∀ H3, Ex H' H3 → B H3) →
        g v (wipe σ vs) H' fun σ2 H2 => wipe σ2 vs = wipe σ vs ∧ tt σ2 H2 fun b H3 => if b = true then te σ2 H3 A else B H3)
    (fin : ∀ D H' ys, H D = none → Ex H H' → H' D = some (.lst ys) → Paired (fun x y => R x y H') (l.filter p) ys → Q (.ref D) H') : LcJ g tt te vs σ J H Q := by
  intro D hD
  refine ⟨fun i m H' => m = l.length - i ∧ i ≤ l.length ∧ Ex H H' ∧ ∃ ys, H' D = some (.lst ys) ∧ ys.length ≤ i ∧ ∃ Z, Z D = none ∧ Ex Z H' ∧ ExM D H' Z ∧ Paired (fun x y => R x y Z) ((l.take i).filter p) ys,
    ⟨l.length, by omega, by omega, Ex.new hD, [], upd_same, Nat.le_refl _, H, hD, Ex.new hD, fun b o n e => by rw [upd_ne n] at e; exact e, .nil⟩, ?_⟩
  rintro i m H' ⟨rfl, hi, e, ys, hys, hly, Z, zD, zE, zM, pr⟩
  by_cases hlt : i < l.length
  · refine .inr ⟨hgo i H' hlt e, fun H'' => i + 1 ≤ l.length ∧ Ex H H'' ∧ ∃ ys, H'' D = some (.lst ys) ∧ ys.length ≤ i + 1 ∧ ∃ Z, Z D = none ∧ Ex Z H'' ∧ ExM D H'' Z ∧ Paired (fun x y => R x y Z) ((l.take (i + 1)).filter p) ys,
      fun H'' q => ⟨l.length - (i + 1), by omega, rfl, q⟩, fun v H2 hy => ?_⟩
    have ei : l[i]? = some l[i] := List.getElem?_eq_getElem hlt
    have e1 : l.take (i + 1) = l.take i ++ [l[i]] := by rw [List.take_add_one, ei]; rfl
    obtain ⟨ey, tn⟩ := turn D hD i _ ei v H' H2 e ⟨_, hys⟩ hy
    refine tn _ _ (fun hp y H4 e4 r => ?_) (fun hp H3 e3 => ?_)
    · have e5 := ey.trans e4
      have eD : Ex H (upd H4 D (.lst (ys ++ [y]))) := (e.trans e5).mut hD
      let Z4 : Hp := fun b => if b = D then none else H4 b
      have k1 : Z4 D = none := if_pos rfl
      have k2 : ExM D H4 Z4 := fun b o n q => by
        show (if b = D then none else H4 b) = some o
        rw [if_neg n]
        exact q
      have k3 : Ex Z Z4 := fun b o q => k2 b o (ne_of_none q zD) (e5 _ _ (zE b o q))
      have k4 : Ex H Z4 := fun b o q => k2 b o (ne_of_none q hD) (e5 _ _ (e b o q))
      refine ⟨ys, e5 _ _ hys, sz_lt (by omega), by omega, eD, _, upd_same, by rw [List.length_append]; show _ + 1 ≤ _; omega, Z4, k1, fun b o q => ?_, fun b o n q => ?_, ?_⟩
      · have nb : b ≠ D := ne_of_none q k1
        rw [upd_ne nb]
        have q' : (if b = D then none else H4 b) = some o := q
        rw [if_neg nb] at q'
        exact q'
      · rw [upd_ne n] at q
        exact k2 b o n q
      · rw [e1, List.filter_append, List.filter_cons, if_pos hp]
        exact Paired.snoc (Paired.mapP pr fun a b r => mono a b _ _ k3 r) (r Z4 k2 k4)
    · refine ⟨by omega, e.trans (ey.trans e3), ys, (ey.trans e3) _ _ hys, by omega, ?_⟩
      let Z4 : Hp := fun b => if b = D then none else H3 b
      have k1 : Z4 D = none := if_pos rfl
      have k2 : ExM D H3 Z4 := fun b o n q => by
        show (if b = D then none else H3 b) = some o
        rw [if_neg n]
        exact q
      have k3 : Ex Z Z4 := fun b o q => k2 b o (ne_of_none q zD) ((ey.trans e3) _ _ (zE b o q))
      refine ⟨Z4, k1, fun b o q => ?_, k2, ?_⟩
      · have nb : b ≠ D := ne_of_none q k1
        have q' : (if b = D then none else H3 b) = some o := q
        rw [if_neg nb] at q'
        exact q'
      · rw [e1, List.filter_append, List.filter_cons, if_neg (by rw [hp]; exact Bool.false_ne_true)]
        show Paired _ (_ ++ []) _
        rw [List.append_nil]
        exact Paired.mapP pr fun a b r => mono a b _ _ k3 r
  · have ei : i = l.length := by omega
    subst ei
    rw [List.take_length] at pr
    exact .inl ⟨hst H' e, fin D H' ys hD e hys (Paired.mapP pr fun a b r => mono a b _ _ zE r)⟩
theorem pair_map {α β : Type} {F : α → β} : ∀ {l : List α} {ys : List β}, Paired (fun x y => y = F x) l ys → ys = l.map F
  | _, _, .nil => rfl
  | _, _, .cons h t => by rw [h, pair_map t]; rfl
/-- values of a pure element over a list: they hang on the item alone -/
theorem u_lcL {α : Type} {a : Addr} (em : α → V) (l : List α) (p : α → Bool) (F : α → V) (hS : SqL K H a (l.map em)) (hz : l.length ≤ 40000)
    (turn : ∀ x ∈ l, ∀ H', Ex H H' → ∀ (A : VK) (B : Hp → Prop), (p x = true → ∀ H4, Ex H' H4 → A (F x) H4) → (p x = false → ∀ H3, Ex H' H3 → B H3) →
      g (em x) (wipe σ vs) H' fun σ2 H2 => wipe σ2 vs = wipe σ vs ∧ tt σ2 H2 fun b H3 => if b = true then te σ2 H3 A else B H3)
    (fin : ∀ D H', H D = none → Ex H H' → H' D = some (.lst ((l.filter p).map F)) → Q (.ref D) H') : LcL K g tt te vs σ (.ref a) H Q := by
  refine ⟨a, rfl, ⟨_, hS⟩, lc_turns l p (fun x y _ => y = F x) (fun _ _ _ _ _ r => r) hz (fun i H' hi e => ⟨_, em l[i], e.sq hS, by rw [List.getElem?_map, List.getElem?_eq_getElem hi]; rfl⟩) (fun H' e => ⟨_, e.sq hS, by rw [List.length_map]; exact Nat.le_refl _⟩)
    (fun D hD i x hx v H0 H' e _ hy => ?_) (fun D H' ys hD e h pr => fin D H' hD e (by rw [h, pair_map pr]))⟩
  obtain ⟨rfl, fv⟩ := hy
  have ev : v = em x := by
    have q := fv _ (e.sq hS)
    rw [List.getElem?_map, hx] at q
    exact (Option.some.inj q).symm
  subst ev
  exact ⟨Ex.refl _, fun A B h1 h2 => turn x (List.mem_of_getElem? hx) _ e A B (fun hp H4 e4 => h1 hp _ H4 e4 fun _ _ _ => rfl) h2⟩
/-- .. the kept ones stand in a relation to their items -/
theorem u_lcLR {α : Type} {a : Addr} (em : α → V) (l : List α) (p : α → Bool) (R : α → V → Hp → Prop) (mono : ∀ x y H1 H2, Ex H1 H2 → R x y H1 → R x y H2) (hS : SqL K H a (l.map em)) (hz : l.length ≤ 40000)
    (turn : ∀ D, H D = none → ∀ x ∈ l, ∀ H', Ex H H' → (∃ o, H' D = some o) → ∀ (A : VK) (B : Hp → Prop), (p x = true → ∀ y H4, Ex H' H4 → (∀ Z, ExM D H4 Z → Ex H Z → R x y Z) → A y H4) → (p x = false → ∀ H3, Ex H' H3 → B H3) →
      g (em x) (wipe σ vs) H' fun σ2 H2 => wipe σ2 vs = wipe σ vs ∧ tt σ2 H2 fun b H3 => if b = true then te σ2 H3 A else B H3)
    (fin : ∀ D H' ys, H D = none → Ex H H' → H' D = some (.lst ys) → Paired (fun x y => R x y H') (l.filter p) ys → Q (.ref D) H') : LcL K g tt te vs σ (.ref a) H Q := by
  refine ⟨a, rfl, ⟨_, hS⟩, lc_turns l p R mono hz (fun i H' hi e => ⟨_, em l[i], e.sq hS, by rw [List.getElem?_map, List.getElem?_eq_getElem hi]; rfl⟩) (fun H' e => ⟨_, e.sq hS, by rw [List.length_map]; exact Nat.le_refl _⟩)
    (fun D hD i x hx v H0 H' e eD hy => ?_) fin⟩
  obtain ⟨rfl, fv⟩ := hy
  have ev : v = em x := by
    have q := fv _ (e.sq hS)
    rw [List.getElem?_map, hx] at q
    exact (Option.some.inj q).symm
  subst ev
  exact ⟨Ex.refl _, fun A B h1 h2 => turn D hD x (List.mem_of_getElem? hx) _ e eD A B h1 h2⟩
theorem filter_yes {α : Type} : ∀ l : List α, l.filter (fun _ => true) = l
  | [] => rfl
  | x :: l => by rw [List.filter_cons, if_pos rfl, filter_yes l]
/-- .. without a test -/
theorem u_mapL {α : Type} {a : Addr} (em : α → V) (l : List α) (F : α → V) (hS : SqL K H a (l.map em)) (hz : l.length ≤ 40000)
    (turn : ∀ x ∈ l, ∀ H', Ex H H' → ∀ A : VK, (∀ H4, Ex H' H4 → A (F x) H4) → g (em x) (wipe σ vs) H' fun σ2 H2 => wipe σ2 vs = wipe σ vs ∧ te σ2 H2 A)
    (fin : ∀ D H', H D = none → Ex H H' → H' D = some (.lst (l.map F)) → Q (.ref D) H') : LcL K g tYes te vs σ (.ref a) H Q :=
  u_lcL em l (fun _ => true) F hS hz (fun x hx H' e A B h1 _ => by
    have e2 : (fun (σ2 : L2.St) H2 => wipe σ2 vs = wipe σ vs ∧ tYes σ2 H2 fun b H3 => if b = true then te σ2 H3 A else B H3) = fun σ2 H2 => wipe σ2 vs = wipe σ vs ∧ te σ2 H2 A := by
      funext σ2 H2
      show (_ ∧ if true = true then te σ2 H2 A else B H2) = _
      rw [if_pos rfl]
    rw [e2]
    exact turn x hx H' e A (h1 rfl)) (by rw [filter_yes]; exact fin)
theorem u_mapLI {α : Type} {a : Addr} (em : α → V) (l : List α) (f : α → Int) (hS : SqL K H a (l.map em)) (hz : l.length ≤ 40000)
    (turn : ∀ x ∈ l, ∀ H', Ex H H' → ∀ A : VK, (∀ H4, Ex H' H4 → A (.int (f x)) H4) → g (em x) (wipe σ vs) H' fun σ2 H2 => wipe σ2 vs = wipe σ vs ∧ te σ2 H2 A)
    (fin : ∀ D H', H D = none → Ex H H' → H' D = some (.lst ((l.map f).map V.int)) → Q (.ref D) H') : LcL K g tYes te vs σ (.ref a) H Q :=
  u_mapL em l (fun x => .int (f x)) hS hz turn fun D H' h1 h2 h3 => fin D H' h1 h2 (by rw [h3, List.map_map]; rfl)
end
/-! ### greatest, least, sorted -/
noncomputable def maxI (l : List Int) : Int := match l with | [] => 0 | a :: t => t.foldl max a
noncomputable def minI (l : List Int) : Int := match l with | [] => 0 | a :: t => t.foldl min a
theorem fold_max : ∀ (l : List Int) (a : Int), a ≤ l.foldl max a ∧ (∀ y ∈ l, y ≤ l.foldl max a) ∧ (l.foldl max a = a ∨ l.foldl max a ∈ l)
  | [], a => ⟨Int.le_refl _, fun _ h => (nomatch h), .inl rfl⟩
  | b :: l, a => by
    obtain ⟨h1, h2, h3⟩ := fold_max l (max a b)
    rw [List.foldl_cons]
    have k1 : a ≤ max a b := Int.le_max_left _ _
    have k2 : b ≤ max a b := Int.le_max_right _ _
    refine ⟨Int.le_trans k1 h1, fun y hy => ?_, ?_⟩
    · rcases List.mem_cons.mp hy with rfl | hy
      · exact Int.le_trans k2 h1
      · exact h2 y hy
    · rcases h3 with h3 | h3
      · rw [h3]
        by_cases c : a ≤ b
        · rw [Int.max_eq_right c]
          exact .inr List.mem_cons_self
        · rw [Int.max_eq_left (by omega)]
          exact .inl rfl
      · exact .inr (List.mem_cons_of_mem _ h3)
theorem maxI_mem {l : List Int} (h : 0 < l.length) : maxI l ∈ l := by
  cases l with
  | nil => exact absurd h (Nat.lt_irrefl 0)
  | cons a t =>
    rcases (fold_max t a).2.2 with e | e
    · exact List.mem_cons.mpr (.inl e)
    · exact List.mem_cons_of_mem _ e
theorem maxI_ge {l : List Int} : ∀ y ∈ l, y ≤ maxI l := fun y hy => by
  cases l with
  | nil => exact absurd hy List.not_mem_nil
  | cons a t =>
    rcases List.mem_cons.mp hy with rfl | hy
    · exact (fold_max t y).1
    · exact (fold_max t a).2.1 y hy
theorem maxI_of {l : List Int} {m : Int} (h : m ∈ l) (g : ∀ y ∈ l, y ≤ m) : m = maxI l := Int.le_antisymm (maxI_ge m h) (g _ (maxI_mem (List.length_pos_of_mem h)))
noncomputable def sortI (l : List Int) : List Int := l.mergeSort (fun a b => decide (a ≤ b))
theorem sortI_perm (l : List Int) : (sortI l).Perm l := List.mergeSort_perm l _
theorem sortI_sorted (l : List Int) : (sortI l).Pairwise (· ≤ ·) := (List.pairwise_mergeSort (le := fun a b : Int => decide (a ≤ b)) (fun a b c h1 h2 => decide_eq_true (Int.le_trans (of_decide_eq_true h1) (of_decide_eq_true h2))) (fun a b => by
  rcases Int.le_total a b with h | h
  · rw [decide_eq_true h]; rfl
  · rw [decide_eq_true h, Bool.or_true]) l).imp fun h => of_decide_eq_true h
theorem sortI_of {l l' : List Int} (p : l'.Perm l) (s : l'.Pairwise (· ≤ ·)) : l' = sortI l :=
  List.Perm.eq_of_pairwise (le := fun a b : Int => a ≤ b) (fun a b _ _ h1 h2 => Int.le_antisymm h1 h2) s (sortI_sorted l) (p.trans (sortI_perm l).symm)
theorem sortI_strict {l : List Int} (h : l.Nodup) : (sortI l).Pairwise (· < ·) := by
  have n : (sortI l).Pairwise (· ≠ ·) := (sortI_perm l).symm.nodup h
  exact (List.Pairwise.and (sortI_sorted l) n).imp fun ⟨a, b⟩ => by omega
theorem sortI_len (l : List Int) : (sortI l).length = l.length := (sortI_perm l).length_eq
theorem sortI_mem {l : List Int} {a : Int} : a ∈ sortI l ↔ a ∈ l := (sortI_perm l).mem_iff
/-! ### heaps as letters: the next heap, and what is known of it -/
theorem ex_ap {H H' : Hp} {a : Addr} {o : HO} (e : Ex H H') (h : H a = some o) : H' a = some o := e a o h
theorem exm_ap {H H' : Hp} {h a : Addr} {o : HO} (e : ExM h H H') (n : a ≠ h) (hh : H a = some o) : H' a = some o := e a o n hh
section
variable {K : PySem.W.Frag} {σ : L2.St} {H : Hp} {Q : VK} {v : V} {R : Hp → Prop}
theorem n_lst {xs : List V} (h : xs.length ≤ 100000) (q : ∀ p H', H p = none → Ex H H' → H' p = some (.lst xs) → Q (.ref p) H') : NewL xs H Q := ⟨sz_of h, fun p hp => q p _ hp (Ex.new hp) upd_same⟩
theorem n_tup {xs : List V} (h : xs.length ≤ 100000) (q : ∀ p H', H p = none → Ex H H' → H' p = some (.tup xs) → Q (.ref p) H') : NewT xs H Q := ⟨sz_of h, fun p hp => q p _ hp (Ex.new hp) upd_same⟩
theorem n_slL {a : Addr} {xs : List V} {lo hi : Option Int} (h : SqL K H a xs) (q : ∀ p H', H p = none → Ex H H' → H' p = some (.lst (cutV xs lo hi)) → Q (.ref p) H') : rSlL K (.ref a) lo hi H Q := ⟨a, xs, rfl, h, fun p hp => q p _ hp (Ex.new hp) upd_same⟩
theorem n_cat {a b : Addr} {xs ys : List V} (h1 : H a = some (.lst xs)) (h2 : H b = some (.lst ys)) (hz : xs.length + ys.length ≤ 100000) (q : ∀ p H', H p = none → Ex H H' → H' p = some (.lst (xs ++ ys)) → Q (.ref p) H') : rPlus (.ref a) (.ref b) H Q :=
  .inr (.inl ⟨a, b, xs, ys, rfl, rfl, h1, h2, sz_of hz, fun p hp => q p _ hp (Ex.new hp) upd_same⟩)
theorem n_setL {a : Addr} {xs : List V} {k : Int} {j : Nat} (h : H a = some (.lst xs)) (hk : ixN xs.length k = some j) (q : ∀ H', ExM a H H' → H' a = some (.lst (xs.set j v)) → R H') : rSetL (.ref a) (.int k) v H R := ⟨a, xs, k, j, rfl, rfl, h, hk, q _ ExM.upd upd_same⟩
noncomputable def rRevL (K : PySem.W.Frag) (x : V) (H : Hp) (Q : VK) : Prop := ∃ a xs, x = .ref a ∧ SqL K H a xs ∧ ∀ p, H p = none → Q (.ref p) (upd H p (.lst xs.reverse))
theorem s_maxL {a : Addr} {ns : List Int} (h : SqL K H a (ns.map V.int)) (hn : 0 < ns.length) (q : Q (.int (maxI ns)) H) : rMax K [.ref a] H Q := ⟨a, ns, rfl, h, hn, fun m h1 h2 => by rw [maxI_of h1 h2]; exact q⟩
theorem n_sorted {a : Addr} {ns : List Int} (h : SqL K H a (ns.map V.int)) (q : ∀ p H', H p = none → Ex H H' → H' p = some (.lst ((sortI ns).map V.int)) → Q (.ref p) H') : rSortedI K [.ref a] H Q := ⟨a, ns, rfl, h, fun ns' p h1 h2 hp => by rw [sortI_of h1 h2]; exact q p _ hp (Ex.new hp) upd_same⟩
theorem n_app {a : Addr} {xs : List V} (h : H a = some (.lst xs)) (hz : xs.length < 100000) (q : ∀ H', ExM a H H' → H' a = some (.lst (xs ++ [v])) → Q .non H') : rAppend (.ref a) [v] H Q := ⟨a, xs, v, rfl, rfl, h, sz_lt hz, q _ ExM.upd upd_same⟩
end

/-- the cut of a list, of anything -/
noncomputable def cutI {α : Type} (xs : List α) (lo hi : Option Int) : List α := (xs.drop (HT.sIx xs.length 0 lo)).take (HT.sIx xs.length xs.length hi - HT.sIx xs.length 0 lo)
theorem cutI_sub {α : Type} (xs : List α) (lo hi : Option Int) : (cutI xs lo hi).Sublist xs := (List.take_sublist _ _).trans (List.drop_sublist _ _)
theorem cutV_map {α : Type} (f : α → V) (xs : List α) (lo hi : Option Int) : cutV (xs.map f) lo hi = (cutI xs lo hi).map f := by
  unfold cutV cutI
  rw [List.length_map, ← List.map_drop, ← List.map_take]
theorem cutV_ints (xs : List Int) (lo hi : Option Int) : cutV (xs.map V.int) lo hi = (cutI xs lo hi).map V.int := cutV_map _ _ _ _
theorem cutI_to {α : Type} (xs : List α) {k : Int} (h : 0 ≤ k) : cutI xs none (some k) = xs.take k.toNat := by
  obtain ⟨n, rfl⟩ : ∃ n : Nat, k = (n : Int) := ⟨k.toNat, by omega⟩
  unfold cutI
  rw [HT.sIx_none, HT.sIx_nat, List.drop_zero, Nat.sub_zero, Int.toNat_natCast, List.take_eq_take_iff]
  omega
theorem cutI_from {α : Type} (xs : List α) {k : Int} (h : 0 ≤ k) : cutI xs (some k) none = xs.drop k.toNat := by
  obtain ⟨n, rfl⟩ : ∃ n : Nat, k = (n : Int) := ⟨k.toNat, by omega⟩
  unfold cutI
  rw [HT.sIx_none, HT.sIx_nat, Int.toNat_natCast]
  by_cases hn : n ≤ xs.length
  · rw [Nat.min_eq_left hn, List.take_of_length_le (by rw [List.length_drop]; exact Nat.le_refl _)]
  · rw [Nat.min_eq_right (by omega), Nat.sub_self, List.take_zero, List.drop_of_length_le (by omega)]
theorem cutI_mid {α : Type} (xs : List α) {k m : Int} (h : 0 ≤ k) (h2 : k ≤ m) : cutI xs (some k) (some m) = (xs.drop k.toNat).take (m.toNat - k.toNat) := by
  obtain ⟨n, rfl⟩ : ∃ n : Nat, k = (n : Int) := ⟨k.toNat, by omega⟩
  obtain ⟨r, rfl⟩ : ∃ n : Nat, m = (n : Int) := ⟨m.toNat, by omega⟩
  unfold cutI
  rw [HT.sIx_nat, HT.sIx_nat, Int.toNat_natCast, Int.toNat_natCast]
  by_cases hn : n ≤ xs.length
  · rw [Nat.min_eq_left hn, List.take_eq_take_iff, List.length_drop]
    omega
  · have h3 : min n xs.length = xs.length := Nat.min_eq_right (by omega)
    rw [h3, List.drop_of_length_le (Nat.le_refl _), List.drop_of_length_le (show xs.length ≤ n by omega)]
    simp
section
variable {K : PySem.W.Frag} {H : Hp} {Q : VK} {a : Addr}
theorem first_at : ∀ {ns : List Int} {i : Int}, i ∈ ns → ∃ j : Nat, ns[j]? = some i ∧ ∀ m, m < j → ns[m]? ≠ some i
  | [], i, h => nomatch h
  | n :: ns, i, h => by
    by_cases c : n = i
    · subst c
      exact ⟨0, rfl, fun m hm => absurd hm (Nat.not_lt_zero m)⟩
    · have h' : i ∈ ns := by
        rcases List.mem_cons.mp h with h | h
        · exact absurd h.symm c
        · exact h
      obtain ⟨j, e, f⟩ := first_at h'
      refine ⟨j + 1, e, fun m hm => ?_⟩
      cases m with
      | zero => exact fun z => c (Option.some.inj z)
      | succ m => exact f m (by omega)
theorem s_index {ns : List Int} {i : Int} (h : SqL K H a (ns.map V.int)) (hm : i ∈ ns) (q : ∀ j : Nat, ns[j]? = some i → (∀ m, m < j → ns[m]? ≠ some i) → Q (.int (j : Int)) H) : rIndex K (.ref a) [.int i] H Q := by
  obtain ⟨j, e, f⟩ := first_at hm
  refine ⟨a, _, .int i, j, .int i, rfl, rfl, h, rfl, List.all_eq_true.mpr (fun x hx => ?_), by rw [List.getElem?_map, e]; rfl, ?_, fun m z hm2 hz => ?_, q j e f⟩
  · obtain ⟨n, _, rfl⟩ := List.mem_map.mp hx
    rfl
  · show (i == i) = true
    exact beq_self_eq_true i
  · rw [List.getElem?_map] at hz
    cases e2 : ns[m]? with
    | none => rw [e2] at hz; cases hz
    | some k =>
      rw [e2] at hz
      cases hz
      show (k == i) = false
      rw [beq_eq_false_iff_ne]
      exact fun z => f m hm2 (by rw [e2, z])
end
theorem inV_ints (i : Int) : ∀ ns : List Int, inV (.int i) (ns.map V.int) = decide (i ∈ ns)
  | [] => rfl
  | n :: ns => by
    have e : inV (.int i) ((n :: ns).map V.int) = (eqV (.int n) (.int i) || inV (.int i) (ns.map V.int)) := rfl
    have e2 : eqV (.int n) (.int i) = decide (n = i) := by
      show (n == i) = _
      exact Bool.beq_eq_decide_eq n i
    rw [e, e2, inV_ints i ns]
    by_cases h : n = i
    · subst h
      simp
    · have h' : ¬ i = n := fun z => h z.symm
      simp [h, h']
theorem flat_ints : ∀ ns : List Int, (ns.map V.int).all flatV = true
  | [] => rfl
  | n :: ns => flat_ints ns
section
variable {K : PySem.W.Frag} {H : Hp} {Q : VK} {a : Addr} {i : Int}
theorem s_inL (ns : List Int) (h : SqL K H a (ns.map V.int)) (q : Q (.bl (decide (i ∈ ns))) H) : rIn K false (.int i) (.ref a) H Q := ⟨a, _, rfl, .inl h, rfl, flat_ints ns, by
  rw [if_neg Bool.false_ne_true, inV_ints]
  exact q⟩
end
theorem cx_K {CX : CXT} {P : Program} {w : World} {K : PySem.W.Frag} {mg : Str → Option Value} {base : Heap} {N : List Str} {x : Str} {sc : Scope} {f : Addr} {cdv : Value} {A : Around} {outer : List Env} {s : Shared} {H : Hp} {E : XK} :
    (cxOf CX P w K mg base N x sc f cdv A outer s H E).nox.K = K := rfl
theorem cx_K2 {CX : CXT} {P : Program} {w : World} {K : PySem.W.Frag} {mg : Str → Option Value} {base : Heap} {N : List Str} {x : Str} {sc : Scope} {f : Addr} {cdv : Value} {A : Around} {outer : List Env} {s : Shared} {H : Hp} {E : XK} :
    (cxOf CX P w K mg base N x sc f cdv A outer s H E).K = K := rfl
/-! ### places -/
/-! ### data with types: what a value is as a thing of plain Lean -/
class Py (α : Type) where
  d : α → PyData
  dep : Nat
  depth : ∀ a, (d a).depth ≤ dep
  can : ∀ a, (d a).canLay0 = true
  eqv : ∀ a b, (PyData.eqv (d a) (d b) = true ↔ a = b)
instance : Py Int := ⟨PyData.int, 0, fun _ => Nat.le_refl _, fun _ => rfl, fun a b => by rw [PyData.eqv]; exact beq_iff_eq⟩
instance : Py Bool := ⟨PyData.bool, 0, fun _ => Nat.le_refl _, fun _ => rfl, fun a b => by rw [PyData.eqv]; exact beq_iff_eq⟩
theorem eqvAll_iff {α : Type} [Py α] : ∀ xs ys : List α, (PyData.eqvAll (xs.map Py.d) (ys.map Py.d) = true ↔ xs = ys)
  | [], [] => by simp [PyData.eqvAll]
  | [], _ :: _ => by simp [PyData.eqvAll]
  | _ :: _, [] => by simp [PyData.eqvAll]
  | x :: xs, y :: ys => by
    rw [List.map_cons, List.map_cons, PyData.eqvAll, Bool.and_eq_true, Py.eqv, eqvAll_iff xs ys, List.cons.injEq]
theorem canAll_of {α : Type} [Py α] : ∀ xs : List α, PyData.canLayAll0 (xs.map Py.d) = true
  | [] => rfl
  | x :: xs => by rw [List.map_cons, PyData.canLayAll0, Py.can, canAll_of xs]; rfl
theorem depthAll_of {α : Type} [Py α] : ∀ xs : List α, PyData.depthAll (xs.map Py.d) ≤ Py.dep α
  | [] => Nat.zero_le _
  | x :: xs => by
    rw [List.map_cons, PyData.depthAll]
    exact Nat.max_le.mpr ⟨Py.depth x, depthAll_of xs⟩
instance {α : Type} [Py α] : Py (List α) := ⟨fun xs => .list (xs.map Py.d), Py.dep α + 1, fun xs => by rw [PyData.depth]; exact Nat.succ_le_succ (depthAll_of xs), fun xs => by rw [PyData.canLay0]; exact canAll_of xs, fun a b => by rw [PyData.eqv]; exact eqvAll_iff a b⟩
instance {α β : Type} [Py α] [Py β] : Py (α × β) := ⟨fun p => .tuple [Py.d p.1, Py.d p.2], max (Py.dep α) (Py.dep β) + 1, fun p => by
    simp only [PyData.depth, PyData.depthAll]
    have h1 := Py.depth p.1
    have h2 := Py.depth p.2
    omega, fun p => by simp only [PyData.canLay0, PyData.canLayAll0, Py.can]; rfl, fun a b => by
    simp only [PyData.eqv, PyData.eqvAll, Bool.and_true, Bool.and_eq_true, Py.eqv]
    exact ⟨fun h => Prod.ext h.1 h.2, fun h => by rw [h]; exact ⟨rfl, rfl⟩⟩⟩
/-- a triple | four, as one tuple -/
structure T3 (α β γ : Type) where
  a : α
  b : β
  c : γ
  deriving DecidableEq
structure T4 (α β γ δ : Type) where
  a : α
  b : β
  c : γ
  d : δ
  deriving DecidableEq
instance {α β γ : Type} [Py α] [Py β] [Py γ] : Py (T3 α β γ) := ⟨fun p => .tuple [Py.d p.a, Py.d p.b, Py.d p.c], max (Py.dep α) (max (Py.dep β) (Py.dep γ)) + 1, fun p => by
    simp only [PyData.depth, PyData.depthAll]
    have h1 := Py.depth p.a
    have h2 := Py.depth p.b
    have h3 := Py.depth p.c
    omega, fun p => by simp only [PyData.canLay0, PyData.canLayAll0, Py.can]; rfl, fun a b => by
    obtain ⟨a1, a2, a3⟩ := a
    obtain ⟨b1, b2, b3⟩ := b
    simp only [PyData.eqv, PyData.eqvAll, Bool.and_true, Bool.and_eq_true, Py.eqv, T3.mk.injEq]⟩
instance {α β γ δ : Type} [Py α] [Py β] [Py γ] [Py δ] : Py (T4 α β γ δ) := ⟨fun p => .tuple [Py.d p.a, Py.d p.b, Py.d p.c, Py.d p.d], max (Py.dep α) (max (Py.dep β) (max (Py.dep γ) (Py.dep δ))) + 1, fun p => by
    simp only [PyData.depth, PyData.depthAll]
    have h1 := Py.depth p.a
    have h2 := Py.depth p.b
    have h3 := Py.depth p.c
    have h4 := Py.depth p.d
    omega, fun p => by simp only [PyData.canLay0, PyData.canLayAll0, Py.can]; rfl, fun a b => by
    obtain ⟨a1, a2, a3, a4⟩ := a
    obtain ⟨b1, b2, b3, b4⟩ := b
    simp only [PyData.eqv, PyData.eqvAll, Bool.and_true, Bool.and_eq_true, Py.eqv, T4.mk.injEq]⟩
theorem eqv_dec {α : Type} [Py α] [DecidableEq α] (a b : α) : PyData.eqv (Py.d a) (Py.d b) = decide (a = b) := by
  by_cases h : a = b
  · rw [decide_eq_true h]
    exact (Py.eqv a b).mpr h
  · rw [decide_eq_false h]
    cases e : PyData.eqv (Py.d a) (Py.d b) with
    | true => exact absurd ((Py.eqv a b).mp e) h
    | false => rfl
theorem shaped_of {α : Type} [Py α] (a : α) (h : Py.dep α ≤ 64) : SeqAt.shaped (Py.d a) = true := by
  unfold SeqAt.shaped
  rw [Py.can, decide_eq_true (Nat.le_trans (Py.depth a) h)]
  rfl
/-- the value v stands in H as the thing x -/
noncomputable abbrev Is (K : PySem.W.Frag) (H : Hp) {α : Type} [Py α] (v : V) (x : α) : Prop := Dp K H v (Py.d x)
mutual
theorem Dp.ex {K : PySem.W.Frag} {H H' : Hp} (e : Ex H H') : ∀ {v : V} {d : PyData}, Dp K H v d → Dp K H' v d
  | _, _, .non => .non
  | _, _, .bl b => .bl b
  | _, _, .int i => .int i
  | _, _, .str x => .str x
  | _, _, .lst s a => .lst (e.sq s) (DpAll.ex e a)
  | _, _, .tup s a => .tup (e.st s) (DpAll.ex e a)
theorem DpAll.ex {K : PySem.W.Frag} {H H' : Hp} (e : Ex H H') : ∀ {vs : List V} {ds : List PyData}, DpAll K H vs ds → DpAll K H' vs ds
  | _, _, .nil => .nil
  | _, _, .cons a r => .cons (Dp.ex e a) (DpAll.ex e r)
end
theorem Is.ex {K : PySem.W.Frag} {H H' : Hp} {α : Type} [Py α] {v : V} {x : α} (e : Ex H H') (h : Is K H v x) : Is K H' v x := Dp.ex e h
theorem Is.int {K : PySem.W.Frag} {H : Hp} (i : Int) : Is K H (.int i) i := Dp.int i
theorem dpAll_ints {K : PySem.W.Frag} {H : Hp} : ∀ ns : List Int, DpAll K H (ns.map V.int) (ns.map Py.d)
  | [] => .nil
  | n :: ns => .cons (.int n) (dpAll_ints ns)
theorem Is.ints {K : PySem.W.Frag} {H : Hp} {a : Addr} {ns : List Int} (h : SqL K H a (ns.map V.int)) : Is K H (.ref a) ns := .lst h (dpAll_ints ns)
/-- the items of a list of data -/
theorem Is.list {K : PySem.W.Frag} {H : Hp} {α : Type} [Py α] {v : V} {xs : List α} (h : Is K H v xs) : ∃ a vs, v = .ref a ∧ SqL K H a vs ∧ Paired (fun v x => Is K H v x) vs xs := by
  have go : ∀ (vs : List V) (ys : List α), DpAll K H vs (ys.map Py.d) → Paired (fun v x => Is K H v x) vs ys := by
    intro vs ys
    induction ys generalizing vs with
    | nil => intro h; cases h; exact .nil
    | cons y ys ih =>
      intro h
      cases h with
      | cons h1 h2 => exact .cons h1 (ih _ h2)
  have h' : Dp K H v (.list (xs.map Py.d)) := h
  cases h' with
  | lst s a => exact ⟨_, _, rfl, s, go _ _ a⟩
theorem Is.of_list {K : PySem.W.Frag} {H : Hp} {α : Type} [Py α] {a : Addr} {vs : List V} {xs : List α} (s : SqL K H a vs) (h : Paired (fun v x => Is K H v x) vs xs) : Is K H (.ref a) xs := by
  have go : ∀ {vs : List V} {ys : List α}, Paired (fun v x => Is K H v x) vs ys → DpAll K H vs (ys.map Py.d) := by
    intro vs ys h
    induction h with
    | nil => exact .nil
    | cons h1 _ ih => exact .cons h1 ih
  exact .lst s (go h)
theorem pair_ints {K : PySem.W.Frag} {H : Hp} : ∀ {vs : List V} {xs : List Int}, Paired (fun v x => Is K H v x) vs xs → vs = xs.map V.int
  | _, _, .nil => rfl
  | _, _, .cons (a := v) (b := i) h r => by
    have h' : Dp K H v (.int i) := h
    cases h'
    rw [pair_ints r]
    rfl
theorem Is.ints_of {K : PySem.W.Frag} {H : Hp} {v : V} {xs : List Int} (h : Is K H v xs) : ∃ a, v = .ref a ∧ SqL K H a (xs.map V.int) := by
  obtain ⟨a, vs, rfl, s, p⟩ := h.list
  exact ⟨a, rfl, pair_ints p ▸ s⟩
theorem s_eqP {α : Type} [Py α] [DecidableEq α] {K : PySem.W.Frag} {H : Hp} {Q : VK} {v w : V} {x y : α} (h1 : Is K H v x) (h2 : Is K H w y) (hd : Py.dep α ≤ 64) (q : Q (.bl (decide (x = y))) H) : rEqA K v w H Q :=
  .inr ⟨_, _, h1, h2, shaped_of x hd, shaped_of y hd, by rw [eqv_dec]; exact q⟩
theorem s_neP {α : Type} [Py α] [DecidableEq α] {K : PySem.W.Frag} {H : Hp} {Q : VK} {v w : V} {x y : α} (h1 : Is K H v x) (h2 : Is K H w y) (hd : Py.dep α ≤ 64) (q : Q (.bl (decide (x ≠ y))) H) : rNeA K v w H Q :=
  .inr ⟨_, _, h1, h2, shaped_of x hd, shaped_of y hd, by rw [eqv_dec, ← decide_not]; exact q⟩

/-! ### a list of data that is filled: it stands at D, its items in Z -/
instance : Py (Option Int) := ⟨fun o => match o with | none => .none | some i => .int i, 0, fun o => by cases o <;> exact Nat.le_refl _, fun o => by cases o <;> rfl, fun a b => by
  cases a <;> cases b
  · exact ⟨fun _ => rfl, fun _ => rfl⟩
  · exact ⟨fun h => (Bool.false_ne_true h).elim, fun h => nomatch h⟩
  · exact ⟨fun h => (Bool.false_ne_true h).elim, fun h => nomatch h⟩
  · rename_i x y
    show (x == y) = true ↔ some x = some y
    rw [beq_iff_eq, Option.some.injEq]⟩
/-- a number or nothing, as a value -/
noncomputable def optV : Option Int → V
  | none => .non
  | some i => .int i
structure LA (K : PySem.W.Frag) (Z H : Hp) (D : Addr) {α : Type} [Py α] (l : List α) : Prop where
  ex : ∃ vs, H D = some (.lst vs) ∧ Paired (fun v x => Is K Z v x) vs l
  zd : Z D = none
  zh : Ex Z H
section
variable {K : PySem.W.Frag} {Z H H' : Hp} {D : Addr} {α : Type} [Py α] {l : List α}
theorem pair_get {F : V → α → Prop} : ∀ {vs : List V} {l : List α}, Paired F vs l → ∀ {i : Nat} {x : α}, l[i]? = some x → ∃ v, vs[i]? = some v ∧ F v x
  | _, _, .nil, i, x, h => by simp at h
  | _, _, .cons a r, 0, x, h => by
    cases h
    exact ⟨_, rfl, a⟩
  | _, _, .cons a r, i + 1, x, h => pair_get r (i := i) h
theorem pair_get' {F : V → α → Prop} : ∀ {vs : List V} {l : List α}, Paired F vs l → ∀ {i : Nat} {v : V}, vs[i]? = some v → ∃ x, l[i]? = some x ∧ F v x
  | _, _, .nil, i, x, h => by simp at h
  | _, _, .cons a r, 0, x, h => by
    cases h
    exact ⟨_, rfl, a⟩
  | _, _, .cons a r, i + 1, x, h => pair_get' r (i := i) h
end

section
variable {K : PySem.W.Frag} {Z H : Hp} {D : Addr} {α β : Type} [Py α] [Py β] {l : List α} {Q : VK} {v : V}
theorem atI_pair {F : V → α → Prop} {vs : List V} (p : Paired F vs l) {i : Int} {x : α} (h : atI l i = some x) : ∃ v, atI vs i = some v ∧ F v x := by
  unfold atI at *
  rw [Paired.length p]
  cases e : ixN l.length i with
  | none => rw [e] at h; cases h
  | some j =>
    rw [e] at h
    exact pair_get p (i := j) h
end
section
variable {K : PySem.W.Frag} {Z H : Hp} {α β γ : Type} [Py α] [Py β] [Py γ] {v : V} {σ : L2.St} {R : L2.St → Hp → Prop}
theorem s_gt2 {H : Hp} {b : Addr} {x y : V} {g1 g2 : TG} (h : SqT K H b [x, y]) (q : g1 x σ H fun σ1 H1 => g2 y σ1 H1 R) : gTup K 2 (gCons g1 (gCons g2 gNil)) (.ref b) σ H R := by
  refine ⟨b, _, rfl, h, rfl, x, [y], rfl, ?_⟩
  have e3 : (fun (σ1 : L2.St) H1 => g2 y σ1 H1 R) = fun σ1 H1 => g2 y σ1 H1 fun σ2 H2 => ([] : List V) = [] ∧ R σ2 H2 := by
    funext σ1 H1
    have : R = fun σ2 H2 => ([] : List V) = [] ∧ R σ2 H2 := by
      funext σ2 H2
      exact propext ⟨fun z => ⟨rfl, z⟩, fun z => z.2⟩
    rw [← this]
  rw [e3] at q
  have e4 : (fun (σ1 : L2.St) H1 => g2 y σ1 H1 fun σ2 H2 => ([] : List V) = [] ∧ R σ2 H2) = fun σ1 H1 => gCons g2 gNil [y] σ1 H1 R := by
    funext σ1 H1
    refine propext ⟨fun z => ⟨y, [], rfl, z⟩, fun z => ?_⟩
    obtain ⟨y', r', e, z⟩ := z
    cases e
    exact z
  rw [e4] at q
  exact q
theorem pair_all {F : V → α → Prop} : ∀ {vs : List V} {l : List α}, Paired F vs l → ∀ v ∈ vs, ∃ x ∈ l, F v x
  | _, _, .nil, v, h => nomatch h
  | _, _, .cons a r, v, h => by
    rcases List.mem_cons.mp h with rfl | h
    · exact ⟨_, List.mem_cons_self, a⟩
    · obtain ⟨x, hx, f⟩ := pair_all r v h
      exact ⟨x, List.mem_cons_of_mem _ hx, f⟩
end
/-- the items that stand behind: a for over a list of data -/
theorem item_of {K : PySem.W.Frag} {H : Hp} {α : Type} [Py α] {vs : List V} {l : List α} (p : Paired (fun v x => Is K H v x) vs l) {i : Nat} {v : V} (h : vs[i]? = some v) : ∃ x, l[i]? = some x ∧ Is K H v x := pair_get' p h

/-! ### what a def is, and that it keeps its promise -/
/-- the def x stands in the module as its text says -/
noncomputable def FunAt (K : PySem.W.Frag) (mg : Str → Option Value) (x : Str) (st : Stmt) (ps : List Str) : Prop := ∃ f fd, Fun K x x st f fd ∧ mg x = some (.ref f) ∧ Binds K fd ps []
/-- the def x keeps the promise sp, by at most level k -/
noncomputable def Has (P : Program) (w : World) (K : PySem.W.Frag) (mg : Str → Option Value) (base : Heap) (x : Str) (k : Nat) (sp : Sp) : Prop :=
  ∃ f fd ps, FnOk P w K mg base CX0 k f fd ps sp ∧ mg x = some (.ref f) ∧ PySem.W.keepIn K (.ref f) = true ∧ Binds K fd ps []
section
variable {X : Cx} {k k' : Nat} {sp : Sp} {x : Str} {p pos : Pos} {e : Expr} {es : List Expr} {t : TA}
theorem pe_callH (h : Has X.prog X.w X.K X.mg X.base x k sp) (hk : k ≤ k') (hr : Room k' X.A) (hg : Gl X x) (ha : PA X (e :: es) t) (hdb : (x == ("__debug__" : Str)) = false := by decide)
    (he : starEach (e :: es) X.env = (false, eval e X.env) :: starEach es X.env := by rfl) (hpl : (backTo pos (starEach es X.env)).any (·.1) = false := by rfl) : PE X (.Call (.Name x p) (e :: es) [] pos) (tCall sp [] E0 t) := by
  obtain ⟨f, fd, ps, F, hm, kp, hb⟩ := h
  exact pe_call F (hr.mono hk) hg hm kp hb .nil pass0 ha hdb he hpl
end
section
variable {P : Program} {w : World} {K : PySem.W.Frag} {mg : Str → Option Value} {base : Heap}
theorem fnok_of {x : Str} {st : Stmt} {N ps : List Str} {k : Nat} {sp : Sp} {f : Addr} {fd : FuncData} (F : Fun K x x st f fd) (S : FnScope N ps (defScope st)) (len : ∀ vs H Q E, sp vs H Q E → vs.length = ps.length)
    (hbody : ∀ (cdv : Value) (A : Around) (outer : List Env) (s : Shared) (H : Hp) (vs : List V) (Q : VK) (E : XK), Room k (A.deeper (envOfC x (defScope st) s.heap.objs.size f cdv)) → sp vs H Q E →
      ∃ t, PSs (cxOf CX0 P w K mg base N x (defScope st) f cdv A outer s H E).nox (defBody st) t ∧ t { nx := fun _ H' => Q .non H', rt := Q } (start N vs) H) : FnOk P w K mg base CX0 (k + 1) f fd ps sp := F.ok S len hbody
/-- a def's promise by its body -/
theorem has_of {x : Str} {st : Stmt} {N ps : List Str} {k : Nat} {sp : Sp} (F : FunAt K mg x st ps) (S : FnScope N ps (defScope st)) (len : ∀ vs H Q E, sp vs H Q E → vs.length = ps.length)
    (hbody : ∀ (f : Addr) (cdv : Value) (A : Around) (outer : List Env) (s : Shared) (H : Hp) (vs : List V) (Q : VK) (E : XK), Room k (A.deeper (envOfC x (defScope st) s.heap.objs.size f cdv)) → sp vs H Q E →
      ∃ t, PSs (cxOf CX0 P w K mg base N x (defScope st) f cdv A outer s H E).nox (defBody st) t ∧ t { nx := fun _ H' => Q .non H', rt := Q } (start N vs) H) : Has P w K mg base x (k + 1) sp := by
  obtain ⟨f, fd, F, hm, hb⟩ := F
  exact ⟨f, fd, ps, F.ok S len (hbody f), hm, F.kp, hb⟩
theorem Has.mono {x : Str} {j k : Nat} {sp : Sp} (h : Has P w K mg base x j sp) (hk : j ≤ k) : Has P w K mg base x k sp := by
  obtain ⟨f, fd, ps, F, r⟩ := h
  exact ⟨f, fd, ps, F.mono hk, r⟩
/-- a def as the head's facts tell it -/
theorem funAt_mk {h : Heap} (X : K.In h) (G : h.Ns mainGlobals mg) {x : Str} {st : Stmt} {ps : List Str} {f : Addr} {oc : Value} {od an : Option Addr} {osl : Array (Option Value)} {kV doc pm cdv ct : Value}
    (a : PySem.W.nsIn K mainGlobals x = some (some (.ref f))) (l : K.lookup f = some ⟨oc, od, .func (PySem.W.fnOf x x (defArgs st) (defBody st) (defScope st) .none kV doc pm an cdv ct), osl⟩)
    (c : PySem.W.codeIn K cdv x = true) (k : PySem.W.keepIn K (.ref f) = true)
    (b : ∀ (kV doc pm : Value) (an : Option Addr) (cdv ct : Value) (us : List Value), us.length = ps.length → bindArgs (PySem.W.fnOf x x (defArgs st) (defBody st) (defScope st) .none kV doc pm an cdv ct) ⟨us, []⟩ = pure (ps.zip us)) : FunAt K mg x st ps :=
  ⟨f, _, fun_mk l c k, PySem.W.mg_of X G a, (fun_mk (st := st) l c k).binds b⟩
/-- the law itself at the end -/
theorem law_end {P : Program} {h : Heap} (X : K.In h) (G : h.Ns mainGlobals mg) {fa : Addr} (hfa : mg "law" = some (.ref fa)) {st : Stmt} {x : Str} {k : Nat} {sp : Sp} {f : Addr} {oc : Value} {od an : Option Addr} {osl : Array (Option Value)} {kV doc pm cdv ct : Value}
    (a : PySem.W.nsIn K mainGlobals "law" = some (some (.ref f))) (l : K.lookup f = some ⟨oc, od, .func (PySem.W.fnOf "law" "law" (defArgs st) (defBody st) (defScope st) .none kV doc pm an cdv ct), osl⟩)
    (c : PySem.W.codeIn K cdv "law" = true) (kp : PySem.W.keepIn K (.ref f) = true)
    (hb : ∀ (s : Shared) (v : Value), BindsTo s (PySem.W.fnOf "law" "law" (defArgs st) (defBody st) (defScope st) .none kV doc pm an cdv ct) ⟨[v], []⟩ [(x, v)])
    (b : ∀ base : Heap, Fun K "law" "law" st f (PySem.W.fnOf "law" "law" (defArgs st) (defBody st) (defScope st) .none kV doc pm an cdv ct) → FnOk P w K mg base CX0 k f (PySem.W.fnOf "law" "law" (defArgs st) (defBody st) (defScope st) .none kV doc pm an cdv ct) [x] sp) :
    ∃ fd : FuncData, (∀ (s : Shared) (v : Value), BindsTo s fd ⟨[v], []⟩ [(x, v)]) ∧ ∀ base : Heap, K.In base → base.Ns mainGlobals mg → FnOk P w K mg base CX0 k fa fd [x] sp := by
  have e := hfa.symm.trans (PySem.W.mg_of X G a)
  cases e
  exact ⟨_, hb, fun base _ _ => b base (fun_mk l c kp)⟩
end
end TR
/-! the hand that is drawn from: n draws are left (its counter stays below 2^60) -/
namespace TR
open PySem L2
noncomputable def Hand (K : PySem.W.Frag) (Z H : Hp) (h : Addr) (n : Nat) : Prop :=
  ∃ (d k : Int) (c : Addr) (cells : List Int), H h = some (.lst [.int d, .int k, .ref c]) ∧ 0 < cells.length ∧ 0 ≤ k ∧ k + n ≤ 1000000000000000000 ∧ Ex Z H ∧ Z h = none ∧ SqL K Z c (cells.map V.int)
theorem Hand.mono {K : PySem.W.Frag} {Z H : Hp} {h : Addr} {n m : Nat} (a : Hand K Z H h n) (l : m ≤ n) : Hand K Z H h m := by
  obtain ⟨d, k, c, cells, h1, h3, h4, h5, h6⟩ := a
  exact ⟨d, k, c, cells, h1, h3, h4, by omega, h6⟩
theorem Hand.ex {K : PySem.W.Frag} {Z H H' : Hp} {h : Addr} {n : Nat} (a : Hand K Z H h n) (e : Ex H H') : Hand K Z H' h n := by
  obtain ⟨d, k, c, cells, h1, h3, h4, h5, z1, z2, z3⟩ := a
  exact ⟨d, k, c, cells, e _ _ h1, h3, h4, h5, z1.trans e, z2, z3⟩
theorem Hand.exm {K : PySem.W.Frag} {Z H H' : Hp} {h g : Addr} {n : Nat} (a : Hand K Z H h n) (e : ExM g H H') (n1 : h ≠ g) (n2 : Z g = none) : Hand K Z H' h n := by
  obtain ⟨d, k, c, cells, h1, h3, h4, h5, z1, z2, z3⟩ := a
  exact ⟨d, k, c, cells, e _ _ n1 h1, h3, h4, h5, z1.exm n2 e, z2, z3⟩
theorem Hand.at {K : PySem.W.Frag} {Z H : Hp} {h : Addr} {n : Nat} (a : Hand K Z H h n) : ∃ o, H h = some o := by
  obtain ⟨d, k, c, cells, h1, _⟩ := a
  exact ⟨_, h1⟩
theorem Hand.z {K : PySem.W.Frag} {Z H : Hp} {h : Addr} {n : Nat} (a : Hand K Z H h n) : Ex Z H := by
  obtain ⟨d, k, c, cells, h1, h3, h4, h5, z1, z2, z3⟩ := a
  exact z1
theorem Hand.zn {K : PySem.W.Frag} {Z H : Hp} {h : Addr} {n : Nat} (a : Hand K Z H h n) : Z h = none := by
  obtain ⟨_, _, _, _, _, _, _, _, _, h6, _⟩ := a
  exact h6
theorem hand_ne {K : PySem.W.Frag} {Z H H' : Hp} {h p : Addr} {n : Nat} (hp : H' p = none) (a : Hand K Z H h n) (e : Ex H H') : p ≠ h := by
  obtain ⟨o, ho⟩ := a.at
  exact (ne_of_none (e _ _ ho) hp).symm
theorem hand_ne0 {K : PySem.W.Frag} {Z H : Hp} {h p : Addr} {n : Nat} (hp : H p = none) (a : Hand K Z H h n) : p ≠ h := hand_ne hp a (Ex.refl _)
/-- another list is changed, one that was made when the hand was there -/
theorem Hand.mut {K : PySem.W.Frag} {Z H H1 H' : Hp} {h g : Addr} {n m : Nat} (a : Hand K Z H h n) (e : ExM g H H') (b : Hand K Z H1 h m) (f : H1 g = none) : Hand K Z H' h n := a.exm e (hand_ne0 f b).symm (Ex.back b.z f)
section
variable {K : PySem.W.Frag} {σ : L2.St} {H : Hp} {te : TE} {Q : VK} {g : TG} {vs : List Nat}
end
theorem at_ints {ns : List Int} {i : Nat} {v : V} (h : (ns.map V.int)[i]? = some v) : ∃ m, v = .int m ∧ ns[i]? = some m := by
  rw [List.getElem?_map] at h
  cases e : ns[i]? with
  | none => rw [e] at h; cases h
  | some m => rw [e] at h; exact ⟨m, (Option.some.inj h).symm, rfl⟩
/-! ### rows: a list of lists, each of them an object of its own -/
structure RW (K : PySem.W.Frag) (Z H : Hp) (p : Addr) (qs : List Addr) {α : Type} [Py α] (rs : List (List α)) : Prop where
  own : H p = some (.lst (qs.map V.ref))
  nd : (p :: qs).Nodup
  fr : ∀ q ∈ p :: qs, Z q = none
  zh : Ex Z H
  rows : Paired (fun q r => ∃ vs, H q = some (.lst vs) ∧ Paired (fun v x => Is K Z v x) vs r) qs rs
section
variable {K : PySem.W.Frag} {Z H H1 H' : Hp} {p q : Addr} {qs : List Addr} {α : Type} [Py α] {rs : List (List α)} {Q : VK}
theorem RW.up (a : RW K Z H p qs rs) (e : Ex H H') : RW K Z H' p qs rs :=
  ⟨e _ _ a.own, a.nd, a.fr, a.zh.trans e, Paired.mapP a.rows fun q r ⟨vs, h1, h2⟩ => ⟨vs, e _ _ h1, h2⟩⟩
theorem RW.sq (a : RW K Z H p qs rs) : SqL K H p (qs.map V.ref) := sq_of a.own
theorem RW.len (a : RW K Z H p qs rs) : qs.length = rs.length := Paired.length a.rows
theorem RW.at' {qs : List Addr} {rs : List (List α)} {F : Addr → List α → Prop} : Paired F qs rs → ∀ {i : Nat} {q : Addr}, qs[i]? = some q → ∃ r, rs[i]? = some r ∧ F q r
  | .nil, i, q, h => by simp at h
  | .cons a t, 0, q, h => by cases h; exact ⟨_, rfl, a⟩
  | .cons a t, i + 1, q, h => RW.at' t h
theorem RW.at (a : RW K Z H p qs rs) {i : Nat} (h : qs[i]? = some q) : ∃ r vs, rs[i]? = some r ∧ H q = some (.lst vs) ∧ Paired (fun v x => Is K Z v x) vs r := by
  obtain ⟨r, h1, vs, h2, h3⟩ := RW.at' a.rows h
  exact ⟨r, vs, h1, h2, h3⟩
theorem RW.obj (a : RW K Z H p qs rs) : ∀ q ∈ p :: qs, ∃ o, H q = some o := fun q hq => by
  rcases List.mem_cons.mp hq with rfl | hq
  · exact ⟨_, a.own⟩
  · obtain ⟨i, h⟩ := List.mem_iff_getElem?.mp hq
    obtain ⟨_, vs, _, h2, _⟩ := a.at h
    exact ⟨_, h2⟩
theorem RW.new (a : RW K Z H p qs rs) (h : H q = none) : q ∉ p :: qs := fun hq => by
  obtain ⟨o, ho⟩ := a.obj q hq
  rw [h] at ho
  cases ho
theorem RW.is (a : RW K Z H p qs rs) : Is K H (.ref p) rs := by
  refine Is.of_list (sq_of a.own) ?_
  have h := a.rows
  have e := a.zh
  clear a
  induction h with
  | nil => exact .nil
  | cons h t ih => exact .cons (by obtain ⟨vs, h1, h2⟩ := h; exact Is.of_list (sq_of h1) (Paired.mapP h2 fun v x g => Is.ex e g)) ih
theorem paired_snoc {β γ : Type} {F : β → γ → Prop} : ∀ {xs : List β} {ys : List γ} {x : β} {y : γ}, Paired F xs ys → F x y → Paired F (xs ++ [x]) (ys ++ [y])
  | _, _, _, _, .nil, h => .cons h .nil
  | _, _, _, _, .cons a t, h => .cons a (paired_snoc t h)
theorem n_appRW {vs : List V} {r : List α} (a : RW K Z H p qs rs) (e : Ex H H1) (hq : H q = none) (f : H1 q = some (.lst vs)) (pr : Paired (fun v x => Is K Z v x) vs r) (hz : rs.length < 100000)
    (k : ∀ H2, ExM p H1 H2 → RW K Z H2 p (qs ++ [q]) (rs ++ [r]) → Q .non H2) : rAppend (.ref p) [.ref q] H1 Q := by
  have a1 := a.up e
  have nq := a.new hq
  refine n_app a1.own (by rw [List.length_map, a.len]; exact hz) fun H2 m f2 => k H2 m ?_
  have np : ∀ b ∈ qs ++ [q], b ≠ p := fun b hb z => by
    rcases List.mem_append.mp hb with hb | hb
    · exact (List.nodup_cons.mp a.nd).1 (z ▸ hb)
    · rw [List.mem_singleton.mp hb] at z
      exact nq (z ▸ List.mem_cons_self)
  refine ⟨by rw [f2, List.map_append]; rfl, ?_, ?_, a1.zh.exm (a.fr p List.mem_cons_self) m, ?_⟩
  · refine List.nodup_cons.mpr ⟨fun h => np p h rfl, List.nodup_append.mpr ⟨(List.nodup_cons.mp a.nd).2, List.nodup_cons.mpr ⟨List.not_mem_nil, List.nodup_nil⟩, fun x hx y hy z => ?_⟩⟩
    rw [List.mem_singleton.mp hy] at z
    exact nq (List.mem_cons_of_mem _ (z ▸ hx))
  · intro b hb
    rcases List.mem_cons.mp hb with rfl | hb
    · exact a.fr _ List.mem_cons_self
    · rcases List.mem_append.mp hb with hb | hb
      · exact a.fr b (List.mem_cons_of_mem _ hb)
      · rw [List.mem_singleton.mp hb]
        exact Ex.back a.zh hq
  · have h := a1.rows
    have n' : ∀ b ∈ qs, b ≠ p := fun b hb => np b (List.mem_append_left _ hb)
    refine paired_snoc ?_ ⟨vs, m _ _ (np q (List.mem_append_right _ List.mem_cons_self)) f, pr⟩
    clear a a1 nq np hz k f2
    induction h with
    | nil => exact .nil
    | cons h t ih => exact .cons (by obtain ⟨vs, h1, h2⟩ := h; exact ⟨vs, m _ _ (n' _ List.mem_cons_self) h1, h2⟩) (ih fun q hq => n' q (List.mem_cons_of_mem _ hq))
theorem RW.push' {m : ExM q H H'} {F : Addr → List α → Prop} {G : Addr → List α → Prop} (hF : ∀ b r, b ≠ q → F b r → G b r) : ∀ {qs : List Addr} {rs : List (List α)} {i : Nat} {r' : List α}, Paired F qs rs → qs.Nodup → qs[i]? = some q → G q r' → Paired G qs (rs.set i r')
  | [], _, i, r', .nil, _, h, _ => by simp at h
  | b :: qs, r :: rs, 0, r', .cons a t, nd, h, g => by
    cases h
    refine .cons g ?_
    have nb := (List.nodup_cons.mp nd).1
    clear nd
    induction t with
    | nil => exact .nil
    | cons a2 t2 ih => exact .cons (hF _ _ (fun z => nb (z ▸ List.mem_cons_self)) a2) (ih fun z => nb (List.mem_cons_of_mem _ z))
  | b :: qs, r :: rs, i + 1, r', .cons a t, nd, h, g => by
    have nb : b ≠ q := fun z => (List.nodup_cons.mp nd).1 (z ▸ List.mem_of_getElem? h)
    exact .cons (hF _ _ nb a) (RW.push' (m := m) hF t (List.nodup_cons.mp nd).2 h g)
/-- one more thing in a row -/
theorem n_pushRW {v : V} {x : α} {i : Nat} {r : List α} (a : RW K Z H p qs rs) (hi : qs[i]? = some q) (hr : rs[i]? = some r) (hv : Is K Z v x) (hz : r.length < 100000)
    (k : ∀ H2, ExM q H H2 → RW K Z H2 p qs (rs.set i (r ++ [x])) → Q .non H2) : rAppend (.ref q) [v] H Q := by
  obtain ⟨r', vs, h1, h2, h3⟩ := a.at hi
  rw [hr] at h1
  cases h1
  have hm := List.mem_of_getElem? hi
  refine n_app h2 (by rw [Paired.length h3]; exact hz) fun H2 m f2 => k H2 m ?_
  have nq : p ≠ q := fun z => (List.nodup_cons.mp a.nd).1 (z ▸ hm)
  refine ⟨m _ _ nq a.own, a.nd, a.fr, a.zh.exm (a.fr q (List.mem_cons_of_mem _ hm)) m, ?_⟩
  exact RW.push' (m := m) (fun b r nb ⟨vs, g1, g2⟩ => ⟨vs, m _ _ nb g1, g2⟩) a.rows (List.nodup_cons.mp a.nd).2 hi ⟨_, f2, Paired.snoc h3 hv⟩
theorem s_ixRW {i : Int} (a : RW K Z H p qs rs) (h : 0 ≤ i ∧ i < rs.length) (k : ∀ q, qs[i.toNat]? = some q → Q (.ref q) H) : rIx K (.ref p) (.int i) H Q := by
  have hl : i.toNat < qs.length := by have := a.len; omega
  exact .inl ⟨p, _, i, _, rfl, rfl, sq_of a.own, atI_lt h.1 (by rw [List.getElem?_map, List.getElem?_eq_getElem hl]; rfl), k _ (List.getElem?_eq_getElem hl)⟩
end
section
variable {K : PySem.W.Frag} {σ : L2.St} {H : Hp} {te : TE} {Q : VK} {g : TG} {vs : List Nat}
/-- a comprehension of new lists -/
theorem lc_new {J : It} {n : Nat} (xs : Nat → V) (F : Nat → List V)
    (hgo : ∀ i H', i < n → Ex H H' → J.go i H') (hst : ∀ H', Ex H H' → J.stop n H') (hy : ∀ i v H0 H', i < n → Ex H H0 → J.yld i H0 v H' → H' = H0 ∧ v = xs i)
    (turn : ∀ i, i < n → ∀ H', Ex H H' → ∀ A : VK, (∀ q H4, H' q = none → Ex H' H4 → H4 q = some (.lst (F i)) → A (.ref q) H4) →
      g (xs i) (wipe σ vs) H' fun σ2 H2 => wipe σ2 vs = wipe σ vs ∧ te σ2 H2 A)
    (hz : n ≤ 40000)
    (fin : ∀ (D : Addr) (qs : List Addr) (H' : Hp), (D :: qs).Nodup → (∀ q ∈ D :: qs, H q = none) → Ex H H' → H' D = some (.lst (qs.map V.ref)) → qs.length = n → (∀ i q, qs[i]? = some q → H' q = some (.lst (F i))) → Q (.ref D) H') : LcJ g tYes te vs σ J H Q := by
  intro D hD
  refine ⟨fun i m H' => m = n - i ∧ i ≤ n ∧ Ex H H' ∧ ∃ qs : List Addr, (D :: qs).Nodup ∧ (∀ q ∈ D :: qs, H q = none) ∧ H' D = some (.lst (qs.map V.ref)) ∧ qs.length = i ∧ ∀ i q, qs[i]? = some q → H' q = some (.lst (F i)),
    ⟨n, by omega, by omega, Ex.new hD, [], List.nodup_cons.mpr ⟨List.not_mem_nil, List.nodup_nil⟩, fun q hq => by rw [List.mem_singleton.mp hq]; exact hD, upd_same, rfl, fun i q h => by simp at h⟩, ?_⟩
  rintro i m H' ⟨rfl, hi, e, qs, nd, nn, ho, hln, ha⟩
  by_cases hlt : i < n
  · refine .inr ⟨hgo i H' hlt e, fun H'' => i + 1 ≤ n ∧ Ex H H'' ∧ ∃ qs : List Addr, (D :: qs).Nodup ∧ (∀ q ∈ D :: qs, H q = none) ∧ H'' D = some (.lst (qs.map V.ref)) ∧ qs.length = i + 1 ∧ ∀ i q, qs[i]? = some q → H'' q = some (.lst (F i)), fun H'' q => ⟨n - (i + 1), by omega, rfl, q⟩, fun v H2 y => ?_⟩
    obtain ⟨rfl, rfl⟩ := hy i v H' H2 hlt e y
    have e2 : ∀ (A : VK) (B : Hp → Prop), (fun (σ2 : L2.St) H3 => wipe σ2 vs = wipe σ vs ∧ tYes σ2 H3 fun b H4 => if b = true then te σ2 H4 A else B H4) = fun σ2 H3 => wipe σ2 vs = wipe σ vs ∧ te σ2 H3 A := fun A B => by
      funext σ2 H3
      show (_ ∧ if true = true then te σ2 H3 A else B H3) = _
      rw [if_pos rfl]
    rw [e2]
    refine turn i hlt H2 e _ fun q H4 hq e4 f4 => ?_
    have sm : ∀ b ∈ D :: qs, ∃ o, H2 b = some o := fun b hb => by
      rcases List.mem_cons.mp hb with rfl | hb
      · exact ⟨_, ho⟩
      · obtain ⟨j, hj⟩ := List.mem_iff_getElem?.mp hb
        exact ⟨_, ha j b hj⟩
    have nq : q ∉ D :: qs := fun hb => by
      obtain ⟨o, h⟩ := sm q hb
      rw [hq] at h
      cases h
    have nD : q ≠ D := fun z => nq (z ▸ List.mem_cons_self)
    have m5 : Ex H (upd H4 D (.lst (qs.map V.ref ++ [.ref q]))) := Ex.mut (e.trans e4) hD
    refine ⟨_, e4 _ _ ho, sz_lt (by rw [List.length_map]; omega), by omega, m5, qs ++ [q], ?_, ?_, by rw [upd_same, List.map_append]; rfl, by rw [List.length_append, hln]; rfl, fun j b hj => ?_⟩
    · rw [← List.cons_append]
      refine List.nodup_append.mpr ⟨nd, List.nodup_cons.mpr ⟨List.not_mem_nil, List.nodup_nil⟩, fun x hx y hy z => ?_⟩
      rw [List.mem_singleton.mp hy] at z
      exact nq (z ▸ hx)
    · intro b hb
      rw [← List.cons_append] at hb
      rcases List.mem_append.mp hb with hb | hb
      · exact nn b hb
      · rw [List.mem_singleton.mp hb]
        exact Ex.back e hq
    · rw [List.getElem?_append] at hj
      split at hj
      · have nb : b ≠ D := fun z => (List.nodup_cons.mp nd).1 (z ▸ List.mem_of_getElem? hj)
        rw [upd_ne nb]
        exact e4 _ _ (ha j b hj)
      · rename_i hge
        have ej : j = qs.length := by
          have := (List.getElem?_eq_some_iff.mp hj).1
          rw [List.length_singleton] at this
          omega
        subst ej
        rw [Nat.sub_self] at hj
        cases hj
        rw [upd_ne nD, hln]
        exact f4
  · have ei : i = n := by omega
    subst ei
    exact .inl ⟨hst H' e, fin D qs H' nd nn e ho hln ha⟩
theorem u_lcR1N {n : Int} (F : Nat → List V) (hz : 0 ≤ n ∧ n ≤ 40000)
    (turn : ∀ i : Nat, (i : Int) < n → ∀ H', Ex H H' → ∀ A : VK, (∀ q H4, H' q = none → Ex H' H4 → H4 q = some (.lst (F i)) → A (.ref q) H4) →
      g (.int (i : Int)) (wipe σ vs) H' fun σ2 H2 => wipe σ2 vs = wipe σ vs ∧ te σ2 H2 A)
    (fin : ∀ (D : Addr) (qs : List Addr) (H' : Hp), (D :: qs).Nodup → (∀ q ∈ D :: qs, H q = none) → Ex H H' → H' D = some (.lst (qs.map V.ref)) → qs.length = n.toNat → (∀ i q, qs[i]? = some q → H' q = some (.lst (F i))) → Q (.ref D) H') : LcR1 g tYes te vs σ [.int n] H Q := by
  have e62 : (2 : Int) ^ 62 = 4611686018427387904 := by decide
  refine ⟨n, rfl, by omega, by omega, lc_new (n := n.toNat) (fun i => .int (i : Int)) F (fun i H' hi e => hi) (fun H' e => Nat.le_refl _) (fun i v H0 H' hi e y => ?_) (fun i hi H' e A k => turn i (by omega) H' e A k) (by omega) fin⟩
  obtain ⟨rfl, rfl⟩ := y
  exact ⟨rfl, by rw [Int.zero_add]⟩
theorem paired_of {β γ : Type} {F : β → γ → Prop} : ∀ {xs : List β} {ys : List γ}, xs.length = ys.length → (∀ (i : Nat) (x : β) (y : γ), xs[i]? = some x → ys[i]? = some y → F x y) → Paired F xs ys
  | [], [], _, _ => .nil
  | x :: xs, y :: ys, h, f => .cons (f 0 x y rfl rfl) (paired_of (by simpa using h) fun i a b ha hb => f (i + 1) a b ha hb)
/-- .. are rows -/
theorem RW.of {K : PySem.W.Frag} {H H' : Hp} {D : Addr} {qs : List Addr} {α : Type} [Py α] {rs : List (List α)} {F : Nat → List V} (nd : (D :: qs).Nodup) (nn : ∀ q ∈ D :: qs, H q = none) (e : Ex H H') (ho : H' D = some (.lst (qs.map V.ref))) (hl : qs.length = rs.length)
    (ha : ∀ i q, qs[i]? = some q → H' q = some (.lst (F i))) (hp : ∀ i r, rs[i]? = some r → Paired (fun v x => Is K H v x) (F i) r) : RW K H H' D qs rs :=
  ⟨ho, nd, nn, e, paired_of hl fun i q r h1 h2 => ⟨_, ha i q h1, hp i r h2⟩⟩
theorem ints_pair {K : PySem.W.Frag} {H : Hp} : ∀ {xs : List Int}, Paired (fun v x => Is K H v x) (xs.map V.int) xs
  | [] => .nil
  | _ :: _ => .cons (Is.int _) ints_pair
end
section
variable {K : PySem.W.Frag} {σ : L2.St} {H : Hp} {te : TE} {Q : VK} {g : TG} {vs : List Nat}
theorem zip_fst {β γ : Type} : ∀ {xs : List β} {ys : List γ}, xs.length = ys.length → (xs.zip ys).map Prod.fst = xs
  | [], [], _ => rfl
  | _ :: xs, _ :: ys, h => congrArg _ (zip_fst (xs := xs) (ys := ys) (by simpa using h))
theorem zip_mem {β γ : Type} {F : β → γ → Prop} : ∀ {xs : List β} {ys : List γ}, Paired F xs ys → ∀ p ∈ xs.zip ys, F p.1 p.2 ∧ p.2 ∈ ys
  | _, _, .nil, _, h => nomatch h
  | _, _, .cons a t, p, h => by
    rcases List.mem_cons.mp h with rfl | h
    · exact ⟨a, List.mem_cons_self⟩
    · obtain ⟨h1, h2⟩ := zip_mem t p h
      exact ⟨h1, List.mem_cons_of_mem _ h2⟩
theorem paired_append {β γ : Type} {F : β → γ → Prop} : ∀ {xs : List β} {ys : List γ} {zs : List β} {ws : List γ}, Paired F xs ys → Paired F zs ws → Paired F (xs ++ zs) (ys ++ ws)
  | _, _, _, _, .nil, h => h
  | _, _, _, _, .cons a t, h => .cons a (paired_append t h)
end
theorem zip_map_snd {β γ δ : Type} (f : γ → δ) : ∀ {xs : List β} {ys : List γ}, xs.length = ys.length → (xs.zip ys).map (fun p => f p.2) = ys.map f
  | [], [], _ => rfl
  | _ :: xs, _ :: ys, h => congrArg _ (zip_map_snd f (xs := xs) (ys := ys) (by simpa using h))
section
variable {K : PySem.W.Frag} {σ : L2.St} {H : Hp} {tt : TT} {te : TE} {Q : VK} {g : TG} {vs : List Nat}
/-- a comprehension over data: numbers -/
theorem u_mapDI {β : Type} [Py β] {a : Addr} {xs : List β} (f : β → Int) (h : Is K H (.ref a) xs) (hz : xs.length ≤ 40000)
    (turn : ∀ v x, x ∈ xs → ∀ H', Ex H H' → Is K H v x → ∀ A : VK, (∀ H4, Ex H' H4 → A (.int (f x)) H4) → g v (wipe σ vs) H' fun σ2 H2 => wipe σ2 vs = wipe σ vs ∧ te σ2 H2 A)
    (fin : ∀ D H', H D = none → Ex H H' → H' D = some (.lst ((xs.map f).map V.int)) → Q (.ref D) H') : LcL K g tYes te vs σ (.ref a) H Q := by
  obtain ⟨b, us, e, h1, h2⟩ := h.list
  cases e
  have hl := Paired.length h2
  refine u_mapLI Prod.fst (us.zip xs) (fun p => f p.2) (by rw [zip_fst hl]; exact h1) (by rw [List.length_zip]; omega) (fun p hp H' e A hA => ?_) (fun D H' n e f' => ?_)
  · obtain ⟨g1, g2⟩ := zip_mem h2 p hp
    exact turn _ p.2 g2 H' e g1 A hA
  · refine fin D H' n e ?_
    rw [f']
    congr 3
    exact zip_map_snd f hl
end
section
variable {K : PySem.W.Frag} {H : Hp} {Q : VK}
theorem paired_drop {β γ : Type} {F : β → γ → Prop} : ∀ {xs : List β} {ys : List γ} (n : Nat), Paired F xs ys → Paired F (xs.drop n) (ys.drop n)
  | _, _, 0, h => h
  | _, _, _ + 1, .nil => .nil
  | _, _, n + 1, .cons _ t => paired_drop n t
theorem paired_take {β γ : Type} {F : β → γ → Prop} : ∀ {xs : List β} {ys : List γ} (n : Nat), Paired F xs ys → Paired F (xs.take n) (ys.take n)
  | _, _, 0, _ => by rw [List.take_zero, List.take_zero]; exact .nil
  | _, _, _ + 1, .nil => .nil
  | _, _, n + 1, .cons a t => .cons a (paired_take n t)
theorem paired_cut {β γ : Type} {F : β → γ → Prop} {xs : List β} {ys : List γ} (h : Paired F xs ys) (lo hi : Option Int) : Paired F (cutI xs lo hi) (cutI ys lo hi) := by
  unfold cutI
  rw [Paired.length h]
  exact paired_take _ (paired_drop _ h)
end
section
variable {K : PySem.W.Frag} {σ : L2.St} {H : Hp} {te : TE} {Q : VK} {g : TG} {vs : List Nat}
end
section
variable {K : PySem.W.Frag} {σ : L2.St} {H : Hp} {tt : TT} {te : TE} {Q : VK} {g : TG} {vs : List Nat}
/-- targets one behind another -/
theorem g_n {R : L2.St → Hp → Prop} : (fun (σ : L2.St) H => gNil [] σ H R) = R := by
  funext σ H
  exact propext ⟨fun z => z.2, fun z => ⟨rfl, z⟩⟩
theorem g_c {g : TG} {rest : List V → L2.St → Hp → (L2.St → Hp → Prop) → Prop} {y : V} {ys : List V} {R : L2.St → Hp → Prop} : gCons g rest (y :: ys) σ H R = g y σ H (fun σ1 H1 => rest ys σ1 H1 R) := by
  refine propext ⟨fun z => ?_, fun z => ⟨y, ys, rfl, z⟩⟩
  obtain ⟨y', r', e, z⟩ := z
  cases e
  exact z
theorem s_gt3 {b : Addr} {x y z : V} {g1 g2 g3 : TG} {R : L2.St → Hp → Prop} (h : SqT K H b [x, y, z]) (q : g1 x σ H fun σ1 H1 => g2 y σ1 H1 fun σ2 H2 => g3 z σ2 H2 R) : gTup K 3 (gCons g1 (gCons g2 (gCons g3 gNil))) (.ref b) σ H R := by
  refine ⟨b, _, rfl, h, rfl, ?_⟩
  rw [g_c]
  simp only [g_c, g_n]
  exact q
/-- a value that is a list of numbers of its own -/
noncomputable def Lp (H : Hp) (v : V) (r : List Int) : Prop := ∃ a, v = .ref a ∧ H a = some (.lst (r.map V.int))
end
theorem paired_flip {γ δ ε : Type} {F : ε → δ → Prop} (f : γ → δ) : ∀ {xs : List γ} {zs : List ε}, Paired (fun p z => F z (f p)) xs zs → Paired F zs (xs.map f)
  | _, _, .nil => .nil
  | _, _, .cons a t => .cons a (paired_flip f t)
section
variable {K : PySem.W.Frag} {σ : L2.St} {H : Hp} {tt : TT} {te : TE} {Q : VK} {g : TG} {vs : List Nat}
theorem lc_yes {A : VK} {B : Hp → Prop} : (fun (σ2 : L2.St) H2 => wipe σ2 vs = wipe σ vs ∧ tYes σ2 H2 fun b H3 => if b = true then te σ2 H3 A else B H3) = fun σ2 H2 => wipe σ2 vs = wipe σ vs ∧ te σ2 H2 A := by
  funext σ2 H2
  show (_ ∧ if true = true then te σ2 H2 A else B H2) = _
  rw [if_pos rfl]
end
/-! ### pairs of numbers, sorted -/
/-- a value that is a tuple of two numbers -/
noncomputable def Tp (H : Hp) (v : V) (r : Int × Int) : Prop := ∃ a, v = .ref a ∧ H a = some (.tup [.int r.1, .int r.2])
theorem Tp.ex {H H' : Hp} {v : V} {r : Int × Int} (e : Ex H H') (h : Tp H v r) : Tp H' v r := by
  obtain ⟨a, h1, h2⟩ := h
  exact ⟨a, h1, e _ _ h2⟩
theorem Tp.exm {H H' : Hp} {D : Addr} {xs : List V} {v : V} {r : Int × Int} (hD : H D = some (.lst xs)) (e : ExM D H H') (h : Tp H v r) : Tp H' v r := by
  obtain ⟨a, h1, h2⟩ := h
  refine ⟨a, h1, e _ _ (fun z => ?_) h2⟩
  rw [z, hD] at h2
  cases h2
noncomputable def lexI (a b : Int × Int) : Bool := decide (a.1 < b.1 ∨ (a.1 = b.1 ∧ a.2 ≤ b.2))
theorem lexI_iff {a b : Int × Int} : lexI a b = true ↔ (a.1 < b.1 ∨ (a.1 = b.1 ∧ a.2 ≤ b.2)) := decide_eq_true_iff
noncomputable def sortP (l : List (Int × Int)) : List (Int × Int) := l.mergeSort lexI
theorem sortP_perm (l : List (Int × Int)) : (sortP l).Perm l := List.mergeSort_perm l _
theorem sortP_sorted (l : List (Int × Int)) : (sortP l).Pairwise (fun a b => lexI a b = true) := List.pairwise_mergeSort (le := lexI) (fun a b c h1 h2 => lexI_iff.mpr (by
  have h1 := lexI_iff.mp h1
  have h2 := lexI_iff.mp h2
  omega)) (fun a b => by
  by_cases c : lexI a b = true
  · rw [c]; rfl
  · have : lexI b a = true := lexI_iff.mpr (by
      have c : ¬ (a.1 < b.1 ∨ (a.1 = b.1 ∧ a.2 ≤ b.2)) := fun z => c (lexI_iff.mpr z)
      omega)
    rw [this, Bool.or_true]) l
theorem sortP_of {l l' : List (Int × Int)} (p : l'.Perm l) (s : l'.Pairwise (fun a b => lexI a b = true)) : l' = sortP l :=
  List.Perm.eq_of_pairwise (le := fun a b => lexI a b = true) (fun a b _ _ h1 h2 => by
    have h1 := lexI_iff.mp h1
    have h2 := lexI_iff.mp h2
    exact Prod.ext (by omega) (by omega)) s (sortP_sorted l) (p.trans (sortP_perm l).symm)
theorem sortPA {X : Cx} {K : PySem.W.Frag} (hk : X.K = K) : CallR X (.builtin "sorted") (rSortedPO K) := hk ▸ cr_sortedPO
noncomputable def keyP (H : Hp) (v : V) : Int × Int := match v with
  | .ref t => match H t with
    | some (.tup [.int i, .int j]) => (i, j)
    | _ => (0, 0)
  | _ => (0, 0)
theorem keyP_of {H : Hp} {v : V} {r : Int × Int} (h : Tp H v r) : keyP H v = r := by
  obtain ⟨a, rfl, h2⟩ := h
  show (match H a with | some (.tup [.int i, .int j]) => (i, j) | _ => (0, 0)) = r
  rw [h2]
theorem keyP_map {H : Hp} : ∀ {vs : List V} {l : List (Int × Int)}, Paired (Tp H) vs l → vs.map (keyP H) = l
  | _, _, .nil => rfl
  | _, _, .cons a t => by rw [List.map_cons, keyP_of a, keyP_map t]
/-- values that are tuples of three, of four numbers -/
noncomputable def Rp (H : Hp) (v : V) (t : T3 Int Int Int) : Prop := ∃ a, v = .ref a ∧ H a = some (.tup [.int t.a, .int t.b, .int t.c])
noncomputable def Qp (H : Hp) (v : V) (t : T4 Int Int Int Int) : Prop := ∃ a, v = .ref a ∧ H a = some (.tup [.int t.a, .int t.b, .int t.c, .int t.d])
/-! ### a dict of counts -/
noncomputable def CntD (H : Hp) (p : Addr) (f : Int → Int) (n : Nat) : Prop := ∃ kvs : List (L2.Key × V), H p = some (.dK kvs) ∧ kvs.length ≤ n ∧ ∀ r : Int, (valV kvs (Sum.inl r)).getD (.int 0) = .int (f r)
noncomputable def DG1 (a : Addr) (y z : V) (H3 : Hp) (Q : VK) : Prop := ∃ o, DGet H3 a y o ∧ Q (o.getD z) H3
noncomputable def DG (ty tx : TE) (σ : L2.St) (x : V) (H1 : Hp) (Q : VK) : Prop := ∃ a, x = .ref a ∧ IsD H1 a ∧ ty σ H1 fun y H2 => tx σ H2 fun z H3 => DG1 a y z H3 Q
noncomputable def DP (x y v : V) (H : Hp) (R : Hp → Prop) : Prop := ∃ a H4, x = .ref a ∧ DPut H a y v H4 ∧ R H4
section
variable {σ : L2.St} {H : Hp} {td ty tx tv : TE} {Q : VK} {D : Ends} {p : Addr} {f : Int → Int} {n : Nat}
end
/-- a value that is a list of numbers, not the one at p -/
noncomputable def Lq (p : Addr) (H : Hp) (v : V) (r : List Int) : Prop := ∃ a, v = .ref a ∧ a ≠ p ∧ H a = some (.lst (r.map V.int))
theorem n_ext {H : Hp} {Q : VK} {a b : Addr} {xs ys : List V} (h : H a = some (.lst xs)) (h2 : H b = some (.lst ys)) (hz : xs.length + ys.length ≤ 100000) (q : ∀ H', ExM a H H' → H' a = some (.lst (xs ++ ys)) → Q .non H') : rExtend (.ref a) [.ref b] H Q := ⟨a, b, xs, ys, rfl, rfl, h, h2, sz_of hz, q _ ExM.upd upd_same⟩
end TR
namespace TR
open PySem L2
/-- a test | a value, with a word behind it: what follows is shown once, from Mid -/
noncomputable def tTCut (t : TT) : TT := fun σ H QB => ∃ Mid : Bool → Hp → Prop, t σ H Mid ∧ ∀ b H1, Mid b H1 → QB b H1
noncomputable def tECut (t : TE) : TE := fun σ H Q => ∃ Mid : VK, t σ H Mid ∧ ∀ v H1, Mid v H1 → Q v H1
end TR

/-! ### classes, methods, exceptions of the text -/
namespace TR
open PySem L2 PySem.Spec PyProof.Rows
/-- where a class of the text stands -/
noncomputable def clsA (K : PySem.W.Frag) (x : Str) : Addr := match PySem.W.nsIn K mainGlobals x with | some (some (.ref C)) => C | _ => 0
/-- a def that may raise keeps the promise -/
noncomputable def HasX (P : Program) (w : World) (K : PySem.W.Frag) (mg : Str → Option Value) (base : Heap) (x : Str) (k : Nat) (sp : Sp) : Prop :=
  ∃ f fd ps, FnOk P w K mg base (L2.CX P w) k f fd ps sp ∧ mg x = some (.ref f) ∧ PySem.W.keepIn K (.ref f) = true ∧ Binds K fd ps []
/-- a method -/
noncomputable def HasM (P : Program) (w : World) (K : PySem.W.Frag) (mg : Str → Option Value) (base : Heap) (x m : Str) (k : Nat) (sp : Sp) : Prop :=
  ∃ f fd ps, FnOk P w K mg base (L2.CX P w) k f fd ps sp ∧ Meth K (clsA K x) m f ∧ Binds K fd ps []
/-- a class that is made by its __init__ -/
noncomputable def HasK (P : Program) (w : World) (K : PySem.W.Frag) (mg : Str → Option Value) (base : Heap) (x : Str) (k : Nat) (sp : Sp) : Prop :=
  ∃ f fd ps, FnOk P w K mg base (L2.CX P w) k f fd ps sp ∧ Mk K (clsA K x) f ∧ mg x = some (.ref (clsA K x)) ∧ Binds K fd ps []
structure MethAt (K : PySem.W.Frag) (x m q : Str) (st : Stmt) (ps : List Str) : Prop where
  ex : ∃ f fd, Fun K m q st f fd ∧ Meth K (clsA K x) m f ∧ Binds K fd ps []
structure MakeAt (K : PySem.W.Frag) (mg : Str → Option Value) (x q : Str) (st : Stmt) (ps : List Str) : Prop where
  ex : ∃ f fd, Fun K "__init__" q st f fd ∧ Mk K (clsA K x) f ∧ mg x = some (.ref (clsA K x)) ∧ Binds K fd ps []
/-- an exception class with one field that its __init__ lays -/
structure ExF (K : PySem.W.Frag) (mg : Str → Option Value) (x f : Str) : Prop where
  o : OexC K (clsA K x)
  g : mg x = some (.ref (clsA K x))
  n : PySem.W.findIn K (.ref (clsA K x)) f = some none
structure ExAt (K : PySem.W.Frag) (x q : Str) (st : Stmt) (ps : List Str) : Prop where
  ex : ∃ fI fd, Fun K "__init__" q st fI fd ∧ PySem.W.findIn K (.ref (clsA K x)) "__init__" = some (some (.ref fI)) ∧ PySem.W.typeIn K (.ref fI) = some (.type "function") ∧ Binds K fd ps []
/-- the class over all own exceptions, itself right under ValueError -/
structure TeC (K : PySem.W.Frag) (mg : Str → Option Value) (x : Str) : Prop where
  g : mg x = some (.ref (clsA K x))
  ga : PySem.W.specialIn K (.ref (clsA K x)) "__getattribute__" = some (some (.builtin "type.__getattribute__"))
  rd : PySem.W.readsIn K (clsA K x) (.type "type") = true
  fi : PySem.W.findCls K (.ref (clsA K x)) (.type "type") "__init__" = some (.val (.builtin "ValueError.__init__"))
noncomputable def spInit (f : Str) (K : PySem.W.Frag) : Sp := fun vs H Q _ => ∃ (a C : Addr) (v : V), vs = [.ref a, v] ∧ OexC K C ∧ PySem.W.findIn K (.ref C) f = some none ∧ H a = some (exo a C none) ∧ ∀ d, H d = none → d ≠ a → Q .non (upd (upd H d (exd d [(f, v)])) a (exo a C (some d)))
noncomputable def HasE (P : Program) (w : World) (K : PySem.W.Frag) (mg : Str → Option Value) (base : Heap) (x f : Str) (k : Nat) : Prop :=
  ∃ fI fd ps, FnOk P w K mg base CX0 k fI fd ps (spInit f K) ∧ ExF K mg x f ∧ PySem.W.findIn K (.ref (clsA K x)) "__init__" = some (some (.ref fI)) ∧ PySem.W.typeIn K (.ref fI) = some (.type "function") ∧ Binds K fd ps []
/-- what may be let out at the slots σ -/
noncomputable abbrev Px (X : Cx) (E : L2.St → XK) : Prop := ∀ σ, PassesAt (L2.CX X.prog X.w) X σ (E σ)
noncomputable def tCallE (sp : Sp) (E : L2.St → XK) (t : TA) : TE := fun σ H Q => t σ H fun vs H1 => sp vs H1 Q (E σ)
noncomputable def tMethE (C : Addr) (m : Str) (sp : Sp) (E : L2.St → XK) (ta : TE) (t : TA) : TE := fun σ H Q => ta σ H fun x H1 => ∃ a dx fs, x = .ref a ∧ H1 a = some (.ins C dx fs) ∧ fs.lookup m = none ∧ t σ H1 fun vs H2 => sp (x :: vs) H2 Q (E σ)
noncomputable def tMakeE (C : Addr) (sp : Sp) (E : L2.St → XK) (t : TA) : TE := fun σ H Q => t σ H fun vs H1 => ∀ x dx, H1 x = none → H1 dx = none → dx ≠ x → sp (.ref x :: vs) (upd (upd H1 dx (.own x)) x (.ins C dx [])) (fun v H2 => v = .non ∧ Q (.ref x) H2) (E σ)
section
variable {X : Cx} {k k' : Nat} {sp : Sp} {x m f : Str} {p p1 p2 pos pos2 apos : Pos} {e o : Expr} {es : List Expr} {t : TA} {ta : TE} {E : L2.St → XK} {W : WX}
end
section
variable {X : Cx} {k k' : Nat} {sp : Sp} {x m f : Str} {p p1 p2 pos pos2 apos : Pos} {e o : Expr} {es : List Expr} {t : TA} {ta : TE} {W : WX}
/-- raise X(e) -/
noncomputable def tRaise (C : Addr) (f : Str) (W : WX) (t : TA) : TS := fun _ σ H => t σ H fun vs H1 => ∃ v, vs = [v] ∧ ∀ d, H1 d = none → W (.ref C) (some d) σ (upd H1 d (.xd [(f, v)]))
end
section
variable {P : Program} {w : World} {K : PySem.W.Frag} {mg : Str → Option Value} {base : Heap}
end
end TR
namespace TR
open PySem L2 PySem.Spec PyProof.Rows
end TR
namespace TR
open PySem L2 PySem.Spec PyProof.Rows
section
variable {P : Program} {w : World} {K : PySem.W.Frag} {mg : Str → Option Value} {base : Heap} {x y : Str} {k : Nat} {sp : Sp}
end
end TR
namespace TR
open PySem L2
section
variable {K : PySem.W.Frag} {H : Hp} {σ : L2.St} {Q : VK} {D : Ends} {C a dx : Addr} {f m : Str} {W : WX} {t : TA} {ta tv : TE} {E : L2.St → XK} {E1 : XK} {sp : Sp} {v : V} {fs : List (Str × V)}
noncomputable def RaP (C : Addr) (f : Str) (W : WX) (σ : L2.St) (vs : List V) (H : Hp) : Prop := ∃ v, vs = [v] ∧ ∀ d, H d = none → W (.ref C) (some d) σ (upd H d (.xd [(f, v)]))
noncomputable def MeP (C : Addr) (m : Str) (sp : Sp) (E1 : XK) (t : TA) (σ : L2.St) (x : V) (H1 : Hp) (Q : VK) : Prop := ∃ a dx fs, x = .ref a ∧ H1 a = some (.ins C dx fs) ∧ fs.lookup m = none ∧ t σ H1 fun vs H2 => sp (x :: vs) H2 Q E1
noncomputable def FlP (K : PySem.W.Frag) (f : Str) (x : V) (H : Hp) (Q : VK) : Prop := ∃ a C dx fs v, x = .ref a ∧ H a = some (.ins C dx fs) ∧ Cls K C ∧ NoAttr K C f ∧ fs.lookup f = some v ∧ Q v H
noncomputable def FsP (K : PySem.W.Frag) (f : Str) (y x : V) (H : Hp) (R : Hp → Prop) : Prop := ∃ a C dx fs, x = .ref a ∧ H a = some (.ins C dx fs) ∧ Cls K C ∧ NoAttr K C f ∧ fs.length < 1000 ∧ R (upd H a (.ins C dx (putF f y fs)))
noncomputable def MkP' (C : Addr) (sp : Sp) (E1 : XK) (vs : List V) (H1 : Hp) (Q : VK) : Prop := ∀ x dx, H1 x = none → H1 dx = none → dx ≠ x → sp (.ref x :: vs) (upd (upd H1 dx (.own x)) x (.ins C dx [])) (fun v H2 => v = .non ∧ Q (.ref x) H2) E1
end
end TR
namespace TR
open PySem L2
section
variable {K : PySem.W.Frag} {H : Hp} {σ : L2.St} {Q : VK} {D : Ends} {C a : Addr} {f : Str} {ta : TA} {to te : TE} {ws : List V} {y : V}
noncomputable def VeP (K : PySem.W.Frag) (vs : List V) (H1 : Hp) (Q : VK) : Prop := ∃ (a C : Addr) (ws : List V), vs = .ref a :: ws ∧ ws.length ≤ 1000 ∧ OexC K C ∧ H1 a = some (exo a C none) ∧ Q .non H1
noncomputable def OsP (K : PySem.W.Frag) (f : Str) (y x : V) (H2 : Hp) (R : Hp → Prop) : Prop := ∃ a C : Addr, x = .ref a ∧ OexC K C ∧ PySem.W.findIn K (.ref C) f = some none ∧
  ((H2 a = some (exo a C none) ∧ ∀ dx, H2 dx = none → dx ≠ a → R (upd (upd H2 dx (exd dx [(f, y)])) a (exo a C (some dx)))) ∨
    ∃ (dx : Addr) (fs : List (Str × V)), H2 a = some (exo a C (some dx)) ∧ H2 dx = some (exd dx fs) ∧ fs.length ≤ 900 ∧ R (upd H2 dx (exd dx ((f, y) :: fs))))
end
end TR
namespace TR
open PySem L2
end TR
namespace TR
open PySem L2 PySem.Spec PyProof.Rows
section
variable {X : Cx} {K : PySem.W.Frag} {k k' : Nat} {sp : Sp} {x m f : Str} {p pos apos : Pos} {e o : Expr} {es : List Expr} {t : TA} {ta : TE} {E : L2.St → XK}
end
end TR
namespace TR
open PySem L2
section
variable {K : PySem.W.Frag} {x y f : Str} {C D : Addr} {b : Bool}
end
section
variable {K : PySem.W.Frag} {c cls : Value} {i : Nat} {ts : Addr → Value → Option Addr → TS} {Wout : WX} {D : Ends} {d : Option Addr} {σ : L2.St} {H : Hp} {a dd C : Addr} {f : Str} {te : TE} {Q : VK} {fs : List (Str × V)} {v : V}
noncomputable def XfP (a : Addr) (cls : Value) (d : Option Addr) (C : Addr) (f : Str) (x : V) (H1 : Hp) (Q : VK) : Prop := x = .ref a ∧ cls = .ref C ∧ ∃ (dd : Addr) (fs : List (Str × V)) (v : V), d = some dd ∧ H1 dd = some (.xd fs) ∧ fs.lookup f = some v ∧ Q v H1
end
end TR
namespace TR
open PySem L2 PySem.Spec PyProof.Rows
/-- what isinstance(x, C) asks of an own class -/
structure IsiC (K : PySem.W.Frag) (C : Addr) : Prop where
  cl : Cls K C
  ha : PySem.W.findIn K (.ref C) "__class__" = some (some (.builtin "object.__class__"))
  hn : PySem.W.specialIn K (.builtin "object.__class__") "__get__" = some (some (.builtin "getset_descriptor.__get__"))
  htk : PySem.W.takesIn K (.builtin "object.__class__") = some true
  hm : PySem.W.mroIn K C (.type "object") = some true
  me : PySem.W.kitOne K (.ref C) (.ref C) = some true
end TR
namespace TR
open PySem L2 PySem.Spec PyProof.Rows
section
variable {X : Cx} {CX : CXT} {k k' : Nat} {f C : Addr} {fd : FuncData} {ps : List Str} {sp : Sp} {x : Str} {p pos : Pos} {e : Expr} {es : List Expr} {t : TA}
end
end TR
/-! an exception class without an __init__ of its own: raise X() -/
namespace TR
open PySem L2 PySem.Spec PyProof.Rows
noncomputable def bmVE : List Value := [.type "ValueError", .type "Exception", .type "BaseException", .type "object"]
structure ExB (K : PySem.W.Frag) (mg : Str → Option Value) (x : Str) : Prop where
  g : mg x = some (.ref (clsA K x))
  q : PySem.W.excIn K (clsA K x) bmVE "ValueError.__new__" = true
  kC : PySem.W.keepIn K (.ref (clsA K x)) = true
  exC : PySem.W.subIn K (.ref (clsA K x)) (.type "BaseException") = some true
  tyC : PySem.W.typeIn K (.ref (clsA K x)) = some (.type "type")
noncomputable def tRaise0 (C : Addr) (W : WX) : TS := fun _ σ H => W (.ref C) none σ H
section
variable {X : Cx} {x : Str} {p pos pos2 : Pos} {W : WX}
end
section
variable {K : PySem.W.Frag} {mg : Str → Option Value}
end
end TR
namespace TR
open PySem L2
end TR

/-! short words: hp (what stands at an address), ex (a heap grows into another), ne, fr, sq, st; s (one step of a reading), ss (steps as far as they go) -/
open PySem L2 TR
local macro_rules | `(tactic| walk_at "ex") => `(tactic| first
  | exact Ex.refl _
  | assumption
  | focus (apply Ex.trans; rotate_left; assumption; walk_at "ex")
  | focus (apply Ex.exm; rotate_left; rotate_left; assumption; walk_at "ex"; (walk_at "fr2")))
local macro_rules | `(tactic| walk_at "fr2") => `(tactic| first
  | assumption
  | focus (apply Ex.back; rotate_left; assumption; walk_at "ex"))
local macro_rules | `(tactic| walk_at "hp") => `(tactic| first
  | assumption
  | (apply ex_ap; assumption; walk_at "hp")
  | (apply exm_ap; assumption; walk_at "ne"; walk_at "hp"))
local macro_rules | `(tactic| walk_at "ne") => `(tactic| first
  | assumption
  | (apply Ne.symm; assumption)
  | exact TR.hand_ne0 (by assumption) (by assumption))
local macro_rules | `(tactic| walk_at "sq") => `(tactic| first
  | assumption
  | exact RW.sq (by assumption)
  | (apply sq_of; walk_at "hp")
  | focus (apply Ex.sq; rotate_left; assumption; walk_at "ex"))
local macro_rules | `(tactic| walk_at "st") => `(tactic| first
  | assumption
  | (apply st_of; walk_at "hp")
  | focus (apply Ex.st; rotate_left; assumption; walk_at "ex"))
local macro_rules | `(tactic| walk_at "is") => `(tactic| first
  | exact Is.int _
  | assumption
  | exact RW.is (by assumption)
  | (apply Is.ints; walk_at "sq")
  | focus (apply Is.ex; rotate_left; assumption; walk_at "ex"))
local macro_rules | `(tactic| walk_at "la") => `(tactic| first
  | assumption)
local macro_rules | `(tactic| walk_at "at") => `(tactic| first
  | exact atI_lt (by decide) rfl
  | rfl)
local macro_rules | `(tactic| walk_at "ixn") => `(tactic| first
  | rfl)
local macro_rules | `(tactic| walk_at "len") => `(tactic| first
  | omega
  | (simp only [List.length_map, List.length_range, List.length_append, List.length_cons, List.length_nil, List.length_reverse, List.length_set]; omega)
  | (simp only [List.length_map, List.length_range, List.length_append, List.length_cons, List.length_nil, List.length_reverse, List.length_set, sortI_len]; omega))
local macro_rules | `(tactic| walk_at "od") => `(tactic| first
  | decide
  | omega
  | exact Nat.le_of_ble_eq_true rfl)
local macro_rules | `(tactic| walk_at "kit") => `(tactic| first
  | exact k_ii
  | exact k_is)
local macro_rules | `(tactic| walk_at "s") => `(tactic| first
  | (with_reducible (first | apply s_seq | apply s_asg | apply s_gname | apply s_ret | apply s_if | apply s_next | apply s_drop))
  | ((with_reducible apply s_var); rfl)
  | (with_reducible (first | apply s_c | apply s_op | apply s_un | apply s_test | apply s_tB | apply s_bl | apply s_and | apply s_or | apply s_I0 | apply s_U | apply s_plusI | apply s_eqI))
  | ((with_reducible apply s_mod); walk_at "od"; intro _ _)
  | ((with_reducible apply s_div); walk_at "od"; walk_at "od")
  | (walk_at "pow")
  | ((with_reducible apply s_pow); decide; walk_at "od")
  | ((with_reducible apply s_mulL); walk_at "od")
  | ((with_reducible apply s_mulR); walk_at "od")
  | (with_reducible (first | apply s_nil | apply s_cons | apply s_call | apply s_CB | apply s_lst | apply s_tup | apply s_sl | apply s_np | apply s_part | apply s_int | apply s_BM | apply s_gsub | apply s_augS | apply s_ipI | apply s_forL | apply s_forR1 | apply s_forR2 | apply s_lcL | apply s_lcR1))
  | ((with_reducible apply s_wp); rfl)
  | ((with_reducible apply s_maxL); walk_at "sq"; walk_at "len")
  | ((with_reducible apply n_sorted); walk_at "sq"; intro _ _ _ _ _)
  | ((with_reducible apply s_gt2); walk_at "st")
  | (with_reducible (first | apply s_max2 | apply s_abs))
  | ((with_reducible apply s_isiI); walk_at "kit")
  | ((with_reducible apply s_isiB); walk_at "kit")
  | ((with_reducible apply s_isiS); walk_at "kit")
  | ((with_reducible apply s_isiN); walk_at "kit")
  | ((with_reducible apply s_isiL); walk_at "sq"; walk_at "kit")
  | ((with_reducible apply s_isiT); walk_at "st"; walk_at "kit")
  | ((with_reducible apply s_lenM); walk_at "sq")
  | ((with_reducible apply n_slL); walk_at "sq"; intro _ _ _ _ _)
  | ((with_reducible apply s_index); walk_at "sq"; assumption; intro _ _ _)
  | ((with_reducible apply s_inL); walk_at "sq")
  | ((with_reducible apply s_tyL); walk_at "sq")
  | ((with_reducible apply n_lst); walk_at "od"; intro _ _ _ _ _)
  | ((with_reducible apply n_tup); walk_at "od"; intro _ _ _ _ _)
  | ((with_reducible apply n_cat); walk_at "hp"; walk_at "hp"; walk_at "len"; intro _ _ _ _ _)
  | ((with_reducible apply s_aug); rfl)
  | ((with_reducible apply s_ixL); walk_at "sq"; walk_at "at")
  | ((with_reducible apply s_ixT); walk_at "st"; walk_at "at")
  | ((with_reducible apply s_ix3); walk_at "sq"; omega; intro _ _)
  | ((with_reducible apply s_ixI); walk_at "sq"; omega; intro _ _)
  | ((with_reducible apply s_getL); walk_at "sq"; decide; walk_at "at")
  | ((with_reducible apply n_setL); walk_at "hp"; walk_at "ixn"; intro _ _ _)
  | ((with_reducible apply s_eqP (α := List Int)); walk_at "is"; walk_at "is"; decide)
  | ((with_reducible apply s_neP (α := List Int)); walk_at "is"; walk_at "is"; decide)
  | ((with_reducible apply s_eqP (α := Int × Int)); walk_at "is"; walk_at "is"; decide)
  | ((with_reducible apply s_neP (α := Int × Int)); walk_at "is"; walk_at "is"; decide)
  | ((with_reducible apply s_eqP (α := Bool × Int)); walk_at "is"; walk_at "is"; decide)
  | ((with_reducible apply s_neP (α := Bool × Int)); walk_at "is"; walk_at "is"; decide)
  | ((with_reducible apply s_eqP (α := Int × Option Int)); walk_at "is"; walk_at "is"; decide)
  | ((with_reducible apply s_neP (α := Int × Option Int)); walk_at "is"; walk_at "is"; decide)
  | ((with_reducible apply s_eqP (α := T3 Int Int Int)); walk_at "is"; walk_at "is"; decide)
  | ((with_reducible apply s_neP (α := T3 Int Int Int)); walk_at "is"; walk_at "is"; decide)
  | ((with_reducible apply s_eqP (α := T4 Int Int Int Int)); walk_at "is"; walk_at "is"; decide)
  | ((with_reducible apply s_neP (α := T4 Int Int Int Int)); walk_at "is"; walk_at "is"; decide)
  | ((with_reducible apply s_eqP (α := List (Int × Int))); walk_at "is"; walk_at "is"; decide)
  | ((with_reducible apply s_neP (α := List (Int × Int))); walk_at "is"; walk_at "is"; decide)
  | ((with_reducible apply s_eqP (α := List (T3 Int Int Int))); walk_at "is"; walk_at "is"; decide)
  | ((with_reducible apply s_neP (α := List (T3 Int Int Int))); walk_at "is"; walk_at "is"; decide)
  | ((with_reducible apply s_eqP (α := List (T4 Int Int Int Int))); walk_at "is"; walk_at "is"; decide)
  | ((with_reducible apply s_neP (α := List (T4 Int Int Int Int))); walk_at "is"; walk_at "is"; decide)
  | ((with_reducible apply s_eqP (α := List (List Int))); walk_at "is"; walk_at "is"; decide)
  | ((with_reducible apply s_neP (α := List (List Int))); walk_at "is"; walk_at "is"; decide)
  | (with_reducible (first | apply i_t | apply i_f | apply i_nt))
  | ((with_reducible apply i_df); (focus (first | assumption | omega | exact (fun h => h rfl)))))
local macro_rules | `(tactic| walk_at "pow") => `(tactic| first
  | (with_reducible (first | apply s_pow2_56 | apply s_pow2_60 | apply s_pow10_6 | apply s_pow10_18)))
local macro_rules | `(tactic| walk_at "cx") => `(tactic| try dsimp only [cx_K, cx_K2])
local macro_rules | `(tactic| walk_at "ss") => `(tactic| ((try dsimp only); (repeat walk_at "s")))

/-! sorted of pairs of a number and a text, no two unlike ones of the same number -/
namespace SrtS
open PySem PySem.W PyProof.Rows SrtO
section
variable {prog : Program} {w : World} {A : Around} {E : Value → Shared → Prop} {s : Shared}
noncomputable def IsPS (h : Heap) (v : Value) (x : Int) (y : Str) : Prop := ∃ a o t u n, v = .ref a ∧ h.get? a = some o ∧ o.cls = .type "tuple" ∧ o.data = .seq #[.int x t, .str y u] n
noncomputable def ltI (p q : Int × Str) : Bool := decide (p.1 < q.1)
end
end SrtS
namespace L2
open PySem PySem.Spec PyProof.Rows
noncomputable def EntV (K : PySem.W.Frag) (H : Hp) (x : V) (e : Int × Str) : Prop := ∃ t, x = V.ref t ∧ SqT K H t [.int e.1, .str e.2]
noncomputable def rSortedPS (K : PySem.W.Frag) : List V → Hp → VK → Prop := fun vs H Q => ∃ (a : Addr) (xs : List V) (l : List (Int × Str)), vs = [V.ref a] ∧ SqL K H a xs ∧ Paired (EntV K H) xs l ∧
  (∀ x ∈ l, ∀ y ∈ l, x.1 = y.1 → x.2 = y.2) ∧
  ∀ (ps : List (V × (Int × Str))) p, ps.Pairwise (fun x y => x.2.1 ≤ y.2.1) → ps.Perm (xs.zip l) → H p = none → Q (.ref p) (upd H p (.lst (ps.map Prod.fst)))
end L2

/-! entries, rows, rooms, yards as data; comprehensions that draw -/
namespace TR
open PySem L2
/-- a text of signs that there are -/
noncomputable abbrev Tx := {x : Str // PyData.strOk x = true}
instance : Inhabited Tx := ⟨⟨⟨#[]⟩, by simp [PyData.strOk]⟩⟩
instance : Py Tx := ⟨fun x => .str x.1, 0, fun _ => Nat.le_refl _, fun x => x.2, fun a b => by
  rw [PyData.eqv, beq_iff_eq]
  exact Subtype.ext_iff.symm⟩
instance : Py (Option Tx) := ⟨fun o => match o with | none => .none | some i => .str i.1, 0, fun o => by cases o <;> exact Nat.le_refl _, fun o => by
  cases o with
  | none => rfl
  | some x => exact x.2, fun a b => by
  cases a <;> cases b
  · exact ⟨fun _ => rfl, fun _ => rfl⟩
  · exact ⟨fun h => (Bool.false_ne_true h).elim, fun h => nomatch h⟩
  · exact ⟨fun h => (Bool.false_ne_true h).elim, fun h => nomatch h⟩
  · rename_i x y
    show (x.1 == y.1) = true ↔ some x = some y
    rw [beq_iff_eq, Option.some.injEq]
    exact Subtype.ext_iff.symm⟩
noncomputable abbrev Ent := Int × Tx
noncomputable abbrev Row := List Ent
noncomputable abbrev Yard := T3 Int Int (List (List Row))
instance : DecidableEq Tx := fun a b => decidable_of_iff (a.1 = b.1) Subtype.ext_iff.symm
instance : DecidableEq Yard := fun a b => decidable_of_iff (a.a = b.a ∧ a.b = b.b ∧ a.c = b.c) (by
  obtain ⟨a1, a2, a3⟩ := a
  obtain ⟨b1, b2, b3⟩ := b
  exact T3.mk.injEq .. ▸ Iff.rfl)
section
variable {K : PySem.W.Frag} {H : Hp} {v : V}
end
/-! ### rows sorted by their keys -/
noncomputable def sortE (l : Row) : Row := l.mergeSort (fun a b => decide (a.1 ≤ b.1))
/-- no two unlike entries of one key -/
noncomputable def OneK (l : Row) : Prop := ∀ x ∈ l, ∀ y ∈ l, x.1 = y.1 → x.2 = y.2
end TR
namespace TR
open PySem L2
/-! ### pure values out of data, some of them -/
section
variable {K : PySem.W.Frag} {σ : L2.St} {H : Hp} {tt : TT} {te : TE} {Q : VK} {g : TG} {vs : List Nat}
end
/-! ### comprehensions that draw -/
section
variable {K : PySem.W.Frag} {σ : L2.St} {H : Hp} {te : TE} {Q : VK} {g : TG} {vs : List Nat}
end
end TR

/-! data that stands in plain lists and tuples: all its lists are tracked -/
namespace TR
open PySem L2
mutual
inductive Dt (H : Hp) : V → PyData → Prop
  | non : Dt H .non .none
  | bl (b : Bool) : Dt H (.bl b) (.bool b)
  | int (i : Int) : Dt H (.int i) (.int i)
  | str (x : Str) : Dt H (.str x) (.str x)
  | lst {a : Addr} {vs : List V} {ds : List PyData} : H a = some (.lst vs) → DtAll H vs ds → Dt H (.ref a) (.list ds)
  | tup {a : Addr} {vs : List V} {ds : List PyData} : H a = some (.tup vs) → DtAll H vs ds → Dt H (.ref a) (.tuple ds)
inductive DtAll (H : Hp) : List V → List PyData → Prop
  | nil : DtAll H [] []
  | cons {v : V} {vs : List V} {d : PyData} {ds : List PyData} : Dt H v d → DtAll H vs ds → DtAll H (v :: vs) (d :: ds)
end
mutual
theorem Dt.ex {H H' : Hp} (e : Ex H H') : ∀ {v : V} {d : PyData}, Dt H v d → Dt H' v d
  | _, _, .non => .non
  | _, _, .bl b => .bl b
  | _, _, .int i => .int i
  | _, _, .str x => .str x
  | _, _, .lst s a => .lst (e _ _ s) (DtAll.ex e a)
  | _, _, .tup s a => .tup (e _ _ s) (DtAll.ex e a)
theorem DtAll.ex {H H' : Hp} (e : Ex H H') : ∀ {vs : List V} {ds : List PyData}, DtAll H vs ds → DtAll H' vs ds
  | _, _, .nil => .nil
  | _, _, .cons a r => .cons (Dt.ex e a) (DtAll.ex e r)
end
mutual
theorem Dt.dp {K : PySem.W.Frag} {H : Hp} : ∀ {v : V} {d : PyData}, Dt H v d → Dp K H v d
  | _, _, .non => .non
  | _, _, .bl b => .bl b
  | _, _, .int i => .int i
  | _, _, .str x => .str x
  | _, _, .lst s a => .lst (sq_of s) (DtAll.dp a)
  | _, _, .tup s a => .tup (st_of s) (DtAll.dp a)
theorem DtAll.dp {K : PySem.W.Frag} {H : Hp} : ∀ {vs : List V} {ds : List PyData}, DtAll H vs ds → DpAll K H vs ds
  | _, _, .nil => .nil
  | _, _, .cons a r => .cons (Dt.dp a) (DtAll.dp r)
end
/-- the value v stands in H as the thing x -/
noncomputable abbrev Ik (H : Hp) {α : Type} [Py α] (v : V) (x : α) : Prop := Dt H v (Py.d x)
section
variable {K : PySem.W.Frag} {H H' : Hp} {α β γ δ : Type} [Py α] [Py β] [Py γ] [Py δ] {v w u t : V} {x : α} {y : β} {z : γ} {r : δ} {a : Addr}
theorem Ik.is (h : Ik H v x) : Is K H v x := Dt.dp h
theorem Ik.ex (e : Ex H H') (h : Ik H v x) : Ik H' v x := Dt.ex e h
theorem Ik.int (i : Int) : Ik H (.int i) i := Dt.int i
theorem Ik.nil (h : H a = some (.lst [])) : Ik H (.ref a) ([] : List α) := .lst h .nil
theorem Ik.three (h : H a = some (.tup [v, w, u])) (h1 : Ik H v x) (h2 : Ik H w y) (h3 : Ik H u z) : Ik H (.ref a) (T3.mk x y z) := .tup h (.cons h1 (.cons h2 (.cons h3 .nil)))
theorem Ik.list {xs : List α} (h : Ik H v xs) : ∃ a vs, v = .ref a ∧ H a = some (.lst vs) ∧ Paired (fun v x => Ik H v x) vs xs := by
  have go : ∀ (vs : List V) (ys : List α), DtAll H vs (ys.map Py.d) → Paired (fun v x => Ik H v x) vs ys := by
    intro vs ys
    induction ys generalizing vs with
    | nil => intro h; cases h; exact .nil
    | cons y ys ih =>
      intro h
      cases h with
      | cons h1 h2 => exact .cons h1 (ih _ h2)
  have h' : Dt H v (.list (xs.map Py.d)) := h
  cases h' with
  | lst s a => exact ⟨_, _, rfl, s, go _ _ a⟩
theorem Ik.of_list {vs : List V} {xs : List α} (s : H a = some (.lst vs)) (h : Paired (fun v x => Ik H v x) vs xs) : Ik H (.ref a) xs := by
  have go : ∀ {vs : List V} {ys : List α}, Paired (fun v x => Ik H v x) vs ys → DtAll H vs (ys.map Py.d) := by
    intro vs ys h
    induction h with
    | nil => exact .nil
    | cons h1 _ ih => exact .cons h1 ih
  exact .lst s (go h)
theorem pair_intsK : ∀ {vs : List V} {xs : List Int}, Paired (fun v x => Ik H v x) vs xs → vs = xs.map V.int
  | _, _, .nil => rfl
  | _, _, .cons (a := v) (b := i) h r => by
    have h' : Dt H v (.int i) := h
    cases h'
    rw [pair_intsK r]
    rfl
theorem ints_pairK : ∀ {xs : List Int}, Paired (fun v x => Ik H v x) (xs.map V.int) xs
  | [] => .nil
  | _ :: _ => .cons (Ik.int _) ints_pairK
theorem Ik.three_of {t : T3 α β γ} (h : Ik H v t) : ∃ a x y z, v = .ref a ∧ H a = some (.tup [x, y, z]) ∧ Ik H x t.a ∧ Ik H y t.b ∧ Ik H z t.c := by
  have h' : Dt H v (.tuple [Py.d t.a, Py.d t.b, Py.d t.c]) := h
  cases h' with
  | tup s a =>
    cases a with
    | cons h1 r => cases r with
      | cons h2 r => cases r with
        | cons h3 r => cases r; exact ⟨_, _, _, _, rfl, s, h1, h2, h3⟩
theorem Ik.int_of {i : Int} (h : Ik H v i) : v = .int i := by
  have h' : Dt H v (.int i) := h
  cases h'
  rfl
theorem Ik.ref_of {xs : List α} (h : Ik H v xs) : ∃ b, v = .ref b ∧ Ik H (.ref b) xs := by
  obtain ⟨b, vs, e, h6, h7⟩ := h.list
  exact ⟨b, e, e ▸ h⟩
theorem itemK {vs : List V} {l : List α} (p : Paired (fun v x => Ik H v x) vs l) {i : Nat} {v : V} (h : vs[i]? = some v) : ∃ x, l[i]? = some x ∧ Ik H v x := pair_get' p h
end
section
variable {K : PySem.W.Frag} {Z H : Hp} {α β : Type} [Py α] [Py β] {v : V} {σ : L2.St} {R : L2.St → Hp → Prop} {Q : VK}
end
end TR

/-! T: from (Z, H) to (Z', H'). Z is what stays for ever; only M's things are changed -/
namespace TR
open PySem L2
structure T (M : List Addr) (Z H Z' H' : Hp) : Prop where
  z : Ex Z Z'
  zh : Ex Z' H'
  m : ∀ b o, b ∉ M → H b = some o → H' b = some o
  al : ∀ b o, H b = some o → ∃ o', H' b = some o'
  fr : ∀ b, b ∉ M → Z b = none → (∃ o, H b = some o) → Z' b = none
/-- p stands in H and may be changed -/
structure Mu (Z H : Hp) (p : Addr) : Prop where
  z : Z p = none
  a : ∃ o, H p = some o
/-- a list that stands in H, its things in Z -/
noncomputable def Li (Z H : Hp) (p : Addr) {α : Type} [Py α] (l : List α) : Prop := ∃ vs, H p = some (.lst vs) ∧ Paired (fun v x => Ik Z v x) vs l
/-- .. and that stays as it is -/
noncomputable def Ls (Z : Hp) (p : Addr) {α : Type} [Py α] (l : List α) : Prop := Li Z Z p l
/-- a list that is filled: it stands at D, its things in Z -/
structure Lm (Z H : Hp) (D : Addr) {α : Type} [Py α] (l : List α) : Prop where
  ex : ∃ vs, H D = some (.lst vs) ∧ Paired (fun v x => Ik Z v x) vs l
  zd : Z D = none
  zh : Ex Z H
theorem nm_nil {b : Addr} : b ∉ ([] : List Addr) := List.not_mem_nil
theorem nm_cons {b x : Addr} {M : List Addr} (h : b ≠ x) (t : b ∉ M) : b ∉ x :: M := fun z => by
  rcases List.mem_cons.mp z with z | z
  · exact h z
  · exact t z
theorem mm_nil {N : List Addr} {H : Hp} : ∀ x ∈ ([] : List Addr), x ∈ N ∨ H x = none := fun _ h => absurd h List.not_mem_nil
theorem mm_cons {N M : List Addr} {H : Hp} {y : Addr} (h : y ∈ N ∨ H y = none) (t : ∀ x ∈ M, x ∈ N ∨ H x = none) : ∀ x ∈ y :: M, x ∈ N ∨ H x = none := fun x hx => by
  rcases List.mem_cons.mp hx with e | hx
  · rw [e]; exact h
  · exact t x hx
theorem mm_same {N : List Addr} {H : Hp} : ∀ x ∈ N, x ∈ N ∨ H x = none := fun _ h => .inl h
section
variable {K : PySem.W.Frag} {M N : List Addr} {Z H Z1 H1 Z2 H2 Z' H' Z0 H0 : Hp} {p b h D : Addr} {o : HO} {v : V} {α : Type} {iα : Py α} {x : α} {l : List α} {n : Nat}
theorem T.refl (e : Ex Z H) : T M Z H Z H := ⟨Ex.refl _, e, fun _ _ _ h => h, fun _ o h => ⟨o, h⟩, fun _ _ h _ => h⟩
theorem T.step (a : T N Z H Z1 H1) (b : T M Z1 H1 Z2 H2) (h : ∀ x ∈ M, x ∈ N ∨ H x = none) : T N Z H Z2 H2 := by
  have nm : ∀ x, x ∉ N → (∃ o, H x = some o) → x ∉ M := fun x nx ⟨o, ho⟩ hx => by
    rcases h x hx with g | g
    · exact nx g
    · rw [ho] at g; cases g
  refine ⟨a.z.trans b.z, b.zh, fun c o nc hc => b.m c o (nm c nc ⟨o, hc⟩) (a.m c o nc hc), fun c o hc => ?_, fun c nc zc ⟨o, hc⟩ => ?_⟩
  · obtain ⟨o', ho'⟩ := a.al c o hc
    exact b.al c o' ho'
  · obtain ⟨o', ho'⟩ := a.al c o hc
    exact b.fr c (nm c nc ⟨o, hc⟩) (a.fr c nc zc ⟨o, hc⟩) ⟨o', ho'⟩
theorem T.nn (t : T M Z H Z' H') (n : H' b = none) : H b = none := by
  cases c : H b with
  | none => rfl
  | some o =>
    obtain ⟨o', ho'⟩ := t.al b o c
    rw [n] at ho'
    cases ho'
/-- all that stood stands: b is new -/
noncomputable def AC (H H' : Hp) : Prop := ∀ b, H' b = none → H b = none
theorem AC.refl : AC H H := fun _ h => h
theorem T.ac (t : T M Z1 H1 Z2 H2) (a : AC H H1) : AC H H2 := fun b h => a b (t.nn h)
theorem fresh_of (n : H1 b = none) (c : AC H H1) : H b = none := c b n
theorem Ik.tt (t : T M Z H Z' H') (h : Ik Z v x) : Ik Z' v x := Ik.ex t.z h
theorem T.sqz {xs : List V} (t : T M Z H Z' H') (h : SqL K Z p xs) : SqL K Z' p xs := t.z.sq h
theorem T.pz (t : T M Z H Z' H') (h : Z p = some o) : Z' p = some o := t.z _ _ h
theorem T.hp (t : T M Z H Z' H') (n : p ∉ M) (h : H p = some o) : H' p = some o := t.m _ _ n h
theorem T.all (t : T M Z H Z' H') (h : ∃ o, H p = some o) : ∃ o, H' p = some o := by
  obtain ⟨o, ho⟩ := h
  exact t.al _ _ ho
theorem T.mu (t : T M Z H Z' H') (n : p ∉ M) (a : Mu Z H p) : Mu Z' H' p := ⟨t.fr _ n a.z a.a, t.all a.a⟩
theorem Hand.tt (t : T M Z H Z' H') (nm : h ∉ M) (a : Hand K Z H h n) : Hand K Z' H' h n := by
  obtain ⟨d, k, c, cells, h1, h3, h4, h5, z1, z2, z3⟩ := a
  exact ⟨d, k, c, cells, t.m _ _ nm h1, h3, h4, h5, t.zh, t.fr _ nm z2 ⟨_, h1⟩, t.z.sq z3⟩
theorem Lm.isH (a : Lm Z H D l) : Ik H (.ref D) l := by
  obtain ⟨⟨vs, h1, h2⟩, h3, h4⟩ := a
  exact Ik.of_list h1 (Paired.mapP h2 fun v x g => Ik.ex h4 g)
theorem Lm.at_ (a : Lm Z H D l) : ∃ o, H D = some o := by
  obtain ⟨⟨vs, h1, h2⟩, h3, h4⟩ := a
  exact ⟨_, h1⟩
theorem Lm.mu (a : Lm Z H D l) : Mu Z H D := ⟨a.zd, a.at_⟩
theorem Lm.tt (t : T M Z H Z' H') (nm : D ∉ M) (a : Lm Z H D l) : Lm Z' H' D l := by
  have hd := a.zd
  have ha := a.at_
  obtain ⟨⟨vs, h1, h2⟩, h3, h4⟩ := a
  exact ⟨⟨vs, t.m _ _ nm h1, Paired.mapP h2 fun v x h => Ik.ex t.z h⟩, t.fr _ nm hd ha, t.zh⟩
theorem Ls.tt (t : T M Z H Z' H') (a : Ls Z p l) : Ls Z' p l := by
  obtain ⟨vs, h1, h2⟩ := a
  exact ⟨vs, t.z _ _ h1, Paired.mapP h2 fun v x h => Ik.ex t.z h⟩
theorem Ls.is (a : Ls Z p l) : Ik Z (.ref p) l := by
  obtain ⟨vs, h1, h2⟩ := a
  exact Ik.of_list h1 h2
theorem Lm.li (a : Lm Z H D l) : Li Z H D l := a.ex
theorem Ls.ints {l : List Int} (a : Ls Z p l) : Z p = some (.lst (l.map V.int)) := by
  obtain ⟨vs, h1, h2⟩ := a
  rw [h1, pair_intsK h2]
theorem Li.ints {l : List Int} (a : Li Z H p l) : H p = some (.lst (l.map V.int)) := by
  obtain ⟨vs, h1, h2⟩ := a
  rw [h1, pair_intsK h2]
theorem Lm.ints {l : List Int} (a : Lm Z H D l) : H D = some (.lst (l.map V.int)) := a.li.ints
theorem Ls.ofInts {l : List Int} (h : Z p = some (.lst (l.map V.int))) : Ls Z p l := ⟨_, h, ints_pairK⟩
/-! ways in: from the old words -/
theorem T.ofEx (e : Ex H H') (z : Ex Z H) : T M Z H Z H' := ⟨Ex.refl _, z.trans e, fun _ _ _ h => e _ _ h, fun _ o h => ⟨o, e _ _ h⟩, fun _ _ h _ => h⟩
theorem T.ofExM (m : ExM h H H') (a : ∃ o, H' h = some o) (z : Ex Z H) (zn : Z h = none) : T [h] Z H Z H' :=
  ⟨Ex.refl _, z.exm zn m, fun _ o n e => m _ o (fun z => n (by rw [z]; exact List.mem_cons_self)) e, fun b o e => by
    by_cases c : b = h
    · rw [c]; exact a
    · exact ⟨o, m _ _ c e⟩, fun _ _ h _ => h⟩
theorem upd_ex2 (z : Ex Z H) : Ex (upd Z p o) (upd H p o) := fun b u e => by
  by_cases c : b = p
  · rw [c, upd_same] at e ⊢
    exact e
  · rw [upd_ne c] at e ⊢
    exact z _ _ e
/-- a new thing that stays as it is -/
theorem T.new (n : H p = none) (z : Ex Z H) : T M Z H (upd Z p o) (upd H p o) :=
  ⟨Ex.new (Ex.back z n), upd_ex2 z, fun b u _ e => by rw [upd_ne (ne_of_none e n)]; exact e, fun b u e => ⟨u, by rw [upd_ne (ne_of_none e n)]; exact e⟩, fun b _ zb ⟨u, e⟩ => by rw [upd_ne (ne_of_none e n)]; exact zb⟩
/-- a new thing that may be changed -/
theorem T.newM (n : H p = none) (z : Ex Z H) : T M Z H Z (upd H p o) :=
  ⟨Ex.refl _, z.trans (Ex.new n), fun b u _ e => by rw [upd_ne (ne_of_none e n)]; exact e, fun b u e => ⟨u, by rw [upd_ne (ne_of_none e n)]; exact e⟩, fun b _ zb _ => zb⟩
/-- a thing is changed -/
theorem T.set (a : Mu Z H p) (z : Ex Z H) : T [p] Z H Z (upd H p o) :=
  ⟨Ex.refl _, fun b u e => by rw [upd_ne (ne_of_none e a.z)]; exact z _ _ e, fun b u nb e => by rw [upd_ne (fun c => nb (by rw [c]; exact List.mem_cons_self))]; exact e, fun b u e => by
    by_cases c : b = p
    · exact ⟨_, by rw [c]; exact upd_same⟩
    · exact ⟨u, by rw [upd_ne c]; exact e⟩, fun b _ zb _ => zb⟩
/-- a thing is to stay as it is from now on -/
theorem T.fz (z : Ex Z H) (zp : Z p = none) (hp : H p = some o) : T [p] Z H (upd Z p o) H :=
  ⟨Ex.new zp, fun b u e => by
    by_cases c : b = p
    · rw [c, upd_same] at e
      cases e
      rw [c]; exact hp
    · rw [upd_ne c] at e
      exact z _ _ e, fun _ _ _ h => h, fun _ o h => ⟨o, h⟩, fun b nb zb _ => by rw [upd_ne (fun c => nb (by rw [c]; exact List.mem_cons_self))]; exact zb⟩
/-- .. of old words: all that is new stays as it is -/
noncomputable def grow (Z H H' : Hp) : Hp := fun b => match Z b with | some o => some o | none => match H b with | some _ => none | none => H' b
end
/-! ### new things: what is asked next -/
section
variable {K : PySem.W.Frag} {M : List Addr} {Z H : Hp} {Q : VK} {R : Hp → Prop} {p D a b : Addr} {v w : V} {α : Type} {iα : Py α} {x : α} {l r : List α} {xs : List V}
/-- an empty list that will be changed -/
theorem t_lst0 (z : Ex Z H) (q : ∀ p Z' H', H p = none → T [] Z H Z' H' → Mu Z' H' p → H' p = some (.lst []) → Q (.ref p) H') : NewL [] H Q :=
  ⟨sz_of (Nat.zero_le _), fun p hp => q p Z _ hp (T.newM hp z) ⟨Ex.back z hp, _, upd_same⟩ upd_same⟩
theorem t_lst (z : Ex Z H) (h : xs.length ≤ 100000) (q : ∀ p Z' H', H p = none → T [] Z H Z' H' → Z' p = some (.lst xs) → Q (.ref p) H') : NewL xs H Q :=
  ⟨sz_of h, fun p hp => q p _ _ hp (T.new hp z) upd_same⟩
theorem t_tup (z : Ex Z H) (h : xs.length ≤ 100000) (q : ∀ p Z' H', H p = none → T [] Z H Z' H' → Z' p = some (.tup xs) → Q (.ref p) H') : NewT xs H Q :=
  ⟨sz_of h, fun p hp => q p _ _ hp (T.new hp z) upd_same⟩
/-- the empty list that will be changed, as data -/
theorem Lm.of0 (m : Mu Z H p) (z : Ex Z H) (f : H p = some (.lst [])) : Lm Z H p ([] : List α) := ⟨⟨[], f, .nil⟩, m.z, z⟩
theorem t_app (a : Lm Z H D l) (i : Ik Z v x) (hz : l.length < 100000) (q : ∀ Z' H', T [D] Z H Z' H' → Lm Z' H' D (l ++ [x]) → Q .non H') : rAppend (.ref D) [v] H Q := by
  have mu := a.mu
  obtain ⟨⟨vs, h1, h2⟩, h3, h4⟩ := a
  have t : T [D] Z H Z (upd H D (.lst (vs ++ [v]))) := T.set mu h4
  exact ⟨D, vs, v, rfl, rfl, h1, sz_lt (by rw [Paired.length h2]; exact hz), q Z _ t ⟨⟨_, upd_same, Paired.snoc h2 i⟩, h3, t.zh⟩⟩
theorem t_tyLA {l : List α} {P : Prop} (a : Lm Z H D l) (q : P) : tyV K "list" (.ref D) H ∧ P := by
  obtain ⟨⟨vs, h1, h2⟩, h3, h4⟩ := a
  exact s_tyL (sq_of h1) q
/-- a list that was filled stays as it is from now on -/
theorem t_fz {G : Hp → Prop} (a : Lm Z H D l) (q : ∀ Z' H', T [D] Z H Z' H' → Ls Z' D l → G H') : G H := by
  obtain ⟨⟨vs, h1, h2⟩, h3, h4⟩ := a
  have t : T [D] Z H (upd Z D (.lst vs)) H := T.fz h4 h3 h1
  exact q _ _ t ⟨vs, upd_same, Paired.mapP h2 fun v x g => Ik.ex t.z g⟩
theorem t_fzV {G : Hp → Prop} (m : Mu Z H D) (z : Ex Z H) {o : HO} (f : H D = some o) (q : ∀ Z' H', T [D] Z H Z' H' → Z' D = some o → G H') : G H :=
  q _ _ (T.fz z m.z f) upd_same
theorem t_slL {lo hi : Option Int} (z : Ex Z H) (h : SqL K H a xs) (q : ∀ p Z' H', H p = none → T [] Z H Z' H' → Z' p = some (.lst (cutV xs lo hi)) → Q (.ref p) H') : rSlL K (.ref a) lo hi H Q :=
  ⟨a, xs, rfl, h, fun p hp => q p _ _ hp (T.new hp z) upd_same⟩
theorem t_slLi {lo hi : Option Int} (z : Ex Z H) (h : Li Z H a l) (q : ∀ p Z' H', H p = none → T [] Z H Z' H' → Ls Z' p (cutI l lo hi) → Q (.ref p) H') : rSlL K (.ref a) lo hi H Q := by
  obtain ⟨us, h1, h2⟩ := h
  refine t_slL z (sq_of h1) fun p Z' H' n t f => q p Z' H' n t ⟨_, f, ?_⟩
  exact paired_cut (Paired.mapP h2 fun v x g => Ik.ex t.z g) lo hi
/-- a copy that stays | that will be changed -/
theorem t_list (z : Ex Z H) (h : Ik Z (.ref a) l) (q : ∀ p Z' H', H p = none → T [] Z H Z' H' → Ls Z' p l → Q (.ref p) H') : rList1 K [.ref a] H Q := by
  obtain ⟨b, us, e, h1, h2⟩ := h.list
  cases e
  refine ⟨a, us, rfl, .inl (z.sq (sq_of h1)), fun p hp => ?_⟩
  have t : T [] Z H (upd Z p (.lst us)) (upd H p (.lst us)) := T.new hp z
  exact q p _ _ hp t ⟨_, upd_same, Paired.mapP h2 fun v x g => Ik.ex t.z g⟩
theorem t_listM (z : Ex Z H) (h : Ik Z (.ref a) l) (q : ∀ p Z' H', H p = none → T [] Z H Z' H' → Lm Z' H' p l → Q (.ref p) H') : rList1 K [.ref a] H Q := by
  obtain ⟨b, us, e, h1, h2⟩ := h.list
  cases e
  refine ⟨a, us, rfl, .inl (z.sq (sq_of h1)), fun p hp => ?_⟩
  have t : T [] Z H Z (upd H p (.lst us)) := T.newM hp z
  exact q p _ _ hp t ⟨⟨_, upd_same, h2⟩, Ex.back z hp, t.zh⟩
/-! what is read -/
theorem t_ix {i : Int} (z : Ex Z H) (h : Ik Z (.ref a) l) (e : atI l i = some x) (q : ∀ v, Ik Z v x → Q v H) : rIx K (.ref a) (.int i) H Q := by
  obtain ⟨b', vs, e', h1, h2⟩ := h.list
  cases e'
  obtain ⟨v, e2, g⟩ := atI_pair h2 e
  exact s_ixL (z.sq (sq_of h1)) e2 (q v g)
end
/-! ### draws -/
noncomputable def spDraw (K : PySem.W.Frag) : Sp := fun vs H Q _ => ∃ (h : Addr) (m : Int) (n : Nat) (Z : Hp), vs = [.ref h, .int m] ∧ Hand K Z H h (n + 1) ∧ 0 < m ∧ m ≤ 4611686018427387904 ∧
  ∀ (r : Int) H', 0 ≤ r → r < m → ExM h H H' → Hand K Z H' h n → Q (.int r) H'
section
variable {K : PySem.W.Frag} {Z H : Hp} {h : Addr} {m : Int} {N : Nat} {Q : VK} {E : XK}
theorem Hand.t {H' : Hp} {n n' : Nat} (hh : Hand K Z H h n) (m : ExM h H H') (hh' : Hand K Z H' h n') : T [h] Z H Z H' := T.ofExM m hh'.at hh.z hh.zn
theorem drawT (hh : Hand K Z H h N) (hN : 1 ≤ N) (m0 : 0 < m) (m1 : m ≤ 4611686018427387904) (q : ∀ (r : Int) Z' H', 0 ≤ r → r < m → T [h] Z H Z' H' → Hand K Z' H' h (N - 1) → Q (.int r) H') : spDraw K [.ref h, .int m] H Q E :=
  ⟨h, m, N - 1, Z, rfl, hh.mono (by omega), m0, m1, fun r H' r0 r1 e hh' => q r Z H' r0 r1 (hh.t e hh') hh'⟩
noncomputable def spFar (K : PySem.W.Frag) : Sp := fun vs H Q _ => ∃ (h : Addr) (m : Int) (n : Nat) (Z : Hp), vs = [.ref h, .int m] ∧ Hand K Z H h (n + 7) ∧ 0 < m ∧ m ≤ 4611686018427387904 ∧
  ∀ (r : Int) H', 0 ≤ r → r < m → ExM h H H' → Hand K Z H' h n → Q (.int r) H'
noncomputable def spKey (K : PySem.W.Frag) : Sp := fun vs H Q _ => ∃ (h : Addr) (n : Nat) (Z : Hp), vs = [.ref h] ∧ Hand K Z H h (n + 12) ∧
  ∀ (r : Int) H', 0 ≤ r → r < 1152921504606846976 → ExM h H H' → Hand K Z H' h n → Q (.int r) H'
noncomputable def lettersS : Str := "abcdefghijklmnopqrstuvwxyz"
/-- a text of one to eight small letters -/
noncomputable def nameB (x : Str) : Bool := decide (1 ≤ x.length ∧ x.length ≤ 8) && x.cps.toList.all fun c => decide (c ∈ lettersS.cps.toList)
noncomputable def spThing (K : PySem.W.Frag) : Sp := fun vs H Q _ => ∃ (h : Addr) (n : Nat) (Z : Hp), vs = [.ref h] ∧ Hand K Z H h (n + 10) ∧
  ∀ (x : Tx) H', nameB x.1 = true → ExM h H H' → Hand K Z H' h n → Q (.str x.1) H'
noncomputable def spOpen (K : PySem.W.Frag) : Sp := fun vs H Q _ => ∃ (a : Addr) (ns : List Int) (x : Int), vs = [.ref a, .int x] ∧ SqL K H a (ns.map V.int) ∧ 0 ≤ x ∧ x ≤ 1000 ∧
  ∀ (h c : Addr) (d : Int) (cells : List Int) H', H h = none → H c = none → h ≠ c → Ex H H' → H' h = some (.lst [.int d, .int (1 + 1009 * x), .ref c]) → H' c = some (.lst (cells.map V.int)) → 0 < cells.length → Q (.ref h) H'
theorem openT {a : Addr} {ns : List Int} {x : Int} (z : Ex Z H) (s : SqL K H a (ns.map V.int)) (x0 : 0 ≤ x) (x1 : x ≤ 1000) (q : ∀ h Z' H', H h = none → T [] Z H Z' H' → Hand K Z' H' h 900000000000000000 → Q (.ref h) H') : spOpen K [.ref a, .int x] H Q E :=
  ⟨a, ns, x, rfl, s, x0, x1, fun h c d cells H' nh nc ne e fh fc c0 => by
    have zh : Ex (upd Z c (.lst (cells.map V.int))) H' := fun b o eb => by
      by_cases cc : b = c
      · rw [cc, upd_same] at eb
        cases eb
        rw [cc]; exact fc
      · rw [upd_ne cc] at eb
        exact e _ _ (z _ _ eb)
    refine q h _ H' nh ⟨Ex.new (Ex.back z nc), zh, fun _ _ _ h => e _ _ h, fun _ o h => ⟨o, e _ _ h⟩, fun b _ zb ⟨o, ho⟩ => by rw [upd_ne (ne_of_none ho nc)]; exact zb⟩ ⟨d, 1 + 1009 * x, c, cells, fh, c0, by omega, by omega, zh, ?_, sq_of upd_same⟩
    rw [upd_ne ne]
    exact Ex.back z nh⟩
end
end TR
namespace TR
open PySem L2
theorem ne_alF {H : Hp} {a b : Addr} (n : H a = none) (h : ∃ o, H b = some o) : a ≠ b := fun z => by
  obtain ⟨o, ho⟩ := h
  rw [z, ho] at n
  cases n
theorem ne_alB {H : Hp} {a b : Addr} (n : H b = none) (h : ∃ o, H a = some o) : a ≠ b := (ne_alF n h).symm
end TR
namespace TR
open PySem L2
/-! a place of a list, found once -/
noncomputable def IxGo (xs : List V) (i : Int) (H : Hp) (Q : VK) : Prop := ∃ v, atI xs i = some v ∧ Q v H
section
variable {K : PySem.W.Frag} {H : Hp} {Q : VK} {a : Addr} {xs : List V} {i : Int} {v w : V}
theorem ixGo (h : SqL K H a xs) (q : IxGo xs i H Q) : rIx K (.ref a) (.int i) H Q := by
  obtain ⟨v, e, q⟩ := q
  exact s_ixL h e q
theorem ig_at (e : atI xs i = some v) (q : Q v H) : IxGo xs i H Q := ⟨v, e, q⟩
end
end TR
namespace TR
open PySem L2
end TR
namespace TR
open PySem L2
end TR
namespace TR
open PySem L2
end TR
namespace TR
open PySem L2
noncomputable def spPlaces (lo : Int) (K : PySem.W.Frag) : Sp := fun vs H Q _ => ∃ (a : Addr) (ns : List Int) (x y : Int), vs = [.ref a, .int x, .int y] ∧ SqL K H a (ns.map V.int) ∧ 0 ≤ x ∧ x ≤ 100 ∧ 0 ≤ y ∧ y ≤ 100 ∧
  ∀ p H', H p = none → Ex H H' → H' p = some (.lst (rgV lo (lo + max x (min (ns.length : Int) y)))) → Q (.ref p) H'
end TR
namespace TR
open PySem L2
theorem at_list {K : PySem.W.Frag} {xs : List V} {H : Hp} {Q : VK} (q : rList1 K xs H Q) : rList1 K xs H Q := q
end TR
namespace TR
open PySem L2
theorem at_newl {xs : List V} {H : Hp} {Q : VK} (q : NewL xs H Q) : NewL xs H Q := q
end TR

/-! comprehensions and loops by T -/
namespace TR
open PySem L2
section
variable {K : PySem.W.Frag} {σ : L2.St} {H : Hp} {tt : TT} {te : TE} {Q : VK} {g : TG} {vs : List Nat}
theorem lcT {β : Type} {J : It} {n : Nat} {M : List Addr} {Z : Hp} (p : Nat → Bool) (I : Nat → Hp → Hp → Prop) (R : Nat → β → V → Hp → Prop)
    (mono : ∀ i x y Z1 Z2, Ex Z1 Z2 → R i x y Z1 → R i x y Z2)
    (stab : ∀ i Z1 H1 D o, I i Z1 H1 → H D = none → Z1 D = none → I i Z1 (upd H1 D o))
    (hz : n ≤ 40000) (zh : Ex Z H) (hM : ∀ b ∈ M, ∃ o, H b = some o) (h0 : I 0 Z H)
    (hgo : ∀ i Z1 H1, i < n → T M Z H Z1 H1 → J.go i H1) (hst : ∀ Z1 H1, T M Z H Z1 H1 → J.stop n H1)
    (turn : ∀ i, i < n → ∀ D Z1 H1, T M Z H Z1 H1 → H D = none → Mu Z1 H1 D → I i Z1 H1 → ∀ v H2, J.yld i H1 v H2 → ∀ (A : VK) (B : Hp → Prop),
      (p i = true → ∀ x y Z3 H3, T M Z1 H1 Z3 H3 → I (i + 1) Z3 H3 → R i x y Z3 → A y H3) → (p i = false → ∀ Z3 H3, T M Z1 H1 Z3 H3 → I (i + 1) Z3 H3 → B H3) →
      g v (wipe σ vs) H2 fun σ2 H2 => wipe σ2 vs = wipe σ vs ∧ tt σ2 H2 fun b H3 => if b = true then te σ2 H3 A else B H3)
    (fin : ∀ D ys (L : List (Nat × β)) Z' H', H D = none → T M Z H Z' H' → Mu Z' H' D → H' D = some (.lst ys) → I n Z' H' → L.map Prod.fst = (List.range n).filter p → Paired (fun y q => R q.1 q.2 y Z') ys L → Q (.ref D) H') : LcJ g tt te vs σ J H Q := by
  intro D hD
  have nD : D ∉ M := fun z => by
    obtain ⟨o, ho⟩ := hM D z
    rw [hD] at ho
    cases ho
  refine ⟨fun i m H' => m = n - i ∧ i ≤ n ∧ ∃ Z', T M Z H Z' H' ∧ Mu Z' H' D ∧ I i Z' H' ∧ ∃ (ys : List V) (L : List (Nat × β)), H' D = some (.lst ys) ∧ ys.length ≤ i ∧ L.map Prod.fst = (List.range i).filter p ∧ Paired (fun y q => R q.1 q.2 y Z') ys L,
    ⟨n, by omega, by omega, Z, T.newM hD zh, ⟨Ex.back zh hD, _, upd_same⟩, stab _ _ _ _ _ h0 hD (Ex.back zh hD), [], [], upd_same, Nat.le_refl _, rfl, .nil⟩, ?_⟩
  rintro i m H' ⟨rfl, hi, Z', t, mu, hI, ys, L, hys, hly, hL, pr⟩
  by_cases hlt : i < n
  · refine .inr ⟨hgo i Z' H' hlt t, fun H'' => i + 1 ≤ n ∧ ∃ Z'', T M Z H Z'' H'' ∧ Mu Z'' H'' D ∧ I (i + 1) Z'' H'' ∧ ∃ (ys : List V) (L : List (Nat × β)), H'' D = some (.lst ys) ∧ ys.length ≤ i + 1 ∧ L.map Prod.fst = (List.range (i + 1)).filter p ∧ Paired (fun y q => R q.1 q.2 y Z'') ys L,
      fun H'' q => ⟨n - (i + 1), by omega, rfl, q⟩, fun v H2 hy => ?_⟩
    refine turn i hlt D Z' H' t hD mu hI v H2 hy _ _ (fun hp x y Z3 H3 t3 hI3 r => ?_) (fun hp Z3 H3 t3 hI3 => ?_)
    · have t4 : T M Z H Z3 H3 := t.step t3 mm_same
      have mu3 := t3.mu nD mu
      have t5 : T M Z H Z3 (upd H3 D (.lst (ys ++ [y]))) := t4.step (T.set mu3 t4.zh) (mm_cons (.inr hD) mm_nil)
      refine ⟨ys, t3.hp nD hys, sz_lt (by omega), by omega, Z3, t5, ⟨mu3.z, _, upd_same⟩, stab _ _ _ _ _ hI3 hD mu3.z, ys ++ [y], L ++ [(i, x)], upd_same, by rw [List.length_append]; show _ + 1 ≤ _; omega, ?_, ?_⟩
      · rw [List.map_append, hL, List.range_succ, List.filter_append, List.filter_cons, if_pos hp]
        rfl
      · exact paired_snoc (Paired.mapP pr fun y q h => mono _ _ _ _ _ t3.z h) r
    · have t4 : T M Z H Z3 H3 := t.step t3 mm_same
      refine ⟨by omega, Z3, t4, t3.mu nD mu, hI3, ys, L, t3.hp nD hys, by omega, ?_, Paired.mapP pr fun y q h => mono _ _ _ _ _ t3.z h⟩
      rw [hL, List.range_succ, List.filter_append, List.filter_cons, if_neg (by rw [hp]; exact Bool.false_ne_true)]
      simp
  · have ei : i = n := by omega
    subst ei
    exact .inl ⟨hst Z' H' t, fin D ys L Z' H' hD t mu hys hI hL pr⟩
theorem rg_kept {β : Type} (xs : List β) (p : β → Bool) : ∀ k, k ≤ xs.length → ((List.range k).filter fun i => match xs[i]? with | some b => p b | none => false).filterMap (fun i => xs[i]?) = (xs.take k).filter p
  | 0, _ => rfl
  | k + 1, h => by
    have ek : xs[k]? = some xs[k] := List.getElem?_eq_getElem h
    rw [List.range_succ, List.filter_append, List.filterMap_append, rg_kept xs p k (by omega), List.take_add_one, ek, List.filter_append]
    congr 1
    show List.filterMap _ (List.filter _ [k]) = List.filter p [xs[k]]
    rw [List.filter_cons, List.filter_cons, ek]
    by_cases c : p xs[k] = true
    · simp [c, ek]
    · simp [c]
theorem kept_snd {β γ : Type} {xs : List β} {f : β → γ} : ∀ {L : List (Nat × γ)}, (∀ q ∈ L, ∃ b, xs[q.1]? = some b ∧ q.2 = f b) → L.map Prod.snd = ((L.map Prod.fst).filterMap fun i => xs[i]?).map f
  | [], _ => rfl
  | q :: L, h => by
    obtain ⟨b, h1, h2⟩ := h q List.mem_cons_self
    rw [List.map_cons, List.map_cons, List.filterMap_cons, h1, List.map_cons, ← kept_snd (L := L) fun r hr => h r (List.mem_cons_of_mem _ hr), h2]
theorem paired_r {β γ : Type} {F : β → γ → Prop} {xs : List β} {ys : List γ} (h : Paired F xs ys) : ∀ y ∈ ys, ∃ x, F x y := by
  induction h with
  | nil => exact fun _ h => absurd h List.not_mem_nil
  | cons a t ih =>
    intro y hy
    rcases List.mem_cons.mp hy with e | hy
    · rw [e]; exact ⟨_, a⟩
    · exact ih y hy
theorem paired_mapR {β γ δ : Type} {F : β → δ → Prop} {f : γ → δ} : ∀ {xs : List β} {ys : List γ}, Paired (fun x y => F x (f y)) xs ys → Paired F xs (ys.map f)
  | _, _, .nil => .nil
  | _, _, .cons a t => .cons a (paired_mapR t)
/-- a list of data, what is kept is told by f -/
theorem c_keepLA {β γ : Type} [Py β] [Py γ] {a : Addr} {xs : List β} {Z : Hp} (p : β → Bool) (f : β → γ) (zh : Ex Z H) (h : Ik Z (.ref a) xs) (hz : xs.length ≤ 40000)
    (turn : ∀ (i : Nat) v x, xs[i]? = some x → Ik Z v x → ∀ Z1 H1, T [] Z H Z1 H1 → ∀ (A : VK) (B : Hp → Prop), (p x = true → ∀ y Z3 H3, T [] Z1 H1 Z3 H3 → Ik Z3 y (f x) → A y H3) → (p x = false → ∀ Z3 H3, T [] Z1 H1 Z3 H3 → B H3) →
      g v (wipe σ vs) H1 fun σ2 H2 => wipe σ2 vs = wipe σ vs ∧ tt σ2 H2 fun b H3 => if b = true then te σ2 H3 A else B H3)
    (fin : ∀ D Z' H', H D = none → T [] Z H Z' H' → Lm Z' H' D ((xs.filter p).map f) → Q (.ref D) H') : LcL K g tt te vs σ (.ref a) H Q := by
  obtain ⟨b, us, e, h1, h2⟩ := h.list
  cases e
  have hl := Paired.length h2
  refine ⟨a, rfl, ⟨us, zh.sq (sq_of h1)⟩, lcT (n := xs.length) (M := []) (Z := Z) (fun i => match xs[i]? with | some b => p b | none => false) (fun _ _ _ => True) (fun i (x : γ) y Z => (∃ b, xs[i]? = some b ∧ x = f b) ∧ Ik Z y x) (fun i x y Z1 Z2 e r => ⟨r.1, Ik.ex e r.2⟩) (fun _ _ _ _ _ _ _ _ => trivial) hz zh (fun _ h => absurd h List.not_mem_nil) trivial
    (fun i Z1 H1 hi t => ⟨us, us[i]'(by omega), (t.z.trans t.zh).sq (sq_of h1), List.getElem?_eq_getElem (by omega)⟩) (fun Z1 H1 t => ⟨us, (t.z.trans t.zh).sq (sq_of h1), by omega⟩) (fun i hi D Z1 H1 t nD mu _ v H2 hy A B hA hB => ?_) (fun D ys L Z' H' nD t mu f1 _ hL pr => ?_)⟩
  · obtain ⟨rfl, fv⟩ := hy
    have hv := fv _ ((t.z.trans t.zh).sq (sq_of h1))
    obtain ⟨x, hx, ix⟩ := itemK h2 hv
    refine turn i v x hx ix Z1 H2 t A B (fun hp y Z3 H3 t3 iy => hA ?_ (f x) y Z3 H3 t3 trivial ⟨⟨x, hx, rfl⟩, iy⟩) (fun hp Z3 H3 t3 => hB ?_ Z3 H3 t3 trivial)
    · show (match xs[i]? with | some b => p b | none => false) = true
      rw [hx]
      exact hp
    · show (match xs[i]? with | some b => p b | none => false) = false
      rw [hx]
      exact hp
  · have e2 : L.map Prod.snd = (xs.filter p).map f := by
      rw [kept_snd (xs := xs) (f := f) (fun q hq => by
        obtain ⟨y, hy⟩ := paired_r pr q hq
        exact hy.1), hL, rg_kept xs p xs.length (Nat.le_refl _), List.take_length]
    have la : Lm Z' H' D ((xs.filter p).map f) := ⟨⟨ys, f1, by rw [← e2]; exact paired_mapR (Paired.mapP pr fun y q h => h.2)⟩, mu.z, t.zh⟩
    exact fin D Z' H' nD t la
theorem c_mapLA {β γ : Type} [Py β] [Py γ] {a : Addr} {xs : List β} {Z : Hp} (f : β → γ) (zh : Ex Z H) (h : Ik Z (.ref a) xs) (hz : xs.length ≤ 40000)
    (turn : ∀ (i : Nat) v x, xs[i]? = some x → Ik Z v x → ∀ Z1 H1, T [] Z H Z1 H1 → ∀ (A : VK), (∀ y Z3 H3, T [] Z1 H1 Z3 H3 → Ik Z3 y (f x) → A y H3) → g v (wipe σ vs) H1 fun σ2 H2 => wipe σ2 vs = wipe σ vs ∧ te σ2 H2 A)
    (fin : ∀ D Z' H', H D = none → T [] Z H Z' H' → Lm Z' H' D (xs.map f) → Q (.ref D) H') : LcL K g tYes te vs σ (.ref a) H Q :=
  c_keepLA (fun _ => true) f zh h hz (fun i v x hx ix Z1 H1 t A B hA hB => by rw [lc_yes]; exact turn i v x hx ix Z1 H1 t A fun y Z3 H3 t3 iy => hA rfl y Z3 H3 t3 iy) (by rw [filter_yes]; exact fin)
end
section
variable {K : PySem.W.Frag} {σ : L2.St} {H : Hp} {D : Ends} {g : TG} {ts : TS}
/-- for over a list of data -/
theorem t_forL {β : Type} [Py β] {a : Addr} {xs : List β} {Z0 : Hp} (h : Ik Z0 (.ref a) xs) (Pv : Nat → L2.St → Hp → Prop) (hz : ∀ i σ H, Pv i σ H → Ex Z0 H) (h0 : Pv 0 σ H)
    (hs : ∀ (i : Nat) v x σ H, xs[i]? = some x → Ik Z0 v x → Pv i σ H → g v σ H fun σ2 H2 => ts { D with nx := Pv (i + 1), ct := Pv (i + 1), bk := D.nx } σ2 H2) (hd : ∀ σ H, Pv xs.length σ H → D.nx σ H) : ForL K g ts D σ (.ref a) H := by
  obtain ⟨b, us, e, h1, h2⟩ := h.list
  cases e
  have hl := Paired.length h2
  refine u_forL Pv ((hz _ _ _ h0).sq (sq_of h1)) h0 (fun i σ H _ p => (hz _ _ _ p).sq (sq_of h1)) (fun i v σ H hv p => ?_) (fun σ H p => hd σ H (by rw [← hl]; exact p))
  obtain ⟨x, hx, ix⟩ := itemK h2 hv
  exact hs i v x σ H hx ix p
end
end TR

/-! rooms that are changed: a list of lists of rows, beside a hand -/
namespace TR
open PySem L2
noncomputable def offH (H : Hp) (ps : List Addr) : Hp := fun b => if b ∈ ps then none else H b
structure HL (K : PySem.W.Frag) (Z0 H : Hp) (h p : Addr) (qs : List Addr) {α : Type} [Py α] (rs : List (List α)) : Prop where
  own : H p = some (.lst (qs.map V.ref))
  nd : (h :: p :: qs).Nodup
  fr : ∀ q ∈ h :: p :: qs, Z0 q = none
  zh : Ex Z0 H
  rows : Paired (fun q r => ∃ vs, H q = some (.lst vs) ∧ Paired (fun v x => Is K (offH H (h :: p :: qs)) v x) vs r) qs rs
section
variable {K : PySem.W.Frag} {Z0 H0 H H1 H' : Hp} {h p q D : Addr} {qs qs2 : List Addr} {α : Type} [Py α] {rs : List (List α)} {Q : VK}
end
section
variable {K : PySem.W.Frag} {σ : L2.St} {H : Hp} {te : TE} {Q : VK} {g : TG} {vs : List Nat}
end
/-- bounds of rooms: how many, how many rows each, how many entries each -/
noncomputable def HB (n m k : Nat) (rss : List (List Row)) : Prop := rss.length ≤ n ∧ ∀ rs ∈ rss, rs.length ≤ m ∧ ∀ r ∈ rs, r.length ≤ k
end TR

/-! rooms of rows that are all an asker's own: D their list, qs the rooms, F the rows -/
namespace TR
open PySem L2
section
variable {K : PySem.W.Frag} {σ : L2.St} {H : Hp} {tt : TT} {te : TE} {Q : VK} {g : TG} {vs : List Nat}
end
section
variable {K : PySem.W.Frag} {M N F : List Addr} {Z H Z1 H1 Z2 H2 Z' H' : Hp} {p q D : Addr} {o : HO} {v : V} {α : Type} [Py α]
/-- many things are to stay from now on -/
noncomputable def onH (Z H : Hp) (F : List Addr) : Hp := fun b => if b ∈ F then H b else Z b
theorem on_in (h : p ∈ F) : onH Z H F p = H p := if_pos h
theorem on_out (h : p ∉ F) : onH Z H F p = Z p := if_neg h
theorem on_ex (h : ∀ q ∈ F, Z q = none) : Ex Z (onH Z H F) := fun b o e => by
  rw [on_out (fun c => by rw [h b c] at e; cases e)]
  exact e
theorem T.fzs (z : Ex Z H) (h : ∀ q ∈ F, Z q = none) : T F Z H (onH Z H F) H :=
  ⟨on_ex h, fun b o e => by
    by_cases c : b ∈ F
    · rw [on_in c] at e; exact e
    · rw [on_out c] at e; exact z _ _ e, fun _ _ _ h => h, fun _ o h => ⟨o, h⟩, fun b nb zb _ => by rw [on_out nb]; exact zb⟩
/-- a row that is one's own -/
noncomputable def RowO (Z H : Hp) (w : Addr) (r : List α) : Prop := ∃ vs, H w = some (.lst vs) ∧ Paired (fun v x => Ik Z v x) vs r
noncomputable def RoomO (Z H : Hp) (F : List Addr) (q : Addr) (rs : List (List α)) : Prop := ∃ ws : List Addr, H q = some (.lst (ws.map V.ref)) ∧ (∀ w ∈ ws, w ∈ F) ∧ Paired (fun w r => RowO Z H w r) ws rs
structure Y3 (Z H : Hp) (D : Addr) (qs F : List Addr) (rss : List (List (List α))) : Prop where
  own : H D = some (.lst (qs.map V.ref))
  nd : (D :: qs).Nodup
  nf : ∀ q ∈ D :: qs, q ∉ F
  z : ∀ q ∈ D :: (qs ++ F), Z q = none
  al : ∀ q ∈ D :: (qs ++ F), ∃ o, H q = some o
  zh : Ex Z H
  rows : Paired (fun q rs => RoomO Z H F q rs) qs rss
variable {qs : List Addr} {rss : List (List (List α))}
variable {Q : VK} {R : Hp → Prop}
end
end TR
namespace TR
open PySem L2
section
variable {K : PySem.W.Frag} {σ : L2.St} {H Z Z0 : Hp} {te : TE} {Q : VK} {g : TG} {vs : List Nat} {α : Type} [Py α]
/-- a new list of new lists: w, its things in Z0 -/
noncomputable def RowF (Z0 Z : Hp) (w : Addr) (r : List α) : Prop := ∃ vs, Z w = some (.lst vs) ∧ Paired (fun v x => Ik Z0 v x) vs r
end
end TR

namespace TR
open PySem L2
/-- rooms of rows that an asker spoils: only the shape is known -/
structure Sh (Z H : Hp) (D : Addr) (qs F : List Addr) (n B : Nat) : Prop where
  own : H D = some (.lst (qs.map V.ref))
  nd : D ∉ qs
  nf : ∀ q ∈ D :: qs, q ∉ F
  z : ∀ q ∈ D :: (qs ++ F), Z q = none
  zh : Ex Z H
  rooms : ∀ q ∈ qs, ∃ ws : List Addr, H q = some (.lst (ws.map V.ref)) ∧ ws.length ≤ n ∧ ∀ w ∈ ws, w ∈ F
  rows : ∀ w ∈ F, ∃ vs, H w = some (.lst vs) ∧ vs.length ≤ B
section
variable {Z H Z' H' : Hp} {D q w e : Addr} {M qs F : List Addr} {n B : Nat} {Q : VK} {v : V}
variable {α : Type} [Py α] {rss : List (List (List α))}
end
end TR
namespace TR
open PySem L2
section
variable {K : PySem.W.Frag} {Z H : Hp} {D q w : Addr} {qs F : List Addr} {n B : Nat} {Q : VK} {v : V}
end
end TR

/-! steps as data -/
namespace TR
open PySem L2
inductive Stp where
  | rooms (m : Int)
  | cut (r m : Int)
  | row (r a : Int) (w : Row)
  deriving DecidableEq
noncomputable def stpD : Stp → PyData
  | .rooms m => .tuple [.str "rooms", .int m]
  | .cut r m => .tuple [.str "cut", .int r, .int m]
  | .row r a w => .tuple [.str "row", .int r, .int a, Py.d w]
instance : Py Stp := ⟨stpD, 4, fun s => by
    cases s with
    | rooms m => simp [stpD, PyData.depth, PyData.depthAll]
    | cut r m => simp [stpD, PyData.depth, PyData.depthAll]
    | row r a w =>
      have h : (Py.d w).depth ≤ 3 := Nat.le_trans (Py.depth w) (by decide)
      simp [stpD, PyData.depth, PyData.depthAll]
      omega, fun s => by
    have h1 : PyData.strOk "rooms" = true := by decide +kernel
    have h2 : PyData.strOk "cut" = true := by decide +kernel
    have h3 : PyData.strOk "row" = true := by decide +kernel
    cases s <;> simp [stpD, PyData.canLay0, PyData.canLayAll0, Py.can, h1, h2, h3], fun a b => by
    have hr : ("rooms" : Str) ≠ "cut" := by decide
    have hs : ("cut" : Str) ≠ "rooms" := by decide
    cases a <;> cases b <;> simp [stpD, PyData.eqv, PyData.eqvAll, Py.eqv, hr, hs]⟩
section
variable {K : PySem.W.Frag} {H : Hp} {v : V} {p b : Addr} {r m a : Int} {w : Row}
end
/-! what a step does -/
/-- so many things at least -/
noncomputable def padTo {α : Type} (n : Nat) (d : α) (l : List α) : List α := l ++ List.replicate (n - l.length) d
noncomputable def withRow (rss : List (List Row)) (room at_ : Int) (row : Row) : List (List Row) :=
  let p := padTo (room.toNat + 1) [] rss
  p.set room.toNat ((padTo (at_.toNat + 1) [] (p.getD room.toNat [])).set at_.toNat row)
/-- the last rooms without rows go -/
noncomputable def trimR (rss : List (List Row)) : List (List Row) := (rss.reverse.dropWhile fun rs => decide (rs = [])).reverse
noncomputable def doneY (y : Yard) : Stp → Yard
  | .rooms m => ⟨y.a, m, trimR y.c⟩
  | .cut r m => ⟨y.a, y.b, trimR (if r < y.c.length then y.c.set r.toNat ((y.c.getD r.toNat []).take m.toNat) else y.c)⟩
  | .row r a w => ⟨y.a, y.b, trimR (withRow y.c r a w)⟩
end TR
namespace TR
open PySem L2
section
variable {K : PySem.W.Frag} {M F : List Addr} {Z H Z1 H1 Z' H' : Hp} {D q a : Addr} {qs : List Addr} {α : Type} [Py α] {rss : List (List (List α))} {Q : VK}
end
end TR
namespace TR
open PySem L2
noncomputable abbrev YLen (y : Yard) : Prop := y.c.length ≤ 10000 ∧ ∀ rs ∈ y.c, rs.length ≤ 10000
noncomputable def StpOk : Stp → Prop
  | .rooms _ => True
  | .cut r m => 0 ≤ r ∧ 0 ≤ m
  | .row r a _ => 0 ≤ r ∧ r ≤ 1000 ∧ 0 ≤ a ∧ a ≤ 9000
end TR
namespace TR
open PySem L2
noncomputable def StpB : Stp → Prop
  | .rooms _ => True
  | .cut r m => 0 ≤ r ∧ 0 ≤ m
  | .row r a w => 0 ≤ r ∧ r < 131 ∧ 0 ≤ a ∧ a < 131 ∧ w.length ≤ 8
end TR

namespace TR
/-- the rows that a room of so many keys takes -/
noncomputable def rowsI (m w : Int) : Int := max 1 ((m + w - 1) / w)
noncomputable def spillI (l : List Int) (w : Int) : Int := (l.map fun m => rowsI m w - 1).sum
theorem rowsI_more {m w : Int} (hm : 0 ≤ m) (hw : 1 ≤ w) : rowsI m w = 1 + max 0 (m - 1) / w := by
  unfold rowsI
  by_cases c : m = 0
  · subst c
    rw [show (0 : Int) + w - 1 = w - 1 by omega, Int.ediv_eq_zero_of_lt (by omega) (by omega)]
    rw [Int.max_eq_left (show (0 : Int) - 1 ≤ 0 by omega), Int.zero_ediv]
    rfl
  · have e : (m + w - 1) / w = (m - 1) / w + 1 := by
      have := Int.add_mul_ediv_right (m - 1) 1 (show w ≠ 0 by omega)
      rw [Int.one_mul] at this
      rw [show m + w - 1 = m - 1 + w by omega, this]
    have h0 : 0 ≤ (m - 1) / w := Int.ediv_nonneg (by omega) (by omega)
    rw [e, Int.max_eq_right (by omega), Int.max_eq_right (show 0 ≤ m - 1 by omega)]
    omega
theorem rowsI_pos (m w : Int) : 1 ≤ rowsI m w := Int.le_max_left _ _
end TR
namespace TR
end TR
namespace TR
/-- the rows of keys: sorted, cut -/
noncomputable def cutR (l : List Int) (w : Int) (k : Nat) : List Int := cutI (sortI l) (some ((k : Int) * w)) (some ((k : Int) * w + w))
noncomputable def rowsOf (l : List Int) (w : Int) : List (List Int) := (List.range (rowsI l.length w).toNat).map (cutR l w)
end TR
namespace TR
theorem rowsI_facts {m w : Int} (hm : 0 ≤ m) (hw : 0 < w) : m ≤ rowsI m w * w ∧ w ≤ rowsI m w * w ∧ (rowsI m w = 1 ∨ (rowsI m w - 1) * w < m) ∧ rowsI m w * w < m + w + (if m = 0 then 1 else 0) ∧ rowsI m w ≤ m + 1 := by
  have h1 := Int.emod_add_mul_ediv (m + w - 1) w
  have h2 := Int.emod_nonneg (m + w - 1) (show w ≠ 0 by omega)
  have h3 := Int.emod_lt_of_pos (m + w - 1) hw
  have h4 : 0 ≤ (m + w - 1) / w := Int.ediv_nonneg (by omega) (by omega)
  unfold rowsI
  rw [Int.mul_comm w] at h1
  by_cases c : (m + w - 1) / w = 0
  · rw [c, Int.max_eq_left (by decide), Int.one_mul]
    rw [c, Int.zero_mul] at h1
    have : m = 0 := by omega
    subst this
    refine ⟨by omega, by omega, .inl rfl, by rw [if_pos rfl]; omega, by omega⟩
  · have c1 : 1 ≤ (m + w - 1) / w := by omega
    rw [Int.max_eq_right c1]
    have h5 := Int.mul_le_mul_of_nonneg_right c1 (show (0 : Int) ≤ w by omega)
    rw [Int.one_mul] at h5
    have h6 : (m + w - 1) / w < m + 2 := by
      refine Int.ediv_lt_of_lt_mul hw ?_
      have := Int.mul_le_mul_of_nonneg_left (show (1 : Int) ≤ w by omega) hm
      rw [Int.add_mul]
      omega
    have h7 : m ≠ 0 := fun z => c (by rw [z]; exact Int.ediv_eq_zero_of_lt (by omega) (by omega))
    refine ⟨by omega, by omega, .inr ?_, by rw [if_neg h7]; omega, by omega⟩
    rw [Int.sub_mul, Int.one_mul]
    omega
end TR
namespace TR
noncomputable def lastGe (r : List Int) (key : Int) : Bool := match r.getLast? with | some v => decide (key ≤ v) | none => false
/-- what a look through rows finds: there, looks -/
noncomputable def lookedI : List (List Int) → Int → Nat → Bool × Int
  | [], _, n => (false, (n : Int))
  | r :: rs, key, n => if lastGe r key = true then (decide (key ∈ r), (n : Int) + 1) else lookedI rs key (n + 1)
theorem atI_last1 {α : Type} {r : List α} (h : r ≠ []) : ∃ v, atI r (-1) = some v ∧ r.getLast? = some v := by
  obtain ⟨l, x, rfl⟩ : ∃ l x, r = l ++ [x] := ⟨r.dropLast, r.getLast h, (List.dropLast_concat_getLast h).symm⟩
  exact ⟨x, atI_last _ _, by simp⟩
end TR
namespace TR
theorem lookedI_at : ∀ {rs : List (List Int)} {key : Int} {m j : Nat} {r : List Int}, rs[j]? = some r → lastGe r key = true → (∀ (i : Nat) r', i < j → rs[i]? = some r' → lastGe r' key = false) → lookedI rs key m = (decide (key ∈ r), (m : Int) + j + 1)
  | [], _, _, j, _, h, _, _ => by simp at h
  | a :: rs, key, m, 0, r, h, g, _ => by
    cases h
    unfold lookedI
    rw [if_pos g]
    simp
  | a :: rs, key, m, j + 1, r, h, g, f => by
    have f0 := f 0 a (by omega) rfl
    unfold lookedI
    rw [f0, if_neg Bool.false_ne_true, lookedI_at (rs := rs) (j := j) h g (fun i r' hi e => f (i + 1) r' (by omega) e)]
    congr 1
    omega
theorem lookedI_no : ∀ {rs : List (List Int)} {key : Int} {m : Nat}, (∀ r ∈ rs, lastGe r key = false) → lookedI rs key m = (false, ((m + rs.length : Nat) : Int))
  | [], _, _, _ => rfl
  | a :: rs, key, m, f => by
    unfold lookedI
    rw [f a List.mem_cons_self, if_neg Bool.false_ne_true, lookedI_no (fun r hr => f r (List.mem_cons_of_mem _ hr)), List.length_cons]
    congr 2
    omega
theorem lastGe_iff {r : List Int} {key : Int} (h : r.Pairwise (· < ·)) : lastGe r key = true ↔ ∃ x ∈ r, key ≤ x := by
  unfold lastGe
  cases e : r.getLast? with
  | none =>
    rw [List.getLast?_eq_none_iff] at e
    subst e
    simp
  | some v =>
    obtain ⟨l, rfl⟩ := List.getLast?_eq_some_iff.mp e
    show decide (key ≤ v) = true ↔ _
    rw [decide_eq_true_iff]
    refine ⟨fun k => ⟨v, List.mem_append_right _ List.mem_cons_self, k⟩, fun ⟨x, hx, k⟩ => ?_⟩
    rcases List.mem_append.mp hx with hx | hx
    · have := (List.pairwise_append.mp h).2.2 x hx v List.mem_cons_self
      omega
    · rw [List.mem_singleton.mp hx] at k
      exact k
theorem lastGe_no {r : List Int} {key : Int} (h : r.Pairwise (· < ·)) (g : ∀ x ∈ r, x < key) : lastGe r key = false := by
  cases e : lastGe r key with
  | false => rfl
  | true =>
    obtain ⟨x, hx, k⟩ := (lastGe_iff h).mp e
    have := g x hx
    omega
theorem looked_found : ∀ {rs : List (List Int)} {key : Int} {m : Nat}, rs.flatten.Pairwise (· < ·) → (lookedI rs key m).1 = decide (key ∈ rs.flatten)
  | [], key, m, _ => by simp [lookedI]
  | r :: rs, key, m, h => by
    rw [List.flatten_cons] at h
    have hp := List.pairwise_append.mp h
    unfold lookedI
    rw [List.flatten_cons]
    cases e : lastGe r key with
    | true =>
      rw [if_pos rfl]
      obtain ⟨x, hx, k⟩ := (lastGe_iff hp.1).mp e
      show decide (key ∈ r) = _
      apply decide_eq_decide.mpr
      rw [List.mem_append]
      refine ⟨.inl, fun z => z.resolve_right fun z => ?_⟩
      have := hp.2.2 x hx key z
      omega
    | false =>
      rw [if_neg Bool.false_ne_true, looked_found hp.2.1]
      apply decide_eq_decide.mpr
      rw [List.mem_append]
      refine ⟨.inr, fun z => z.resolve_left fun z => ?_⟩
      have := (lastGe_iff hp.1).mpr ⟨key, z, Int.le_refl _⟩
      rw [e] at this
      cases this
/-- how many are less -/
noncomputable def less (l : List Int) (key : Int) : Nat := (l.filter fun x => decide (x < key)).length
theorem less_at : ∀ {l : List Int} {key : Int}, l.Pairwise (· < ·) → ∀ {i : Nat} {x : Int}, l[i]? = some x → (x < key ↔ i < less l key)
  | [], _, _, i, x, h => by simp at h
  | a :: l, key, hp, i, x, h => by
    have hp' := List.pairwise_cons.mp hp
    unfold less
    by_cases c : a < key
    · rw [List.filter_cons_of_pos (by rw [decide_eq_true c]), List.length_cons]
      cases i with
      | zero => cases h; exact ⟨fun _ => by omega, fun _ => c⟩
      | succ i =>
        have := less_at hp'.2 (i := i) (key := key) h
        unfold less at this
        rw [this]
        omega
    · have e : (l.filter fun x => decide (x < key)) = [] := List.filter_eq_nil_iff.mpr fun y hy z => by
        have := hp'.1 y hy
        have := of_decide_eq_true z
        omega
      rw [List.filter_cons_of_neg (by rw [decide_eq_false c]; exact Bool.false_ne_true), e]
      cases i with
      | zero => cases h; simp; omega
      | succ i =>
        have := hp'.1 x (List.mem_of_getElem? h)
        simp
        omega
theorem less_le (l : List Int) (key : Int) : less l key ≤ l.length := List.length_filter_le _ _
theorem less_perm {l l' : List Int} (h : l.Perm l') (key : Int) : less l key = less l' key := (h.filter _).length_eq
theorem cutR_eq (l : List Int) {w : Int} (j : Nat) (hw : 0 < w) : cutR l w j = ((sortI l).drop (j * w.toNat)).take w.toNat := by
  obtain ⟨n, rfl⟩ : ∃ n : Nat, w = (n : Int) := ⟨w.toNat, by omega⟩
  have h0 : (0 : Int) ≤ (j : Int) * (n : Int) := by rw [← Int.natCast_mul]; omega
  unfold cutR
  rw [cutI_mid _ h0 (by omega), ← Int.natCast_mul, Int.toNat_natCast, Int.toNat_natCast, show ((((j * n : Nat) : Int) + (n : Int)).toNat - j * n) = n by omega]
theorem rowsOf_len (l : List Int) (w : Int) : (rowsOf l w).length = (rowsI l.length w).toNat := by
  unfold rowsOf
  rw [List.length_map, List.length_range]
theorem rowsOf_at {l : List Int} {w : Int} {j : Nat} (h : j < (rowsI l.length w).toNat) : (rowsOf l w)[j]? = some (cutR l w j) := by
  unfold rowsOf
  rw [List.getElem?_map, List.getElem?_range h]
  rfl
theorem rowsOf_flat (l : List Int) {w : Int} (hw : 0 < w) : ∀ (d g : Nat), g + d = (rowsI l.length w).toNat → ((rowsOf l w).drop g).flatten = (sortI l).drop (g * w.toNat)
  | 0, g, h => by
    have f := (rowsI_facts (m := (l.length : Int)) (by omega) hw).1
    have hp := rowsI_pos (l.length : Int) w
    have hg : (g : Int) = rowsI l.length w := by omega
    rw [← hg] at f
    have f2 : l.length ≤ g * w.toNat := by
      have e : ((g * w.toNat : Nat) : Int) = (g : Int) * w := by rw [Int.natCast_mul]; congr 1; omega
      omega
    rw [List.drop_of_length_le (by rw [rowsOf_len]; omega), List.drop_of_length_le (by rw [sortI_len]; exact f2)]
    rfl
  | d + 1, g, h => by
    have hl : g < (rowsOf l w).length := by rw [rowsOf_len]; omega
    have e : (rowsOf l w)[g] = cutR l w g := by
      have := rowsOf_at (l := l) (w := w) (j := g) (by omega)
      rw [List.getElem?_eq_getElem hl] at this
      exact Option.some.inj this
    rw [List.drop_eq_getElem_cons hl, List.flatten_cons, e, rowsOf_flat l hw d (g + 1) (by omega), cutR_eq l g hw, Nat.succ_mul, ← List.drop_drop, List.take_append_drop]
theorem rowsOf_looked (l : List Int) {w key : Int} (hw : 0 < w) (nd : l.Nodup) : lookedI (rowsOf l w) key 0 = (decide (key ∈ l), min (rowsI l.length w) (1 + (less l key : Int) / w)) := by
  have hs := sortI_strict nd
  have hp := rowsI_pos (l.length : Int) w
  have hf := rowsOf_flat l hw (rowsI l.length w).toNat 0 (by omega)
  rw [List.drop_zero, Nat.zero_mul, List.drop_zero] at hf
  obtain ⟨f1, f2, f3, f4, f5⟩ := rowsI_facts (m := (l.length : Int)) (by omega) hw
  have e1 := looked_found (rs := rowsOf l w) (key := key) (m := 0) (by rw [hf]; exact hs)
  rw [hf] at e1
  have lp := less_perm (sortI_perm l) key
  have ll := less_le l key
  have e2 : (lookedI (rowsOf l w) key 0).2 = min (rowsI l.length w) (1 + (less l key : Int) / w) := by
    obtain ⟨v, rfl⟩ : ∃ v : Nat, w = (v : Int) := ⟨w.toNat, by omega⟩
    have rowP : ∀ (i : Nat) r', (rowsOf l v)[i]? = some r' → r'.Pairwise (· < ·) ∧ ∀ x ∈ r', ∃ k, i * v ≤ k ∧ k < i * v + v ∧ (sortI l)[k]? = some x := by
      intro i r' hi
      have hl := (List.getElem?_eq_some_iff.mp hi).1
      rw [rowsOf_len] at hl
      rw [rowsOf_at hl] at hi
      cases hi
      rw [cutR_eq l i hw, Int.toNat_natCast]
      refine ⟨(hs.sublist (List.drop_sublist _ _)).sublist (List.take_sublist _ _), fun x hx => ?_⟩
      obtain ⟨t, ht⟩ := List.mem_iff_getElem?.mp hx
      have tl := (List.getElem?_eq_some_iff.mp ht).1
      rw [List.length_take] at tl
      rw [List.getElem?_take_of_lt (by omega), List.getElem?_drop] at ht
      exact ⟨_, by omega, by omega, ht⟩
    have low : ∀ (i : Nat) r', i * v + v ≤ less l key → (rowsOf l v)[i]? = some r' → lastGe r' key = false := by
      intro i r' hi hr
      obtain ⟨p1, p2⟩ := rowP i r' hr
      refine lastGe_no p1 fun x hx => ?_
      obtain ⟨k, k1, k2, k3⟩ := p2 x hx
      exact (less_at hs k3).mpr (by rw [lp]; omega)
    by_cases c : less l key < l.length
    · obtain ⟨j, hj⟩ : ∃ j : Nat, j = less l key / v := ⟨_, rfl⟩
      have vp : 0 < v := by omega
      have j1 := Nat.div_add_mod (less l key) v
      have j2 := Nat.mod_lt (less l key) vp
      rw [← hj, Nat.mul_comm] at j1
      have jn : ((less l key : Nat) : Int) / (v : Int) = (j : Int) := by rw [← Int.natCast_ediv, hj]
      have jl : j < (rowsI l.length v).toNat := by
        apply Decidable.byContradiction
        intro z
        have z1 : rowsI l.length v ≤ (j : Int) := by omega
        have z2 := Int.mul_le_mul_of_nonneg_right z1 (show (0 : Int) ≤ v by omega)
        rw [← Int.natCast_mul] at z2
        omega
      have hcl : less l key < (sortI l).length := by rw [sortI_len]; exact c
      have hx : (sortI l)[less l key]? = some (sortI l)[less l key] := List.getElem?_eq_getElem hcl
      have hge : key ≤ (sortI l)[less l key] := by
        have := (less_at (key := key) hs hx)
        rw [lp] at this
        omega
      rw [lookedI_at (j := j) (rowsOf_at jl) ((lastGe_iff (rowP j _ (rowsOf_at jl)).1).mpr ⟨(sortI l)[less l key], ?_, hge⟩) (fun i r' hi hr => low i r' ?_ hr)]
      · rw [jn, Int.min_eq_right (by omega)]
        simp
        omega
      · rw [cutR_eq l j hw, Int.toNat_natCast]
        refine List.mem_iff_getElem?.mpr ⟨less l key % v, ?_⟩
        rw [List.getElem?_take_of_lt j2, List.getElem?_drop, j1]
        exact hx
      · have := Nat.mul_le_mul_right v (show i + 1 ≤ j by omega)
        rw [Nat.succ_mul] at this
        omega
    · have ce : less l key = l.length := by omega
      rw [lookedI_no (fun r hr => ?_), rowsOf_len]
      · have : rowsI l.length v ≤ 1 + (less l key : Int) / v := by
          rw [ce]
          rcases f3 with f3 | f3
          · have : (0 : Int) ≤ (l.length : Int) / v := Int.ediv_nonneg (by omega) (by omega)
            omega
          · have : rowsI l.length v - 1 ≤ (l.length : Int) / v := (Int.le_ediv_iff_mul_le hw).mpr (by omega)
            omega
        rw [Int.min_eq_left this]
        simp
        omega
      · obtain ⟨i, hi⟩ := List.mem_iff_getElem?.mp hr
        obtain ⟨p1, p2⟩ := rowP i r hi
        refine lastGe_no p1 fun x hx => ?_
        obtain ⟨k, k1, k2, k3⟩ := p2 x hx
        have kl := (List.getElem?_eq_some_iff.mp k3).1
        rw [sortI_len] at kl
        exact (less_at hs k3).mpr (by rw [lp]; omega)
  refine Prod.ext ?_ e2
  rw [e1]
  exact decide_eq_decide.mpr sortI_mem
end TR

/-! powers of two, levels, rooms -/
namespace TR
theorem two_pos (k : Nat) : (1 : Int) ≤ 2 ^ k := by
  have h : (1 : Nat) ≤ 2 ^ k := Nat.one_le_two_pow
  have e : ((2 ^ k : Nat) : Int) = (2 : Int) ^ k := by rw [Int.natCast_pow]; rfl
  omega
theorem two_succ (k : Nat) : (2 : Int) ^ (k + 1) = 2 * 2 ^ k := by rw [Int.pow_succ, Int.mul_comm]
theorem two_mono {a b : Nat} (h : a ≤ b) : (2 : Int) ^ a ≤ 2 ^ b := by
  have h1 : (2 : Nat) ^ a ≤ 2 ^ b := Nat.pow_le_pow_right (by decide) h
  have e1 : ((2 ^ a : Nat) : Int) = (2 : Int) ^ a := by rw [Int.natCast_pow]; rfl
  have e2 : ((2 ^ b : Nat) : Int) = (2 : Int) ^ b := by rw [Int.natCast_pow]; rfl
  omega
theorem two_lt {a b : Nat} (h : (2 : Int) ^ a < 2 ^ b) : a < b := by
  apply Decidable.byContradiction
  intro n
  have := two_mono (show b ≤ a by omega)
  omega
noncomputable def lev (r : Int) : Nat := Nat.log2 r.toNat
noncomputable def whole (r : Int) : Int := 2 ^ lev r
theorem whole_spec {r : Int} (h : 1 ≤ r) : 1 ≤ whole r ∧ whole r ≤ r ∧ r < 2 * whole r := by
  have h0 : r.toNat ≠ 0 := by omega
  have h1 := Nat.log2_self_le h0
  have h2 := Nat.lt_log2_self (n := r.toNat)
  have e1 : ((2 ^ Nat.log2 r.toNat : Nat) : Int) = whole r := by
    unfold whole lev
    rw [Int.natCast_pow]
    rfl
  have e2 : ((2 ^ (Nat.log2 r.toNat + 1) : Nat) : Int) = 2 * whole r := by
    rw [Nat.pow_succ, Int.natCast_mul, e1]
    omega
  have := two_pos (lev r)
  unfold whole at *
  omega
theorem lev_unique {r : Int} {k : Nat} (h1 : (2 : Int) ^ k ≤ r) (h2 : r < 2 * 2 ^ k) : lev r = k := by
  have hr : 1 ≤ r := by have := two_pos k; omega
  obtain ⟨a, b, c⟩ := whole_spec hr
  unfold whole at *
  rw [← two_succ] at c h2
  have l1 : k < lev r + 1 := two_lt (by omega)
  have l2 : lev r < k + 1 := two_lt (by omega)
  omega
theorem whole_unique {r : Int} {k : Nat} (h1 : (2 : Int) ^ k ≤ r) (h2 : r < 2 * 2 ^ k) : whole r = 2 ^ k := by
  unfold whole
  rw [lev_unique h1 h2]
noncomputable def roomOf (key rooms : Int) : Int := if key % whole rooms < rooms - whole rooms then key % (2 * whole rooms) else key % whole rooms
theorem mod2 (x : Int) {w : Int} (h : 0 < w) : x % (2 * w) = x % w ∨ x % (2 * w) = x % w + w := by
  have e : x % (2 * w) % w = x % w := Int.emod_emod_of_dvd x ⟨2, Int.mul_comm 2 w⟩
  have l1 := Int.emod_nonneg x (show 2 * w ≠ 0 by omega)
  have l2 := Int.emod_lt_of_pos x (show 0 < 2 * w by omega)
  generalize x % (2 * w) = r at *
  by_cases h2 : r < w
  · left
    rw [← e, Int.emod_eq_of_lt l1 h2]
  · right
    have e2 : (r - w + w) % w = (r - w) % w := by rw [Int.add_emod_right]
    rw [Int.sub_add_cancel, Int.emod_eq_of_lt (show 0 ≤ r - w by omega) (by omega)] at e2
    omega
theorem roomOf_range {key rooms : Int} (h : 1 ≤ rooms) : 0 ≤ roomOf key rooms ∧ roomOf key rooms < rooms := by
  obtain ⟨a, b, c⟩ := whole_spec h
  have l1 := Int.emod_nonneg key (show whole rooms ≠ 0 by omega)
  have l2 := Int.emod_lt_of_pos key (show 0 < whole rooms by omega)
  have l3 := Int.emod_nonneg key (show 2 * whole rooms ≠ 0 by omega)
  have m := mod2 key (show 0 < whole rooms by omega)
  unfold roomOf
  split <;> omega
end TR
/-! bits, and keys turned about -/
namespace TR
noncomputable def bit (x : Int) (k : Nat) : Int := x / 2 ^ k % 2
noncomputable def rev : Nat → Int → Int
  | 0, _ => 0
  | n + 1, x => rev n x * 2 + bit x n
/-- the first bit in which two differ -/
noncomputable def Dif (x y : Int) (d : Nat) : Prop := (∀ k, k < d → bit x k = bit y k) ∧ bit x d ≠ bit y d
noncomputable def partedAt (x y : Int) (d : Nat) : Int := 1 + max (x % 2 ^ (d + 1)) (y % 2 ^ (d + 1))
end TR
namespace TR
end TR
namespace TR
end TR

namespace TR
noncomputable def thingOf (r : Row) (key : Int) : Option Tx := ((r.filter fun e => decide (e.1 = key)).map Prod.snd)[0]?
noncomputable def foundR : List Row → Int → Nat → Option Tx × Int
  | [], _, m => (none, (m : Int))
  | r :: rs, key, m => if lastGe (r.map Prod.fst) key = true then (thingOf r key, ((m + 1 : Nat) : Int)) else foundR rs key (m + 1)
noncomputable def foundI (y : Yard) (key : Int) : Option Tx × Int := match y.c[(roomOf key y.b).toNat]? with
  | none => (none, 0)
  | some rows => foundR rows key 0
end TR

/-! rows of rising entries, clean yards -/
namespace TR
open PySem L2
theorem drop_lt {α : Type} {l : List α} {w : Nat} (h : ¬ (w = 0 ∨ l.length ≤ w)) : (l.drop w).length < l.length := by
  rw [List.length_drop]
  omega
noncomputable def cutE (w : Nat) (l : Row) : List Row := if h : w = 0 ∨ l.length ≤ w then [l] else l.take w :: cutE w (l.drop w)
termination_by l.length
decreasing_by exact drop_lt h
/-- a look through rows that rise all the way -/
noncomputable abbrev Rises (l : Row) : Prop := (l.map Prod.fst).Pairwise (· < ·)
noncomputable def fnd (R : List Row) (k : Int) : Option Tx := (foundR R k 0).1
end TR

namespace TR
open PySem L2
/-! ### rooms that are rewritten -/
noncomputable def putR (c : List (List Row)) (R : Nat) (X : List Row) : List (List Row) := (padTo (R + 1) [] c).set R X
noncomputable def NE (c : List (List Row)) : Prop := ∀ rs ∈ c, rs ≠ []
/-! ### the rows that aren't what stands there -/
noncomputable def writF (R : Nat) (now : List Row) : Nat → List Row → List Stp
  | _, [] => []
  | i, r :: rs => if now[i]? = some r then writF R now (i + 1) rs else .row (R : Int) (i : Int) r :: writF R now (i + 1) rs
noncomputable def writ (R : Nat) (rows now : List Row) : List Stp := writF R now 0 rows
noncomputable def onw (R : Nat) (rows now : List Row) : List Stp := writ R rows now ++ (if rows.length < now.length then [.cut (R : Int) (rows.length : Int)] else [])
noncomputable def backw (R : Nat) (rows now : List Row) : List Stp := (writ R rows now).reverse
end TR

namespace TR
open PySem L2
/-- from the last on: behind any of these steps the first rows are as they were, then rows without entries, then the new ones -/
noncomputable def backS (rows now : List Row) (m : Nat) : List Row := now.take m ++ List.replicate (m - now.length) [] ++ rows.drop m
end TR

/-! yards amid a change -/
namespace TR
open PySem L2
noncomputable def partE (r : Int) (es : Row) (i : Nat) : Row := sortE (es.filter fun e => decide (roomOf e.1 r = (i : Int)))
noncomputable def cleanC (w : Nat) (r : Int) (es : Row) : List (List Row) := (List.range r.toNat).map fun i => cutE w (partE r es i)
noncomputable def cleanY (w r : Int) (es : Row) : Yard := ⟨w, r, cleanC w.toNat r es⟩
noncomputable def fY (y : Yard) (k : Int) : Option Tx := (foundI y k).1
/-- no key twice -/
noncomputable abbrev Keys1 (es : Row) : Prop := (es.map Prod.fst).Nodup
/-- a room that tells its keys rightly -/
noncomputable def RoomG (es : Row) (b : Int) (i : Nat) (X : List Row) : Prop := (∀ e ∈ es, roomOf e.1 b = (i : Int) → fnd X e.1 = some e.2) ∧ ∀ r ∈ X, ∀ x ∈ r, x ∈ es
/-- all keys are found with their things, no others are -/
noncomputable def GoodF (es : Row) (y : Yard) : Prop := (∀ e ∈ es, fY y e.1 = some e.2) ∧ ∀ k, k ∉ es.map Prod.fst → fY y k = none
/-! ### splitting -/
noncomputable def splitRoom (r : Int) : Nat := (r - whole r).toNat
noncomputable def splitS (y : Yard) : List Stp :=
  let R := splitRoom y.b
  let A := (y.c.getD R []).flatten
  onw y.b.toNat (cutE y.a.toNat (sortE (A.filter fun e => decide (roomOf e.1 (y.b + 1) = y.b)))) [] ++ [.rooms (y.b + 1)] ++ onw R (cutE y.a.toNat (sortE (A.filter fun e => decide (roomOf e.1 (y.b + 1) ≠ y.b)))) (y.c.getD R [])
end TR

namespace TR
open PySem L2
end TR
namespace TR
open PySem L2
/-! ### joining -/
noncomputable def joinS (y : Yard) : List Stp :=
  let last := (y.b - 1).toNat
  let into := splitRoom (y.b - 1)
  backw into (cutE y.a.toNat (sortE ((y.c.getD into []).flatten ++ (y.c.getD last []).flatten))) (y.c.getD into []) ++ [.rooms (y.b - 1), .cut (last : Int) 0]
end TR

/-! T: lists of own lists, reverse, extend, ranges with a step; found -/
namespace TR
open PySem L2
section
variable {K : PySem.W.Frag} {M qs : List Addr} {Z H Z' H' : Hp} {Q : VK} {D q a b : Addr} {v : V} {α : Type} {iα : Py α} {x : α} {l r : List α}
end
/-! a list of own lists -/
structure Y2 (Z H : Hp) (D : Addr) (qs : List Addr) {α : Type} [Py α] (rs : List (List α)) : Prop where
  own : H D = some (.lst (qs.map V.ref))
  nd : (D :: qs).Nodup
  z : ∀ q ∈ D :: qs, Z q = none
  zh : Ex Z H
  rows : Paired (fun q r => RowO Z H q r) qs rs
section
variable {K : PySem.W.Frag} {M qs : List Addr} {Z H Z' H' : Hp} {Q : VK} {D q : Addr} {v : V} {α : Type} {iα : Py α} {x : α} {rs : List (List α)}
end
section
variable {K : PySem.W.Frag} {σ : L2.St} {H Z : Hp} {tt : TT} {te : TE} {Q : VK} {g : TG} {vs : List Nat}
/-- ranges with a step -/
noncomputable def LcR3 (g : TG) (tt : TT) (te : TE) (vs : List Nat) (σ : L2.St) (x : List V) (H1 : Hp) (Q : VK) : Prop := ∃ (i j c : Int) (n : Nat), x = [.int i, .int j, .int c] ∧ RgC i j c n ∧ LcJ g tt te vs σ (Itc i c n) H1 Q
end
/-! found -/
noncomputable def YardOk (y : Yard) : Prop := 1 ≤ y.b ∧ y.c.length ≤ 10000 ∧ ∀ rs ∈ y.c, rs.length ≤ 10000 ∧ ∀ r ∈ rs, r.length ≤ 10000
noncomputable def optS : Option Tx → V
  | none => .non
  | some x => .str x.1
noncomputable def spFound (K : PySem.W.Frag) : Sp := fun vs H Q _ => ∃ (v : V) (y : Yard) (key : Int), vs = [v, .int key] ∧ Is K H v y ∧ YardOk y ∧
  ∀ (p : Addr) (v' : V) (H' : Hp), H p = none → Ex H H' → H' p = some (.tup [v', .int (foundI y key).2]) → Is K H' v' (foundI y key).1 → Q (.ref p) H'
noncomputable def spLawFound (K : PySem.W.Frag) : Sp := fun vs H Q _ => ∃ (v : V) (y : Yard) (key : Int), vs = [v, .int key] ∧ Is K H v y ∧ 0 ≤ key ∧ (1 ≤ y.b ∧ ∀ rs ∈ y.c, rs.length ≤ 10000 ∧ ∀ r ∈ rs, r.length ≤ 10000) ∧
  ∀ (p : Addr) (v' : V) (H' : Hp), H p = none → Ex H H' → H' p = some (.tup [v', .int (foundI y key).2]) → Is K H' v' (foundI y key).1 → Q (.ref p) H'
/-- keys, drawn -/
noncomputable def spKeys (K : PySem.W.Frag) : Sp := fun vs H Q _ => ∃ (h : Addr) (many : Int) (n : Nat) (Z : Hp), vs = [.ref h, .int many] ∧ 0 ≤ many ∧ many ≤ 160 ∧ Hand K Z H h (n + 2000) ∧
  ∀ (p : Addr) (ks : List Int) (H' : Hp), H p = none → ExM h H H' → Hand K Z H' h n → H' p = some (.lst (ks.map V.int)) → ks.length = many.toNat → ks.Nodup → (∀ k ∈ ks, 0 ≤ k ∧ k < 1152921504606846976) → Q (.ref p) H'
theorem keysT {K : PySem.W.Frag} {Z H : Hp} {h : Addr} {many : Int} {N : Nat} {Q : VK} {E : XK} (hh : Hand K Z H h N) (hN : 2000 ≤ N) (m : 0 ≤ many ∧ many ≤ 160)
    (q : ∀ p (ks : List Int) Z' H', H p = none → T [h] Z H Z' H' → Hand K Z' H' h (N - 2000) → Ls Z' p ks → (ks.length : Int) = many → ks.Nodup → (∀ k ∈ ks, 0 ≤ k ∧ k < 1152921504606846976) → Q (.ref p) H') : spKeys K [.ref h, .int many] H Q E :=
  ⟨h, many, N - 2000, Z, rfl, m.1, m.2, hh.mono (by omega), fun p ks H' n e hh' f l nd b => by
    have np : p ≠ h := hand_ne0 n hh
    have t : T [h] Z H Z H' := hh.t e hh'
    have t2 : T [p] Z H' (upd Z p (.lst (ks.map V.int))) H' := T.fz t.zh (Ex.back hh.z n) f
    exact q p ks _ H' n (t.step t2 (mm_cons (.inr n) mm_nil)) (Hand.tt t2 (nm_cons np.symm nm_nil) hh') (Ls.ofInts upd_same) (by omega) nd b⟩
end TR
namespace TR
open PySem L2
noncomputable def partsL (r : Int) (l : Row) : List Row := (List.range r.toNat).map fun (i : Nat) => l.filter fun e => decide (roomOf e.1 r = (i : Int))
end TR
namespace TR
open PySem L2
end TR
namespace TR
open PySem L2
section
variable {K : PySem.W.Frag} {σ : L2.St} {H : Hp} {tt : TT} {te : TE} {Q : VK} {g : TG} {vs : List Nat}
end
end TR

/-! lists within lists, to any depth, that the asker may change -/
namespace TR
open PySem L2
noncomputable def notL : PyData → Bool
  | .list _ => false
  | _ => true
/-- v stands in H as x; its lists are M, and may be changed; what is no list stays -/
noncomputable def Ow : Nat → Hp → Hp → V → PyData → List Addr → Prop
  | 0, _, _, _, _, _ => False
  | d + 1, Z, H, v, x, M => (notL x = true ∧ Dt Z v x ∧ M = []) ∨
      ∃ (p : Addr) (us : List V) (L : List (PyData × List Addr)), v = .ref p ∧ H p = some (.lst us) ∧ Z p = none ∧ x = .list (L.map Prod.fst) ∧ M = p :: (L.map Prod.snd).flatten ∧ L.length ≤ 40000 ∧ Paired (fun u q => Ow d Z H u q.1 q.2) us L
theorem rg_take {β : Type} (xs : List β) : ∀ k, (List.range k).filterMap (fun i => xs[i]?) = xs.take k
  | 0 => rfl
  | k + 1 => by
    rw [List.range_succ, List.filterMap_append, rg_take xs k, List.take_add_one]
    congr 1
    all_goals (cases h : xs[k]? <;> simp [List.filterMap, h])
theorem paired_memR {β γ : Type} {F G : β → γ → Prop} {xs : List β} {ys : List γ} (h : Paired F xs ys) : (∀ x y, y ∈ ys → F x y → G x y) → Paired G xs ys := by
  induction h with
  | nil => exact fun _ => .nil
  | cons a t ih => exact fun g => .cons (g _ _ List.mem_cons_self a) (ih fun x y hy => g x y (List.mem_cons_of_mem _ hy))
theorem pair_at {β γ : Type} {F : β → γ → Prop} : ∀ {xs : List β} {ys : List γ}, Paired F xs ys → ∀ {i : Nat} {x : β}, xs[i]? = some x → ∃ y, ys[i]? = some y ∧ F x y
  | _, _, .nil, i, x, h => by simp at h
  | _, _, .cons a t, 0, x, h => by cases h; exact ⟨_, rfl, a⟩
  | _, _, .cons a t, i + 1, x, h => pair_at t h
theorem paired_mapD {H : Hp} {α : Type} [Py α] {us : List V} {l : List α} (h : Paired (fun v x => Ik H v x) us l) : Paired (fun v x => Dt H v x) us (l.map Py.d) := by
  induction h with
  | nil => exact .nil
  | cons a t ih => exact .cons a ih
theorem paired_memX {β γ : Type} {F : β → γ → Prop} {xs : List β} {ys : List γ} (h : Paired F xs ys) : ∀ y ∈ ys, ∃ x, F x y := paired_r h
theorem mem_flat {L : List (PyData × List Addr)} {b : Addr} {q : PyData × List Addr} (hq : q ∈ L) (hb : b ∈ q.2) : b ∈ (L.map Prod.snd).flatten :=
  List.mem_flatten.mpr ⟨q.2, List.mem_map.mpr ⟨q, hq, rfl⟩, hb⟩
section
variable {K : PySem.W.Frag} {M N : List Addr} {Z H Z' H' : Hp} {v : V} {x : PyData} {d : Nat}
theorem T.wideO (h : ∀ b ∈ M, b ∈ N) (t : T M Z H Z' H') : T N Z H Z' H' :=
  ⟨t.z, t.zh, fun b o nb e => t.m b o (fun c => nb (h b c)) e, t.al, fun b nb e o => t.fr b (fun c => nb (h b c)) e o⟩
theorem Ow.al : ∀ {d : Nat} {v : V} {x : PyData} {M : List Addr}, Ow d Z H v x M → ∀ b ∈ M, Z b = none ∧ ∃ o, H b = some o
  | 0, _, _, _, h => h.elim
  | d + 1, v, x, M, .inl ⟨_, _, e⟩ => by rw [e]; exact fun _ h => absurd h List.not_mem_nil
  | d + 1, v, x, M, .inr ⟨p, us, L, _, h1, h2, _, e, _, pr⟩ => by
    intro b hb
    rw [e] at hb
    rcases List.mem_cons.mp hb with c | hb
    · rw [c]; exact ⟨h2, _, h1⟩
    · obtain ⟨l, hl, hb⟩ := List.mem_flatten.mp hb
      obtain ⟨q, hq, rfl⟩ := List.mem_map.mp hl
      obtain ⟨u, hu⟩ := paired_memX pr q hq
      exact Ow.al hu b hb
theorem Ow.tt (t : T N Z H Z' H') : ∀ {d : Nat} {v : V} {x : PyData} {M : List Addr}, (∀ b ∈ M, b ∉ N) → Ow d Z H v x M → Ow d Z' H' v x M
  | 0, _, _, _, _, h => h.elim
  | d + 1, v, x, M, _, .inl ⟨a, b, e⟩ => .inl ⟨a, Dt.ex t.z b, e⟩
  | d + 1, v, x, M, n, .inr ⟨p, us, L, e1, h1, h2, e2, e, hl, pr⟩ => by
    have np : p ∉ N := n p (by rw [e]; exact List.mem_cons_self)
    exact .inr ⟨p, us, L, e1, t.hp np h1, t.fr p np h2 ⟨_, h1⟩, e2, e, hl, paired_memR pr fun u q hq g => Ow.tt t (fun b hb => n b (by rw [e]; exact List.mem_cons_of_mem _ (mem_flat hq hb))) g⟩
theorem Ow.tt0 (t : T [] Z H Z' H') (h : Ow d Z H v x M) : Ow d Z' H' v x M := h.tt t fun _ _ => nm_nil
theorem ow_all {F : V → PyData → Prop} {us : List V} {L : List (PyData × List Addr)} (h : Paired (fun u q => F u q.1) us L) : Paired F us (L.map Prod.fst) := by
  induction h with
  | nil => exact .nil
  | cons a t ih => exact .cons a ih
theorem dpAll_of {us : List V} {ds : List PyData} (h : Paired (fun u x => Dp K H u x) us ds) : DpAll K H us ds := by
  induction h with
  | nil => exact .nil
  | cons a t ih => exact .cons a ih
theorem dtAll_of {us : List V} {ds : List PyData} (h : Paired (fun u x => Dt H u x) us ds) : DtAll H us ds := by
  induction h with
  | nil => exact .nil
  | cons a t ih => exact .cons a ih
theorem Ow.dp (z : Ex Z H) : ∀ {d : Nat} {v : V} {x : PyData} {M : List Addr}, Ow d Z H v x M → Dp K H v x
  | 0, _, _, _, h => h.elim
  | d + 1, v, x, M, .inl ⟨_, b, _⟩ => Dt.dp (Dt.ex z b)
  | d + 1, v, x, M, .inr ⟨p, us, L, e1, h1, _, e2, _, _, pr⟩ => by
    rw [e1, e2]
    exact .lst (sq_of h1) (dpAll_of (ow_all (F := fun u x => Dp K H u x) (Paired.mapP pr fun u q g => Ow.dp z g)))
theorem Ow.fz' (z : Ex Z (onH Z H N)) : ∀ {d : Nat} {v : V} {x : PyData} {M : List Addr}, (∀ b ∈ M, b ∈ N) → Ow d Z H v x M → Dt (onH Z H N) v x
  | 0, _, _, _, _, h => h.elim
  | d + 1, v, x, M, _, .inl ⟨_, b, _⟩ => Dt.ex z b
  | d + 1, v, x, M, n, .inr ⟨p, us, L, e1, h1, _, e2, e, _, pr⟩ => by
    rw [e1, e2]
    have hp : onH Z H N p = some (.lst us) := (on_in (n p (by rw [e]; exact List.mem_cons_self))).trans h1
    exact .lst hp (dtAll_of (ow_all (F := fun u x => Dt (onH Z H N) u x) (paired_memR pr fun u q hq g => Ow.fz' z (fun b hb => n b (by rw [e]; exact List.mem_cons_of_mem _ (mem_flat hq hb))) g)))
/-- they stay as they are from now on -/
theorem Ow.fz {G : Hp → Prop} (z : Ex Z H) (h : Ow d Z H v x M) (q : ∀ Z' H', T M Z H Z' H' → Dt Z' v x → G H') : G H := by
  have t := T.fzs (F := M) z fun b hb => (h.al b hb).1
  exact q _ _ t (Ow.fz' t.z (fun _ h => h) h)
theorem s_isiO {Q : VK} (n : notL x = true) (h : Dt Z v x) (z : Ex Z H) (q : Q (.bl false) H) : rIsi K [v, .ty "list"] H Q := by
  cases h with
  | non => exact s_isiN rfl q
  | bl b => exact s_isiB rfl q
  | int i => exact s_isiI rfl q
  | str s => exact s_isiS rfl q
  | lst => cases n
  | tup s a => exact s_isiT (st_of (z _ _ s)) rfl q
end
section
variable {K : PySem.W.Frag} {σ : L2.St} {H Z : Hp} {te : TE} {Q : VK} {g : TG} {vs : List Nat} {d : Nat} {p : Addr} {us : List V} {L : List (PyData × List Addr)}
/-- a comprehension over such a list -/
theorem c_mapO (zh : Ex Z H) (h1 : H p = some (.lst us)) (pr : Paired (fun u q => Ow d Z H u q.1 q.2) us L) (hz : L.length ≤ 40000)
    (turn : ∀ u x M Z1 H1, Ow d Z1 H1 u x M → T [] Z H Z1 H1 → ∀ A : VK, (∀ y Z3 H3, T [] Z1 H1 Z3 H3 → Dt Z3 y x → A y H3) → g u (wipe σ vs) H1 fun σ2 H2 => wipe σ2 vs = wipe σ vs ∧ te σ2 H2 A)
    (fin : ∀ D Z' H', H D = none → T [] Z H Z' H' → Dt Z' (.ref D) (.list (L.map Prod.fst)) → Q (.ref D) H') : LcL K g tYes te vs σ (.ref p) H Q := by
  have hl := Paired.length pr
  refine ⟨p, rfl, ⟨us, sq_of h1⟩, lcT (n := L.length) (M := []) (Z := Z) (fun _ => true) (fun _ _ _ => True) (fun i (x : PyData) y Z => (∃ b, L[i]? = some b ∧ x = b.1) ∧ Dt Z y x) (fun i x y Z1 Z2 e r => ⟨r.1, Dt.ex e r.2⟩) (fun _ _ _ _ _ _ _ _ => trivial) hz zh (fun _ h => absurd h List.not_mem_nil) trivial
    (fun i Z1 H1 hi t => ⟨us, us[i]'(by omega), sq_of (t.hp nm_nil h1), List.getElem?_eq_getElem (by omega)⟩) (fun Z1 H1 t => ⟨us, sq_of (t.hp nm_nil h1), by omega⟩) (fun i hi D Z1 H1 t nD mu _ v H2 hy A B hA hB => ?_) (fun D ys L' Z' H' nD t mu f1 _ hL pr' => ?_)⟩
  · obtain ⟨rfl, fv⟩ := hy
    have hv := fv _ (sq_of (t.hp nm_nil h1))
    obtain ⟨q, hq, ow⟩ := pair_at pr hv
    rw [lc_yes]
    exact turn v q.1 q.2 Z1 H2 (ow.tt0 t) t A fun y Z3 H3 t3 iy => hA rfl q.1 y Z3 H3 t3 trivial ⟨⟨q, hq, rfl⟩, iy⟩
  · have e2 : L'.map Prod.snd = L.map Prod.fst := by
      rw [kept_snd (xs := L) (f := Prod.fst) (fun q hq => by
        obtain ⟨y, hy⟩ := paired_r pr' q hq
        exact hy.1), hL, filter_yes, rg_take, List.take_length]
    have g : Paired (fun y x => Dt Z' y x) ys (L.map Prod.fst) := by rw [← e2]; exact paired_mapR (Paired.mapP pr' fun y q h => h.2)
    exact t_fzV mu t.zh f1 fun Z2 H2 t2 z2 => fin D Z2 H2 nD (t.step t2 (mm_cons (.inr nD) mm_nil)) (.lst z2 (dtAll_of (Paired.mapP g fun y x h => Dt.ex t2.z h)))
end
theorem flat_dis {Ms : List (List Addr)} (nd : Ms.flatten.Nodup) {i j : Nat} {A B : List Addr} (hi : Ms[i]? = some A) (hj : Ms[j]? = some B) (h : i < j) : ∀ b ∈ B, b ∉ A := by
  obtain ⟨i1, e1⟩ := List.getElem?_eq_some_iff.mp hi
  obtain ⟨j1, e2⟩ := List.getElem?_eq_some_iff.mp hj
  have n2 := (List.pairwise_flatten.mp nd).2
  have n3 := List.pairwise_iff_getElem.mp n2 i j i1 j1 h
  rw [e1, e2] at n3
  exact fun b hb ha => n3 b ha b hb rfl
theorem flat_nd {Ms : List (List Addr)} (nd : Ms.flatten.Nodup) {A : List Addr} (h : A ∈ Ms) : A.Nodup := (List.pairwise_flatten.mp nd).1 A h
section
variable {K : PySem.W.Frag} {σ : L2.St} {H Z : Hp} {D : Ends} {g : TG} {ts : TS} {d : Nat} {p : Addr} {us : List V} {L : List (PyData × List Addr)}
/-- for over such a list, each thing changed -/
theorem t_forO (F : L2.St → Prop) (zh : Ex Z H) (h1 : H p = some (.lst us)) (pr : Paired (fun u q => Ow d Z H u q.1 q.2) us L) (nd : (p :: (L.map Prod.snd).flatten).Nodup) (hF : F σ)
    (turn : ∀ u x M Z1 H1 σ, F σ → Ow d Z1 H1 u x M → M.Nodup → Ex Z1 H1 → ∀ Nx : L2.St → Hp → Prop, (∀ σ' Z2 H2, F σ' → T M Z1 H1 Z2 H2 → Nx σ' H2) → g u σ H1 fun σ2 H2 => ts { D with nx := Nx, ct := Nx, bk := D.nx } σ2 H2)
    (fin : ∀ σ' Z' H', F σ' → T (L.map Prod.snd).flatten Z H Z' H' → D.nx σ' H') : ForL K g ts D σ (.ref p) H := by
  obtain ⟨np, nd⟩ := List.nodup_cons.mp nd
  have hl := Paired.length pr
  refine u_forL (fun i σ H1 => F σ ∧ ∃ Z1, T (L.map Prod.snd).flatten Z H Z1 H1 ∧ ∀ j q u, i ≤ j → L[j]? = some q → us[j]? = some u → Ow d Z1 H1 u q.1 q.2) (sq_of h1) ⟨hF, Z, T.refl zh, fun j q u _ hq hu => ?_⟩ (fun i σ H1 _ ⟨_, Z1, t, _⟩ => sq_of (t.hp np h1)) (fun i u σ H1 hu ⟨hF, Z1, t, ow⟩ => ?_) (fun σ H1 ⟨hF, Z1, t, _⟩ => fin σ Z1 H1 hF t)
  · obtain ⟨q', hq', o⟩ := pair_at pr hu
    rw [hq] at hq'
    cases hq'
    exact o
  · obtain ⟨q, hq, _⟩ := pair_at pr hu
    have o := ow i q u (Nat.le_refl _) hq hu
    have hm := List.mem_of_getElem? hq
    have hMi : (L.map Prod.snd)[i]? = some q.2 := by rw [List.getElem?_map, hq]; rfl
    refine turn u q.1 q.2 Z1 H1 σ hF o (flat_nd nd (List.mem_of_getElem? hMi)) t.zh _ fun σ' Z2 H2 hF' t2 => ⟨hF', Z2, t.step t2 (fun b hb => .inl (mem_flat hm hb)), fun j q' u' hj hq' hu' => ?_⟩
    have hMj : (L.map Prod.snd)[j]? = some q'.2 := by rw [List.getElem?_map, hq']; rfl
    exact (ow j q' u' (by omega) hq' hu').tt t2 (flat_dis nd hMi hMj (by omega))
end
end TR

namespace TR
/-- keys told apart by their rooms, each room's in their order -/
noncomputable def spl (l : List Int) (n : Int) : List (List Int) := (List.range n.toNat).map fun (r : Nat) => l.filter fun x => decide (roomOf x n = (r : Int))
theorem spl_len (l : List Int) (n : Int) : (spl l n).length = n.toNat := by
  unfold spl
  rw [List.length_map, List.length_range]
theorem spl_nil (n : Int) : spl [] n = (List.range n.toNat).map fun _ => [] := rfl
theorem spl_at {l : List Int} {n : Int} {i : Nat} {r : List Int} (h : (spl l n)[i]? = some r) : i < n.toNat ∧ r = l.filter fun x => decide (roomOf x n = (i : Int)) := by
  have hi := (List.getElem?_eq_some_iff.mp h).1
  rw [spl_len] at hi
  unfold spl at h
  rw [List.getElem?_map, List.getElem?_range hi] at h
  exact ⟨hi, (Option.some.inj h).symm⟩
theorem spl_get {l : List Int} {n : Int} {i : Nat} (h : i < n.toNat) : (spl l n)[i]? = some (l.filter fun x => decide (roomOf x n = (i : Int))) := by
  unfold spl
  rw [List.getElem?_map, List.getElem?_range h]
  rfl
theorem spl_snoc (l : List Int) {n key : Int} (hn : 1 ≤ n) : ∃ r, (spl l n)[(roomOf key n).toNat]? = some r ∧ (spl l n).set (roomOf key n).toNat (r ++ [key]) = spl (l ++ [key]) n ∧ r.length ≤ l.length := by
  have h := roomOf_range (key := key) hn
  have hk : (roomOf key n).toNat < n.toNat := by omega
  refine ⟨_, spl_get hk, ?_, List.length_filter_le _ _⟩
  apply List.ext_getElem?
  intro i
  rw [List.getElem?_set]
  split
  · rename_i e
    subst e
    rw [if_pos (by rw [spl_len]; exact hk), spl_get hk, List.filter_append]
    congr 2
    rw [List.filter_cons_of_pos (by rw [decide_eq_true]; omega)]
    rfl
  · rename_i e
    by_cases hi : i < n.toNat
    · rw [spl_get hi, spl_get hi, List.filter_append, List.filter_cons_of_neg (by rw [decide_eq_false (by omega)]; exact Bool.false_ne_true)]
      simp
    · rw [List.getElem?_eq_none (by rw [spl_len]; omega), List.getElem?_eq_none (by rw [spl_len]; omega)]
theorem spl_row {l : List Int} {n : Int} : ∀ r ∈ spl l n, r.length ≤ l.length := fun r hr => by
  obtain ⟨i, hi⟩ := List.mem_iff_getElem?.mp hr
  obtain ⟨_, rfl⟩ := spl_at hi
  exact List.length_filter_le _ _
end TR

namespace TR
/-- the keys of a key's room, and how many looks it costs -/
noncomputable def rowK (ks : List Int) (n k : Int) : List Int := (sortI ks).filter fun x => decide (roomOf x n = roomOf k n)
noncomputable def lookI (ks : List Int) (n w k : Int) : Int := 1 + (less (rowK ks n k) k : Int) / w
noncomputable def looksP (ks : List Int) (n w : Int) : List (Int × Int) := (sortI ks).map fun k => (k, lookI ks n w k)
theorem looksP_len (ks : List Int) (n w : Int) : (looksP ks n w).length = ks.length := by
  unfold looksP
  rw [List.length_map, sortI_len]
theorem flat_set {rs : List (List Int)} : ∀ {rs : List (List Int)} {i : Nat} {r : List Int} {x : Int}, rs[i]? = some r → (rs.set i (r ++ [x])).flatten.Perm (rs.flatten ++ [x])
  | [], i, r, x, h => by simp at h
  | a :: rs, 0, r, x, h => by
    cases h
    show ((a ++ [x]) ++ rs.flatten).Perm ((a ++ rs.flatten) ++ [x])
    rw [List.append_assoc, List.append_assoc]
    exact List.Perm.append_left a List.perm_append_comm
  | a :: rs, i + 1, r, x, h => by
    have ih := flat_set (rs := rs) (i := i) (x := x) (by exact h)
    show (a ++ (rs.set i (r ++ [x])).flatten).Perm ((a ++ rs.flatten) ++ [x])
    rw [List.append_assoc]
    exact List.Perm.append_left a ih
theorem spl_flat {n : Int} (hn : 1 ≤ n) : ∀ (j : Nat) (l : List Int), (spl (l.take j) n).flatten.Perm (l.take j)
  | 0, l => by
    rw [List.take_zero, spl_nil]
    have : ∀ m : Nat, ((List.range m).map fun _ => ([] : List Int)).flatten = [] := by
      intro m
      induction m with
      | zero => rfl
      | succ m ih => rw [List.range_succ, List.map_append, List.flatten_append, ih]; rfl
    rw [this]
  | j + 1, l => by
    have ih := spl_flat hn j l
    cases e : l[j]? with
    | none =>
      rw [List.take_add_one, e]
      show (spl (l.take j ++ []) n).flatten.Perm (l.take j ++ [])
      rw [List.append_nil]
      exact ih
    | some x =>
      rw [List.take_add_one, e]
      show (spl (l.take j ++ [x]) n).flatten.Perm (l.take j ++ [x])
      obtain ⟨r, h1, h2, _⟩ := spl_snoc (l.take j) (key := x) hn
      rw [← h2]
      exact (flat_set (rs := []) h1).trans (ih.append_right _)
theorem looks_sort {ks : List Int} {n w : Int} (hn : 1 ≤ n) (nd : ks.Nodup) : sortP ((spl (sortI ks) n).flatMap fun r => r.map fun k => (k, lookI ks n w k)) = looksP ks n w := by
  refine (sortP_of ?_ ?_).symm
  · have h := spl_flat hn (sortI ks).length (sortI ks)
    rw [List.take_length] at h
    have e : ((spl (sortI ks) n).flatMap fun r => r.map fun k => (k, lookI ks n w k)) = (spl (sortI ks) n).flatten.map fun k => (k, lookI ks n w k) := by
      rw [List.map_flatten]
      rfl
    rw [e]
    exact (h.map _).symm
  · refine List.pairwise_map.mpr ((sortI_strict nd).imp fun h => lexI_iff.mpr (.inl h))
theorem sorted_take {S : List Int} (hs : S.Pairwise (· < ·)) {j : Nat} {k : Int} (h : S[j]? = some k) : S.filter (fun x => decide (x < k)) = S.take j := by
  have jl := (List.getElem?_eq_some_iff.mp h).1
  have ek := (List.getElem?_eq_some_iff.mp h).2
  have e : S = S.take j ++ S.drop j := (List.take_append_drop j S).symm
  have h1 : (S.take j).filter (fun x => decide (x < k)) = S.take j := List.filter_eq_self.mpr fun x hx => by
    obtain ⟨i, hi⟩ := List.mem_iff_getElem?.mp hx
    have il := (List.getElem?_eq_some_iff.mp hi).1
    rw [List.length_take] at il
    rw [List.getElem?_take_of_lt (by omega)] at hi
    have := List.pairwise_iff_getElem.mp hs i j (by omega) jl (by omega)
    rw [(List.getElem?_eq_some_iff.mp hi).2, ek] at this
    exact decide_eq_true this
  have h2 : (S.drop j).filter (fun x => decide (x < k)) = [] := List.filter_eq_nil_iff.mpr fun x hx z => by
    obtain ⟨i, hi⟩ := List.mem_iff_getElem?.mp hx
    rw [List.getElem?_drop] at hi
    have il := (List.getElem?_eq_some_iff.mp hi).1
    have z := of_decide_eq_true z
    rcases Nat.eq_zero_or_pos i with c | c
    · subst c
      rw [Nat.add_zero, h] at hi
      have := Option.some.inj hi
      omega
    · have := List.pairwise_iff_getElem.mp hs j (j + i) jl il (by omega)
      rw [(List.getElem?_eq_some_iff.mp hi).2, ek] at this
      omega
  calc S.filter (fun x => decide (x < k)) = (S.take j ++ S.drop j).filter (fun x => decide (x < k)) := by rw [← e]
    _ = S.take j := by rw [List.filter_append, h1, h2, List.append_nil]
/-- the keys of a room among the first ones -/
noncomputable def cntS (ks : List Int) (n : Int) (j : Nat) (r : Int) : Int := ((((sortI ks).take j).filter fun x => decide (roomOf x n = r)).length : Int)
theorem looked_room {ks : List Int} {n w k : Int} (hw : 0 < w) (nd : ks.Nodup) (hk : k ∈ rowK ks n k) : (lookedI (rowsOf (rowK ks n k) w) k 0).2 = lookI ks n w k := by
  have hs : (rowK ks n k).Pairwise (· < ·) := (sortI_strict nd).filter _
  have nd' : (rowK ks n k).Nodup := hs.imp fun h => by omega
  rw [rowsOf_looked _ hw nd']
  obtain ⟨i, hi⟩ := List.mem_iff_getElem?.mp hk
  have il := (List.getElem?_eq_some_iff.mp hi).1
  have hl : less (rowK ks n k) k = i := by
    unfold less
    rw [sorted_take hs hi, List.length_take]
    omega
  show min (rowsI ((rowK ks n k).length : Int) w) (1 + (less (rowK ks n k) k : Int) / w) = lookI ks n w k
  unfold lookI
  have h1 : rowsI ((rowK ks n k).length : Int) w = 1 + max 0 (((rowK ks n k).length : Int) - 1) / w := rowsI_more (by omega) hw
  have h2 : (less (rowK ks n k) k : Int) / w ≤ max 0 (((rowK ks n k).length : Int) - 1) / w := Int.ediv_le_ediv hw (by omega)
  omega
/-- the looks of a room's keys, and their sum -/
noncomputable def lookRow (m : Nat) (w : Int) : List Int := (List.range m).map fun (i : Nat) => 1 + (i : Int) / w
end TR
namespace TR
open PySem L2
/-- a dict from rooms to lists of looks -/
noncomputable def DL (H : Hp) (d : Addr) (w : Int) (f : Int → Nat) (n : Nat) : Prop := ∃ kvs : List (L2.Key × V), H d = some (.dK kvs) ∧ kvs.length ≤ n ∧
  (∀ e ∈ kvs, ∃ (m : Nat) (a : Addr), m ≤ 1000 ∧ e.2 = .ref a ∧ a ≠ d ∧ H a = some (.lst ((lookRow m w).map V.int))) ∧
  ∀ r : Int, (valV kvs (Sum.inl r) = none ∧ f r = 0) ∨ ∃ a, valV kvs (Sum.inl r) = some (.ref a) ∧ a ≠ d ∧ H a = some (.lst ((lookRow (f r) w).map V.int))
section
variable {H : Hp} {Q : VK} {d : Addr} {w : Int} {f : Int → Nat} {n : Nat}
end
end TR

/-! what six questions answer, as own lists -/
namespace TR
open PySem L2
section
variable {K : PySem.W.Frag} {Z H H' : Hp} {p : Addr} {qs : List Addr} {v : V} {us : List V} {d : Nat}
/-- one new thing that stays, by old words -/
theorem T.newE {o : HO} (n : H p = none) (e : Ex H H') (f : H' p = some o) (z : Ex Z H) : T [] Z H (upd Z p o) H' :=
  ⟨Ex.new (Ex.back z n), fun b u h => by
    by_cases c : b = p
    · rw [c, upd_same] at h
      rw [c, f]; exact h
    · rw [upd_ne c] at h
      exact e _ _ (z _ _ h), fun b o _ h => e b o h, fun b o h => ⟨o, e b o h⟩, fun b _ zb ⟨o, h⟩ => by rw [upd_ne (ne_of_none h n)]; exact zb⟩
theorem ow_flat {ds : List PyData} (h : H p = some (.lst us)) (zp : Z p = none) (pr : Paired (fun v x => Dt Z v x) us ds) (hn : ∀ x ∈ ds, notL x = true) (hl : ds.length ≤ 40000) : Ow (d + 2) Z H (.ref p) (.list ds) [p] := by
  refine .inr ⟨p, us, ds.map fun x => (x, []), rfl, h, zp, by rw [List.map_map]; exact congrArg _ (List.map_id ds).symm, ?_, by rw [List.length_map]; exact hl, ?_⟩
  · rw [List.map_map]
    have e : (ds.map (Prod.snd ∘ fun x => ((x, []) : PyData × List Addr))).flatten = [] := by
      clear pr hn hl
      induction ds with
      | nil => rfl
      | cons x ds ih => rw [List.map_cons, List.flatten_cons, ih]; rfl
    rw [e]
  · clear hl h
    induction pr with
    | nil => exact .nil
    | cons a t ih => exact .cons (.inl ⟨hn _ List.mem_cons_self, a, rfl⟩) (ih fun x hx => hn x (List.mem_cons_of_mem _ hx))
theorem dt_ints : ∀ ns : List Int, Paired (fun v x => Dt Z v x) (ns.map V.int) (ns.map PyData.int)
  | [] => .nil
  | n :: ns => .cons (.int n) (dt_ints ns)
theorem ow_ints {ns : List Int} (h : H p = some (.lst (ns.map V.int))) (zp : Z p = none) (hl : ns.length ≤ 40000) : Ow (d + 2) Z H (.ref p) (Py.d ns) [p] :=
  ow_flat h zp (dt_ints ns) (fun x hx => by
    obtain ⟨i, _, rfl⟩ := List.mem_map.mp hx
    rfl) (by rw [List.length_map]; exact hl)
theorem ow_rows {F : Addr → List Int → Prop} {qs : List Addr} {rs : List (List Int)} (pr : Paired F qs rs) (h : ∀ q r, F q r → Ow d Z H (.ref q) (Py.d r) [q]) :
    ∃ L : List (PyData × List Addr), L.map Prod.fst = rs.map Py.d ∧ (L.map Prod.snd).flatten = qs ∧ L.length = rs.length ∧ Paired (fun u q => Ow d Z H u q.1 q.2) (qs.map V.ref) L := by
  induction pr with
  | nil => exact ⟨[], rfl, rfl, rfl, .nil⟩
  | cons a t ih =>
    rename_i q r qs rs
    obtain ⟨L, h1, h2, h3, h4⟩ := ih
    exact ⟨(Py.d r, [q]) :: L, by rw [List.map_cons, List.map_cons, h1], by rw [List.map_cons, List.flatten_cons, h2]; rfl, by rw [List.length_cons, List.length_cons, h3], .cons (h q r a) h4⟩
theorem paired_memB {β γ : Type} {F : β → γ → Prop} {xs : List β} {ys : List γ} (h : Paired F xs ys) : Paired (fun x y => F x y ∧ x ∈ xs ∧ y ∈ ys) xs ys := by
  induction h with
  | nil => exact .nil
  | cons a t ih => exact .cons ⟨a, List.mem_cons_self, List.mem_cons_self⟩ (Paired.mapP ih fun x y g => ⟨g.1, List.mem_cons_of_mem _ g.2.1, List.mem_cons_of_mem _ g.2.2⟩)
theorem ow_RW {rs : List (List Int)} (z : Ex Z H) (R : RW K H H' p qs rs) (hl : rs.length ≤ 40000) (hr : ∀ r ∈ rs, r.length ≤ 40000) : Ow 3 Z H' (.ref p) (Py.d rs) (p :: qs) := by
  have zn : ∀ q ∈ p :: qs, Z q = none := fun q hq => Ex.back z (R.fr q hq)
  obtain ⟨L, h1, h2, h3, h4⟩ := ow_rows (d := 2) (Z := Z) (H := H') (paired_memB R.rows) fun q r ⟨⟨vs, g1, g2⟩, hq, hm⟩ => by
    obtain rfl := pair_ints g2
    exact ow_ints g1 (zn q (List.mem_cons_of_mem _ hq)) (hr r hm)
  exact .inr ⟨p, _, L, rfl, R.own, zn p List.mem_cons_self, by rw [h1]; rfl, by rw [h2], by omega, h4⟩
end
/-- the first place of m -/
noncomputable def posI : List Int → Int → Nat
  | [], _ => 0
  | x :: l, m => if x = m then 0 else posI l m + 1
theorem posI_of : ∀ {l : List Int} {m : Int} {j : Nat}, l[j]? = some m → (∀ i, i < j → l[i]? ≠ some m) → posI l m = j
  | [], _, _, h, _ => by simp at h
  | x :: l, m, 0, h, _ => by
    have e : x = m := by simpa using h
    exact if_pos e
  | x :: l, m, j + 1, h, g => by
    have n : x ≠ m := fun e => g 0 (by omega) (by rw [e]; rfl)
    have := posI_of (l := l) (m := m) (j := j) h fun i hi => g (i + 1) (by omega)
    show (if x = m then 0 else posI l m + 1) = j + 1
    rw [if_neg n, this]
noncomputable def rowLensI (ks : List Int) (n w : Int) : List Int := ((spl (sortI ks) n).map fun r => (r.length : Int)).map fun m => rowsI m w
noncomputable def ansI (way : Int) (ks : List Int) (n w : Int) : PyData :=
  if way = 0 then Py.d (spl (sortI ks) n) else
  if way = 1 then Py.d ((spl (sortI ks) n).map fun r => (r.length : Int)) else
  if way = 2 then Py.d (rowsOf ks w) else
  if way = 3 then Py.d (looksP ks n w) else
  if way = 4 then Py.d (maxI (rowLensI ks n w), ((posI (rowLensI ks n w) (maxI (rowLensI ks n w)) : Nat) : Int)) else
  Py.d ((cutI ks none (some 9)).map fun k => lookedI (rowsOf ks w) k 0)
/-- told twice it is alike -/
noncomputable def OkD (x : PyData) : Prop := SeqAt.shaped x = true ∧ PyData.eqv x x = true
theorem okD_of {α : Type} [Py α] (a : α) (h : Py.dep α ≤ 64) : OkD (Py.d a) := ⟨shaped_of a h, (Py.eqv a a).mpr rfl⟩
theorem ansI_ok (way : Int) (ks : List Int) (n w : Int) : OkD (ansI way ks n w) := by
  unfold ansI
  split
  · exact okD_of _ (by decide)
  split
  · exact okD_of _ (by decide)
  split
  · exact okD_of _ (by decide)
  split
  · exact okD_of _ (by decide)
  split
  · exact okD_of _ (by decide)
  exact okD_of _ (by decide)
theorem spl_lens (l : List Int) (n : Int) : ∀ r ∈ spl l n, r.length ≤ l.length := fun r hr => by
  obtain ⟨i, _, rfl⟩ := List.mem_map.mp hr
  exact List.length_filter_le _ _
theorem rowsOf_lens (l : List Int) (w : Int) : ∀ r ∈ rowsOf l w, r.length ≤ l.length := fun r hr => by
  obtain ⟨i, _, rfl⟩ := List.mem_map.mp hr
  have h := (cutI_sub (sortI l) (some ((i : Int) * w)) (some ((i : Int) * w + w))).length_le
  rw [sortI_len] at h
  exact h
section
variable {K : PySem.W.Frag} {H : Hp} {Q : VK}
theorem n_sortedPN {a : Addr} {vs : List V} {l : List (Int × Int)} (h : SqL K H a vs) (pr : Paired (Tp H) vs l) (q : ∀ p ws H', H p = none → Ex H H' → H' p = some (.lst ws) → Paired (Tp H') ws (sortP l) → (∀ y ∈ ws, y ∈ vs) → Q (.ref p) H') : rSortedPO K [.ref a] H Q := by
  have ho : ∀ x ∈ vs, Tp H x (keyP H x) := fun x hx => by
    obtain ⟨r, _, g⟩ := pair_all pr x hx
    rw [keyP_of g]
    exact g
  refine ⟨a, vs, keyP H, rfl, h, ho, fun ys p hs hb hp => ?_⟩
  have e : ys.map (keyP H) = sortP l := by
    refine sortP_of ?_ ?_
    · rw [← keyP_map pr]
      exact hb.perm.map _
    · refine List.pairwise_map.mpr (List.Pairwise.imp (fun {x y} z => ?_) hs)
      have z := SrtO.lexB_no.mp z
      exact lexI_iff.mpr (by omega)
  refine q p ys _ hp (Ex.new hp) upd_same ?_ fun y hy => hb.perm.mem_iff.mp hy
  rw [← e]
  have hy : ∀ x ∈ ys, Tp H x (keyP H x) := fun x hx => ho x (hb.perm.mem_iff.mp hx)
  have e2 : Ex H (upd H p (.lst ys)) := Ex.new hp
  clear e hs hb ho
  generalize upd H p (.lst ys) = H' at e2
  induction ys with
  | nil => exact .nil
  | cons y ys ih => exact .cons (Tp.ex e2 (hy y List.mem_cons_self)) (ih fun x hx => hy x (List.mem_cons_of_mem _ hx))
theorem u_mapITpN {σ : L2.St} {te : TE} {g : TG} {vs : List Nat} {a : Addr} {l : List Int} (N : V → Prop) (f : Int → Int × Int) (h : SqL K H a (l.map V.int)) (hz : l.length ≤ 40000)
    (turn : ∀ x, x ∈ l → ∀ D H', Ex H H' → H D = none → (∃ o, H' D = some o) → ∀ A : VK, (∀ y H4, Ex H' H4 → (∀ Z, ExM D H4 Z → Ex H Z → Tp Z y (f x)) → N y → A y H4) → g (.int x) (wipe σ vs) H' fun σ2 H2 => wipe σ2 vs = wipe σ vs ∧ te σ2 H2 A)
    (fin : ∀ D ws H', H D = none → Ex H H' → H' D = some (.lst ws) → Paired (Tp H') ws (l.map f) → (∀ y ∈ ws, N y) → Q (.ref D) H') : LcL K g tYes te vs σ (.ref a) H Q := by
  refine u_lcLR V.int l (fun _ => true) (fun x y H => Tp H y (f x) ∧ N y) (fun _ _ _ _ e h => ⟨Tp.ex e h.1, h.2⟩) h hz (fun D hD x hx H' e o A B hA hB => ?_) (fun D H' ws hD e f2 pr2 => ?_)
  · rw [lc_yes]
    exact turn x hx D H' e hD o A (fun y H4 e4 k n => hA rfl y H4 e4 fun Z m z => ⟨k Z m z, n⟩)
  · rw [filter_yes] at pr2
    refine fin D ws H' hD e f2 (paired_flip (F := Tp H') f (Paired.mapP pr2 fun _ _ g => g.1)) fun y hy => ?_
    obtain ⟨x, hx⟩ := paired_r pr2 y hy
    exact hx.2
end
theorem tp_addrs {H : Hp} : ∀ {ws : List V} {l : List (Int × Int)}, Paired (Tp H) ws l → ∃ as : List Addr, ws = as.map V.ref ∧ Paired (fun a (r : Int × Int) => H a = some (.tup [.int r.1, .int r.2])) as l
  | _, _, .nil => ⟨[], rfl, .nil⟩
  | _, _, .cons h t => by
    obtain ⟨a, rfl, g⟩ := h
    obtain ⟨as, rfl, pr⟩ := tp_addrs t
    exact ⟨a :: as, rfl, .cons g pr⟩
/-- told pairs of numbers: the pairs stay, the list is the asker's own -/
theorem ow_prs {Z H H' : Hp} {p : Addr} {ws : List V} {l : List (Int × Int)} {G : Prop} (z : Ex Z H) (e : Ex H H') (np : H p = none) (f : H' p = some (.lst ws)) (pr : Paired (Tp H') ws l)
    (nw : ∀ y ∈ ws, ∀ a, y = .ref a → H a = none) (hl : l.length ≤ 40000) (q : ∀ Z', T [] Z H Z' H' → Ow 3 Z' H' (.ref p) (Py.d l) [p] → G) : G := by
  obtain ⟨as, rfl, pa⟩ := tp_addrs pr
  have na : ∀ a ∈ as, H a = none := fun a ha => nw _ (List.mem_map.mpr ⟨a, ha, rfl⟩) a rfl
  have t : T [] Z H (onH Z H' as) H' := (T.ofEx e z : T [] Z H Z H').step (T.fzs (z.trans e) fun b hb => Ex.back z (na b hb)) fun b hb => .inr (na b hb)
  have pn : p ∉ as := fun hp => by
    obtain ⟨i, hi⟩ := List.mem_iff_getElem?.mp hp
    obtain ⟨r, _, g⟩ := pair_at pa hi
    rw [f] at g
    cases g
  refine q _ t (ow_flat (ds := l.map Py.d) f ((on_out pn).trans (Ex.back z np)) ?_ (fun x hx => ?_) (by rw [List.length_map]; exact hl))
  · have pb := paired_memB pa
    have go : ∀ {as' : List Addr} {l' : List (Int × Int)}, Paired (fun a (r : Int × Int) => H' a = some (.tup [.int r.1, .int r.2]) ∧ a ∈ as ∧ r ∈ l) as' l' → Paired (fun v x => Dt (onH Z H' as) v x) (as'.map V.ref) (l'.map Py.d) := by
      intro as' l' h
      induction h with
      | nil => exact .nil
      | cons a t ih => exact .cons (.tup ((on_in a.2.1).trans a.1) (.cons (.int _) (.cons (.int _) .nil))) ih
    exact go pb
  · obtain ⟨i, _, rfl⟩ := List.mem_map.mp hx
    rfl
end TR

namespace TR
theorem nodup_le : ∀ {V L : List Int}, V.Nodup → (∀ x ∈ V, x ∈ L) → V.length ≤ L.length
  | [], _, _, _ => Nat.zero_le _
  | v :: V, L, h, s => by
    have h' := List.nodup_cons.mp h
    have hv := s v List.mem_cons_self
    have := nodup_le (L := L.erase v) h'.2 fun x hx => (List.mem_erase_of_ne (fun (z : x = v) => h'.1 (by rw [← z]; exact hx))).mpr (s x (List.mem_cons_of_mem _ hx))
    rw [List.length_erase_of_mem hv] at this
    have := List.length_pos_of_mem hv
    rw [List.length_cons]
    omega
end TR

/-! the law's doing of a step by the last room with rows -/
namespace TR
open PySem L2
noncomputable def someR (rss : List (List Row)) : List Int := ((List.range rss.length).filter fun i => decide (rss.getD i [] ≠ [])).map fun (i : Nat) => (i : Int)
end TR
namespace TR
open PySem L2
/-! the steps of a split and of a join are small -/
noncomputable def StpR : Stp → Prop
  | .rooms m => 1 ≤ m
  | s => StpB s
end TR

/-! putting and dropping: behind any steps the other keys are found, the change's own one as ahead up to one of the steps, as behind it from then on -/
namespace TR
open PySem L2
noncomputable def outE (es : Row) (k : Int) : Row := es.filter fun e => decide (e.1 ≠ k)
noncomputable def putE (es : Row) (k : Int) (t : Tx) : Row := outE es k ++ [(k, t)]
noncomputable def loE (l : Row) (k : Int) : Row := l.filter fun e => decide (e.1 < k)
noncomputable def hiE (l : Row) (k : Int) : Row := l.filter fun e => decide (k < e.1)
noncomputable def putS (y : Yard) (k : Int) (t : Tx) : List Stp :=
  backw (roomOf k y.b).toNat (cutE y.a.toNat (sortE (outE (y.c.getD (roomOf k y.b).toNat []).flatten k ++ [(k, t)]))) (y.c.getD (roomOf k y.b).toNat [])
noncomputable def dropS (y : Yard) (k : Int) : List Stp :=
  onw (roomOf k y.b).toNat (cutE y.a.toNat (sortE (outE (y.c.getD (roomOf k y.b).toNat []).flatten k))) (y.c.getD (roomOf k y.b).toNat [])
end TR
namespace TR
open PySem L2
end TR

/-! dicts of numbers and texts: d.items(), sorted(d.items()) -/
namespace L2
open PySem PySem.W PySem.Spec PyProof.Rows SrtO SrtS TR
noncomputable def kvE (e : Ent) : Key × V := (Sum.inl e.1, .str e.2.1)
section
variable {X : Cx}
noncomputable def rItemsK : V → List V → Hp → VK → Prop := fun x xs H Q => ∃ (a : Addr) (kvs : List (Key × V)), x = .ref a ∧ xs = [] ∧ H a = some (.dK kvs) ∧ ∀ p, H p = none → Q (.ref p) (upd H p (DX.itemsO p a))
noncomputable def rSortIt : List V → Hp → VK → Prop := fun vs H Q => ∃ (p a : Addr) (l : List Ent), vs = [.ref p] ∧ H p = some (DX.itemsO p a) ∧ H a = some (.dK (l.map kvE)) ∧ Keys1 l ∧
  ∀ (H' : Hp) (q : Addr) (ws : List V), Ex H H' → H q = none → H' q = some (.lst ws) → Paired (fun v (e : Ent) => ∃ t, v = V.ref t ∧ H t = none ∧ H' t = some (.tup [.int e.1, .str e.2.1])) ws (sortE l) → Q (.ref q) H'
end
end L2

/-! sorted(d) of a dict of numbers, any number of them -/
namespace L2
open PySem PySem.W PySem.Spec PyProof.Rows SrtO TR
section
variable {X : Cx}
noncomputable def rSortN : List V → Hp → VK → Prop := fun vs H Q => ∃ (b : Addr) (l : TR.Row), vs = [.ref b] ∧ H b = some (.dK (l.map kvE)) ∧ ∀ p, H p = none → Q (.ref p) (upd H p (.lst ((TR.sortI (l.map Prod.fst)).map V.int)))
end
end L2
namespace TR
open PySem L2
variable {Z H : Hp} {d : Addr} {l : Row} {Q : VK}
end TR

/-! dicts of numbers and texts, in T -/
namespace TR
open PySem L2
/-- a dict that may be changed -/
structure Dm (Z H : Hp) (D : Addr) (l : Row) : Prop where
  h : H D = some (.dK (l.map kvE))
  zd : Z D = none
  zh : Ex Z H
noncomputable def setE (l : Row) (k : Int) (t : Tx) : Row := if k ∈ l.map Prod.fst then l.map (fun e => if e.1 = k then (e.1, t) else e) else l ++ [(k, t)]
/-! the rules -/
noncomputable def rSI (x : V) (H : Hp) (Q : VK) : Prop := ∃ (d : Addr) (l : Row), x = .ref d ∧ H d = some (.dK (l.map kvE)) ∧ Keys1 l ∧
  ∀ (H' : Hp) (q : Addr) (ws : List V), Ex H H' → H q = none → H' q = some (.lst ws) → Paired (fun v (e : Ent) => ∃ t, v = V.ref t ∧ H t = none ∧ H' t = some (.tup [.int e.1, .str e.2.1])) ws (sortE l) → Q (.ref q) H'
noncomputable def tSI (te : TE) : TE := fun σ H Q => te σ H fun x H1 => rSI x H1 Q
section
variable {K : PySem.W.Frag} {M : List Addr} {Z H Z' H' : Hp} {p a d D : Addr} {l : Row} {k : Int} {t : Tx} {Q : VK}
noncomputable def rDict (K : PySem.W.Frag) : List V → Hp → VK → Prop := fun xs H Q => ∃ (a : Addr) (ps : List Addr) (kvs : List (L2.Key × V)), xs = [.ref a] ∧ SqL K H a (ps.map V.ref) ∧ Paired (fun p kv => SqT K H p [kV kv.1, kv.2]) ps kvs ∧ ∀ p, H p = none → Q (.ref p) (upd H p (.dK (mergeK [] kvs)))
noncomputable def rDictD : List V → Hp → VK → Prop := fun xs H Q => ∃ (a : Addr) (kvs : List (L2.Key × V)), xs = [.ref a] ∧ Rd H a (.dK kvs) ∧ ∀ p, H p = none → Q (.ref p) (upd H p (.dK kvs))
noncomputable def rSortD : List V → Hp → VK → Prop := fun xs H Q => ∃ (a : Addr) (kvs : List (L2.Key × V)) (ks : List Int), xs = [.ref a] ∧ Rd H a (.dK kvs) ∧ kvs.map (·.1) = ks.map Sum.inl ∧ ks.length < 64 ∧ ∀ (ys : List Int) (p : Addr), ys.Perm ks → ys.Pairwise (· ≤ ·) → H p = none → Q (.ref p) (upd H p (.lst (ys.map V.int)))
noncomputable def rLenDm : List V → Hp → VK → Prop := fun xs H Q => ∃ a kvs, xs = [V.ref a] ∧ H a = some (.dK kvs) ∧ Q (.int kvs.length) H
noncomputable def DGb (x y : V) (H : Hp) (Q : VK) : Prop := ∃ a o, x = .ref a ∧ DGet H a y o ∧ Q (o.getD .non) H
noncomputable def DGa (ty : TE) (σ : L2.St) (x : V) (H1 : Hp) (Q : VK) : Prop := ∃ a, x = .ref a ∧ IsD H1 a ∧ ty σ H1 fun y H2 => ∃ o, DGet H2 a y o ∧ Q (o.getD .non) H2
noncomputable def DIx (x y : V) (H : Hp) (Q : VK) : Prop := ∃ a v, x = .ref a ∧ DGet H a y (some v) ∧ Q v H
noncomputable def DInn (y x : V) (H : Hp) (Q : VK) : Prop := ∃ a o, x = .ref a ∧ DGet H a y o ∧ Q (.bl o.isSome) H
noncomputable def DNin (y x : V) (H : Hp) (Q : VK) : Prop := ∃ a o, x = .ref a ∧ DGet H a y o ∧ Q (.bl (!o.isSome)) H
noncomputable def DPa (ty : TE) (σ : L2.St) (x : V) (H1 : Hp) (Q : VK) : Prop := ∃ a, x = .ref a ∧ IsD H1 a ∧ ty σ H1 fun y H2 => ∃ kvs k v, H2 a = some (.dK kvs) ∧ y = kV k ∧ valV kvs k = some v ∧ Q v (upd H2 a (.dK (dropK kvs k)))
end
end TR
namespace TR
open PySem L2
end TR

/-! a comprehension over a dict's keys -/
namespace TR
open PySem L2
section
variable {K : PySem.W.Frag} {σ : L2.St} {Z H : Hp} {tt : TT} {te td : TE} {Q : VK} {g : TG} {vs : List Nat} {d : Addr} {l : Row}
noncomputable def keepAt (l : Row) (p : Ent → Bool) (i : Nat) : Bool := ((l[i]?).map p).getD false
end
end TR

/-! how many rooms so many keys ask -/
namespace TR
noncomputable def roomsFor (c f : Int) : Int := max 1 (-((-c) / f))
end TR

/-! tables: what an instance of Table is, in T -/
namespace TR
open PySem L2
/-- a value's kind -/
inductive KindV (K : PySem.W.Frag) (H : Hp) : V → String → Prop
  | int (i : Int) : KindV K H (.int i) "int"
  | bl (b : Bool) : KindV K H (.bl b) "bool"
  | str (x : Str) (h : x.length ≤ 100000) : KindV K H (.str x) "str"
  | non : KindV K H .non "NoneType"
  | lst {a : Addr} {xs : List V} (h : SqL K H a xs) : KindV K H (.ref a) "list"
  | tup {a : Addr} {xs : List V} (h : SqT K H a xs) : KindV K H (.ref a) "tuple"
  | dct {a : Addr} {l : List (L2.Key × V)} (h : H a = some (.dK l)) : KindV K H (.ref a) "dict"
noncomputable def rListDm : List V → Hp → VK → Prop := fun xs H Q => ∃ p kvs, xs = [.ref p] ∧ H p = some (.dK kvs) ∧ ∀ q, H q = none → Q (.ref q) (upd H q (.lst (kvs.map fun kv => kV kv.1)))
noncomputable def wholeV : V → Bool
  | .int _ => true
  | _ => false
noncomputable def keyV : V → Bool
  | .int i => decide (0 ≤ i ∧ i < 1152921504606846976)
  | _ => false
noncomputable def sizeV : V → Bool
  | .int i => decide (1 ≤ i ∧ i ≤ 8)
  | _ => false
noncomputable def nameV : V → Bool
  | .str x => nameB x
  | _ => false
section
variable {K : PySem.W.Frag} {Z H Z' H' : Hp} {M : List Addr} {v : V} {n : String}
end
/-- the attributes of a table -/
noncomputable def tfs (w f : V) (D : Addr) : List (Str × V) := [("wide", w), ("fill", f), ("things", .ref D)]
structure Tb (K : PySem.W.Frag) (Z H : Hp) (a D : Addr) (w f : Int) (l : Row) : Prop where
  at_ : ∃ dx, Z a = some (.ins (clsA K "Table") dx (tfs (.int w) (.int f) D))
  dm : Dm Z H D l
  k1 : Keys1 l
  w0 : 1 ≤ w ∧ w ≤ 8
  f0 : 1 ≤ f ∧ f ≤ 8
  le : l.length ≤ 64
  ks : ∀ e ∈ l, 0 ≤ e.1 ∧ e.1 < 1152921504606846976
/-- how many rooms a table has | a room's keys -/
noncomputable def roomsT (f : Int) (l : Row) : Int := roomsFor (l.length : Int) f
noncomputable def keysT_ (f : Int) (l : Row) (r : Int) : List Int := sortI ((l.filter fun e => decide (roomOf e.1 (roomsT f l) = r)).map Prod.fst)
section
variable {K : PySem.W.Frag} {Z H Z' H' : Hp} {M : List Addr} {a D p : Addr} {w f : Int} {l : Row} {Q : VK} {E : XK}
/-! promises -/
noncomputable def spTCount (K : PySem.W.Frag) : Sp := fun vs H Q _ => ∃ (a D : Addr) (w f : Int) (l : Row) (Z : Hp), vs = [.ref a] ∧ Tb K Z H a D w f l ∧ Q (.int (l.length : Int)) H
noncomputable def spTRooms (K : PySem.W.Frag) : Sp := fun vs H Q _ => ∃ (a D : Addr) (w f : Int) (l : Row) (Z : Hp), vs = [.ref a] ∧ Tb K Z H a D w f l ∧ Q (.int (roomsT f l)) H
noncomputable def spTKeysIn (K : PySem.W.Frag) : Sp := fun vs H Q _ => ∃ (a D : Addr) (w f r : Int) (l : Row) (Z : Hp), vs = [.ref a, .int r] ∧ Tb K Z H a D w f l ∧ ∀ p Z' H', H p = none → T [D] Z H Z' H' → Tb K Z' H' a D w f l → Lm Z' H' p (keysT_ f l r) → Q (.ref p) H'
noncomputable def spTEntries (K : PySem.W.Frag) : Sp := fun vs H Q _ => ∃ (a D : Addr) (w f : Int) (l : Row) (Z : Hp), vs = [.ref a] ∧ Tb K Z H a D w f l ∧ ∀ p Z' H', H p = none → T [] Z H Z' H' → Lm Z' H' p (sortE l) → Q (.ref p) H'
noncomputable def spTCounts (K : PySem.W.Frag) : Sp := fun vs H Q _ => ∃ (a D : Addr) (w f : Int) (l : Row) (Z : Hp), vs = [.ref a] ∧ Tb K Z H a D w f l ∧ ∀ p Z' H', H p = none → T [] Z H Z' H' → Ls Z' p ((spl (sortI (l.map Prod.fst)) (roomsT f l)).map fun r => (r.length : Int)) → Q (.ref p) H'
noncomputable def spTSpill (K : PySem.W.Frag) : Sp := fun vs H Q _ => ∃ (a D : Addr) (w f : Int) (l : Row) (Z : Hp), vs = [.ref a] ∧ Tb K Z H a D w f l ∧ ∀ Z' H', T [] Z H Z' H' → Q (.int (spillI ((spl (sortI (l.map Prod.fst)) (roomsT f l)).map fun r => (r.length : Int)) w)) H'
/-- the most rows of a room, the first such room -/
noncomputable def longI (ns : List Int) (w m : Int) (j : Nat) : Prop := m = maxI (ns.map fun m => rowsI m w) ∧ (ns.map fun m => rowsI m w)[j]? = some m ∧ ∀ i, i < j → (ns.map fun m => rowsI m w)[i]? ≠ some m
noncomputable def spTLongest (K : PySem.W.Frag) : Sp := fun vs H Q _ => ∃ (a D : Addr) (w f : Int) (l : Row) (Z : Hp), vs = [.ref a] ∧ Tb K Z H a D w f l ∧ ∀ p m j Z' H', H p = none → T [] Z H Z' H' → longI ((spl (sortI (l.map Prod.fst)) (roomsT f l)).map fun r => (r.length : Int)) w m j → Z' p = some (.tup [.int m, .int (j : Nat)]) → Q (.ref p) H'
/-- what a put tells -/
noncomputable def PutTold (Z H Z' H' : Hp) (f : Int) (l l' : Row) (r : V) : Prop :=
  if roomsT f l' = roomsT f l then r = .non else ∃ p c, r = .ref p ∧ H p = none ∧ H c = none ∧ Z' p = some (.tup [.int (roomsT f l - whole (roomsT f l)), .int (roomsT f l), .ref c]) ∧ Lm Z' H' c (keysT_ f l' (roomsT f l))
noncomputable def spTPut (K : PySem.W.Frag) : Sp := fun vs H Q E => ∃ (a D : Addr) (w f : Int) (l : Row) (Z : Hp) (v t : V) (n m : String), vs = [.ref a, v, t] ∧ Tb K Z H a D w f l ∧ KindV K H v n ∧ KindV K H t m ∧
  (keyV v = false → ∀ d, H d = none → E (.ref (clsA K "NoKey")) (some d) (upd H d (.xd [("key", v)]))) ∧
  (keyV v = true → nameV t = false → ∀ d, H d = none → E (.ref (clsA K "NoThing")) (some d) (upd H d (.xd [("thing", t)]))) ∧
  ∀ k x, v = .int k → t = .str x.1 → keyV v = true → nameV t = true →
    (k ∉ l.map Prod.fst → l.length = 64 → ∀ d, H d = none → E (.ref (clsA K "Full")) (some d) (upd H d (.xd [("many", .int 64)]))) ∧
    ((k ∈ l.map Prod.fst ∨ l.length < 64) → ∀ r Z' H', T [D] Z H Z' H' → Tb K Z' H' a D w f (setE l k x) → PutTold Z H Z' H' f l (setE l k x) r → Q r H')
end
end TR
namespace TR
open PySem L2
section
variable {K : PySem.W.Frag} {Z H Z' H' : Hp} {M : List Addr} {a d p : Addr} {l : Row} {Q : VK}
end
end TR
namespace TR
open PySem L2
end TR

namespace TR
open PySem L2
/-- a room's rows of entries -/
noncomputable def entOf (l : Row) (k : Int) : Ent := (k, (thingOf l k).getD ⟨"", by decide +kernel⟩)
noncomputable def rowsE (w f : Int) (l : Row) (r : Int) : List Row := (rowsOf (keysT_ f l r) w).map fun ks => ks.map (entOf l)
noncomputable def spTRoom (K : PySem.W.Frag) : Sp := fun vs H Q E => ∃ (a D : Addr) (w f : Int) (l : Row) (Z : Hp) (v : V) (n : String), vs = [.ref a, v] ∧ Tb K Z H a D w f l ∧ KindV K H v n ∧
  ((∀ r, v = .int r → ¬ (0 ≤ r ∧ r < roomsT f l)) → ∀ d, H d = none → E (.ref (clsA K "NoRoom")) (some d) (upd H d (.xd [("number", v)]))) ∧
  ∀ r, v = .int r → 0 ≤ r ∧ r < roomsT f l → ∀ (p : Addr) (ws : List Addr) Z' H', T [D] Z H Z' H' → Tb K Z' H' a D w f l → (p :: ws).Nodup → (∀ b ∈ p :: ws, H b = none) → Z' p = some (.lst (ws.map V.ref)) → Paired (fun x rw => Ls Z' x rw) ws (rowsE w f l r) → Q (.ref p) H'
noncomputable def spTTwin (K : PySem.W.Frag) : Sp := fun vs H Q _ => ∃ (a D : Addr) (w f : Int) (l : Row) (Z : Hp), vs = [.ref a] ∧ Tb K Z H a D w f l ∧ ∀ b D2 Z' H', H b = none → H D2 = none → T [] Z H Z' H' → Tb K Z' H' b D2 w f l → Q (.ref b) H'
noncomputable def spTInit (K : PySem.W.Frag) : Sp := fun vs H Q E => ∃ (a dx : Addr) (v u : V) (n m : String), vs = [.ref a, v, u] ∧ H a = some (.ins (clsA K "Table") dx []) ∧ KindV K H v n ∧ KindV K H u m ∧
  (sizeV v = true → sizeV u = true → ∀ D H', H D = none → (∀ b o, b ≠ a → H b = some o → H' b = some o) → H' a = some (.ins (clsA K "Table") dx (tfs v u D)) → H' D = some (.dK []) → Q .non H') ∧
  (sizeV v = false → ∀ H' d, Ex H H' → H' d = none → E (.ref (clsA K "NoSize")) (some d) (upd H' d (.xd [("thing", v)]))) ∧
  (sizeV v = true → sizeV u = false → ∀ H' d, Ex H H' → H' d = none → E (.ref (clsA K "NoSize")) (some d) (upd H' d (.xd [("thing", u)])))
end TR
namespace TR
open PySem L2
end TR

/-! laws over tables -/
namespace TR
open PySem L2
noncomputable def cutG {α : Type} (w : Nat) (l : List α) : List (List α) := if h : w = 0 ∨ l.length ≤ w then [l] else l.take w :: cutG w (l.drop w)
termination_by l.length
decreasing_by exact drop_lt h
structure T6 (α β γ δ ε ζ : Type) where
  a : α
  b : β
  c : γ
  d : δ
  e : ε
  f : ζ
  deriving DecidableEq
instance {α β γ δ ε ζ : Type} [Py α] [Py β] [Py γ] [Py δ] [Py ε] [Py ζ] : Py (T6 α β γ δ ε ζ) := ⟨fun p => .tuple [Py.d p.a, Py.d p.b, Py.d p.c, Py.d p.d, Py.d p.e, Py.d p.f], max (Py.dep α) (max (Py.dep β) (max (Py.dep γ) (max (Py.dep δ) (max (Py.dep ε) (Py.dep ζ))))) + 1, fun p => by
    simp only [PyData.depth, PyData.depthAll]
    have h1 := Py.depth p.a
    have h2 := Py.depth p.b
    have h3 := Py.depth p.c
    have h4 := Py.depth p.d
    have h5 := Py.depth p.e
    have h6 := Py.depth p.f
    omega, fun p => by simp only [PyData.canLay0, PyData.canLayAll0, Py.can]; rfl, fun a b => by
    obtain ⟨a1, a2, a3, a4, a5, a6⟩ := a
    obtain ⟨b1, b2, b3, b4, b5, b6⟩ := b
    simp only [PyData.eqv, PyData.eqvAll, Bool.and_true, Bool.and_eq_true, Py.eqv, T6.mk.injEq]⟩
end TR
namespace TR
open PySem L2
section
variable {K : PySem.W.Frag} {σ : L2.St} {Z H : Hp} {te : TE} {Q : VK} {E : XK} {g : TG} {vs : List Nat} {a D : Addr} {w f : Int} {l : Row}
end
end TR
namespace TR
open PySem L2
end TR
namespace TR
open PySem L2
section
variable {K : PySem.W.Frag} {Z H Z' H' : Hp} {Q : VK} {E : XK} {a D : Addr} {w f : Int} {l : Row}
end
end TR
namespace TR
open PySem L2
end TR
namespace TR
open PySem L2
end TR
namespace TR
open PySem L2
end TR

/-! tables: what a drop tells -/
namespace TR
open PySem L2
noncomputable def spTNeed (K : PySem.W.Frag) : Sp := fun vs H Q E => ∃ (a D : Addr) (w f : Int) (l : Row) (Z : Hp) (v : V) (n : String), vs = [.ref a, v] ∧ Tb K Z H a D w f l ∧ KindV K H v n ∧
  (keyV v = false → ∀ d, H d = none → E (.ref (clsA K "NoKey")) (some d) (upd H d (.xd [("key", v)]))) ∧
  ∀ k, v = .int k → keyV v = true →
    (k ∉ l.map Prod.fst → ∀ d, H d = none → E (.ref (clsA K "Lacking")) (some d) (upd H d (.xd [("key", v)]))) ∧
    (k ∈ l.map Prod.fst → Q .non H)
noncomputable def DropTold (Z H Z' H' : Hp) (f : Int) (l : Row) (k : Int) (r : V) : Prop :=
  if roomsT f (outE l k) = roomsT f l then r = .non else ∃ p c, r = .ref p ∧ H p = none ∧ H c = none ∧ Z' p = some (.tup [.int (roomsT f l - 1), .int (roomsT f l - 1 - whole (roomsT f l - 1)), .ref c]) ∧ Lm Z' H' c ((keysT_ f l (roomsT f l - 1)).filter fun x => decide (x ≠ k))
noncomputable def spTDrop (K : PySem.W.Frag) : Sp := fun vs H Q E => ∃ (a D : Addr) (w f : Int) (l : Row) (Z : Hp) (v : V) (n : String), vs = [.ref a, v] ∧ Tb K Z H a D w f l ∧ KindV K H v n ∧
  (keyV v = false → ∀ d, H d = none → E (.ref (clsA K "NoKey")) (some d) (upd H d (.xd [("key", v)]))) ∧
  ∀ k, v = .int k → keyV v = true →
    (k ∉ l.map Prod.fst → ∀ d, H d = none → E (.ref (clsA K "Lacking")) (some d) (upd H d (.xd [("key", v)]))) ∧
    (k ∈ l.map Prod.fst → ∀ r Z' H', T [D] Z H Z' H' → Tb K Z' H' a D w f (outE l k) → DropTold Z H Z' H' f l k r → Q r H')
end TR
namespace TR
open PySem L2
end TR

/-! tables: looks, find; tables of the same entries in another order -/
namespace TR
open PySem L2
noncomputable def looksT (w f : Int) (l : Row) (k : Int) : Bool × Int := lookedI (rowsOf (keysT_ f l (roomOf k (roomsT f l))) w) k 0
noncomputable def spTLooks (K : PySem.W.Frag) : Sp := fun vs H Q E => ∃ (a D : Addr) (w f : Int) (l : Row) (Z : Hp) (v : V) (n : String), vs = [.ref a, v] ∧ Tb K Z H a D w f l ∧ KindV K H v n ∧
  (keyV v = false → ∀ d, H d = none → E (.ref (clsA K "NoKey")) (some d) (upd H d (.xd [("key", v)]))) ∧
  ∀ k, v = .int k → keyV v = true → ∀ p Z' H', H p = none → T [D] Z H Z' H' → Tb K Z' H' a D w f l → Z' p = some (.tup [.bl (looksT w f l k).1, .int (looksT w f l k).2]) → Q (.ref p) H'
noncomputable def spTFind (K : PySem.W.Frag) : Sp := fun vs H Q E => ∃ (a D : Addr) (w f : Int) (l : Row) (Z : Hp) (v : V) (n : String), vs = [.ref a, v] ∧ Tb K Z H a D w f l ∧ KindV K H v n ∧
  (keyV v = false → ∀ d, H d = none → E (.ref (clsA K "NoKey")) (some d) (upd H d (.xd [("key", v)]))) ∧
  ∀ k, v = .int k → keyV v = true →
    (k ∉ l.map Prod.fst → ∀ d, H d = none → E (.ref (clsA K "Lacking")) (some d) (upd H d (.xd [("key", v)]))) ∧
    (∀ t, thingOf l k = some t → ∀ p Z' H', H p = none → T [D] Z H Z' H' → Tb K Z' H' a D w f l → Z' p = some (.tup [.str t.1, .int (looksT w f l k).2]) → Q (.ref p) H')
section
variable {K : PySem.W.Frag} {Z H Z' H' : Hp} {Q : VK} {E : XK} {a D : Addr} {w f : Int} {l : Row} {k : Int}
end
/-! a looked for key -/
/-! the same entries in another order -/
section
variable {l m : Row} {w f r k : Int}
end
/-- what a law's state tells -/
noncomputable def cntsT (f : Int) (l : Row) : List Int := (List.range (roomsT f l).toNat).map fun (i : Nat) => ((keysT_ f l (i : Int)).length : Int)
noncomputable abbrev St6 : Type := T6 Int Int Row (List (List Row)) Int (Int × Int)
noncomputable def st6 (w f : Int) (l : Row) (m : Int) (j : Nat) : St6 := T6.mk (l.length : Int) (roomsT f l) (sortE l) ((List.range (roomsT f l).toNat).map fun (i : Nat) => rowsE w f l (i : Int)) (spillI (cntsT f l) w) (m, (j : Int))
end TR
namespace TR
open PySem L2
section
variable {K : PySem.W.Frag} {Z H : Hp} {D : Addr} {α : Type} {iα : Py α} {l : List α} {Q : VK} {i : Int}
theorem paired_erase {α β : Type} {F : α → β → Prop} : ∀ {xs : List α} {ys : List β} (k : Nat), Paired F xs ys → Paired F (xs.eraseIdx k) (ys.eraseIdx k)
  | _, _, _, .nil => .nil
  | _, _, 0, .cons _ r => r
  | _, _, k + 1, .cons h r => .cons h (paired_erase k r)
theorem t_popAt (a : Lm Z H D l) (h : 0 ≤ i ∧ i < l.length) (hz : l.length ≤ 100000) (q : ∀ v x Z' H', l[i.toNat]? = some x → T [D] Z H Z' H' → Lm Z' H' D (l.eraseIdx i.toNat) → Ik Z' v x → Q v H') : rPopAt (.ref D) [.int i] H Q := by
  have e63 : (2 : Int) ^ 63 = 9223372036854775808 := by decide
  have mu := a.mu
  obtain ⟨⟨vs, h1, h2⟩, h3, h4⟩ := a
  have hl := Paired.length h2
  have lt : i.toNat < l.length := by omega
  have lv : i.toNat < vs.length := by omega
  obtain ⟨x, hx, ix⟩ := itemK h2 (List.getElem?_eq_getElem lv)
  have t : T [D] Z H Z (upd H D (.lst (vs.eraseIdx i.toNat))) := T.set mu h4
  exact ⟨D, vs, i, i.toNat, _, rfl, rfl, h1, by omega, by omega, seqIndex_of h.1 (by omega), List.getElem?_eq_getElem lv, q _ x Z _ hx t ⟨⟨_, upd_same, paired_erase _ h2⟩, h3, t.zh⟩ ix⟩
end
end TR
namespace TR
open PySem L2
end TR
namespace TR
open PySem L2
end TR
namespace TR
open PySem L2
end TR
namespace TR
open PySem L2
noncomputable def toldX : Tx := ⟨"told", by decide +kernel⟩
noncomputable def lackX : Tx := ⟨"lacking", by decide +kernel⟩
end TR
namespace TR
end TR

/-! words of T: zh (all of Z stands), zz, pz (what stands in Z), hz (in H), iz (data in Z), sqz, stz, nm (not among), nez, al, hd (the hand), la, mu, li, ls, mm, fz (was not there), tt (the whole way); t, ts: steps -/
open PySem L2 TR
local macro_rules | `(tactic| walk_at "zh") => `(tactic| first
  | assumption
  | exact T.zh (by assumption)
  | exact Ex.refl _
  | exact Hand.z (by assumption))
local macro_rules | `(tactic| walk_at "zhx") => `(tactic| first
  | exact T.zh (by assumption)
  | assumption
  | exact Hand.z (by assumption))
local macro_rules | `(tactic| walk_at "pz") => `(tactic| first
  | assumption
  | (apply T.pz; assumption; walk_at "pz"))
local macro_rules | `(tactic| walk_at "hz") => `(tactic| first
  | assumption
  | (apply T.hp; assumption; walk_at "nm"; walk_at "hz"))
local macro_rules | `(tactic| walk_at "nm") => `(tactic| first
  | exact nm_nil
  | assumption
  | (apply nm_cons; walk_at "nez"; walk_at "nm"))
local macro_rules | `(tactic| walk_at "nez") => `(tactic| first
  | assumption
  | (apply Ne.symm; assumption)
  | (apply ne_alF; assumption; walk_at "al")
  | (apply ne_alB; assumption; walk_at "al"))
local macro_rules | `(tactic| walk_at "al") => `(tactic| first
  | exact Hand.at (by assumption)
  | exact Mu.a (by assumption)
  | exact Lm.at_ (by assumption)
  | exact ⟨_, by assumption⟩
  | (apply T.all; assumption; walk_at "al"))
local macro_rules | `(tactic| walk_at "hd") => `(tactic| first
  | assumption
  | (apply Hand.tt; assumption; walk_at "nm"; walk_at "hd"))
local macro_rules | `(tactic| walk_at "la") => `(tactic| first
  | assumption
  | (apply Lm.tt; assumption; walk_at "nm"; walk_at "la"))
local macro_rules | `(tactic| walk_at "ls") => `(tactic| first
  | assumption
  | (apply Ls.ofInts; walk_at "pz")
  | (apply Ls.tt; assumption; walk_at "ls"))
local macro_rules | `(tactic| walk_at "lsn") => `(tactic| first
  | (walk_at "ls"))
local macro_rules | `(tactic| walk_at "li") => `(tactic| first
  | (apply Lm.li; walk_at "la"))
local macro_rules | `(tactic| walk_at "izc") => `(tactic| first
  | assumption
  | exact Ls.is (by assumption)
  | (apply Ik.tt; assumption; walk_at "izc"))
local macro_rules | `(tactic| walk_at "iz") => `(tactic| first
  | exact Ik.int _
  | walk_at "izc"
  | (apply Ik.three; walk_at "pz"; walk_at "iz"; walk_at "iz"; walk_at "iz")
  | (apply Ik.nil; walk_at "pz")
  | (apply Ls.is; walk_at "lsn"))
local macro_rules | `(tactic| walk_at "sqz") => `(tactic| first
  | assumption
  | (apply sq_of; walk_at "pz")
  | (apply T.sqz; assumption; walk_at "sqz"))
local macro_rules | `(tactic| walk_at "stz") => `(tactic| first
  | assumption
  | (apply st_of; walk_at "pz"))
local macro_rules | `(tactic| walk_at "memz") => `(tactic| first
  | assumption
  | exact List.mem_cons_self
  | (apply List.mem_cons_of_mem; walk_at "memz"))
local macro_rules | `(tactic| walk_at "ac") => `(tactic| first
  | exact AC.refl
  | assumption
  | (apply T.ac; assumption; walk_at "ac"))
local macro_rules | `(tactic| walk_at "fz") => `(tactic| first
  | assumption
  | (apply fresh_of; assumption; walk_at "ac"))
local macro_rules | `(tactic| walk_at "mm") => `(tactic| first
  | exact mm_nil
  | exact mm_same
  | (apply mm_cons; (focus first | exact Or.inl (by walk_at "memz") | exact Or.inr (by walk_at "fz")); walk_at "mm"))
local macro_rules | `(tactic| walk_at "tt") => `(tactic| first
  | assumption
  | exact T.refl (by walk_at "zh")
  | focus (apply T.step; rotate_left; assumption; walk_at "mm"; walk_at "tt"))
/-! the old words, widened -/
local macro_rules | `(tactic| walk_at "hp") => `(tactic| first
  | assumption
  | exact T.zh (by assumption) _ _ (by assumption)
  | (apply ex_ap; walk_at "zhx"; walk_at "pz")
  | walk_at "hz"
  | (apply ex_ap; assumption; walk_at "hp")
  | (apply exm_ap; assumption; walk_at "ne"; walk_at "hp"))
local macro_rules | `(tactic| walk_at "sq") => `(tactic| first
  | assumption
  | exact RW.sq (by assumption)
  | (apply sq_of; walk_at "hp")
  | (apply Ex.sq; walk_at "zhx"; walk_at "sqz")
  | focus (apply Ex.sq; rotate_left; assumption; walk_at "ex"))
local macro_rules | `(tactic| walk_at "st") => `(tactic| first
  | assumption
  | (apply st_of; walk_at "hp")
  | (apply Ex.st; walk_at "zhx"; walk_at "stz")
  | focus (apply Ex.st; rotate_left; assumption; walk_at "ex"))
local macro_rules | `(tactic| walk_at "isK") => `(tactic| first
  | (apply Ik.ex; walk_at "zhx"; walk_at "iz")
  | (apply Lm.isH; walk_at "la")
  | (apply Ik.nil; walk_at "hp"))
local macro_rules | `(tactic| walk_at "is") => `(tactic| first
  | exact Is.int _
  | assumption
  | (apply Ik.is; walk_at "isK")
  | exact RW.is (by assumption)
  | (apply Is.ints; walk_at "sq"))
/-! steps -/
local macro_rules | `(tactic| walk_at "ig") => `(tactic| first
  | ((with_reducible apply ig_at); walk_at "at"))
local macro_rules | `(tactic| walk_at "q") => `(tactic| first
  | ((with_reducible apply s_var); rfl)
  | (with_reducible (first | apply s_seq | apply s_asg | apply s_gname | apply s_cons | apply s_nil | apply s_call | apply s_op | apply s_c | apply s_if | apply s_test | apply s_ret | apply s_next | apply s_drop | apply s_bl | apply s_and | apply s_or | apply s_CB | apply s_tup | apply s_lst | apply s_tB | apply s_un | apply s_sl | apply s_np | apply s_part)))
local macro_rules | `(tactic| walk_at "t2") => `(tactic| first
  | (with_reducible (first | apply s_I0 | apply s_U | apply s_plusI | apply s_eqI | apply s_int | apply s_BM | apply s_gsub | apply s_augS | apply s_ipI | apply s_forL | apply s_forR1 | apply s_forR2 | apply s_lcL | apply s_lcR1))
  | ((with_reducible apply s_wp); rfl)
  | ((with_reducible apply s_mod); walk_at "od"; intro _ _)
  | ((with_reducible apply s_div); walk_at "od"; walk_at "od")
  | (walk_at "pow")
  | ((with_reducible apply s_pow); decide; walk_at "od")
  | ((with_reducible apply s_mulL); walk_at "od")
  | ((with_reducible apply s_mulR); walk_at "od")
  | ((with_reducible apply t_tup); walk_at "zh"; walk_at "od"; intro _ _ _ _ _ _)
  | ((with_reducible apply t_lst0); walk_at "zh"; intro _ _ _ _ _ _ _)
  | ((with_reducible apply t_lst); walk_at "zh"; walk_at "od"; intro _ _ _ _ _ _)
  | ((with_reducible apply drawT); walk_at "hd"; walk_at "od"; walk_at "od"; walk_at "od"; intro _ _ _ _ _ _ _)
  | ((with_reducible apply openT); walk_at "zh"; walk_at "sq"; walk_at "od"; walk_at "od"; intro _ _ _ _ _ _)
  | ((with_reducible apply s_maxL); walk_at "sq"; walk_at "len")
  | ((with_reducible apply t_slLi); walk_at "zh"; walk_at "li"; intro _ _ _ _ _ _)
  | ((with_reducible apply t_list); walk_at "zh"; walk_at "izc"; intro _ _ _ _ _ _)
  | ((with_reducible apply s_lenM); walk_at "sq")
  | ((with_reducible apply s_gt2); walk_at "st")
  | ((with_reducible apply s_gt3); walk_at "st")
  | (with_reducible (first | apply s_max2 | apply s_abs))
  | ((with_reducible apply s_isiI); walk_at "kit")
  | ((with_reducible apply s_isiB); walk_at "kit")
  | ((with_reducible apply s_isiS); walk_at "kit")
  | ((with_reducible apply s_isiN); walk_at "kit")
  | ((with_reducible apply s_isiT); walk_at "st"; walk_at "kit")
  | ((with_reducible apply s_isiL); walk_at "sq"; walk_at "kit")
  | ((with_reducible apply s_index); walk_at "sq"; assumption; intro _ _ _)
  | ((with_reducible apply s_inL); walk_at "sq")
  | ((with_reducible apply t_tyLA); walk_at "la")
  | ((with_reducible apply s_tyL); walk_at "sq")
  | ((with_reducible apply t_app); walk_at "la"; walk_at "iz"; walk_at "len"; intro _ _ _ _)
  | ((with_reducible apply s_aug); rfl)
  | ((with_reducible apply ixGo); walk_at "sq"; walk_at "ig")
  | (with_reducible (first | apply i_t | apply i_f | apply i_nt))
  | ((with_reducible apply i_df); (focus (first | assumption | omega | exact (fun h => h rfl)))))
local macro_rules | `(tactic| walk_at "t") => `(tactic| first
  | walk_at "q"
  | walk_at "t2")
local macro_rules | `(tactic| walk_at "ts") => `(tactic| ((try dsimp only); (repeat walk_at "t")))
/-! as ts, but it stops at list(..) -/
/-! words for yards (math/yt) -/
local macro_rules | `(tactic| walk_at "ty2") => `(tactic| first
  | ((with_reducible apply keysT); walk_at "hd"; walk_at "od"; walk_at "od"; intro _ _ _ _ _ _ _ _ _ _ _)
  | walk_at "t2")
local macro_rules | `(tactic| walk_at "ty") => `(tactic| first
  | walk_at "q"
  | walk_at "ty2")
local macro_rules | `(tactic| walk_at "tys") => `(tactic| ((try dsimp only); (repeat walk_at "ty")))
local macro_rules | `(tactic| walk_at "tyL") => `(tactic| ((try dsimp only); (repeat ((fail_if_success (with_reducible apply at_list)); walk_at "ty"))))
/-! words for dicts (math/dm) -/
local macro_rules | `(tactic| walk_at "al") => `(tactic| first
  | exact Hand.at (by assumption)
  | exact Mu.a (by assumption)
  | exact Lm.at_ (by assumption)
  | exact ⟨_, by assumption⟩
  | (apply T.all; assumption; walk_at "al"))
/-! words for classes and exceptions -/
/-! words for tables -/
local macro_rules | `(tactic| walk_at "al") => `(tactic| first
  | exact Hand.at (by assumption)
  | exact Mu.a (by assumption)
  | exact Lm.at_ (by assumption)
  | exact ⟨_, by assumption⟩
  | (apply T.all; assumption; walk_at "al"))
namespace Lw
open PySem L2 TR
open PySem.Spec PyProof.Rows

/-! ### the text -/
def topS (i : Nat) : Stmt := PySem.Challenge.pw_tailrooms_k27_lists_changed_and_again.main.body.getD i (.Pass ⟨0, 0, 0, 0⟩)

structure Z (K : PySem.W.Frag) (mg : Str → Option Value) : Prop where
  b_len : mg "len" = none
  b_isinstance : mg "isinstance" = none
  b_list : mg "list" = none
  b_max : mg "max" = none
  b_range : mg "range" = none
  b_sorted : mg "sorted" = none
  b_abs : mg "abs" = none

noncomputable abbrev s_law_draw : Stmt := topS 14

noncomputable abbrev s_law_spoil : Stmt := topS 21

noncomputable abbrev s_looked : Stmt := topS 6

noncomputable abbrev s_rows_for : Stmt := topS 4

noncomputable abbrev s_rows_of : Stmt := topS 5

noncomputable abbrev s_longest : Stmt := topS 10

noncomputable abbrev s_whole_rooms : Stmt := topS 1

noncomputable abbrev s_room_of : Stmt := topS 2

noncomputable abbrev s_spread : Stmt := topS 8

noncomputable abbrev s_counts : Stmt := topS 9

noncomputable abbrev s_all_looks : Stmt := topS 11

noncomputable abbrev s_law_asked : Stmt := topS 19

noncomputable abbrev s_law_open : Stmt := topS 13

noncomputable abbrev s_law_copy : Stmt := topS 20

noncomputable abbrev s_law_far : Stmt := topS 15

noncomputable abbrev s_law_power : Stmt := topS 16

noncomputable abbrev s_law_key : Stmt := topS 17

noncomputable abbrev s_law_keys : Stmt := topS 18

noncomputable abbrev s_law : Stmt := topS 22

theorem sc_law_draw : FnScope ["_law_hand", "_law_many", "_law_got", "_law_k", "_law_number"] ["_law_hand", "_law_many"] (defScope s_law_draw) := ⟨rfl, rfl, rfl, by decide +kernel, rfl, by decide +kernel, by decide +kernel⟩

theorem sc_law_spoil : FnScope ["_law_told", "_law_one"] ["_law_told"] (defScope s_law_spoil) := ⟨rfl, rfl, rfl, by decide +kernel, rfl, by decide +kernel, by decide +kernel⟩

theorem sc_looked : FnScope ["rows", "key", "looks", "row"] ["rows", "key"] (defScope s_looked) := ⟨rfl, rfl, rfl, by decide +kernel, rfl, by decide +kernel, by decide +kernel⟩

theorem sc_rows_for : FnScope ["many", "wide"] ["many", "wide"] (defScope s_rows_for) := ⟨rfl, rfl, rfl, by decide +kernel, rfl, by decide +kernel, by decide +kernel⟩

theorem sc_rows_of : FnScope ["keys", "wide", "rising", "rows", "k"] ["keys", "wide"] (defScope s_rows_of) := ⟨rfl, rfl, rfl, by decide +kernel, rfl, by decide +kernel, by decide +kernel⟩

theorem sc_longest : FnScope ["sizes", "wide", "rows", "most", "many"] ["sizes", "wide"] (defScope s_longest) := ⟨rfl, rfl, rfl, by decide +kernel, rfl, by decide +kernel, by decide +kernel⟩

theorem sc_whole_rooms : FnScope ["rooms", "found"] ["rooms"] (defScope s_whole_rooms) := ⟨rfl, rfl, rfl, by decide +kernel, rfl, by decide +kernel, by decide +kernel⟩

theorem sc_room_of : FnScope ["key", "rooms", "whole"] ["key", "rooms"] (defScope s_room_of) := ⟨rfl, rfl, rfl, by decide +kernel, rfl, by decide +kernel, by decide +kernel⟩

theorem sc_spread : FnScope ["keys", "rooms", "held", "key", "room"] ["keys", "rooms"] (defScope s_spread) := ⟨rfl, rfl, rfl, by decide +kernel, rfl, by decide +kernel, by decide +kernel⟩

theorem sc_counts : FnScope ["keys", "rooms", "row"] ["keys", "rooms"] (defScope s_counts) := ⟨rfl, rfl, rfl, by decide +kernel, rfl, by decide +kernel, by decide +kernel⟩

theorem sc_all_looks : FnScope ["keys", "rooms", "wide", "told", "held", "rows", "key"] ["keys", "rooms", "wide"] (defScope s_all_looks) := ⟨rfl, rfl, rfl, by decide +kernel, rfl, by decide +kernel, by decide +kernel⟩

theorem sc_law_asked : FnScope ["_law_way", "_law_keys_here", "_law_rooms", "_law_wide", "_law_key_here"] ["_law_way", "_law_keys_here", "_law_rooms", "_law_wide"] (defScope s_law_asked) := ⟨rfl, rfl, rfl, by decide +kernel, rfl, by decide +kernel, by decide +kernel⟩

theorem sc_law_open : FnScope ["_law_script", "_law_place", "_law_cells", "_law_at", "_law_digits", "_law_cell"] ["_law_script", "_law_place"] (defScope s_law_open) := ⟨rfl, rfl, rfl, by decide +kernel, rfl, by decide +kernel, by decide +kernel⟩

theorem sc_law_copy : FnScope ["_law_told", "_law_one"] ["_law_told"] (defScope s_law_copy) := ⟨rfl, rfl, rfl, by decide +kernel, rfl, by decide +kernel, by decide +kernel⟩

theorem sc_law_far : FnScope ["_law_hand", "_law_many", "_law_number", "_law_k"] ["_law_hand", "_law_many"] (defScope s_law_far) := ⟨rfl, rfl, rfl, by decide +kernel, rfl, by decide +kernel, by decide +kernel⟩

theorem sc_law_power : FnScope ["_law_many", "_law_number", "_law_k"] ["_law_many"] (defScope s_law_power) := ⟨rfl, rfl, rfl, by decide +kernel, rfl, by decide +kernel, by decide +kernel⟩

theorem sc_law_key : FnScope ["_law_hand", "_law_way", "_law_low"] ["_law_hand"] (defScope s_law_key) := ⟨rfl, rfl, rfl, by decide +kernel, rfl, by decide +kernel, by decide +kernel⟩

theorem sc_law_keys : FnScope ["_law_hand", "_law_many", "_law_keys_here", "_law_k", "_law_key_here"] ["_law_hand", "_law_many"] (defScope s_law_keys) := ⟨rfl, rfl, rfl, by decide +kernel, rfl, by decide +kernel, by decide +kernel⟩

theorem sc_law : FnScope ["_law_script", "_law_worlds", "_law_place", "_law_hand", "_law_sizes", "_law_first", "_law_keys_here", "_law_rooms", "_law_wide", "_law_kept", "_law_at", "_law_way", "_law_handed", "_law_told", "_law_due"] ["_law_script"] (defScope s_law) := ⟨rfl, rfl, rfl, by decide +kernel, rfl, by decide +kernel, by decide +kernel⟩

section
variable {P : Program} {w : World} {K : PySem.W.Frag} {mg : Str → Option Value} {base : Heap}

/-! ### _law_draw -/
noncomputable abbrev sp_law_draw (K : PySem.W.Frag) : Sp := spDraw K
theorem has_law_draw (z : Z K mg) (F : FunAt K mg "_law_draw" s_law_draw ["_law_hand", "_law_many"])  : Has P w K mg base "_law_draw" 1 (sp_law_draw K) := by
  refine has_of F sc_law_draw (fun vs H Q E h => ?_) (fun f cdv A outer s H vs Q E hr h => ?_)
  · obtain ⟨a, m, n, Z, rfl, _⟩ := h
    rfl
  · obtain ⟨a, m, n, Z, rfl, ⟨d, k, c, cells, h1, h3, h4, h5, z1, z2, z3⟩, hm0, hm1, q⟩ := h
    refine ⟨_, (pss_cons (ps_if (pt_cmpR op_gt (pe_ix (ixA (K := K) rfl) (pv 0) pe_int (fun _ _ => rfl)) pe_int (nomark _)) (pss_cons (ps_set (i := 2) sc_law_draw.nd rfl (by first | exact Or.inl rfl | exact Or.inr rfl) (pe_op op_mod (pe_ix (ixA (K := K) rfl) (pv 0) pe_int (fun _ _ => rfl)) (pv 1)))
        (pss_cons (ps_asg (pe_op op_fdivW (pe_ix (ixA (K := K) rfl) (pv 0) pe_int (fun _ _ => rfl)) (pv 1)) (pg_sub (pv 0) pe_int set_list))
        (pss_one (ps_ret (pv 2))))) pss_nil)
        (pss_cons (ps_augS (pv 0) pe_int (getA (K := K) rfl) pe_int ip_add set_list)
        (pss_cons (ps_set (i := 3) sc_law_draw.nd rfl (by first | exact Or.inl rfl | exact Or.inr rfl) (pe_ix (ixA (K := K) rfl) (pv 0) pe_int (fun _ _ => rfl)))
        (pss_cons (ps_set (i := 4) sc_law_draw.nd rfl (by first | exact Or.inl rfl | exact Or.inr rfl) (pe_op op_mod (pe_op op_plusA (pe_op op_mod (pe_ix (ixA (K := K) rfl) (pe_ix (ixA (K := K) rfl) (pv 0) pe_int (fun _ _ => rfl)) (pe_op op_mod (pv 3) (pe_callB (id := "len") (lenA (K := K) rfl) (by rfl) z.b_len (by decide +kernel) (pa_cons (pe_ix (ixA (K := K) rfl) (pv 0) pe_int (fun _ _ => rfl)) pa_nil))) (fun _ _ => rfl)) pe_int) (pe_op op_multA pe_int (pv 3))) pe_int))
        (pss_cons (ps_set (i := 4) sc_law_draw.nd rfl (by first | exact Or.inl rfl | exact Or.inr rfl) (pe_op op_mod (pe_op op_plusA (pe_op op_plusA (pe_op op_pow (pv 4) pe_int) (pe_op op_multA (pe_op op_multA pe_int (pv 3)) (pv 3))) pe_int) pe_int))
        (pss_cons (ps_set (i := 4) sc_law_draw.nd rfl (by first | exact Or.inl rfl | exact Or.inr rfl) (pe_op op_mod (pe_op op_plusA (pe_op op_multA (pe_op op_pow (pv 4) pe_int) (pe_op op_plusA (pe_op op_multA pe_int (pv 3)) pe_int)) pe_int) pe_int))
        (pss_one (ps_ret (pe_op op_mod (pe_op op_fdivW (pe_op op_mod (pe_op op_multA (pv 4) pe_int) pe_int) pe_int) (pv 1)))))))))), ?_⟩
    walk_at "cx"
    walk_at "ss"
    refine i_d (fun hd => ?_) (fun hd => ?_)
    · walk_at "ss"
      rename_i G e1 e2
      exact q _ G (Int.emod_nonneg _ (by omega)) (Int.emod_lt_of_pos _ hm0) e1 ⟨_, k, c, cells, e2, h3, h4, by omega, z1.exm z2 e1, z2, z3⟩
    · walk_at "ss"
      rename_i G e1 e2 _ _ v hv _ _ _ _ _ _ _ _ _ _ b1 b2
      exact q _ G b1 b2 e1 ⟨d, k + 1, c, cells, e2, h3, by omega, by omega, z1.exm z2 e1, z2, z3⟩

/-! ### _law_spoil -/
noncomputable def spR_law_spoil : Nat → PySem.W.Frag → Sp
  | 0, _ => fun _ _ _ _ => False
  | d + 1, _ => fun vs H Q _ => ∃ (v : V) (x : PyData) (M : List Addr) (Z : Hp), vs = [v] ∧ Ex Z H ∧ Ow (d + 1) Z H v x M ∧ M.Nodup ∧ ∀ Z' H', T M Z H Z' H' → Q .non H'
noncomputable abbrev sp_law_spoil (K : PySem.W.Frag) : Sp := spR_law_spoil 3 K
theorem has_law_spoil (z : Z K mg) (F : FunAt K mg "_law_spoil" s_law_spoil ["_law_told"])  : Has P w K mg base "_law_spoil" 4 (sp_law_spoil K) := by
  refine (Nat.rec (motive := fun d => Has P w K mg base "_law_spoil" (1 + d) (spR_law_spoil d K)) (Has.mono (has_of (k := 0) F sc_law_spoil (fun _ _ _ _ h => h.elim) (fun _ _ _ _ _ _ _ _ _ _ h => h.elim)) (by omega)) (fun d h_law_spoil => has_of (k := 1 + d) F sc_law_spoil (fun vs H Q E h => ?_) (fun f cdv A outer s H vs Q E hr h => ?_)) 3 : Has P w K mg base "_law_spoil" (1 + 3) (spR_law_spoil 3 K))
  · obtain ⟨v, x, M, Z, rfl, _⟩ := h
    rfl
  · obtain ⟨v, x, M, Z, rfl, zh, ow, nd, q⟩ := h
    refine ⟨_, (pss_one (ps_if (pt_val (pe_callB (id := "isinstance") (isiA (K := K) rfl) (by rfl) z.b_isinstance (by decide +kernel) (pa_cons (pv 0) (pa_cons (pe_bltn (v := .ty "list") (by rfl) z.b_list (by decide +kernel) rfl) pa_nil)))) (pss_cons (ps_for PassesOwn.never rfl (piL (K := K) rfl (pv 0)) (pg_name (i := 1) sc_law_spoil.nd rfl (by first | exact Or.inl rfl | exact Or.inr rfl)) (pss_one (ps_expr (pe_callH h_law_spoil (by omega) hr rfl (pa_cons (pv 1) pa_nil)))))
        (pss_one (ps_expr (pe_bm PySem.F.plainAttrs_list PySem.F.slot_list_append PySem.F.type_list_append mt_append (pv 0) (pa_cons pe_int pa_nil))))) pss_nil)), ?_⟩
    walk_at "cx"
    walk_at "ts"
    rcases ow with ⟨n, dx, rfl⟩ | ⟨p, us, L, rfl, h1, zp, rfl, rfl, hl, pr⟩
    · refine s_isiO n dx zh ?_
      walk_at "ts"
      exact q _ _ (T.refl zh)
    · walk_at "ts"
      refine t_forO (fun σ => ∃ x1, σ = [some (.ref p), x1]) zh h1 pr nd ⟨_, rfl⟩ (fun u x M Z1 H1 σ hF ow ndM z1 Nx hN => ?_) (fun σ Z' H' hF t => ?_)
      · obtain ⟨x1, rfl⟩ := hF
        walk_at "ts"
        cases d with
        | zero => exact ow.elim
        | succ d => exact ⟨u, x, M, Z1, rfl, z1, ow, ndM, fun Z' H' t' => by
            walk_at "ts"
            exact hN _ Z' H' ⟨_, rfl⟩ t'⟩
      · obtain ⟨x1, rfl⟩ := hF
        have np := (List.nodup_cons.mp nd).1
        have h2 := t.hp np h1
        walk_at "ts"
        have hl2 := Paired.length pr
        have mp : Mu Z' H' p := t.mu np ⟨zp, _, h1⟩
        refine ⟨p, us, _, rfl, rfl, h2, sz_lt (by omega), ?_⟩
        walk_at "ts"
        exact q _ _ ((t.wideO fun b hb => List.mem_cons_of_mem _ hb).step (T.set mp t.zh) (mm_cons (.inl List.mem_cons_self) mm_nil))

/-! ### looked -/
noncomputable def sp_looked (K : PySem.W.Frag) : Sp := fun vs H Q _ => ∃ (a : Addr) (rs : List (List Int)) (key : Int), vs = [.ref a, .int key] ∧ Is K H (.ref a) rs ∧
  ∀ (p : Addr) (H' : Hp), H p = none → Ex H H' → H' p = some (.tup [.bl (lookedI rs key 0).1, .int (lookedI rs key 0).2]) → Q (.ref p) H'
theorem has_looked (z : Z K mg) (F : FunAt K mg "looked" s_looked ["rows", "key"])  : Has P w K mg base "looked" 1 (sp_looked K) := by
  refine has_of F sc_looked (fun vs H Q E h => ?_) (fun f cdv A outer s H vs Q E hr h => ?_)
  · obtain ⟨a, rs, key, rfl, _⟩ := h
    rfl
  · obtain ⟨a, rs, key, rfl, ha, q⟩ := h
    refine ⟨_, (pss_cons (ps_set (i := 2) sc_looked.nd rfl (by first | exact Or.inl rfl | exact Or.inr rfl) pe_int)
        (pss_cons (ps_for PassesOwn.never rfl (piL (K := K) rfl (pv 0)) (pg_name (i := 3) sc_looked.nd rfl (by first | exact Or.inl rfl | exact Or.inr rfl)) (pss_cons (ps_aug (i := 2) sc_looked.nd rfl (by first | exact Or.inl rfl | exact Or.inr rfl) pe_int ip_add)
        (pss_one (ps_if (PW.pt (pw_and (pt_cmpR (neA (K := K) rfl hr.units) (pv 3) (pe_lst pa_nil) (nomark _)) (pw_and1 (pt_cmpR op_ge (pe_ix (ixA (K := K) rfl) (pv 3) (pe_un un_neg pe_int) (fun _ _ => rfl)) (pv 1) (nomark _))))) (pss_one (ps_ret (pe_tup (pa_cons (pe_cmpR (inA (K := K) rfl) (pv 1) (pv 3) (by rfl)) (pa_cons (pv 2) pa_nil))))) pss_nil))))
        (pss_one (ps_ret (pe_tup (pa_cons pe_bl (pa_cons (pv 2) pa_nil))))))), ?_⟩
    walk_at "cx"
    walk_at "ss"
    obtain ⟨b, vs, e, h1, h2⟩ := ha.list
    cases e
    refine u_forL (fun j σ H' => ∃ y, σ = [some (.ref a), some (.int key), some (.int (j : Int)), y] ∧ Ex H H' ∧ lookedI rs key 0 = lookedI (rs.drop j) key j) h1 ⟨_, rfl, Ex.refl _, rfl⟩ (fun j σ H' _ hh => ?_) (fun j v σ H' hx hh => ?_) (fun σ H' hh => ?_)
    · obtain ⟨_, _, e9, _⟩ := hh
      exact e9.sq h1
    · obtain ⟨y, rfl, e3, el⟩ := hh
      obtain ⟨r, hr', hv⟩ := item_of h2 hx
      obtain ⟨a3, rfl, s3⟩ := hv.ints_of
      have s4 := e3.sq s3
      have jl := (List.getElem?_eq_some_iff.mp hr').1
      have ed : rs.drop j = r :: rs.drop (j + 1) := by
        rw [List.drop_eq_getElem_cons jl]
        congr 1
        exact (List.getElem?_eq_some_iff.mp hr').2
      rw [ed] at el
      walk_at "ss"
      rename_i p4 H4 n4 e4 f4
      have s5 := e4.sq s4
      walk_at "ss"
      refine i_d (fun hd => ?_) (fun hd => ?_)
      · obtain ⟨w, w1, w2⟩ := atI_last1 hd
        walk_at "ss"
        refine s_ixL s5 (v := .int w) ?_ ?_
        · obtain ⟨l, x, rfl⟩ : ∃ l x, r = l ++ [x] := ⟨r.dropLast, r.getLast hd, (List.dropLast_concat_getLast hd).symm⟩
          have e : w = x := by simpa using w2.symm
          rw [e, List.map_append]
          exact atI_last _ _
        have lg : lastGe r key = decide (key ≤ w) := by unfold lastGe; rw [w2]
        walk_at "ss"
        refine i_d (fun hd2 => ?_) (fun hd2 => ?_)
        · walk_at "ss"
          rename_i p5 H5 n5 e5 f5
          refine q p5 H5 (Ex.back (e3.trans e4) n5) ((e3.trans e4).trans e5) ?_
          rw [f5, el]
          unfold lookedI
          rw [if_pos (by rw [lg]; exact decide_eq_true hd2)]
        · walk_at "ss"
          refine ⟨_, rfl, e3.trans e4, ?_⟩
          rw [el]
          show (if _ then _ else _) = _
          rw [if_neg (by rw [lg]; exact fun z => hd2 (of_decide_eq_true z))]
      · walk_at "ss"
        refine ⟨_, rfl, e3.trans e4, ?_⟩
        rw [el, Decidable.not_not.mp hd]
        rfl
    · obtain ⟨y, rfl, e3, el⟩ := hh
      rw [Paired.length h2, List.drop_length] at el
      walk_at "ss"
      rename_i p5 H5 n5 e5 f5
      refine q p5 H5 (Ex.back e3 n5) (e3.trans e5) ?_
      rw [f5, el, Paired.length h2]
      rfl

/-! ### rows_for -/
noncomputable def sp_rows_for (K : PySem.W.Frag) : Sp := fun vs H Q _ => ∃ m w : Int, vs = [.int m, .int w] ∧ 0 < w ∧ w < 4611686018427387904 ∧ Q (.int (rowsI m w)) H
theorem has_rows_for (z : Z K mg) (F : FunAt K mg "rows_for" s_rows_for ["many", "wide"])  : Has P w K mg base "rows_for" 1 (sp_rows_for K) := by
  refine has_of F sc_rows_for (fun vs H Q E h => ?_) (fun f cdv A outer s H vs Q E hr h => ?_)
  · obtain ⟨m, w, rfl, _⟩ := h
    rfl
  · obtain ⟨m, w, rfl, w0, w1, q⟩ := h
    refine ⟨_, (pss_one (ps_ret (pe_callB (id := "max") (call_max2A rfl) (by rfl) z.b_max (by decide +kernel) (pa_cons pe_int (pa_cons (pe_op op_fdivW (pe_op op_sub (pe_op op_plusA (pv 0) (pv 1)) pe_int) (pv 1)) pa_nil))))), ?_⟩
    walk_at "cx"
    walk_at "ss"
    exact q

/-! ### rows_of -/
noncomputable def sp_rows_of (K : PySem.W.Frag) : Sp := fun vs H Q _ => ∃ (a : Addr) (ks : List Int) (w : Int), vs = [.ref a, .int w] ∧ SqL K H a (ks.map V.int) ∧ ks.length ≤ 30000 ∧ 0 < w ∧ w ≤ 4611686018427387904 - 1 ∧
  ∀ p qs H', Ex H H' → RW K H H' p qs (rowsOf ks w) → Q (.ref p) H'
theorem has_rows_of (z : Z K mg) (F : FunAt K mg "rows_of" s_rows_of ["keys", "wide"]) (h_rows_for : Has P w K mg base "rows_for" 1 (sp_rows_for K)) : Has P w K mg base "rows_of" 2 (sp_rows_of K) := by
  refine has_of F sc_rows_of (fun vs H Q E h => ?_) (fun f cdv A outer s H vs Q E hr h => ?_)
  · obtain ⟨a, ks, w, rfl, _⟩ := h
    rfl
  · obtain ⟨a, ks, w, rfl, hs, hl, w0, w1, q⟩ := h
    refine ⟨_, (pss_cons (ps_set (i := 2) sc_rows_of.nd rfl (by first | exact Or.inl rfl | exact Or.inr rfl) (pe_callB (id := "sorted") (sortA (K := K) rfl) (by rfl) z.b_sorted (by decide +kernel) (pa_cons (pv 0) pa_nil)))
        (pss_cons (ps_set (i := 3) sc_rows_of.nd rfl (by first | exact Or.inl rfl | exact Or.inr rfl) (pe_lst pa_nil))
        (pss_cons (ps_for PassesOwn.never rfl (pi_range1 (by rfl) z.b_range (pa_cons (pe_callH h_rows_for (by decide) hr rfl (pa_cons (pe_callB (id := "len") (lenA (K := K) rfl) (by rfl) z.b_len (by decide +kernel) (pa_cons (pv 2) pa_nil)) (pa_cons (pv 1) pa_nil))) pa_nil)) (pg_name (i := 4) sc_rows_of.nd rfl (by first | exact Or.inl rfl | exact Or.inr rfl)) (pss_one (ps_expr (pe_bm PySem.F.plainAttrs_list PySem.F.slot_list_append PySem.F.type_list_append mt_append (pv 3) (pa_cons (pe_slice (slA (K := K) rfl) (pv 2) (po_some (pe_op op_multA (pv 4) (pv 1))) (po_some (pe_op op_plusA (pe_op op_multA (pv 4) (pv 1)) (pv 1)))) pa_nil)))))
        (pss_one (ps_ret (pv 3)))))), ?_⟩
    walk_at "cx"
    walk_at "ss"
    rename_i p1 H1 n1 e1 f1 p2 H2 n2 e2 f2
    refine ⟨_, _, rfl, w0, by omega, ?_⟩
    have rl : rowsI ((sortI ks).length : Int) w ≤ 30001 := by
      have := (rowsI_facts (m := ((sortI ks).length : Int)) (by omega) w0).2.2.2.2
      have := sortI_len ks
      omega
    have rp := rowsI_pos ((sortI ks).length : Int) w
    walk_at "ss"
    have n20 : H p2 = none := Ex.back e1 n2
    refine u_forR1 (fun i σ H' => ∃ (y : Option V) (qs : List Addr), σ = [some (.ref a), some (.int w), some (.ref p1), some (.ref p2), y] ∧ Ex H H' ∧ H' p1 = some (.lst ((sortI ks).map V.int)) ∧ RW K H H' p2 qs ((List.range i).map (cutR ks w))) (by omega)
      ⟨_, [], rfl, e1.trans e2, e2 _ _ f1, ⟨f2, List.nodup_cons.mpr ⟨List.not_mem_nil, List.nodup_nil⟩, fun q hq => by rw [List.mem_singleton.mp hq]; exact n20, e1.trans e2, .nil⟩⟩ (fun i σ H' hi hh => ?_) (fun σ H' hh => ?_)
    · obtain ⟨y, qs, rfl, e3, f3, R⟩ := hh
      walk_at "ss"
      rename_i p4 H4 n4 e4 f4
      rw [cutV_ints] at f4
      refine n_appRW R e4 n4 f4 ints_pair (by rw [List.length_map, List.length_range]; omega) fun H5 m5 R5 => ?_
      walk_at "ss"
      refine ⟨_, qs ++ [p4], rfl, (e3.trans e4).exm n20 m5, m5 _ _ (show p1 ≠ p2 from ne_of_none f1 n2) (e4 _ _ f3), ?_⟩
      rw [List.range_succ, List.map_append]
      exact R5
    · obtain ⟨y, qs, rfl, e3, f3, R⟩ := hh
      walk_at "ss"
      rw [sortI_len] at R
      exact q p2 qs _ e3 R

/-! ### longest -/
noncomputable def sp_longest (K : PySem.W.Frag) : Sp := fun vs H Q _ => ∃ (a : Addr) (ns : List Int) (w : Int), vs = [.ref a, .int w] ∧ SqL K H a (ns.map V.int) ∧ ns.length ≤ 40000 ∧ 0 < ns.length ∧ 0 < w ∧ w < 4611686018427387904 ∧
  ∀ (p : Addr) (j : Nat) (H' : Hp), H p = none → Ex H H' → H' p = some (.tup [.int (maxI (ns.map fun m => rowsI m w)), .int (j : Nat)]) → (ns.map fun m => rowsI m w)[j]? = some (maxI (ns.map fun m => rowsI m w)) →
    (∀ i, i < j → (ns.map fun m => rowsI m w)[i]? ≠ some (maxI (ns.map fun m => rowsI m w))) → Q (.ref p) H'
theorem has_longest (z : Z K mg) (F : FunAt K mg "longest" s_longest ["sizes", "wide"]) (h_rows_for : Has P w K mg base "rows_for" 1 (sp_rows_for K)) : Has P w K mg base "longest" 2 (sp_longest K) := by
  refine has_of F sc_longest (fun vs H Q E h => ?_) (fun f cdv A outer s H vs Q E hr h => ?_)
  · obtain ⟨a, ns, w, rfl, _⟩ := h
    rfl
  · obtain ⟨a, ns, w, rfl, hs, hl, h0, w0, w1, q⟩ := h
    refine ⟨_, (pss_cons (ps_setLc (i := 2) (own := [("many", 4)]) (g := gName 4) (tt := tYes) rfl sc_longest.nd rfl rfl (sw_true rfl rfl rfl (by decide +kernel)) (piL (K := K) rfl (pv 0)) (blkOk_by (own := [("many", 4)]) (N := ["sizes", "wide", "rows", "most", "many"]) (sc := defScope s_longest) (by decide +kernel)) (fun _ _ _ _ _ => (pg_name (i := 4) sc_longest.nd rfl (by first | exact Or.inl rfl | exact Or.inr rfl))) (fun _ _ _ _ _ => pts_nil) (fun _ _ _ _ _ => (pe_callH h_rows_for (by decide) hr rfl (pa_cons (pv 4) (pa_cons (pv 1) pa_nil)))))
        (pss_cons (ps_set (i := 3) sc_longest.nd rfl (by first | exact Or.inl rfl | exact Or.inr rfl) (pe_callB (id := "max") (maxA (K := K) rfl rfl) (by rfl) z.b_max (by decide +kernel) (pa_cons (pv 2) pa_nil)))
        (pss_one (ps_ret (pe_tup (pa_cons (pv 3) (pa_cons (pe_bm PySem.F.plainAttrs_list PySem.F.slot_list_index PySem.F.type_list_index (indexA (K := K) rfl) (pv 2) (pa_cons (pv 3) pa_nil)) pa_nil))))))), ?_⟩
    walk_at "cx"
    walk_at "ss"
    refine u_mapLI V.int ns (fun m => rowsI m w) hs hl (fun m hm H1 e1 A hA => ?_) (fun D H1 n1 e1 f1 => ?_)
    · walk_at "ss"
      refine ⟨_, _, rfl, w0, w1, ?_⟩
      walk_at "ss"
      exact hA _ (Ex.refl _)
    · have hm : maxI (ns.map fun m => rowsI m w) ∈ ns.map fun m => rowsI m w := maxI_mem (by rw [List.length_map]; exact h0)
      walk_at "ss"
      rename_i j hj hf p2 H2 n2 e2 f2
      exact q _ j _ (Ex.back e1 n2) (e1.trans e2) f2 hj hf

/-! ### whole_rooms -/
noncomputable def sp_whole_rooms (K : PySem.W.Frag) : Sp := fun vs H Q _ => ∃ r : Int, vs = [.int r] ∧ 1 ≤ r ∧ Q (.int (whole r)) H
theorem has_whole_rooms (z : Z K mg) (F : FunAt K mg "whole_rooms" s_whole_rooms ["rooms"])  : Has P w K mg base "whole_rooms" 1 (sp_whole_rooms K) := by
  refine has_of F sc_whole_rooms (fun vs H Q E h => ?_) (fun f cdv A outer s H vs Q E hr h => ?_)
  · obtain ⟨r, rfl, _⟩ := h
    rfl
  · obtain ⟨r, rfl, h0, q⟩ := h
    refine ⟨_, (pss_cons (ps_set (i := 1) sc_whole_rooms.nd rfl (by first | exact Or.inl rfl | exact Or.inr rfl) pe_int)
        (pss_cons (ps_while PassesOwn.never (pt_cmpR op_le (pe_op op_multA pe_int (pv 1)) (pv 0) (nomark _)) (pss_one (ps_set (i := 1) sc_whole_rooms.nd rfl (by first | exact Or.inl rfl | exact Or.inr rfl) (pe_op op_multA pe_int (pv 1)))))
        (pss_one (ps_ret (pv 1))))), ?_⟩
    walk_at "cx"
    walk_at "ss"
    refine u_while (fun m σ H' => ∃ k : Nat, σ = [some (.int r), some (.int (2 ^ k))] ∧ H' = H ∧ (2 : Int) ^ k ≤ r ∧ m = (r - 2 ^ k).toNat) (r - 1).toNat ⟨0, rfl, rfl, h0, rfl⟩ (fun m σ H' hh => ?_)
    obtain ⟨k, rfl, rfl, hk, rfl⟩ := hh
    have hp := two_pos k
    walk_at "ss"
    refine i_d (fun hd => ?_) (fun hd => ?_)
    · refine w_body ?_
      walk_at "ss"
      exact ⟨(r - 2 ^ (k + 1)).toNat, by rw [two_succ]; omega, k + 1, by rw [two_succ]; rfl, rfl, by rw [two_succ]; omega, rfl⟩
    · walk_at "ss"
      rw [whole_unique hk (by omega)] at q
      exact q

/-! ### room_of -/
noncomputable def sp_room_of (K : PySem.W.Frag) : Sp := fun vs H Q _ => ∃ c r : Int, vs = [.int c, .int r] ∧ 1 ≤ r ∧ Q (.int (roomOf c r)) H
theorem has_room_of (z : Z K mg) (F : FunAt K mg "room_of" s_room_of ["key", "rooms"]) (h_whole_rooms : Has P w K mg base "whole_rooms" 1 (sp_whole_rooms K)) : Has P w K mg base "room_of" 2 (sp_room_of K) := by
  refine has_of F sc_room_of (fun vs H Q E h => ?_) (fun f cdv A outer s H vs Q E hr h => ?_)
  · obtain ⟨c, r, rfl, _⟩ := h
    rfl
  · obtain ⟨c, r, rfl, h0, q⟩ := h
    refine ⟨_, (pss_cons (ps_set (i := 2) sc_room_of.nd rfl (by first | exact Or.inl rfl | exact Or.inr rfl) (pe_callH h_whole_rooms (by decide) hr rfl (pa_cons (pv 1) pa_nil)))
        (pss_cons (ps_if (pt_cmpR op_lt (pe_op op_mod (pv 0) (pv 2)) (pe_op op_sub (pv 1) (pv 2)) (nomark _)) (pss_one (ps_ret (pe_op op_mod (pv 0) (pe_op op_multA pe_int (pv 2))))) pss_nil)
        (pss_one (ps_ret (pe_op op_mod (pv 0) (pv 2)))))), ?_⟩
    walk_at "cx"
    walk_at "ss"
    refine ⟨_, rfl, h0, ?_⟩
    obtain ⟨a1, a2, a3⟩ := whole_spec h0
    unfold roomOf at q
    walk_at "ss"
    refine i_d (fun hd => ?_) (fun hd => ?_)
    · rw [if_pos hd] at q
      walk_at "ss"
      exact q
    · rw [if_neg hd] at q
      walk_at "ss"
      exact q

/-! ### spread -/
noncomputable def sp_spread (K : PySem.W.Frag) : Sp := fun vs H Q _ => ∃ (a : Addr) (ks : List Int) (n : Int), vs = [.ref a, .int n] ∧ SqL K H a (ks.map V.int) ∧ ks.length ≤ 30000 ∧ 1 ≤ n ∧ n ≤ 30000 ∧
  ∀ p qs H', Ex H H' → RW K H H' p qs (spl (sortI ks) n) → Q (.ref p) H'
theorem has_spread (z : Z K mg) (F : FunAt K mg "spread" s_spread ["keys", "rooms"]) (h_room_of : Has P w K mg base "room_of" 2 (sp_room_of K)) : Has P w K mg base "spread" 3 (sp_spread K) := by
  refine has_of F sc_spread (fun vs H Q E h => ?_) (fun f cdv A outer s H vs Q E hr h => ?_)
  · obtain ⟨a, ks, n, rfl, _⟩ := h
    rfl
  · obtain ⟨a, ks, n, rfl, hs, hl, n0, n1, q⟩ := h
    refine ⟨_, (pss_cons (ps_setLc (i := 2) (own := [("room", 4)]) (g := gName 4) (tt := tYes) rfl sc_spread.nd rfl rfl (sw_true rfl rfl rfl (by decide +kernel)) (pi_range1 (by rfl) z.b_range (pa_cons (pv 1) pa_nil)) (blkOk_by (own := [("room", 4)]) (N := ["keys", "rooms", "held", "key", "room"]) (sc := defScope s_spread) (by decide +kernel)) (fun _ _ _ _ _ => (pg_name (i := 4) sc_spread.nd rfl (by first | exact Or.inl rfl | exact Or.inr rfl))) (fun _ _ _ _ _ => pts_nil) (fun _ _ _ _ _ => (pe_lst pa_nil)))
        (pss_cons (ps_for PassesOwn.never rfl (piL (K := K) rfl (pe_callB (id := "sorted") (sortA (K := K) rfl) (by rfl) z.b_sorted (by decide +kernel) (pa_cons (pv 0) pa_nil))) (pg_name (i := 3) sc_spread.nd rfl (by first | exact Or.inl rfl | exact Or.inr rfl)) (pss_one (ps_expr (pe_bm PySem.F.plainAttrs_list PySem.F.slot_list_append PySem.F.type_list_append mt_append (pe_ix (ixA (K := K) rfl) (pv 2) (pe_callH h_room_of (by decide) hr rfl (pa_cons (pv 3) (pa_cons (pv 1) pa_nil))) (fun _ _ => rfl)) (pa_cons (pv 3) pa_nil)))))
        (pss_one (ps_ret (pv 2))))), ?_⟩
    walk_at "cx"
    walk_at "ss"
    refine u_lcR1N (fun _ => []) (by omega) (fun i hi H1 e1 A hA => ?_) (fun D qs H1 nd nn e1 ho hq ha => ?_)
    · walk_at "ss"
      rename_i p2 H2 n2 e2 f2
      exact hA _ _ n2 e2 f2
    have R1 : RW K H H1 D qs (spl [] n) := RW.of nd nn e1 ho (by rw [hq, spl_len]) ha (fun i r hi => by
      obtain ⟨_, rfl⟩ := spl_at hi
      exact .nil)
    walk_at "ss"
    rename_i p2 H2 n2 e2 f2
    have sl := sortI_len ks
    have n20 : H p2 = none := Ex.back e1 n2
    refine u_forL (fun j σ H' => ∃ x1 x2, σ = [some (.ref a), some (.int n), some (.ref D), x1, x2] ∧ Ex H H' ∧ H' p2 = some (.lst ((sortI ks).map V.int)) ∧ RW K H H' D qs (spl ((sortI ks).take j) n)) (sq_of f2) ⟨_, _, rfl, e1.trans e2, f2, R1.up e2⟩ (fun j σ H' _ hh => ?_) (fun j v σ H' hx hh => ?_) (fun σ H' hh => ?_)
    · obtain ⟨_, _, _, _, g, _⟩ := hh
      exact sq_of g
    · obtain ⟨x1, x2, rfl, e3, f3, R3⟩ := hh
      obtain ⟨key, rfl, hk⟩ := at_ints hx
      have jl := (List.getElem?_eq_some_iff.mp hk).1
      have rr := roomOf_range (key := key) n0
      walk_at "ss"
      refine ⟨_, _, rfl, n0, ?_⟩
      obtain ⟨r, r1, r2, r3⟩ := spl_snoc ((sortI ks).take j) (key := key) n0
      refine s_ixRW R3 (by rw [spl_len]; omega) fun b hb => ?_
      obtain ⟨r', vs, g1, g2, g3⟩ := R3.at hb
      refine s_tyL (sq_of g2) ?_
      walk_at "ss"
      rw [List.length_take] at r3
      refine n_pushRW R3 hb r1 (Is.int key) (by omega) fun H4 m4 R4 => ?_
      walk_at "ss"
      have hm := List.mem_of_getElem? hb
      have nb : p2 ≠ b := fun z => R1.new n2 (z ▸ List.mem_cons_of_mem _ hm)
      refine ⟨_, _, rfl, e3.exm (R3.fr b (List.mem_cons_of_mem _ hm)) m4, m4 _ _ nb f3, ?_⟩
      rw [r2] at R4
      have e5 : (sortI ks).take (j + 1) = (sortI ks).take j ++ [key] := by rw [List.take_add_one, hk]; rfl
      rw [e5]
      exact R4
    · obtain ⟨x1, x2, rfl, e3, f3, R3⟩ := hh
      rw [List.length_map, List.take_length] at R3
      walk_at "ss"
      exact q D qs _ e3 R3

/-! ### counts -/
noncomputable def sp_counts (K : PySem.W.Frag) : Sp := fun vs H Q _ => ∃ (a : Addr) (ks : List Int) (n : Int), vs = [.ref a, .int n] ∧ SqL K H a (ks.map V.int) ∧ ks.length ≤ 30000 ∧ 1 ≤ n ∧ n ≤ 30000 ∧
  ∀ p H', H p = none → Ex H H' → H' p = some (.lst (((spl (sortI ks) n).map fun r => (r.length : Int)).map V.int)) → Q (.ref p) H'
theorem has_counts (z : Z K mg) (F : FunAt K mg "counts" s_counts ["keys", "rooms"]) (h_spread : Has P w K mg base "spread" 3 (sp_spread K)) : Has P w K mg base "counts" 4 (sp_counts K) := by
  refine has_of F sc_counts (fun vs H Q E h => ?_) (fun f cdv A outer s H vs Q E hr h => ?_)
  · obtain ⟨a, ks, n, rfl, _⟩ := h
    rfl
  · obtain ⟨a, ks, n, rfl, hs, hl, n0, n1, q⟩ := h
    refine ⟨_, (pss_one (ps_ret (pe_lc (own := [("row", 2)]) (g := gName 2) (tt := tYes) rfl sc_counts.nd (piL (K := K) rfl (pe_callH h_spread (by decide) hr rfl (pa_cons (pv 0) (pa_cons (pv 1) pa_nil)))) (blkOk_by (own := [("row", 2)]) (N := ["keys", "rooms", "row"]) (sc := defScope s_counts) (by decide +kernel)) (fun _ _ _ _ _ => (pg_name (i := 2) sc_counts.nd rfl (by first | exact Or.inl rfl | exact Or.inr rfl))) (fun _ _ _ _ _ => pts_nil) (fun _ _ _ _ _ => (pe_callB (id := "len") (lenA (K := K) rfl) (by rfl) z.b_len (by decide +kernel) (pa_cons (pv 2) pa_nil)))))), ?_⟩
    walk_at "cx"
    walk_at "ss"
    refine ⟨a, ks, n, rfl, hs, hl, n0, n1, fun p qs H1 e1 R1 => ?_⟩
    refine u_mapDI (fun r : List Int => (r.length : Int)) R1.is (by rw [spl_len]; omega) (fun v r hr' H2 e2 hv A hA => ?_) (fun D H2 n2 e2 f2 => ?_)
    · obtain ⟨b, rfl, sb⟩ := hv.ints_of
      have sb2 := e2.sq sb
      walk_at "ss"
      exact hA _ (Ex.refl _)
    · exact q _ _ (Ex.back e1 n2) (e1.trans e2) f2

/-! ### all_looks -/
noncomputable def sp_all_looks (K : PySem.W.Frag) : Sp := fun vs H Q _ => ∃ (a : Addr) (ks : List Int) (n w : Int), vs = [.ref a, .int n, .int w] ∧ SqL K H a (ks.map V.int) ∧ ks.length ≤ 1000 ∧ ks.Nodup ∧ 1 ≤ n ∧ n ≤ 1000 ∧ 0 < w ∧ w ≤ 1000 ∧
  ∀ (D : Addr) (ws : List V) (H' : Hp), H D = none → Ex H H' → H' D = some (.lst ws) → Paired (Tp H') ws (looksP ks n w) → (∀ y ∈ ws, ∀ a, y = .ref a → H a = none) → Q (.ref D) H'
theorem flat_le {ks : List Int} {n : Int} (hn : 1 ≤ n) (f : Int → Int × Int) (j : Nat) : (((spl (sortI ks) n).take j).flatMap fun r => r.map f).length ≤ ks.length := by
  have h := spl_flat hn (sortI ks).length (sortI ks)
  rw [List.take_length] at h
  have hl := h.length_eq
  rw [sortI_len, ← List.take_append_drop j (spl (sortI ks) n), List.flatten_append, List.length_append] at hl
  have e : (((spl (sortI ks) n).take j).flatMap fun r => r.map f) = ((spl (sortI ks) n).take j).flatten.map f := by
    rw [List.map_flatten]
    rfl
  rw [e, List.length_map]
  omega
theorem has_all_looks (z : Z K mg) (F : FunAt K mg "all_looks" s_all_looks ["keys", "rooms", "wide"]) (h_spread : Has P w K mg base "spread" 3 (sp_spread K)) (h_looked : Has P w K mg base "looked" 1 (sp_looked K)) (h_rows_of : Has P w K mg base "rows_of" 2 (sp_rows_of K)) : Has P w K mg base "all_looks" 4 (sp_all_looks K) := by
  refine has_of F sc_all_looks (fun vs H Q E h => ?_) (fun f cdv A outer s H vs Q E hr h => ?_)
  · obtain ⟨a, ks, n, w, rfl, _⟩ := h
    rfl
  · obtain ⟨a, ks, n, w, rfl, hs, hl, nd, n0, n1, w0, w1, q⟩ := h
    refine ⟨_, (pss_cons (ps_set (i := 3) sc_all_looks.nd rfl (by first | exact Or.inl rfl | exact Or.inr rfl) (pe_lst pa_nil))
        (pss_cons (ps_for PassesOwn.never rfl (piL (K := K) rfl (pe_callH h_spread (by decide) hr rfl (pa_cons (pv 0) (pa_cons (pv 1) pa_nil)))) (pg_name (i := 4) sc_all_looks.nd rfl (by first | exact Or.inl rfl | exact Or.inr rfl)) (pss_cons (ps_set (i := 5) sc_all_looks.nd rfl (by first | exact Or.inl rfl | exact Or.inr rfl) (pe_callH h_rows_of (by decide) hr rfl (pa_cons (pv 4) (pa_cons (pv 2) pa_nil))))
        (pss_one (ps_expr (pe_bm PySem.F.plainAttrs_list PySem.F.slot_list_extend PySem.F.type_list_extend mt_extend (pv 3) (pa_cons (pe_lc (own := [("key", 6)]) (g := gName 6) (tt := tYes) rfl sc_all_looks.nd (piL (K := K) rfl (pv 4)) (blkOk_by (own := [("key", 6)]) (N := ["keys", "rooms", "wide", "told", "held", "rows", "key"]) (sc := defScope s_all_looks) (by decide +kernel)) (fun _ _ _ _ _ => (pg_name (i := 6) sc_all_looks.nd rfl (by first | exact Or.inl rfl | exact Or.inr rfl))) (fun _ _ _ _ _ => pts_nil) (fun _ _ _ _ _ => (pe_tup (pa_cons (pv 6) (pa_cons (pe_ix (ixA (K := K) rfl) (pe_callH h_looked (by decide) hr rfl (pa_cons (pv 5) (pa_cons (pv 6) pa_nil))) pe_int (fun _ _ => rfl)) pa_nil))))) pa_nil))))))
        (pss_one (ps_ret (pe_callB (id := "sorted") (sortPA (K := K) rfl) (by rfl) z.b_sorted (by decide +kernel) (pa_cons (pv 3) pa_nil)))))), ?_⟩
    walk_at "cx"
    walk_at "ss"
    rename_i p0 H0 n0' e0 f0
    refine ⟨a, ks, n, rfl, e0.sq hs, by omega, n0, by omega, fun p qs H1 e1 R1 => ?_⟩
    have sl := sortI_len ks
    have i1 := R1.is
    have ul : (qs.map V.ref).length = (spl (sortI ks) n).length := by rw [List.length_map, R1.len]
    have srt := looks_sort (ks := ks) (w := w) n0 nd
    rw [← srt] at q
    have n0p : p ≠ p0 := fun z => by
      have := R1.fr p List.mem_cons_self
      rw [z, f0] at this
      cases this
    have mem := fun r hr => spl_row (l := sortI ks) (n := n) r hr
    refine u_forL (fun j σ H' => ∃ (vs : List V) (x1 x2 x3 : Option V), σ = [some (.ref a), some (.int n), some (.int w), some (.ref p0), x1, x2, x3] ∧ Ex H H' ∧ ExM p0 H1 H' ∧ H' p0 = some (.lst vs) ∧ Paired (Tp H') vs (((spl (sortI ks) n).take j).flatMap fun r => r.map fun k => (k, lookI ks n w k)) ∧ (∀ y ∈ vs, ∀ a, y = .ref a → H a = none)) (sq_of R1.own) ⟨[], _, _, _, rfl, e0.trans e1, ExM.refl _, e1 _ _ f0, .nil, fun _ h => absurd h List.not_mem_nil⟩ (fun j σ H' _ hh => ?_) (fun j v σ H' hx hh => ?_) (fun σ H' hh => ?_)
    · obtain ⟨_, _, _, _, _, _, m, _⟩ := hh
      exact sq_of (m _ _ n0p R1.own)
    · obtain ⟨vs, x1, x2, x3, rfl, e3, m3, f3, pr3, nw3⟩ := hh
      rw [List.getElem?_map] at hx
      cases hqj : qs[j]? with
      | none => rw [hqj] at hx; cases hx
      | some b =>
        rw [hqj] at hx
        cases hx
        obtain ⟨r, us', g1, g2, g3⟩ := R1.at hqj
        obtain rfl := pair_ints g3
        have hm := List.mem_of_getElem? hqj
        have rl := mem r (List.mem_of_getElem? g1)
        obtain ⟨jn, er⟩ := spl_at g1
        have nb : b ≠ p0 := fun z => by
          have := R1.fr b (List.mem_cons_of_mem _ hm)
          rw [z, f0] at this
          cases this
        have g2' : H' b = some (.lst (r.map V.int)) := m3 _ _ nb g2
        have rowE : ∀ k, k ∈ r → rowK ks n k = r := fun k hk => by
          rw [er] at hk
          have := of_decide_eq_true (List.mem_filter.mp hk).2
          unfold rowK
          rw [er, this]
        have tl := flat_le (ks := ks) n0 (fun k => (k, lookI ks n w k)) j
        walk_at "ss"
        refine ⟨b, r, w, rfl, sq_of g2', by omega, w0, by omega, fun p5 qs5 H5 e5 R5 => ?_⟩
        have i5 := R5.is
        walk_at "ss"
        refine u_mapITpN (fun y => ∀ a, y = .ref a → H a = none) (fun k => (k, lookI ks n w k)) (sq_of (e5 _ _ g2')) (by omega) (fun x hx D H6 e6 nD oD A hA => ?_) (fun D ws H6 n6 e6 f6 pr6 nw6 => ?_)
        · obtain ⟨o, hD⟩ := oD
          have lk := looked_room (ks := ks) (n := n) (w := w) (k := x) w0 nd (by rw [rowE x hx]; exact hx)
          rw [rowE x hx] at lk
          walk_at "ss"
          refine ⟨p5, _, x, rfl, Is.ex e6 i5, fun p7 H7 n7 e7 f7 => ?_⟩
          rw [lk] at f7
          walk_at "ss"
          rename_i p8 H8 n8 e8 f8
          exact hA _ H8 (e7.trans e8) (fun Z m z => ⟨p8, rfl, m _ _ (ne_of_none (e7 _ _ hD) n8).symm f8⟩) fun a ea => by
            cases ea
            exact Ex.back (((e3.trans e5).trans e6).trans e7) n8
        have e56 := e5.trans e6
        have wl := Paired.length pr6
        rw [List.length_map] at wl
        have vl := Paired.length pr3
        walk_at "ss"
        refine n_ext (e56 _ _ f3) f6 (by omega) fun H7 m7 f7 => ?_
        walk_at "ss"
        have z0 : H p0 = none := n0'
        refine ⟨vs ++ ws, _, _, _, rfl, (e3.trans e56).exm z0 m7, (m3.trans e56.toM).trans m7, f7, ?_, fun y hy => (List.mem_append.mp hy).elim (nw3 y) (nw6 y)⟩
        rw [List.take_add_one, g1]
        show Paired _ _ (List.flatMap _ ((spl (sortI ks) n).take j ++ [r]))
        rw [List.flatMap_append, List.flatMap_singleton]
        exact paired_append (Paired.mapP pr3 fun v q h => Tp.exm (e56 _ _ f3) m7 (Tp.ex e56 h)) (Paired.mapP pr6 fun v q h => Tp.exm (e56 _ _ f3) m7 h)
    · obtain ⟨vs, x1, x2, x3, rfl, e3, m3, f3, pr3, nw3⟩ := hh
      rw [ul, List.take_length] at pr3
      walk_at "ss"
      refine n_sortedPN (sq_of f3) pr3 fun p5 ws H5 n5 e5 f5 pr5 nw5 => ?_
      exact q p5 ws H5 (Ex.back e3 n5) (e3.trans e5) f5 pr5 fun y hy => nw3 y (nw5 y hy)

/-! ### _law_asked -/
noncomputable def sp_law_asked (K : PySem.W.Frag) : Sp := fun vs H Q _ => ∃ (way : Int) (a : Addr) (ks : List Int) (n w : Int) (Z : Hp), vs = [.int way, .ref a, .int n, .int w] ∧ Ex Z H ∧ H a = some (.lst (ks.map V.int)) ∧ ks.length ≤ 60 ∧ ks.Nodup ∧ 1 ≤ n ∧ n ≤ 130 ∧ 1 ≤ w ∧ w ≤ 8 ∧
  ∀ v M Z' H', T [] Z H Z' H' → Ow 3 Z' H' v (ansI way ks n w) M → M.Nodup → (∀ b ∈ M, H b = none) → Q v H'
theorem has_law_asked (z : Z K mg) (F : FunAt K mg "_law_asked" s_law_asked ["_law_way", "_law_keys_here", "_law_rooms", "_law_wide"]) (h_looked : Has P w K mg base "looked" 1 (sp_looked K)) (h_rows_of : Has P w K mg base "rows_of" 2 (sp_rows_of K)) (h_longest : Has P w K mg base "longest" 2 (sp_longest K)) (h_counts : Has P w K mg base "counts" 4 (sp_counts K)) (h_all_looks : Has P w K mg base "all_looks" 4 (sp_all_looks K)) (h_spread : Has P w K mg base "spread" 3 (sp_spread K)) : Has P w K mg base "_law_asked" 5 (sp_law_asked K) := by
  refine has_of F sc_law_asked (fun vs H Q E h => ?_) (fun f cdv A outer s H vs Q E hr h => ?_)
  · obtain ⟨_, _, _, _, _, _, rfl, _⟩ := h
    rfl
  · obtain ⟨way, a, ks, n, w, Z, rfl, zh, ha, hl, nd, n0, n1, w0, w1, q⟩ := h
    refine ⟨_, (pss_cons (ps_if (pt_cmpR (eqA (K := K) rfl hr.units) (pv 0) pe_int (nomark _)) (pss_one (ps_ret (pe_callH h_spread (by decide) hr rfl (pa_cons (pv 1) (pa_cons (pv 2) pa_nil))))) pss_nil)
        (pss_cons (ps_if (pt_cmpR (eqA (K := K) rfl hr.units) (pv 0) pe_int (nomark _)) (pss_one (ps_ret (pe_callH h_counts (by decide) hr rfl (pa_cons (pv 1) (pa_cons (pv 2) pa_nil))))) pss_nil)
        (pss_cons (ps_if (pt_cmpR (eqA (K := K) rfl hr.units) (pv 0) pe_int (nomark _)) (pss_one (ps_ret (pe_callH h_rows_of (by decide) hr rfl (pa_cons (pv 1) (pa_cons (pv 3) pa_nil))))) pss_nil)
        (pss_cons (ps_if (pt_cmpR (eqA (K := K) rfl hr.units) (pv 0) pe_int (nomark _)) (pss_one (ps_ret (pe_callH h_all_looks (by decide) hr rfl (pa_cons (pv 1) (pa_cons (pv 2) (pa_cons (pv 3) pa_nil)))))) pss_nil)
        (pss_cons (ps_if (pt_cmpR (eqA (K := K) rfl hr.units) (pv 0) pe_int (nomark _)) (pss_one (ps_ret (pe_callH h_longest (by decide) hr rfl (pa_cons (pe_callH h_counts (by decide) hr rfl (pa_cons (pv 1) (pa_cons (pv 2) pa_nil))) (pa_cons (pv 3) pa_nil))))) pss_nil)
        (pss_one (ps_ret (pe_lc (own := [("_law_key_here", 4)]) (g := gName 4) (tt := tYes) rfl sc_law_asked.nd (piL (K := K) rfl (pe_slice (slA (K := K) rfl) (pv 1) po_none (po_some pe_int))) (blkOk_by (own := [("_law_key_here", 4)]) (N := ["_law_way", "_law_keys_here", "_law_rooms", "_law_wide", "_law_key_here"]) (sc := defScope s_law_asked) (by decide +kernel)) (fun _ _ _ _ _ => (pg_name (i := 4) sc_law_asked.nd rfl (by first | exact Or.inl rfl | exact Or.inr rfl))) (fun _ _ _ _ _ => pts_nil) (fun _ _ _ _ _ => (pe_callH h_looked (by decide) hr rfl (pa_cons (pe_callH h_rows_of (by decide) hr rfl (pa_cons (pv 1) (pa_cons (pv 3) pa_nil))) (pa_cons (pv 4) pa_nil)))))))))))), ?_⟩
    walk_at "cx"
    have la : Li Z H a ks := ⟨_, ha, ints_pairK⟩
    have sl := sortI_len ks
    have hsn := spl_len (sortI ks) n
    have one : ∀ {p : Addr}, [p].Nodup := List.nodup_cons.mpr ⟨List.not_mem_nil, List.nodup_nil⟩
    unfold ansI at q
    walk_at "ts"
    refine i_d (fun c0 => ?_) (fun c0 => ?_)
    · rw [if_pos c0] at q
      walk_at "ts"
      refine ⟨a, ks, n, rfl, sq_of ha, by omega, by omega, by omega, fun p qs H' e R => ?_⟩
      walk_at "ts"
      exact q _ _ _ _ (T.ofEx e zh) (ow_RW zh R (by omega) fun r hr => by have := spl_lens _ _ r hr; omega) R.nd R.fr
    rw [if_neg c0] at q
    walk_at "ts"
    refine i_d (fun c0 => ?_) (fun c0 => ?_)
    · rw [if_pos c0] at q
      walk_at "ts"
      refine ⟨a, ks, n, rfl, sq_of ha, by omega, by omega, by omega, fun p H' np e f => ?_⟩
      walk_at "ts"
      exact q _ _ _ _ (T.ofEx e zh) (ow_ints f (Ex.back zh np) (by rw [List.length_map]; omega)) one fun b hb => by rw [List.mem_singleton.mp hb]; exact np
    rw [if_neg c0] at q
    walk_at "ts"
    refine i_d (fun c0 => ?_) (fun c0 => ?_)
    · rw [if_pos c0] at q
      walk_at "ts"
      refine ⟨a, ks, w, rfl, sq_of ha, by omega, by omega, by omega, fun p qs H' e R => ?_⟩
      have rl : ((rowsOf ks w).length : Int) = rowsI ks.length w := by
        rw [rowsOf_len]
        have := rowsI_pos (ks.length : Int) w
        omega
      have rf := (rowsI_facts (m := (ks.length : Int)) (w := w) (by omega) (by omega)).2.2.2.2
      walk_at "ts"
      exact q _ _ _ _ (T.ofEx e zh) (ow_RW zh R (by omega) fun r hr => by have := rowsOf_lens _ _ r hr; omega) R.nd R.fr
    rw [if_neg c0] at q
    walk_at "ts"
    refine i_d (fun c0 => ?_) (fun c0 => ?_)
    · rw [if_pos c0] at q
      walk_at "ts"
      refine ⟨a, ks, n, w, rfl, sq_of ha, by omega, nd, by omega, by omega, by omega, by omega, fun p ws H' np e f pr nw => ?_⟩
      walk_at "ts"
      refine ow_prs zh e np f pr nw (by rw [looksP_len]; omega) fun Z' t ow => ?_
      exact q _ [p] _ _ t ow one fun b hb => by rw [List.mem_singleton.mp hb]; exact np
    rw [if_neg c0] at q
    walk_at "ts"
    refine i_d (fun c0 => ?_) (fun c0 => ?_)
    · rw [if_pos c0] at q
      walk_at "ts"
      refine ⟨a, ks, n, rfl, sq_of ha, by omega, by omega, by omega, fun p H1 np e f => ?_⟩
      walk_at "ts"
      refine ⟨p, _, w, rfl, sq_of f, by rw [List.length_map]; omega, by rw [List.length_map]; omega, by omega, by omega, fun p2 j H2 np2 e2 f2 g1 g2 => ?_⟩
      walk_at "ts"
      have ej := posI_of g1 g2
      have t : T [] Z H (upd Z p2 _) H2 := (T.ofEx e zh : T [] Z H Z H1).step (T.newE np2 e2 f2 (zh.trans e)) mm_nil
      refine q _ [] _ _ t (.inl ⟨rfl, ?_, rfl⟩) List.nodup_nil fun b hb => absurd hb List.not_mem_nil
      unfold rowLensI
      rw [ej]
      exact .tup upd_same (.cons (.int _) (.cons (.int _) .nil))
    rw [if_neg c0] at q
    walk_at "ts"
    refine t_slLi zh la fun p Z1 H1 np t1 ls => ?_
    walk_at "ts"
    have lc : (cutI ks none (some 9)).length ≤ 40000 := by
      have := (cutI_sub ks none (some 9)).length_le
      omega
    refine c_mapLA (fun k => lookedI (rowsOf ks w) k 0) t1.zh ls.is lc (fun i v x hx ix Z2 H2 t2 A hA => ?_) (fun D Z2 H2 nD t2 la2 => ?_)
    · obtain rfl := ix.int_of
      walk_at "ts"
      have h2 : H2 a = some (.lst (ks.map V.int)) := t2.hp nm_nil (t1.hp nm_nil ha)
      refine ⟨a, ks, w, rfl, sq_of h2, by omega, by omega, by omega, fun p3 qs H3 e3 R => ?_⟩
      walk_at "ts"
      refine ⟨p3, _, x, rfl, R.is, fun p4 H4 np4 e4 f4 => ?_⟩
      walk_at "ts"
      have t : T [] Z2 H2 (upd Z2 p4 _) H4 := (T.ofEx e3 t2.zh : T [] Z2 H2 Z2 H3).step (T.newE np4 e4 f4 (t2.zh.trans e3)) mm_nil
      exact hA _ _ _ t (.tup upd_same (.cons (.bl _) (.cons (.int _) .nil)))
    · walk_at "ts"
      obtain ⟨us, f2, pr⟩ := la2.ex
      have t := t1.step t2 mm_nil
      refine q _ [D] _ _ t (ow_flat f2 la2.zd ?_ (fun x hx => ?_) (by rw [List.length_map]; rw [List.length_map]; exact lc)) one fun b hb => by rw [List.mem_singleton.mp hb]; exact t1.nn nD
      · exact paired_mapD pr
      · obtain ⟨i, _, rfl⟩ := List.mem_map.mp hx
        rfl

/-! ### _law_open -/
noncomputable abbrev sp_law_open (K : PySem.W.Frag) : Sp := spOpen K
theorem has_law_open (z : Z K mg) (F : FunAt K mg "_law_open" s_law_open ["_law_script", "_law_place"])  : Has P w K mg base "_law_open" 1 (sp_law_open K) := by
  refine has_of F sc_law_open (fun vs H Q E h => ?_) (fun f cdv A outer s H vs Q E hr h => ?_)
  · obtain ⟨a, ns, x, rfl, _⟩ := h
    rfl
  · obtain ⟨a, ns, x, rfl, hS, h0, h1, q⟩ := h
    refine ⟨_, (pss_cons (ps_setLc (i := 2) (own := [("_law_cell", 5)]) (g := gName 5) (tt := tYes) rfl sc_law_open.nd rfl rfl (sw_true rfl rfl rfl (by decide +kernel)) (piL (K := K) rfl (pe_slice (slA (K := K) rfl) (pv 0) po_none (po_some pe_int))) (blkOk_by (own := [("_law_cell", 5)]) (N := ["_law_script", "_law_place", "_law_cells", "_law_at", "_law_digits", "_law_cell"]) (sc := defScope s_law_open) (by decide +kernel)) (fun _ _ _ _ _ => (pg_name (i := 5) sc_law_open.nd rfl (by first | exact Or.inl rfl | exact Or.inr rfl))) (fun _ _ _ _ _ => pts_nil) (fun _ _ _ _ _ => (pe_callB (id := "abs") call_absA (by rfl) z.b_abs (by decide +kernel) (pa_cons (pv 5) pa_nil))))
        (Evl.pss_cut (ps_if (pt_cmpR (eqA (K := K) rfl hr.units) (pv 2) (pe_lst pa_nil) (nomark _)) (pss_one (ps_set (i := 2) sc_law_open.nd rfl (by first | exact Or.inl rfl | exact Or.inr rfl) (pe_lst (pa_cons pe_int pa_nil)))) pss_nil)
        (pss_cons (ps_set (i := 3) sc_law_open.nd rfl (by first | exact Or.inl rfl | exact Or.inr rfl) (pe_op op_mod (pv 1) (pe_callB (id := "len") (lenA (K := K) rfl) (by rfl) z.b_len (by decide +kernel) (pa_cons (pv 2) pa_nil))))
        (pss_cons (ps_set (i := 4) sc_law_open.nd rfl (by first | exact Or.inl rfl | exact Or.inr rfl) pe_int)
        (Evl.pss_cut (ps_if (PW.pt (pw_and (pt_cmpR op_ge (pe_ix (ixA (K := K) rfl) (pv 2) (pv 3) (fun _ _ => rfl)) (pe_op op_pow pe_int pe_int) (nomark _)) (pw_and1 (pt_cmpR op_lt (pv 1) (pe_callB (id := "len") (lenA (K := K) rfl) (by rfl) z.b_len (by decide +kernel) (pa_cons (pv 2) pa_nil)) (nomark _))))) (pss_one (ps_set (i := 4) sc_law_open.nd rfl (by first | exact Or.inl rfl | exact Or.inr rfl) (pe_ix (ixA (K := K) rfl) (pv 2) (pv 3) (fun _ _ => rfl)))) pss_nil)
        (pss_one (ps_ret (pe_lst (pa_cons (pv 4) (pa_cons (pe_op op_plusA pe_int (pe_op op_multA pe_int (pv 1))) (pa_cons (pe_op op_plusA (pe_slice (slA (K := K) rfl) (pv 2) (po_some (pv 3)) po_none) (pe_slice (slA (K := K) rfl) (pv 2) po_none (po_some (pv 3)))) pa_nil))))))))))), ?_⟩
    walk_at "cx"
    walk_at "ss"
    rename_i p1 H1 n1 e1 f1
    obtain ⟨cs, hc, hl⟩ : ∃ cs : List Int, cutV (ns.map V.int) none (some 63) = cs.map V.int ∧ cs.length ≤ 63 := ⟨cutI ns none (some 63), cutV_ints _ _ _, by
      rw [cutI_to _ (by decide), List.length_take]
      exact Nat.min_le_left _ _⟩
    rw [hc] at f1
    refine u_mapL V.int cs (fun i => V.int (if i < 0 then -i else i)) (sq_of f1) (by omega) (fun i hi H2 e2 A ha => ?_) (fun D H2 n2 e2 f2 => ?_)
    · walk_at "ss"
      exact ha _ (Ex.refl _)
    · obtain ⟨xs, hx, hxl⟩ : ∃ xs : List Int, cs.map (fun i => V.int (if i < 0 then -i else i)) = xs.map V.int ∧ xs.length ≤ 63 := ⟨cs.map fun i => if i < 0 then -i else i, by rw [List.map_map]; rfl, by rw [List.length_map]; exact hl⟩
      rw [hx] at f2
      walk_at "ss"
      refine s_cut (fun σ' H' => ∃ (D : Addr) (ys : List Int), σ' = [some (.ref a), some (.int x), some (.ref D), none, none, none] ∧ Ex H H' ∧ H' D = some (.lst (ys.map V.int)) ∧ 0 < ys.length ∧ ys.length ≤ 63) ?_ ?_
      · walk_at "ss"
        refine i_d (fun hd => ?_) (fun hd => ?_)
        · walk_at "ss"
          rename_i G n3 e3 f3
          exact ⟨_, [0], rfl, by walk_at "ex", f3, by decide, by decide⟩
        · walk_at "ss"
          exact ⟨_, xs, rfl, by walk_at "ex", by walk_at "hp", List.length_pos_iff.mpr hd, hxl⟩
      · rintro σ' H3 ⟨D2, ys, rfl, e3, f3, hy, hy2⟩
        walk_at "ss"
        rename_i b1 b2
        refine s_cut (fun σ' H' => ∃ (d : Int), σ' = [some (.ref a), some (.int x), some (.ref D2), some (.int (x % ys.length)), some (.int d), none] ∧ H' = H3) ?_ ?_
        · walk_at "ss"
          refine i_d (fun hd => ?_) (fun hd => ?_)
          · walk_at "ss"
            refine i_d (fun hd => ?_) (fun hd => ?_)
            · walk_at "ss"
              exact ⟨_, rfl, rfl⟩
            · walk_at "ss"
              exact ⟨_, rfl, rfl⟩
          · walk_at "ss"
            exact ⟨_, rfl, rfl⟩
        · rintro σ' H4 ⟨d, rfl, rfl⟩
          walk_at "ss"
          rename_i p2 G2 n4 e4 f4 p3 G3 n5 e5 f5
          rw [cutV_ints, cutI_from _ b1] at f4
          rw [cutV_ints, cutI_to _ b1] at f5
          refine n_cat (by walk_at "hp") f5 ?_ fun p4 G4 n6 e6 f6 => ?_
          · rw [List.length_map, List.length_map, List.length_drop, List.length_take]
            omega
          · walk_at "ss"
            rename_i p5 G5 n7 e7 f7
            rw [← List.map_append] at f6
            have n0 : H p5 = none := Ex.back (by walk_at "ex") n7
            have n4' : H p4 = none := Ex.back (by walk_at "ex") n6
            exact q p5 p4 d _ G5 n0 n4' (fun z => by rw [z, f6] at n7; cases n7) (by walk_at "ex") f7 (e7 _ _ f6) (by rw [List.length_append, List.length_drop, List.length_take]; omega)

/-! ### _law_copy -/
noncomputable def spR_law_copy : Nat → PySem.W.Frag → Sp
  | 0, _ => fun _ _ _ _ => False
  | d + 1, _ => fun vs H Q _ => ∃ (v : V) (x : PyData) (M : List Addr) (Z : Hp), vs = [v] ∧ Ex Z H ∧ Ow (d + 1) Z H v x M ∧ ∀ v' Z' H', T [] Z H Z' H' → Dt Z' v' x → Q v' H'
noncomputable abbrev sp_law_copy (K : PySem.W.Frag) : Sp := spR_law_copy 3 K
theorem has_law_copy (z : Z K mg) (F : FunAt K mg "_law_copy" s_law_copy ["_law_told"])  : Has P w K mg base "_law_copy" 4 (sp_law_copy K) := by
  refine (Nat.rec (motive := fun d => Has P w K mg base "_law_copy" (1 + d) (spR_law_copy d K)) (Has.mono (has_of (k := 0) F sc_law_copy (fun _ _ _ _ h => h.elim) (fun _ _ _ _ _ _ _ _ _ _ h => h.elim)) (by omega)) (fun d h_law_copy => has_of (k := 1 + d) F sc_law_copy (fun vs H Q E h => ?_) (fun f cdv A outer s H vs Q E hr h => ?_)) 3 : Has P w K mg base "_law_copy" (1 + 3) (spR_law_copy 3 K))
  · obtain ⟨v, x, M, Z, rfl, _⟩ := h
    rfl
  · obtain ⟨v, x, M, Z, rfl, zh, ow, q⟩ := h
    refine ⟨_, (pss_cons (ps_if (pt_val (pe_callB (id := "isinstance") (isiA (K := K) rfl) (by rfl) z.b_isinstance (by decide +kernel) (pa_cons (pv 0) (pa_cons (pe_bltn (v := .ty "list") (by rfl) z.b_list (by decide +kernel) rfl) pa_nil)))) (pss_one (ps_ret (pe_lc (own := [("_law_one", 1)]) (g := gName 1) (tt := tYes) rfl sc_law_copy.nd (piL (K := K) rfl (pv 0)) (blkOk_by (own := [("_law_one", 1)]) (N := ["_law_told", "_law_one"]) (sc := defScope s_law_copy) (by decide +kernel)) (fun _ _ _ _ _ => (pg_name (i := 1) sc_law_copy.nd rfl (by first | exact Or.inl rfl | exact Or.inr rfl))) (fun _ _ _ _ _ => pts_nil) (fun _ _ _ _ _ => (pe_callH h_law_copy (by omega) hr rfl (pa_cons (pv 1) pa_nil)))))) pss_nil)
        (pss_one (ps_ret (pv 0)))), ?_⟩
    walk_at "cx"
    walk_at "ts"
    rcases ow with ⟨n, dx, _⟩ | ⟨p, us, L, rfl, h1, zp, rfl, rfl, hl, pr⟩
    · refine s_isiO n dx zh ?_
      walk_at "ts"
      exact q _ _ _ (T.refl zh) dx
    · walk_at "ts"
      refine c_mapO zh h1 pr hl (fun u x M Z1 H1 ow t A hA => ?_) (fun D Z' H' nD t dt => ?_)
      · walk_at "ts"
        cases d with
        | zero => exact ow.elim
        | succ d => exact ⟨u, x, M, Z1, rfl, t.zh, ow, fun v' Z' H' t' dt => hA _ _ _ t' dt⟩
      · walk_at "ts"
        exact q _ _ _ t dt

/-! ### _law_far -/
noncomputable abbrev sp_law_far (K : PySem.W.Frag) : Sp := spFar K
theorem has_law_far (z : Z K mg) (F : FunAt K mg "_law_far" s_law_far ["_law_hand", "_law_many"]) (h_law_draw : Has P w K mg base "_law_draw" 1 (sp_law_draw K)) : Has P w K mg base "_law_far" 2 (sp_law_far K) := by
  refine has_of F sc_law_far (fun vs H Q E h => ?_) (fun f cdv A outer s H vs Q E hr h => ?_)
  · obtain ⟨a, m, n, Z, rfl, _⟩ := h
    rfl
  · obtain ⟨a, m, n, Z, rfl, hh, h0, h1, q⟩ := h
    obtain ⟨d, k, c, cells, g1, g3, g4, g5, z1, z2, z3⟩ := id hh
    refine ⟨_, (pss_cons (ps_if (pt_cmpR op_gt (pe_ix (ixA (K := K) rfl) (pv 0) pe_int (fun _ _ => rfl)) pe_int (nomark _)) (pss_one (ps_ret (pe_callH h_law_draw (by decide) hr rfl (pa_cons (pv 0) (pa_cons (pv 1) pa_nil))))) pss_nil)
        (pss_cons (ps_set (i := 2) sc_law_far.nd rfl (by first | exact Or.inl rfl | exact Or.inr rfl) pe_int)
        (pss_cons (ps_for PassesOwn.never rfl (pi_range1 (by rfl) z.b_range (pa_cons pe_int pa_nil)) (pg_name (i := 3) sc_law_far.nd rfl (by first | exact Or.inl rfl | exact Or.inr rfl)) (pss_one (ps_set (i := 2) sc_law_far.nd rfl (by first | exact Or.inl rfl | exact Or.inr rfl) (pe_op op_plusA (pe_op op_multA (pv 2) (pe_op op_pow pe_int pe_int)) (pe_callH h_law_draw (by decide) hr rfl (pa_cons (pv 0) (pa_cons (pe_op op_pow pe_int pe_int) pa_nil)))))))
        (pss_one (ps_ret (pe_op op_mod (pv 2) (pv 1))))))), ?_⟩
    walk_at "cx"
    walk_at "ss"
    refine i_d (fun hd => ?_) (fun hd => ?_)
    · walk_at "ss"
      exact ⟨a, m, n, Z, rfl, hh.mono (by omega), h0, h1, q⟩
    · walk_at "ss"
      refine u_forR1 (fun i σ H' => ∃ x y, σ = [some (.ref a), some (.int m), some (.int x), y] ∧ ExM a H H' ∧ Hand K Z H' a (n + (7 - i))) (by decide) ⟨_, _, rfl, ExM.refl _, hh⟩ (fun i σ H' hi hw => ?_) (fun σ H' hw => ?_)
      · obtain ⟨x, y, rfl, e, hw⟩ := hw
        have hw' : Hand K Z H' a (n + (7 - (i + 1)) + 1) := hw.mono (by omega)
        walk_at "ss"
        refine ⟨a, _, _, _, rfl, hw', by decide, by decide, fun r H2 r0 r1 m2 hh2 => ?_⟩
        walk_at "ss"
        exact ⟨_, _, rfl, e.trans m2, hh2⟩
      · obtain ⟨x, y, rfl, e, hw⟩ := hw
        walk_at "ss"
        exact q _ _ (by omega) (by omega) e (hw.mono (by omega))

/-! ### _law_power -/
noncomputable def sp_law_power (K : PySem.W.Frag) : Sp := fun vs H Q _ => ∃ n : Int, vs = [.int n] ∧ 0 ≤ n ∧ n ≤ 1000 ∧ Q (.int (2 ^ n.toNat)) H
theorem has_law_power (z : Z K mg) (F : FunAt K mg "_law_power" s_law_power ["_law_many"])  : Has P w K mg base "_law_power" 1 (sp_law_power K) := by
  refine has_of F sc_law_power (fun vs H Q E h => ?_) (fun f cdv A outer s H vs Q E hr h => ?_)
  · obtain ⟨n, rfl, _⟩ := h
    rfl
  · obtain ⟨n, rfl, h0, h1, q⟩ := h
    refine ⟨_, (pss_cons (ps_set (i := 1) sc_law_power.nd rfl (by first | exact Or.inl rfl | exact Or.inr rfl) pe_int)
        (pss_cons (ps_for PassesOwn.never rfl (pi_range1 (by rfl) z.b_range (pa_cons (pv 0) pa_nil)) (pg_name (i := 2) sc_law_power.nd rfl (by first | exact Or.inl rfl | exact Or.inr rfl)) (pss_one (ps_set (i := 1) sc_law_power.nd rfl (by first | exact Or.inl rfl | exact Or.inr rfl) (pe_op op_multA (pv 1) pe_int))))
        (pss_one (ps_ret (pv 1))))), ?_⟩
    walk_at "cx"
    walk_at "ss"
    refine u_forR1 (fun i σ H' => ∃ x, σ = [some (.int n), some (.int (2 ^ i)), x] ∧ H' = H) (by omega) ⟨_, rfl, rfl⟩ (fun i σ H' hi hh => ?_) (fun σ H' hh => ?_)
    · obtain ⟨x, rfl, rfl⟩ := hh
      walk_at "ss"
      exact ⟨_, by rw [Int.pow_succ]; rfl, rfl⟩
    · obtain ⟨x, rfl, rfl⟩ := hh
      walk_at "ss"
      exact q

/-! ### _law_key -/
noncomputable abbrev sp_law_key (K : PySem.W.Frag) : Sp := spKey K
theorem has_law_key (z : Z K mg) (F : FunAt K mg "_law_key" s_law_key ["_law_hand"]) (h_law_far : Has P w K mg base "_law_far" 2 (sp_law_far K)) (h_law_power : Has P w K mg base "_law_power" 1 (sp_law_power K)) (h_law_draw : Has P w K mg base "_law_draw" 1 (sp_law_draw K)) : Has P w K mg base "_law_key" 3 (sp_law_key K) := by
  refine has_of F sc_law_key (fun vs H Q E h => ?_) (fun f cdv A outer s H vs Q E hr h => ?_)
  · obtain ⟨a, n, Z, rfl, _⟩ := h
    rfl
  · obtain ⟨a, n, Z, rfl, hh, q⟩ := h
    refine ⟨_, (pss_cons (ps_set (i := 1) sc_law_key.nd rfl (by first | exact Or.inl rfl | exact Or.inr rfl) (pe_callH h_law_draw (by decide) hr rfl (pa_cons (pv 0) (pa_cons pe_int pa_nil))))
        (pss_cons (ps_set (i := 2) sc_law_key.nd rfl (by first | exact Or.inl rfl | exact Or.inr rfl) (pe_callH h_law_draw (by decide) hr rfl (pa_cons (pv 0) (pa_cons (pe_ix (ixA (K := K) rfl) (pe_lst (pa_cons pe_int (pa_cons pe_int (pa_cons pe_int pa_nil)))) (pe_callH h_law_draw (by decide) hr rfl (pa_cons (pv 0) (pa_cons pe_int pa_nil))) (fun _ _ => rfl)) pa_nil))))
        (pss_cons (ps_if (pt_cmpR op_lt (pv 1) pe_int (nomark _)) (pss_one (ps_ret (pv 2))) pss_nil)
        (pss_cons (ps_if (pt_cmpR (eqA (K := K) rfl hr.units) (pv 1) pe_int (nomark _)) (pss_one (ps_ret (pe_op op_sub (pe_op op_sub (pe_op op_pow pe_int pe_int) pe_int) (pv 2)))) pss_nil)
        (pss_cons (ps_if (pt_cmpR (eqA (K := K) rfl hr.units) (pv 1) pe_int (nomark _)) (pss_one (ps_ret (pe_op op_plusA (pv 2) (pe_callH h_law_power (by decide) hr rfl (pa_cons (pe_op op_plusA pe_int (pe_callH h_law_draw (by decide) hr rfl (pa_cons (pv 0) (pa_cons pe_int pa_nil)))) pa_nil))))) pss_nil)
        (pss_cons (ps_if (pt_cmpR (eqA (K := K) rfl hr.units) (pv 1) pe_int (nomark _)) (pss_one (ps_ret (pe_op op_plusA (pe_op op_mod (pv 2) pe_int) (pe_op op_multA pe_int (pe_callH h_law_far (by decide) hr rfl (pa_cons (pv 0) (pa_cons (pe_op op_pow pe_int pe_int) pa_nil))))))) pss_nil)
        (pss_one (ps_ret (pe_callH h_law_far (by decide) hr rfl (pa_cons (pv 0) (pa_cons (pe_op op_pow pe_int pe_int) pa_nil))))))))))), ?_⟩
    walk_at "cx"
    walk_at "ss"
    refine ⟨a, 7, _, _, rfl, hh, by walk_at "od", by walk_at "od", fun wy H1 wy0 wy1 m1 hh1 => ?_⟩
    walk_at "ss"
    rename_i p1 H2 n2 e2 f2
    refine ⟨a, 3, _, _, rfl, hh1.ex e2, by walk_at "od", by walk_at "od", fun x H3 x0 x1 m3 hh3 => ?_⟩
    walk_at "ss"
    rename_i b hb
    have hb2 : 0 < b ∧ b ≤ 200 := by omega
    refine ⟨a, b, _, _, rfl, hh3, by walk_at "od", by walk_at "od", fun lo H4 lo0 lo1 m4 hh4 => ?_⟩
    have M : ExM a H H4 := ((m1.trans e2.toM).trans m3).trans m4
    walk_at "ss"
    refine i_d (fun hd => ?_) (fun hd => ?_)
    · walk_at "ss"
      exact q _ _ lo0 (by omega) M (hh4.mono (by omega))
    walk_at "ss"
    refine i_d (fun hd => ?_) (fun hd => ?_)
    · walk_at "ss"
      exact q _ _ (by omega) (by omega) M (hh4.mono (by omega))
    walk_at "ss"
    refine i_d (fun hd => ?_) (fun hd => ?_)
    · walk_at "ss"
      refine ⟨a, 52, _, _, rfl, hh4, by walk_at "od", by walk_at "od", fun y H5 y0 y1 m5 hh5 => ?_⟩
      walk_at "ss"
      refine ⟨_, rfl, by omega, by omega, ?_⟩
      have hp := two_pos (8 + y).toNat
      have hp2 := two_mono (show (8 + y).toNat ≤ 59 by omega)
      have e59 : (2 : Int) ^ 59 = 576460752303423488 := by decide
      walk_at "ss"
      exact q _ _ (by omega) (by omega) (M.trans m5) (hh5.mono (by omega))
    walk_at "ss"
    refine i_d (fun hd => ?_) (fun hd => ?_)
    · walk_at "ss"
      refine ⟨a, _, _, _, rfl, hh4.mono (m := n + 7) (by omega), by decide, by decide, fun y H5 y0 y1 m5 hh5 => ?_⟩
      walk_at "ss"
      exact q _ _ (by omega) (by omega) (M.trans m5) (hh5.mono (by omega))
    · walk_at "ss"
      refine ⟨a, _, _, _, rfl, hh4.mono (m := n + 7) (by omega), by decide, by decide, fun y H5 y0 y1 m5 hh5 => ?_⟩
      walk_at "ss"
      exact q _ _ (by omega) (by omega) (M.trans m5) (hh5.mono (by omega))

/-! ### _law_keys -/
noncomputable abbrev sp_law_keys (K : PySem.W.Frag) : Sp := spKeys K
theorem has_law_keys (z : Z K mg) (F : FunAt K mg "_law_keys" s_law_keys ["_law_hand", "_law_many"]) (h_law_key : Has P w K mg base "_law_key" 3 (sp_law_key K)) : Has P w K mg base "_law_keys" 4 (sp_law_keys K) := by
  refine has_of F sc_law_keys (fun vs H Q E h => ?_) (fun f cdv A outer s H vs Q E hr h => ?_)
  · obtain ⟨h, many, n, Z, rfl, _⟩ := h
    rfl
  · obtain ⟨h, many, n, Z, rfl, m0, m1, hh, q⟩ := h
    refine ⟨_, (pss_cons (ps_set (i := 2) sc_law_keys.nd rfl (by first | exact Or.inl rfl | exact Or.inr rfl) (pe_lst pa_nil))
        (pss_cons (ps_for PassesOwn.never rfl (pi_range1 (by rfl) z.b_range (pa_cons (pv 1) pa_nil)) (pg_name (i := 3) sc_law_keys.nd rfl (by first | exact Or.inl rfl | exact Or.inr rfl)) (pss_cons (ps_set (i := 4) sc_law_keys.nd rfl (by first | exact Or.inl rfl | exact Or.inr rfl) (pe_callH h_law_key (by decide) hr rfl (pa_cons (pv 0) pa_nil)))
        (pss_cons (ps_while PassesOwn.never (pt_cmpR (inA (K := K) rfl) (pv 4) (pv 2) (by rfl)) (pss_one (ps_set (i := 4) sc_law_keys.nd rfl (by first | exact Or.inl rfl | exact Or.inr rfl) (pe_op op_mod (pe_op op_plusA (pv 4) pe_int) (pe_op op_pow pe_int pe_int)))))
        (pss_one (ps_expr (pe_bm PySem.F.plainAttrs_list PySem.F.slot_list_append PySem.F.type_list_append mt_append (pv 2) (pa_cons (pv 4) pa_nil)))))))
        (pss_one (ps_ret (pv 2))))), ?_⟩
    walk_at "cx"
    walk_at "ss"
    rename_i p1 H1 n1 e1 f1
    have np : p1 ≠ h := by walk_at "ne"
    refine u_forR1 (fun i σ H' => ∃ (x1 x2 : Option V) (ks : List Int), σ = [some (.ref h), some (.int many), some (.ref p1), x1, x2] ∧ ExM h H H' ∧ Hand K Z H' h (n + 2000 - 12 * i) ∧ H' p1 = some (.lst (ks.map V.int)) ∧ ks.length = i ∧ ks.Nodup ∧ ∀ k ∈ ks, 0 ≤ k ∧ k < 1152921504606846976) (by omega)
      ⟨_, _, [], rfl, e1.toM, hh.ex e1, f1, rfl, List.nodup_nil, fun _ h => nomatch h⟩ (fun i σ H' hi hh => ?_) (fun σ H' hh => ?_)
    · obtain ⟨x1, x2, ks, rfl, m5, hh5, f5, l5, d5, b5⟩ := hh
      walk_at "ss"
      refine ⟨h, _, _, rfl, hh5.mono (m := n + 2000 - 12 * (i + 1) + 12) (by omega), fun x H6 x0 x1 m6 hh6 => ?_⟩
      have f6 : H6 p1 = some (.lst (ks.map V.int)) := m6 _ _ np f5
      walk_at "ss"
      refine u_while (fun m σ H' => ∃ (x : Int) (V : List Int), σ = [some (.ref h), some (.int many), some (.ref p1), some (.int (i : Int)), some (.int x)] ∧ H' = H6 ∧ 0 ≤ x ∧ x < 1152921504606846976 ∧ V.Nodup ∧ (∀ y ∈ V, y ∈ ks) ∧ (∀ y ∈ V, ∃ e : Nat, 1 ≤ e ∧ e ≤ V.length ∧ (y + e) % 1152921504606846976 = x) ∧ m = ks.length - V.length) ks.length
        ⟨x, [], rfl, rfl, x0, x1, List.nodup_nil, fun _ h => (nomatch h), fun _ h => (nomatch h), rfl⟩ (fun m σ H' hh => ?_)
      obtain ⟨x, V, rfl, rfl, x0, x1, dV, sV, tV, rfl⟩ := hh
      walk_at "ss"
      have xV : x ∉ V := fun z => by
        obtain ⟨e, e1, e2, e3⟩ := tV x z
        have := nodup_le dV sV
        omega
      refine i_d (fun hd => ?_) (fun hd => ?_)
      · refine w_body ?_
        have le := nodup_le (V := x :: V) (List.nodup_cons.mpr ⟨xV, dV⟩) (fun y hy => by
          rcases List.mem_cons.mp hy with rfl | hy
          · exact hd
          · exact sV y hy)
        rw [List.length_cons] at le
        walk_at "ss"
        rename_i u0 u1
        refine ⟨ks.length - (x :: V).length, by rw [List.length_cons]; omega, (x + 1) % 1152921504606846976, x :: V, rfl, rfl, u0, u1, List.nodup_cons.mpr ⟨xV, dV⟩, fun y hy => ?_, fun y hy => ?_, rfl⟩
        · rcases List.mem_cons.mp hy with rfl | hy
          · exact hd
          · exact sV y hy
        · rcases List.mem_cons.mp hy with rfl | hy
          · exact ⟨1, by omega, by rw [List.length_cons]; omega, rfl⟩
          · obtain ⟨e, e1, e2, e3⟩ := tV y hy
            exact ⟨e + 1, by omega, by rw [List.length_cons]; omega, by omega⟩
      · walk_at "ss"
        refine n_app f6 (by rw [List.length_map]; omega) fun H7 m7 f7 => ?_
        walk_at "ss"
        refine ⟨_, _, ks ++ [x], rfl, ?_, hh6.mut m7 hh n1, by rw [f7, List.map_append]; rfl, by rw [List.length_append, l5]; rfl, ?_, fun m hm => ?_⟩
        · intro b o nb g
          exact m7 b o (ne_of_none g n1) (m6 b o nb (m5 b o nb g))
        · rw [List.nodup_append]
          refine ⟨d5, List.nodup_cons.mpr ⟨List.not_mem_nil, List.nodup_nil⟩, fun a ha b hb z => ?_⟩
          rw [List.mem_singleton.mp hb] at z
          exact hd (z ▸ ha)
        · rcases List.mem_append.mp hm with hm | hm
          · exact b5 m hm
          · rw [List.mem_singleton.mp hm]
            exact ⟨x0, x1⟩
    · obtain ⟨x1, x2, ks, rfl, m5, hh5, f5, l5, d5, b5⟩ := hh
      walk_at "ss"
      exact q p1 ks _ n1 m5 (hh5.mono (by omega)) f5 l5 d5 b5

/-! ### law -/
noncomputable abbrev WdT : Type := T3 (List Int) Int Int
noncomputable def WdOk (x : WdT) : Prop := x.a.length ≤ 60 ∧ x.a.Nodup ∧ 1 ≤ x.b ∧ x.b ≤ 130 ∧ 1 ≤ x.c ∧ x.c ≤ 8
noncomputable def FstD (Z : Hp) (v : V) (x : WdT) : Prop := ∃ (a : Addr) (ys : List V), v = .ref a ∧ Z a = some (.lst ys) ∧ Paired (fun y x => Dt Z y x) ys ((List.range 6).map fun (i : Nat) => ansI (i : Int) x.a x.b x.c)
theorem FstD.ex {Z Z' : Hp} {v : V} {x : WdT} (e : Ex Z Z') (h : FstD Z v x) : FstD Z' v x := by
  obtain ⟨a, ys, h1, h2, h3⟩ := h
  exact ⟨a, ys, h1, e _ _ h2, Paired.mapP h3 fun y x g => Dt.ex e g⟩
/-- told, and told again -/
noncomputable def KpD (Z : Hp) (v : V) : Prop := ∃ (p : Addr) (u1 u2 : V) (x : PyData), v = .ref p ∧ Z p = some (.tup [u1, u2]) ∧ Dt Z u1 x ∧ Dt Z u2 x ∧ OkD x
theorem KpD.ex {Z Z' : Hp} {v : V} (e : Ex Z Z') (h : KpD Z v) : KpD Z' v := by
  obtain ⟨p, u1, u2, x, h1, h2, h3, h4, h5⟩ := h
  exact ⟨p, u1, u2, x, h1, e _ _ h2, Dt.ex e h3, Dt.ex e h4, h5⟩
noncomputable def sp_law (K : PySem.W.Frag) : Sp := fun vs H Q _ => ∃ (a : Addr) (ns : List Int), vs = [.ref a] ∧ SqL K H a (ns.map V.int) ∧ ns.length ≤ 63 ∧ ∀ H', Q (.bl true) H'
theorem c_mapRD {K : PySem.W.Frag} {σ : L2.St} {H Z : Hp} {te : TE} {Q : VK} {g : TG} {vs : List Nat} {n : Int} (f : Nat → PyData) (zh : Ex Z H) (hz : -40000 ≤ n ∧ n ≤ 40000)
    (turn : ∀ i : Nat, (i : Int) < n → ∀ Z1 H1, T [] Z H Z1 H1 → ∀ (A : VK), (∀ y Z3 H3, T [] Z1 H1 Z3 H3 → Dt Z3 y (f i) → A y H3) → g (.int (i : Int)) (wipe σ vs) H1 fun σ2 H2 => wipe σ2 vs = wipe σ vs ∧ te σ2 H2 A)
    (fin : ∀ D ys Z' H', H D = none → T [] Z H Z' H' → Z' D = some (.lst ys) → Paired (fun y x => Dt Z' y x) ys ((List.range n.toNat).map f) → Q (.ref D) H') : LcR1 g tYes te vs σ [.int n] H Q := by
  have e62 : (2 : Int) ^ 62 = 4611686018427387904 := by decide
  refine ⟨n, rfl, by omega, by omega, lcT (n := n.toNat) (M := []) (Z := Z) (fun _ => true) (fun _ _ _ => True) (fun i (x : PyData) y Z => x = f i ∧ Dt Z y x) (fun i x y Z1 Z2 e r => ⟨r.1, Dt.ex e r.2⟩) (fun _ _ _ _ _ _ _ _ => trivial) (by omega) zh (fun _ h => absurd h List.not_mem_nil) trivial
    (fun i Z1 H1 hi t => hi) (fun Z1 H1 t => Nat.le_refl _) (fun i hi D Z1 H1 t nD mu _ v H2 hy A B hA hB => ?_) (fun D ys L Z' H' nD t mu f1 _ hL pr => ?_)⟩
  · obtain ⟨rfl, rfl⟩ := hy
    rw [Int.zero_add, lc_yes]
    exact turn i (by omega) Z1 H2 t A fun y Z3 H3 t3 iy => hA rfl (f i) y Z3 H3 t3 trivial ⟨rfl, iy⟩
  · rw [filter_yes] at hL
    have e2 : L.map Prod.snd = (List.range n.toNat).map f := by
      rw [← hL, List.map_map]
      exact List.map_congr_left fun q hq => by
        obtain ⟨y, hy⟩ := paired_r pr q hq
        exact hy.1
    have g2 : Paired (fun y x => Dt Z' y x) ys ((List.range n.toNat).map f) := by rw [← e2]; exact paired_mapR (Paired.mapP pr fun y q h => h.2)
    exact t_fzV mu t.zh f1 fun Z2 H2 t2 z2 => fin D ys Z2 H2 nD (t.step t2 (mm_cons (.inr nD) mm_nil)) z2 (Paired.mapP g2 fun y x h => Dt.ex t2.z h)
theorem ok_law {f : Addr} {fd : FuncData} (z : Z K mg) (F : Fun K "law" "law" s_law f fd) (h_law_draw : Has P w K mg base "_law_draw" 1 (sp_law_draw K)) (h_law_spoil : Has P w K mg base "_law_spoil" 4 (sp_law_spoil K)) (h_law_asked : Has P w K mg base "_law_asked" 5 (sp_law_asked K)) (h_law_open : Has P w K mg base "_law_open" 1 (sp_law_open K)) (h_law_copy : Has P w K mg base "_law_copy" 4 (sp_law_copy K)) (h_law_keys : Has P w K mg base "_law_keys" 4 (sp_law_keys K)) : FnOk P w K mg base CX0 6 f fd ["_law_script"] (sp_law K) := by
  refine fnok_of F sc_law (fun vs H Q E h => ?_) (fun cdv A outer s H vs Q E hr h => ?_)
  · obtain ⟨a, ns, rfl, _⟩ := h
    rfl
  · obtain ⟨a, ns, rfl, hS, hl, q⟩ := h
    refine ⟨_, (pss_cons (ps_set (i := 1) sc_law.nd rfl (by first | exact Or.inl rfl | exact Or.inr rfl) (pe_lst pa_nil))
        (pss_cons (ps_for PassesOwn.never rfl (pi_range1 (by rfl) z.b_range (pa_cons pe_int pa_nil)) (pg_name (i := 2) sc_law.nd rfl (by first | exact Or.inl rfl | exact Or.inr rfl)) (pss_cons (ps_set (i := 3) sc_law.nd rfl (by first | exact Or.inl rfl | exact Or.inr rfl) (pe_callH h_law_open (by decide) hr rfl (pa_cons (pv 0) (pa_cons (pv 2) pa_nil))))
        (pss_cons (ps_set (i := 4) sc_law.nd rfl (by first | exact Or.inl rfl | exact Or.inr rfl) (pe_lst (pa_cons (pe_op op_plusA pe_int (pe_callH h_law_draw (by decide) hr rfl (pa_cons (pv 3) (pa_cons pe_int pa_nil)))) (pa_cons (pe_op op_plusA pe_int (pe_callH h_law_draw (by decide) hr rfl (pa_cons (pv 3) (pa_cons pe_int pa_nil)))) pa_nil))))
        (pss_one (ps_expr (pe_bm PySem.F.plainAttrs_list PySem.F.slot_list_append PySem.F.type_list_append mt_append (pv 1) (pa_cons (pe_tup (pa_cons (pe_callH h_law_keys (by decide) hr rfl (pa_cons (pv 3) (pa_cons (pe_callH h_law_draw (by decide) hr rfl (pa_cons (pv 3) (pa_cons pe_int pa_nil))) pa_nil))) (pa_cons (pe_ix (ixA (K := K) rfl) (pv 4) pe_int (fun _ _ => rfl)) (pa_cons (pe_ix (ixA (K := K) rfl) (pv 4) pe_int (fun _ _ => rfl)) pa_nil)))) pa_nil)))))))
        (pss_cons (ps_set (i := 5) sc_law.nd rfl (by first | exact Or.inl rfl | exact Or.inr rfl) (pe_lst pa_nil))
        (pss_cons (ps_for PassesOwn.never rfl (piL (K := K) rfl (pv 1)) (pg_tup rfl (pgs_cons (pg_name (i := 6) sc_law.nd rfl (by first | exact Or.inl rfl | exact Or.inr rfl)) (pgs_cons (pg_name (i := 7) sc_law.nd rfl (by first | exact Or.inl rfl | exact Or.inr rfl)) (pgs_cons (pg_name (i := 8) sc_law.nd rfl (by first | exact Or.inl rfl | exact Or.inr rfl)) pgs_nil)))) (pss_one (ps_expr (pe_bm PySem.F.plainAttrs_list PySem.F.slot_list_append PySem.F.type_list_append mt_append (pv 5) (pa_cons (pe_lc (own := [("_law_way", 11)]) (g := gName 11) (tt := tYes) rfl sc_law.nd (pi_range1 (by rfl) z.b_range (pa_cons pe_int pa_nil)) (blkOk_by (own := [("_law_way", 11)]) (N := ["_law_script", "_law_worlds", "_law_place", "_law_hand", "_law_sizes", "_law_first", "_law_keys_here", "_law_rooms", "_law_wide", "_law_kept", "_law_at", "_law_way", "_law_handed", "_law_told", "_law_due"]) (sc := defScope s_law) (by decide +kernel)) (fun _ _ _ _ _ => (pg_name (i := 11) sc_law.nd rfl (by first | exact Or.inl rfl | exact Or.inr rfl))) (fun _ _ _ _ _ => pts_nil) (fun _ _ _ _ _ => (pe_callH h_law_copy (by decide) hr rfl (pa_cons (pe_callH h_law_asked (by decide) hr rfl (pa_cons (pv 11) (pa_cons (pe_callTy (T := "list") (listA (K := K) rfl) (by rfl) z.b_list (by decide +kernel) (pa_cons (pv 6) pa_nil)) (pa_cons (pv 7) (pa_cons (pv 8) pa_nil))))) pa_nil)))) pa_nil)))))
        (pss_cons (ps_set (i := 9) sc_law.nd rfl (by first | exact Or.inl rfl | exact Or.inr rfl) (pe_lst pa_nil))
        (pss_cons (ps_for PassesOwn.never rfl (pi_range2 (by rfl) z.b_range (pa_cons pe_int (pa_cons pe_int pa_nil))) (pg_name (i := 2) sc_law.nd rfl (by first | exact Or.inl rfl | exact Or.inr rfl)) (pss_cons (ps_set (i := 3) sc_law.nd rfl (by first | exact Or.inl rfl | exact Or.inr rfl) (pe_callH h_law_open (by decide) hr rfl (pa_cons (pv 0) (pa_cons (pv 2) pa_nil))))
        (pss_cons (ps_set (i := 10) sc_law.nd rfl (by first | exact Or.inl rfl | exact Or.inr rfl) (pe_callH h_law_draw (by decide) hr rfl (pa_cons (pv 3) (pa_cons pe_int pa_nil))))
        (pss_cons (ps_set (i := 11) sc_law.nd rfl (by first | exact Or.inl rfl | exact Or.inr rfl) (pe_callH h_law_draw (by decide) hr rfl (pa_cons (pv 3) (pa_cons pe_int pa_nil))))
        (pss_cons (ps_asg (pe_ix (ixA (K := K) rfl) (pv 1) (pv 10) (fun _ _ => rfl)) (pg_tup rfl (pgs_cons (pg_name (i := 6) sc_law.nd rfl (by first | exact Or.inl rfl | exact Or.inr rfl)) (pgs_cons (pg_name (i := 7) sc_law.nd rfl (by first | exact Or.inl rfl | exact Or.inr rfl)) (pgs_cons (pg_name (i := 8) sc_law.nd rfl (by first | exact Or.inl rfl | exact Or.inr rfl)) pgs_nil)))))
        (pss_cons (ps_set (i := 12) sc_law.nd rfl (by first | exact Or.inl rfl | exact Or.inr rfl) (pe_callTy (T := "list") (listA (K := K) rfl) (by rfl) z.b_list (by decide +kernel) (pa_cons (pv 6) pa_nil)))
        (pss_cons (ps_set (i := 13) sc_law.nd rfl (by first | exact Or.inl rfl | exact Or.inr rfl) (pe_callH h_law_asked (by decide) hr rfl (pa_cons (pv 11) (pa_cons (pv 12) (pa_cons (pv 7) (pa_cons (pv 8) pa_nil))))))
        (pss_cons (ps_if (PW.pt (pw_or (pt_cmpR (neA (K := K) rfl hr.units) (pv 13) (pe_ix (ixA (K := K) rfl) (pe_ix (ixA (K := K) rfl) (pv 5) (pv 10) (fun _ _ => rfl)) (pv 11) (fun _ _ => rfl)) (nomark _)) (pw_or1 (pt_cmpR (neA (K := K) rfl hr.units) (pv 12) (pv 6) (nomark _))))) (pss_one (ps_ret pe_bl)) pss_nil)
        (pss_cons (ps_expr (pe_bm PySem.F.plainAttrs_list PySem.F.slot_list_append PySem.F.type_list_append mt_append (pv 12) (pa_cons pe_int pa_nil)))
        (pss_cons (ps_expr (pe_bm PySem.F.plainAttrs_list PySem.F.slot_list_pop PySem.F.type_list_pop mt_popAt (pv 12) (pa_cons pe_int pa_nil)))
        (pss_one (ps_if (pt_cmpR (eqA (K := K) rfl hr.units) (pe_callH h_law_draw (by decide) hr rfl (pa_cons (pv 3) (pa_cons pe_int pa_nil))) pe_int (nomark _)) (pss_one (ps_expr (pe_bm PySem.F.plainAttrs_list PySem.F.slot_list_append PySem.F.type_list_append mt_append (pv 9) (pa_cons (pe_tup (pa_cons (pv 13) (pa_cons (pe_ix (ixA (K := K) rfl) (pe_ix (ixA (K := K) rfl) (pv 5) (pv 10) (fun _ _ => rfl)) (pv 11) (fun _ _ => rfl)) pa_nil))) pa_nil)))) (pss_one (ps_expr (pe_callH h_law_spoil (by decide) hr rfl (pa_cons (pv 13) pa_nil))))))))))))))))
        (pss_cons (ps_for PassesOwn.never rfl (piL (K := K) rfl (pv 9)) (pg_tup rfl (pgs_cons (pg_name (i := 13) sc_law.nd rfl (by first | exact Or.inl rfl | exact Or.inr rfl)) (pgs_cons (pg_name (i := 14) sc_law.nd rfl (by first | exact Or.inl rfl | exact Or.inr rfl)) pgs_nil))) (pss_one (ps_if (pt_cmpR (neA (K := K) rfl hr.units) (pv 13) (pv 14) (nomark _)) (pss_one (ps_ret pe_bl)) pss_nil)))
        (pss_one (ps_ret pe_bl))))))))), ?_⟩
    walk_at "cx"
    walk_at "tys"
    rename_i W Z0 H0 nW t0 mW fW
    refine u_forR1 (fun i σ H' => ∃ x1 x2 x3 x4 x5 x6 x7 x8 x9 x10 x11 x12 x13 Z', ∃ l : List WdT, σ = [some (.ref a), some (.ref W), x1, x2, x3, x4, x5, x6, x7, x8, x9, x10, x11, x12, x13] ∧ T [] H H Z' H' ∧ Lm Z' H' W l ∧ l.length = i ∧ ∀ x ∈ l, WdOk x) (by omega) ⟨_, _, _, _, _, _, _, _, _, _, _, _, _, Z0, [], rfl, t0, Lm.of0 mW t0.zh fW, rfl, fun _ h => absurd h List.not_mem_nil⟩ (fun i σ H1 hi hh => ?_) (fun σ H1 hh => ?_)
    · obtain ⟨x1, x2, x3, x4, x5, x6, x7, x8, x9, x10, x11, x12, x13, Z1, l, rfl, t1, la1, ll, ok⟩ := hh
      walk_at "tys"
      rename_i h Z2 H2 nh t2 hd2 r1 Z3 H3 r10 r11 t3 hd3 r2 Z4 H4 r20 r21 t4 hd4 p4 Z5 H5 n5 t5 f5 r3 Z6 H6 r30 r31 t6 hd6 p7 ks Z7 H7 n7 t7 hd7 ls7 kl knd kb p8 Z8 H8 n8 t8 f8 Z9 H9 t9 la9
      refine ⟨_, _, _, _, _, _, _, _, _, _, _, _, _, Z9, _, rfl, by walk_at "tt", la9, by rw [List.length_append, ll]; rfl, fun x hx => ?_⟩
      rcases List.mem_append.mp hx with hx | hx
      · exact ok x hx
      · rw [List.mem_singleton.mp hx]
        exact ⟨show ks.length ≤ 60 by omega, knd, show 1 ≤ 1 + r1 by omega, show 1 + r1 ≤ 130 by omega, show 1 ≤ 1 + r2 by omega, show 1 + r2 ≤ 8 by omega⟩
    obtain ⟨x1, x2, x3, x4, x5, x6, x7, x8, x9, x10, x11, x12, x13, Z1, l, rfl, t1, la1, ll, ok⟩ := hh
    have ll2 : l.length = 2 := ll
    refine t_fz la1 fun Z2 H2 t2 lsW => ?_
    have t02 : T [] H H Z2 H2 := t1.step t2 (mm_cons (.inr nW) mm_nil)
    clear t1 t2 la1 mW fW t0
    walk_at "tys"
    rename_i Fa Z3 H3 nF t3 mF fF
    refine t_forL (xs := l) (Z0 := Z2) lsW.is (fun i σ H' => ∃ x1 x2 x3 x4 x5 x6 x7 x8 x9 x10 x11 x12 Z', ∃ vs : List V, σ = [some (.ref a), some (.ref W), x1, x2, x3, some (.ref Fa), x4, x5, x6, x7, x8, x9, x10, x11, x12] ∧ T [Fa] Z3 H3 Z' H' ∧ Mu Z' H' Fa ∧ H' Fa = some (.lst vs) ∧ Paired (FstD Z') vs (l.take i)) (fun i σ H' hh => ?_) ⟨_, _, _, _, _, _, _, _, _, _, _, _, Z3, [], rfl, T.refl t3.zh, mF, fF, .nil⟩ (fun i v x σ H4 hx ix hh => ?_) (fun σ H4 hh => ?_)
    · obtain ⟨x1, x2, x3, x4, x5, x6, x7, x8, x9, x10, x11, x12, Z', vs, _, t, _⟩ := hh
      exact (t3.z.trans t.z).trans t.zh
    · obtain ⟨x1, x2, x3, x4, x5, x6, x7, x8, x9, x10, x11, x12, Z4, vs, rfl, t4, mu4, f4, pr4⟩ := hh
      obtain ⟨b, y1, y2, y3, rfl, hb, i1, i2, i3⟩ := ix.three_of
      obtain rfl := i2.int_of
      obtain rfl := i3.int_of
      obtain ⟨pk, rfl, lk⟩ := i1.ref_of
      have hx' := ok x (List.mem_of_getElem? hx)
      have e24 : Ex Z2 H4 := (t3.z.trans t4.z).trans t4.zh
      walk_at "tys"
      refine s_gt3 (st_of (K := K) (e24 _ _ hb)) ?_
      walk_at "tys"
      refine c_mapRD (K := K) (n := 6) (Z := Z4) (fun i => ansI (i : Int) x.a x.b x.c) t4.zh (by omega) (fun j hj Z5 H5 t5 A hA => ?_) (fun D ys Z5 H5 nD t5 fD pD => ?_)
      · walk_at "tys"
        rename_i p6 Z6 H6 n6 t6 ls6
        refine ⟨_, _, x.a, x.b, x.c, Z6, rfl, t6.zh, t6.zh _ _ ls6.ints, hx'.1, hx'.2.1, hx'.2.2.1, hx'.2.2.2.1, hx'.2.2.2.2.1, hx'.2.2.2.2.2, fun v M Z7 H7 t7 ow nd fr => ?_⟩
        walk_at "tys"
        refine ⟨v, _, M, Z7, rfl, t7.zh, ow, fun v' Z8 H8 t8 d8 => ?_⟩
        walk_at "tys"
        exact hA _ Z8 H8 ((t6.step t7 mm_nil).step t8 mm_nil) d8
      · walk_at "tys"
        have f5 := t5.hp nm_nil f4
        have mu5 := t5.mu nm_nil mu4
        have vl := Paired.length pr4
        have tl : (l.take i).length ≤ 2 := by rw [List.length_take]; omega
        refine ⟨Fa, vs, _, rfl, rfl, f5, sz_lt (by omega), ?_⟩
        walk_at "tys"
        refine ⟨_, _, _, _, _, _, _, _, _, _, _, _, Z5, _, rfl, (t4.step t5 mm_nil).step (T.set mu5 t5.zh) (mm_cons (.inl List.mem_cons_self) mm_nil), ⟨mu5.z, _, upd_same⟩, upd_same, ?_⟩
        rw [List.take_add_one, hx]
        exact Paired.snoc (Paired.mapP pr4 fun v x g => FstD.ex t5.z g) ⟨D, ys, rfl, fD, pD⟩
    obtain ⟨x1, x2, x3, x4, x5, x6, x7, x8, x9, x10, x11, x12, Z4, vs0, rfl, t4, mu4, f4, pr4⟩ := hh
    rw [List.take_length] at pr4
    refine t_fzV mu4 t4.zh f4 fun Z5 H5 t5 fF5 => ?_
    have pr5 := Paired.mapP pr4 fun v x g => FstD.ex t5.z g
    have t35 : T [] Z2 H2 Z5 H5 := (t3.step t4 (mm_cons (.inr nF) mm_nil)).step t5 (mm_cons (.inr nF) mm_nil)
    have t05 : T [] H H Z5 H5 := t02.step t35 mm_nil
    have lsW5 := lsW.tt t35
    clear t4 mu4 f4 pr4 t5 t3 mF fF t35 lsW
    walk_at "tys"
    rename_i Kp Z6 H6 nK t6 mK fK
    refine u_forR2 (fun i σ H' => ∃ x1 x2 x3 x4 x5 x6 x7 x8 x9 x10 x11 Z', ∃ vs : List V, σ = [some (.ref a), some (.ref W), x1, x2, x3, some (.ref Fa), x4, x5, x6, some (.ref Kp), x7, x8, x9, x10, x11] ∧ T [Kp] Z6 H6 Z' H' ∧ Mu Z' H' Kp ∧ H' Kp = some (.lst vs) ∧ vs.length ≤ i ∧ ∀ v ∈ vs, KpD Z' v) (by omega) ⟨_, _, _, _, _, _, _, _, _, _, _, Z6, [], rfl, T.refl t6.zh, mK, fK, Nat.le_refl _, fun _ h => absurd h List.not_mem_nil⟩ (fun i σ H7 hi hh => ?_) (fun σ H7 hh => ?_)
    · obtain ⟨x1, x2, x3, x4, x5, x6, x7, x8, x9, x10, x11, Z7, vs, rfl, t7, mK7, fK7, vl, kd⟩ := hh
      walk_at "tyL"
      rename_i h Z8 H8 nh t8 hd8 at_ Z9 H9 a0 a1 t9 hd9 wy Z10 H10 w0 w1 t10 hd10
      have e5 : Ex Z5 Z10 := (((t6.z.trans t7.z).trans t8.z).trans t9.z).trans t10.z
      obtain ⟨x, hx⟩ : ∃ x, l[at_.toNat]? = some x := ⟨_, List.getElem?_eq_getElem (by omega)⟩
      have hx' := ok x (List.mem_of_getElem? hx)
      have l0 := Paired.length pr5
      obtain ⟨u, hu⟩ : ∃ u, vs0[at_.toNat]? = some u := ⟨_, List.getElem?_eq_getElem (by omega)⟩
      obtain ⟨x2', hx2, af, ys, rfl, haf, pys⟩ := pair_at pr5 hu
      rw [hx] at hx2
      cases hx2
      have ly := Paired.length pys
      rw [List.length_map, List.length_range] at ly
      obtain ⟨y, hy⟩ : ∃ y, ys[wy.toNat]? = some y := ⟨_, List.getElem?_eq_getElem (by omega)⟩
      obtain ⟨dy, hdy, dty⟩ := pair_at pys hy
      have edy : dy = ansI wy x.a x.b x.c := by
        rw [List.getElem?_map, List.getElem?_range (by omega)] at hdy
        cases hdy
        show ansI ((wy.toNat : Nat) : Int) x.a x.b x.c = _
        rw [show ((wy.toNat : Nat) : Int) = wy by omega]
      rw [edy] at dty
      refine t_ix (Z := Z10) t10.zh (Ik.ex e5 lsW5.is) (atI_lt a0 hx) fun v ix => ?_
      obtain ⟨b, y1, y2, y3, rfl, hb, i1, i2, i3⟩ := ix.three_of
      obtain rfl := i2.int_of
      obtain rfl := i3.int_of
      obtain ⟨pk, rfl, lk⟩ := i1.ref_of
      walk_at "tyL"
      refine s_gt3 (st_of (K := K) (t10.zh _ _ hb)) ?_
      walk_at "tyL"
      refine t_listM t10.zh lk fun ph Z11 H11 nph t11 la11 => ?_
      walk_at "tys"
      refine ⟨wy, ph, x.a, x.b, x.c, Z11, rfl, t11.zh, la11.ints, hx'.1, hx'.2.1, hx'.2.2.1, hx'.2.2.2.1, hx'.2.2.2.2.1, hx'.2.2.2.2.2, fun v M Z12 H12 t12 ow nd fr => ?_⟩
      have e12 : Ex Z5 H12 := ((e5.trans t11.z).trans t12.z).trans t12.zh
      have aok := ansI_ok wy x.a x.b x.c
      walk_at "tys"
      refine s_ixL (sq_of (K := K) (e12 _ _ fF5)) (atI_lt a0 hu) ?_
      walk_at "tys"
      refine s_ixL (sq_of (K := K) (e12 _ _ haf)) (atI_lt w0 hy) ?_
      walk_at "tys"
      refine s_neD (ow.dp t12.zh) (Dt.dp (Dt.ex e12 dty)) aok.1 aok.1 ?_
      rw [aok.2]
      walk_at "tys"
      have la12 : Lm Z12 H12 ph x.a := la11.tt t12 nm_nil
      refine s_neP (x := x.a) (y := x.a) la12.isH.is (Ik.ex ((t11.z.trans t12.z).trans t12.zh) lk).is (by decide) ?_
      walk_at "tys"
      refine t_app la12 (Ik.int 3) (by have := hx'.1; omega) fun Z13 H13 t13 la13 => ?_
      walk_at "tys"
      refine t_popAt la13 ⟨by decide, by rw [List.length_append]; show (0 : Int) < ((x.a.length + 1 : Nat) : Int); omega⟩ (by have := hx'.1; rw [List.length_append]; show x.a.length + 1 ≤ 100000; omega) fun v2 x2 Z14 H14 hx2 t14 la14 iv2 => ?_
      have t711 : T [] Z7 H7 Z11 H11 := by walk_at "tt"
      have fM : ∀ b ∈ M, ∀ c, (∃ o, H11 c = some o) → b ≠ c := fun b hb c ⟨o, ho⟩ e => by
        rw [← e, fr b hb] at ho
        cases ho
      have oh : ∃ o, H11 h = some o := t11.all (t10.all (t9.all hd8.at))
      have oK : ∃ o, H11 Kp = some o := t711.all mK7.a
      have op : ∃ o, H11 ph = some o := la11.at_
      have ow14 : Ow 3 Z14 H14 v (ansI wy x.a x.b x.c) M := (ow.tt t13 fun b hb => nm_cons (fM b hb ph op) nm_nil).tt t14 fun b hb => nm_cons (fM b hb ph op) nm_nil
      have nmh : h ∉ [ph] := nm_cons (fun e => by
        obtain ⟨o, ho⟩ := hd10.at
        rw [e, nph] at ho
        cases ho) nm_nil
      walk_at "tys"
      refine drawT (Hand.tt t14 nmh (Hand.tt t13 nmh (Hand.tt t12 nm_nil (Hand.tt t11 nm_nil hd10)))) (by omega) (by decide) (by decide) fun c1 Z15 H15 c10 c11 t15 hd15 => ?_
      walk_at "tys"
      have t715 : T [] Z7 H7 Z15 H15 := by walk_at "tt"
      have ow15 : Ow 3 Z15 H15 v (ansI wy x.a x.b x.c) M := ow14.tt t15 fun b hb => nm_cons (fM b hb h oh) nm_nil
      have m7 : ∀ b ∈ M, H7 b = none := fun b hb => t711.nn (fr b hb)
      have e515 : Ex Z5 Z15 := (t6.z.trans t7.z).trans t715.z
      have mK15 : Mu Z15 H15 Kp := t715.mu nm_nil mK7
      have fK15 : H15 Kp = some (.lst vs) := t715.hp nm_nil fK7
      have nKM : Kp ∉ M := fun hb => fM Kp hb Kp oK rfl
      clear t8 t9 t10 t11 t12 t13 t14 t15 ow ow14 la11 la12 la13 la14 hd8 hd9 hd10
      refine i_d (fun c0 => ?_) (fun c0 => ?_)
      · refine Ow.fz t715.zh ow15 fun Z16 H16 t16 d16 => ?_
        have mK16 := t16.mu nKM mK15
        have fK16 := t16.hp nKM fK15
        have t716 : T [] Z7 H7 Z16 H16 := t715.step t16 fun b hb => .inr (m7 b hb)
        walk_at "tys"
        refine s_ixL (sq_of (K := K) (((e515.trans t16.z).trans t16.zh) _ _ fF5)) (atI_lt a0 hu) ?_
        walk_at "tys"
        refine s_ixL (sq_of (K := K) (((e515.trans t16.z).trans t16.zh) _ _ haf)) (atI_lt w0 hy) ?_
        walk_at "tys"
        rename_i p17 Z17 H17 n17 t17 f17
        have mK17 := t17.mu nm_nil mK16
        have fK17 := t17.hp nm_nil fK16
        refine ⟨Kp, vs, _, rfl, rfl, fK17, sz_lt (by omega), ?_⟩
        walk_at "tys"
        refine ⟨_, _, _, _, _, _, _, _, _, _, _, Z17, _, rfl, ((t7.step t716 mm_nil).step t17 mm_nil).step (T.set mK17 t17.zh) (mm_cons (.inl List.mem_cons_self) mm_nil), ⟨mK17.z, _, upd_same⟩, upd_same, by rw [List.length_append]; show vs.length + 1 ≤ i + 1; omega, fun u hu' => ?_⟩
        rcases List.mem_append.mp hu' with hu' | hu'
        · exact KpD.ex (t716.z.trans t17.z) (kd u hu')
        · rw [List.mem_singleton.mp hu']
          exact ⟨p17, _, _, _, rfl, f17, Dt.ex t17.z d16, Dt.ex ((e515.trans t16.z).trans t17.z) dty, aok⟩
      · walk_at "tys"
        refine ⟨v, _, M, Z15, rfl, t715.zh, ow15, nd, fun Z16 H16 t16 => ?_⟩
        walk_at "tys"
        refine ⟨_, _, _, _, _, _, _, _, _, _, _, Z16, vs, rfl, (t7.step t715 mm_nil).step t16 (fun b hb => .inr (t7.nn (m7 b hb))), t16.mu nKM mK15, t16.hp nKM fK15, by omega, fun u hu' => KpD.ex (t715.z.trans t16.z) (kd u hu')⟩
    obtain ⟨x1, x2, x3, x4, x5, x6, x7, x8, x9, x10, x11, Z7, vs, rfl, t7, mK7, fK7, vl, kd⟩ := hh
    walk_at "tys"
    refine u_forL (fun j σ H' => ∃ x1 x2 x3 x4 x5 x6 x7 x8 x9 x10 x11, σ = [some (.ref a), some (.ref W), x1, x2, x3, some (.ref Fa), x4, x5, x6, some (.ref Kp), x7, x8, x9, x10, x11] ∧ H' = H7) (sq_of fK7) ⟨_, _, _, _, _, _, _, _, _, _, _, rfl, rfl⟩ (fun j σ H' _ hh => ?_) (fun j v σ H' hv hh => ?_) (fun σ H' hh => ?_)
    · obtain ⟨x1, x2, x3, x4, x5, x6, x7, x8, x9, x10, x11, _, rfl⟩ := hh
      exact sq_of fK7
    · obtain ⟨x1, x2, x3, x4, x5, x6, x7, x8, x9, x10, x11, rfl, rfl⟩ := hh
      obtain ⟨p, u1, u2, x, rfl, fp, d1, d2, ok1⟩ := kd v (List.mem_of_getElem? hv)
      walk_at "tys"
      refine s_gt2 (st_of (K := K) (t7.zh _ _ fp)) ?_
      walk_at "tys"
      refine s_neD (Dt.dp (Dt.ex t7.zh d1)) (Dt.dp (Dt.ex t7.zh d2)) ok1.1 ok1.1 ?_
      rw [ok1.2]
      walk_at "tys"
      exact ⟨_, _, _, _, _, _, _, _, _, _, _, rfl, rfl⟩
    · obtain ⟨x1, x2, x3, x4, x5, x6, x7, x8, x9, x10, x11, rfl, rfl⟩ := hh
      walk_at "tys"
      exact q _

end

end Lw
open PySem PySem.W PyProof.Rows
set_option maxHeartbeats 0 in

theorem PySem.Challenge.cw_tailrooms_k27_lists_changed_and_again_holds : PySem.Challenge.rw_tailrooms_k27_lists_changed_and_again.Holds := by

  w_on; o_law; k_head; (case hw => w_witness2)
  k_fill

  refine L2.walk_of (l := PySem.Challenge.rw_tailrooms_k27_lists_changed_and_again) (n := 63) (k := 6) (x := "_law_script") (CX := fun _ => L2.CX0) (sp := fun w => Lw.sp_law _) rfl (by decide) rfl ⟨rfl, by decide, by decide⟩ (fun w h Y => PySem.W.kIn_of Y) ?F (fun _ _ a ns hl _ hS => ⟨a, ns, rfl, hS, hl, fun _ => rfl⟩) (fun _ _ _ _ _ h => h)

  case F =>
    intro w mg fa h KX G hmg

    have zz : Lw.Z (L2.KOf KX) mg := by
      refine' ⟨PySem.W.mg_none_of KX G ?z0, PySem.W.mg_none_of KX G ?z1, PySem.W.mg_none_of KX G ?z2, PySem.W.mg_none_of KX G ?z3, PySem.W.mg_none_of KX G ?z4, PySem.W.mg_none_of KX G ?z5, PySem.W.mg_none_of KX G ?z6⟩
      (case z0 => k_is)
      (case z1 => k_is)
      (case z2 => k_is)
      (case z3 => k_is)
      (case z4 => k_is)
      (case z5 => k_is)
      (case z6 => k_is)

    have F0 : TR.FunAt (L2.KOf KX) mg "_law_draw" Lw.s_law_draw ["_law_hand", "_law_many"] := by
      refine' TR.funAt_mk KX G (x := "_law_draw") (st := Lw.s_law_draw) (ps := ["_law_hand", "_law_many"]) ?a ?l ?c ?k (fun _ _ _ _ _ _ us hl => match us, hl with | [_, _], _ => rfl)
      (case a => k_is); (case l => k_is); (case c => k_is); (case k => k_is)

    have F1 : TR.FunAt (L2.KOf KX) mg "_law_spoil" Lw.s_law_spoil ["_law_told"] := by
      refine' TR.funAt_mk KX G (x := "_law_spoil") (st := Lw.s_law_spoil) (ps := ["_law_told"]) ?a ?l ?c ?k (fun _ _ _ _ _ _ us hl => match us, hl with | [_], _ => rfl)
      (case a => k_is); (case l => k_is); (case c => k_is); (case k => k_is)

    have F2 : TR.FunAt (L2.KOf KX) mg "looked" Lw.s_looked ["rows", "key"] := by
      refine' TR.funAt_mk KX G (x := "looked") (st := Lw.s_looked) (ps := ["rows", "key"]) ?a ?l ?c ?k (fun _ _ _ _ _ _ us hl => match us, hl with | [_, _], _ => rfl)
      (case a => k_is); (case l => k_is); (case c => k_is); (case k => k_is)

    have F3 : TR.FunAt (L2.KOf KX) mg "rows_for" Lw.s_rows_for ["many", "wide"] := by
      refine' TR.funAt_mk KX G (x := "rows_for") (st := Lw.s_rows_for) (ps := ["many", "wide"]) ?a ?l ?c ?k (fun _ _ _ _ _ _ us hl => match us, hl with | [_, _], _ => rfl)
      (case a => k_is); (case l => k_is); (case c => k_is); (case k => k_is)

    have F4 : TR.FunAt (L2.KOf KX) mg "rows_of" Lw.s_rows_of ["keys", "wide"] := by
      refine' TR.funAt_mk KX G (x := "rows_of") (st := Lw.s_rows_of) (ps := ["keys", "wide"]) ?a ?l ?c ?k (fun _ _ _ _ _ _ us hl => match us, hl with | [_, _], _ => rfl)
      (case a => k_is); (case l => k_is); (case c => k_is); (case k => k_is)

    have F5 : TR.FunAt (L2.KOf KX) mg "longest" Lw.s_longest ["sizes", "wide"] := by
      refine' TR.funAt_mk KX G (x := "longest") (st := Lw.s_longest) (ps := ["sizes", "wide"]) ?a ?l ?c ?k (fun _ _ _ _ _ _ us hl => match us, hl with | [_, _], _ => rfl)
      (case a => k_is); (case l => k_is); (case c => k_is); (case k => k_is)

    have F6 : TR.FunAt (L2.KOf KX) mg "whole_rooms" Lw.s_whole_rooms ["rooms"] := by
      refine' TR.funAt_mk KX G (x := "whole_rooms") (st := Lw.s_whole_rooms) (ps := ["rooms"]) ?a ?l ?c ?k (fun _ _ _ _ _ _ us hl => match us, hl with | [_], _ => rfl)
      (case a => k_is); (case l => k_is); (case c => k_is); (case k => k_is)

    have F7 : TR.FunAt (L2.KOf KX) mg "room_of" Lw.s_room_of ["key", "rooms"] := by
      refine' TR.funAt_mk KX G (x := "room_of") (st := Lw.s_room_of) (ps := ["key", "rooms"]) ?a ?l ?c ?k (fun _ _ _ _ _ _ us hl => match us, hl with | [_, _], _ => rfl)
      (case a => k_is); (case l => k_is); (case c => k_is); (case k => k_is)

    have F8 : TR.FunAt (L2.KOf KX) mg "spread" Lw.s_spread ["keys", "rooms"] := by
      refine' TR.funAt_mk KX G (x := "spread") (st := Lw.s_spread) (ps := ["keys", "rooms"]) ?a ?l ?c ?k (fun _ _ _ _ _ _ us hl => match us, hl with | [_, _], _ => rfl)
      (case a => k_is); (case l => k_is); (case c => k_is); (case k => k_is)

    have F9 : TR.FunAt (L2.KOf KX) mg "counts" Lw.s_counts ["keys", "rooms"] := by
      refine' TR.funAt_mk KX G (x := "counts") (st := Lw.s_counts) (ps := ["keys", "rooms"]) ?a ?l ?c ?k (fun _ _ _ _ _ _ us hl => match us, hl with | [_, _], _ => rfl)
      (case a => k_is); (case l => k_is); (case c => k_is); (case k => k_is)

    have F10 : TR.FunAt (L2.KOf KX) mg "all_looks" Lw.s_all_looks ["keys", "rooms", "wide"] := by
      refine' TR.funAt_mk KX G (x := "all_looks") (st := Lw.s_all_looks) (ps := ["keys", "rooms", "wide"]) ?a ?l ?c ?k (fun _ _ _ _ _ _ us hl => match us, hl with | [_, _, _], _ => rfl)
      (case a => k_is); (case l => k_is); (case c => k_is); (case k => k_is)

    have F11 : TR.FunAt (L2.KOf KX) mg "_law_asked" Lw.s_law_asked ["_law_way", "_law_keys_here", "_law_rooms", "_law_wide"] := by
      refine' TR.funAt_mk KX G (x := "_law_asked") (st := Lw.s_law_asked) (ps := ["_law_way", "_law_keys_here", "_law_rooms", "_law_wide"]) ?a ?l ?c ?k (fun _ _ _ _ _ _ us hl => match us, hl with | [_, _, _, _], _ => rfl)
      (case a => k_is); (case l => k_is); (case c => k_is); (case k => k_is)

    have F12 : TR.FunAt (L2.KOf KX) mg "_law_open" Lw.s_law_open ["_law_script", "_law_place"] := by
      refine' TR.funAt_mk KX G (x := "_law_open") (st := Lw.s_law_open) (ps := ["_law_script", "_law_place"]) ?a ?l ?c ?k (fun _ _ _ _ _ _ us hl => match us, hl with | [_, _], _ => rfl)
      (case a => k_is); (case l => k_is); (case c => k_is); (case k => k_is)

    have F13 : TR.FunAt (L2.KOf KX) mg "_law_copy" Lw.s_law_copy ["_law_told"] := by
      refine' TR.funAt_mk KX G (x := "_law_copy") (st := Lw.s_law_copy) (ps := ["_law_told"]) ?a ?l ?c ?k (fun _ _ _ _ _ _ us hl => match us, hl with | [_], _ => rfl)
      (case a => k_is); (case l => k_is); (case c => k_is); (case k => k_is)

    have F14 : TR.FunAt (L2.KOf KX) mg "_law_far" Lw.s_law_far ["_law_hand", "_law_many"] := by
      refine' TR.funAt_mk KX G (x := "_law_far") (st := Lw.s_law_far) (ps := ["_law_hand", "_law_many"]) ?a ?l ?c ?k (fun _ _ _ _ _ _ us hl => match us, hl with | [_, _], _ => rfl)
      (case a => k_is); (case l => k_is); (case c => k_is); (case k => k_is)

    have F15 : TR.FunAt (L2.KOf KX) mg "_law_power" Lw.s_law_power ["_law_many"] := by
      refine' TR.funAt_mk KX G (x := "_law_power") (st := Lw.s_law_power) (ps := ["_law_many"]) ?a ?l ?c ?k (fun _ _ _ _ _ _ us hl => match us, hl with | [_], _ => rfl)
      (case a => k_is); (case l => k_is); (case c => k_is); (case k => k_is)

    have F16 : TR.FunAt (L2.KOf KX) mg "_law_key" Lw.s_law_key ["_law_hand"] := by
      refine' TR.funAt_mk KX G (x := "_law_key") (st := Lw.s_law_key) (ps := ["_law_hand"]) ?a ?l ?c ?k (fun _ _ _ _ _ _ us hl => match us, hl with | [_], _ => rfl)
      (case a => k_is); (case l => k_is); (case c => k_is); (case k => k_is)

    have F17 : TR.FunAt (L2.KOf KX) mg "_law_keys" Lw.s_law_keys ["_law_hand", "_law_many"] := by
      refine' TR.funAt_mk KX G (x := "_law_keys") (st := Lw.s_law_keys) (ps := ["_law_hand", "_law_many"]) ?a ?l ?c ?k (fun _ _ _ _ _ _ us hl => match us, hl with | [_, _], _ => rfl)
      (case a => k_is); (case l => k_is); (case c => k_is); (case k => k_is)

    refine' TR.law_end (st := Lw.s_law) (x := "_law_script") KX G hmg ?a ?l ?c ?k (fun s v => .of_eq rfl) (fun base FF => ?b)
    (case a => k_is); (case l => k_is); (case c => k_is); (case k => k_is)

    case b =>

      have h0 := Lw.has_law_draw (P := PySem.Challenge.rw_tailrooms_k27_lists_changed_and_again.prog) (w := w) (base := base) zz F0 

      have h1 := Lw.has_law_spoil (P := PySem.Challenge.rw_tailrooms_k27_lists_changed_and_again.prog) (w := w) (base := base) zz F1 

      have h2 := Lw.has_looked (P := PySem.Challenge.rw_tailrooms_k27_lists_changed_and_again.prog) (w := w) (base := base) zz F2 

      have h3 := Lw.has_rows_for (P := PySem.Challenge.rw_tailrooms_k27_lists_changed_and_again.prog) (w := w) (base := base) zz F3 

      have h4 := Lw.has_rows_of (P := PySem.Challenge.rw_tailrooms_k27_lists_changed_and_again.prog) (w := w) (base := base) zz F4 h3

      have h5 := Lw.has_longest (P := PySem.Challenge.rw_tailrooms_k27_lists_changed_and_again.prog) (w := w) (base := base) zz F5 h3

      have h6 := Lw.has_whole_rooms (P := PySem.Challenge.rw_tailrooms_k27_lists_changed_and_again.prog) (w := w) (base := base) zz F6 

      have h7 := Lw.has_room_of (P := PySem.Challenge.rw_tailrooms_k27_lists_changed_and_again.prog) (w := w) (base := base) zz F7 h6

      have h8 := Lw.has_spread (P := PySem.Challenge.rw_tailrooms_k27_lists_changed_and_again.prog) (w := w) (base := base) zz F8 h7

      have h9 := Lw.has_counts (P := PySem.Challenge.rw_tailrooms_k27_lists_changed_and_again.prog) (w := w) (base := base) zz F9 h8

      have h10 := Lw.has_all_looks (P := PySem.Challenge.rw_tailrooms_k27_lists_changed_and_again.prog) (w := w) (base := base) zz F10 h8 h2 h4

      have h11 := Lw.has_law_asked (P := PySem.Challenge.rw_tailrooms_k27_lists_changed_and_again.prog) (w := w) (base := base) zz F11 h2 h4 h5 h9 h10 h8

      have h12 := Lw.has_law_open (P := PySem.Challenge.rw_tailrooms_k27_lists_changed_and_again.prog) (w := w) (base := base) zz F12 

      have h13 := Lw.has_law_copy (P := PySem.Challenge.rw_tailrooms_k27_lists_changed_and_again.prog) (w := w) (base := base) zz F13 

      have h14 := Lw.has_law_far (P := PySem.Challenge.rw_tailrooms_k27_lists_changed_and_again.prog) (w := w) (base := base) zz F14 h0

      have h15 := Lw.has_law_power (P := PySem.Challenge.rw_tailrooms_k27_lists_changed_and_again.prog) (w := w) (base := base) zz F15 

      have h16 := Lw.has_law_key (P := PySem.Challenge.rw_tailrooms_k27_lists_changed_and_again.prog) (w := w) (base := base) zz F16 h14 h15 h0

      have h17 := Lw.has_law_keys (P := PySem.Challenge.rw_tailrooms_k27_lists_changed_and_again.prog) (w := w) (base := base) zz F17 h16

      exact Lw.ok_law zz FF h0 h1 h11 h12 h13 h17

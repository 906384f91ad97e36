import PyProof.Rows.All
import Wide.All
import OpenK.AllK
import Wide.FinOn
import KE.KStateDown
import HandS.ForMost
import HandS.Exc
import HandS.Wide
import HandS.Style
import HandS.SortInts
import HandS.DictComp
import HandS.Defaults
import HandS.EndBits
import HandS.Head0
import HandS.Head1
import HandS.Head2
import HandS.HeadEnd
import HandS.HeadHook1
import HandS.HeadHook2
import Lean
import HandS.ExcField
import HandS.ExcInit
import HandS.ForExc
import HandS.IsInst
import KE.GoesNew
import KE.GoesEnumKw
import HandS.Iter
import HandS.Call
import HandS.Star
import HandS.Comp
import KE.GoesRaise
import PyProof.Rows.StrSplitMax
import PyProof.StrLawsChain
import HandS.Text
import HandS.Codes
import KE.KExcIs
import HandS.MakeKw
import HandS.MakeKwOnly
import HandS.ExcIs
import HandS.ExcOwn
import HandS.WordsExc
import HandS.More
import HandS.RaiseMore
import HandS.StrSplit
import PyProof.DictUpdate
import HandS.HeadWalk
import HandS.HeadHook3
import PySem.Challenge.RW_livevolumes_k32_texts_of_operations
set_option Elab.async false
set_option linter.all false
set_option maxRecDepth 100000
set_option maxHeartbeats 4000000

section
section
namespace My
open PySem PySem.Spec PyProof.Rows L2
section
variable {σ : L2.St} {H : Hp} {Q : VK} {nx bk ct : L2.St → Hp → Prop} {rt : VK} {t t1 t2 u : TS} {te ta tb tc : TE} {c d : TT} {g : TG} {x y v w : V}
theorem x_seq (h : t1 ⟨t2 ⟨nx, rt, bk, ct⟩, rt, bk, ct⟩ σ H) : tSeq t1 t2 ⟨nx, rt, bk, ct⟩ σ H := h
theorem x_next (h : nx σ H) : tNext ⟨nx, rt, bk, ct⟩ σ H := h
theorem x_ret (h : te σ H rt) : tRet te ⟨nx, rt, bk, ct⟩ σ H := h
theorem x_drop (h : te σ H fun _ H1 => nx σ H1) : tDrop te ⟨nx, rt, bk, ct⟩ σ H := h
theorem x_asg (h : te σ H fun x H1 => g x σ H1 nx) : tAsg te g ⟨nx, rt, bk, ct⟩ σ H := h
theorem x_par {i j : Nat} {ta : TA} (h : ta σ H fun vs H1 => ∃ v w, vs = [v, w] ∧ gName i v σ H1 fun σ1 H2 => gName j w σ1 H2 nx) : tPar i j ta ⟨nx, rt, bk, ct⟩ σ H := h
theorem x_exp2 {R : V → V → Prop} (h : R v w) : ∃ a b, [v, w] = [a, b] ∧ R a b := ⟨v, w, rfl, h⟩
theorem x_ifs (h : c σ H fun b H1 => if b = true then t ⟨nx, rt, bk, ct⟩ σ H1 else u ⟨nx, rt, bk, ct⟩ σ H1) : tIfS c t u ⟨nx, rt, bk, ct⟩ σ H := h
theorem x_c (h : Q v H) : tC v σ H Q := h
theorem x_op {r : R2} (h : ta σ H fun x H1 => tb σ H1 fun y H2 => r x y H2 Q) : tOp r ta tb σ H Q := h
theorem x_un {r : V → Hp → VK → Prop} (h : ta σ H fun x H1 => r x H1 Q) : tUn r ta σ H Q := h
theorem x_nil {Q : List V → Hp → Prop} (h : Q [] H) : tNil σ H Q := h
theorem x_cons {tr : TA} {Q : List V → Hp → Prop} (h : ta σ H fun x H1 => tr σ H1 fun xs H2 => Q (x :: xs) H2) : tCons ta tr σ H Q := h
theorem x_cb {r : List V → Hp → VK → Prop} {ta : TA} (h : ta σ H fun vs H1 => r vs H1 Q) : tCB r ta σ H Q := h
theorem x_call {sp : Sp} {dvs : List V} {E : XK} {ta : TA} (h : ta σ H fun vs H1 => sp (vs ++ dvs) H1 Q E) : tCall sp dvs E ta σ H Q := h
theorem x_test {Q : Bool → Hp → Prop} (h : te σ H fun x H' => ∃ k, x = .bl k ∧ Q k H') : tTest te σ H Q := h
theorem x_tB {Q : Bool → Hp → Prop} (h : te σ H fun x H' => ∃ k, x = .bl k ∧ Q k H') : tB te σ H Q := h
theorem x_exbl {b : Bool} {R : Bool → Prop} (h : R b) : ∃ k, V.bl b = .bl k ∧ R k := ⟨b, rfl, h⟩
theorem x_exI {i : Int} {R : Int → Prop} (h : R i) : ∃ k, V.int i = .int k ∧ R k := ⟨i, rfl, h⟩
theorem x_and {Q : Bool → Hp → Prop} (h : c σ H fun b H1 => if b = true then d σ H1 Q else Q false H1) : tAnd c d σ H Q := h
theorem x_or {Q : Bool → Hp → Prop} (h : c σ H fun b H1 => if b = true then Q true H1 else d σ H1 Q) : tOr c d σ H Q := h
theorem x_not {Q : Bool → Hp → Prop} (h : c σ H fun b H1 => Q (!b) H1) : tNot c σ H Q := h
theorem x_yes {Q : Bool → Hp → Prop} (h : Q true H) : tYes σ H Q := h
theorem x_andv (h : ta σ H fun x H1 => ∃ c, x = .bl c ∧ if c = true then tb σ H1 Q else Q (.bl false) H1) : tAndV ta tb σ H Q := h
theorem x_orv (h : ta σ H fun x H1 => ∃ c, x = .bl c ∧ if c = true then Q (.bl true) H1 else tb σ H1 Q) : tOrV ta tb σ H Q := h
theorem x_if (h : c σ H fun b H1 => if b = true then ta σ H1 Q else tb σ H1 Q) : tIf c ta tb σ H Q := h
theorem x_chain {r r' : R2} (h : ta σ H fun x H1 => tb σ H1 fun y H2 => r x y H2 fun z H3 => ∃ k, z = .bl k ∧ (if k = true then tc σ H3 fun w' H4 => r' y w' H4 Q else Q (.bl false) H3)) : tChain r r' ta tb tc σ H Q := h
theorem x_tfor {wi : TI} {tb : TS} (h : wi σ H fun J H1 => ∃ W : Nat → Nat → L2.St → Hp → Prop, (∃ m, W 0 m σ H1) ∧ ∀ i m σ H, W i m σ H →
  (J.stop i H ∧ nx σ H) ∨ (J.go i H ∧ ∃ N : L2.St → Hp → Prop, (∀ σ' H', N σ' H' → ∃ m', m' < m ∧ W (i + 1) m' σ' H') ∧ ∀ x H', J.yld i H x H' → g x σ H' fun σ2 H2 => tb ⟨N, rt, nx, N⟩ σ2 H2)) : tFor wi g tb ⟨nx, rt, bk, ct⟩ σ H := h
theorem x_ilist {K : PySem.W.Frag} {R} (h : te σ H fun x H1 => ∃ a, x = .ref a ∧ (∃ xs, SqL K H1 a xs) ∧ R (Itl K a) H1) : iList K te σ H R := h
theorem x_rng1 {ta : TA} {R} (h : ta σ H fun vs H1 => ∃ j : Int, vs = [.int j] ∧ -(2 ^ 62) ≤ j ∧ j < 2 ^ 62 ∧ R (Itr 0 j.toNat) H1) : iRng1 ta σ H R := h
theorem x_ii0 {i j : Int} {g : Int → Int → V} (h : Q (g i j) H) : rI0 g (.int i) (.int j) H Q := ⟨i, j, rfl, rfl, h⟩
theorem x_r1 {i : Int} {g : Int → V} (h : Q (g i) H) : rU g (.int i) H Q := ⟨i, rfl, h⟩
theorem x_sl {r : V → Option Int → Option Int → Hp → VK → Prop} {tl th : TO} (h : te σ H fun x H1 => tl σ H1 fun l H2 => th σ H2 fun u H3 => r x l u H3 Q) : tSl r te tl th σ H Q := h
theorem x_part {Q : Option Int → Hp → Prop} (h : te σ H fun x H1 => ∃ i, x = .int i ∧ Q (some i) H1) : tPart te σ H Q := h
theorem x_nopart {Q : Option Int → Hp → Prop} (h : Q none H) : tNoPart σ H Q := h
theorem x_iT {A B : Prop} (h : A) : if true = true then A else B := iteT h
theorem x_iF {A B : Prop} (h : B) : if false = true then A else B := iteF h
theorem x_bm {K : PySem.W.Frag} {T : String} {r : V → List V → Hp → VK → Prop} {t : TA} (h : te σ H fun x H1 => tyV K T x H1 ∧ t σ H1 fun xs H2 => r x xs H2 Q) : tBM K T r te t σ H Q := h
/-- a rule with a side condition -/
theorem x_i {C : Int → Int → Prop} {i j : Int} {g : Int → Int → V} (hc : C i j) (h : Q (g i j) H) : rI C g (.int i) (.int j) H Q := ⟨i, j, rfl, rfl, hc, h⟩
theorem x_dec {p : Prop} [Decidable p] {A B : Prop} (h1 : p → A) (h2 : ¬ p → B) : if decide p = true then A else B := by
  by_cases h : p
  · rw [decide_eq_true h]; exact iteT (h1 h)
  · rw [decide_eq_false h]; exact iteF (h2 h)
theorem x_bool {b : Bool} {A B : Prop} (h1 : b = true → A) (h2 : b = false → B) : if b = true then A else B := by
  cases b with
  | true => exact iteT (h1 rfl)
  | false => exact iteF (h2 rfl)
theorem x_eq (h : scal x y = true) (k : Q (.bl (decide (x = y))) H) : rEq x y H Q := ⟨h, k⟩
theorem x_ne (h : scal x y = true) (k : Q (.bl (!decide (x = y))) H) : rNe x y H Q := ⟨h, k⟩
theorem x_lst {ta : TA} (h : ta σ H fun xs H1 => xs.length ≤ sizeLine ∧ ∀ p, H1 p = none → Q (.ref p) (upd H1 p (.lst xs))) : tLst ta σ H Q := h
theorem x_tup {ta : TA} (h : ta σ H fun xs H1 => xs.length ≤ sizeLine ∧ ∀ p, H1 p = none → Q (.ref p) (upd H1 p (.tup xs))) : tTup ta σ H Q := h
theorem x_ixL {K : PySem.W.Frag} {p : Addr} {xs : List V} {i : Int} (h : SqL K H p xs) (ha : atI xs i = some v) (k : Q v H) : rIxL K (.ref p) (.int i) H Q := ⟨p, xs, i, v, rfl, rfl, h, ha, k⟩
theorem x_ixT {K : PySem.W.Frag} {p : Addr} {xs : List V} {i : Int} (h : SqT K H p xs) (ha : atI xs i = some v) (k : Q v H) : rIxT K (.ref p) (.int i) H Q := ⟨p, xs, i, v, rfl, rfl, h, ha, k⟩
theorem x_setL {p : Addr} {xs : List V} {i : Int} {j : Nat} {Q : Hp → Prop} (h : H p = some (.lst xs)) (hi : ixN xs.length i = some j) (k : Q (upd H p (.lst (xs.set j v)))) : rSetL (.ref p) (.int i) v H Q := ⟨p, xs, i, j, rfl, rfl, h, hi, k⟩
theorem x_mem1 {n : Nat} {A : Prop} (h : n ≤ sizeLine) (k : A) : n ≤ sizeLine ∧ A := ⟨h, k⟩
theorem x_start {t : TS} {D : Ends} {σ σ' : L2.St} {H : Hp} (e : σ' = σ) (h : t D σ H) : t D σ' H := e ▸ h
theorem x_gsub {to ti : TE} {ts : TSet} {Q : L2.St → Hp → Prop} (h : to σ H fun o H1 => ti σ H1 fun i H2 => ts o i v H2 fun H3 => Q σ H3) : gSub to ti ts v σ H Q := h
theorem x_int1 {i : Int} {R : Prop} {Q : Int → Prop} (h : Q i) : (∃ j, [V.int i] = [.int j] ∧ Q j) ∨ R := .inl ⟨i, rfl, h⟩
theorem x_len {K : PySem.W.Frag} {a : Addr} {ys : List V} {Q : List V → Prop} (s : SqL K H a ys) (h : Q ys) : ∃ (p : Addr) (ys : List V), [V.ref a] = [.ref p] ∧ (SqL K H p ys ∨ SqT K H p ys) ∧ Q ys := ⟨a, ys, rfl, .inl s, h⟩
theorem x_lenT {K : PySem.W.Frag} {a : Addr} {ys : List V} {Q : List V → Prop} (s : SqT K H a ys) (h : Q ys) : ∃ (p : Addr) (ys : List V), [V.ref a] = [.ref p] ∧ (SqL K H p ys ∨ SqT K H p ys) ∧ Q ys := ⟨a, ys, rfl, .inr s, h⟩
theorem x_two {i j : Int} {Q : Int → Int → Prop} (h : Q i j) : ∃ a b : Int, [V.int i, V.int j] = [.int a, .int b] ∧ Q a b := ⟨i, j, rfl, h⟩
theorem x_slL {K : PySem.W.Frag} {a : Addr} {xs : List V} {lo hi : Option Int} (s : SqL K H a xs) (h : ∀ p, H p = none → Q (.ref p) (upd H p (.lst (cutV xs lo hi)))) : rSlL K (.ref a) lo hi H Q := ⟨a, xs, rfl, s, h⟩
theorem x_dget (h : ta σ H fun x H1 => tb σ H1 fun y H2 => ∃ a v, x = .ref a ∧ DGet H2 a y (some v) ∧ Q v H2) : tDGet ta tb σ H Q := h
theorem x_dgetS {a : Addr} {kvs : List (Key × V)} {z : Str} {R : V → Prop} (s : H a = some (.dK kvs)) (e : valV kvs (Sum.inr z) = some v) (h : R v) : ∃ (b : Addr) (v : V), V.ref a = .ref b ∧ DGet H b (.str z) (some v) ∧ R v := ⟨a, v, rfl, e ▸ DGet.k (k := Sum.inr z) s, h⟩
theorem x_append {l : Addr} {xs : List V} (s : H l = some (.lst xs)) (n : xs.length < sizeLine) (h : Q .non (upd H l (.lst (xs ++ [y])))) : rAppend (.ref l) [y] H Q := ⟨l, xs, y, rfl, rfl, s, n, h⟩
theorem x_rng1E {j : Int} {R : Int → Prop} (h1 : -(2 ^ 62) ≤ j) (h2 : j < 2 ^ 62) (h : R j) : ∃ k : Int, [V.int j] = [.int k] ∧ -(2 ^ 62) ≤ k ∧ k < 2 ^ 62 ∧ R k := ⟨j, rfl, h1, h2, h⟩
end

theorem x_v0 {v : V} {r : L2.St} {H : Hp} {Q : VK} (h : Q v H) : tVar 0 (some v :: r) H Q := ⟨v, rfl, h⟩
theorem x_v1 {a0 : Option V} {v : V} {r : L2.St} {H : Hp} {Q : VK} (h : Q v H) : tVar 1 (a0 :: some v :: r) H Q := ⟨v, rfl, h⟩
theorem x_g1 {a0 : Option V} {v : V} {c : Option V} {r : L2.St} {H : Hp} {Q : L2.St → Hp → Prop} (h : Q (a0 :: some v :: r) H) : gName 1 v (a0 :: c :: r) H Q := h
theorem x_v2 {a0 a1 : Option V} {v : V} {r : L2.St} {H : Hp} {Q : VK} (h : Q v H) : tVar 2 (a0 :: a1 :: some v :: r) H Q := ⟨v, rfl, h⟩
theorem x_g2 {a0 a1 : Option V} {v : V} {c : Option V} {r : L2.St} {H : Hp} {Q : L2.St → Hp → Prop} (h : Q (a0 :: a1 :: some v :: r) H) : gName 2 v (a0 :: a1 :: c :: r) H Q := h
theorem x_v3 {a0 a1 a2 : Option V} {v : V} {r : L2.St} {H : Hp} {Q : VK} (h : Q v H) : tVar 3 (a0 :: a1 :: a2 :: some v :: r) H Q := ⟨v, rfl, h⟩
theorem x_g3 {a0 a1 a2 : Option V} {v : V} {c : Option V} {r : L2.St} {H : Hp} {Q : L2.St → Hp → Prop} (h : Q (a0 :: a1 :: a2 :: some v :: r) H) : gName 3 v (a0 :: a1 :: a2 :: c :: r) H Q := h
theorem x_v4 {a0 a1 a2 a3 : Option V} {v : V} {r : L2.St} {H : Hp} {Q : VK} (h : Q v H) : tVar 4 (a0 :: a1 :: a2 :: a3 :: some v :: r) H Q := ⟨v, rfl, h⟩
theorem x_g4 {a0 a1 a2 a3 : Option V} {v : V} {c : Option V} {r : L2.St} {H : Hp} {Q : L2.St → Hp → Prop} (h : Q (a0 :: a1 :: a2 :: a3 :: some v :: r) H) : gName 4 v (a0 :: a1 :: a2 :: a3 :: c :: r) H Q := h
theorem x_v5 {a0 a1 a2 a3 a4 : Option V} {v : V} {r : L2.St} {H : Hp} {Q : VK} (h : Q v H) : tVar 5 (a0 :: a1 :: a2 :: a3 :: a4 :: some v :: r) H Q := ⟨v, rfl, h⟩
theorem x_g5 {a0 a1 a2 a3 a4 : Option V} {v : V} {c : Option V} {r : L2.St} {H : Hp} {Q : L2.St → Hp → Prop} (h : Q (a0 :: a1 :: a2 :: a3 :: a4 :: some v :: r) H) : gName 5 v (a0 :: a1 :: a2 :: a3 :: a4 :: c :: r) H Q := h
theorem x_v6 {a0 a1 a2 a3 a4 a5 : Option V} {v : V} {r : L2.St} {H : Hp} {Q : VK} (h : Q v H) : tVar 6 (a0 :: a1 :: a2 :: a3 :: a4 :: a5 :: some v :: r) H Q := ⟨v, rfl, h⟩
theorem x_g6 {a0 a1 a2 a3 a4 a5 : Option V} {v : V} {c : Option V} {r : L2.St} {H : Hp} {Q : L2.St → Hp → Prop} (h : Q (a0 :: a1 :: a2 :: a3 :: a4 :: a5 :: some v :: r) H) : gName 6 v (a0 :: a1 :: a2 :: a3 :: a4 :: a5 :: c :: r) H Q := h
theorem x_v7 {a0 a1 a2 a3 a4 a5 a6 : Option V} {v : V} {r : L2.St} {H : Hp} {Q : VK} (h : Q v H) : tVar 7 (a0 :: a1 :: a2 :: a3 :: a4 :: a5 :: a6 :: some v :: r) H Q := ⟨v, rfl, h⟩
theorem x_g7 {a0 a1 a2 a3 a4 a5 a6 : Option V} {v : V} {c : Option V} {r : L2.St} {H : Hp} {Q : L2.St → Hp → Prop} (h : Q (a0 :: a1 :: a2 :: a3 :: a4 :: a5 :: a6 :: some v :: r) H) : gName 7 v (a0 :: a1 :: a2 :: a3 :: a4 :: a5 :: a6 :: c :: r) H Q := h
theorem x_v8 {a0 a1 a2 a3 a4 a5 a6 a7 : Option V} {v : V} {r : L2.St} {H : Hp} {Q : VK} (h : Q v H) : tVar 8 (a0 :: a1 :: a2 :: a3 :: a4 :: a5 :: a6 :: a7 :: some v :: r) H Q := ⟨v, rfl, h⟩
theorem x_g8 {a0 a1 a2 a3 a4 a5 a6 a7 : Option V} {v : V} {c : Option V} {r : L2.St} {H : Hp} {Q : L2.St → Hp → Prop} (h : Q (a0 :: a1 :: a2 :: a3 :: a4 :: a5 :: a6 :: a7 :: some v :: r) H) : gName 8 v (a0 :: a1 :: a2 :: a3 :: a4 :: a5 :: a6 :: a7 :: c :: r) H Q := h
theorem x_v9 {a0 a1 a2 a3 a4 a5 a6 a7 a8 : Option V} {v : V} {r : L2.St} {H : Hp} {Q : VK} (h : Q v H) : tVar 9 (a0 :: a1 :: a2 :: a3 :: a4 :: a5 :: a6 :: a7 :: a8 :: some v :: r) H Q := ⟨v, rfl, h⟩
theorem x_g9 {a0 a1 a2 a3 a4 a5 a6 a7 a8 : Option V} {v : V} {c : Option V} {r : L2.St} {H : Hp} {Q : L2.St → Hp → Prop} (h : Q (a0 :: a1 :: a2 :: a3 :: a4 :: a5 :: a6 :: a7 :: a8 :: some v :: r) H) : gName 9 v (a0 :: a1 :: a2 :: a3 :: a4 :: a5 :: a6 :: a7 :: a8 :: c :: r) H Q := h
section
variable {K : PySem.W.Frag} {a : Addr} {α : Type} {f : α → V} {ys : List α} {g : TG} {tb : TS} {σ : L2.St} {H : Hp} {nx : L2.St → Hp → Prop} {rt : VK}
theorem getElem?_split {ys : List α} {i : Nat} {x : α} (h : ys[i]? = some x) : ys = ys.take i ++ x :: ys.drop (i + 1) := by
  obtain ⟨hi, e⟩ := List.getElem?_eq_some_iff.mp h
  subst e
  rw [List.getElem_cons_drop, List.take_append_drop]
theorem take_snoc {ys : List α} {i : Nat} {x : α} (h : ys[i]? = some x) : ys.take (i + 1) = ys.take i ++ [x] := by
  rw [List.take_add_one, h]; rfl
theorem for_rng {lo : Int} {n : Nat} (Pv : Nat → L2.St → Hp → Prop) (h0 : Pv 0 σ H)
    (hs : ∀ i σ H, i < n → Pv i σ H → g (.int (lo + i)) σ H fun σ2 H2 => tb ⟨Pv (i + 1), rt, nx, Pv (i + 1)⟩ σ2 H2) (hd : ∀ σ H, Pv n σ H → nx σ H) :
    ∃ W : Nat → Nat → L2.St → Hp → Prop, (∃ m, W 0 m σ H) ∧ ∀ i m σ H, W i m σ H →
      ((Itr lo n).stop i H ∧ nx σ H) ∨ ((Itr lo n).go i H ∧ ∃ N : L2.St → Hp → Prop, (∀ σ' H', N σ' H' → ∃ m', m' < m ∧ W (i + 1) m' σ' H') ∧ ∀ x H', (Itr lo n).yld i H x H' → g x σ H' fun σ2 H2 => tb ⟨N, rt, nx, N⟩ σ2 H2) :=
  for_range (D := ⟨nx, rt, nx, nx⟩) Pv h0 hs hd
end
theorem Same.new {H0 H : Hp} {p : Addr} {o : HO} (s : Same H0 H) (h : H p = none) : Same H0 (upd H p o) := fun b u e => by
  rw [upd_ne (ne_of_none (s b u e) h)]; exact s b u e
theorem Same.mut {H0 H : Hp} {p : Addr} {o : HO} (s : Same H0 H) (h : H0 p = none) : Same H0 (upd H p o) := fun b u e => by
  rw [upd_ne (ne_of_none e h)]; exact s b u e
/-- the pool at p: a cell, a seed -/
def PoolAt (H : Hp) (p : Addr) : Prop := ∃ c s : Int, H p = some (.lst [.int c, .int s]) ∧ 0 ≤ s ∧ s < 2147483647
/-- only what stands at p may have changed -/
def But (p : Addr) (H H' : Hp) : Prop := ∀ b, b ≠ p → H' b = H b
theorem But.upd {p : Addr} {H : Hp} {o : HO} : But p H (upd H p o) := fun _ h => upd_ne h
theorem But.at {p b : Addr} {H H' : Hp} {o : Option HO} (k : But p H H') (h : H b = o) (n : b ≠ p) : H' b = o := (k b n).trans h
theorem But.same {p : Addr} {H0 H H' : Hp} (k : But p H H') (s : Same H0 H) (n : H0 p = none) : Same H0 H' := fun b o e => (k b (ne_of_none e n)).trans (s b o e)
def sp_pool (K : PySem.W.Frag) : Sp := fun vs H Q _ => ∃ (a : Addr) (ns : List Int) (k : Int), vs = [.ref a, .int k] ∧ SqL K H a (ns.map V.int) ∧ 0 ≤ k ∧ k < 1000 ∧
  ∀ (p : Addr) (c s : Int), H p = none → 0 ≤ s → s < 2147483647 → Q (.ref p) (upd H p (.lst [.int c, .int s]))
theorem x_pool {K : PySem.W.Frag} {H : Hp} {Q : VK} {E : XK} {a : Addr} {k : Int} {ns : List Int} (S : SqL K H a (ns.map V.int)) (k0 : 0 ≤ k) (k1 : k < 1000) (h : ∀ (p : Addr) (H' : Hp), H p = none → PoolAt H' p → But p H H' → Q (.ref p) H') : sp_pool K ([V.ref a, .int k] ++ []) H Q E :=
  ⟨a, ns, k, rfl, S, k0, k1, fun p c s hp s0 s1 => h p _ hp ⟨c, s, upd_same, s0, s1⟩ But.upd⟩
theorem PoolAt.new {p q : Addr} {H : Hp} {o : HO} (h : PoolAt H p) (n : H q = none) : PoolAt (L2.upd H q o) p := by
  obtain ⟨c, s, e, z⟩ := h
  exact ⟨c, s, by rw [upd_ne (ne_of_none e n)]; exact e, z⟩
theorem PoolAt.sees {p : Addr} {H H' : Hp} (h : PoolAt H p) (s : Same H H') : PoolAt H' p := by
  obtain ⟨c, z, e, y⟩ := h
  exact ⟨c, z, s _ _ e, y⟩
theorem PoolAt.ne {p q : Addr} {H : Hp} (h : PoolAt H p) (n : H q = none) : p ≠ q := by
  obtain ⟨c, s, e, z⟩ := h
  exact ne_of_none e n
theorem x_lc {wi : TI} {g : TG} {tt : TT} {te : TE} {vs : List Nat} {σ : L2.St} {H : Hp} {Q : VK} (h : wi σ H fun J H1 => ∀ D, H1 D = none → ∃ W : Nat → Nat → Hp → Prop, (∃ m, W 0 m (upd H1 D (.lst []))) ∧ ∀ i m H, W i m H →
  (J.stop i H ∧ Q (.ref D) H) ∨ (J.go i H ∧ ∃ Nx : Hp → Prop, (∀ H', Nx H' → ∃ m', m' < m ∧ W (i + 1) m' H') ∧ ∀ x H', J.yld i H x H' → g x (wipe σ vs) H' fun σ2 H2 => wipe σ2 vs = wipe σ vs ∧ tt σ2 H2 fun b H3 =>
    if b = true then te σ2 H3 fun y H4 => ∃ acc, H4 D = some (.lst acc) ∧ acc.length < sizeLine ∧ Nx (upd H4 D (.lst (acc ++ [y]))) else Nx H3)) : tLc wi g tt te vs σ H Q := h
theorem x_gtup {K : PySem.W.Frag} {n : Nat} {t : TGs} {p : Addr} {xs : List V} {σ : L2.St} {H : Hp} {Q : L2.St → Hp → Prop} (s : SqT K H p xs) (l : xs.length = n) (h : t xs σ H Q) : gTup K n t (.ref p) σ H Q := ⟨p, xs, rfl, s, l, h⟩
theorem x_gcons {t : TG} {u : TGs} {v : V} {r : List V} {σ : L2.St} {H : Hp} {Q : L2.St → Hp → Prop} (h : t v σ H fun σ' H' => u r σ' H' Q) : gCons t u (v :: r) σ H Q := ⟨v, r, rfl, h⟩
theorem x_gnil {σ : L2.St} {H : Hp} {Q : L2.St → Hp → Prop} (h : Q σ H) : gNil [] σ H Q := ⟨rfl, h⟩

structure Cl (P : Program) (w : World) (K : PySem.W.Frag) (mg : Str → Option Value) (base : Heap) (x : Str) (ps : List Str) (k : Nat) (sp : Sp) : Prop where
  ex : ∃ fd, FnOk P w K mg base CX0 k (He.ga K x) fd ps sp ∧ Binds K fd ps []
  kp : PySem.W.keepIn K (.ref (He.ga K x)) = true
  g : mg x = some (.ref (He.ga K x))
theorem pe_cl {X : Cx} {k : Nat} {ps : List Str} {sp : Sp} {x : Str} {p pos : Pos} {e : Expr} {es : List Expr} {t : TA} (C : Cl X.prog X.w X.K X.mg X.base x ps k sp) (hr : Room k X.A) (hg : Gl X x)
    (ha : PA X (e :: es) t) (hdb : (x == ("__debug__" : Str)) = false := by decide) (he : starEach (e :: es) X.env = (false, eval e X.env) :: starEach es X.env := by rfl) (hpl : (backTo pos (starEach es X.env)).any (·.1) = false := by rfl) :
    PE X (.Call (.Name x p) (e :: es) [] pos) (tCall sp [] E0 t) := by
  obtain ⟨fd, F, b⟩ := C.ex
  exact pe_call F hr hg C.g C.kp b .nil pass0 ha hdb he hpl
section
variable {X : Cx}
end
end My


end

section
namespace My
open PySem PySem.Spec PyProof.Rows L2
/-- as FnOk, at surroundings without guards -/
structure FnG (P : Program) (w : World) (K : PySem.W.Frag) (mg : Str → Option Value) (base : Heap) (CX : CXT) (k : Nat) (f : Addr) (fd : FuncData) (ps : List Str) (sp : Sp) : Prop where
  len : ∀ vs H Q E, sp vs H Q E → vs.length = ps.length
  run : ∀ (A : Around) (outer : List Env) (s : Shared) (H : Hp) (args : Args) (us : List Value) (vs : List V) (Q : VK) (E : XK), A.guards = some [] → Room k A → Env0 P w K mg base A outer s H → BindsTo s fd args (ps.zip us) → Vals vs us → sp vs H Q E →
    codeAny (model P w) A (.call (.ref f) args) (CR CX outer P w H s Q E) s
section
variable {P : Program} {w : World} {K : PySem.W.Frag} {mg : Str → Option Value} {base : Heap} {CX : CXT} {x qual : Str} {params : Arguments} {body : List Stmt} {scope : Scope} {dvs : List V} {kws : List (Str × V)} {f : Addr} {fd : FuncData}
theorem FunD.okG {N ps : List Str} {k : Nat} {sp : Sp} (F : FunD K x qual params body scope dvs kws f fd) (S : FnScope N ps scope) (len : ∀ vs H Q E, sp vs H Q E → vs.length = ps.length)
    (hbody : ∀ (cdv : Value) (A : Around) (outer : List Env) (s : Shared) (H : Hp) (vs : List V) (Q : VK) (E : XK), A.guards = some [] → Room k (A.deeper (envOfC qual scope s.heap.objs.size f cdv)) → sp vs H Q E →
      ∃ t, PSs (cxOf CX P w K mg base N qual scope f cdv A outer s H E) body t ∧ t { nx := fun _ H' => Q .non H', rt := Q } (start N vs) H) : FnG P w K mg base CX (k + 1) f fd ps sp := by
  obtain ⟨oc, od, dV, kV, doc, pm, an, cdv, ct, osl, rfl, lk, hcd, _, _⟩ := F.ex
  refine ⟨len, fun A outer s H args us vs Q E hg hr e0 hb r hsp => ?_⟩
  -- what this one entry asks, as a promise that no other entry can meet
  have keep : ∀ b o, base.get? b = some o → s.heap.get? b = some o := fun b o e => (e0.bs b o e).1
  have X : K.In s.heap := e0.mod.kin.keeps keep
  have nl : s.heap.NoLimit := e0.mod.nolimit.keeps keep
  have hl := len _ _ _ _ hsp
  have kinds : ∀ y ∈ ps.zip us, scope.names.lookup y.1 = some .local ∨ (scope.names.lookup y.1 = some .cell ∧ ((cellsFrom (s.heap.objs.size + 1) scope.names []).lookup y.1).isSome = true) := by
    intro y hy
    exact (S.par y.1 (List.of_mem_zip (a := y.1) (b := y.2) hy).1).imp id fun q => ⟨q, PySem.W.cellsFrom_some _ _ _ (.inl q)⟩
  obtain ⟨t, ht, hq⟩ := hbody cdv A outer s H vs Q E hg (hr.deeper _) hsp
  refine codeAny_call_function hr.depth (X _ _ lk) rfl S.co S.gen rfl (PySem.W.codeRec_of X hcd) (hb _ _ _ _ (wpAny_newFunctionEnv_cells S.kind kinds fun env he s1 x => ?_))
  subst he
  refine ⟨nl.keeps x.toInCall.keep, codeAny_func (wpAny_mono (ht.run [] s1 (start N vs) H _ (inv_start S hr.hd e0 hl r x) hq) (fun fl s' hs => ?_) fun e s' hs => hs)⟩
  match fl, hs with
  | .ret u, ⟨v, σ', H', J, rv, q⟩ => exact ⟨v, H', J.os, J.bare, J.base, J.hok, rv, q⟩
  | .next, ⟨σ', H', J, q⟩ => exact ⟨V.non, H', J.os, J.bare, J.base, J.hok, rfl, q⟩
  | .brk, ⟨_, _, _, q⟩ => exact False.elim q
  | .cont, ⟨_, _, _, q⟩ => exact False.elim q
end
/-- as Cl, for such a def -/
structure ClG (P : Program) (w : World) (K : PySem.W.Frag) (mg : Str → Option Value) (base : Heap) (CX : CXT) (x : Str) (ps : List Str) (k : Nat) (sp : Sp) : Prop where
  ex : ∃ fd, FnG P w K mg base CX k (He.ga K x) fd ps sp ∧ Binds K fd ps []
  kp : PySem.W.keepIn K (.ref (He.ga K x)) = true
  g : mg x = some (.ref (He.ga K x))
theorem pe_clG {X : Cx} {CX : CXT} {k : Nat} {ps : List Str} {sp : Sp} {E : XK} {x : Str} {p pos : Pos} {e : Expr} {es : List Expr} {t : TA} (C : ClG X.prog X.w X.K X.mg X.base CX x ps k sp) (hg0 : X.A.guards = some []) (hr : Room k X.A) (hx : Passes CX X E) (hg : Gl X x)
    (ha : PA X (e :: es) t) (hdb : (x == ("__debug__" : Str)) = false := by decide) (he : starEach (e :: es) X.env = (false, eval e X.env) :: starEach es X.env := by rfl) (hpl : (backTo pos (starEach es X.env)).any (·.1) = false := by rfl) :
    PE X (.Call (.Name x p) (e :: es) [] pos) (tCall sp [] E t) := by
  obtain ⟨fd, F, hb⟩ := C.ex
  refine ⟨fun pins s σ H Q I h => wpAny_Call_Name_kw (ld_glob I hg C.g (PySem.W.callWith_K (h₀ := X.base) I.ok.mod.kin C.kp (thn (ha.run pos pins s σ H _ I h) fun us s1 ⟨vs, H1, I1, r, q⟩ => ⟨I1.kIn, ?_⟩) he hpl) hdb)⟩
  have q : sp (vs ++ []) H1 Q E := q
  rw [List.append_nil] at q
  have hl : (us ++ []).length = ps.length := by rw [List.append_nil, ← r.length]; exact F.len _ _ _ _ q
  have hbb := hb s1 us I1.kIn hl
  rw [List.append_nil] at hbb
  refine wpAny_call (codeAny_mono (F.run X.A X.stack s1 H1 ⟨us, []⟩ us vs Q E hg0 hr I1.env0 hbb r q) fun r s' hq => ?_)
  match r, hq with
  | .error e, hq => exact hx pins σ H1 s1 e s' I1 hq
  | .ok (.ret u), hq => exact I1.after hq
  | .ok .next, hq => exact False.elim hq
  | .ok .brk, hq => exact False.elim hq
  | .ok .cont, hq => exact False.elim hq
/-- a law that stands at fa, its script at a: the promise at the surroundings of a law's call -/
theorem callG {P : Program} {w : World} {K : PySem.W.Frag} {mg mb : Str → Option Value} {CX : CXT} {k : Nat} {fa a : Addr} {fd : FuncData} {x : Str} {sp : Sp} {s₁ : Shared} {vs : List Value} {ns : List Int}
    (KX : K.In s₁.heap) (hns : s₁.heap.Ns mainGlobals mg) (hb : s₁.heap.Ns builtinsNs mb) (hbb : ∀ x : Str, x ≠ "__name__" → mb x = bootBuiltins x) (hlim : s₁.heap.NoLimit) (hg : s₁.gens = #[])
    (ha : s₁.heap.get? a = some { cls := .type "list", data := .seq vs.toArray }) (hi : IntsAre vs ns) (hl : ns.length ≤ sizeLine) (hr : Room k callerA)
    (F : ∀ base : Heap, K.In base → base.Ns mainGlobals mg → FnG P w K mg base CX k fa fd [x] sp) (hbind : ∀ (s : Shared) (u : Value), BindsTo s fd ⟨[u], []⟩ [(x, u)])
    (hsp : ∀ H : Hp, Only H → SqL K H a (ns.map V.int) → sp [.ref a] H (fun v _ => v = .bl true) fun _ _ _ => False) (hCX : ∀ H e s', CX [] H s₁ (fun _ _ _ => False) e s' → False) :
    codeAny (model P w) callerA (.call (.ref fa) ⟨[.ref a], []⟩) (fun r s' => r = .ok (.ret (.bool true)) ∧ OldK s₁.heap s'.heap ∧ s'.os = s₁.os ∧ AllBare s'.gens) s₁ := by
  obtain ⟨rv, lenV⟩ : Vals (ns.map V.int) vs ∧ vs.length = ns.length := ⟨vals_ints hi, hi.length⟩
  let ob : Obj := { cls := .type "list", data := .seq vs.toArray }
  -- what is tracked: nothing, or the script
  suffices go : ∀ H : Hp, (∀ b u, H b = some u → b = a ∧ u = .frz ob (.lst (ns.map V.int)) ∧ K.lookup a = none) → SqL K H a (ns.map V.int) →
      codeAny (model P w) callerA (.call (.ref fa) ⟨[.ref a], []⟩) (fun r s' => r = .ok (.ret (.bool true)) ∧ OldK s₁.heap s'.heap ∧ s'.os = s₁.os ∧ AllBare s'.gens) s₁ by
    cases hk : K.lookup a with
    | some o =>
      have e : o = ob := by have := KX a o hk; rw [ha] at this; exact (Option.some.inj this).symm
      subst e
      exact go (fun _ => none) (fun b u z => nomatch (show (none : Option HO) = some u from z)) (.inr ⟨_, vs.toArray, _, hk, rfl, rfl, rfl, by rw [List.size_toArray, lenV]; exact hl, by simpa using rv⟩)
    | none =>
      refine go (fun b => if b = a then some (.frz ob (.lst (ns.map V.int))) else none) (fun b u z => ?_) (.inl (.inr ⟨ob, if_pos rfl⟩))
      by_cases hb : b = a
      · have z' : some (HO.frz ob (.lst (ns.map V.int))) = some u := (if_pos hb).symm.trans z
        exact ⟨hb, (Option.some.inj z').symm, hk⟩
      · have z' : none = some u := (if_neg hb).symm.trans z
        cases z'
  intro H hH hS
  have hO : Only H := fun b => by
    cases q : H b with
    | none => exact .inl rfl
    | some u => exact .inr ⟨ob, _, congrArg some (hH b u q).2.1⟩
  have hok : HOk P w H s₁.heap := fun b u q => by
    obtain ⟨rfl, rfl, _⟩ := hH b u q
    exact ⟨ha, by rw [List.length_map]; exact hl, vs, _, rv, ha⟩
  have free : ∀ {b : Addr}, b ≠ a ∨ K.lookup a ≠ none → H b = none := fun {b} h => by
    cases q : H b with
    | none => rfl
    | some u =>
      obtain ⟨e1, _, e2⟩ := hH b u q
      exact (h.elim (fun z => z e1) fun z => z e2).elim
  have ns_of : ∀ {b : Addr} {m : Str → Option Value}, s₁.heap.Ns b m → (hidT s₁.heap H).Ns b m := fun {b m} ⟨o, es, ep, e, d, r⟩ => by
    refine ⟨o, es, ep, hidT_get e (free (.inl fun z => ?_)), d, r⟩
    rw [z, ha] at e
    rw [← Option.some.inj e] at d
    exact nomatch (show Data.seq vs.toArray _ = Data.dict es ep from d)
  have hKb : K.In (hidT s₁.heap H) := fun b o e => hidT_get (KX b o e) (by
    by_cases hb : b = a
    · exact free (.inr (by rw [← hb, e]; exact fun z => nomatch z))
    · exact free (.inl hb))
  have e0 : Env0 P w K mg (hidT s₁.heap H) callerA [] s₁ H :=
    ⟨rfl, ⟨hKb, ns_of hns, ⟨mb, ns_of hb, hbb⟩, let ⟨mc, h1, h2⟩ := hlim; ⟨mc, ns_of h1, h2⟩⟩, fun _ _ e => of_hidT e, Nat.le_of_eq (hidT_size _ _), trivial, fun b z => absurd z (List.not_mem_nil), hok, .of_eq hg⟩
  refine codeAny_mono ((F _ hKb (ns_of hns)).run callerA [] s₁ H ⟨[.ref a], []⟩ [.ref a] [.ref a] _ _ rfl hr e0 (hbind s₁ (.ref a)) (.cons rfl .nil) (hsp H hO hS)) fun r s' h => ?_
  match r, h with
  | .error e, h => exact (hCX H e s' h).elim
  | .ok .next, h => exact False.elim h
  | .ok .brk, h => exact False.elim h
  | .ok .cont, h => exact False.elim h
  | .ok (.ret u), ⟨v, H', os, bare, un, hok', rv', q⟩ =>
    obtain rfl : v = .bl true := q
    obtain rfl : u = Value.bool true := rv'
    refine ⟨rfl, OldK.of_keep fun b o e => ?_, os, bare⟩
    cases q : H b with
    | none => exact un.keep b o e q List.not_mem_nil List.not_mem_nil
    | some u =>
      obtain ⟨rfl, rfl, _⟩ := hH b u q
      obtain ⟨e2, _⟩ := hok' b _ (un.frzs b ob _ q)
      rw [ha] at e
      rw [← Option.some.inj e]
      exact e2
theorem walk_ofG {l : PySem.W.OpenLaw} {n k : Nat} {q : Program} {loose : List Str} {XP : (Str → Option Value) → Heap → Prop} {YP : World → Heap → Prop} {d : DefRec} {CX : World → CXT} {x : Str}
    (hn : l.most = some n) (hn2 : n ≤ sizeLine) (hdf : d.params.defaults = []) (hr : Room k callerA)
    (F : ∀ (w : World) (mg : Str → Option Value) (fa : Addr) (h : Heap), YP w h → h.Ns mainGlobals mg → mg d.name = some (.ref fa) →
      ∃ (K : PySem.W.Frag) (fd : FuncData) (sp : Sp), K.In h ∧ (∀ (s : Shared) (u : Value), BindsTo s fd ⟨[u], []⟩ [(x, u)]) ∧
        (∀ (H : Hp) (a : Addr) (ns : List Int), ns.length ≤ n → (∀ z ∈ ns, Builtin.Int.intBits z ≤ 1048576) → Only H → SqL K H a (ns.map V.int) → sp [.ref a] H (fun v _ => v = .bl true) fun _ _ _ => False) ∧
        ∀ base : Heap, K.In base → base.Ns mainGlobals mg → FnG l.prog w K mg base (CX w) k fa fd [x] sp)
    (hCX : ∀ (w : World) (H : Hp) (s : Shared) (e : Value) (s' : Shared), CX w [] H s (fun _ _ _ => False) e s' → False) :
    PySem.W.WalkO q loose XP YP l.row.toRowW d [] (fun f vs => PySem.call f vs) := by
  refine Att.attach_callB hn hdf fun w s₀ s₁ mg mb fa o pm cd doc a vs ns G Y ho hd hcd hmg hobj hints hlen hbits hg => ?_
  obtain ⟨K, fd, sp, KX, hb, hsp, hF⟩ := F w mg fa _ Y G.T.g hmg
  exact callG KX G.T.g G.T.b G.T.builtins G.T.nolimit hg hobj hints (Nat.le_trans hlen hn2) hr hF hb (fun H hO hS => hsp H a ns hlen hbits hO hS) fun H e s' => hCX w H s₁ e s'
/-- what a value shows as: data without dicts, or an empty dict -/
def rRepr (K : PySem.W.Frag) : List V → Hp → VK → Prop := fun xs H Q => ∃ x d, xs = [x] ∧ Dp K H x d ∧ d.showable = true ∧ d.canLay0 = true ∧ d.depth ≤ 64 ∧ d.shown.length ≤ sizeLine ∧ Q (.str d.shown) H
theorem call_reprD {X : Cx} (hg0 : X.A.guards = some []) (hu : X.A.units + 100 < cLine) : CallR X (.builtin "repr") (rRepr X.K) := by
  intro pins s σ H xs us Q I r h
  obtain ⟨x, d, rfl, hd, hs, hc, hdep, hsz, q⟩ := h
  cases r with
  | cons r1 r2 =>
    rename_i u us'
    cases r2
    obtain ⟨as, rd⟩ := Dp.reads I d x u hd r1
    have hno : d.hasDict = true → sysModules ∉ as := PyData.noDict_hsm (PyData.hasDict_of_canLay d hc)
    cases hd with
    | non => cases r1; exact PySem.P.repr_of_none ⟨.str _, H, I.tok _, ⟨_, rfl⟩, q⟩
    | bl b => cases r1; exact PySem.P.repr_of_bool ⟨.str _, H, I.tok _, ⟨_, rfl⟩, q⟩
    | int i => obtain ⟨t, rfl⟩ := r1; exact PySem.P.repr_of_int (by simpa [PyData.showable] using hs) ⟨.str _, H, I.tok _, ⟨_, rfl⟩, q⟩
    | str z => obtain ⟨t, rfl⟩ := r1; exact PySem.P.repr_of_str ⟨.str _, H, I.tok _, ⟨_, rfl⟩, q⟩ hsz
    | lst h1 h2 =>
      cases r1
      exact repr_of_reads' rd hs hno hg0 (by omega) (fun _ _ e => e) (fun h' u' tk k => ⟨.str _, H, I.kept k, ⟨_, rfl⟩, q⟩) hsz
    | tup h1 h2 =>
      cases r1
      exact repr_of_reads' rd hs hno hg0 (by omega) (fun _ _ e => e) (fun h' u' tk k => ⟨.str _, H, I.kept k, ⟨_, rfl⟩, q⟩) hsz
end My

end

section
namespace My
open PySem PySem.Spec PyProof.Rows L2
theorem ba {a b : Bool} (h : (a && b) = true) : a = true ∧ b = true := Bool.and_eq_true_iff.mp h
section
variable {K : PySem.W.Frag} {mg : Str → Option Value}
/-- own exceptions over ValueError with an __init__ of their own -/
def oexB (K : PySem.W.Frag) (C : Addr) : Bool :=
  (match K.lookup C with
  | some ⟨.type "type", _, .cls cd, sl⟩ => (match cd.mro, sl.toList with
    | .ref C' :: bm, [_, _, _, _, some (.builtin n), _] => C' == C && (n == "ValueError.__new__" && (!cd.hasDel && (cd.hasDict && PySem.HandSPX.refsVE bm)))
    | _, _ => false)
  | _ => false) && (He.eqO (PySem.W.findIn K (.ref C) "__setattr__") (some (some (.builtin "object.__setattr__"))) && (decide (PySem.W.subIn K (.ref C) (.type "BaseException") = some true) && (decide (PySem.W.typeIn K (.ref C) = some (.type "type")) && PySem.W.keepIn K (.ref C))))
theorem oexB_ok {C : Addr} (h : oexB K C = true) : OexC K C := by
  obtain ⟨h0, h⟩ := ba h
  obtain ⟨h1, h⟩ := ba h
  obtain ⟨h2, h⟩ := ba h
  obtain ⟨h3, h4⟩ := ba h
  refine ⟨?_, He.eqO_ok h1, of_decide_eq_true h2, of_decide_eq_true h3, h4⟩
  split at h0
  · rename_i dd cd sl ho
    split at h0
    · rename_i C' bm k0 k1 k2 k3 n k5 hm hs
      obtain ⟨e1, h0⟩ := ba h0
      obtain ⟨e2, h0⟩ := ba h0
      obtain ⟨e3, h0⟩ := ba h0
      obtain ⟨e4, e5⟩ := ba h0
      obtain rfl : C' = C := beq_iff_eq.mp e1
      obtain rfl : n = "ValueError.__new__" := beq_iff_eq.mp e2
      obtain ⟨nm, bs, mro, ns, qn, hd, sn, sb, ab, col, del⟩ := cd
      dsimp only at hm e3 e4
      subst hm e4
      obtain rfl : del = false := by simpa using e3
      have es : sl = #[k0, k1, k2, k3, some (.builtin "ValueError.__new__"), k5] := by
        rw [← Array.toArray_toList (xs := sl), hs]
      subst es
      exact ⟨nm, qn, ns, bs, bm, sn, sb, ab, col, dd, k0, k1, k2, k3, k5, ho, e5⟩
    · cases h0
  · cases h0
/-- all that is asked of the exception x with the field f -/
structure ExcT (K : PySem.W.Frag) (mg : Str → Option Value) (x f : Str) : Prop where
  g : mg x = some (.ref (He.ga K x))
  o : OexC K (He.ga K x)
  xf : XfC K (He.ga K x)
  no : PySem.W.findIn K (.ref (He.ga K x)) f = some none
  i : PySem.W.findIn K (.ref (He.ga K x)) "__init__" = some (some (.ref (He.ma K (He.ga K x) "__init__")))
  t : PySem.W.typeIn K (.ref (He.ma K (He.ga K x) "__init__")) = some (.type "function")
  m : PySem.W.exmOne K (.ref (He.ga K x)) (.ref (He.ga K x)) = some true
def excTB (K : PySem.W.Frag) (x f : Str) : Bool := He.eqO (PySem.W.nsIn K mainGlobals x) (some (some (.ref (He.ga K x)))) && (oexB K (He.ga K x) && (xfB K (He.ga K x) && (He.eqO (PySem.W.findIn K (.ref (He.ga K x)) f) (some none) &&
  (He.eqO (PySem.W.findIn K (.ref (He.ga K x)) "__init__") (some (some (.ref (He.ma K (He.ga K x) "__init__")))) && (decide (PySem.W.typeIn K (.ref (He.ma K (He.ga K x) "__init__")) = some (.type "function")) && decide (PySem.W.exmOne K (.ref (He.ga K x)) (.ref (He.ga K x)) = some true))))))
theorem excTB_ok {x f : Str} {h : Heap} (X : K.In h) (G : h.Ns mainGlobals mg) (q : excTB K x f = true) : ExcT K mg x f := by
  obtain ⟨h1, q⟩ := ba q
  obtain ⟨h2, q⟩ := ba q
  obtain ⟨h3, q⟩ := ba q
  obtain ⟨h4, q⟩ := ba q
  obtain ⟨h5, q⟩ := ba q
  obtain ⟨h6, h7⟩ := ba q
  exact ⟨PySem.W.mg_of X G (He.eqO_ok h1), oexB_ok h2, xfB_ok h3, He.eqO_ok h4, He.eqO_ok h5, of_decide_eq_true h6, of_decide_eq_true h7⟩
/-- what __init__ of such an exception does -/
def sp_exc (K : PySem.W.Frag) (x f : Str) : Sp := fun vs H Q _ => ∃ (a : Addr) (v : V), vs = [.ref a, v] ∧ H a = some (exo a (He.ga K x) none) ∧
  ∀ dx, H dx = none → dx ≠ a → Q .non (upd (upd H dx (exd dx [(f, v)])) a (exo a (He.ga K x) (some dx)))
end
section
variable {P : Program} {w : World} {K : PySem.W.Frag} {mg : Str → Option Value} {base : Heap} {CX : CXT}
end
section
variable {X : Cx} {CX : CXT} {k : Nat} {ps : List Str} {sp : Sp} {E : XK} {x m : Str} {p pos apos : Pos} {o e : Expr} {es : List Expr} {t : TA} {ta : TE}
/-- raise X(e), X's __init__ keeping sp_exc -/
theorem ps_raiseX {f : Str} {W : WX} {kI : Nat} {fdI : FuncData} {psI : List Str} {pos2 : Pos} (hc : X.calm = true) (T : ExcT X.K X.mg x f) (F1 : FnOk X.prog X.w X.K X.mg X.base CX0 kI (He.ma X.K (He.ga X.K x) "__init__") fdI psI (sp_exc X.K x f)) (b1 : Binds X.K fdI psI []) (hr : Room (kI + 1) X.A) (tk : Takes X W)
    (ha : PA X (e :: es) t) (hg : Gl X x) (hdb : (x == ("__debug__" : Str)) = false := by decide) (he : starEach (e :: es) X.env = (false, eval e X.env) :: starEach es X.env := by rfl) (hpl : (backTo pos (starEach es X.env)).any (·.1) = false := by rfl) :
    PS X (.Raise (some (.Call (.Name x p) (e :: es) [] pos)) none pos2) (fun _ σ H => tMkO (He.ga X.K x) (sp_exc X.K x f) [] t σ H fun cls d H' => W cls d σ H') :=
  ps_raise hc tk (pmk_oex T.o T.i T.t F1 hr b1 .nil (fun _ _ _ _ _ _ _ h => h.elim) hg T.g ha hdb he hpl)
end
end My

end

section
namespace My
open PySem PySem.Spec PyProof.Rows L2
section
variable {σ : L2.St} {H : Hp} {Q : VK} {nx bk ct : L2.St → Hp → Prop} {rt : VK} {t t1 t2 u : TS} {te ta tb tc tv : TE} {c d : TT} {g : TG} {x y v w : V} {K : PySem.W.Frag} {f m : Str} {E : XK}
theorem x_isi {x c : V} {t u : Value} {b : Bool} (hc : ClsV c u) (hx : TyX K H x t) (hk : PySem.W.kitOne K t u = some b) (k : Q (.bl b) H) : rIsi K [x, c] H Q := ⟨x, c, t, u, b, rfl, hc, hx, hk, k⟩
theorem x_dnin (h : ta σ H fun y H1 => tb σ H1 fun x H2 => ∃ a o, x = .ref a ∧ DGet H2 a y o ∧ Q (.bl (!o.isSome)) H2) : tDNotIn ta tb σ H Q := h
theorem x_vei {tt : TA} (h : tt σ H fun vs H1 => ∃ (a C : Addr) (ws : List V), vs = .ref a :: ws ∧ ws.length ≤ 1000 ∧ OexC K C ∧ H1 a = some (exo a C none) ∧ Q .non H1) : tVeI K tt σ H Q := h
theorem x_cat {a b : Addr} {xs ys : List V} (h : H a = some (.lst xs)) (h' : H b = some (.lst ys)) (l : xs.length + ys.length ≤ sizeLine) (k : ∀ p, H p = none → Q (.ref p) (upd H p (.lst (xs ++ ys)))) : rCat (.ref a) (.ref b) H Q := ⟨a, b, xs, ys, rfl, rfl, h, h', l, k⟩
end
end My

end

section
namespace My
open PySem PySem.Spec PyProof.Rows L2
/-- J walks the things ys while G holds; a turn hands on a value, and the heap then, as it tells -/
structure Runs {α : Type} (J : It) (ys : List α) (G : Hp → Prop) (it : Nat → α → Hp → V → Hp → Prop) : Prop where
  go : ∀ i x H, ys[i]? = some x → G H → J.go i H
  stop : ∀ i H, ys.length ≤ i → G H → J.stop i H
  yld : ∀ i x H v H', ys[i]? = some x → G H → J.yld i H v H' → it i x H v H'
section
variable {α : Type} {J : It} {ys : List α} {G : Hp → Prop} {it : Nat → α → Hp → V → Hp → Prop} {g : TG} {tb : TS} {σ : L2.St} {H : Hp} {nx : L2.St → Hp → Prop} {rt : VK}
theorem for_runs (R : Runs J ys G it) (Pv : List α → L2.St → Hp → Prop) (h0 : Pv [] σ H) (hl : ∀ pre post σ H, ys = pre ++ post → Pv pre σ H → G H)
    (hs : ∀ pre x post σ H v H', ys = pre ++ x :: post → Pv pre σ H → it pre.length x H v H' → g v σ H' fun σ2 H2 => tb ⟨Pv (pre ++ [x]), rt, nx, Pv (pre ++ [x])⟩ σ2 H2) (hd : ∀ σ H, Pv ys σ H → nx σ H) :
    ∃ W : Nat → Nat → L2.St → Hp → Prop, (∃ m, W 0 m σ H) ∧ ∀ i m σ H, W i m σ H →
      (J.stop i H ∧ nx σ H) ∨ (J.go i H ∧ ∃ N : L2.St → Hp → Prop, (∀ σ' H', N σ' H' → ∃ m', m' < m ∧ W (i + 1) m' σ' H') ∧ ∀ x H', J.yld i H x H' → g x σ H' fun σ2 H2 => tb ⟨N, rt, nx, N⟩ σ2 H2) := by
  refine ⟨fun i m σ H => m = ys.length - i ∧ i ≤ ys.length ∧ Pv (ys.take i) σ H, ⟨ys.length, by simp, Nat.zero_le _, h0⟩, ?_⟩
  rintro i m σ H ⟨rfl, hi, p⟩
  have q := hl _ (ys.drop i) σ H (List.take_append_drop i ys).symm p
  by_cases hlt : i < ys.length
  · have hx : ys[i]? = some ys[i] := List.getElem?_eq_getElem hlt
    refine .inr ⟨R.go i _ H hx q, Pv (ys.take (i + 1)), fun σ' H' p' => ⟨ys.length - (i + 1), by omega, rfl, hlt, p'⟩, fun v H' y => ?_⟩
    have hy := R.yld i _ H v H' hx q y
    have hlen : (ys.take i).length = i := by rw [List.length_take, Nat.min_eq_left hi]
    have := hs _ _ _ σ H v H' (getElem?_split hx) p (by rw [hlen]; exact hy)
    rw [← take_snoc hx] at this
    exact this
  · have e : i = ys.length := by omega
    subst e
    rw [List.take_length] at p
    exact .inl ⟨R.stop _ H (Nat.le_refl _) q, hd σ H p⟩
theorem lc_runs {tt : TT} {te : TE} {vs : List Nat} {H1 : Hp} {D : Addr} {Qd : Hp → Prop} (R : Runs J ys G it) (Pv : List α → Hp → Prop) (h0 : Pv [] (upd H1 D (.lst []))) (hl : ∀ pre post H, ys = pre ++ post → Pv pre H → G H)
    (hs : ∀ pre x post H v H', ys = pre ++ x :: post → Pv pre H → it pre.length x H v H' → g v (wipe σ vs) H' fun σ2 H2 => wipe σ2 vs = wipe σ vs ∧ tt σ2 H2 fun b H3 =>
      if b = true then te σ2 H3 fun y H4 => ∃ acc, H4 D = some (.lst acc) ∧ acc.length < sizeLine ∧ Pv (pre ++ [x]) (upd H4 D (.lst (acc ++ [y]))) else Pv (pre ++ [x]) H3) (hd : ∀ H, Pv ys H → Qd H) :
    ∃ W : Nat → Nat → Hp → Prop, (∃ m, W 0 m (upd H1 D (.lst []))) ∧ ∀ i m H, W i m H →
      (J.stop i H ∧ Qd H) ∨ (J.go i H ∧ ∃ Nx : Hp → Prop, (∀ H', Nx H' → ∃ m', m' < m ∧ W (i + 1) m' H') ∧ ∀ x H', J.yld i H x H' → g x (wipe σ vs) H' fun σ2 H2 => wipe σ2 vs = wipe σ vs ∧ tt σ2 H2 fun b H3 =>
        if b = true then te σ2 H3 fun y H4 => ∃ acc, H4 D = some (.lst acc) ∧ acc.length < sizeLine ∧ Nx (upd H4 D (.lst (acc ++ [y]))) else Nx H3) := by
  refine ⟨fun i m H => m = ys.length - i ∧ i ≤ ys.length ∧ Pv (ys.take i) H, ⟨ys.length, by simp, Nat.zero_le _, h0⟩, ?_⟩
  rintro i m H ⟨rfl, hi, p⟩
  have q := hl _ (ys.drop i) H (List.take_append_drop i ys).symm p
  by_cases hlt : i < ys.length
  · have hx : ys[i]? = some ys[i] := List.getElem?_eq_getElem hlt
    refine .inr ⟨R.go i _ H hx q, Pv (ys.take (i + 1)), fun H' p' => ⟨ys.length - (i + 1), by omega, rfl, hlt, p'⟩, fun v H' y => ?_⟩
    have hy := R.yld i _ H v H' hx q y
    have hlen : (ys.take i).length = i := by rw [List.length_take, Nat.min_eq_left hi]
    have := hs _ _ _ H v H' (getElem?_split hx) p (by rw [hlen]; exact hy)
    rw [← take_snoc hx] at this
    exact this
  · have e : i = ys.length := by omega
    subst e
    rw [List.take_length] at p
    exact .inl ⟨R.stop _ H (Nat.le_refl _) q, hd H p⟩
end
section
variable {K : PySem.W.Frag} {a b d : Addr} {α : Type} {f : α → V} {ys : List α}
theorem runs_list (f : α → V) (ys : List α) : Runs (Itl K a) ys (fun H => SqL K H a (ys.map f)) (fun _ x H v H' => v = f x ∧ H' = H) where
  go i x H hx q := ⟨_, f x, q, by rw [List.getElem?_map, hx]; rfl⟩
  stop i H hi q := ⟨_, q, by rw [List.length_map]; exact hi⟩
  yld i x H v H' hx q y := by
    obtain ⟨rfl, y⟩ := y
    have := y _ q
    rw [List.getElem?_map, hx] at this
    exact ⟨(Option.some.inj this).symm, rfl⟩
theorem runs_tup (f : α → V) (ys : List α) : Runs (Itt K a) ys (fun H => SqT K H a (ys.map f)) (fun _ x H v H' => v = f x ∧ H' = H) where
  go i x H hx q := ⟨_, f x, q, by rw [List.getElem?_map, hx]; rfl⟩
  stop i H hi q := ⟨_, q, by rw [List.length_map]; exact hi⟩
  yld i x H v H' hx q y := by
    obtain ⟨rfl, y⟩ := y
    have := y _ q
    rw [List.getElem?_map, hx] at this
    exact ⟨(Option.some.inj this).symm, rfl⟩
theorem runs_str (z : Str) : Runs (Its z) z.cps.toList (fun _ => True) (fun _ c H v H' => v = .str ⟨#[c]⟩ ∧ H' = H) where
  go i x H hx q := by
    have := (List.getElem?_eq_some_iff.mp hx).1
    rw [Array.length_toList] at this
    exact this
  stop i H hi q := by rw [Array.length_toList] at hi; exact hi
  yld i x H v H' hx q y := by
    obtain ⟨rfl, c, e, rfl⟩ := y
    rw [← Array.getElem?_toList, hx] at e
    cases e
    exact ⟨rfl, rfl⟩
end
end My

end

section
namespace My
open PySem PySem.Spec PyProof.Rows L2
section
variable {σ : L2.St} {H : Hp} {Q : VK} {nx bk ct : L2.St → Hp → Prop} {rt : VK} {te to : TE} {ta : TA} {K : PySem.W.Frag} {x f : Str} {v : V}
theorem x_mkO {C : Addr} {sp : Sp} {dvs : List V} {Q : XK} (h : ta σ H fun vs H1 => vs.length ≤ 1000 ∧ ∀ a, H1 a = none → sp (.ref a :: (vs ++ dvs)) (upd H1 a (exo a C none))
  (fun v H2 => v = .non ∧ ∃ (d : Addr) (fs : List (Str × V)), H2 a = some (exo a C (some d)) ∧ H2 d = some (exd d fs) ∧ H1 d = none ∧ Q (.ref C) (some d) (upd (del H2 a) d (.xd fs))) (fun _ _ _ => False)) : tMkO C sp dvs ta σ H Q := h
/-- an exception with one field is made and raised -/
theorem x_mk1 {Q : XK} (h : ∀ d, H d = none → Q (.ref (He.ga K x)) (some d) (upd H d (.xd [(f, v)]))) : [v].length ≤ 1000 ∧ ∀ a, H a = none → sp_exc K x f (.ref a :: ([v] ++ [])) (upd H a (exo a (He.ga K x) none))
  (fun v H2 => v = .non ∧ ∃ (d : Addr) (fs : List (Str × V)), H2 a = some (exo a (He.ga K x) (some d)) ∧ H2 d = some (exd d fs) ∧ H d = none ∧ Q (.ref (He.ga K x)) (some d) (upd (del H2 a) d (.xd fs))) (fun _ _ _ => False) := by
  refine ⟨Nat.le_of_ble_eq_true rfl, fun a ha => ⟨a, v, rfl, upd_same, fun dx hdx hne => ?_⟩⟩
  have hd : H dx = none := (upd_ne hne).symm.trans hdx
  refine ⟨rfl, dx, [(f, v)], upd_same, by rw [upd_ne hne, upd_same], hd, ?_⟩
  have e : upd (del (upd (upd (upd H a (exo a (He.ga K x) none)) dx (exd dx [(f, v)])) a (exo a (He.ga K x) (some dx))) a) dx (.xd [(f, v)]) = upd H dx (.xd [(f, v)]) := by
    funext b
    by_cases h1 : b = dx
    · subst h1; rw [upd_same, upd_same]
    · rw [upd_ne h1, upd_ne h1]
      by_cases h2 : b = a
      · subst h2; rw [del_same, ha]
      · rw [del_ne h2, upd_ne h2, upd_ne h1, upd_ne h2]
  rw [e]
  exact h dx hd
theorem x_nF {A B : Prop} (h : A) : if (!false) = true then A else B := iteT h
theorem x_nT {A B : Prop} (h : B) : if (!true) = true then A else B := iteF h
theorem x_itup {R} (h : te σ H fun x H1 => ∃ a, x = .ref a ∧ (∃ xs, SqT K H1 a xs) ∧ R (Itt K a) H1) : iTup K te σ H R := h
theorem x_itupE {a : Addr} {xs : List V} {R : Addr → Prop} (s : SqT K H a xs) (h : R a) : ∃ b, V.ref a = .ref b ∧ (∃ xs, SqT K H b xs) ∧ R b := ⟨a, rfl, ⟨xs, s⟩, h⟩
theorem x_ost {f : Str} (h : te σ H fun y H1 => to σ H1 fun x H2 => ∃ a C : Addr, x = .ref a ∧ OexC K C ∧ PySem.W.findIn K (.ref C) f = some none ∧
  ((H2 a = some (exo a C none) ∧ ∀ dx, H2 dx = none → dx ≠ a → nx σ (upd (upd H2 dx (exd dx [(f, y)])) a (exo a C (some dx)))) ∨
    ∃ (dx : Addr) (fs : List (Str × V)), H2 a = some (exo a C (some dx)) ∧ H2 dx = some (exd dx fs) ∧ fs.length ≤ 900 ∧ nx σ (upd H2 dx (exd dx ((f, y) :: fs))))) : tOst K f to te ⟨nx, rt, bk, ct⟩ σ H := h
end
section
variable {K : PySem.W.Frag} {H H' : Hp}
theorem sql_ty {a : Addr} {xs : List V} (h : SqL K H a xs) : TyX K H (.ref a) (.type "list") := by
  rcases h with (e | ⟨o, e⟩) | ⟨o, its, n, e, c, _⟩
  · exact .base (.lst e)
  · exact .base (.frz e)
  · exact .kList e c
theorem sqt_ty {a : Addr} {xs : List V} (h : SqT K H a xs) : TyX K H (.ref a) (.type "tuple") := by
  rcases h with (e | ⟨o, e⟩) | ⟨o, its, n, e, c, _⟩
  · exact .base (.tup e)
  · exact .fTuple e
  · exact .kTuple e c
end
end My

end

end

section
/-! zip(a, b, strict=True): next, walked by the library's walker; the two draws are told to it -/
namespace ZN
open PySem
section
variable {prog : Program} {w : World} {A : Around} {E : Value → Shared → Prop} {s : Shared} {it : Addr} {fp : List Addr} {n i : Nat} {P : Nat → Value → Prop} {St : Nat → Heap → Prop}
/-- a strict draw that finds something -/
theorem more {Q : Option Value → Shared → Prop} (D : Draws prog w A it fp n P St) (hi : i < n) (st : St i s.heap)
    (hQ : ∀ x h' tk, P i x → St (i + 1) h' → Heap.SameBut it s.heap h' → Q (some x) { s with heap := h', toks := tk }) : wpAny (model prog w) A (Builtin.SmallTypes.nextOrEnd (.ref it)) Q E s :=
  wpAny_bind (wpAny_attempt (D.item i s _ _ hi st fun x h' tk hx st' sb => wpAny_pure (hQ x h' tk hx st' sb)))
/-- .. and one that finds the end -/
theorem over {Q : Option Value → Shared → Prop} (D : Draws prog w A it fp n P St) (st : St n s.heap)
    (hQ : ∀ h', Heap.ExtBut it s.heap h' → Q none { s with heap := h' }) : wpAny (model prog w) A (Builtin.SmallTypes.nextOrEnd (.ref it)) Q E s := by
  refine wpAny_bind (wpAny_attempt (D.done s _ _ st fun h' e far stop => ?_))
  refine wpAny_bind (wpAny_isInstance (b := true) stop isSubtype_stop ?_)
  exact wpAny_pure (hQ h' far)
end
/-- the zip object, strict -/
def At (h : Heap) (z pI pO : Addr) (f : Value) : Prop := h.get? z = some { cls := .type "zip", dict := none, data := .fields #[f, .bool false, .bool true, .ref pI, .ref pO], slots := #[] }
section
variable {prog : Program} {w : World} {A : Around} {E : Value → Shared → Prop} {s : Shared} {z pI pO j k : Addr} {fa fb : List Addr} {n m i : Nat} {P1 P2 : Nat → Value → Prop} {S1 S2 : Nat → Heap → Prop} {u v : Value}
theorem put {Q : Unit → Shared → Prop} {x : Value} {c : Nat} (hO : IsTupOf2 s.heap pO u v)
    (h : ∀ h', IsTupOf2 h' pO (if c = 0 then x else u) (if c = 1 then x else v) → Heap.SameBut pO s.heap h' → Q () { s with heap := h' }) (hc : c = 0 ∨ c = 1 := by decide) : wpAny (model prog w) A (updateSeq pO (·.setIfInBounds c x)) Q E s := by
  refine updateSeq_IsTupOf2 hO fun h' e sb => h h' ?_ sb
  rcases hc with rfl | rfl <;> exact e
theorem told {h : Heap} {T : Addr} (e : At h z pI pO .ellipsis) : At ((h.update z (Obj.mapFields fun x => x.setIfInBounds 0 (rawInt T))).update z (Obj.mapFields fun x => x.setIfInBounds 1 (Value.bool false))) z pI pO (rawInt T) ∧
    ∀ c o, c ≠ z → h.get? c = some o → ((h.update z (Obj.mapFields fun x => x.setIfInBounds 0 (rawInt T))).update z (Obj.mapFields fun x => x.setIfInBounds 1 (Value.bool false))).get? c = some o := by
  have a := Heap.get?_update_self (Obj.mapFields fun x => x.setIfInBounds 0 (rawInt T)) e (Obj.isFreed_of_fields (Obj.data_mapFields rfl _))
  have b := Heap.get?_update_self (Obj.mapFields fun x => x.setIfInBounds 1 (Value.bool false)) a (Obj.isFreed_of_fields (Obj.data_mapFields rfl _))
  exact ⟨b, fun c o n q => ((Heap.SameBut.update ..).extBut _ _ n) ((Heap.SameBut.update ..).extBut _ _ n q)⟩
/-- next of a strict zip, both have an item -/
theorem pair {Q : Value → Shared → Prop} (S : ZipSep2 z pI pO j k fa fb) (D1 : Draws prog w A j fa n P1 S1) (D2 : Draws prog w A k fb m P2 S2)
    (hz : At s.heap z pI pO .none) (hI : IsTupOf2 s.heap pI (.ref j) (.ref k)) (hO : IsTupOf2 s.heap pO u v) (q1 : S1 i s.heap) (q2 : S2 i s.heap) (l1 : i < n) (l2 : i < m)
    (hQ : ∀ x y h' t (T : Addr), P1 i x → P2 i y → At h' z pI pO (rawInt T) → IsTupOf2 h' pO x y → S1 (i + 1) h' → S2 (i + 1) h' → IsTupOf2 h' T x y → s.heap.objs.size ≤ T →
      (∀ c o, c ∉ [z, pO, j, k] → s.heap.get? c = some o → h'.get? c = some o) → Q (.ref T) { s with heap := h', toks := t }) :
    wpAny (model prog w) A (Builtin.«zip.__next__» ⟨[.ref z], []⟩) (fun r s' => ∃ y, r = .done (.ret y) ∧ Q y s') E s := by
  obtain ⟨hp, g, d, t, os⟩ := s
  unfold At at hz
  unfold Builtin.«zip.__next__»
  wp_walk using wpAny_setField_rec hz (by simp)
  intro h0 z0 b0
  dsimp only at z0 b0 ⊢
  wp_walk using wpAny_onRaise, more D1 l1 (D1.over q1 b0 S.zf1)
  intro x h1 t1 px s1 b1
  dsimp only at b1 ⊢
  have o1 : IsTupOf2 h1 pO u v := b1.extBut _ _ S.Ti1 (b0.extBut _ _ S.TOz hO)
  wp_walk using put (s := ⟨h1, g, d, t1, os⟩) o1
  intro h2 o2 b2
  replace o2 : IsTupOf2 h2 pO x v := o2
  dsimp only at b2 ⊢
  have q2' : S2 i h2 := D2.over (D2.over (D2.over q2 b0 S.zf2) b1 S.sep1_2) b2 S.Tf2
  wp_walk using wpAny_onRaise, more D2 l2 q2'
  intro y h3 t3 py s3 b3
  dsimp only at b3 ⊢
  have o3 : IsTupOf2 h3 pO x v := b3.extBut _ _ S.Ti2 o2
  wp_walk using put (s := ⟨h3, g, d, t3, os⟩) o3
  intro h4 o4 b4
  replace o4 : IsTupOf2 h4 pO x y := o4
  dsimp only at b4 ⊢
  have z4 : At h4 z pI pO .ellipsis := b4.extBut _ _ S.TOz.symm (b3.extBut _ _ S.zi2 (b2.extBut _ _ S.TOz.symm (b1.extBut _ _ S.zi1 z0)))
  have z5 : At (h4.push { cls := .type "tuple", data := .seq #[x, y] }) z pI pO .ellipsis := Heap.get?_push_of_some _ z4
  wp_walk using wpAny_setField_rec z5 (by simp)
  generalize e6 : (h4.push { cls := .type "tuple", data := .seq #[x, y].toList.toArray }) = h5
  have z5 : At h5 z pI pO .ellipsis := e6 ▸ z5
  have T5 : IsTupOf2 h5 h4.objs.size x y := e6 ▸ Heap.get?_push_size _ rfl
  obtain ⟨z7, b7⟩ := told (T := h4.objs.size) z5
  generalize ((h5.update z (Obj.mapFields fun x => x.setIfInBounds 0 (rawInt h4.objs.size))).update z (Obj.mapFields fun x => x.setIfInBounds 1 (Value.bool false))) = h7 at z7 b7 ⊢
  have up : ∀ c o, c ≠ z → h4.get? c = some o → h7.get? c = some o := fun c o n e => b7 c o n (e6 ▸ Heap.get?_push_of_some _ e)
  have far : h4.objs.size ≠ z := Nat.ne_of_gt (Heap.lt_size z4)
  have sz : hp.objs.size ≤ h4.objs.size := Nat.le_of_eq (by rw [b4.1, b3.1, b2.1, b1.1, b0.1])
  refine ⟨_, rfl, hQ x y h7 t3 h4.objs.size px py z7 (up _ _ S.TOz o4) ?_ ?_ (b7 _ _ far T5) sz fun c o n e => ?_⟩
  · exact D1.frame _ _ _ (D1.over (D1.over (D1.over s1 b2 S.Tf1) b3 S.sep2_1) b4 S.Tf1) fun b hb o => up b o fun q => S.zf1 (q ▸ hb)
  · exact D2.frame _ _ _ (D2.over s3 b4 S.Tf2) fun b hb o => up b o fun q => S.zf2 (q ▸ hb)
  · simp only [List.mem_cons, List.not_mem_nil, or_false, not_or] at n
    obtain ⟨n1, n2, n3, n4⟩ := n
    exact up c o n1 (b4.extBut _ _ n2 (b3.extBut _ _ n4 (b2.extBut _ _ n2 (b1.extBut _ _ n3 (b0.extBut _ _ n1 e)))))
/-- .. and both have none -/
theorem ends {Q : PySem.Fin → Shared → Prop} (hh : A.handled = none) (S : ZipSep2 z pI pO j k fa fb) (D1 : Draws prog w A j fa n P1 S1) (D2 : Draws prog w A k fb n P2 S2)
    (hz : At s.heap z pI pO .none) (hI : IsTupOf2 s.heap pI (.ref j) (.ref k)) (hO : IsTupOf2 s.heap pO u v) (q1 : S1 n s.heap) (q2 : S2 n s.heap)
    (hE : ∀ h' e, (∀ c o, c ∉ [z, pO, j, k] → s.heap.get? c = some o → h'.get? c = some o) → (∃ o, h'.get? e = some o ∧ o.cls = .type "StopIteration") → E (.ref e) { s with heap := h' }) :
    wpAny (model prog w) A (Builtin.«zip.__next__» ⟨[.ref z], []⟩) Q E s := by
  obtain ⟨hp, g, d, t, os⟩ := s
  unfold At at hz
  unfold Builtin.«zip.__next__»
  wp_walk using wpAny_setField_rec hz (by simp)
  intro h0 z0 b0
  dsimp only at z0 b0 ⊢
  wp_walk using wpAny_onRaise, over D1 (D1.over q1 b0 S.zf1)
  intro h1 b1
  dsimp only at b1 ⊢
  have z1 : At h1 z pI pO .ellipsis := b1 _ _ S.zi1 z0
  unfold At at z1
  wp_walk using wpAny_setField_rec z1 (by simp)
  intro h2 z2 b2
  dsimp only at b2 ⊢
  have q2' : S2 n h2 := D2.over (D2.frame _ _ _ (D2.over q2 b0 S.zf2) fun b hb o e => b1 b o (fun q => S.sep1_2 (q ▸ hb)) e) b2 S.zf2
  wp_walk using over D2 q2'
  intro h3 b3
  dsimp only at b3 ⊢
  wp_walk
  unfold raiseNew
  wp_walk
  refine hE _ _ (fun c o n e => ?_) ⟨_, Heap.get?_push_size _ rfl, rfl⟩
  simp only [List.mem_cons, List.not_mem_nil, or_false, not_or] at n
  obtain ⟨n1, n2, n3, n4⟩ := n
  exact Heap.get?_push_of_some _ (Heap.get?_push_of_some _ (b3 _ _ n4 (b2.extBut _ _ n1 (b1 _ _ n3 (b0.extBut _ _ n1 e)))))
end
end ZN

end

section
/-! zip(a, b), zip(a, b, strict=True) over lists, tuples and texts, as sources of the hand layer -/
namespace ZN
open PySem
/-- a zip object, strict or not -/
def Zat (b : Bool) (h : Heap) (z pI pO : Addr) (f : Value) : Prop := h.get? z = some { cls := .type "zip", dict := none, data := .fields #[f, .bool false, .bool b, .ref pI, .ref pO], slots := #[] }
section
variable {prog : Program} {w : World} {A : Around} {E : Value → Shared → Prop} {s : Shared} {z pI pO j k : Addr} {fa fb : List Addr} {n m i : Nat} {P1 P2 : Nat → Value → Prop} {S1 S2 : Nat → Heap → Prop} {u v : Value} {b : Bool}
/-- an item of each -/
theorem both {Q : Value → Shared → Prop} (S : ZipSep2 z pI pO j k fa fb) (D1 : Draws prog w A j fa n P1 S1) (D2 : Draws prog w A k fb m P2 S2)
    (hz : Zat b s.heap z pI pO .none) (hI : IsTupOf2 s.heap pI (.ref j) (.ref k)) (hO : IsTupOf2 s.heap pO u v) (q1 : S1 i s.heap) (q2 : S2 i s.heap) (l1 : i < n) (l2 : i < m)
    (hQ : ∀ x y h' t (T : Addr), P1 i x → P2 i y → Zat b h' z pI pO (rawInt T) → IsTupOf2 h' pO x y → S1 (i + 1) h' → S2 (i + 1) h' → IsTupOf2 h' T x y → s.heap.objs.size ≤ T →
      (∀ c o, c ∉ [z, pO, j, k] → s.heap.get? c = some o → h'.get? c = some o) → Q (.ref T) { s with heap := h', toks := t }) :
    wpAny (model prog w) A (Builtin.«zip.__next__» ⟨[.ref z], []⟩) (fun r s' => ∃ y, r = .done (.ret y) ∧ Q y s') E s := by
  cases b with
  | true => exact pair S D1 D2 hz hI hO q1 q2 l1 l2 hQ
  | false =>
    refine zipD2_next_item S D1 D2 hz hI hO q1 q2 l1 l2 fun x y h' t a1 a2 a3 a4 a5 a6 a7 _ a8 => hQ x y h' t _ a1 a2 a3 a4 a5 a6 a7 (Nat.le_refl _) fun c o n e => ?_
    simp only [List.mem_cons, List.not_mem_nil, or_false, not_or] at n
    exact a8 c o n.1 n.2.1 n.2.2.1 n.2.2.2 e
/-- both are at their ends -/
theorem over2 {Q : PySem.Fin → Shared → Prop} (hh : A.handled = none) (S : ZipSep2 z pI pO j k fa fb) (D1 : Draws prog w A j fa n P1 S1) (D2 : Draws prog w A k fb n P2 S2)
    (hz : Zat b s.heap z pI pO .none) (hI : IsTupOf2 s.heap pI (.ref j) (.ref k)) (hO : IsTupOf2 s.heap pO u v) (q1 : S1 n s.heap) (q2 : S2 n s.heap)
    (hE : ∀ h' tk e, (∀ c o, c ∉ [z, pO, j, k] → s.heap.get? c = some o → h'.get? c = some o) → (∃ o, h'.get? e = some o ∧ o.cls = .type "StopIteration") → E (.ref e) { s with heap := h', toks := tk }) :
    wpAny (model prog w) A (Builtin.«zip.__next__» ⟨[.ref z], []⟩) Q E s := by
  cases b with
  | true => exact ends hh S D1 D2 hz hI hO q1 q2 fun h' e => hE h' s.toks e
  | false =>
    refine zipD2_next_end S D1 D2 hz hI hO q1 q2 (Nat.le_refl _) (Nat.le_refl _) (.inl rfl) fun h' tk e a he => hE h' tk e (fun c o n q => ?_) he
    simp only [List.mem_cons, List.not_mem_nil, or_false, not_or] at n
    exact a c o n.1 n.2.1 n.2.2.1 n.2.2.2 q
theorem zat_is (h : Zat b s.heap z pI pO u) : s.TypeIs (.ref z) "zip" := ⟨_, h, rfl⟩
/-- next(zip) as a walk asks it -/
theorem nextIs {Q : Option Value → Shared → Prop} (hz : Zat b s.heap z pI pO u)
    (h : wpAny (model prog w) A.in1 (Builtin.«zip.__next__» ⟨[.ref z], []⟩) (fun r s' => ∃ y, r = .done (.ret y) ∧ Q (some y) s') (fun e s' => (∃ a o, e = .ref a ∧ s'.heap.get? a = some o ∧ o.cls = .type "StopIteration") ∧ Q none s') s) :
    wpAny (model prog w) A (pyNext (.ref z)) Q E s := by
  unfold pyNext
  refine wpAny_bind (wpAny_attempt (wpAny_callSpecial?_slot (name := Str.ofString "__next__") (zat_is hz) F.slot_zip_next (wpAny_call_entry F.slot_zip_next (zat_is hz) F.entry_zip_next (wpAny_mono h (fun r s' ⟨y, e, q⟩ => ⟨y, e, wpAny_pure q⟩) fun e s' ⟨⟨a, o, ea, ho, hc⟩, q⟩ => ?_) (F.args_zip_next_1 _))))
  subst ea
  exact wpAny_bind (wpAny_isInstance (b := true) ⟨o, ho, hc⟩ isSubtype_stop (wpAny_pure q))
theorem letGo {elts : List Expr} {x1} {pos : Pos} {T : Addr} {Q : Unit → Shared → Prop} (hz : Zat b s.heap z pI pO (rawInt T)) (hQ : ∀ h', Zat b h' z pI pO .none → Heap.SameBut z s.heap h' → Q () { s with heap := h' }) :
    wpAny (model prog w) A (letOwnedTupleGo (.Tuple elts x1 pos) (.ref z) (.ref T)) Q E s := by
  cases b with
  | false => exact wpAny_letOwnedTupleGo_zip hz hQ
  | true =>
    unfold Zat at hz
    unfold letOwnedTupleGo
    refine wpAny_bind (wpAny_load hz ?_)
    dsimp only
    rw [if_pos (by simp)]
    exact wpAny_bind (wpAny_rule (wpAny_setField_rec hz (by simp) hQ))
theorem selfIs {Q : Value → Shared → Prop} (hz : Zat b s.heap z pI pO u) (h : Q (.ref z) s) : wpAny (model prog w) A (pyIter (.ref z)) Q E s := by
  refine wpAny_pyIter_slot (zat_is hz) F.slot_zip_iter (wpAny_call_entry F.slot_zip_iter (zat_is hz) F.entry_zip_iter ?_ (F.args_zip_iter_1 _))
  show wpAny _ _ (ret (.ref z)) _ _ s
  exact wpAny_pure ⟨_, rfl, "zip", _, zat_is hz, F.slot_zip_next.lookup, h⟩
end
/-! ### zip(a, b, strict=True) made -/
namespace F
theorem ct (a b : Value) : checkTypeCall "zip" ⟨[a, b], [(Str.ofString "strict", .bool true)]⟩ = pure () := by kernel_rfl
theorem cn (a b : Value) : checkBuiltinCall "zip.__new__" ⟨[.type "zip", a, b], [(Str.ofString "strict", .bool true)]⟩ = pure () := by kernel_rfl
theorem oi (o a b : Value) : argsOk "object.__init__" ⟨[o, a, b], [(Str.ofString "strict", .bool true)]⟩ := by unfold argsOk; kernel_rfl
end F
/-- the heap with the zip object last -/
def made (h : Heap) (o1 o2 : Obj) : Heap := (gzO2 h o1 o2).push { cls := .type "zip", data := .fields #[.none, .bool false, .bool true, .ref ((h.push o1).push o2).objs.size, .ref (gzT2 h o1 o2).objs.size] }
theorem newIs {v1 v2 : Value} {o1 o2 : Obj} {H1 H2 : Heap → Prop} (B1 : Begins v1 o1 H1) (B2 : Begins v2 o2 H2) :
    Meets (Builtin.«zip.__new__» ⟨[.type "zip", v1, v2], [(Str.ofString "strict", .bool true)]⟩) (fun _ R s => (H1 s.heap ∧ H2 s.heap) ∧ R (.ok (.ret (.ref (gzO2 s.heap o1 o2).objs.size))) { s with heap := made s.heap o1 o2 }) :=
  .of_wp fun prog w A R s ⟨⟨a, b⟩, h⟩ => by
    obtain ⟨hp, g, d, tk, os⟩ := s
    have hsub := sub_zip
    have first : ∀ {A' : Around} {E : Value → Shared → Prop} {Q : Value → Shared → Prop}, Q (.ref hp.objs.size) ⟨hp.push o1, g, d, tk, os⟩ → wpAny (model prog w) A' (pyIter v1) Q E ⟨hp, g, d, tk, os⟩ := fun q => B1.iter prog w _ _ ⟨hp, g, d, tk, os⟩ _ a q
    have second : ∀ {A' : Around} {E : Value → Shared → Prop} {Q : Value → Shared → Prop}, Q (.ref (hp.push o1).objs.size) ⟨(hp.push o1).push o2, g, d, tk, os⟩ → wpAny (model prog w) A' (pyIter v2) Q E ⟨hp.push o1, g, d, tk, os⟩ := fun q => B2.iter prog w _ _ ⟨hp.push o1, g, d, tk, os⟩ _ (B2.keeps _ _ b fun b o' e => Heap.get?_push_of_some _ e) q
    have k1 : (Str.ofString "strict" != ("strict" : Str)) = false := by decide +kernel
    have k2 : (Str.ofString "strict" == ("strict" : Str)) = true := by decide +kernel
    wp_walk using first, second
    exact ⟨_, rfl, h⟩
/-! ### what is zipped -/
inductive Sk where | l (a : Addr) | t (a : Addr) | s (x : Str)
def Sk.v : Sk → L2.V | .l a => .ref a | .t a => .ref a | .s x => .str x
/-- the source gives xs -/
def Sk.has (K : PySem.W.Frag) (H : L2.Hp) : Sk → List L2.V → Prop
  | .l a, xs => L2.SqL K H a xs
  | .t a, xs => L2.SqT K H a xs
  | .s x, xs => xs = x.cps.toList.map fun c => L2.V.str ⟨#[c]⟩
def Sk.own : Sk → List Addr | .l a => [a] | .t a => [a] | .s _ => []
/-- its iterator at j, at turn i -/
def Sk.it : Sk → Addr → Nat → Heap → Prop
  | .l a, j, i, h => h.IsListIter j a i
  | .t a, j, i, h => h.IsTupleIter j a i
  | .s x, j, i, h => ∃ t, h.IsStrIter j (strIterType x) x t i
theorem Sk.at_ {k : Sk} {j : Addr} {i : Nat} {h h' : Heap} (q : k.it j i h) (e : ∀ o, h.get? j = some o → h'.get? j = some o) : k.it j i h' := by
  cases k with
  | l a => exact Heap.IsListIter.at q e
  | t a => exact Heap.IsTupleIter.at q e
  | s x =>
    obtain ⟨t, o, ho, r⟩ := q
    exact ⟨t, o, e o ho, r⟩
theorem Sk.cell {k : Sk} {j : Addr} {i : Nat} {h : Heap} (q : k.it j i h) : ∃ o, h.get? j = some o ∧ ∀ v, o.data ≠ .cell v := by
  cases k with
  | l a => obtain ⟨o, e, _, d⟩ := q; exact ⟨o, e, fun v z => by rw [d] at z; cases z⟩
  | t a => obtain ⟨o, e, _, d⟩ := q; exact ⟨o, e, fun v z => by rw [d] at z; cases z⟩
  | s x => obtain ⟨t, o, e, _, d⟩ := q; exact ⟨o, e, fun v z => by rw [d] at z; cases z⟩
open L2 in
theorem vals_at {xs : List V} {us : List Value} (r : Vals xs us) {i : Nat} {u : Value} (e : us[i]? = some u) : ∃ x, xs[i]? = some x ∧ RelV x u := by
  have h : i < xs.length := by rw [r.length]; exact (List.getElem?_eq_some_iff.mp e).1
  obtain ⟨u', e', q⟩ := r.get (List.getElem?_eq_getElem h)
  rw [e] at e'
  cases e'
  exact ⟨_, List.getElem?_eq_getElem h, q⟩
section
open L2
variable {X : Cx} {pins : List (Addr × Obj)} {σ : L2.St} {H : Hp} {s : Shared} {k : Sk} {xs : List V} {j : Addr} {i : Nat}
/-- what the iterator draws, as things stand -/
theorem Sk.draws (I : Inv X pins σ H s) (h : k.has X.K H xs) {A : Around} (hh : A.handled = none) (ne : ∀ a ∈ k.own, a ≠ j) (q : k.it j i s.heap) :
    ∃ (P : Nat → Value → Prop) (St : Nat → Heap → Prop), Draws X.prog X.w A j (j :: k.own) xs.length P St ∧ St i s.heap ∧ (∀ i v, P i v → ∃ x, xs[i]? = some x ∧ RelV x v) ∧ ∀ i h, St i h → k.it j i h := by
  cases k with
  | l a =>
    obtain ⟨its, r, p, _⟩ := I.list h
    have D := Draws.list (prog := X.prog) (w := X.w) hh j a (ne a (List.mem_singleton.mpr rfl)) its.toArray
    rw [List.size_toArray, ← r.length] at D
    exact ⟨_, _, D, ⟨q, p.isList⟩, fun i v e => vals_at r (by simpa using e), fun _ _ z => z.1⟩
  | t a =>
    obtain ⟨its, r, p, _⟩ := I.tuple h
    have D := Draws.tuple (prog := X.prog) (w := X.w) hh j a (ne a (List.mem_singleton.mpr rfl)) its.toArray
    rw [List.size_toArray, ← r.length] at D
    exact ⟨_, _, D, ⟨q, p⟩, fun i v e => vals_at r (by simpa using e), fun _ _ z => z.1⟩
  | s x =>
    obtain rfl : xs = _ := h
    obtain ⟨t, q⟩ := q
    have D := Draws.text (prog := X.prog) (w := X.w) hh j x t
    have l : (x.cps.toList.map fun c => L2.V.str ⟨#[c]⟩).length = x.cps.size := by simp
    rw [← l] at D
    refine ⟨_, _, D, q, fun i v ⟨c, u, e, z⟩ => ⟨.str ⟨#[c]⟩, ?_, u, z⟩, fun _ _ z => ⟨t, z⟩⟩
    rw [List.getElem?_map, Array.getElem?_toList, e]
    rfl
theorem Sk.inj {ys : List V} (I : Inv X pins σ H s) (h : k.has X.K H xs) (h' : k.has X.K H ys) : xs = ys := by
  cases k with
  | l a => exact I.list_inj h h'
  | t a => exact I.tuple_inj h h'
  | s x => exact (show xs = _ from h).trans (show ys = _ from h').symm
end
/-- the pairs of two sources, as they stand at each turn -/
def Itzz (K : PySem.W.Frag) (k1 k2 : Sk) : L2.It :=
  ⟨fun i H => ∃ xs ys x y, k1.has K H xs ∧ k2.has K H ys ∧ xs[i]? = some x ∧ ys[i]? = some y,
   fun i H v H' => ∃ T x y, v = .ref T ∧ H T = none ∧ H' = L2.upd H T (.tup [x, y]) ∧ (∀ xs, k1.has K H xs → xs[i]? = some x) ∧ ∀ ys, k2.has K H ys → ys[i]? = some y,
   fun i H => ∃ xs ys, k1.has K H xs ∧ k2.has K H ys ∧ xs.length = i ∧ ys.length = i⟩
open L2 in
theorem turnZ {P : Program} {w : World} {K : PySem.W.Frag} {elts : List Expr} {kk : Nat} {tpos : Pos} (b : Bool) {k1 k2 : Sk} {z pI pO j1 j2 : Addr} (S : ZipSep2 z pI pO j1 j2 (j1 :: k1.own) (j2 :: k2.own)) (n1 : ∀ a ∈ k1.own, a ≠ j1) (n2 : ∀ a ∈ k2.own, a ≠ j2) :
    Turn P w K (.Tuple elts kk tpos) (Itzz K k1 k2) [z, pI, pO, j1, j2] z (fun i h => Zat b h z pI pO .none ∧ IsTupOf2 h pI (.ref j1) (.ref j2) ∧ (∃ u v, IsTupOf2 h pO u v) ∧ k1.it j1 i h ∧ k2.it j2 i h) where
  mem := List.mem_cons_self
  obj := fun i h ⟨a1, a2, ⟨u, v, a3⟩, a4, a5⟩ c hc => by
    simp only [List.mem_cons, List.not_mem_nil, or_false] at hc
    rcases hc with e | e | e | e | e <;> rw [e]
    · exact ⟨_, a1, fun v z => nomatch z⟩
    · exact ⟨_, a2, fun v z => nomatch z⟩
    · exact ⟨_, a3, fun v z => nomatch z⟩
    · exact Sk.cell a4
    · exact Sk.cell a5
  keep := fun i h h' ⟨a1, a2, ⟨u, v, a3⟩, a4, a5⟩ k => ⟨k z (by simp) _ a1, k pI (by simp) _ a2, ⟨u, v, k pO (by simp) _ a3⟩, Sk.at_ a4 fun o e => k j1 (by simp) o e, Sk.at_ a5 fun o e => k j2 (by simp) o e⟩
  item := by
    rintro X rfl rfl rfl hc i pins s σ H E I hf ⟨a1, a2, ⟨u, v, a3⟩, a4, a5⟩ ⟨xs, ys, x, y, hx, hy, ex, ey⟩
    obtain ⟨P1, S1, D1, q1, p1, r1⟩ := Sk.draws I hx (A := X.A.in1) (I.ok.hd hc) n1 a4
    obtain ⟨P2, S2, D2, q2, p2, r2⟩ := Sk.draws I hy (A := X.A.in1) (I.ok.hd hc) n2 a5
    refine nextIs a1 (both S D1 D2 a1 a2 a3 q1 q2 (List.getElem?_eq_some_iff.mp ex).1 (List.getElem?_eq_some_iff.mp ey).1 fun cx cy h' tk T g1 g2 g3 g4 g5 g6 g7 lT g8 => ⟨_, rfl, letGo g3 fun h'' g9 sb => ?_⟩)
    obtain ⟨x', ex', rx⟩ := p1 _ _ g1
    obtain ⟨y', ey', ry⟩ := p2 _ _ g2
    have nT : H T = none := I.hok.fresh lT
    have far : ∀ c ∈ [z, pI, pO, j1, j2], c < s.heap.objs.size := fun c hc => by
      simp only [List.mem_cons, List.not_mem_nil, or_false] at hc
      rcases hc with e | e | e | e | e <;> rw [e]
      · exact Heap.lt_size a1
      · exact Heap.lt_size a2
      · exact Heap.lt_size a3
      · obtain ⟨o, e, _⟩ := Sk.cell a4; exact Heap.lt_size e
      · obtain ⟨o, e, _⟩ := Sk.cell a5; exact Heap.lt_size e
    have nTz : T ≠ z := fun e => Nat.lt_irrefl _ (Nat.lt_of_lt_of_le (far z (by simp)) (e ▸ lT))
    have old : ∀ c o, c ∉ [z, pI, pO, j1, j2] → s.heap.get? c = some o → h''.get? c = some o := fun c o n e => (sb.2 c fun q => n (q ▸ List.mem_cons_self)).trans (g8 c o (fun q => n (by
      simp only [List.mem_cons, List.not_mem_nil, or_false] at q ⊢
      rcases q with q | q | q | q
      · exact .inl q
      · exact .inr (.inr (.inl q))
      · exact .inr (.inr (.inr (.inl q)))
      · exact .inr (.inr (.inr (.inr q))))) e)
    have J : Inv X pins σ (upd H T (.tup [x', y'])) { s with heap := h'', toks := tk } := I.turnedNew (ch := [z, pI, pO, j1, j2]) old hf lT ⟨by show 2 ≤ sizeLine; decide, [cx, cy], .cons rx (.cons ry .nil), _, (sb.2 T nTz).trans g7, rfl, _, rfl⟩
    refine ⟨.ref T, _, J, rfl, ⟨T, x', y', rfl, nT, rfl, fun l hl => by rw [Sk.inj I hl hx]; exact ex', fun l hl => by rw [Sk.inj I hl hy]; exact ey'⟩, ⟨g9, (sb.2 _ S.TIz).trans (g8 _ _ (fun q => ?_) a2), ⟨cx, cy, (sb.2 _ S.TOz).trans g4⟩, Sk.at_ (r1 _ _ g5) fun o e => (sb.2 _ S.zi1.symm).trans e, Sk.at_ (r2 _ _ g6) fun o e => (sb.2 _ S.zi2.symm).trans e⟩, fun c hc => ?_⟩
    · simp only [List.mem_cons, List.not_mem_nil, or_false] at q
      rcases q with q | q | q | q
      · exact S.TIz q
      · exact S.TITO q
      · exact S.TIi1 q
      · exact S.TIi2 q
    · rw [upd_ne fun (e : c = T) => Nat.lt_irrefl _ (Nat.lt_of_lt_of_le (far c hc) (e ▸ lT))]
      exact (hf c hc).1
  done := by
    rintro X rfl rfl rfl hc i pins s σ H E I hf ⟨a1, a2, ⟨u, v, a3⟩, a4, a5⟩ ⟨xs, ys, hx, hy, ex, ey⟩
    subst ex
    obtain ⟨P1, S1, D1, q1, p1, r1⟩ := Sk.draws I hx (A := X.A.in1) (I.ok.hd hc) n1 a4
    obtain ⟨P2, S2, D2, q2, p2, r2⟩ := Sk.draws I hy (A := X.A.in1) (I.ok.hd hc) n2 a5
    rw [ey] at D2
    refine nextIs a1 (over2 (show X.A.in1.handled = none from I.ok.hd hc) S D1 D2 a1 a2 a3 q1 q2 fun h' tk e g ⟨o, ho, hc⟩ => ⟨⟨e, o, rfl, ho, hc⟩, rfl, I.turnedL (ch := [z, pI, pO, j1, j2]) (fun c o n q => g c o (fun m => n ?_) q) hf⟩)
    simp only [List.mem_cons, List.not_mem_nil, or_false] at m ⊢
    rcases m with q | q | q | q
    · exact .inl q
    · exact .inr (.inr (.inl q))
    · exact .inr (.inr (.inr (.inl q)))
    · exact .inr (.inr (.inr (.inr q)))
  self := fun A i s Q E st h => selfIs st.1 h
/-! ### zip(..) as what is walked -/
section
open L2
variable {X : Cx} {pins : List (Addr × Obj)} {σ : L2.St} {H : Hp} {s : Shared} {k : Sk} {xs : List V}
theorem Sk.begins (I : Inv X pins σ H s) (h : k.has X.K H xs) {u : Value} (r : RelV k.v u) : ∃ (o : Obj) (Hc : Heap → Prop), Begins u o Hc ∧ Hc s.heap ∧ (∀ j h', h'.get? j = some o → k.it j 0 h') ∧ ∀ a ∈ k.own, a < s.heap.objs.size := by
  cases k with
  | l a =>
    obtain ⟨its, _, p, _⟩ := I.list h
    obtain rfl : u = .ref a := r
    exact ⟨_, _, begins_list a its.toArray, p.isList, fun j h' e => ⟨_, e, rfl, rfl⟩, fun c hc => by rw [List.mem_singleton.mp hc]; exact p.lt⟩
  | t a =>
    obtain ⟨its, _, p, _⟩ := I.tuple h
    obtain rfl : u = .ref a := r
    refine ⟨_, _, begins_tuple a its.toArray, p, fun j h' e => ⟨_, e, rfl, rfl⟩, fun c hc => ?_⟩
    rw [List.mem_singleton.mp hc]
    obtain ⟨o, e, _⟩ := p
    exact Heap.lt_size e
  | s x =>
    obtain ⟨t, rfl⟩ := (show ∃ t, u = Value.str x t from r)
    exact ⟨_, _, begins_text x t, trivial, fun j h' e => ⟨t, _, e, rfl, rfl⟩, fun c hc => nomatch hc⟩
end
section
variable {prog : Program} {w : World} {A : Around} {E : Value → Shared → Prop} {s : Shared}
/-- the call zip(v1, v2, strict=True): five new cells -/
theorem callIs {v1 v2 : Value} {o1 o2 : Obj} {H1 H2 : Heap → Prop} {Q : Value → Shared → Prop} (B1 : Begins v1 o1 H1) (B2 : Begins v2 o2 H2) (h1 : H1 s.heap) (h2 : H2 s.heap)
    (h : ∀ h' N, N = s.heap.objs.size → Zat true h' (N + 4) (N + 2) (N + 3) .none → IsTupOf2 h' (N + 2) (.ref N) (.ref (N + 1)) → IsTupOf2 h' (N + 3) .none .none → h'.get? N = some o1 → h'.get? (N + 1) = some o2 →
      (∀ c o, s.heap.get? c = some o → h'.get? c = some o) → Q (.ref (N + 4)) { s with heap := h' }) :
    wpAny (model prog w) A (call (.type "zip") [v1, v2] [(Str.ofString "strict", .bool true)]) Q E s := by
  refine callType_newKw PySem.F.called_zip (by decide) (F.ct _ _) (F.cn _ _) (fun o => F.oi o _ _) PySem.F.entry_zip_new (newIs B1 B2) ⟨⟨h1, h2⟩, ?_⟩
  obtain ⟨N, hN⟩ : ∃ N, N = s.heap.objs.size := ⟨_, rfl⟩
  have c1 : (s.heap.push o1).objs.size = N + 1 := by rw [Heap.size_push, hN]
  have c2 : ((s.heap.push o1).push o2).objs.size = N + 2 := by rw [Heap.size_push, c1]
  have c3 : (gzT2 s.heap o1 o2).objs.size = N + 3 := by rw [Heap.size_push, c2]
  have c4 : (gzO2 s.heap o1 o2).objs.size = N + 4 := by rw [Heap.size_push, c3]
  have up : ∀ {c o}, (gzO2 s.heap o1 o2).get? c = some o → (made s.heap o1 o2).get? c = some o := fun e => Heap.get?_push_of_some _ e
  have e4 := Heap.get?_push_size (gzO2 s.heap o1 o2) (o := { cls := .type "zip", data := .fields #[.none, .bool false, .bool true, .ref ((s.heap.push o1).push o2).objs.size, .ref (gzT2 s.heap o1 o2).objs.size] }) rfl
  rw [c4, c3, c2] at e4
  have e3 := up (Heap.get?_push_size (gzT2 s.heap o1 o2) (o := { cls := .type "tuple", data := .seq #[.none, .none] }) rfl)
  rw [c3] at e3
  have e2 := up (Heap.get?_push_of_some _ (Heap.get?_push_size ((s.heap.push o1).push o2) (o := { cls := .type "tuple", data := .seq #[.ref s.heap.objs.size, .ref (s.heap.push o1).objs.size] }) rfl))
  rw [c2, c1, ← hN] at e2
  have e1 := up (Heap.get?_push_of_some _ (Heap.get?_push_of_some _ (Heap.get?_push_size (s.heap.push o1) (o := o2) B2.free)))
  rw [c1] at e1
  have e0 := up (Heap.get?_push_of_some _ (Heap.get?_push_of_some _ (Heap.get?_push_of_some _ (Heap.get?_push_size s.heap (o := o1) B1.free))))
  rw [← hN] at e0
  show _ ∧ _
  rw [c4]
  have e4 : Zat true (made s.heap o1 o2) (N + 4) (N + 2) (N + 3) .none := by
    unfold Zat made
    rw [c3, c2]
    exact e4
  exact ⟨⟨_, e4, rfl⟩, h _ N hN e4 e2 e3 e0 e1 fun c o e => up (Heap.get?_push_of_some _ (Heap.get?_push_of_some _ (Heap.get?_push_of_some _ (Heap.get?_push_of_some _ e))))⟩
end
section
open L2
variable {X : Cx}
def iZz (K : PySem.W.Frag) (ta : TA) : TI := fun σ H R => ta σ H fun vs H1 => ∃ (k1 k2 : Sk) (xs ys : List V), vs = [k1.v, k2.v] ∧ k1.has K H1 xs ∧ k2.has K H1 ys ∧ R (Itzz K k1 k2) H1
/-- the cells are there -/
theorem begun {b : Bool} {elts : List Expr} {kk : Nat} {tpos : Pos} {pins : List (Addr × Obj)} {σ : L2.St} {H : Hp} {s : Shared} {k1 k2 : Sk} {o1 o2 : Obj} {R : It → Hp → Prop} {E : Value → Shared → Prop} {h' : Heap} {N : Addr} (I : Inv X pins σ H s)
    (l1 : ∀ a ∈ k1.own, a < s.heap.objs.size) (l2 : ∀ a ∈ k2.own, a < s.heap.objs.size) (t1 : ∀ j h', h'.get? j = some o1 → k1.it j 0 h') (t2 : ∀ j h', h'.get? j = some o2 → k2.it j 0 h') (hN : N = s.heap.objs.size)
    (e4 : Zat b h' (N + 4) (N + 2) (N + 3) .none) (e2 : IsTupOf2 h' (N + 2) (.ref N) (.ref (N + 1))) (e3 : IsTupOf2 h' (N + 3) .none .none) (e0 : h'.get? N = some o1) (e1 : h'.get? (N + 1) = some o2) (old : ∀ c o, s.heap.get? c = some o → h'.get? c = some o)
    (q : R (Itzz X.K k1 k2) H) : wpAny (model X.prog X.w) X.A (pyIter (.ref (N + 4))) (PIE X pins σ (.Tuple elts kk tpos) R) E { s with heap := h' } := by
  rw [← hN] at l1 l2
  have n1 : ∀ a ∈ k1.own, a ≠ N := fun a ha => Nat.ne_of_lt (l1 a ha)
  have n2 : ∀ a ∈ k2.own, a ≠ N + 1 := fun a ha => Nat.ne_of_lt (Nat.lt_succ_of_lt (l2 a ha))
  have J : Inv X pins σ H { s with heap := h' } := I.kept (t' := s.toks) old
  refine selfIs e4 ⟨N + 4, [N + 4, N + 2, N + 3, N, N + 1], _, _, H, rfl, J, turnZ b (zip_sep2 l1 l2) n1 n2, ⟨e4, e2, ⟨_, _, e3⟩, t1 _ _ e0, t2 _ _ e1⟩, fun c hc => ?_, q⟩
  have le : s.heap.objs.size ≤ c := by
    rw [← hN]
    simp only [List.mem_cons, List.not_mem_nil, or_false] at hc
    rcases hc with e | e | e | e | e <;> rw [e]
    · exact Nat.le_add_right _ _
    · exact Nat.le_add_right _ _
    · exact Nat.le_add_right _ _
    · exact Nat.le_refl _
    · exact Nat.le_add_right _ _
  exact I.fpOk le (I.hok.fresh le)
theorem pi_zz {e e2 : Expr} {ta : TA} {p pos tpos : Pos} {elts : List Expr} {kk : Nat} (hg : Gl X "zip") (hm : X.mg "zip" = none) (ha : PA X [e, e2] ta)
    (hs : starEach [e, e2] X.env = (false, eval e X.env) :: starEach [e2] X.env := by rfl) (hpl : (backTo pos (starEach [e2] X.env)).any (·.1) = false := by rfl) :
    PI X (.Tuple elts kk tpos) (.Call (.Name "zip" p) [e, e2] [] pos) (iZz X.K ta) := by
  refine ⟨fun pins s σ H R I h => PyProof.Rows.Call_ (ld_blt I hg hm PyProof.Rows.boot_zip (PyProof.Rows.callWith_type1 (thn (ha.run pos pins s σ H _ I h) fun us s1 ⟨vs, H1, I1, r1, k1, k2, xs, ys, ev, h1, h2, q⟩ => ?_) hs hpl))⟩
  subst ev
  cases r1 with
  | cons r rr =>
    cases rr with
    | cons r' rr =>
      cases rr
      obtain ⟨o1, C1, B1, c1, t1, l1⟩ := Sk.begins I1 h1 r
      obtain ⟨o2, C2, B2, c2, t2, l2⟩ := Sk.begins I1 h2 r'
      exact zip_begins2 B1 B2 c1 c2 fun h' e4 e2 e3 e0 e1 _ old => begun I1 l1 l2 t1 t2 rfl e4 e2 e3 e0 e1 old q
/-- with strict=True -/
theorem pi_zzS {e e2 : Expr} {ta : TA} {p pos tpos kpos cpos : Pos} {jj : Nat} {elts : List Expr} {kk : Nat} (hg : Gl X "zip") (hm : X.mg "zip" = none) (ha : PA X [e, e2] ta)
    (hs : starEach [e, e2] X.env = (false, eval e X.env) :: starEach [e2] X.env := by rfl) (hpl : (backTo pos (starEach [e2] X.env)).any (·.1) = false := by rfl) :
    PI X (.Tuple elts kk tpos) (.Call (.Name "zip" p) [e, e2] [⟨some "strict", .Constant (.bool true) jj cpos, kpos⟩] pos) (iZz X.K ta) := by
  refine ⟨fun pins s σ H R I h => wpAny_Call_Name_kw (ld_blt I hg hm PyProof.Rows.boot_zip ?_)⟩
  have args : wpAny (model X.prog X.w) X.A (evalArgs (.type "zip") true (backTo pos (starEach [e, e2] X.env)) (backToKw pos (keywordEach [⟨some "strict", .Constant (.bool true) jj cpos, kpos⟩] X.env)))
      (fun a s2 => ∃ (k1 k2 : Sk) (xs ys : List V) (H1 : Hp) (u1 u2 : Value), a = ⟨[u1, u2], [(Str.ofString "strict", .bool true)]⟩ ∧ Inv X pins σ H1 s2 ∧ RelV k1.v u1 ∧ RelV k2.v u2 ∧ k1.has X.K H1 xs ∧ k2.has X.K H1 ys ∧ R (Itzz X.K k1 k2) H1) X.xe s := by
    have run := ha.run pos pins s σ H _ I h
    rw [hs] at run ⊢
    refine PyProof.Rows.evalArgs_kwB rfl (thn run fun us s1 ⟨vs, H1, I1, r1, k1, k2, xs, ys, ev, h1, h2, q⟩ =>
      thn ((pk_cons (nm := some "strict") (kpos := kpos) (pe_bl (X := X) (b := true) (j := jj) (pos := cpos)) pk_nil).run pos pins s1 σ H1 (fun zs H2 => zs = [.bl true] ∧ H2 = H1) I1 ⟨rfl, rfl⟩) fun ws s2 ⟨zs, H2, I2, r2, ez, eH⟩ => ?_)
    subst ev ez eH
    cases r1 with
    | cons ra rr =>
      cases rr with
      | cons rb rr =>
        cases rr
        cases r2 with
        | cons rc rr =>
          cases rr
          obtain rfl := (show _ = Value.bool true from rc)
          exact ⟨k1, k2, xs, ys, _, _, _, rfl, I2, ra, rb, h1, h2, q⟩
  have plain : (backTo pos (starEach [e, e2] X.env)).any (·.1) = false := by
    rw [hs]
    show (false || (backTo pos (starEach [e2] X.env)).any (·.1)) = false
    rw [hpl]
    rfl
  have noStar : (backToKw pos (keywordEach [⟨some "strict", .Constant (.bool true) jj cpos, kpos⟩] X.env)).any (·.1.isNone) = false := rfl
  unfold callWith
  refine wpAny_bind (wpAny_holding (thn args fun a s2 ⟨k1, k2, xs, ys, H1, u1, u2, ea, I1, ra, rb, h1, h2, q⟩ => wpAny_bind (wpAny_standAt ?_)))
  subst ea
  simp only [plain, noStar, Bool.or_false]
  obtain ⟨o1, C1, B1, c1, t1, l1⟩ := Sk.begins I1 h1 ra
  obtain ⟨o2, C2, B2, c2, t2, l2⟩ := Sk.begins I1 h2 rb
  refine wpAny_bind (wpAny_pure (wpAny_bind (callIs B1 B2 c1 c2 fun h' N hN e4 e2 e3 e0 e1 old => wpAny_bind (wpAny_holding (wpAny_point (wpAny_pure ?_))))))
  exact begun I1 l1 l2 t1 t2 hN e4 e2 e3 e0 e1 old q
end
end ZN

end

section
/-! loops over pairs that are drawn from two sources of one length -/
namespace LZ
open PySem PySem.Spec PyProof.Rows L2
section
variable {K : PySem.W.Frag} {k1 k2 : ZN.Sk} {α : Type} {f1 f2 : α → V} {ys : List α}
/-- both sources give the parts of ys -/
abbrev Two (K : PySem.W.Frag) (k1 k2 : ZN.Sk) (f1 f2 : α → V) (ys : List α) (H : Hp) : Prop := k1.has K H (ys.map f1) ∧ k2.has K H (ys.map f2)
theorem at_map {f : α → V} {i : Nat} {x : α} (h : ys[i]? = some x) : (ys.map f)[i]? = some (f x) := by rw [List.getElem?_map, h]; rfl
theorem for_two {g : TG} {tb : TS} {σ : L2.St} {H : Hp} {nx : L2.St → Hp → Prop} {rt : VK} (Pv : List α → L2.St → Hp → Prop) (h0 : Pv [] σ H) (hl : ∀ pre post σ H, ys = pre ++ post → Pv pre σ H → Two K k1 k2 f1 f2 ys H)
    (hs : ∀ pre x post T σ H, ys = pre ++ x :: post → Pv pre σ H → H T = none → g (.ref T) σ (upd H T (.tup [f1 x, f2 x])) fun σ2 H2 => tb ⟨Pv (pre ++ [x]), rt, nx, Pv (pre ++ [x])⟩ σ2 H2) (hd : ∀ σ H, Pv ys σ H → nx σ H) :
    ∃ W : Nat → Nat → L2.St → Hp → Prop, (∃ m, W 0 m σ H) ∧ ∀ i m σ H, W i m σ H →
      ((ZN.Itzz K k1 k2).stop i H ∧ nx σ H) ∨ ((ZN.Itzz K k1 k2).go i H ∧ ∃ N : L2.St → Hp → Prop, (∀ σ' H', N σ' H' → ∃ m', m' < m ∧ W (i + 1) m' σ' H') ∧ ∀ x H', (ZN.Itzz K k1 k2).yld i H x H' → g x σ H' fun σ2 H2 => tb ⟨N, rt, nx, N⟩ σ2 H2) := by
  refine ⟨fun i m σ H => i + m = ys.length ∧ Pv (ys.take i) σ H, ⟨ys.length, Nat.zero_add _, h0⟩, ?_⟩
  rintro i m σ H ⟨e, p⟩
  obtain ⟨a, b⟩ := hl _ (ys.drop i) σ H (List.take_append_drop i ys).symm p
  cases m with
  | zero =>
    obtain rfl : i = ys.length := e
    rw [List.take_length] at p
    exact .inl ⟨⟨_, _, a, b, List.length_map .., List.length_map ..⟩, hd σ H p⟩
  | succ m =>
    have lt : i < ys.length := by omega
    have hx : ys[i]? = some ys[i] := List.getElem?_eq_getElem lt
    refine .inr ⟨⟨_, _, _, _, a, b, at_map hx, at_map hx⟩, fun σ H => Pv (ys.take (i + 1)) σ H, fun σ' H' q => ⟨m, Nat.lt_succ_self m, by omega, q⟩, ?_⟩
    rintro v H' ⟨T, x, y, rfl, nT, rfl, ex, ey⟩
    have ex := ex _ a
    have ey := ey _ b
    rw [at_map hx] at ex ey
    cases ex
    cases ey
    have := hs _ _ _ T σ H (My.getElem?_split hx) p nT
    rwa [← My.take_snoc hx] at this
theorem lc_two {g : TG} {tt : TT} {te : TE} {vs : List Nat} {σ : L2.St} {H1 : Hp} {D : Addr} {Qd : Hp → Prop} (Pv : List α → Hp → Prop) (h0 : Pv [] (upd H1 D (.lst []))) (hl : ∀ pre post H, ys = pre ++ post → Pv pre H → Two K k1 k2 f1 f2 ys H)
    (hs : ∀ pre x post T H, ys = pre ++ x :: post → Pv pre H → H T = none → g (.ref T) (wipe σ vs) (upd H T (.tup [f1 x, f2 x])) fun σ2 H2 => wipe σ2 vs = wipe σ vs ∧ tt σ2 H2 fun b H3 =>
      if b = true then te σ2 H3 fun y H4 => ∃ acc, H4 D = some (.lst acc) ∧ acc.length < sizeLine ∧ Pv (pre ++ [x]) (upd H4 D (.lst (acc ++ [y]))) else Pv (pre ++ [x]) H3) (hd : ∀ H, Pv ys H → Qd H) :
    ∃ W : Nat → Nat → Hp → Prop, (∃ m, W 0 m (upd H1 D (.lst []))) ∧ ∀ i m H, W i m H →
      ((ZN.Itzz K k1 k2).stop i H ∧ Qd H) ∨ ((ZN.Itzz K k1 k2).go i H ∧ ∃ Nx : Hp → Prop, (∀ H', Nx H' → ∃ m', m' < m ∧ W (i + 1) m' H') ∧ ∀ x H', (ZN.Itzz K k1 k2).yld i H x H' → g x (wipe σ vs) H' fun σ2 H2 => wipe σ2 vs = wipe σ vs ∧ tt σ2 H2 fun b H3 =>
        if b = true then te σ2 H3 fun y H4 => ∃ acc, H4 D = some (.lst acc) ∧ acc.length < sizeLine ∧ Nx (upd H4 D (.lst (acc ++ [y]))) else Nx H3) := by
  refine ⟨fun i m H => i + m = ys.length ∧ Pv (ys.take i) H, ⟨ys.length, Nat.zero_add _, h0⟩, ?_⟩
  rintro i m H ⟨e, p⟩
  obtain ⟨a, b⟩ := hl _ (ys.drop i) H (List.take_append_drop i ys).symm p
  cases m with
  | zero =>
    obtain rfl : i = ys.length := e
    rw [List.take_length] at p
    exact .inl ⟨⟨_, _, a, b, List.length_map .., List.length_map ..⟩, hd H p⟩
  | succ m =>
    have lt : i < ys.length := by omega
    have hx : ys[i]? = some ys[i] := List.getElem?_eq_getElem lt
    refine .inr ⟨⟨_, _, _, _, a, b, at_map hx, at_map hx⟩, fun H => Pv (ys.take (i + 1)) H, fun H' q => ⟨m, Nat.lt_succ_self m, by omega, q⟩, ?_⟩
    rintro v H' ⟨T, x, y, rfl, nT, rfl, ex, ey⟩
    have ex := ex _ a
    have ey := ey _ b
    rw [at_map hx] at ex ey
    cases ex
    cases ey
    have := hs _ _ _ T H (My.getElem?_split hx) p nT
    rwa [← My.take_snoc hx] at this
end
theorem x_zz {K : PySem.W.Frag} {ta : TA} {σ : L2.St} {H : Hp} {R : It → Hp → Prop} (h : ta σ H fun vs H1 => ∃ (k1 k2 : ZN.Sk) (xs ys : List V), vs = [k1.v, k2.v] ∧ k1.has K H1 xs ∧ k2.has K H1 ys ∧ R (ZN.Itzz K k1 k2) H1) : ZN.iZz K ta σ H R := h
theorem x_star {K : PySem.W.Frag} {te : TE} {t : TA} {σ : L2.St} {H : Hp} {Q : List V → Hp → Prop} (h : te σ H fun x H1 => ∃ p xs, x = V.ref p ∧ (SqT K H1 p xs ∨ SqL K H1 p xs) ∧ t σ H1 fun ys H2 => Q (xs ++ ys) H2) : StX.tStar K te t σ H Q := h
end LZ

end

section
/-! a list comprehension whose element may let an exception out of a call -/
namespace CR
open PySem PySem.Spec PyProof.Rows L2
/-- the block, an exception owing what a comprehension owes at a raise -/
abbrev rb (X : Cx) (s : Shared) (H : Hp) (scope : Scope) (cenv : Env) (fp : List Addr) : Cx :=
  { X.blk s H scope cenv fp with xe := notedBy (model X.prog X.w) X.A cenv (CompFails (model X.prog X.w) X.A X.xe cenv) }
/-- what is known of a state does not speak of exceptions -/
theorem inv_xe {X : Cx} {pins : List (Addr × Obj)} {σ : L2.St} {H : Hp} {s : Shared} (e : Value → Shared → Prop) (I : Inv X pins σ H s) : Inv { X with xe := e } pins σ H s := by
  obtain ⟨⟨a1, a2, a3, a4, a5, a6, a7, a8, a9, a10, a11, a12, a13, a14, a15, a16, a17, a18⟩, b2, b3, b4, b5, b6, b7, b8, b9, b10, b11⟩ := I
  exact ⟨⟨a1, a2, a3, a4, a5, a6, a7, a8, a9, a10, a11, a12, a13, a14, a15, a16, a17, a18⟩, b2, b3, b4, b5, b6, b7, b8, b9, b10, b11⟩
/-! ### an exception in flight, the block's names taken from its ground -/
section
variable {B G h : Heap} {l : List Env} {a L C : Addr} {Z : Obj → Prop} {fl : Value}
theorem none_sub (g : ∀ b o, G.get? b = some o → B.get? b = some o) {b : Addr} (h : B.get? b = none) : G.get? b = none := by
  cases e : G.get? b with
  | none => rfl
  | some o => rw [g b o e] at h; cases h
theorem fly_sub (g : ∀ b o, G.get? b = some o → B.get? b = some o) (x : HandSPX.FlyingZ B l a Z h) : HandSPX.FlyingZ G l a Z h := by
  obtain ⟨x1, x2, x3, oe, vs, T, oT, ts, t1, t2, t3, t4, t5, t6⟩ := x
  exact ⟨fun b o e => x1 b o (g b o e), none_sub g x2, funFrames_none x3 fun f hf => none_sub g (x3.mem hf).1, oe, vs, T, oT, ts, t1, t2, t3, t4, none_sub g t5, t6⟩
/-- the names at C are written over: the exception's own records stand as they did -/
theorem traced_but {h' : Heap} {m : Str → Option Value} (hn : h.Ns C m) (sb : Heap.SameBut C h h') (t : HandSPX.TracedZ h G a Z fl) : HandSPX.TracedZ h' G a Z fl := by
  obtain ⟨oe, vs, T, oT, ts, e, z, d, f1, gT, ne, eT, dT, f3⟩ := t
  have far : ∀ b o us, h.get? b = some o → o.data = .fields us → b ≠ C := fun b o us e d q => by
    obtain ⟨o', es, ep, e', d', _⟩ := hn
    rw [← q, e] at e'
    cases e'
    rw [d] at d'
    cases d'
  exact ⟨oe, vs, T, oT, ts, (sb.2 a (far a oe vs e d)).trans e, z, d, f1, gT, ne, (sb.2 T (far T oT ts eT dT)).trans eT, dT, f3⟩
end
section
variable {X : Cx} {W : WX} {E : XK} {pins : List (Addr × Obj)} {σ : L2.St} {H3 : Hp} {s3 : Shared} {scope : Scope} {cenv : Env} {fp : List Addr}
/-- what a call lets out of the block goes on in the def -/
theorem out (hst : X.stack = X.env :: X.outer) (hfr : X.env.frame = some X.env.locals) (tk : Takes X W) (hE : ∀ cls d σ H, E cls d H → W cls d σ H) (I3 : Inv X pins σ H3 s3) (f3 : ∀ b ∈ fp, FpOk X pins H3 b)
    (hC : cenv.locals = s3.heap.objs.size) (hf : cenv.frame = X.env.frame) : Passes (L2.CX X.prog X.w) (rb X s3 H3 scope cenv fp) E := by
  rintro p σ' H1 s1 u s' IY ⟨a, B, H', cls, d, rfl, fl, hok, ub, na, os, ag, w⟩
  generalize hc : cenv.locals = C at hC
  have old : ∀ b o, s3.heap.get? b = some o → b ≠ C := fun b o e z => Nat.lt_irrefl _ (z.trans hC ▸ Heap.lt_size e)
  have Cf : C ∉ frs X.stack := fun z => by
    obtain ⟨_, o, e, _⟩ := I3.stack.mem z
    exact old C o e rfl
  -- the block's names, before the call and behind it
  obtain ⟨m, hn, _⟩ := IY.loc
  have hn : s1.heap.Ns C m := hc ▸ hn
  have H1C : H1 C = none := hc ▸ IY.free
  have hn' : s'.heap.Ns C m := by
    obtain ⟨o, es, ep, e, r⟩ := hn
    exact ⟨o, es, ep, fl.1 C o (ub.keep C o e H1C Cf), r⟩
  have H'C : H' C = none := by
    obtain ⟨o, es, ep, e, r⟩ := hn
    exact ub.free C o e H1C
  -- the ground without them
  obtain ⟨G, g1, g2⟩ := restrict B fun b => decide (b ≠ C)
  have gB : ∀ b o, G.get? b = some o → B.get? b = some o := fun b o e => by
    by_cases z : b = C
    · rw [g2 b (by simp [z])] at e; cases e
    · rw [g1 b (by simp [z])] at e; exact e
  have Bg : ∀ b o, b ≠ C → B.get? b = some o → G.get? b = some o := fun b o z e => (g1 b (by simp [z])).trans e
  show wpAny (model X.prog X.w) X.A (noteFrame (.ref a) cenv) _ _ s'
  rw [noteFrame_env _ hf]
  refine HandSPX.looks_onZ Zc.steady (env := X.env) (outer := X.outer) (by rw [I3.ok.frames, hst]) hfr (by rw [← hst]; exact fly_sub gB fl) fun h1 hh up1 => ?_
  rw [← hst] at hh
  obtain ⟨k1, k2, k3, k4⟩ := hh
  refine ⟨m, hc ▸ up1.ns hn', fun h2 m2 hn2 sb => ?_⟩
  rw [hc] at hn2 sb
  have Gn : G.get? C = none := g2 C (by simp)
  have kb : G.StaysIn h2 := fun b o e => (sb.2 b fun z => by rw [z, Gn] at e; cases e).trans (k1 b o e)
  have kf : h2.FunFrames G X.stack := Heap.FunFrames.sameBut sb hn2 k3
  have tr := traced_but (up1.ns hn') sb k4
  have tr' := tr
  obtain ⟨oe, vs, T, oT, ts, e1, z1, d1, f1, _⟩ := tr'
  unfold PySem.passOn
  refine wpAny_bind (wpAny_field e1 d1 f1 ?_)
  rw [if_neg (by simp), hf, hfr]
  refine wpAny_bind (HandSPX.setFlight_anyZ kb kf tr fun h4 q1 q2 q3 up4 => wpAny_throw ?_)
  -- in the air of the def
  obtain ⟨S, c1, c2⟩ := restrict h4 fun b => (G.get? b).isSome || decide (b ∈ frs X.stack)
  have Sin : ∀ b o, S.get? b = some o → h4.get? b = some o ∧ ((G.get? b).isSome = true ∨ b ∈ frs X.stack) := fun b o e => by
    cases z : ((G.get? b).isSome || decide (b ∈ frs X.stack)) with
    | false => rw [c2 b z] at e; cases e
    | true => exact ⟨(c1 b z) ▸ e, by simpa using z⟩
  have GS : ∀ b o, G.get? b = some o → S.get? b = some o := fun b o e => (c1 b (by simp [e])).trans (q1 b o e)
  have FS : ∀ b ∈ frs X.stack, S.get? b = h4.get? b := fun b hb => c1 b (by simp [hb])
  have up : ∀ b ∈ frs X.stack, ∀ o, s'.heap.get? b = some o → ∃ sl, S.get? b = some { o with slots := sl } := fun b hb o e => by
    have nf : ∀ vs, o.data ≠ .fields vs := by
      obtain ⟨_, o', e', n⟩ := fl.2.2.1.mem hb
      rw [e] at e'
      cases e'
      exact n
    obtain ⟨sl1, e1⟩ := up1 b o e nf
    have e2 := (sb.2 b fun z => Cf (z ▸ hb)).trans e1
    obtain ⟨sl2, e3⟩ := up4 b _ e2 nf
    exact ⟨sl2, (FS b hb).trans e3⟩
  have u1 : Un (frs X.stack) (C :: fp) H3 H1 s3.heap s1.heap := IY.base.mono (fun _ z => z) fun _ z => List.mem_cons_of_mem _ z
  have u2 : Un (frs X.stack) (C :: fp) H1 H' s1.heap S :=
    { keep := fun b o e n hb hx => GS b o (Bg b o (fun z => hx (z ▸ List.mem_cons_self)) (ub.keep b o e n hb))
      slot := fun b o e n hb hx => by
        obtain ⟨sl, e'⟩ := ub.slot b o e hb
        obtain ⟨sl', e''⟩ := up b hb _ e'
        exact ⟨sl', e''⟩
      free := fun b o e n hx => ub.free b o e n
      there := fun b o e hx => by
        by_cases hb : b ∈ frs X.stack
        · obtain ⟨sl, e'⟩ := ub.slot b o e hb
          obtain ⟨sl', e''⟩ := up b hb _ e'
          exact ⟨_, e''⟩
        · obtain ⟨o', e'⟩ := ub.there b o e hb
          exact ⟨o', GS b o' (Bg b o' (fun z => hx (z ▸ List.mem_cons_self)) e')⟩
      tups := ub.tups
      frzs := ub.frzs
      tbls := ub.tbls }
  have hokS : HOk X.prog X.w H' S := fun b o e => (hok b o e).stay (fun c v hc' r => GS c v (Bg c v (fun z => by
    rcases hc' with q | q
    · rw [← z, q, e] at H'C; cases H'C
    · rw [← z, q] at H'C; cases H'C) r)) (fun _ r => r) fun _ _ r => r
  have fC : FpOk X pins H3 C := I3.fpOk (Nat.le_of_eq hC.symm) (I3.hok.fresh (Nat.le_of_eq hC.symm))
  have J := I3.call (h' := S) (g' := s'.gens) (t' := s'.toks) (d' := s'.drawn) (u1.trans u2) hokS ag fun b hb => by
    have z : FpOk X pins H3 b := by
      rcases List.mem_cons.mp hb with q | q
      · rw [q]; exact fC
      · exact f3 b q
    exact ⟨z.2.2.2.1, z.2.1, z.2.2.2.2.1, z.2.2.2.2.2⟩
  refine tk _ _ ⟨a, G, _, pins, σ, H', cls, d, rfl, J, fun b o e hb => ?_, Heap.UpToSlots.of_keeps fun b o e => (Sin b o e).1, .inr (.inr ⟨q1, k2, q2, q3⟩), na, os.trans IY.os, ag, hE _ _ _ _ w⟩
  obtain ⟨e', z | z⟩ := Sin b o e
  · obtain ⟨o', q⟩ := Option.isSome_iff_exists.mp z
    have r := q1 b o' q
    rw [e'] at r
    cases r
    exact q
  · exact absurd z hb
/-- [elt for target in iter], elt calling what may raise -/
theorem pe_lcR {elt tg iter : Expr} {own : List (Str × Nat)} {pos : Pos} {wi : TI} {g : TG} {te : TE} (hst : X.stack = X.env :: X.outer) (hfr : X.env.frame = some X.env.locals) (tk : Takes X W) (hE : ∀ cls d σ H, E cls d H → W cls d σ H)
    (hc : X.calm = true) (hN : X.N.Nodup) (hi : PI X tg iter wi) (ok : BlkOk X.N X.env.scope scope own) (hg : ∀ s H C cl fp, PG (rb X s H scope (compEnvC scope cl C X.env) fp) tg g)
    (he : ∀ s H C cl fp, Passes (L2.CX X.prog X.w) (rb X s H scope (compEnvC scope cl C X.env) fp) E → PE (rb X s H scope (compEnvC scope cl C X.env) fp) elt te) (hs : ∀ x, foldedSetIterable iter X.env x = pure x := by intro _; rfl) :
    PE X (.ListComp elt [⟨tg, iter, [], 0⟩] scope pos) (tLc wi g tYes te (own.map (·.2))) := by
  refine ⟨fun pins s σ H Q I h => ?_⟩
  rw [eval_ListComp]
  refine comprehension_at (use := none) rfl hs (closure_ok fun y hy e => ?_) ok.kind (fun y hy e => e ▸ ok.uniq y hy) (thn (hi.run pins s σ H _ I h) fun v s1 h1 => thn h1 fun itv s2 h2 => ?_)
  · exact (ok.free y hy e).elim (fun k => I.ok.has _ (.inl k)) fun k => I.ok.has _ (.inr k)
  obtain ⟨it, fp, tn, J, H2, rfl, I2, T, st2, f2, new⟩ := h2
  have nD : H2 s2.heap.objs.size = none := I2.hok.fresh (Nat.le_refl _)
  obtain ⟨W0, ⟨m0, w0⟩, prog⟩ := new _ nD
  refine wpAny_newObj_type (newEnv_comp ?_)
  generalize hs3 : ({ s2 with heap := s2.heap.push { cls := .type "list", dict := none, data := .seq ([] : List Value).toArray }, toks := s2.toks + ([] : List (Str × Value)).length } : Shared) = s3
  have h3 : s3.heap = s2.heap.push { cls := .type "list", dict := none, data := .seq ([] : List Value).toArray } := by rw [← hs3]
  have keep3 : ∀ b o, s2.heap.get? b = some o → s3.heap.get? b = some o := fun b o e => by rw [h3]; exact Heap.get?_push_of_some _ e
  have I3 : Inv X pins σ (upd H2 s2.heap.objs.size (.lst [])) s3 := by
    rw [← hs3]
    exact I2.laid (fun b u e => Heap.get?_push_of_some _ e) (Nat.le_refl _) ⟨Nat.zero_le _, [], 0, .nil, Heap.get?_push_size _ rfl⟩
  generalize hD : s2.heap.objs.size = D at *
  generalize hH3 : upd H2 D (.lst []) = H3 at *
  have f3 : ∀ b ∈ fp, FpOk X pins H3 b ∧ b < s3.heap.objs.size := fun b hb => by
    obtain ⟨o, e, _⟩ := T.obj _ _ st2 b hb
    refine ⟨⟨?_, (f2 b hb).2⟩, Heap.lt_size (keep3 b o e)⟩
    rw [← hH3, upd_ne fun z => Nat.lt_irrefl _ (z ▸ hD ▸ Heap.lt_size e)]
    exact (f2 b hb).1
  have I4 := inv_xe (notedBy (model X.prog X.w) X.A (compEnvC scope (cellsFrom (s3.heap.objs.size + 1) scope.names (cloFrom X.env.cells scope.names [])) s3.heap.objs.size X.env) (CompFails (model X.prog X.w) X.A X.xe (compEnvC scope (cellsFrom (s3.heap.objs.size + 1) scope.names (cloFrom X.env.cells scope.names [])) s3.heap.objs.size X.env))) (block_start I3 ok hN f3)
  have pg := hg s3 H3 s3.heap.objs.size (cellsFrom (s3.heap.objs.size + 1) scope.names (cloFrom X.env.cells scope.names [])) fp
  have pe := he s3 H3 s3.heap.objs.size (cellsFrom (s3.heap.objs.size + 1) scope.names (cloFrom X.env.cells scope.names [])) fp (out hst hfr tk hE I3 (fun b hb => (f3 b hb).1) rfl rfl)
  show codeAny _ _ (.compStart (.ListComp elt [⟨tg, iter, [], 0⟩] scope pos) 0 (.ref it) (.ref D) (compEnvC scope (cellsFrom (s3.heap.objs.size + 1) scope.names (cloFrom X.env.cells scope.names [])) s3.heap.objs.size X.env))
    (compEnds (model X.prog X.w) X.A X.xe none (EP X pins σ Q) (.ref D) (compEnvC scope (cellsFrom (s3.heap.objs.size + 1) scope.names (cloFrom X.env.cells scope.names [])) s3.heap.objs.size X.env)) { s3 with heap := pushCells (s3.heap.push { cls := .type "dict", data := .dict #[] }) scope.names }
  generalize hce : compEnvC scope (cellsFrom (s3.heap.objs.size + 1) scope.names (cloFrom X.env.cells scope.names [])) s3.heap.objs.size X.env = ce at I4 pg pe ⊢
  have cC : ce.locals = s3.heap.objs.size := hce ▸ rfl
  have st4 : tn 0 (pushCells (s3.heap.push { cls := .type "dict", data := .dict #[] }) scope.names) := T.keep _ _ _ st2 fun b _ o e => pushCells_keeps _ _ _ _ (Heap.get?_push_of_some _ (keep3 b o e))
  generalize hs4 : ({ s3 with heap := pushCells (s3.heap.push { cls := .type "dict", data := .dict #[] }) scope.names } : Shared) = s4 at I4 ⊢
  have st4 : tn 0 s4.heap := hs4 ▸ st4
  -- the iterator's cells are the block's own
  have turnable : ∀ {σ' : L2.St} {H' : Hp} {s' : Shared}, Inv (rb X s3 H3 scope ce fp) [] σ' H' s' → (∀ b ∈ fp, H' b = none) → ∀ b ∈ fp, FpOk (rb X s3 H3 scope ce fp) [] H' b := fun I' n b hb =>
    ⟨n b hb, (I'.ok.exf b hb).1, I'.ok.exfs b hb, .inl hb, fun x c e => (I'.ok.exf b hb).2 x c e, fun p hp => nomatch (show p ∈ ([] : List (Addr × Obj)) from hp)⟩
  have loop : codeAny (model X.prog X.w) X.A (.compLoop (.ListComp elt [⟨tg, iter, [], 0⟩] scope pos) 0 (.ref it) (.ref D) ce) (compEnds (model X.prog X.w) X.A X.xe none (EP X pins σ Q) (.ref D) ce) s4 := by
    refine compLoop_list_any (fun k s' => ∃ i H', Inv (rb X s3 H3 scope ce fp) [] (wipe σ (own.map (·.2))) H' s' ∧ tn i s'.heap ∧ (∀ b ∈ fp, H' b = none) ∧ W0 i k H') ?_ m0 ⟨0, H3, I4, st4, fun b hb => (f3 b hb).1.1, w0⟩
    rintro k s5 ⟨i, H5, I5, st5, n5, w5⟩
    rcases prog i k H5 w5 with ⟨stop, q⟩ | ⟨go, Nx, down, step⟩
    · refine thn (T.done (rb X s3 H3 scope ce fp) rfl rfl rfl hc i [] s5 _ H5 _ I5 (turnable I5 n5) st5 stop) fun r s6 ⟨e, I6⟩ => ?_
      subst e
      obtain ⟨m, hn, _⟩ := I6.loc
      have I7 : Inv X pins σ H5 s6 := I3.call' (ch := fp) I6.os I6.base I6.hok I6.bare fun b hb => ⟨(f3 b hb).1.2.2.2.1, (f3 b hb).1.2.1, (f3 b hb).1.2.2.2.2⟩
      have fC : FpOk X pins H5 ce.locals := I3.fpOk (Nat.le_of_eq cC.symm) I6.free
      exact ⟨m, hn, fun h' sb => ⟨.ref D, H5, I7.turned (t' := s6.toks) (fun b o z e => (sb.2 b z).trans e) fC.1 fC.2.1 fC.2.2.2.1 fC.2.2.2.2.1 fC.2.2.2.2.2, rfl, q⟩⟩
    · refine thn (T.item (rb X s3 H3 scope ce fp) rfl rfl rfl hc i [] s5 _ H5 _ I5 (turnable I5 n5) st5 go) fun r s6 ⟨u, e, h6⟩ => ?_
      subst e
      refine thn h6 fun _ s7 ⟨x, H7, I7, r7, y7, st7, n7⟩ => ?_
      refine thn (pg.run _ s7 _ H7 x u _ (I7.pinned (turnable I7 n7) (T.obj _ _ st7)) r7 (step x H7 y7)) fun _ s8 ⟨σ8, H8, I8, hw, q8⟩ => wpAny_tests_nil ?_
      rw [if_pos rfl]
      refine thn (pe.run _ s8 σ8 H8 _ I8 ((show tYes σ8 H8 _ from q8 : _) : _)) fun z s9 ⟨y, H9, I9, r9, acc, eD, lD, nx⟩ => ?_
      refine app_ok (X := rb X s3 H3 scope ce fp) I9 eD lD r9 fun s10 I10 => ?_
      obtain ⟨k', lt, w'⟩ := down _ nx
      have stay : ∀ b ∈ fp, ∀ o, s7.heap.get? b = some o → s10.heap.get? b = some o ∧ upd H9 D (.lst (acc ++ [y])) b = none := fun b hb o e => by
        have z := I10.pin (b, o) (List.mem_append_right _ (List.mem_append_right _ (mem_pinsAt hb e)))
        exact ⟨z.1, z.2.1⟩
      refine ⟨k', lt, i + 1, _, I10.unpinned.weak (by rw [← hw, wipe_length]) fun j v e => ?_, T.keep _ _ _ st7 fun b hb o e => (stay b hb o e).1, fun b hb => ?_, w'⟩
      · rw [← hw] at e
        exact (wipe_some e).1
      · obtain ⟨o, e, _⟩ := T.obj _ _ st7 b hb
        exact (stay b hb o e).2
  exact codeAny_compStart_list loop (T.self X.A 0 _ _ _ st4 loop)
end
end CR

end

section
/-! k32, the plain law: a text cut at most k times and the text cut everywhere lead to the same operation -/
namespace K32
abbrev W := List Nat
/-- the words of a text, cut at each c -/
def sp (c : Nat) : W → List W
  | [] => [[]]
  | x :: l => if x = c then [] :: sp c l else match sp c l with
    | [] => [[x]]
    | w :: r => (x :: w) :: r
/-- .. cut at most k times -/
def spN (c : Nat) : Nat → W → List W
  | 0, l => [l]
  | _ + 1, [] => [[]]
  | k + 1, x :: l => if x = c then [] :: spN c k l else match spN c (k + 1) l with
    | [] => [[x]]
    | w :: r => (x :: w) :: r
def join (c : Nat) : List W → W
  | [] => []
  | [w] => w
  | w :: r => w ++ c :: join c r
theorem sp_ne (c : Nat) : ∀ l, sp c l ≠ []
  | [] => by simp [sp]
  | x :: l => by
    unfold sp
    split
    · simp
    · split <;> simp
theorem sp_no (c : Nat) : ∀ l, ∀ w ∈ sp c l, c ∉ w
  | [], w, h => by
    rw [sp, List.mem_singleton] at h
    rw [h]; simp
  | x :: l, w, h => by
    unfold sp at h
    split at h
    · rcases List.mem_cons.mp h with rfl | h
      · simp
      · exact sp_no c l w h
    · rename_i hx
      split at h
      · rename_i e; exact absurd e (sp_ne c l)
      · rename_i v r e
        rcases List.mem_cons.mp h with rfl | h
        · intro q
          rcases List.mem_cons.mp q with q | q
          · exact hx q.symm
          · exact sp_no c l v (by rw [e]; exact List.mem_cons_self) q
        · exact sp_no c l w (by rw [e]; exact List.mem_cons_of_mem _ h)
theorem join_cons (c x : Nat) (w : W) (r : List W) : join c ((x :: w) :: r) = x :: join c (w :: r) := by
  cases r <;> rfl
theorem join_sp (c : Nat) : ∀ l, join c (sp c l) = l
  | [] => rfl
  | x :: l => by
    unfold sp
    split
    · rename_i hx
      subst hx
      have := join_sp x l
      cases e : sp x l with
      | nil => exact absurd e (sp_ne x l)
      | cons w r => rw [e] at this; show [] ++ x :: join x (w :: r) = _; rw [this]; rfl
    · have := join_sp c l
      split
      · rename_i e; exact absurd e (sp_ne c l)
      · rename_i w r e
        rw [e] at this
        rw [join_cons, this]
/-- cut at most k times: the first words, and what is left in one piece -/
theorem spN_eq (c : Nat) : ∀ (k : Nat) (l : W), spN c k l = if (sp c l).length ≤ k then sp c l else (sp c l).take k ++ [join c ((sp c l).drop k)]
  | 0, l => by
    have := sp_ne c l
    rw [if_neg (by cases e : sp c l with | nil => exact absurd e this | cons _ _ => simp)]
    rw [List.take_zero, List.drop_zero, join_sp]
    simp [spN]
  | k + 1, [] => by simp [spN, sp]
  | k + 1, x :: l => by
    unfold spN sp
    by_cases hx : x = c
    · rw [if_pos hx, if_pos hx, spN_eq c k l]
      by_cases h : (sp c l).length ≤ k
      · rw [if_pos h, if_pos (by simpa using h)]
      · rw [if_neg h, if_neg (by simpa using h)]
        rfl
    · rw [if_neg hx, if_neg hx, spN_eq c (k + 1) l]
      cases e : sp c l with
      | nil => exact absurd e (sp_ne c l)
      | cons w r =>
        dsimp only
        by_cases h : (w :: r).length ≤ k + 1
        · rw [if_pos h, if_pos (by simpa using h)]
        · rw [if_neg h, if_neg (by simpa using h)]
          rw [List.take_succ_cons, List.take_succ_cons, List.drop_succ_cons, List.drop_succ_cons]
          rfl
/-! ### operations -/
inductive Kd where | t | d | n | q
deriving DecidableEq
inductive It where | s (w : W) | n (w : W) | non
variable (num : W → Bool) (none_ write : W)
/-- an item read as a form asks: a number stays its digits here -/
def rdI (k : Kd) (w : W) : Option It := match k with
  | .q => if w = none_ then some .non else if num w then some (.n w) else none
  | .n => if num w then some (.n w) else none
  | .t => if w = [] then none else some (.s w)
  | .d => some (.s w)
def rdL : List Kd → List W → Option (List It)
  | [], [] => some []
  | k :: ks, w :: ws => match rdI num none_ k w with
    | some i => match rdL ks ws with
      | some is => some (i :: is)
      | none => none
    | none => none
  | _, _ => none
variable (forms : W → Option (List Kd))
/-- parse_operation -/
def parse (t : W) : Option (List It) := match (sp 32 t).head? with
  | none => none
  | some p => match forms p with
    | none => none
    | some fs => if ((spN 32 fs.length t).drop 1).length ≠ fs.length ∨ (p ≠ write ∧ 32 ∈ ((spN 32 fs.length t).drop 1).getLastD []) then none
      else (rdL num none_ fs ((spN 32 fs.length t).drop 1)).map fun is => .s p :: is
/-- a part read as the law reads it -/
def duI (k : Kd) (w : W) : Option It := if w = [] ∨ ((k = .n ∨ k = .q) ∧ num w = false ∧ ¬ (k = .q ∧ w = none_)) then none
  else if k = .t then some (.s w) else if w = none_ then some .non else some (.n w)
def duL : List Kd → List W → Option (List It)
  | [], [] => some []
  | k :: ks, w :: ws => match duI num none_ k w with
    | some i => match duL ks ws with
      | some is => some (i :: is)
      | none => none
    | none => none
  | _, _ => none
/-- _law_due -/
def due (t : W) : Option (List It) := match sp 32 t with
  | p :: a :: b :: x :: r => if p = write ∧ a ≠ [] ∧ num b = true then some [.s p, .s a, .n b, .s (join 32 (x :: r))] else due2 p (a :: b :: x :: r)
  | p :: r => due2 p r
  | [] => none
where due2 (p : W) (r : List W) : Option (List It) := match forms p with
  | none => none
  | some fs => if p = write ∨ r.length ≠ fs.length then none else (duL num none_ fs r).map fun is => .s p :: is
section
variable {num none_ write forms}
theorem rd_du (h1 : num none_ = false) (h2 : num [] = false) (h3 : none_ ≠ []) {k : Kd} (hk : k ≠ .d) (w : W) : rdI num none_ k w = duI num none_ k w := by
  unfold rdI duI
  cases k with
  | d => exact absurd rfl hk
  | t =>
    by_cases h : w = []
    · simp [h]
    · simp [h]
  | n =>
    by_cases h : w = []
    · simp [h, h2]
    · cases hn : num w with
      | false => simp [h]
      | true =>
        have : w ≠ none_ := fun z => by rw [z, h1] at hn; cases hn
        simp [h, this]
  | q =>
    by_cases h : w = []
    · have : w ≠ none_ := fun z => h3 (by rw [← z, h])
      simp [h, h2, Ne.symm h3]
    · by_cases hq : w = none_
      · simp [h, hq, h3]
      · cases hn : num w <;> simp [h, hq]
theorem rdL_duL (h1 : num none_ = false) (h2 : num [] = false) (h3 : none_ ≠ []) : ∀ {fs : List Kd} (ws : List W), (∀ k ∈ fs, k ≠ .d) → rdL num none_ fs ws = duL num none_ fs ws
  | [], [], _ => rfl
  | [], _ :: _, _ => rfl
  | _ :: _, [], _ => rfl
  | k :: fs, w :: ws, h => by
    unfold rdL duL
    rw [rd_du h1 h2 h3 (h k List.mem_cons_self) w, rdL_duL h1 h2 h3 ws fun q hq => h q (List.mem_cons_of_mem _ hq)]
theorem join_two (c : Nat) : ∀ (w v : W) (r : List W), c ∈ join c (w :: v :: r) := fun w v r => by
  show c ∈ w ++ c :: join c (v :: r)
  simp
theorem dropLast_take {r : List W} {k : Nat} (h : r.length = k + 1) : r.take k ++ [join 32 (r.drop k)] = r := by
  obtain ⟨x, hx⟩ : ∃ x, r.drop k = [x] := by
    have : (r.drop k).length = 1 := by rw [List.length_drop]; omega
    match e : r.drop k, this with
    | [x], _ => exact ⟨x, rfl⟩
  have e : join 32 (r.drop k) = x := by rw [hx]; rfl
  rw [e, ← hx, List.take_append_drop]
/-- both readings agree -/
theorem parse_due (h1 : num none_ = false) (h2 : num [] = false) (h3 : none_ ≠ []) (hw : forms write = some [.t, .n, .d]) (hf : ∀ p fs, p ≠ write → forms p = some fs → fs ≠ [] ∧ ∀ k ∈ fs, k ≠ .d) (t : W) :
    parse num none_ write forms t = due num none_ write forms t := by
  have no := sp_no 32 t
  unfold parse due
  cases e : sp 32 t with
  | nil => exact absurd e (sp_ne 32 t)
  | cons p r =>
    rw [e] at no
    dsimp only [List.head?_cons]
    by_cases hp : p = write
    · subst hp
      rw [hw]
      dsimp only
      rw [spN_eq, e]
      match r with
      | [] => simp [due.due2, hw]
      | [a] => simp [due.due2, hw]
      | [a, b] => simp [due.due2, hw]
      | a :: b :: x :: r =>
        rw [if_neg (by simp)]
        dsimp only [List.length_cons, List.length_nil, List.take, List.drop, List.append, List.cons_append, List.nil_append]
        rw [if_neg (by simp)]
        by_cases ha : a = []
        · simp [ha, due.due2, hw, rdL, rdI]
        · cases hb : num b <;> simp [ha, hb, due.due2, hw, rdL, rdI]
    · have g : (match p :: r with
        | p :: a :: b :: x :: r => if p = write ∧ a ≠ [] ∧ num b = true then some [It.s p, It.s a, It.n b, It.s (join 32 (x :: r))] else due.due2 num none_ write forms p (a :: b :: x :: r)
        | p :: r => due.due2 num none_ write forms p r
        | [] => none) = due.due2 num none_ write forms p r := by
        match r with
        | [] => rfl
        | [a] => rfl
        | [a, b] => rfl
        | a :: b :: x :: r => simp [hp]
      rw [g]
      unfold due.due2
      cases q : forms p with
      | none => rfl
      | some fs =>
        obtain ⟨f1, f2⟩ := hf p fs hp q
        dsimp only
        rw [spN_eq, e]
        obtain ⟨k, hk⟩ : ∃ k, fs.length = k + 1 := ⟨fs.length - 1, by have : fs.length ≠ 0 := fun z => f1 (List.eq_nil_of_length_eq_zero z); omega⟩
        rw [hk]
        by_cases hl : (p :: r).length ≤ k + 1
        · rw [if_pos hl]
          have : r.length ≠ k + 1 := by rw [List.length_cons] at hl; omega
          rw [if_pos (.inl (by simpa using this)), if_pos (.inr this)]
        · rw [if_neg hl]
          rw [List.length_cons] at hl
          rw [List.take_succ_cons, List.drop_succ_cons]
          have ed : ((p :: r.take k) ++ [join 32 (r.drop k)]).drop 1 = r.take k ++ [join 32 (r.drop k)] := rfl
          rw [ed]
          have len : (r.take k ++ [join 32 (r.drop k)]).length = k + 1 := by
            rw [List.length_append, List.length_take]
            simp; omega
          have last : (r.take k ++ [join 32 (r.drop k)]).getLastD [] = join 32 (r.drop k) := by simp
          rw [last]
          by_cases hr : r.length = k + 1
          · have e2 := dropLast_take hr
            have hn : (32 : Nat) ∉ join 32 (r.drop k) := by
              have m : join 32 (r.drop k) ∈ r := by
                have : join 32 (r.drop k) ∈ r.take k ++ [join 32 (r.drop k)] := by simp
                rwa [e2] at this
              exact no _ (List.mem_cons_of_mem _ m)
            rw [if_neg (fun z => z.elim (fun z => z len) fun z => hn z.2), if_neg (fun z => z.elim hp fun z => z hr), e2, rdL_duL h1 h2 h3 r f2]
          · have hy : (32 : Nat) ∈ join 32 (r.drop k) := by
              have : 2 ≤ (r.drop k).length := by rw [List.length_drop]; omega
              match e3 : r.drop k, this with
              | w :: v :: r', _ => exact join_two 32 w v r'
            rw [if_pos (.inr ⟨hp, hy⟩), if_pos (.inr hr)]
end
end K32

end

section
/-! k32: str.split(one sign) and str.split(one sign, k), on the lists of signs -/
namespace K32
open PySem PySem.StrLaws PySem.Builtin PySem.Builtin.Str
/-- where c stands, from a on -/
def pos (l : W) (c : Nat) (a n : Nat) : List Nat := (List.range' a n).filter fun i => decide (l[i]? = some c)
theorem occ_pos (s : Str) (c limit : Nat) : ∀ (n a : Nat) (st : Array Nat × Nat), st.snd ≤ a → st.fst.size ≤ limit →
    (forIn (List.range' a n) st (occBody s ⟨#[c]⟩ s.length limit)).run.fst.toList = st.fst.toList ++ (pos s.cps.toList c a n).take (limit - st.fst.size)
  | 0, a, st, _, _ => by simp [pos]
  | n + 1, a, st, h1, h2 => by
    rw [List.range'_succ, List.forIn_cons]
    unfold occBody
    have e1 := subAt_one s c a
    by_cases hc : s.cps.toList[a]? = some c
    · have hp : pos s.cps.toList c a (n + 1) = a :: pos s.cps.toList c (a + 1) n := by
        unfold pos
        rw [List.range'_succ, List.filter_cons, if_pos (by simpa using hc)]
      by_cases hl : st.fst.size < limit
      · obtain ⟨q1, q2⟩ := e1.mpr hc
        rw [if_pos ⟨⟨⟨hl, h1⟩, q1⟩, q2⟩]
        refine (occ_pos s c limit n (a + 1) _ (Nat.le_refl _) (by simp; omega)).trans ?_
        rw [hp, Array.toList_push, Array.size_push]
        obtain ⟨m, hm⟩ : ∃ m, limit - st.fst.size = m + 1 := ⟨limit - st.fst.size - 1, by omega⟩
        rw [hm, List.take_succ_cons, show limit - (st.fst.size + 1) = m by omega]
        simp
      · rw [if_neg fun z => hl z.1.1.1]
        refine (occ_pos s c limit n (a + 1) _ (Nat.le_succ_of_le h1) h2).trans ?_
        rw [show limit - st.fst.size = 0 by omega, List.take_zero, List.take_zero]
    · rw [if_neg fun z => hc (e1.mp ⟨z.1.2, z.2⟩)]
      refine (occ_pos s c limit n (a + 1) _ (Nat.le_succ_of_le h1) h2).trans ?_
      have hp : pos s.cps.toList c a (n + 1) = pos s.cps.toList c (a + 1) n := by
        unfold pos
        rw [List.range'_succ, List.filter_cons, if_neg (by simpa using hc)]
      rw [hp]
theorem occ_one (s : Str) (c limit : Nat) : occurrences s ⟨#[c]⟩ 0 s.length limit = (pos s.cps.toList c 0 (s.length + 1)).take limit := by
  rw [occ_eq]
  refine (occ_pos s c limit (s.length + 1 - 0) 0 (#[], 0) (Nat.le_refl _) (Nat.zero_le _)).trans ?_
  simp
theorem spN_zero (c : Nat) (l : W) : spN c 0 l = [l] := by simp [spN]
theorem spN_cons (c k x : Nat) (l : W) : spN c (k + 1) (x :: l) = if x = c then [] :: spN c k l else match spN c (k + 1) l with
    | [] => [[x]]
    | w :: r => (x :: w) :: r := by
  by_cases h : x = c
  · rw [if_pos h, spN.eq_def]
    exact if_pos h
  · rw [if_neg h, spN.eq_def]
    refine (if_neg h).trans ?_
    cases spN c (k + 1) l <;> rfl
def app1 (u : W) : List W → List W
  | [] => [u]
  | w :: r => (u ++ w) :: r
theorem parts_spN (x : Str) (c : Nat) : ∀ (n a st k : Nat) (u : W), a + n = x.length → x.cps.toList.drop st = u ++ x.cps.toList.drop a → st ≤ a →
    (partsFrom x 1 st ((pos x.cps.toList c a (n + 1)).take k)).map (fun s : Str => s.cps.toList) = app1 u (spN c k (x.cps.toList.drop a))
  | n, a, st, 0, u, ha, hu, hs => by
    rw [List.take_zero, spN_zero]
    show [(strSub x st x.length).cps.toList] = [u ++ x.cps.toList.drop a]
    rw [strSub_toList, ← hu, List.take_of_length_le]
    rw [List.length_drop]
    exact Nat.le_refl _
  | 0, a, st, k + 1, u, ha, hu, hs => by
    have hl : x.cps.toList.length = x.length := rfl
    have e : x.cps.toList.drop a = [] := List.drop_eq_nil_of_le (by omega)
    have ep : pos x.cps.toList c a 1 = [] := by
      unfold pos
      rw [List.range'_succ, List.filter_cons, List.getElem?_eq_none (by omega)]
      simp
    rw [ep, e]
    have e0 : spN c (k + 1) [] = [[]] := by simp [spN]
    rw [e0]
    show [(strSub x st x.length).cps.toList] = [u ++ []]
    rw [strSub_toList, hu, e, List.append_nil, List.take_of_length_le]
    have := congrArg List.length hu
    rw [e, List.append_nil, List.length_drop] at this
    omega
  | n + 1, a, st, k + 1, u, ha, hu, hs => by
    have hl : x.cps.toList.length = x.length := rfl
    have hlt : a < x.cps.toList.length := by omega
    have ed : x.cps.toList.drop a = x.cps.toList[a] :: x.cps.toList.drop (a + 1) := List.drop_eq_getElem_cons hlt
    by_cases hc : x.cps.toList[a] = c
    · have ep : pos x.cps.toList c a (n + 1 + 1) = a :: pos x.cps.toList c (a + 1) (n + 1) := by
        unfold pos
        rw [List.range'_succ, List.filter_cons, if_pos (by rw [List.getElem?_eq_getElem hlt, hc]; simp)]
      rw [ep, List.take_succ_cons]
      show (strSub x st a).cps.toList :: (partsFrom x 1 (a + 1) ((pos x.cps.toList c (a + 1) (n + 1)).take k)).map _ = _
      rw [parts_spN x c n (a + 1) (a + 1) k [] (by omega) rfl (Nat.le_refl _), ed, spN_cons, if_pos hc]
      have e1 : (strSub x st a).cps.toList = u := by
        rw [strSub_toList, hu]
        have : u.length = a - st := by
          have := congrArg List.length hu
          rw [List.length_append, List.length_drop, List.length_drop] at this
          omega
        rw [← this, List.take_left]
      rw [e1]
      show u :: app1 [] (spN c k (x.cps.toList.drop (a + 1))) = (u ++ []) :: spN c k (x.cps.toList.drop (a + 1))
      rw [List.append_nil]
      cases q : spN c k (x.cps.toList.drop (a + 1)) with
      | nil =>
        rw [spN_eq] at q
        have := sp_ne c (x.cps.toList.drop (a + 1))
        split at q
        · exact absurd q this
        · simp at q
      | cons w r => rfl
    · have ep : pos x.cps.toList c a (n + 1 + 1) = pos x.cps.toList c (a + 1) (n + 1) := by
        unfold pos
        rw [List.range'_succ, List.filter_cons, if_neg (by rw [List.getElem?_eq_getElem hlt]; simpa using hc)]
      rw [ep, parts_spN x c n (a + 1) st (k + 1) (u ++ [x.cps.toList[a]]) (by omega) (by rw [hu, ed]; simp) (by omega), ed]
      rw [spN_cons, if_neg hc]
      cases q : spN c (k + 1) (x.cps.toList.drop (a + 1)) with
      | nil => simp [app1]
      | cons w r => simp [app1]
theorem spN_ne (c k : Nat) (l : W) : spN c k l ≠ [] := by
  rw [spN_eq]
  split
  · exact sp_ne c l
  · simp
theorem parts_one (x : Str) (c k : Nat) : (partsBetween x (occurrences x ⟨#[c]⟩ 0 x.length k) 1).map (fun s : Str => s.cps.toList) = spN c k x.cps.toList := by
  rw [partsBetween_eq, occ_one, parts_spN x c x.length 0 0 k [] (by omega) rfl (Nat.le_refl _), List.drop_zero]
  cases q : spN c k x.cps.toList with
  | nil => exact absurd q (spN_ne c k _)
  | cons w r => rfl
/-- no sign of c: one word -/
theorem spN_none (c k : Nat) {l : W} (h : c ∉ l) : spN c k l = [l] := by
  induction l generalizing k with
  | nil => cases k <;> simp [spN]
  | cons x l ih =>
    cases k with
    | zero => exact spN_zero c _
    | succ k =>
      rw [spN_cons, if_neg (fun z => h (by rw [z]; exact List.mem_cons_self)), ih (k + 1) (fun z => h (List.mem_cons_of_mem _ z))]
theorem kind_low {x : Str} {c : Nat} (hc : c < 256) : PySem.Builtin.Str.strKind x < PySem.Builtin.Str.strKind ⟨#[c]⟩ → False := by
  have : PySem.Builtin.Str.strKind ⟨#[c]⟩ = 1 := by unfold PySem.Builtin.Str.strKind; simp [hc]
  rw [this]
  unfold PySem.Builtin.Str.strKind
  split
  · omega
  · split <;> omega
/-- s.split(c, k) -/
theorem splitMax_one (x : Str) {c : Nat} (hc : c < 256) (k : Nat) : (Txt.splitMax x ⟨#[c]⟩ (k : Int)).map (fun s : Str => s.cps.toList) = spN c k x.cps.toList := by
  have hlim : limitOf x (k : Int) = k := by unfold limitOf; rw [if_neg (by omega)]; rfl
  unfold Txt.splitMax
  rw [hlim]
  split
  · rename_i h
    have h0 : x.length < 1 := by
      rcases Bool.or_eq_true_iff.mp h with h | h
      · exact of_decide_eq_true h
      · exact (kind_low hc (of_decide_eq_true h)).elim
    have e : x.cps.toList = [] := List.eq_nil_of_length_eq_zero (by have : x.cps.toList.length = x.length := rfl; omega)
    show [x.cps.toList] = _
    rw [e]
    cases k <;> simp [spN]
  · split
    · rename_i h
      have e := parts_one x c k
      have h' : occurrences x ⟨#[c]⟩ 0 x.length k = [] := List.isEmpty_iff.mp h
      rw [h'] at e
      rw [← e]
      show [x.cps.toList] = [(strSub x 0 x.length).cps.toList]
      rw [strSub_toList, List.drop_zero, List.take_of_length_le (by exact Nat.le_refl _)]
    · exact parts_one x c k
/-- s.split(c) -/
theorem split_one (x : Str) {c : Nat} (hc : c < 256) : (Txt.split x ⟨#[c]⟩).map (fun s : Str => s.cps.toList) = sp c x.cps.toList := by
  have e : spN c (x.length + 1) x.cps.toList = sp c x.cps.toList := by
    rw [spN_eq, if_pos]
    have : ∀ l : W, (sp c l).length ≤ l.length + 1 := by
      intro l
      induction l with
      | nil => simp [sp]
      | cons y l ih =>
        unfold sp
        split
        · simpa using ih
        · split
          · simp
          · rename_i w r q; rw [q] at ih; simp at ih ⊢; omega
    exact this _
  rw [← e, ← splitMax_one x hc (x.length + 1)]
  have hlim : limitOf x ((x.length + 1 : Nat) : Int) = x.length + 1 := by unfold limitOf; rw [if_neg (by omega)]; rfl
  unfold Txt.splitMax Txt.split
  rw [hlim]
end K32

end

section
/-! k32: the words, forms and items -/
namespace K32
open PySem L2
abbrev S (w : W) : Str := SX.S w
abbrev tl (z : Str) : W := z.cps.toList
theorem tl_S (w : W) : tl (S w) = w := rfl
theorem S_tl (z : Str) : S (tl z) = z := rfl
theorem S_inj {v w : W} (h : S v = S w) : v = w := congrArg tl h
theorem len_S (w : W) : (S w).length = w.length := rfl
theorem tl_len (z : Str) : (tl z).length = z.length := rfl
def isD (c : Nat) : Bool := decide (48 ≤ c) && decide (c ≤ 57)
/-- a number's text -/
def num (w : W) : Bool := decide (1 ≤ w.length ∧ w.length ≤ 30) && w.all isD && (decide (w = [48]) || !decide (w.head? = some 48))
def FS : List (Str × List Str) := [("create", ["name", "size"]), ("write", ["name", "index", "data"]), ("trim", ["name", "start", "count"]), ("resize", ["name", "size"]), ("snapshot", ["name", "snapshot"]), ("clone", ["snapshot", "name"]),
  ("rollback", ["name", "snapshot"]), ("remove", ["name"]), ("rename", ["name", "other"]), ("allow", ["name", "blocks"])]
/-- the forms of an operation's arguments -/
def fm (z : Str) : Option (List Str) := FS.lookup z
def NB : List Str := ["size", "index", "start", "count", "blocks"]
def kd (f : Str) : Kd := if f = "blocks" then .q else if f = "data" then .d else if f ∈ NB then .n else .t
def forms (w : W) : Option (List Kd) := (fm (S w)).map (List.map kd)
def none_ : W := [110, 111, 110, 101]
def write : W := [119, 114, 105, 116, 101]
theorem none_S : (("none" : Str)) = S none_ := by decide +kernel
theorem write_S : (("write" : Str)) = S write := by decide +kernel
theorem num_none : num none_ = false := by decide
theorem num_nil : num [] = false := by decide
theorem forms_write : forms write = some [.t, .n, .d] := by decide +kernel
theorem lookup_mem {α : Type} : ∀ {l : List (Str × α)} {z : Str} {v : α}, l.lookup z = some v → (z, v) ∈ l
  | [], _, _, h => by cases h
  | (k, u) :: r, z, v, h => by
    rw [List.lookup_cons] at h
    by_cases e : z = k
    · subst e
      rw [show (z == z) = true from beq_self_eq_true z] at h
      cases h
      exact List.mem_cons_self
    · rw [show (z == k) = false from beq_eq_false_iff_ne.mpr e] at h
      exact List.mem_cons_of_mem _ (lookup_mem h)
def FSok : Bool := FS.all fun e => decide (e.2.length ≤ 3) && (decide (e.1 = ("write" : Str)) || (!decide (e.2 = []) && e.2.all fun f => !decide (kd f = .d)))
theorem fsok : FSok = true := by decide +kernel
theorem fm_len {z : Str} {fs : List Str} (h : fm z = some fs) : fs.length ≤ 3 := by
  have q := List.all_eq_true.mp fsok _ (lookup_mem h)
  exact of_decide_eq_true (Bool.and_eq_true_iff.mp q).1
theorem forms_no : ∀ p fs, p ≠ write → forms p = some fs → fs ≠ [] ∧ ∀ k ∈ fs, k ≠ .d := fun p fs hp h => by
  unfold forms at h
  cases e : fm (S p) with
  | none => rw [e] at h; cases h
  | some l =>
    rw [e] at h
    cases h
    have q := List.all_eq_true.mp fsok _ (lookup_mem e)
    have q2 := (Bool.and_eq_true_iff.mp q).2
    rcases Bool.or_eq_true_iff.mp q2 with z | z
    · have z' : S p = ("write" : Str) := of_decide_eq_true z
      exact absurd (S_inj (z'.trans write_S)) hp
    · obtain ⟨z1, z2⟩ := Bool.and_eq_true_iff.mp z
      refine ⟨fun y => ?_, fun k hk => ?_⟩
      · rw [List.map_eq_nil_iff] at y
        simp [y] at z1
      · obtain ⟨f, hf, rfl⟩ := List.mem_map.mp hk
        have := List.all_eq_true.mp z2 f hf
        simpa using this
/-- parse_operation of a text of allowed signs -/
abbrev prs (t : W) : Option (List It) := parse num none_ write forms t
abbrev du (t : W) : Option (List It) := due num none_ write forms t
theorem prs_du (t : W) : prs t = du t := parse_due num_none num_nil (by decide) forms_write forms_no t
/-- an item's text, and the value that it stands for -/
def itS : It → W
  | .s w => w
  | .n w => w
  | .non => none_
def itV : It → V
  | .s w => .str (S w)
  | .n w => .int ((NumText.digitsVal w : Nat) : Int)
  | .non => .non
/-- an item that fits a form -/
def fits : Kd → It → Prop
  | .q, .non => True
  | .q, .n w => ∃ k : Nat, k < 10 ^ 30 ∧ w = TL.numL k
  | .n, .n w => ∃ k : Nat, k < 10 ^ 30 ∧ w = TL.numL k
  | .t, .s w => w ≠ [] ∧ w.length ≤ 100 ∧ 32 ∉ w
  | .d, .s w => w.length ≤ 100
  | _, _ => False
/-- the texts of the operation z(items) fit -/
inductive Fits : List Kd → List It → Prop
  | nil : Fits [] []
  | cons {k : Kd} {i : It} {ks : List Kd} {is : List It} (h : fits k i) (r : Fits ks is) : Fits (k :: ks) (i :: is)
theorem numL_num {k : Nat} (h : k < 10 ^ 30) : num (TL.numL k) = true := by
  have l := TL.numL_len (by decide) h
  have n := TL.numL_ne k
  have d := TL.numL_digits k
  unfold num
  rw [Bool.and_eq_true_iff, Bool.and_eq_true_iff]
  refine ⟨⟨decide_eq_true ⟨?_, l⟩, ?_⟩, ?_⟩
  · cases e : TL.numL k with
    | nil => exact absurd e n
    | cons _ _ => simp
  · rw [List.all_eq_true]
    intro c hc
    have := d c hc
    unfold isD
    simp [this]
  · by_cases h0 : k = 0
    · subst h0
      decide
    · rw [Bool.or_eq_true_iff]
      right
      have key : ∀ m : Nat, m ≠ 0 → (TL.numL m).head? ≠ some 48 := by
        intro m
        induction m using Nat.strongRecOn with
        | _ m ih =>
          intro hm
          by_cases h10 : m < 10
          · rw [TL.numL_lt h10]
            simp
            omega
          · rw [TL.numL_step (by omega)]
            have q := ih (m / 10) (by omega) (by omega)
            cases e : TL.numL (m / 10) with
            | nil => exact absurd e (TL.numL_ne _)
            | cons a r => rw [e] at q; simpa using q
      simp [key k h0]
theorem num_digits {w : W} (h : num w = true) : w ≠ [] ∧ w.length ≤ 30 ∧ NumText.AllDigits w := by
  unfold num at h
  obtain ⟨h, _⟩ := Bool.and_eq_true_iff.mp h
  obtain ⟨h1, h2⟩ := Bool.and_eq_true_iff.mp h
  have h1 := of_decide_eq_true h1
  refine ⟨fun e => by rw [e] at h1; simp at h1, h1.2, fun c hc => ?_⟩
  have := List.all_eq_true.mp h2 c hc
  unfold isD at this
  simpa using this
theorem num_int {w : W} (h : num w = true) : intText? (S w) = some ((NumText.digitsVal w : Nat) : Int) := by
  obtain ⟨a, b, c⟩ := num_digits h
  exact intText_digits (x := S w) c a (by show w.length ≤ 4300; omega)
/-- the text of an operation -/
def fmt (p : W) (is : List It) : W := join 32 (p :: is.map itS)
theorem rd_fits {k : Kd} {i : It} (h : fits k i) : rdI num none_ k (itS i) = some i := by
  unfold fits at h
  split at h
  · simp [rdI, itS]
  · obtain ⟨n, hn, rfl⟩ := h
    have := numL_num hn
    have e : TL.numL n ≠ none_ := fun z => by rw [z, num_none] at this; cases this
    simp [rdI, itS, this, e]
  · obtain ⟨n, hn, rfl⟩ := h
    simp [rdI, itS, numL_num hn]
  · simp [rdI, itS, h.1]
  · simp [rdI, itS]
  · cases h
theorem rdL_fits : ∀ {ks : List Kd} {is : List It}, Fits ks is → rdL num none_ ks (is.map itS) = some is
  | _, _, .nil => rfl
  | _, _, .cons h r => by
    rw [List.map_cons, rdL, rd_fits h, rdL_fits r]
theorem Fits.len : ∀ {ks : List Kd} {is : List It}, Fits ks is → is.length = ks.length
  | _, _, .nil => rfl
  | _, _, .cons _ r => by rw [List.length_cons, List.length_cons, r.len]
/-- all but a last one cut cleanly -/
theorem spN_join : ∀ (ws : List W) (last : W), (∀ w ∈ ws, 32 ∉ w) → spN 32 ws.length (join 32 (ws ++ [last])) = ws ++ [last]
  | [], last, _ => by simp [spN, join]
  | w :: ws, last, h => by
    have ih := spN_join ws last fun v hv => h v (List.mem_cons_of_mem _ hv)
    have hw := h w List.mem_cons_self
    have step : ∀ u : W, 32 ∉ u → spN 32 (ws.length + 1) (u ++ 32 :: join 32 (ws ++ [last])) = u :: spN 32 ws.length (join 32 (ws ++ [last])) := by
      intro u
      induction u with
      | nil => intro _; rw [List.nil_append, spN_cons, if_pos rfl]
      | cons c u ihu =>
        intro hu
        rw [List.cons_append, spN_cons, if_neg fun e => hu (by rw [e]; exact List.mem_cons_self), ihu fun z => hu (List.mem_cons_of_mem _ z)]
    have e : join 32 (w :: ws ++ [last]) = w ++ 32 :: join 32 (ws ++ [last]) := by
      cases ws with
      | nil => rfl
      | cons v r => rfl
    rw [e, List.length_cons, step w hw, ih]
    rfl
theorem itS_free {k : Kd} {i : It} (h : fits k i) (hk : k ≠ .d) : 32 ∉ itS i := by
  unfold fits at h
  split at h
  · decide
  · obtain ⟨n, hn, rfl⟩ := h; exact TL.numL_free (.inl (by decide))
  · obtain ⟨n, hn, rfl⟩ := h; exact TL.numL_free (.inl (by decide))
  · exact h.2.2
  · exact absurd rfl hk
  · cases h
theorem head_sp : ∀ (u r : W), 32 ∉ u → (sp 32 (u ++ 32 :: r)).head? = some u
  | [], r, _ => by simp [sp]
  | c :: u, r, h => by
    have ih := head_sp u r fun z => h (List.mem_cons_of_mem _ z)
    rw [List.cons_append, sp, if_neg fun e => h (by rw [e]; exact List.mem_cons_self)]
    cases e : sp 32 (u ++ 32 :: r) with
    | nil => exact absurd e (sp_ne 32 _)
    | cons w q => rw [e] at ih; cases ih; rfl
/-- every form but a write's last one is a text without blanks -/
def Last (p : W) (ks : List Kd) : Prop := ∃ k0 k1, ks = k0 ++ [k1] ∧ (∀ k ∈ k0, k ≠ .d) ∧ (p ≠ write → k1 ≠ .d)
theorem Fits.split : ∀ {k0 : List Kd} {k1 : Kd} {is : List It}, Fits (k0 ++ [k1]) is → ∃ i0 i1, is = i0 ++ [i1] ∧ Fits k0 i0 ∧ fits k1 i1
  | [], k1, _, h => by
    cases h with
    | cons h r => cases r; exact ⟨[], _, rfl, .nil, h⟩
  | k :: k0, k1, _, h => by
    cases h with
    | cons h r =>
      obtain ⟨i0, i1, rfl, a, b⟩ := r.split
      exact ⟨_ :: i0, i1, rfl, .cons h a, b⟩
theorem Fits.free : ∀ {ks : List Kd} {is : List It}, Fits ks is → (∀ k ∈ ks, k ≠ .d) → ∀ w ∈ is.map itS, 32 ∉ w
  | _, _, .nil, _ => fun _ z => nomatch z
  | _, _, .cons h r, n => fun w hw => by
    rw [List.map_cons] at hw
    rcases List.mem_cons.mp hw with rfl | hw
    · exact itS_free h (n _ List.mem_cons_self)
    · exact r.free (fun k hk => n k (List.mem_cons_of_mem _ hk)) w hw
/-- an operation's text is parsed to the operation -/
theorem prs_fmt {p : W} {ks : List Kd} {is : List It} (hp : 32 ∉ p) (hf : forms p = some ks) (hl : Last p ks) (h : Fits ks is) : prs (fmt p is) = some (.s p :: is) := by
  obtain ⟨k0, k1, rfl, n0, n1⟩ := hl
  obtain ⟨i0, i1, rfl, f0, f1⟩ := h.split
  have e : fmt p (i0 ++ [i1]) = join 32 ((p :: i0.map itS) ++ [itS i1]) := by
    unfold fmt
    rw [List.map_append]
    rfl
  have hd : (sp 32 (fmt p (i0 ++ [i1]))).head? = some p := by
    unfold fmt
    have : ∃ r, join 32 (p :: (i0 ++ [i1]).map itS) = p ++ 32 :: r := by
      cases q : (i0 ++ [i1]).map itS with
      | nil => simp at q
      | cons a b => exact ⟨_, rfl⟩
    obtain ⟨r, hr⟩ := this
    rw [hr]
    exact head_sp p r hp
  have cut : spN 32 (k0 ++ [k1]).length (fmt p (i0 ++ [i1])) = (p :: i0.map itS) ++ [itS i1] := by
    have l : (k0 ++ [k1]).length = (p :: i0.map itS).length := by
      simp [f0.len]
    rw [l, e]
    refine spN_join _ _ fun w hw => ?_
    rcases List.mem_cons.mp hw with rfl | hw
    · exact hp
    · exact f0.free n0 w hw
  unfold prs parse
  rw [hd]
  dsimp only
  rw [hf]
  dsimp only
  rw [cut]
  have d : (p :: i0.map itS ++ [itS i1]).drop 1 = (i0 ++ [i1]).map itS := by
    rw [List.map_append]
    rfl
  rw [d, List.length_map, h.len, if_neg, rdL_fits h]
  · rfl
  · rintro (z | ⟨z1, z2⟩)
    · exact z rfl
    · rw [List.map_append] at z2
      have : (List.map itS i0 ++ List.map itS [i1]).getLastD [] = itS i1 := by simp
      rw [this] at z2
      exact itS_free f1 (n1 z1) z2
end K32

end

section
local macro_rules | `(tactic| walk_at "ne") => `(tactic| first | assumption | (apply Ne.symm; assumption) | exact L2.ne_of_none (by assumption) (by assumption) | exact (L2.ne_of_none (by assumption) (by assumption)).symm)
local macro_rules | `(tactic| walk_at "hp") => `(tactic| first | assumption | exact L2.upd_same | (rw [L2.upd_ne (by walk_at "ne")]; walk_at "hp"))
local macro_rules | `(tactic| walk_at "sq") => `(tactic| first | assumption | exact L2.SqL.of (by walk_at "hp") | exact My.sq_new (by walk_at "sq") (by assumption))
local macro_rules | `(tactic| walk_at "sd") => `(tactic| first | decide | omega | (unfold L2.CDivN; omega) | (unfold L2.CMul; omega) | (unfold L2.CPow; omega))
local macro_rules | `(tactic| walk_at "sx1") => `(tactic| first | with_reducible refine My.x_seq ?_ | with_reducible refine My.x_asg ?_ | with_reducible refine My.x_ret ?_ | with_reducible refine My.x_next ?_ | with_reducible refine My.x_op ?_ | with_reducible refine My.x_c ?_ | with_reducible refine My.x_ifs ?_ | with_reducible refine My.x_test ?_ | with_reducible refine My.x_exbl ?_ | with_reducible refine My.x_cons ?_ | with_reducible refine My.x_nil ?_ | with_reducible refine My.x_cb ?_ | with_reducible refine My.x_drop ?_ | with_reducible refine My.x_par ?_ | with_reducible refine My.x_exp2 ?_ | with_reducible refine My.x_aug ?_ | with_reducible refine My.x_if ?_ | with_reducible refine My.x_tB ?_ | with_reducible refine My.x_and ?_ | with_reducible refine My.x_or ?_ | with_reducible refine My.x_not ?_ | with_reducible refine My.x_retn ?_ | with_reducible refine My.x_cont ?_ | with_reducible refine My.x_brk ?_ | with_reducible refine My.x_un ?_ | with_reducible refine My.x_tfor ?_ | with_reducible refine My.x_ilist ?_ | with_reducible refine My.x_rng1 ?_ | with_reducible refine My.x_rng2 ?_ | with_reducible refine My.x_r1 ?_ | with_reducible refine My.x_call ?_ | with_reducible refine My.x_sl ?_ | with_reducible refine My.x_part ?_ | with_reducible refine My.x_nopart ?_ | with_reducible refine My.x_ii0 ?_ | with_reducible refine My.x_yes ?_ | with_reducible refine My.x_andv ?_ | with_reducible refine My.x_orv ?_ | with_reducible refine My.x_notv ?_ | with_reducible refine My.x_iT ?_ | with_reducible refine My.x_iF ?_ | with_reducible refine My.x_chain ?_ | with_reducible refine My.x_exI ?_ | with_reducible refine My.x_wipe ?_ | with_reducible refine My.x_bm ?_ | with_reducible refine My.x_bm0 ?_ | with_reducible refine My.x_gsub ?_ | with_reducible refine My.x_int1 ?_ | with_reducible refine My.x_two ?_ | with_reducible refine My.x_lst ?_ | with_reducible refine My.x_tup ?_ | with_reducible refine My.x_revL ?_ | with_reducible refine My.x_dput ?_ | with_reducible refine My.x_dget ?_ | with_reducible refine My.x_dnew ?_ | with_reducible refine My.x_dc ?_ | with_reducible refine My.x_lc ?_ | with_reducible refine My.x_ienum ?_ | with_reducible refine My.x_gcons ?_ | with_reducible refine My.x_gnil ?_ | with_reducible refine My.x_v0 ?_ | with_reducible refine My.x_v1 ?_ | with_reducible refine My.x_v2 ?_ | with_reducible refine My.x_v3 ?_ | with_reducible refine My.x_v4 ?_ | with_reducible refine My.x_v5 ?_ | with_reducible refine My.x_v6 ?_ | with_reducible refine My.x_v7 ?_ | with_reducible refine My.x_v8 ?_ | with_reducible refine My.x_v9 ?_ | with_reducible refine My.x_v10 ?_ | with_reducible refine My.x_v11 ?_ | with_reducible refine My.x_v12 ?_ | with_reducible refine My.x_v13 ?_ | with_reducible refine My.x_v14 ?_ | with_reducible refine My.x_v15 ?_ | with_reducible refine My.x_v16 ?_ | with_reducible refine My.x_v17 ?_ | with_reducible refine My.x_v18 ?_ | with_reducible refine My.x_v19 ?_ | with_reducible refine My.x_v20 ?_ | with_reducible refine My.x_v21 ?_ | with_reducible refine My.x_v22 ?_ | with_reducible refine My.x_v23 ?_ | with_reducible refine My.x_v24 ?_ | with_reducible refine My.x_v25 ?_ | with_reducible refine My.x_g0 ?_ | with_reducible refine My.x_g1 ?_ | with_reducible refine My.x_g2 ?_ | with_reducible refine My.x_g3 ?_ | with_reducible refine My.x_g4 ?_ | with_reducible refine My.x_g5 ?_ | with_reducible refine My.x_g6 ?_ | with_reducible refine My.x_g7 ?_ | with_reducible refine My.x_g8 ?_ | with_reducible refine My.x_g9 ?_ | with_reducible refine My.x_g10 ?_ | with_reducible refine My.x_g11 ?_ | with_reducible refine My.x_g12 ?_ | with_reducible refine My.x_g13 ?_ | with_reducible refine My.x_g14 ?_ | with_reducible refine My.x_g15 ?_ | with_reducible refine My.x_g16 ?_ | with_reducible refine My.x_g17 ?_ | with_reducible refine My.x_g18 ?_ | with_reducible refine My.x_g19 ?_ | with_reducible refine My.x_g20 ?_ | with_reducible refine My.x_g21 ?_ | with_reducible refine My.x_g22 ?_ | with_reducible refine My.x_g23 ?_ | with_reducible refine My.x_g24 ?_ | with_reducible refine My.x_g25 ?_)
local macro_rules | `(tactic| walk_at "sx") => `(tactic| repeat (walk_at "sx1"))
local macro_rules | `(tactic| walk_at "ln") => `(tactic| first | assumption | exact Nat.le_of_ble_eq_true rfl | (simp only [List.length_append, List.length_map, List.length_cons, List.length_nil]; simp only [PySem.sizeLine]; omega))
local macro_rules | `(tactic| walk_at "st") => `(tactic| first | assumption | exact L2.SqT.of (by walk_at "hp"))
local macro_rules | `(tactic| walk_at "go1") => `(tactic| first | walk_at "sx1" | ((with_reducible refine' My.x_ixL ?x0 ?x1 ?x2); (case x0 => walk_at "sq"); (case x1 => exact rfl)) | ((with_reducible refine' My.x_ixT ?x0 ?x1 ?x2); (case x0 => walk_at "st"); (case x1 => exact rfl)) | ((with_reducible refine' My.x_i ?x0 ?x1); (case x0 => walk_at "sd")) | ((with_reducible refine' My.x_setL ?x0 ?x1 ?x2); (case x0 => walk_at "hp"); (case x1 => exact rfl)) | ((with_reducible refine' My.x_len ?x0 ?x1); (case x0 => walk_at "sq")) | ((with_reducible refine' My.x_lenT ?x0 ?x1); (case x0 => walk_at "st")) | ((with_reducible refine' My.x_lenD ?x0 ?x1); (case x0 => walk_at "hp")) | ((with_reducible refine' My.x_append ?x0 ?x1 ?x2); (case x0 => walk_at "hp"); (case x1 => walk_at "ln")) | ((with_reducible refine' My.x_tyL ?x0 ?x1); (case x0 => walk_at "hp")) | ((with_reducible refine' My.x_ilistE ?x0 ?x1); (case x0 => walk_at "sq")) | ((with_reducible refine' My.x_ienumE ?x0 ?x1); (case x0 => walk_at "sq")) | ((with_reducible refine' My.x_sortI ?x0 ?x1); (case x0 => walk_at "sq")) | ((with_reducible refine' My.x_slL ?x0 ?x1); (case x0 => walk_at "sq")) | ((with_reducible refine' My.x_revL2 ?x0 ?x1); (case x0 => walk_at "sq")) | ((with_reducible refine' My.x_eq ?x0 ?x1); (case x0 => exact rfl)) | ((with_reducible refine' My.x_ne ?x0 ?x1); (case x0 => exact rfl)) | ((with_reducible refine' My.x_dputI ?x0 ?x1 ?x2); (case x0 => walk_at "hp"); (case x1 => walk_at "ln")) | ((with_reducible refine' My.x_dputS ?x0 ?x1 ?x2); (case x0 => walk_at "hp"); (case x1 => walk_at "ln")) | ((with_reducible refine' My.x_seqof ?x0 ?x1); (case x0 => walk_at "sq")) | ((with_reducible refine' My.x_gtup ?x0 ?x1 ?x2); (case x0 => walk_at "st"); (case x1 => exact rfl)) | ((with_reducible refine' My.x_mem1 ?x0 ?x1); (case x0 => walk_at "ln")))
local macro_rules | `(tactic| walk_at "go") => `(tactic| repeat (walk_at "go1"))
local macro_rules | `(tactic| walk_at "sx1") => `(tactic| first | with_reducible refine My.x_fld ?_ | with_reducible refine My.x_sfld ?_ | with_reducible refine My.x_meth ?_ | with_reducible refine My.x_make ?_ | with_reducible refine My.x_din ?_ | with_reducible refine My.x_dnin ?_ | with_reducible refine My.x_ikeys ?_ | with_reducible refine My.x_itup ?_ | with_reducible refine My.x_mkO ?_ | with_reducible refine My.x_vei ?_ | with_reducible refine My.x_ost ?_ | with_reducible refine My.x_nF ?_ | with_reducible refine My.x_nT ?_)
local macro_rules | `(tactic| walk_at "go1") => `(tactic| first | ((with_reducible refine' My.x_fldE ?x0 ?x1 ?x2 ?x3 ?x4); (case x0 => walk_at "hp"); (case x1 => assumption); (case x2 => assumption); (case x3 => exact rfl)) | ((with_reducible refine' My.x_sfldE ?x0 ?x1 ?x2 ?x3 ?x4 ?x5); (case x0 => walk_at "hp"); (case x1 => assumption); (case x2 => assumption); (case x3 => decide); (case x4 => exact rfl)) | ((with_reducible refine' My.x_methE ?x0 ?x1 ?x2); (case x0 => walk_at "hp"); (case x1 => exact rfl)) | ((with_reducible refine' My.x_itupE ?x0 ?x1); (case x0 => walk_at "st")))
local macro_rules | `(tactic| walk_at "sx1") => `(tactic| first | with_reducible refine LZ.x_zz ?_ | with_reducible refine LZ.x_star ?_)
namespace K32
open PySem PySem.Spec PyProof.Rows L2
def top (i : Nat) : Stmt := PySem.Challenge.pw_livevolumes_k32_texts_of_operations.main.body.getD i (.Pass ⟨0, 0, 0, 0⟩)
abbrev s_InvalidOperation_init : Stmt := inClass (top 1) 0
theorem sc_InvalidOperation_init : FnScope ["self", "value"] ["self", "value"] (defScope s_InvalidOperation_init) := ⟨rfl, rfl, rfl, by decide +kernel, rfl, by decide +kernel, by decide +kernel⟩
def d_InvalidOperation_init : He.DefD := ⟨("InvalidOperation", some "__init__"), "__init__", "InvalidOperation.__init__", defArgs s_InvalidOperation_init, defBody s_InvalidOperation_init, defScope s_InvalidOperation_init, [], []⟩
abbrev s_ParseError_init : Stmt := inClass (top 2) 0
theorem sc_ParseError_init : FnScope ["self", "text"] ["self", "text"] (defScope s_ParseError_init) := ⟨rfl, rfl, rfl, by decide +kernel, rfl, by decide +kernel, by decide +kernel⟩
def d_ParseError_init : He.DefD := ⟨("ParseError", some "__init__"), "__init__", "ParseError.__init__", defArgs s_ParseError_init, defBody s_ParseError_init, defScope s_ParseError_init, [], []⟩
abbrev s_is_text : Stmt := top 4
theorem sc_is_text : FnScope ["value", "most", "sign"] ["value", "most"] (defScope s_is_text) := ⟨rfl, rfl, rfl, by decide +kernel, rfl, by decide +kernel, by decide +kernel⟩
def d_is_text : He.DefD := ⟨("is_text", none), "is_text", "is_text", defArgs s_is_text, defBody s_is_text, defScope s_is_text, [], []⟩
abbrev s_is_operation : Stmt := top 7
theorem sc_is_operation : FnScope ["value"] ["value"] (defScope s_is_operation) := ⟨rfl, rfl, rfl, by decide +kernel, rfl, by decide +kernel, by decide +kernel⟩
def d_is_operation : He.DefD := ⟨("is_operation", none), "is_operation", "is_operation", defArgs s_is_operation, defBody s_is_operation, defScope s_is_operation, [], []⟩
abbrev s_is_number : Stmt := top 12
theorem sc_is_number : FnScope ["text", "sign"] ["text"] (defScope s_is_number) := ⟨rfl, rfl, rfl, by decide +kernel, rfl, by decide +kernel, by decide +kernel⟩
def d_is_number : He.DefD := ⟨("is_number", none), "is_number", "is_number", defArgs s_is_number, defBody s_is_number, defScope s_is_number, [], []⟩
abbrev s_item_text : Stmt := top 13
theorem sc_item_text : FnScope ["form", "value"] ["form", "value"] (defScope s_item_text) := ⟨rfl, rfl, rfl, by decide +kernel, rfl, by decide +kernel, by decide +kernel⟩
def d_item_text : He.DefD := ⟨("item_text", none), "item_text", "item_text", defArgs s_item_text, defBody s_item_text, defScope s_item_text, [], []⟩
abbrev s_format_operation : Stmt := top 14
theorem sc_format_operation : FnScope ["operation", "items", "form", "value"] ["operation"] (defScope s_format_operation) := ⟨rfl, rfl, rfl, by decide +kernel, rfl, by decide +kernel, by decide +kernel⟩
def d_format_operation : He.DefD := ⟨("format_operation", none), "format_operation", "format_operation", defArgs s_format_operation, defBody s_format_operation, defScope s_format_operation, [], []⟩
abbrev s_read_item : Stmt := top 15
theorem sc_read_item : FnScope ["form", "word", "text"] ["form", "word", "text"] (defScope s_read_item) := ⟨rfl, rfl, rfl, by decide +kernel, rfl, by decide +kernel, by decide +kernel⟩
def d_read_item : He.DefD := ⟨("read_item", none), "read_item", "read_item", defArgs s_read_item, defBody s_read_item, defScope s_read_item, [], []⟩
abbrev s_parse_operation : Stmt := top 16
theorem sc_parse_operation : FnScope ["text", "word", "words", "form", "item"] ["text"] (defScope s_parse_operation) := ⟨rfl, rfl, rfl, by decide +kernel, rfl, by decide +kernel, by decide +kernel⟩
def d_parse_operation : He.DefD := ⟨("parse_operation", none), "parse_operation", "parse_operation", defArgs s_parse_operation, defBody s_parse_operation, defScope s_parse_operation, [], []⟩
abbrev s_law_pool : Stmt := top 18
theorem sc_law_pool : FnScope ["_law_script", "_law_k", "_law_cell", "_law_seed"] ["_law_script", "_law_k"] (defScope s_law_pool) := ⟨rfl, rfl, rfl, by decide +kernel, rfl, by decide +kernel, by decide +kernel⟩
def d_law_pool : He.DefD := ⟨("_law_pool", none), "_law_pool", "_law_pool", defArgs s_law_pool, defBody s_law_pool, defScope s_law_pool, [], []⟩
abbrev s_law_draw : Stmt := top 19
theorem sc_law_draw : FnScope ["_law_pool_here", "_law_many", "_law_digit"] ["_law_pool_here", "_law_many"] (defScope s_law_draw) := ⟨rfl, rfl, rfl, by decide +kernel, rfl, by decide +kernel, by decide +kernel⟩
def d_law_draw : He.DefD := ⟨("_law_draw", none), "_law_draw", "_law_draw", defArgs s_law_draw, defBody s_law_draw, defScope s_law_draw, [], []⟩
abbrev s_law_choose : Stmt := top 20
theorem sc_law_choose : FnScope ["_law_pool_here", "_law_items"] ["_law_pool_here", "_law_items"] (defScope s_law_choose) := ⟨rfl, rfl, rfl, by decide +kernel, rfl, by decide +kernel, by decide +kernel⟩
def d_law_choose : He.DefD := ⟨("_law_choose", none), "_law_choose", "_law_choose", defArgs s_law_choose, defBody s_law_choose, defScope s_law_choose, [], []⟩
abbrev s_law_operation : Stmt := top 21
theorem sc_law_operation : FnScope ["_law_pool_here", "_law_name", "_law_other", "_law_number", "_law_data", "_law_rows"] ["_law_pool_here"] (defScope s_law_operation) := ⟨rfl, rfl, rfl, by decide +kernel, rfl, by decide +kernel, by decide +kernel⟩
def d_law_operation : He.DefD := ⟨("_law_operation", none), "_law_operation", "_law_operation", defArgs s_law_operation, defBody s_law_operation, defScope s_law_operation, [], []⟩
abbrev s_law_text : Stmt := top 22
theorem sc_law_text : FnScope ["_law_op", "_law_item"] ["_law_op"] (defScope s_law_text) := ⟨rfl, rfl, rfl, by decide +kernel, rfl, by decide +kernel, by decide +kernel⟩
def d_law_text : He.DefD := ⟨("_law_text", none), "_law_text", "_law_text", defArgs s_law_text, defBody s_law_text, defScope s_law_text, [], []⟩
abbrev s_law_is_number : Stmt := top 23
theorem sc_law_is_number : FnScope ["_law_text_here", "_law_sign"] ["_law_text_here"] (defScope s_law_is_number) := ⟨rfl, rfl, rfl, by decide +kernel, rfl, by decide +kernel, by decide +kernel⟩
def d_law_is_number : He.DefD := ⟨("_law_is_number", none), "_law_is_number", "_law_is_number", defArgs s_law_is_number, defBody s_law_is_number, defScope s_law_is_number, [], []⟩
abbrev s_law_due : Stmt := top 24
theorem sc_law_due : FnScope ["_law_text_here", "_law_parts", "_law_kinds", "_law_found", "_law_form", "_law_part"] ["_law_text_here"] (defScope s_law_due) := ⟨rfl, rfl, rfl, by decide +kernel, rfl, by decide +kernel, by decide +kernel⟩
def d_law_due : He.DefD := ⟨("_law_due", none), "_law_due", "_law_due", defArgs s_law_due, defBody s_law_due, defScope s_law_due, [], []⟩
abbrev s_law_read : Stmt := top 25
theorem sc_law_read : FnScope ["_law_text_here", "e"] ["_law_text_here"] (defScope s_law_read) := ⟨rfl, rfl, rfl, by decide +kernel, rfl, by decide +kernel, by decide +kernel⟩
def d_law_read : He.DefD := ⟨("_law_read", none), "_law_read", "_law_read", defArgs s_law_read, defBody s_law_read, defScope s_law_read, [], []⟩
abbrev s_law_is_refused : Stmt := top 26
theorem sc_law_is_refused : FnScope ["_law_value", "e"] ["_law_value"] (defScope s_law_is_refused) := ⟨rfl, rfl, rfl, by decide +kernel, rfl, by decide +kernel, by decide +kernel⟩
def d_law_is_refused : He.DefD := ⟨("_law_is_refused", none), "_law_is_refused", "_law_is_refused", defArgs s_law_is_refused, defBody s_law_is_refused, defScope s_law_is_refused, [], []⟩
abbrev s_law : Stmt := top 27
theorem sc_law : FnScope ["_law_script", "_law_value", "_law_k", "_law_pool_here", "_law_turn", "_law_op", "_law_text_here", "_law_at", "_law_sign", "_law_rest"] ["_law_script"] (defScope s_law) := ⟨rfl, rfl, rfl, by decide +kernel, rfl, by decide +kernel, by decide +kernel⟩
def d_law : He.DefD := ⟨("law", none), "law", "law", defArgs s_law, defBody s_law, defScope s_law, [], []⟩
abbrev Fd (K : PySem.W.Frag) (d : He.DefD) (fd : FuncData) : Prop := FunD K d.name d.qual d.params d.body d.scope (d.dvs K) (d.kws K) (He.fAd K d.at_) fd
abbrev FA (K : PySem.W.Frag) : Addr := He.ga K "FORMS"
abbrev NA (K : PySem.W.Frag) : Addr := He.ga K "NUMBERS"
structure Tx (K : PySem.W.Frag) (mg : Str → Option Value) (t1 t2 : Tok) : Prop where
  n_len : mg "len" = none
  n_int : mg "int" = none
  n_str : mg "str" = none
  n_tuple : mg "tuple" = none
  n_zip : mg "zip" = none
  n_max : mg "max" = none
  n_min : mg "min" = none
  n_range : mg "range" = none
  n_isinstance : mg "isinstance" = none
  n_all : mg "all" = none
  n_repr : mg "repr" = none
  n_ValueError : mg "ValueError" = none
  g_DIGITS : mg "DIGITS" = some (.str ("0123456789" : Str) t1)
  g_MAX_TEXT : mg "MAX_TEXT" = some (.int 20000 t2)
  g_FORMS : mg "FORMS" = some (.ref (FA K))
  g_NUMBERS : mg "NUMBERS" = some (.ref (NA K))
  vV : PySem.W.findCls K (.type "ValueError") (.type "type") "__init__" = some (.val (.builtin "ValueError.__init__"))
  exIO : My.ExcT K mg "InvalidOperation" "value"
  exPE : My.ExcT K mg "ParseError" "text"
  ecP : ExcC K (He.ga K "ParseError")
  nums : ∀ H, SqT K H (NA K) (NB.map V.str)
  fNo : ∀ z, fm z = none → PySem.W.nsIn K (FA K) z = some none
  fYes : ∀ z fs, fm z = some fs → ∃ a, PySem.W.nsIn K (FA K) z = some (some (.ref a)) ∧ ∀ H, SqT K H a (fs.map V.str)
theorem op_in_seqK {X : Cx} {K : PySem.W.Frag} (hK : X.K = K) : OpR X (compareOp .In) (rIn K false) := hK ▸ op_in_seq
theorem op_le_str {X : Cx} : OpR X (compareOp .LtE) (fun x y H Q => ∃ i j : Str, x = .str i ∧ y = .str j ∧ Q (.bl (!decide (j.cps.toList < i.cps.toList))) H) := by
  intro pins s σ H x y v u Q I rx ry h
  obtain ⟨i, j, rfl, rfl, q⟩ := h
  obtain ⟨t, rfl⟩ := rx
  obtain ⟨t', rfl⟩ := ry
  exact PySem.P.le_str (fin_bl I q rfl)
/-- str of a text or of an int -/
theorem call_strX {X : Cx} : CallR X (.type "str") (fun xs H Q => (∃ i : Int, xs = [.int i] ∧ i.natAbs.log2 < 1920 ∧ Q (.str (toString i)) H) ∨ ∃ a, xs = [.str a] ∧ Q (.str a) H) := fun pins s σ H xs us Q I r h => h.elim (call_str_int pins s σ H xs us Q I r) (SkE.call_str_str pins s σ H xs us Q I r)
theorem pg_tupK {X : Cx} {K : PySem.W.Frag} {es : List Expr} {k : Nat} {t : TGs} {n : Nat} {pos : Pos} (hK : X.K = K) (hc : X.calm = true) (h : PGs X es t)
    (hn : (assignEach es X.env).length = n := by rfl) (hst : (assignEach es X.env).findIdx? (·.1) = none := by rfl) : PG X (.Tuple es k pos) (gTup K n t) := by
  subst hK
  exact pg_tup hc h hn hst
/-- isinstance(e, c), e the error that the suite holds -/
def rIsS (K : PySem.W.Frag) (D a : Addr) (cls : Value) (d : Option Addr) : List V → Hp → VK → Prop := fun xs H Q => ∃ (c : V) (u : Value) (b : Bool) (dd : Addr) (fs : List (Str × V)), xs = [.ref a, c] ∧ cls = .ref D ∧ d = some dd ∧ H dd = some (.xd fs) ∧ ClsV c u ∧ PySem.W.kitOne K (.ref D) u = some b ∧ Q (.bl b) H
/-- a def of the module that may raise, as its callers need it -/
structure ClE (P : Program) (w : World) (K : PySem.W.Frag) (mg : Str → Option Value) (base : Heap) (x : Str) (ps : List Str) (k : Nat) (sp : Sp) : Prop where
  ex : ∃ fd, FnOk P w K mg base (L2.CX P w) k (He.ga K x) fd ps sp ∧ Binds K fd ps []
  kp : PySem.W.keepIn K (.ref (He.ga K x)) = true
  g : mg x = some (.ref (He.ga K x))
theorem pe_clE {X : Cx} {k : Nat} {ps : List Str} {sp : Sp} {E : XK} {x : Str} {p pos : Pos} {e : Expr} {es : List Expr} {t : TA} (C : ClE X.prog X.w X.K X.mg X.base x ps k sp) (hr : Room k X.A) (hx : Passes (L2.CX X.prog X.w) X E) (hg : Gl X x)
    (ha : PA X (e :: es) t) (hdb : (x == ("__debug__" : Str)) = false := by decide) (he : starEach (e :: es) X.env = (false, eval e X.env) :: starEach es X.env := by rfl) (hpl : (backTo pos (starEach es X.env)).any (·.1) = false := by rfl) :
    PE X (.Call (.Name x p) (e :: es) [] pos) (tCall sp [] E t) := by
  obtain ⟨fd, F, b⟩ := C.ex
  exact pe_call F hr hg C.g C.kp b .nil hx ha hdb he hpl
/-- a sign that can be printed -/
def okS (c : Nat) : Bool := !decide ([c] < [32]) && !decide ([126] < [c])
def sp_text (K : PySem.W.Frag) : Sp := fun vs H Q _ => ∃ (x : V) (m : Int), vs = [x, .int m] ∧ ((∃ z : Str, x = .str z ∧ z.length ≤ 5000 ∧ ∀ H', Same H H' → Q (.bl (decide ((z.length : Int) ≤ m) && z.cps.toList.all okS)) H') ∨ ((∃ t, TyX K H x t ∧ PySem.W.kitOne K t (.type "str") = some false) ∧ Q (.bl false) H))
/-- no operation -/
def NoOp (K : PySem.W.Frag) (H : Hp) (x : V) : Prop := (∃ t, TyX K H x t ∧ PySem.W.kitOne K t (.type "tuple") = some false) ∨ (∃ a, x = .ref a ∧ SqT K H a []) ∨
  ∃ (a : Addr) (z : Str) (xs : List V), x = .ref a ∧ SqT K H a (.str z :: xs) ∧ xs.length ≤ 100 ∧ ∀ fs, fm z = some fs → xs.length ≠ fs.length
def sp_oper (K : PySem.W.Frag) : Sp := fun vs H Q _ => ∃ x : V, vs = [x] ∧ ((NoOp K H x ∧ Q (.bl false) H) ∨
  ∃ (a : Addr) (z : Str) (xs : List V) (fs : List Str), x = .ref a ∧ SqT K H a (.str z :: xs) ∧ xs.length ≤ 100 ∧ fm z = some fs ∧ xs.length = fs.length ∧ Q (.bl true) H)
def sp_num : Sp := fun vs H Q _ => ∃ z : Str, vs = [.str z] ∧ z.length ≤ 5000 ∧ ∀ H', Same H H' → Q (.bl (num z.cps.toList)) H'
def sp_item : Sp := fun vs H Q _ => ∃ (f : Str) (i : It), vs = [.str f, itV i] ∧ fits (kd f) i ∧ Q (.str (S (itS i))) H
/-- what is told of a raise of C with the value x under f -/
def Rz (K : PySem.W.Frag) (C f : Str) (x : V) (H : Hp) (E : XK) : Prop := ∀ d H', H d = none → Same H H' → H' d = some (.xd [(f, x)]) → E (.ref (He.ga K C)) (some d) H'
def sp_rd (K : PySem.W.Frag) : Sp := fun vs H Q E => ∃ (f w t : Str), vs = [.str f, .str w, .str t] ∧ w.length ≤ 5000 ∧
  (∀ i H', rdI num none_ (kd f) w.cps.toList = some i → Same H H' → Q (itV i) H') ∧ (rdI num none_ (kd f) w.cps.toList = none → ∀ H1, Same H H1 → Rz K "ParseError" "text" (.str t) H1 E)
/-- a comprehension of truths so far -/
def Pl {α : Type} (H0 : Hp) (D : Addr) (f : α → Bool) (pre : List α) (H : Hp) : Prop := Same H0 H ∧ H D = some (.lst ((pre.map f).map V.bl)) ∧ H0 D = none
theorem Pl.zero {α : Type} {H0 : Hp} {D : Addr} {f : α → Bool} (h : H0 D = none) : Pl H0 D f [] (upd H0 D (.lst [])) := ⟨My.Same.new (Same.refl H0) h, upd_same, h⟩
theorem Pl.next {α : Type} {H0 H : Hp} {D : Addr} {f : α → Bool} {pre : List α} {x : α} {y : V} (z : Pl H0 D f pre H) (e : y = .bl (f x)) (hn : pre.length < 6000) : ∃ acc, H D = some (.lst acc) ∧ acc.length < sizeLine ∧ Pl H0 D f (pre ++ [x]) (upd H D (.lst (acc ++ [y]))) := by
  refine ⟨_, z.2.1, by rw [List.length_map, List.length_map, sizeLine_eq]; omega, My.Same.mut z.1 z.2.2, ?_, z.2.2⟩
  rw [upd_same, List.map_append, List.map_append, e]
  rfl
theorem pre_lt {z : Str} {pre post : List Nat} {c : Nat} (h : z.cps.toList = pre ++ c :: post) (hz : z.length ≤ 5000) : pre.length < 6000 := by
  have e : z.cps.toList.length = z.length := by rw [Array.length_toList]; rfl
  have := congrArg List.length h
  rw [e, List.length_append, List.length_cons] at this
  omega
section
variable {P : Program} {w : World} {K : PySem.W.Frag} {mg : Str → Option Value} {base : Heap} {t1 t2 : Tok}
theorem call_isS {X : Cx} {a D : Addr} {oe : Obj} {cls : Value} {d : Option Addr} {pn : List (Addr × Obj)} (C : ExcC X.K D) (hz : Zc cls d oe) (hf : ∃ vs, oe.data = .fields vs) : CallR (X.suite a ((a, oe) :: pn)) (.builtin "isinstance") (rIsS X.K D a cls d) := by
  rintro pins s σ H xs us Q I r ⟨c, u, b, dd, fs, rfl, rfl, rfl, hd, k, hk, q⟩
  obtain ⟨u1, u2, rfl, r1, r2⟩ := vals2 r
  obtain rfl := k.eq r2
  cases r1
  obtain ⟨vs, hv⟩ := hf
  obtain ⟨mA, hns, _⟩ := (show ObjOk X.prog X.w H s.heap dd (.xd fs) from I.hok dd _ hd)
  obtain ⟨od, ho, _⟩ := lookIn_ns hns
  have J : PySem.W.InstAt s.heap a oe D (some od) := ⟨(I.pin (a, oe) (List.mem_append_left _ List.mem_cons_self)).1, hz.1, by unfold PySem.W.notCls; rw [hv], by rw [hz.2]; exact ho⟩
  exact PySem.W.kia_one (PySem.W.kitx_exc (gt := none) (by obtain ⟨cd, hc, _⟩ := PySem.W.any_some C.hd; rw [hc]; rfl) C.hg C.hk C.hs C.ha C.hn C.ht C.hm) I.kIn J hk (fun z => nomatch z) fun tk => ⟨.bl b, H, I.tok tk, rfl, q⟩
theorem ok_io (T : Tx K mg t1 t2) {fd : FuncData} (F : Fd K d_InvalidOperation_init fd) : FnOk P w K mg base CX0 1 (He.ma K (He.ga K "InvalidOperation") "__init__") fd ["self", "value"] (My.sp_exc K "InvalidOperation" "value") := by
  refine F.ok sc_InvalidOperation_init (fun vs H Q E h => ?_) (fun cdv A outer s H vs Q E hr h => ?_)
  · obtain ⟨a, v, rfl, _⟩ := h
    rfl
  · obtain ⟨a, v, rfl, ha, q⟩ := h
    refine ⟨_, PSs.nox ((pss_cons (ps_expr (pe_veinit rfl T.n_ValueError T.vV (pa_cons (pv 0) (pa_cons pe_str pa_nil))))
  (pss_one (ps_ost (pv 0) (pv 1))))), ?_⟩
    refine My.x_start (σ := [some (V.ref a), some v]) rfl ?_
    try dsimp only [cxOf, Cx.nox]
    walk_at "go"
    refine ⟨a, _, _, rfl, by decide, T.exIO.o, ha, ?_⟩
    walk_at "go"
    exact ⟨a, _, rfl, T.exIO.o, T.exIO.no, .inl ⟨ha, fun dx h1 h2 => q dx h1 h2⟩⟩
theorem ok_pe (T : Tx K mg t1 t2) {fd : FuncData} (F : Fd K d_ParseError_init fd) : FnOk P w K mg base CX0 1 (He.ma K (He.ga K "ParseError") "__init__") fd ["self", "text"] (My.sp_exc K "ParseError" "text") := by
  refine F.ok sc_ParseError_init (fun vs H Q E h => ?_) (fun cdv A outer s H vs Q E hr h => ?_)
  · obtain ⟨a, v, rfl, _⟩ := h
    rfl
  · obtain ⟨a, v, rfl, ha, q⟩ := h
    refine ⟨_, PSs.nox ((pss_cons (ps_expr (pe_veinit rfl T.n_ValueError T.vV (pa_cons (pv 0) (pa_cons pe_str pa_nil))))
  (pss_one (ps_ost (pv 0) (pv 1))))), ?_⟩
    refine My.x_start (σ := [some (V.ref a), some v]) rfl ?_
    try dsimp only [cxOf, Cx.nox]
    walk_at "go"
    refine ⟨a, _, _, rfl, by decide, T.exPE.o, ha, ?_⟩
    walk_at "go"
    exact ⟨a, _, rfl, T.exPE.o, T.exPE.no, .inl ⟨ha, fun dx h1 h2 => q dx h1 h2⟩⟩
theorem ok_text (T : Tx K mg t1 t2) {fd : FuncData} (F : Fd K d_is_text fd) : FnOk P w K mg base CX0 1 (He.fAd K d_is_text.at_) fd ["value", "most"] (sp_text K) := by
  refine F.ok sc_is_text (fun vs H Q E h => ?_) (fun cdv A outer s H vs Q E hr h => ?_)
  · obtain ⟨x, m, rfl, _⟩ := h
    rfl
  · obtain ⟨x, m, rfl, h⟩ := h
    refine ⟨_, PSs.nox ((pss_one (ps_ret (pe_and (pe_callB call_isi (by rfl) T.n_isinstance (by decide +kernel) (pa_cons (pv 0) (pa_cons (pe_bltn (v := .ty "str") rfl T.n_str (by decide +kernel) rfl) pa_nil))) (pe_and (pe_cmpR op_le (pe_callB call_len_str (by rfl) T.n_len (by decide +kernel) (pa_cons (pv 0) pa_nil)) (pv 1) (nomark _)) (pe_one (pe_callB (cr_all rfl) (by rfl) T.n_all (by decide +kernel) (pa_cons (pe_lc (own := [("sign", 2)]) (g := gName 2) (tt := tYes) rfl sc_is_text.nd (pi_str (pv 0)) (blkOk_by (own := [("sign", 2)]) (N := ["value", "most", "sign"]) (sc := defScope s_is_text) (by decide +kernel)) (fun _ _ _ _ _ => pg_name (i := 2) sc_is_text.nd rfl (Or.inl rfl)) (fun _ _ _ _ _ => pts_nil) (fun _ _ _ _ _ => (pe_chain op_le_str op_le_str pe_str (pv 2) pe_str))) pa_nil)))))))), ?_⟩
    refine My.x_start (σ := [some x, some (V.int m), none]) rfl ?_
    try dsimp only [cxOf, Cx.nox]
    walk_at "go"
    rcases h with ⟨z, rfl, hz, q⟩ | ⟨⟨t, ht, k⟩, q⟩
    · refine My.x_isi (.ty "str") (.base (.str z)) (b := true) (kit_ty (by decide +kernel)) ?_
      walk_at "go"
      refine ⟨z, rfl, by rw [sizeLine_eq]; omega, ?_⟩
      walk_at "go"
      refine My.x_dec (fun h1 => ?_) (fun h1 => ?_)
      · rw [decide_eq_true h1] at q
        walk_at "go"
        refine ⟨_, rfl, z, rfl, fun D hD => ?_⟩
        refine My.lc_runs (My.runs_str z) (fun pre H' => Pl H D okS pre H') (Pl.zero hD) (fun _ _ _ _ _ => True.intro) ?_ ?_
        · rintro pre c post H1 v H2 hpre zz ⟨rfl, rfl⟩
          have hlen := pre_lt hpre hz
          walk_at "go"
          refine ⟨rfl, ?_⟩
          walk_at "go"
          refine ⟨_, rfl, ?_⟩
          refine ⟨_, _, rfl, rfl, _, rfl, ?_⟩
          show if (!decide ([c] < [32])) = true then _ else _
          by_cases hc : [c] < [32]
          · have e : (!decide ([c] < [32])) = false := by rw [decide_eq_true hc]; rfl
            rw [if_neg (by rw [e]; exact Bool.false_ne_true)]
            exact zz.next (by unfold okS; rw [e]; rfl) hlen
          · have e : (!decide ([c] < [32])) = true := by rw [decide_eq_false hc]; rfl
            rw [if_pos e]
            refine ⟨_, _, rfl, rfl, ?_⟩
            exact zz.next (by unfold okS; rw [e, Bool.true_and]; rfl) hlen
        · rintro H1 ⟨S, gD, _⟩
          walk_at "go"
          refine ⟨D, z.cps.toList.map okS, rfl, SqL.of gD, ?_⟩
          have e : (z.cps.toList.map okS).all id = z.cps.toList.all okS := by rw [List.all_map]; rfl
          rw [e]
          exact q H1 S
      · rw [decide_eq_false h1] at q
        exact q H (Same.refl H)
    · refine My.x_isi (.ty "str") ht k ?_
      walk_at "go"
      exact q
end
end K32

end

section
local macro_rules | `(tactic| walk_at "ne") => `(tactic| first | assumption | (apply Ne.symm; assumption) | exact L2.ne_of_none (by assumption) (by assumption) | exact (L2.ne_of_none (by assumption) (by assumption)).symm)
local macro_rules | `(tactic| walk_at "hp") => `(tactic| first | assumption | exact L2.upd_same | (rw [L2.upd_ne (by walk_at "ne")]; walk_at "hp"))
local macro_rules | `(tactic| walk_at "sq") => `(tactic| first | assumption | exact L2.SqL.of (by walk_at "hp") | exact My.sq_new (by walk_at "sq") (by assumption))
local macro_rules | `(tactic| walk_at "sd") => `(tactic| first | decide | omega | (unfold L2.CDivN; omega) | (unfold L2.CMul; omega) | (unfold L2.CPow; omega))
local macro_rules | `(tactic| walk_at "sx1") => `(tactic| first | with_reducible refine My.x_seq ?_ | with_reducible refine My.x_asg ?_ | with_reducible refine My.x_ret ?_ | with_reducible refine My.x_next ?_ | with_reducible refine My.x_op ?_ | with_reducible refine My.x_c ?_ | with_reducible refine My.x_ifs ?_ | with_reducible refine My.x_test ?_ | with_reducible refine My.x_exbl ?_ | with_reducible refine My.x_cons ?_ | with_reducible refine My.x_nil ?_ | with_reducible refine My.x_cb ?_ | with_reducible refine My.x_drop ?_ | with_reducible refine My.x_par ?_ | with_reducible refine My.x_exp2 ?_ | with_reducible refine My.x_aug ?_ | with_reducible refine My.x_if ?_ | with_reducible refine My.x_tB ?_ | with_reducible refine My.x_and ?_ | with_reducible refine My.x_or ?_ | with_reducible refine My.x_not ?_ | with_reducible refine My.x_retn ?_ | with_reducible refine My.x_cont ?_ | with_reducible refine My.x_brk ?_ | with_reducible refine My.x_un ?_ | with_reducible refine My.x_tfor ?_ | with_reducible refine My.x_ilist ?_ | with_reducible refine My.x_rng1 ?_ | with_reducible refine My.x_rng2 ?_ | with_reducible refine My.x_r1 ?_ | with_reducible refine My.x_call ?_ | with_reducible refine My.x_sl ?_ | with_reducible refine My.x_part ?_ | with_reducible refine My.x_nopart ?_ | with_reducible refine My.x_ii0 ?_ | with_reducible refine My.x_yes ?_ | with_reducible refine My.x_andv ?_ | with_reducible refine My.x_orv ?_ | with_reducible refine My.x_notv ?_ | with_reducible refine My.x_iT ?_ | with_reducible refine My.x_iF ?_ | with_reducible refine My.x_chain ?_ | with_reducible refine My.x_exI ?_ | with_reducible refine My.x_wipe ?_ | with_reducible refine My.x_bm ?_ | with_reducible refine My.x_bm0 ?_ | with_reducible refine My.x_gsub ?_ | with_reducible refine My.x_int1 ?_ | with_reducible refine My.x_two ?_ | with_reducible refine My.x_lst ?_ | with_reducible refine My.x_tup ?_ | with_reducible refine My.x_revL ?_ | with_reducible refine My.x_dput ?_ | with_reducible refine My.x_dget ?_ | with_reducible refine My.x_dnew ?_ | with_reducible refine My.x_dc ?_ | with_reducible refine My.x_lc ?_ | with_reducible refine My.x_ienum ?_ | with_reducible refine My.x_gcons ?_ | with_reducible refine My.x_gnil ?_ | with_reducible refine My.x_v0 ?_ | with_reducible refine My.x_v1 ?_ | with_reducible refine My.x_v2 ?_ | with_reducible refine My.x_v3 ?_ | with_reducible refine My.x_v4 ?_ | with_reducible refine My.x_v5 ?_ | with_reducible refine My.x_v6 ?_ | with_reducible refine My.x_v7 ?_ | with_reducible refine My.x_v8 ?_ | with_reducible refine My.x_v9 ?_ | with_reducible refine My.x_v10 ?_ | with_reducible refine My.x_v11 ?_ | with_reducible refine My.x_v12 ?_ | with_reducible refine My.x_v13 ?_ | with_reducible refine My.x_v14 ?_ | with_reducible refine My.x_v15 ?_ | with_reducible refine My.x_v16 ?_ | with_reducible refine My.x_v17 ?_ | with_reducible refine My.x_v18 ?_ | with_reducible refine My.x_v19 ?_ | with_reducible refine My.x_v20 ?_ | with_reducible refine My.x_v21 ?_ | with_reducible refine My.x_v22 ?_ | with_reducible refine My.x_v23 ?_ | with_reducible refine My.x_v24 ?_ | with_reducible refine My.x_v25 ?_ | with_reducible refine My.x_g0 ?_ | with_reducible refine My.x_g1 ?_ | with_reducible refine My.x_g2 ?_ | with_reducible refine My.x_g3 ?_ | with_reducible refine My.x_g4 ?_ | with_reducible refine My.x_g5 ?_ | with_reducible refine My.x_g6 ?_ | with_reducible refine My.x_g7 ?_ | with_reducible refine My.x_g8 ?_ | with_reducible refine My.x_g9 ?_ | with_reducible refine My.x_g10 ?_ | with_reducible refine My.x_g11 ?_ | with_reducible refine My.x_g12 ?_ | with_reducible refine My.x_g13 ?_ | with_reducible refine My.x_g14 ?_ | with_reducible refine My.x_g15 ?_ | with_reducible refine My.x_g16 ?_ | with_reducible refine My.x_g17 ?_ | with_reducible refine My.x_g18 ?_ | with_reducible refine My.x_g19 ?_ | with_reducible refine My.x_g20 ?_ | with_reducible refine My.x_g21 ?_ | with_reducible refine My.x_g22 ?_ | with_reducible refine My.x_g23 ?_ | with_reducible refine My.x_g24 ?_ | with_reducible refine My.x_g25 ?_)
local macro_rules | `(tactic| walk_at "sx") => `(tactic| repeat (walk_at "sx1"))
local macro_rules | `(tactic| walk_at "ln") => `(tactic| first | assumption | exact Nat.le_of_ble_eq_true rfl | (simp only [List.length_append, List.length_map, List.length_cons, List.length_nil]; simp only [PySem.sizeLine]; omega))
local macro_rules | `(tactic| walk_at "st") => `(tactic| first | assumption | exact L2.SqT.of (by walk_at "hp"))
local macro_rules | `(tactic| walk_at "go1") => `(tactic| first | walk_at "sx1" | ((with_reducible refine' My.x_ixL ?x0 ?x1 ?x2); (case x0 => walk_at "sq"); (case x1 => exact rfl)) | ((with_reducible refine' My.x_ixT ?x0 ?x1 ?x2); (case x0 => walk_at "st"); (case x1 => exact rfl)) | ((with_reducible refine' My.x_i ?x0 ?x1); (case x0 => walk_at "sd")) | ((with_reducible refine' My.x_setL ?x0 ?x1 ?x2); (case x0 => walk_at "hp"); (case x1 => exact rfl)) | ((with_reducible refine' My.x_len ?x0 ?x1); (case x0 => walk_at "sq")) | ((with_reducible refine' My.x_lenT ?x0 ?x1); (case x0 => walk_at "st")) | ((with_reducible refine' My.x_lenD ?x0 ?x1); (case x0 => walk_at "hp")) | ((with_reducible refine' My.x_append ?x0 ?x1 ?x2); (case x0 => walk_at "hp"); (case x1 => walk_at "ln")) | ((with_reducible refine' My.x_tyL ?x0 ?x1); (case x0 => walk_at "hp")) | ((with_reducible refine' My.x_ilistE ?x0 ?x1); (case x0 => walk_at "sq")) | ((with_reducible refine' My.x_ienumE ?x0 ?x1); (case x0 => walk_at "sq")) | ((with_reducible refine' My.x_sortI ?x0 ?x1); (case x0 => walk_at "sq")) | ((with_reducible refine' My.x_slL ?x0 ?x1); (case x0 => walk_at "sq")) | ((with_reducible refine' My.x_revL2 ?x0 ?x1); (case x0 => walk_at "sq")) | ((with_reducible refine' My.x_eq ?x0 ?x1); (case x0 => exact rfl)) | ((with_reducible refine' My.x_ne ?x0 ?x1); (case x0 => exact rfl)) | ((with_reducible refine' My.x_dputI ?x0 ?x1 ?x2); (case x0 => walk_at "hp"); (case x1 => walk_at "ln")) | ((with_reducible refine' My.x_dputS ?x0 ?x1 ?x2); (case x0 => walk_at "hp"); (case x1 => walk_at "ln")) | ((with_reducible refine' My.x_seqof ?x0 ?x1); (case x0 => walk_at "sq")) | ((with_reducible refine' My.x_gtup ?x0 ?x1 ?x2); (case x0 => walk_at "st"); (case x1 => exact rfl)) | ((with_reducible refine' My.x_mem1 ?x0 ?x1); (case x0 => walk_at "ln")))
local macro_rules | `(tactic| walk_at "go") => `(tactic| repeat (walk_at "go1"))
local macro_rules | `(tactic| walk_at "sx1") => `(tactic| first | with_reducible refine My.x_fld ?_ | with_reducible refine My.x_sfld ?_ | with_reducible refine My.x_meth ?_ | with_reducible refine My.x_make ?_ | with_reducible refine My.x_din ?_ | with_reducible refine My.x_dnin ?_ | with_reducible refine My.x_ikeys ?_ | with_reducible refine My.x_itup ?_ | with_reducible refine My.x_mkO ?_ | with_reducible refine My.x_vei ?_ | with_reducible refine My.x_ost ?_ | with_reducible refine My.x_nF ?_ | with_reducible refine My.x_nT ?_)
local macro_rules | `(tactic| walk_at "go1") => `(tactic| first | ((with_reducible refine' My.x_fldE ?x0 ?x1 ?x2 ?x3 ?x4); (case x0 => walk_at "hp"); (case x1 => assumption); (case x2 => assumption); (case x3 => exact rfl)) | ((with_reducible refine' My.x_sfldE ?x0 ?x1 ?x2 ?x3 ?x4 ?x5); (case x0 => walk_at "hp"); (case x1 => assumption); (case x2 => assumption); (case x3 => decide); (case x4 => exact rfl)) | ((with_reducible refine' My.x_methE ?x0 ?x1 ?x2); (case x0 => walk_at "hp"); (case x1 => exact rfl)) | ((with_reducible refine' My.x_itupE ?x0 ?x1); (case x0 => walk_at "st")))
local macro_rules | `(tactic| walk_at "sx1") => `(tactic| first | with_reducible refine LZ.x_zz ?_ | with_reducible refine LZ.x_star ?_)
namespace K32
open PySem PySem.Spec PyProof.Rows L2
section
variable {P : Program} {w : World} {K : PySem.W.Frag} {mg : Str → Option Value} {base : Heap} {t1 t2 : Tok}
theorem at0 {x : V} {xs : List V} : atI (x :: xs) 0 = some x := atI_nat (j := 0) rfl
theorem kct {K : PySem.W.Frag} {w : World} {a : Addr} {z : Str} {p : Addr} {es : Array DictEntry} {n : Nat} (KD : KDict K w a es n) (h : PySem.W.nsIn K a z = some (some (.ref p))) : KDct K w a z (.ref p) := ⟨es, n, _, KD.at_, KD.lit, h, rfl⟩
theorem ok_oper (T : Tx K mg t1 t2) {es : Array DictEntry} {n : Nat} (KD : KDict K w (FA K) es n) {fd : FuncData} (F : Fd K d_is_operation fd) : FnOk P w K mg base CX0 1 (He.fAd K d_is_operation.at_) fd ["value"] (sp_oper K) := by
  refine F.ok sc_is_operation (fun vs H Q E h => ?_) (fun cdv A outer s H vs Q E hr h => ?_)
  · obtain ⟨x, rfl, _⟩ := h
    rfl
  · obtain ⟨x, rfl, h⟩ := h
    refine ⟨_, PSs.nox ((pss_cons (ps_if (PW.pt (pw_or (pt_not (pt_val (pe_callB call_isi (by rfl) T.n_isinstance (by decide +kernel) (pa_cons (pv 0) (pa_cons (pe_bltn (v := .ty "tuple") rfl T.n_tuple (by decide +kernel) rfl) pa_nil))))) (pw_or (pt_cmpR op_eq (pe_callB call_len_seq (by rfl) T.n_len (by decide +kernel) (pa_cons (pv 0) pa_nil)) pe_int (nomark _)) (pw_or (pt_not (pt_val (pe_callB call_isi (by rfl) T.n_isinstance (by decide +kernel) (pa_cons (pe_ix ix_tup (pv 0) pe_int (fun _ _ => rfl)) (pa_cons (pe_bltn (v := .ty "str") rfl T.n_str (by decide +kernel) rfl) pa_nil))))) (pw_or1 (pt_cmpR (op_notIn_kd KD) (pe_ix ix_tup (pv 0) pe_int (fun _ _ => rfl)) (pe_glob (v := .ref (FA K)) rfl T.g_FORMS rfl) (by rfl)))))))
  (pss_one (ps_ret pe_bl))
  pss_nil)
  (pss_one (ps_ret (pe_cmpR op_eq (pe_callB call_len_seq (by rfl) T.n_len (by decide +kernel) (pa_cons (pv 0) pa_nil)) (pe_op op_add pe_int (pe_callB call_len_seq (by rfl) T.n_len (by decide +kernel) (pa_cons (pe_ix ix_kdict (pe_glob (v := .ref (FA K)) rfl T.g_FORMS rfl) (pe_ix ix_tup (pv 0) pe_int (fun _ _ => rfl)) (fun _ _ => rfl)) pa_nil))) (nomark _)))))), ?_⟩
    refine My.x_start (σ := [some x]) rfl ?_
    try dsimp only [cxOf, Cx.nox]
    walk_at "go"
    rcases h with ⟨⟨t, ht, hk⟩ | ⟨a, rfl, hs⟩ | ⟨a, z, xs, rfl, hs, hl, hf⟩, q⟩ | ⟨a, z, xs, fs, rfl, hs, hl, hf, hn, q⟩
    · refine My.x_isi (.ty "tuple") ht hk ?_
      walk_at "go"
      exact q
    · refine My.x_isi (.ty "tuple") (My.sqt_ty hs) (b := true) (by rfl) ?_
      walk_at "sx"
      refine My.x_lenT hs ?_
      walk_at "sx"
      refine My.x_eq rfl ?_
      walk_at "sx"
      refine My.x_dec (fun _ => ?_) (fun z => absurd rfl z)
      walk_at "sx"
      exact q
    · have h0 : SqT K H a (.str z :: xs) := hs
      refine My.x_isi (.ty "tuple") (My.sqt_ty hs) (b := true) (by rfl) ?_
      walk_at "sx"
      refine My.x_lenT hs ?_
      walk_at "sx"
      refine My.x_eq rfl ?_
      walk_at "sx"
      refine My.x_dec (fun z => ?_) (fun _ => ?_)
      · have z : ((xs.length + 1 : Nat) : Int) = 0 := V.int.inj z
        omega
      walk_at "sx"
      refine My.x_ixT hs at0 ?_
      walk_at "sx"
      refine My.x_isi (.ty "str") (.base (.str z)) (b := true) (kit_ty (by decide +kernel)) ?_
      walk_at "sx"
      refine My.x_ixT hs at0 ?_
      walk_at "sx"
      cases hz : fm z with
      | none =>
        refine ⟨z, _, rfl, rfl, T.fNo z hz, ?_⟩
        walk_at "sx"
        exact q
      | some fs =>
        obtain ⟨p, hp, hq⟩ := T.fYes z fs hz
        refine ⟨z, _, rfl, rfl, hp, ?_⟩
        refine My.x_exbl (b := false) (My.x_iF ?_)
        walk_at "sx"
        refine My.x_lenT hs ?_
        walk_at "sx"
        refine My.x_ixT hs at0 ?_
        refine ⟨_, z, .ref p, rfl, rfl, kct KD hp, ?_⟩
        walk_at "sx"
        refine My.x_lenT (hq H) ?_
        walk_at "sx"
        refine My.x_eq rfl ?_
        rw [decide_eq_false]
        · exact q
        · intro e
          have e : ((xs.length + 1 : Nat) : Int) = 1 + ((fs.map V.str).length : Nat) := V.int.inj e
          rw [List.length_map] at e
          exact hf fs hz (by omega)
    · refine My.x_isi (.ty "tuple") (My.sqt_ty hs) (b := true) (by rfl) ?_
      walk_at "sx"
      refine My.x_lenT hs ?_
      walk_at "sx"
      refine My.x_eq rfl ?_
      walk_at "sx"
      refine My.x_dec (fun z => ?_) (fun _ => ?_)
      · have z : ((xs.length + 1 : Nat) : Int) = 0 := V.int.inj z
        omega
      walk_at "sx"
      refine My.x_ixT hs at0 ?_
      walk_at "sx"
      refine My.x_isi (.ty "str") (.base (.str z)) (b := true) (kit_ty (by decide +kernel)) ?_
      walk_at "sx"
      refine My.x_ixT hs at0 ?_
      walk_at "sx"
      obtain ⟨p, hp, hq⟩ := T.fYes z fs hf
      refine ⟨z, _, rfl, rfl, hp, ?_⟩
      refine My.x_exbl (b := false) (My.x_iF ?_)
      walk_at "sx"
      refine My.x_lenT hs ?_
      walk_at "sx"
      refine My.x_ixT hs at0 ?_
      refine ⟨_, z, .ref p, rfl, rfl, kct KD hp, ?_⟩
      walk_at "sx"
      refine My.x_lenT (hq H) ?_
      walk_at "sx"
      refine My.x_eq rfl ?_
      rw [decide_eq_true]
      · exact q
      · show V.int ((xs.length + 1 : Nat) : Int) = V.int (1 + ((fs.map V.str).length : Nat))
        rw [List.length_map, hn]
        congr 1
        omega
theorem isD_in (c : Nat) : decide (c ∈ ("0123456789" : Str).cps.toList) = isD c := by
  have e : ("0123456789" : Str).cps.toList = [48, 49, 50, 51, 52, 53, 54, 55, 56, 57] := by decide +kernel
  rw [e]
  unfold isD
  rw [Bool.eq_iff_iff]
  simp only [decide_eq_true_eq, Bool.and_eq_true, List.mem_cons, List.not_mem_nil, or_false]
  omega
/-- text == "0" or text[0] != "0" -/
theorem zero_S : ("0" : Str) = S [48] := by decide +kernel
theorem str_eq {v w : W} : decide (V.str (S v) = V.str (S w)) = decide (v = w) := by
  by_cases h : v = w
  · subst h; rw [decide_eq_true rfl, decide_eq_true rfl]
  · rw [decide_eq_false h, decide_eq_false fun z => h (S_inj (V.str.inj z))]
/-- text == "0" or text[0] != "0", behind the tests of length and signs -/
theorem x_zero {v : W} {σ : L2.St} {H : Hp} {Q : VK} (h1 : 1 ≤ v.length) (h2 : v.length ≤ 5000) (q : Q (.bl (decide (v = [48]) || !decide (v.head? = some 48))) H) :
    rEq (V.str (S v)) (V.str ("0" : Str)) H fun x H1 => ∃ c, x = .bl c ∧ if c = true then Q (.bl true) H1 else tOp rNe (tOp rIxS (tVar 0) (tC (V.int 0))) (tC (V.str ("0" : Str))) (some (V.str (S v)) :: σ) H1 Q := by
  refine My.x_eq rfl ?_
  rw [zero_S, str_eq]
  refine My.x_exbl ?_
  by_cases h : v = [48]
  · rw [decide_eq_true h] at q ⊢
    exact iteT q
  · rw [decide_eq_false h, Bool.false_or] at q
    rw [decide_eq_false h]
    refine iteF ?_
    walk_at "sx"
    cases v with
    | nil => simp at h1
    | cons c r =>
      refine ⟨S (c :: r), 0, c, rfl, rfl, by rw [sizeLine_eq]; exact Nat.le_trans h2 (by omega), atI_nat (j := 0) rfl, ?_⟩
      refine My.x_ne rfl ?_
      have e : decide (V.str (S [c]) = V.str (S [48])) = decide ((c :: r).head? = some 48) := by
        rw [str_eq]
        by_cases hc : c = 48
        · simp [hc]
        · simp [hc]
      show Q (.bl (!decide (V.str (S [c]) = V.str (S [48])))) H
      rw [e]
      exact q
theorem ok_num (T : Tx K mg t1 t2) {fd : FuncData} (F : Fd K d_is_number fd) : FnOk P w K mg base CX0 1 (He.fAd K d_is_number.at_) fd ["text"] sp_num := by
  refine F.ok sc_is_number (fun vs H Q E h => ?_) (fun cdv A outer s H vs Q E hr h => ?_)
  · obtain ⟨z, rfl, _⟩ := h
    rfl
  · obtain ⟨z, rfl, hz, q⟩ := h
    obtain ⟨v, rfl⟩ : ∃ v, z = S v := ⟨z.cps.toList, rfl⟩
    have q : ∀ H', Same H H' → Q (.bl (num v)) H' := q
    have hv : v.length ≤ 5000 := hz
    refine ⟨_, PSs.nox ((pss_cons (ps_if (PW.pt (pw_or (pt_not (pt_chain op_le op_le pe_int (pe_callB call_len_str (by rfl) T.n_len (by decide +kernel) (pa_cons (pv 0) pa_nil)) pe_int)) (pw_or1 (pt_not (pt_val (pe_callB (cr_all rfl) (by rfl) T.n_all (by decide +kernel) (pa_cons (pe_lc (own := [("sign", 1)]) (g := gName 1) (tt := tYes) rfl sc_is_number.nd (pi_str (pv 0)) (blkOk_by (own := [("sign", 1)]) (N := ["text", "sign"]) (sc := defScope s_is_number) (by decide +kernel)) (fun _ _ _ _ _ => pg_name (i := 1) sc_is_number.nd rfl (Or.inl rfl)) (fun _ _ _ _ _ => pts_nil) (fun _ _ _ _ _ => (pe_cmpR op_in_sign (pv 1) (pe_glob (v := .str "0123456789") rfl T.g_DIGITS ⟨_, rfl⟩) rfl))) pa_nil)))))))
  (pss_one (ps_ret pe_bl))
  pss_nil)
  (pss_one (ps_ret (pe_or (pe_cmpR op_eq (pv 0) pe_str (nomark _)) (pe_one (pe_cmpR op_ne (pe_ix ix_str (pv 0) pe_int (fun _ _ => rfl)) pe_str (nomark _)))))))), ?_⟩
    refine My.x_start (σ := [some (V.str (S v)), none]) rfl ?_
    try dsimp only [cxOf, Cx.nox]
    walk_at "sx"
    refine ⟨S v, rfl, by rw [sizeLine_eq]; exact Nat.le_trans hv (by omega), ?_⟩
    walk_at "sx"
    have bad : ¬ (1 ≤ v.length ∧ v.length ≤ 30) → num v = false := fun h => by
      unfold num
      rw [decide_eq_false h]
      rfl
    refine My.x_dec (fun h1 => ?_) (fun h1 => ?_)
    · have h1 : (1 : Int) ≤ (v.length : Int) := h1
      walk_at "sx"
      by_cases h2 : ((S v).length : Int) ≤ 30
      · have h2' : (v.length : Int) ≤ 30 := h2
        rw [decide_eq_true h2]
        walk_at "sx"
        refine ⟨_, rfl, S v, rfl, fun D hD => ?_⟩
        refine My.lc_runs (My.runs_str (S v)) (fun pre H' => Pl H D isD pre H') (Pl.zero hD) (fun _ _ _ _ _ => True.intro) ?_ ?_
        · rintro pre c post H1 x H2 hpre zz ⟨rfl, rfl⟩
          have hlen := pre_lt hpre hz
          walk_at "sx"
          refine ⟨rfl, ?_⟩
          walk_at "sx"
          refine ⟨_, rfl, c, _, rfl, rfl, ?_⟩
          rw [isD_in]
          exact zz.next rfl hlen
        · rintro H1 ⟨S1, gD, _⟩
          walk_at "sx"
          refine ⟨D, v.map isD, rfl, SqL.of gD, ?_⟩
          have e : (v.map isD).all id = v.all isD := by rw [List.all_map]; rfl
          rw [e]
          refine My.x_exbl ?_
          by_cases hd : v.all isD = true
          · rw [hd]
            walk_at "sx"
            refine x_zero (by omega) hv ?_
            have := q H1 S1
            unfold num at this
            rw [decide_eq_true ⟨by omega, by omega⟩, hd] at this
            exact this
          · have hd : v.all isD = false := Bool.eq_false_iff.mpr hd
            rw [hd]
            walk_at "sx"
            have := q H1 S1
            unfold num at this
            rw [hd, Bool.and_false, Bool.false_and] at this
            exact this
      · rw [decide_eq_false h2]
        walk_at "sx"
        have := q H (Same.refl H)
        rw [bad fun z => h2 (show ((v.length : Nat) : Int) ≤ 30 by omega)] at this
        exact this
    · walk_at "sx"
      have := q H (Same.refl H)
      rw [bad fun z => h1 (show (1 : Int) ≤ ((v.length : Nat) : Int) by omega)] at this
      exact this
theorem kd_blocks : kd ("blocks" : Str) = .q := by decide +kernel
theorem kd_q {f : Str} (h : kd f = .q) : f = ("blocks" : Str) := by
  unfold kd at h
  split at h
  · assumption
  · split at h
    · cases h
    · split at h <;> cases h
theorem log_of {k : Nat} (h : k < 10 ^ 30) : ((k : Nat) : Int).natAbs.log2 < 1920 := by
  have e : ((k : Nat) : Int).natAbs = k := rfl
  rw [e]
  refine Nat.lt_of_le_of_lt (Nat.le_of_lt_succ (m := k.log2) (n := 100) ?_) (by decide)
  by_cases hk : k = 0
  · subst hk; decide
  · exact (Nat.log2_lt hk).mpr (Nat.lt_of_lt_of_le h (by decide))
theorem ok_item (T : Tx K mg t1 t2) {fd : FuncData} (F : Fd K d_item_text fd) : FnOk P w K mg base CX0 1 (He.fAd K d_item_text.at_) fd ["form", "value"] sp_item := by
  refine F.ok sc_item_text (fun vs H Q E h => ?_) (fun cdv A outer s H vs Q E hr h => ?_)
  · obtain ⟨f, i, rfl, _⟩ := h
    rfl
  · obtain ⟨f, i, rfl, hf, q⟩ := h
    refine ⟨_, PSs.nox ((pss_cons (ps_if (PW.pt (pw_and (pt_cmpR op_eq (pv 0) pe_str (nomark _)) (pw_and1 (pt_cmpR op_isN (pv 1) pe_non (nomark _)))))
  (pss_one (ps_ret pe_str))
  pss_nil)
  (pss_one (ps_ret (pe_callTy call_strX (by rfl) T.n_str (by decide +kernel) (pa_cons (pv 1) pa_nil)))))), ?_⟩
    refine My.x_start (σ := [some (V.str f), some (itV i)]) rfl ?_
    try dsimp only [cxOf, Cx.nox]
    walk_at "sx"
    refine My.x_eq rfl ?_
    refine My.x_exbl ?_
    cases i with
    | non =>
      have hq : kd f = .q := by
        unfold fits at hf
        split at hf <;> first | assumption | (exact hf.elim) | (rename_i e; cases e) | skip
        all_goals first | (rename_i e _; cases e) | skip
      obtain rfl := kd_q hq
      rw [decide_eq_true rfl]
      walk_at "sx"
      refine ⟨rfl, My.x_exbl (b := true) (My.x_iT ?_)⟩
      walk_at "sx"
      rw [none_S]
      exact q
    | s w =>
      by_cases hq : f = ("blocks" : Str)
      · subst hq
        rw [kd_blocks] at hf
        cases hf
      · rw [decide_eq_false fun z => hq (V.str.inj z)]
        walk_at "sx"
        exact .inr ⟨_, rfl, q⟩
    | n w =>
      obtain ⟨k, hk, rfl⟩ : ∃ k : Nat, k < 10 ^ 30 ∧ w = TL.numL k := by
        unfold fits at hf
        split at hf
        · rename_i e; cases e
        · rename_i e; cases e; exact hf
        · rename_i e; cases e; exact hf
        · rename_i e; cases e
        · rename_i e; cases e
        · exact hf.elim
      have fin : (∃ i : Int, [itV (.n (TL.numL k))] = [.int i] ∧ i.natAbs.log2 < 1920 ∧ Q (.str (toString i)) H) := by
        refine ⟨((NumText.digitsVal (TL.numL k) : Nat) : Int), rfl, ?_, ?_⟩
        · rw [TL.numL_val]
          exact log_of hk
        · rw [TL.numL_val]
          have e : (Str.ofString (toString ((k : Nat) : Int))) = S (TL.numL k) := SX.num_S k
          rw [e]
          exact q
      refine My.x_bool (fun hb => ?_) (fun hb => ?_)
      · walk_at "sx"
        refine ⟨rfl, My.x_exbl (b := false) (My.x_iF ?_)⟩
        walk_at "sx"
        exact .inl fin
      · walk_at "sx"
        exact .inl fin
end
end K32

end

section
local macro_rules | `(tactic| walk_at "ne") => `(tactic| first | assumption | (apply Ne.symm; assumption) | exact L2.ne_of_none (by assumption) (by assumption) | exact (L2.ne_of_none (by assumption) (by assumption)).symm)
local macro_rules | `(tactic| walk_at "hp") => `(tactic| first | assumption | exact L2.upd_same | (rw [L2.upd_ne (by walk_at "ne")]; walk_at "hp"))
local macro_rules | `(tactic| walk_at "sq") => `(tactic| first | assumption | exact L2.SqL.of (by walk_at "hp") | exact My.sq_new (by walk_at "sq") (by assumption))
local macro_rules | `(tactic| walk_at "sd") => `(tactic| first | decide | omega | (unfold L2.CDivN; omega) | (unfold L2.CMul; omega) | (unfold L2.CPow; omega))
local macro_rules | `(tactic| walk_at "sx1") => `(tactic| first | with_reducible refine My.x_seq ?_ | with_reducible refine My.x_asg ?_ | with_reducible refine My.x_ret ?_ | with_reducible refine My.x_next ?_ | with_reducible refine My.x_op ?_ | with_reducible refine My.x_c ?_ | with_reducible refine My.x_ifs ?_ | with_reducible refine My.x_test ?_ | with_reducible refine My.x_exbl ?_ | with_reducible refine My.x_cons ?_ | with_reducible refine My.x_nil ?_ | with_reducible refine My.x_cb ?_ | with_reducible refine My.x_drop ?_ | with_reducible refine My.x_par ?_ | with_reducible refine My.x_exp2 ?_ | with_reducible refine My.x_aug ?_ | with_reducible refine My.x_if ?_ | with_reducible refine My.x_tB ?_ | with_reducible refine My.x_and ?_ | with_reducible refine My.x_or ?_ | with_reducible refine My.x_not ?_ | with_reducible refine My.x_retn ?_ | with_reducible refine My.x_cont ?_ | with_reducible refine My.x_brk ?_ | with_reducible refine My.x_un ?_ | with_reducible refine My.x_tfor ?_ | with_reducible refine My.x_ilist ?_ | with_reducible refine My.x_rng1 ?_ | with_reducible refine My.x_rng2 ?_ | with_reducible refine My.x_r1 ?_ | with_reducible refine My.x_call ?_ | with_reducible refine My.x_sl ?_ | with_reducible refine My.x_part ?_ | with_reducible refine My.x_nopart ?_ | with_reducible refine My.x_ii0 ?_ | with_reducible refine My.x_yes ?_ | with_reducible refine My.x_andv ?_ | with_reducible refine My.x_orv ?_ | with_reducible refine My.x_notv ?_ | with_reducible refine My.x_iT ?_ | with_reducible refine My.x_iF ?_ | with_reducible refine My.x_chain ?_ | with_reducible refine My.x_exI ?_ | with_reducible refine My.x_wipe ?_ | with_reducible refine My.x_bm ?_ | with_reducible refine My.x_bm0 ?_ | with_reducible refine My.x_gsub ?_ | with_reducible refine My.x_int1 ?_ | with_reducible refine My.x_two ?_ | with_reducible refine My.x_lst ?_ | with_reducible refine My.x_tup ?_ | with_reducible refine My.x_revL ?_ | with_reducible refine My.x_dput ?_ | with_reducible refine My.x_dget ?_ | with_reducible refine My.x_dnew ?_ | with_reducible refine My.x_dc ?_ | with_reducible refine My.x_lc ?_ | with_reducible refine My.x_ienum ?_ | with_reducible refine My.x_gcons ?_ | with_reducible refine My.x_gnil ?_ | with_reducible refine My.x_v0 ?_ | with_reducible refine My.x_v1 ?_ | with_reducible refine My.x_v2 ?_ | with_reducible refine My.x_v3 ?_ | with_reducible refine My.x_v4 ?_ | with_reducible refine My.x_v5 ?_ | with_reducible refine My.x_v6 ?_ | with_reducible refine My.x_v7 ?_ | with_reducible refine My.x_v8 ?_ | with_reducible refine My.x_v9 ?_ | with_reducible refine My.x_v10 ?_ | with_reducible refine My.x_v11 ?_ | with_reducible refine My.x_v12 ?_ | with_reducible refine My.x_v13 ?_ | with_reducible refine My.x_v14 ?_ | with_reducible refine My.x_v15 ?_ | with_reducible refine My.x_v16 ?_ | with_reducible refine My.x_v17 ?_ | with_reducible refine My.x_v18 ?_ | with_reducible refine My.x_v19 ?_ | with_reducible refine My.x_v20 ?_ | with_reducible refine My.x_v21 ?_ | with_reducible refine My.x_v22 ?_ | with_reducible refine My.x_v23 ?_ | with_reducible refine My.x_v24 ?_ | with_reducible refine My.x_v25 ?_ | with_reducible refine My.x_g0 ?_ | with_reducible refine My.x_g1 ?_ | with_reducible refine My.x_g2 ?_ | with_reducible refine My.x_g3 ?_ | with_reducible refine My.x_g4 ?_ | with_reducible refine My.x_g5 ?_ | with_reducible refine My.x_g6 ?_ | with_reducible refine My.x_g7 ?_ | with_reducible refine My.x_g8 ?_ | with_reducible refine My.x_g9 ?_ | with_reducible refine My.x_g10 ?_ | with_reducible refine My.x_g11 ?_ | with_reducible refine My.x_g12 ?_ | with_reducible refine My.x_g13 ?_ | with_reducible refine My.x_g14 ?_ | with_reducible refine My.x_g15 ?_ | with_reducible refine My.x_g16 ?_ | with_reducible refine My.x_g17 ?_ | with_reducible refine My.x_g18 ?_ | with_reducible refine My.x_g19 ?_ | with_reducible refine My.x_g20 ?_ | with_reducible refine My.x_g21 ?_ | with_reducible refine My.x_g22 ?_ | with_reducible refine My.x_g23 ?_ | with_reducible refine My.x_g24 ?_ | with_reducible refine My.x_g25 ?_)
local macro_rules | `(tactic| walk_at "sx") => `(tactic| repeat (walk_at "sx1"))
local macro_rules | `(tactic| walk_at "ln") => `(tactic| first | assumption | exact Nat.le_of_ble_eq_true rfl | (simp only [List.length_append, List.length_map, List.length_cons, List.length_nil]; simp only [PySem.sizeLine]; omega))
local macro_rules | `(tactic| walk_at "st") => `(tactic| first | assumption | exact L2.SqT.of (by walk_at "hp"))
local macro_rules | `(tactic| walk_at "go1") => `(tactic| first | walk_at "sx1" | ((with_reducible refine' My.x_ixL ?x0 ?x1 ?x2); (case x0 => walk_at "sq"); (case x1 => exact rfl)) | ((with_reducible refine' My.x_ixT ?x0 ?x1 ?x2); (case x0 => walk_at "st"); (case x1 => exact rfl)) | ((with_reducible refine' My.x_i ?x0 ?x1); (case x0 => walk_at "sd")) | ((with_reducible refine' My.x_setL ?x0 ?x1 ?x2); (case x0 => walk_at "hp"); (case x1 => exact rfl)) | ((with_reducible refine' My.x_len ?x0 ?x1); (case x0 => walk_at "sq")) | ((with_reducible refine' My.x_lenT ?x0 ?x1); (case x0 => walk_at "st")) | ((with_reducible refine' My.x_lenD ?x0 ?x1); (case x0 => walk_at "hp")) | ((with_reducible refine' My.x_append ?x0 ?x1 ?x2); (case x0 => walk_at "hp"); (case x1 => walk_at "ln")) | ((with_reducible refine' My.x_tyL ?x0 ?x1); (case x0 => walk_at "hp")) | ((with_reducible refine' My.x_ilistE ?x0 ?x1); (case x0 => walk_at "sq")) | ((with_reducible refine' My.x_ienumE ?x0 ?x1); (case x0 => walk_at "sq")) | ((with_reducible refine' My.x_sortI ?x0 ?x1); (case x0 => walk_at "sq")) | ((with_reducible refine' My.x_slL ?x0 ?x1); (case x0 => walk_at "sq")) | ((with_reducible refine' My.x_revL2 ?x0 ?x1); (case x0 => walk_at "sq")) | ((with_reducible refine' My.x_eq ?x0 ?x1); (case x0 => exact rfl)) | ((with_reducible refine' My.x_ne ?x0 ?x1); (case x0 => exact rfl)) | ((with_reducible refine' My.x_dputI ?x0 ?x1 ?x2); (case x0 => walk_at "hp"); (case x1 => walk_at "ln")) | ((with_reducible refine' My.x_dputS ?x0 ?x1 ?x2); (case x0 => walk_at "hp"); (case x1 => walk_at "ln")) | ((with_reducible refine' My.x_seqof ?x0 ?x1); (case x0 => walk_at "sq")) | ((with_reducible refine' My.x_gtup ?x0 ?x1 ?x2); (case x0 => walk_at "st"); (case x1 => exact rfl)) | ((with_reducible refine' My.x_mem1 ?x0 ?x1); (case x0 => walk_at "ln")))
local macro_rules | `(tactic| walk_at "go") => `(tactic| repeat (walk_at "go1"))
local macro_rules | `(tactic| walk_at "sx1") => `(tactic| first | with_reducible refine My.x_fld ?_ | with_reducible refine My.x_sfld ?_ | with_reducible refine My.x_meth ?_ | with_reducible refine My.x_make ?_ | with_reducible refine My.x_din ?_ | with_reducible refine My.x_dnin ?_ | with_reducible refine My.x_ikeys ?_ | with_reducible refine My.x_itup ?_ | with_reducible refine My.x_mkO ?_ | with_reducible refine My.x_vei ?_ | with_reducible refine My.x_ost ?_ | with_reducible refine My.x_nF ?_ | with_reducible refine My.x_nT ?_)
local macro_rules | `(tactic| walk_at "go1") => `(tactic| first | ((with_reducible refine' My.x_fldE ?x0 ?x1 ?x2 ?x3 ?x4); (case x0 => walk_at "hp"); (case x1 => assumption); (case x2 => assumption); (case x3 => exact rfl)) | ((with_reducible refine' My.x_sfldE ?x0 ?x1 ?x2 ?x3 ?x4 ?x5); (case x0 => walk_at "hp"); (case x1 => assumption); (case x2 => assumption); (case x3 => decide); (case x4 => exact rfl)) | ((with_reducible refine' My.x_methE ?x0 ?x1 ?x2); (case x0 => walk_at "hp"); (case x1 => exact rfl)) | ((with_reducible refine' My.x_itupE ?x0 ?x1); (case x0 => walk_at "st")))
local macro_rules | `(tactic| walk_at "sx1") => `(tactic| first | with_reducible refine LZ.x_zz ?_ | with_reducible refine LZ.x_star ?_)
namespace K32
open PySem PySem.Spec PyProof.Rows L2
section
variable {P : Program} {w : World} {K : PySem.W.Frag} {mg : Str → Option Value} {base : Heap} {t1 t2 : Tok}
abbrev CNum (P : Program) (w : World) (K : PySem.W.Frag) (mg : Str → Option Value) (base : Heap) : Prop := My.Cl P w K mg base "is_number" ["text"] 1 sp_num
theorem inV_str (f : Str) : ∀ ks : List Str, inV (.str f) (ks.map V.str) = decide (f ∈ ks)
  | [] => by simp [inV]
  | k :: r => by
    have ih := inV_str f r
    unfold inV at ih ⊢
    rw [List.map_cons, List.any_cons, ih]
    have : eqV (V.str k) (V.str f) = decide (k = f) := rfl
    rw [this, Bool.eq_iff_iff]
    simp only [Bool.or_eq_true, decide_eq_true_eq, List.mem_cons]
    exact ⟨fun q => q.imp Eq.symm id, fun q => q.imp Eq.symm id⟩
theorem flat_strs (ks : List Str) : (ks.map V.str).all flatV = true := by
  rw [List.all_eq_true]
  intro x hx
  obtain ⟨k, _, rfl⟩ := List.mem_map.mp hx
  rfl
theorem kd_data : kd ("data" : Str) = .d := by decide +kernel
/-- NUMBERS holds the forms of numbers -/
theorem kd_nb {f : Str} : f ∈ NB ↔ kd f = .q ∨ kd f = .n := by
  unfold kd
  constructor
  · intro h
    split
    · exact .inl rfl
    · split
      · rename_i e; subst e; exact absurd h (by decide +kernel)
      · exact .inr rfl
  · intro h
    split at h
    · rename_i e; subst e; decide +kernel
    · split at h
      · simp at h
      · split at h
        · assumption
        · simp at h
theorem kd_d {f : Str} (h : kd f = .d) : f = ("data" : Str) := by
  unfold kd at h
  split at h
  · cases h
  · split at h
    · assumption
    · split at h <;> cases h
theorem ok_rd (T : Tx K mg t1 t2) {fd : FuncData} (F : Fd K d_read_item fd) (C_is_number : CNum P w K mg base) {fdE : FuncData} (okPE : FnOk P w K mg base CX0 1 (He.ma K (He.ga K "ParseError") "__init__") fdE ["self", "text"] (My.sp_exc K "ParseError" "text")) (bPE : Binds K fdE ["self", "text"] []) :
    FnOk P w K mg base (L2.CX P w) 3 (He.fAd K d_read_item.at_) fd ["form", "word", "text"] (sp_rd K) := by
  refine F.ok sc_read_item (fun vs H Q E h => ?_) (fun cdv A outer s H vs Q E hr h => ?_)
  · obtain ⟨f, v, t, rfl, _⟩ := h
    rfl
  · obtain ⟨f, v, t, rfl, hv, q, e⟩ := h
    obtain ⟨v, rfl⟩ : ∃ u, v = S u := ⟨v.cps.toList, rfl⟩
    have q : ∀ i H', rdI num none_ (kd f) v = some i → Same H H' → Q (itV i) H' := q
    have e : rdI num none_ (kd f) v = none → ∀ H1, Same H H1 → Rz K "ParseError" "text" (.str t) H1 E := e
    refine ⟨_, ((pss_cons (ps_if (PW.pt (pw_and (pt_cmpR op_eq (pv 0) pe_str (nomark _)) (pw_and1 (pt_cmpR op_eq (pv 1) pe_str (nomark _)))))
  (pss_one (ps_ret pe_non))
  pss_nil)
  (pss_cons (ps_if (pt_cmpR (op_in_seqK (K := K) (by rfl)) (pv 0) (pe_glob (v := .ref (NA K)) rfl T.g_NUMBERS rfl) (by rfl))
  (pss_cons (ps_if (pt_not (pt_val (My.pe_cl C_is_number (hr.mono (by decide)) rfl (pa_cons (pv 1) pa_nil))))
  (pss_one (My.ps_raiseX rfl T.exPE okPE bPE (hr.mono (by decide)) (takes_of rfl rfl rfl rfl) (pa_cons (pv 2) pa_nil) rfl))
  pss_nil)
  (pss_one (ps_ret (pe_callTy call_int_str (by rfl) T.n_int (by decide +kernel) (pa_cons (pv 1) pa_nil)))))
  pss_nil)
  (pss_cons (ps_if (PW.pt (pw_and (pt_cmpR op_eq (pv 1) pe_str (nomark _)) (pw_and1 (pt_cmpR op_ne (pv 0) pe_str (nomark _)))))
  (pss_one (My.ps_raiseX rfl T.exPE okPE bPE (hr.mono (by decide)) (takes_of rfl rfl rfl rfl) (pa_cons (pv 2) pa_nil) rfl))
  pss_nil)
  (pss_one (ps_ret (pv 1))))))), ?_⟩
    refine My.x_start (σ := [some (V.str f), some (V.str (S v)), some (V.str t)]) rfl ?_
    try dsimp only [cxOf, Cx.nox]
    have rz : rdI num none_ (kd f) v = none → ∀ H1 d, Same H H1 → H1 d = none → E (.ref (He.ga K "ParseError")) (some d) (upd H1 d (.xd [(("text" : Str), V.str t)])) := fun n H1 d s1 hd => e n H1 s1 d _ hd (My.Same.new (Same.refl H1) hd) upd_same
    -- behind the test for a quota's "none"
    have rest : ¬ (kd f = .q ∧ v = none_) → ∀ R : Ends, R.rt = Q → (tSeq
            (tIfS (tTest (tOp (rIn K false) (tVar 0) (tC (V.ref (NA K)))))
              (tSeq
                (tIfS (tNot (tB (tCall sp_num [] E0 (tCons (tVar 1) tNil))))
                  (fun _ σ H => tMkO (He.ga K "ParseError") (My.sp_exc K "ParseError" "text") [] (tCons (tVar 2) tNil) σ H fun cls d H' => E cls d H')
                  tNext)
                (tRet (tCB (fun xs H Q => ∃ a n, xs = [V.str a] ∧ intText? a = some n ∧ a.length ≤ 640 ∧ Q (V.int n) H) (tCons (tVar 1) tNil))))
              tNext)
            (tSeq
              (tIfS (tAnd (tTest (tOp rEq (tVar 1) (tC (V.str ("" : Str))))) (tTest (tOp rNe (tVar 0) (tC (V.str ("data" : Str))))))
                (fun _ σ H => tMkO (He.ga K "ParseError") (My.sp_exc K "ParseError" "text") [] (tCons (tVar 2) tNil) σ H fun cls d H' => E cls d H')
                tNext)
              (tRet (tVar 1)))) R [some (V.str f), some (V.str (S v)), some (V.str t)] H := by
      intro hn R hR
      obtain ⟨nx, rt, bk, ct⟩ := R
      obtain rfl : rt = Q := hR
      walk_at "sx"
      refine ⟨NA K, _, rfl, .inr (T.nums H), rfl, flat_strs NB, ?_⟩
      rw [inV_str]
      refine My.x_exbl ?_
      show if decide (f ∈ NB) = true then _ else _
      refine My.x_dec (fun hf => ?_) (fun hf => ?_)
      · have hk := kd_nb.mp hf
        walk_at "sx"
        refine ⟨S v, rfl, hv, fun H1 s1 => ?_⟩
        refine My.x_exbl (b := num v) ?_
        have rd : ∀ b, num v = b → rdI num none_ (kd f) v = if b = true then some (.n v) else none := fun b hb => by
          unfold rdI
          rcases hk with k | k
          · rw [k]
            dsimp only
            rw [if_neg fun z => hn ⟨k, z⟩, hb]
          · rw [k]
            dsimp only
            rw [hb]
        cases hb : num v with
        | true =>
          walk_at "sx"
          refine ⟨S v, _, rfl, num_int hb, Nat.le_trans (num_digits hb).2.1 (by decide), ?_⟩
          exact q _ H1 (rd _ hb) s1
        | false =>
          walk_at "sx"
          refine My.x_mk1 fun d hd => rz (rd _ hb) H1 d s1 hd
      · have k1 : kd f ≠ .q := fun z => hf (kd_nb.mpr (.inl z))
        have k2 : kd f ≠ .n := fun z => hf (kd_nb.mpr (.inr z))
        walk_at "sx"
        refine My.x_eq rfl ?_
        walk_at "sx"
        have e0 : (("" : Str)) = S [] := by decide +kernel
        rw [e0, str_eq]
        refine My.x_dec (fun hv0 => ?_) (fun hv0 => ?_)
        · subst hv0
          walk_at "sx"
          refine My.x_ne rfl ?_
          refine My.x_exbl ?_
          by_cases hd : f = ("data" : Str)
          · rw [decide_eq_true (by rw [hd])]
            walk_at "sx"
            refine q (.s []) H ?_ (Same.refl H)
            rw [hd, kd_data]
            rfl
          · rw [decide_eq_false fun z => hd (V.str.inj z)]
            walk_at "sx"
            refine My.x_mk1 fun d hd' => rz ?_ H d (Same.refl H) hd'
            have : kd f = .t := by
              cases h : kd f with
              | t => rfl
              | d => exact absurd (kd_d h) hd
              | n => exact absurd h k2
              | q => exact absurd h k1
            rw [this]
            rfl
        · walk_at "sx"
          refine q (.s v) H ?_ (Same.refl H)
          cases h : kd f with
          | t => simp [rdI, hv0]
          | d => rfl
          | n => exact absurd h k2
          | q => exact absurd h k1
    walk_at "sx"
    refine My.x_eq rfl ?_
    walk_at "sx"
    refine My.x_dec (fun h1 => ?_) (fun h1 => ?_)
    · obtain rfl := V.str.inj h1
      walk_at "sx"
      refine My.x_eq rfl ?_
      walk_at "sx"
      rw [none_S, str_eq]
      refine My.x_dec (fun h2 => ?_) (fun h2 => ?_)
      · walk_at "sx"
        refine q .non H ?_ (Same.refl H)
        rw [kd_blocks, h2]
        rfl
      · refine My.x_next ?_
        exact rest (fun z => h2 z.2) _ rfl
    · walk_at "sx1"
      exact rest (fun z => h1 (by rw [kd_q z.1])) _ rfl
end
end K32

end

section
local macro_rules | `(tactic| walk_at "ne") => `(tactic| first | assumption | (apply Ne.symm; assumption) | exact L2.ne_of_none (by assumption) (by assumption) | exact (L2.ne_of_none (by assumption) (by assumption)).symm)
local macro_rules | `(tactic| walk_at "hp") => `(tactic| first | assumption | exact L2.upd_same | (rw [L2.upd_ne (by walk_at "ne")]; walk_at "hp"))
local macro_rules | `(tactic| walk_at "sq") => `(tactic| first | assumption | exact L2.SqL.of (by walk_at "hp") | exact My.sq_new (by walk_at "sq") (by assumption))
local macro_rules | `(tactic| walk_at "sd") => `(tactic| first | decide | omega | (unfold L2.CDivN; omega) | (unfold L2.CMul; omega) | (unfold L2.CPow; omega))
local macro_rules | `(tactic| walk_at "sx1") => `(tactic| first | with_reducible refine My.x_seq ?_ | with_reducible refine My.x_asg ?_ | with_reducible refine My.x_ret ?_ | with_reducible refine My.x_next ?_ | with_reducible refine My.x_op ?_ | with_reducible refine My.x_c ?_ | with_reducible refine My.x_ifs ?_ | with_reducible refine My.x_test ?_ | with_reducible refine My.x_exbl ?_ | with_reducible refine My.x_cons ?_ | with_reducible refine My.x_nil ?_ | with_reducible refine My.x_cb ?_ | with_reducible refine My.x_drop ?_ | with_reducible refine My.x_par ?_ | with_reducible refine My.x_exp2 ?_ | with_reducible refine My.x_aug ?_ | with_reducible refine My.x_if ?_ | with_reducible refine My.x_tB ?_ | with_reducible refine My.x_and ?_ | with_reducible refine My.x_or ?_ | with_reducible refine My.x_not ?_ | with_reducible refine My.x_retn ?_ | with_reducible refine My.x_cont ?_ | with_reducible refine My.x_brk ?_ | with_reducible refine My.x_un ?_ | with_reducible refine My.x_tfor ?_ | with_reducible refine My.x_ilist ?_ | with_reducible refine My.x_rng1 ?_ | with_reducible refine My.x_rng2 ?_ | with_reducible refine My.x_r1 ?_ | with_reducible refine My.x_call ?_ | with_reducible refine My.x_sl ?_ | with_reducible refine My.x_part ?_ | with_reducible refine My.x_nopart ?_ | with_reducible refine My.x_ii0 ?_ | with_reducible refine My.x_yes ?_ | with_reducible refine My.x_andv ?_ | with_reducible refine My.x_orv ?_ | with_reducible refine My.x_notv ?_ | with_reducible refine My.x_iT ?_ | with_reducible refine My.x_iF ?_ | with_reducible refine My.x_chain ?_ | with_reducible refine My.x_exI ?_ | with_reducible refine My.x_wipe ?_ | with_reducible refine My.x_bm ?_ | with_reducible refine My.x_bm0 ?_ | with_reducible refine My.x_gsub ?_ | with_reducible refine My.x_int1 ?_ | with_reducible refine My.x_two ?_ | with_reducible refine My.x_lst ?_ | with_reducible refine My.x_tup ?_ | with_reducible refine My.x_revL ?_ | with_reducible refine My.x_dput ?_ | with_reducible refine My.x_dget ?_ | with_reducible refine My.x_dnew ?_ | with_reducible refine My.x_dc ?_ | with_reducible refine My.x_lc ?_ | with_reducible refine My.x_ienum ?_ | with_reducible refine My.x_gcons ?_ | with_reducible refine My.x_gnil ?_ | with_reducible refine My.x_v0 ?_ | with_reducible refine My.x_v1 ?_ | with_reducible refine My.x_v2 ?_ | with_reducible refine My.x_v3 ?_ | with_reducible refine My.x_v4 ?_ | with_reducible refine My.x_v5 ?_ | with_reducible refine My.x_v6 ?_ | with_reducible refine My.x_v7 ?_ | with_reducible refine My.x_v8 ?_ | with_reducible refine My.x_v9 ?_ | with_reducible refine My.x_v10 ?_ | with_reducible refine My.x_v11 ?_ | with_reducible refine My.x_v12 ?_ | with_reducible refine My.x_v13 ?_ | with_reducible refine My.x_v14 ?_ | with_reducible refine My.x_v15 ?_ | with_reducible refine My.x_v16 ?_ | with_reducible refine My.x_v17 ?_ | with_reducible refine My.x_v18 ?_ | with_reducible refine My.x_v19 ?_ | with_reducible refine My.x_v20 ?_ | with_reducible refine My.x_v21 ?_ | with_reducible refine My.x_v22 ?_ | with_reducible refine My.x_v23 ?_ | with_reducible refine My.x_v24 ?_ | with_reducible refine My.x_v25 ?_ | with_reducible refine My.x_g0 ?_ | with_reducible refine My.x_g1 ?_ | with_reducible refine My.x_g2 ?_ | with_reducible refine My.x_g3 ?_ | with_reducible refine My.x_g4 ?_ | with_reducible refine My.x_g5 ?_ | with_reducible refine My.x_g6 ?_ | with_reducible refine My.x_g7 ?_ | with_reducible refine My.x_g8 ?_ | with_reducible refine My.x_g9 ?_ | with_reducible refine My.x_g10 ?_ | with_reducible refine My.x_g11 ?_ | with_reducible refine My.x_g12 ?_ | with_reducible refine My.x_g13 ?_ | with_reducible refine My.x_g14 ?_ | with_reducible refine My.x_g15 ?_ | with_reducible refine My.x_g16 ?_ | with_reducible refine My.x_g17 ?_ | with_reducible refine My.x_g18 ?_ | with_reducible refine My.x_g19 ?_ | with_reducible refine My.x_g20 ?_ | with_reducible refine My.x_g21 ?_ | with_reducible refine My.x_g22 ?_ | with_reducible refine My.x_g23 ?_ | with_reducible refine My.x_g24 ?_ | with_reducible refine My.x_g25 ?_)
local macro_rules | `(tactic| walk_at "sx") => `(tactic| repeat (walk_at "sx1"))
local macro_rules | `(tactic| walk_at "ln") => `(tactic| first | assumption | exact Nat.le_of_ble_eq_true rfl | (simp only [List.length_append, List.length_map, List.length_cons, List.length_nil]; simp only [PySem.sizeLine]; omega))
local macro_rules | `(tactic| walk_at "st") => `(tactic| first | assumption | exact L2.SqT.of (by walk_at "hp"))
local macro_rules | `(tactic| walk_at "go1") => `(tactic| first | walk_at "sx1" | ((with_reducible refine' My.x_ixL ?x0 ?x1 ?x2); (case x0 => walk_at "sq"); (case x1 => exact rfl)) | ((with_reducible refine' My.x_ixT ?x0 ?x1 ?x2); (case x0 => walk_at "st"); (case x1 => exact rfl)) | ((with_reducible refine' My.x_i ?x0 ?x1); (case x0 => walk_at "sd")) | ((with_reducible refine' My.x_setL ?x0 ?x1 ?x2); (case x0 => walk_at "hp"); (case x1 => exact rfl)) | ((with_reducible refine' My.x_len ?x0 ?x1); (case x0 => walk_at "sq")) | ((with_reducible refine' My.x_lenT ?x0 ?x1); (case x0 => walk_at "st")) | ((with_reducible refine' My.x_lenD ?x0 ?x1); (case x0 => walk_at "hp")) | ((with_reducible refine' My.x_append ?x0 ?x1 ?x2); (case x0 => walk_at "hp"); (case x1 => walk_at "ln")) | ((with_reducible refine' My.x_tyL ?x0 ?x1); (case x0 => walk_at "hp")) | ((with_reducible refine' My.x_ilistE ?x0 ?x1); (case x0 => walk_at "sq")) | ((with_reducible refine' My.x_ienumE ?x0 ?x1); (case x0 => walk_at "sq")) | ((with_reducible refine' My.x_sortI ?x0 ?x1); (case x0 => walk_at "sq")) | ((with_reducible refine' My.x_slL ?x0 ?x1); (case x0 => walk_at "sq")) | ((with_reducible refine' My.x_revL2 ?x0 ?x1); (case x0 => walk_at "sq")) | ((with_reducible refine' My.x_eq ?x0 ?x1); (case x0 => exact rfl)) | ((with_reducible refine' My.x_ne ?x0 ?x1); (case x0 => exact rfl)) | ((with_reducible refine' My.x_dputI ?x0 ?x1 ?x2); (case x0 => walk_at "hp"); (case x1 => walk_at "ln")) | ((with_reducible refine' My.x_dputS ?x0 ?x1 ?x2); (case x0 => walk_at "hp"); (case x1 => walk_at "ln")) | ((with_reducible refine' My.x_seqof ?x0 ?x1); (case x0 => walk_at "sq")) | ((with_reducible refine' My.x_gtup ?x0 ?x1 ?x2); (case x0 => walk_at "st"); (case x1 => exact rfl)) | ((with_reducible refine' My.x_mem1 ?x0 ?x1); (case x0 => walk_at "ln")))
local macro_rules | `(tactic| walk_at "go") => `(tactic| repeat (walk_at "go1"))
local macro_rules | `(tactic| walk_at "sx1") => `(tactic| first | with_reducible refine My.x_fld ?_ | with_reducible refine My.x_sfld ?_ | with_reducible refine My.x_meth ?_ | with_reducible refine My.x_make ?_ | with_reducible refine My.x_din ?_ | with_reducible refine My.x_dnin ?_ | with_reducible refine My.x_ikeys ?_ | with_reducible refine My.x_itup ?_ | with_reducible refine My.x_mkO ?_ | with_reducible refine My.x_vei ?_ | with_reducible refine My.x_ost ?_ | with_reducible refine My.x_nF ?_ | with_reducible refine My.x_nT ?_)
local macro_rules | `(tactic| walk_at "go1") => `(tactic| first | ((with_reducible refine' My.x_fldE ?x0 ?x1 ?x2 ?x3 ?x4); (case x0 => walk_at "hp"); (case x1 => assumption); (case x2 => assumption); (case x3 => exact rfl)) | ((with_reducible refine' My.x_sfldE ?x0 ?x1 ?x2 ?x3 ?x4 ?x5); (case x0 => walk_at "hp"); (case x1 => assumption); (case x2 => assumption); (case x3 => decide); (case x4 => exact rfl)) | ((with_reducible refine' My.x_methE ?x0 ?x1 ?x2); (case x0 => walk_at "hp"); (case x1 => exact rfl)) | ((with_reducible refine' My.x_itupE ?x0 ?x1); (case x0 => walk_at "st")))
local macro_rules | `(tactic| walk_at "sx1") => `(tactic| first | with_reducible refine LZ.x_zz ?_ | with_reducible refine LZ.x_star ?_)
namespace K32
open PySem PySem.Spec PyProof.Rows L2
theorem join_L (c : Nat) : ∀ ws : List W, join c ws = TL.joinL [c] ws
  | [] => rfl
  | [w] => rfl
  | w :: v :: r => by
    show w ++ c :: join c (v :: r) = w ++ ([c] ++ TL.joinL [c] (v :: r))
    rw [join_L c (v :: r)]
    rfl
theorem join_Str (ws : List W) : Txt.join ((" " : Str)) (ws.map S) = S (join 32 ws) := by
  have e : ((" " : Str)) = S [32] := by decide +kernel
  rw [e, SX.join_S, join_L]
theorem fits_len {k : Kd} {i : It} (h : fits k i) : (itS i).length ≤ 100 := by
  unfold fits at h
  split at h
  · decide
  · obtain ⟨n, hn, rfl⟩ := h; exact Nat.le_trans (TL.numL_len (by decide) hn) (by decide)
  · obtain ⟨n, hn, rfl⟩ := h; exact Nat.le_trans (TL.numL_len (by decide) hn) (by decide)
  · exact h.2.1
  · exact h
  · cases h
theorem fits_sum : ∀ {ks : List Kd} {is : List It}, Fits ks is → ((is.map itS).map List.length).sum ≤ 100 * ks.length
  | _, _, .nil => by simp
  | _, _, .cons h r => by
    have := fits_len h
    have := fits_sum r
    simp only [List.map_cons, List.sum_cons, List.length_cons] at *
    omega
theorem fm_small {z : Str} {fs : List Str} (h : fm z = some fs) : z.length ≤ 100 := by
  have ok : (FS.all fun e => decide (e.1.length ≤ 100)) = true := by decide +kernel
  exact of_decide_eq_true (List.all_eq_true.mp ok _ (lookup_mem h))
def sp_fmt (K : PySem.W.Frag) : Sp := fun vs H Q E => ∃ x : V, vs = [x] ∧ ((NoOp K H x ∧ Rz K "InvalidOperation" "value" x H E) ∨
  ∃ (a : Addr) (z : Str) (is : List It) (fs : List Str), x = .ref a ∧ SqT K H a (.str z :: is.map itV) ∧ fm z = some fs ∧ Fits (fs.map kd) is ∧ ∀ H', Same H H' → Q (.str (S (fmt z.cps.toList is))) H')
/-- the texts so far -/
def Pt (H0 : Hp) (D : Addr) (pre : List (Str × It)) (H : Hp) : Prop := Same H0 H ∧ H D = some (.lst (pre.map fun p => V.str (S (itS p.2)))) ∧ H0 D = none
theorem Fits.pair : ∀ {fs : List Str} {is : List It}, Fits (fs.map kd) is → ∀ p ∈ fs.zip is, fits (kd p.1) p.2
  | [], _, _ => fun _ z => by simp at z
  | f :: fs, _, h => by
    cases h with
    | cons h r =>
      intro p hp
      rw [List.zip_cons_cons] at hp
      rcases List.mem_cons.mp hp with rfl | hp
      · exact h
      · exact r.pair p hp
theorem seqT {K : PySem.W.Frag} {H H' : Hp} {a : Addr} {xs : List V} (s : Same H H') (h : SqT K H a xs) : SqT K H' a xs := h.imp (fun h => h.imp (s _ _) fun ⟨o, e⟩ => ⟨o, s _ _ e⟩) id
theorem cut1 (x : V) (xs : List V) : cutV (x :: xs) (some 1) none = xs := by
  unfold cutV HT.sIx
  simp
section
variable {P : Program} {w : World} {K : PySem.W.Frag} {mg : Str → Option Value} {base : Heap} {t1 t2 : Tok}
theorem ok_fmt (T : Tx K mg t1 t2) {es : Array DictEntry} {n : Nat} (KD : KDict K w (FA K) es n) {fd : FuncData} (F : Fd K d_format_operation fd) (C_is_operation : My.Cl P w K mg base "is_operation" ["value"] 1 (sp_oper K)) (C_item_text : My.Cl P w K mg base "item_text" ["form", "value"] 1 sp_item)
    {fdE : FuncData} (okIO : FnOk P w K mg base CX0 1 (He.ma K (He.ga K "InvalidOperation") "__init__") fdE ["self", "value"] (My.sp_exc K "InvalidOperation" "value")) (bIO : Binds K fdE ["self", "value"] []) :
    FnOk P w K mg base (L2.CX P w) 3 (He.fAd K d_format_operation.at_) fd ["operation"] (sp_fmt K) := by
  refine F.ok sc_format_operation (fun vs H Q E h => ?_) (fun cdv A outer s H vs Q E hr h => ?_)
  · obtain ⟨x, rfl, _⟩ := h
    rfl
  · obtain ⟨x, rfl, h⟩ := h
    refine ⟨_, ((pss_cons (ps_if (pt_not (pt_val (My.pe_cl C_is_operation (hr.mono (by decide)) rfl (pa_cons (pv 0) pa_nil))))
  (pss_one (My.ps_raiseX rfl T.exIO okIO bIO (hr.mono (by decide)) (takes_of rfl rfl rfl rfl) (pa_cons (pv 0) pa_nil) rfl))
  pss_nil)
  (pss_cons (ps_setLc (i := 1) (own := [("form", 2), ("value", 3)]) (g := gTup K 2 (gCons (gName 2) (gCons (gName 3) gNil))) (tt := tYes) rfl sc_format_operation.nd rfl rfl (sw_true rfl rfl rfl (by decide +kernel)) (ZN.pi_zzS (by rfl) T.n_zip (pa_cons (pe_ix ix_kdict (pe_glob (v := .ref (FA K)) rfl T.g_FORMS rfl) (pe_ix ix_tup (pv 0) pe_int (fun _ _ => rfl)) (fun _ _ => rfl)) (pa_cons (pe_slice sl_tup (pv 0) (po_some pe_int) po_none) pa_nil))) (blkOk_by (own := [("form", 2), ("value", 3)]) (N := ["operation", "items", "form", "value"]) (sc := defScope s_format_operation) (by decide +kernel)) (fun _ _ _ _ _ => pg_tupK (K := K) (by rfl) (by rfl) (pgs_cons (pg_name (i := 2) sc_format_operation.nd rfl (Or.inl rfl)) (pgs_cons (pg_name (i := 3) sc_format_operation.nd rfl (Or.inl rfl)) pgs_nil))) (fun _ _ _ _ _ => pts_nil) (fun _ _ _ _ _ => (My.pe_cl C_item_text (hr.mono (by decide)) rfl (pa_cons (pv 2) (pa_cons (pv 3) pa_nil)))))
  (pss_one (ps_ret (pe_bm PySem.F.plainAttrs_str PySem.F.slot_str_join PySem.F.type_str_join mt_join pe_str (pa_cons (pe_lst (pa_cons (pe_ix ix_tup (pv 0) pe_int (fun _ _ => rfl)) (StX.pa_star (pv 1) pa_nil))) pa_nil))))))), ?_⟩
    refine My.x_start (σ := [some x, none, none, none]) rfl ?_
    try dsimp only [cxOf, Cx.nox]
    walk_at "sx"
    rcases h with ⟨hn, rz⟩ | ⟨a, z, is, fs, rfl, hs, hf, fit, q⟩
    · refine ⟨x, rfl, .inl ⟨hn, ?_⟩⟩
      walk_at "sx"
      refine My.x_mk1 fun d hd => rz d _ hd (My.Same.new (Same.refl H) hd) upd_same
    · have hlen := fit.len
      rw [List.length_map] at hlen
      have hfl := fm_len hf
      refine ⟨.ref a, rfl, .inr ⟨a, z, is.map itV, fs, rfl, hs, by rw [List.length_map]; omega, hf, by rw [List.length_map]; exact hlen, ?_⟩⟩
      walk_at "sx"
      refine My.x_ixT hs at0 ?_
      obtain ⟨p, hp, hq⟩ := T.fYes z fs hf
      refine ⟨_, z, .ref p, rfl, rfl, kct KD hp, ?_⟩
      walk_at "sx"
      refine ⟨a, _, rfl, hs, fun e => absurd e.1 (by unfold HT.sIx; simp), fun r hr0 => ?_⟩
      rw [cut1]
      walk_at "sx"
      have s1 : Same H (upd H r (.tup (is.map itV))) := My.Same.new (Same.refl H) hr0
      have gr : upd H r (.tup (is.map itV)) r = some (.tup (is.map itV)) := upd_same
      generalize upd H r (.tup (is.map itV)) = H1 at s1 gr ⊢
      have z1 : (fs.zip is).map (fun p => V.str p.1) = fs.map V.str := by
        show (fs.zip is).map (V.str ∘ Prod.fst) = _
        rw [← List.map_map, List.map_fst_zip (by omega)]
      have z2 : (fs.zip is).map (fun p => itV p.2) = is.map itV := by
        show (fs.zip is).map (itV ∘ Prod.snd) = _
        rw [← List.map_map, List.map_snd_zip (by omega)]
      refine ⟨.t p, .t r, _, _, rfl, hq H1, SqT.of gr, fun D hD => ?_⟩
      refine LZ.lc_two (ys := fs.zip is) (f1 := fun p => V.str p.1) (f2 := fun p => itV p.2) (fun pre H' => Pt H1 D pre H') ⟨My.Same.new (Same.refl H1) hD, upd_same, hD⟩ (fun pre post H' _ h => ⟨by rw [z1]; exact hq H', by rw [z2]; exact SqT.of (h.1 _ _ gr)⟩) ?_ ?_
      · rintro pre ⟨f, i⟩ post Ti H2 hpre ⟨s2, gD, nD⟩ nT
        have nTD : D ≠ Ti := ne_of_none gD nT
        have hfit := fit.pair (f, i) (by rw [hpre]; simp)
        have hpl : pre.length ≤ 3 := by
          have := congrArg List.length hpre
          rw [List.length_zip, List.length_append, List.length_cons] at this
          omega
        simp only [List.map_cons, List.map_nil, wipe, List.set_cons_succ, List.set_cons_zero]
        refine My.x_gtup (SqT.of upd_same) rfl ?_
        walk_at "sx"
        refine ⟨rfl, ?_⟩
        walk_at "sx"
        refine ⟨f, i, rfl, hfit, _, by rw [upd_ne nTD]; exact gD, by rw [List.length_map, sizeLine_eq]; omega, ?_⟩
        refine ⟨My.Same.mut (My.Same.new s2 nT) nD, ?_, nD⟩
        rw [upd_same, List.map_append]
        rfl
      · rintro H2 ⟨s2, gD, nD⟩
        have hs2 := seqT (s1.trans s2) hs
        walk_at "sx"
        refine ⟨rfl, ?_⟩
        walk_at "sx"
        refine My.x_ixT hs2 at0 ?_
        walk_at "sx"
        refine ⟨D, _, rfl, .inr (SqL.of gD), ?_⟩
        refine My.x_nil ?_
        rw [List.append_nil]
        have zl : (fs.zip is).length ≤ 3 := by rw [List.length_zip]; omega
        refine ⟨by rw [List.length_cons, List.length_map, sizeLine_eq]; omega, fun m hm => ?_⟩
        walk_at "sx"
        have e2 : (fs.zip is).map (fun p => V.str (S (itS p.2))) = (is.map itS).map fun v => V.str (S v) := by
          show (fs.zip is).map ((fun i => V.str (S (itS i))) ∘ Prod.snd) = _
          rw [← List.map_map, List.map_snd_zip (by omega), List.map_map]
          rfl
        have e3 : V.str z :: (fs.zip is).map (fun p => V.str (S (itS p.2))) = ((z.cps.toList :: is.map itS).map S).map V.str := by
          rw [e2, List.map_cons, List.map_cons, List.map_map (f := S)]
          rfl
        refine ⟨_, m, (z.cps.toList :: is.map itS).map S, rfl, rfl, .inl (SqL.of (by rw [upd_same, e3])), ?_, ?_⟩
        · have b1 := fits_sum fit
          have b2 := fm_small hf
          rw [List.length_map] at b1
          have e4 : (((z.cps.toList :: is.map itS).map S).map fun x => x.length) = z.cps.toList.length :: (is.map itS).map List.length := by
            rw [List.map_cons, List.map_cons, List.map_map]
            rfl
          rw [e4, List.sum_cons, List.length_map, List.length_cons, List.length_map]
          have e5 : z.cps.toList.length = z.length := Array.length_toList
          have e6 : ((" " : Str)).length = 1 := by decide +kernel
          rw [e5, e6]
          omega
        · rw [join_Str]
          exact q _ (My.Same.new (s1.trans s2) hm)
end
end K32

end

section
local macro_rules | `(tactic| walk_at "ne") => `(tactic| first | assumption | (apply Ne.symm; assumption) | exact L2.ne_of_none (by assumption) (by assumption) | exact (L2.ne_of_none (by assumption) (by assumption)).symm)
local macro_rules | `(tactic| walk_at "hp") => `(tactic| first | assumption | exact L2.upd_same | (rw [L2.upd_ne (by walk_at "ne")]; walk_at "hp"))
local macro_rules | `(tactic| walk_at "sq") => `(tactic| first | assumption | exact L2.SqL.of (by walk_at "hp") | exact My.sq_new (by walk_at "sq") (by assumption))
local macro_rules | `(tactic| walk_at "sd") => `(tactic| first | decide | omega | (unfold L2.CDivN; omega) | (unfold L2.CMul; omega) | (unfold L2.CPow; omega))
local macro_rules | `(tactic| walk_at "sx1") => `(tactic| first | with_reducible refine My.x_seq ?_ | with_reducible refine My.x_asg ?_ | with_reducible refine My.x_ret ?_ | with_reducible refine My.x_next ?_ | with_reducible refine My.x_op ?_ | with_reducible refine My.x_c ?_ | with_reducible refine My.x_ifs ?_ | with_reducible refine My.x_test ?_ | with_reducible refine My.x_exbl ?_ | with_reducible refine My.x_cons ?_ | with_reducible refine My.x_nil ?_ | with_reducible refine My.x_cb ?_ | with_reducible refine My.x_drop ?_ | with_reducible refine My.x_par ?_ | with_reducible refine My.x_exp2 ?_ | with_reducible refine My.x_aug ?_ | with_reducible refine My.x_if ?_ | with_reducible refine My.x_tB ?_ | with_reducible refine My.x_and ?_ | with_reducible refine My.x_or ?_ | with_reducible refine My.x_not ?_ | with_reducible refine My.x_retn ?_ | with_reducible refine My.x_cont ?_ | with_reducible refine My.x_brk ?_ | with_reducible refine My.x_un ?_ | with_reducible refine My.x_tfor ?_ | with_reducible refine My.x_ilist ?_ | with_reducible refine My.x_rng1 ?_ | with_reducible refine My.x_rng2 ?_ | with_reducible refine My.x_r1 ?_ | with_reducible refine My.x_call ?_ | with_reducible refine My.x_sl ?_ | with_reducible refine My.x_part ?_ | with_reducible refine My.x_nopart ?_ | with_reducible refine My.x_ii0 ?_ | with_reducible refine My.x_yes ?_ | with_reducible refine My.x_andv ?_ | with_reducible refine My.x_orv ?_ | with_reducible refine My.x_notv ?_ | with_reducible refine My.x_iT ?_ | with_reducible refine My.x_iF ?_ | with_reducible refine My.x_chain ?_ | with_reducible refine My.x_exI ?_ | with_reducible refine My.x_wipe ?_ | with_reducible refine My.x_bm ?_ | with_reducible refine My.x_bm0 ?_ | with_reducible refine My.x_gsub ?_ | with_reducible refine My.x_int1 ?_ | with_reducible refine My.x_two ?_ | with_reducible refine My.x_lst ?_ | with_reducible refine My.x_tup ?_ | with_reducible refine My.x_revL ?_ | with_reducible refine My.x_dput ?_ | with_reducible refine My.x_dget ?_ | with_reducible refine My.x_dnew ?_ | with_reducible refine My.x_dc ?_ | with_reducible refine My.x_lc ?_ | with_reducible refine My.x_ienum ?_ | with_reducible refine My.x_gcons ?_ | with_reducible refine My.x_gnil ?_ | with_reducible refine My.x_v0 ?_ | with_reducible refine My.x_v1 ?_ | with_reducible refine My.x_v2 ?_ | with_reducible refine My.x_v3 ?_ | with_reducible refine My.x_v4 ?_ | with_reducible refine My.x_v5 ?_ | with_reducible refine My.x_v6 ?_ | with_reducible refine My.x_v7 ?_ | with_reducible refine My.x_v8 ?_ | with_reducible refine My.x_v9 ?_ | with_reducible refine My.x_v10 ?_ | with_reducible refine My.x_v11 ?_ | with_reducible refine My.x_v12 ?_ | with_reducible refine My.x_v13 ?_ | with_reducible refine My.x_v14 ?_ | with_reducible refine My.x_v15 ?_ | with_reducible refine My.x_v16 ?_ | with_reducible refine My.x_v17 ?_ | with_reducible refine My.x_v18 ?_ | with_reducible refine My.x_v19 ?_ | with_reducible refine My.x_v20 ?_ | with_reducible refine My.x_v21 ?_ | with_reducible refine My.x_v22 ?_ | with_reducible refine My.x_v23 ?_ | with_reducible refine My.x_v24 ?_ | with_reducible refine My.x_v25 ?_ | with_reducible refine My.x_g0 ?_ | with_reducible refine My.x_g1 ?_ | with_reducible refine My.x_g2 ?_ | with_reducible refine My.x_g3 ?_ | with_reducible refine My.x_g4 ?_ | with_reducible refine My.x_g5 ?_ | with_reducible refine My.x_g6 ?_ | with_reducible refine My.x_g7 ?_ | with_reducible refine My.x_g8 ?_ | with_reducible refine My.x_g9 ?_ | with_reducible refine My.x_g10 ?_ | with_reducible refine My.x_g11 ?_ | with_reducible refine My.x_g12 ?_ | with_reducible refine My.x_g13 ?_ | with_reducible refine My.x_g14 ?_ | with_reducible refine My.x_g15 ?_ | with_reducible refine My.x_g16 ?_ | with_reducible refine My.x_g17 ?_ | with_reducible refine My.x_g18 ?_ | with_reducible refine My.x_g19 ?_ | with_reducible refine My.x_g20 ?_ | with_reducible refine My.x_g21 ?_ | with_reducible refine My.x_g22 ?_ | with_reducible refine My.x_g23 ?_ | with_reducible refine My.x_g24 ?_ | with_reducible refine My.x_g25 ?_)
local macro_rules | `(tactic| walk_at "sx") => `(tactic| repeat (walk_at "sx1"))
local macro_rules | `(tactic| walk_at "ln") => `(tactic| first | assumption | exact Nat.le_of_ble_eq_true rfl | (simp only [List.length_append, List.length_map, List.length_cons, List.length_nil]; simp only [PySem.sizeLine]; omega))
local macro_rules | `(tactic| walk_at "st") => `(tactic| first | assumption | exact L2.SqT.of (by walk_at "hp"))
local macro_rules | `(tactic| walk_at "go1") => `(tactic| first | walk_at "sx1" | ((with_reducible refine' My.x_ixL ?x0 ?x1 ?x2); (case x0 => walk_at "sq"); (case x1 => exact rfl)) | ((with_reducible refine' My.x_ixT ?x0 ?x1 ?x2); (case x0 => walk_at "st"); (case x1 => exact rfl)) | ((with_reducible refine' My.x_i ?x0 ?x1); (case x0 => walk_at "sd")) | ((with_reducible refine' My.x_setL ?x0 ?x1 ?x2); (case x0 => walk_at "hp"); (case x1 => exact rfl)) | ((with_reducible refine' My.x_len ?x0 ?x1); (case x0 => walk_at "sq")) | ((with_reducible refine' My.x_lenT ?x0 ?x1); (case x0 => walk_at "st")) | ((with_reducible refine' My.x_lenD ?x0 ?x1); (case x0 => walk_at "hp")) | ((with_reducible refine' My.x_append ?x0 ?x1 ?x2); (case x0 => walk_at "hp"); (case x1 => walk_at "ln")) | ((with_reducible refine' My.x_tyL ?x0 ?x1); (case x0 => walk_at "hp")) | ((with_reducible refine' My.x_ilistE ?x0 ?x1); (case x0 => walk_at "sq")) | ((with_reducible refine' My.x_ienumE ?x0 ?x1); (case x0 => walk_at "sq")) | ((with_reducible refine' My.x_sortI ?x0 ?x1); (case x0 => walk_at "sq")) | ((with_reducible refine' My.x_slL ?x0 ?x1); (case x0 => walk_at "sq")) | ((with_reducible refine' My.x_revL2 ?x0 ?x1); (case x0 => walk_at "sq")) | ((with_reducible refine' My.x_eq ?x0 ?x1); (case x0 => exact rfl)) | ((with_reducible refine' My.x_ne ?x0 ?x1); (case x0 => exact rfl)) | ((with_reducible refine' My.x_dputI ?x0 ?x1 ?x2); (case x0 => walk_at "hp"); (case x1 => walk_at "ln")) | ((with_reducible refine' My.x_dputS ?x0 ?x1 ?x2); (case x0 => walk_at "hp"); (case x1 => walk_at "ln")) | ((with_reducible refine' My.x_seqof ?x0 ?x1); (case x0 => walk_at "sq")) | ((with_reducible refine' My.x_gtup ?x0 ?x1 ?x2); (case x0 => walk_at "st"); (case x1 => exact rfl)) | ((with_reducible refine' My.x_mem1 ?x0 ?x1); (case x0 => walk_at "ln")))
local macro_rules | `(tactic| walk_at "go") => `(tactic| repeat (walk_at "go1"))
local macro_rules | `(tactic| walk_at "sx1") => `(tactic| first | with_reducible refine My.x_fld ?_ | with_reducible refine My.x_sfld ?_ | with_reducible refine My.x_meth ?_ | with_reducible refine My.x_make ?_ | with_reducible refine My.x_din ?_ | with_reducible refine My.x_dnin ?_ | with_reducible refine My.x_ikeys ?_ | with_reducible refine My.x_itup ?_ | with_reducible refine My.x_mkO ?_ | with_reducible refine My.x_vei ?_ | with_reducible refine My.x_ost ?_ | with_reducible refine My.x_nF ?_ | with_reducible refine My.x_nT ?_)
local macro_rules | `(tactic| walk_at "go1") => `(tactic| first | ((with_reducible refine' My.x_fldE ?x0 ?x1 ?x2 ?x3 ?x4); (case x0 => walk_at "hp"); (case x1 => assumption); (case x2 => assumption); (case x3 => exact rfl)) | ((with_reducible refine' My.x_sfldE ?x0 ?x1 ?x2 ?x3 ?x4 ?x5); (case x0 => walk_at "hp"); (case x1 => assumption); (case x2 => assumption); (case x3 => decide); (case x4 => exact rfl)) | ((with_reducible refine' My.x_methE ?x0 ?x1 ?x2); (case x0 => walk_at "hp"); (case x1 => exact rfl)) | ((with_reducible refine' My.x_itupE ?x0 ?x1); (case x0 => walk_at "st")))
local macro_rules | `(tactic| walk_at "sx1") => `(tactic| first | with_reducible refine LZ.x_zz ?_ | with_reducible refine LZ.x_star ?_)
namespace K32
open PySem PySem.Spec PyProof.Rows L2
/-- what parse_operation tells of a text -/
def prT (t : W) : Option (List It) := if t.all okS = true then prs t else none
def sp_parse (K : PySem.W.Frag) : Sp := fun vs H Q E => ∃ x : V, vs = [x] ∧ (((∃ t, TyX K H x t ∧ PySem.W.kitOne K t (.type "str") = some false) ∧ ∀ H1, Same H H1 → Rz K "ParseError" "text" x H1 E) ∨
  ∃ z : Str, x = .str z ∧ z.length ≤ 5000 ∧ (∀ is p H', prT z.cps.toList = some is → Same H H' → H p = none → H' p = some (.tup (is.map itV)) → Q (.ref p) H') ∧
    (prT z.cps.toList = none → ∀ H1, Same H H1 → Rz K "ParseError" "text" (.str z) H1 E))
theorem split_V (v : W) : Txt.split (S v) ((" " : Str)) = (sp 32 v).map S := by
  have e : ((" " : Str)) = (⟨#[32]⟩ : Str) := by decide +kernel
  rw [e, ← split_one (S v) (c := 32) (by decide), List.map_map]
  exact (List.map_id _).symm
theorem splitMax_V (v : W) (k : Nat) : Txt.splitMax (S v) ((" " : Str)) (k : Int) = (spN 32 k v).map S := by
  have e : ((" " : Str)) = (⟨#[32]⟩ : Str) := by decide +kernel
  rw [e, ← splitMax_one (S v) (c := 32) (by decide) k, List.map_map]
  exact (List.map_id _).symm
theorem fm_ne : (FS.all fun e => !decide (e.2 = [])) = true := by decide +kernel
theorem hfne {z : Str} {fs : List Str} (h : fm z = some fs) : fs ≠ [] := by
  have := List.all_eq_true.mp fm_ne _ (lookup_mem h)
  simpa using this
def rdZ : List (Str × W) → Option (List It)
  | [] => some []
  | p :: r => match rdI num none_ (kd p.1) p.2 with
    | some i => (rdZ r).map (i :: ·)
    | none => none
theorem rdL_Z : ∀ (fs : List Str) (ws : List W), ws.length = fs.length → rdL num none_ (fs.map kd) ws = rdZ (fs.zip ws)
  | [], [], _ => rfl
  | [], _ :: _, h => by simp at h
  | _ :: _, [], h => by simp at h
  | f :: fs, v :: ws, h => by
    have ih := rdL_Z fs ws (by simpa using h)
    rw [List.map_cons, List.zip_cons_cons, rdL, rdZ, ih]
    cases rdI num none_ (kd f) v with
    | none => rfl
    | some i =>
      dsimp only
      cases rdZ (fs.zip ws) <;> rfl
theorem rdZ_app : ∀ (a b : List (Str × W)), rdZ (a ++ b) = match rdZ a with
    | some is => (rdZ b).map (is ++ ·)
    | none => none
  | [], b => by
    show rdZ b = (rdZ b).map fun x => [] ++ x
    cases rdZ b <;> rfl
  | p :: a, b => by
    rw [List.cons_append, rdZ, rdZ_app a b, rdZ]
    cases rdI num none_ (kd p.1) p.2 with
    | none => rfl
    | some i =>
      dsimp only
      cases rdZ a with
      | none => rfl
      | some is => cases rdZ b <;> rfl
theorem rdZ_len : ∀ {a : List (Str × W)} {is : List It}, rdZ a = some is → is.length = a.length
  | [], _, h => by cases h; rfl
  | p :: a, is, h => by
    rw [rdZ] at h
    cases e : rdI num none_ (kd p.1) p.2 with
    | none => rw [e] at h; cases h
    | some i =>
      rw [e] at h
      dsimp only at h
      cases e2 : rdZ a with
      | none => rw [e2] at h; cases h
      | some js =>
        rw [e2] at h
        cases h
        rw [List.length_cons, List.length_cons, rdZ_len e2]
theorem sp_cons (v : W) : ∃ p r, sp 32 v = p :: r := by
  cases e : sp 32 v with
  | nil => exact absurd e (sp_ne 32 v)
  | cons p r => exact ⟨p, r, rfl⟩
theorem spN_some (k : Nat) (v : W) : ∃ p r, spN 32 k v = p :: r := by
  cases e : spN 32 k v with
  | nil => exact absurd e (spN_ne 32 k v)
  | cons p r => exact ⟨p, r, rfl⟩
/-- the words' number and length are bounded by the text -/
theorem spN_len : ∀ (k : Nat) (v : W), (spN 32 k v).length ≤ v.length + 1 ∧ ∀ u ∈ spN 32 k v, u.length ≤ v.length
  | 0, v => by simp [spN]
  | k + 1, [] => by simp [spN]
  | k + 1, x :: l => by
    rw [spN_cons]
    split
    · obtain ⟨a, b⟩ := spN_len k l
      refine ⟨by simpa using a, fun u hu => ?_⟩
      rcases List.mem_cons.mp hu with rfl | hu
      · simp
      · exact Nat.le_trans (b u hu) (by simp)
    · obtain ⟨a, b⟩ := spN_len (k + 1) l
      split
      · simp
      · rename_i w r e
        rw [e] at a b
        refine ⟨by simp at a ⊢; omega, fun u hu => ?_⟩
        rcases List.mem_cons.mp hu with rfl | hu
        · have := b w List.mem_cons_self
          simp
          omega
        · exact Nat.le_trans (b u (List.mem_cons_of_mem _ hu)) (by simp)
theorem atI_last {xs : List V} {x : V} : atI (xs ++ [x]) (-1) = some x := by
  have e : ixN (xs ++ [x]).length (-1) = some xs.length := by
    unfold ixN
    rw [if_neg (by decide), List.length_append, List.length_singleton, if_pos (by omega)]
    congr 1
    omega
  unfold atI
  rw [e]
  simp
/-- the items so far -/
def Pi (H0 : Hp) (D : Addr) (pre : List (Str × W)) (H : Hp) : Prop := Same H0 H ∧ (∃ is, rdZ pre = some is ∧ H D = some (.lst (is.map itV))) ∧ H0 D = none
section
variable {P : Program} {w : World} {K : PySem.W.Frag} {mg : Str → Option Value} {base : Heap} {t1 t2 : Tok}
abbrev CRd (P : Program) (w : World) (K : PySem.W.Frag) (mg : Str → Option Value) (base : Heap) : Prop := ClE P w K mg base "read_item" ["form", "word", "text"] 3 (sp_rd K)
theorem ok_parse (T : Tx K mg t1 t2) {es : Array DictEntry} {n : Nat} (KD : KDict K w (FA K) es n) {fd : FuncData} (F : Fd K d_parse_operation fd) (C_is_text : My.Cl P w K mg base "is_text" ["value", "most"] 1 (sp_text K)) (C_read_item : CRd P w K mg base)
    {fdE : FuncData} (okPE : FnOk P w K mg base CX0 1 (He.ma K (He.ga K "ParseError") "__init__") fdE ["self", "text"] (My.sp_exc K "ParseError" "text")) (bPE : Binds K fdE ["self", "text"] []) :
    FnOk P w K mg base (L2.CX P w) 4 (He.fAd K d_parse_operation.at_) fd ["text"] (sp_parse K) := by
  refine F.ok sc_parse_operation (fun vs H Q E h => ?_) (fun cdv A outer s H vs Q E hr h => ?_)
  · obtain ⟨x, rfl, _⟩ := h
    rfl
  · obtain ⟨x, rfl, h⟩ := h
    refine ⟨_, ((pss_cons (ps_if (pt_not (pt_val (My.pe_cl C_is_text (hr.mono (by decide)) rfl (pa_cons (pv 0) (pa_cons (pe_glob (v := .int 20000) rfl T.g_MAX_TEXT ⟨_, rfl⟩) pa_nil)))))
  (pss_one (My.ps_raiseX rfl T.exPE okPE bPE (hr.mono (by decide)) (takes_of rfl rfl rfl rfl) (pa_cons (pv 0) pa_nil) rfl))
  pss_nil)
  (pss_cons (ps_set (i := 1) sc_parse_operation.nd rfl (Or.inl rfl) (pe_ix ix_list (pe_bm PySem.F.plainAttrs_str PySem.F.slot_str_split PySem.F.type_str_split mt_split (pv 0) (pa_cons pe_str pa_nil)) pe_int (fun _ _ => rfl)))
  (pss_cons (ps_if (pt_cmpR (op_notIn_kd KD) (pv 1) (pe_glob (v := .ref (FA K)) rfl T.g_FORMS rfl) (by rfl))
  (pss_one (My.ps_raiseX rfl T.exPE okPE bPE (hr.mono (by decide)) (takes_of rfl rfl rfl rfl) (pa_cons (pv 0) pa_nil) rfl))
  pss_nil)
  (pss_cons (ps_set (i := 2) sc_parse_operation.nd rfl (Or.inl rfl) (pe_slice sl_list (pe_bm PySem.F.plainAttrs_str PySem.F.slot_str_split PySem.F.type_str_split mt_splitMax (pv 0) (pa_cons pe_str (pa_cons (pe_callB call_len_seq (by rfl) T.n_len (by decide +kernel) (pa_cons (pe_ix ix_kdict (pe_glob (v := .ref (FA K)) rfl T.g_FORMS rfl) (pv 1) (fun _ _ => rfl)) pa_nil)) pa_nil))) (po_some pe_int) po_none))
  (pss_cons (ps_if (PW.pt (pw_or (pt_cmpR op_ne (pe_callB call_len_seq (by rfl) T.n_len (by decide +kernel) (pa_cons (pv 2) pa_nil)) (pe_callB call_len_seq (by rfl) T.n_len (by decide +kernel) (pa_cons (pe_ix ix_kdict (pe_glob (v := .ref (FA K)) rfl T.g_FORMS rfl) (pv 1) (fun _ _ => rfl)) pa_nil)) (nomark _)) (pw_or1 (PW.pt (pw_and (pt_cmpR op_ne (pv 1) pe_str (nomark _)) (pw_and1 (pt_cmpR op_in_sign pe_str (pe_ix ix_list (pv 2) (pe_un un_neg pe_int) (fun _ _ => rfl)) rfl)))))))
  (pss_one (My.ps_raiseX rfl T.exPE okPE bPE (hr.mono (by decide)) (takes_of rfl rfl rfl rfl) (pa_cons (pv 0) pa_nil) rfl))
  pss_nil)
  (pss_one (ps_ret (pe_tup (pa_cons (pv 1) (StX.pa_star (CR.pe_lcR (own := [("form", 3), ("item", 4)]) (g := gTup K 2 (gCons (gName 3) (gCons (gName 4) gNil))) rfl rfl (takes_of rfl rfl rfl rfl) (fun _ _ _ _ h => h) rfl sc_parse_operation.nd (ZN.pi_zzS (by rfl) T.n_zip (pa_cons (pe_ix ix_kdict (pe_glob (v := .ref (FA K)) rfl T.g_FORMS rfl) (pv 1) (fun _ _ => rfl)) (pa_cons (pv 2) pa_nil))) (blkOk_by (own := [("form", 3), ("item", 4)]) (N := ["text", "word", "words", "form", "item"]) (sc := defScope s_parse_operation) (by decide +kernel)) (fun _ _ _ _ _ => pg_tupK (K := K) (by rfl) (by rfl) (pgs_cons (pg_name (i := 3) sc_parse_operation.nd rfl (Or.inl rfl)) (pgs_cons (pg_name (i := 4) sc_parse_operation.nd rfl (Or.inl rfl)) pgs_nil))) (fun _ _ _ _ _ hx => (pe_clE C_read_item (hr.mono (by decide)) hx rfl (pa_cons (pv 3) (pa_cons (pv 4) (pa_cons (pv 0) pa_nil)))))) pa_nil))))))))))), ?_⟩
    refine My.x_start (σ := [some x, none, none, none, none]) rfl ?_
    try dsimp only [cxOf, Cx.nox]
    walk_at "sx"
    rcases h with ⟨ht, rz⟩ | ⟨z, rfl, hz, q, rz⟩
    · refine ⟨x, 20000, rfl, .inr ⟨ht, ?_⟩⟩
      walk_at "sx"
      refine My.x_mk1 fun d hd => rz H (Same.refl H) d _ hd (My.Same.new (Same.refl H) hd) upd_same
    · refine ⟨.str z, 20000, rfl, .inl ⟨z, rfl, hz, fun H1 s1 => ?_⟩⟩
      obtain ⟨v, rfl⟩ : ∃ v, z = S v := ⟨z.cps.toList, rfl⟩
      have hv : v.length ≤ 5000 := hz
      have q : ∀ is p H', prT v = some is → Same H H' → H p = none → H' p = some (.tup (is.map itV)) → Q (.ref p) H' := q
      have rz : prT v = none → ∀ H1, Same H H1 → Rz K "ParseError" "text" (.str (S v)) H1 E := rz
      have er : prT v = none → ∀ H1 d, Same H H1 → H1 d = none → E (.ref (He.ga K "ParseError")) (some d) (upd H1 d (.xd [(("text" : Str), V.str (S v))])) := fun h H1 d s1 hd => rz h H1 s1 d _ hd (My.Same.new (Same.refl H1) hd) upd_same
      have e0 : (decide (((S v).length : Int) ≤ 20000) && (S v).cps.toList.all okS) = v.all okS := by
        rw [decide_eq_true (by show ((v.length : Nat) : Int) ≤ 20000; omega), Bool.true_and]
      rw [e0]
      refine My.x_exbl ?_
      cases hok : v.all okS with
      | false =>
        walk_at "sx"
        refine My.x_mk1 fun d hd => er (by unfold prT; rw [if_neg (by rw [hok]; exact Bool.false_ne_true)]) H1 d s1 hd
      | true =>
        have hp : prT v = prs v := by unfold prT; rw [if_pos hok]
        rw [hp] at er q
        obtain ⟨p, r, hsp⟩ := sp_cons v
        have hpar : prs v = match forms p with
          | none => none
          | some fs => if ((spN 32 fs.length v).drop 1).length ≠ fs.length ∨ (p ≠ write ∧ 32 ∈ ((spN 32 fs.length v).drop 1).getLastD []) then none
            else (rdL num none_ fs ((spN 32 fs.length v).drop 1)).map fun is => .s p :: is := by
          unfold prs parse
          rw [hsp]
          rfl
        walk_at "sx"
        refine ⟨rfl, ?_⟩
        walk_at "sx"
        refine ⟨S v, _, rfl, rfl, by decide +kernel, by rw [sizeLine_eq]; show v.length + 2 ≤ _; omega, fun w1 hw1 => ?_⟩
        rw [split_V, hsp]
        have s2 := My.Same.new (o := .lst (((p :: r).map S).map V.str)) s1 hw1
        have g2 : upd H1 w1 (.lst (((p :: r).map S).map V.str)) w1 = some (.lst (((p :: r).map S).map V.str)) := upd_same
        generalize upd H1 w1 (.lst (((p :: r).map S).map V.str)) = H2 at s2 g2 ⊢
        walk_at "sx"
        refine My.x_ixL (SqL.of g2) at0 ?_
        walk_at "sx"
        cases hf : fm (S p) with
        | none =>
          refine ⟨S p, _, rfl, rfl, T.fNo _ hf, ?_⟩
          refine My.x_exbl (b := true) (My.x_iT ?_)
          walk_at "sx"
          refine My.x_mk1 fun d hd => er ?_ H2 d s2 hd
          rw [hpar]
          unfold forms
          rw [hf]
          rfl
        | some fs =>
          obtain ⟨pf, hpf, hq⟩ := T.fYes _ fs hf
          have hfl := fm_len hf
          have hform : forms p = some (fs.map kd) := by unfold forms; rw [hf]; rfl
          rw [hform] at hpar
          dsimp only at hpar
          refine ⟨S p, _, rfl, rfl, hpf, ?_⟩
          refine My.x_exbl (b := false) (My.x_iF ?_)
          walk_at "sx"
          refine ⟨rfl, ?_⟩
          walk_at "sx"
          refine ⟨_, S p, .ref pf, rfl, rfl, kct KD hpf, ?_⟩
          walk_at "sx"
          refine My.x_lenT (hq H2) ?_
          walk_at "sx"
          refine ⟨S v, _, _, rfl, rfl, by decide +kernel, by rw [List.length_map]; omega, by rw [List.length_map]; omega, by rw [sizeLine_eq]; show v.length + 2 ≤ _; omega, fun w2 hw2 => ?_⟩
          rw [List.length_map, splitMax_V]
          obtain ⟨p', ws, hcut⟩ := spN_some fs.length v
          have hcl := spN_len fs.length v
          rw [hcut] at hcl
          rw [List.length_map, hcut, List.drop_one, List.tail_cons] at hpar
          rw [hcut]
          have s3 := My.Same.new (o := .lst (((p' :: ws).map S).map V.str)) s2 hw2
          have g3 : upd H2 w2 (.lst (((p' :: ws).map S).map V.str)) w2 = some (.lst (((p' :: ws).map S).map V.str)) := upd_same
          generalize upd H2 w2 (.lst (((p' :: ws).map S).map V.str)) = H3 at s3 g3 ⊢
          walk_at "sx"
          refine My.x_slL (SqL.of g3) fun w3 hw3 => ?_
          rw [List.map_cons, List.map_cons, cut1]
          have s4 := My.Same.new (o := .lst ((ws.map S).map V.str)) s3 hw3
          have g4 : upd H3 w3 (.lst ((ws.map S).map V.str)) w3 = some (.lst ((ws.map S).map V.str)) := upd_same
          generalize upd H3 w3 (.lst ((ws.map S).map V.str)) = H4 at s4 g4 ⊢
          walk_at "sx"
          refine My.x_len (SqL.of g4) ?_
          walk_at "sx"
          refine ⟨_, S p, .ref pf, rfl, rfl, kct KD hpf, ?_⟩
          walk_at "sx"
          refine My.x_lenT (hq H4) ?_
          walk_at "sx"
          refine My.x_ne rfl ?_
          have el : decide (V.int (((ws.map S).map V.str).length : Nat) = V.int ((fs.map V.str).length : Nat)) = decide (ws.length = fs.length) := by
            rw [List.length_map, List.length_map, List.length_map]
            by_cases h : ws.length = fs.length
            · rw [h, decide_eq_true rfl, decide_eq_true rfl]
            · rw [decide_eq_false h]
              exact decide_eq_false fun z => h (Int.ofNat.inj (V.int.inj z))
          rw [el]
          refine My.x_exbl ?_
          by_cases hl : ws.length = fs.length
          · rw [decide_eq_true hl]
            walk_at "sx"
            obtain ⟨w0, wl, rfl⟩ : ∃ w0 wl, ws = w0 ++ [wl] := by
              have hne : ws ≠ [] := fun e => by
                rw [e] at hl
                have := hfne hf
                cases fs with
                | nil => exact this rfl
                | cons _ _ => simp at hl
              exact ⟨ws.dropLast, ws.getLast hne, (List.dropLast_concat_getLast hne).symm⟩
            have hlast : (w0 ++ [wl]).getLastD [] = wl := by simp
            rw [hlast] at hpar
            have ld : ((w0 ++ [wl]).map S).map V.str = (w0.map S).map V.str ++ [V.str (S wl)] := by
              rw [List.map_append, List.map_append]
              rfl
            -- behind the tests
            have fin : ¬ (p ≠ write ∧ 32 ∈ wl) → ∀ R : Ends, R.rt = Q → tRet (tTup (tCons (tVar 1) (StX.tStar K (tLc (ZN.iZz K (tCons (tOp (rIxD K w) (tC (V.ref (FA K))) (tVar 1)) (tCons (tVar 2) tNil))) (gTup K 2 (gCons (gName 3) (gCons (gName 4) gNil))) tYes
                (tCall (sp_rd K) [] E (tCons (tVar 3) (tCons (tVar 4) (tCons (tVar 0) tNil)))) ([(("form" : Str), 3), (("item" : Str), 4)].map fun x => x.2)) tNil))) R [some (V.str (S v)), some (V.str (S p)), some (V.ref w3), none, none] H4 := by
              intro hn R hR
              obtain ⟨nx, rt, bk, ct⟩ := R
              obtain rfl : rt = Q := hR
              rw [if_neg (fun z => z.elim (fun z => z hl) hn), rdL_Z fs _ hl] at hpar
              generalize w0 ++ [wl] = ws at *
              have z1 : (fs.zip ws).map (fun p => V.str p.1) = fs.map V.str := by
                show (fs.zip ws).map (V.str ∘ Prod.fst) = _
                rw [← List.map_map, List.map_fst_zip (by omega)]
              have z2 : (fs.zip ws).map (fun p => V.str (S p.2)) = (ws.map S).map V.str := by
                show (fs.zip ws).map ((V.str ∘ S) ∘ Prod.snd) = _
                rw [← List.map_map, List.map_snd_zip (by omega), List.map_map]
              walk_at "sx"
              refine ⟨_, S p, .ref pf, rfl, rfl, kct KD hpf, ?_⟩
              walk_at "sx"
              refine ⟨.t pf, .l w3, _, _, rfl, hq H4, SqL.of g4, fun D hD => ?_⟩
              refine LZ.lc_two (ys := fs.zip ws) (f1 := fun p => V.str p.1) (f2 := fun p => V.str (S p.2)) (fun pre H' => Pi H4 D pre H') ⟨My.Same.new (Same.refl H4) hD, ⟨[], rfl, upd_same⟩, hD⟩ (fun pre post H' _ h => ⟨by rw [z1]; exact hq H', by rw [z2]; exact SqL.of (h.1 _ _ g4)⟩) ?_ ?_
              · rintro pre ⟨f, u⟩ post Ti H5 hpre ⟨s5, ⟨is, his, gD⟩, nD⟩ nT
                have nTD : D ≠ Ti := ne_of_none gD nT
                have hpl : is.length ≤ 3 := by
                  rw [rdZ_len his]
                  have := congrArg List.length hpre
                  rw [List.length_zip, List.length_append] at this
                  omega
                have hu : u.length ≤ 5000 := by
                  have : (f, u) ∈ fs.zip ws := by rw [hpre]; simp
                  exact Nat.le_trans (hcl.2 u (List.mem_cons_of_mem _ (List.of_mem_zip this).2)) hv
                simp only [List.map_cons, List.map_nil, wipe, List.set_cons_succ, List.set_cons_zero]
                refine My.x_gtup (SqT.of upd_same) rfl ?_
                walk_at "sx"
                refine ⟨rfl, ?_⟩
                walk_at "sx"
                have s6 := My.Same.new (o := .tup [V.str f, V.str (S u)]) s5 nT
                refine ⟨f, S u, S v, rfl, hu, fun i H6 hi s7 => ?_, fun hi H6 s7 d H7 hd s8 e7 => ?_⟩
                · refine ⟨_, s7 _ _ (by rw [upd_ne nTD]; exact gD), by rw [List.length_map, sizeLine_eq]; omega, My.Same.mut (s6.trans s7) nD, ⟨is ++ [i], ?_, ?_⟩, nD⟩
                  · rw [rdZ_app, his]
                    have hi' : rdI num none_ (kd f) u = some i := hi
                    simp [rdZ, hi']
                  · rw [upd_same, List.map_append]
                    rfl
                · refine rz ?_ H6 ((s4.trans s6).trans s7) d H7 hd s8 e7
                  have hi' : rdI num none_ (kd f) u = none := hi
                  rw [hp, hpar, hpre, rdZ_app, his]
                  simp [rdZ, hi']
              · rintro H5 ⟨s5, ⟨is, his, gD⟩, nD⟩
                walk_at "sx"
                refine ⟨D, _, rfl, .inr (SqL.of gD), ?_⟩
                refine My.x_nil ?_
                rw [List.append_nil]
                have hil : is.length ≤ 3 := by
                  rw [rdZ_len his, List.length_zip]
                  omega
                refine ⟨by rw [List.length_cons, List.length_map, sizeLine_eq]; omega, fun m hm => ?_⟩
                walk_at "sx"
                refine q (.s p :: is) m _ ?_ (My.Same.new (s4.trans s5) hm) ((s4.trans s5).free hm) upd_same
                rw [hpar, his]
                rfl
            walk_at "sx"
            refine My.x_ne rfl ?_
            rw [write_S, str_eq]
            refine My.x_exbl ?_
            by_cases hw : p = write
            · rw [decide_eq_true hw]
              refine My.x_iF ?_
              refine My.x_iF ?_
              refine My.x_next ?_
              exact fin (fun z => z.1 hw) _ rfl
            · rw [decide_eq_false hw]
              walk_at "sx"
              refine My.x_ixL (SqL.of g4) (by rw [ld]; exact atI_last) ?_
              walk_at "sx"
              refine ⟨32, S wl, by decide +kernel, rfl, ?_⟩
              refine My.x_exbl ?_
              by_cases hb : 32 ∈ wl
              · rw [decide_eq_true (show 32 ∈ (S wl).cps.toList from hb)]
                walk_at "sx"
                refine My.x_mk1 fun d hd => er ?_ H4 d s4 hd
                rw [hpar, if_pos (.inr ⟨hw, hb⟩)]
              · rw [decide_eq_false (show ¬ 32 ∈ (S wl).cps.toList from hb)]
                refine My.x_iF ?_
                refine My.x_next ?_
                exact fin (fun z => hb z.2) _ rfl
          · rw [decide_eq_false hl]
            walk_at "sx"
            refine My.x_mk1 fun d hd => er ?_ H4 d s4 hd
            rw [hpar, if_pos (.inl hl)]
end
end K32

end

section
local macro_rules | `(tactic| walk_at "ne") => `(tactic| first | assumption | (apply Ne.symm; assumption) | exact L2.ne_of_none (by assumption) (by assumption) | exact (L2.ne_of_none (by assumption) (by assumption)).symm)
local macro_rules | `(tactic| walk_at "hp") => `(tactic| first | assumption | exact L2.upd_same | (rw [L2.upd_ne (by walk_at "ne")]; walk_at "hp"))
local macro_rules | `(tactic| walk_at "sq") => `(tactic| first | assumption | exact L2.SqL.of (by walk_at "hp") | exact My.sq_new (by walk_at "sq") (by assumption))
local macro_rules | `(tactic| walk_at "sd") => `(tactic| first | decide | omega | (unfold L2.CDivN; omega) | (unfold L2.CMul; omega) | (unfold L2.CPow; omega))
local macro_rules | `(tactic| walk_at "sx1") => `(tactic| first | with_reducible refine My.x_seq ?_ | with_reducible refine My.x_asg ?_ | with_reducible refine My.x_ret ?_ | with_reducible refine My.x_next ?_ | with_reducible refine My.x_op ?_ | with_reducible refine My.x_c ?_ | with_reducible refine My.x_ifs ?_ | with_reducible refine My.x_test ?_ | with_reducible refine My.x_exbl ?_ | with_reducible refine My.x_cons ?_ | with_reducible refine My.x_nil ?_ | with_reducible refine My.x_cb ?_ | with_reducible refine My.x_drop ?_ | with_reducible refine My.x_par ?_ | with_reducible refine My.x_exp2 ?_ | with_reducible refine My.x_aug ?_ | with_reducible refine My.x_if ?_ | with_reducible refine My.x_tB ?_ | with_reducible refine My.x_and ?_ | with_reducible refine My.x_or ?_ | with_reducible refine My.x_not ?_ | with_reducible refine My.x_retn ?_ | with_reducible refine My.x_cont ?_ | with_reducible refine My.x_brk ?_ | with_reducible refine My.x_un ?_ | with_reducible refine My.x_tfor ?_ | with_reducible refine My.x_ilist ?_ | with_reducible refine My.x_rng1 ?_ | with_reducible refine My.x_rng2 ?_ | with_reducible refine My.x_r1 ?_ | with_reducible refine My.x_call ?_ | with_reducible refine My.x_sl ?_ | with_reducible refine My.x_part ?_ | with_reducible refine My.x_nopart ?_ | with_reducible refine My.x_ii0 ?_ | with_reducible refine My.x_yes ?_ | with_reducible refine My.x_andv ?_ | with_reducible refine My.x_orv ?_ | with_reducible refine My.x_notv ?_ | with_reducible refine My.x_iT ?_ | with_reducible refine My.x_iF ?_ | with_reducible refine My.x_chain ?_ | with_reducible refine My.x_exI ?_ | with_reducible refine My.x_wipe ?_ | with_reducible refine My.x_bm ?_ | with_reducible refine My.x_bm0 ?_ | with_reducible refine My.x_gsub ?_ | with_reducible refine My.x_int1 ?_ | with_reducible refine My.x_two ?_ | with_reducible refine My.x_lst ?_ | with_reducible refine My.x_tup ?_ | with_reducible refine My.x_revL ?_ | with_reducible refine My.x_dput ?_ | with_reducible refine My.x_dget ?_ | with_reducible refine My.x_dnew ?_ | with_reducible refine My.x_dc ?_ | with_reducible refine My.x_lc ?_ | with_reducible refine My.x_ienum ?_ | with_reducible refine My.x_gcons ?_ | with_reducible refine My.x_gnil ?_ | with_reducible refine My.x_v0 ?_ | with_reducible refine My.x_v1 ?_ | with_reducible refine My.x_v2 ?_ | with_reducible refine My.x_v3 ?_ | with_reducible refine My.x_v4 ?_ | with_reducible refine My.x_v5 ?_ | with_reducible refine My.x_v6 ?_ | with_reducible refine My.x_v7 ?_ | with_reducible refine My.x_v8 ?_ | with_reducible refine My.x_v9 ?_ | with_reducible refine My.x_v10 ?_ | with_reducible refine My.x_v11 ?_ | with_reducible refine My.x_v12 ?_ | with_reducible refine My.x_v13 ?_ | with_reducible refine My.x_v14 ?_ | with_reducible refine My.x_v15 ?_ | with_reducible refine My.x_v16 ?_ | with_reducible refine My.x_v17 ?_ | with_reducible refine My.x_v18 ?_ | with_reducible refine My.x_v19 ?_ | with_reducible refine My.x_v20 ?_ | with_reducible refine My.x_v21 ?_ | with_reducible refine My.x_v22 ?_ | with_reducible refine My.x_v23 ?_ | with_reducible refine My.x_v24 ?_ | with_reducible refine My.x_v25 ?_ | with_reducible refine My.x_g0 ?_ | with_reducible refine My.x_g1 ?_ | with_reducible refine My.x_g2 ?_ | with_reducible refine My.x_g3 ?_ | with_reducible refine My.x_g4 ?_ | with_reducible refine My.x_g5 ?_ | with_reducible refine My.x_g6 ?_ | with_reducible refine My.x_g7 ?_ | with_reducible refine My.x_g8 ?_ | with_reducible refine My.x_g9 ?_ | with_reducible refine My.x_g10 ?_ | with_reducible refine My.x_g11 ?_ | with_reducible refine My.x_g12 ?_ | with_reducible refine My.x_g13 ?_ | with_reducible refine My.x_g14 ?_ | with_reducible refine My.x_g15 ?_ | with_reducible refine My.x_g16 ?_ | with_reducible refine My.x_g17 ?_ | with_reducible refine My.x_g18 ?_ | with_reducible refine My.x_g19 ?_ | with_reducible refine My.x_g20 ?_ | with_reducible refine My.x_g21 ?_ | with_reducible refine My.x_g22 ?_ | with_reducible refine My.x_g23 ?_ | with_reducible refine My.x_g24 ?_ | with_reducible refine My.x_g25 ?_)
local macro_rules | `(tactic| walk_at "sx") => `(tactic| repeat (walk_at "sx1"))
local macro_rules | `(tactic| walk_at "ln") => `(tactic| first | assumption | exact Nat.le_of_ble_eq_true rfl | (simp only [List.length_append, List.length_map, List.length_cons, List.length_nil]; simp only [PySem.sizeLine]; omega))
local macro_rules | `(tactic| walk_at "st") => `(tactic| first | assumption | exact L2.SqT.of (by walk_at "hp"))
local macro_rules | `(tactic| walk_at "go1") => `(tactic| first | walk_at "sx1" | ((with_reducible refine' My.x_ixL ?x0 ?x1 ?x2); (case x0 => walk_at "sq"); (case x1 => exact rfl)) | ((with_reducible refine' My.x_ixT ?x0 ?x1 ?x2); (case x0 => walk_at "st"); (case x1 => exact rfl)) | ((with_reducible refine' My.x_i ?x0 ?x1); (case x0 => walk_at "sd")) | ((with_reducible refine' My.x_setL ?x0 ?x1 ?x2); (case x0 => walk_at "hp"); (case x1 => exact rfl)) | ((with_reducible refine' My.x_len ?x0 ?x1); (case x0 => walk_at "sq")) | ((with_reducible refine' My.x_lenT ?x0 ?x1); (case x0 => walk_at "st")) | ((with_reducible refine' My.x_lenD ?x0 ?x1); (case x0 => walk_at "hp")) | ((with_reducible refine' My.x_append ?x0 ?x1 ?x2); (case x0 => walk_at "hp"); (case x1 => walk_at "ln")) | ((with_reducible refine' My.x_tyL ?x0 ?x1); (case x0 => walk_at "hp")) | ((with_reducible refine' My.x_ilistE ?x0 ?x1); (case x0 => walk_at "sq")) | ((with_reducible refine' My.x_ienumE ?x0 ?x1); (case x0 => walk_at "sq")) | ((with_reducible refine' My.x_sortI ?x0 ?x1); (case x0 => walk_at "sq")) | ((with_reducible refine' My.x_slL ?x0 ?x1); (case x0 => walk_at "sq")) | ((with_reducible refine' My.x_revL2 ?x0 ?x1); (case x0 => walk_at "sq")) | ((with_reducible refine' My.x_eq ?x0 ?x1); (case x0 => exact rfl)) | ((with_reducible refine' My.x_ne ?x0 ?x1); (case x0 => exact rfl)) | ((with_reducible refine' My.x_dputI ?x0 ?x1 ?x2); (case x0 => walk_at "hp"); (case x1 => walk_at "ln")) | ((with_reducible refine' My.x_dputS ?x0 ?x1 ?x2); (case x0 => walk_at "hp"); (case x1 => walk_at "ln")) | ((with_reducible refine' My.x_seqof ?x0 ?x1); (case x0 => walk_at "sq")) | ((with_reducible refine' My.x_gtup ?x0 ?x1 ?x2); (case x0 => walk_at "st"); (case x1 => exact rfl)) | ((with_reducible refine' My.x_mem1 ?x0 ?x1); (case x0 => walk_at "ln")))
local macro_rules | `(tactic| walk_at "go") => `(tactic| repeat (walk_at "go1"))
local macro_rules | `(tactic| walk_at "sx1") => `(tactic| first | with_reducible refine My.x_fld ?_ | with_reducible refine My.x_sfld ?_ | with_reducible refine My.x_meth ?_ | with_reducible refine My.x_make ?_ | with_reducible refine My.x_din ?_ | with_reducible refine My.x_dnin ?_ | with_reducible refine My.x_ikeys ?_ | with_reducible refine My.x_itup ?_ | with_reducible refine My.x_mkO ?_ | with_reducible refine My.x_vei ?_ | with_reducible refine My.x_ost ?_ | with_reducible refine My.x_nF ?_ | with_reducible refine My.x_nT ?_)
local macro_rules | `(tactic| walk_at "go1") => `(tactic| first | ((with_reducible refine' My.x_fldE ?x0 ?x1 ?x2 ?x3 ?x4); (case x0 => walk_at "hp"); (case x1 => assumption); (case x2 => assumption); (case x3 => exact rfl)) | ((with_reducible refine' My.x_sfldE ?x0 ?x1 ?x2 ?x3 ?x4 ?x5); (case x0 => walk_at "hp"); (case x1 => assumption); (case x2 => assumption); (case x3 => decide); (case x4 => exact rfl)) | ((with_reducible refine' My.x_methE ?x0 ?x1 ?x2); (case x0 => walk_at "hp"); (case x1 => exact rfl)) | ((with_reducible refine' My.x_itupE ?x0 ?x1); (case x0 => walk_at "st")))
local macro_rules | `(tactic| walk_at "sx1") => `(tactic| first | with_reducible refine LZ.x_zz ?_ | with_reducible refine LZ.x_star ?_)
namespace K32
open PySem PySem.Spec PyProof.Rows L2
/-- // by a divisor of fewer than 9000 bits -/
def CDivW (_ j : Int) : Prop := j ≠ 0 ∧ j.natAbs.log2 < 9000
theorem op_fdivW {X : Cx} : OpR X (binaryOp .FloorDiv) (rI CDivW fun i j => .int (i.fdiv j)) := opI fun _ _ _ _ _ _ _ hc q => floordiv_int hc.1 q (.inl (PyProof.noPylong_of_log2 hc.2))
def sp_drawW : Sp := fun vs H Q _ => ∃ (p : Addr) (n c s : Int), vs = [.ref p, .int n] ∧ 0 < n ∧ n.natAbs.log2 < 9000 ∧ H p = some (.lst [.int c, .int s]) ∧ 0 ≤ s ∧ s < 2147483647 ∧
  ∀ d c' s' : Int, 0 ≤ d → d < n → 0 ≤ s' → s' < 2147483647 → Q (.int d) (upd H p (.lst [.int c', .int s']))
theorem x_drawW {H : Hp} {Q : VK} {E : XK} {p : Addr} {n : Int} (P : My.PoolAt H p) (n0 : 0 < n) (n1 : n.natAbs.log2 < 9000) (h : ∀ (d : Int) (H' : Hp), 0 ≤ d → d < n → My.PoolAt H' p → My.But p H H' → Q (.int d) H') : sp_drawW ([V.ref p, .int n] ++ []) H Q E := by
  obtain ⟨c, s, e, s0, s1⟩ := P
  exact ⟨p, n, c, s, rfl, n0, n1, e, s0, s1, fun d c' s' d0 d1 z0 z1 => h d _ d0 d1 ⟨c', s', upd_same, z0, z1⟩ My.But.upd⟩
section
variable {P : Program} {w : World} {K : PySem.W.Frag} {mg : Str → Option Value} {base : Heap} {t1 t2 : Tok}
theorem ok_draw (T : Tx K mg t1 t2) {fd : FuncData} (F : Fd K d_law_draw fd) : FnOk P w K mg base CX0 1 (He.ga K "_law_draw") fd ["_law_pool_here", "_law_many"] sp_drawW := by
  refine F.ok sc_law_draw (fun vs H Q E h => ?_) (fun cdv A outer s H vs Q E hr h => ?_)
  · obtain ⟨p, n, c, s, rfl, _⟩ := h
    rfl
  · obtain ⟨p, n, c, s, rfl, n0, n1, hp, s0, s1, k⟩ := h
    refine ⟨_, PSs.nox ((pss_cons (ps_if (pt_cmpR op_gt (pe_ix ix_list (pv 0) pe_int (fun _ _ => rfl)) pe_int (nomark _))
  (pss_cons (ps_set (i := 2) sc_law_draw.nd rfl (Or.inl rfl) (pe_op op_modN (pe_callTy call_int1 (by rfl) T.n_int (by decide +kernel) (pa_cons (pe_ix ix_list (pv 0) pe_int (fun _ _ => rfl)) pa_nil)) (pv 1)))
  (pss_cons (ps_asg (pe_op op_fdivW (pe_ix ix_list (pv 0) pe_int (fun _ _ => rfl)) (pv 1)) (pg_sub (pv 0) pe_int set_list))
  (pss_one (ps_ret (pv 2)))))
  pss_nil)
  (pss_cons (ps_asg (pe_op op_modN (pe_callTy call_int1 (by rfl) T.n_int (by decide +kernel) (pa_cons (pe_op op_add (pe_op op_mul (pe_ix ix_list (pv 0) pe_int (fun _ _ => rfl)) pe_int) pe_int) pa_nil)) pe_int) (pg_sub (pv 0) pe_int set_list))
  (pss_one (ps_ret (pe_op op_modN (pe_op op_fdivN (pe_op op_modN (pe_callTy call_int1 (by rfl) T.n_int (by decide +kernel) (pa_cons (pe_op op_mul (pe_ix ix_list (pv 0) pe_int (fun _ _ => rfl)) (pe_ix ix_list (pv 0) pe_int (fun _ _ => rfl))) pa_nil)) pe_int) pe_int) (pv 1))))))), ?_⟩
    refine My.x_start (σ := [some (V.ref p), some (V.int n), none]) rfl ?_
    try dsimp only [cxOf, Cx.nox]
    walk_at "go"
    refine My.x_dec (fun hc => ?_) (fun hc => ?_)
    · walk_at "go"
      refine My.x_i ⟨by omega, n1⟩ ?_
      walk_at "go"
      exact k _ _ _ (Int.fmod_nonneg_of_pos _ n0) (Int.fmod_lt_of_pos _ n0) s0 s1
    · walk_at "go"
      have hm0 := Int.fmod_nonneg_of_pos (s * 48271 + 11) (show (0 : Int) < 2147483647 by decide)
      have hm1 := Int.fmod_lt_of_pos (s * 48271 + 11) (show (0 : Int) < 2147483647 by decide)
      refine My.x_i (.inl ⟨by omega, by omega⟩) ?_
      walk_at "go"
      exact k _ _ _ (Int.fmod_nonneg_of_pos _ n0) (Int.fmod_lt_of_pos _ n0) hm0 hm1
theorem atI_in {ns : List Int} {k : Int} (h0 : 0 ≤ k) (h : k < (ns.length : Int)) : ∃ x, atI (ns.map V.int) k = some (.int x) := by
  obtain ⟨j, rfl⟩ := Int.eq_ofNat_of_zero_le h0
  have hj : j < ns.length := by omega
  exact ⟨ns[j], atI_nat (by rw [List.getElem?_map, List.getElem?_eq_getElem hj]; rfl)⟩
theorem ok_pool (T : Tx K mg t1 t2) {fd : FuncData} (F : Fd K d_law_pool fd) : FnOk P w K mg base CX0 1 (He.ga K "_law_pool") fd ["_law_script", "_law_k"] (My.sp_pool K) := by
  refine F.ok sc_law_pool (fun vs H Q E h => ?_) (fun cdv A outer s H vs Q E hr h => ?_)
  · obtain ⟨a, ns, k, rfl, _⟩ := h
    rfl
  · obtain ⟨a, ns, k, rfl, hS, k0, k1, q⟩ := h
    refine ⟨_, PSs.nox ((pss_cons (ps_set (i := 2) sc_law_pool.nd rfl (Or.inl rfl) pe_int)
  (pss_cons (ps_if (pt_cmpR op_lt (pv 1) (pe_callB call_len_seq (by rfl) T.n_len (by decide +kernel) (pa_cons (pv 0) pa_nil)) (nomark _))
  (pss_one (ps_set (i := 2) sc_law_pool.nd rfl (Or.inl rfl) (pe_ix ix_list (pv 0) (pv 1) (fun _ _ => rfl))))
  pss_nil)
  (pss_cons (ps_set (i := 3) sc_law_pool.nd rfl (Or.inl rfl) (pe_op op_modN (pe_op op_pow (pe_op op_add (pe_op op_add (pe_op op_modN (pe_callTy call_int1 (by rfl) T.n_int (by decide +kernel) (pa_cons (pv 2) pa_nil)) pe_int) (pe_op op_mul (pe_op op_mul pe_int (pv 1)) (pv 1))) pe_int) pe_int) pe_int))
  (pss_cons (ps_if (pt_cmpR op_lt (pv 2) (pe_op op_pow pe_int pe_int) (nomark _))
  (pss_one (ps_set (i := 2) sc_law_pool.nd rfl (Or.inl rfl) pe_int))
  pss_nil)
  (pss_one (ps_ret (pe_lst (pa_cons (pv 2) (pa_cons (pv 3) pa_nil)))))))))), ?_⟩
    refine My.x_start (σ := [some (V.ref a), some (V.int k), none, none]) rfl ?_
    try dsimp only [cxOf, Cx.nox]
    have key : ∀ c : Int, 0 ≤ c.fmod 2147483629 ∧ c.fmod 2147483629 < 2147483629 := fun c => ⟨Int.fmod_nonneg_of_pos _ (by decide), Int.fmod_lt_of_pos _ (by decide)⟩
    have kk0 : 0 ≤ 7919 * k * k := Int.mul_nonneg (by omega) k0
    have kk1 : 7919 * k * k ≤ 7919 * 1000 * 1000 := Int.mul_le_mul (by omega) (by omega) k0 (by decide)
    have ends : ∀ c z : Int, 0 ≤ z → z < 2147483647 → ∀ p, H p = none → Q (.ref p) (upd H p (.lst [.int c, .int z])) := fun c z h0 h1 p hp => q p c z hp h0 h1
    have m0 : ∀ z : Int, 0 ≤ z.fmod 2147483647 := fun z => Int.fmod_nonneg_of_pos _ (by decide)
    have m1 : ∀ z : Int, z.fmod 2147483647 < 2147483647 := fun z => Int.fmod_lt_of_pos _ (by decide)
    walk_at "go"
    refine My.x_dec (fun hc => ?_) (fun hc => ?_)
    · rw [List.length_map] at hc
      obtain ⟨x, hx⟩ := atI_in k0 hc
      walk_at "go"
      refine My.x_ixL (by walk_at "sq") hx ?_
      have hk := key x
      walk_at "go"
      refine My.x_dec (fun hc => ?_) (fun hc => ?_)
      · walk_at "go"
        exact ends _ _ (m0 _) (m1 _)
      · walk_at "go"
        exact ends _ _ (m0 _) (m1 _)
    · have hk := key 0
      walk_at "go"
      refine My.x_dec (fun hc => ?_) (fun hc => ?_)
      · walk_at "go"
        exact ends _ _ (m0 _) (m1 _)
      · walk_at "go"
        exact ends _ _ (m0 _) (m1 _)


def sp_choose : Sp := fun vs H Q _ => ∃ (p a : Addr) (xs : List V), vs = [.ref p, .ref a] ∧ My.PoolAt H p ∧ H a = some (.lst xs) ∧ a ≠ p ∧ 0 < xs.length ∧ xs.length < 1000 ∧ ∀ (x : V) (H' : Hp), x ∈ xs → My.PoolAt H' p → My.But p H H' → Q x H'
theorem log_small {n : Int} (h0 : 0 < n) (h : n < 1000) : n.natAbs.log2 < 9000 := by
  have : n.natAbs.log2 < 10 := Nat.log2_lt (by omega) |>.mpr (by omega)
  omega
theorem atI_mem {xs : List V} {d : Int} (h0 : 0 ≤ d) (h1 : d < (xs.length : Int)) : ∃ x, atI xs d = some x ∧ x ∈ xs := by
  obtain ⟨j, rfl⟩ := Int.eq_ofNat_of_zero_le h0
  have hj : j < xs.length := by omega
  exact ⟨xs[j], atI_nat (List.getElem?_eq_getElem hj), List.getElem_mem hj⟩
theorem ok_choose (T : Tx K mg t1 t2) {fd : FuncData} (F : Fd K d_law_choose fd) (C_law_draw : My.Cl P w K mg base "_law_draw" ["_law_pool_here", "_law_many"] 1 sp_drawW) : FnOk P w K mg base CX0 2 (He.ga K "_law_choose") fd ["_law_pool_here", "_law_items"] sp_choose := by
  refine F.ok sc_law_choose (fun vs H Q E h => ?_) (fun cdv A outer s H vs Q E hr h => ?_)
  · obtain ⟨p, a, xs, rfl, _⟩ := h
    rfl
  · obtain ⟨p, a, xs, rfl, hP, ha, hne, h0, h1, q⟩ := h
    refine ⟨_, PSs.nox ((pss_one (ps_ret (pe_ix ix_list (pv 1) (My.pe_cl C_law_draw (hr.mono (by decide)) rfl (pa_cons (pv 0) (pa_cons (pe_callB call_len_seq (by rfl) T.n_len (by decide +kernel) (pa_cons (pv 1) pa_nil)) pa_nil))) (fun _ _ => rfl))))), ?_⟩
    refine My.x_start (σ := [some (V.ref p), some (V.ref a)]) rfl ?_
    try dsimp only [cxOf, Cx.nox]
    walk_at "go"
    refine x_drawW hP (by omega) (log_small (by omega) (by omega)) fun d H1 d0 d1 P1 B1 => ?_
    obtain ⟨x, hx, hm⟩ := atI_mem d0 d1
    refine My.x_ixL (SqL.of (B1.at ha hne)) hx ?_
    exact q x H1 hm P1 B1
end
end K32

end

section
local macro_rules | `(tactic| walk_at "ne") => `(tactic| first | assumption | (apply Ne.symm; assumption) | exact L2.ne_of_none (by assumption) (by assumption) | exact (L2.ne_of_none (by assumption) (by assumption)).symm)
local macro_rules | `(tactic| walk_at "hp") => `(tactic| first | assumption | exact L2.upd_same | (rw [L2.upd_ne (by walk_at "ne")]; walk_at "hp"))
local macro_rules | `(tactic| walk_at "sq") => `(tactic| first | assumption | exact L2.SqL.of (by walk_at "hp") | exact My.sq_new (by walk_at "sq") (by assumption))
local macro_rules | `(tactic| walk_at "sd") => `(tactic| first | decide | omega | (unfold L2.CDivN; omega) | (unfold L2.CMul; omega) | (unfold L2.CPow; omega))
local macro_rules | `(tactic| walk_at "sx1") => `(tactic| first | with_reducible refine My.x_seq ?_ | with_reducible refine My.x_asg ?_ | with_reducible refine My.x_ret ?_ | with_reducible refine My.x_next ?_ | with_reducible refine My.x_op ?_ | with_reducible refine My.x_c ?_ | with_reducible refine My.x_ifs ?_ | with_reducible refine My.x_test ?_ | with_reducible refine My.x_exbl ?_ | with_reducible refine My.x_cons ?_ | with_reducible refine My.x_nil ?_ | with_reducible refine My.x_cb ?_ | with_reducible refine My.x_drop ?_ | with_reducible refine My.x_par ?_ | with_reducible refine My.x_exp2 ?_ | with_reducible refine My.x_aug ?_ | with_reducible refine My.x_if ?_ | with_reducible refine My.x_tB ?_ | with_reducible refine My.x_and ?_ | with_reducible refine My.x_or ?_ | with_reducible refine My.x_not ?_ | with_reducible refine My.x_retn ?_ | with_reducible refine My.x_cont ?_ | with_reducible refine My.x_brk ?_ | with_reducible refine My.x_un ?_ | with_reducible refine My.x_tfor ?_ | with_reducible refine My.x_ilist ?_ | with_reducible refine My.x_rng1 ?_ | with_reducible refine My.x_rng2 ?_ | with_reducible refine My.x_r1 ?_ | with_reducible refine My.x_call ?_ | with_reducible refine My.x_sl ?_ | with_reducible refine My.x_part ?_ | with_reducible refine My.x_nopart ?_ | with_reducible refine My.x_ii0 ?_ | with_reducible refine My.x_yes ?_ | with_reducible refine My.x_andv ?_ | with_reducible refine My.x_orv ?_ | with_reducible refine My.x_notv ?_ | with_reducible refine My.x_iT ?_ | with_reducible refine My.x_iF ?_ | with_reducible refine My.x_chain ?_ | with_reducible refine My.x_exI ?_ | with_reducible refine My.x_wipe ?_ | with_reducible refine My.x_bm ?_ | with_reducible refine My.x_bm0 ?_ | with_reducible refine My.x_gsub ?_ | with_reducible refine My.x_int1 ?_ | with_reducible refine My.x_two ?_ | with_reducible refine My.x_lst ?_ | with_reducible refine My.x_tup ?_ | with_reducible refine My.x_revL ?_ | with_reducible refine My.x_dput ?_ | with_reducible refine My.x_dget ?_ | with_reducible refine My.x_dnew ?_ | with_reducible refine My.x_dc ?_ | with_reducible refine My.x_lc ?_ | with_reducible refine My.x_ienum ?_ | with_reducible refine My.x_gcons ?_ | with_reducible refine My.x_gnil ?_ | with_reducible refine My.x_v0 ?_ | with_reducible refine My.x_v1 ?_ | with_reducible refine My.x_v2 ?_ | with_reducible refine My.x_v3 ?_ | with_reducible refine My.x_v4 ?_ | with_reducible refine My.x_v5 ?_ | with_reducible refine My.x_v6 ?_ | with_reducible refine My.x_v7 ?_ | with_reducible refine My.x_v8 ?_ | with_reducible refine My.x_v9 ?_ | with_reducible refine My.x_v10 ?_ | with_reducible refine My.x_v11 ?_ | with_reducible refine My.x_v12 ?_ | with_reducible refine My.x_v13 ?_ | with_reducible refine My.x_v14 ?_ | with_reducible refine My.x_v15 ?_ | with_reducible refine My.x_v16 ?_ | with_reducible refine My.x_v17 ?_ | with_reducible refine My.x_v18 ?_ | with_reducible refine My.x_v19 ?_ | with_reducible refine My.x_v20 ?_ | with_reducible refine My.x_v21 ?_ | with_reducible refine My.x_v22 ?_ | with_reducible refine My.x_v23 ?_ | with_reducible refine My.x_v24 ?_ | with_reducible refine My.x_v25 ?_ | with_reducible refine My.x_g0 ?_ | with_reducible refine My.x_g1 ?_ | with_reducible refine My.x_g2 ?_ | with_reducible refine My.x_g3 ?_ | with_reducible refine My.x_g4 ?_ | with_reducible refine My.x_g5 ?_ | with_reducible refine My.x_g6 ?_ | with_reducible refine My.x_g7 ?_ | with_reducible refine My.x_g8 ?_ | with_reducible refine My.x_g9 ?_ | with_reducible refine My.x_g10 ?_ | with_reducible refine My.x_g11 ?_ | with_reducible refine My.x_g12 ?_ | with_reducible refine My.x_g13 ?_ | with_reducible refine My.x_g14 ?_ | with_reducible refine My.x_g15 ?_ | with_reducible refine My.x_g16 ?_ | with_reducible refine My.x_g17 ?_ | with_reducible refine My.x_g18 ?_ | with_reducible refine My.x_g19 ?_ | with_reducible refine My.x_g20 ?_ | with_reducible refine My.x_g21 ?_ | with_reducible refine My.x_g22 ?_ | with_reducible refine My.x_g23 ?_ | with_reducible refine My.x_g24 ?_ | with_reducible refine My.x_g25 ?_)
local macro_rules | `(tactic| walk_at "sx") => `(tactic| repeat (walk_at "sx1"))
local macro_rules | `(tactic| walk_at "ln") => `(tactic| first | assumption | exact Nat.le_of_ble_eq_true rfl | (simp only [List.length_append, List.length_map, List.length_cons, List.length_nil]; simp only [PySem.sizeLine]; omega))
local macro_rules | `(tactic| walk_at "st") => `(tactic| first | assumption | exact L2.SqT.of (by walk_at "hp"))
local macro_rules | `(tactic| walk_at "go1") => `(tactic| first | walk_at "sx1" | ((with_reducible refine' My.x_ixL ?x0 ?x1 ?x2); (case x0 => walk_at "sq"); (case x1 => exact rfl)) | ((with_reducible refine' My.x_ixT ?x0 ?x1 ?x2); (case x0 => walk_at "st"); (case x1 => exact rfl)) | ((with_reducible refine' My.x_i ?x0 ?x1); (case x0 => walk_at "sd")) | ((with_reducible refine' My.x_setL ?x0 ?x1 ?x2); (case x0 => walk_at "hp"); (case x1 => exact rfl)) | ((with_reducible refine' My.x_len ?x0 ?x1); (case x0 => walk_at "sq")) | ((with_reducible refine' My.x_lenT ?x0 ?x1); (case x0 => walk_at "st")) | ((with_reducible refine' My.x_lenD ?x0 ?x1); (case x0 => walk_at "hp")) | ((with_reducible refine' My.x_append ?x0 ?x1 ?x2); (case x0 => walk_at "hp"); (case x1 => walk_at "ln")) | ((with_reducible refine' My.x_tyL ?x0 ?x1); (case x0 => walk_at "hp")) | ((with_reducible refine' My.x_ilistE ?x0 ?x1); (case x0 => walk_at "sq")) | ((with_reducible refine' My.x_ienumE ?x0 ?x1); (case x0 => walk_at "sq")) | ((with_reducible refine' My.x_sortI ?x0 ?x1); (case x0 => walk_at "sq")) | ((with_reducible refine' My.x_slL ?x0 ?x1); (case x0 => walk_at "sq")) | ((with_reducible refine' My.x_revL2 ?x0 ?x1); (case x0 => walk_at "sq")) | ((with_reducible refine' My.x_eq ?x0 ?x1); (case x0 => exact rfl)) | ((with_reducible refine' My.x_ne ?x0 ?x1); (case x0 => exact rfl)) | ((with_reducible refine' My.x_dputI ?x0 ?x1 ?x2); (case x0 => walk_at "hp"); (case x1 => walk_at "ln")) | ((with_reducible refine' My.x_dputS ?x0 ?x1 ?x2); (case x0 => walk_at "hp"); (case x1 => walk_at "ln")) | ((with_reducible refine' My.x_seqof ?x0 ?x1); (case x0 => walk_at "sq")) | ((with_reducible refine' My.x_gtup ?x0 ?x1 ?x2); (case x0 => walk_at "st"); (case x1 => exact rfl)) | ((with_reducible refine' My.x_mem1 ?x0 ?x1); (case x0 => walk_at "ln")))
local macro_rules | `(tactic| walk_at "go") => `(tactic| repeat (walk_at "go1"))
local macro_rules | `(tactic| walk_at "sx1") => `(tactic| first | with_reducible refine My.x_fld ?_ | with_reducible refine My.x_sfld ?_ | with_reducible refine My.x_meth ?_ | with_reducible refine My.x_make ?_ | with_reducible refine My.x_din ?_ | with_reducible refine My.x_dnin ?_ | with_reducible refine My.x_ikeys ?_ | with_reducible refine My.x_itup ?_ | with_reducible refine My.x_mkO ?_ | with_reducible refine My.x_vei ?_ | with_reducible refine My.x_ost ?_ | with_reducible refine My.x_nF ?_ | with_reducible refine My.x_nT ?_)
local macro_rules | `(tactic| walk_at "go1") => `(tactic| first | ((with_reducible refine' My.x_fldE ?x0 ?x1 ?x2 ?x3 ?x4); (case x0 => walk_at "hp"); (case x1 => assumption); (case x2 => assumption); (case x3 => exact rfl)) | ((with_reducible refine' My.x_sfldE ?x0 ?x1 ?x2 ?x3 ?x4 ?x5); (case x0 => walk_at "hp"); (case x1 => assumption); (case x2 => assumption); (case x3 => decide); (case x4 => exact rfl)) | ((with_reducible refine' My.x_methE ?x0 ?x1 ?x2); (case x0 => walk_at "hp"); (case x1 => exact rfl)) | ((with_reducible refine' My.x_itupE ?x0 ?x1); (case x0 => walk_at "st")))
local macro_rules | `(tactic| walk_at "sx1") => `(tactic| first | with_reducible refine LZ.x_zz ?_ | with_reducible refine LZ.x_star ?_)
namespace K32
open PySem PySem.Spec PyProof.Rows L2
theorem itV_num (k : Nat) : itV (.n (TL.numL k)) = .int (k : Int) := by
  show V.int ((NumText.digitsVal (TL.numL k) : Nat) : Int) = _
  rw [TL.numL_val]
theorem lt_one (a b : Nat) : ([a] < [b]) ↔ a < b := by
  constructor
  · intro h
    cases h with
    | rel h => exact h
    | cons h => cases h
  · intro h
    exact .rel h
theorem okS_eq (c : Nat) : okS c = (decide (32 ≤ c) && decide (c ≤ 126)) := by
  unfold okS
  rw [Bool.eq_iff_iff]
  simp only [Bool.and_eq_true, Bool.not_eq_true', decide_eq_false_iff_not, decide_eq_true_eq, lt_one]
  omega
/-- an item of signs that can be printed -/
def prn (i : It) : Bool := (itS i).all okS
theorem prn_num (k : Nat) : prn (.n (TL.numL k)) = true := by
  refine List.all_eq_true.mpr fun c hc => ?_
  obtain ⟨h1, h2⟩ := TL.numL_digits k c hc
  rw [okS_eq, Bool.and_eq_true, decide_eq_true_eq, decide_eq_true_eq]
  omega
theorem al_cons {i : It} {is : List It} (h : prn i = true) (r : is.all prn = true) : (i :: is).all prn = true := by
  rw [List.all_cons, h, r]
  rfl
/-- an operation with items that fit stands at a -/
def Gd (H : Hp) (a : Addr) : Prop := ∃ z is fs, H a = some (.tup (.str z :: is.map itV)) ∧ fm z = some fs ∧ Fits (fs.map kd) is ∧ is.all prn = true
theorem Gd.same {H H' : Hp} {a : Addr} (g : Gd H a) (s : Same H H') : Gd H' a := by
  obtain ⟨z, is, fs, e, r⟩ := g
  exact ⟨z, is, fs, s _ _ e, r⟩
theorem Gd.new {H : Hp} {a b : Addr} {o : HO} (g : Gd H a) (h : H b = none) : Gd (upd H b o) a := g.same (My.Same.new (Same.refl H) h)
theorem Gd.but {H H' : Hp} {a p : Addr} (g : Gd H a) (b : My.But p H H') (n : a ≠ p) : Gd H' a := by
  obtain ⟨z, is, fs, e, r⟩ := g
  exact ⟨z, is, fs, b.at e n, r⟩
theorem Gd.mk {H : Hp} {a : Addr} {z : Str} {is : List It} {xs : List V} (fs : List Str) (e : xs = .str z :: is.map itV) (hf : fm z = some fs) (fit : Fits (fs.map kd) is) (al : is.all prn = true) : Gd (upd H a (.tup xs)) a := ⟨z, is, fs, by rw [upd_same, e], hf, fit, al⟩
/-- what fits a name's form -/
def Nm (x : V) : Prop := ∃ w : W, x = .str (S w) ∧ w.all okS = true ∧ w ≠ [] ∧ w.length ≤ 100 ∧ 32 ∉ w
def SameP (p : Addr) (H H' : Hp) : Prop := ∀ b o, b ≠ p → H b = some o → H' b = some o
theorem SameP.refl (p : Addr) (H : Hp) : SameP p H H := fun _ _ _ e => e
theorem SameP.but {p : Addr} {H H1 H' : Hp} (s : SameP p H H1) (b : My.But p H1 H') : SameP p H H' := fun c o n e => b.at (s c o n e) n
theorem SameP.new {p q : Addr} {H H1 : Hp} {o : HO} (s : SameP p H H1) (h : H1 q = none) : SameP p H (upd H1 q o) := fun c u n e => by
  have z := s c u n e
  rw [upd_ne (ne_of_none z h)]
  exact z
theorem SameP.trans {p : Addr} {H H1 H2 : Hp} (s : SameP p H H1) (t : SameP p H1 H2) : SameP p H H2 := fun b o n e => t b o n (s b o n e)
theorem SameP.of {p : Addr} {H H1 : Hp} (s : Same H H1) : SameP p H H1 := fun b o _ e => s b o e
def sp_law_op : Sp := fun vs H Q _ => ∃ p : Addr, vs = [.ref p] ∧ My.PoolAt H p ∧ ∀ a H', SameP p H H' → My.PoolAt H' p → Gd H' a → a ≠ p → Q (.ref a) H'
theorem nm1 {x : V} (h : x ∈ [V.str ("a" : Str), V.str ("home" : Str), V.str ("x9" : Str), V.str ("none" : Str)]) : Nm x := by
  simp only [List.mem_cons, List.not_mem_nil, or_false] at h
  rcases h with rfl | rfl | rfl | rfl
  · exact ⟨("a" : Str).cps.toList, rfl, by decide +kernel, by decide +kernel, by decide +kernel, by decide +kernel⟩
  · exact ⟨("home" : Str).cps.toList, rfl, by decide +kernel, by decide +kernel, by decide +kernel, by decide +kernel⟩
  · exact ⟨("x9" : Str).cps.toList, rfl, by decide +kernel, by decide +kernel, by decide +kernel, by decide +kernel⟩
  · exact ⟨("none" : Str).cps.toList, rfl, by decide +kernel, by decide +kernel, by decide +kernel, by decide +kernel⟩
theorem nm2 {x : V} (h : x ∈ [V.str ("b" : Str), V.str ("zz" : Str)]) : Nm x := by
  simp only [List.mem_cons, List.not_mem_nil, or_false] at h
  rcases h with rfl | rfl
  · exact ⟨("b" : Str).cps.toList, rfl, by decide +kernel, by decide +kernel, by decide +kernel, by decide +kernel⟩
  · exact ⟨("zz" : Str).cps.toList, rfl, by decide +kernel, by decide +kernel, by decide +kernel, by decide +kernel⟩
theorem dat {x : V} (h : x ∈ [V.str ("" : Str), V.str ("x" : Str), V.str ("two words" : Str), V.str (" " : Str), V.str ("a  b " : Str), V.str ("7" : Str), V.str ("none" : Str)]) : ∃ w : W, x = .str (S w) ∧ w.all okS = true ∧ w.length ≤ 100 := by
  simp only [List.mem_cons, List.not_mem_nil, or_false] at h
  rcases h with rfl | rfl | rfl | rfl | rfl | rfl | rfl
  · exact ⟨("" : Str).cps.toList, rfl, by decide +kernel, by decide +kernel⟩
  · exact ⟨("x" : Str).cps.toList, rfl, by decide +kernel, by decide +kernel⟩
  · exact ⟨("two words" : Str).cps.toList, rfl, by decide +kernel, by decide +kernel⟩
  · exact ⟨(" " : Str).cps.toList, rfl, by decide +kernel, by decide +kernel⟩
  · exact ⟨("a  b " : Str).cps.toList, rfl, by decide +kernel, by decide +kernel⟩
  · exact ⟨("7" : Str).cps.toList, rfl, by decide +kernel, by decide +kernel⟩
  · exact ⟨("none" : Str).cps.toList, rfl, by decide +kernel, by decide +kernel⟩
section
variable {P : Program} {w : World} {K : PySem.W.Frag} {mg : Str → Option Value} {base : Heap} {t1 t2 : Tok}
abbrev CDr (P : Program) (w : World) (K : PySem.W.Frag) (mg : Str → Option Value) (base : Heap) : Prop := My.Cl P w K mg base "_law_draw" ["_law_pool_here", "_law_many"] 1 sp_drawW
abbrev CCh (P : Program) (w : World) (K : PySem.W.Frag) (mg : Str → Option Value) (base : Heap) : Prop := My.Cl P w K mg base "_law_choose" ["_law_pool_here", "_law_items"] 2 sp_choose
theorem ok_law_op (T : Tx K mg t1 t2) {fd : FuncData} (F : Fd K d_law_operation fd) (C_law_draw : CDr P w K mg base) (C_law_choose : CCh P w K mg base) :
    FnOk P w K mg base CX0 3 (He.fAd K d_law_operation.at_) fd ["_law_pool_here"] sp_law_op := by
  refine F.ok sc_law_operation (fun vs H Q E h => ?_) (fun cdv A outer s H vs Q E hr h => ?_)
  · obtain ⟨p, rfl, _⟩ := h
    rfl
  · obtain ⟨p, rfl, P0, q⟩ := h
    refine ⟨_, PSs.nox ((pss_cons (ps_par (i := 1) (j := 2) (by rfl) sc_law_operation.nd rfl rfl (by decide) rfl rfl (pa_cons (My.pe_cl C_law_choose (hr.mono (by decide)) rfl (pa_cons (pv 0) (pa_cons (pe_lst (pa_cons pe_str (pa_cons pe_str (pa_cons pe_str (pa_cons pe_str pa_nil))))) pa_nil))) (pa_cons (My.pe_cl C_law_choose (hr.mono (by decide)) rfl (pa_cons (pv 0) (pa_cons (pe_lst (pa_cons pe_str (pa_cons pe_str pa_nil))) pa_nil))) pa_nil)) (by rfl))
  (pss_cons (ps_set (i := 3) sc_law_operation.nd rfl (Or.inl rfl) (My.pe_cl C_law_draw (hr.mono (by decide)) rfl (pa_cons (pv 0) (pa_cons pe_int pa_nil))))
  (pss_cons (ps_set (i := 4) sc_law_operation.nd rfl (Or.inl rfl) (My.pe_cl C_law_choose (hr.mono (by decide)) rfl (pa_cons (pv 0) (pa_cons (pe_lst (pa_cons pe_str (pa_cons pe_str (pa_cons pe_str (pa_cons pe_str (pa_cons pe_str (pa_cons pe_str (pa_cons pe_str pa_nil)))))))) pa_nil))))
  (pss_cons (ps_set (i := 5) sc_law_operation.nd rfl (Or.inl rfl) (pe_lst (pa_cons (pe_tup (pa_cons pe_str (pa_cons (pv 1) (pa_cons (pv 3) pa_nil)))) (pa_cons (pe_tup (pa_cons pe_str (pa_cons (pv 1) (pa_cons (pv 3) (pa_cons (pv 4) pa_nil))))) (pa_cons (pe_tup (pa_cons pe_str (pa_cons (pv 1) (pa_cons (pv 3) (pa_cons (My.pe_cl C_law_draw (hr.mono (by decide)) rfl (pa_cons (pv 0) (pa_cons (pe_op op_pow pe_int pe_int) pa_nil))) pa_nil))))) pa_nil)))))
  (pss_cons (ps_set (i := 5) sc_law_operation.nd rfl (Or.inl rfl) (pe_op op_cat (pv 5) (pe_lst (pa_cons (pe_tup (pa_cons pe_str (pa_cons (pv 1) (pa_cons (pv 3) pa_nil)))) (pa_cons (pe_tup (pa_cons pe_str (pa_cons (pv 1) (pa_cons (pv 2) pa_nil)))) (pa_cons (pe_tup (pa_cons pe_str (pa_cons (pv 2) (pa_cons (pv 1) pa_nil)))) (pa_cons (pe_tup (pa_cons pe_str (pa_cons (pv 1) (pa_cons (pv 2) pa_nil)))) pa_nil)))))))
  (pss_cons (ps_set (i := 5) sc_law_operation.nd rfl (Or.inl rfl) (pe_op op_cat (pv 5) (pe_lst (pa_cons (pe_tup (pa_cons pe_str (pa_cons (pv 1) pa_nil))) (pa_cons (pe_tup (pa_cons pe_str (pa_cons (pv 1) (pa_cons (pv 2) pa_nil)))) (pa_cons (pe_tup (pa_cons pe_str (pa_cons (pv 1) (pa_cons (pv 3) pa_nil)))) (pa_cons (pe_tup (pa_cons pe_str (pa_cons (pv 1) (pa_cons pe_non pa_nil)))) pa_nil)))))))
  (pss_one (ps_ret (pe_ix ix_list (pv 5) (My.pe_cl C_law_draw (hr.mono (by decide)) rfl (pa_cons (pv 0) (pa_cons pe_int pa_nil))) (fun _ _ => rfl))))))))))), ?_⟩
    refine My.x_start (σ := [some (V.ref p), none, none, none, none, none]) rfl ?_
    try dsimp only [cxOf, Cx.nox]
    have S0 := SameP.refl p H
    walk_at "sx"
    refine ⟨Nat.le_of_ble_eq_true rfl, fun lx1 hx1 => ?_⟩
    have nx1 := P0.ne hx1
    replace S0 := S0.new (o := .lst [V.str ("a" : Str), V.str ("home" : Str), V.str ("x9" : Str), V.str ("none" : Str)]) hx1
    replace P0 := P0.new (o := .lst [V.str ("a" : Str), V.str ("home" : Str), V.str ("x9" : Str), V.str ("none" : Str)]) hx1
    have ex1 : upd H lx1 (.lst [V.str ("a" : Str), V.str ("home" : Str), V.str ("x9" : Str), V.str ("none" : Str)]) lx1 = _ := upd_same
    generalize upd H lx1 (.lst [V.str ("a" : Str), V.str ("home" : Str), V.str ("x9" : Str), V.str ("none" : Str)]) = H1 at S0 P0 ex1  ⊢
    clear hx1
    walk_at "sx"
    refine ⟨p, lx1, _, rfl, P0, ex1, nx1.symm, by decide, by decide, fun x1 H2 mx1 P1 B1 => ?_⟩
    replace S0 := S0.but B1
    replace P0 := P1
    clear P1 B1 ex1
    walk_at "sx"
    refine ⟨Nat.le_of_ble_eq_true rfl, fun lx2 hx2 => ?_⟩
    have nx2 := P0.ne hx2
    replace S0 := S0.new (o := .lst [V.str ("b" : Str), V.str ("zz" : Str)]) hx2
    replace P0 := P0.new (o := .lst [V.str ("b" : Str), V.str ("zz" : Str)]) hx2
    have ex2 : upd H2 lx2 (.lst [V.str ("b" : Str), V.str ("zz" : Str)]) lx2 = _ := upd_same
    generalize upd H2 lx2 (.lst [V.str ("b" : Str), V.str ("zz" : Str)]) = H3 at S0 P0 ex2  ⊢
    clear hx2
    walk_at "sx"
    refine ⟨p, lx2, _, rfl, P0, ex2, nx2.symm, by decide, by decide, fun x2 H4 mx2 P1 B1 => ?_⟩
    replace S0 := S0.but B1
    replace P0 := P1
    clear P1 B1 ex2
    obtain ⟨w1, rfl, v1, u1⟩ := nm1 mx1
    obtain ⟨w2, rfl, v2, u2⟩ := nm2 mx2
    walk_at "sx"
    refine x_drawW P0 (by decide) (by decide +kernel) fun dk H5 zk yk P1 B1 => ?_
    replace S0 := S0.but B1
    replace P0 := P1
    clear P1 B1
    obtain ⟨k, rfl⟩ := Int.eq_ofNat_of_zero_le zk
    walk_at "sx"
    refine ⟨Nat.le_of_ble_eq_true rfl, fun lx3 hx3 => ?_⟩
    have nx3 := P0.ne hx3
    replace S0 := S0.new (o := .lst [V.str ("" : Str), V.str ("x" : Str), V.str ("two words" : Str), V.str (" " : Str), V.str ("a  b " : Str), V.str ("7" : Str), V.str ("none" : Str)]) hx3
    replace P0 := P0.new (o := .lst [V.str ("" : Str), V.str ("x" : Str), V.str ("two words" : Str), V.str (" " : Str), V.str ("a  b " : Str), V.str ("7" : Str), V.str ("none" : Str)]) hx3
    have ex3 : upd H5 lx3 (.lst [V.str ("" : Str), V.str ("x" : Str), V.str ("two words" : Str), V.str (" " : Str), V.str ("a  b " : Str), V.str ("7" : Str), V.str ("none" : Str)]) lx3 = _ := upd_same
    generalize upd H5 lx3 (.lst [V.str ("" : Str), V.str ("x" : Str), V.str ("two words" : Str), V.str (" " : Str), V.str ("a  b " : Str), V.str ("7" : Str), V.str ("none" : Str)]) = H6 at S0 P0 ex3  ⊢
    clear hx3
    walk_at "sx"
    refine ⟨p, lx3, _, rfl, P0, ex3, nx3.symm, by decide, by decide, fun x3 H7 mx3 P1 B1 => ?_⟩
    replace S0 := S0.but B1
    replace P0 := P1
    clear P1 B1 ex3
    obtain ⟨w3, rfl, v3, u3⟩ := dat mx3
    have fk : ∃ j : Nat, j < 10 ^ 30 ∧ TL.numL k = TL.numL j := ⟨k, Nat.lt_of_lt_of_le (Int.ofNat_lt.mp yk) (by decide), rfl⟩
    clear zk mx1 mx2 mx3
    walk_at "sx"
    refine ⟨Nat.le_of_ble_eq_true rfl, fun ag0 hg0 => ?_⟩
    have ng0 := (P0.ne hg0).symm
    have g0 : Gd (upd H7 ag0 (.tup [V.str ("create" : Str), V.str (S w1), V.int (k : Int)])) ag0 := Gd.mk (z := ("create" : Str)) (is := [.s w1, .n (TL.numL k)]) ["name", "size"] (by simp only [List.map_cons, List.map_nil, itV_num]; rfl) (by decide +kernel) (.cons u1 (.cons fk .nil)) (al_cons v1 (al_cons (prn_num k) rfl))
    replace S0 := S0.new (o := .tup [V.str ("create" : Str), V.str (S w1), V.int (k : Int)]) hg0
    replace P0 := P0.new (o := .tup [V.str ("create" : Str), V.str (S w1), V.int (k : Int)]) hg0
    generalize upd H7 ag0 (.tup [V.str ("create" : Str), V.str (S w1), V.int (k : Int)]) = H8 at S0 P0 g0 ⊢
    clear hg0
    walk_at "sx"
    refine ⟨Nat.le_of_ble_eq_true rfl, fun ag1 hg1 => ?_⟩
    have ng1 := (P0.ne hg1).symm
    have g1 : Gd (upd H8 ag1 (.tup [V.str ("write" : Str), V.str (S w1), V.int (k : Int), V.str (S w3)])) ag1 := Gd.mk (z := ("write" : Str)) (is := [.s w1, .n (TL.numL k), .s w3]) ["name", "index", "data"] (by simp only [List.map_cons, List.map_nil, itV_num]; rfl) (by decide +kernel) (.cons u1 (.cons fk (.cons u3 .nil))) (al_cons v1 (al_cons (prn_num k) (al_cons v3 rfl)))
    replace S0 := S0.new (o := .tup [V.str ("write" : Str), V.str (S w1), V.int (k : Int), V.str (S w3)]) hg1
    replace P0 := P0.new (o := .tup [V.str ("write" : Str), V.str (S w1), V.int (k : Int), V.str (S w3)]) hg1
    replace g0 := g0.new (o := .tup [V.str ("write" : Str), V.str (S w1), V.int (k : Int), V.str (S w3)]) hg1
    generalize upd H8 ag1 (.tup [V.str ("write" : Str), V.str (S w1), V.int (k : Int), V.str (S w3)]) = H9 at S0 P0 g0 g1 ⊢
    clear hg1
    walk_at "sx"
    refine My.x_i (by unfold L2.CPow; omega) ?_
    walk_at "sx"
    refine x_drawW P0 (by decide +kernel) (by decide +kernel) fun dj H10 zj yj P1 B1 => ?_
    replace S0 := S0.but B1
    replace g0 := g0.but B1 ng0
    replace g1 := g1.but B1 ng1
    replace P0 := P1
    clear P1 B1
    obtain ⟨j, rfl⟩ := Int.eq_ofNat_of_zero_le zj
    have fj : ∃ i : Nat, i < 10 ^ 30 ∧ TL.numL j = TL.numL i := ⟨j, Int.ofNat_lt.mp (show ((j : Nat) : Int) < ((10 ^ 30 : Nat) : Int) from yj), rfl⟩
    walk_at "sx"
    refine ⟨Nat.le_of_ble_eq_true rfl, fun ag2 hg2 => ?_⟩
    have ng2 := (P0.ne hg2).symm
    have g2 : Gd (upd H10 ag2 (.tup [V.str ("trim" : Str), V.str (S w1), V.int (k : Int), V.int (j : Int)])) ag2 := Gd.mk (z := ("trim" : Str)) (is := [.s w1, .n (TL.numL k), .n (TL.numL j)]) ["name", "start", "count"] (by simp only [List.map_cons, List.map_nil, itV_num]; rfl) (by decide +kernel) (.cons u1 (.cons fk (.cons fj .nil))) (al_cons v1 (al_cons (prn_num k) (al_cons (prn_num j) rfl)))
    replace S0 := S0.new (o := .tup [V.str ("trim" : Str), V.str (S w1), V.int (k : Int), V.int (j : Int)]) hg2
    replace P0 := P0.new (o := .tup [V.str ("trim" : Str), V.str (S w1), V.int (k : Int), V.int (j : Int)]) hg2
    replace g0 := g0.new (o := .tup [V.str ("trim" : Str), V.str (S w1), V.int (k : Int), V.int (j : Int)]) hg2
    replace g1 := g1.new (o := .tup [V.str ("trim" : Str), V.str (S w1), V.int (k : Int), V.int (j : Int)]) hg2
    generalize upd H10 ag2 (.tup [V.str ("trim" : Str), V.str (S w1), V.int (k : Int), V.int (j : Int)]) = H11 at S0 P0 g0 g1 g2 ⊢
    clear hg2
    walk_at "sx"
    refine ⟨Nat.le_of_ble_eq_true rfl, fun r1 hr1 => ?_⟩
    have nr1 := (P0.ne hr1).symm
    replace S0 := S0.new (o := .lst [V.ref ag0, V.ref ag1, V.ref ag2]) hr1
    replace P0 := P0.new (o := .lst [V.ref ag0, V.ref ag1, V.ref ag2]) hr1
    replace g0 := g0.new (o := .lst [V.ref ag0, V.ref ag1, V.ref ag2]) hr1
    replace g1 := g1.new (o := .lst [V.ref ag0, V.ref ag1, V.ref ag2]) hr1
    replace g2 := g2.new (o := .lst [V.ref ag0, V.ref ag1, V.ref ag2]) hr1
    have er1 : upd H11 r1 (.lst [V.ref ag0, V.ref ag1, V.ref ag2]) r1 = _ := upd_same
    generalize upd H11 r1 (.lst [V.ref ag0, V.ref ag1, V.ref ag2]) = H12 at S0 P0 er1 g0 g1 g2 ⊢
    clear hr1
    walk_at "sx"
    refine ⟨Nat.le_of_ble_eq_true rfl, fun ag3 hg3 => ?_⟩
    have ng3 := (P0.ne hg3).symm
    have g3 : Gd (upd H12 ag3 (.tup [V.str ("resize" : Str), V.str (S w1), V.int (k : Int)])) ag3 := Gd.mk (z := ("resize" : Str)) (is := [.s w1, .n (TL.numL k)]) ["name", "size"] (by simp only [List.map_cons, List.map_nil, itV_num]; rfl) (by decide +kernel) (.cons u1 (.cons fk .nil)) (al_cons v1 (al_cons (prn_num k) rfl))
    replace S0 := S0.new (o := .tup [V.str ("resize" : Str), V.str (S w1), V.int (k : Int)]) hg3
    replace P0 := P0.new (o := .tup [V.str ("resize" : Str), V.str (S w1), V.int (k : Int)]) hg3
    replace g0 := g0.new (o := .tup [V.str ("resize" : Str), V.str (S w1), V.int (k : Int)]) hg3
    replace g1 := g1.new (o := .tup [V.str ("resize" : Str), V.str (S w1), V.int (k : Int)]) hg3
    replace g2 := g2.new (o := .tup [V.str ("resize" : Str), V.str (S w1), V.int (k : Int)]) hg3
    replace er1 := (upd_ne (H := H12) (o := .tup [V.str ("resize" : Str), V.str (S w1), V.int (k : Int)]) (ne_of_none er1 hg3)).trans er1
    generalize upd H12 ag3 (.tup [V.str ("resize" : Str), V.str (S w1), V.int (k : Int)]) = H13 at S0 P0 g0 g1 g2 er1 g3 ⊢
    clear hg3
    walk_at "sx"
    refine ⟨Nat.le_of_ble_eq_true rfl, fun ag4 hg4 => ?_⟩
    have ng4 := (P0.ne hg4).symm
    have g4 : Gd (upd H13 ag4 (.tup [V.str ("snapshot" : Str), V.str (S w1), V.str (S w2)])) ag4 := Gd.mk (z := ("snapshot" : Str)) (is := [.s w1, .s w2]) ["name", "snapshot"] (by simp only [List.map_cons, List.map_nil, itV_num]; rfl) (by decide +kernel) (.cons u1 (.cons u2 .nil)) (al_cons v1 (al_cons v2 rfl))
    replace S0 := S0.new (o := .tup [V.str ("snapshot" : Str), V.str (S w1), V.str (S w2)]) hg4
    replace P0 := P0.new (o := .tup [V.str ("snapshot" : Str), V.str (S w1), V.str (S w2)]) hg4
    replace g0 := g0.new (o := .tup [V.str ("snapshot" : Str), V.str (S w1), V.str (S w2)]) hg4
    replace g1 := g1.new (o := .tup [V.str ("snapshot" : Str), V.str (S w1), V.str (S w2)]) hg4
    replace g2 := g2.new (o := .tup [V.str ("snapshot" : Str), V.str (S w1), V.str (S w2)]) hg4
    replace g3 := g3.new (o := .tup [V.str ("snapshot" : Str), V.str (S w1), V.str (S w2)]) hg4
    replace er1 := (upd_ne (H := H13) (o := .tup [V.str ("snapshot" : Str), V.str (S w1), V.str (S w2)]) (ne_of_none er1 hg4)).trans er1
    generalize upd H13 ag4 (.tup [V.str ("snapshot" : Str), V.str (S w1), V.str (S w2)]) = H14 at S0 P0 g0 g1 g2 g3 er1 g4 ⊢
    clear hg4
    walk_at "sx"
    refine ⟨Nat.le_of_ble_eq_true rfl, fun ag5 hg5 => ?_⟩
    have ng5 := (P0.ne hg5).symm
    have g5 : Gd (upd H14 ag5 (.tup [V.str ("clone" : Str), V.str (S w2), V.str (S w1)])) ag5 := Gd.mk (z := ("clone" : Str)) (is := [.s w2, .s w1]) ["snapshot", "name"] (by simp only [List.map_cons, List.map_nil, itV_num]; rfl) (by decide +kernel) (.cons u2 (.cons u1 .nil)) (al_cons v2 (al_cons v1 rfl))
    replace S0 := S0.new (o := .tup [V.str ("clone" : Str), V.str (S w2), V.str (S w1)]) hg5
    replace P0 := P0.new (o := .tup [V.str ("clone" : Str), V.str (S w2), V.str (S w1)]) hg5
    replace g0 := g0.new (o := .tup [V.str ("clone" : Str), V.str (S w2), V.str (S w1)]) hg5
    replace g1 := g1.new (o := .tup [V.str ("clone" : Str), V.str (S w2), V.str (S w1)]) hg5
    replace g2 := g2.new (o := .tup [V.str ("clone" : Str), V.str (S w2), V.str (S w1)]) hg5
    replace g3 := g3.new (o := .tup [V.str ("clone" : Str), V.str (S w2), V.str (S w1)]) hg5
    replace g4 := g4.new (o := .tup [V.str ("clone" : Str), V.str (S w2), V.str (S w1)]) hg5
    replace er1 := (upd_ne (H := H14) (o := .tup [V.str ("clone" : Str), V.str (S w2), V.str (S w1)]) (ne_of_none er1 hg5)).trans er1
    generalize upd H14 ag5 (.tup [V.str ("clone" : Str), V.str (S w2), V.str (S w1)]) = H15 at S0 P0 g0 g1 g2 g3 g4 er1 g5 ⊢
    clear hg5
    walk_at "sx"
    refine ⟨Nat.le_of_ble_eq_true rfl, fun ag6 hg6 => ?_⟩
    have ng6 := (P0.ne hg6).symm
    have g6 : Gd (upd H15 ag6 (.tup [V.str ("rollback" : Str), V.str (S w1), V.str (S w2)])) ag6 := Gd.mk (z := ("rollback" : Str)) (is := [.s w1, .s w2]) ["name", "snapshot"] (by simp only [List.map_cons, List.map_nil, itV_num]; rfl) (by decide +kernel) (.cons u1 (.cons u2 .nil)) (al_cons v1 (al_cons v2 rfl))
    replace S0 := S0.new (o := .tup [V.str ("rollback" : Str), V.str (S w1), V.str (S w2)]) hg6
    replace P0 := P0.new (o := .tup [V.str ("rollback" : Str), V.str (S w1), V.str (S w2)]) hg6
    replace g0 := g0.new (o := .tup [V.str ("rollback" : Str), V.str (S w1), V.str (S w2)]) hg6
    replace g1 := g1.new (o := .tup [V.str ("rollback" : Str), V.str (S w1), V.str (S w2)]) hg6
    replace g2 := g2.new (o := .tup [V.str ("rollback" : Str), V.str (S w1), V.str (S w2)]) hg6
    replace g3 := g3.new (o := .tup [V.str ("rollback" : Str), V.str (S w1), V.str (S w2)]) hg6
    replace g4 := g4.new (o := .tup [V.str ("rollback" : Str), V.str (S w1), V.str (S w2)]) hg6
    replace g5 := g5.new (o := .tup [V.str ("rollback" : Str), V.str (S w1), V.str (S w2)]) hg6
    replace er1 := (upd_ne (H := H15) (o := .tup [V.str ("rollback" : Str), V.str (S w1), V.str (S w2)]) (ne_of_none er1 hg6)).trans er1
    generalize upd H15 ag6 (.tup [V.str ("rollback" : Str), V.str (S w1), V.str (S w2)]) = H16 at S0 P0 g0 g1 g2 g3 g4 g5 er1 g6 ⊢
    clear hg6
    walk_at "sx"
    refine ⟨Nat.le_of_ble_eq_true rfl, fun r2 hr2 => ?_⟩
    have nr2 := (P0.ne hr2).symm
    replace S0 := S0.new (o := .lst [V.ref ag3, V.ref ag4, V.ref ag5, V.ref ag6]) hr2
    replace P0 := P0.new (o := .lst [V.ref ag3, V.ref ag4, V.ref ag5, V.ref ag6]) hr2
    replace g0 := g0.new (o := .lst [V.ref ag3, V.ref ag4, V.ref ag5, V.ref ag6]) hr2
    replace g1 := g1.new (o := .lst [V.ref ag3, V.ref ag4, V.ref ag5, V.ref ag6]) hr2
    replace g2 := g2.new (o := .lst [V.ref ag3, V.ref ag4, V.ref ag5, V.ref ag6]) hr2
    replace g3 := g3.new (o := .lst [V.ref ag3, V.ref ag4, V.ref ag5, V.ref ag6]) hr2
    replace g4 := g4.new (o := .lst [V.ref ag3, V.ref ag4, V.ref ag5, V.ref ag6]) hr2
    replace g5 := g5.new (o := .lst [V.ref ag3, V.ref ag4, V.ref ag5, V.ref ag6]) hr2
    replace g6 := g6.new (o := .lst [V.ref ag3, V.ref ag4, V.ref ag5, V.ref ag6]) hr2
    replace er1 := (upd_ne (H := H16) (o := .lst [V.ref ag3, V.ref ag4, V.ref ag5, V.ref ag6]) (ne_of_none er1 hr2)).trans er1
    have er2 : upd H16 r2 (.lst [V.ref ag3, V.ref ag4, V.ref ag5, V.ref ag6]) r2 = _ := upd_same
    generalize upd H16 r2 (.lst [V.ref ag3, V.ref ag4, V.ref ag5, V.ref ag6]) = H17 at S0 P0 er2 g0 g1 g2 g3 g4 g5 g6 er1 ⊢
    clear hr2
    walk_at "sx"
    refine My.x_cat er1 er2 (Nat.le_of_ble_eq_true rfl) fun cr2 hcr2 => ?_
    have ncr2 := (P0.ne hcr2).symm
    replace S0 := S0.new (o := .lst [V.ref ag0, V.ref ag1, V.ref ag2, V.ref ag3, V.ref ag4, V.ref ag5, V.ref ag6]) hcr2
    replace P0 := P0.new (o := .lst [V.ref ag0, V.ref ag1, V.ref ag2, V.ref ag3, V.ref ag4, V.ref ag5, V.ref ag6]) hcr2
    replace g0 := g0.new (o := .lst [V.ref ag0, V.ref ag1, V.ref ag2, V.ref ag3, V.ref ag4, V.ref ag5, V.ref ag6]) hcr2
    replace g1 := g1.new (o := .lst [V.ref ag0, V.ref ag1, V.ref ag2, V.ref ag3, V.ref ag4, V.ref ag5, V.ref ag6]) hcr2
    replace g2 := g2.new (o := .lst [V.ref ag0, V.ref ag1, V.ref ag2, V.ref ag3, V.ref ag4, V.ref ag5, V.ref ag6]) hcr2
    replace g3 := g3.new (o := .lst [V.ref ag0, V.ref ag1, V.ref ag2, V.ref ag3, V.ref ag4, V.ref ag5, V.ref ag6]) hcr2
    replace g4 := g4.new (o := .lst [V.ref ag0, V.ref ag1, V.ref ag2, V.ref ag3, V.ref ag4, V.ref ag5, V.ref ag6]) hcr2
    replace g5 := g5.new (o := .lst [V.ref ag0, V.ref ag1, V.ref ag2, V.ref ag3, V.ref ag4, V.ref ag5, V.ref ag6]) hcr2
    replace g6 := g6.new (o := .lst [V.ref ag0, V.ref ag1, V.ref ag2, V.ref ag3, V.ref ag4, V.ref ag5, V.ref ag6]) hcr2
    have ecr2 : upd H17 cr2 (.lst [V.ref ag0, V.ref ag1, V.ref ag2, V.ref ag3, V.ref ag4, V.ref ag5, V.ref ag6]) cr2 = _ := upd_same
    show gName 5 (V.ref cr2) _ (upd H17 cr2 (.lst [V.ref ag0, V.ref ag1, V.ref ag2, V.ref ag3, V.ref ag4, V.ref ag5, V.ref ag6])) _
    generalize upd H17 cr2 (.lst [V.ref ag0, V.ref ag1, V.ref ag2, V.ref ag3, V.ref ag4, V.ref ag5, V.ref ag6]) = H18 at S0 P0 ecr2 g0 g1 g2 g3 g4 g5 g6 ⊢
    clear hcr2 er2 er1
    walk_at "sx"
    refine ⟨Nat.le_of_ble_eq_true rfl, fun ag7 hg7 => ?_⟩
    have ng7 := (P0.ne hg7).symm
    have g7 : Gd (upd H18 ag7 (.tup [V.str ("remove" : Str), V.str (S w1)])) ag7 := Gd.mk (z := ("remove" : Str)) (is := [.s w1]) ["name"] (by simp only [List.map_cons, List.map_nil, itV_num]; rfl) (by decide +kernel) (.cons u1 .nil) (al_cons v1 rfl)
    replace S0 := S0.new (o := .tup [V.str ("remove" : Str), V.str (S w1)]) hg7
    replace P0 := P0.new (o := .tup [V.str ("remove" : Str), V.str (S w1)]) hg7
    replace g0 := g0.new (o := .tup [V.str ("remove" : Str), V.str (S w1)]) hg7
    replace g1 := g1.new (o := .tup [V.str ("remove" : Str), V.str (S w1)]) hg7
    replace g2 := g2.new (o := .tup [V.str ("remove" : Str), V.str (S w1)]) hg7
    replace g3 := g3.new (o := .tup [V.str ("remove" : Str), V.str (S w1)]) hg7
    replace g4 := g4.new (o := .tup [V.str ("remove" : Str), V.str (S w1)]) hg7
    replace g5 := g5.new (o := .tup [V.str ("remove" : Str), V.str (S w1)]) hg7
    replace g6 := g6.new (o := .tup [V.str ("remove" : Str), V.str (S w1)]) hg7
    replace ecr2 := (upd_ne (H := H18) (o := .tup [V.str ("remove" : Str), V.str (S w1)]) (ne_of_none ecr2 hg7)).trans ecr2
    generalize upd H18 ag7 (.tup [V.str ("remove" : Str), V.str (S w1)]) = H19 at S0 P0 g0 g1 g2 g3 g4 g5 g6 ecr2 g7 ⊢
    clear hg7
    walk_at "sx"
    refine ⟨Nat.le_of_ble_eq_true rfl, fun ag8 hg8 => ?_⟩
    have ng8 := (P0.ne hg8).symm
    have g8 : Gd (upd H19 ag8 (.tup [V.str ("rename" : Str), V.str (S w1), V.str (S w2)])) ag8 := Gd.mk (z := ("rename" : Str)) (is := [.s w1, .s w2]) ["name", "other"] (by simp only [List.map_cons, List.map_nil, itV_num]; rfl) (by decide +kernel) (.cons u1 (.cons u2 .nil)) (al_cons v1 (al_cons v2 rfl))
    replace S0 := S0.new (o := .tup [V.str ("rename" : Str), V.str (S w1), V.str (S w2)]) hg8
    replace P0 := P0.new (o := .tup [V.str ("rename" : Str), V.str (S w1), V.str (S w2)]) hg8
    replace g0 := g0.new (o := .tup [V.str ("rename" : Str), V.str (S w1), V.str (S w2)]) hg8
    replace g1 := g1.new (o := .tup [V.str ("rename" : Str), V.str (S w1), V.str (S w2)]) hg8
    replace g2 := g2.new (o := .tup [V.str ("rename" : Str), V.str (S w1), V.str (S w2)]) hg8
    replace g3 := g3.new (o := .tup [V.str ("rename" : Str), V.str (S w1), V.str (S w2)]) hg8
    replace g4 := g4.new (o := .tup [V.str ("rename" : Str), V.str (S w1), V.str (S w2)]) hg8
    replace g5 := g5.new (o := .tup [V.str ("rename" : Str), V.str (S w1), V.str (S w2)]) hg8
    replace g6 := g6.new (o := .tup [V.str ("rename" : Str), V.str (S w1), V.str (S w2)]) hg8
    replace g7 := g7.new (o := .tup [V.str ("rename" : Str), V.str (S w1), V.str (S w2)]) hg8
    replace ecr2 := (upd_ne (H := H19) (o := .tup [V.str ("rename" : Str), V.str (S w1), V.str (S w2)]) (ne_of_none ecr2 hg8)).trans ecr2
    generalize upd H19 ag8 (.tup [V.str ("rename" : Str), V.str (S w1), V.str (S w2)]) = H20 at S0 P0 g0 g1 g2 g3 g4 g5 g6 g7 ecr2 g8 ⊢
    clear hg8
    walk_at "sx"
    refine ⟨Nat.le_of_ble_eq_true rfl, fun ag9 hg9 => ?_⟩
    have ng9 := (P0.ne hg9).symm
    have g9 : Gd (upd H20 ag9 (.tup [V.str ("allow" : Str), V.str (S w1), V.int (k : Int)])) ag9 := Gd.mk (z := ("allow" : Str)) (is := [.s w1, .n (TL.numL k)]) ["name", "blocks"] (by simp only [List.map_cons, List.map_nil, itV_num]; rfl) (by decide +kernel) (.cons u1 (.cons fk .nil)) (al_cons v1 (al_cons (prn_num k) rfl))
    replace S0 := S0.new (o := .tup [V.str ("allow" : Str), V.str (S w1), V.int (k : Int)]) hg9
    replace P0 := P0.new (o := .tup [V.str ("allow" : Str), V.str (S w1), V.int (k : Int)]) hg9
    replace g0 := g0.new (o := .tup [V.str ("allow" : Str), V.str (S w1), V.int (k : Int)]) hg9
    replace g1 := g1.new (o := .tup [V.str ("allow" : Str), V.str (S w1), V.int (k : Int)]) hg9
    replace g2 := g2.new (o := .tup [V.str ("allow" : Str), V.str (S w1), V.int (k : Int)]) hg9
    replace g3 := g3.new (o := .tup [V.str ("allow" : Str), V.str (S w1), V.int (k : Int)]) hg9
    replace g4 := g4.new (o := .tup [V.str ("allow" : Str), V.str (S w1), V.int (k : Int)]) hg9
    replace g5 := g5.new (o := .tup [V.str ("allow" : Str), V.str (S w1), V.int (k : Int)]) hg9
    replace g6 := g6.new (o := .tup [V.str ("allow" : Str), V.str (S w1), V.int (k : Int)]) hg9
    replace g7 := g7.new (o := .tup [V.str ("allow" : Str), V.str (S w1), V.int (k : Int)]) hg9
    replace g8 := g8.new (o := .tup [V.str ("allow" : Str), V.str (S w1), V.int (k : Int)]) hg9
    replace ecr2 := (upd_ne (H := H20) (o := .tup [V.str ("allow" : Str), V.str (S w1), V.int (k : Int)]) (ne_of_none ecr2 hg9)).trans ecr2
    generalize upd H20 ag9 (.tup [V.str ("allow" : Str), V.str (S w1), V.int (k : Int)]) = H21 at S0 P0 g0 g1 g2 g3 g4 g5 g6 g7 g8 ecr2 g9 ⊢
    clear hg9
    walk_at "sx"
    refine ⟨Nat.le_of_ble_eq_true rfl, fun ag10 hg10 => ?_⟩
    have ng10 := (P0.ne hg10).symm
    have g10 : Gd (upd H21 ag10 (.tup [V.str ("allow" : Str), V.str (S w1), V.non])) ag10 := Gd.mk (z := ("allow" : Str)) (is := [.s w1, .non]) ["name", "blocks"] (by simp only [List.map_cons, List.map_nil, itV_num]; rfl) (by decide +kernel) (.cons u1 (.cons True.intro .nil)) (al_cons v1 (al_cons (by decide) rfl))
    replace S0 := S0.new (o := .tup [V.str ("allow" : Str), V.str (S w1), V.non]) hg10
    replace P0 := P0.new (o := .tup [V.str ("allow" : Str), V.str (S w1), V.non]) hg10
    replace g0 := g0.new (o := .tup [V.str ("allow" : Str), V.str (S w1), V.non]) hg10
    replace g1 := g1.new (o := .tup [V.str ("allow" : Str), V.str (S w1), V.non]) hg10
    replace g2 := g2.new (o := .tup [V.str ("allow" : Str), V.str (S w1), V.non]) hg10
    replace g3 := g3.new (o := .tup [V.str ("allow" : Str), V.str (S w1), V.non]) hg10
    replace g4 := g4.new (o := .tup [V.str ("allow" : Str), V.str (S w1), V.non]) hg10
    replace g5 := g5.new (o := .tup [V.str ("allow" : Str), V.str (S w1), V.non]) hg10
    replace g6 := g6.new (o := .tup [V.str ("allow" : Str), V.str (S w1), V.non]) hg10
    replace g7 := g7.new (o := .tup [V.str ("allow" : Str), V.str (S w1), V.non]) hg10
    replace g8 := g8.new (o := .tup [V.str ("allow" : Str), V.str (S w1), V.non]) hg10
    replace g9 := g9.new (o := .tup [V.str ("allow" : Str), V.str (S w1), V.non]) hg10
    replace ecr2 := (upd_ne (H := H21) (o := .tup [V.str ("allow" : Str), V.str (S w1), V.non]) (ne_of_none ecr2 hg10)).trans ecr2
    generalize upd H21 ag10 (.tup [V.str ("allow" : Str), V.str (S w1), V.non]) = H22 at S0 P0 g0 g1 g2 g3 g4 g5 g6 g7 g8 g9 ecr2 g10 ⊢
    clear hg10
    walk_at "sx"
    refine ⟨Nat.le_of_ble_eq_true rfl, fun r3 hr3 => ?_⟩
    have nr3 := (P0.ne hr3).symm
    replace S0 := S0.new (o := .lst [V.ref ag7, V.ref ag8, V.ref ag9, V.ref ag10]) hr3
    replace P0 := P0.new (o := .lst [V.ref ag7, V.ref ag8, V.ref ag9, V.ref ag10]) hr3
    replace g0 := g0.new (o := .lst [V.ref ag7, V.ref ag8, V.ref ag9, V.ref ag10]) hr3
    replace g1 := g1.new (o := .lst [V.ref ag7, V.ref ag8, V.ref ag9, V.ref ag10]) hr3
    replace g2 := g2.new (o := .lst [V.ref ag7, V.ref ag8, V.ref ag9, V.ref ag10]) hr3
    replace g3 := g3.new (o := .lst [V.ref ag7, V.ref ag8, V.ref ag9, V.ref ag10]) hr3
    replace g4 := g4.new (o := .lst [V.ref ag7, V.ref ag8, V.ref ag9, V.ref ag10]) hr3
    replace g5 := g5.new (o := .lst [V.ref ag7, V.ref ag8, V.ref ag9, V.ref ag10]) hr3
    replace g6 := g6.new (o := .lst [V.ref ag7, V.ref ag8, V.ref ag9, V.ref ag10]) hr3
    replace g7 := g7.new (o := .lst [V.ref ag7, V.ref ag8, V.ref ag9, V.ref ag10]) hr3
    replace g8 := g8.new (o := .lst [V.ref ag7, V.ref ag8, V.ref ag9, V.ref ag10]) hr3
    replace g9 := g9.new (o := .lst [V.ref ag7, V.ref ag8, V.ref ag9, V.ref ag10]) hr3
    replace g10 := g10.new (o := .lst [V.ref ag7, V.ref ag8, V.ref ag9, V.ref ag10]) hr3
    replace ecr2 := (upd_ne (H := H22) (o := .lst [V.ref ag7, V.ref ag8, V.ref ag9, V.ref ag10]) (ne_of_none ecr2 hr3)).trans ecr2
    have er3 : upd H22 r3 (.lst [V.ref ag7, V.ref ag8, V.ref ag9, V.ref ag10]) r3 = _ := upd_same
    generalize upd H22 r3 (.lst [V.ref ag7, V.ref ag8, V.ref ag9, V.ref ag10]) = H23 at S0 P0 er3 g0 g1 g2 g3 g4 g5 g6 g7 g8 g9 g10 ecr2 ⊢
    clear hr3
    walk_at "sx"
    refine My.x_cat ecr2 er3 (Nat.le_of_ble_eq_true rfl) fun cr3 hcr3 => ?_
    have ncr3 := (P0.ne hcr3).symm
    replace S0 := S0.new (o := .lst [V.ref ag0, V.ref ag1, V.ref ag2, V.ref ag3, V.ref ag4, V.ref ag5, V.ref ag6, V.ref ag7, V.ref ag8, V.ref ag9, V.ref ag10]) hcr3
    replace P0 := P0.new (o := .lst [V.ref ag0, V.ref ag1, V.ref ag2, V.ref ag3, V.ref ag4, V.ref ag5, V.ref ag6, V.ref ag7, V.ref ag8, V.ref ag9, V.ref ag10]) hcr3
    replace g0 := g0.new (o := .lst [V.ref ag0, V.ref ag1, V.ref ag2, V.ref ag3, V.ref ag4, V.ref ag5, V.ref ag6, V.ref ag7, V.ref ag8, V.ref ag9, V.ref ag10]) hcr3
    replace g1 := g1.new (o := .lst [V.ref ag0, V.ref ag1, V.ref ag2, V.ref ag3, V.ref ag4, V.ref ag5, V.ref ag6, V.ref ag7, V.ref ag8, V.ref ag9, V.ref ag10]) hcr3
    replace g2 := g2.new (o := .lst [V.ref ag0, V.ref ag1, V.ref ag2, V.ref ag3, V.ref ag4, V.ref ag5, V.ref ag6, V.ref ag7, V.ref ag8, V.ref ag9, V.ref ag10]) hcr3
    replace g3 := g3.new (o := .lst [V.ref ag0, V.ref ag1, V.ref ag2, V.ref ag3, V.ref ag4, V.ref ag5, V.ref ag6, V.ref ag7, V.ref ag8, V.ref ag9, V.ref ag10]) hcr3
    replace g4 := g4.new (o := .lst [V.ref ag0, V.ref ag1, V.ref ag2, V.ref ag3, V.ref ag4, V.ref ag5, V.ref ag6, V.ref ag7, V.ref ag8, V.ref ag9, V.ref ag10]) hcr3
    replace g5 := g5.new (o := .lst [V.ref ag0, V.ref ag1, V.ref ag2, V.ref ag3, V.ref ag4, V.ref ag5, V.ref ag6, V.ref ag7, V.ref ag8, V.ref ag9, V.ref ag10]) hcr3
    replace g6 := g6.new (o := .lst [V.ref ag0, V.ref ag1, V.ref ag2, V.ref ag3, V.ref ag4, V.ref ag5, V.ref ag6, V.ref ag7, V.ref ag8, V.ref ag9, V.ref ag10]) hcr3
    replace g7 := g7.new (o := .lst [V.ref ag0, V.ref ag1, V.ref ag2, V.ref ag3, V.ref ag4, V.ref ag5, V.ref ag6, V.ref ag7, V.ref ag8, V.ref ag9, V.ref ag10]) hcr3
    replace g8 := g8.new (o := .lst [V.ref ag0, V.ref ag1, V.ref ag2, V.ref ag3, V.ref ag4, V.ref ag5, V.ref ag6, V.ref ag7, V.ref ag8, V.ref ag9, V.ref ag10]) hcr3
    replace g9 := g9.new (o := .lst [V.ref ag0, V.ref ag1, V.ref ag2, V.ref ag3, V.ref ag4, V.ref ag5, V.ref ag6, V.ref ag7, V.ref ag8, V.ref ag9, V.ref ag10]) hcr3
    replace g10 := g10.new (o := .lst [V.ref ag0, V.ref ag1, V.ref ag2, V.ref ag3, V.ref ag4, V.ref ag5, V.ref ag6, V.ref ag7, V.ref ag8, V.ref ag9, V.ref ag10]) hcr3
    have ecr3 : upd H23 cr3 (.lst [V.ref ag0, V.ref ag1, V.ref ag2, V.ref ag3, V.ref ag4, V.ref ag5, V.ref ag6, V.ref ag7, V.ref ag8, V.ref ag9, V.ref ag10]) cr3 = _ := upd_same
    show gName 5 (V.ref cr3) _ (upd H23 cr3 (.lst [V.ref ag0, V.ref ag1, V.ref ag2, V.ref ag3, V.ref ag4, V.ref ag5, V.ref ag6, V.ref ag7, V.ref ag8, V.ref ag9, V.ref ag10])) _
    generalize upd H23 cr3 (.lst [V.ref ag0, V.ref ag1, V.ref ag2, V.ref ag3, V.ref ag4, V.ref ag5, V.ref ag6, V.ref ag7, V.ref ag8, V.ref ag9, V.ref ag10]) = H24 at S0 P0 ecr3 g0 g1 g2 g3 g4 g5 g6 g7 g8 g9 g10 ⊢
    clear hcr3 er3 ecr2
    walk_at "sx"
    refine x_drawW P0 (by decide) (by decide +kernel) fun dd H25 zd yd P1 B1 => ?_
    replace S0 := S0.but B1
    replace g0 := g0.but B1 ng0
    replace g1 := g1.but B1 ng1
    replace g2 := g2.but B1 ng2
    replace g3 := g3.but B1 ng3
    replace g4 := g4.but B1 ng4
    replace g5 := g5.but B1 ng5
    replace g6 := g6.but B1 ng6
    replace g7 := g7.but B1 ng7
    replace g8 := g8.but B1 ng8
    replace g9 := g9.but B1 ng9
    replace g10 := g10.but B1 ng10
    replace ecr3 := B1.at ecr3 ncr3
    replace P0 := P1
    clear P1 B1
    obtain ⟨d, rfl⟩ := Int.eq_ofNat_of_zero_le zd
    obtain ⟨x, hx, hm⟩ := atI_mem (xs := [V.ref ag0, V.ref ag1, V.ref ag2, V.ref ag3, V.ref ag4, V.ref ag5, V.ref ag6, V.ref ag7, V.ref ag8, V.ref ag9, V.ref ag10]) (Int.natCast_nonneg d) (show ((d : Nat) : Int) < 11 from yd)
    refine My.x_ixL (SqL.of ecr3) hx ?_
    simp only [List.mem_cons, List.not_mem_nil, or_false] at hm
    rcases hm with rfl | rfl | rfl | rfl | rfl | rfl | rfl | rfl | rfl | rfl | rfl
    · exact q _ _ S0 P0 g0 ng0
    · exact q _ _ S0 P0 g1 ng1
    · exact q _ _ S0 P0 g2 ng2
    · exact q _ _ S0 P0 g3 ng3
    · exact q _ _ S0 P0 g4 ng4
    · exact q _ _ S0 P0 g5 ng5
    · exact q _ _ S0 P0 g6 ng6
    · exact q _ _ S0 P0 g7 ng7
    · exact q _ _ S0 P0 g8 ng8
    · exact q _ _ S0 P0 g9 ng9
    · exact q _ _ S0 P0 g10 ng10
end
end K32

end

section
local macro_rules | `(tactic| walk_at "ne") => `(tactic| first | assumption | (apply Ne.symm; assumption) | exact L2.ne_of_none (by assumption) (by assumption) | exact (L2.ne_of_none (by assumption) (by assumption)).symm)
local macro_rules | `(tactic| walk_at "hp") => `(tactic| first | assumption | exact L2.upd_same | (rw [L2.upd_ne (by walk_at "ne")]; walk_at "hp"))
local macro_rules | `(tactic| walk_at "sq") => `(tactic| first | assumption | exact L2.SqL.of (by walk_at "hp") | exact My.sq_new (by walk_at "sq") (by assumption))
local macro_rules | `(tactic| walk_at "sd") => `(tactic| first | decide | omega | (unfold L2.CDivN; omega) | (unfold L2.CMul; omega) | (unfold L2.CPow; omega))
local macro_rules | `(tactic| walk_at "sx1") => `(tactic| first | with_reducible refine My.x_seq ?_ | with_reducible refine My.x_asg ?_ | with_reducible refine My.x_ret ?_ | with_reducible refine My.x_next ?_ | with_reducible refine My.x_op ?_ | with_reducible refine My.x_c ?_ | with_reducible refine My.x_ifs ?_ | with_reducible refine My.x_test ?_ | with_reducible refine My.x_exbl ?_ | with_reducible refine My.x_cons ?_ | with_reducible refine My.x_nil ?_ | with_reducible refine My.x_cb ?_ | with_reducible refine My.x_drop ?_ | with_reducible refine My.x_par ?_ | with_reducible refine My.x_exp2 ?_ | with_reducible refine My.x_aug ?_ | with_reducible refine My.x_if ?_ | with_reducible refine My.x_tB ?_ | with_reducible refine My.x_and ?_ | with_reducible refine My.x_or ?_ | with_reducible refine My.x_not ?_ | with_reducible refine My.x_retn ?_ | with_reducible refine My.x_cont ?_ | with_reducible refine My.x_brk ?_ | with_reducible refine My.x_un ?_ | with_reducible refine My.x_tfor ?_ | with_reducible refine My.x_ilist ?_ | with_reducible refine My.x_rng1 ?_ | with_reducible refine My.x_rng2 ?_ | with_reducible refine My.x_r1 ?_ | with_reducible refine My.x_call ?_ | with_reducible refine My.x_sl ?_ | with_reducible refine My.x_part ?_ | with_reducible refine My.x_nopart ?_ | with_reducible refine My.x_ii0 ?_ | with_reducible refine My.x_yes ?_ | with_reducible refine My.x_andv ?_ | with_reducible refine My.x_orv ?_ | with_reducible refine My.x_notv ?_ | with_reducible refine My.x_iT ?_ | with_reducible refine My.x_iF ?_ | with_reducible refine My.x_chain ?_ | with_reducible refine My.x_exI ?_ | with_reducible refine My.x_wipe ?_ | with_reducible refine My.x_bm ?_ | with_reducible refine My.x_bm0 ?_ | with_reducible refine My.x_gsub ?_ | with_reducible refine My.x_int1 ?_ | with_reducible refine My.x_two ?_ | with_reducible refine My.x_lst ?_ | with_reducible refine My.x_tup ?_ | with_reducible refine My.x_revL ?_ | with_reducible refine My.x_dput ?_ | with_reducible refine My.x_dget ?_ | with_reducible refine My.x_dnew ?_ | with_reducible refine My.x_dc ?_ | with_reducible refine My.x_lc ?_ | with_reducible refine My.x_ienum ?_ | with_reducible refine My.x_gcons ?_ | with_reducible refine My.x_gnil ?_ | with_reducible refine My.x_v0 ?_ | with_reducible refine My.x_v1 ?_ | with_reducible refine My.x_v2 ?_ | with_reducible refine My.x_v3 ?_ | with_reducible refine My.x_v4 ?_ | with_reducible refine My.x_v5 ?_ | with_reducible refine My.x_v6 ?_ | with_reducible refine My.x_v7 ?_ | with_reducible refine My.x_v8 ?_ | with_reducible refine My.x_v9 ?_ | with_reducible refine My.x_v10 ?_ | with_reducible refine My.x_v11 ?_ | with_reducible refine My.x_v12 ?_ | with_reducible refine My.x_v13 ?_ | with_reducible refine My.x_v14 ?_ | with_reducible refine My.x_v15 ?_ | with_reducible refine My.x_v16 ?_ | with_reducible refine My.x_v17 ?_ | with_reducible refine My.x_v18 ?_ | with_reducible refine My.x_v19 ?_ | with_reducible refine My.x_v20 ?_ | with_reducible refine My.x_v21 ?_ | with_reducible refine My.x_v22 ?_ | with_reducible refine My.x_v23 ?_ | with_reducible refine My.x_v24 ?_ | with_reducible refine My.x_v25 ?_ | with_reducible refine My.x_g0 ?_ | with_reducible refine My.x_g1 ?_ | with_reducible refine My.x_g2 ?_ | with_reducible refine My.x_g3 ?_ | with_reducible refine My.x_g4 ?_ | with_reducible refine My.x_g5 ?_ | with_reducible refine My.x_g6 ?_ | with_reducible refine My.x_g7 ?_ | with_reducible refine My.x_g8 ?_ | with_reducible refine My.x_g9 ?_ | with_reducible refine My.x_g10 ?_ | with_reducible refine My.x_g11 ?_ | with_reducible refine My.x_g12 ?_ | with_reducible refine My.x_g13 ?_ | with_reducible refine My.x_g14 ?_ | with_reducible refine My.x_g15 ?_ | with_reducible refine My.x_g16 ?_ | with_reducible refine My.x_g17 ?_ | with_reducible refine My.x_g18 ?_ | with_reducible refine My.x_g19 ?_ | with_reducible refine My.x_g20 ?_ | with_reducible refine My.x_g21 ?_ | with_reducible refine My.x_g22 ?_ | with_reducible refine My.x_g23 ?_ | with_reducible refine My.x_g24 ?_ | with_reducible refine My.x_g25 ?_)
local macro_rules | `(tactic| walk_at "sx") => `(tactic| repeat (walk_at "sx1"))
local macro_rules | `(tactic| walk_at "ln") => `(tactic| first | assumption | exact Nat.le_of_ble_eq_true rfl | (simp only [List.length_append, List.length_map, List.length_cons, List.length_nil]; simp only [PySem.sizeLine]; omega))
local macro_rules | `(tactic| walk_at "st") => `(tactic| first | assumption | exact L2.SqT.of (by walk_at "hp"))
local macro_rules | `(tactic| walk_at "go1") => `(tactic| first | walk_at "sx1" | ((with_reducible refine' My.x_ixL ?x0 ?x1 ?x2); (case x0 => walk_at "sq"); (case x1 => exact rfl)) | ((with_reducible refine' My.x_ixT ?x0 ?x1 ?x2); (case x0 => walk_at "st"); (case x1 => exact rfl)) | ((with_reducible refine' My.x_i ?x0 ?x1); (case x0 => walk_at "sd")) | ((with_reducible refine' My.x_setL ?x0 ?x1 ?x2); (case x0 => walk_at "hp"); (case x1 => exact rfl)) | ((with_reducible refine' My.x_len ?x0 ?x1); (case x0 => walk_at "sq")) | ((with_reducible refine' My.x_lenT ?x0 ?x1); (case x0 => walk_at "st")) | ((with_reducible refine' My.x_lenD ?x0 ?x1); (case x0 => walk_at "hp")) | ((with_reducible refine' My.x_append ?x0 ?x1 ?x2); (case x0 => walk_at "hp"); (case x1 => walk_at "ln")) | ((with_reducible refine' My.x_tyL ?x0 ?x1); (case x0 => walk_at "hp")) | ((with_reducible refine' My.x_ilistE ?x0 ?x1); (case x0 => walk_at "sq")) | ((with_reducible refine' My.x_ienumE ?x0 ?x1); (case x0 => walk_at "sq")) | ((with_reducible refine' My.x_sortI ?x0 ?x1); (case x0 => walk_at "sq")) | ((with_reducible refine' My.x_slL ?x0 ?x1); (case x0 => walk_at "sq")) | ((with_reducible refine' My.x_revL2 ?x0 ?x1); (case x0 => walk_at "sq")) | ((with_reducible refine' My.x_eq ?x0 ?x1); (case x0 => exact rfl)) | ((with_reducible refine' My.x_ne ?x0 ?x1); (case x0 => exact rfl)) | ((with_reducible refine' My.x_dputI ?x0 ?x1 ?x2); (case x0 => walk_at "hp"); (case x1 => walk_at "ln")) | ((with_reducible refine' My.x_dputS ?x0 ?x1 ?x2); (case x0 => walk_at "hp"); (case x1 => walk_at "ln")) | ((with_reducible refine' My.x_seqof ?x0 ?x1); (case x0 => walk_at "sq")) | ((with_reducible refine' My.x_gtup ?x0 ?x1 ?x2); (case x0 => walk_at "st"); (case x1 => exact rfl)) | ((with_reducible refine' My.x_mem1 ?x0 ?x1); (case x0 => walk_at "ln")))
local macro_rules | `(tactic| walk_at "go") => `(tactic| repeat (walk_at "go1"))
local macro_rules | `(tactic| walk_at "sx1") => `(tactic| first | with_reducible refine My.x_fld ?_ | with_reducible refine My.x_sfld ?_ | with_reducible refine My.x_meth ?_ | with_reducible refine My.x_make ?_ | with_reducible refine My.x_din ?_ | with_reducible refine My.x_dnin ?_ | with_reducible refine My.x_ikeys ?_ | with_reducible refine My.x_itup ?_ | with_reducible refine My.x_mkO ?_ | with_reducible refine My.x_vei ?_ | with_reducible refine My.x_ost ?_ | with_reducible refine My.x_nF ?_ | with_reducible refine My.x_nT ?_)
local macro_rules | `(tactic| walk_at "go1") => `(tactic| first | ((with_reducible refine' My.x_fldE ?x0 ?x1 ?x2 ?x3 ?x4); (case x0 => walk_at "hp"); (case x1 => assumption); (case x2 => assumption); (case x3 => exact rfl)) | ((with_reducible refine' My.x_sfldE ?x0 ?x1 ?x2 ?x3 ?x4 ?x5); (case x0 => walk_at "hp"); (case x1 => assumption); (case x2 => assumption); (case x3 => decide); (case x4 => exact rfl)) | ((with_reducible refine' My.x_methE ?x0 ?x1 ?x2); (case x0 => walk_at "hp"); (case x1 => exact rfl)) | ((with_reducible refine' My.x_itupE ?x0 ?x1); (case x0 => walk_at "st")))
local macro_rules | `(tactic| walk_at "sx1") => `(tactic| first | with_reducible refine LZ.x_zz ?_ | with_reducible refine LZ.x_star ?_)
namespace K32
open PySem PySem.Spec PyProof.Rows L2
theorem Fits.each : ∀ {ks : List Kd} {is : List It}, Fits ks is → ∀ i ∈ is, ∃ k, fits k i
  | _, _, .nil => fun _ z => nomatch z
  | _, _, .cons h r => fun i hi => by
    rcases List.mem_cons.mp hi with rfl | hi
    · exact ⟨_, h⟩
    · exact r.each i hi
theorem fits_n {k : Kd} {w : W} (hf : fits k (.n w)) : ∃ k : Nat, k < 10 ^ 30 ∧ w = TL.numL k := by
  cases k <;> first | exact hf | exact hf.elim
theorem x_strI {H : Hp} {Q : VK} {k : Kd} {i : It} (hf : fits k i) (hn : i ≠ .non) (q : Q (.str (S (itS i))) H) : (∃ j : Int, [itV i] = [V.int j] ∧ j.natAbs.log2 < 1920 ∧ Q (.str (Str.ofString (toString j))) H) ∨ ∃ a, [itV i] = [V.str a] ∧ Q (.str a) H := by
  cases i with
  | non => exact absurd rfl hn
  | s w => exact .inr ⟨_, rfl, q⟩
  | n w =>
    obtain ⟨m, hm, rfl⟩ := fits_n hf
    refine .inl ⟨(m : Int), by rw [itV_num], log_of hm, ?_⟩
    have e : (Str.ofString (toString ((m : Nat) : Int))) = S (TL.numL m) := SX.num_S m
    rw [e]
    exact q
def sp_ltext (K : PySem.W.Frag) : Sp := fun vs H Q _ => ∃ (a : Addr) (z : Str) (is : List It) (fs : List Str), vs = [.ref a] ∧ SqT K H a (.str z :: is.map itV) ∧ fm z = some fs ∧ Fits (fs.map kd) is ∧ ∀ H', Same H H' → Q (.str (S (fmt z.cps.toList is))) H'
/-- " ".join of an operation's texts -/
theorem joined {K : PySem.W.Frag} {H : Hp} {Q : VK} {m : Addr} {z : Str} {is : List It} {fs : List Str} (hf : fm z = some fs) (fit : Fits (fs.map kd) is) (e : H m = some (.lst (V.str z :: is.map fun i => V.str (S (itS i))))) (q : Q (.str (S (fmt z.cps.toList is))) H) :
    ∃ (a : Str) (p : Addr) (ys : List Str), V.str (" " : Str) = V.str a ∧ [V.ref m] = [V.ref p] ∧ (SqL K H p (ys.map V.str) ∨ SqT K H p (ys.map V.str)) ∧ (ys.map fun x => x.length).sum + ys.length * a.length ≤ 16777216 ∧ Q (.str (Txt.join a ys)) H := by
  have hlen := fit.len
  have hfl := fm_len hf
  have b1 := fits_sum fit
  have b2 := fm_small hf
  rw [List.length_map] at b1 hlen
  refine ⟨_, m, (z.cps.toList :: is.map itS).map S, rfl, rfl, .inl (SqL.of ?_), ?_, ?_⟩
  · rw [e]
    congr 2
    simp only [List.map_cons, List.map_map]
    rfl
  · have e4 : (((z.cps.toList :: is.map itS).map S).map fun x => x.length) = z.cps.toList.length :: (is.map itS).map List.length := by
      rw [List.map_cons, List.map_cons, List.map_map]
      rfl
    rw [e4, List.sum_cons, List.length_map, List.length_cons, List.length_map]
    have e5 : z.cps.toList.length = z.length := Array.length_toList
    have e6 : ((" " : Str)).length = 1 := by decide +kernel
    rw [e5, e6]
    omega
  · rw [join_Str]
    exact q
def Pu (H0 : Hp) (D : Addr) (pre : List It) (H : Hp) : Prop := Same H0 H ∧ H D = some (.lst (pre.map fun i => V.str (S (itS i)))) ∧ H0 D = none
section
variable {P : Program} {w : World} {K : PySem.W.Frag} {mg : Str → Option Value} {base : Heap} {t1 t2 : Tok}
theorem ok_ltext (T : Tx K mg t1 t2) {fd : FuncData} (F : Fd K d_law_text fd) : FnOk P w K mg base CX0 1 (He.fAd K d_law_text.at_) fd ["_law_op"] (sp_ltext K) := by
  refine F.ok sc_law_text (fun vs H Q E h => ?_) (fun cdv A outer s H vs Q E hr h => ?_)
  · obtain ⟨a, z, is, fs, rfl, _⟩ := h
    rfl
  · obtain ⟨a, z, is, fs, rfl, hs, hf, fit, q⟩ := h
    have hlen := fit.len
    rw [List.length_map] at hlen
    have hfl := fm_len hf
    refine ⟨_, PSs.nox ((pss_one (ps_ret (pe_bm PySem.F.plainAttrs_str PySem.F.slot_str_join PySem.F.type_str_join mt_join pe_str (pa_cons (pe_op op_cat (pe_lst (pa_cons (pe_ix ix_tup (pv 0) pe_int (fun _ _ => rfl)) pa_nil)) (pe_lc (own := [("_law_item", 1)]) (g := gName 1) (tt := tYes) rfl sc_law_text.nd (pi_tup (pe_slice sl_tup (pv 0) (po_some pe_int) po_none)) (blkOk_by (own := [("_law_item", 1)]) (N := ["_law_op", "_law_item"]) (sc := defScope s_law_text) (by decide +kernel)) (fun _ _ _ _ _ => pg_name (i := 1) sc_law_text.nd rfl (Or.inl rfl)) (fun _ _ _ _ _ => pts_nil) (fun _ _ _ _ _ => (pe_ifExp (pt_cmpR op_isN (pv 1) pe_non (nomark _)) pe_str (pe_callTy call_strX (by rfl) T.n_str (by decide +kernel) (pa_cons (pv 1) pa_nil)))))) pa_nil))))), ?_⟩
    refine My.x_start (σ := [some (V.ref a), none]) rfl ?_
    try dsimp only [cxOf, Cx.nox]
    walk_at "sx"
    refine ⟨rfl, ?_⟩
    walk_at "sx"
    refine My.x_ixT hs at0 ?_
    walk_at "sx"
    refine ⟨Nat.le_of_ble_eq_true rfl, fun l hl => ?_⟩
    have s1 := My.Same.new (o := .lst [V.str z]) (Same.refl H) hl
    have g1 : upd H l (.lst [V.str z]) l = some (.lst [V.str z]) := upd_same
    generalize upd H l (.lst [V.str z]) = H1 at s1 g1 ⊢
    walk_at "sx"
    refine ⟨a, _, rfl, seqT s1 hs, fun e => absurd e.1 (by unfold HT.sIx; simp), fun r hr0 => ?_⟩
    rw [cut1]
    have s2 := My.Same.new (o := .tup (is.map itV)) s1 hr0
    replace g1 := (upd_ne (H := H1) (o := .tup (is.map itV)) (ne_of_none g1 hr0)).trans g1
    have gr : upd H1 r (.tup (is.map itV)) r = some (.tup (is.map itV)) := upd_same
    generalize upd H1 r (.tup (is.map itV)) = H2 at s2 g1 gr ⊢
    walk_at "sx"
    refine My.x_itupE (SqT.of gr) fun D hD => ?_
    refine My.lc_runs (My.runs_tup itV is) (fun pre H' => Pu H2 D pre H') ⟨My.Same.new (Same.refl H2) hD, upd_same, hD⟩ (fun pre post H' _ h => SqT.of (h.1 _ _ gr)) ?_ ?_
    · rintro pre i post H3 v H4 hpre ⟨s3, gD, nD⟩ ⟨rfl, rfl⟩
      obtain ⟨k, hfit⟩ := fit.each i (by rw [hpre]; simp)
      have hpl : pre.length ≤ 3 := by
        have := congrArg List.length hpre
        rw [List.length_append] at this
        omega
      have nxt : ∀ y, y = V.str (S (itS i)) → ∃ acc, H4 D = some (.lst acc) ∧ acc.length < sizeLine ∧ Pu H2 D (pre ++ [i]) (upd H4 D (.lst (acc ++ [y]))) := by
        rintro y rfl
        refine ⟨_, gD, by rw [List.length_map, sizeLine_eq]; omega, My.Same.mut s3 nD, ?_, nD⟩
        rw [upd_same, List.map_append]
        rfl
      simp only [List.map_cons, List.map_nil, wipe, List.set_cons_succ, List.set_cons_zero]
      walk_at "sx"
      refine ⟨rfl, ?_⟩
      walk_at "sx"
      refine ⟨rfl, ?_⟩
      by_cases hn : i = .non
      · subst hn
        refine My.x_exbl (b := true) (My.x_iT ?_)
        walk_at "sx"
        exact nxt _ (by rw [none_S]; rfl)
      · have hv : decide (itV i = V.non) = false := decide_eq_false fun e => hn (by cases i <;> first | rfl | cases e)
        rw [hv]
        refine My.x_exbl (My.x_iF ?_)
        walk_at "sx"
        exact x_strI (H := H4) (Q := fun y H4 => ∃ acc, H4 D = some (.lst acc) ∧ acc.length < sizeLine ∧ Pu H2 D (pre ++ [i]) (upd H4 D (.lst (acc ++ [y])))) hfit hn (nxt _ rfl)
    · rintro H3 ⟨s3, gD, nD⟩
      have g3 := s3 _ _ g1
      walk_at "sx"
      refine My.x_cat g3 gD (by rw [List.length_map, sizeLine_eq]; show 1 + _ ≤ _; omega) fun m hm => ?_
      walk_at "sx"
      exact joined hf fit upd_same (q _ (My.Same.new (s2.trans s3) hm))
theorem okS_lt {c : Nat} (h : okS c = true) : c < 0x110000 := by
  rw [okS_eq, Bool.and_eq_true, decide_eq_true_eq, decide_eq_true_eq] at h
  omega
theorem lay_strs : ∀ ns : List Str, (∀ n ∈ ns, PyData.strOk n = true) → PyData.canLayAll0 (ns.map PyData.str) = true
  | [], _ => by simp [PyData.canLayAll0]
  | n :: r, h => by simp [PyData.canLayAll0, PyData.canLay0, h n, lay_strs r fun m hm => h m (List.mem_cons_of_mem _ hm)]
theorem depth_strs : ∀ ns : List Str, PyData.depthAll (ns.map PyData.str) = 0
  | [] => by simp [PyData.depthAll]
  | n :: r => by simp [PyData.depthAll, PyData.depth, depth_strs r]
theorem shaped_strs (ns : List Str) (h : ∀ n ∈ ns, PyData.strOk n = true) : SeqAt.shaped (.list (ns.map PyData.str)) = true := by
  unfold SeqAt.shaped
  simp [PyData.canLay0, lay_strs ns h, PyData.depth, depth_strs]
theorem dp_strs {K : PySem.W.Frag} {H : Hp} : ∀ ns : List Str, DpAll K H (ns.map V.str) (ns.map PyData.str)
  | [] => .nil
  | n :: r => .cons (.str n) (dp_strs r)
def sp_lnum : Sp := fun vs H Q _ => ∃ z : Str, vs = [.str z] ∧ z.length ≤ 5000 ∧ z.cps.toList.all okS = true ∧ ∀ H', Same H H' → Q (.bl (num z.cps.toList)) H'
/-- the signs that are no digits, so far -/
def Px (H0 : Hp) (D : Addr) (pre : W) (H : Hp) : Prop := Same H0 H ∧ H D = some (.lst ((pre.filter fun c => !isD c).map fun c => V.str ⟨#[c]⟩)) ∧ H0 D = none
theorem ok_lnum (T : Tx K mg t1 t2) {fd : FuncData} (F : Fd K d_law_is_number fd) : FnOk P w K mg base CX0 1 (He.fAd K d_law_is_number.at_) fd ["_law_text_here"] sp_lnum := by
  refine F.ok sc_law_is_number (fun vs H Q E h => ?_) (fun cdv A outer s H vs Q E hr h => ?_)
  · obtain ⟨z, rfl, _⟩ := h
    rfl
  · obtain ⟨z, rfl, hz, hok, q⟩ := h
    obtain ⟨v, rfl⟩ : ∃ v, z = S v := ⟨z.cps.toList, rfl⟩
    have q : ∀ H', Same H H' → Q (.bl (num v)) H' := q
    have hv : v.length ≤ 5000 := hz
    refine ⟨_, PSs.nox ((pss_cons (ps_if (PW.pt (pw_or (pt_cmpR op_eq (pv 0) pe_str (nomark _)) (pw_or1 (pt_cmpR op_gt (pe_callB call_len_str (by rfl) T.n_len (by decide +kernel) (pa_cons (pv 0) pa_nil)) pe_int (nomark _)))))
  (pss_one (ps_ret pe_bl))
  pss_nil)
  (pss_cons (ps_if (pt_cmpR (op_neD hr.units) (pe_lc (own := [("_law_sign", 1)]) (g := gName 1)  rfl sc_law_is_number.nd (pi_str (pv 0)) (blkOk_by (own := [("_law_sign", 1)]) (N := ["_law_text_here", "_law_sign"]) (sc := defScope s_law_is_number) (by decide +kernel)) (fun _ _ _ _ _ => pg_name (i := 1) sc_law_is_number.nd rfl (Or.inl rfl)) (fun _ _ _ _ _ => pts_one (pt_cmpR op_notIn_sign (pv 1) pe_str rfl)) (fun _ _ _ _ _ => (pv 1))) (pe_lst pa_nil) (nomark _))
  (pss_one (ps_ret pe_bl))
  pss_nil)
  (pss_one (ps_ret (pe_or (pe_cmpR op_eq (pv 0) pe_str (nomark _)) (pe_one (pe_cmpR op_ne (pe_ix ix_str (pv 0) pe_int (fun _ _ => rfl)) pe_str (nomark _))))))))), ?_⟩
    refine My.x_start (σ := [some (V.str (S v)), none]) rfl ?_
    try dsimp only [cxOf, Cx.nox]
    have bad : ¬ (1 ≤ v.length ∧ v.length ≤ 30) → num v = false := fun h => by
      unfold num
      rw [decide_eq_false h]
      rfl
    walk_at "sx"
    refine My.x_eq rfl ?_
    have e0 : (("" : Str)) = S [] := by decide +kernel
    rw [e0, str_eq]
    refine My.x_exbl ?_
    refine My.x_dec (fun h1 => ?_) (fun h1 => ?_)
    · walk_at "sx"
      have := q H (Same.refl H)
      rw [bad (fun z => by rw [h1] at z; simp at z)] at this
      exact this
    have h1' : 1 ≤ v.length := by
      cases v with
      | nil => exact absurd rfl h1
      | cons _ _ => simp
    walk_at "sx"
    refine ⟨S v, rfl, by rw [sizeLine_eq]; exact Nat.le_trans hv (by omega), ?_⟩
    walk_at "sx"
    refine My.x_dec (fun h2 => ?_) (fun h2 => ?_)
    · have h2 : (30 : Int) < (v.length : Nat) := h2
      walk_at "sx"
      have := q H (Same.refl H)
      rw [bad (fun z => by omega)] at this
      exact this
    have h2 : ¬ (30 : Int) < (v.length : Nat) := h2
    walk_at "sx"
    refine ⟨_, rfl, S v, rfl, fun D hD => ?_⟩
    refine My.lc_runs (My.runs_str (S v)) (fun pre H' => Px H D pre H') ⟨My.Same.new (Same.refl H) hD, upd_same, hD⟩ (fun _ _ _ _ _ => True.intro) ?_ ?_
    · rintro pre c post H1 x H2 hpre ⟨s1, gD, nD⟩ ⟨rfl, rfl⟩
      have hlen := pre_lt hpre hz
      simp only [List.map_cons, List.map_nil, wipe, List.set_cons_succ, List.set_cons_zero]
      walk_at "sx"
      refine ⟨rfl, ?_⟩
      walk_at "sx"
      refine ⟨c, _, rfl, rfl, ?_⟩
      rw [isD_in]
      refine My.x_exbl ?_
      cases hc : isD c with
      | true =>
        refine My.x_iF ?_
        refine ⟨s1, ?_, nD⟩
        rw [gD, List.filter_append, List.filter_cons, hc]
        simp
      | false =>
        refine My.x_iT ?_
        walk_at "sx"
        refine ⟨_, gD, by rw [List.length_map, sizeLine_eq]; exact Nat.lt_of_le_of_lt (List.length_filter_le _ _) (by omega), My.Same.mut s1 nD, ?_, nD⟩
        rw [upd_same, List.filter_append, List.filter_cons, hc]
        simp
    · rintro H1 ⟨s1, gD, nD⟩
      walk_at "sx"
      refine ⟨Nat.le_of_ble_eq_true rfl, fun l hl => ?_⟩
      have s2 := My.Same.new (o := .lst []) s1 hl
      replace gD := (upd_ne (H := H1) (o := .lst []) (ne_of_none gD hl)).trans gD
      have gl : upd H1 l (.lst []) l = some (.lst []) := upd_same
      generalize upd H1 l (.lst []) = H2 at s2 gD gl ⊢
      have okn : ∀ n ∈ (v.filter fun c => !isD c).map (fun c => (⟨#[c]⟩ : Str)), PyData.strOk n = true := by
        intro n hn
        obtain ⟨c, hc, rfl⟩ := List.mem_map.mp hn
        have := okS_lt (List.all_eq_true.mp hok c (List.mem_filter.mp hc).1)
        show (#[c] : Array Nat).all (· < 0x110000) = true
        simpa using this
      have dps : Dp K H2 (.ref D) (.list ((((v.filter fun c => !isD c).map fun c => (⟨#[c]⟩ : Str))).map PyData.str)) := .lst (SqL.of (by rw [gD])) (by
        have := dp_strs (K := K) (H := H2) ((v.filter fun c => !isD c).map fun c => (⟨#[c]⟩ : Str))
        rw [List.map_map] at this
        exact this)
      refine ⟨_, .list [], dps, .lst (SqL.of gl) .nil, shaped_strs _ okn, by rfl, ?_⟩
      refine My.x_exbl ?_
      have key : num v = (v.all isD && (decide (v = [48]) || !decide (v.head? = some 48))) := by
        unfold num
        rw [decide_eq_true ⟨h1', by omega⟩, Bool.true_and]
      cases hf : v.filter (fun c => !isD c) with
      | nil =>
        have ha : v.all isD = true := by
          rw [List.all_eq_true]
          intro c hc
          cases hd : isD c with
          | true => rfl
          | false =>
            have : c ∈ v.filter (fun c => !isD c) := List.mem_filter.mpr ⟨hc, by rw [hd]; rfl⟩
            rw [hf] at this
            cases this
        refine My.x_iF ?_
        walk_at "sx"
        refine x_zero h1' hv ?_
        have := q H2 s2
        rw [key, ha, Bool.true_and] at this
        exact this
      | cons c r =>
        have ha : v.all isD = false := by
          have hm : c ∈ v.filter (fun c => !isD c) := by rw [hf]; exact List.mem_cons_self
          obtain ⟨h3, h4⟩ := List.mem_filter.mp hm
          rw [Bool.eq_false_iff]
          intro h5
          have := List.all_eq_true.mp h5 c h3
          rw [this] at h4
          cases h4
        refine My.x_iT ?_
        walk_at "sx"
        have := q H2 s2
        rw [key, ha, Bool.false_and] at this
        exact this
end
end K32

end

section
local macro_rules | `(tactic| walk_at "ne") => `(tactic| first | assumption | (apply Ne.symm; assumption) | exact L2.ne_of_none (by assumption) (by assumption) | exact (L2.ne_of_none (by assumption) (by assumption)).symm)
local macro_rules | `(tactic| walk_at "hp") => `(tactic| first | assumption | exact L2.upd_same | (rw [L2.upd_ne (by walk_at "ne")]; walk_at "hp"))
local macro_rules | `(tactic| walk_at "sq") => `(tactic| first | assumption | exact L2.SqL.of (by walk_at "hp") | exact My.sq_new (by walk_at "sq") (by assumption))
local macro_rules | `(tactic| walk_at "sd") => `(tactic| first | decide | omega | (unfold L2.CDivN; omega) | (unfold L2.CMul; omega) | (unfold L2.CPow; omega))
local macro_rules | `(tactic| walk_at "sx1") => `(tactic| first | with_reducible refine My.x_seq ?_ | with_reducible refine My.x_asg ?_ | with_reducible refine My.x_ret ?_ | with_reducible refine My.x_next ?_ | with_reducible refine My.x_op ?_ | with_reducible refine My.x_c ?_ | with_reducible refine My.x_ifs ?_ | with_reducible refine My.x_test ?_ | with_reducible refine My.x_exbl ?_ | with_reducible refine My.x_cons ?_ | with_reducible refine My.x_nil ?_ | with_reducible refine My.x_cb ?_ | with_reducible refine My.x_drop ?_ | with_reducible refine My.x_par ?_ | with_reducible refine My.x_exp2 ?_ | with_reducible refine My.x_aug ?_ | with_reducible refine My.x_if ?_ | with_reducible refine My.x_tB ?_ | with_reducible refine My.x_and ?_ | with_reducible refine My.x_or ?_ | with_reducible refine My.x_not ?_ | with_reducible refine My.x_retn ?_ | with_reducible refine My.x_cont ?_ | with_reducible refine My.x_brk ?_ | with_reducible refine My.x_un ?_ | with_reducible refine My.x_tfor ?_ | with_reducible refine My.x_ilist ?_ | with_reducible refine My.x_rng1 ?_ | with_reducible refine My.x_rng2 ?_ | with_reducible refine My.x_r1 ?_ | with_reducible refine My.x_call ?_ | with_reducible refine My.x_sl ?_ | with_reducible refine My.x_part ?_ | with_reducible refine My.x_nopart ?_ | with_reducible refine My.x_ii0 ?_ | with_reducible refine My.x_yes ?_ | with_reducible refine My.x_andv ?_ | with_reducible refine My.x_orv ?_ | with_reducible refine My.x_notv ?_ | with_reducible refine My.x_iT ?_ | with_reducible refine My.x_iF ?_ | with_reducible refine My.x_chain ?_ | with_reducible refine My.x_exI ?_ | with_reducible refine My.x_wipe ?_ | with_reducible refine My.x_bm ?_ | with_reducible refine My.x_bm0 ?_ | with_reducible refine My.x_gsub ?_ | with_reducible refine My.x_int1 ?_ | with_reducible refine My.x_two ?_ | with_reducible refine My.x_lst ?_ | with_reducible refine My.x_tup ?_ | with_reducible refine My.x_revL ?_ | with_reducible refine My.x_dput ?_ | with_reducible refine My.x_dget ?_ | with_reducible refine My.x_dnew ?_ | with_reducible refine My.x_dc ?_ | with_reducible refine My.x_lc ?_ | with_reducible refine My.x_ienum ?_ | with_reducible refine My.x_gcons ?_ | with_reducible refine My.x_gnil ?_ | with_reducible refine My.x_v0 ?_ | with_reducible refine My.x_v1 ?_ | with_reducible refine My.x_v2 ?_ | with_reducible refine My.x_v3 ?_ | with_reducible refine My.x_v4 ?_ | with_reducible refine My.x_v5 ?_ | with_reducible refine My.x_v6 ?_ | with_reducible refine My.x_v7 ?_ | with_reducible refine My.x_v8 ?_ | with_reducible refine My.x_v9 ?_ | with_reducible refine My.x_v10 ?_ | with_reducible refine My.x_v11 ?_ | with_reducible refine My.x_v12 ?_ | with_reducible refine My.x_v13 ?_ | with_reducible refine My.x_v14 ?_ | with_reducible refine My.x_v15 ?_ | with_reducible refine My.x_v16 ?_ | with_reducible refine My.x_v17 ?_ | with_reducible refine My.x_v18 ?_ | with_reducible refine My.x_v19 ?_ | with_reducible refine My.x_v20 ?_ | with_reducible refine My.x_v21 ?_ | with_reducible refine My.x_v22 ?_ | with_reducible refine My.x_v23 ?_ | with_reducible refine My.x_v24 ?_ | with_reducible refine My.x_v25 ?_ | with_reducible refine My.x_g0 ?_ | with_reducible refine My.x_g1 ?_ | with_reducible refine My.x_g2 ?_ | with_reducible refine My.x_g3 ?_ | with_reducible refine My.x_g4 ?_ | with_reducible refine My.x_g5 ?_ | with_reducible refine My.x_g6 ?_ | with_reducible refine My.x_g7 ?_ | with_reducible refine My.x_g8 ?_ | with_reducible refine My.x_g9 ?_ | with_reducible refine My.x_g10 ?_ | with_reducible refine My.x_g11 ?_ | with_reducible refine My.x_g12 ?_ | with_reducible refine My.x_g13 ?_ | with_reducible refine My.x_g14 ?_ | with_reducible refine My.x_g15 ?_ | with_reducible refine My.x_g16 ?_ | with_reducible refine My.x_g17 ?_ | with_reducible refine My.x_g18 ?_ | with_reducible refine My.x_g19 ?_ | with_reducible refine My.x_g20 ?_ | with_reducible refine My.x_g21 ?_ | with_reducible refine My.x_g22 ?_ | with_reducible refine My.x_g23 ?_ | with_reducible refine My.x_g24 ?_ | with_reducible refine My.x_g25 ?_)
local macro_rules | `(tactic| walk_at "sx") => `(tactic| repeat (walk_at "sx1"))
local macro_rules | `(tactic| walk_at "ln") => `(tactic| first | assumption | exact Nat.le_of_ble_eq_true rfl | (simp only [List.length_append, List.length_map, List.length_cons, List.length_nil]; simp only [PySem.sizeLine]; omega))
local macro_rules | `(tactic| walk_at "st") => `(tactic| first | assumption | exact L2.SqT.of (by walk_at "hp"))
local macro_rules | `(tactic| walk_at "go1") => `(tactic| first | walk_at "sx1" | ((with_reducible refine' My.x_ixL ?x0 ?x1 ?x2); (case x0 => walk_at "sq"); (case x1 => exact rfl)) | ((with_reducible refine' My.x_ixT ?x0 ?x1 ?x2); (case x0 => walk_at "st"); (case x1 => exact rfl)) | ((with_reducible refine' My.x_i ?x0 ?x1); (case x0 => walk_at "sd")) | ((with_reducible refine' My.x_setL ?x0 ?x1 ?x2); (case x0 => walk_at "hp"); (case x1 => exact rfl)) | ((with_reducible refine' My.x_len ?x0 ?x1); (case x0 => walk_at "sq")) | ((with_reducible refine' My.x_lenT ?x0 ?x1); (case x0 => walk_at "st")) | ((with_reducible refine' My.x_lenD ?x0 ?x1); (case x0 => walk_at "hp")) | ((with_reducible refine' My.x_append ?x0 ?x1 ?x2); (case x0 => walk_at "hp"); (case x1 => walk_at "ln")) | ((with_reducible refine' My.x_tyL ?x0 ?x1); (case x0 => walk_at "hp")) | ((with_reducible refine' My.x_ilistE ?x0 ?x1); (case x0 => walk_at "sq")) | ((with_reducible refine' My.x_ienumE ?x0 ?x1); (case x0 => walk_at "sq")) | ((with_reducible refine' My.x_sortI ?x0 ?x1); (case x0 => walk_at "sq")) | ((with_reducible refine' My.x_slL ?x0 ?x1); (case x0 => walk_at "sq")) | ((with_reducible refine' My.x_revL2 ?x0 ?x1); (case x0 => walk_at "sq")) | ((with_reducible refine' My.x_eq ?x0 ?x1); (case x0 => exact rfl)) | ((with_reducible refine' My.x_ne ?x0 ?x1); (case x0 => exact rfl)) | ((with_reducible refine' My.x_dputI ?x0 ?x1 ?x2); (case x0 => walk_at "hp"); (case x1 => walk_at "ln")) | ((with_reducible refine' My.x_dputS ?x0 ?x1 ?x2); (case x0 => walk_at "hp"); (case x1 => walk_at "ln")) | ((with_reducible refine' My.x_seqof ?x0 ?x1); (case x0 => walk_at "sq")) | ((with_reducible refine' My.x_gtup ?x0 ?x1 ?x2); (case x0 => walk_at "st"); (case x1 => exact rfl)) | ((with_reducible refine' My.x_mem1 ?x0 ?x1); (case x0 => walk_at "ln")))
local macro_rules | `(tactic| walk_at "go") => `(tactic| repeat (walk_at "go1"))
local macro_rules | `(tactic| walk_at "sx1") => `(tactic| first | with_reducible refine My.x_fld ?_ | with_reducible refine My.x_sfld ?_ | with_reducible refine My.x_meth ?_ | with_reducible refine My.x_make ?_ | with_reducible refine My.x_din ?_ | with_reducible refine My.x_dnin ?_ | with_reducible refine My.x_ikeys ?_ | with_reducible refine My.x_itup ?_ | with_reducible refine My.x_mkO ?_ | with_reducible refine My.x_vei ?_ | with_reducible refine My.x_ost ?_ | with_reducible refine My.x_nF ?_ | with_reducible refine My.x_nT ?_)
local macro_rules | `(tactic| walk_at "go1") => `(tactic| first | ((with_reducible refine' My.x_fldE ?x0 ?x1 ?x2 ?x3 ?x4); (case x0 => walk_at "hp"); (case x1 => assumption); (case x2 => assumption); (case x3 => exact rfl)) | ((with_reducible refine' My.x_sfldE ?x0 ?x1 ?x2 ?x3 ?x4 ?x5); (case x0 => walk_at "hp"); (case x1 => assumption); (case x2 => assumption); (case x3 => decide); (case x4 => exact rfl)) | ((with_reducible refine' My.x_methE ?x0 ?x1 ?x2); (case x0 => walk_at "hp"); (case x1 => exact rfl)) | ((with_reducible refine' My.x_itupE ?x0 ?x1); (case x0 => walk_at "st")))
local macro_rules | `(tactic| walk_at "sx1") => `(tactic| first | with_reducible refine LZ.x_zz ?_ | with_reducible refine LZ.x_star ?_)
namespace K32
open PySem PySem.Spec PyProof.Rows L2
/-- a test whose answer is known -/
def TV (c : TT) (σ : L2.St) (H : Hp) (b : Bool) : Prop := ∀ Q : Bool → Hp → Prop, (∀ H', Same H H' → Q b H') → c σ H Q
theorem x_ifsV {c : TT} {t u : TS} {σ : L2.St} {H : Hp} {b : Bool} {D : Ends} (h : TV c σ H b) (k : ∀ H', Same H H' → if b = true then t D σ H' else u D σ H') : tIfS c t u D σ H := h _ k
theorem iteOf {b c : Bool} {A B : Prop} (h : b = c) (k : if c = true then A else B) : if b = true then A else B := by subst h; exact k
theorem mt_dupd {X : Cx} : MtR X "dict.update" (fun x xs H Q => ∃ a b kvs more, x = .ref a ∧ xs = [.ref b] ∧ a ≠ b ∧ H a = some (.dK kvs) ∧ Rd H b (.dK more) ∧ kvs.length + more.length ≤ sizeLine ∧ Q .non (upd H a (.dK (mergeK kvs more)))) := by
  intro pins s σ H x xs v us Q I rx rs h
  obtain ⟨a, b, kvs, more, rfl, rfl, hab, e, e2, hl, q⟩ := h
  obtain rfl : v = Value.ref a := rx
  obtain ⟨u, rfl, ru⟩ := vals1 rs
  obtain rfl : u = Value.ref b := ru
  obtain ⟨z, hd, vs, rel, dd⟩ := dk_of I.hok e
  obtain ⟨z2, hd2, ws, rel2, dd2⟩ := dk_rd I.hok e2
  refine PySem.call_meetsIn PySem.F.slot_dict_update dd.typeIs PySem.F.entry_dict_update (PySem.F.args_dict_update_2 _ _) (PySem.meets_dict_update (mixKind X.prog X.w) a b hab hd2) ⟨vs, ws, dd, dd2, by rw [← rel.length, ← rel2.length]; exact hl, fun h' dd' _ hs => ?_⟩
  have he : ∃ q, h'.get? a = some q := let ⟨q, _, _, hq, _⟩ := dd'; ⟨q, hq⟩
  have hz : (mergeK kvs more).length ≤ sizeLine := by have := length_mergeK more kvs; omega
  exact ⟨.non, _, d_write (t' := s.toks) I (by rw [e]; exact True.intro) hs he (dk_new hz hd (KV.merge rel2 rel) dd'), rfl, q⟩
/-- a kind's sign -/
def kc : Kd → Nat
  | .t => 116
  | .n => 110
  | .q => 113
  | .d => 100
def KS : List (Str × List Kd) := [("create", [.t, .n]), ("trim", [.t, .n, .n]), ("resize", [.t, .n]), ("snapshot", [.t, .t]), ("clone", [.t, .t]), ("rollback", [.t, .t]), ("remove", [.t]), ("rename", [.t, .t]), ("allow", [.t, .q])]
def KD9 : List (Key × V) := KS.map fun e => (Sum.inr e.1, V.str (S (e.2.map kc)))
theorem lookup_filter {α : Type} (k : Str) : ∀ (l : List (Str × α)) (z : Str), (l.filter fun e => !decide (e.1 = k)).lookup z = if z = k then none else l.lookup z
  | [], z => by simp
  | (j, u) :: r, z => by
    have ih := lookup_filter k r z
    rw [List.filter_cons]
    by_cases hj : j = k
    · subst hj
      simp only [decide_true, Bool.not_true, Bool.false_eq_true, if_false]
      rw [ih]
      by_cases hz : z = j
      · rw [if_pos hz, if_pos hz]
      · rw [if_neg hz, if_neg hz, List.lookup_cons, show (z == j) = false from beq_eq_false_iff_ne.mpr hz]
    · simp only [hj, decide_false, Bool.not_false, if_true]
      rw [List.lookup_cons, List.lookup_cons, ih]
      by_cases hz : z = j
      · subst hz
        simp [hj]
      · rw [show (z == j) = false from beq_eq_false_iff_ne.mpr hz]
theorem ks_fs : KS = (FS.filter fun e => !decide (e.1 = ("write" : Str))).map fun e => (e.1, e.2.map kd) := by decide +kernel
theorem lookup_map {α β : Type} (f : α → β) : ∀ (l : List (Str × α)) (z : Str), (l.map fun e => (e.1, f e.2)).lookup z = (l.lookup z).map f
  | [], z => rfl
  | (j, u) :: r, z => by
    rw [List.map_cons, List.lookup_cons, List.lookup_cons, lookup_map f r z]
    cases z == j <;> rfl
theorem valV_map (g : List Kd → V) : ∀ (l : List (Str × List Kd)) (z : Str), valV (l.map fun e => ((Sum.inr e.1 : Key), g e.2)) (Sum.inr z) = (l.lookup z).map g
  | [], z => rfl
  | (j, u) :: r, z => by
    have ih := valV_map g r z
    rw [List.map_cons, List.lookup_cons]
    unfold valV at ih ⊢
    rw [List.find?_cons]
    by_cases hz : z = j
    · subst hz
      simp
    · rw [show (z == j) = false from beq_eq_false_iff_ne.mpr hz]
      have : decide ((Sum.inr j : Key) = Sum.inr z) = false := decide_eq_false fun e => hz (Sum.inr.inj e).symm
      simp only [this]
      exact ih
/-- what the dict of kinds tells of a word -/
theorem kinds_at (p : W) : valV KD9 (Sum.inr (S p)) = if p = write then none else (forms p).map fun ks => V.str (S (ks.map kc)) := by
  have e : KD9 = KS.map fun e => ((Sum.inr e.1 : Key), (fun ks : List Kd => V.str (S (ks.map kc))) e.2) := rfl
  rw [e]
  refine (valV_map (fun ks => V.str (S (ks.map kc))) KS (S p)).trans ?_
  rw [ks_fs, lookup_map, lookup_filter]
  by_cases h : p = write
  · subst h
    rw [if_pos rfl, if_pos write_S.symm]
    rfl
  · rw [if_neg h, if_neg fun z => h (S_inj (z.trans write_S))]
    unfold forms fm
    rfl
def mz {α : Type} (f : α → Option It) : List α → Option (List It)
  | [] => some []
  | p :: r => match f p with
    | some i => (mz f r).map (i :: ·)
    | none => none
theorem mz_app {α : Type} (f : α → Option It) : ∀ (a b : List α), mz f (a ++ b) = match mz f a with
    | some is => (mz f b).map (is ++ ·)
    | none => none
  | [], b => by
    show mz f b = (mz f b).map fun x => [] ++ x
    cases mz f b <;> rfl
  | p :: a, b => by
    rw [List.cons_append, mz, mz_app f a b, mz]
    cases f p with
    | none => rfl
    | some i =>
      dsimp only
      cases mz f a with
      | none => rfl
      | some is => cases mz f b <;> rfl
theorem mz_len {α : Type} {f : α → Option It} : ∀ {a : List α} {is : List It}, mz f a = some is → is.length = a.length
  | [], _, h => by cases h; rfl
  | p :: a, is, h => by
    rw [mz] at h
    cases e : f p with
    | none => rw [e] at h; cases h
    | some i =>
      rw [e] at h
      dsimp only at h
      cases e2 : mz f a with
      | none => rw [e2] at h; cases h
      | some js =>
        rw [e2] at h
        cases h
        rw [List.length_cons, List.length_cons, mz_len e2]
/-- the parts read, pair by pair -/
abbrev duP (p : Kd × W) : Option It := duI num none_ p.1 p.2
theorem duL_Z : ∀ (ks : List Kd) (ws : List W), ws.length = ks.length → duL num none_ ks ws = mz duP (ks.zip ws)
  | [], [], _ => rfl
  | [], _ :: _, h => by simp at h
  | _ :: _, [], h => by simp at h
  | k :: ks, v :: ws, h => by
    have ih := duL_Z ks ws (by simpa using h)
    rw [List.zip_cons_cons, duL, mz, ih]
    show _ = match duI num none_ k v with
      | some i => (mz duP (ks.zip ws)).map (i :: ·)
      | none => none
    cases e : duI num none_ k v with
    | none => rfl
    | some i =>
      dsimp only
      cases mz duP (ks.zip ws) <;> rfl
theorem d6 : mergeK [] (KD9.take 6) = KD9.take 6 := by decide +kernel
theorem d3 : mergeK [] (KD9.drop 6) = KD9.drop 6 := by decide +kernel
theorem d9 : mergeK (KD9.take 6) (KD9.drop 6) = KD9 := by decide +kernel
theorem p6 : [(V.str ("create" : Str), V.str ("tn" : Str)), (V.str ("trim" : Str), V.str ("tnn" : Str)), (V.str ("resize" : Str), V.str ("tn" : Str)), (V.str ("snapshot" : Str), V.str ("tt" : Str)), (V.str ("clone" : Str), V.str ("tt" : Str)), (V.str ("rollback" : Str), V.str ("tt" : Str))] = (KD9.take 6).map fun kv => (kV kv.1, kv.2) := by decide +kernel
theorem p3 : [(V.str ("remove" : Str), V.str ("t" : Str)), (V.str ("rename" : Str), V.str ("tt" : Str)), (V.str ("allow" : Str), V.str ("tq" : Str))] = (KD9.drop 6).map fun kv => (kV kv.1, kv.2) := by decide +kernel
theorem sp_info : ∀ v : W, (sp 32 v).length ≤ v.length + 1 ∧ ∀ u ∈ sp 32 v, u.length ≤ v.length ∧ ∀ c ∈ u, c ∈ v
  | [] => by simp [sp]
  | x :: l => by
    obtain ⟨a, b⟩ := sp_info l
    unfold sp
    split
    · refine ⟨by simpa using a, fun u hu => ?_⟩
      rcases List.mem_cons.mp hu with rfl | hu
      · simp
      · exact ⟨Nat.le_trans (b u hu).1 (by simp), fun c hc => List.mem_cons_of_mem _ ((b u hu).2 c hc)⟩
    · split
      · simp
      · rename_i w r e
        rw [e] at a b
        refine ⟨by simp at a ⊢; omega, fun u hu => ?_⟩
        rcases List.mem_cons.mp hu with rfl | hu
        · have := b w List.mem_cons_self
          refine ⟨by simp; omega, fun c hc => ?_⟩
          rcases List.mem_cons.mp hc with rfl | hc
          · exact List.mem_cons_self
          · exact List.mem_cons_of_mem _ (this.2 c hc)
        · exact ⟨Nat.le_trans (b u (List.mem_cons_of_mem _ hu)).1 (by simp), fun c hc => List.mem_cons_of_mem _ ((b u (List.mem_cons_of_mem _ hu)).2 c hc)⟩
theorem sum_sp : ∀ v : W, ((sp 32 v).map List.length).sum ≤ v.length
  | [] => by simp [sp]
  | x :: l => by
    have ih := sum_sp l
    unfold sp
    split
    · simp
      omega
    · split
      · simp
      · rename_i w r e
        rw [e] at ih
        simp at ih ⊢
        omega
theorem cut3 (x y z : V) (xs : List V) : cutV (x :: y :: z :: xs) (some 3) none = xs := by
  have e : ((xs.length : Int) + 1 + 1 + 1).toNat = xs.length + 3 := by omega
  unfold cutV HT.sIx
  simp
/-- the first test of _law_due -/
def c1 (p : W) (r : List W) : Bool := match r with
  | a :: b :: _ :: _ => decide (p = write) && (!decide (a = []) && num b)
  | _ => false
theorem du_no {v p : W} {r : List W} (hsp : sp 32 v = p :: r) (hc : c1 p r = false) : du v = due.due2 num none_ write forms p r := by
  unfold du due
  rw [hsp]
  match r, hc with
  | [], _ => rfl
  | [a], _ => rfl
  | [a, b], _ => rfl
  | a :: b :: x :: r', hc =>
    show (if p = write ∧ a ≠ [] ∧ num b = true then _ else _) = _
    rw [if_neg]
    rintro ⟨h1, h2, h3⟩
    have hc : (decide (p = write) && (!decide (a = []) && num b)) = false := hc
    rw [decide_eq_true h1, decide_eq_false h2, h3] at hc
    cases hc
def kw (p : W) : Option (List Kd) := if p = write then none else forms p
/-- the second test: no such kind, or another number of parts -/
def c2 (p : W) (r : List W) : Bool := match kw p with
  | none => true
  | some ks => !decide (r.length = ks.length)
theorem c2_eq (p : W) (r : List W) : c2 p r = match kw p with
  | none => true
  | some ks => !decide (r.length = ks.length) := rfl
theorem due2_kw (p : W) (r : List W) : due.due2 num none_ write forms p r = match kw p with
  | none => none
  | some ks => if r.length ≠ ks.length then none else (duL num none_ ks r).map fun is => .s p :: is := by
  unfold due.due2 kw
  by_cases h : p = write
  · rw [if_pos h]
    cases forms p with
    | none => rfl
    | some fs =>
      dsimp only
      rw [if_pos (.inl h)]
  · rw [if_neg h]
    cases forms p with
    | none => rfl
    | some fs =>
      dsimp only
      by_cases hl : r.length ≠ fs.length
      · rw [if_pos (.inr hl), if_pos hl]
      · rw [if_neg fun z => z.elim h hl, if_neg hl]
theorem kw_at (p : W) : valV KD9 (Sum.inr (S p)) = (kw p).map fun ks => V.str (S (ks.map kc)) := by
  rw [kinds_at]
  unfold kw
  split <;> rfl
theorem kw_len {p : W} {ks : List Kd} (h : kw p = some ks) : ks.length ≤ 3 ∧ ∀ k ∈ ks, k ≠ .d := by
  unfold kw at h
  split at h
  · cases h
  · rename_i hp
    refine ⟨?_, (forms_no p ks hp h).2⟩
    unfold forms at h
    cases e : fm (S p) with
    | none => rw [e] at h; cases h
    | some fs =>
      rw [e] at h
      cases h
      rw [List.length_map]
      exact fm_len e
theorem at1 {x y : V} {xs : List V} : atI (x :: y :: xs) 1 = some y := atI_nat (j := 1) rfl
theorem at2 {x y z : V} {xs : List V} : atI (x :: y :: z :: xs) 2 = some z := atI_nat (j := 2) rfl
theorem nil_S : (("" : Str)) = S [] := by decide +kernel
theorem nq_in (k : Kd) : decide (kc k ∈ ("nq" : Str).cps.toList) = (decide (k = .n) || decide (k = .q)) := by
  cases k <;> decide +kernel
theorem t_eq (k : Kd) : decide (V.str (⟨#[kc k]⟩ : Str) = V.str ("t" : Str)) = decide (k = .t) := by
  cases k <;> decide +kernel
theorem q_eq (k : Kd) : decide ((⟨#[kc k]⟩ : Str) = ("q" : Str)) = decide (k = .q) := by
  cases k <;> decide +kernel
theorem ok_one (k : Kd) : PyData.strOk (⟨#[kc k]⟩ : Str) = true := by
  cases k <;> decide +kernel
theorem strOk_S {w : W} (h : w.all okS = true) : PyData.strOk (S w) = true := by
  show (w.toArray : Array Nat).all (· < 0x110000) = true
  simp only [List.all_toArray]
  rw [List.all_eq_true]
  intro c hc
  exact decide_eq_true (okS_lt (List.all_eq_true.mp h c hc))
/-- (a, b) != (c, d), four texts -/
theorem x_ne2 {K : PySem.W.Frag} {H : Hp} {Q : VK} {p q : Addr} {a b c d : Str} (h1 : H p = some (.tup [V.str a, V.str b])) (h2 : H q = some (.tup [V.str c, V.str d])) (ka : PyData.strOk a = true) (kb : PyData.strOk b = true) (kc : PyData.strOk c = true) (kd : PyData.strOk d = true)
    (k : Q (.bl (!(decide (a = c) && decide (b = d)))) H) : rNeD K (.ref p) (.ref q) H Q := by
  refine ⟨.tuple [.str a, .str b], .tuple [.str c, .str d], .tup (SqT.of h1) (.cons (.str _) (.cons (.str _) .nil)), .tup (SqT.of h2) (.cons (.str _) (.cons (.str _) .nil)), ?_, ?_, ?_⟩
  · unfold SeqAt.shaped
    simp [PyData.canLay0, PyData.canLayAll0, PyData.depth, PyData.depthAll, ka, kb]
  · unfold SeqAt.shaped
    simp [PyData.canLay0, PyData.canLayAll0, PyData.depth, PyData.depthAll, kc, kd]
  · have e : PyData.eqv (.tuple [.str a, .str b]) (.tuple [.str c, .str d]) = (decide (a = c) && decide (b = d)) := by
      rw [Bool.eq_iff_iff]
      simp [PyData.eqv, PyData.eqvAll]
    rw [e]
    exact k
theorem duI_isNone (k : Kd) (u : W) : (duI num none_ k u).isNone = (decide (u = []) || ((decide (k = .n) || decide (k = .q)) && (!num u && !(decide (k = .q) && decide (u = none_))))) := by
  unfold duI
  by_cases h : u = [] ∨ ((k = .n ∨ k = .q) ∧ num u = false ∧ ¬ (k = .q ∧ u = none_))
  · rw [if_pos h]
    rcases h with h | ⟨h1, h2, h3⟩
    · rw [decide_eq_true h]
      rfl
    · rw [h2]
      have e1 : (decide (k = .n) || decide (k = .q)) = true := by simpa using h1
      have e2 : (decide (k = .q) && decide (u = none_)) = false := by
        rw [Bool.and_eq_false_iff]
        by_cases hk : k = .q
        · exact .inr (decide_eq_false fun z => h3 ⟨hk, z⟩)
        · exact .inl (decide_eq_false hk)
      rw [e1, e2]
      simp
  · rw [if_neg h]
    have e0 : (if k = .t then some (It.s u) else if u = none_ then some .non else some (.n u)).isNone = false := by
      split
      · rfl
      · split <;> rfl
    rw [e0]
    symm
    rw [Bool.or_eq_false_iff]
    refine ⟨decide_eq_false fun z => h (.inl z), ?_⟩
    rw [Bool.and_eq_false_iff]
    by_cases h1 : k = .n ∨ k = .q
    · right
      rw [Bool.and_eq_false_iff]
      by_cases h2 : num u = true
      · left; rw [h2]; rfl
      · right
        have h2 : num u = false := by simpa using h2
        by_cases h3 : k = .q ∧ u = none_
        · rw [decide_eq_true h3.1, decide_eq_true h3.2]; rfl
        · exact absurd (.inr ⟨h1, h2, h3⟩) h
    · left
      simpa using h1
theorem duI_t {u : W} {i : It} (h : duI num none_ .t u = some i) : i = .s u := by
  unfold duI at h
  split at h
  · cases h
  · rw [if_pos rfl] at h
    exact (Option.some.inj h).symm
theorem duI_o {k : Kd} {u : W} {i : It} (hk : k ≠ .t) (hd : k ≠ .d) (h : duI num none_ k u = some i) : (u = none_ ∧ i = .non) ∨ (u ≠ none_ ∧ num u = true ∧ i = .n u) := by
  unfold duI at h
  split at h
  · cases h
  · rename_i hc
    try rw [if_neg hk] at h
    split at h
    · rename_i hu
      exact .inl ⟨hu, (Option.some.inj h).symm⟩
    · rename_i hu
      refine .inr ⟨hu, ?_, (Option.some.inj h).symm⟩
      cases hn : num u with
      | true => rfl
      | false =>
        refine absurd (.inr ⟨?_, hn, fun z => hu z.2⟩) hc
        cases k with
        | t => exact absurd rfl hk
        | d => exact absurd rfl hd
        | n => exact .inl rfl
        | q => exact .inr rfl
/-- the found ones so far -/
def Pd (H0 : Hp) (f m : Addr) (mv : HO) (p : W) (s1 : V) (w1 d : Addr) (pre : List (Kd × W)) (σ : L2.St) (H : Hp) : Prop := Same H0 H ∧ H m = some mv ∧ ∃ is o4 o5, σ = [some s1, some (V.ref w1), some (V.ref d), some (V.ref f), o4, o5] ∧ mz duP pre = some is ∧ H f = some (.lst (V.str (S p) :: is.map itV))
def sp_due : Sp := fun vs H Q _ => ∃ z : Str, vs = [.str z] ∧ z.length ≤ 5000 ∧ z.cps.toList.all okS = true ∧ (∀ is p H', du z.cps.toList = some is → Same H H' → H p = none → H' p = some (.tup (is.map itV)) → Q (.ref p) H') ∧ (du z.cps.toList = none → ∀ H', Same H H' → Q .non H')
section
variable {P : Program} {w : World} {K : PySem.W.Frag} {mg : Str → Option Value} {base : Heap} {t1 t2 : Tok}
theorem ok_due (T : Tx K mg t1 t2) {fd : FuncData} (F : Fd K d_law_due fd) (C_law_is_number : My.Cl P w K mg base "_law_is_number" ["_law_text_here"] 1 sp_lnum) : FnOk P w K mg base CX0 2 (He.fAd K d_law_due.at_) fd ["_law_text_here"] sp_due := by
  refine F.ok sc_law_due (fun vs H Q E h => ?_) (fun cdv A outer s H vs Q E hr h => ?_)
  · obtain ⟨z, rfl, _⟩ := h
    rfl
  · obtain ⟨z, rfl, hz, hok, q1, q2⟩ := h
    obtain ⟨v, rfl⟩ : ∃ v, z = S v := ⟨z.cps.toList, rfl⟩
    have hv : v.length ≤ 5000 := hz
    have hok : v.all okS = true := hok
    have q1 : ∀ is p H', du v = some is → Same H H' → H p = none → H' p = some (.tup (is.map itV)) → Q (.ref p) H' := q1
    have q2 : du v = none → ∀ H', Same H H' → Q .non H' := q2
    refine ⟨_, PSs.nox ((pss_cons (ps_set (i := 1) sc_law_due.nd rfl (Or.inl rfl) (pe_bm PySem.F.plainAttrs_str PySem.F.slot_str_split PySem.F.type_str_split mt_split (pv 0) (pa_cons pe_str pa_nil)))
  (pss_cons (ps_set (i := 2) sc_law_due.nd rfl (Or.inl rfl) (pe_disp (pps_cons pe_str pe_str (pps_cons pe_str pe_str (pps_cons pe_str pe_str (pps_cons pe_str pe_str (pps_cons pe_str pe_str (pps_cons pe_str pe_str pps_nil)))))) rfl rfl (by simp) (by decide)))
  (pss_cons (ps_expr (pe_bm PySem.F.plainAttrs_dict PySem.F.slot_dict_update PySem.F.type_dict_update mt_dupd (pv 2) (pa_cons (pe_disp (pps_cons pe_str pe_str (pps_cons pe_str pe_str (pps_cons pe_str pe_str pps_nil))) rfl rfl (by simp) (by decide)) pa_nil)))
  (pss_cons (ps_if (PW.pt (pw_and (pt_cmpR op_eq (pe_ix ix_list (pv 1) pe_int (fun _ _ => rfl)) pe_str (nomark _)) (pw_and (pt_cmpR op_gt (pe_callB call_len_seq (by rfl) T.n_len (by decide +kernel) (pa_cons (pv 1) pa_nil)) pe_int (nomark _)) (pw_and (pt_cmpR op_ne (pe_ix ix_list (pv 1) pe_int (fun _ _ => rfl)) pe_str (nomark _)) (pw_and1 (pt_val (My.pe_cl C_law_is_number (hr.mono (by decide)) rfl (pa_cons (pe_ix ix_list (pv 1) pe_int (fun _ _ => rfl)) pa_nil))))))))
  (pss_one (ps_ret (pe_tup (pa_cons pe_str (pa_cons (pe_ix ix_list (pv 1) pe_int (fun _ _ => rfl)) (pa_cons (pe_callTy call_int_str (by rfl) T.n_int (by decide +kernel) (pa_cons (pe_ix ix_list (pv 1) pe_int (fun _ _ => rfl)) pa_nil)) (pa_cons (pe_bm PySem.F.plainAttrs_str PySem.F.slot_str_join PySem.F.type_str_join mt_join pe_str (pa_cons (pe_slice sl_list (pv 1) (po_some pe_int) po_none) pa_nil)) pa_nil)))))))
  pss_nil)
  (pss_cons (ps_if (PW.pt (pw_or (pt_cmp (pc_dnotin (by exact hu_of hr) (pe_ix ix_list (pv 1) pe_int (fun _ _ => rfl)) (pv 2))) (pw_or1 (pt_cmpR op_ne (pe_callB call_len_seq (by rfl) T.n_len (by decide +kernel) (pa_cons (pv 1) pa_nil)) (pe_op op_add pe_int (pe_callB call_len_str (by rfl) T.n_len (by decide +kernel) (pa_cons (pe_dget (by exact hu_of hr) (pv 2) (pe_ix ix_list (pv 1) pe_int (fun _ _ => rfl)) (fun _ _ => rfl)) pa_nil))) (nomark _)))))
  (pss_one (ps_ret pe_non))
  pss_nil)
  (pss_cons (ps_set (i := 3) sc_law_due.nd rfl (Or.inl rfl) (pe_lst (pa_cons (pe_ix ix_list (pv 1) pe_int (fun _ _ => rfl)) pa_nil)))
  (pss_cons (ps_for PassesOwn.never rfl (ZN.pi_zz (by rfl) T.n_zip (pa_cons (pe_dget (by exact hu_of hr) (pv 2) (pe_ix ix_list (pv 1) pe_int (fun _ _ => rfl)) (fun _ _ => rfl)) (pa_cons (pe_slice sl_list (pv 1) (po_some pe_int) po_none) pa_nil))) (pg_tup (by rfl) (pgs_cons (pg_name (i := 4) sc_law_due.nd rfl (Or.inl rfl)) (pgs_cons (pg_name (i := 5) sc_law_due.nd rfl (Or.inl rfl)) pgs_nil)))
  (pss_cons (ps_if (PW.pt (pw_or (pt_cmpR op_eq (pv 5) pe_str (nomark _)) (pw_or1 (PW.pt (pw_and (pt_cmpR op_in_sign (pv 4) pe_str rfl) (pw_and (pt_not (pt_val (My.pe_cl C_law_is_number (hr.mono (by decide)) rfl (pa_cons (pv 5) pa_nil)))) (pw_and1 (pt_cmpR (op_neD hr.units) (pe_tup (pa_cons (pv 4) (pa_cons (pv 5) pa_nil))) (pe_tup (pa_cons pe_str (pa_cons pe_str pa_nil))) (nomark _)))))))))
  (pss_one (ps_ret pe_non))
  pss_nil)
  (pss_one (ps_if (pt_cmpR op_eq (pv 4) pe_str (nomark _))
  (pss_one (ps_expr (pe_bm PySem.F.plainAttrs_list PySem.F.slot_list_append PySem.F.type_list_append mt_append (pv 3) (pa_cons (pv 5) pa_nil))))
  (pss_one (ps_expr (pe_bm PySem.F.plainAttrs_list PySem.F.slot_list_append PySem.F.type_list_append mt_append (pv 3) (pa_cons (pe_ifExp (pt_cmpR op_eq (pv 5) pe_str (nomark _)) pe_non (pe_callTy call_int_str (by rfl) T.n_int (by decide +kernel) (pa_cons (pv 5) pa_nil))) pa_nil))))))))
  (pss_one (ps_ret (pe_callTy call_tuple_of (by rfl) T.n_tuple (by decide +kernel) (pa_cons (pv 3) pa_nil)))))))))))), ?_⟩
    refine My.x_start (σ := [some (V.str (S v)), none, none, none, none, none]) rfl ?_
    try dsimp only [cxOf, Cx.nox]
    walk_at "sx"
    refine ⟨rfl, ?_⟩
    walk_at "sx"
    refine ⟨S v, _, rfl, rfl, by decide +kernel, by rw [sizeLine_eq]; show v.length + 2 ≤ _; omega, fun w1 hw1 => ?_⟩
    obtain ⟨p, r, hsp⟩ := sp_cons v
    rw [split_V, hsp]
    have s1 := My.Same.new (o := .lst (((p :: r).map S).map V.str)) (Same.refl H) hw1
    have g1 : upd H w1 (.lst (((p :: r).map S).map V.str)) w1 = some (.lst (((p :: r).map S).map V.str)) := upd_same
    generalize upd H w1 (.lst (((p :: r).map S).map V.str)) = H1 at s1 g1 ⊢
    walk_at "sx"
    refine fun d hd => ⟨upd_same, KD9.take 6, p6, by decide, ?_⟩
    rw [d6, upd_upd]
    have s2 := My.Same.new (o := .dK (KD9.take 6)) s1 hd
    have n1 : w1 ≠ d := ne_of_none g1 hd
    replace g1 := (upd_ne (H := H1) (o := .dK (KD9.take 6)) n1).trans g1
    have nd : H d = none := s1.free hd
    have gd : upd H1 d (.dK (KD9.take 6)) d = some (.dK (KD9.take 6)) := upd_same
    generalize upd H1 d (.dK (KD9.take 6)) = H2 at s2 g1 gd ⊢
    walk_at "sx"
    refine ⟨.inr (.inr (.inl ⟨rfl, .inl ⟨_, gd⟩⟩)), ?_⟩
    walk_at "sx"
    refine fun e he => ⟨upd_same, KD9.drop 6, p3, by decide, ?_⟩
    rw [d3, upd_upd]
    have s3 := My.Same.new (o := .dK (KD9.drop 6)) s2 he
    have n2 : d ≠ e := ne_of_none gd he
    replace g1 := (upd_ne (H := H2) (o := .dK (KD9.drop 6)) (ne_of_none g1 he)).trans g1
    replace gd := (upd_ne (H := H2) (o := .dK (KD9.drop 6)) n2).trans gd
    have ge : upd H2 e (.dK (KD9.drop 6)) e = some (.dK (KD9.drop 6)) := upd_same
    generalize upd H2 e (.dK (KD9.drop 6)) = H3 at s3 g1 gd ge ⊢
    walk_at "sx"
    refine ⟨d, e, _, _, rfl, rfl, n2, gd, .inl ge, by decide +kernel, ?_⟩
    rw [d9]
    have s4 : Same H (upd H3 d (.dK KD9)) := My.Same.mut s3 nd
    replace g1 := (upd_ne (H := H3) (o := .dK KD9) n1).trans g1
    replace gd : upd H3 d (.dK KD9) d = some (.dK KD9) := upd_same
    clear ge n2
    show tSeq _ _ _ _ (upd H3 d (.dK KD9))
    generalize upd H3 d (.dK KD9) = H4 at s4 g1 gd ⊢
    clear s1 s2 s3 hw1 hd he
    have info := sp_info v
    rw [hsp] at info
    refine My.x_seq (x_ifsV (b := c1 p r) ?_ fun H5 s5 => ?_)
    · intro Q' hQ
      walk_at "sx"
      refine My.x_ixL (SqL.of g1) at0 ?_
      walk_at "sx"
      refine My.x_eq rfl ?_
      rw [write_S, str_eq]
      refine My.x_exbl ?_
      by_cases hw : p = write
      · rw [decide_eq_true hw]
        walk_at "sx"
        refine My.x_len (SqL.of g1) ?_
        walk_at "sx"
        match r, info, g1 with
        | [], _, _ =>
          refine My.x_iF ?_
          exact hQ _ (Same.refl _)
        | [a], _, _ =>
          refine My.x_iF ?_
          exact hQ _ (Same.refl _)
        | [a, b], _, _ =>
          refine My.x_iF ?_
          exact hQ _ (Same.refl _)
        | a :: b :: x :: r', info, g1 =>
          have ec : c1 p (a :: b :: x :: r') = (!decide (a = []) && num b) := by
            show (decide (p = write) && (!decide (a = []) && num b)) = _
            rw [decide_eq_true hw]
            rfl
          rw [ec] at hQ
          rw [decide_eq_true (by simp only [List.length_map, List.length_cons]; omega)]
          walk_at "sx"
          refine My.x_ixL (SqL.of g1) at1 ?_
          walk_at "sx"
          refine My.x_ne rfl ?_
          rw [nil_S, str_eq]
          refine My.x_exbl ?_
          by_cases ha : a = []
          · rw [decide_eq_true ha] at hQ ⊢
            exact hQ _ (Same.refl _)
          · rw [decide_eq_false ha] at hQ ⊢
            walk_at "sx"
            refine My.x_ixL (SqL.of g1) at2 ?_
            walk_at "sx"
            have hb := info.2 b (by simp)
            refine ⟨S b, rfl, Nat.le_trans hb.1 hv, List.all_eq_true.mpr fun c hc => List.all_eq_true.mp hok c (hb.2 c hc), fun H5 s5 => ?_⟩
            exact My.x_exbl (b := num b) (hQ _ s5)
      · rw [decide_eq_false hw]
        have e : c1 p r = false := by
          unfold c1
          split
          · rw [decide_eq_false hw]; rfl
          · rfl
        rw [e] at hQ
        exact hQ _ (Same.refl _)
    · have s5' := s4.trans s5
      replace g1 := s5 _ _ g1
      replace gd := s5 _ _ gd
      clear s4 s5
      generalize hc : c1 p r = cc
      cases cc with
      | true =>
        obtain ⟨a, b, x, r', rfl, hw, ha, hb⟩ : ∃ a b x r', r = a :: b :: x :: r' ∧ p = write ∧ a ≠ [] ∧ num b = true := by
          unfold c1 at hc
          split at hc
          · rename_i a b x r'
            rw [Bool.and_eq_true, Bool.and_eq_true, decide_eq_true_eq] at hc
            exact ⟨a, b, x, r', rfl, hc.1, by simpa using hc.2.1, hc.2.2⟩
          · cases hc
        have hdu : du v = some [.s p, .s a, .n b, .s (join 32 (x :: r'))] := by
          unfold du due
          rw [hsp]
          dsimp only
          rw [if_pos ⟨hw, ha, hb⟩]
        walk_at "sx"
        refine My.x_ixL (SqL.of g1) at1 ?_
        walk_at "sx"
        refine My.x_ixL (SqL.of g1) at2 ?_
        walk_at "sx"
        refine ⟨S b, _, rfl, num_int hb, Nat.le_trans (num_digits hb).2.1 (by decide), ?_⟩
        walk_at "sx"
        refine ⟨rfl, ?_⟩
        walk_at "sx"
        refine My.x_slL (SqL.of g1) fun m hm => ?_
        have e3 : cutV (((p :: a :: b :: x :: r').map S).map V.str) (some 3) none = ((x :: r').map S).map V.str := cut3 _ _ _ _
        rw [e3]
        walk_at "sx"
        refine ⟨_, m, (x :: r').map S, rfl, rfl, .inl (SqL.of upd_same), ?_, ?_⟩
        · have hs := sum_sp v
          rw [hsp] at hs
          have hl := info.1
          have e4 : (((x :: r').map S).map fun x => x.length) = (x :: r').map List.length := by
            rw [List.map_map]
            rfl
          have e6 : ((" " : Str)).length = 1 := by decide +kernel
          rw [e4, e6, List.length_map]
          simp only [List.map_cons, List.sum_cons, List.length_cons] at hs hl ⊢
          omega
        · rw [join_Str]
          walk_at "sx"
          refine ⟨Nat.le_of_ble_eq_true rfl, fun n hn => ?_⟩
          have s6 := My.Same.new (o := .lst (((x :: r').map S).map V.str)) s5' hm
          refine q1 _ n _ hdu (My.Same.new s6 hn) (s6.free hn) ?_
          rw [upd_same, hw]
          have e7 : (V.str ("write" : Str)) = V.str (S write) := by rw [write_S]
          rw [e7]
          rfl
      | false =>
        have hdu : du v = due.due2 num none_ write forms p r := du_no hsp hc
        refine My.x_iF ?_
        refine My.x_next (My.x_seq (x_ifsV (b := c2 p r) ?_ fun H6 s6 => ?_))
        · intro Q' hQ
          walk_at "sx"
          refine My.x_ixL (SqL.of g1) at0 ?_
          walk_at "sx"
          refine ⟨d, _, rfl, .inl ⟨KD9, Sum.inr (S p), .inl gd, rfl, rfl⟩, ?_⟩
          rw [kw_at]
          rw [c2_eq] at hQ
          cases hk : kw p with
          | none =>
            rw [hk] at hQ
            exact My.x_exbl (b := true) (My.x_iT (hQ _ (Same.refl _)))
          | some ks =>
            rw [hk] at hQ
            obtain ⟨kl, kn⟩ := kw_len hk
            refine My.x_exbl (b := false) (My.x_iF ?_)
            walk_at "sx"
            refine My.x_len (SqL.of g1) ?_
            walk_at "sx"
            refine My.x_ixL (SqL.of g1) at0 ?_
            refine My.x_dgetS gd (by rw [kw_at, hk]; rfl) ?_
            walk_at "sx"
            refine ⟨_, rfl, by rw [len_S, List.length_map, sizeLine_eq]; omega, ?_⟩
            walk_at "sx"
            refine My.x_ne rfl ?_
            refine My.x_exbl ?_
            have e : decide (V.int ((((p :: r).map S).map V.str).length : Nat) = V.int (1 + ((S (ks.map kc)).length : Nat))) = decide (r.length = ks.length) := by
              rw [len_S, List.length_map, List.length_map, List.length_map, List.length_cons]
              by_cases h : r.length = ks.length
              · rw [decide_eq_true h]
                refine decide_eq_true ?_
                rw [h]
                congr 1
                omega
              · rw [decide_eq_false h]
                refine decide_eq_false fun z => h ?_
                have z := V.int.inj z
                omega
            rw [e]
            exact hQ _ (Same.refl _)
        · have s6' := s5'.trans s6
          replace g1 := s6 _ _ g1
          replace gd := s6 _ _ gd
          clear s5' s6
          rw [due2_kw] at hdu
          rw [c2_eq]
          cases hk : kw p with
          | none =>
            refine My.x_iT ?_
            walk_at "sx"
            exact q2 (by rw [hdu, hk]) _ s6'
          | some ks =>
            obtain ⟨kl, kn⟩ := kw_len hk
            rw [hk] at hdu
            dsimp only at hdu ⊢
            by_cases hl : r.length = ks.length
            · refine iteOf (show (!decide (r.length = ks.length)) = false by rw [decide_eq_true hl]; rfl) ?_
              rw [if_neg (fun z => z hl)] at hdu
              rw [duL_Z ks r hl] at hdu
              refine My.x_iF ?_
              walk_at "sx"
              refine My.x_ixL (SqL.of g1) at0 ?_
              walk_at "sx"
              refine ⟨Nat.le_of_ble_eq_true rfl, fun f hf => ?_⟩
              have nf : H f = none := s6'.free hf
              have s7 := My.Same.new (o := .lst [V.str (S p)]) s6' hf
              have nfd : d ≠ f := ne_of_none gd hf
              have nf1 : w1 ≠ f := ne_of_none g1 hf
              replace g1 := (upd_ne (H := H6) (o := .lst [V.str (S p)]) nf1).trans g1
              replace gd := (upd_ne (H := H6) (o := .lst [V.str (S p)]) nfd).trans gd
              have gf : upd H6 f (.lst [V.str (S p)]) f = some (.lst [V.str (S p)]) := upd_same
              generalize upd H6 f (.lst [V.str (S p)]) = H7 at s7 g1 gd gf ⊢
              walk_at "sx"
              refine My.x_ixL (SqL.of g1) at0 ?_
              refine My.x_dgetS gd (by rw [kw_at, hk]; rfl) ?_
              walk_at "sx"
              refine My.x_slL (SqL.of g1) fun m hm => ?_
              rw [List.map_cons, List.map_cons, cut1]
              have s8 := My.Same.new (o := .lst ((r.map S).map V.str)) s7 hm
              have nfm : f ≠ m := ne_of_none gf hm
              replace gf := (upd_ne (H := H7) (o := .lst ((r.map S).map V.str)) nfm).trans gf
              have gm : upd H7 m (.lst ((r.map S).map V.str)) m = some (.lst ((r.map S).map V.str)) := upd_same
              generalize upd H7 m (.lst ((r.map S).map V.str)) = H8 at s8 gf gm ⊢
              walk_at "sx"
              have z1 : (ks.zip r).map (fun p => V.str (⟨#[kc p.1]⟩ : Str)) = (S (ks.map kc)).cps.toList.map fun c => V.str (⟨#[c]⟩ : Str) := by
                show (ks.zip r).map ((fun k => V.str (⟨#[kc k]⟩ : Str)) ∘ Prod.fst) = _
                rw [← List.map_map, List.map_fst_zip (by omega)]
                show _ = (ks.map kc).map _
                rw [List.map_map]
                rfl
              have z2 : (ks.zip r).map (fun p => V.str (S p.2)) = (r.map S).map V.str := by
                show (ks.zip r).map ((V.str ∘ S) ∘ Prod.snd) = _
                rw [← List.map_map, List.map_snd_zip (by omega), List.map_map]
              refine ⟨.s (S (ks.map kc)), .l m, _, _, rfl, rfl, SqL.of gm, ?_⟩
              refine LZ.for_two (K := K) (ys := ks.zip r) (f1 := fun (p : Kd × W) => V.str (⟨#[kc p.1]⟩ : Str)) (f2 := fun (p : Kd × W) => V.str (S p.2)) (Pd H f m (.lst ((r.map S).map V.str)) p (.str (S v)) w1 d) ⟨s8, gm, [], _, _, rfl, rfl, gf⟩ (fun pre post σ' H' _ h => ⟨z1, by rw [z2]; exact SqL.of h.2.1⟩) ?_ ?_
              · rintro pre ⟨k, u⟩ post Ti σ' H9 hpre ⟨s9, gm9, is, o4, o5, rfl, his, gf9⟩ nT
                have hin : (k, u) ∈ ks.zip r := by rw [hpre]; simp
                have hur := (List.of_mem_zip hin).2
                have hkd := kn k (List.of_mem_zip hin).1
                have hu := info.2 u (List.mem_cons_of_mem _ hur)
                have huok : u.all okS = true := List.all_eq_true.mpr fun c hc => List.all_eq_true.mp hok c (hu.2 c hc)
                have nTm : m ≠ Ti := ne_of_none gm9 nT
                have nTf : f ≠ Ti := ne_of_none gf9 nT
                have sT := My.Same.new (o := .tup [V.str (⟨#[kc k]⟩ : Str), V.str (S u)]) s9 nT
                replace gm9 := (upd_ne (H := H9) (o := .tup [V.str (⟨#[kc k]⟩ : Str), V.str (S u)]) nTm).trans gm9
                replace gf9 := (upd_ne (H := H9) (o := .tup [V.str (⟨#[kc k]⟩ : Str), V.str (S u)]) nTf).trans gf9
                refine My.x_gtup (SqT.of upd_same) rfl ?_
                clear nTm nTf
                show gCons _ _ _ _ (upd H9 Ti (.tup [V.str (⟨#[kc k]⟩ : Str), V.str (S u)])) _
                generalize upd H9 Ti (.tup [V.str (⟨#[kc k]⟩ : Str), V.str (S u)]) = H10 at sT gm9 gf9 ⊢
                clear s9 nT
                refine My.x_gcons (My.x_g4 (My.x_gcons (My.x_g5 (My.x_gnil (My.x_seq (x_ifsV (b := (duI num none_ k u).isNone) ?_ fun H11 s11 => ?_))))))
                · intro Q' hQ
                  walk_at "sx"
                  refine My.x_eq rfl ?_
                  rw [nil_S, str_eq]
                  refine My.x_exbl ?_
                  rw [duI_isNone] at hQ
                  by_cases h0 : u = []
                  · rw [decide_eq_true h0] at hQ ⊢
                    exact My.x_iT (hQ _ (Same.refl _))
                  · rw [decide_eq_false h0, Bool.false_or] at hQ
                    rw [decide_eq_false h0]
                    refine My.x_iF ?_
                    walk_at "sx"
                    refine ⟨kc k, _, rfl, rfl, ?_⟩
                    rw [nq_in]
                    refine My.x_exbl ?_
                    cases hnq : (decide (k = .n) || decide (k = .q)) with
                    | false =>
                      rw [hnq, Bool.false_and] at hQ
                      exact My.x_iF (hQ _ (Same.refl _))
                    | true =>
                      rw [hnq, Bool.true_and] at hQ
                      refine My.x_iT ?_
                      walk_at "sx"
                      refine ⟨S u, rfl, Nat.le_trans hu.1 hv, huok, fun H11 s11 => My.x_exbl (b := num u) ?_⟩
                      cases hnu : num u with
                      | true =>
                        rw [hnu] at hQ
                        exact My.x_iF (hQ _ s11)
                      | false =>
                        rw [hnu] at hQ
                        refine My.x_iT ?_
                        walk_at "sx"
                        refine ⟨Nat.le_of_ble_eq_true rfl, fun a ha => ?_⟩
                        have s12 := My.Same.new (o := .tup [V.str (⟨#[kc k]⟩ : Str), V.str (S u)]) s11 ha
                        have ga : upd H11 a (.tup [V.str (⟨#[kc k]⟩ : Str), V.str (S u)]) a = some (.tup [V.str (⟨#[kc k]⟩ : Str), V.str (S u)]) := upd_same
                        generalize upd H11 a (.tup [V.str (⟨#[kc k]⟩ : Str), V.str (S u)]) = H12 at s12 ga ⊢
                        walk_at "sx"
                        refine ⟨Nat.le_of_ble_eq_true rfl, fun b hb => ?_⟩
                        have s13 := My.Same.new (o := .tup [V.str ("q" : Str), V.str ("none" : Str)]) s12 hb
                        replace ga := (upd_ne (H := H12) (o := .tup [V.str ("q" : Str), V.str ("none" : Str)]) (ne_of_none ga hb)).trans ga
                        refine x_ne2 ga upd_same (ok_one k) (strOk_S huok) (by decide +kernel) (by decide +kernel) ?_
                        rw [q_eq, none_S]
                        have e : decide (S u = S none_) = decide (u = none_) := by
                          by_cases h : u = none_
                          · rw [h, decide_eq_true rfl, decide_eq_true rfl]
                          · rw [decide_eq_false h, decide_eq_false fun z => h (S_inj z)]
                        rw [e]
                        exact My.x_exbl (hQ _ s13)
                · have s14 := sT.trans s11
                  replace gm9 := s11 _ _ gm9
                  replace gf9 := s11 _ _ gf9
                  clear sT s11
                  have hmz : ∀ i, duI num none_ k u = some i → mz duP (pre ++ [(k, u)]) = some (is ++ [i]) := fun i hi => by
                    have hi' : duP (k, u) = some i := hi
                    rw [mz_app, his]
                    simp [mz, hi']
                  cases hdi : duI num none_ k u with
                  | none =>
                    refine My.x_iT ?_
                    walk_at "sx"
                    refine q2 ?_ _ s14
                    have hi' : duP (k, u) = none := hdi
                    rw [hdu, hpre, mz_app, his]
                    simp [mz, hi']
                  | some i =>
                    refine My.x_iF ?_
                    have hi := hmz i hdi
                    have hpl : is.length ≤ 3 := by
                      rw [mz_len his]
                      have := congrArg List.length hpre
                      rw [List.length_zip, List.length_append] at this
                      omega
                    have app : ∀ σ' : L2.St, (∃ o4 o5, σ' = [some (V.str (S v)), some (V.ref w1), some (V.ref d), some (V.ref f), o4, o5]) → Pd H f m (.lst ((r.map S).map V.str)) p (.str (S v)) w1 d (pre ++ [(k, u)]) σ' (upd H11 f (.lst ((V.str (S p) :: is.map itV) ++ [itV i]))) := by
                      rintro σ' ⟨o4, o5, rfl⟩
                      refine ⟨My.Same.mut s14 nf, by rw [upd_ne nfm.symm]; exact gm9, is ++ [i], o4, o5, rfl, hi, ?_⟩
                      rw [upd_same, List.map_append]
                      rfl
                    walk_at "sx"
                    refine My.x_eq rfl ?_
                    rw [t_eq]
                    refine My.x_exbl ?_
                    have bnd : (V.str (S p) :: is.map itV).length < sizeLine := by rw [List.length_cons, List.length_map, sizeLine_eq]; omega
                    have tyf : tyV K "list" (.ref f) H11 := .inl ⟨rfl, _, SqL.of gf9⟩
                    by_cases hk' : k = .t
                    · subst hk'
                      obtain rfl := duI_t hdi
                      refine My.x_iT ?_
                      walk_at "sx"
                      refine ⟨tyf, ?_⟩
                      walk_at "sx"
                      exact My.x_append gf9 bnd (app _ ⟨_, _, rfl⟩)
                    · refine iteOf (show decide (k = .t) = false from decide_eq_false hk') (My.x_iF ?_)
                      walk_at "sx"
                      refine ⟨tyf, ?_⟩
                      walk_at "sx"
                      refine My.x_eq rfl ?_
                      rw [none_S]
                      refine My.x_exbl ?_
                      rcases duI_o hk' hkd hdi with ⟨hu0, rfl⟩ | ⟨hu0, hnu, rfl⟩
                      · refine iteOf (show decide (V.str (S u) = V.str (S none_)) = true by rw [str_eq, decide_eq_true hu0]) (My.x_iT ?_)
                        walk_at "sx"
                        exact My.x_append gf9 bnd (app _ ⟨_, _, rfl⟩)
                      · refine iteOf (show decide (V.str (S u) = V.str (S none_)) = false by rw [str_eq, decide_eq_false hu0]) (My.x_iF ?_)
                        walk_at "sx"
                        refine ⟨S u, _, rfl, num_int hnu, Nat.le_trans (num_digits hnu).2.1 (by decide), ?_⟩
                        walk_at "sx"
                        exact My.x_append gf9 bnd (app _ ⟨_, _, rfl⟩)
              · rintro σ' H9 ⟨s9, gm9, is, o4, o5, rfl, his, gf9⟩
                walk_at "sx"
                refine ⟨f, _, rfl, .inl ⟨SqL.of gf9, fun l hl => ?_⟩⟩
                refine q1 (.s p :: is) l _ ?_ (My.Same.new s9 hl) (s9.free hl) upd_same
                rw [hdu, his]
                rfl
            · refine iteOf (show (!decide (r.length = ks.length)) = true by rw [decide_eq_false hl]; rfl) ?_
              rw [if_pos hl] at hdu
              refine My.x_iT ?_
              walk_at "sx"
              exact q2 hdu _ s6'
end
end K32

end

section
local macro_rules | `(tactic| walk_at "ne") => `(tactic| first | assumption | (apply Ne.symm; assumption) | exact L2.ne_of_none (by assumption) (by assumption) | exact (L2.ne_of_none (by assumption) (by assumption)).symm)
local macro_rules | `(tactic| walk_at "hp") => `(tactic| first | assumption | exact L2.upd_same | (rw [L2.upd_ne (by walk_at "ne")]; walk_at "hp"))
local macro_rules | `(tactic| walk_at "sq") => `(tactic| first | assumption | exact L2.SqL.of (by walk_at "hp") | exact My.sq_new (by walk_at "sq") (by assumption))
local macro_rules | `(tactic| walk_at "sd") => `(tactic| first | decide | omega | (unfold L2.CDivN; omega) | (unfold L2.CMul; omega) | (unfold L2.CPow; omega))
local macro_rules | `(tactic| walk_at "sx1") => `(tactic| first | with_reducible refine My.x_seq ?_ | with_reducible refine My.x_asg ?_ | with_reducible refine My.x_ret ?_ | with_reducible refine My.x_next ?_ | with_reducible refine My.x_op ?_ | with_reducible refine My.x_c ?_ | with_reducible refine My.x_ifs ?_ | with_reducible refine My.x_test ?_ | with_reducible refine My.x_exbl ?_ | with_reducible refine My.x_cons ?_ | with_reducible refine My.x_nil ?_ | with_reducible refine My.x_cb ?_ | with_reducible refine My.x_drop ?_ | with_reducible refine My.x_par ?_ | with_reducible refine My.x_exp2 ?_ | with_reducible refine My.x_aug ?_ | with_reducible refine My.x_if ?_ | with_reducible refine My.x_tB ?_ | with_reducible refine My.x_and ?_ | with_reducible refine My.x_or ?_ | with_reducible refine My.x_not ?_ | with_reducible refine My.x_retn ?_ | with_reducible refine My.x_cont ?_ | with_reducible refine My.x_brk ?_ | with_reducible refine My.x_un ?_ | with_reducible refine My.x_tfor ?_ | with_reducible refine My.x_ilist ?_ | with_reducible refine My.x_rng1 ?_ | with_reducible refine My.x_rng2 ?_ | with_reducible refine My.x_r1 ?_ | with_reducible refine My.x_call ?_ | with_reducible refine My.x_sl ?_ | with_reducible refine My.x_part ?_ | with_reducible refine My.x_nopart ?_ | with_reducible refine My.x_ii0 ?_ | with_reducible refine My.x_yes ?_ | with_reducible refine My.x_andv ?_ | with_reducible refine My.x_orv ?_ | with_reducible refine My.x_notv ?_ | with_reducible refine My.x_iT ?_ | with_reducible refine My.x_iF ?_ | with_reducible refine My.x_chain ?_ | with_reducible refine My.x_exI ?_ | with_reducible refine My.x_wipe ?_ | with_reducible refine My.x_bm ?_ | with_reducible refine My.x_bm0 ?_ | with_reducible refine My.x_gsub ?_ | with_reducible refine My.x_int1 ?_ | with_reducible refine My.x_two ?_ | with_reducible refine My.x_lst ?_ | with_reducible refine My.x_tup ?_ | with_reducible refine My.x_revL ?_ | with_reducible refine My.x_dput ?_ | with_reducible refine My.x_dget ?_ | with_reducible refine My.x_dnew ?_ | with_reducible refine My.x_dc ?_ | with_reducible refine My.x_lc ?_ | with_reducible refine My.x_ienum ?_ | with_reducible refine My.x_gcons ?_ | with_reducible refine My.x_gnil ?_ | with_reducible refine My.x_v0 ?_ | with_reducible refine My.x_v1 ?_ | with_reducible refine My.x_v2 ?_ | with_reducible refine My.x_v3 ?_ | with_reducible refine My.x_v4 ?_ | with_reducible refine My.x_v5 ?_ | with_reducible refine My.x_v6 ?_ | with_reducible refine My.x_v7 ?_ | with_reducible refine My.x_v8 ?_ | with_reducible refine My.x_v9 ?_ | with_reducible refine My.x_v10 ?_ | with_reducible refine My.x_v11 ?_ | with_reducible refine My.x_v12 ?_ | with_reducible refine My.x_v13 ?_ | with_reducible refine My.x_v14 ?_ | with_reducible refine My.x_v15 ?_ | with_reducible refine My.x_v16 ?_ | with_reducible refine My.x_v17 ?_ | with_reducible refine My.x_v18 ?_ | with_reducible refine My.x_v19 ?_ | with_reducible refine My.x_v20 ?_ | with_reducible refine My.x_v21 ?_ | with_reducible refine My.x_v22 ?_ | with_reducible refine My.x_v23 ?_ | with_reducible refine My.x_v24 ?_ | with_reducible refine My.x_v25 ?_ | with_reducible refine My.x_g0 ?_ | with_reducible refine My.x_g1 ?_ | with_reducible refine My.x_g2 ?_ | with_reducible refine My.x_g3 ?_ | with_reducible refine My.x_g4 ?_ | with_reducible refine My.x_g5 ?_ | with_reducible refine My.x_g6 ?_ | with_reducible refine My.x_g7 ?_ | with_reducible refine My.x_g8 ?_ | with_reducible refine My.x_g9 ?_ | with_reducible refine My.x_g10 ?_ | with_reducible refine My.x_g11 ?_ | with_reducible refine My.x_g12 ?_ | with_reducible refine My.x_g13 ?_ | with_reducible refine My.x_g14 ?_ | with_reducible refine My.x_g15 ?_ | with_reducible refine My.x_g16 ?_ | with_reducible refine My.x_g17 ?_ | with_reducible refine My.x_g18 ?_ | with_reducible refine My.x_g19 ?_ | with_reducible refine My.x_g20 ?_ | with_reducible refine My.x_g21 ?_ | with_reducible refine My.x_g22 ?_ | with_reducible refine My.x_g23 ?_ | with_reducible refine My.x_g24 ?_ | with_reducible refine My.x_g25 ?_)
local macro_rules | `(tactic| walk_at "sx") => `(tactic| repeat (walk_at "sx1"))
local macro_rules | `(tactic| walk_at "ln") => `(tactic| first | assumption | exact Nat.le_of_ble_eq_true rfl | (simp only [List.length_append, List.length_map, List.length_cons, List.length_nil]; simp only [PySem.sizeLine]; omega))
local macro_rules | `(tactic| walk_at "st") => `(tactic| first | assumption | exact L2.SqT.of (by walk_at "hp"))
local macro_rules | `(tactic| walk_at "go1") => `(tactic| first | walk_at "sx1" | ((with_reducible refine' My.x_ixL ?x0 ?x1 ?x2); (case x0 => walk_at "sq"); (case x1 => exact rfl)) | ((with_reducible refine' My.x_ixT ?x0 ?x1 ?x2); (case x0 => walk_at "st"); (case x1 => exact rfl)) | ((with_reducible refine' My.x_i ?x0 ?x1); (case x0 => walk_at "sd")) | ((with_reducible refine' My.x_setL ?x0 ?x1 ?x2); (case x0 => walk_at "hp"); (case x1 => exact rfl)) | ((with_reducible refine' My.x_len ?x0 ?x1); (case x0 => walk_at "sq")) | ((with_reducible refine' My.x_lenT ?x0 ?x1); (case x0 => walk_at "st")) | ((with_reducible refine' My.x_lenD ?x0 ?x1); (case x0 => walk_at "hp")) | ((with_reducible refine' My.x_append ?x0 ?x1 ?x2); (case x0 => walk_at "hp"); (case x1 => walk_at "ln")) | ((with_reducible refine' My.x_tyL ?x0 ?x1); (case x0 => walk_at "hp")) | ((with_reducible refine' My.x_ilistE ?x0 ?x1); (case x0 => walk_at "sq")) | ((with_reducible refine' My.x_ienumE ?x0 ?x1); (case x0 => walk_at "sq")) | ((with_reducible refine' My.x_sortI ?x0 ?x1); (case x0 => walk_at "sq")) | ((with_reducible refine' My.x_slL ?x0 ?x1); (case x0 => walk_at "sq")) | ((with_reducible refine' My.x_revL2 ?x0 ?x1); (case x0 => walk_at "sq")) | ((with_reducible refine' My.x_eq ?x0 ?x1); (case x0 => exact rfl)) | ((with_reducible refine' My.x_ne ?x0 ?x1); (case x0 => exact rfl)) | ((with_reducible refine' My.x_dputI ?x0 ?x1 ?x2); (case x0 => walk_at "hp"); (case x1 => walk_at "ln")) | ((with_reducible refine' My.x_dputS ?x0 ?x1 ?x2); (case x0 => walk_at "hp"); (case x1 => walk_at "ln")) | ((with_reducible refine' My.x_seqof ?x0 ?x1); (case x0 => walk_at "sq")) | ((with_reducible refine' My.x_gtup ?x0 ?x1 ?x2); (case x0 => walk_at "st"); (case x1 => exact rfl)) | ((with_reducible refine' My.x_mem1 ?x0 ?x1); (case x0 => walk_at "ln")))
local macro_rules | `(tactic| walk_at "go") => `(tactic| repeat (walk_at "go1"))
local macro_rules | `(tactic| walk_at "sx1") => `(tactic| first | with_reducible refine My.x_fld ?_ | with_reducible refine My.x_sfld ?_ | with_reducible refine My.x_meth ?_ | with_reducible refine My.x_make ?_ | with_reducible refine My.x_din ?_ | with_reducible refine My.x_dnin ?_ | with_reducible refine My.x_ikeys ?_ | with_reducible refine My.x_itup ?_ | with_reducible refine My.x_mkO ?_ | with_reducible refine My.x_vei ?_ | with_reducible refine My.x_ost ?_ | with_reducible refine My.x_nF ?_ | with_reducible refine My.x_nT ?_)
local macro_rules | `(tactic| walk_at "go1") => `(tactic| first | ((with_reducible refine' My.x_fldE ?x0 ?x1 ?x2 ?x3 ?x4); (case x0 => walk_at "hp"); (case x1 => assumption); (case x2 => assumption); (case x3 => exact rfl)) | ((with_reducible refine' My.x_sfldE ?x0 ?x1 ?x2 ?x3 ?x4 ?x5); (case x0 => walk_at "hp"); (case x1 => assumption); (case x2 => assumption); (case x3 => decide); (case x4 => exact rfl)) | ((with_reducible refine' My.x_methE ?x0 ?x1 ?x2); (case x0 => walk_at "hp"); (case x1 => exact rfl)) | ((with_reducible refine' My.x_itupE ?x0 ?x1); (case x0 => walk_at "st")))
local macro_rules | `(tactic| walk_at "sx1") => `(tactic| first | with_reducible refine LZ.x_zz ?_ | with_reducible refine LZ.x_star ?_)
namespace K32
open PySem PySem.Spec PyProof.Rows L2
theorem pe_clS {X : Cx} {k : Nat} {ps : List Str} {sp : Sp} {E : L2.St → XK} {x : Str} {p pos : Pos} {e : Expr} {es : List Expr} {t : TA} (C : ClE X.prog X.w X.K X.mg X.base x ps k sp) (hr : Room k X.A) (hx : ∀ σ, PassesAt (L2.CX X.prog X.w) X σ (E σ)) (hg : Gl X x)
    (ha : PA X (e :: es) t) (hdb : (x == ("__debug__" : Str)) = false := by decide) (he : starEach (e :: es) X.env = (false, eval e X.env) :: starEach es X.env := by rfl) (hpl : (backTo pos (starEach es X.env)).any (·.1) = false := by rfl) :
    PE X (.Call (.Name x p) (e :: es) [] pos) (tCallS sp E t) := by
  obtain ⟨fd, F, b⟩ := C.ex
  exact pe_callS F hr hg C.g C.kp b hx ha hdb he hpl
theorem x_callS {sp : Sp} {E : L2.St → XK} {t : TA} {σ : L2.St} {H : Hp} {Q : VK} (h : t σ H fun vs H1 => sp vs H1 Q (E σ)) : tCallS sp E t σ H Q := h
theorem hu100 {k : Nat} {A : Around} (hr : Room k A) : A.units + 100 < cLine := by have := hr.un; omega
/-- what repr shows -/
def Sho (d : PyData) : Prop := d.showable = true ∧ d.canLay0 = true ∧ d.depth ≤ 64 ∧ d.shown.length ≤ sizeLine
theorem x_reprD {K : PySem.W.Frag} {H : Hp} {Q : VK} {v : V} {d : PyData} (h : Dp K H v d) (s : Sho d) (q : Q (.str d.shown) H) : My.rRepr K [v] H Q := ⟨v, d, rfl, h, s.1, s.2.1, s.2.2.1, s.2.2.2, q⟩
theorem len2 {σ : L2.St} (h : σ.length = 2) : ∃ a b, σ = [a, b] := by
  match σ, h with
  | [a, b], _ => exact ⟨a, b, rfl⟩
/-- x is shown as d, here and later -/
def Shw (K : PySem.W.Frag) (H : Hp) (x : V) : Prop := ∃ d, Sho d ∧ ∀ H', Same H H' → Dp K H' x d
def sp_read (K : PySem.W.Frag) : Sp := fun vs H Q _ => ∃ x : V, vs = [x] ∧ Shw K H x ∧ (((∃ t, TyX K H x t ∧ PySem.W.kitOne K t (.type "str") = some false) ∧ ∀ H', Same H H' → Q .non H') ∨
  ∃ z : Str, x = .str z ∧ z.length ≤ 5000 ∧ (∀ is p H', prT z.cps.toList = some is → Same H H' → H p = none → H' p = some (.tup (is.map itV)) → Q (.ref p) H') ∧ (prT z.cps.toList = none → ∀ H', Same H H' → Q .non H'))
def sp_refused (K : PySem.W.Frag) : Sp := fun vs H Q _ => ∃ x : V, vs = [x] ∧ Shw K H x ∧ NoOp K H x ∧ ∀ H', Same H H' → Q (.bl true) H'
section
variable {P : Program} {w : World} {K : PySem.W.Frag} {mg : Str → Option Value} {base : Heap} {t1 t2 : Tok}
abbrev CPa (P : Program) (w : World) (K : PySem.W.Frag) (mg : Str → Option Value) (base : Heap) : Prop := ClE P w K mg base "parse_operation" ["text"] 4 (sp_parse K)
abbrev CFm (P : Program) (w : World) (K : PySem.W.Frag) (mg : Str → Option Value) (base : Heap) : Prop := ClE P w K mg base "format_operation" ["operation"] 3 (sp_fmt K)
theorem ok_read (T : Tx K mg t1 t2) {fd : FuncData} (F : Fd K d_law_read fd) (C_parse_operation : CPa P w K mg base) (kv : PySem.W.kitOne K (.ref (He.ga K "ParseError")) (.type "ValueError") = some true) : My.FnG P w K mg base CX0 5 (He.ga K "_law_read") fd ["_law_text_here"] (sp_read K) := by
  refine My.FunD.okG F sc_law_read (fun vs H Q E h => ?_) (fun cdv A outer s H vs Q E hg hr h => ?_)
  · obtain ⟨x, rfl, _⟩ := h
    rfl
  · obtain ⟨x, rfl, ⟨dx, sh, dp⟩, h⟩ := h
    refine ⟨_, ((pss_one (ps_try_as (i := 1) (tb := fun W => tRet (tCallS (sp_parse K) (WE W) (tCons (tVar 0) tNil))) (ts := fun a cls d => tRet (tIf (tAnd (tTest (tOp rEq (tCB (My.rRepr K) (tCons (tXf a cls d (He.ga K "ParseError") "text" (tVar 1)) tNil)) (tCB (My.rRepr K) (tCons (tVar 0) tNil)))) (tB (tCB (rIsS K (He.ga K "ParseError") a cls d) (tCons (tVar 1) (tCons (tC (.ty "ValueError")) tNil))))) (tC .non) (tC (.str "odd")))) (Wout := fun _ _ _ _ => False) rfl rfl sc_law_read.nd rfl rfl ⟨rfl, by decide, .inl T.exPE.g⟩ takes0 (fun W pn xe tk _ => (pss_one (ps_ret (pe_clS C_parse_operation (hr.mono (by decide)) (passAt tk) rfl (pa_cons (pv 0) pa_nil)))))
 (fun a oe cls d pn hz hf => (pss_one (ps_ret (pe_ifExp (PW.pt (pw_and (pt_cmpR op_eq (pe_callB (My.call_reprD (by exact hg) (by have hq := hu100 hr; exact hq)) (by rfl) T.n_repr (by decide +kernel) (pa_cons (pe_xf T.exPE.xf T.exPE.no hz hf (pv 1)) pa_nil)) (pe_callB (My.call_reprD (by exact hg) (by have hq := hu100 hr; exact hq)) (by rfl) T.n_repr (by decide +kernel) (pa_cons (pv 0) pa_nil)) (nomark _)) (pw_and1 (pt_val (pe_callB (call_isS T.ecP hz hf) (by rfl) T.n_isinstance (by decide +kernel) (pa_cons (pv 1) (pa_cons (pe_bltn (v := .ty "ValueError") rfl T.n_ValueError (by decide +kernel) rfl) pa_nil))))))) pe_non pe_str))))))), ?_⟩
    refine My.x_start (σ := [some x, none]) rfl ?_
    try dsimp only [cxOf, Cx.nox]
    walk_at "sx"
    refine x_callS ?_
    walk_at "sx"
    -- the clause
    have clause : ∀ (D : Ends), D.rt = Q → ∀ (d : Addr) (H' : Hp), Same H H' → H' d = some (.xd [(("text" : Str), x)]) → (∀ H', Same H H' → Q .non H') → ∀ a, H' a = none → (fun a cls d => tRet (tIf (tAnd (tTest (tOp rEq (tCB (My.rRepr K) (tCons (tXf a cls d (He.ga K "ParseError") "text" (tVar 1)) tNil)) (tCB (My.rRepr K) (tCons (tVar 0) tNil))))
        (tB (tCB (rIsS K (He.ga K "ParseError") a cls d) (tCons (tVar 1) (tCons (tC (.ty "ValueError")) tNil))))) (tC .non) (tC (.str ("odd" : Str))))) a (.ref (He.ga K "ParseError")) (some d) D [some x, some (.ref a)] H' := by
      intro D hD d H' s' ed q a ha
      obtain ⟨nx, rt, bk, ct⟩ := D
      obtain rfl : rt = Q := hD
      walk_at "sx"
      refine ⟨_, rfl, rfl, rfl, d, _, x, rfl, ed, rfl, ?_⟩
      walk_at "sx"
      refine x_reprD (dp H' s') sh ?_
      walk_at "sx"
      refine x_reprD (dp H' s') sh ?_
      refine My.x_eq rfl ?_
      refine My.x_exbl ?_
      rw [decide_eq_true rfl]
      refine My.x_iT ?_
      walk_at "sx"
      refine ⟨_, _, true, d, _, rfl, rfl, rfl, ed, .ty "ValueError", kv, ?_⟩
      walk_at "sx"
      exact q H' s'
    rcases h with ⟨ht, q⟩ | ⟨z, rfl, hz, q1, q2⟩
    · refine ⟨x, rfl, .inl ⟨ht, fun H1 s1 d H2 hd s2 ed => ⟨true, T.exPE.m, fun _ a ha => ?_, fun z => nomatch z⟩⟩⟩
      exact clause _ rfl d H2 (s1.trans s2) ed q a ha
    · refine ⟨.str z, rfl, .inr ⟨z, rfl, hz, fun is p H' hi s1 hp ep => q1 is p H' hi s1 hp ep, fun hn H1 s1 d H2 hd s2 ed => ⟨true, T.exPE.m, fun _ a ha => ?_, fun z => nomatch z⟩⟩⟩
      exact clause _ rfl d H2 (s1.trans s2) ed (q2 hn) a ha
theorem ok_refused (T : Tx K mg t1 t2) {fd : FuncData} (F : Fd K d_law_is_refused fd) (C_format_operation : CFm P w K mg base) : My.FnG P w K mg base CX0 4 (He.ga K "_law_is_refused") fd ["_law_value"] (sp_refused K) := by
  refine My.FunD.okG F sc_law_is_refused (fun vs H Q E h => ?_) (fun cdv A outer s H vs Q E hg hr h => ?_)
  · obtain ⟨x, rfl, _⟩ := h
    rfl
  · obtain ⟨x, rfl, ⟨dx, sh, dp⟩, hn, q⟩ := h
    refine ⟨_, ((pss_cons (ps_try_as (i := 1) (tb := fun W => tDrop (tCallS (sp_fmt K) (WE W) (tCons (tVar 0) tNil))) (ts := fun a cls d => tRet (tOp rEq (tCB (My.rRepr K) (tCons (tXf a cls d (He.ga K "InvalidOperation") "value" (tVar 1)) tNil)) (tCB (My.rRepr K) (tCons (tVar 0) tNil)))) (Wout := fun _ _ _ _ => False) rfl rfl sc_law_is_refused.nd rfl rfl ⟨rfl, by decide, .inl T.exIO.g⟩ takes0 (fun W pn xe tk _ => (pss_one (ps_expr (pe_clS C_format_operation (hr.mono (by decide)) (passAt tk) rfl (pa_cons (pv 0) pa_nil)))))
 (fun a oe cls d pn hz hf => (pss_one (ps_ret (pe_cmpR op_eq (pe_callB (My.call_reprD (by exact hg) (by have hq := hu100 hr; exact hq)) (by rfl) T.n_repr (by decide +kernel) (pa_cons (pe_xf T.exIO.xf T.exIO.no hz hf (pv 1)) pa_nil)) (pe_callB (My.call_reprD (by exact hg) (by have hq := hu100 hr; exact hq)) (by rfl) T.n_repr (by decide +kernel) (pa_cons (pv 0) pa_nil)) (nomark _))))))
  (pss_one (ps_ret pe_bl)))), ?_⟩
    refine My.x_start (σ := [some x, none]) rfl ?_
    try dsimp only [cxOf, Cx.nox]
    walk_at "sx"
    refine x_callS ?_
    walk_at "sx"
    refine ⟨x, rfl, .inl ⟨hn, fun d H' hd s' ed => ⟨true, T.exIO.m, fun _ a ha => ?_, fun z => nomatch z⟩⟩⟩
    show tRet _ _ [some x, some (.ref a)] H'
    walk_at "sx"
    refine ⟨_, rfl, rfl, rfl, d, _, x, rfl, ed, rfl, ?_⟩
    walk_at "sx"
    refine x_reprD (dp H' s') sh ?_
    walk_at "sx"
    refine x_reprD (dp H' s') sh ?_
    refine My.x_eq rfl ?_
    rw [decide_eq_true rfl]
    exact q H' s'
end
end K32

end

section
local macro_rules | `(tactic| walk_at "ne") => `(tactic| first | assumption | (apply Ne.symm; assumption) | exact L2.ne_of_none (by assumption) (by assumption) | exact (L2.ne_of_none (by assumption) (by assumption)).symm)
local macro_rules | `(tactic| walk_at "hp") => `(tactic| first | assumption | exact L2.upd_same | (rw [L2.upd_ne (by walk_at "ne")]; walk_at "hp"))
local macro_rules | `(tactic| walk_at "sq") => `(tactic| first | assumption | exact L2.SqL.of (by walk_at "hp") | exact My.sq_new (by walk_at "sq") (by assumption))
local macro_rules | `(tactic| walk_at "sd") => `(tactic| first | decide | omega | (unfold L2.CDivN; omega) | (unfold L2.CMul; omega) | (unfold L2.CPow; omega))
local macro_rules | `(tactic| walk_at "sx1") => `(tactic| first | with_reducible refine My.x_seq ?_ | with_reducible refine My.x_asg ?_ | with_reducible refine My.x_ret ?_ | with_reducible refine My.x_next ?_ | with_reducible refine My.x_op ?_ | with_reducible refine My.x_c ?_ | with_reducible refine My.x_ifs ?_ | with_reducible refine My.x_test ?_ | with_reducible refine My.x_exbl ?_ | with_reducible refine My.x_cons ?_ | with_reducible refine My.x_nil ?_ | with_reducible refine My.x_cb ?_ | with_reducible refine My.x_drop ?_ | with_reducible refine My.x_par ?_ | with_reducible refine My.x_exp2 ?_ | with_reducible refine My.x_aug ?_ | with_reducible refine My.x_if ?_ | with_reducible refine My.x_tB ?_ | with_reducible refine My.x_and ?_ | with_reducible refine My.x_or ?_ | with_reducible refine My.x_not ?_ | with_reducible refine My.x_retn ?_ | with_reducible refine My.x_cont ?_ | with_reducible refine My.x_brk ?_ | with_reducible refine My.x_un ?_ | with_reducible refine My.x_tfor ?_ | with_reducible refine My.x_ilist ?_ | with_reducible refine My.x_rng1 ?_ | with_reducible refine My.x_rng2 ?_ | with_reducible refine My.x_r1 ?_ | with_reducible refine My.x_call ?_ | with_reducible refine My.x_sl ?_ | with_reducible refine My.x_part ?_ | with_reducible refine My.x_nopart ?_ | with_reducible refine My.x_ii0 ?_ | with_reducible refine My.x_yes ?_ | with_reducible refine My.x_andv ?_ | with_reducible refine My.x_orv ?_ | with_reducible refine My.x_notv ?_ | with_reducible refine My.x_iT ?_ | with_reducible refine My.x_iF ?_ | with_reducible refine My.x_chain ?_ | with_reducible refine My.x_exI ?_ | with_reducible refine My.x_wipe ?_ | with_reducible refine My.x_bm ?_ | with_reducible refine My.x_bm0 ?_ | with_reducible refine My.x_gsub ?_ | with_reducible refine My.x_int1 ?_ | with_reducible refine My.x_two ?_ | with_reducible refine My.x_lst ?_ | with_reducible refine My.x_tup ?_ | with_reducible refine My.x_revL ?_ | with_reducible refine My.x_dput ?_ | with_reducible refine My.x_dget ?_ | with_reducible refine My.x_dnew ?_ | with_reducible refine My.x_dc ?_ | with_reducible refine My.x_lc ?_ | with_reducible refine My.x_ienum ?_ | with_reducible refine My.x_gcons ?_ | with_reducible refine My.x_gnil ?_ | with_reducible refine My.x_v0 ?_ | with_reducible refine My.x_v1 ?_ | with_reducible refine My.x_v2 ?_ | with_reducible refine My.x_v3 ?_ | with_reducible refine My.x_v4 ?_ | with_reducible refine My.x_v5 ?_ | with_reducible refine My.x_v6 ?_ | with_reducible refine My.x_v7 ?_ | with_reducible refine My.x_v8 ?_ | with_reducible refine My.x_v9 ?_ | with_reducible refine My.x_v10 ?_ | with_reducible refine My.x_v11 ?_ | with_reducible refine My.x_v12 ?_ | with_reducible refine My.x_v13 ?_ | with_reducible refine My.x_v14 ?_ | with_reducible refine My.x_v15 ?_ | with_reducible refine My.x_v16 ?_ | with_reducible refine My.x_v17 ?_ | with_reducible refine My.x_v18 ?_ | with_reducible refine My.x_v19 ?_ | with_reducible refine My.x_v20 ?_ | with_reducible refine My.x_v21 ?_ | with_reducible refine My.x_v22 ?_ | with_reducible refine My.x_v23 ?_ | with_reducible refine My.x_v24 ?_ | with_reducible refine My.x_v25 ?_ | with_reducible refine My.x_g0 ?_ | with_reducible refine My.x_g1 ?_ | with_reducible refine My.x_g2 ?_ | with_reducible refine My.x_g3 ?_ | with_reducible refine My.x_g4 ?_ | with_reducible refine My.x_g5 ?_ | with_reducible refine My.x_g6 ?_ | with_reducible refine My.x_g7 ?_ | with_reducible refine My.x_g8 ?_ | with_reducible refine My.x_g9 ?_ | with_reducible refine My.x_g10 ?_ | with_reducible refine My.x_g11 ?_ | with_reducible refine My.x_g12 ?_ | with_reducible refine My.x_g13 ?_ | with_reducible refine My.x_g14 ?_ | with_reducible refine My.x_g15 ?_ | with_reducible refine My.x_g16 ?_ | with_reducible refine My.x_g17 ?_ | with_reducible refine My.x_g18 ?_ | with_reducible refine My.x_g19 ?_ | with_reducible refine My.x_g20 ?_ | with_reducible refine My.x_g21 ?_ | with_reducible refine My.x_g22 ?_ | with_reducible refine My.x_g23 ?_ | with_reducible refine My.x_g24 ?_ | with_reducible refine My.x_g25 ?_)
local macro_rules | `(tactic| walk_at "sx") => `(tactic| repeat (walk_at "sx1"))
local macro_rules | `(tactic| walk_at "ln") => `(tactic| first | assumption | exact Nat.le_of_ble_eq_true rfl | (simp only [List.length_append, List.length_map, List.length_cons, List.length_nil]; simp only [PySem.sizeLine]; omega))
local macro_rules | `(tactic| walk_at "st") => `(tactic| first | assumption | exact L2.SqT.of (by walk_at "hp"))
local macro_rules | `(tactic| walk_at "go1") => `(tactic| first | walk_at "sx1" | ((with_reducible refine' My.x_ixL ?x0 ?x1 ?x2); (case x0 => walk_at "sq"); (case x1 => exact rfl)) | ((with_reducible refine' My.x_ixT ?x0 ?x1 ?x2); (case x0 => walk_at "st"); (case x1 => exact rfl)) | ((with_reducible refine' My.x_i ?x0 ?x1); (case x0 => walk_at "sd")) | ((with_reducible refine' My.x_setL ?x0 ?x1 ?x2); (case x0 => walk_at "hp"); (case x1 => exact rfl)) | ((with_reducible refine' My.x_len ?x0 ?x1); (case x0 => walk_at "sq")) | ((with_reducible refine' My.x_lenT ?x0 ?x1); (case x0 => walk_at "st")) | ((with_reducible refine' My.x_lenD ?x0 ?x1); (case x0 => walk_at "hp")) | ((with_reducible refine' My.x_append ?x0 ?x1 ?x2); (case x0 => walk_at "hp"); (case x1 => walk_at "ln")) | ((with_reducible refine' My.x_tyL ?x0 ?x1); (case x0 => walk_at "hp")) | ((with_reducible refine' My.x_ilistE ?x0 ?x1); (case x0 => walk_at "sq")) | ((with_reducible refine' My.x_ienumE ?x0 ?x1); (case x0 => walk_at "sq")) | ((with_reducible refine' My.x_sortI ?x0 ?x1); (case x0 => walk_at "sq")) | ((with_reducible refine' My.x_slL ?x0 ?x1); (case x0 => walk_at "sq")) | ((with_reducible refine' My.x_revL2 ?x0 ?x1); (case x0 => walk_at "sq")) | ((with_reducible refine' My.x_eq ?x0 ?x1); (case x0 => exact rfl)) | ((with_reducible refine' My.x_ne ?x0 ?x1); (case x0 => exact rfl)) | ((with_reducible refine' My.x_dputI ?x0 ?x1 ?x2); (case x0 => walk_at "hp"); (case x1 => walk_at "ln")) | ((with_reducible refine' My.x_dputS ?x0 ?x1 ?x2); (case x0 => walk_at "hp"); (case x1 => walk_at "ln")) | ((with_reducible refine' My.x_seqof ?x0 ?x1); (case x0 => walk_at "sq")) | ((with_reducible refine' My.x_gtup ?x0 ?x1 ?x2); (case x0 => walk_at "st"); (case x1 => exact rfl)) | ((with_reducible refine' My.x_mem1 ?x0 ?x1); (case x0 => walk_at "ln")))
local macro_rules | `(tactic| walk_at "go") => `(tactic| repeat (walk_at "go1"))
local macro_rules | `(tactic| walk_at "sx1") => `(tactic| first | with_reducible refine My.x_fld ?_ | with_reducible refine My.x_sfld ?_ | with_reducible refine My.x_meth ?_ | with_reducible refine My.x_make ?_ | with_reducible refine My.x_din ?_ | with_reducible refine My.x_dnin ?_ | with_reducible refine My.x_ikeys ?_ | with_reducible refine My.x_itup ?_ | with_reducible refine My.x_mkO ?_ | with_reducible refine My.x_vei ?_ | with_reducible refine My.x_ost ?_ | with_reducible refine My.x_nF ?_ | with_reducible refine My.x_nT ?_)
local macro_rules | `(tactic| walk_at "go1") => `(tactic| first | ((with_reducible refine' My.x_fldE ?x0 ?x1 ?x2 ?x3 ?x4); (case x0 => walk_at "hp"); (case x1 => assumption); (case x2 => assumption); (case x3 => exact rfl)) | ((with_reducible refine' My.x_sfldE ?x0 ?x1 ?x2 ?x3 ?x4 ?x5); (case x0 => walk_at "hp"); (case x1 => assumption); (case x2 => assumption); (case x3 => decide); (case x4 => exact rfl)) | ((with_reducible refine' My.x_methE ?x0 ?x1 ?x2); (case x0 => walk_at "hp"); (case x1 => exact rfl)) | ((with_reducible refine' My.x_itupE ?x0 ?x1); (case x0 => walk_at "st")))
local macro_rules | `(tactic| walk_at "sx1") => `(tactic| first | with_reducible refine LZ.x_zz ?_ | with_reducible refine LZ.x_star ?_)
namespace K32
open PySem PySem.Spec PyProof.Rows L2
/-! ### what repr shows of an operation -/
def itD : It → PyData
  | .s w => .str (S w)
  | .n w => .int ((NumText.digitsVal w : Nat) : Int)
  | .non => .none
/-- an item as the law may find it -/
def okI : It → Prop
  | .s w => w.all okS = true ∧ w.length ≤ 5000
  | .n w => NumText.digitsVal w < 10 ^ 30
  | .non => True
theorem val_lt : ∀ (n : Nat) (w : W), w.length ≤ n → NumText.AllDigits w → NumText.digitsVal w < 10 ^ n
  | 0, [], _, _ => by decide
  | n + 1, w, h, d => by
    rcases List.eq_nil_or_concat w with rfl | ⟨l, c, rfl⟩
    · exact Nat.pow_pos (by decide)
    · rw [List.concat_eq_append] at h d ⊢
      have ih := val_lt n l (by rw [List.length_append] at h; simp at h; omega) fun x hx => d x (List.mem_append_left _ hx)
      have hc := d c (by simp)
      have e : NumText.digitsVal (l ++ [c]) = NumText.digitsVal l * 10 + (c - 48) := by
        unfold NumText.digitsVal
        rw [List.foldl_append]
        rfl
      rw [e, Nat.pow_succ]
      omega
theorem item_ok {i : It} (h : okI i) : (itD i).showable = true ∧ (itD i).canLay0 = true ∧ (itD i).depth = 0 ∧ (itD i).intsShort 31 = true ∧ (itD i).weight ≤ 5000 := by
  match i, h with
  | .s w, h =>
    refine ⟨by simp [itD, PyData.showable], by simp only [itD, PyData.canLay0]; exact strOk_S h.1, by simp [itD, PyData.depth], by simp [itD, PyData.intsShort], ?_⟩
    simp only [itD, PyData.weight]
    exact h.2
  | .n w, h =>
    have h : NumText.digitsVal w < 10 ^ 30 := h
    have hl : ((NumText.digitsVal w : Nat) : Int).natAbs.log2 < 100 := by
      rw [Int.natAbs_natCast]
      by_cases z : NumText.digitsVal w = 0
      · rw [z]; decide
      · exact (Nat.log2_lt z).mpr (Nat.lt_trans h (by decide))
    refine ⟨?_, by simp [itD, PyData.canLay0], by simp [itD, PyData.depth], ?_, ?_⟩
    · simp only [itD, PyData.showable, decide_eq_true_eq]
      omega
    · simp only [itD, PyData.intsShort, decide_eq_true_eq]
      have e := int_text_length_le10 (k := 30) (a := ((NumText.digitsVal w : Nat) : Int)) (by decide) (by rw [Int.natAbs_natCast]; exact h)
      show (Str.ofString (toString ((NumText.digitsVal w : Nat) : Int))).length ≤ 31
      rw [PySem.ofString_length]
      exact e
    · simp only [itD, PyData.weight]
      split <;> omega
  | .non, _ => exact ⟨by simp [itD, PyData.showable], by simp [itD, PyData.canLay0], by simp [itD, PyData.depth], by simp [itD, PyData.intsShort], by simp [itD, PyData.weight]⟩
theorem items_ok : ∀ is : List It, (∀ i ∈ is, okI i) → PyData.showableAll (is.map itD) = true ∧ PyData.canLayAll0 (is.map itD) = true ∧ PyData.depthAll (is.map itD) = 0 ∧ PyData.intsShortAll 31 (is.map itD) = true ∧ PyData.weightAll (is.map itD) ≤ 5001 * is.length
  | [], _ => ⟨by simp [PyData.showableAll], by simp [PyData.canLayAll0], by simp [PyData.depthAll], by simp [PyData.intsShortAll], by simp [PyData.weightAll]⟩
  | i :: r, h => by
    obtain ⟨a1, a2, a3, a4, a5⟩ := item_ok (h i List.mem_cons_self)
    obtain ⟨b1, b2, b3, b4, b5⟩ := items_ok r fun j hj => h j (List.mem_cons_of_mem _ hj)
    refine ⟨by simp [PyData.showableAll, a1, b1], by simp [PyData.canLayAll0, a2, b2], by simp [PyData.depthAll, a3, b3], by simp [PyData.intsShortAll, a4, b4], ?_⟩
    simp only [List.map_cons, PyData.weightAll, List.length_cons]
    omega
theorem sho_ops {is : List It} (h : ∀ i ∈ is, okI i) (hl : is.length ≤ 4) : Sho (.tuple (is.map itD)) := by
  obtain ⟨b1, b2, b3, b4, b5⟩ := items_ok is h
  have c0 : (PyData.tuple (is.map itD)).canLay0 = true := by simp only [PyData.canLay0]; exact b2
  refine ⟨by simp only [PyData.showable]; exact b1, c0, by simp [PyData.depth, b3], ?_⟩
  have z := PyData.shown_le 31 (by decide) (.tuple (is.map itD)) (PyData.leavesShort_of_canLay0 31 _ c0 (by simp only [PyData.intsShort]; exact b4))
  have e : (PyData.tuple (is.map itD)).weight = PyData.weightAll (is.map itD) := by simp only [PyData.weight]
  rw [e] at z
  rw [sizeLine_eq]
  have : PyData.weightAll (is.map itD) ≤ 20004 := Nat.le_trans b5 (by omega)
  omega
theorem dp_ops {K : PySem.W.Frag} {H : Hp} : ∀ is : List It, DpAll K H (is.map itV) (is.map itD)
  | [] => .nil
  | .s w :: r => .cons (.str _) (dp_ops r)
  | .n w :: r => .cons (.int _) (dp_ops r)
  | .non :: r => .cons .non (dp_ops r)
theorem sho_none : Sho .none := ⟨by decide, by decide, by decide, by rw [sizeLine_eq]; decide +kernel⟩
theorem sho_str {z : Str} (h : z.cps.toList.all okS = true) (hl : z.length ≤ 5000) : Sho (.str z) := by
  have c0 : (PyData.str z).canLay0 = true := by simp only [PyData.canLay0]; exact strOk_S (w := z.cps.toList) h
  refine ⟨by simp [PyData.showable], c0, by simp [PyData.depth], ?_⟩
  have r := PyData.shown_le 31 (by decide) (.str z) (PyData.leavesShort_of_canLay0 31 _ c0 (by simp [PyData.intsShort]))
  have e : (PyData.str z).weight = z.cps.size := by simp only [PyData.weight]
  rw [e] at r
  have : z.cps.size ≤ 5000 := hl
  rw [sizeLine_eq]
  omega
/-- what _law_due finds can be shown -/
theorem duL_info : ∀ {ks : List Kd} {r : List W} {is : List It}, duL num none_ ks r = some is → is.length = ks.length ∧ ∀ i ∈ is, ∃ k u, u ∈ r ∧ k ∈ ks ∧ duI num none_ k u = some i
  | [], [], is, h => by
    obtain rfl := Option.some.inj (show some [] = some is from h)
    exact ⟨rfl, fun i hi => nomatch hi⟩
  | [], _ :: _, is, h => nomatch (show (none : Option (List It)) = some is from h)
  | _ :: _, [], is, h => nomatch (show (none : Option (List It)) = some is from h)
  | k :: ks, u :: r, is, h => by
    unfold duL at h
    split at h
    · rename_i i hi
      split at h
      · rename_i js hj
        obtain rfl := Option.some.inj h
        obtain ⟨a, b⟩ := duL_info hj
        refine ⟨by rw [List.length_cons, List.length_cons, a], fun j hj => ?_⟩
        rcases List.mem_cons.mp hj with rfl | hj
        · exact ⟨k, u, List.mem_cons_self, List.mem_cons_self, hi⟩
        · obtain ⟨k', u', h1, h2, h3⟩ := b j hj
          exact ⟨k', u', List.mem_cons_of_mem _ h1, List.mem_cons_of_mem _ h2, h3⟩
      · cases h
    · cases h
theorem num_okI {w : W} (h : num w = true) : okI (.n w) := by
  obtain ⟨_, h2, h3⟩ := num_digits h
  exact val_lt 30 w h2 h3
theorem du_ok {v : W} {is : List It} (hv : v.length ≤ 5000) (hok : v.all okS = true) (h : du v = some is) : is.length ≤ 4 ∧ ∀ i ∈ is, okI i := by
  obtain ⟨p, r, hsp⟩ := sp_cons v
  have info := sp_info v
  rw [hsp] at info
  have part : ∀ u ∈ p :: r, okI (.s u) := fun u hu => ⟨List.all_eq_true.mpr fun c hc => List.all_eq_true.mp hok c ((info.2 u hu).2 c hc), Nat.le_trans (info.2 u hu).1 hv⟩
  generalize hc : c1 p r = cc
  cases cc with
  | true =>
    obtain ⟨a, b, x, r', rfl, hw, ha, hb⟩ : ∃ a b x r', r = a :: b :: x :: r' ∧ p = write ∧ a ≠ [] ∧ num b = true := by
      unfold c1 at hc
      split at hc
      · rename_i a b x r'
        rw [Bool.and_eq_true, Bool.and_eq_true, decide_eq_true_eq] at hc
        exact ⟨a, b, x, r', rfl, hc.1, by simpa using hc.2.1, hc.2.2⟩
      · cases hc
    unfold du due at h
    rw [hsp] at h
    dsimp only at h
    rw [if_pos ⟨hw, ha, hb⟩] at h
    obtain rfl := Option.some.inj h
    refine ⟨Nat.le_refl 4, fun i hi => ?_⟩
    simp only [List.mem_cons, List.not_mem_nil, or_false] at hi
    have ej := join_sp 32 v
    rw [hsp] at ej
    have ej2 : p ++ 32 :: (a ++ 32 :: (b ++ 32 :: join 32 (x :: r'))) = v := ej
    rcases hi with rfl | rfl | rfl | rfl
    · exact part _ List.mem_cons_self
    · exact part _ (by simp)
    · exact num_okI hb
    · refine ⟨List.all_eq_true.mpr fun c hc => List.all_eq_true.mp hok c ?_, ?_⟩
      · rw [← ej2]
        simp [hc]
      · have := congrArg List.length ej2
        simp only [List.length_append, List.length_cons] at this
        omega
  | false =>
    rw [du_no hsp hc, due2_kw] at h
    split at h
    · cases h
    · rename_i ks hk
      split at h
      · cases h
      · obtain ⟨js, hj, rfl⟩ := Option.map_eq_some_iff.mp h
        obtain ⟨e, m⟩ := duL_info hj
        obtain ⟨k3, kd⟩ := kw_len hk
        refine ⟨by rw [List.length_cons]; omega, fun i hi => ?_⟩
        rcases List.mem_cons.mp hi with rfl | hi
        · exact part _ List.mem_cons_self
        · obtain ⟨k, u, hu, hk', hd⟩ := m i hi
          by_cases ht : k = .t
          · subst ht
            obtain rfl := duI_t hd
            exact part _ (List.mem_cons_of_mem _ hu)
          · rcases duI_o ht (kd k hk') hd with ⟨_, rfl⟩ | ⟨_, hn, rfl⟩
            · exact True.intro
            · exact num_okI hn
/-! ### the text of an operation -/
theorem fits_okI {k : Kd} {i : It} (h : fits k i) (hp : prn i = true) : okI i := by
  match k, i, h with
  | .q, .non, _ => exact True.intro
  | .q, .n w, h => 
    obtain ⟨j, hj, rfl⟩ := h
    exact num_okI (numL_num hj)
  | .n, .n w, h =>
    obtain ⟨j, hj, rfl⟩ := h
    exact num_okI (numL_num hj)
  | .t, .s w, h => exact ⟨hp, Nat.le_trans h.2.1 (by decide)⟩
  | .d, .s w, h => exact ⟨hp, Nat.le_trans h (by decide)⟩
theorem prT_du {v : W} (h : v.all okS = true) : prT v = du v := by
  unfold prT
  rw [if_pos h]
  exact prs_du v
theorem join_len : ∀ ws : List W, (join 32 ws).length ≤ (ws.map List.length).sum + ws.length ∧ ∀ c ∈ join 32 ws, c = 32 ∨ ∃ u ∈ ws, c ∈ u
  | [] => by simp [join]
  | [w] => ⟨by simp [join], fun c hc => .inr ⟨w, by simp, hc⟩⟩
  | w :: v :: r => by
    obtain ⟨a, b⟩ := join_len (v :: r)
    have e : join 32 (w :: v :: r) = w ++ 32 :: join 32 (v :: r) := rfl
    rw [e]
    refine ⟨?_, fun c hc => ?_⟩
    · rw [List.length_append, List.length_cons, List.map_cons, List.sum_cons, List.length_cons]
      omega
    · rcases List.mem_append.mp hc with hc | hc
      · exact .inr ⟨w, by simp, hc⟩
      · rcases List.mem_cons.mp hc with rfl | hc
        · exact .inl rfl
        · rcases b c hc with h | ⟨u, hu, h⟩
          · exact .inl h
          · exact .inr ⟨u, List.mem_cons_of_mem _ hu, h⟩
theorem fs_ok : (FS.all fun e => e.1.cps.toList.all okS && !decide (32 ∈ e.1.cps.toList)) = true := by decide +kernel
theorem fs_last : (FS.all fun e => (e.2.map kd).dropLast.all (fun k => !decide (k = .d)) && (decide (e.1 = ("write" : Str)) || !decide ((e.2.map kd).getLast? = some .d))) = true := by decide +kernel
theorem fm_last {z : Str} {fs : List Str} (h : fm z = some fs) : Last z.cps.toList (fs.map kd) := by
  have m := List.all_eq_true.mp fs_last _ (lookup_mem h)
  dsimp only at m
  rw [Bool.and_eq_true] at m
  have ne : fs.map kd ≠ [] := fun e => hfne h (List.map_eq_nil_iff.mp e)
  refine ⟨(fs.map kd).dropLast, (fs.map kd).getLast ne, (List.dropLast_concat_getLast ne).symm, fun k hk => ?_, fun hw e => ?_⟩
  · have := List.all_eq_true.mp m.1 k hk
    simpa using this
  · rcases Bool.or_eq_true_iff.mp m.2 with z1 | z1
    · have z2 : z = ("write" : Str) := of_decide_eq_true z1
      exact hw (congrArg tl (z2.trans write_S))
    · rw [List.getLast?_eq_some_getLast ne, e] at z1
      simp at z1
/-- the text of an operation: its signs, its length, what is read of it -/
theorem fmt_ok {z : Str} {fs : List Str} {is : List It} (hf : fm z = some fs) (fit : Fits (fs.map kd) is) (al : is.all prn = true) :
    (fmt z.cps.toList is).all okS = true ∧ (fmt z.cps.toList is).length ≤ 500 ∧ prT (fmt z.cps.toList is) = some (.s z.cps.toList :: is) ∧ is.length ≤ 3 ∧ ∀ i ∈ .s z.cps.toList :: is, okI i := by
  have m := List.all_eq_true.mp fs_ok _ (lookup_mem hf)
  dsimp only at m
  rw [Bool.and_eq_true] at m
  have h32 : 32 ∉ z.cps.toList := by simpa using m.2
  have hl : is.length ≤ 3 := by
    have := Fits.len fit
    rw [List.length_map] at this
    have := fm_len hf
    omega
  have hz := fm_small hf
  have ek : (fmt z.cps.toList is).all okS = true := by
    refine List.all_eq_true.mpr fun c hc => ?_
    rcases (join_len _).2 c hc with rfl | ⟨u, hu, hc⟩
    · decide +kernel
    · rcases List.mem_cons.mp hu with rfl | hu
      · exact List.all_eq_true.mp m.1 c hc
      · obtain ⟨i, hi, rfl⟩ := List.mem_map.mp hu
        exact List.all_eq_true.mp (List.all_eq_true.mp al i hi) c hc
  refine ⟨ek, ?_, ?_, hl, fun i hi => ?_⟩
  · have := (join_len (z.cps.toList :: is.map itS)).1
    have s := fits_sum fit
    rw [List.length_map] at s
    have f3 := fm_len hf
    rw [List.map_cons, List.sum_cons, List.length_cons, List.length_map] at this
    have e : z.cps.toList.length = z.length := by rw [Array.length_toList]; rfl
    show (join 32 (z.cps.toList :: is.map itS)).length ≤ _
    omega
  · unfold prT
    rw [if_pos ek]
    refine prs_fmt h32 (ks := fs.map kd) ?_ (fm_last hf) fit
    show (fm (S z.cps.toList)).map _ = _
    rw [show fm (S z.cps.toList) = some fs from hf]
    rfl
  · rcases List.mem_cons.mp hi with rfl | hi
    · refine ⟨m.1, ?_⟩
      have e : z.cps.toList.length = z.length := by rw [Array.length_toList]; rfl
      omega
    · have : ∀ {ks : List Kd} {js : List It}, Fits ks js → js.all prn = true → ∀ i ∈ js, okI i := by
        intro ks js f
        induction f with
        | nil => exact fun _ i hi => nomatch hi
        | cons h r ih =>
          intro a i hi
          rw [List.all_cons, Bool.and_eq_true] at a
          rcases List.mem_cons.mp hi with rfl | hi
          · exact fits_okI h a.1
          · exact ih a.2 i hi
      exact this fit al i hi
end K32

end

section
local macro_rules | `(tactic| walk_at "ne") => `(tactic| first | assumption | (apply Ne.symm; assumption) | exact L2.ne_of_none (by assumption) (by assumption) | exact (L2.ne_of_none (by assumption) (by assumption)).symm)
local macro_rules | `(tactic| walk_at "hp") => `(tactic| first | assumption | exact L2.upd_same | (rw [L2.upd_ne (by walk_at "ne")]; walk_at "hp"))
local macro_rules | `(tactic| walk_at "sq") => `(tactic| first | assumption | exact L2.SqL.of (by walk_at "hp") | exact My.sq_new (by walk_at "sq") (by assumption))
local macro_rules | `(tactic| walk_at "sd") => `(tactic| first | decide | omega | (unfold L2.CDivN; omega) | (unfold L2.CMul; omega) | (unfold L2.CPow; omega))
local macro_rules | `(tactic| walk_at "sx1") => `(tactic| first | with_reducible refine My.x_seq ?_ | with_reducible refine My.x_asg ?_ | with_reducible refine My.x_ret ?_ | with_reducible refine My.x_next ?_ | with_reducible refine My.x_op ?_ | with_reducible refine My.x_c ?_ | with_reducible refine My.x_ifs ?_ | with_reducible refine My.x_test ?_ | with_reducible refine My.x_exbl ?_ | with_reducible refine My.x_cons ?_ | with_reducible refine My.x_nil ?_ | with_reducible refine My.x_cb ?_ | with_reducible refine My.x_drop ?_ | with_reducible refine My.x_par ?_ | with_reducible refine My.x_exp2 ?_ | with_reducible refine My.x_aug ?_ | with_reducible refine My.x_if ?_ | with_reducible refine My.x_tB ?_ | with_reducible refine My.x_and ?_ | with_reducible refine My.x_or ?_ | with_reducible refine My.x_not ?_ | with_reducible refine My.x_retn ?_ | with_reducible refine My.x_cont ?_ | with_reducible refine My.x_brk ?_ | with_reducible refine My.x_un ?_ | with_reducible refine My.x_tfor ?_ | with_reducible refine My.x_ilist ?_ | with_reducible refine My.x_rng1 ?_ | with_reducible refine My.x_rng2 ?_ | with_reducible refine My.x_r1 ?_ | with_reducible refine My.x_call ?_ | with_reducible refine My.x_sl ?_ | with_reducible refine My.x_part ?_ | with_reducible refine My.x_nopart ?_ | with_reducible refine My.x_ii0 ?_ | with_reducible refine My.x_yes ?_ | with_reducible refine My.x_andv ?_ | with_reducible refine My.x_orv ?_ | with_reducible refine My.x_notv ?_ | with_reducible refine My.x_iT ?_ | with_reducible refine My.x_iF ?_ | with_reducible refine My.x_chain ?_ | with_reducible refine My.x_exI ?_ | with_reducible refine My.x_wipe ?_ | with_reducible refine My.x_bm ?_ | with_reducible refine My.x_bm0 ?_ | with_reducible refine My.x_gsub ?_ | with_reducible refine My.x_int1 ?_ | with_reducible refine My.x_two ?_ | with_reducible refine My.x_lst ?_ | with_reducible refine My.x_tup ?_ | with_reducible refine My.x_revL ?_ | with_reducible refine My.x_dput ?_ | with_reducible refine My.x_dget ?_ | with_reducible refine My.x_dnew ?_ | with_reducible refine My.x_dc ?_ | with_reducible refine My.x_lc ?_ | with_reducible refine My.x_ienum ?_ | with_reducible refine My.x_gcons ?_ | with_reducible refine My.x_gnil ?_ | with_reducible refine My.x_v0 ?_ | with_reducible refine My.x_v1 ?_ | with_reducible refine My.x_v2 ?_ | with_reducible refine My.x_v3 ?_ | with_reducible refine My.x_v4 ?_ | with_reducible refine My.x_v5 ?_ | with_reducible refine My.x_v6 ?_ | with_reducible refine My.x_v7 ?_ | with_reducible refine My.x_v8 ?_ | with_reducible refine My.x_v9 ?_ | with_reducible refine My.x_v10 ?_ | with_reducible refine My.x_v11 ?_ | with_reducible refine My.x_v12 ?_ | with_reducible refine My.x_v13 ?_ | with_reducible refine My.x_v14 ?_ | with_reducible refine My.x_v15 ?_ | with_reducible refine My.x_v16 ?_ | with_reducible refine My.x_v17 ?_ | with_reducible refine My.x_v18 ?_ | with_reducible refine My.x_v19 ?_ | with_reducible refine My.x_v20 ?_ | with_reducible refine My.x_v21 ?_ | with_reducible refine My.x_v22 ?_ | with_reducible refine My.x_v23 ?_ | with_reducible refine My.x_v24 ?_ | with_reducible refine My.x_v25 ?_ | with_reducible refine My.x_g0 ?_ | with_reducible refine My.x_g1 ?_ | with_reducible refine My.x_g2 ?_ | with_reducible refine My.x_g3 ?_ | with_reducible refine My.x_g4 ?_ | with_reducible refine My.x_g5 ?_ | with_reducible refine My.x_g6 ?_ | with_reducible refine My.x_g7 ?_ | with_reducible refine My.x_g8 ?_ | with_reducible refine My.x_g9 ?_ | with_reducible refine My.x_g10 ?_ | with_reducible refine My.x_g11 ?_ | with_reducible refine My.x_g12 ?_ | with_reducible refine My.x_g13 ?_ | with_reducible refine My.x_g14 ?_ | with_reducible refine My.x_g15 ?_ | with_reducible refine My.x_g16 ?_ | with_reducible refine My.x_g17 ?_ | with_reducible refine My.x_g18 ?_ | with_reducible refine My.x_g19 ?_ | with_reducible refine My.x_g20 ?_ | with_reducible refine My.x_g21 ?_ | with_reducible refine My.x_g22 ?_ | with_reducible refine My.x_g23 ?_ | with_reducible refine My.x_g24 ?_ | with_reducible refine My.x_g25 ?_)
local macro_rules | `(tactic| walk_at "sx") => `(tactic| repeat (walk_at "sx1"))
local macro_rules | `(tactic| walk_at "ln") => `(tactic| first | assumption | exact Nat.le_of_ble_eq_true rfl | (simp only [List.length_append, List.length_map, List.length_cons, List.length_nil]; simp only [PySem.sizeLine]; omega))
local macro_rules | `(tactic| walk_at "st") => `(tactic| first | assumption | exact L2.SqT.of (by walk_at "hp"))
local macro_rules | `(tactic| walk_at "go1") => `(tactic| first | walk_at "sx1" | ((with_reducible refine' My.x_ixL ?x0 ?x1 ?x2); (case x0 => walk_at "sq"); (case x1 => exact rfl)) | ((with_reducible refine' My.x_ixT ?x0 ?x1 ?x2); (case x0 => walk_at "st"); (case x1 => exact rfl)) | ((with_reducible refine' My.x_i ?x0 ?x1); (case x0 => walk_at "sd")) | ((with_reducible refine' My.x_setL ?x0 ?x1 ?x2); (case x0 => walk_at "hp"); (case x1 => exact rfl)) | ((with_reducible refine' My.x_len ?x0 ?x1); (case x0 => walk_at "sq")) | ((with_reducible refine' My.x_lenT ?x0 ?x1); (case x0 => walk_at "st")) | ((with_reducible refine' My.x_lenD ?x0 ?x1); (case x0 => walk_at "hp")) | ((with_reducible refine' My.x_append ?x0 ?x1 ?x2); (case x0 => walk_at "hp"); (case x1 => walk_at "ln")) | ((with_reducible refine' My.x_tyL ?x0 ?x1); (case x0 => walk_at "hp")) | ((with_reducible refine' My.x_ilistE ?x0 ?x1); (case x0 => walk_at "sq")) | ((with_reducible refine' My.x_ienumE ?x0 ?x1); (case x0 => walk_at "sq")) | ((with_reducible refine' My.x_sortI ?x0 ?x1); (case x0 => walk_at "sq")) | ((with_reducible refine' My.x_slL ?x0 ?x1); (case x0 => walk_at "sq")) | ((with_reducible refine' My.x_revL2 ?x0 ?x1); (case x0 => walk_at "sq")) | ((with_reducible refine' My.x_eq ?x0 ?x1); (case x0 => exact rfl)) | ((with_reducible refine' My.x_ne ?x0 ?x1); (case x0 => exact rfl)) | ((with_reducible refine' My.x_dputI ?x0 ?x1 ?x2); (case x0 => walk_at "hp"); (case x1 => walk_at "ln")) | ((with_reducible refine' My.x_dputS ?x0 ?x1 ?x2); (case x0 => walk_at "hp"); (case x1 => walk_at "ln")) | ((with_reducible refine' My.x_seqof ?x0 ?x1); (case x0 => walk_at "sq")) | ((with_reducible refine' My.x_gtup ?x0 ?x1 ?x2); (case x0 => walk_at "st"); (case x1 => exact rfl)) | ((with_reducible refine' My.x_mem1 ?x0 ?x1); (case x0 => walk_at "ln")))
local macro_rules | `(tactic| walk_at "go") => `(tactic| repeat (walk_at "go1"))
local macro_rules | `(tactic| walk_at "sx1") => `(tactic| first | with_reducible refine My.x_fld ?_ | with_reducible refine My.x_sfld ?_ | with_reducible refine My.x_meth ?_ | with_reducible refine My.x_make ?_ | with_reducible refine My.x_din ?_ | with_reducible refine My.x_dnin ?_ | with_reducible refine My.x_ikeys ?_ | with_reducible refine My.x_itup ?_ | with_reducible refine My.x_mkO ?_ | with_reducible refine My.x_vei ?_ | with_reducible refine My.x_ost ?_ | with_reducible refine My.x_nF ?_ | with_reducible refine My.x_nT ?_)
local macro_rules | `(tactic| walk_at "go1") => `(tactic| first | ((with_reducible refine' My.x_fldE ?x0 ?x1 ?x2 ?x3 ?x4); (case x0 => walk_at "hp"); (case x1 => assumption); (case x2 => assumption); (case x3 => exact rfl)) | ((with_reducible refine' My.x_sfldE ?x0 ?x1 ?x2 ?x3 ?x4 ?x5); (case x0 => walk_at "hp"); (case x1 => assumption); (case x2 => assumption); (case x3 => decide); (case x4 => exact rfl)) | ((with_reducible refine' My.x_methE ?x0 ?x1 ?x2); (case x0 => walk_at "hp"); (case x1 => exact rfl)) | ((with_reducible refine' My.x_itupE ?x0 ?x1); (case x0 => walk_at "st")))
local macro_rules | `(tactic| walk_at "sx1") => `(tactic| first | with_reducible refine LZ.x_zz ?_ | with_reducible refine LZ.x_star ?_)
namespace K32
open PySem PySem.Spec PyProof.Rows L2
def sp_law (K : PySem.W.Frag) : Sp := fun vs H Q _ => ∃ (a : Addr) (ns : List Int), vs = [.ref a] ∧ SqL K H a (ns.map V.int) ∧ ns.length ≤ 63 ∧ ∀ H', Q (.bl true) H'
theorem sho_by {d : PyData} (h : (d.showable && (d.canLay0 && (decide (d.depth ≤ 64) && decide (d.shown.length ≤ 1000)))) = true) : Sho d := by
  obtain ⟨h1, h⟩ := My.ba h
  obtain ⟨h2, h⟩ := My.ba h
  obtain ⟨h3, h4⟩ := My.ba h
  refine ⟨h1, h2, of_decide_eq_true h3, ?_⟩
  rw [sizeLine_eq]
  exact Nat.le_trans (of_decide_eq_true h4) (by decide)
/-- a value that _law_read tells nothing of -/
def RdNo (K : PySem.W.Frag) (H : Hp) (x : V) : Prop := Shw K H x ∧ ((∃ t, TyX K H x t ∧ PySem.W.kitOne K t (.type "str") = some false) ∨ ∃ z : Str, x = .str z ∧ z.length ≤ 5000 ∧ prT z.cps.toList = none)
abbrev LA (b1 b2 : Addr) : List V := [V.non, V.int 5, V.ref b1, V.ref b2, V.bl true, V.str ("" : Str), V.str (" " : Str), V.str ("remove" : Str), V.str ("remove " : Str), V.str ("remove  a" : Str),
  V.str ("write a 1" : Str), V.str ("trim a 01 2" : Str), V.str ("Remove a" : Str), V.str ("remove a\n" : Str), V.str ("write a 1 x\ny" : Str)]
theorem shw_str {K : PySem.W.Frag} {H : Hp} {z : Str} (h : Sho (.str z)) : Shw K H (.str z) := ⟨_, h, fun _ _ => .str z⟩
theorem rd_str {K : PySem.W.Frag} {H : Hp} {z : Str} (h : Sho (.str z)) (hl : z.length ≤ 5000) (hp : prT z.cps.toList = none) : RdNo K H (.str z) := ⟨shw_str h, .inr ⟨z, rfl, hl, hp⟩⟩
theorem no1 {K : PySem.W.Frag} {H : Hp} {b1 b2 : Addr} (e1 : H b1 = some (.lst [V.str ("remove a" : Str)])) (e2 : H b2 = some (.tup [V.str ("remove" : Str), V.str ("a" : Str)])) : ∀ v ∈ LA b1 b2, RdNo K H v := by
  intro v hv
  simp only [LA, List.mem_cons, List.not_mem_nil, or_false] at hv
  rcases hv with rfl | rfl | rfl | rfl | rfl | rfl | rfl | rfl | rfl | rfl | rfl | rfl | rfl | rfl | rfl
  · exact ⟨⟨_, sho_none, fun _ _ => .non⟩, .inl ⟨_, .base .non, kit_ty (by decide +kernel)⟩⟩
  · exact ⟨⟨_, sho_by (by decide +kernel), fun _ _ => .int 5⟩, .inl ⟨_, .base (.int _), kit_ty (by decide +kernel)⟩⟩
  · exact ⟨⟨.list [.str ("remove a" : Str)], sho_by (by decide +kernel), fun H' s => .lst (SqL.of (s _ _ e1)) (.cons (.str _) .nil)⟩, .inl ⟨_, My.sql_ty (SqL.of e1), kit_ty (by decide +kernel)⟩⟩
  · exact ⟨⟨.tuple [.str ("remove" : Str), .str ("a" : Str)], sho_by (by decide +kernel), fun H' s => .tup (SqT.of (s _ _ e2)) (.cons (.str _) (.cons (.str _) .nil))⟩, .inl ⟨_, My.sqt_ty (SqT.of e2), kit_ty (by decide +kernel)⟩⟩
  · exact ⟨⟨_, sho_by (by decide +kernel), fun _ _ => .bl true⟩, .inl ⟨_, .base (.bl true), kit_ty (by decide +kernel)⟩⟩
  all_goals exact rd_str (sho_by (by decide +kernel)) (by decide +kernel) (by decide +kernel)
/-- a value that _law_is_refused tells True of -/
def RfNo (K : PySem.W.Frag) (H : Hp) (x : V) : Prop := Shw K H x ∧ NoOp K H x
abbrev LB (c0 c1 c2 c3 : Addr) : List V := [V.non, V.ref c0, V.ref c1, V.ref c2, V.str ("remove a" : Str), V.ref c3]
theorem no2 {K : PySem.W.Frag} {H : Hp} {c0 c1 c2 c3 : Addr} (e0 : H c0 = some (.tup [])) (e1 : H c1 = some (.tup [V.str ("remove" : Str)])) (e2 : H c2 = some (.lst [V.str ("remove" : Str), V.str ("a" : Str)])) (e3 : H c3 = some (.tup [V.str ("write" : Str), V.str ("a" : Str), V.int 1])) :
    ∀ v ∈ LB c0 c1 c2 c3, RfNo K H v := by
  intro v hv
  simp only [LB, List.mem_cons, List.not_mem_nil, or_false] at hv
  rcases hv with rfl | rfl | rfl | rfl | rfl | rfl
  · exact ⟨⟨_, sho_none, fun _ _ => .non⟩, .inl ⟨_, .base .non, kit_ty (by decide +kernel)⟩⟩
  · exact ⟨⟨.tuple [], sho_by (by decide +kernel), fun H' s => .tup (SqT.of (s _ _ e0)) .nil⟩, .inr (.inl ⟨_, rfl, SqT.of e0⟩)⟩
  · exact ⟨⟨.tuple [.str ("remove" : Str)], sho_by (by decide +kernel), fun H' s => .tup (SqT.of (s _ _ e1)) (.cons (.str _) .nil)⟩, .inr (.inr ⟨_, _, [], rfl, SqT.of e1, by decide, fun fs h => by
      obtain rfl := Option.some.inj ((show some [("name" : Str)] = fm ("remove" : Str) by decide +kernel).trans h)
      decide⟩)⟩
  · exact ⟨⟨.list [.str ("remove" : Str), .str ("a" : Str)], sho_by (by decide +kernel), fun H' s => .lst (SqL.of (s _ _ e2)) (.cons (.str _) (.cons (.str _) .nil))⟩, .inl ⟨_, My.sql_ty (SqL.of e2), kit_ty (by decide +kernel)⟩⟩
  · exact ⟨shw_str (sho_by (by decide +kernel)), .inl ⟨_, .base (.str _), kit_ty (by decide +kernel)⟩⟩
  · exact ⟨⟨.tuple [.str ("write" : Str), .str ("a" : Str), .int 1], sho_by (by decide +kernel), fun H' s => .tup (SqT.of (s _ _ e3)) (.cons (.str _) (.cons (.str _) (.cons (.int _) .nil)))⟩, .inr (.inr ⟨_, _, [_, _], rfl, SqT.of e3, Nat.le_of_ble_eq_true rfl, fun fs h => by
      obtain rfl := Option.some.inj ((show some [("name" : Str), ("index" : Str), ("data" : Str)] = fm ("write" : Str) by decide +kernel).trans h)
      decide⟩)⟩
/-- a text of at most n signs that can be printed -/
def Tp (n : Nat) (z : Str) : Prop := z.length ≤ n ∧ z.cps.toList.all okS = true
theorem Tp.cut {n : Nat} {z : Str} (h : Tp n z) (lo hi : Option Int) : Tp n (cutS z lo hi) := by
  refine ⟨Nat.le_trans (cutS_length z lo hi) h.1, List.all_eq_true.mpr fun c hc => List.all_eq_true.mp h.2 c ?_⟩
  exact List.mem_of_mem_drop (List.mem_of_mem_take hc)
theorem Tp.app {n m : Nat} {a b : Str} (ha : Tp n a) (hb : Tp m b) : Tp (n + m) (a ++ b) := by
  refine ⟨by rw [PySem.Str.length_append]; exact Nat.add_le_add ha.1 hb.1, ?_⟩
  rw [PySem.Str.cps_append, Array.toList_append, List.all_append, ha.2, hb.2]
  rfl
theorem sgn {x : V} (h : x ∈ [V.str (" " : Str), V.str ("0" : Str), V.str ("-" : Str), V.str ("x" : Str), V.str ("" : Str), V.str ("1" : Str), V.str ("  " : Str), V.str ("write " : Str)]) : ∃ z : Str, x = .str z ∧ Tp 6 z := by
  simp only [List.mem_cons, List.not_mem_nil, or_false] at h
  rcases h with rfl | rfl | rfl | rfl | rfl | rfl | rfl | rfl
  all_goals exact ⟨_, rfl, by decide +kernel, by decide +kernel⟩
/-- (name, items) != (name, items) -/
theorem x_neO {K : PySem.W.Frag} {H : Hp} {Q : VK} {p q : Addr} {is : List It} (h1 : SqT K H p (is.map itV)) (h2 : SqT K H q (is.map itV)) (ok : ∀ i ∈ is, okI i) (k : Q (.bl false) H) : rNeD K (.ref p) (.ref q) H Q := by
  obtain ⟨_, b2, b3, _, _⟩ := items_ok is ok
  have c0 : (PyData.tuple (is.map itD)).canLay0 = true := by simp only [PyData.canLay0]; exact b2
  have sh : SeqAt.shaped (.tuple (is.map itD)) = true := by
    unfold SeqAt.shaped
    simp [PyData.canLay0, b2, PyData.depth, b3]
  refine ⟨_, _, .tup h1 (dp_ops is), .tup h2 (dp_ops is), sh, sh, ?_⟩
  rw [PySem.SeqAt.eqv_refl _ c0]
  exact k
theorem Shw.same {K : PySem.W.Frag} {H H' : Hp} {x : V} (h : Shw K H x) (s : Same H H') : Shw K H' x := by
  obtain ⟨d, a, b⟩ := h
  exact ⟨d, a, fun H2 s2 => b H2 (s.trans s2)⟩
theorem passN {X : Cx} {P : Program} {w : World} : Passes (L2.CX P w) X (fun _ _ _ => False) := fun _ _ _ _ _ _ _ h => by
  obtain ⟨_, _, _, _, _, _, _, _, _, _, _, _, z⟩ := h
  exact z.elim
section
variable {P : Program} {w : World} {K : PySem.W.Frag} {mg : Str → Option Value} {base : Heap} {t1 t2 : Tok}
theorem ok_law (T : Tx K mg t1 t2) {fd : FuncData} (F : Fd K d_law fd)
    (C_law_pool : My.Cl P w K mg base "_law_pool" ["_law_script", "_law_k"] 1 (My.sp_pool K)) (C_law_draw : CDr P w K mg base) (C_law_choose : CCh P w K mg base)
    (C_law_operation : My.Cl P w K mg base "_law_operation" ["_law_pool_here"] 3 sp_law_op) (C_law_text : My.Cl P w K mg base "_law_text" ["_law_op"] 1 (sp_ltext K))
    (C_format_operation : CFm P w K mg base) (C_parse_operation : CPa P w K mg base) (C_law_due : My.Cl P w K mg base "_law_due" ["_law_text_here"] 2 sp_due)
    (C_law_read : My.ClG P w K mg base CX0 "_law_read" ["_law_text_here"] 5 (sp_read K)) (C_law_is_refused : My.ClG P w K mg base CX0 "_law_is_refused" ["_law_value"] 4 (sp_refused K)) :
    My.FnG P w K mg base CX0 6 (He.ga K "law") fd ["_law_script"] (sp_law K) := by
  refine My.FunD.okG F sc_law (fun vs H Q E h => ?_) (fun cdv A outer s H vs Q E hg hr h => ?_)
  · obtain ⟨a, ns, rfl, _⟩ := h
    rfl
  · obtain ⟨a, ns, rfl, hs, hn, q⟩ := h
    refine ⟨_, PSs.nox ((pss_cons (ps_for PassesOwn.never rfl (pi_list (pe_lst (pa_cons pe_non (pa_cons pe_int (pa_cons (pe_lst (pa_cons pe_str pa_nil)) (pa_cons (pe_tup (pa_cons pe_str (pa_cons pe_str pa_nil))) (pa_cons pe_bl (pa_cons pe_str (pa_cons pe_str (pa_cons pe_str (pa_cons pe_str (pa_cons pe_str (pa_cons pe_str (pa_cons pe_str (pa_cons pe_str (pa_cons pe_str (pa_cons pe_str pa_nil))))))))))))))))) (pg_name (i := 1) sc_law.nd rfl (Or.inl rfl))
  (pss_one (ps_if (pt_cmpR op_notN (My.pe_clG C_law_read (by exact hg) (hr.mono (by decide)) pass0 rfl (pa_cons (pv 1) pa_nil)) pe_non (nomark _))
  (pss_one (ps_ret pe_bl))
  pss_nil)))
  (pss_cons (ps_for PassesOwn.never rfl (pi_list (pe_lst (pa_cons pe_non (pa_cons (pe_tup pa_nil) (pa_cons (pe_tup (pa_cons pe_str pa_nil)) (pa_cons (pe_lst (pa_cons pe_str (pa_cons pe_str pa_nil))) (pa_cons pe_str (pa_cons (pe_tup (pa_cons pe_str (pa_cons pe_str (pa_cons pe_int pa_nil)))) pa_nil)))))))) (pg_name (i := 1) sc_law.nd rfl (Or.inl rfl))
  (pss_one (ps_if (pt_not (pt_val (My.pe_clG C_law_is_refused (by exact hg) (hr.mono (by decide)) pass0 rfl (pa_cons (pv 1) pa_nil))))
  (pss_one (ps_ret pe_bl))
  pss_nil)))
  (pss_cons (ps_for PassesOwn.never rfl (pi_range1 rfl T.n_range (pa_cons (pe_callB (call_max2 rfl) (by rfl) T.n_max (by decide +kernel) (pa_cons pe_int (pa_cons (pe_callB (call_min2 rfl) (by rfl) T.n_min (by decide +kernel) (pa_cons (pe_callB call_len_seq (by rfl) T.n_len (by decide +kernel) (pa_cons (pv 0) pa_nil)) (pa_cons pe_int pa_nil))) pa_nil))) pa_nil)) (pg_name (i := 2) sc_law.nd rfl (Or.inl rfl))
  (pss_cons (ps_set (i := 3) sc_law.nd rfl (Or.inl rfl) (My.pe_cl C_law_pool (hr.mono (by decide)) rfl (pa_cons (pv 0) (pa_cons (pv 2) pa_nil))))
  (pss_one (ps_for PassesOwn.never rfl (pi_range1 rfl T.n_range (pa_cons pe_int pa_nil)) (pg_name (i := 4) sc_law.nd rfl (Or.inl rfl))
  (pss_cons (ps_set (i := 5) sc_law.nd rfl (Or.inl rfl) (My.pe_cl C_law_operation (hr.mono (by decide)) rfl (pa_cons (pv 3) pa_nil)))
  (pss_cons (ps_set (i := 6) sc_law.nd rfl (Or.inl rfl) (My.pe_cl C_law_text (hr.mono (by decide)) rfl (pa_cons (pv 5) pa_nil)))
  (pss_cons (ps_if (PW.pt (pw_or (pt_cmpR op_ne (pe_clE C_format_operation (hr.mono (by decide)) passN rfl (pa_cons (pv 5) pa_nil)) (pv 6) (nomark _)) (pw_or1 (pt_cmpR (op_neD hr.units) (pe_clE C_parse_operation (hr.mono (by decide)) passN rfl (pa_cons (pv 6) pa_nil)) (pv 5) (nomark _)))))
  (pss_one (ps_ret pe_bl))
  pss_nil)
  (pss_cons (ps_set (i := 7) sc_law.nd rfl (Or.inl rfl) (My.pe_cl C_law_draw (hr.mono (by decide)) rfl (pa_cons (pv 3) (pa_cons (pe_op op_add (pe_callB call_len_str (by rfl) T.n_len (by decide +kernel) (pa_cons (pv 6) pa_nil)) pe_int) pa_nil))))
  (pss_cons (ps_set (i := 8) sc_law.nd rfl (Or.inl rfl) (My.pe_cl C_law_choose (hr.mono (by decide)) rfl (pa_cons (pv 3) (pa_cons (pe_lst (pa_cons pe_str (pa_cons pe_str (pa_cons pe_str (pa_cons pe_str (pa_cons pe_str (pa_cons pe_str (pa_cons pe_str (pa_cons pe_str pa_nil))))))))) pa_nil))))
  (pss_cons (ps_set (i := 9) sc_law.nd rfl (Or.inl rfl) (pe_slice sl_str (pv 6) (po_some (pe_op op_add (pv 7) (My.pe_cl C_law_draw (hr.mono (by decide)) rfl (pa_cons (pv 3) (pa_cons pe_int pa_nil))))) po_none))
  (pss_cons (ps_set (i := 6) sc_law.nd rfl (Or.inl rfl) (pe_op op_add_str (pe_op op_add_str (pe_slice sl_str (pv 6) po_none (po_some (pv 7))) (pv 8)) (pv 9)))
  (pss_one (ps_if (pt_cmpR op_ne (pe_callB (My.call_reprD (by exact hg) (by have hq := hu100 hr; exact hq)) (by rfl) T.n_repr (by decide +kernel) (pa_cons (My.pe_clG C_law_read (by exact hg) (hr.mono (by decide)) pass0 rfl (pa_cons (pv 6) pa_nil)) pa_nil)) (pe_callB (My.call_reprD (by exact hg) (by have hq := hu100 hr; exact hq)) (by rfl) T.n_repr (by decide +kernel) (pa_cons (My.pe_cl C_law_due (hr.mono (by decide)) rfl (pa_cons (pv 6) pa_nil)) pa_nil)) (nomark _))
  (pss_one (ps_ret pe_bl))
  pss_nil)))))))))))))
  (pss_one (ps_ret pe_bl)))))), ?_⟩
    refine My.x_start (σ := [some (V.ref a), none, none, none, none, none, none, none, none, none]) rfl ?_
    try dsimp only [cxOf, Cx.nox]
    walk_at "sx"
    refine ⟨Nat.le_of_ble_eq_true rfl, fun b1 hb1 => ?_⟩
    have eb1 : upd H b1 (.lst [V.str ("remove a" : Str)]) b1 = some (.lst [V.str ("remove a" : Str)]) := upd_same
    have S1 : Same H (upd H b1 (.lst [V.str ("remove a" : Str)])) := My.Same.new (Same.refl H) hb1
    generalize upd H b1 (.lst [V.str ("remove a" : Str)]) = H1 at eb1 S1 ⊢
    clear hb1
    walk_at "sx"
    refine ⟨Nat.le_of_ble_eq_true rfl, fun b2 hb2 => ?_⟩
    have eb2 : upd H1 b2 (.tup [V.str ("remove" : Str), V.str ("a" : Str)]) b2 = some (.tup [V.str ("remove" : Str), V.str ("a" : Str)]) := upd_same
    have k2 : Same H1 (upd H1 b2 (.tup [V.str ("remove" : Str), V.str ("a" : Str)])) := My.Same.new (Same.refl H1) hb2
    generalize upd H1 b2 (.tup [V.str ("remove" : Str), V.str ("a" : Str)]) = H2 at eb2 k2 ⊢
    replace eb1 := k2 _ _ eb1
    replace S1 := S1.trans k2
    clear k2 hb2
    walk_at "sx"
    refine ⟨Nat.le_of_ble_eq_true rfl, fun l1 hl1 => ?_⟩
    have el1 : upd H2 l1 (.lst (LA b1 b2)) l1 = some (.lst (LA b1 b2)) := upd_same
    have k3 : Same H2 (upd H2 l1 (.lst (LA b1 b2))) := My.Same.new (Same.refl H2) hl1
    replace eb1 := k3 _ _ eb1
    replace eb2 := k3 _ _ eb2
    replace S1 := S1.trans k3
    refine ⟨l1, rfl, ⟨_, SqL.of el1⟩, ?_⟩
    generalize upd H2 l1 (.lst (LA b1 b2)) = H3 at el1 eb1 eb2 S1 ⊢
    clear k3 hl1
    refine My.for_runs (My.runs_list (K := K) (a := l1) id (LA b1 b2)) (fun pre σ' H' => Same H3 H' ∧ ∃ o, σ' = [some (V.ref a), o, none, none, none, none, none, none, none, none]) ⟨Same.refl H3, _, rfl⟩ (fun pre post σ' H' _ h => by rw [List.map_id]; exact h.1.seq (SqL.of el1)) ?_ ?_
    · rintro pre x post σ' H' v H'' hpre ⟨S, o, rfl⟩ ⟨rfl, rfl⟩
      have hx := no1 (K := K) (S _ _ eb1) (S _ _ eb2) v (by rw [hpre]; simp)
      show gName 1 v _ _ _
      walk_at "sx"
      refine ⟨v, rfl, hx.1, ?_⟩
      rcases hx.2 with ht | ⟨z, rfl, hl, hp⟩
      · refine .inl ⟨ht, fun H9 s9 => ?_⟩
        walk_at "sx"
        refine ⟨rfl, _, rfl, ?_⟩
        exact ⟨S.trans s9, _, rfl⟩
      · refine .inr ⟨z, rfl, hl, fun is p H9 hi => absurd (hp.symm.trans hi) (by simp), fun _ H9 s9 => ?_⟩
        walk_at "sx"
        refine ⟨rfl, _, rfl, ?_⟩
        exact ⟨S.trans s9, _, rfl⟩
    rintro σ' H4 ⟨S, o, rfl⟩
    replace S1 := S1.trans S
    clear S eb1 eb2 el1
    walk_at "sx"
    refine ⟨Nat.le_of_ble_eq_true rfl, fun c0 hc0 => ?_⟩
    have ec0 : upd H4 c0 (.tup []) c0 = some (.tup []) := upd_same
    have kc0 : Same H4 (upd H4 c0 (.tup [])) := My.Same.new (Same.refl H4) hc0
    replace S1 := S1.trans kc0
    clear kc0 hc0
    generalize upd H4 c0 (.tup []) = H5 at ec0  S1 ⊢
    walk_at "sx"
    refine ⟨Nat.le_of_ble_eq_true rfl, fun c1 hc1 => ?_⟩
    have ec1 : upd H5 c1 (.tup [V.str ("remove" : Str)]) c1 = some (.tup [V.str ("remove" : Str)]) := upd_same
    have kc1 : Same H5 (upd H5 c1 (.tup [V.str ("remove" : Str)])) := My.Same.new (Same.refl H5) hc1
    replace ec0 := kc1 _ _ ec0
    replace S1 := S1.trans kc1
    clear kc1 hc1
    generalize upd H5 c1 (.tup [V.str ("remove" : Str)]) = H6 at ec1 ec0 S1 ⊢
    walk_at "sx"
    refine ⟨Nat.le_of_ble_eq_true rfl, fun c2 hc2 => ?_⟩
    have ec2 : upd H6 c2 (.lst [V.str ("remove" : Str), V.str ("a" : Str)]) c2 = some (.lst [V.str ("remove" : Str), V.str ("a" : Str)]) := upd_same
    have kc2 : Same H6 (upd H6 c2 (.lst [V.str ("remove" : Str), V.str ("a" : Str)])) := My.Same.new (Same.refl H6) hc2
    replace ec0 := kc2 _ _ ec0
    replace ec1 := kc2 _ _ ec1
    replace S1 := S1.trans kc2
    clear kc2 hc2
    generalize upd H6 c2 (.lst [V.str ("remove" : Str), V.str ("a" : Str)]) = H7 at ec2 ec0 ec1 S1 ⊢
    walk_at "sx"
    refine ⟨Nat.le_of_ble_eq_true rfl, fun c3 hc3 => ?_⟩
    have ec3 : upd H7 c3 (.tup [V.str ("write" : Str), V.str ("a" : Str), V.int 1]) c3 = some (.tup [V.str ("write" : Str), V.str ("a" : Str), V.int 1]) := upd_same
    have kc3 : Same H7 (upd H7 c3 (.tup [V.str ("write" : Str), V.str ("a" : Str), V.int 1])) := My.Same.new (Same.refl H7) hc3
    replace ec0 := kc3 _ _ ec0
    replace ec1 := kc3 _ _ ec1
    replace ec2 := kc3 _ _ ec2
    replace S1 := S1.trans kc3
    clear kc3 hc3
    generalize upd H7 c3 (.tup [V.str ("write" : Str), V.str ("a" : Str), V.int 1]) = H8 at ec3 ec0 ec1 ec2 S1 ⊢
    walk_at "sx"
    refine ⟨Nat.le_of_ble_eq_true rfl, fun l2 hl2 => ?_⟩
    have el2 : upd H8 l2 (.lst (LB c0 c1 c2 c3)) l2 = some (.lst (LB c0 c1 c2 c3)) := upd_same
    have k9 : Same H8 (upd H8 l2 (.lst (LB c0 c1 c2 c3))) := My.Same.new (Same.refl H8) hl2
    replace ec0 := k9 _ _ ec0
    replace ec1 := k9 _ _ ec1
    replace ec2 := k9 _ _ ec2
    replace ec3 := k9 _ _ ec3
    replace S1 := S1.trans k9
    refine ⟨l2, rfl, ⟨_, SqL.of el2⟩, ?_⟩
    generalize upd H8 l2 (.lst (LB c0 c1 c2 c3)) = H9 at el2 ec0 ec1 ec2 ec3 S1 ⊢
    clear k9 hl2
    refine My.for_runs (My.runs_list (K := K) (a := l2) id (LB c0 c1 c2 c3)) (fun pre σ' H' => Same H9 H' ∧ ∃ o, σ' = [some (V.ref a), o, none, none, none, none, none, none, none, none]) ⟨Same.refl H9, _, rfl⟩ (fun pre post σ' H' _ h => by rw [List.map_id]; exact h.1.seq (SqL.of el2)) ?_ ?_
    · rintro pre x post σ' H' v H'' hpre ⟨S, o, rfl⟩ ⟨rfl, rfl⟩
      have hx := no2 (K := K) (S _ _ ec0) (S _ _ ec1) (S _ _ ec2) (S _ _ ec3) v (by rw [hpre]; simp)
      show gName 1 v _ _ _
      walk_at "sx"
      refine ⟨v, rfl, hx.1, hx.2, fun H10 s10 => ?_⟩
      walk_at "sx"
      exact ⟨S.trans s10, _, rfl⟩
    rintro σ' H10 ⟨S, o, rfl⟩
    replace S1 := S1.trans S
    clear S ec0 ec1 ec2 ec3 el2
    have hs' := S1.seq hs
    walk_at "go"
    refine My.x_rng1E (by split <;> split <;> omega) (by rw [List.length_map]; split <;> split <;> omega) ?_
    have hj : (if (if (8 : Int) < ((ns.map V.int).length : Int) then 8 else ((ns.map V.int).length : Int)) > 1 then (if (8 : Int) < ((ns.map V.int).length : Int) then 8 else ((ns.map V.int).length : Int)) else 1).toNat ≤ 8 := by
      split <;> split <;> omega
    generalize (if (if (8 : Int) < ((ns.map V.int).length : Int) then 8 else ((ns.map V.int).length : Int)) > 1 then (if (8 : Int) < ((ns.map V.int).length : Int) then 8 else ((ns.map V.int).length : Int)) else 1).toNat = j at hj ⊢
    refine My.for_rng (fun i σ' H' => Same H H' ∧ ∃ o1 o2 o3 o4 o5 o6 o7 o8 o9, σ' = [some (V.ref a), o1, o2, o3, o4, o5, o6, o7, o8, o9]) ⟨S1, _, _, _, _, _, _, _, _, _, rfl⟩ ?_ ?_
    · rintro i σ' H11 hi ⟨S, o1, o2, o3, o4, o5, o6, o7, o8, o9, rfl⟩
      clear S1 hs'
      walk_at "sx"
      refine My.x_pool (S.seq hs) (by omega) (by omega) fun p H12 hp P0 B0 => ?_
      have hp0 : H p = none := S.free hp
      replace S := B0.same S hp0
      clear B0 hp
      walk_at "sx"
      refine ⟨12, rfl, by decide, by decide, ?_⟩
      refine My.for_rng (fun k σ' H' => SameP p H12 H' ∧ My.PoolAt H' p ∧ ∃ o4 o5 o6 o7 o8 o9, σ' = [some (V.ref a), o1, some (V.int (0 + i)), some (V.ref p), o4, o5, o6, o7, o8, o9]) ⟨SameP.refl p H12, P0, _, _, _, _, _, _, rfl⟩ ?_ ?_
      · clear P0 o4 o5 o6 o7 o8 o9
        rintro k σ' H13 hk ⟨SP, P0, o4, o5, o6, o7, o8, o9, rfl⟩
        walk_at "sx"
        refine ⟨p, rfl, P0, fun op H14 s14 P1 g1 n1 => ?_⟩
        replace SP := SP.trans s14
        clear s14 P0
        obtain ⟨z, is, fs, eo, hf, fit, al⟩ := g1
        obtain ⟨f1, f2, f3, f4, f5⟩ := fmt_ok hf fit al
        walk_at "sx"
        refine ⟨op, z, is, fs, rfl, SqT.of eo, hf, fit, fun H15 s15 => ?_⟩
        replace SP := SP.trans (SameP.of s15)
        replace P1 := P1.sees s15
        replace eo := s15 _ _ eo
        clear s15
        walk_at "sx"
        refine ⟨.ref op, rfl, .inr ⟨op, z, is, fs, rfl, SqT.of eo, hf, fit, fun H16 s16 => ?_⟩⟩
        replace SP := SP.trans (SameP.of s16)
        replace P1 := P1.sees s16
        replace eo := s16 _ _ eo
        clear s16
        walk_at "sx"
        refine My.x_ne rfl ?_
        rw [decide_eq_true rfl]
        refine My.x_exbl (b := false) (My.x_iF ?_)
        walk_at "sx"
        refine ⟨_, rfl, .inr ⟨K32.S (fmt z.cps.toList is), rfl, Nat.le_trans f2 (by decide), fun js p' H17 hj s17 hp' ep => ?_, fun hn => absurd (hn.symm.trans f3) (by simp)⟩⟩
        obtain rfl := Option.some.inj (f3.symm.trans hj)
        replace SP := SP.trans (SameP.of s17)
        replace P1 := P1.sees s17
        replace eo := s17 _ _ eo
        clear s17 hj hp'
        walk_at "sx"
        refine x_neO (is := .s z.cps.toList :: is) (SqT.of ep) (SqT.of eo) f5 ?_
        clear ep eo
        refine My.x_exbl (b := false) (My.x_iF ?_)
        have tx : Tp 500 (K32.S (fmt z.cps.toList is)) := ⟨f2, f1⟩
        generalize K32.S (fmt z.cps.toList is) = z1 at tx ⊢
        clear f1 f2 f3 f4 f5 hf fit al
        walk_at "sx"
        refine ⟨z1, rfl, by rw [sizeLine_eq]; exact Nat.le_trans tx.1 (by decide), ?_⟩
        walk_at "sx"
        have hz1 := tx.1
        refine x_drawW P1 (by omega) (log_small (by omega) (by omega)) fun d H18 d0 d1 P2 B2 => ?_
        replace SP := SP.but B2
        clear P1 B2 hz1
        walk_at "sx"
        refine ⟨Nat.le_of_ble_eq_true rfl, fun l hl => ?_⟩
        have nl := P2.ne hl
        replace P2 := P2.new (o := .lst [V.str (" " : Str), V.str ("0" : Str), V.str ("-" : Str), V.str ("x" : Str), V.str ("" : Str), V.str ("1" : Str), V.str ("  " : Str), V.str ("write " : Str)]) hl
        replace SP := SP.new (o := .lst [V.str (" " : Str), V.str ("0" : Str), V.str ("-" : Str), V.str ("x" : Str), V.str ("" : Str), V.str ("1" : Str), V.str ("  " : Str), V.str ("write " : Str)]) hl
        refine ⟨p, l, _, rfl, P2, upd_same, nl.symm, by decide, by decide, fun x H19 hx P3 B3 => ?_⟩
        replace SP := SP.but B3
        obtain ⟨zs, rfl, ts⟩ := sgn hx
        clear P2 B3 hx nl hl
        walk_at "sx"
        refine x_drawW P3 (by decide) (by decide +kernel) fun e H20 e0 e1 P4 B4 => ?_
        replace SP := SP.but B4
        clear P3 B4
        walk_at "sx"
        have hz1 : z1.length ≤ sizeLine := by rw [sizeLine_eq]; exact Nat.le_trans tx.1 (by decide)
        refine ⟨z1, rfl, hz1, ?_⟩
        have tr := tx.cut (some (d + e)) none
        generalize cutS z1 (some (d + e)) none = zr at tr ⊢
        walk_at "sx"
        refine ⟨z1, rfl, hz1, ?_⟩
        have tl := tx.cut none (some d)
        generalize cutS z1 none (some d) = zl at tl ⊢
        walk_at "sx"
        refine ⟨zl, zs, rfl, rfl, by rw [sizeLine_eq]; exact Nat.le_trans (Nat.add_le_add tl.1 ts.1) (by decide), ?_⟩
        have ta := tl.app ts
        generalize zl ++ zs = zb at ta ⊢
        walk_at "sx"
        refine ⟨zb, zr, rfl, rfl, by rw [sizeLine_eq]; exact Nat.le_trans (Nat.add_le_add ta.1 tr.1) (by decide), ?_⟩
        have t2 := ta.app tr
        generalize zb ++ zr = z2 at t2 ⊢
        have hz2 : z2.length ≤ 5000 := Nat.le_trans t2.1 (by decide)
        clear ta tl tr ts tx hz1 d0 d1 e0 e1
        have e2 : prT z2.cps.toList = du z2.cps.toList := prT_du t2.2
        walk_at "sx"
        refine ⟨.str z2, rfl, shw_str (sho_str t2.2 hz2), .inr ⟨z2, rfl, hz2, fun js p1 H21 hi s1 hn1 ep1 => ?_, fun hn H21 s1 => ?_⟩⟩
        · have hd := e2.symm.trans hi
          obtain ⟨l4, ok4⟩ := du_ok hz2 t2.2 hd
          walk_at "sx"
          refine x_reprD (.tup (SqT.of ep1) (dp_ops js)) (sho_ops ok4 l4) ?_
          walk_at "sx"
          refine ⟨z2, rfl, hz2, t2.2, fun ks p2 H22 hj s2 hn2 ep2 => ?_, fun hn => absurd (hn.symm.trans hd) (by simp)⟩
          obtain rfl := Option.some.inj (hd.symm.trans hj)
          walk_at "sx"
          refine x_reprD (.tup (SqT.of ep2) (dp_ops js)) (sho_ops ok4 l4) ?_
          refine My.x_ne rfl ?_
          rw [decide_eq_true rfl]
          refine ⟨_, rfl, ?_⟩
          exact ⟨(SP.trans (SameP.of s1)).trans (SameP.of s2), (P4.sees s1).sees s2, _, _, _, _, _, _, rfl⟩
        · have hd := e2.symm.trans hn
          walk_at "sx"
          refine x_reprD .non sho_none ?_
          walk_at "sx"
          refine ⟨z2, rfl, hz2, t2.2, fun ks p2 H22 hj => absurd (hj.symm.trans hd) (by simp), fun _ H22 s2 => ?_⟩
          walk_at "sx"
          refine x_reprD .non sho_none ?_
          refine My.x_ne rfl ?_
          rw [decide_eq_true rfl]
          refine ⟨_, rfl, ?_⟩
          exact ⟨(SP.trans (SameP.of s1)).trans (SameP.of s2), (P4.sees s1).sees s2, _, _, _, _, _, _, rfl⟩
      · rintro σ' H13 ⟨SP, _, o4, o5, o6, o7, o8, o9, rfl⟩
        exact ⟨fun b o e => SP b o (ne_of_none e hp0) (S b o e), _, _, _, _, _, _, _, _, _, rfl⟩
    · rintro σ' H11 ⟨S, o1, o2, o3, o4, o5, o6, o7, o8, o9, rfl⟩
      walk_at "sx"
      exact q H11
end
end K32

end

section
namespace K32
open PySem PySem.Spec PyProof.Rows L2
/-! ### a hook by whatever is seen of the fragment that the top leaves -/
def hookF {α : Type} (n : Nat) (see : PySem.W.Frag → α) (due : World → α) : PySem.W.Hook :=
  ⟨α, fun s => see (He.frG s.heap.get? (He.asD s.heap.get? n)), due, fun w h => ∃ K : PySem.W.Frag, K.In h ∧ see K = due w,
    fun _ _ e => ⟨_, He.frG_in, e⟩, fun _ _ _ h k => h.imp fun _ c => ⟨PySem.W.Frag.In.keeps c.1 k, c.2⟩⟩
/-- the same, off the tree -/
def seeT {α : Type} (n : Nat) (see : PySem.W.Frag → α) (s : PySem.W.SharedT) : α := let g := HandSHeadRun.getT s; see (He.frG g (He.asD g n))
theorem seeT_eq {α : Type} (n : Nat) (see : PySem.W.Frag → α) (due : World → α) (s : PySem.W.SharedT) : seeT n see s = (hookF n see due).obs s.abs :=
  congrArg (fun g => see (He.frG g (He.asD g n))) (funext (HandSHeadRun.getT_eq s))
def fn : List He.DefD := [d_InvalidOperation_init, d_ParseError_init, d_is_text, d_is_operation, d_is_number, d_item_text, d_format_operation, d_read_item, d_parse_operation, d_law_pool, d_law_draw, d_law_choose, d_law_operation, d_law_text, d_law_is_number, d_law_due, d_law_read, d_law_is_refused, d_law]
def fa : List He.Fa := [.glo "is_text", .glo "is_operation", .glo "is_number", .glo "item_text", .glo "format_operation", .glo "read_item", .glo "parse_operation", .glo "_law_pool", .glo "_law_draw", .glo "_law_choose", .glo "_law_operation", .glo "_law_text", .glo "_law_is_number", .glo "_law_due", .glo "_law_read", .glo "_law_is_refused", .glo "law", .glo "FORMS", .glo "NUMBERS", .free "len", .free "int", .free "str", .free "tuple", .free "zip", .free "max", .free "min", .free "range", .free "isinstance", .free "all", .free "repr", .free "ValueError", .str "DIGITS" "0123456789", .int "MAX_TEXT" 20000]
def ts : List He.Tab := [(FA, FS.map (·.1))]
/-- a built-in __init__ -/
def vInit (K : PySem.W.Frag) : Bool := match PySem.W.findCls K (.type "ValueError") (.type "type") "__init__" with
  | some (.val (.builtin n)) => n == "ValueError.__init__"
  | _ => false
theorem vInit_ok {K : PySem.W.Frag} (h : vInit K = true) : PySem.W.findCls K (.type "ValueError") (.type "type") "__init__" = some (.val (.builtin "ValueError.__init__")) := by
  unfold vInit at h
  split at h
  · rename_i n e
    rw [e, beq_iff_eq.mp h]
  · cases h
/-- a tuple of texts -/
def strL : List Value → List Str → Bool
  | [], [] => true
  | .str x _ :: r, k :: ks => decide (x = k) && strL r ks
  | _, _ => false
theorem strL_ok : ∀ {its : List Value} {ks : List Str}, strL its ks = true → Vals (ks.map V.str) its
  | [], [], _ => .nil
  | [], _ :: _, h => nomatch h
  | .str x t :: r, [], h => nomatch h
  | .str x t :: r, k :: ks, h => by
    have h : (decide (x = k) && strL r ks) = true := h
    obtain ⟨h1, h2⟩ := My.ba h
    obtain rfl := of_decide_eq_true h1
    exact .cons ⟨t, rfl⟩ (strL_ok h2)
def tupS (K : PySem.W.Frag) (a : Addr) (ks : List Str) : Bool := match K.lookup a with
  | some ⟨.type t, _, .seq its _, _⟩ => t == "tuple" && (strL its.toList ks && decide (ks.length ≤ 100))
  | _ => false
theorem tupS_ok {K : PySem.W.Frag} {a : Addr} {ks : List Str} (h : tupS K a ks = true) (H : Hp) : SqT K H a (ks.map V.str) := by
  unfold tupS at h
  split at h
  · rename_i t dd its n sl e
    obtain ⟨h1, h2⟩ := My.ba h
    obtain ⟨h3, h4⟩ := My.ba h2
    have e1 := beq_iff_eq.mp h1
    subst e1
    have v := strL_ok h3
    have h4 := of_decide_eq_true h4
    refine .inr ⟨_, its, n, e, rfl, rfl, ?_, v⟩
    rw [← Array.length_toList, ← v.length, List.length_map, sizeLine_eq]
    omega
  · cases h
/-- a form's tuple -/
def frmB (K : PySem.W.Frag) (z : Str) (fs : List Str) : Bool := match PySem.W.nsIn K (FA K) z with
  | some (some (.ref a)) => tupS K a fs
  | _ => false
theorem frmB_ok {K : PySem.W.Frag} {z : Str} {fs : List Str} (h : frmB K z fs = true) : ∃ a, PySem.W.nsIn K (FA K) z = some (some (.ref a)) ∧ ∀ H, SqT K H a (fs.map V.str) := by
  unfold frmB at h
  split at h
  · rename_i a e
    exact ⟨a, e, tupS_ok h⟩
  · cases h
/-- a key that the table lacks -/
theorem keys_no {P : Params} {z : Str} : ∀ {l : List DictEntry} {ks : List Str}, l.map He.keyOf = He.keysIn P ks → z ∉ ks → l.find? (·.key.isStr z) = none ∧ l.any (·.refKey) = false
  | [], _, _, _ => ⟨rfl, rfl⟩
  | e :: r, [], h, _ => nomatch h
  | e :: r, k :: ks, h, n => by
    have h1 : He.keyOf e :: r.map He.keyOf = some (k, PyData.keyHash P k) :: He.keysIn P ks := h
    injection h1 with h2 h3
    obtain ⟨a, b⟩ := keys_no h3 fun m => n (List.mem_cons_of_mem _ m)
    obtain ⟨x, t, e1⟩ : ∃ x t, e.key = .str x t ∧ x = k := by
      unfold He.keyOf at h2
      split at h2
      · rename_i x t q
        exact ⟨x, t, q, (Prod.mk.inj (Option.some.inj h2)).1⟩
      · cases h2
    obtain ⟨e1, rfl⟩ := e1
    have ne : e.key.isStr z = false := by
      rw [e1]
      cases q : (Value.str x t).isStr z with
      | false => rfl
      | true => exact absurd (show x = z from eq_of_beq q) fun y => n (y ▸ List.mem_cons_self)
    refine ⟨?_, ?_⟩
    · rw [List.find?_cons, ne]
      exact a
    · rw [List.any_cons, b]
      unfold DictEntry.refKey
      rw [e1]
      rfl
theorem dicW_no {K : PySem.W.Frag} {P : Params} {a : Addr} {ks : List Str} {z : Str} (h : He.dicW K a = some (He.keysIn P ks)) (n : z ∉ ks) : PySem.W.nsIn K a z = some none := by
  unfold He.dicW at h
  split at h
  · rename_i c es m sl e
    split at h
    · obtain ⟨h1, h2⟩ := keys_no (Option.some.inj h) n
      unfold PySem.W.nsIn
      rw [e]
      dsimp only
      rw [h1]
      dsimp only
      rw [h2]
      rfl
    · cases h
  · cases h
theorem lookup_no {α : Type} : ∀ {l : List (Str × α)} {z : Str}, l.lookup z = none → z ∉ l.map (·.1)
  | [], _, _ => by simp
  | (k, v) :: r, z, h => by
    rw [List.lookup_cons] at h
    split at h
    · cases h
    · rename_i e
      intro m
      rcases List.mem_cons.mp m with rfl | m
      · simp at e
      · exact lookup_no h m
def ecB (K : PySem.W.Frag) (C : Addr) : Bool := xfB K C && (He.eqO (PySem.W.findIn K (.ref C) "__class__") (some (some (.builtin "object.__class__"))) && (He.eqO (PySem.W.specialIn K (.builtin "object.__class__") "__get__") (some (some (.builtin "getset_descriptor.__get__"))) &&
  (decide (PySem.W.takesIn K (.builtin "object.__class__") = some true) && decide (PySem.W.mroIn K C (.type "object") = some true))))
theorem ecB_ok {K : PySem.W.Frag} {C : Addr} (h : ecB K C = true) : ExcC K C := by
  obtain ⟨h1, h⟩ := My.ba h
  obtain ⟨h2, h⟩ := My.ba h
  obtain ⟨h3, h⟩ := My.ba h
  obtain ⟨h4, h5⟩ := My.ba h
  have xf := xfB_ok h1
  exact ⟨xf.ga, xf.gg, xf.exC, xf.hdC, He.eqO_ok h2, He.eqO_ok h3, of_decide_eq_true h4, of_decide_eq_true h5⟩
def ex (K : PySem.W.Frag) : Bool := My.excTB K "InvalidOperation" "value" && (My.excTB K "ParseError" "text" && (ecB K (He.ga K "ParseError") && (vInit K && (tupS K (NA K) NB && ((FS.all fun e => frmB K e.1 e.2) && decide (PySem.W.kitOne K (.ref (He.ga K "ParseError")) (.type "ValueError") = some true))))))
abbrev R : PySem.W.OpenRow := PySem.W.OpenLaw.row PySem.Challenge.rw_livevolumes_k32_texts_of_operations
def see (K : PySem.W.Frag) : He.AlT × Bool := (He.obsT fa fn ts K, ex K)
abbrev hk : PySem.W.Hook := hookF 6 see fun w => (He.valT fn ts w, true)
def ob (s : PySem.W.SharedT) : He.AlT × Bool := seeT 6 see s
theorem ob_eq (s : PySem.W.SharedT) : ob s = hk.obs s.abs := seeT_eq 6 see _ s
def loose : List PySem.Str := [("InvalidOperation" : PySem.Str), ("ParseError" : PySem.Str), ("is_text" : PySem.Str), ("FORMS" : PySem.Str), ("is_operation" : PySem.Str), ("DIGITS" : PySem.Str), ("MAX_TEXT" : PySem.Str), ("NUMBERS" : PySem.Str), ("is_number" : PySem.Str), ("item_text" : PySem.Str), ("format_operation" : PySem.Str), ("read_item" : PySem.Str), ("parse_operation" : PySem.Str), ("_law_pool" : PySem.Str), ("_law_draw" : PySem.Str), ("_law_choose" : PySem.Str), ("_law_operation" : PySem.Str), ("_law_text" : PySem.Str), ("_law_is_number" : PySem.Str), ("_law_due" : PySem.Str), ("_law_read" : PySem.Str), ("_law_is_refused" : PySem.Str)]
theorem run (w : World) : HandSHeadRun.RunEq R (PySem.W.view R.prog [27]) hk ob 3000 loose w := by
  refine PySem.W.byRow2 "special-get-raises" (P := fun w => HandSHeadRun.RunEq R (PySem.W.view R.prog [27]) hk ob 3000 loose w) (fun w => ?_) (fun w => ?_) w
  · intro os
    kernel_rfl
  · intro os
    kernel_rfl
theorem facts {P : Program} {w : World} {K : PySem.W.Frag} {h : Heap} {mg : Str → Option Value} {f : Addr} (X : K.In h) (G : h.Ns mainGlobals mg) (hfa : mg ("law" : Str) = some (.ref f)) (c : He.SaysT fa fn ts w K) (e : ex K = true) :
    ∃ fd : FuncData, (∀ (s : Shared) (v : Value), BindsTo s fd ⟨[v], []⟩ [("_law_script", v)]) ∧ ∀ base : Heap, K.In base → base.Ns mainGlobals mg → My.FnG P w K mg base CX0 6 f fd ["_law_script"] (sp_law K) := by
  obtain ⟨fd0, F0⟩ := c.d.def_ 0 (d := d_InvalidOperation_init) rfl
  obtain ⟨fd1, F1⟩ := c.d.def_ 1 (d := d_ParseError_init) rfl
  obtain ⟨fd2, F2⟩ := c.d.def_ 2 (d := d_is_text) rfl
  obtain ⟨fd3, F3⟩ := c.d.def_ 3 (d := d_is_operation) rfl
  obtain ⟨fd4, F4⟩ := c.d.def_ 4 (d := d_is_number) rfl
  obtain ⟨fd5, F5⟩ := c.d.def_ 5 (d := d_item_text) rfl
  obtain ⟨fd6, F6⟩ := c.d.def_ 6 (d := d_format_operation) rfl
  obtain ⟨fd7, F7⟩ := c.d.def_ 7 (d := d_read_item) rfl
  obtain ⟨fd8, F8⟩ := c.d.def_ 8 (d := d_parse_operation) rfl
  obtain ⟨fd9, F9⟩ := c.d.def_ 9 (d := d_law_pool) rfl
  obtain ⟨fd10, F10⟩ := c.d.def_ 10 (d := d_law_draw) rfl
  obtain ⟨fd11, F11⟩ := c.d.def_ 11 (d := d_law_choose) rfl
  obtain ⟨fd12, F12⟩ := c.d.def_ 12 (d := d_law_operation) rfl
  obtain ⟨fd13, F13⟩ := c.d.def_ 13 (d := d_law_text) rfl
  obtain ⟨fd14, F14⟩ := c.d.def_ 14 (d := d_law_is_number) rfl
  obtain ⟨fd15, F15⟩ := c.d.def_ 15 (d := d_law_due) rfl
  obtain ⟨fd16, F16⟩ := c.d.def_ 16 (d := d_law_read) rfl
  obtain ⟨fd17, F17⟩ := c.d.def_ 17 (d := d_law_is_refused) rfl
  obtain ⟨fd18, F18⟩ := c.d.def_ 18 (d := d_law) rfl
  obtain ⟨e1, e⟩ := My.ba e
  obtain ⟨e2, e⟩ := My.ba e
  obtain ⟨e3, e⟩ := My.ba e
  obtain ⟨e4, e⟩ := My.ba e
  obtain ⟨e5, e⟩ := My.ba e
  obtain ⟨e6, e7⟩ := My.ba e
  obtain ⟨es, nk, KD⟩ := c.tab 0 (t := (FA, FS.map (·.1))) rfl
  have dw : He.dicW K (FA K) = some (He.keysIn w.params (FS.map (·.1))) := by
    have z : ts.map (fun t => He.dicW K (t.1 K)) = ts.map fun t => some (He.keysIn w.params t.2) := congrArg (fun z : He.AlT => z.2) c
    exact (List.cons.inj z).1
  have ea := hfa.symm.trans (He.glo_ok X G (c.d.fact 16 (f := .glo "law") rfl))
  cases ea
  obtain ⟨t1, hdg⟩ := He.str_ok X G (c.d.fact 31 (f := .str "DIGITS" "0123456789") rfl)
  obtain ⟨t2, hmx⟩ := He.int_ok X G (c.d.fact 32 (f := .int "MAX_TEXT" 20000) rfl)
  have T : Tx K mg t1 t2 := ⟨He.free_ok X G (c.d.fact 19 (f := .free "len") rfl), He.free_ok X G (c.d.fact 20 (f := .free "int") rfl), He.free_ok X G (c.d.fact 21 (f := .free "str") rfl), He.free_ok X G (c.d.fact 22 (f := .free "tuple") rfl), He.free_ok X G (c.d.fact 23 (f := .free "zip") rfl), He.free_ok X G (c.d.fact 24 (f := .free "max") rfl), He.free_ok X G (c.d.fact 25 (f := .free "min") rfl), He.free_ok X G (c.d.fact 26 (f := .free "range") rfl), He.free_ok X G (c.d.fact 27 (f := .free "isinstance") rfl), He.free_ok X G (c.d.fact 28 (f := .free "all") rfl), He.free_ok X G (c.d.fact 29 (f := .free "repr") rfl), He.free_ok X G (c.d.fact 30 (f := .free "ValueError") rfl), hdg, hmx, (He.glo_ok X G (c.d.fact 17 (f := .glo "FORMS") rfl)), (He.glo_ok X G (c.d.fact 18 (f := .glo "NUMBERS") rfl)), vInit_ok e4, My.excTB_ok X G e1, My.excTB_ok X G e2, ecB_ok e3, tupS_ok e5, fun z hz => dicW_no dw (lookup_no hz), fun z fs hz => frmB_ok (List.all_eq_true.mp e6 _ (lookup_mem hz))⟩
  have b := FunD.bindsA (ps := ["_law_script"]) F18 fun _ _ _ _ _ _ us hl => match us, hl with | [_], _ => rfl
  refine ⟨fd18, fun s v => b s [v] rfl, fun base hKb hbns => ?_⟩
  have bIO : Binds K fd0 ["self", "value"] [] := F0.bindsN fun _ _ _ _ _ _ us hl => match us, hl with | [_, _], _ => rfl
  have bPE : Binds K fd1 ["self", "text"] [] := F1.bindsN fun _ _ _ _ _ _ us hl => match us, hl with | [_, _], _ => rfl
  have okIO := ok_io (P := P) (w := w) (base := base) T F0
  have okPE := ok_pe (P := P) (w := w) (base := base) T F1
  have C_is_text : My.Cl P w K mg base "is_text" ["value", "most"] 1 (sp_text K) := ⟨⟨fd2, ok_text T F2, F2.bindsN fun _ _ _ _ _ _ us hl => match us, hl with | [_, _], _ => rfl⟩, F2.kp, (He.glo_ok X G (c.d.fact 0 (f := .glo "is_text") rfl))⟩
  have C_is_operation : My.Cl P w K mg base "is_operation" ["value"] 1 (sp_oper K) := ⟨⟨fd3, ok_oper T KD F3, F3.bindsN fun _ _ _ _ _ _ us hl => match us, hl with | [_], _ => rfl⟩, F3.kp, (He.glo_ok X G (c.d.fact 1 (f := .glo "is_operation") rfl))⟩
  have C_is_number : CNum P w K mg base := ⟨⟨fd4, ok_num T F4, F4.bindsN fun _ _ _ _ _ _ us hl => match us, hl with | [_], _ => rfl⟩, F4.kp, (He.glo_ok X G (c.d.fact 2 (f := .glo "is_number") rfl))⟩
  have C_item_text : My.Cl P w K mg base "item_text" ["form", "value"] 1 sp_item := ⟨⟨fd5, ok_item T F5, F5.bindsN fun _ _ _ _ _ _ us hl => match us, hl with | [_, _], _ => rfl⟩, F5.kp, (He.glo_ok X G (c.d.fact 3 (f := .glo "item_text") rfl))⟩
  have C_format : CFm P w K mg base := ⟨⟨fd6, ok_fmt T KD F6 C_is_operation C_item_text okIO bIO, F6.bindsN fun _ _ _ _ _ _ us hl => match us, hl with | [_], _ => rfl⟩, F6.kp, (He.glo_ok X G (c.d.fact 4 (f := .glo "format_operation") rfl))⟩
  have C_read_item : CRd P w K mg base := ⟨⟨fd7, ok_rd T F7 C_is_number okPE bPE, F7.bindsN fun _ _ _ _ _ _ us hl => match us, hl with | [_, _, _], _ => rfl⟩, F7.kp, (He.glo_ok X G (c.d.fact 5 (f := .glo "read_item") rfl))⟩
  have C_parse : CPa P w K mg base := ⟨⟨fd8, ok_parse T KD F8 C_is_text C_read_item okPE bPE, F8.bindsN fun _ _ _ _ _ _ us hl => match us, hl with | [_], _ => rfl⟩, F8.kp, (He.glo_ok X G (c.d.fact 6 (f := .glo "parse_operation") rfl))⟩
  have C_pool : My.Cl P w K mg base "_law_pool" ["_law_script", "_law_k"] 1 (My.sp_pool K) := ⟨⟨fd9, ok_pool T F9, F9.bindsN fun _ _ _ _ _ _ us hl => match us, hl with | [_, _], _ => rfl⟩, F9.kp, (He.glo_ok X G (c.d.fact 7 (f := .glo "_law_pool") rfl))⟩
  have C_draw : CDr P w K mg base := ⟨⟨fd10, ok_draw T F10, F10.bindsN fun _ _ _ _ _ _ us hl => match us, hl with | [_, _], _ => rfl⟩, F10.kp, (He.glo_ok X G (c.d.fact 8 (f := .glo "_law_draw") rfl))⟩
  have C_choose : CCh P w K mg base := ⟨⟨fd11, ok_choose T F11 C_draw, F11.bindsN fun _ _ _ _ _ _ us hl => match us, hl with | [_, _], _ => rfl⟩, F11.kp, (He.glo_ok X G (c.d.fact 9 (f := .glo "_law_choose") rfl))⟩
  have C_op : My.Cl P w K mg base "_law_operation" ["_law_pool_here"] 3 sp_law_op := ⟨⟨fd12, ok_law_op T F12 C_draw C_choose, F12.bindsN fun _ _ _ _ _ _ us hl => match us, hl with | [_], _ => rfl⟩, F12.kp, (He.glo_ok X G (c.d.fact 10 (f := .glo "_law_operation") rfl))⟩
  have C_text : My.Cl P w K mg base "_law_text" ["_law_op"] 1 (sp_ltext K) := ⟨⟨fd13, ok_ltext T F13, F13.bindsN fun _ _ _ _ _ _ us hl => match us, hl with | [_], _ => rfl⟩, F13.kp, (He.glo_ok X G (c.d.fact 11 (f := .glo "_law_text") rfl))⟩
  have C_lnum : My.Cl P w K mg base "_law_is_number" ["_law_text_here"] 1 sp_lnum := ⟨⟨fd14, ok_lnum T F14, F14.bindsN fun _ _ _ _ _ _ us hl => match us, hl with | [_], _ => rfl⟩, F14.kp, (He.glo_ok X G (c.d.fact 12 (f := .glo "_law_is_number") rfl))⟩
  have C_due : My.Cl P w K mg base "_law_due" ["_law_text_here"] 2 sp_due := ⟨⟨fd15, ok_due T F15 C_lnum, F15.bindsN fun _ _ _ _ _ _ us hl => match us, hl with | [_], _ => rfl⟩, F15.kp, (He.glo_ok X G (c.d.fact 13 (f := .glo "_law_due") rfl))⟩
  have C_read : My.ClG P w K mg base CX0 "_law_read" ["_law_text_here"] 5 (sp_read K) := ⟨⟨fd16, ok_read T F16 C_parse (of_decide_eq_true e7), F16.bindsN fun _ _ _ _ _ _ us hl => match us, hl with | [_], _ => rfl⟩, F16.kp, (He.glo_ok X G (c.d.fact 14 (f := .glo "_law_read") rfl))⟩
  have C_ref : My.ClG P w K mg base CX0 "_law_is_refused" ["_law_value"] 4 (sp_refused K) := ⟨⟨fd17, ok_refused T F17 C_format, F17.bindsN fun _ _ _ _ _ _ us hl => match us, hl with | [_], _ => rfl⟩, F17.kp, (He.glo_ok X G (c.d.fact 15 (f := .glo "_law_is_refused") rfl))⟩
  exact ok_law T F18 C_pool C_draw C_choose C_op C_text C_format C_parse C_due C_read C_ref
end K32

end

section
open PySem PySem.W PySem.Calls PyProof.Rows
theorem PySem.Challenge.cw_livevolumes_k32_texts_of_operations_holds : PySem.Challenge.rw_livevolumes_k32_texts_of_operations.Holds := by
  w_on; o_law
  refine HandSHeadRun.head_any (r := K32.R) (q := view K32.R.prog [27]) (H := K32.hk) (ob := K32.ob) (M := 3000) (loose := K32.loose) (d := HandSHeadRun.topDef K32.R.prog 27) (kwd := []) K32.ob_eq
    (by kernel_rfl) (fun s => by kernel_rfl) K32.run (by kernel_rfl) (by kernel_rfl) (by kernel_rfl) (by rfl) (by first | assumption | decide +kernel) (by decide +kernel) ⟨rfl, rfl, rfl, rfl, rfl, by decide +kernel⟩ ?hw ?hc
  case hw => w_witness2
  case hc =>
    refine My.walk_ofG (l := PySem.Challenge.rw_livevolumes_k32_texts_of_operations) (n := 63) (k := 6) (x := "_law_script") (CX := fun _ => L2.CX0) rfl (by decide) (by kernel_rfl) ⟨rfl, by decide, by decide⟩ ?F (fun _ _ _ _ _ z => z)
    intro w mg fa h Y G hmg0
    obtain ⟨K, KX, ce⟩ := Y
    have c : He.SaysT K32.fa K32.fn K32.ts w K := congrArg (fun z : He.AlT × Bool => z.1) ce
    have e : K32.ex K = true := congrArg (fun z : He.AlT × Bool => z.2) ce
    have hmg : mg ("law" : PySem.Str) = some (.ref fa) := by
      have e : (HandSHeadRun.topDef K32.R.prog 27).name = ("law" : PySem.Str) := by kernel_rfl
      rw [← e]
      exact hmg0
    obtain ⟨fd, hb, hF⟩ := K32.facts (P := (PySem.Challenge.rw_livevolumes_k32_texts_of_operations).prog) (w := w) KX G hmg c e
    exact ⟨K, fd, K32.sp_law K, KX, hb, fun H a ns hl _ _ hS => ⟨a, ns, rfl, hS, hl, fun _ => rfl⟩, hF⟩
#print axioms PySem.Challenge.cw_livevolumes_k32_texts_of_operations_holds

end

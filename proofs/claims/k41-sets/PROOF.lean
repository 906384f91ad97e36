import PyProof.Rows.All
import Wide.All
import OpenK.AllK
import Wide.FinOn
import KE.KStateDown
import Lean
import HandS.ForMost
import HandS.Exc
import HandS.Wide
import HandS.Style
import HandS.SortInts
import HandS.DictComp
import HandS.Defaults
import HandS.EndBits
import HandS.Head0
import HandS.Head1
import HandS.Head2
import HandS.HeadEnd
import HandS.HeadHook1
import HandS.HeadHook2
import HandS.ExcInit
import HandS.ExcField
import HandS.ForExc
import HandS.IsInst
import HandS.SetFor
import HandS.Strs
import HandS.MakeKw
import HandS.MakeKwOnly
import HandS.More
import HandS.ExcOwn
import HandS.WordsExc
import PySem.Challenge.RW_livevolumes_k41_sets_of_blocks
set_option Elab.async false
set_option linter.all false
set_option maxRecDepth 100000
set_option maxHeartbeats 2000000
namespace My
open PySem PySem.Spec PyProof.Rows L2
section
variable {σ : L2.St} {H : Hp} {Q : VK} {nx bk ct : L2.St → Hp → Prop} {rt : VK} {t t1 t2 u : TS} {te ta tb tc : TE} {c d : TT} {g : TG} {x y v w : V}
theorem x_seq (h : t1 ⟨t2 ⟨nx, rt, bk, ct⟩, rt, bk, ct⟩ σ H) : tSeq t1 t2 ⟨nx, rt, bk, ct⟩ σ H := h
theorem x_next (h : nx σ H) : tNext ⟨nx, rt, bk, ct⟩ σ H := h
theorem x_ret (h : te σ H rt) : tRet te ⟨nx, rt, bk, ct⟩ σ H := h
theorem x_drop (h : te σ H fun _ H1 => nx σ H1) : tDrop te ⟨nx, rt, bk, ct⟩ σ H := h
theorem x_asg (h : te σ H fun x H1 => g x σ H1 nx) : tAsg te g ⟨nx, rt, bk, ct⟩ σ H := h
theorem x_par {i j : Nat} {ta : TA} (h : ta σ H fun vs H1 => ∃ v w, vs = [v, w] ∧ gName i v σ H1 fun σ1 H2 => gName j w σ1 H2 nx) : tPar i j ta ⟨nx, rt, bk, ct⟩ σ H := h
theorem x_exp2 {R : V → V → Prop} (h : R v w) : ∃ a b, [v, w] = [a, b] ∧ R a b := ⟨v, w, rfl, h⟩
theorem x_ifs (h : c σ H fun b H1 => if b = true then t ⟨nx, rt, bk, ct⟩ σ H1 else u ⟨nx, rt, bk, ct⟩ σ H1) : tIfS c t u ⟨nx, rt, bk, ct⟩ σ H := h
theorem x_c (h : Q v H) : tC v σ H Q := h
theorem x_op {r : R2} (h : ta σ H fun x H1 => tb σ H1 fun y H2 => r x y H2 Q) : tOp r ta tb σ H Q := h
theorem x_un {r : V → Hp → VK → Prop} (h : ta σ H fun x H1 => r x H1 Q) : tUn r ta σ H Q := h
theorem x_nil {Q : List V → Hp → Prop} (h : Q [] H) : tNil σ H Q := h
theorem x_cons {tr : TA} {Q : List V → Hp → Prop} (h : ta σ H fun x H1 => tr σ H1 fun xs H2 => Q (x :: xs) H2) : tCons ta tr σ H Q := h
theorem x_cb {r : List V → Hp → VK → Prop} {ta : TA} (h : ta σ H fun vs H1 => r vs H1 Q) : tCB r ta σ H Q := h
theorem x_call {sp : Sp} {dvs : List V} {E : XK} {ta : TA} (h : ta σ H fun vs H1 => sp (vs ++ dvs) H1 Q E) : tCall sp dvs E ta σ H Q := h
theorem x_test {Q : Bool → Hp → Prop} (h : te σ H fun x H' => ∃ k, x = .bl k ∧ Q k H') : tTest te σ H Q := h
theorem x_tB {Q : Bool → Hp → Prop} (h : te σ H fun x H' => ∃ k, x = .bl k ∧ Q k H') : tB te σ H Q := h
theorem x_exbl {b : Bool} {R : Bool → Prop} (h : R b) : ∃ k, V.bl b = .bl k ∧ R k := ⟨b, rfl, h⟩
theorem x_or {Q : Bool → Hp → Prop} (h : c σ H fun b H1 => if b = true then Q true H1 else d σ H1 Q) : tOr c d σ H Q := h
theorem x_not {Q : Bool → Hp → Prop} (h : c σ H fun b H1 => Q (!b) H1) : tNot c σ H Q := h
theorem x_yes {Q : Bool → Hp → Prop} (h : Q true H) : tYes σ H Q := h
theorem x_andv (h : ta σ H fun x H1 => ∃ c, x = .bl c ∧ if c = true then tb σ H1 Q else Q (.bl false) H1) : tAndV ta tb σ H Q := h
theorem x_notv (h : ta σ H fun x H1 => ∃ c, x = .bl c ∧ Q (.bl (!c)) H1) : tNotV ta σ H Q := h
theorem x_chain {r r' : R2} (h : ta σ H fun x H1 => tb σ H1 fun y H2 => r x y H2 fun z H3 => ∃ k, z = .bl k ∧ (if k = true then tc σ H3 fun w' H4 => r' y w' H4 Q else Q (.bl false) H3)) : tChain r r' ta tb tc σ H Q := h
theorem x_tfor {wi : TI} {tb : TS} (h : wi σ H fun J H1 => ∃ W : Nat → Nat → L2.St → Hp → Prop, (∃ m, W 0 m σ H1) ∧ ∀ i m σ H, W i m σ H →
  (J.stop i H ∧ nx σ H) ∨ (J.go i H ∧ ∃ N : L2.St → Hp → Prop, (∀ σ' H', N σ' H' → ∃ m', m' < m ∧ W (i + 1) m' σ' H') ∧ ∀ x H', J.yld i H x H' → g x σ H' fun σ2 H2 => tb ⟨N, rt, nx, N⟩ σ2 H2)) : tFor wi g tb ⟨nx, rt, bk, ct⟩ σ H := h
theorem x_ilist {K : PySem.W.Frag} {R} (h : te σ H fun x H1 => ∃ a, x = .ref a ∧ (∃ xs, SqL K H1 a xs) ∧ R (Itl K a) H1) : iList K te σ H R := h
theorem x_rng1 {ta : TA} {R} (h : ta σ H fun vs H1 => ∃ j : Int, vs = [.int j] ∧ -(2 ^ 62) ≤ j ∧ j < 2 ^ 62 ∧ R (Itr 0 j.toNat) H1) : iRng1 ta σ H R := h
theorem x_ii0 {i j : Int} {g : Int → Int → V} (h : Q (g i j) H) : rI0 g (.int i) (.int j) H Q := ⟨i, j, rfl, rfl, h⟩
theorem x_r1 {i : Int} {g : Int → V} (h : Q (g i) H) : rU g (.int i) H Q := ⟨i, rfl, h⟩
theorem x_iT {A B : Prop} (h : A) : if true = true then A else B := iteT h
theorem x_iF {A B : Prop} (h : B) : if false = true then A else B := iteF h
theorem x_bm {K : PySem.W.Frag} {T : String} {r : V → List V → Hp → VK → Prop} {t : TA} (h : te σ H fun x H1 => tyV K T x H1 ∧ t σ H1 fun xs H2 => r x xs H2 Q) : tBM K T r te t σ H Q := h
theorem x_bm0 {K : PySem.W.Frag} {T : String} {r : V → List V → Hp → VK → Prop} (h : te σ H fun x H1 => tyV K T x H1 ∧ r x [] H1 Q) : tBM0 K T r te σ H Q := h
/-- a rule with a side condition -/
theorem x_i {C : Int → Int → Prop} {i j : Int} {g : Int → Int → V} (hc : C i j) (h : Q (g i j) H) : rI C g (.int i) (.int j) H Q := ⟨i, j, rfl, rfl, hc, h⟩
theorem x_dec {p : Prop} [Decidable p] {A B : Prop} (h1 : p → A) (h2 : ¬ p → B) : if decide p = true then A else B := by
  by_cases h : p
  · rw [decide_eq_true h]; exact iteT (h1 h)
  · rw [decide_eq_false h]; exact iteF (h2 h)
theorem x_eq (h : scal x y = true) (k : Q (.bl (decide (x = y))) H) : rEq x y H Q := ⟨h, k⟩
theorem x_ne (h : scal x y = true) (k : Q (.bl (!decide (x = y))) H) : rNe x y H Q := ⟨h, k⟩
theorem x_lst {ta : TA} (h : ta σ H fun xs H1 => xs.length ≤ sizeLine ∧ ∀ p, H1 p = none → Q (.ref p) (upd H1 p (.lst xs))) : tLst ta σ H Q := h
theorem x_tup {ta : TA} (h : ta σ H fun xs H1 => xs.length ≤ sizeLine ∧ ∀ p, H1 p = none → Q (.ref p) (upd H1 p (.tup xs))) : tTup ta σ H Q := h
theorem x_ixL {K : PySem.W.Frag} {p : Addr} {xs : List V} {i : Int} (h : SqL K H p xs) (ha : atI xs i = some v) (k : Q v H) : rIxL K (.ref p) (.int i) H Q := ⟨p, xs, i, v, rfl, rfl, h, ha, k⟩
theorem x_setL {p : Addr} {xs : List V} {i : Int} {j : Nat} {Q : Hp → Prop} (h : H p = some (.lst xs)) (hi : ixN xs.length i = some j) (k : Q (upd H p (.lst (xs.set j v)))) : rSetL (.ref p) (.int i) v H Q := ⟨p, xs, i, j, rfl, rfl, h, hi, k⟩
theorem x_mem1 {n : Nat} {A : Prop} (h : n ≤ sizeLine) (k : A) : n ≤ sizeLine ∧ A := ⟨h, k⟩
theorem x_sortDI {a : Addr} {kvs : List (Key × V)} {ks : List Int} {R : List Int → Addr → Prop} (s : H a = some (.dK kvs)) (hk : kvs.map (·.1) = ks.map Sum.inl) (l : ks.length < 64) (h : ∀ (ys : List Int) (p : Addr), ys.Perm ks → ys.Pairwise (· ≤ ·) → H p = none → R ys p) :
    ∃ (b : Addr) (kvs : List (Key × V)) (ks : List Int), [V.ref a] = [.ref b] ∧ Rd H b (.dK kvs) ∧ kvs.map (·.1) = ks.map Sum.inl ∧ ks.length < 64 ∧ ∀ (ys : List Int) (p : Addr), ys.Perm ks → ys.Pairwise (· ≤ ·) → H p = none → R ys p := ⟨a, kvs, ks, rfl, .inl s, hk, l, h⟩
theorem inV_int (i : Int) : ∀ ks : List Int, inV (.int i) (ks.map V.int) = decide (i ∈ ks)
  | [] => by simp [inV]
  | k :: r => by
    have ih := inV_int i r
    unfold inV at ih ⊢
    rw [List.map_cons, List.any_cons, ih]
    have : eqV (V.int k) (V.int i) = decide (k = i) := rfl
    rw [this, Bool.eq_iff_iff]
    simp only [Bool.or_eq_true, decide_eq_true_eq, List.mem_cons]
    exact ⟨fun q => q.imp Eq.symm id, fun q => q.imp Eq.symm id⟩
theorem flat_ints (ks : List Int) : (ks.map V.int).all flatV = true := by
  rw [List.all_eq_true]
  intro x hx
  obtain ⟨k, _, rfl⟩ := List.mem_map.mp hx
  rfl
theorem x_inI {K : PySem.W.Frag} {p : Addr} {i : Int} {ks : List Int} (s : SqL K H p (ks.map V.int)) (h : Q (.bl (decide (i ∈ ks))) H) : rIn K false (.int i) (.ref p) H Q :=
  ⟨p, _, rfl, .inl s, rfl, flat_ints ks, by rw [inV_int]; exact h⟩
theorem x_notinI {K : PySem.W.Frag} {p : Addr} {i : Int} {ks : List Int} (s : SqL K H p (ks.map V.int)) (h : Q (.bl (!decide (i ∈ ks))) H) : rIn K true (.int i) (.ref p) H Q :=
  ⟨p, _, rfl, .inl s, rfl, flat_ints ks, by rw [inV_int]; exact h⟩
theorem x_start {t : TS} {D : Ends} {σ σ' : L2.St} {H : Hp} (e : σ' = σ) (h : t D σ H) : t D σ' H := e ▸ h
theorem x_gsub {to ti : TE} {ts : TSet} {Q : L2.St → Hp → Prop} (h : to σ H fun o H1 => ti σ H1 fun i H2 => ts o i v H2 fun H3 => Q σ H3) : gSub to ti ts v σ H Q := h
theorem x_int1 {i : Int} {R : Prop} {Q : Int → Prop} (h : Q i) : (∃ j, [V.int i] = [.int j] ∧ Q j) ∨ R := .inl ⟨i, rfl, h⟩
theorem x_len {K : PySem.W.Frag} {a : Addr} {ys : List V} {Q : List V → Prop} (s : SqL K H a ys) (h : Q ys) : ∃ (p : Addr) (ys : List V), [V.ref a] = [.ref p] ∧ (SqL K H p ys ∨ SqT K H p ys) ∧ Q ys := ⟨a, ys, rfl, .inl s, h⟩
theorem x_lenD {a : Addr} {kvs : List (Key × V)} {Q : List (Key × V) → Prop} (s : H a = some (.dK kvs)) (h : Q kvs) : ∃ (b : Addr) (kvs : List (Key × V)), [V.ref a] = [.ref b] ∧ H b = some (.dK kvs) ∧ Q kvs := ⟨a, kvs, rfl, s, h⟩
theorem x_two {i j : Int} {Q : Int → Int → Prop} (h : Q i j) : ∃ a b : Int, [V.int i, V.int j] = [.int a, .int b] ∧ Q a b := ⟨i, j, rfl, h⟩
theorem x_sortI {K : PySem.W.Frag} {a : Addr} {ns : List Int} (s : SqL K H a (ns.map V.int)) (h : ∀ (ns' : List Int) (p : Addr), ns'.Perm ns → ns'.Pairwise (· ≤ ·) → H p = none → Q (.ref p) (upd H p (.lst (ns'.map V.int)))) : rSortedI K [.ref a] H Q := ⟨a, ns, rfl, s, h⟩
theorem x_revL {K : PySem.W.Frag} (h : te σ H fun x H1 => ∃ a xs, x = .ref a ∧ SqL K H1 a xs ∧ ∀ p, H1 p = none → Q (.ref p) (upd H1 p (.lst xs.reverse))) : tRevL K te σ H Q := h
theorem x_revL2 {K : PySem.W.Frag} {a : Addr} {xs : List V} {R : List V → Prop} (s : SqL K H a xs) (h : R xs) : ∃ (b : Addr) (xs : List V), V.ref a = .ref b ∧ SqL K H b xs ∧ R xs := ⟨a, xs, rfl, s, h⟩
theorem x_dnew (h : ∀ p, H p = none → Q (.ref p) (upd H p (.dK []))) : tDNewK σ H Q := h
theorem x_append {l : Addr} {xs : List V} (s : H l = some (.lst xs)) (n : xs.length < sizeLine) (h : Q .non (upd H l (.lst (xs ++ [y])))) : rAppend (.ref l) [y] H Q := ⟨l, xs, y, rfl, rfl, s, n, h⟩
theorem x_tyL {K : PySem.W.Frag} {a : Addr} {xs : List V} {R : Prop} (s : H a = some (.lst xs)) (h : R) : tyV K "list" (.ref a) H ∧ R := ⟨.inl ⟨rfl, _, SqL.of s⟩, h⟩
theorem x_ilistE {K : PySem.W.Frag} {a : Addr} {xs : List V} {R : Addr → Prop} (s : SqL K H a xs) (h : R a) : ∃ b, V.ref a = .ref b ∧ (∃ xs, SqL K H b xs) ∧ R b := ⟨a, rfl, ⟨xs, s⟩, h⟩
theorem x_rng1E {j : Int} {R : Int → Prop} (h1 : -(2 ^ 62) ≤ j) (h2 : j < 2 ^ 62) (h : R j) : ∃ k : Int, [V.int j] = [.int k] ∧ -(2 ^ 62) ≤ k ∧ k < 2 ^ 62 ∧ R k := ⟨j, rfl, h1, h2, h⟩
end

theorem x_v0 {v : V} {r : L2.St} {H : Hp} {Q : VK} (h : Q v H) : tVar 0 (some v :: r) H Q := ⟨v, rfl, h⟩
theorem x_v1 {a0 : Option V} {v : V} {r : L2.St} {H : Hp} {Q : VK} (h : Q v H) : tVar 1 (a0 :: some v :: r) H Q := ⟨v, rfl, h⟩
theorem x_g1 {a0 : Option V} {v : V} {c : Option V} {r : L2.St} {H : Hp} {Q : L2.St → Hp → Prop} (h : Q (a0 :: some v :: r) H) : gName 1 v (a0 :: c :: r) H Q := h
theorem x_v2 {a0 a1 : Option V} {v : V} {r : L2.St} {H : Hp} {Q : VK} (h : Q v H) : tVar 2 (a0 :: a1 :: some v :: r) H Q := ⟨v, rfl, h⟩
theorem x_g2 {a0 a1 : Option V} {v : V} {c : Option V} {r : L2.St} {H : Hp} {Q : L2.St → Hp → Prop} (h : Q (a0 :: a1 :: some v :: r) H) : gName 2 v (a0 :: a1 :: c :: r) H Q := h
theorem x_v3 {a0 a1 a2 : Option V} {v : V} {r : L2.St} {H : Hp} {Q : VK} (h : Q v H) : tVar 3 (a0 :: a1 :: a2 :: some v :: r) H Q := ⟨v, rfl, h⟩
theorem x_g3 {a0 a1 a2 : Option V} {v : V} {c : Option V} {r : L2.St} {H : Hp} {Q : L2.St → Hp → Prop} (h : Q (a0 :: a1 :: a2 :: some v :: r) H) : gName 3 v (a0 :: a1 :: a2 :: c :: r) H Q := h
theorem x_v4 {a0 a1 a2 a3 : Option V} {v : V} {r : L2.St} {H : Hp} {Q : VK} (h : Q v H) : tVar 4 (a0 :: a1 :: a2 :: a3 :: some v :: r) H Q := ⟨v, rfl, h⟩
theorem x_g4 {a0 a1 a2 a3 : Option V} {v : V} {c : Option V} {r : L2.St} {H : Hp} {Q : L2.St → Hp → Prop} (h : Q (a0 :: a1 :: a2 :: a3 :: some v :: r) H) : gName 4 v (a0 :: a1 :: a2 :: a3 :: c :: r) H Q := h
theorem x_v5 {a0 a1 a2 a3 a4 : Option V} {v : V} {r : L2.St} {H : Hp} {Q : VK} (h : Q v H) : tVar 5 (a0 :: a1 :: a2 :: a3 :: a4 :: some v :: r) H Q := ⟨v, rfl, h⟩
theorem x_g5 {a0 a1 a2 a3 a4 : Option V} {v : V} {c : Option V} {r : L2.St} {H : Hp} {Q : L2.St → Hp → Prop} (h : Q (a0 :: a1 :: a2 :: a3 :: a4 :: some v :: r) H) : gName 5 v (a0 :: a1 :: a2 :: a3 :: a4 :: c :: r) H Q := h
theorem x_v6 {a0 a1 a2 a3 a4 a5 : Option V} {v : V} {r : L2.St} {H : Hp} {Q : VK} (h : Q v H) : tVar 6 (a0 :: a1 :: a2 :: a3 :: a4 :: a5 :: some v :: r) H Q := ⟨v, rfl, h⟩
theorem x_g6 {a0 a1 a2 a3 a4 a5 : Option V} {v : V} {c : Option V} {r : L2.St} {H : Hp} {Q : L2.St → Hp → Prop} (h : Q (a0 :: a1 :: a2 :: a3 :: a4 :: a5 :: some v :: r) H) : gName 6 v (a0 :: a1 :: a2 :: a3 :: a4 :: a5 :: c :: r) H Q := h
theorem x_v7 {a0 a1 a2 a3 a4 a5 a6 : Option V} {v : V} {r : L2.St} {H : Hp} {Q : VK} (h : Q v H) : tVar 7 (a0 :: a1 :: a2 :: a3 :: a4 :: a5 :: a6 :: some v :: r) H Q := ⟨v, rfl, h⟩
theorem x_g7 {a0 a1 a2 a3 a4 a5 a6 : Option V} {v : V} {c : Option V} {r : L2.St} {H : Hp} {Q : L2.St → Hp → Prop} (h : Q (a0 :: a1 :: a2 :: a3 :: a4 :: a5 :: a6 :: some v :: r) H) : gName 7 v (a0 :: a1 :: a2 :: a3 :: a4 :: a5 :: a6 :: c :: r) H Q := h
theorem x_v8 {a0 a1 a2 a3 a4 a5 a6 a7 : Option V} {v : V} {r : L2.St} {H : Hp} {Q : VK} (h : Q v H) : tVar 8 (a0 :: a1 :: a2 :: a3 :: a4 :: a5 :: a6 :: a7 :: some v :: r) H Q := ⟨v, rfl, h⟩
theorem x_g8 {a0 a1 a2 a3 a4 a5 a6 a7 : Option V} {v : V} {c : Option V} {r : L2.St} {H : Hp} {Q : L2.St → Hp → Prop} (h : Q (a0 :: a1 :: a2 :: a3 :: a4 :: a5 :: a6 :: a7 :: some v :: r) H) : gName 8 v (a0 :: a1 :: a2 :: a3 :: a4 :: a5 :: a6 :: a7 :: c :: r) H Q := h


/-! ### loops over lists, by what is behind and ahead -/
section
variable {K : PySem.W.Frag} {a : Addr} {α : Type} {f : α → V} {ys : List α} {g : TG} {tb : TS} {σ : L2.St} {H : Hp} {nx : L2.St → Hp → Prop} {rt : VK}
theorem getElem?_split {ys : List α} {i : Nat} {x : α} (h : ys[i]? = some x) : ys = ys.take i ++ x :: ys.drop (i + 1) := by
  obtain ⟨hi, e⟩ := List.getElem?_eq_some_iff.mp h
  subst e
  rw [List.getElem_cons_drop, List.take_append_drop]
theorem take_snoc {ys : List α} {i : Nat} {x : α} (h : ys[i]? = some x) : ys.take (i + 1) = ys.take i ++ [x] := by
  rw [List.take_add_one, h]; rfl
theorem for_rng {lo : Int} {n : Nat} (Pv : Nat → L2.St → Hp → Prop) (h0 : Pv 0 σ H)
    (hs : ∀ i σ H, i < n → Pv i σ H → g (.int (lo + i)) σ H fun σ2 H2 => tb ⟨Pv (i + 1), rt, nx, Pv (i + 1)⟩ σ2 H2) (hd : ∀ σ H, Pv n σ H → nx σ H) :
    ∃ W : Nat → Nat → L2.St → Hp → Prop, (∃ m, W 0 m σ H) ∧ ∀ i m σ H, W i m σ H →
      ((Itr lo n).stop i H ∧ nx σ H) ∨ ((Itr lo n).go i H ∧ ∃ N : L2.St → Hp → Prop, (∀ σ' H', N σ' H' → ∃ m', m' < m ∧ W (i + 1) m' σ' H') ∧ ∀ x H', (Itr lo n).yld i H x H' → g x σ H' fun σ2 H2 => tb ⟨N, rt, nx, N⟩ σ2 H2) :=
  for_range (D := ⟨nx, rt, nx, nx⟩) Pv h0 hs hd
end
/-! ### heaps -/
theorem Same.new {H0 H : Hp} {p : Addr} {o : HO} (s : Same H0 H) (h : H p = none) : Same H0 (upd H p o) := fun b u e => by
  rw [upd_ne (ne_of_none (s b u e) h)]; exact s b u e
theorem Same.mut {H0 H : Hp} {p : Addr} {o : HO} (s : Same H0 H) (h : H0 p = none) : Same H0 (upd H p o) := fun b u e => by
  rw [upd_ne (ne_of_none e h)]; exact s b u e
theorem sq_new {K : PySem.W.Frag} {H : Hp} {a p : Addr} {o : HO} {xs : List V} (h : SqL K H a xs) (n : H p = none) : SqL K (upd H p o) a xs := Same.seq (Same.new (Same.refl H) n) h
/-! ### a dict with int keys -/
theorem nodup_len {α : Type} [DecidableEq α] : ∀ {l m : List α}, l.Nodup → (∀ x ∈ l, x ∈ m) → l.length ≤ m.length
  | [], _, _, _ => Nat.zero_le _
  | a :: l, m, h, s => by
    have ha : a ∈ m := s a (by simp)
    have h2 := List.nodup_cons.mp h
    have ih := nodup_len (l := l) (m := m.erase a) h2.2 fun x hx => (List.mem_erase_of_ne (show x ≠ a from fun e => h2.1 (by rw [← e]; exact hx))).mpr (s x (List.mem_cons_of_mem _ hx))
    rw [List.length_erase_of_mem ha] at ih
    have := List.length_pos_of_mem ha
    rw [List.length_cons]
    omega
theorem nodup_put {ks : List Int} (h : ks.Nodup) (k : Int) : (if k ∈ ks then ks else ks ++ [k]).Nodup := by
  split
  · exact h
  · rename_i n
    rw [List.nodup_append]
    exact ⟨h, by simp, fun a ha b hb => by rw [List.mem_singleton.mp hb]; exact fun e => n (e ▸ ha)⟩
theorem mem_put {ks : List Int} (k x : Int) : x ∈ (if k ∈ ks then ks else ks ++ [k]) ↔ x ∈ ks ∨ x = k := by
  split
  · exact ⟨.inl, fun q => q.elim id fun e => e ▸ by assumption⟩
  · simp
/-! ### lists of ints compared -/
theorem lay_ints : ∀ ns : List Int, PyData.canLayAll0 (ns.map PyData.int) = true
  | [] => by simp [PyData.canLayAll0]
  | n :: r => by simp [PyData.canLayAll0, PyData.canLay0, lay_ints r]
theorem depth_ints : ∀ ns : List Int, PyData.depthAll (ns.map PyData.int) = 0
  | [] => by simp [PyData.depthAll]
  | n :: r => by simp [PyData.depthAll, PyData.depth, depth_ints r]
theorem shaped_ints (ns : List Int) : SeqAt.shaped (.list (ns.map PyData.int)) = true := by
  unfold SeqAt.shaped
  simp [PyData.canLay0, lay_ints, PyData.depth, depth_ints]
theorem dp_ints {K : PySem.W.Frag} {H : Hp} : ∀ ns : List Int, DpAll K H (ns.map V.int) (ns.map PyData.int)
  | [] => .nil
  | n :: r => .cons (.int n) (dp_ints r)
theorem eqv_ints : ∀ ns ms : List Int, PyData.eqvAll (ns.map PyData.int) (ms.map PyData.int) = decide (ns = ms)
  | [], [] => by simp [PyData.eqvAll]
  | [], _ :: _ => by simp [PyData.eqvAll]
  | _ :: _, [] => by simp [PyData.eqvAll]
  | n :: r, m :: q => by
    rw [List.map_cons, List.map_cons, PyData.eqvAll, eqv_ints r q, PyData.eqv, Bool.eq_iff_iff]
    simp
theorem x_eqI {K : PySem.W.Frag} {H : Hp} {Q : VK} {a b : Addr} {ns ms : List Int} (s : SqL K H a (ns.map V.int)) (t : SqL K H b (ms.map V.int)) (h : Q (.bl (decide (ns = ms))) H) : rEqD K (.ref a) (.ref b) H Q :=
  ⟨_, _, .lst s (dp_ints ns), .lst t (dp_ints ms), shaped_ints ns, shaped_ints ms, by rw [PyData.eqv, eqv_ints]; exact h⟩
theorem x_neI {K : PySem.W.Frag} {H : Hp} {Q : VK} {a b : Addr} {ns ms : List Int} (s : SqL K H a (ns.map V.int)) (t : SqL K H b (ms.map V.int)) (h : Q (.bl (!decide (ns = ms))) H) : rNeD K (.ref a) (.ref b) H Q :=
  ⟨_, _, .lst s (dp_ints ns), .lst t (dp_ints ms), shaped_ints ns, shaped_ints ms, by rw [PyData.eqv, eqv_ints]; exact h⟩
/-! ### the draws of a law -/
/-- the pool at p: a cell, a seed -/
def PoolAt (H : Hp) (p : Addr) : Prop := ∃ c s : Int, H p = some (.lst [.int c, .int s]) ∧ 0 ≤ s ∧ s < 2147483647
/-- only what stands at p may have changed -/
def But (p : Addr) (H H' : Hp) : Prop := ∀ b, b ≠ p → H' b = H b
theorem But.upd {p : Addr} {H : Hp} {o : HO} : But p H (upd H p o) := fun _ h => upd_ne h
theorem But.at {p b : Addr} {H H' : Hp} {o : Option HO} (k : But p H H') (h : H b = o) (n : b ≠ p) : H' b = o := (k b n).trans h
theorem But.same {p : Addr} {H0 H H' : Hp} (k : But p H H') (s : Same H0 H) (n : H0 p = none) : Same H0 H' := fun b o e => (k b (ne_of_none e n)).trans (s b o e)
def sp_draw : Sp := fun vs H Q _ => ∃ (p : Addr) (n c s : Int), vs = [.ref p, .int n] ∧ 0 < n ∧ n < 1073741824 ∧ H p = some (.lst [.int c, .int s]) ∧ 0 ≤ s ∧ s < 2147483647 ∧
  ∀ d c' s' : Int, 0 ≤ d → d < n → 0 ≤ s' → s' < 2147483647 → Q (.int d) (upd H p (.lst [.int c', .int s']))
theorem x_draw {H : Hp} {Q : VK} {E : XK} {p : Addr} {n : Int} (P : PoolAt H p) (n0 : 0 < n) (n1 : n < 1073741824) (h : ∀ (d : Int) (H' : Hp), 0 ≤ d → d < n → PoolAt H' p → But p H H' → Q (.int d) H') : sp_draw ([V.ref p, .int n] ++ []) H Q E := by
  obtain ⟨c, s, e, s0, s1⟩ := P
  exact ⟨p, n, c, s, rfl, n0, n1, e, s0, s1, fun d c' s' d0 d1 z0 z1 => h d _ d0 d1 ⟨c', s', upd_same, z0, z1⟩ But.upd⟩
def sp_pool (K : PySem.W.Frag) : Sp := fun vs H Q _ => ∃ (a : Addr) (ns : List Int) (k : Int), vs = [.ref a, .int k] ∧ SqL K H a (ns.map V.int) ∧ 0 ≤ k ∧ k < 1000 ∧
  ∀ (p : Addr) (c s : Int), H p = none → 0 ≤ s → s < 2147483647 → Q (.ref p) (upd H p (.lst [.int c, .int s]))
theorem x_pool {K : PySem.W.Frag} {H : Hp} {Q : VK} {E : XK} {a : Addr} {k : Int} {ns : List Int} (S : SqL K H a (ns.map V.int)) (k0 : 0 ≤ k) (k1 : k < 1000) (h : ∀ (p : Addr) (H' : Hp), H p = none → PoolAt H' p → But p H H' → Q (.ref p) H') : sp_pool K ([V.ref a, .int k] ++ []) H Q E :=
  ⟨a, ns, k, rfl, S, k0, k1, fun p c s hp s0 s1 => h p _ hp ⟨c, s, upd_same, s0, s1⟩ But.upd⟩
theorem PoolAt.new {p q : Addr} {H : Hp} {o : HO} (h : PoolAt H p) (n : H q = none) : PoolAt (L2.upd H q o) p := by
  obtain ⟨c, s, e, z⟩ := h
  exact ⟨c, s, by rw [upd_ne (ne_of_none e n)]; exact e, z⟩
theorem PoolAt.mut {p q : Addr} {H : Hp} {o : HO} (h : PoolAt H p) (n : p ≠ q) : PoolAt (L2.upd H q o) p := by
  obtain ⟨c, s, e, z⟩ := h
  exact ⟨c, s, by rw [upd_ne n]; exact e, z⟩
theorem PoolAt.ne {p q : Addr} {H : Hp} (h : PoolAt H p) (n : H q = none) : p ≠ q := by
  obtain ⟨c, s, e, z⟩ := h
  exact ne_of_none e n
/-! ### steps that call for these -/
theorem x_dc {wi : TI} {g : TG} {tt : TT} {tk tv : TE} {vs : List Nat} {σ : L2.St} {H : Hp} {Q : VK} (h : wi σ H fun J H1 => ∀ D, H1 D = none → ∃ W : Nat → Nat → Hp → Prop, (∃ m, W 0 m (upd H1 D (.dK []))) ∧ ∀ i m H, W i m H →
  (J.stop i H ∧ Q (.ref D) H) ∨ (J.go i H ∧ ∃ Nx : Hp → Prop, (∀ H', Nx H' → ∃ m', m' < m ∧ W (i + 1) m' H') ∧ ∀ x H', J.yld i H x H' → g x (wipe σ vs) H' fun σ2 H2 => wipe σ2 vs = wipe σ vs ∧ tt σ2 H2 fun b H3 =>
    if b = true then tk σ2 H3 fun y H4 => tv σ2 H4 fun z H5 => ∃ kvs k, y = kV k ∧ H5 D = some (.dK kvs) ∧ kvs.length < sizeLine ∧ Nx (upd H5 D (.dK (putK kvs k z))) else Nx H3)) : tDc wi g tt tk tv vs σ H Q := h
theorem x_lc {wi : TI} {g : TG} {tt : TT} {te : TE} {vs : List Nat} {σ : L2.St} {H : Hp} {Q : VK} (h : wi σ H fun J H1 => ∀ D, H1 D = none → ∃ W : Nat → Nat → Hp → Prop, (∃ m, W 0 m (upd H1 D (.lst []))) ∧ ∀ i m H, W i m H →
  (J.stop i H ∧ Q (.ref D) H) ∨ (J.go i H ∧ ∃ Nx : Hp → Prop, (∀ H', Nx H' → ∃ m', m' < m ∧ W (i + 1) m' H') ∧ ∀ x H', J.yld i H x H' → g x (wipe σ vs) H' fun σ2 H2 => wipe σ2 vs = wipe σ vs ∧ tt σ2 H2 fun b H3 =>
    if b = true then te σ2 H3 fun y H4 => ∃ acc, H4 D = some (.lst acc) ∧ acc.length < sizeLine ∧ Nx (upd H4 D (.lst (acc ++ [y]))) else Nx H3)) : tLc wi g tt te vs σ H Q := h

/-! ### a def of the module, as its callers need it -/
structure Cl (P : Program) (w : World) (K : PySem.W.Frag) (mg : Str → Option Value) (base : Heap) (x : Str) (ps : List Str) (k : Nat) (sp : Sp) : Prop where
  ex : ∃ fd, FnOk P w K mg base CX0 k (He.ga K x) fd ps sp ∧ Binds K fd ps []
  kp : PySem.W.keepIn K (.ref (He.ga K x)) = true
  g : mg x = some (.ref (He.ga K x))
theorem pe_cl {X : Cx} {k : Nat} {ps : List Str} {sp : Sp} {x : Str} {p pos : Pos} {e : Expr} {es : List Expr} {t : TA} (C : Cl X.prog X.w X.K X.mg X.base x ps k sp) (hr : Room k X.A) (hg : Gl X x)
    (ha : PA X (e :: es) t) (hdb : (x == ("__debug__" : Str)) = false := by decide) (he : starEach (e :: es) X.env = (false, eval e X.env) :: starEach es X.env := by rfl) (hpl : (backTo pos (starEach es X.env)).any (·.1) = false := by rfl) :
    PE X (.Call (.Name x p) (e :: es) [] pos) (tCall sp [] E0 t) := by
  obtain ⟨fd, F, b⟩ := C.ex
  exact pe_call F hr hg C.g C.kp b .nil pass0 ha hdb he hpl
section
variable {X : Cx}
end
end My


section
/-! ### own special methods -/
namespace My
open PySem PySem.Spec PyProof.Rows L2
theorem rr (a : Addr) : RelV (.ref a) (.ref a) := rfl
/-- a special method m of the class at C: the def at f, with its promise -/
structure Spc (P : Program) (w : World) (K : PySem.W.Frag) (mg : Str → Option Value) (base : Heap) (CX : CXT) (C : Addr) (m : Str) (ps : List Str) (k : Nat) (sp : Sp) : Prop where
  ex : ∃ f fd, FnOk P w K mg base CX k f fd ps sp ∧ Binds K fd ps [] ∧ PySem.W.findIn K (.ref C) m = some (some (.ref f)) ∧ PySem.W.isFn K (.ref f) = true ∧ PySem.W.fnIn K f = true
section
variable {X : Cx} {CX : CXT} {k : Nat} {C a dx f : Addr} {fs : List (Str × V)} {fd : FuncData} {ps : List Str} {sp : Sp} {E : XK} {pins : List (Addr × Obj)} {σ : L2.St} {H : Hp} {s : Shared}
theorem ins_at (I : Inv X pins σ H s) (e : H a = some (.ins C dx fs)) : ∃ od, PySem.W.InstAt s.heap a (PySem.W.instObj C dx) C (some od) := by
  obtain ⟨mA, O, _, _, _, _⟩ := ins_get I.hok e
  obtain ⟨od, J, _⟩ := O.look
  exact ⟨od, J⟩
/-- the callee at some surroundings that have the same frames -/
theorem run_at {A : Around} {Q : VK} {us : List Value} {vs : List V} (F : FnOk X.prog X.w X.K X.mg X.base CX k f fd ps sp) (hr : Room k A) (e0 : Env0 X.prog X.w X.K X.mg X.base A X.stack s H) (hb : Binds X.K fd ps []) (hx : Passes CX X E)
    (I : Inv X pins σ H s) (r : Vals vs us) (h : sp vs H Q E) : wpAny (model X.prog X.w) A (call (.ref f) us) (EP X pins σ Q) X.xe s := by
  have hl : (us ++ []).length = ps.length := by rw [List.append_nil, ← r.length]; exact F.len _ _ _ _ h
  have hbb := hb s us I.kIn hl
  rw [List.append_nil] at hbb
  refine wpAny_call (codeAny_mono (F.run A X.stack s H ⟨us, []⟩ us vs Q E hr e0 hbb r h) fun r s' hq => ?_)
  cases r with
  | error e => exact hx pins σ H s e s' I hq
  | ok fl =>
    cases fl with
    | ret u => exact I.after hq
    | next => exact False.elim hq
    | brk => exact False.elim hq
    | cont => exact False.elim hq
def rLenO (C : Addr) (sp : Sp) (E : XK) : List V → Hp → VK → Prop := fun xs H Q => ∃ a dx fs, xs = [.ref a] ∧ H a = some (.ins C dx fs) ∧ sp [.ref a] H (fun v H' => ∃ n : Int, v = .int n ∧ 0 ≤ n ∧ n < 2 ^ 63 ∧ Q (.int n) H') E
theorem call_lenO (S : Spc X.prog X.w X.K X.mg X.base CX C "__len__" ps k sp) (hr : Room (k + 1) X.A) (hx : Passes CX X E) : CallR X (.builtin "len") (rLenO C sp E) := by
  intro pins s σ H xs us Q I r h
  obtain ⟨a, dx, fs, rfl, ea, q⟩ := h
  obtain ⟨f, fd, F, hb, hs, hf, _⟩ := S.ex
  cases r with
  | cons r1 r2 =>
    cases r2
    cases r1
    obtain ⟨od, J⟩ := ins_at I ea
    obtain ⟨m, fr⟩ := I.fr
    refine PySem.W.len_K fr I.ok.mod.kin J hs hf (thn (run_at F hr.in1 I.env0.in1 hb hx I (.cons (rr _) .nil) q) fun u s' ⟨v, H', I', rv, n, ev, n0, n1, q'⟩ => ?_)
    subst ev
    obtain ⟨t, rfl⟩ := rv
    exact ⟨⟨n0, n1⟩, .int n, H', I'.tok _, ⟨_, rfl⟩, q'⟩
def rInO (neg : Bool) (C : Addr) (sp : Sp) (E : XK) : R2 := fun x y H Q => ∃ a dx fs, y = .ref a ∧ H a = some (.ins C dx fs) ∧ sp [.ref a, x] H (fun v H' => ∃ b, v = .bl b ∧ Q (.bl (if neg then !b else b)) H') E
theorem op_inO (S : Spc X.prog X.w X.K X.mg X.base CX C "__contains__" ps k sp) (hr : Room k X.A) (hx : Passes CX X E) : OpR X (compareOp .In) (rInO false C sp E) := by
  intro pins s σ H x y v u Q I rx ry h
  obtain ⟨a, dx, fs, rfl, ea, q⟩ := h
  obtain ⟨f, fd, F, hb, hs, hf, _⟩ := S.ex
  cases ry
  obtain ⟨od, J⟩ := ins_at I ea
  obtain ⟨m, fr⟩ := I.fr
  refine PySem.W.in_K fr I.ok.mod.kin J hs hf (thn (run_at F hr I.env0 hb hx I (.cons (rr _) (.cons rx .nil)) q) fun u s' ⟨z, H', I', rz, b, ez, q'⟩ => ?_)
  subst ez
  cases rz
  exact wpAny_truthy_bool ⟨.bl b, H', I', rfl, q'⟩
theorem op_notInO (S : Spc X.prog X.w X.K X.mg X.base CX C "__contains__" ps k sp) (hr : Room k X.A) (hx : Passes CX X E) : OpR X (compareOp .NotIn) (rInO true C sp E) := by
  intro pins s σ H x y v u Q I rx ry h
  obtain ⟨a, dx, fs, rfl, ea, q⟩ := h
  obtain ⟨f, fd, F, hb, hs, hf, _⟩ := S.ex
  cases ry
  obtain ⟨od, J⟩ := ins_at I ea
  obtain ⟨m, fr⟩ := I.fr
  refine PySem.W.notIn_K fr I.ok.mod.kin J hs hf (thn (run_at F hr I.env0 hb hx I (.cons (rr _) (.cons rx .nil)) q) fun u s' ⟨z, H', I', rz, b, ez, q'⟩ => ?_)
  subst ez
  cases rz
  exact wpAny_truthy_bool ⟨.bl (!b), H', I', rfl, q'⟩
def rBinO (C : Addr) (sp : Sp) (E : XK) : R2 := fun x y H Q => ∃ a dx fs b dy gs, x = .ref a ∧ y = .ref b ∧ H a = some (.ins C dx fs) ∧ H b = some (.ins C dy gs) ∧ sp [.ref a, .ref b] H Q E
theorem op_binO {op : Operator} {m : Str} (hm : PySem.dunder op.info.2 = m) (S : Spc X.prog X.w X.K X.mg X.base CX C m ps k sp) (hc : PySem.W.selfFirst X.K C = true) (hr : Room k X.A) (hx : Passes CX X E) : OpR X (binaryOp op) (rBinO C sp E) := by
  intro pins s σ H x y v u Q I rx ry h
  obtain ⟨a, dx, fs, b, dy, gs, rfl, rfl, ea, eb, q⟩ := h
  obtain ⟨f, fd, F, hb, hs, hf, _⟩ := S.ex
  cases rx
  cases ry
  obtain ⟨od, J⟩ := ins_at I ea
  obtain ⟨od', J'⟩ := ins_at I eb
  obtain ⟨m, fr⟩ := I.fr
  refine PySem.W.binop_K fr I.ok.mod.kin J J'.type hc (hm ▸ hs) hf (thn (run_at F hr I.env0 hb hx I (.cons (rr _) (.cons (rr _) .nil)) q) fun u s' hz => ?_)
  obtain ⟨z, H', I', rz, q'⟩ := id hz
  cases z with
  | non => cases rz; exact hz
  | bl b => cases rz; exact hz
  | int i => obtain ⟨t, rfl⟩ := rz; exact hz
  | str i => obtain ⟨t, rfl⟩ := rz; exact hz
  | byt i => obtain ⟨t, rfl⟩ := rz; exact hz
  | flt i => obtain ⟨t, rfl⟩ := rz; exact hz
  | ref i => cases rz; exact hz
  | ty i => cases rz; exact hz
/-- == by an own __eq__ that hands back a bool -/
def rEqO (C : Addr) (sp : Sp) (E : XK) (ty : V → Hp → Prop) : R2 := fun x y H Q => ∃ a dx fs, x = .ref a ∧ H a = some (.ins C dx fs) ∧ ty y H ∧ sp [.ref a, y] H (fun v H' => ∃ b, v = .bl b ∧ Q (.bl b) H') E
theorem op_eqO {ty : V → Hp → Prop} (S : Spc X.prog X.w X.K X.mg X.base CX C "__eq__" ps k sp) (hr : Room k X.A) (hx : Passes CX X E)
    (hty : ∀ (pins : List (Addr × Obj)) (s : Shared) (σ : L2.St) (H : Hp) (y : V) (u : Value), Inv X pins σ H s → RelV y u → ty y H → ∃ tb, PySem.W.Looks (model X.prog X.w) s.heap (typeOf u) tb ∧ PySem.W.notFirst X.K C tb = true) :
    OpR X (compareOp .Eq) (rEqO C sp E ty) := by
  intro pins s σ H x y v u Q I rx ry h
  obtain ⟨a, dx, fs, rfl, ea, ht, q⟩ := h
  obtain ⟨f, fd, F, hb, hs, hf, _⟩ := S.ex
  cases rx
  obtain ⟨od, J⟩ := ins_at I ea
  obtain ⟨m, fr⟩ := I.fr
  obtain ⟨tb, hl, hn⟩ := hty pins s σ H y u I ry ht
  have hu : X.A.units < cLine := by have := hr.un; omega
  show wpAny _ _ (richCompare .Eq (.ref a) u) _ _ _
  refine PySem.W.cmp_K (op := .Eq) hu fr I.ok.mod.kin J hl hn hs hf (thn (run_at F hr I.env0 hb hx I (.cons (rr _) (.cons ry .nil)) q) fun z s' hz => ?_)
  obtain ⟨v, H', I', rv, b, ev, q'⟩ := hz
  subst ev
  cases rv
  exact ⟨.bl b, H', I', rfl, q'⟩
end
end My

end

section
/-! ### != by an own __eq__, where __ne__ is object's -/
namespace My
open PySem PySem.Spec PyProof.Rows L2
section
open PySem.W
variable {prog : Program} {w : World} {A : Around} {E : Value → Shared → Prop} {K : Frag} {x C f : Addr} {ox : Obj} {od : Option Obj} {u tb : Value}
theorem slot_ne : Slot "object" "__ne__" "object.__ne__" := F.cmp_object.ne
theorem objNe_in {s : Shared} {Q : Fin → Shared → Prop} (X : K.In s.heap) (I : InstAt s.heap x ox C od) (hs : findIn K (.ref C) "__eq__" = some (some (.ref f))) (hf : isFn K (.ref f) = true) (hu : A.units < cLine)
    (hcall : wpAny (model prog w) A (call (.ref f) [.ref x, u]) (fun v s' => ∃ b, v = .bool b ∧ Q (.done (.ret (.bool (!b)))) s') E s) : wpAny (model prog w) A (Builtin.«object.__ne__» ⟨[.ref x, u], []⟩) Q E s := by
  obtain ⟨h, g, d, t, os⟩ := s
  have road : ∀ (Z : Option Value → Shared → Prop), (∀ b s', Q (.done (.ret (.bool (!b)))) s' → Z (some (.bool b)) s') → wpAny (model prog w) A (callSpecialIfBound? (.ref x) (Str.ofString "__eq__") [u]) Z E ⟨h, g, d, t, os⟩ := fun Z hz =>
    ifBound_K X I hs hf (wpAny_mono hcall (fun v s' ⟨b, e, q⟩ => e ▸ hz b s' q) fun _ _ e => e)
  unfold Builtin.«object.__ne__»
  repeat (first
    | with_reducible refine wpAny_cRoomFor hu ?_
    | (refine wpAny_bind (m := callSpecialIfBound? (.ref x) (Str.ofString "__eq__") [u]) (road _ fun b s' q => ?_))
    | exact q
    | exact wpAny_truthy_bool q
    | (refine wpAny_bind (m := truthy (.bool _)) (wpAny_truthy_bool ?_))
    | wp_step)
theorem ne_K {s : Shared} {Q : Value → Shared → Prop} (hu : A.units + 1 < cLine) (X : K.In s.heap) (I : InstAt s.heap x ox C od) (hb : Looks (model prog w) s.heap (typeOf u) tb) (hn : notFirst K C tb = true) (hob : mroIn K C (.type "object") = some true)
    (hne : findIn K (.ref C) "__ne__" = some (some (.builtin "object.__ne__"))) (hs : findIn K (.ref C) "__eq__" = some (some (.ref f))) (hf : isFn K (.ref f) = true)
    (h : wpAny (model prog w) A.in1 (call (.ref f) [.ref x, u]) (fun v s' => ∃ b, v = .bool b ∧ Q (.bool (!b)) s') E s) : wpAny (model prog w) A (compareOp .NotEq (.ref x) u) Q E s := by
  have sub : Looks (model prog w) s.heap (isInstance (.ref x) (.type "object")) true := I.type.andThen (looks_mroIn X hob)
  have body : wpAny (model prog w) A (call (.builtin "object.__ne__") [.ref x, u]) (fun v s' => ∃ b : Bool, v = .bool b ∧ Q (.bool b) s') E s := by
    refine wpAny_call (codeAny_call_builtin slot_ne.plain F.cmpEntry_ne (@W.check_slot (model prog w) _ _ s "object.__ne__" "object" "__ne__" (.ref x) [u] [] _ F.cmpKind_ne F.cmpSplit_ne sub (F.cmpArgs_ne _ _) ?_))
    refine objNe_in (A := A.in1) X I hs hf hu (wpAny_mono h (fun v s' hv => ?_) fun _ _ e => e)
    obtain ⟨b, rfl, q⟩ := hv
    exact ⟨b, rfl, !b, rfl, q⟩
  have one : wpAny (model prog w) A (tryCompare (.ref x) "__ne__" u) (fun r s' => ∃ b : Bool, r = some (.bool b) ∧ Q (.bool b) s') E s := by
    unfold tryCompare
    refine wpAny_bind (?_ : wpAny _ _ (callSpecialIfBound? (.ref x) "__ne__" [u]) _ _ _)
    simp only [callSpecialIfBound?, bindSpecialIfBound?]
    refine wpAny_holding (wpAny_bind (wpAny_bind (wpAny_bind (I.type.here ((looks_findIn X hne).here ?_)))))
    refine wpAny_bind (wpAny_askSetting (wpAny_ite ?_))
    split
    · refine wpAny_bind (wpAny_of_eq (slot_ne.bind _) (wpAny_pure (wpAny_bind (wpAny_mono body (fun v s' hv => ?_) fun _ _ e => e))))
      obtain ⟨b, rfl, q⟩ := hv
      exact wpAny_pure (wpAny_pure ⟨b, rfl, q⟩)
    · refine wpAny_tryCatch (wpAny_bind (wpAny_of_eq (slot_ne.bind _) (wpAny_pure (wpAny_bind (wpAny_mono body (fun v s' hv => ?_) fun _ _ e => ?_)))))
      · obtain ⟨b, rfl, q⟩ := hv
        exact wpAny_pure (wpAny_pure ⟨b, rfl, q⟩)
      · exact e
  unfold compareOp richCompare
  simp only [oneThing_ref]
  refine wpAny_holding (wpAny_bind (wpAny_cRoomFor (by omega) ?_))
  refine wpAny_bind (I.type.here (wpAny_bind (hb.here ?_)))
  have last : ∀ r s', (∃ b : Bool, r = some (Value.bool b) ∧ Q (.bool b) s') → ∃ v, r = some v ∧ Q v s' := fun r s' ⟨b, e, q⟩ => ⟨_, e, q⟩
  split
  · rename_i q
    have e : subIn K tb (.ref C) = some false := by
      rcases Bool.or_eq_true_iff.mp hn with e | e
      · rw [beq_iff_eq.mp e] at q; simp at q
      · exact beq_iff_eq.mp e
    refine wpAny_bind ((looks_subIn X e).here ?_)
    simp only [Bool.false_eq_true, if_false]
    refine wpAny_bind (wpAny_mono one (fun r s' z => ?_) fun _ _ e => e)
    obtain ⟨v, rfl, hq⟩ := z
    exact wpAny_pure hq
  · refine wpAny_bind (wpAny_pure ?_)
    simp only [Bool.false_eq_true, if_false]
    refine wpAny_bind (wpAny_mono one (fun r s' z => ?_) fun _ _ e => e)
    obtain ⟨v, rfl, hq⟩ := z
    exact wpAny_pure hq
end
section
variable {X : Cx} {CX : CXT} {k : Nat} {C : Addr} {ps : List Str} {sp : Sp} {E : XK}
def rNeO (C : Addr) (sp : Sp) (E : XK) (ty : V → Hp → Prop) : R2 := fun x y H Q => ∃ a dx fs, x = .ref a ∧ H a = some (.ins C dx fs) ∧ ty y H ∧ sp [.ref a, y] H (fun v H' => ∃ b, v = .bl b ∧ Q (.bl (!b)) H') E
theorem op_neO {ty : V → Hp → Prop} (S : Spc X.prog X.w X.K X.mg X.base CX C "__eq__" ps k sp) (hr : Room (k + 1) X.A) (hx : Passes CX X E) (hob : PySem.W.mroIn X.K C (.type "object") = some true)
    (hne : PySem.W.findIn X.K (.ref C) "__ne__" = some (some (.builtin "object.__ne__")))
    (hty : ∀ (pins : List (Addr × Obj)) (s : Shared) (σ : L2.St) (H : Hp) (y : V) (u : Value), Inv X pins σ H s → RelV y u → ty y H → ∃ tb, PySem.W.Looks (model X.prog X.w) s.heap (typeOf u) tb ∧ PySem.W.notFirst X.K C tb = true) :
    OpR X (compareOp .NotEq) (rNeO C sp E ty) := by
  intro pins s σ H x y v u Q I rx ry h
  obtain ⟨a, dx, fs, rfl, ea, ht, q⟩ := h
  obtain ⟨f, fd, F, hb, hs, hf, _⟩ := S.ex
  cases rx
  obtain ⟨od, J⟩ := ins_at I ea
  obtain ⟨tb, hl, hn⟩ := hty pins s σ H y u I ry ht
  have hu : X.A.units + 1 < cLine := by have := hr.un; omega
  refine ne_K hu I.kIn J hl hn hob hne hs hf (thn (run_at F hr.in1 I.env0.in1 hb hx I (.cons (rr _) (.cons ry .nil)) q) fun z s' hz => ?_)
  obtain ⟨v, H', I', rv, b, ev, q'⟩ := hz
  subst ev
  cases rv
  exact ⟨b, rfl, .bl (!b), H', I', rfl, q'⟩
end
end My

end

section
/-! ### defs that are called where nothing is being shown: repr of lists, tuples, dicts -/
namespace My
open PySem PySem.Spec PyProof.Rows L2
/-- as FnOk, at surroundings without guards -/
structure FnG (P : Program) (w : World) (K : PySem.W.Frag) (mg : Str → Option Value) (base : Heap) (CX : CXT) (k : Nat) (f : Addr) (fd : FuncData) (ps : List Str) (sp : Sp) : Prop where
  len : ∀ vs H Q E, sp vs H Q E → vs.length = ps.length
  run : ∀ (A : Around) (outer : List Env) (s : Shared) (H : Hp) (args : Args) (us : List Value) (vs : List V) (Q : VK) (E : XK), A.guards = some [] → Room k A → Env0 P w K mg base A outer s H → BindsTo s fd args (ps.zip us) → Vals vs us → sp vs H Q E →
    codeAny (model P w) A (.call (.ref f) args) (CR CX outer P w H s Q E) s
section
variable {P : Program} {w : World} {K : PySem.W.Frag} {mg : Str → Option Value} {base : Heap} {CX : CXT} {x qual : Str} {params : Arguments} {body : List Stmt} {scope : Scope} {dvs : List V} {kws : List (Str × V)} {f : Addr} {fd : FuncData}
theorem FunD.okG {N ps : List Str} {k : Nat} {sp : Sp} (F : FunD K x qual params body scope dvs kws f fd) (S : FnScope N ps scope) (len : ∀ vs H Q E, sp vs H Q E → vs.length = ps.length)
    (hbody : ∀ (cdv : Value) (A : Around) (outer : List Env) (s : Shared) (H : Hp) (vs : List V) (Q : VK) (E : XK), A.guards = some [] → Room k (A.deeper (envOfC qual scope s.heap.objs.size f cdv)) → sp vs H Q E →
      ∃ t, PSs (cxOf CX P w K mg base N qual scope f cdv A outer s H E) body t ∧ t { nx := fun _ H' => Q .non H', rt := Q } (start N vs) H) : FnG P w K mg base CX (k + 1) f fd ps sp := by
  obtain ⟨oc, od, dV, kV, doc, pm, an, cdv, ct, osl, rfl, lk, hcd, _, _⟩ := F.ex
  refine ⟨len, fun A outer s H args us vs Q E hg hr e0 hb r hsp => ?_⟩
  -- what this one entry asks, as a promise that no other entry can meet
  have keep : ∀ b o, base.get? b = some o → s.heap.get? b = some o := fun b o e => (e0.bs b o e).1
  have X : K.In s.heap := e0.mod.kin.keeps keep
  have nl : s.heap.NoLimit := e0.mod.nolimit.keeps keep
  have hl := len _ _ _ _ hsp
  have kinds : ∀ y ∈ ps.zip us, scope.names.lookup y.1 = some .local ∨ (scope.names.lookup y.1 = some .cell ∧ ((cellsFrom (s.heap.objs.size + 1) scope.names []).lookup y.1).isSome = true) := by
    intro y hy
    exact (S.par y.1 (List.of_mem_zip (a := y.1) (b := y.2) hy).1).imp id fun q => ⟨q, PySem.W.cellsFrom_some _ _ _ (.inl q)⟩
  obtain ⟨t, ht, hq⟩ := hbody cdv A outer s H vs Q E hg (hr.deeper _) hsp
  refine codeAny_call_function hr.depth (X _ _ lk) rfl S.co S.gen rfl (PySem.W.codeRec_of X hcd) (hb _ _ _ _ (wpAny_newFunctionEnv_cells S.kind kinds fun env he s1 x => ?_))
  subst he
  refine ⟨nl.keeps x.toInCall.keep, codeAny_func (wpAny_mono (ht.run [] s1 (start N vs) H _ (inv_start S hr.hd e0 hl r x) hq) (fun fl s' hs => ?_) fun e s' hs => hs)⟩
  match fl, hs with
  | .ret u, ⟨v, σ', H', J, rv, q⟩ => exact ⟨v, H', J.os, J.bare, J.base, J.hok, rv, q⟩
  | .next, ⟨σ', H', J, q⟩ => exact ⟨V.non, H', J.os, J.bare, J.base, J.hok, rfl, q⟩
  | .brk, ⟨_, _, _, q⟩ => exact False.elim q
  | .cont, ⟨_, _, _, q⟩ => exact False.elim q
end
/-- as Cl, for such a def -/
structure ClG (P : Program) (w : World) (K : PySem.W.Frag) (mg : Str → Option Value) (base : Heap) (CX : CXT) (x : Str) (ps : List Str) (k : Nat) (sp : Sp) : Prop where
  ex : ∃ fd, FnG P w K mg base CX k (He.ga K x) fd ps sp ∧ Binds K fd ps []
  kp : PySem.W.keepIn K (.ref (He.ga K x)) = true
  g : mg x = some (.ref (He.ga K x))
theorem pe_clG {X : Cx} {CX : CXT} {k : Nat} {ps : List Str} {sp : Sp} {E : XK} {x : Str} {p pos : Pos} {e : Expr} {es : List Expr} {t : TA} (C : ClG X.prog X.w X.K X.mg X.base CX x ps k sp) (hg0 : X.A.guards = some []) (hr : Room k X.A) (hx : Passes CX X E) (hg : Gl X x)
    (ha : PA X (e :: es) t) (hdb : (x == ("__debug__" : Str)) = false := by decide) (he : starEach (e :: es) X.env = (false, eval e X.env) :: starEach es X.env := by rfl) (hpl : (backTo pos (starEach es X.env)).any (·.1) = false := by rfl) :
    PE X (.Call (.Name x p) (e :: es) [] pos) (tCall sp [] E t) := by
  obtain ⟨fd, F, hb⟩ := C.ex
  refine ⟨fun pins s σ H Q I h => wpAny_Call_Name_kw (ld_glob I hg C.g (PySem.W.callWith_K (h₀ := X.base) I.ok.mod.kin C.kp (thn (ha.run pos pins s σ H _ I h) fun us s1 ⟨vs, H1, I1, r, q⟩ => ⟨I1.kIn, ?_⟩) he hpl) hdb)⟩
  have q : sp (vs ++ []) H1 Q E := q
  rw [List.append_nil] at q
  have hl : (us ++ []).length = ps.length := by rw [List.append_nil, ← r.length]; exact F.len _ _ _ _ q
  have hbb := hb s1 us I1.kIn hl
  rw [List.append_nil] at hbb
  refine wpAny_call (codeAny_mono (F.run X.A X.stack s1 H1 ⟨us, []⟩ us vs Q E hg0 hr I1.env0 hbb r q) fun r s' hq => ?_)
  match r, hq with
  | .error e, hq => exact hx pins σ H1 s1 e s' I1 hq
  | .ok (.ret u), hq => exact I1.after hq
  | .ok .next, hq => exact False.elim hq
  | .ok .brk, hq => exact False.elim hq
  | .ok .cont, hq => exact False.elim hq
/-! ### the law's end over such a def -/
/-- a law that stands at fa, its script at a: the promise at the surroundings of a law's call -/
theorem callG {P : Program} {w : World} {K : PySem.W.Frag} {mg mb : Str → Option Value} {CX : CXT} {k : Nat} {fa a : Addr} {fd : FuncData} {x : Str} {sp : Sp} {s₁ : Shared} {vs : List Value} {ns : List Int}
    (KX : K.In s₁.heap) (hns : s₁.heap.Ns mainGlobals mg) (hb : s₁.heap.Ns builtinsNs mb) (hbb : ∀ x : Str, x ≠ "__name__" → mb x = bootBuiltins x) (hlim : s₁.heap.NoLimit) (hg : s₁.gens = #[])
    (ha : s₁.heap.get? a = some { cls := .type "list", data := .seq vs.toArray }) (hi : IntsAre vs ns) (hl : ns.length ≤ sizeLine) (hr : Room k callerA)
    (F : ∀ base : Heap, K.In base → base.Ns mainGlobals mg → FnG P w K mg base CX k fa fd [x] sp) (hbind : ∀ (s : Shared) (u : Value), BindsTo s fd ⟨[u], []⟩ [(x, u)])
    (hsp : ∀ H : Hp, Only H → SqL K H a (ns.map V.int) → sp [.ref a] H (fun v _ => v = .bl true) fun _ _ _ => False) (hCX : ∀ H e s', CX [] H s₁ (fun _ _ _ => False) e s' → False) :
    codeAny (model P w) callerA (.call (.ref fa) ⟨[.ref a], []⟩) (fun r s' => r = .ok (.ret (.bool true)) ∧ OldK s₁.heap s'.heap ∧ s'.os = s₁.os ∧ AllBare s'.gens) s₁ := by
  obtain ⟨rv, lenV⟩ : Vals (ns.map V.int) vs ∧ vs.length = ns.length := ⟨vals_ints hi, hi.length⟩
  let ob : Obj := { cls := .type "list", data := .seq vs.toArray }
  -- what is tracked: nothing, or the script
  suffices go : ∀ H : Hp, (∀ b u, H b = some u → b = a ∧ u = .frz ob (.lst (ns.map V.int)) ∧ K.lookup a = none) → SqL K H a (ns.map V.int) →
      codeAny (model P w) callerA (.call (.ref fa) ⟨[.ref a], []⟩) (fun r s' => r = .ok (.ret (.bool true)) ∧ OldK s₁.heap s'.heap ∧ s'.os = s₁.os ∧ AllBare s'.gens) s₁ by
    cases hk : K.lookup a with
    | some o =>
      have e : o = ob := by have := KX a o hk; rw [ha] at this; exact (Option.some.inj this).symm
      subst e
      exact go (fun _ => none) (fun b u z => nomatch (show (none : Option HO) = some u from z)) (.inr ⟨_, vs.toArray, _, hk, rfl, rfl, rfl, by rw [List.size_toArray, lenV]; exact hl, by simpa using rv⟩)
    | none =>
      refine go (fun b => if b = a then some (.frz ob (.lst (ns.map V.int))) else none) (fun b u z => ?_) (.inl (.inr ⟨ob, if_pos rfl⟩))
      by_cases hb : b = a
      · have z' : some (HO.frz ob (.lst (ns.map V.int))) = some u := (if_pos hb).symm.trans z
        exact ⟨hb, (Option.some.inj z').symm, hk⟩
      · have z' : none = some u := (if_neg hb).symm.trans z
        cases z'
  intro H hH hS
  have hO : Only H := fun b => by
    cases q : H b with
    | none => exact .inl rfl
    | some u => exact .inr ⟨ob, _, congrArg some (hH b u q).2.1⟩
  have hok : HOk P w H s₁.heap := fun b u q => by
    obtain ⟨rfl, rfl, _⟩ := hH b u q
    exact ⟨ha, by rw [List.length_map]; exact hl, vs, _, rv, ha⟩
  have free : ∀ {b : Addr}, b ≠ a ∨ K.lookup a ≠ none → H b = none := fun {b} h => by
    cases q : H b with
    | none => rfl
    | some u =>
      obtain ⟨e1, _, e2⟩ := hH b u q
      exact (h.elim (fun z => z e1) fun z => z e2).elim
  have ns_of : ∀ {b : Addr} {m : Str → Option Value}, s₁.heap.Ns b m → (hidT s₁.heap H).Ns b m := fun {b m} ⟨o, es, ep, e, d, r⟩ => by
    refine ⟨o, es, ep, hidT_get e (free (.inl fun z => ?_)), d, r⟩
    rw [z, ha] at e
    rw [← Option.some.inj e] at d
    exact nomatch (show Data.seq vs.toArray _ = Data.dict es ep from d)
  have hKb : K.In (hidT s₁.heap H) := fun b o e => hidT_get (KX b o e) (by
    by_cases hb : b = a
    · exact free (.inr (by rw [← hb, e]; exact fun z => nomatch z))
    · exact free (.inl hb))
  have e0 : Env0 P w K mg (hidT s₁.heap H) callerA [] s₁ H :=
    ⟨rfl, ⟨hKb, ns_of hns, ⟨mb, ns_of hb, hbb⟩, let ⟨mc, h1, h2⟩ := hlim; ⟨mc, ns_of h1, h2⟩⟩, fun _ _ e => of_hidT e, Nat.le_of_eq (hidT_size _ _), trivial, fun b z => absurd z (List.not_mem_nil), hok, .of_eq hg⟩
  refine codeAny_mono ((F _ hKb (ns_of hns)).run callerA [] s₁ H ⟨[.ref a], []⟩ [.ref a] [.ref a] _ _ rfl hr e0 (hbind s₁ (.ref a)) (.cons rfl .nil) (hsp H hO hS)) fun r s' h => ?_
  match r, h with
  | .error e, h => exact (hCX H e s' h).elim
  | .ok .next, h => exact False.elim h
  | .ok .brk, h => exact False.elim h
  | .ok .cont, h => exact False.elim h
  | .ok (.ret u), ⟨v, H', os, bare, un, hok', rv', q⟩ =>
    obtain rfl : v = .bl true := q
    obtain rfl : u = Value.bool true := rv'
    refine ⟨rfl, OldK.of_keep fun b o e => ?_, os, bare⟩
    cases q : H b with
    | none => exact un.keep b o e q List.not_mem_nil List.not_mem_nil
    | some u =>
      obtain ⟨rfl, rfl, _⟩ := hH b u q
      obtain ⟨e2, _⟩ := hok' b _ (un.frzs b ob _ q)
      rw [ha] at e
      rw [← Option.some.inj e]
      exact e2
theorem walk_ofG {l : PySem.W.OpenLaw} {n k : Nat} {q : Program} {loose : List Str} {XP : (Str → Option Value) → Heap → Prop} {YP : World → Heap → Prop} {d : DefRec} {CX : World → CXT} {x : Str}
    (hn : l.most = some n) (hn2 : n ≤ sizeLine) (hdf : d.params.defaults = []) (hr : Room k callerA)
    (F : ∀ (w : World) (mg : Str → Option Value) (fa : Addr) (h : Heap), YP w h → h.Ns mainGlobals mg → mg d.name = some (.ref fa) →
      ∃ (K : PySem.W.Frag) (fd : FuncData) (sp : Sp), K.In h ∧ (∀ (s : Shared) (u : Value), BindsTo s fd ⟨[u], []⟩ [(x, u)]) ∧
        (∀ (H : Hp) (a : Addr) (ns : List Int), ns.length ≤ n → (∀ z ∈ ns, Builtin.Int.intBits z ≤ 1048576) → Only H → SqL K H a (ns.map V.int) → sp [.ref a] H (fun v _ => v = .bl true) fun _ _ _ => False) ∧
        ∀ base : Heap, K.In base → base.Ns mainGlobals mg → FnG l.prog w K mg base (CX w) k fa fd [x] sp)
    (hCX : ∀ (w : World) (H : Hp) (s : Shared) (e : Value) (s' : Shared), CX w [] H s (fun _ _ _ => False) e s' → False) :
    PySem.W.WalkO q loose XP YP l.row.toRowW d [] (fun f vs => PySem.call f vs) := by
  refine Att.attach_callB hn hdf fun w s₀ s₁ mg mb fa o pm cd doc a vs ns G Y ho hd hcd hmg hobj hints hlen hbits hg => ?_
  obtain ⟨K, fd, sp, KX, hb, hsp, hF⟩ := F w mg fa _ Y G.T.g hmg
  exact callG KX G.T.g G.T.b G.T.builtins G.T.nolimit hg hobj hints (Nat.le_trans hlen hn2) hr hF hb (fun H hO hS => hsp H a ns hlen hbits hO hS) fun H e s' => hCX w H s₁ e s'
/-! ### repr(x) of data at any depth -/
/-- what a value shows as: data without dicts, or an empty dict -/
def rRepr (K : PySem.W.Frag) : List V → Hp → VK → Prop := fun xs H Q => ∃ x d, xs = [x] ∧ Dp K H x d ∧ d.showable = true ∧ d.canLay0 = true ∧ d.depth ≤ 64 ∧ d.shown.length ≤ sizeLine ∧ Q (.str d.shown) H
theorem call_reprD {X : Cx} (hg0 : X.A.guards = some []) (hu : X.A.units + 100 < cLine) : CallR X (.builtin "repr") (rRepr X.K) := by
  intro pins s σ H xs us Q I r h
  obtain ⟨x, d, rfl, hd, hs, hc, hdep, hsz, q⟩ := h
  cases r with
  | cons r1 r2 =>
    rename_i u us'
    cases r2
    obtain ⟨as, rd⟩ := Dp.reads I d x u hd r1
    have hno : d.hasDict = true → sysModules ∉ as := PyData.noDict_hsm (PyData.hasDict_of_canLay d hc)
    cases hd with
    | non => cases r1; exact PySem.P.repr_of_none ⟨.str _, H, I.tok _, ⟨_, rfl⟩, q⟩
    | bl b => cases r1; exact PySem.P.repr_of_bool ⟨.str _, H, I.tok _, ⟨_, rfl⟩, q⟩
    | int i => obtain ⟨t, rfl⟩ := r1; exact PySem.P.repr_of_int (by simpa [PyData.showable] using hs) ⟨.str _, H, I.tok _, ⟨_, rfl⟩, q⟩
    | str z => obtain ⟨t, rfl⟩ := r1; exact PySem.P.repr_of_str ⟨.str _, H, I.tok _, ⟨_, rfl⟩, q⟩ hsz
    | lst h1 h2 =>
      cases r1
      exact repr_of_reads' rd hs hno hg0 (by omega) (fun _ _ e => e) (fun h' u' tk k => ⟨.str _, H, I.kept k, ⟨_, rfl⟩, q⟩) hsz
    | tup h1 h2 =>
      cases r1
      exact repr_of_reads' rd hs hno hg0 (by omega) (fun _ _ e => e) (fun h' u' tk k => ⟨.str _, H, I.kept k, ⟨_, rfl⟩, q⟩) hsz
end My

end

section
/-! ### the head's facts: defs and facts by names, and one more Bool -/
namespace My
open PySem PySem.Spec PyProof.Rows L2
def hookM (n : Nat) (fa : List He.Fa) (fn : List He.DefD) (ex : PySem.W.Frag → Bool) : PySem.W.Hook where
  α := He.AlD × Bool
  obs := fun s => (He.obsDG n fa fn s.heap.get?, ex (He.frG s.heap.get? (He.asD s.heap.get? n)))
  val := fun _ => (He.valD fn, true)
  says := fun _ h => ∃ K : PySem.W.Frag, K.In h ∧ He.SaysD fa fn K ∧ ex K = true
  of := fun _ _ e => ⟨_, He.frG_in, congrArg (fun z : He.AlD × Bool => z.1) e, congrArg (fun z : He.AlD × Bool => z.2) e⟩
  keeps := fun _ _ _ ⟨K, hK, c⟩ k => ⟨K, PySem.W.Frag.In.keeps hK k, c⟩
def obM (n : Nat) (fa : List He.Fa) (fn : List He.DefD) (ex : PySem.W.Frag → Bool) (s : PySem.W.SharedT) : He.AlD × Bool :=
  (He.obsDG n fa fn (HandSHeadRun.getT s), ex (He.frG (HandSHeadRun.getT s) (He.asD (HandSHeadRun.getT s) n)))
theorem obM_eq (n : Nat) (fa : List He.Fa) (fn : List He.DefD) (ex : PySem.W.Frag → Bool) (s : PySem.W.SharedT) : obM n fa fn ex s = (hookM n fa fn ex).obs s.abs := by
  have e : HandSHeadRun.getT s = s.abs.heap.get? := funext (HandSHeadRun.getT_eq s)
  unfold obM
  rw [e] <;> rfl
theorem ba {a b : Bool} (h : (a && b) = true) : a = true ∧ b = true := Bool.and_eq_true_iff.mp h
section
variable {K : PySem.W.Frag} {mg : Str → Option Value}
/-- own exceptions over ValueError with an __init__ of their own -/
def oexB (K : PySem.W.Frag) (C : Addr) : Bool :=
  (match K.lookup C with
  | some ⟨.type "type", _, .cls cd, sl⟩ => (match cd.mro, sl.toList with
    | .ref C' :: bm, [_, _, _, _, some (.builtin n), _] => C' == C && (n == "ValueError.__new__" && (!cd.hasDel && (cd.hasDict && PySem.HandSPX.refsVE bm)))
    | _, _ => false)
  | _ => false) && (He.eqO (PySem.W.findIn K (.ref C) "__setattr__") (some (some (.builtin "object.__setattr__"))) && (decide (PySem.W.subIn K (.ref C) (.type "BaseException") = some true) && (decide (PySem.W.typeIn K (.ref C) = some (.type "type")) && PySem.W.keepIn K (.ref C))))
theorem oexB_ok {C : Addr} (h : oexB K C = true) : OexC K C := by
  obtain ⟨h0, h⟩ := ba h
  obtain ⟨h1, h⟩ := ba h
  obtain ⟨h2, h⟩ := ba h
  obtain ⟨h3, h4⟩ := ba h
  refine ⟨?_, He.eqO_ok h1, of_decide_eq_true h2, of_decide_eq_true h3, h4⟩
  split at h0
  · rename_i dd cd sl ho
    split at h0
    · rename_i C' bm k0 k1 k2 k3 n k5 hm hs
      obtain ⟨e1, h0⟩ := ba h0
      obtain ⟨e2, h0⟩ := ba h0
      obtain ⟨e3, h0⟩ := ba h0
      obtain ⟨e4, e5⟩ := ba h0
      obtain rfl : C' = C := beq_iff_eq.mp e1
      obtain rfl : n = "ValueError.__new__" := beq_iff_eq.mp e2
      obtain ⟨nm, bs, mro, ns, qn, hd, sn, sb, ab, col, del⟩ := cd
      dsimp only at hm e3 e4
      subst hm e4
      obtain rfl : del = false := by simpa using e3
      have es : sl = #[k0, k1, k2, k3, some (.builtin "ValueError.__new__"), k5] := by
        rw [← Array.toArray_toList (xs := sl), hs]
      subst es
      exact ⟨nm, qn, ns, bs, bm, sn, sb, ab, col, dd, k0, k1, k2, k3, k5, ho, e5⟩
    · cases h0
  · cases h0
/-- all that is asked of the exception x with the field f -/
structure ExcT (K : PySem.W.Frag) (mg : Str → Option Value) (x f : Str) : Prop where
  g : mg x = some (.ref (He.ga K x))
  o : OexC K (He.ga K x)
  xf : XfC K (He.ga K x)
  no : PySem.W.findIn K (.ref (He.ga K x)) f = some none
  i : PySem.W.findIn K (.ref (He.ga K x)) "__init__" = some (some (.ref (He.ma K (He.ga K x) "__init__")))
  t : PySem.W.typeIn K (.ref (He.ma K (He.ga K x) "__init__")) = some (.type "function")
  m : PySem.W.exmOne K (.ref (He.ga K x)) (.ref (He.ga K x)) = some true
def excTB (K : PySem.W.Frag) (x f : Str) : Bool := He.eqO (PySem.W.nsIn K mainGlobals x) (some (some (.ref (He.ga K x)))) && (oexB K (He.ga K x) && (xfB K (He.ga K x) && (He.eqO (PySem.W.findIn K (.ref (He.ga K x)) f) (some none) &&
  (He.eqO (PySem.W.findIn K (.ref (He.ga K x)) "__init__") (some (some (.ref (He.ma K (He.ga K x) "__init__")))) && (decide (PySem.W.typeIn K (.ref (He.ma K (He.ga K x) "__init__")) = some (.type "function")) && decide (PySem.W.exmOne K (.ref (He.ga K x)) (.ref (He.ga K x)) = some true))))))
theorem excTB_ok {x f : Str} {h : Heap} (X : K.In h) (G : h.Ns mainGlobals mg) (q : excTB K x f = true) : ExcT K mg x f := by
  obtain ⟨h1, q⟩ := ba q
  obtain ⟨h2, q⟩ := ba q
  obtain ⟨h3, q⟩ := ba q
  obtain ⟨h4, q⟩ := ba q
  obtain ⟨h5, q⟩ := ba q
  obtain ⟨h6, h7⟩ := ba q
  exact ⟨PySem.W.mg_of X G (He.eqO_ok h1), oexB_ok h2, xfB_ok h3, He.eqO_ok h4, He.eqO_ok h5, of_decide_eq_true h6, of_decide_eq_true h7⟩
/-- what __init__ of such an exception does -/
def sp_exc (K : PySem.W.Frag) (x f : Str) : Sp := fun vs H Q _ => ∃ (a : Addr) (v : V), vs = [.ref a, v] ∧ H a = some (exo a (He.ga K x) none) ∧
  ∀ dx, H dx = none → dx ≠ a → Q .non (upd (upd H dx (exd dx [(f, v)])) a (exo a (He.ga K x) (some dx)))
end
section
variable {P : Program} {w : World} {K : PySem.W.Frag} {mg : Str → Option Value} {base : Heap} {CX : CXT}
theorem fnIn_of {x qual : Str} {params : Arguments} {body : List Stmt} {scope : Scope} {dvs : List V} {kws : List (Str × V)} {f : Addr} {fd : FuncData} (F : FunD K x qual params body scope dvs kws f fd) : PySem.W.fnIn K f = true := by
  obtain ⟨oc, od, dV, kV, doc, pm, an, cdv, ct, osl, rfl, lk, _⟩ := F.ex
  unfold PySem.W.fnIn
  rw [lk]
/-- a method, as its callers need it -/
structure Cm (P : Program) (w : World) (K : PySem.W.Frag) (mg : Str → Option Value) (base : Heap) (CX : CXT) (x m : Str) (ps : List Str) (k : Nat) (sp : Sp) : Prop where
  ex : ∃ fd, FnOk P w K mg base CX k (He.ma K (He.ga K x) m) fd ps sp ∧ Binds K fd ps []
  me : Meth K (He.ga K x) m (He.ma K (He.ga K x) m)
  cl : Cls K (He.ga K x)
  fi : PySem.W.fnIn K (He.ma K (He.ga K x) m) = true
theorem Cm.spc {x m : Str} {ps : List Str} {k : Nat} {sp : Sp} (C : Cm P w K mg base CX x m ps k sp) : Spc P w K mg base CX (He.ga K x) m ps k sp := by
  obtain ⟨fd, F, b⟩ := C.ex
  exact ⟨_, fd, F, b, C.me.at_, C.me.fn, C.fi⟩
end
section
variable {X : Cx} {CX : CXT} {k : Nat} {ps : List Str} {sp : Sp} {E : XK} {x m : Str} {p pos apos : Pos} {o e : Expr} {es : List Expr} {t : TA} {ta : TE}
theorem pe_cm {pl : Sem Bool} (C : Cm X.prog X.w X.K X.mg X.base CX x m ps k sp) (hr : Room k X.A) (hx : Passes CX X E) (he : PE X o ta) (ha : PA X (e :: es) t)
    (hst : starEach (e :: es) X.env = (false, eval e X.env) :: starEach es X.env := by rfl) (hpl : (backTo pos (starEach es X.env)).any (·.1) = false := by rfl)
    (ht : eval (.Call (.Attribute o m apos) (e :: es) [] pos) X.env = (do
      let ov ← eval o X.env
      standAt apos.atName
      let (f, first) ← holding [ov] (getMethod ov m pl)
      callWith pos f first (backTo pos (starEach (e :: es) X.env)) (backToKw pos (keywordEach [] X.env))) := by rfl) :
    PE X (.Call (.Attribute o m apos) (e :: es) [] pos) (tMeth (He.ga X.K x) m sp [] E ta t) := by
  obtain ⟨fd, F, b⟩ := C.ex
  exact pe_meth he C.cl C.me F hr b .nil hx ha hst hpl ht
theorem pe_cm0 {pl : Sem Bool} (C : Cm X.prog X.w X.K X.mg X.base CX x m ps k sp) (hr : Room k X.A) (hx : Passes CX X E) (he : PE X o ta)
    (ht : eval (.Call (.Attribute o m apos) [] [] pos) X.env = (do
      let ov ← eval o X.env
      standAt apos.atName
      let (f, first) ← holding [ov] (getMethod ov m pl)
      callWith pos f first (backTo pos (starEach [] X.env)) (backToKw pos (keywordEach [] X.env))) := by rfl) :
    PE X (.Call (.Attribute o m apos) [] [] pos) (tMeth (He.ga X.K x) m sp [] E ta tNil) := by
  obtain ⟨fd, F, b⟩ := C.ex
  exact pe_meth0 he C.cl C.me F hr b .nil hx ht
/-- raise X(e), X's __init__ keeping sp_exc -/
theorem ps_raiseX {f : Str} {W : WX} {kI : Nat} {fdI : FuncData} {psI : List Str} {pos2 : Pos} (hc : X.calm = true) (T : ExcT X.K X.mg x f) (F1 : FnOk X.prog X.w X.K X.mg X.base CX0 kI (He.ma X.K (He.ga X.K x) "__init__") fdI psI (sp_exc X.K x f)) (b1 : Binds X.K fdI psI []) (hr : Room (kI + 1) X.A) (tk : Takes X W)
    (ha : PA X (e :: es) t) (hg : Gl X x) (hdb : (x == ("__debug__" : Str)) = false := by decide) (he : starEach (e :: es) X.env = (false, eval e X.env) :: starEach es X.env := by rfl) (hpl : (backTo pos (starEach es X.env)).any (·.1) = false := by rfl) :
    PS X (.Raise (some (.Call (.Name x p) (e :: es) [] pos)) none pos2) (fun _ σ H => tMkO (He.ga X.K x) (sp_exc X.K x f) [] t σ H fun cls d H' => W cls d σ H') :=
  ps_raise hc tk (pmk_oex T.o T.i T.t F1 hr b1 .nil (fun _ _ _ _ _ _ _ h => h.elim) hg T.g ha hdb he hpl)
end
end My

end

section
/-! ### more steps: fields, methods, isinstance, exceptions, locks -/
namespace My
open PySem PySem.Spec PyProof.Rows L2
section
variable {σ : L2.St} {H : Hp} {Q : VK} {nx bk ct : L2.St → Hp → Prop} {rt : VK} {t t1 t2 u : TS} {te ta tb tc tv : TE} {c d : TT} {g : TG} {x y v w : V} {K : PySem.W.Frag} {f m : Str} {E : XK}
theorem x_fld (h : ta σ H fun x H1 => ∃ a C dx fs v, x = .ref a ∧ H1 a = some (.ins C dx fs) ∧ Cls K C ∧ NoAttr K C f ∧ fs.lookup f = some v ∧ Q v H1) : tFld K ta f σ H Q := h
theorem x_fldE {a C dx : Addr} {fs : List (Str × V)} {R : V → Prop} (h : H a = some (.ins C dx fs)) (hc : Cls K C) (hn : NoAttr K C f) (hl : fs.lookup f = some v) (k : R v) :
    ∃ (b C dx : Addr) (fs : List (Str × V)) (v : V), V.ref a = .ref b ∧ H b = some (.ins C dx fs) ∧ Cls K C ∧ NoAttr K C f ∧ fs.lookup f = some v ∧ R v := ⟨a, C, dx, fs, v, rfl, h, hc, hn, hl, k⟩
theorem x_sfld (h : tv σ H fun y H1 => ta σ H1 fun x H2 => ∃ a C dx fs, x = .ref a ∧ H2 a = some (.ins C dx fs) ∧ Cls K C ∧ NoAttr K C f ∧ fs.length < 1000 ∧ nx σ (upd H2 a (.ins C dx (putF f y fs)))) : sFld K ta tv f ⟨nx, rt, bk, ct⟩ σ H := h
theorem x_sfldE {a C dx : Addr} {fs gs : List (Str × V)} {R : Hp → Prop} (h : H a = some (.ins C dx fs)) (hc : Cls K C) (hn : NoAttr K C f) (hz : fs.length < 1000) (e : putF f y fs = gs) (k : R (upd H a (.ins C dx gs))) :
    ∃ (b C dx : Addr) (fs : List (Str × V)), V.ref a = .ref b ∧ H b = some (.ins C dx fs) ∧ Cls K C ∧ NoAttr K C f ∧ fs.length < 1000 ∧ R (upd H b (.ins C dx (putF f y fs))) := ⟨a, C, dx, fs, rfl, h, hc, hn, hz, e ▸ k⟩
theorem x_meth {C : Addr} {sp : Sp} {dvs : List V} {tt : TA} (h : ta σ H fun x H1 => ∃ a dx fs, x = .ref a ∧ H1 a = some (.ins C dx fs) ∧ fs.lookup m = none ∧ tt σ H1 fun vs H2 => sp (x :: (vs ++ dvs)) H2 Q E) : tMeth C m sp dvs E ta tt σ H Q := h
theorem x_methE {a C dx : Addr} {fs : List (Str × V)} {R : Prop} (h : H a = some (.ins C dx fs)) (hl : fs.lookup m = none) (k : R) : ∃ (b dx : Addr) (fs : List (Str × V)), V.ref a = .ref b ∧ H b = some (.ins C dx fs) ∧ fs.lookup m = none ∧ R := ⟨a, dx, fs, rfl, h, hl, k⟩
theorem x_make {C : Addr} {sp : Sp} {dvs : List V} {tt : TA} (h : tt σ H fun vs H1 => ∀ x dx, H1 x = none → H1 dx = none → dx ≠ x → sp (.ref x :: (vs ++ dvs)) (upd (upd H1 dx (.own x)) x (.ins C dx [])) (fun v H2 => v = .non ∧ Q (.ref x) H2) E) : tMake C sp dvs E tt σ H Q := h
theorem x_isi {x c : V} {t u : Value} {b : Bool} (hc : ClsV c u) (hx : TyX K H x t) (hk : PySem.W.kitOne K t u = some b) (k : Q (.bl b) H) : rIsi K [x, c] H Q := ⟨x, c, t, u, b, rfl, hc, hx, hk, k⟩
theorem x_isiT {x : V} {tp : Addr} {cs : List V} {t : Value} {us : List Value} {b : Bool} (h : H tp = some (.tup cs)) (hc : Paired ClsV cs us) (hx : TyX K H x t) (hk : PySem.W.kitAny K t us = some b) (k : Q (.bl b) H) : rIsiT K [x, .ref tp] H Q := ⟨x, tp, cs, t, us, b, rfl, h, hc, hx, hk, k⟩
theorem x_lenO {C a dx : Addr} {fs : List (Str × V)} {sp : Sp} (h : H a = some (.ins C dx fs)) (k : sp [.ref a] H (fun v H' => ∃ n : Int, v = .int n ∧ 0 ≤ n ∧ n < 2 ^ 63 ∧ Q (.int n) H') E) : rLenO C sp E [.ref a] H Q := ⟨a, dx, fs, rfl, h, k⟩
theorem x_inO {neg : Bool} {C a dx : Addr} {fs : List (Str × V)} {sp : Sp} (h : H a = some (.ins C dx fs)) (k : sp [.ref a, x] H (fun v H' => ∃ b, v = .bl b ∧ Q (.bl (if neg then !b else b)) H') E) : rInO neg C sp E x (.ref a) H Q := ⟨a, dx, fs, rfl, h, k⟩
theorem x_binO {C a dx b dy : Addr} {fs gs : List (Str × V)} {sp : Sp} (h : H a = some (.ins C dx fs)) (h' : H b = some (.ins C dy gs)) (k : sp [.ref a, .ref b] H Q E) : rBinO C sp E (.ref a) (.ref b) H Q := ⟨a, dx, fs, b, dy, gs, rfl, rfl, h, h', k⟩
theorem x_eqO {C a dx : Addr} {fs : List (Str × V)} {sp : Sp} {ty : V → Hp → Prop} (h : H a = some (.ins C dx fs)) (ht : ty y H) (k : sp [.ref a, y] H (fun v H' => ∃ b, v = .bl b ∧ Q (.bl b) H') E) : rEqO C sp E ty (.ref a) y H Q := ⟨a, dx, fs, rfl, h, ht, k⟩
theorem x_neO {C a dx : Addr} {fs : List (Str × V)} {sp : Sp} {ty : V → Hp → Prop} (h : H a = some (.ins C dx fs)) (ht : ty y H) (k : sp [.ref a, y] H (fun v H' => ∃ b, v = .bl b ∧ Q (.bl (!b)) H') E) : rNeO C sp E ty (.ref a) y H Q := ⟨a, dx, fs, rfl, h, ht, k⟩
theorem x_din (h : ta σ H fun y H1 => tb σ H1 fun x H2 => ∃ a o, x = .ref a ∧ DGet H2 a y o ∧ Q (.bl o.isSome) H2) : tDIn ta tb σ H Q := h
theorem x_dnin (h : ta σ H fun y H1 => tb σ H1 fun x H2 => ∃ a o, x = .ref a ∧ DGet H2 a y o ∧ Q (.bl (!o.isSome)) H2) : tDNotIn ta tb σ H Q := h
theorem x_dinI {a : Addr} {kvs : List (Key × V)} {i : Int} {R : Option V → Prop} (s : Rd H a (.dK kvs)) (h : R (valV kvs (Sum.inl i))) : ∃ (b : Addr) (o : Option V), V.ref a = .ref b ∧ DGet H b (.int i) o ∧ R o := ⟨a, _, rfl, .inl ⟨kvs, Sum.inl i, s, rfl, rfl⟩, h⟩
theorem x_lockE {tt : TE} {d : Addr} {o : HO} (h : H d = some o) (hm : Mut (some o)) (k : ∀ od, tt σ (upd H d (.frz od o)) fun v H' => H' d = some (.frz od o) ∧ Q v (upd H' d o)) : tLockE tt σ H Q := ⟨d, o, h, hm, k⟩
theorem x_lock {tt : TS} {d : Addr} {o : HO} (h : H d = some o) (hm : Mut (some o)) (k : ∀ od, tt ⟨fun σ' H' => H' d = some (.frz od o) ∧ nx σ' (upd H' d o), fun v H' => H' d = some (.frz od o) ∧ rt v (upd H' d o), fun σ' H' => H' d = some (.frz od o) ∧ bk σ' (upd H' d o), fun σ' H' => H' d = some (.frz od o) ∧ ct σ' (upd H' d o)⟩ σ (upd H d (.frz od o))) : tLock tt ⟨nx, rt, bk, ct⟩ σ H := ⟨d, o, h, hm, k⟩
theorem x_ikeys {td : TE} {R} (h : td σ H fun x H1 => ∃ d o, x = .ref d ∧ ((∃ kvs, H1 d = some (.frz o (.dK kvs)) ∧ R (Itk d o kvs) H1) ∨ ∃ kvs, H1 d = some (.frz o (.dT kvs)) ∧ R (Itkt d o kvs) H1)) : iKeys td σ H R := h
theorem x_vei {tt : TA} (h : tt σ H fun vs H1 => ∃ (a C : Addr) (ws : List V), vs = .ref a :: ws ∧ ws.length ≤ 1000 ∧ OexC K C ∧ H1 a = some (exo a C none) ∧ Q .non H1) : tVeI K tt σ H Q := h
/-- all([..]) over truth values -/
theorem x_all {a : Addr} {bs : List Bool} (s : SqL K H a (bs.map V.bl)) (h : Q (.bl (bs.all id)) H) : rAll K [.ref a] H Q := ⟨a, bs, rfl, s, h⟩
theorem x_cat {a b : Addr} {xs ys : List V} (h : H a = some (.lst xs)) (h' : H b = some (.lst ys)) (l : xs.length + ys.length ≤ sizeLine) (k : ∀ p, H p = none → Q (.ref p) (upd H p (.lst (xs ++ ys)))) : rCat (.ref a) (.ref b) H Q := ⟨a, b, xs, ys, rfl, rfl, h, h', l, k⟩
end
end My

end

section
/-! ### loops over anything that is walked, by what is behind and ahead -/
namespace My
open PySem PySem.Spec PyProof.Rows L2
/-- J walks the things ys while G holds; a turn hands on a value, and the heap then, as it tells -/
structure Runs {α : Type} (J : It) (ys : List α) (G : Hp → Prop) (it : Nat → α → Hp → V → Hp → Prop) : Prop where
  go : ∀ i x H, ys[i]? = some x → G H → J.go i H
  stop : ∀ i H, ys.length ≤ i → G H → J.stop i H
  yld : ∀ i x H v H', ys[i]? = some x → G H → J.yld i H v H' → it i x H v H'
section
variable {α : Type} {J : It} {ys : List α} {G : Hp → Prop} {it : Nat → α → Hp → V → Hp → Prop} {g : TG} {tb : TS} {σ : L2.St} {H : Hp} {nx : L2.St → Hp → Prop} {rt : VK}
theorem for_runs (R : Runs J ys G it) (Pv : List α → L2.St → Hp → Prop) (h0 : Pv [] σ H) (hl : ∀ pre post σ H, ys = pre ++ post → Pv pre σ H → G H)
    (hs : ∀ pre x post σ H v H', ys = pre ++ x :: post → Pv pre σ H → it pre.length x H v H' → g v σ H' fun σ2 H2 => tb ⟨Pv (pre ++ [x]), rt, nx, Pv (pre ++ [x])⟩ σ2 H2) (hd : ∀ σ H, Pv ys σ H → nx σ H) :
    ∃ W : Nat → Nat → L2.St → Hp → Prop, (∃ m, W 0 m σ H) ∧ ∀ i m σ H, W i m σ H →
      (J.stop i H ∧ nx σ H) ∨ (J.go i H ∧ ∃ N : L2.St → Hp → Prop, (∀ σ' H', N σ' H' → ∃ m', m' < m ∧ W (i + 1) m' σ' H') ∧ ∀ x H', J.yld i H x H' → g x σ H' fun σ2 H2 => tb ⟨N, rt, nx, N⟩ σ2 H2) := by
  refine ⟨fun i m σ H => m = ys.length - i ∧ i ≤ ys.length ∧ Pv (ys.take i) σ H, ⟨ys.length, by simp, Nat.zero_le _, h0⟩, ?_⟩
  rintro i m σ H ⟨rfl, hi, p⟩
  have q := hl _ (ys.drop i) σ H (List.take_append_drop i ys).symm p
  by_cases hlt : i < ys.length
  · have hx : ys[i]? = some ys[i] := List.getElem?_eq_getElem hlt
    refine .inr ⟨R.go i _ H hx q, Pv (ys.take (i + 1)), fun σ' H' p' => ⟨ys.length - (i + 1), by omega, rfl, hlt, p'⟩, fun v H' y => ?_⟩
    have hy := R.yld i _ H v H' hx q y
    have hlen : (ys.take i).length = i := by rw [List.length_take, Nat.min_eq_left hi]
    have := hs _ _ _ σ H v H' (getElem?_split hx) p (by rw [hlen]; exact hy)
    rw [← take_snoc hx] at this
    exact this
  · have e : i = ys.length := by omega
    subst e
    rw [List.take_length] at p
    exact .inl ⟨R.stop _ H (Nat.le_refl _) q, hd σ H p⟩
theorem lc_runs {tt : TT} {te : TE} {vs : List Nat} {H1 : Hp} {D : Addr} {Qd : Hp → Prop} (R : Runs J ys G it) (Pv : List α → Hp → Prop) (h0 : Pv [] (upd H1 D (.lst []))) (hl : ∀ pre post H, ys = pre ++ post → Pv pre H → G H)
    (hs : ∀ pre x post H v H', ys = pre ++ x :: post → Pv pre H → it pre.length x H v H' → g v (wipe σ vs) H' fun σ2 H2 => wipe σ2 vs = wipe σ vs ∧ tt σ2 H2 fun b H3 =>
      if b = true then te σ2 H3 fun y H4 => ∃ acc, H4 D = some (.lst acc) ∧ acc.length < sizeLine ∧ Pv (pre ++ [x]) (upd H4 D (.lst (acc ++ [y]))) else Pv (pre ++ [x]) H3) (hd : ∀ H, Pv ys H → Qd H) :
    ∃ W : Nat → Nat → Hp → Prop, (∃ m, W 0 m (upd H1 D (.lst []))) ∧ ∀ i m H, W i m H →
      (J.stop i H ∧ Qd H) ∨ (J.go i H ∧ ∃ Nx : Hp → Prop, (∀ H', Nx H' → ∃ m', m' < m ∧ W (i + 1) m' H') ∧ ∀ x H', J.yld i H x H' → g x (wipe σ vs) H' fun σ2 H2 => wipe σ2 vs = wipe σ vs ∧ tt σ2 H2 fun b H3 =>
        if b = true then te σ2 H3 fun y H4 => ∃ acc, H4 D = some (.lst acc) ∧ acc.length < sizeLine ∧ Nx (upd H4 D (.lst (acc ++ [y]))) else Nx H3) := by
  refine ⟨fun i m H => m = ys.length - i ∧ i ≤ ys.length ∧ Pv (ys.take i) H, ⟨ys.length, by simp, Nat.zero_le _, h0⟩, ?_⟩
  rintro i m H ⟨rfl, hi, p⟩
  have q := hl _ (ys.drop i) H (List.take_append_drop i ys).symm p
  by_cases hlt : i < ys.length
  · have hx : ys[i]? = some ys[i] := List.getElem?_eq_getElem hlt
    refine .inr ⟨R.go i _ H hx q, Pv (ys.take (i + 1)), fun H' p' => ⟨ys.length - (i + 1), by omega, rfl, hlt, p'⟩, fun v H' y => ?_⟩
    have hy := R.yld i _ H v H' hx q y
    have hlen : (ys.take i).length = i := by rw [List.length_take, Nat.min_eq_left hi]
    have := hs _ _ _ H v H' (getElem?_split hx) p (by rw [hlen]; exact hy)
    rw [← take_snoc hx] at this
    exact this
  · have e : i = ys.length := by omega
    subst e
    rw [List.take_length] at p
    exact .inl ⟨R.stop _ H (Nat.le_refl _) q, hd H p⟩
theorem dc_runs {tt : TT} {tk tv : TE} {vs : List Nat} {H1 : Hp} {D : Addr} {Qd : Hp → Prop} (R : Runs J ys G it) (Pv : List α → Hp → Prop) (h0 : Pv [] (upd H1 D (.dK []))) (hl : ∀ pre post H, ys = pre ++ post → Pv pre H → G H)
    (hs : ∀ pre x post H v H', ys = pre ++ x :: post → Pv pre H → it pre.length x H v H' → g v (wipe σ vs) H' fun σ2 H2 => wipe σ2 vs = wipe σ vs ∧ tt σ2 H2 fun b H3 =>
      if b = true then tk σ2 H3 fun y H4 => tv σ2 H4 fun z H5 => ∃ kvs k, y = kV k ∧ H5 D = some (.dK kvs) ∧ kvs.length < sizeLine ∧ Pv (pre ++ [x]) (upd H5 D (.dK (putK kvs k z))) else Pv (pre ++ [x]) H3) (hd : ∀ H, Pv ys H → Qd H) :
    ∃ W : Nat → Nat → Hp → Prop, (∃ m, W 0 m (upd H1 D (.dK []))) ∧ ∀ i m H, W i m H →
      (J.stop i H ∧ Qd H) ∨ (J.go i H ∧ ∃ Nx : Hp → Prop, (∀ H', Nx H' → ∃ m', m' < m ∧ W (i + 1) m' H') ∧ ∀ x H', J.yld i H x H' → g x (wipe σ vs) H' fun σ2 H2 => wipe σ2 vs = wipe σ vs ∧ tt σ2 H2 fun b H3 =>
        if b = true then tk σ2 H3 fun y H4 => tv σ2 H4 fun z H5 => ∃ kvs k, y = kV k ∧ H5 D = some (.dK kvs) ∧ kvs.length < sizeLine ∧ Nx (upd H5 D (.dK (putK kvs k z))) else Nx H3) := by
  refine ⟨fun i m H => m = ys.length - i ∧ i ≤ ys.length ∧ Pv (ys.take i) H, ⟨ys.length, by simp, Nat.zero_le _, h0⟩, ?_⟩
  rintro i m H ⟨rfl, hi, p⟩
  have q := hl _ (ys.drop i) H (List.take_append_drop i ys).symm p
  by_cases hlt : i < ys.length
  · have hx : ys[i]? = some ys[i] := List.getElem?_eq_getElem hlt
    refine .inr ⟨R.go i _ H hx q, Pv (ys.take (i + 1)), fun H' p' => ⟨ys.length - (i + 1), by omega, rfl, hlt, p'⟩, fun v H' y => ?_⟩
    have hy := R.yld i _ H v H' hx q y
    have hlen : (ys.take i).length = i := by rw [List.length_take, Nat.min_eq_left hi]
    have := hs _ _ _ H v H' (getElem?_split hx) p (by rw [hlen]; exact hy)
    rw [← take_snoc hx] at this
    exact this
  · have e : i = ys.length := by omega
    subst e
    rw [List.take_length] at p
    exact .inl ⟨R.stop _ H (Nat.le_refl _) q, hd H p⟩
end
/-! what is walked -/
section
variable {K : PySem.W.Frag} {a b d : Addr} {α : Type} {f : α → V} {ys : List α}
theorem runs_list (f : α → V) (ys : List α) : Runs (Itl K a) ys (fun H => SqL K H a (ys.map f)) (fun _ x H v H' => v = f x ∧ H' = H) where
  go i x H hx q := ⟨_, f x, q, by rw [List.getElem?_map, hx]; rfl⟩
  stop i H hi q := ⟨_, q, by rw [List.length_map]; exact hi⟩
  yld i x H v H' hx q y := by
    obtain ⟨rfl, y⟩ := y
    have := y _ q
    rw [List.getElem?_map, hx] at this
    exact ⟨(Option.some.inj this).symm, rfl⟩
theorem runs_tup (f : α → V) (ys : List α) : Runs (Itt K a) ys (fun H => SqT K H a (ys.map f)) (fun _ x H v H' => v = f x ∧ H' = H) where
  go i x H hx q := ⟨_, f x, q, by rw [List.getElem?_map, hx]; rfl⟩
  stop i H hi q := ⟨_, q, by rw [List.length_map]; exact hi⟩
  yld i x H v H' hx q y := by
    obtain ⟨rfl, y⟩ := y
    have := y _ q
    rw [List.getElem?_map, hx] at this
    exact ⟨(Option.some.inj this).symm, rfl⟩
theorem runs_rng (lo : Int) (n : Nat) : Runs (Itr lo n) (List.range n) (fun _ => True) (fun i x H v H' => v = .int (lo + x) ∧ x = i ∧ i < n ∧ H' = H) where
  go i x H hx q := by
    obtain ⟨h, _⟩ := List.getElem?_eq_some_iff.mp hx
    rw [List.length_range] at h
    exact h
  stop i H hi q := by rw [List.length_range] at hi; exact hi
  yld i x H v H' hx q y := by
    obtain ⟨h, e⟩ := List.getElem?_eq_some_iff.mp hx
    rw [List.length_range] at h
    rw [List.getElem_range] at e
    subst e
    obtain ⟨rfl, rfl⟩ := y
    exact ⟨rfl, rfl, h, rfl⟩
end
end My

end

section
/-! ### set(xs), xs a list of ints, as a set that can be sorted and counted -/
namespace My
open PySem PySem.Spec PyProof.Rows L2
section
variable {P : Program} {w : World} {A : Around} {E : Value → Shared → Prop} {s : Shared}
/-- a set just made -/
abbrev eSet (w : World) : Obj := { cls := .type "set", dict := none, data := .set #[] 0 (.fresh 0 0 (!w.params.followText "set-order")) }
def SetGot (w : World) (s : Shared) (ns : List Int) (h' : Heap) (c : Nat) : Prop := SetR w h' s.heap.objs.size (fun j => decide (j ∈ ns)) c ∧ ∀ b o, s.heap.get? b = some o → h'.get? b = some o
/-- the init of a set just made, over a list -/
theorem set_fill {l : Addr} {items : Array Value} {ns : List Int} (hh : A.handled = none) (hl : s.heap.IsList l items) (hit : IntsAre items.toList ns) (hb : ns.length + 1 < scanBound) :
    codeAny (model P w) A (.call (.builtin "set.__init__") ⟨[.ref s.heap.objs.size, .ref l], []⟩) (wants (fun r s₂ => r = .none ∧ ∃ h' tk c, s₂ = { s with heap := h', toks := tk } ∧ SetGot w s ns h' c) E) { s with heap := s.heap.push (eSet w) } := by
  have hisz : items.size = ns.length := by
    have q := IntsAre.length hit
    rw [Array.length_toList] at q
    exact q
  have hS : (s.heap.push (eSet w)).get? s.heap.objs.size = some (eSet w) := Heap.get?_push_size _ rfl
  have hT : Shared.TypeIs { s with heap := s.heap.push (eSet w) } (.ref s.heap.objs.size) "set" := ⟨_, hS, rfl⟩
  refine codeAny_call_builtin F.called_set.init.plain F.entry_set_init (check_set_init_1 hT ?_)
  obtain ⟨⟨lc, ld, lda, lsl⟩, hol, hcl, nl, hdl⟩ := hl
  cases hcl
  cases hdl
  have hol' := Heap.get?_push_of_some (eSet w) hol
  have hl1 : (s.heap.push (eSet w)).IsList l items := ⟨_, hol', rfl, nl, rfl⟩
  have hsls := F.sub_list_set
  have hslf := F.sub_list_frozenset
  have hne : (Value.type "list" == Value.type "dict") = false := by decide
  unfold Builtin.«set.__init__» noKeywords Builtin.Frozenset.updateFrom
  generalize hPI : pyIter = PI
  wp_walk
  subst hPI
  refine wpAny_pyIter_list hl1 (wpAny_bind (wpAny_runValue ?_))
  have hlS : l < s.heap.objs.size := Heap.lt_size hol
  have hz : (s.heap.push (eSet w)).objs.size = s.heap.objs.size + 1 := Heap.size_push ..
  have nI : l ≠ (s.heap.push (eSet w)).objs.size := by rw [hz]; exact Nat.ne_of_lt (Nat.lt_succ_of_lt hlS)
  have nS : s.heap.objs.size ∉ [(s.heap.push (eSet w)).objs.size, l] := by
    rw [hz]
    simp only [List.mem_cons, List.not_mem_nil, or_false, not_or]
    exact ⟨Nat.ne_of_lt (Nat.lt_succ_self _), Nat.ne_of_gt hlS⟩
  have vals : ∀ (i : Nat) (v : Value), items[i]? = some v → ∃ k t, ns[i]? = some k ∧ v = .int k t := fun i v hv => by
    have hi : i < ns.length := by rw [← hisz]; exact (Array.getElem?_eq_some_iff.mp hv).1
    obtain ⟨t, e⟩ := IntsAre.int_at hit i v (by rw [Array.getElem?_toList]; exact hv)
    rw [List.getD_eq_getElem?_getD, List.getElem?_eq_getElem hi] at e
    exact ⟨ns[i], t, List.getElem?_eq_getElem hi, e⟩
  refine set_update_ints ((Walks.list (by simp [hh]) _ l nI items).toS) s.heap.objs.size nS ns hisz hb vals (items.size - 0) 0 _ (by omega) (Nat.zero_le _)
    ⟨⟨_, Heap.get?_push_size _ rfl, rfl, rfl⟩, hl1.push _⟩ ⟨0, Nat.le_refl 0, setR_new_at (Heap.get?_push_of_some _ hS)⟩ fun s' c hm _ hS' => ?_
  obtain ⟨h', g', d', tk', os'⟩ := s'
  obtain rfl : g' = s.gens := hm.gens
  obtain rfl : d' = s.drawn := hm.drawn
  obtain rfl : os' = s.os := hm.os
  show wpAny _ _ _ _ _ _
  refine wpAny_pure ?_
  show wpAny _ _ (ret Value.none) _ _ _
  refine wpAny_pure ⟨rfl, h', tk', c, rfl, hS', fun b o e => ?_⟩
  have hb0 : b < s.heap.objs.size := Heap.lt_size e
  refine hm.heap b o ?_ (Heap.get?_push_of_some _ (Heap.get?_push_of_some _ e))
  rw [hz]
  simp only [List.mem_cons, List.not_mem_nil, or_false, not_or]
  exact ⟨Nat.ne_of_lt hb0, Nat.ne_of_lt (Nat.lt_succ_of_lt hb0)⟩
theorem call_setL {l : Addr} {items : Array Value} {ns : List Int} {Q : Value → Shared → Prop} (hh : A.handled = none) (hl : s.heap.IsList l items) (hit : IntsAre items.toList ns) (hb : ns.length + 1 < scanBound)
    (h : ∀ (h' : Heap) (tk c : Nat), SetGot w s ns h' c → Q (.ref s.heap.objs.size) { s with heap := h', toks := tk }) : wpAny (model P w) A (call (.type "set") [.ref l]) Q E s := by
  obtain ⟨c, tl, hmro⟩ := F.called_set.mro
  have hmade := F.called_set.made
  have hsub := F.called_set.sub
  have h1 := F.called_set.notType
  have h2 := F.called_set.canCreate
  have hct := F.typeCall_set_1 (.ref l)
  refine wpAny_call (codeAny_of_tree ?_)
  show wpAny _ _ (callAny (.type "set") _) _ _ _
  refine wpAny_pure ⟨Code.quiet_builtin _ (by decide +kernel), codeAny_builtin F.entry_type_call ?_⟩
  rw [Around.under_plain (weight_type_call_type "set" [.ref l] []) rfl]
  repeat (any_goals (first | assumption | wp_step))
  refine codeAny_mono (code_set_led1 (.ref l) (E := E) (Q₁ := fun obj s₁ => obj = .ref s.heap.objs.size ∧ s₁ = { s with heap := s.heap.push (eSet w) }) ⟨rfl, rfl⟩) fun r s₁ hr => ?_
  match r, hr with
  | .error e, hr => exact hr
  | .ok .next, hr => exact False.elim hr
  | .ok .brk, hr => exact False.elim hr
  | .ok .cont, hr => exact False.elim hr
  | .ok (.ret obj), hr =>
    obtain ⟨rfl, rfl⟩ := hr
    have hS : (s.heap.push (eSet w)).get? s.heap.objs.size = some (eSet w) := Heap.get?_push_size _ rfl
    have hT : Shared.TypeIs { s with heap := s.heap.push (eSet w) } (.ref s.heap.objs.size) "set" := ⟨_, hS, rfl⟩
    have hli := F.called_set.init.lookup
    have hbi := F.called_set.init.bind (.ref s.heap.objs.size)
    repeat (any_goals (first | assumption | wp_step))
    refine codeAny_mono (set_fill (E := E) (by simp [hh]) hl hit hb) fun r₂ s₂ hr₂ => ?_
    match r₂, hr₂ with
    | .error e, hr₂ => exact hr₂
    | .ok .next, hr₂ => exact False.elim hr₂
    | .ok .brk, hr₂ => exact False.elim hr₂
    | .ok .cont, hr₂ => exact False.elim hr₂
    | .ok (.ret v), ⟨e, h', tk, c, e', got⟩ =>
      cases e
      cases e'
      repeat (any_goals (first | assumption | wp_step))
      exact h _ _ _ got
end
section
variable {X : Cx}
/-- how many there are -/
def Uniq (ns ks : List Int) : Prop := ks.Nodup ∧ ∀ k, k ∈ ks ↔ k ∈ ns
/-- set(xs) -/
def rSetL (w : World) (K : PySem.W.Frag) : List V → Hp → VK → Prop := fun xs H Q => ∃ (l : Addr) (ns : List Int), xs = [.ref l] ∧ SqL K H l (ns.map V.int) ∧ ns.length ≤ 1000 ∧
  ∀ (p : Addr) (ks : List Int), H p = none → Uniq ns ks → ks.length ≤ ns.length → Q (.ref p) (upd H p (SetO w p (fun j => decide (j ∈ ns)) ks.length))
theorem cr_setL (hc : X.calm = true) : CallR X (.type "set") (rSetL X.w X.K) := by
  intro pins s σ H xs us Q I r h
  obtain ⟨l, ns, rfl, hq, hn, q⟩ := h
  rw [Vals.ref1 r]
  obtain ⟨its, rv, pl, hz⟩ := I.list hq
  refine call_setL (I.ok.hd hc) pl.isList (show IntsAre its.toArray.toList ns from ints_of_vals rv) (by unfold scanBound; omega) fun h' tk c ⟨R, k⟩ => ?_
  obtain ⟨o, es, ep, t, ho, hex, hd, g, nd, hm, hb, hf, hn', _⟩ := id R
  have un : Uniq ns (es.toList.map keyOf) := ⟨nd, fun j => by rw [← hm j, decide_eq_true_eq]⟩
  have ec : (es.toList.map keyOf).length = c := by rw [List.length_map, Array.length_toList]; exact hn'
  subst ec
  exact ⟨.ref _, _, I.laid (t' := tk) k (Nat.le_refl _) (setO_new R), rfl, q _ _ (I.hok.fresh (Nat.le_refl _)) un (nodup_len nd fun x hx => (un.2 x).mp hx)⟩
/-- len(found) -/
def rLenSet (w : World) : List V → Hp → VK → Prop := fun xs H Q => ∃ (a : Addr) (S : Int → Bool) (n : Nat), xs = [.ref a] ∧ H a = some (SetO w a S n) ∧ n < 2 ^ 62 ∧ Q (.int (n : Nat)) H
theorem cr_lenSet : CallR X (.builtin "len") (rLenSet X.w) := by
  intro pins s σ H xs us Q I r h
  obtain ⟨a, S, n, rfl, ha, hn, q⟩ := h
  rw [Vals.ref1 r]
  obtain ⟨o, es, ep, t, ho, hex, hd, _, _, _, _, hf, hz, _⟩ := setO_get I ha
  exact call_len_set ho hex hd hf (by rw [hz]; omega) ⟨.int (n : Nat), H, I.tok _, ⟨_, by rw [hz]⟩, q⟩
end
section
variable {H : Hp} {Q : VK} {K : PySem.W.Frag} {w : World}
theorem x_setL' {l : Addr} {ns : List Int} (s : SqL K H l (ns.map V.int)) (n : ns.length ≤ 1000) (h : ∀ (p : Addr) (ks : List Int), H p = none → Uniq ns ks → ks.length ≤ ns.length → Q (.ref p) (upd H p (SetO w p (fun j => decide (j ∈ ns)) ks.length))) : rSetL w K [.ref l] H Q := ⟨l, ns, rfl, s, n, h⟩
theorem x_lenSet {a : Addr} {S : Int → Bool} {n : Nat} (s : H a = some (SetO w a S n)) (hn : n < 2 ^ 62) (q : Q (.int (n : Nat)) H) : rLenSet w [.ref a] H Q := ⟨a, S, n, rfl, s, hn, q⟩
theorem x_sortSet {a : Addr} {ns : List Int} {n : Nat} (s : H a = some (SetO w a (fun j => decide (j ∈ ns)) n)) (hn : n < 64)
    (q : ∀ (ks : List Int) (p : Addr), ks.Pairwise (· < ·) → (∀ k : Int, k ∈ ks ↔ k ∈ ns) → ks.length = n → H p = none → Q (.ref p) (upd H p (.lst (ks.map V.int)))) : rSortedSet w [.ref a] H Q :=
  ⟨a, _, n, rfl, s, hn, fun ks p h1 h2 h3 h4 => q ks p h1 (fun k => (h2 k).trans decide_eq_true_iff) h3 h4⟩
end
end My

end

section
/-! ### dicts of ints to True; repr of an empty dict; classes that may raise when made -/
namespace My
open PySem PySem.Spec PyProof.Rows L2
/-- the dict of these keys, each True -/
def Kt (ns : List Int) : List (Key × V) := ns.map fun n => (Sum.inl n, V.bl true)
def add (ns : List Int) (n : Int) : List Int := if n ∈ ns then ns else ns ++ [n]
theorem Kt_keys (ns : List Int) : (Kt ns).map (·.1) = ns.map Sum.inl := by unfold Kt; rw [List.map_map]; rfl
theorem Kt_len (ns : List Int) : (Kt ns).length = ns.length := List.length_map ..
theorem Kt_val (ns : List Int) (n : Int) : valV (Kt ns) (Sum.inl n) = if n ∈ ns then some (.bl true) else none := by
  induction ns with
  | nil => rfl
  | cons m r ih =>
    by_cases h : m = n
    · subst h
      rw [if_pos List.mem_cons_self]
      exact valV_pos rfl
    · show valV ((Sum.inl m, V.bl true) :: Kt r) (Sum.inl n) = _
      rw [valV_neg (fun z => h (Sum.inl.inj z)), ih]
      have : n ∈ m :: r ↔ n ∈ r := by
        rw [List.mem_cons]
        exact ⟨fun z => z.elim (fun z => absurd z.symm h) id, .inr⟩
      simp only [this]
theorem Kt_any (ns : List Int) (n : Int) : ((Kt ns).any fun kv => decide (kv.1 = Sum.inl n)) = decide (n ∈ ns) := by
  unfold Kt
  rw [List.any_map, Bool.eq_iff_iff, List.any_eq_true, decide_eq_true_eq]
  constructor
  · rintro ⟨m, hm, e⟩
    have : (Sum.inl m : Key) = Sum.inl n := of_decide_eq_true e
    cases this
    exact hm
  · intro h
    exact ⟨n, h, decide_eq_true rfl⟩
theorem Kt_put (ns : List Int) (n : Int) : putK (Kt ns) (Sum.inl n) (.bl true) = Kt (add ns n) := by
  unfold putK add
  rw [Kt_any]
  by_cases h : n ∈ ns
  · rw [if_pos (decide_eq_true h), if_pos h]
    unfold Kt
    rw [List.map_map]
    refine List.map_congr_left fun m _ => ?_
    show (if (Sum.inl m : Key) = Sum.inl n then (Sum.inl m, V.bl true) else (Sum.inl m, V.bl true)) = _
    split <;> rfl
  · rw [if_neg (by rw [decide_eq_true_eq]; exact h), if_neg h]
    unfold Kt
    rw [List.map_append]
    rfl
theorem add_mem (ns : List Int) (n x : Int) : x ∈ add ns n ↔ x ∈ ns ∨ x = n := mem_put n x
theorem add_nodup {ns : List Int} (h : ns.Nodup) (n : Int) : (add ns n).Nodup := nodup_put h n
theorem add_len (ns : List Int) (n : Int) : (add ns n).length ≤ ns.length + 1 := by
  unfold add
  split
  · omega
  · rw [List.length_append, List.length_singleton]; omega
theorem hits_kt {A : Around} {s : Shared} {ns : List Int} {vb : List (Key × Value)} (rb : KV (Kt ns) vb) : ∀ {ms : List Int} {va : List (Key × Value)}, KV (Kt ms) va → PySem.W.KeqHits A s vb va (decide (∀ m ∈ ms, m ∈ ns)) := by
  intro ms
  induction ms with
  | nil =>
    intro va ra
    cases ra
    have : decide (∀ m ∈ ([] : List Int), m ∈ ns) = true := decide_eq_true (fun m h => nomatch h)
    rw [this]
    exact .nil
  | cons m r ih =>
    intro va ra
    cases ra with
    | @cons p q ps qs h t =>
      obtain ⟨h1, h2⟩ := h
      obtain ⟨k, v⟩ := q
      obtain rfl : Sum.inl m = k := h1
      have rv : RelV (.bl true) v := h2
      have look : RelO (valV (Kt ns) (Sum.inl m)) (valueAt vb (Sum.inl m)) := rb.val _
      rw [Kt_val] at look
      by_cases hm : m ∈ ns
      · rw [if_pos hm] at look
        obtain ⟨y, hy, ry⟩ := look.some_of
        have e : decide (∀ x ∈ m :: r, x ∈ ns) = (true && decide (∀ x ∈ r, x ∈ ns)) := by
          rw [Bool.true_and]
          exact decide_eq_decide.mpr ⟨fun z x hx => z x (List.mem_cons_of_mem _ hx), fun z x hx => (List.mem_cons.mp hx).elim (fun e => e ▸ hm) (z x)⟩
        rw [e]
        exact .hit hy (eqAt_same rv ry rfl) (ih t)
      · rw [if_neg hm] at look
        have hn : valueAt vb (Sum.inl m) = none := by
          cases z : valueAt vb (Sum.inl m) with
          | none => rfl
          | some y => rw [z] at look; exact False.elim look
        have e : decide (∀ x ∈ m :: r, x ∈ ns) = false := decide_eq_false fun z => hm (z m List.mem_cons_self)
        rw [e]
        exact .miss hn
section
variable {X : Cx}
/-- a == b, dicts of ints to True -/
def rEqKt : R2 := fun x y H Q => ∃ a b ms ns, x = .ref a ∧ y = .ref b ∧ H a = some (.dK (Kt ms)) ∧ H b = some (.dK (Kt ns)) ∧ Q (.bl (decide (ms.length = ns.length ∧ ∀ m ∈ ms, m ∈ ns))) H
theorem op_eqKt (hu : X.A.units < cLine) : OpR X (compareOp .Eq) rEqKt := by
  intro pins s σ H x y v u Q I rx ry h
  obtain ⟨a, b, ms, ns, rfl, rfl, ea, eb, q⟩ := h
  obtain rfl : v = Value.ref a := rx
  obtain rfl : u = Value.ref b := ry
  obtain ⟨_, ya, va, ra, da⟩ := (show ObjOk X.prog X.w H s.heap a (.dK (Kt ms)) from I.hok a _ ea)
  obtain ⟨_, yb, vb, rb, db⟩ := (show ObjOk X.prog X.w H s.heap b (.dK (Kt ns)) from I.hok b _ eb)
  have h1 : va.length = ms.length := ra.length.symm.trans (Kt_len ms)
  have h2 : vb.length = ns.length := rb.length.symm.trans (Kt_len ns)
  refine PySem.W.keq_eq (knd := mixKind X.prog X.w) (r := decide (∀ m ∈ ms, m ∈ ns)) ya yb da db hu (fun _ => hits_kt rb ra) (fin_bl I q ?_)
  rw [h1, h2, Bool.eq_iff_iff]
  simp
theorem x_eqKt {H : Hp} {Q : VK} {a b : Addr} {ms ns : List Int} (h : H a = some (.dK (Kt ms))) (h' : H b = some (.dK (Kt ns))) (q : Q (.bl (decide (ms.length = ns.length ∧ ∀ m ∈ ms, m ∈ ns))) H) : rEqKt (.ref a) (.ref b) H Q := ⟨a, b, ms, ns, rfl, rfl, h, h', q⟩
/-- repr of an empty dict -/
def rReprE : List V → Hp → VK → Prop := fun xs H Q => ∃ a, xs = [.ref a] ∧ H a = some (.dK []) ∧ Q (.str ("{}" : Str)) H
theorem call_reprE (hg0 : X.A.guards = some []) (hu : X.A.units + 100 < cLine) : CallR X (.builtin "repr") rReprE := by
  intro pins s σ H xs us Q I r h
  obtain ⟨a, rfl, ha, q⟩ := h
  rw [Vals.ref1 r]
  obtain ⟨_, ya, va, ra, o, es, ep, h1, ⟨hc, _⟩, hd, _, hz, _⟩ := (show ObjOk X.prog X.w H s.heap a (.dK []) from I.hok a _ ha)
  cases ra
  have e : es.toList = [] := by
    cases q : es.toList with
    | nil => rfl
    | cons b r => rw [q] at hz; cases hz
  have rd : Reads s.heap (.ref a) (.dict []) (a :: [] ++ []) := Reads.dict h1 hc hd (by rw [e]; exact ReadsAll.nil) (by rw [e]; exact ReadsAll.nil)
  refine repr_of_reads' rd rfl (fun _ hm => ?_) hg0 (by show X.A.units + (_ + 1) < cLine; exact Nat.lt_of_le_of_lt (Nat.add_le_add_left (by decide) _) hu) (fun _ _ e => e) (fun h' u' tk k => ⟨.str _, H, I.kept k, ⟨_, rfl⟩, q⟩) (Nat.le_of_ble_eq_true rfl)
  have : sysModules = a := by simpa using hm
  rw [this] at ya
  simp at ya
/-- either -/
def rReprB (K : PySem.W.Frag) : List V → Hp → VK → Prop := fun xs H Q => rRepr K xs H Q ∨ rReprE xs H Q
/-! a class that may raise when made -/
structure Mx (P : Program) (w : World) (K : PySem.W.Frag) (mg : Str → Option Value) (base : Heap) (CX : CXT) (x : Str) (ps : List Str) (k : Nat) (sp : Sp) (dvs : List V) : Prop where
  ex : ∃ f fd ds, Mk K (He.ga K x) f ∧ FnOk P w K mg base CX k f fd ps sp ∧ Binds K fd ps ds ∧ Vals dvs ds
  g : mg x = some (.ref (He.ga K x))
variable {CX : CXT} {k : Nat} {ps : List Str} {sp : Sp} {dvs : List V} {E : XK} {x : Str} {p pos : Pos} {e : Expr} {es : List Expr} {t : TA}
theorem pe_mx (M : Mx X.prog X.w X.K X.mg X.base CX x ps k sp dvs) (hr : Room (k + 1) X.A) (hg : Gl X x) (hx : Passes CX X E)
    (ha : PA X (e :: es) t) (hdb : (x == ("__debug__" : Str)) = false := by decide) (he : starEach (e :: es) X.env = (false, eval e X.env) :: starEach es X.env := by rfl) (hpl : (backTo pos (starEach es X.env)).any (·.1) = false := by rfl) :
    PE X (.Call (.Name x p) (e :: es) [] pos) (tMake (He.ga X.K x) sp dvs E t) := by
  obtain ⟨f, fd, ds, m, F, b, d⟩ := M.ex
  exact pe_make m F hr hg M.g b d hx ha hdb he hpl
theorem pe_mx0 (M : Mx X.prog X.w X.K X.mg X.base CX x ps k sp dvs) (hr : Room (k + 1) X.A) (hg : Gl X x) (hx : Passes CX X E)
    (hdb : (x == ("__debug__" : Str)) = false := by decide) : PE X (.Call (.Name x p) [] [] pos) (tMake (He.ga X.K x) sp dvs E tNil) := by
  obtain ⟨f, fd, ds, m, F, b, d⟩ := M.ex
  exact pe_make0 m F hr hg M.g b d hx hdb
/-- what a call lets out where it must let out none -/
theorem passF : Passes (L2.CX X.prog X.w) X E0 := passes_call takes0 fun _ _ _ _ h => h
/-- .. where W takes it, whatever stands in the n slots -/
def WL (n : Nat) (W : WX) : XK := fun c d H => ∀ σ : L2.St, σ.length = n → W c d σ H
theorem passL {W : WX} (tk : Takes X W) : Passes (L2.CX X.prog X.w) X (WL X.N.length W) := fun _ σ _ _ e s' I c => tk e s' (XE.of_call I (fun _ _ _ h => h σ I.len) c)
end
end My

end

section
/-! ### more steps: raising, tuples walked, isinstance read by kinds -/
namespace My
open PySem PySem.Spec PyProof.Rows L2
section
variable {σ : L2.St} {H : Hp} {Q : VK} {nx bk ct : L2.St → Hp → Prop} {rt : VK} {te to : TE} {ta : TA} {K : PySem.W.Frag} {x f : Str} {v : V}
theorem x_mkO {C : Addr} {sp : Sp} {dvs : List V} {Q : XK} (h : ta σ H fun vs H1 => vs.length ≤ 1000 ∧ ∀ a, H1 a = none → sp (.ref a :: (vs ++ dvs)) (upd H1 a (exo a C none))
  (fun v H2 => v = .non ∧ ∃ (d : Addr) (fs : List (Str × V)), H2 a = some (exo a C (some d)) ∧ H2 d = some (exd d fs) ∧ H1 d = none ∧ Q (.ref C) (some d) (upd (del H2 a) d (.xd fs))) (fun _ _ _ => False)) : tMkO C sp dvs ta σ H Q := h
/-- an exception with one field is made and raised -/
theorem x_mk1 {Q : XK} (h : ∀ d, H d = none → Q (.ref (He.ga K x)) (some d) (upd H d (.xd [(f, v)]))) : [v].length ≤ 1000 ∧ ∀ a, H a = none → sp_exc K x f (.ref a :: ([v] ++ [])) (upd H a (exo a (He.ga K x) none))
  (fun v H2 => v = .non ∧ ∃ (d : Addr) (fs : List (Str × V)), H2 a = some (exo a (He.ga K x) (some d)) ∧ H2 d = some (exd d fs) ∧ H d = none ∧ Q (.ref (He.ga K x)) (some d) (upd (del H2 a) d (.xd fs))) (fun _ _ _ => False) := by
  refine ⟨Nat.le_of_ble_eq_true rfl, fun a ha => ⟨a, v, rfl, upd_same, fun dx hdx hne => ?_⟩⟩
  have hd : H dx = none := (upd_ne hne).symm.trans hdx
  refine ⟨rfl, dx, [(f, v)], upd_same, by rw [upd_ne hne, upd_same], hd, ?_⟩
  have e : upd (del (upd (upd (upd H a (exo a (He.ga K x) none)) dx (exd dx [(f, v)])) a (exo a (He.ga K x) (some dx))) a) dx (.xd [(f, v)]) = upd H dx (.xd [(f, v)]) := by
    funext b
    by_cases h1 : b = dx
    · subst h1; rw [upd_same, upd_same]
    · rw [upd_ne h1, upd_ne h1]
      by_cases h2 : b = a
      · subst h2; rw [del_same, ha]
      · rw [del_ne h2, upd_ne h2, upd_ne h1, upd_ne h2]
  rw [e]
  exact h dx hd
theorem x_nF {A B : Prop} (h : A) : if (!false) = true then A else B := iteT h
theorem x_nT {A B : Prop} (h : B) : if (!true) = true then A else B := iteF h
theorem x_itup {R} (h : te σ H fun x H1 => ∃ a, x = .ref a ∧ (∃ xs, SqT K H1 a xs) ∧ R (Itt K a) H1) : iTup K te σ H R := h
theorem x_itupE {a : Addr} {xs : List V} {R : Addr → Prop} (s : SqT K H a xs) (h : R a) : ∃ b, V.ref a = .ref b ∧ (∃ xs, SqT K H b xs) ∧ R b := ⟨a, rfl, ⟨xs, s⟩, h⟩
theorem x_ost {f : Str} (h : te σ H fun y H1 => to σ H1 fun x H2 => ∃ a C : Addr, x = .ref a ∧ OexC K C ∧ PySem.W.findIn K (.ref C) f = some none ∧
  ((H2 a = some (exo a C none) ∧ ∀ dx, H2 dx = none → dx ≠ a → nx σ (upd (upd H2 dx (exd dx [(f, y)])) a (exo a C (some dx)))) ∨
    ∃ (dx : Addr) (fs : List (Str × V)), H2 a = some (exo a C (some dx)) ∧ H2 dx = some (exd dx fs) ∧ fs.length ≤ 900 ∧ nx σ (upd H2 dx (exd dx ((f, y) :: fs))))) : tOst K f to te ⟨nx, rt, bk, ct⟩ σ H := h
end
section
variable {K : PySem.W.Frag} {H H' : Hp}
theorem tyx_same {x : V} {t : Value} (h : TyX K H x t) (s : Same H H') : TyX K H' x t := by
  cases h with
  | base b =>
    refine .base ?_
    cases b with
    | non => exact .non
    | bl b => exact .bl b
    | int b => exact .int b
    | str b => exact .str b
    | flt b => exact .flt b
    | lst e => exact .lst (s _ _ e)
    | frz e => exact .frz (s _ _ e)
    | tup e => exact .tup (s _ _ e)
    | dK e => exact .dK (s _ _ e)
    | dT e => exact .dT (s _ _ e)
    | ins e cl ha hn htk hm => exact .ins (s _ _ e) cl ha hn htk hm
  | byt b => exact .byt b
  | set e => exact .set (s _ _ e)
  | kList e c => exact .kList e c
  | kTuple e c => exact .kTuple e c
  | kDict e c => exact .kDict e c
  | fTuple e => exact .fTuple (s _ _ e)
  | fDict e => exact .fDict (s _ _ e)
theorem sql_ty {a : Addr} {xs : List V} (h : SqL K H a xs) : TyX K H (.ref a) (.type "list") := by
  rcases h with (e | ⟨o, e⟩) | ⟨o, its, n, e, c, _⟩
  · exact .base (.lst e)
  · exact .base (.frz e)
  · exact .kList e c
theorem sqt_ty {a : Addr} {xs : List V} (h : SqT K H a xs) : TyX K H (.ref a) (.type "tuple") := by
  rcases h with (e | ⟨o, e⟩) | ⟨o, its, n, e, c, _⟩
  · exact .base (.tup e)
  · exact .fTuple e
  · exact .kTuple e c
theorem pe_fldK {X : Cx} {K : PySem.W.Frag} {e : Expr} {ta : TE} {f : Str} {pos : Pos} (hK : X.K = K) (he : PE X e ta) (hb : attributeBase e f X.env (eval e X.env) = eval e X.env) : PE X (.Attribute e f pos) (tFld K ta f) := by
  subst hK
  exact pe_fld he hb
/-- no int, or a bool -/
def NoInt (K : PySem.W.Frag) (H : Hp) (v : V) : Prop := ∃ t, TyX K H v t ∧ (PySem.W.kitOne K t (.type "int") = some false ∨ (PySem.W.kitOne K t (.type "int") = some true ∧ PySem.W.kitOne K t (.type "bool") = some true))
theorem NoInt.same {v : V} (h : NoInt K H v) (s : Same H H') : NoInt K H' v := by
  obtain ⟨t, ht, k⟩ := h
  exact ⟨t, tyx_same ht s, k⟩
end
end My

end

section
local macro_rules | `(tactic| walk_at "ne") => `(tactic| first | assumption | (apply Ne.symm; assumption) | exact L2.ne_of_none (by assumption) (by assumption) | exact (L2.ne_of_none (by assumption) (by assumption)).symm)
local macro_rules | `(tactic| walk_at "hp") => `(tactic| first | assumption | exact L2.upd_same | (rw [L2.upd_ne (by walk_at "ne")]; walk_at "hp"))
local macro_rules | `(tactic| walk_at "sq") => `(tactic| first | assumption | exact L2.SqL.of (by walk_at "hp") | exact My.sq_new (by walk_at "sq") (by assumption))
local macro_rules | `(tactic| walk_at "sd") => `(tactic| first | decide | omega | (unfold L2.CDivN; omega) | (unfold L2.CMul; omega) | (unfold L2.CPow; omega))
local macro_rules | `(tactic| walk_at "sx1") => `(tactic| first | with_reducible refine My.x_seq ?_ | with_reducible refine My.x_asg ?_ | with_reducible refine My.x_ret ?_ | with_reducible refine My.x_next ?_ | with_reducible refine My.x_op ?_ | with_reducible refine My.x_c ?_ | with_reducible refine My.x_ifs ?_ | with_reducible refine My.x_test ?_ | with_reducible refine My.x_exbl ?_ | with_reducible refine My.x_cons ?_ | with_reducible refine My.x_nil ?_ | with_reducible refine My.x_cb ?_ | with_reducible refine My.x_drop ?_ | with_reducible refine My.x_par ?_ | with_reducible refine My.x_exp2 ?_ | with_reducible refine My.x_aug ?_ | with_reducible refine My.x_if ?_ | with_reducible refine My.x_tB ?_ | with_reducible refine My.x_and ?_ | with_reducible refine My.x_or ?_ | with_reducible refine My.x_not ?_ | with_reducible refine My.x_retn ?_ | with_reducible refine My.x_cont ?_ | with_reducible refine My.x_brk ?_ | with_reducible refine My.x_un ?_ | with_reducible refine My.x_tfor ?_ | with_reducible refine My.x_ilist ?_ | with_reducible refine My.x_rng1 ?_ | with_reducible refine My.x_rng2 ?_ | with_reducible refine My.x_r1 ?_ | with_reducible refine My.x_call ?_ | with_reducible refine My.x_sl ?_ | with_reducible refine My.x_part ?_ | with_reducible refine My.x_nopart ?_ | with_reducible refine My.x_ii0 ?_ | with_reducible refine My.x_yes ?_ | with_reducible refine My.x_andv ?_ | with_reducible refine My.x_orv ?_ | with_reducible refine My.x_notv ?_ | with_reducible refine My.x_iT ?_ | with_reducible refine My.x_iF ?_ | with_reducible refine My.x_chain ?_ | with_reducible refine My.x_exI ?_ | with_reducible refine My.x_wipe ?_ | with_reducible refine My.x_bm ?_ | with_reducible refine My.x_bm0 ?_ | with_reducible refine My.x_gsub ?_ | with_reducible refine My.x_int1 ?_ | with_reducible refine My.x_two ?_ | with_reducible refine My.x_lst ?_ | with_reducible refine My.x_tup ?_ | with_reducible refine My.x_revL ?_ | with_reducible refine My.x_dput ?_ | with_reducible refine My.x_dget ?_ | with_reducible refine My.x_dnew ?_ | with_reducible refine My.x_dc ?_ | with_reducible refine My.x_lc ?_ | with_reducible refine My.x_ienum ?_ | with_reducible refine My.x_gcons ?_ | with_reducible refine My.x_gnil ?_ | with_reducible refine My.x_v0 ?_ | with_reducible refine My.x_v1 ?_ | with_reducible refine My.x_v2 ?_ | with_reducible refine My.x_v3 ?_ | with_reducible refine My.x_v4 ?_ | with_reducible refine My.x_v5 ?_ | with_reducible refine My.x_v6 ?_ | with_reducible refine My.x_v7 ?_ | with_reducible refine My.x_v8 ?_ | with_reducible refine My.x_v9 ?_ | with_reducible refine My.x_v10 ?_ | with_reducible refine My.x_v11 ?_ | with_reducible refine My.x_v12 ?_ | with_reducible refine My.x_v13 ?_ | with_reducible refine My.x_v14 ?_ | with_reducible refine My.x_v15 ?_ | with_reducible refine My.x_v16 ?_ | with_reducible refine My.x_v17 ?_ | with_reducible refine My.x_v18 ?_ | with_reducible refine My.x_v19 ?_ | with_reducible refine My.x_v20 ?_ | with_reducible refine My.x_v21 ?_ | with_reducible refine My.x_v22 ?_ | with_reducible refine My.x_v23 ?_ | with_reducible refine My.x_v24 ?_ | with_reducible refine My.x_v25 ?_ | with_reducible refine My.x_g0 ?_ | with_reducible refine My.x_g1 ?_ | with_reducible refine My.x_g2 ?_ | with_reducible refine My.x_g3 ?_ | with_reducible refine My.x_g4 ?_ | with_reducible refine My.x_g5 ?_ | with_reducible refine My.x_g6 ?_ | with_reducible refine My.x_g7 ?_ | with_reducible refine My.x_g8 ?_ | with_reducible refine My.x_g9 ?_ | with_reducible refine My.x_g10 ?_ | with_reducible refine My.x_g11 ?_ | with_reducible refine My.x_g12 ?_ | with_reducible refine My.x_g13 ?_ | with_reducible refine My.x_g14 ?_ | with_reducible refine My.x_g15 ?_ | with_reducible refine My.x_g16 ?_ | with_reducible refine My.x_g17 ?_ | with_reducible refine My.x_g18 ?_ | with_reducible refine My.x_g19 ?_ | with_reducible refine My.x_g20 ?_ | with_reducible refine My.x_g21 ?_ | with_reducible refine My.x_g22 ?_ | with_reducible refine My.x_g23 ?_ | with_reducible refine My.x_g24 ?_ | with_reducible refine My.x_g25 ?_)
local macro_rules | `(tactic| walk_at "sx") => `(tactic| repeat (walk_at "sx1"))
local macro_rules | `(tactic| walk_at "ln") => `(tactic| first | assumption | exact Nat.le_of_ble_eq_true rfl | (simp only [List.length_append, List.length_map, List.length_cons, List.length_nil]; simp only [PySem.sizeLine]; omega))
local macro_rules | `(tactic| walk_at "st") => `(tactic| first | assumption | exact L2.SqT.of (by walk_at "hp"))
local macro_rules | `(tactic| walk_at "go1") => `(tactic| first | walk_at "sx1" | ((with_reducible refine' My.x_ixL ?x0 ?x1 ?x2); (case x0 => walk_at "sq"); (case x1 => exact rfl)) | ((with_reducible refine' My.x_ixT ?x0 ?x1 ?x2); (case x0 => walk_at "st"); (case x1 => exact rfl)) | ((with_reducible refine' My.x_i ?x0 ?x1); (case x0 => walk_at "sd")) | ((with_reducible refine' My.x_setL ?x0 ?x1 ?x2); (case x0 => walk_at "hp"); (case x1 => exact rfl)) | ((with_reducible refine' My.x_len ?x0 ?x1); (case x0 => walk_at "sq")) | ((with_reducible refine' My.x_lenT ?x0 ?x1); (case x0 => walk_at "st")) | ((with_reducible refine' My.x_lenD ?x0 ?x1); (case x0 => walk_at "hp")) | ((with_reducible refine' My.x_append ?x0 ?x1 ?x2); (case x0 => walk_at "hp"); (case x1 => walk_at "ln")) | ((with_reducible refine' My.x_tyL ?x0 ?x1); (case x0 => walk_at "hp")) | ((with_reducible refine' My.x_ilistE ?x0 ?x1); (case x0 => walk_at "sq")) | ((with_reducible refine' My.x_ienumE ?x0 ?x1); (case x0 => walk_at "sq")) | ((with_reducible refine' My.x_sortI ?x0 ?x1); (case x0 => walk_at "sq")) | ((with_reducible refine' My.x_slL ?x0 ?x1); (case x0 => walk_at "sq")) | ((with_reducible refine' My.x_revL2 ?x0 ?x1); (case x0 => walk_at "sq")) | ((with_reducible refine' My.x_eq ?x0 ?x1); (case x0 => exact rfl)) | ((with_reducible refine' My.x_ne ?x0 ?x1); (case x0 => exact rfl)) | ((with_reducible refine' My.x_dputI ?x0 ?x1 ?x2); (case x0 => walk_at "hp"); (case x1 => walk_at "ln")) | ((with_reducible refine' My.x_dputS ?x0 ?x1 ?x2); (case x0 => walk_at "hp"); (case x1 => walk_at "ln")) | ((with_reducible refine' My.x_seqof ?x0 ?x1); (case x0 => walk_at "sq")) | ((with_reducible refine' My.x_gtup ?x0 ?x1 ?x2); (case x0 => walk_at "st"); (case x1 => exact rfl)) | ((with_reducible refine' My.x_mem1 ?x0 ?x1); (case x0 => walk_at "ln")))
local macro_rules | `(tactic| walk_at "go") => `(tactic| repeat (walk_at "go1"))
local macro_rules | `(tactic| walk_at "sx1") => `(tactic| first | with_reducible refine My.x_fld ?_ | with_reducible refine My.x_sfld ?_ | with_reducible refine My.x_meth ?_ | with_reducible refine My.x_make ?_ | with_reducible refine My.x_din ?_ | with_reducible refine My.x_dnin ?_ | with_reducible refine My.x_ikeys ?_ | with_reducible refine My.x_itup ?_ | with_reducible refine My.x_mkO ?_ | with_reducible refine My.x_vei ?_ | with_reducible refine My.x_ost ?_ | with_reducible refine My.x_nF ?_ | with_reducible refine My.x_nT ?_)
local macro_rules | `(tactic| walk_at "go1") => `(tactic| first | ((with_reducible refine' My.x_fldE ?x0 ?x1 ?x2 ?x3 ?x4); (case x0 => walk_at "hp"); (case x1 => assumption); (case x2 => assumption); (case x3 => exact rfl)) | ((with_reducible refine' My.x_sfldE ?x0 ?x1 ?x2 ?x3 ?x4 ?x5); (case x0 => walk_at "hp"); (case x1 => assumption); (case x2 => assumption); (case x3 => decide); (case x4 => exact rfl)) | ((with_reducible refine' My.x_methE ?x0 ?x1 ?x2); (case x0 => walk_at "hp"); (case x1 => exact rfl)) | ((with_reducible refine' My.x_itupE ?x0 ?x1); (case x0 => walk_at "st")))
namespace K41
open PySem PySem.Spec PyProof.Rows L2
def top (i : Nat) : Stmt := PySem.Challenge.pw_livevolumes_k41_sets_of_blocks.main.body.getD i (.Pass ⟨0, 0, 0, 0⟩)
abbrev s_InvalidBlock_init : Stmt := inClass (top 1) 0
theorem sc_InvalidBlock_init : FnScope ["self", "value"] ["self", "value"] (defScope s_InvalidBlock_init) := ⟨rfl, rfl, rfl, by decide +kernel, rfl, by decide +kernel, by decide +kernel⟩
def d_InvalidBlock_init : He.DefD := ⟨("InvalidBlock", some "__init__"), "__init__", "InvalidBlock.__init__", defArgs s_InvalidBlock_init, defBody s_InvalidBlock_init, defScope s_InvalidBlock_init, [], []⟩
abbrev s_is_between : Stmt := top 3
theorem sc_is_between : FnScope ["value", "least", "most"] ["value", "least", "most"] (defScope s_is_between) := ⟨rfl, rfl, rfl, by decide +kernel, rfl, by decide +kernel, by decide +kernel⟩
def d_is_between : He.DefD := ⟨("is_between", none), "is_between", "is_between", defArgs s_is_between, defBody s_is_between, defScope s_is_between, [], []⟩
abbrev s_Blocks_init : Stmt := inClass (top 6) 0
theorem sc_Blocks_init : FnScope ["self", "numbers", "number"] ["self", "numbers"] (defScope s_Blocks_init) := ⟨rfl, rfl, rfl, by decide +kernel, rfl, by decide +kernel, by decide +kernel⟩
def d_Blocks_init : He.DefD := ⟨("Blocks", some "__init__"), "__init__", "Blocks.__init__", defArgs s_Blocks_init, defBody s_Blocks_init, defScope s_Blocks_init, [.adr (He.dflAt ("Blocks", some "__init__") 0)], []⟩
abbrev s_Blocks_listed : Stmt := inClass (top 6) 1
theorem sc_Blocks_listed : FnScope ["self"] ["self"] (defScope s_Blocks_listed) := ⟨rfl, rfl, rfl, by decide +kernel, rfl, by decide +kernel, by decide +kernel⟩
def d_Blocks_listed : He.DefD := ⟨("Blocks", some "listed"), "listed", "Blocks.listed", defArgs s_Blocks_listed, defBody s_Blocks_listed, defScope s_Blocks_listed, [], []⟩
abbrev s_Blocks_within : Stmt := inClass (top 6) 2
theorem sc_Blocks_within : FnScope ["self", "other", "number"] ["self", "other"] (defScope s_Blocks_within) := ⟨rfl, rfl, rfl, by decide +kernel, rfl, by decide +kernel, by decide +kernel⟩
def d_Blocks_within : He.DefD := ⟨("Blocks", some "within"), "within", "Blocks.within", defArgs s_Blocks_within, defBody s_Blocks_within, defScope s_Blocks_within, [], []⟩
abbrev s_Blocks_len : Stmt := inClass (top 6) 3
theorem sc_Blocks_len : FnScope ["self"] ["self"] (defScope s_Blocks_len) := ⟨rfl, rfl, rfl, by decide +kernel, rfl, by decide +kernel, by decide +kernel⟩
def d_Blocks_len : He.DefD := ⟨("Blocks", some "__len__"), "__len__", "Blocks.__len__", defArgs s_Blocks_len, defBody s_Blocks_len, defScope s_Blocks_len, [], []⟩
abbrev s_Blocks_contains : Stmt := inClass (top 6) 5
theorem sc_Blocks_contains : FnScope ["self", "number"] ["self", "number"] (defScope s_Blocks_contains) := ⟨rfl, rfl, rfl, by decide +kernel, rfl, by decide +kernel, by decide +kernel⟩
def d_Blocks_contains : He.DefD := ⟨("Blocks", some "__contains__"), "__contains__", "Blocks.__contains__", defArgs s_Blocks_contains, defBody s_Blocks_contains, defScope s_Blocks_contains, [], []⟩
abbrev s_Blocks_and : Stmt := inClass (top 6) 6
theorem sc_Blocks_and : FnScope ["self", "other", "number"] ["self", "other"] (defScope s_Blocks_and) := ⟨rfl, rfl, rfl, by decide +kernel, rfl, by decide +kernel, by decide +kernel⟩
def d_Blocks_and : He.DefD := ⟨("Blocks", some "__and__"), "__and__", "Blocks.__and__", defArgs s_Blocks_and, defBody s_Blocks_and, defScope s_Blocks_and, [], []⟩
abbrev s_Blocks_or : Stmt := inClass (top 6) 7
theorem sc_Blocks_or : FnScope ["self", "other"] ["self", "other"] (defScope s_Blocks_or) := ⟨rfl, rfl, rfl, by decide +kernel, rfl, by decide +kernel, by decide +kernel⟩
def d_Blocks_or : He.DefD := ⟨("Blocks", some "__or__"), "__or__", "Blocks.__or__", defArgs s_Blocks_or, defBody s_Blocks_or, defScope s_Blocks_or, [], []⟩
abbrev s_Blocks_sub : Stmt := inClass (top 6) 8
theorem sc_Blocks_sub : FnScope ["self", "other", "number"] ["self", "other"] (defScope s_Blocks_sub) := ⟨rfl, rfl, rfl, by decide +kernel, rfl, by decide +kernel, by decide +kernel⟩
def d_Blocks_sub : He.DefD := ⟨("Blocks", some "__sub__"), "__sub__", "Blocks.__sub__", defArgs s_Blocks_sub, defBody s_Blocks_sub, defScope s_Blocks_sub, [], []⟩
abbrev s_Blocks_xor : Stmt := inClass (top 6) 9
theorem sc_Blocks_xor : FnScope ["self", "other", "mine", "number"] ["self", "other"] (defScope s_Blocks_xor) := ⟨rfl, rfl, rfl, by decide +kernel, rfl, by decide +kernel, by decide +kernel⟩
def d_Blocks_xor : He.DefD := ⟨("Blocks", some "__xor__"), "__xor__", "Blocks.__xor__", defArgs s_Blocks_xor, defBody s_Blocks_xor, defScope s_Blocks_xor, [], []⟩
abbrev s_Blocks_eq : Stmt := inClass (top 6) 10
theorem sc_Blocks_eq : FnScope ["self", "other"] ["self", "other"] (defScope s_Blocks_eq) := ⟨rfl, rfl, rfl, by decide +kernel, rfl, by decide +kernel, by decide +kernel⟩
def d_Blocks_eq : He.DefD := ⟨("Blocks", some "__eq__"), "__eq__", "Blocks.__eq__", defArgs s_Blocks_eq, defBody s_Blocks_eq, defScope s_Blocks_eq, [], []⟩
abbrev s_law_pool : Stmt := top 8
theorem sc_law_pool : FnScope ["_law_script", "_law_k", "_law_cell", "_law_seed"] ["_law_script", "_law_k"] (defScope s_law_pool) := ⟨rfl, rfl, rfl, by decide +kernel, rfl, by decide +kernel, by decide +kernel⟩
def d_law_pool : He.DefD := ⟨("_law_pool", none), "_law_pool", "_law_pool", defArgs s_law_pool, defBody s_law_pool, defScope s_law_pool, [], []⟩
abbrev s_law_draw : Stmt := top 9
theorem sc_law_draw : FnScope ["_law_pool_here", "_law_many", "_law_digit"] ["_law_pool_here", "_law_many"] (defScope s_law_draw) := ⟨rfl, rfl, rfl, by decide +kernel, rfl, by decide +kernel, by decide +kernel⟩
def d_law_draw : He.DefD := ⟨("_law_draw", none), "_law_draw", "_law_draw", defArgs s_law_draw, defBody s_law_draw, defScope s_law_draw, [], []⟩
abbrev s_law_numbers : Stmt := top 10
theorem sc_law_numbers : FnScope ["_law_pool_here", "_law_most", "_law_turn"] ["_law_pool_here"] (defScope s_law_numbers) := ⟨rfl, rfl, rfl, by decide +kernel, rfl, by decide +kernel, by decide +kernel⟩
def d_law_numbers : He.DefD := ⟨("_law_numbers", none), "_law_numbers", "_law_numbers", defArgs s_law_numbers, defBody s_law_numbers, defScope s_law_numbers, [], []⟩
abbrev s_law_told : Stmt := top 11
theorem sc_law_told : FnScope ["_law_values", "e"] ["_law_values"] (defScope s_law_told) := ⟨rfl, rfl, rfl, by decide +kernel, rfl, by decide +kernel, by decide +kernel⟩
def d_law_told : He.DefD := ⟨("_law_told", none), "_law_told", "_law_told", defArgs s_law_told, defBody s_law_told, defScope s_law_told, [], []⟩
abbrev s_law_pair_right : Stmt := top 12
theorem sc_law_pair_right : FnScope ["_law_left", "_law_right", "_law_one", "_law_other", "_law_same", "_law_rest", "_law_more", "_law_number"] ["_law_left", "_law_right"] (defScope s_law_pair_right) := ⟨rfl, rfl, rfl, by decide +kernel, rfl, by decide +kernel, by decide +kernel⟩
def d_law_pair_right : He.DefD := ⟨("_law_pair_right", none), "_law_pair_right", "_law_pair_right", defArgs s_law_pair_right, defBody s_law_pair_right, defScope s_law_pair_right, [], []⟩
abbrev s_law : Stmt := top 13
theorem sc_law : FnScope ["_law_script", "_law_k", "_law_pool_here", "_law_left", "_law_right", "_law_found", "_law_kept", "_law_odd", "_law_values"] ["_law_script"] (defScope s_law) := ⟨rfl, rfl, rfl, by decide +kernel, rfl, by decide +kernel, by decide +kernel⟩
def d_law : He.DefD := ⟨("law", none), "law", "law", defArgs s_law, defBody s_law, defScope s_law, [], []⟩
abbrev Fd (K : PySem.W.Frag) (d : He.DefD) (fd : FuncData) : Prop := FunD K d.name d.qual d.params d.body d.scope (d.dvs K) (d.kws K) (He.fAd K d.at_) fd
abbrev CB (K : PySem.W.Frag) : Addr := He.ga K "Blocks"
abbrev IB (K : PySem.W.Frag) : Addr := He.ga K "InvalidBlock"
structure Tx (K : PySem.W.Frag) (mg : Str → Option Value) (tk : Tok) : Prop where
  n_len : mg "len" = none
  n_int : mg "int" = none
  n_bool : mg "bool" = none
  n_list : mg "list" = none
  n_tuple : mg "tuple" = none
  n_set : mg "set" = none
  n_sorted : mg "sorted" = none
  n_max : mg "max" = none
  n_min : mg "min" = none
  n_range : mg "range" = none
  n_isinstance : mg "isinstance" = none
  n_all : mg "all" = none
  n_repr : mg "repr" = none
  n_ValueError : mg "ValueError" = none
  g_MAX_NUMBER : mg "MAX_NUMBER" = some (.int 1000000 tk)
  gB : mg "Blocks" = some (.ref (CB K))
  vV : PySem.W.findCls K (.type "ValueError") (.type "type") "__init__" = some (.val (.builtin "ValueError.__init__"))
  exB : My.ExcT K mg "InvalidBlock" "value"
  cls : Cls K (CB K)
  noat : NoAttr K (CB K) "own_numbers"
  sf : PySem.W.selfFirst K (CB K) = true
  mroO : PySem.W.mroIn K (CB K) (.type "object") = some true
  neO : PySem.W.findIn K (.ref (CB K)) "__ne__" = some (some (.builtin "object.__ne__"))
  clO : PySem.W.findIn K (.ref (CB K)) "__class__" = some (some (.builtin "object.__class__"))
  hn : PySem.W.specialIn K (.builtin "object.__class__") "__get__" = some (some (.builtin "getset_descriptor.__get__"))
  htk : PySem.W.takesIn K (.builtin "object.__class__") = some true
  lstB : PySem.W.kitOne K (.type "list") (.ref (CB K)) = some false
  subL : PySem.W.subIn K (.type "list") (.ref (CB K)) = some false
def InB (ns : List Int) : Prop := ∀ n ∈ ns, 0 ≤ n ∧ n ≤ 1000000
def Odd (K : PySem.W.Frag) (H : Hp) (v : V) : Prop := (∃ i : Int, v = .int i ∧ ¬ (0 ≤ i ∧ i ≤ 1000000)) ∨ My.NoInt K H v
theorem Odd.same {K : PySem.W.Frag} {H H' : Hp} {v : V} (h : Odd K H v) (s : Same H H') : Odd K H' v := h.imp id fun q => q.same s
/-- Blocks at b: its dict at D, over ns -/
def Blk (K : PySem.W.Frag) (H : Hp) (b dx D : Addr) (ns : List Int) : Prop := H b = some (.ins (CB K) dx [(("own_numbers" : Str), .ref D)]) ∧ H D = some (.dK (My.Kt ns))
def sp_betw (K : PySem.W.Frag) : Sp := fun vs H Q _ => ∃ (x : V) (l m : Int), vs = [x, .int l, .int m] ∧ ((∃ i : Int, x = .int i ∧ Q (.bl (decide (l ≤ i ∧ i ≤ m))) H) ∨ (My.NoInt K H x ∧ Q (.bl false) H))
def sp_init (K : PySem.W.Frag) : Sp := fun vs H Q E => ∃ (self dx : Addr) (x : V), vs = [.ref self, x] ∧ H self = some (.ins (CB K) dx []) ∧
  ((∃ (a : Addr) (ns : List Int), x = .ref a ∧ (SqL K H a (ns.map V.int) ∨ SqT K H a (ns.map V.int)) ∧ InB ns ∧ ns.length ≤ 1000 ∧
      ∀ (D : Addr) (H' : Hp) (ms : List Int), H D = none → (∀ b o, b ≠ self → H b = some o → H' b = some o) → Blk K H' self dx D ms → ms.Nodup → (∀ n, n ∈ ms ↔ n ∈ ns) → ms.length ≤ ns.length → Q .non H') ∨
   (∃ (a : Addr) (v : V), x = .ref a ∧ SqL K H a [.int 3, v, .non] ∧ Odd K H v ∧ ∀ (d : Addr) (H' : Hp), H d = none → Same H H' → H' d = some (.xd [(("value" : Str), v)]) → E (.ref (IB K)) (some d) H') ∨
   (∃ t, TyX K H x t ∧ PySem.W.kitAny K t [.type "list", .type "tuple"] = some false ∧ ∀ (d : Addr) (H' : Hp), H d = none → Same H H' → H' d = some (.xd [(("value" : Str), x)]) → E (.ref (IB K)) (some d) H'))
section
variable {P : Program} {w : World} {K : PySem.W.Frag} {mg : Str → Option Value} {base : Heap} {tk : Tok}
theorem ok_exc (T : Tx K mg tk) {fd : FuncData} (F : Fd K d_InvalidBlock_init fd) : FnOk P w K mg base CX0 1 (He.fAd K d_InvalidBlock_init.at_) fd ["self", "value"] (My.sp_exc K "InvalidBlock" "value") := by
  refine F.ok sc_InvalidBlock_init (fun vs H Q E h => ?_) (fun cdv A outer s H vs Q E hr h => ?_)
  · obtain ⟨a, v, rfl, _⟩ := h
    rfl
  · obtain ⟨a, v, rfl, ha, q⟩ := h
    refine ⟨_, PSs.nox ((pss_cons (ps_expr (pe_veinit rfl T.n_ValueError T.vV (pa_cons (pv 0) (pa_cons pe_str pa_nil))))
  (pss_one (ps_ost (pv 0) (pv 1))))), ?_⟩
    refine My.x_start (σ := [some (V.ref a), some v]) rfl ?_
    dsimp only [cxOf, Cx.nox]
    walk_at "go"
    refine ⟨a, _, _, rfl, by decide, T.exB.o, ha, ?_⟩
    walk_at "go"
    exact ⟨a, _, rfl, T.exB.o, T.exB.no, .inl ⟨ha, fun dx h1 h2 => q dx h1 h2⟩⟩
theorem ok_betw (T : Tx K mg tk) {fd : FuncData} (F : Fd K d_is_between fd) : FnOk P w K mg base CX0 1 (He.fAd K d_is_between.at_) fd ["value", "least", "most"] (sp_betw K) := by
  refine F.ok sc_is_between (fun vs H Q E h => ?_) (fun cdv A outer s H vs Q E hr h => ?_)
  · obtain ⟨x, l, m, rfl, _⟩ := h
    rfl
  · obtain ⟨x, l, m, rfl, h⟩ := h
    refine ⟨_, PSs.nox ((pss_one (ps_ret (pe_and (pe_callB call_isi (by rfl) T.n_isinstance (by decide +kernel) (pa_cons (pv 0) (pa_cons (pe_bltn (v := .ty "int") rfl T.n_int (by decide +kernel) rfl) pa_nil))) (pe_and (pe_not (pe_callB call_isi (by rfl) T.n_isinstance (by decide +kernel) (pa_cons (pv 0) (pa_cons (pe_bltn (v := .ty "bool") rfl T.n_bool (by decide +kernel) rfl) pa_nil)))) (pe_one (pe_chain op_le op_le (pv 1) (pv 0) (pv 2)))))))), ?_⟩
    refine My.x_start (σ := [some x, some (V.int l), some (V.int m)]) rfl ?_
    dsimp only [cxOf, Cx.nox]
    walk_at "go"
    rcases h with ⟨i, rfl, q⟩ | ⟨⟨t, ht, k | ⟨k1, k2⟩⟩, q⟩
    · refine My.x_isi (.ty "int") (.base (.int i)) (b := true) (kit_ty (by decide +kernel)) ?_
      walk_at "go"
      refine My.x_isi (.ty "bool") (.base (.int i)) (b := false) (kit_ty (by decide +kernel)) ?_
      walk_at "go"
      refine My.x_dec (fun h1 => ?_) (fun h1 => ?_)
      · walk_at "go"
        have e : decide (i ≤ m) = decide (l ≤ i ∧ i ≤ m) := decide_eq_decide.mpr ⟨fun z => ⟨h1, z⟩, fun z => z.2⟩
        rw [e]
        exact q
      · have e : false = decide (l ≤ i ∧ i ≤ m) := (decide_eq_false fun z => h1 z.1).symm
        rw [e]
        exact q
    · refine My.x_isi (.ty "int") ht k ?_
      walk_at "go"
      exact q
    · refine My.x_isi (.ty "int") ht k1 ?_
      walk_at "go"
      refine My.x_isi (.ty "bool") ht k2 ?_
      walk_at "go"
      exact q
/-- what is_between tells of an odd value -/
theorem betw_odd {H : Hp} {Q : VK} {E : XK} {v : V} (o : Odd K H v) (q : Q (.bl false) H) : sp_betw K ([v, .int 0, .int 1000000] ++ []) H Q E := by
  refine ⟨v, 0, 1000000, rfl, ?_⟩
  rcases o with ⟨i, rfl, h⟩ | o
  · exact .inl ⟨i, rfl, by rw [decide_eq_false h]; exact q⟩
  · exact .inr ⟨o, q⟩
theorem betw_in {H : Hp} {Q : VK} {E : XK} {i : Int} (h : 0 ≤ i ∧ i ≤ 1000000) (q : Q (.bl true) H) : sp_betw K ([.int i, .int 0, .int 1000000] ++ []) H Q E :=
  ⟨_, 0, 1000000, rfl, .inl ⟨i, rfl, by rw [decide_eq_true h]; exact q⟩⟩
theorem kitLT : PySem.W.kitAny K (.type "tuple") [.type "list", .type "tuple"] = some true := kitAny_cons (b := false) (kit_ty (by decide +kernel)) (fun _ => kitAny_cons (b := true) (by rfl) (fun z => nomatch z) fun _ => rfl) fun z => nomatch z
theorem seqT {H H' : Hp} {a : Addr} {xs : List V} (s : Same H H') (h : SqT K H a xs) : SqT K H' a xs := h.imp (fun h => h.imp (s _ _) fun ⟨o, e⟩ => ⟨o, s _ _ e⟩) id
theorem clsLT : Paired ClsV [V.ty "list", .ty "tuple"] [.type "list", .type "tuple"] := .cons (.ty _) (.cons (.ty _) .nil)
theorem ok_init (T : Tx K mg tk) {fd : FuncData} (F : Fd K d_Blocks_init fd) (C_is_between : My.Cl P w K mg base "is_between" ["value", "least", "most"] 1 (sp_betw K))
    {fdI : FuncData} (okIB : FnOk P w K mg base CX0 1 (He.ma K (IB K) "__init__") fdI ["self", "value"] (My.sp_exc K "InvalidBlock" "value")) (bIB : Binds K fdI ["self", "value"] []) :
    FnOk P w K mg base (L2.CX P w) 3 (He.fAd K d_Blocks_init.at_) fd ["self", "numbers"] (sp_init K) := by
  have hcls := T.cls
  have hnoat := T.noat
  refine F.ok sc_Blocks_init (fun vs H Q E h => ?_) (fun cdv A outer s H vs Q E hr h => ?_)
  · obtain ⟨self, dx, x, rfl, _⟩ := h
    rfl
  · obtain ⟨self, dx, x, rfl, hself, h⟩ := h
    rcases h with ⟨a, ns, rfl, hl | ht, hin, hlen, q⟩ | ⟨a, v, rfl, hl, ho, q⟩ | ⟨t, ht, hk, q⟩
    · -- a list
      refine ⟨_, ((pss_cons (ps_if (pt_not (pt_val (pe_callB call_isiT (by rfl) T.n_isinstance (by decide +kernel) (pa_cons (pv 1) (pa_cons (pe_tup (pa_cons (pe_bltn (v := .ty "list") rfl T.n_list (by decide +kernel) rfl) (pa_cons (pe_bltn (v := .ty "tuple") rfl T.n_tuple (by decide +kernel) rfl) pa_nil))) pa_nil)))))
  (pss_one (My.ps_raiseX rfl T.exB okIB bIB (hr.mono (by decide)) (takes_of rfl rfl rfl rfl) (pa_cons (pv 1) pa_nil) rfl))
  pss_nil)
  (pss_cons (ps_for (passes_of rfl) rfl (pi_list (pv 1)) (pg_name (i := 2) sc_Blocks_init.nd rfl (Or.inl rfl))
  (pss_one (ps_if (pt_not (pt_val (My.pe_cl C_is_between (hr.mono (by decide)) rfl (pa_cons (pv 2) (pa_cons pe_int (pa_cons (pe_glob (v := .int 1000000) rfl T.g_MAX_NUMBER ⟨_, rfl⟩) pa_nil))))))
  (pss_one (My.ps_raiseX rfl T.exB okIB bIB (hr.mono (by decide)) (takes_of rfl rfl rfl rfl) (pa_cons (pv 2) pa_nil) rfl))
  pss_nil)))
  (pss_one (ps_fld (pv 0) (pe_dc (own := [("number", 2)]) (g := gName 2) (tt := tYes) rfl sc_Blocks_init.nd (pi_list (pv 1)) (blkOk_by (own := [("number", 2)]) (N := ["self", "numbers", "number"]) (sc := defScope s_Blocks_init) (by decide +kernel)) (fun _ _ _ _ _ => pg_name (i := 2) sc_Blocks_init.nd rfl (Or.inl rfl)) (fun _ _ _ _ _ => pts_nil) (fun _ _ _ _ _ => (pv 2)) (fun _ _ _ _ _ => pe_bl)) rfl))))), ?_⟩
      refine My.x_start (σ := [some (V.ref self), some (V.ref a), none]) rfl ?_
      dsimp only [cxOf, Cx.nox]
      walk_at "go"
      intro tp htp
      have s1 := My.Same.new (o := .tup [V.ty "list", V.ty "tuple"]) (Same.refl H) htp
      walk_at "go"
      refine My.x_isiT upd_same clsLT (My.tyx_same (My.sql_ty hl) s1) (b := true) (by rfl) ?_
      walk_at "go"
      have hs1 := s1.seq hl
      walk_at "go"
      refine My.for_runs (My.runs_list (K := K) (a := a) V.int ns) (fun pre σ' H' => Same H H' ∧ ∃ o, σ' = [some (V.ref self), some (V.ref a), o]) ⟨s1, _, rfl⟩ (fun pre post σ' H' _ h => h.1.seq hl) ?_ ?_
      · rintro pre x post σ' H1 v H2 hpre ⟨s2, o, rfl⟩ ⟨rfl, rfl⟩
        walk_at "go"
        refine betw_in (hin x (by rw [hpre]; simp)) ?_
        walk_at "go"
        exact ⟨s2, _, rfl⟩
      · rintro σ' H1 ⟨s2, o, rfl⟩
        walk_at "go"
        have hs2 := s2.seq hl
        walk_at "go"
        intro D hD
        have nD : H D = none := s2.free hD
        have hse := s2 _ _ hself
        have nDs : D ≠ self := (ne_of_none hse hD).symm
        refine My.dc_runs (My.runs_list (K := K) (a := a) V.int ns) (fun pre H' => Same H H' ∧ H' self = some (.ins (CB K) dx []) ∧ ∃ ms, H' D = some (.dK (My.Kt ms)) ∧ ms.Nodup ∧ (∀ n, n ∈ ms ↔ n ∈ pre) ∧ ms.length ≤ pre.length)
          ⟨My.Same.new s2 hD, by rw [upd_ne nDs.symm]; exact hse, [], upd_same, List.nodup_nil, fun _ => Iff.rfl, Nat.le_refl _⟩ (fun pre post H' _ h => h.1.seq hl) ?_ ?_
        · rintro pre x post H3 v H4 hpre ⟨s3, e3, ms, hd3, nd, hm, hlm⟩ ⟨rfl, rfl⟩
          simp only [List.map_cons, List.map_nil, wipe, List.set_cons_succ, List.set_cons_zero]
          walk_at "go"
          refine ⟨rfl, ?_⟩
          walk_at "go"
          have hpl : pre.length ≤ ns.length := by rw [hpre, List.length_append]; omega
          refine ⟨_, Sum.inl x, rfl, hd3, by rw [My.Kt_len]; show ms.length < 2 ^ 24; omega, My.Same.mut s3 nD, by rw [upd_ne nDs.symm]; exact e3, My.add ms x, by rw [upd_same, My.Kt_put], My.add_nodup nd x, fun n => ?_, ?_⟩
          · rw [My.add_mem, hm, List.mem_append, List.mem_singleton]
          · have := My.add_len ms x
            rw [List.length_append, List.length_singleton]
            omega
        · rintro H3 ⟨s3, e3, ms, hd3, nd, hm, hlm⟩
          walk_at "go"
          refine q D _ ms nD (fun b o hb e => by rw [upd_ne hb]; exact s3 _ _ e) ⟨upd_same, by rw [upd_ne nDs]; exact hd3⟩ nd hm hlm
    · -- a tuple
      refine ⟨_, ((pss_cons (ps_if (pt_not (pt_val (pe_callB call_isiT (by rfl) T.n_isinstance (by decide +kernel) (pa_cons (pv 1) (pa_cons (pe_tup (pa_cons (pe_bltn (v := .ty "list") rfl T.n_list (by decide +kernel) rfl) (pa_cons (pe_bltn (v := .ty "tuple") rfl T.n_tuple (by decide +kernel) rfl) pa_nil))) pa_nil)))))
  (pss_one (My.ps_raiseX rfl T.exB okIB bIB (hr.mono (by decide)) (takes_of rfl rfl rfl rfl) (pa_cons (pv 1) pa_nil) rfl))
  pss_nil)
  (pss_cons (ps_for (passes_of rfl) rfl (pi_tup (pv 1)) (pg_name (i := 2) sc_Blocks_init.nd rfl (Or.inl rfl))
  (pss_one (ps_if (pt_not (pt_val (My.pe_cl C_is_between (hr.mono (by decide)) rfl (pa_cons (pv 2) (pa_cons pe_int (pa_cons (pe_glob (v := .int 1000000) rfl T.g_MAX_NUMBER ⟨_, rfl⟩) pa_nil))))))
  (pss_one (My.ps_raiseX rfl T.exB okIB bIB (hr.mono (by decide)) (takes_of rfl rfl rfl rfl) (pa_cons (pv 2) pa_nil) rfl))
  pss_nil)))
  (pss_one (ps_fld (pv 0) (pe_dc (own := [("number", 2)]) (g := gName 2) (tt := tYes) rfl sc_Blocks_init.nd (pi_tup (pv 1)) (blkOk_by (own := [("number", 2)]) (N := ["self", "numbers", "number"]) (sc := defScope s_Blocks_init) (by decide +kernel)) (fun _ _ _ _ _ => pg_name (i := 2) sc_Blocks_init.nd rfl (Or.inl rfl)) (fun _ _ _ _ _ => pts_nil) (fun _ _ _ _ _ => (pv 2)) (fun _ _ _ _ _ => pe_bl)) rfl))))), ?_⟩
      refine My.x_start (σ := [some (V.ref self), some (V.ref a), none]) rfl ?_
      dsimp only [cxOf, Cx.nox]
      walk_at "go"
      intro tp htp
      have s1 := My.Same.new (o := .tup [V.ty "list", V.ty "tuple"]) (Same.refl H) htp
      walk_at "go"
      refine My.x_isiT upd_same clsLT (My.tyx_same (My.sqt_ty ht) s1) (b := true) (kitLT) ?_
      walk_at "go"
      
      have hs1 := seqT s1 ht
      walk_at "go"
      refine My.for_runs (My.runs_tup (K := K) (a := a) V.int ns) (fun pre σ' H' => Same H H' ∧ ∃ o, σ' = [some (V.ref self), some (V.ref a), o]) ⟨s1, _, rfl⟩ (fun pre post σ' H' _ h => seqT h.1 ht) ?_ ?_
      · rintro pre x post σ' H1 v H2 hpre ⟨s2, o, rfl⟩ ⟨rfl, rfl⟩
        walk_at "go"
        refine betw_in (hin x (by rw [hpre]; simp)) ?_
        walk_at "go"
        exact ⟨s2, _, rfl⟩
      · rintro σ' H1 ⟨s2, o, rfl⟩
        walk_at "go"
        have hs2 := seqT s2 ht
        walk_at "go"
        intro D hD
        have nD : H D = none := s2.free hD
        have hse := s2 _ _ hself
        have nDs : D ≠ self := (ne_of_none hse hD).symm
        refine My.dc_runs (My.runs_tup (K := K) (a := a) V.int ns) (fun pre H' => Same H H' ∧ H' self = some (.ins (CB K) dx []) ∧ ∃ ms, H' D = some (.dK (My.Kt ms)) ∧ ms.Nodup ∧ (∀ n, n ∈ ms ↔ n ∈ pre) ∧ ms.length ≤ pre.length)
          ⟨My.Same.new s2 hD, by rw [upd_ne nDs.symm]; exact hse, [], upd_same, List.nodup_nil, fun _ => Iff.rfl, Nat.le_refl _⟩ (fun pre post H' _ h => seqT h.1 ht) ?_ ?_
        · rintro pre x post H3 v H4 hpre ⟨s3, e3, ms, hd3, nd, hm, hlm⟩ ⟨rfl, rfl⟩
          simp only [List.map_cons, List.map_nil, wipe, List.set_cons_succ, List.set_cons_zero]
          walk_at "go"
          refine ⟨rfl, ?_⟩
          walk_at "go"
          have hpl : pre.length ≤ ns.length := by rw [hpre, List.length_append]; omega
          refine ⟨_, Sum.inl x, rfl, hd3, by rw [My.Kt_len]; show ms.length < 2 ^ 24; omega, My.Same.mut s3 nD, by rw [upd_ne nDs.symm]; exact e3, My.add ms x, by rw [upd_same, My.Kt_put], My.add_nodup nd x, fun n => ?_, ?_⟩
          · rw [My.add_mem, hm, List.mem_append, List.mem_singleton]
          · have := My.add_len ms x
            rw [List.length_append, List.length_singleton]
            omega
        · rintro H3 ⟨s3, e3, ms, hd3, nd, hm, hlm⟩
          walk_at "go"
          refine q D _ ms nD (fun b o hb e => by rw [upd_ne hb]; exact s3 _ _ e) ⟨upd_same, by rw [upd_ne nDs]; exact hd3⟩ nd hm hlm
    · -- an odd one in a list
      refine ⟨_, ((pss_cons (ps_if (pt_not (pt_val (pe_callB call_isiT (by rfl) T.n_isinstance (by decide +kernel) (pa_cons (pv 1) (pa_cons (pe_tup (pa_cons (pe_bltn (v := .ty "list") rfl T.n_list (by decide +kernel) rfl) (pa_cons (pe_bltn (v := .ty "tuple") rfl T.n_tuple (by decide +kernel) rfl) pa_nil))) pa_nil)))))
  (pss_one (My.ps_raiseX rfl T.exB okIB bIB (hr.mono (by decide)) (takes_of rfl rfl rfl rfl) (pa_cons (pv 1) pa_nil) rfl))
  pss_nil)
  (pss_cons (ps_for (passes_of rfl) rfl (pi_list (pv 1)) (pg_name (i := 2) sc_Blocks_init.nd rfl (Or.inl rfl))
  (pss_one (ps_if (pt_not (pt_val (My.pe_cl C_is_between (hr.mono (by decide)) rfl (pa_cons (pv 2) (pa_cons pe_int (pa_cons (pe_glob (v := .int 1000000) rfl T.g_MAX_NUMBER ⟨_, rfl⟩) pa_nil))))))
  (pss_one (My.ps_raiseX rfl T.exB okIB bIB (hr.mono (by decide)) (takes_of rfl rfl rfl rfl) (pa_cons (pv 2) pa_nil) rfl))
  pss_nil)))
  (pss_one (ps_fld (pv 0) (pe_dc (own := [("number", 2)]) (g := gName 2) (tt := tYes) rfl sc_Blocks_init.nd (pi_list (pv 1)) (blkOk_by (own := [("number", 2)]) (N := ["self", "numbers", "number"]) (sc := defScope s_Blocks_init) (by decide +kernel)) (fun _ _ _ _ _ => pg_name (i := 2) sc_Blocks_init.nd rfl (Or.inl rfl)) (fun _ _ _ _ _ => pts_nil) (fun _ _ _ _ _ => (pv 2)) (fun _ _ _ _ _ => pe_bl)) rfl))))), ?_⟩
      refine My.x_start (σ := [some (V.ref self), some (V.ref a), none]) rfl ?_
      dsimp only [cxOf, Cx.nox]
      walk_at "go"
      intro tp htp
      have s1 := My.Same.new (o := .tup [V.ty "list", V.ty "tuple"]) (Same.refl H) htp
      walk_at "go"
      refine My.x_isiT upd_same clsLT (My.tyx_same (My.sql_ty hl) s1) (b := true) (by rfl) ?_
      walk_at "go"
      have hs1 := s1.seq hl
      walk_at "go"
      refine My.for_runs (My.runs_list (K := K) (a := a) id [V.int 3, v, V.non]) (fun pre σ' H' => Same H H' ∧ (pre = [] ∨ pre = [V.int 3]) ∧ ∃ o, σ' = [some (V.ref self), some (V.ref a), o]) ⟨s1, .inl rfl, _, rfl⟩ (fun pre post σ' H' _ h => by rw [List.map_id]; exact h.1.seq hl) ?_ ?_
      · rintro pre x post σ' H1 y H2 hpre ⟨s2, rfl | rfl, o, rfl⟩ ⟨rfl, rfl⟩
        · cases hpre
          walk_at "go"
          refine betw_in (by decide) ?_
          walk_at "go"
          exact ⟨s2, .inr rfl, _, rfl⟩
        · cases hpre
          walk_at "go"
          refine betw_odd (ho.same s2) ?_
          walk_at "go"
          refine My.x_mk1 fun d hd => ?_
          exact q d _ (s2.free hd) (My.Same.new s2 hd) upd_same
      · rintro σ' H1 ⟨s2, h | h, _⟩ <;> cases h
    · -- no list and no tuple
      refine ⟨_, ((pss_cons (ps_if (pt_not (pt_val (pe_callB call_isiT (by rfl) T.n_isinstance (by decide +kernel) (pa_cons (pv 1) (pa_cons (pe_tup (pa_cons (pe_bltn (v := .ty "list") rfl T.n_list (by decide +kernel) rfl) (pa_cons (pe_bltn (v := .ty "tuple") rfl T.n_tuple (by decide +kernel) rfl) pa_nil))) pa_nil)))))
  (pss_one (My.ps_raiseX rfl T.exB okIB bIB (hr.mono (by decide)) (takes_of rfl rfl rfl rfl) (pa_cons (pv 1) pa_nil) rfl))
  pss_nil)
  (pss_cons (ps_for (passes_of rfl) rfl (pi_list (pv 1)) (pg_name (i := 2) sc_Blocks_init.nd rfl (Or.inl rfl))
  (pss_one (ps_if (pt_not (pt_val (My.pe_cl C_is_between (hr.mono (by decide)) rfl (pa_cons (pv 2) (pa_cons pe_int (pa_cons (pe_glob (v := .int 1000000) rfl T.g_MAX_NUMBER ⟨_, rfl⟩) pa_nil))))))
  (pss_one (My.ps_raiseX rfl T.exB okIB bIB (hr.mono (by decide)) (takes_of rfl rfl rfl rfl) (pa_cons (pv 2) pa_nil) rfl))
  pss_nil)))
  (pss_one (ps_fld (pv 0) (pe_dc (own := [("number", 2)]) (g := gName 2) (tt := tYes) rfl sc_Blocks_init.nd (pi_list (pv 1)) (blkOk_by (own := [("number", 2)]) (N := ["self", "numbers", "number"]) (sc := defScope s_Blocks_init) (by decide +kernel)) (fun _ _ _ _ _ => pg_name (i := 2) sc_Blocks_init.nd rfl (Or.inl rfl)) (fun _ _ _ _ _ => pts_nil) (fun _ _ _ _ _ => (pv 2)) (fun _ _ _ _ _ => pe_bl)) rfl))))), ?_⟩
      refine My.x_start (σ := [some (V.ref self), some x, none]) rfl ?_
      dsimp only [cxOf, Cx.nox]
      walk_at "go"
      intro tp htp
      have s1 := My.Same.new (o := .tup [V.ty "list", V.ty "tuple"]) (Same.refl H) htp
      walk_at "go"
      refine My.x_isiT upd_same clsLT (My.tyx_same ht s1) hk ?_
      walk_at "go"
      refine My.x_mk1 fun d hd => ?_
      exact q d _ (s1.free hd) (My.Same.new s1 hd) upd_same
end
end K41

end

section
local macro_rules | `(tactic| walk_at "ne") => `(tactic| first | assumption | (apply Ne.symm; assumption) | exact L2.ne_of_none (by assumption) (by assumption) | exact (L2.ne_of_none (by assumption) (by assumption)).symm)
local macro_rules | `(tactic| walk_at "hp") => `(tactic| first | assumption | exact L2.upd_same | (rw [L2.upd_ne (by walk_at "ne")]; walk_at "hp"))
local macro_rules | `(tactic| walk_at "sq") => `(tactic| first | assumption | exact L2.SqL.of (by walk_at "hp") | exact My.sq_new (by walk_at "sq") (by assumption))
local macro_rules | `(tactic| walk_at "sd") => `(tactic| first | decide | omega | (unfold L2.CDivN; omega) | (unfold L2.CMul; omega) | (unfold L2.CPow; omega))
local macro_rules | `(tactic| walk_at "sx1") => `(tactic| first | with_reducible refine My.x_seq ?_ | with_reducible refine My.x_asg ?_ | with_reducible refine My.x_ret ?_ | with_reducible refine My.x_next ?_ | with_reducible refine My.x_op ?_ | with_reducible refine My.x_c ?_ | with_reducible refine My.x_ifs ?_ | with_reducible refine My.x_test ?_ | with_reducible refine My.x_exbl ?_ | with_reducible refine My.x_cons ?_ | with_reducible refine My.x_nil ?_ | with_reducible refine My.x_cb ?_ | with_reducible refine My.x_drop ?_ | with_reducible refine My.x_par ?_ | with_reducible refine My.x_exp2 ?_ | with_reducible refine My.x_aug ?_ | with_reducible refine My.x_if ?_ | with_reducible refine My.x_tB ?_ | with_reducible refine My.x_and ?_ | with_reducible refine My.x_or ?_ | with_reducible refine My.x_not ?_ | with_reducible refine My.x_retn ?_ | with_reducible refine My.x_cont ?_ | with_reducible refine My.x_brk ?_ | with_reducible refine My.x_un ?_ | with_reducible refine My.x_tfor ?_ | with_reducible refine My.x_ilist ?_ | with_reducible refine My.x_rng1 ?_ | with_reducible refine My.x_rng2 ?_ | with_reducible refine My.x_r1 ?_ | with_reducible refine My.x_call ?_ | with_reducible refine My.x_sl ?_ | with_reducible refine My.x_part ?_ | with_reducible refine My.x_nopart ?_ | with_reducible refine My.x_ii0 ?_ | with_reducible refine My.x_yes ?_ | with_reducible refine My.x_andv ?_ | with_reducible refine My.x_orv ?_ | with_reducible refine My.x_notv ?_ | with_reducible refine My.x_iT ?_ | with_reducible refine My.x_iF ?_ | with_reducible refine My.x_chain ?_ | with_reducible refine My.x_exI ?_ | with_reducible refine My.x_wipe ?_ | with_reducible refine My.x_bm ?_ | with_reducible refine My.x_bm0 ?_ | with_reducible refine My.x_gsub ?_ | with_reducible refine My.x_int1 ?_ | with_reducible refine My.x_two ?_ | with_reducible refine My.x_lst ?_ | with_reducible refine My.x_tup ?_ | with_reducible refine My.x_revL ?_ | with_reducible refine My.x_dput ?_ | with_reducible refine My.x_dget ?_ | with_reducible refine My.x_dnew ?_ | with_reducible refine My.x_dc ?_ | with_reducible refine My.x_lc ?_ | with_reducible refine My.x_ienum ?_ | with_reducible refine My.x_gcons ?_ | with_reducible refine My.x_gnil ?_ | with_reducible refine My.x_v0 ?_ | with_reducible refine My.x_v1 ?_ | with_reducible refine My.x_v2 ?_ | with_reducible refine My.x_v3 ?_ | with_reducible refine My.x_v4 ?_ | with_reducible refine My.x_v5 ?_ | with_reducible refine My.x_v6 ?_ | with_reducible refine My.x_v7 ?_ | with_reducible refine My.x_v8 ?_ | with_reducible refine My.x_v9 ?_ | with_reducible refine My.x_v10 ?_ | with_reducible refine My.x_v11 ?_ | with_reducible refine My.x_v12 ?_ | with_reducible refine My.x_v13 ?_ | with_reducible refine My.x_v14 ?_ | with_reducible refine My.x_v15 ?_ | with_reducible refine My.x_v16 ?_ | with_reducible refine My.x_v17 ?_ | with_reducible refine My.x_v18 ?_ | with_reducible refine My.x_v19 ?_ | with_reducible refine My.x_v20 ?_ | with_reducible refine My.x_v21 ?_ | with_reducible refine My.x_v22 ?_ | with_reducible refine My.x_v23 ?_ | with_reducible refine My.x_v24 ?_ | with_reducible refine My.x_v25 ?_ | with_reducible refine My.x_g0 ?_ | with_reducible refine My.x_g1 ?_ | with_reducible refine My.x_g2 ?_ | with_reducible refine My.x_g3 ?_ | with_reducible refine My.x_g4 ?_ | with_reducible refine My.x_g5 ?_ | with_reducible refine My.x_g6 ?_ | with_reducible refine My.x_g7 ?_ | with_reducible refine My.x_g8 ?_ | with_reducible refine My.x_g9 ?_ | with_reducible refine My.x_g10 ?_ | with_reducible refine My.x_g11 ?_ | with_reducible refine My.x_g12 ?_ | with_reducible refine My.x_g13 ?_ | with_reducible refine My.x_g14 ?_ | with_reducible refine My.x_g15 ?_ | with_reducible refine My.x_g16 ?_ | with_reducible refine My.x_g17 ?_ | with_reducible refine My.x_g18 ?_ | with_reducible refine My.x_g19 ?_ | with_reducible refine My.x_g20 ?_ | with_reducible refine My.x_g21 ?_ | with_reducible refine My.x_g22 ?_ | with_reducible refine My.x_g23 ?_ | with_reducible refine My.x_g24 ?_ | with_reducible refine My.x_g25 ?_)
local macro_rules | `(tactic| walk_at "sx") => `(tactic| repeat (walk_at "sx1"))
local macro_rules | `(tactic| walk_at "ln") => `(tactic| first | assumption | exact Nat.le_of_ble_eq_true rfl | (simp only [List.length_append, List.length_map, List.length_cons, List.length_nil]; simp only [PySem.sizeLine]; omega))
local macro_rules | `(tactic| walk_at "st") => `(tactic| first | assumption | exact L2.SqT.of (by walk_at "hp"))
local macro_rules | `(tactic| walk_at "go1") => `(tactic| first | walk_at "sx1" | ((with_reducible refine' My.x_ixL ?x0 ?x1 ?x2); (case x0 => walk_at "sq"); (case x1 => exact rfl)) | ((with_reducible refine' My.x_ixT ?x0 ?x1 ?x2); (case x0 => walk_at "st"); (case x1 => exact rfl)) | ((with_reducible refine' My.x_i ?x0 ?x1); (case x0 => walk_at "sd")) | ((with_reducible refine' My.x_setL ?x0 ?x1 ?x2); (case x0 => walk_at "hp"); (case x1 => exact rfl)) | ((with_reducible refine' My.x_len ?x0 ?x1); (case x0 => walk_at "sq")) | ((with_reducible refine' My.x_lenT ?x0 ?x1); (case x0 => walk_at "st")) | ((with_reducible refine' My.x_lenD ?x0 ?x1); (case x0 => walk_at "hp")) | ((with_reducible refine' My.x_append ?x0 ?x1 ?x2); (case x0 => walk_at "hp"); (case x1 => walk_at "ln")) | ((with_reducible refine' My.x_tyL ?x0 ?x1); (case x0 => walk_at "hp")) | ((with_reducible refine' My.x_ilistE ?x0 ?x1); (case x0 => walk_at "sq")) | ((with_reducible refine' My.x_ienumE ?x0 ?x1); (case x0 => walk_at "sq")) | ((with_reducible refine' My.x_sortI ?x0 ?x1); (case x0 => walk_at "sq")) | ((with_reducible refine' My.x_slL ?x0 ?x1); (case x0 => walk_at "sq")) | ((with_reducible refine' My.x_revL2 ?x0 ?x1); (case x0 => walk_at "sq")) | ((with_reducible refine' My.x_eq ?x0 ?x1); (case x0 => exact rfl)) | ((with_reducible refine' My.x_ne ?x0 ?x1); (case x0 => exact rfl)) | ((with_reducible refine' My.x_dputI ?x0 ?x1 ?x2); (case x0 => walk_at "hp"); (case x1 => walk_at "ln")) | ((with_reducible refine' My.x_dputS ?x0 ?x1 ?x2); (case x0 => walk_at "hp"); (case x1 => walk_at "ln")) | ((with_reducible refine' My.x_seqof ?x0 ?x1); (case x0 => walk_at "sq")) | ((with_reducible refine' My.x_gtup ?x0 ?x1 ?x2); (case x0 => walk_at "st"); (case x1 => exact rfl)) | ((with_reducible refine' My.x_mem1 ?x0 ?x1); (case x0 => walk_at "ln")))
local macro_rules | `(tactic| walk_at "go") => `(tactic| repeat (walk_at "go1"))
local macro_rules | `(tactic| walk_at "sx1") => `(tactic| first | with_reducible refine My.x_fld ?_ | with_reducible refine My.x_sfld ?_ | with_reducible refine My.x_meth ?_ | with_reducible refine My.x_make ?_ | with_reducible refine My.x_din ?_ | with_reducible refine My.x_dnin ?_ | with_reducible refine My.x_ikeys ?_ | with_reducible refine My.x_itup ?_ | with_reducible refine My.x_mkO ?_ | with_reducible refine My.x_vei ?_ | with_reducible refine My.x_ost ?_ | with_reducible refine My.x_nF ?_ | with_reducible refine My.x_nT ?_)
local macro_rules | `(tactic| walk_at "go1") => `(tactic| first | ((with_reducible refine' My.x_fldE ?x0 ?x1 ?x2 ?x3 ?x4); (case x0 => walk_at "hp"); (case x1 => assumption); (case x2 => assumption); (case x3 => exact rfl)) | ((with_reducible refine' My.x_sfldE ?x0 ?x1 ?x2 ?x3 ?x4 ?x5); (case x0 => walk_at "hp"); (case x1 => assumption); (case x2 => assumption); (case x3 => decide); (case x4 => exact rfl)) | ((with_reducible refine' My.x_methE ?x0 ?x1 ?x2); (case x0 => walk_at "hp"); (case x1 => exact rfl)) | ((with_reducible refine' My.x_itupE ?x0 ?x1); (case x0 => walk_at "st")))
namespace K41
open PySem PySem.Spec PyProof.Rows L2
theorem free_upd {H : Hp} {p b : Addr} {o : HO} (h : upd H p o b = none) : H b = none := by
  by_cases e : b = p
  · subst e; rw [upd_same] at h; cases h
  · rw [upd_ne e] at h; exact h
theorem lock_same {H H' : Hp} {D : Addr} {u : HO} {od : Obj} (hD : H D = some u) (s : Same (upd H D (.frz od u)) H') : Same H (upd H' D u) := fun b o e => by
  by_cases h : b = D
  · subst h; rw [upd_same, ← hD, e]
  · rw [upd_ne h]; exact s b o (by rw [upd_ne h]; exact e)
theorem rd_lock {H H' : Hp} {D E : Addr} {u o : HO} {od : Obj} (hD : H D = some u) (hE : H E = some o) (s : Same (upd H D (.frz od u)) H') : Rd H' E o := by
  by_cases h : E = D
  · subst h
    rw [hD] at hE
    cases hE
    exact .inr ⟨od, s _ _ upd_same⟩
  · exact .inl (s _ _ (by rw [upd_ne h]; exact hE))
theorem runs_kt {d : Addr} {o : Obj} (ns : List Int) : My.Runs (Itk d o (My.Kt ns)) ns (fun H => H d = some (.frz o (.dK (My.Kt ns)))) (fun _ n H v H' => v = .int n ∧ H' = H) where
  go i x H hx q := ⟨q, by rw [My.Kt_len]; exact (List.getElem?_eq_some_iff.mp hx).1⟩
  stop i H hi q := ⟨q, by rw [My.Kt_len]; exact hi⟩
  yld i x H v H' hx q y := by
    obtain ⟨rfl, k, z, e, rfl⟩ := y
    unfold My.Kt at e
    rw [List.getElem?_map, hx] at e
    cases e
    exact ⟨rfl, rfl⟩
def sp_listed (K : PySem.W.Frag) : Sp := fun vs H Q _ => ∃ (b dx D : Addr) (ns : List Int), vs = [.ref b] ∧ Blk K H b dx D ns ∧ ns.Nodup ∧ ns.length < 64 ∧
  ∀ (S : List Int) (p : Addr), S.Pairwise (· < ·) → (∀ x, x ∈ S ↔ x ∈ ns) → S.length = ns.length → H p = none → Q (.ref p) (upd H p (.lst (S.map V.int)))
def sp_len (K : PySem.W.Frag) : Sp := fun vs H Q _ => ∃ (b dx D : Addr) (ns : List Int), vs = [.ref b] ∧ Blk K H b dx D ns ∧ Q (.int (ns.length : Nat)) H
def sp_has (K : PySem.W.Frag) : Sp := fun vs H Q _ => ∃ (b dx D : Addr) (ns : List Int) (x : V), vs = [.ref b, x] ∧ H b = some (.ins (CB K) dx [(("own_numbers" : Str), .ref D)]) ∧ Rd H D (.dK (My.Kt ns)) ∧ InB ns ∧
  ((∃ i : Int, x = .int i ∧ Q (.bl (decide (i ∈ ns))) H) ∨ (Odd K H x ∧ Q (.bl false) H))
def sp_within (K : PySem.W.Frag) : Sp := fun vs H Q _ => ∃ (b dx D : Addr) (ns : List Int) (b2 dx2 D2 : Addr) (ms : List Int), vs = [.ref b, .ref b2] ∧ Blk K H b dx D ns ∧ Blk K H b2 dx2 D2 ms ∧ InB ns ∧ InB ms ∧ ns.length ≤ 1000 ∧
  ∀ H', Same H H' → Q (.bl (ns.all fun n => decide (n ∈ ms))) H'
def sp_bin (R : List Int → List Int → Int → Prop) (K : PySem.W.Frag) : Sp := fun vs H Q _ => ∃ (b dx D : Addr) (ns : List Int) (b2 dx2 D2 : Addr) (ms : List Int), vs = [.ref b, .ref b2] ∧ Blk K H b dx D ns ∧ Blk K H b2 dx2 D2 ms ∧
  ns.Nodup ∧ ms.Nodup ∧ InB ns ∧ InB ms ∧ ns.length ≤ 30 ∧ ms.length ≤ 30 ∧
  ∀ (c dy E : Addr) (l : List Int) (H' : Hp), H c = none → H E = none → Same H H' → Blk K H' c dy E l → l.Nodup → (∀ x, x ∈ l ↔ R ns ms x) → l.length ≤ ns.length + ms.length → Q (.ref c) H'
def Rand (ns ms : List Int) (x : Int) : Prop := x ∈ ns ∧ x ∈ ms
def Ror (ns ms : List Int) (x : Int) : Prop := x ∈ ns ∨ x ∈ ms
def Rsub (ns ms : List Int) (x : Int) : Prop := x ∈ ns ∧ x ∉ ms
def Rxor (ns ms : List Int) (x : Int) : Prop := (x ∈ ns ∧ x ∉ ms) ∨ (x ∈ ms ∧ x ∉ ns)
def sp_eq (K : PySem.W.Frag) : Sp := fun vs H Q _ => ∃ (b dx D : Addr) (ns : List Int) (y : V), vs = [.ref b, y] ∧ Blk K H b dx D ns ∧
  ((∃ (b2 dx2 D2 : Addr) (ms : List Int), y = .ref b2 ∧ Blk K H b2 dx2 D2 ms ∧ Q (.bl (decide (ns.length = ms.length ∧ ∀ n ∈ ns, n ∈ ms))) H) ∨ (∃ (a : Addr) (xs : List V), y = .ref a ∧ SqL K H a xs ∧ Q (.bl false) H))
section
variable {P : Program} {w : World} {K : PySem.W.Frag} {mg : Str → Option Value} {base : Heap} {tk : Tok}
theorem seq_or {H H' : Hp} {a : Addr} {xs : List V} (s : Same H H') (h : SqL K H a xs ∨ SqT K H a xs) : SqL K H' a xs ∨ SqT K H' a xs := h.imp s.seq (seqT s)
theorem x_mkB {H : Hp} {Q : VK} {E : XK} {a : Addr} {ns : List Int} (hs : SqL K H a (ns.map V.int) ∨ SqT K H a (ns.map V.int)) (hin : InB ns) (hl : ns.length ≤ 1000)
    (q : ∀ (c dx D : Addr) (ms : List Int) (H' : Hp), H c = none → H D = none → Same H H' → Blk K H' c dx D ms → ms.Nodup → (∀ n, n ∈ ms ↔ n ∈ ns) → ms.length ≤ ns.length → Q (.ref c) H') :
    ∀ x dx, H x = none → H dx = none → dx ≠ x → sp_init K (.ref x :: ([.ref a] ++ [])) (upd (upd H dx (.own x)) x (.ins (CB K) dx [])) (fun v H2 => v = .non ∧ Q (.ref x) H2) E := fun x dx hx hdx hne => by
  have s1 : Same H (upd (upd H dx (.own x)) x (.ins (CB K) dx [])) := My.Same.mut (My.Same.new (Same.refl H) hdx) hx
  refine ⟨x, dx, .ref a, rfl, upd_same, .inl ⟨a, ns, rfl, seq_or s1 hs, hin, hl, fun D H' ms hD hk hB nd hm hlm => ⟨rfl, q x dx D ms H' hx (free_upd (free_upd hD)) (fun b o e => ?_) hB nd hm hlm⟩⟩⟩
  exact hk b o (ne_of_none e hx) (s1 b o e)
theorem ok_listed (T : Tx K mg tk) {fd : FuncData} (F : Fd K d_Blocks_listed fd) : FnOk P w K mg base CX0 1 (He.fAd K d_Blocks_listed.at_) fd ["self"] (sp_listed K) := by
  have hcls := T.cls
  have hnoat := T.noat
  refine F.ok sc_Blocks_listed (fun vs H Q E h => ?_) (fun cdv A outer s H vs Q E hr h => ?_)
  · obtain ⟨b, dx, D, ns, rfl, _⟩ := h
    rfl
  · obtain ⟨b, dx, D, ns, rfl, ⟨hb, hD⟩, nd, hl, q⟩ := h
    refine ⟨_, PSs.nox ((pss_one (ps_ret (pe_callB (call_sortedDI rfl) (by rfl) T.n_sorted (by decide +kernel) (pa_cons (My.pe_fldK (K := K) (by rfl) (pv 0) (by rfl)) pa_nil))))), ?_⟩
    refine My.x_start (σ := [some (V.ref b)]) rfl ?_
    try dsimp only [cxOf, Cx.nox]
    walk_at "go"
    refine My.x_sortDI hD (My.Kt_keys ns) hl ?_
    intro S p hp hs hn
    exact q S p ((List.Pairwise.and hs (hp.nodup_iff.mpr nd)).imp fun {a b} ⟨p, q⟩ => by omega) (fun x => hp.mem_iff) hp.length_eq hn
theorem ok_len (T : Tx K mg tk) {fd : FuncData} (F : Fd K d_Blocks_len fd) : FnOk P w K mg base CX0 1 (He.fAd K d_Blocks_len.at_) fd ["self"] (sp_len K) := by
  have hcls := T.cls
  have hnoat := T.noat
  refine F.ok sc_Blocks_len (fun vs H Q E h => ?_) (fun cdv A outer s H vs Q E hr h => ?_)
  · obtain ⟨b, dx, D, ns, rfl, _⟩ := h
    rfl
  · obtain ⟨b, dx, D, ns, rfl, ⟨hb, hD⟩, q⟩ := h
    refine ⟨_, PSs.nox ((pss_one (ps_ret (pe_callB call_lenD (by rfl) T.n_len (by decide +kernel) (pa_cons (My.pe_fldK (K := K) (by rfl) (pv 0) (by rfl)) pa_nil))))), ?_⟩
    refine My.x_start (σ := [some (V.ref b)]) rfl ?_
    try dsimp only [cxOf, Cx.nox]
    walk_at "go"
    rw [My.Kt_len]
    exact q
theorem ok_has (T : Tx K mg tk) {fd : FuncData} (F : Fd K d_Blocks_contains fd) (C_is_between : My.Cl P w K mg base "is_between" ["value", "least", "most"] 1 (sp_betw K)) : FnOk P w K mg base CX0 2 (He.fAd K d_Blocks_contains.at_) fd ["self", "number"] (sp_has K) := by
  have hcls := T.cls
  have hnoat := T.noat
  refine F.ok sc_Blocks_contains (fun vs H Q E h => ?_) (fun cdv A outer s H vs Q E hr h => ?_)
  · obtain ⟨b, dx, D, ns, x, rfl, _⟩ := h
    rfl
  · obtain ⟨b, dx, D, ns, x, rfl, hb, hD, hin, h⟩ := h
    refine ⟨_, PSs.nox ((pss_one (ps_ret (pe_and (My.pe_cl C_is_between (hr.mono (by decide)) rfl (pa_cons (pv 1) (pa_cons pe_int (pa_cons (pe_glob (v := .int 1000000) rfl T.g_MAX_NUMBER ⟨_, rfl⟩) pa_nil)))) (pe_one (pe_cmp (pc_din (by exact hu_of hr) (pv 1) (My.pe_fldK (K := K) (by rfl) (pv 0) (by rfl))) rfl)))))), ?_⟩
    refine My.x_start (σ := [some (V.ref b), some x]) rfl ?_
    try dsimp only [cxOf, Cx.nox]
    walk_at "go"
    rcases h with ⟨i, rfl, q⟩ | ⟨ho, q⟩
    · by_cases hi : 0 ≤ i ∧ i ≤ 1000000
      · refine betw_in hi ?_
        walk_at "go"
        refine My.x_dinI hD ?_
        rw [My.Kt_val]
        by_cases hm : i ∈ ns
        · rw [if_pos hm]
          rw [decide_eq_true hm] at q
          exact q
        · rw [if_neg hm]
          rw [decide_eq_false hm] at q
          exact q
      · refine betw_odd (.inl ⟨i, rfl, hi⟩) ?_
        walk_at "go"
        rw [decide_eq_false fun hm => hi (hin i hm)] at q
        exact q
    · refine betw_odd ho ?_
      walk_at "go"
      exact q
theorem ok_eq (T : Tx K mg tk) {fd : FuncData} (F : Fd K d_Blocks_eq fd) : FnOk P w K mg base CX0 1 (He.fAd K d_Blocks_eq.at_) fd ["self", "other"] (sp_eq K) := by
  have hcls := T.cls
  have hnoat := T.noat
  refine F.ok sc_Blocks_eq (fun vs H Q E h => ?_) (fun cdv A outer s H vs Q E hr h => ?_)
  · obtain ⟨b, dx, D, ns, y, rfl, _⟩ := h
    rfl
  · obtain ⟨b, dx, D, ns, y, rfl, ⟨hb, hD⟩, h⟩ := h
    refine ⟨_, PSs.nox ((pss_one (ps_ret (pe_and (pe_callB call_isi (by rfl) T.n_isinstance (by decide +kernel) (pa_cons (pv 1) (pa_cons (pe_glob (v := .ref (CB K)) rfl T.gB rfl) pa_nil))) (pe_one (pe_cmpR (My.op_eqKt (Nat.lt_of_succ_lt (hu_of hr))) (My.pe_fldK (K := K) (by rfl) (pv 0) (by rfl)) (My.pe_fldK (K := K) (by rfl) (pv 1) (by rfl)) (nomark _))))))), ?_⟩
    refine My.x_start (σ := [some (V.ref b), some y]) rfl ?_
    try dsimp only [cxOf, Cx.nox]
    walk_at "go"
    rcases h with ⟨b2, dx2, D2, ms, rfl, ⟨hb2, hD2⟩, q⟩ | ⟨a, xs, rfl, hs, q⟩
    · refine My.x_isi (.own (CB K)) (.base (.ins hb2 T.cls T.clO T.hn T.htk T.mroO)) (b := true) (by unfold PySem.W.kitOne; simp) ?_
      walk_at "go"
      exact My.x_eqKt hD hD2 q
    · refine My.x_isi (.own (CB K)) (My.sql_ty hs) T.lstB ?_
      walk_at "go"
      exact q
end
end K41

end

section
local macro_rules | `(tactic| walk_at "ne") => `(tactic| first | assumption | (apply Ne.symm; assumption) | exact L2.ne_of_none (by assumption) (by assumption) | exact (L2.ne_of_none (by assumption) (by assumption)).symm)
local macro_rules | `(tactic| walk_at "hp") => `(tactic| first | assumption | exact L2.upd_same | (rw [L2.upd_ne (by walk_at "ne")]; walk_at "hp"))
local macro_rules | `(tactic| walk_at "sq") => `(tactic| first | assumption | exact L2.SqL.of (by walk_at "hp") | exact My.sq_new (by walk_at "sq") (by assumption))
local macro_rules | `(tactic| walk_at "sd") => `(tactic| first | decide | omega | (unfold L2.CDivN; omega) | (unfold L2.CMul; omega) | (unfold L2.CPow; omega))
local macro_rules | `(tactic| walk_at "sx1") => `(tactic| first | with_reducible refine My.x_seq ?_ | with_reducible refine My.x_asg ?_ | with_reducible refine My.x_ret ?_ | with_reducible refine My.x_next ?_ | with_reducible refine My.x_op ?_ | with_reducible refine My.x_c ?_ | with_reducible refine My.x_ifs ?_ | with_reducible refine My.x_test ?_ | with_reducible refine My.x_exbl ?_ | with_reducible refine My.x_cons ?_ | with_reducible refine My.x_nil ?_ | with_reducible refine My.x_cb ?_ | with_reducible refine My.x_drop ?_ | with_reducible refine My.x_par ?_ | with_reducible refine My.x_exp2 ?_ | with_reducible refine My.x_aug ?_ | with_reducible refine My.x_if ?_ | with_reducible refine My.x_tB ?_ | with_reducible refine My.x_and ?_ | with_reducible refine My.x_or ?_ | with_reducible refine My.x_not ?_ | with_reducible refine My.x_retn ?_ | with_reducible refine My.x_cont ?_ | with_reducible refine My.x_brk ?_ | with_reducible refine My.x_un ?_ | with_reducible refine My.x_tfor ?_ | with_reducible refine My.x_ilist ?_ | with_reducible refine My.x_rng1 ?_ | with_reducible refine My.x_rng2 ?_ | with_reducible refine My.x_r1 ?_ | with_reducible refine My.x_call ?_ | with_reducible refine My.x_sl ?_ | with_reducible refine My.x_part ?_ | with_reducible refine My.x_nopart ?_ | with_reducible refine My.x_ii0 ?_ | with_reducible refine My.x_yes ?_ | with_reducible refine My.x_andv ?_ | with_reducible refine My.x_orv ?_ | with_reducible refine My.x_notv ?_ | with_reducible refine My.x_iT ?_ | with_reducible refine My.x_iF ?_ | with_reducible refine My.x_chain ?_ | with_reducible refine My.x_exI ?_ | with_reducible refine My.x_wipe ?_ | with_reducible refine My.x_bm ?_ | with_reducible refine My.x_bm0 ?_ | with_reducible refine My.x_gsub ?_ | with_reducible refine My.x_int1 ?_ | with_reducible refine My.x_two ?_ | with_reducible refine My.x_lst ?_ | with_reducible refine My.x_tup ?_ | with_reducible refine My.x_revL ?_ | with_reducible refine My.x_dput ?_ | with_reducible refine My.x_dget ?_ | with_reducible refine My.x_dnew ?_ | with_reducible refine My.x_dc ?_ | with_reducible refine My.x_lc ?_ | with_reducible refine My.x_ienum ?_ | with_reducible refine My.x_gcons ?_ | with_reducible refine My.x_gnil ?_ | with_reducible refine My.x_v0 ?_ | with_reducible refine My.x_v1 ?_ | with_reducible refine My.x_v2 ?_ | with_reducible refine My.x_v3 ?_ | with_reducible refine My.x_v4 ?_ | with_reducible refine My.x_v5 ?_ | with_reducible refine My.x_v6 ?_ | with_reducible refine My.x_v7 ?_ | with_reducible refine My.x_v8 ?_ | with_reducible refine My.x_v9 ?_ | with_reducible refine My.x_v10 ?_ | with_reducible refine My.x_v11 ?_ | with_reducible refine My.x_v12 ?_ | with_reducible refine My.x_v13 ?_ | with_reducible refine My.x_v14 ?_ | with_reducible refine My.x_v15 ?_ | with_reducible refine My.x_v16 ?_ | with_reducible refine My.x_v17 ?_ | with_reducible refine My.x_v18 ?_ | with_reducible refine My.x_v19 ?_ | with_reducible refine My.x_v20 ?_ | with_reducible refine My.x_v21 ?_ | with_reducible refine My.x_v22 ?_ | with_reducible refine My.x_v23 ?_ | with_reducible refine My.x_v24 ?_ | with_reducible refine My.x_v25 ?_ | with_reducible refine My.x_g0 ?_ | with_reducible refine My.x_g1 ?_ | with_reducible refine My.x_g2 ?_ | with_reducible refine My.x_g3 ?_ | with_reducible refine My.x_g4 ?_ | with_reducible refine My.x_g5 ?_ | with_reducible refine My.x_g6 ?_ | with_reducible refine My.x_g7 ?_ | with_reducible refine My.x_g8 ?_ | with_reducible refine My.x_g9 ?_ | with_reducible refine My.x_g10 ?_ | with_reducible refine My.x_g11 ?_ | with_reducible refine My.x_g12 ?_ | with_reducible refine My.x_g13 ?_ | with_reducible refine My.x_g14 ?_ | with_reducible refine My.x_g15 ?_ | with_reducible refine My.x_g16 ?_ | with_reducible refine My.x_g17 ?_ | with_reducible refine My.x_g18 ?_ | with_reducible refine My.x_g19 ?_ | with_reducible refine My.x_g20 ?_ | with_reducible refine My.x_g21 ?_ | with_reducible refine My.x_g22 ?_ | with_reducible refine My.x_g23 ?_ | with_reducible refine My.x_g24 ?_ | with_reducible refine My.x_g25 ?_)
local macro_rules | `(tactic| walk_at "sx") => `(tactic| repeat (walk_at "sx1"))
local macro_rules | `(tactic| walk_at "ln") => `(tactic| first | assumption | exact Nat.le_of_ble_eq_true rfl | (simp only [List.length_append, List.length_map, List.length_cons, List.length_nil]; simp only [PySem.sizeLine]; omega))
local macro_rules | `(tactic| walk_at "st") => `(tactic| first | assumption | exact L2.SqT.of (by walk_at "hp"))
local macro_rules | `(tactic| walk_at "go1") => `(tactic| first | walk_at "sx1" | ((with_reducible refine' My.x_ixL ?x0 ?x1 ?x2); (case x0 => walk_at "sq"); (case x1 => exact rfl)) | ((with_reducible refine' My.x_ixT ?x0 ?x1 ?x2); (case x0 => walk_at "st"); (case x1 => exact rfl)) | ((with_reducible refine' My.x_i ?x0 ?x1); (case x0 => walk_at "sd")) | ((with_reducible refine' My.x_setL ?x0 ?x1 ?x2); (case x0 => walk_at "hp"); (case x1 => exact rfl)) | ((with_reducible refine' My.x_len ?x0 ?x1); (case x0 => walk_at "sq")) | ((with_reducible refine' My.x_lenT ?x0 ?x1); (case x0 => walk_at "st")) | ((with_reducible refine' My.x_lenD ?x0 ?x1); (case x0 => walk_at "hp")) | ((with_reducible refine' My.x_append ?x0 ?x1 ?x2); (case x0 => walk_at "hp"); (case x1 => walk_at "ln")) | ((with_reducible refine' My.x_tyL ?x0 ?x1); (case x0 => walk_at "hp")) | ((with_reducible refine' My.x_ilistE ?x0 ?x1); (case x0 => walk_at "sq")) | ((with_reducible refine' My.x_ienumE ?x0 ?x1); (case x0 => walk_at "sq")) | ((with_reducible refine' My.x_sortI ?x0 ?x1); (case x0 => walk_at "sq")) | ((with_reducible refine' My.x_slL ?x0 ?x1); (case x0 => walk_at "sq")) | ((with_reducible refine' My.x_revL2 ?x0 ?x1); (case x0 => walk_at "sq")) | ((with_reducible refine' My.x_eq ?x0 ?x1); (case x0 => exact rfl)) | ((with_reducible refine' My.x_ne ?x0 ?x1); (case x0 => exact rfl)) | ((with_reducible refine' My.x_dputI ?x0 ?x1 ?x2); (case x0 => walk_at "hp"); (case x1 => walk_at "ln")) | ((with_reducible refine' My.x_dputS ?x0 ?x1 ?x2); (case x0 => walk_at "hp"); (case x1 => walk_at "ln")) | ((with_reducible refine' My.x_seqof ?x0 ?x1); (case x0 => walk_at "sq")) | ((with_reducible refine' My.x_gtup ?x0 ?x1 ?x2); (case x0 => walk_at "st"); (case x1 => exact rfl)) | ((with_reducible refine' My.x_mem1 ?x0 ?x1); (case x0 => walk_at "ln")))
local macro_rules | `(tactic| walk_at "go") => `(tactic| repeat (walk_at "go1"))
local macro_rules | `(tactic| walk_at "sx1") => `(tactic| first | with_reducible refine My.x_fld ?_ | with_reducible refine My.x_sfld ?_ | with_reducible refine My.x_meth ?_ | with_reducible refine My.x_make ?_ | with_reducible refine My.x_din ?_ | with_reducible refine My.x_dnin ?_ | with_reducible refine My.x_ikeys ?_ | with_reducible refine My.x_itup ?_ | with_reducible refine My.x_mkO ?_ | with_reducible refine My.x_vei ?_ | with_reducible refine My.x_ost ?_ | with_reducible refine My.x_nF ?_ | with_reducible refine My.x_nT ?_)
local macro_rules | `(tactic| walk_at "go1") => `(tactic| first | ((with_reducible refine' My.x_fldE ?x0 ?x1 ?x2 ?x3 ?x4); (case x0 => walk_at "hp"); (case x1 => assumption); (case x2 => assumption); (case x3 => exact rfl)) | ((with_reducible refine' My.x_sfldE ?x0 ?x1 ?x2 ?x3 ?x4 ?x5); (case x0 => walk_at "hp"); (case x1 => assumption); (case x2 => assumption); (case x3 => decide); (case x4 => exact rfl)) | ((with_reducible refine' My.x_methE ?x0 ?x1 ?x2); (case x0 => walk_at "hp"); (case x1 => exact rfl)) | ((with_reducible refine' My.x_itupE ?x0 ?x1); (case x0 => walk_at "st")))
namespace K41
open PySem PySem.Spec PyProof.Rows L2
section
variable {P : Program} {w : World} {K : PySem.W.Frag} {mg : Str → Option Value} {base : Heap} {tk : Tok}
abbrev CHas (P : Program) (w : World) (K : PySem.W.Frag) (mg : Str → Option Value) (base : Heap) : Prop := My.Cm P w K mg base CX0 "Blocks" "__contains__" ["self", "number"] 2 (sp_has K)
theorem ok_within (T : Tx K mg tk) {fd : FuncData} (F : Fd K d_Blocks_within fd) (C_contains : CHas P w K mg base) : FnOk P w K mg base CX0 3 (He.fAd K d_Blocks_within.at_) fd ["self", "other"] (sp_within K) := by
  have hcls := T.cls
  have hnoat := T.noat
  refine F.ok sc_Blocks_within (fun vs H Q E h => ?_) (fun cdv A outer s H vs Q E hr h => ?_)
  · obtain ⟨b, dx, D, ns, b2, dx2, D2, ms, rfl, _⟩ := h
    rfl
  · obtain ⟨b, dx, D, ns, b2, dx2, D2, ms, rfl, ⟨hb, hD⟩, ⟨hb2, hD2⟩, hin, hin2, hlen, q⟩ := h
    refine ⟨_, PSs.nox ((pss_one (ps_ret (pe_callB (cr_all rfl) (by rfl) T.n_all (by decide +kernel) (pa_cons (pe_lock (pe_lc (own := [("number", 2)]) (g := gName 2) (tt := tYes) rfl sc_Blocks_within.nd (pi_keys (My.pe_fldK (K := K) (by rfl) (pv 0) (by rfl))) (blkOk_by (own := [("number", 2)]) (N := ["self", "other", "number"]) (sc := defScope s_Blocks_within) (by decide +kernel)) (fun _ _ _ _ _ => pg_name (i := 2) sc_Blocks_within.nd rfl (Or.inl rfl)) (fun _ _ _ _ _ => pts_nil) (fun _ _ _ _ _ => (pe_cmpR (My.op_inO C_contains.spc (hr.mono (by decide)) pass0) (pv 2) (pv 1) (by rfl))))) pa_nil))))), ?_⟩
    refine My.x_start (σ := [some (V.ref b), some (V.ref b2), none]) rfl ?_
    try dsimp only [cxOf, Cx.nox]
    walk_at "go"
    have nb : b ≠ D := fun z => by rw [z, hD] at hb; cases hb
    have nb2 : b2 ≠ D := fun z => by rw [z, hD] at hb2; cases hb2
    refine My.x_lockE hD trivial fun od => ?_
    have hbL : upd H D (.frz od (.dK (My.Kt ns))) b = some (.ins (CB K) dx [(("own_numbers" : Str), .ref D)]) := by rw [upd_ne nb]; exact hb
    have hbL2 : upd H D (.frz od (.dK (My.Kt ns))) b2 = some (.ins (CB K) dx2 [(("own_numbers" : Str), .ref D2)]) := by rw [upd_ne nb2]; exact hb2
    have hDL : upd H D (.frz od (.dK (My.Kt ns))) D = some (.frz od (.dK (My.Kt ns))) := upd_same
    have rL : ∀ H', Same (upd H D (.frz od (.dK (My.Kt ns)))) H' → Rd H' D2 (.dK (My.Kt ms)) := fun H' s => rd_lock hD hD2 s
    have bk : ∀ H', Same (upd H D (.frz od (.dK (My.Kt ns)))) H' → Same H (upd H' D (.dK (My.Kt ns))) := fun H' s => lock_same hD s
    have frL : ∀ p, upd H D (.frz od (.dK (My.Kt ns))) p = none → H p = none := fun p h => free_upd h
    generalize upd H D (.frz od (.dK (My.Kt ns))) = HL at hbL hbL2 hDL rL bk frL ⊢
    walk_at "go"
    refine ⟨D, od, rfl, .inl ⟨_, hDL, ?_⟩⟩
    intro L hL
    refine My.lc_runs (runs_kt ns) (fun pre H' => Same HL H' ∧ H' L = some (.lst (pre.map fun n => V.bl (decide (n ∈ ms))))) ⟨My.Same.new (Same.refl HL) hL, upd_same⟩ (fun pre post H' _ h => h.1 _ _ hDL) ?_ ?_
    · rintro pre x post H3 v H4 hpre ⟨s3, e3⟩ ⟨rfl, rfl⟩
      simp only [List.map_cons, List.map_nil, wipe, List.set_cons_succ, List.set_cons_zero]
      walk_at "go"
      refine ⟨rfl, ?_⟩
      walk_at "go"
      refine My.x_inO (s3 _ _ hbL2) ⟨b2, dx2, D2, ms, .int x, rfl, s3 _ _ hbL2, rL _ s3, hin2, .inl ⟨x, rfl, ?_⟩⟩
      refine ⟨_, rfl, _, e3, ?_, My.Same.mut s3 hL, by rw [upd_same, List.map_append]; rfl⟩
      rw [List.length_map]
      show pre.length < 2 ^ 24
      have := congrArg List.length hpre
      rw [List.length_append, List.length_cons] at this
      omega
    · rintro H3 ⟨s3, e3⟩
      have nLD : L ≠ D := (ne_of_none hDL hL).symm
      have sF := bk _ s3
      have eF : upd H3 D (.dK (My.Kt ns)) L = some (.lst ((ns.map fun n => decide (n ∈ ms)).map V.bl)) := by rw [upd_ne nLD, List.map_map]; exact e3
      refine ⟨s3 _ _ hDL, ?_⟩
      generalize upd H3 D (.dK (My.Kt ns)) = HF at sF eF ⊢
      walk_at "go"
      refine My.x_all (SqL.of eF) ?_
      have := q HF sF
      rw [show (ns.map fun n => decide (n ∈ ms)).all id = ns.all fun n => decide (n ∈ ms) by rw [List.all_map]; rfl]
      exact this
theorem ok_and (T : Tx K mg tk) {fd : FuncData} (F : Fd K d_Blocks_and fd) (C_contains : CHas P w K mg base) (M_B : My.Mx P w K mg base (L2.CX P w) "Blocks" ["self", "numbers"] 3 (sp_init K) []) : FnOk P w K mg base CX0 5 (He.fAd K d_Blocks_and.at_) fd ["self", "other"] (sp_bin Rand K) := by
  have hcls := T.cls
  have hnoat := T.noat
  refine F.ok sc_Blocks_and (fun vs H Q E h => ?_) (fun cdv A outer s H vs Q E hr h => ?_)
  · obtain ⟨b, dx, D, ns, b2, dx2, D2, ms, rfl, _⟩ := h
    rfl
  · obtain ⟨b, dx, D, ns, b2, dx2, D2, ms, rfl, ⟨hb, hD⟩, ⟨hb2, hD2⟩, nd, nd2, hin, hin2, hlen, hlen2, q⟩ := h
    refine ⟨_, PSs.nox ((pss_one (ps_ret (My.pe_mx M_B (hr.mono (by decide)) rfl My.passF (pa_cons (pe_lock (pe_lc (own := [("number", 2)]) (g := gName 2)  rfl sc_Blocks_and.nd (pi_keys (My.pe_fldK (K := K) (by rfl) (pv 0) (by rfl))) (blkOk_by (own := [("number", 2)]) (N := ["self", "other", "number"]) (sc := defScope s_Blocks_and) (by decide +kernel)) (fun _ _ _ _ _ => pg_name (i := 2) sc_Blocks_and.nd rfl (Or.inl rfl)) (fun _ _ _ _ _ => pts_one (pt_cmpR (My.op_inO C_contains.spc (hr.mono (by decide)) pass0) (pv 2) (pv 1) (by rfl))) (fun _ _ _ _ _ => (pv 2)))) pa_nil))))), ?_⟩
    refine My.x_start (σ := [some (V.ref b), some (V.ref b2), none]) rfl ?_
    try dsimp only [cxOf, Cx.nox]
    walk_at "go"
    have nb : b ≠ D := fun z => by rw [z, hD] at hb; cases hb
    have nb2 : b2 ≠ D := fun z => by rw [z, hD] at hb2; cases hb2
    refine My.x_lockE hD trivial fun od => ?_
    have hbL : upd H D (.frz od (.dK (My.Kt ns))) b = some (.ins (CB K) dx [(("own_numbers" : Str), .ref D)]) := by rw [upd_ne nb]; exact hb
    have hbL2 : upd H D (.frz od (.dK (My.Kt ns))) b2 = some (.ins (CB K) dx2 [(("own_numbers" : Str), .ref D2)]) := by rw [upd_ne nb2]; exact hb2
    have hDL : upd H D (.frz od (.dK (My.Kt ns))) D = some (.frz od (.dK (My.Kt ns))) := upd_same
    have rL : ∀ H', Same (upd H D (.frz od (.dK (My.Kt ns)))) H' → Rd H' D2 (.dK (My.Kt ms)) := fun H' s => rd_lock hD hD2 s
    have bk : ∀ H', Same (upd H D (.frz od (.dK (My.Kt ns)))) H' → Same H (upd H' D (.dK (My.Kt ns))) := fun H' s => lock_same hD s
    have frL : ∀ p, upd H D (.frz od (.dK (My.Kt ns))) p = none → H p = none := fun p h => free_upd h
    generalize upd H D (.frz od (.dK (My.Kt ns))) = HL at hbL hbL2 hDL rL bk frL ⊢
    walk_at "go"
    refine ⟨D, od, rfl, .inl ⟨_, hDL, ?_⟩⟩
    intro L hL
    have pk : ∀ n, decide (n ∈ ms) = true ∨ decide (n ∈ ms) = false := fun n => by cases decide (n ∈ ms) <;> simp
    refine My.lc_runs (runs_kt ns) (fun pre H' => Same HL H' ∧ H' L = some (.lst ((pre.filter fun n => decide (n ∈ ms)).map V.int))) ⟨My.Same.new (Same.refl HL) hL, upd_same⟩ (fun pre post H' _ h => h.1 _ _ hDL) ?_ ?_
    · rintro pre x post H3 v H4 hpre ⟨s3, e3⟩ ⟨rfl, rfl⟩
      simp only [List.map_cons, List.map_nil, wipe, List.set_cons_succ, List.set_cons_zero]
      have hfl : (pre.filter fun n => decide (n ∈ ms)).length ≤ ns.length := by
        have := List.length_filter_le (fun n => decide (n ∈ ms)) pre
        rw [hpre, List.length_append]; omega
      walk_at "go"
      refine ⟨rfl, ?_⟩
      walk_at "go"
      refine My.x_inO (s3 _ _ hbL2) ⟨b2, dx2, D2, ms, .int x, rfl, s3 _ _ hbL2, rL _ s3, hin2, .inl ⟨x, rfl, ?_⟩⟩
      walk_at "go"
      by_cases hx : x ∈ ms
      · rw [decide_eq_true hx]
        simp only [Bool.false_eq_true, if_false, if_true]
        walk_at "go"
        exact ⟨_, e3, by rw [List.length_map]; show _ < 2 ^ 24; omega, My.Same.mut s3 hL, by rw [upd_same, List.filter_append, List.filter_cons_of_pos (by simp [hx]), List.filter_nil, List.map_append]; rfl⟩
      · rw [decide_eq_false hx]
        simp only [Bool.false_eq_true, if_false, if_true]
        walk_at "go"
        exact ⟨s3, by rw [List.filter_append, List.filter_cons_of_neg (by simp [hx]), List.filter_nil, List.append_nil]; exact e3⟩
    · rintro H3 ⟨s3, e3⟩
      have nLD : L ≠ D := (ne_of_none hDL hL).symm
      have sF := bk _ s3
      have eF : upd H3 D (.dK (My.Kt ns)) L = some (.lst ((ns.filter fun n => decide (n ∈ ms)).map V.int)) := by rw [upd_ne nLD]; exact e3
      refine ⟨s3 _ _ hDL, ?_⟩
      generalize upd H3 D (.dK (My.Kt ns)) = HF at sF eF ⊢
      walk_at "go"
      have hfl := List.length_filter_le (fun n => decide (n ∈ ms)) ns
      refine x_mkB (.inl (SqL.of eF)) (fun n hn => hin n (List.mem_filter.mp hn).1) (by omega) fun c dy E2 l H5 hc hE s5 hB hnd hm hl => ?_
      refine q c dy E2 l H5 (sF.free hc) (sF.free hE) (sF.trans s5) hB hnd (fun x => ?_) (by omega)
      rw [hm, List.mem_filter]
      simp [Rand]
theorem ok_sub (T : Tx K mg tk) {fd : FuncData} (F : Fd K d_Blocks_sub fd) (C_contains : CHas P w K mg base) (M_B : My.Mx P w K mg base (L2.CX P w) "Blocks" ["self", "numbers"] 3 (sp_init K) []) : FnOk P w K mg base CX0 5 (He.fAd K d_Blocks_sub.at_) fd ["self", "other"] (sp_bin Rsub K) := by
  have hcls := T.cls
  have hnoat := T.noat
  refine F.ok sc_Blocks_sub (fun vs H Q E h => ?_) (fun cdv A outer s H vs Q E hr h => ?_)
  · obtain ⟨b, dx, D, ns, b2, dx2, D2, ms, rfl, _⟩ := h
    rfl
  · obtain ⟨b, dx, D, ns, b2, dx2, D2, ms, rfl, ⟨hb, hD⟩, ⟨hb2, hD2⟩, nd, nd2, hin, hin2, hlen, hlen2, q⟩ := h
    refine ⟨_, PSs.nox ((pss_one (ps_ret (My.pe_mx M_B (hr.mono (by decide)) rfl My.passF (pa_cons (pe_lock (pe_lc (own := [("number", 2)]) (g := gName 2)  rfl sc_Blocks_sub.nd (pi_keys (My.pe_fldK (K := K) (by rfl) (pv 0) (by rfl))) (blkOk_by (own := [("number", 2)]) (N := ["self", "other", "number"]) (sc := defScope s_Blocks_sub) (by decide +kernel)) (fun _ _ _ _ _ => pg_name (i := 2) sc_Blocks_sub.nd rfl (Or.inl rfl)) (fun _ _ _ _ _ => pts_one (pt_cmpR (My.op_notInO C_contains.spc (hr.mono (by decide)) pass0) (pv 2) (pv 1) (by rfl))) (fun _ _ _ _ _ => (pv 2)))) pa_nil))))), ?_⟩
    refine My.x_start (σ := [some (V.ref b), some (V.ref b2), none]) rfl ?_
    try dsimp only [cxOf, Cx.nox]
    walk_at "go"
    have nb : b ≠ D := fun z => by rw [z, hD] at hb; cases hb
    have nb2 : b2 ≠ D := fun z => by rw [z, hD] at hb2; cases hb2
    refine My.x_lockE hD trivial fun od => ?_
    have hbL : upd H D (.frz od (.dK (My.Kt ns))) b = some (.ins (CB K) dx [(("own_numbers" : Str), .ref D)]) := by rw [upd_ne nb]; exact hb
    have hbL2 : upd H D (.frz od (.dK (My.Kt ns))) b2 = some (.ins (CB K) dx2 [(("own_numbers" : Str), .ref D2)]) := by rw [upd_ne nb2]; exact hb2
    have hDL : upd H D (.frz od (.dK (My.Kt ns))) D = some (.frz od (.dK (My.Kt ns))) := upd_same
    have rL : ∀ H', Same (upd H D (.frz od (.dK (My.Kt ns)))) H' → Rd H' D2 (.dK (My.Kt ms)) := fun H' s => rd_lock hD hD2 s
    have bk : ∀ H', Same (upd H D (.frz od (.dK (My.Kt ns)))) H' → Same H (upd H' D (.dK (My.Kt ns))) := fun H' s => lock_same hD s
    have frL : ∀ p, upd H D (.frz od (.dK (My.Kt ns))) p = none → H p = none := fun p h => free_upd h
    generalize upd H D (.frz od (.dK (My.Kt ns))) = HL at hbL hbL2 hDL rL bk frL ⊢
    walk_at "go"
    refine ⟨D, od, rfl, .inl ⟨_, hDL, ?_⟩⟩
    intro L hL
    have pk : ∀ n, decide (n ∈ ms) = true ∨ decide (n ∈ ms) = false := fun n => by cases decide (n ∈ ms) <;> simp
    refine My.lc_runs (runs_kt ns) (fun pre H' => Same HL H' ∧ H' L = some (.lst ((pre.filter fun n => !decide (n ∈ ms)).map V.int))) ⟨My.Same.new (Same.refl HL) hL, upd_same⟩ (fun pre post H' _ h => h.1 _ _ hDL) ?_ ?_
    · rintro pre x post H3 v H4 hpre ⟨s3, e3⟩ ⟨rfl, rfl⟩
      simp only [List.map_cons, List.map_nil, wipe, List.set_cons_succ, List.set_cons_zero]
      have hfl : (pre.filter fun n => !decide (n ∈ ms)).length ≤ ns.length := by
        have := List.length_filter_le (fun n => !decide (n ∈ ms)) pre
        rw [hpre, List.length_append]; omega
      walk_at "go"
      refine ⟨rfl, ?_⟩
      walk_at "go"
      refine My.x_inO (s3 _ _ hbL2) ⟨b2, dx2, D2, ms, .int x, rfl, s3 _ _ hbL2, rL _ s3, hin2, .inl ⟨x, rfl, ?_⟩⟩
      walk_at "go"
      by_cases hx : x ∈ ms
      · rw [decide_eq_true hx]
        simp only [if_true, Bool.not_true]
        walk_at "go"
        exact ⟨s3, by rw [List.filter_append, List.filter_cons_of_neg (by simp [hx]), List.filter_nil, List.append_nil]; exact e3⟩
      · rw [decide_eq_false hx]
        simp only [if_true, Bool.not_false]
        walk_at "go"
        exact ⟨_, e3, by rw [List.length_map]; show _ < 2 ^ 24; omega, My.Same.mut s3 hL, by rw [upd_same, List.filter_append, List.filter_cons_of_pos (by simp [hx]), List.filter_nil, List.map_append]; rfl⟩
    · rintro H3 ⟨s3, e3⟩
      have nLD : L ≠ D := (ne_of_none hDL hL).symm
      have sF := bk _ s3
      have eF : upd H3 D (.dK (My.Kt ns)) L = some (.lst ((ns.filter fun n => !decide (n ∈ ms)).map V.int)) := by rw [upd_ne nLD]; exact e3
      refine ⟨s3 _ _ hDL, ?_⟩
      generalize upd H3 D (.dK (My.Kt ns)) = HF at sF eF ⊢
      walk_at "go"
      have hfl := List.length_filter_le (fun n => !decide (n ∈ ms)) ns
      refine x_mkB (.inl (SqL.of eF)) (fun n hn => hin n (List.mem_filter.mp hn).1) (by omega) fun c dy E2 l H5 hc hE s5 hB hnd hm hl => ?_
      refine q c dy E2 l H5 (sF.free hc) (sF.free hE) (sF.trans s5) hB hnd (fun x => ?_) (by omega)
      rw [hm, List.mem_filter]
      simp [Rsub]
end
end K41

end

section
local macro_rules | `(tactic| walk_at "ne") => `(tactic| first | assumption | (apply Ne.symm; assumption) | exact L2.ne_of_none (by assumption) (by assumption) | exact (L2.ne_of_none (by assumption) (by assumption)).symm)
local macro_rules | `(tactic| walk_at "hp") => `(tactic| first | assumption | exact L2.upd_same | (rw [L2.upd_ne (by walk_at "ne")]; walk_at "hp"))
local macro_rules | `(tactic| walk_at "sq") => `(tactic| first | assumption | exact L2.SqL.of (by walk_at "hp") | exact My.sq_new (by walk_at "sq") (by assumption))
local macro_rules | `(tactic| walk_at "sd") => `(tactic| first | decide | omega | (unfold L2.CDivN; omega) | (unfold L2.CMul; omega) | (unfold L2.CPow; omega))
local macro_rules | `(tactic| walk_at "sx1") => `(tactic| first | with_reducible refine My.x_seq ?_ | with_reducible refine My.x_asg ?_ | with_reducible refine My.x_ret ?_ | with_reducible refine My.x_next ?_ | with_reducible refine My.x_op ?_ | with_reducible refine My.x_c ?_ | with_reducible refine My.x_ifs ?_ | with_reducible refine My.x_test ?_ | with_reducible refine My.x_exbl ?_ | with_reducible refine My.x_cons ?_ | with_reducible refine My.x_nil ?_ | with_reducible refine My.x_cb ?_ | with_reducible refine My.x_drop ?_ | with_reducible refine My.x_par ?_ | with_reducible refine My.x_exp2 ?_ | with_reducible refine My.x_aug ?_ | with_reducible refine My.x_if ?_ | with_reducible refine My.x_tB ?_ | with_reducible refine My.x_and ?_ | with_reducible refine My.x_or ?_ | with_reducible refine My.x_not ?_ | with_reducible refine My.x_retn ?_ | with_reducible refine My.x_cont ?_ | with_reducible refine My.x_brk ?_ | with_reducible refine My.x_un ?_ | with_reducible refine My.x_tfor ?_ | with_reducible refine My.x_ilist ?_ | with_reducible refine My.x_rng1 ?_ | with_reducible refine My.x_rng2 ?_ | with_reducible refine My.x_r1 ?_ | with_reducible refine My.x_call ?_ | with_reducible refine My.x_sl ?_ | with_reducible refine My.x_part ?_ | with_reducible refine My.x_nopart ?_ | with_reducible refine My.x_ii0 ?_ | with_reducible refine My.x_yes ?_ | with_reducible refine My.x_andv ?_ | with_reducible refine My.x_orv ?_ | with_reducible refine My.x_notv ?_ | with_reducible refine My.x_iT ?_ | with_reducible refine My.x_iF ?_ | with_reducible refine My.x_chain ?_ | with_reducible refine My.x_exI ?_ | with_reducible refine My.x_wipe ?_ | with_reducible refine My.x_bm ?_ | with_reducible refine My.x_bm0 ?_ | with_reducible refine My.x_gsub ?_ | with_reducible refine My.x_int1 ?_ | with_reducible refine My.x_two ?_ | with_reducible refine My.x_lst ?_ | with_reducible refine My.x_tup ?_ | with_reducible refine My.x_revL ?_ | with_reducible refine My.x_dput ?_ | with_reducible refine My.x_dget ?_ | with_reducible refine My.x_dnew ?_ | with_reducible refine My.x_dc ?_ | with_reducible refine My.x_lc ?_ | with_reducible refine My.x_ienum ?_ | with_reducible refine My.x_gcons ?_ | with_reducible refine My.x_gnil ?_ | with_reducible refine My.x_v0 ?_ | with_reducible refine My.x_v1 ?_ | with_reducible refine My.x_v2 ?_ | with_reducible refine My.x_v3 ?_ | with_reducible refine My.x_v4 ?_ | with_reducible refine My.x_v5 ?_ | with_reducible refine My.x_v6 ?_ | with_reducible refine My.x_v7 ?_ | with_reducible refine My.x_v8 ?_ | with_reducible refine My.x_v9 ?_ | with_reducible refine My.x_v10 ?_ | with_reducible refine My.x_v11 ?_ | with_reducible refine My.x_v12 ?_ | with_reducible refine My.x_v13 ?_ | with_reducible refine My.x_v14 ?_ | with_reducible refine My.x_v15 ?_ | with_reducible refine My.x_v16 ?_ | with_reducible refine My.x_v17 ?_ | with_reducible refine My.x_v18 ?_ | with_reducible refine My.x_v19 ?_ | with_reducible refine My.x_v20 ?_ | with_reducible refine My.x_v21 ?_ | with_reducible refine My.x_v22 ?_ | with_reducible refine My.x_v23 ?_ | with_reducible refine My.x_v24 ?_ | with_reducible refine My.x_v25 ?_ | with_reducible refine My.x_g0 ?_ | with_reducible refine My.x_g1 ?_ | with_reducible refine My.x_g2 ?_ | with_reducible refine My.x_g3 ?_ | with_reducible refine My.x_g4 ?_ | with_reducible refine My.x_g5 ?_ | with_reducible refine My.x_g6 ?_ | with_reducible refine My.x_g7 ?_ | with_reducible refine My.x_g8 ?_ | with_reducible refine My.x_g9 ?_ | with_reducible refine My.x_g10 ?_ | with_reducible refine My.x_g11 ?_ | with_reducible refine My.x_g12 ?_ | with_reducible refine My.x_g13 ?_ | with_reducible refine My.x_g14 ?_ | with_reducible refine My.x_g15 ?_ | with_reducible refine My.x_g16 ?_ | with_reducible refine My.x_g17 ?_ | with_reducible refine My.x_g18 ?_ | with_reducible refine My.x_g19 ?_ | with_reducible refine My.x_g20 ?_ | with_reducible refine My.x_g21 ?_ | with_reducible refine My.x_g22 ?_ | with_reducible refine My.x_g23 ?_ | with_reducible refine My.x_g24 ?_ | with_reducible refine My.x_g25 ?_)
local macro_rules | `(tactic| walk_at "sx") => `(tactic| repeat (walk_at "sx1"))
local macro_rules | `(tactic| walk_at "ln") => `(tactic| first | assumption | exact Nat.le_of_ble_eq_true rfl | (simp only [List.length_append, List.length_map, List.length_cons, List.length_nil]; simp only [PySem.sizeLine]; omega))
local macro_rules | `(tactic| walk_at "st") => `(tactic| first | assumption | exact L2.SqT.of (by walk_at "hp"))
local macro_rules | `(tactic| walk_at "go1") => `(tactic| first | walk_at "sx1" | ((with_reducible refine' My.x_ixL ?x0 ?x1 ?x2); (case x0 => walk_at "sq"); (case x1 => exact rfl)) | ((with_reducible refine' My.x_ixT ?x0 ?x1 ?x2); (case x0 => walk_at "st"); (case x1 => exact rfl)) | ((with_reducible refine' My.x_i ?x0 ?x1); (case x0 => walk_at "sd")) | ((with_reducible refine' My.x_setL ?x0 ?x1 ?x2); (case x0 => walk_at "hp"); (case x1 => exact rfl)) | ((with_reducible refine' My.x_len ?x0 ?x1); (case x0 => walk_at "sq")) | ((with_reducible refine' My.x_lenT ?x0 ?x1); (case x0 => walk_at "st")) | ((with_reducible refine' My.x_lenD ?x0 ?x1); (case x0 => walk_at "hp")) | ((with_reducible refine' My.x_append ?x0 ?x1 ?x2); (case x0 => walk_at "hp"); (case x1 => walk_at "ln")) | ((with_reducible refine' My.x_tyL ?x0 ?x1); (case x0 => walk_at "hp")) | ((with_reducible refine' My.x_ilistE ?x0 ?x1); (case x0 => walk_at "sq")) | ((with_reducible refine' My.x_ienumE ?x0 ?x1); (case x0 => walk_at "sq")) | ((with_reducible refine' My.x_sortI ?x0 ?x1); (case x0 => walk_at "sq")) | ((with_reducible refine' My.x_slL ?x0 ?x1); (case x0 => walk_at "sq")) | ((with_reducible refine' My.x_revL2 ?x0 ?x1); (case x0 => walk_at "sq")) | ((with_reducible refine' My.x_eq ?x0 ?x1); (case x0 => exact rfl)) | ((with_reducible refine' My.x_ne ?x0 ?x1); (case x0 => exact rfl)) | ((with_reducible refine' My.x_dputI ?x0 ?x1 ?x2); (case x0 => walk_at "hp"); (case x1 => walk_at "ln")) | ((with_reducible refine' My.x_dputS ?x0 ?x1 ?x2); (case x0 => walk_at "hp"); (case x1 => walk_at "ln")) | ((with_reducible refine' My.x_seqof ?x0 ?x1); (case x0 => walk_at "sq")) | ((with_reducible refine' My.x_gtup ?x0 ?x1 ?x2); (case x0 => walk_at "st"); (case x1 => exact rfl)) | ((with_reducible refine' My.x_mem1 ?x0 ?x1); (case x0 => walk_at "ln")))
local macro_rules | `(tactic| walk_at "go") => `(tactic| repeat (walk_at "go1"))
local macro_rules | `(tactic| walk_at "sx1") => `(tactic| first | with_reducible refine My.x_fld ?_ | with_reducible refine My.x_sfld ?_ | with_reducible refine My.x_meth ?_ | with_reducible refine My.x_make ?_ | with_reducible refine My.x_din ?_ | with_reducible refine My.x_dnin ?_ | with_reducible refine My.x_ikeys ?_ | with_reducible refine My.x_itup ?_ | with_reducible refine My.x_mkO ?_ | with_reducible refine My.x_vei ?_ | with_reducible refine My.x_ost ?_ | with_reducible refine My.x_nF ?_ | with_reducible refine My.x_nT ?_)
local macro_rules | `(tactic| walk_at "go1") => `(tactic| first | ((with_reducible refine' My.x_fldE ?x0 ?x1 ?x2 ?x3 ?x4); (case x0 => walk_at "hp"); (case x1 => assumption); (case x2 => assumption); (case x3 => exact rfl)) | ((with_reducible refine' My.x_sfldE ?x0 ?x1 ?x2 ?x3 ?x4 ?x5); (case x0 => walk_at "hp"); (case x1 => assumption); (case x2 => assumption); (case x3 => decide); (case x4 => exact rfl)) | ((with_reducible refine' My.x_methE ?x0 ?x1 ?x2); (case x0 => walk_at "hp"); (case x1 => exact rfl)) | ((with_reducible refine' My.x_itupE ?x0 ?x1); (case x0 => walk_at "st")))
namespace K41
open PySem PySem.Spec PyProof.Rows L2
theorem Blk.same {K : PySem.W.Frag} {H H' : Hp} {b dx D : Addr} {ns : List Int} (h : Blk K H b dx D ns) (s : Same H H') : Blk K H' b dx D ns := ⟨s _ _ h.1, s _ _ h.2⟩
theorem strict_nodup {l : List Int} (h : l.Pairwise (· < ·)) : l.Nodup := h.imp fun {a b} p => by omega
section
variable {P : Program} {w : World} {K : PySem.W.Frag} {mg : Str → Option Value} {base : Heap} {tk : Tok}
abbrev CListed (P : Program) (w : World) (K : PySem.W.Frag) (mg : Str → Option Value) (base : Heap) : Prop := My.Cm P w K mg base CX0 "Blocks" "listed" ["self"] 1 (sp_listed K)
abbrev MBl (P : Program) (w : World) (K : PySem.W.Frag) (mg : Str → Option Value) (base : Heap) : Prop := My.Mx P w K mg base (L2.CX P w) "Blocks" ["self", "numbers"] 3 (sp_init K) []
theorem ok_or (T : Tx K mg tk) {fd : FuncData} (F : Fd K d_Blocks_or fd) (C_listed : CListed P w K mg base) (M_B : MBl P w K mg base) : FnOk P w K mg base CX0 5 (He.fAd K d_Blocks_or.at_) fd ["self", "other"] (sp_bin Ror K) := by
  have hcls := T.cls
  have hnoat := T.noat
  refine F.ok sc_Blocks_or (fun vs H Q E h => ?_) (fun cdv A outer s H vs Q E hr h => ?_)
  · obtain ⟨b, dx, D, ns, b2, dx2, D2, ms, rfl, _⟩ := h
    rfl
  · obtain ⟨b, dx, D, ns, b2, dx2, D2, ms, rfl, hB, hB2, nd, nd2, hin, hin2, hlen, hlen2, q⟩ := h
    obtain ⟨hb, hD⟩ := id hB
    obtain ⟨hb2, hD2⟩ := id hB2
    refine ⟨_, PSs.nox ((pss_one (ps_ret (My.pe_mx M_B (hr.mono (by decide)) rfl My.passF (pa_cons (pe_op op_cat (My.pe_cm0 C_listed (hr.mono (by decide)) pass0 (pv 0)) (My.pe_cm0 C_listed (hr.mono (by decide)) pass0 (pv 1))) pa_nil))))), ?_⟩
    refine My.x_start (σ := [some (V.ref b), some (V.ref b2)]) rfl ?_
    try dsimp only [cxOf, Cx.nox]
    walk_at "go"
    refine ⟨b, dx, D, ns, rfl, hB, nd, by omega, fun S p hS hm hl hp => ?_⟩
    have s1 := My.Same.new (o := .lst (S.map V.int)) (Same.refl H) hp
    have e1 : upd H p (.lst (S.map V.int)) p = some (.lst (S.map V.int)) := upd_same
    have hb21 := s1 _ _ hb2
    generalize upd H p (.lst (S.map V.int)) = H1 at s1 e1 hb21 ⊢
    walk_at "go"
    refine ⟨b2, dx2, D2, ms, rfl, hB2.same s1, nd2, by omega, fun S2 p2 hS2 hm2 hl2 hp2 => ?_⟩
    have s2 := My.Same.new (o := .lst (S2.map V.int)) s1 hp2
    have e2 : upd H1 p2 (.lst (S2.map V.int)) p = some (.lst (S.map V.int)) := by rw [upd_ne (ne_of_none e1 hp2)]; exact e1
    refine My.x_cat e2 upd_same (by rw [List.length_map, List.length_map]; show _ ≤ 2 ^ 24; omega) fun p3 hp3 => ?_
    rw [← List.map_append]
    have s3 := My.Same.new (o := .lst ((S ++ S2).map V.int)) s2 hp3
    walk_at "go"
    refine x_mkB (.inl (SqL.of upd_same)) (fun n hn => ?_) (by rw [List.length_append]; omega) fun c dy E2 l H5 hc hE s5 hB5 hnd hml hl5 => ?_
    · rcases List.mem_append.mp hn with z | z
      · exact hin n ((hm n).mp z)
      · exact hin2 n ((hm2 n).mp z)
    · refine q c dy E2 l H5 (s3.free hc) (s3.free hE) (s3.trans s5) hB5 hnd (fun x => ?_) (by rw [List.length_append] at hl5; omega)
      rw [hml, List.mem_append, hm, hm2]
      rfl
theorem ok_xor (T : Tx K mg tk) {fd : FuncData} (F : Fd K d_Blocks_xor fd) (C_contains : CHas P w K mg base) (C_listed : CListed P w K mg base) (M_B : MBl P w K mg base) : FnOk P w K mg base CX0 5 (He.fAd K d_Blocks_xor.at_) fd ["self", "other"] (sp_bin Rxor K) := by
  have hcls := T.cls
  have hnoat := T.noat
  refine F.ok sc_Blocks_xor (fun vs H Q E h => ?_) (fun cdv A outer s H vs Q E hr h => ?_)
  · obtain ⟨b, dx, D, ns, b2, dx2, D2, ms, rfl, _⟩ := h
    rfl
  · obtain ⟨b, dx, D, ns, b2, dx2, D2, ms, rfl, hB, hB2, nd, nd2, hin, hin2, hlen, hlen2, q⟩ := h
    obtain ⟨hb, hD⟩ := id hB
    obtain ⟨hb2, hD2⟩ := id hB2
    refine ⟨_, PSs.nox ((pss_cons (ps_lock (ps_setLc (i := 2) (own := [("number", 3)]) (g := gName 3)  rfl sc_Blocks_xor.nd rfl rfl (sw_true rfl rfl rfl (by decide +kernel)) (pi_keys (My.pe_fldK (K := K) (by rfl) (pv 0) (by rfl))) (blkOk_by (own := [("number", 3)]) (N := ["self", "other", "mine", "number"]) (sc := defScope s_Blocks_xor) (by decide +kernel)) (fun _ _ _ _ _ => pg_name (i := 3) sc_Blocks_xor.nd rfl (Or.inl rfl)) (fun _ _ _ _ _ => pts_one (pt_cmpR (My.op_notInO C_contains.spc (hr.mono (by decide)) pass0) (pv 3) (pv 1) (by rfl))) (fun _ _ _ _ _ => (pv 3))))
  (pss_one (ps_ret (My.pe_mx M_B (hr.mono (by decide)) rfl My.passF (pa_cons (pe_op op_cat (pv 2) (pe_lc (own := [("number", 3)]) (g := gName 3)  rfl sc_Blocks_xor.nd (pi_list (My.pe_cm0 C_listed (hr.mono (by decide)) pass0 (pv 1))) (blkOk_by (own := [("number", 3)]) (N := ["self", "other", "mine", "number"]) (sc := defScope s_Blocks_xor) (by decide +kernel)) (fun _ _ _ _ _ => pg_name (i := 3) sc_Blocks_xor.nd rfl (Or.inl rfl)) (fun _ _ _ _ _ => pts_one (pt_cmp (pc_dnotin (by exact hu_of hr) (pv 3) (My.pe_fldK (K := K) (by rfl) (pv 0) (by rfl))))) (fun _ _ _ _ _ => (pv 3)))) pa_nil)))))), ?_⟩
    refine My.x_start (σ := [some (V.ref b), some (V.ref b2), none, none]) rfl ?_
    try dsimp only [cxOf, Cx.nox]
    walk_at "go"
    have nb : b ≠ D := fun z => by rw [z, hD] at hb; cases hb
    have nb2 : b2 ≠ D := fun z => by rw [z, hD] at hb2; cases hb2
    refine My.x_lock hD trivial fun od => ?_
    have hbL : upd H D (.frz od (.dK (My.Kt ns))) b = some (.ins (CB K) dx [(("own_numbers" : Str), .ref D)]) := by rw [upd_ne nb]; exact hb
    have hbL2 : upd H D (.frz od (.dK (My.Kt ns))) b2 = some (.ins (CB K) dx2 [(("own_numbers" : Str), .ref D2)]) := by rw [upd_ne nb2]; exact hb2
    have hDL : upd H D (.frz od (.dK (My.Kt ns))) D = some (.frz od (.dK (My.Kt ns))) := upd_same
    have rL : ∀ H', Same (upd H D (.frz od (.dK (My.Kt ns)))) H' → Rd H' D2 (.dK (My.Kt ms)) := fun H' s => rd_lock hD hD2 s
    have bk : ∀ H', Same (upd H D (.frz od (.dK (My.Kt ns)))) H' → Same H (upd H' D (.dK (My.Kt ns))) := fun H' s => lock_same hD s
    have frL : ∀ p, upd H D (.frz od (.dK (My.Kt ns))) p = none → H p = none := fun p h => free_upd h
    generalize upd H D (.frz od (.dK (My.Kt ns))) = HL at hbL hbL2 hDL rL bk frL ⊢
    walk_at "go"
    refine ⟨D, od, rfl, .inl ⟨_, hDL, ?_⟩⟩
    intro L hL
    have pk : ∀ n, decide (n ∈ ms) = true ∨ decide (n ∈ ms) = false := fun n => by cases decide (n ∈ ms) <;> simp
    refine My.lc_runs (runs_kt ns) (fun pre H' => Same HL H' ∧ H' L = some (.lst ((pre.filter fun n => !decide (n ∈ ms)).map V.int))) ⟨My.Same.new (Same.refl HL) hL, upd_same⟩ (fun pre post H' _ h => h.1 _ _ hDL) ?_ ?_
    · rintro pre x post H3 v H4 hpre ⟨s3, e3⟩ ⟨rfl, rfl⟩
      simp only [List.map_cons, List.map_nil, wipe, List.set_cons_succ, List.set_cons_zero]
      have hfl : (pre.filter fun n => !decide (n ∈ ms)).length ≤ ns.length := by
        have := List.length_filter_le (fun n => !decide (n ∈ ms)) pre
        rw [hpre, List.length_append]; omega
      walk_at "go"
      refine ⟨rfl, ?_⟩
      walk_at "go"
      refine My.x_inO (s3 _ _ hbL2) ⟨b2, dx2, D2, ms, .int x, rfl, s3 _ _ hbL2, rL _ s3, hin2, .inl ⟨x, rfl, ?_⟩⟩
      walk_at "go"
      by_cases hx : x ∈ ms
      · rw [decide_eq_true hx]
        simp only [if_true, Bool.not_true]
        walk_at "go"
        exact ⟨s3, by rw [List.filter_append, List.filter_cons_of_neg (by simp [hx]), List.filter_nil, List.append_nil]; exact e3⟩
      · rw [decide_eq_false hx]
        simp only [if_true, Bool.not_false]
        walk_at "go"
        exact ⟨_, e3, by rw [List.length_map]; show _ < 2 ^ 24; omega, My.Same.mut s3 hL, by rw [upd_same, List.filter_append, List.filter_cons_of_pos (by simp [hx]), List.filter_nil, List.map_append]; rfl⟩
    · rintro H3 ⟨s3, e3⟩
      have nLD : L ≠ D := (ne_of_none hDL hL).symm
      have sF := bk _ s3
      have eF : upd H3 D (.dK (My.Kt ns)) L = some (.lst ((ns.filter fun n => !decide (n ∈ ms)).map V.int)) := by rw [upd_ne nLD]; exact e3
      walk_at "go"
      refine ⟨s3 _ _ hDL, ?_⟩
      generalize upd H3 D (.dK (My.Kt ns)) = HF at sF eF ⊢
      have hb2F := sF _ _ hb2
      walk_at "go"
      refine ⟨b2, dx2, D2, ms, rfl, hB2.same sF, nd2, by omega, fun S p hS hm hl hp => ?_⟩
      have s4 := My.Same.new (o := .lst (S.map V.int)) sF hp
      have e4 : upd HF p (.lst (S.map V.int)) p = some (.lst (S.map V.int)) := upd_same
      have eF4 : upd HF p (.lst (S.map V.int)) L = some (.lst ((ns.filter fun n => !decide (n ∈ ms)).map V.int)) := by rw [upd_ne (ne_of_none eF hp)]; exact eF
      generalize upd HF p (.lst (S.map V.int)) = H4 at s4 e4 eF4 ⊢
      walk_at "go"
      intro L2 hL2
      refine My.lc_runs (My.runs_list (K := K) (a := p) V.int S) (fun pre H' => Same H4 H' ∧ H' L2 = some (.lst ((pre.filter fun n => !decide (n ∈ ns)).map V.int))) ⟨My.Same.new (Same.refl H4) hL2, upd_same⟩ (fun pre post H' _ h => h.1.seq (SqL.of e4)) ?_ ?_
      · rintro pre x post H5 v H6 hpre ⟨s5, e5⟩ ⟨rfl, rfl⟩
        simp only [List.map_cons, List.map_nil, wipe, List.set_cons_succ, List.set_cons_zero]
        have hfl : (pre.filter fun n => !decide (n ∈ ns)).length ≤ S.length := by
          have := List.length_filter_le (fun n => !decide (n ∈ ns)) pre
          rw [hpre, List.length_append]; omega
        have hb6 := s5 _ _ (s4 _ _ hb)
        walk_at "go"
        refine ⟨rfl, ?_⟩
        walk_at "go"
        refine My.x_dinI (.inl (s5 _ _ (s4 _ _ hD))) ?_
        rw [My.Kt_val]
        by_cases hx : x ∈ ns
        · rw [if_pos hx]
          walk_at "go"
          simp only [Option.isSome_some, Bool.not_true, Bool.false_eq_true, if_false]
          exact ⟨s5, by rw [List.filter_append, List.filter_cons_of_neg (by simp [hx]), List.filter_nil, List.append_nil]; exact e5⟩
        · rw [if_neg hx]
          walk_at "go"
          simp only [Option.isSome_none, Bool.not_false, if_true]
          walk_at "go"
          exact ⟨_, e5, by rw [List.length_map]; show _ < 2 ^ 24; omega, My.Same.mut s5 hL2, by rw [upd_same, List.filter_append, List.filter_cons_of_pos (by simp [hx]), List.filter_nil, List.map_append]; rfl⟩
      · rintro H5 ⟨s5, e5⟩
        have f1 := List.length_filter_le (fun n => !decide (n ∈ ms)) ns
        have f2 := List.length_filter_le (fun n => !decide (n ∈ ns)) S
        refine My.x_cat (s5 _ _ eF4) e5 (by rw [List.length_map, List.length_map]; show _ ≤ 2 ^ 24; omega) fun p3 hp3 => ?_
        rw [← List.map_append]
        have s6 := My.Same.new (o := .lst (((ns.filter fun n => !decide (n ∈ ms)) ++ S.filter fun n => !decide (n ∈ ns)).map V.int)) (s4.trans s5) hp3
        walk_at "go"
        refine x_mkB (.inl (SqL.of upd_same)) (fun n hn => ?_) (by rw [List.length_append]; omega) fun c dy E2 l H7 hc hE s7 hB7 hnd hml hl7 => ?_
        · rcases List.mem_append.mp hn with z | z
          · exact hin n (List.mem_filter.mp z).1
          · exact hin2 n ((hm n).mp (List.mem_filter.mp z).1)
        · refine q c dy E2 l H7 (s6.free hc) (s6.free hE) (s6.trans s7) hB7 hnd (fun x => ?_) (by rw [List.length_append] at hl7; omega)
          rw [hml, List.mem_append, List.mem_filter, List.mem_filter, hm]
          simp [Rxor]
end
end K41

end

section
local macro_rules | `(tactic| walk_at "ne") => `(tactic| first | assumption | (apply Ne.symm; assumption) | exact L2.ne_of_none (by assumption) (by assumption) | exact (L2.ne_of_none (by assumption) (by assumption)).symm)
local macro_rules | `(tactic| walk_at "hp") => `(tactic| first | assumption | exact L2.upd_same | (rw [L2.upd_ne (by walk_at "ne")]; walk_at "hp"))
local macro_rules | `(tactic| walk_at "sq") => `(tactic| first | assumption | exact L2.SqL.of (by walk_at "hp") | exact My.sq_new (by walk_at "sq") (by assumption))
local macro_rules | `(tactic| walk_at "sd") => `(tactic| first | decide | omega | (unfold L2.CDivN; omega) | (unfold L2.CMul; omega) | (unfold L2.CPow; omega))
local macro_rules | `(tactic| walk_at "sx1") => `(tactic| first | with_reducible refine My.x_seq ?_ | with_reducible refine My.x_asg ?_ | with_reducible refine My.x_ret ?_ | with_reducible refine My.x_next ?_ | with_reducible refine My.x_op ?_ | with_reducible refine My.x_c ?_ | with_reducible refine My.x_ifs ?_ | with_reducible refine My.x_test ?_ | with_reducible refine My.x_exbl ?_ | with_reducible refine My.x_cons ?_ | with_reducible refine My.x_nil ?_ | with_reducible refine My.x_cb ?_ | with_reducible refine My.x_drop ?_ | with_reducible refine My.x_par ?_ | with_reducible refine My.x_exp2 ?_ | with_reducible refine My.x_aug ?_ | with_reducible refine My.x_if ?_ | with_reducible refine My.x_tB ?_ | with_reducible refine My.x_and ?_ | with_reducible refine My.x_or ?_ | with_reducible refine My.x_not ?_ | with_reducible refine My.x_retn ?_ | with_reducible refine My.x_cont ?_ | with_reducible refine My.x_brk ?_ | with_reducible refine My.x_un ?_ | with_reducible refine My.x_tfor ?_ | with_reducible refine My.x_ilist ?_ | with_reducible refine My.x_rng1 ?_ | with_reducible refine My.x_rng2 ?_ | with_reducible refine My.x_r1 ?_ | with_reducible refine My.x_call ?_ | with_reducible refine My.x_sl ?_ | with_reducible refine My.x_part ?_ | with_reducible refine My.x_nopart ?_ | with_reducible refine My.x_ii0 ?_ | with_reducible refine My.x_yes ?_ | with_reducible refine My.x_andv ?_ | with_reducible refine My.x_orv ?_ | with_reducible refine My.x_notv ?_ | with_reducible refine My.x_iT ?_ | with_reducible refine My.x_iF ?_ | with_reducible refine My.x_chain ?_ | with_reducible refine My.x_exI ?_ | with_reducible refine My.x_wipe ?_ | with_reducible refine My.x_bm ?_ | with_reducible refine My.x_bm0 ?_ | with_reducible refine My.x_gsub ?_ | with_reducible refine My.x_int1 ?_ | with_reducible refine My.x_two ?_ | with_reducible refine My.x_lst ?_ | with_reducible refine My.x_tup ?_ | with_reducible refine My.x_revL ?_ | with_reducible refine My.x_dput ?_ | with_reducible refine My.x_dget ?_ | with_reducible refine My.x_dnew ?_ | with_reducible refine My.x_dc ?_ | with_reducible refine My.x_lc ?_ | with_reducible refine My.x_ienum ?_ | with_reducible refine My.x_gcons ?_ | with_reducible refine My.x_gnil ?_ | with_reducible refine My.x_v0 ?_ | with_reducible refine My.x_v1 ?_ | with_reducible refine My.x_v2 ?_ | with_reducible refine My.x_v3 ?_ | with_reducible refine My.x_v4 ?_ | with_reducible refine My.x_v5 ?_ | with_reducible refine My.x_v6 ?_ | with_reducible refine My.x_v7 ?_ | with_reducible refine My.x_v8 ?_ | with_reducible refine My.x_v9 ?_ | with_reducible refine My.x_v10 ?_ | with_reducible refine My.x_v11 ?_ | with_reducible refine My.x_v12 ?_ | with_reducible refine My.x_v13 ?_ | with_reducible refine My.x_v14 ?_ | with_reducible refine My.x_v15 ?_ | with_reducible refine My.x_v16 ?_ | with_reducible refine My.x_v17 ?_ | with_reducible refine My.x_v18 ?_ | with_reducible refine My.x_v19 ?_ | with_reducible refine My.x_v20 ?_ | with_reducible refine My.x_v21 ?_ | with_reducible refine My.x_v22 ?_ | with_reducible refine My.x_v23 ?_ | with_reducible refine My.x_v24 ?_ | with_reducible refine My.x_v25 ?_ | with_reducible refine My.x_g0 ?_ | with_reducible refine My.x_g1 ?_ | with_reducible refine My.x_g2 ?_ | with_reducible refine My.x_g3 ?_ | with_reducible refine My.x_g4 ?_ | with_reducible refine My.x_g5 ?_ | with_reducible refine My.x_g6 ?_ | with_reducible refine My.x_g7 ?_ | with_reducible refine My.x_g8 ?_ | with_reducible refine My.x_g9 ?_ | with_reducible refine My.x_g10 ?_ | with_reducible refine My.x_g11 ?_ | with_reducible refine My.x_g12 ?_ | with_reducible refine My.x_g13 ?_ | with_reducible refine My.x_g14 ?_ | with_reducible refine My.x_g15 ?_ | with_reducible refine My.x_g16 ?_ | with_reducible refine My.x_g17 ?_ | with_reducible refine My.x_g18 ?_ | with_reducible refine My.x_g19 ?_ | with_reducible refine My.x_g20 ?_ | with_reducible refine My.x_g21 ?_ | with_reducible refine My.x_g22 ?_ | with_reducible refine My.x_g23 ?_ | with_reducible refine My.x_g24 ?_ | with_reducible refine My.x_g25 ?_)
local macro_rules | `(tactic| walk_at "sx") => `(tactic| repeat (walk_at "sx1"))
local macro_rules | `(tactic| walk_at "ln") => `(tactic| first | assumption | exact Nat.le_of_ble_eq_true rfl | (simp only [List.length_append, List.length_map, List.length_cons, List.length_nil]; simp only [PySem.sizeLine]; omega))
local macro_rules | `(tactic| walk_at "st") => `(tactic| first | assumption | exact L2.SqT.of (by walk_at "hp"))
local macro_rules | `(tactic| walk_at "go1") => `(tactic| first | walk_at "sx1" | ((with_reducible refine' My.x_ixL ?x0 ?x1 ?x2); (case x0 => walk_at "sq"); (case x1 => exact rfl)) | ((with_reducible refine' My.x_ixT ?x0 ?x1 ?x2); (case x0 => walk_at "st"); (case x1 => exact rfl)) | ((with_reducible refine' My.x_i ?x0 ?x1); (case x0 => walk_at "sd")) | ((with_reducible refine' My.x_setL ?x0 ?x1 ?x2); (case x0 => walk_at "hp"); (case x1 => exact rfl)) | ((with_reducible refine' My.x_len ?x0 ?x1); (case x0 => walk_at "sq")) | ((with_reducible refine' My.x_lenT ?x0 ?x1); (case x0 => walk_at "st")) | ((with_reducible refine' My.x_lenD ?x0 ?x1); (case x0 => walk_at "hp")) | ((with_reducible refine' My.x_append ?x0 ?x1 ?x2); (case x0 => walk_at "hp"); (case x1 => walk_at "ln")) | ((with_reducible refine' My.x_tyL ?x0 ?x1); (case x0 => walk_at "hp")) | ((with_reducible refine' My.x_ilistE ?x0 ?x1); (case x0 => walk_at "sq")) | ((with_reducible refine' My.x_ienumE ?x0 ?x1); (case x0 => walk_at "sq")) | ((with_reducible refine' My.x_sortI ?x0 ?x1); (case x0 => walk_at "sq")) | ((with_reducible refine' My.x_slL ?x0 ?x1); (case x0 => walk_at "sq")) | ((with_reducible refine' My.x_revL2 ?x0 ?x1); (case x0 => walk_at "sq")) | ((with_reducible refine' My.x_eq ?x0 ?x1); (case x0 => exact rfl)) | ((with_reducible refine' My.x_ne ?x0 ?x1); (case x0 => exact rfl)) | ((with_reducible refine' My.x_dputI ?x0 ?x1 ?x2); (case x0 => walk_at "hp"); (case x1 => walk_at "ln")) | ((with_reducible refine' My.x_dputS ?x0 ?x1 ?x2); (case x0 => walk_at "hp"); (case x1 => walk_at "ln")) | ((with_reducible refine' My.x_seqof ?x0 ?x1); (case x0 => walk_at "sq")) | ((with_reducible refine' My.x_gtup ?x0 ?x1 ?x2); (case x0 => walk_at "st"); (case x1 => exact rfl)) | ((with_reducible refine' My.x_mem1 ?x0 ?x1); (case x0 => walk_at "ln")))
local macro_rules | `(tactic| walk_at "go") => `(tactic| repeat (walk_at "go1"))
local macro_rules | `(tactic| walk_at "sx1") => `(tactic| first | with_reducible refine My.x_fld ?_ | with_reducible refine My.x_sfld ?_ | with_reducible refine My.x_meth ?_ | with_reducible refine My.x_make ?_ | with_reducible refine My.x_din ?_ | with_reducible refine My.x_dnin ?_ | with_reducible refine My.x_ikeys ?_ | with_reducible refine My.x_itup ?_ | with_reducible refine My.x_mkO ?_ | with_reducible refine My.x_vei ?_ | with_reducible refine My.x_ost ?_ | with_reducible refine My.x_nF ?_ | with_reducible refine My.x_nT ?_)
local macro_rules | `(tactic| walk_at "go1") => `(tactic| first | ((with_reducible refine' My.x_fldE ?x0 ?x1 ?x2 ?x3 ?x4); (case x0 => walk_at "hp"); (case x1 => assumption); (case x2 => assumption); (case x3 => exact rfl)) | ((with_reducible refine' My.x_sfldE ?x0 ?x1 ?x2 ?x3 ?x4 ?x5); (case x0 => walk_at "hp"); (case x1 => assumption); (case x2 => assumption); (case x3 => decide); (case x4 => exact rfl)) | ((with_reducible refine' My.x_methE ?x0 ?x1 ?x2); (case x0 => walk_at "hp"); (case x1 => exact rfl)) | ((with_reducible refine' My.x_itupE ?x0 ?x1); (case x0 => walk_at "st")))
namespace K41
open PySem PySem.Spec PyProof.Rows L2
theorem hu100 {k : Nat} {A : Around} (hr : Room k A) : A.units + 100 < cLine := by have := hr.un; omega
section
variable {P : Program} {w : World} {K : PySem.W.Frag} {mg : Str → Option Value} {base : Heap} {tk : Tok}
theorem ok_draw (T : Tx K mg tk) {fd : FuncData} (F : Fd K d_law_draw fd) : FnOk P w K mg base CX0 1 (He.ga K "_law_draw") fd ["_law_pool_here", "_law_many"] My.sp_draw := by
  refine F.ok sc_law_draw (fun vs H Q E h => ?_) (fun cdv A outer s H vs Q E hr h => ?_)
  · obtain ⟨p, n, c, s, rfl, _⟩ := h
    rfl
  · obtain ⟨p, n, c, s, rfl, n0, n1, hp, s0, s1, k⟩ := h
    refine ⟨_, PSs.nox ((pss_cons (ps_if (pt_cmpR op_gt (pe_ix ix_list (pv 0) pe_int (fun _ _ => rfl)) pe_int (nomark _))
  (pss_cons (ps_set (i := 2) sc_law_draw.nd rfl (Or.inl rfl) (pe_op op_modN (pe_callTy call_int1 (by rfl) T.n_int (by decide +kernel) (pa_cons (pe_ix ix_list (pv 0) pe_int (fun _ _ => rfl)) pa_nil)) (pv 1)))
  (pss_cons (ps_asg (pe_op op_fdivN (pe_ix ix_list (pv 0) pe_int (fun _ _ => rfl)) (pv 1)) (pg_sub (pv 0) pe_int set_list))
  (pss_one (ps_ret (pv 2)))))
  pss_nil)
  (pss_cons (ps_asg (pe_op op_modN (pe_callTy call_int1 (by rfl) T.n_int (by decide +kernel) (pa_cons (pe_op op_add (pe_op op_mul (pe_ix ix_list (pv 0) pe_int (fun _ _ => rfl)) pe_int) pe_int) pa_nil)) pe_int) (pg_sub (pv 0) pe_int set_list))
  (pss_one (ps_ret (pe_op op_modN (pe_op op_fdivN (pe_op op_modN (pe_callTy call_int1 (by rfl) T.n_int (by decide +kernel) (pa_cons (pe_op op_mul (pe_ix ix_list (pv 0) pe_int (fun _ _ => rfl)) (pe_ix ix_list (pv 0) pe_int (fun _ _ => rfl))) pa_nil)) pe_int) pe_int) (pv 1))))))), ?_⟩
    refine My.x_start (σ := [some (V.ref p), some (V.int n), none]) rfl ?_
    try dsimp only [cxOf, Cx.nox]
    walk_at "go"
    refine My.x_dec (fun hc => ?_) (fun hc => ?_)
    · walk_at "go"
      exact k _ _ _ (Int.fmod_nonneg_of_pos _ n0) (Int.fmod_lt_of_pos _ n0) s0 s1
    · walk_at "go"
      have hm0 := Int.fmod_nonneg_of_pos (s * 48271 + 11) (show (0 : Int) < 2147483647 by decide)
      have hm1 := Int.fmod_lt_of_pos (s * 48271 + 11) (show (0 : Int) < 2147483647 by decide)
      refine My.x_i (.inl ⟨by omega, by omega⟩) ?_
      walk_at "go"
      exact k _ _ _ (Int.fmod_nonneg_of_pos _ n0) (Int.fmod_lt_of_pos _ n0) hm0 hm1
theorem atI_in {ns : List Int} {k : Int} (h0 : 0 ≤ k) (h : k < (ns.length : Int)) : ∃ x, atI (ns.map V.int) k = some (.int x) := by
  obtain ⟨j, rfl⟩ := Int.eq_ofNat_of_zero_le h0
  have hj : j < ns.length := by omega
  exact ⟨ns[j], atI_nat (by rw [List.getElem?_map, List.getElem?_eq_getElem hj]; rfl)⟩
theorem ok_pool (T : Tx K mg tk) {fd : FuncData} (F : Fd K d_law_pool fd) : FnOk P w K mg base CX0 1 (He.ga K "_law_pool") fd ["_law_script", "_law_k"] (My.sp_pool K) := by
  refine F.ok sc_law_pool (fun vs H Q E h => ?_) (fun cdv A outer s H vs Q E hr h => ?_)
  · obtain ⟨a, ns, k, rfl, _⟩ := h
    rfl
  · obtain ⟨a, ns, k, rfl, hS, k0, k1, q⟩ := h
    refine ⟨_, PSs.nox ((pss_cons (ps_set (i := 2) sc_law_pool.nd rfl (Or.inl rfl) pe_int)
  (pss_cons (ps_if (pt_cmpR op_lt (pv 1) (pe_callB call_len_seq (by rfl) T.n_len (by decide +kernel) (pa_cons (pv 0) pa_nil)) (nomark _))
  (pss_one (ps_set (i := 2) sc_law_pool.nd rfl (Or.inl rfl) (pe_ix ix_list (pv 0) (pv 1) (fun _ _ => rfl))))
  pss_nil)
  (pss_cons (ps_set (i := 3) sc_law_pool.nd rfl (Or.inl rfl) (pe_op op_modN (pe_op op_pow (pe_op op_add (pe_op op_add (pe_op op_modN (pe_callTy call_int1 (by rfl) T.n_int (by decide +kernel) (pa_cons (pv 2) pa_nil)) pe_int) (pe_op op_mul (pe_op op_mul pe_int (pv 1)) (pv 1))) pe_int) pe_int) pe_int))
  (pss_cons (ps_if (pt_cmpR op_lt (pv 2) (pe_op op_pow pe_int pe_int) (nomark _))
  (pss_one (ps_set (i := 2) sc_law_pool.nd rfl (Or.inl rfl) pe_int))
  pss_nil)
  (pss_one (ps_ret (pe_lst (pa_cons (pv 2) (pa_cons (pv 3) pa_nil)))))))))), ?_⟩
    refine My.x_start (σ := [some (V.ref a), some (V.int k), none, none]) rfl ?_
    try dsimp only [cxOf, Cx.nox]
    have key : ∀ c : Int, 0 ≤ c.fmod 2147483629 ∧ c.fmod 2147483629 < 2147483629 := fun c => ⟨Int.fmod_nonneg_of_pos _ (by decide), Int.fmod_lt_of_pos _ (by decide)⟩
    have kk0 : 0 ≤ 7919 * k * k := Int.mul_nonneg (by omega) k0
    have kk1 : 7919 * k * k ≤ 7919 * 1000 * 1000 := Int.mul_le_mul (by omega) (by omega) k0 (by decide)
    have ends : ∀ c z : Int, 0 ≤ z → z < 2147483647 → ∀ p, H p = none → Q (.ref p) (upd H p (.lst [.int c, .int z])) := fun c z h0 h1 p hp => q p c z hp h0 h1
    have m0 : ∀ z : Int, 0 ≤ z.fmod 2147483647 := fun z => Int.fmod_nonneg_of_pos _ (by decide)
    have m1 : ∀ z : Int, z.fmod 2147483647 < 2147483647 := fun z => Int.fmod_lt_of_pos _ (by decide)
    walk_at "go"
    refine My.x_dec (fun hc => ?_) (fun hc => ?_)
    · rw [List.length_map] at hc
      obtain ⟨x, hx⟩ := atI_in k0 hc
      walk_at "go"
      refine My.x_ixL (by walk_at "sq") hx ?_
      have hk := key x
      walk_at "go"
      refine My.x_dec (fun hc => ?_) (fun hc => ?_)
      · walk_at "go"
        exact ends _ _ (m0 _) (m1 _)
      · walk_at "go"
        exact ends _ _ (m0 _) (m1 _)
    · have hk := key 0
      walk_at "go"
      refine My.x_dec (fun hc => ?_) (fun hc => ?_)
      · walk_at "go"
        exact ends _ _ (m0 _) (m1 _)
      · walk_at "go"
        exact ends _ _ (m0 _) (m1 _)


/-- what the law's own work leaves: all but the pool stands -/
def Bar (p : Addr) (H H' : Hp) : Prop := ∀ b o, b ≠ p → H b = some o → H' b = some o
theorem Bar.refl (p : Addr) (H : Hp) : Bar p H H := fun _ _ _ e => e
theorem Bar.same {p : Addr} {H0 H H' : Hp} (k : Bar p H0 H) (s : Same H H') : Bar p H0 H' := fun b o n e => s _ _ (k b o n e)
theorem Bar.but {p : Addr} {H0 H H' : Hp} (k : Bar p H0 H) (s : My.But p H H') : Bar p H0 H' := fun b o n e => (s b n).trans (k b o n e)
theorem Bar.new {p q : Addr} {o : HO} {H0 H : Hp} (k : Bar p H0 H) (h : H q = none) : Bar p H0 (upd H q o) := k.same (My.Same.new (Same.refl H) h)
theorem Bar.mut {p q : Addr} {o : HO} {H0 H : Hp} (k : Bar p H0 H) (h : H0 q = none) : Bar p H0 (upd H q o) := fun b u n e => by rw [upd_ne (ne_of_none e h)]; exact k b u n e
def sp_numbers : Sp := fun vs H Q _ => ∃ p : Addr, vs = [.ref p] ∧ My.PoolAt H p ∧
  ∀ (a : Addr) (ns : List Int) (H' : Hp), InB ns → ns.length ≤ 12 → H a = none → My.PoolAt H' p → Bar p H H' → H' a = some (.lst (ns.map V.int)) → Q (.ref a) H'
theorem free_but {p b : Addr} {H H' : Hp} (k : My.But p H H') (P : My.PoolAt H' p) (h : H' b = none) : H b = none := by
  have n : b ≠ p := (P.ne h).symm
  rw [← k b n]; exact h
theorem ok_numbers (T : Tx K mg tk) {fd : FuncData} (F : Fd K d_law_numbers fd) (C_law_draw : My.Cl P w K mg base "_law_draw" ["_law_pool_here", "_law_many"] 1 My.sp_draw) : FnOk P w K mg base CX0 2 (He.ga K "_law_numbers") fd ["_law_pool_here"] sp_numbers := by
  refine F.ok sc_law_numbers (fun vs H Q E h => ?_) (fun cdv A outer s H vs Q E hr h => ?_)
  · obtain ⟨p, rfl, _⟩ := h
    rfl
  · obtain ⟨p, rfl, hP, q⟩ := h
    refine ⟨_, PSs.nox ((pss_cons (ps_set (i := 1) sc_law_numbers.nd rfl (Or.inr rfl) (pe_ix ix_list (pe_lst (pa_cons pe_int (pa_cons pe_int (pa_cons pe_int pa_nil)))) (My.pe_cl C_law_draw (hr.mono (by decide)) rfl (pa_cons (pv 0) (pa_cons pe_int pa_nil))) (fun _ _ => rfl)))
  (pss_one (ps_ret (pe_lc (own := [("_law_turn", 2)]) (g := gName 2) (tt := tYes) rfl sc_law_numbers.nd (pi_range1 rfl T.n_range (pa_cons (My.pe_cl C_law_draw (hr.mono (by decide)) rfl (pa_cons (pv 0) (pa_cons pe_int pa_nil))) pa_nil)) (blkOk_by (own := [("_law_turn", 2)]) (N := ["_law_pool_here", "_law_most", "_law_turn"]) (sc := defScope s_law_numbers) (by decide +kernel)) (fun _ _ _ _ _ => pg_name (i := 2) sc_law_numbers.nd rfl (Or.inl rfl)) (fun _ _ _ _ _ => pts_nil) (fun _ _ _ _ _ => (My.pe_cl C_law_draw (hr.mono (by decide)) rfl (pa_cons (pv 0) (pa_cons (pv 1) pa_nil))))))))), ?_⟩
    refine My.x_start (σ := [some (V.ref p), none, none]) rfl ?_
    try dsimp only [cxOf, Cx.nox]
    walk_at "go"
    intro l0 hl0
    have P0 := hP.new (o := .lst [V.int 4, V.int 20, V.int 1000000]) hl0
    have np := hP.ne hl0
    have e0 : upd H l0 (.lst [V.int 4, V.int 20, V.int 1000000]) l0 = some (.lst [V.int 4, V.int 20, V.int 1000000]) := upd_same
    have b0 : Bar p H (upd H l0 (.lst [V.int 4, V.int 20, V.int 1000000])) := (Bar.refl p H).new hl0
    have f0 : ∀ b, upd H l0 (.lst [V.int 4, V.int 20, V.int 1000000]) b = none → H b = none := fun b h => free_upd h
    generalize upd H l0 (.lst [V.int 4, V.int 20, V.int 1000000]) = H0 at P0 e0 b0 f0 ⊢
    walk_at "go"
    refine My.x_draw P0 (by decide) (by decide) fun d1 H1 d10 d11 P1 B1 => ?_
    have e1 := B1.at e0 np.symm
    have b1 := b0.but B1
    obtain ⟨most, hm, m0, m1⟩ : ∃ m : Int, atI [V.int 4, V.int 20, V.int 1000000] d1 = some (.int m) ∧ 0 < m ∧ m ≤ 1000000 := by
      have : d1 = 0 ∨ d1 = 1 ∨ d1 = 2 := by omega
      rcases this with rfl | rfl | rfl
      · exact ⟨4, rfl, by decide, by decide⟩
      · exact ⟨20, rfl, by decide, by decide⟩
      · exact ⟨1000000, rfl, by decide, by decide⟩
    refine My.x_ixL (SqL.of e1) hm ?_
    walk_at "go"
    refine My.x_draw P1 (by decide) (by decide) fun d2 H2 d20 d21 P2 B2 => ?_
    have b2 := b1.but B2
    have f2 : ∀ b, H2 b = none → H b = none := fun b h => f0 b (free_but B1 P1 (free_but B2 P2 h))
    walk_at "go"
    refine My.x_rng1E (by omega) (by omega) ?_
    intro L hL
    have nL := P2.ne hL
    refine My.lc_runs (My.runs_rng 0 d2.toNat) (fun pre H' => My.PoolAt H' p ∧ Bar p H H' ∧ ∃ ns, H' L = some (.lst (ns.map V.int)) ∧ ns.length = pre.length ∧ InB ns) ⟨P2.new hL, b2.new hL, [], upd_same, rfl, fun n h => nomatch h⟩ (fun pre post H' _ h => trivial) ?_ ?_
    · rintro pre x post H3 v H4 hpre ⟨P3, b3, ns, e3, l3, i3⟩ ⟨rfl, hx, hlt, rfl⟩
      simp only [List.map_cons, List.map_nil, wipe, List.set_cons_succ, List.set_cons_zero]
      walk_at "go"
      refine ⟨rfl, ?_⟩
      walk_at "go"
      refine My.x_draw P3 m0 (by omega) fun d3 H5 d30 d31 P5 B5 => ?_
      have hl5 : ns.length < d2.toNat := by omega
      refine ⟨_, B5.at e3 nL.symm, by rw [List.length_map]; show _ < 2 ^ 24; omega, P5.mut nL, (b3.but B5).mut (f2 _ hL), ns ++ [d3], by rw [upd_same, List.map_append]; rfl, by rw [List.length_append, List.length_append, l3]; rfl, fun n hn => ?_⟩
      rcases List.mem_append.mp hn with z | z
      · exact i3 n z
      · rw [List.mem_singleton.mp z]; omega
    · rintro H3 ⟨P3, b3, ns, e3, l3, i3⟩
      refine q L ns H3 i3 ?_ (f2 _ hL) P3 b3 e3
      rw [l3, List.length_range]
      omega
end
end K41

end

section
local macro_rules | `(tactic| walk_at "ne") => `(tactic| first | assumption | (apply Ne.symm; assumption) | exact L2.ne_of_none (by assumption) (by assumption) | exact (L2.ne_of_none (by assumption) (by assumption)).symm)
local macro_rules | `(tactic| walk_at "hp") => `(tactic| first | assumption | exact L2.upd_same | (rw [L2.upd_ne (by walk_at "ne")]; walk_at "hp"))
local macro_rules | `(tactic| walk_at "sq") => `(tactic| first | assumption | exact L2.SqL.of (by walk_at "hp") | exact My.sq_new (by walk_at "sq") (by assumption))
local macro_rules | `(tactic| walk_at "sd") => `(tactic| first | decide | omega | (unfold L2.CDivN; omega) | (unfold L2.CMul; omega) | (unfold L2.CPow; omega))
local macro_rules | `(tactic| walk_at "sx1") => `(tactic| first | with_reducible refine My.x_seq ?_ | with_reducible refine My.x_asg ?_ | with_reducible refine My.x_ret ?_ | with_reducible refine My.x_next ?_ | with_reducible refine My.x_op ?_ | with_reducible refine My.x_c ?_ | with_reducible refine My.x_ifs ?_ | with_reducible refine My.x_test ?_ | with_reducible refine My.x_exbl ?_ | with_reducible refine My.x_cons ?_ | with_reducible refine My.x_nil ?_ | with_reducible refine My.x_cb ?_ | with_reducible refine My.x_drop ?_ | with_reducible refine My.x_par ?_ | with_reducible refine My.x_exp2 ?_ | with_reducible refine My.x_aug ?_ | with_reducible refine My.x_if ?_ | with_reducible refine My.x_tB ?_ | with_reducible refine My.x_and ?_ | with_reducible refine My.x_or ?_ | with_reducible refine My.x_not ?_ | with_reducible refine My.x_retn ?_ | with_reducible refine My.x_cont ?_ | with_reducible refine My.x_brk ?_ | with_reducible refine My.x_un ?_ | with_reducible refine My.x_tfor ?_ | with_reducible refine My.x_ilist ?_ | with_reducible refine My.x_rng1 ?_ | with_reducible refine My.x_rng2 ?_ | with_reducible refine My.x_r1 ?_ | with_reducible refine My.x_call ?_ | with_reducible refine My.x_sl ?_ | with_reducible refine My.x_part ?_ | with_reducible refine My.x_nopart ?_ | with_reducible refine My.x_ii0 ?_ | with_reducible refine My.x_yes ?_ | with_reducible refine My.x_andv ?_ | with_reducible refine My.x_orv ?_ | with_reducible refine My.x_notv ?_ | with_reducible refine My.x_iT ?_ | with_reducible refine My.x_iF ?_ | with_reducible refine My.x_chain ?_ | with_reducible refine My.x_exI ?_ | with_reducible refine My.x_wipe ?_ | with_reducible refine My.x_bm ?_ | with_reducible refine My.x_bm0 ?_ | with_reducible refine My.x_gsub ?_ | with_reducible refine My.x_int1 ?_ | with_reducible refine My.x_two ?_ | with_reducible refine My.x_lst ?_ | with_reducible refine My.x_tup ?_ | with_reducible refine My.x_revL ?_ | with_reducible refine My.x_dput ?_ | with_reducible refine My.x_dget ?_ | with_reducible refine My.x_dnew ?_ | with_reducible refine My.x_dc ?_ | with_reducible refine My.x_lc ?_ | with_reducible refine My.x_ienum ?_ | with_reducible refine My.x_gcons ?_ | with_reducible refine My.x_gnil ?_ | with_reducible refine My.x_v0 ?_ | with_reducible refine My.x_v1 ?_ | with_reducible refine My.x_v2 ?_ | with_reducible refine My.x_v3 ?_ | with_reducible refine My.x_v4 ?_ | with_reducible refine My.x_v5 ?_ | with_reducible refine My.x_v6 ?_ | with_reducible refine My.x_v7 ?_ | with_reducible refine My.x_v8 ?_ | with_reducible refine My.x_v9 ?_ | with_reducible refine My.x_v10 ?_ | with_reducible refine My.x_v11 ?_ | with_reducible refine My.x_v12 ?_ | with_reducible refine My.x_v13 ?_ | with_reducible refine My.x_v14 ?_ | with_reducible refine My.x_v15 ?_ | with_reducible refine My.x_v16 ?_ | with_reducible refine My.x_v17 ?_ | with_reducible refine My.x_v18 ?_ | with_reducible refine My.x_v19 ?_ | with_reducible refine My.x_v20 ?_ | with_reducible refine My.x_v21 ?_ | with_reducible refine My.x_v22 ?_ | with_reducible refine My.x_v23 ?_ | with_reducible refine My.x_v24 ?_ | with_reducible refine My.x_v25 ?_ | with_reducible refine My.x_g0 ?_ | with_reducible refine My.x_g1 ?_ | with_reducible refine My.x_g2 ?_ | with_reducible refine My.x_g3 ?_ | with_reducible refine My.x_g4 ?_ | with_reducible refine My.x_g5 ?_ | with_reducible refine My.x_g6 ?_ | with_reducible refine My.x_g7 ?_ | with_reducible refine My.x_g8 ?_ | with_reducible refine My.x_g9 ?_ | with_reducible refine My.x_g10 ?_ | with_reducible refine My.x_g11 ?_ | with_reducible refine My.x_g12 ?_ | with_reducible refine My.x_g13 ?_ | with_reducible refine My.x_g14 ?_ | with_reducible refine My.x_g15 ?_ | with_reducible refine My.x_g16 ?_ | with_reducible refine My.x_g17 ?_ | with_reducible refine My.x_g18 ?_ | with_reducible refine My.x_g19 ?_ | with_reducible refine My.x_g20 ?_ | with_reducible refine My.x_g21 ?_ | with_reducible refine My.x_g22 ?_ | with_reducible refine My.x_g23 ?_ | with_reducible refine My.x_g24 ?_ | with_reducible refine My.x_g25 ?_)
local macro_rules | `(tactic| walk_at "sx") => `(tactic| repeat (walk_at "sx1"))
local macro_rules | `(tactic| walk_at "ln") => `(tactic| first | assumption | exact Nat.le_of_ble_eq_true rfl | (simp only [List.length_append, List.length_map, List.length_cons, List.length_nil]; simp only [PySem.sizeLine]; omega))
local macro_rules | `(tactic| walk_at "st") => `(tactic| first | assumption | exact L2.SqT.of (by walk_at "hp"))
local macro_rules | `(tactic| walk_at "go1") => `(tactic| first | walk_at "sx1" | ((with_reducible refine' My.x_ixL ?x0 ?x1 ?x2); (case x0 => walk_at "sq"); (case x1 => exact rfl)) | ((with_reducible refine' My.x_ixT ?x0 ?x1 ?x2); (case x0 => walk_at "st"); (case x1 => exact rfl)) | ((with_reducible refine' My.x_i ?x0 ?x1); (case x0 => walk_at "sd")) | ((with_reducible refine' My.x_setL ?x0 ?x1 ?x2); (case x0 => walk_at "hp"); (case x1 => exact rfl)) | ((with_reducible refine' My.x_len ?x0 ?x1); (case x0 => walk_at "sq")) | ((with_reducible refine' My.x_lenT ?x0 ?x1); (case x0 => walk_at "st")) | ((with_reducible refine' My.x_lenD ?x0 ?x1); (case x0 => walk_at "hp")) | ((with_reducible refine' My.x_append ?x0 ?x1 ?x2); (case x0 => walk_at "hp"); (case x1 => walk_at "ln")) | ((with_reducible refine' My.x_tyL ?x0 ?x1); (case x0 => walk_at "hp")) | ((with_reducible refine' My.x_ilistE ?x0 ?x1); (case x0 => walk_at "sq")) | ((with_reducible refine' My.x_ienumE ?x0 ?x1); (case x0 => walk_at "sq")) | ((with_reducible refine' My.x_sortI ?x0 ?x1); (case x0 => walk_at "sq")) | ((with_reducible refine' My.x_slL ?x0 ?x1); (case x0 => walk_at "sq")) | ((with_reducible refine' My.x_revL2 ?x0 ?x1); (case x0 => walk_at "sq")) | ((with_reducible refine' My.x_eq ?x0 ?x1); (case x0 => exact rfl)) | ((with_reducible refine' My.x_ne ?x0 ?x1); (case x0 => exact rfl)) | ((with_reducible refine' My.x_dputI ?x0 ?x1 ?x2); (case x0 => walk_at "hp"); (case x1 => walk_at "ln")) | ((with_reducible refine' My.x_dputS ?x0 ?x1 ?x2); (case x0 => walk_at "hp"); (case x1 => walk_at "ln")) | ((with_reducible refine' My.x_seqof ?x0 ?x1); (case x0 => walk_at "sq")) | ((with_reducible refine' My.x_gtup ?x0 ?x1 ?x2); (case x0 => walk_at "st"); (case x1 => exact rfl)) | ((with_reducible refine' My.x_mem1 ?x0 ?x1); (case x0 => walk_at "ln")))
local macro_rules | `(tactic| walk_at "go") => `(tactic| repeat (walk_at "go1"))
local macro_rules | `(tactic| walk_at "sx1") => `(tactic| first | with_reducible refine My.x_fld ?_ | with_reducible refine My.x_sfld ?_ | with_reducible refine My.x_meth ?_ | with_reducible refine My.x_make ?_ | with_reducible refine My.x_din ?_ | with_reducible refine My.x_dnin ?_ | with_reducible refine My.x_ikeys ?_ | with_reducible refine My.x_itup ?_ | with_reducible refine My.x_mkO ?_ | with_reducible refine My.x_vei ?_ | with_reducible refine My.x_ost ?_ | with_reducible refine My.x_nF ?_ | with_reducible refine My.x_nT ?_)
local macro_rules | `(tactic| walk_at "go1") => `(tactic| first | ((with_reducible refine' My.x_fldE ?x0 ?x1 ?x2 ?x3 ?x4); (case x0 => walk_at "hp"); (case x1 => assumption); (case x2 => assumption); (case x3 => exact rfl)) | ((with_reducible refine' My.x_sfldE ?x0 ?x1 ?x2 ?x3 ?x4 ?x5); (case x0 => walk_at "hp"); (case x1 => assumption); (case x2 => assumption); (case x3 => decide); (case x4 => exact rfl)) | ((with_reducible refine' My.x_methE ?x0 ?x1 ?x2); (case x0 => walk_at "hp"); (case x1 => exact rfl)) | ((with_reducible refine' My.x_itupE ?x0 ?x1); (case x0 => walk_at "st")))
namespace K41
open PySem PySem.Spec PyProof.Rows L2
theorem call_reprB {X : Cx} (hg0 : X.A.guards = some []) (hu : X.A.units + 100 < cLine) : CallR X (.builtin "repr") (My.rReprB X.K) := fun pins s σ H xs us Q I r h =>
  h.elim (My.call_reprD hg0 hu pins s σ H xs us Q I r) (My.call_reprE hg0 hu pins s σ H xs us Q I r)
def Sho (d : PyData) : Prop := d.showable = true ∧ d.canLay0 = true ∧ d.depth ≤ 64 ∧ d.shown.length ≤ sizeLine
theorem x_reprD {K : PySem.W.Frag} {H : Hp} {Q : VK} {v : V} {d : PyData} (h : Dp K H v d) (s : Sho d) (q : Q (.str d.shown) H) : My.rReprB K [v] H Q := .inl ⟨v, d, rfl, h, s.1, s.2.1, s.2.2.1, s.2.2.2, q⟩
theorem x_reprE {K : PySem.W.Frag} {H : Hp} {Q : VK} {a : Addr} (h : H a = some (.dK [])) (q : Q (.str ("{}" : Str)) H) : My.rReprB K [.ref a] H Q := .inr ⟨a, rfl, h, q⟩
def sp_told (K : PySem.W.Frag) : Sp := fun vs H Q _ => ∃ x : V, vs = [x] ∧
  ((∃ (a : Addr) (v : V) (d : PyData), x = .ref a ∧ SqL K H a [.int 3, v, .non] ∧ Odd K H v ∧ Sho d ∧ (∀ H', Same H H' → Dp K H' v d) ∧ ∀ H', Same H H' → Q (.str d.shown) H') ∨
   (∃ (t : Value) (d : PyData), TyX K H x t ∧ PySem.W.kitAny K t [.type "list", .type "tuple"] = some false ∧ Sho d ∧ (∀ H', Same H H' → Dp K H' x d) ∧ ∀ H', Same H H' → Q (.str d.shown) H') ∨
   (∃ a : Addr, x = .ref a ∧ H a = some (.dK []) ∧ ∀ H', Same H H' → Q (.str ("{}" : Str)) H'))
theorem kitD {K : PySem.W.Frag} : PySem.W.kitAny K (.type "dict") [.type "list", .type "tuple"] = some false := kitAny_cons (b := false) (kit_ty (by decide +kernel)) (fun _ => kitAny_cons (b := false) (kit_ty (by decide +kernel)) (fun _ => kitAny_nil) fun z => nomatch z) fun z => nomatch z
theorem len2 {σ : L2.St} (h : σ.length = 2) : ∃ a b, σ = [a, b] := by
  match σ, h with
  | [a, b], _ => exact ⟨a, b, rfl⟩
section
variable {P : Program} {w : World} {K : PySem.W.Frag} {mg : Str → Option Value} {base : Heap} {tk : Tok}
theorem ok_told (T : Tx K mg tk) {fd : FuncData} (F : Fd K d_law_told fd) (M_B : MBl P w K mg base) : My.FnG P w K mg base CX0 5 (He.ga K "_law_told") fd ["_law_values"] (sp_told K) := by
  refine My.FunD.okG F sc_law_told (fun vs H Q E h => ?_) (fun cdv A outer s H vs Q E hg hr h => ?_)
  · obtain ⟨x, rfl, _⟩ := h
    rfl
  · obtain ⟨x, rfl, h⟩ := h
    refine ⟨_, ((pss_cons (ps_try_as (i := 1) (tb := fun W => tDrop (tMake (CB K) (sp_init K) [] (My.WL 2 W) (tCons (tVar 0) tNil))) (ts := fun a cls d => tRet (tCB (My.rReprB K) (tCons (tXf a cls d (IB K) "value" (tVar 1)) tNil))) (Wout := fun _ _ _ _ => False) rfl rfl sc_law_told.nd rfl rfl ⟨rfl, by decide, .inl T.exB.g⟩ takes0 (fun W pn xe tk _ => (pss_one (ps_expr (My.pe_mx M_B (hr.mono (by decide)) rfl (My.passL tk) (pa_cons (pv 0) pa_nil)))))
 (fun a oe cls d pn hz hf => (pss_one (ps_ret (pe_callB (call_reprB (by exact hg) (by have hq := hu100 hr; exact hq)) (by rfl) T.n_repr (by decide +kernel) (pa_cons (pe_xf T.exB.xf T.exB.no hz hf (pv 1)) pa_nil))))))
  (pss_one (ps_ret pe_str)))), ?_⟩
    refine My.x_start (σ := [some x, none]) rfl ?_
    try dsimp only [cxOf, Cx.nox]
    walk_at "go"
    intro x1 dx h1 h2 hne
    have s1 : Same H (upd (upd H dx (.own x1)) x1 (.ins (CB K) dx [])) := My.Same.mut (My.Same.new (Same.refl H) h2) h1
    have suite : ∀ (v : V) (d : Addr) (H' : Hp), H' d = some (.xd [(("value" : Str), v)]) → My.rReprB K [v] H' Q → My.WL 2
              (wAs K (Value.ref (He.ga K (Str.ofString "InvalidBlock"))) 1
                (fun a cls d => tRet (tCB (My.rReprB K) (tCons (tXf a cls d (IB K) (Str.ofString "value") (tVar 1)) tNil)))
                (fun x x_2 x_3 x_4 => False)
                { nx := tRet (tC (V.str (Str.ofString "none"))) { nx := fun x H' => Q V.non H', rt := Q }, rt := Q }) (.ref (IB K)) (some d) H' := fun v d H' e r σ hσ => by
      obtain ⟨o1, o2, rfl⟩ := len2 hσ
      refine ⟨true, T.exB.m, fun _ a ha => ?_, fun z => nomatch z⟩
      show tRet _ _ [o1, some (.ref a)] H'
      walk_at "go"
      exact ⟨_, rfl, rfl, rfl, d, _, v, rfl, e, rfl, r⟩
    rcases h with ⟨a, v, d, rfl, hl, ho, hs, hdp, q⟩ | ⟨t, d, ht, hk, hs, hdp, q⟩ | ⟨a, rfl, ha, q⟩
    · exact ⟨x1, dx, _, rfl, upd_same, .inr (.inl ⟨a, v, rfl, s1.seq hl, ho.same s1, fun d' H' hd s2 e => suite v d' H' e (x_reprD (hdp H' (s1.trans s2)) hs (q H' (s1.trans s2)))⟩)⟩
    · exact ⟨x1, dx, _, rfl, upd_same, .inr (.inr ⟨t, My.tyx_same ht s1, hk, fun d' H' hd s2 e => suite x d' H' e (x_reprD (hdp H' (s1.trans s2)) hs (q H' (s1.trans s2)))⟩)⟩
    · exact ⟨x1, dx, _, rfl, upd_same, .inr (.inr ⟨.type "dict", .base (.dK (s1 _ _ ha)), kitD, fun d' H' hd s2 e => suite (.ref a) d' H' e (x_reprE ((s1.trans s2) _ _ ha) (q H' (s1.trans s2)))⟩)⟩
end
end K41

end

section
local macro_rules | `(tactic| walk_at "ne") => `(tactic| first | assumption | (apply Ne.symm; assumption) | exact L2.ne_of_none (by assumption) (by assumption) | exact (L2.ne_of_none (by assumption) (by assumption)).symm)
local macro_rules | `(tactic| walk_at "hp") => `(tactic| first | assumption | exact L2.upd_same | (rw [L2.upd_ne (by walk_at "ne")]; walk_at "hp"))
local macro_rules | `(tactic| walk_at "sq") => `(tactic| first | assumption | exact L2.SqL.of (by walk_at "hp") | exact My.sq_new (by walk_at "sq") (by assumption))
local macro_rules | `(tactic| walk_at "sd") => `(tactic| first | decide | omega | (unfold L2.CDivN; omega) | (unfold L2.CMul; omega) | (unfold L2.CPow; omega))
local macro_rules | `(tactic| walk_at "sx1") => `(tactic| first | with_reducible refine My.x_seq ?_ | with_reducible refine My.x_asg ?_ | with_reducible refine My.x_ret ?_ | with_reducible refine My.x_next ?_ | with_reducible refine My.x_op ?_ | with_reducible refine My.x_c ?_ | with_reducible refine My.x_ifs ?_ | with_reducible refine My.x_test ?_ | with_reducible refine My.x_exbl ?_ | with_reducible refine My.x_cons ?_ | with_reducible refine My.x_nil ?_ | with_reducible refine My.x_cb ?_ | with_reducible refine My.x_drop ?_ | with_reducible refine My.x_par ?_ | with_reducible refine My.x_exp2 ?_ | with_reducible refine My.x_aug ?_ | with_reducible refine My.x_if ?_ | with_reducible refine My.x_tB ?_ | with_reducible refine My.x_and ?_ | with_reducible refine My.x_or ?_ | with_reducible refine My.x_not ?_ | with_reducible refine My.x_retn ?_ | with_reducible refine My.x_cont ?_ | with_reducible refine My.x_brk ?_ | with_reducible refine My.x_un ?_ | with_reducible refine My.x_tfor ?_ | with_reducible refine My.x_ilist ?_ | with_reducible refine My.x_rng1 ?_ | with_reducible refine My.x_rng2 ?_ | with_reducible refine My.x_r1 ?_ | with_reducible refine My.x_call ?_ | with_reducible refine My.x_sl ?_ | with_reducible refine My.x_part ?_ | with_reducible refine My.x_nopart ?_ | with_reducible refine My.x_ii0 ?_ | with_reducible refine My.x_yes ?_ | with_reducible refine My.x_andv ?_ | with_reducible refine My.x_orv ?_ | with_reducible refine My.x_notv ?_ | with_reducible refine My.x_iT ?_ | with_reducible refine My.x_iF ?_ | with_reducible refine My.x_chain ?_ | with_reducible refine My.x_exI ?_ | with_reducible refine My.x_wipe ?_ | with_reducible refine My.x_bm ?_ | with_reducible refine My.x_bm0 ?_ | with_reducible refine My.x_gsub ?_ | with_reducible refine My.x_int1 ?_ | with_reducible refine My.x_two ?_ | with_reducible refine My.x_lst ?_ | with_reducible refine My.x_tup ?_ | with_reducible refine My.x_revL ?_ | with_reducible refine My.x_dput ?_ | with_reducible refine My.x_dget ?_ | with_reducible refine My.x_dnew ?_ | with_reducible refine My.x_dc ?_ | with_reducible refine My.x_lc ?_ | with_reducible refine My.x_ienum ?_ | with_reducible refine My.x_gcons ?_ | with_reducible refine My.x_gnil ?_ | with_reducible refine My.x_v0 ?_ | with_reducible refine My.x_v1 ?_ | with_reducible refine My.x_v2 ?_ | with_reducible refine My.x_v3 ?_ | with_reducible refine My.x_v4 ?_ | with_reducible refine My.x_v5 ?_ | with_reducible refine My.x_v6 ?_ | with_reducible refine My.x_v7 ?_ | with_reducible refine My.x_v8 ?_ | with_reducible refine My.x_v9 ?_ | with_reducible refine My.x_v10 ?_ | with_reducible refine My.x_v11 ?_ | with_reducible refine My.x_v12 ?_ | with_reducible refine My.x_v13 ?_ | with_reducible refine My.x_v14 ?_ | with_reducible refine My.x_v15 ?_ | with_reducible refine My.x_v16 ?_ | with_reducible refine My.x_v17 ?_ | with_reducible refine My.x_v18 ?_ | with_reducible refine My.x_v19 ?_ | with_reducible refine My.x_v20 ?_ | with_reducible refine My.x_v21 ?_ | with_reducible refine My.x_v22 ?_ | with_reducible refine My.x_v23 ?_ | with_reducible refine My.x_v24 ?_ | with_reducible refine My.x_v25 ?_ | with_reducible refine My.x_g0 ?_ | with_reducible refine My.x_g1 ?_ | with_reducible refine My.x_g2 ?_ | with_reducible refine My.x_g3 ?_ | with_reducible refine My.x_g4 ?_ | with_reducible refine My.x_g5 ?_ | with_reducible refine My.x_g6 ?_ | with_reducible refine My.x_g7 ?_ | with_reducible refine My.x_g8 ?_ | with_reducible refine My.x_g9 ?_ | with_reducible refine My.x_g10 ?_ | with_reducible refine My.x_g11 ?_ | with_reducible refine My.x_g12 ?_ | with_reducible refine My.x_g13 ?_ | with_reducible refine My.x_g14 ?_ | with_reducible refine My.x_g15 ?_ | with_reducible refine My.x_g16 ?_ | with_reducible refine My.x_g17 ?_ | with_reducible refine My.x_g18 ?_ | with_reducible refine My.x_g19 ?_ | with_reducible refine My.x_g20 ?_ | with_reducible refine My.x_g21 ?_ | with_reducible refine My.x_g22 ?_ | with_reducible refine My.x_g23 ?_ | with_reducible refine My.x_g24 ?_ | with_reducible refine My.x_g25 ?_)
local macro_rules | `(tactic| walk_at "sx") => `(tactic| repeat (walk_at "sx1"))
local macro_rules | `(tactic| walk_at "ln") => `(tactic| first | assumption | exact Nat.le_of_ble_eq_true rfl | (simp only [List.length_append, List.length_map, List.length_cons, List.length_nil]; simp only [PySem.sizeLine]; omega))
local macro_rules | `(tactic| walk_at "st") => `(tactic| first | assumption | exact L2.SqT.of (by walk_at "hp"))
local macro_rules | `(tactic| walk_at "go1") => `(tactic| first | walk_at "sx1" | ((with_reducible refine' My.x_ixL ?x0 ?x1 ?x2); (case x0 => walk_at "sq"); (case x1 => exact rfl)) | ((with_reducible refine' My.x_ixT ?x0 ?x1 ?x2); (case x0 => walk_at "st"); (case x1 => exact rfl)) | ((with_reducible refine' My.x_i ?x0 ?x1); (case x0 => walk_at "sd")) | ((with_reducible refine' My.x_setL ?x0 ?x1 ?x2); (case x0 => walk_at "hp"); (case x1 => exact rfl)) | ((with_reducible refine' My.x_len ?x0 ?x1); (case x0 => walk_at "sq")) | ((with_reducible refine' My.x_lenT ?x0 ?x1); (case x0 => walk_at "st")) | ((with_reducible refine' My.x_lenD ?x0 ?x1); (case x0 => walk_at "hp")) | ((with_reducible refine' My.x_append ?x0 ?x1 ?x2); (case x0 => walk_at "hp"); (case x1 => walk_at "ln")) | ((with_reducible refine' My.x_tyL ?x0 ?x1); (case x0 => walk_at "hp")) | ((with_reducible refine' My.x_ilistE ?x0 ?x1); (case x0 => walk_at "sq")) | ((with_reducible refine' My.x_ienumE ?x0 ?x1); (case x0 => walk_at "sq")) | ((with_reducible refine' My.x_sortI ?x0 ?x1); (case x0 => walk_at "sq")) | ((with_reducible refine' My.x_slL ?x0 ?x1); (case x0 => walk_at "sq")) | ((with_reducible refine' My.x_revL2 ?x0 ?x1); (case x0 => walk_at "sq")) | ((with_reducible refine' My.x_eq ?x0 ?x1); (case x0 => exact rfl)) | ((with_reducible refine' My.x_ne ?x0 ?x1); (case x0 => exact rfl)) | ((with_reducible refine' My.x_dputI ?x0 ?x1 ?x2); (case x0 => walk_at "hp"); (case x1 => walk_at "ln")) | ((with_reducible refine' My.x_dputS ?x0 ?x1 ?x2); (case x0 => walk_at "hp"); (case x1 => walk_at "ln")) | ((with_reducible refine' My.x_seqof ?x0 ?x1); (case x0 => walk_at "sq")) | ((with_reducible refine' My.x_gtup ?x0 ?x1 ?x2); (case x0 => walk_at "st"); (case x1 => exact rfl)) | ((with_reducible refine' My.x_mem1 ?x0 ?x1); (case x0 => walk_at "ln")))
local macro_rules | `(tactic| walk_at "go") => `(tactic| repeat (walk_at "go1"))
local macro_rules | `(tactic| walk_at "sx1") => `(tactic| first | with_reducible refine My.x_fld ?_ | with_reducible refine My.x_sfld ?_ | with_reducible refine My.x_meth ?_ | with_reducible refine My.x_make ?_ | with_reducible refine My.x_din ?_ | with_reducible refine My.x_dnin ?_ | with_reducible refine My.x_ikeys ?_ | with_reducible refine My.x_itup ?_ | with_reducible refine My.x_mkO ?_ | with_reducible refine My.x_vei ?_ | with_reducible refine My.x_ost ?_ | with_reducible refine My.x_nF ?_ | with_reducible refine My.x_nT ?_)
local macro_rules | `(tactic| walk_at "go1") => `(tactic| first | ((with_reducible refine' My.x_fldE ?x0 ?x1 ?x2 ?x3 ?x4); (case x0 => walk_at "hp"); (case x1 => assumption); (case x2 => assumption); (case x3 => exact rfl)) | ((with_reducible refine' My.x_sfldE ?x0 ?x1 ?x2 ?x3 ?x4 ?x5); (case x0 => walk_at "hp"); (case x1 => assumption); (case x2 => assumption); (case x3 => decide); (case x4 => exact rfl)) | ((with_reducible refine' My.x_methE ?x0 ?x1 ?x2); (case x0 => walk_at "hp"); (case x1 => exact rfl)) | ((with_reducible refine' My.x_itupE ?x0 ?x1); (case x0 => walk_at "st")))
local macro_rules | `(tactic| walk_at "sx1") => `(tactic| first | with_reducible refine K41.x_ss ?_ | with_reducible refine K41.x_listed ?_ | with_reducible refine K41.x_mkT ?_)
namespace K41
open PySem PySem.Spec PyProof.Rows L2
def tyB (K : PySem.W.Frag) (y : V) (H : Hp) : Prop := (∃ (b dx : Addr) (fs : List (Str × V)), y = .ref b ∧ H b = some (.ins (CB K) dx fs)) ∨ (∃ (a : Addr) (xs : List V), y = .ref a ∧ SqL K H a xs)
theorem hty {X : Cx} (hsub : PySem.W.subIn X.K (.type "list") (.ref (CB X.K)) = some false) (pins : List (Addr × Obj)) (s : Shared) (σ : L2.St) (H : Hp) (y : V) (u : Value) (I : Inv X pins σ H s) (r : RelV y u) (h : tyB X.K y H) :
    ∃ tb, PySem.W.Looks (model X.prog X.w) s.heap (typeOf u) tb ∧ PySem.W.notFirst X.K (CB X.K) tb = true := by
  rcases h with ⟨b, dx, fs, rfl, e⟩ | ⟨a, xs, rfl, e⟩
  · cases r
    obtain ⟨od, J⟩ := My.ins_at I e
    exact ⟨_, J.type, by unfold PySem.W.notFirst; simp⟩
  · cases r
    obtain ⟨its, rv, ⟨o, n, ho, hc, _, hd⟩, _⟩ := I.list e
    exact ⟨.type "list", fun A Q E s k q => wpAny_typeOf_ref (k _ _ ho) (by rw [hc]; exact q), by unfold PySem.W.notFirst; rw [hsub]; rfl⟩
theorem op_in_seqK {X : Cx} {K : PySem.W.Frag} (hK : X.K = K) : OpR X (compareOp .In) (rIn K false) := hK ▸ op_in_seq
theorem op_notIn_seqK {X : Cx} {K : PySem.W.Frag} (hK : X.K = K) : OpR X (compareOp .NotIn) (rIn K true) := hK ▸ op_notIn_seq
abbrev CBin (m : Str) (R : List Int → List Int → Int → Prop) (P : Program) (w : World) (K : PySem.W.Frag) (mg : Str → Option Value) (base : Heap) : Prop := My.Cm P w K mg base CX0 "Blocks" m ["self", "other"] 5 (sp_bin R K)
/-! ### the steps of the law's own comparisons -/
/-- S: the members of ns, ascending -/
structure Srt (S ns : List Int) : Prop where
  up : S.Pairwise (· < ·)
  mem : ∀ x, x ∈ S ↔ x ∈ ns
theorem sorted_same : ∀ {l m : List Int}, l.Pairwise (· < ·) → m.Pairwise (· < ·) → (∀ x, x ∈ l ↔ x ∈ m) → l = m
  | [], [], _, _, _ => rfl
  | [], b :: m, _, _, h => absurd ((h b).mpr List.mem_cons_self) (by simp)
  | a :: l, [], _, _, h => absurd ((h a).mp List.mem_cons_self) (by simp)
  | a :: l, b :: m, hl, hm, h => by
    rw [List.pairwise_cons] at hl hm
    have e : a = b := by
      rcases List.mem_cons.mp ((h a).mp List.mem_cons_self) with q | q
      · exact q
      · rcases List.mem_cons.mp ((h b).mpr List.mem_cons_self) with z | z
        · exact z.symm
        · have := hl.1 b z
          have := hm.1 a q
          omega
    subst e
    rw [sorted_same hl.2 hm.2 fun x => ?_]
    constructor
    · intro hx
      rcases List.mem_cons.mp ((h x).mp (List.mem_cons_of_mem _ hx)) with q | q
      · exact absurd (hl.1 x hx) (by omega)
      · exact q
    · intro hx
      rcases List.mem_cons.mp ((h x).mpr (List.mem_cons_of_mem _ hx)) with q | q
      · exact absurd (hm.1 x hx) (by omega)
      · exact q
theorem Srt.eq {S T ns ms : List Int} (h : Srt S ns) (k : Srt T ms) (e : ∀ x, x ∈ ns ↔ x ∈ ms) : S = T := sorted_same h.up k.up fun x => (h.mem x).trans ((e x).trans (k.mem x).symm)
theorem perm_of {l m : List Int} (hl : l.Nodup) (hm : m.Nodup) (h : ∀ x, x ∈ l ↔ x ∈ m) : l.length = m.length := Nat.le_antisymm (My.nodup_len hl fun x hx => (h x).mp hx) (My.nodup_len hm fun x hx => (h x).mpr hx)
/-- Blocks at c over ns, at most n of them -/
def Bl (K : PySem.W.Frag) (H : Hp) (c : Addr) (ns : List Int) (n : Nat) : Prop := ∃ dx D : Addr, Blk K H c dx D ns ∧ ns.Nodup ∧ ns.length ≤ n
theorem Bl.same {K : PySem.W.Frag} {H H' : Hp} {c : Addr} {ns : List Int} {n : Nat} (h : Bl K H c ns n) (s : Same H H') : Bl K H' c ns n := by
  obtain ⟨dx, D, B, r⟩ := h
  exact ⟨dx, D, B.same s, r⟩
section
variable {K : PySem.W.Frag} {w : World} {σ : L2.St} {H : Hp} {Q : VK} {te : TE}
theorem x_ss (h : te σ H fun x H1 => My.rSetL w K [x] H1 fun y H2 => rSortedSet w [y] H2 Q) : tCB (rSortedSet w) (tCons (tCB (My.rSetL w K) (tCons te tNil)) tNil) σ H Q := h
theorem x_ssE {a : Addr} {ns : List Int} (s : SqL K H a (ns.map V.int)) (n : ns.length < 64) (h : ∀ (S : List Int) (p : Addr) (H' : Hp), Same H H' → H p = none → Srt S ns → H' p = some (.lst (S.map V.int)) → Q (.ref p) H') :
    My.rSetL w K [.ref a] H fun y H2 => rSortedSet w [y] H2 Q := by
  refine My.x_setL' s (by omega) fun p ks hp un hl => My.x_sortSet upd_same (by omega) fun S q h1 h2 h3 h4 => ?_
  have s1 := My.Same.new (o := SetO w p (fun j => decide (j ∈ ns)) ks.length) (Same.refl H) hp
  exact h S q _ (My.Same.new s1 h4) (s1.free h4) ⟨h1, h2⟩ upd_same
theorem x_listed {E : XK} (h : te σ H fun x H1 => ∃ a dx fs, x = .ref a ∧ H1 a = some (.ins (CB K) dx fs) ∧ fs.lookup ("listed" : Str) = none ∧ sp_listed K [x] H1 Q E) :
    tMeth (CB K) "listed" (sp_listed K) [] E te tNil σ H Q := h
theorem x_listedE {E : XK} {c : Addr} {ns : List Int} {n : Nat} (B : Bl K H c ns n) (hn : n < 64) (h : ∀ (S : List Int) (p : Addr) (H' : Hp), Same H H' → H p = none → Srt S ns → H' p = some (.lst (S.map V.int)) → Q (.ref p) H') :
    ∃ (a dx : Addr) (fs : List (Str × V)), V.ref c = .ref a ∧ H a = some (.ins (CB K) dx fs) ∧ fs.lookup ("listed" : Str) = none ∧ sp_listed K [.ref c] H Q E := by
  obtain ⟨dx, D, B, nd, l⟩ := B
  exact ⟨c, dx, _, rfl, B.1, rfl, c, dx, D, ns, rfl, B, nd, by omega, fun S p h1 h2 h3 h4 => h S p _ (My.Same.new (Same.refl H) h4) h4 ⟨h1, h2⟩ upd_same⟩
/-- a Blocks is made of vs -/
def MkB (K : PySem.W.Frag) (vs : List V) (H : Hp) (Q : VK) (E : XK) : Prop := ∀ x dx, H x = none → H dx = none → dx ≠ x → sp_init K (.ref x :: (vs ++ [])) (upd (upd H dx (.own x)) x (.ins (CB K) dx [])) (fun v H2 => v = .non ∧ Q (.ref x) H2) E
theorem x_mkT {E : XK} {tt : TA} (h : tt σ H fun vs H1 => MkB K vs H1 Q E) : tMake (CB K) (sp_init K) [] E tt σ H Q := h
theorem x_mkE {E : XK} {a : Addr} {ns : List Int} (hs : SqL K H a (ns.map V.int) ∨ SqT K H a (ns.map V.int)) (hin : InB ns) (hl : ns.length ≤ 60)
    (q : ∀ (c : Addr) (ms : List Int) (H' : Hp), H c = none → Same H H' → Bl K H' c ms ns.length → (∀ n, n ∈ ms ↔ n ∈ ns) → Q (.ref c) H') : MkB K [.ref a] H Q E :=
  x_mkB hs hin (by omega) fun c dx D ms H' hc hD s B nd hm hl => q c ms H' hc s ⟨dx, D, B, nd, hl⟩ hm
theorem x_bin {E : XK} {R : List Int → List Int → Int → Prop} {c d : Addr} {ns ms : List Int} {n m : Nat} (B : Bl K H c ns n) (C : Bl K H d ms m) (hi : InB ns) (hj : InB ms) (hn : n ≤ 30) (hm : m ≤ 30)
    (h : ∀ (e : Addr) (l : List Int) (H' : Hp), Same H H' → H e = none → Bl K H' e l (n + m) → (∀ x, x ∈ l ↔ R ns ms x) → Q (.ref e) H') : My.rBinO (CB K) (sp_bin R K) E (.ref c) (.ref d) H Q := by
  obtain ⟨dx, D, B, nd, l1⟩ := B
  obtain ⟨dy, D2, C, nd2, l2⟩ := C
  exact My.x_binO B.1 C.1 ⟨c, dx, D, ns, d, dy, D2, ms, rfl, B, C, nd, nd2, hi, hj, by omega, by omega, fun e de E l H' he hE s BB hnd hm hl => h e l H' s he ⟨de, E, BB, hnd, by omega⟩ hm⟩
theorem x_eqB {E : XK} {c d : Addr} {ns ms : List Int} {n m : Nat} (B : Bl K H c ns n) (C : Bl K H d ms m) (q : Q (.bl (decide (ns.length = ms.length ∧ ∀ n ∈ ns, n ∈ ms))) H) : My.rEqO (CB K) (sp_eq K) E (tyB K) (.ref c) (.ref d) H Q := by
  obtain ⟨dx, D, B, nd, l1⟩ := B
  obtain ⟨dy, D2, C, nd2, l2⟩ := C
  exact My.x_eqO B.1 (.inl ⟨d, dy, _, rfl, C.1⟩) ⟨c, dx, D, ns, _, rfl, B, .inl ⟨d, dy, D2, ms, rfl, C, _, rfl, q⟩⟩
theorem x_neB {E : XK} {c d : Addr} {ns ms : List Int} {n m : Nat} (B : Bl K H c ns n) (C : Bl K H d ms m) (q : Q (.bl (!decide (ns.length = ms.length ∧ ∀ n ∈ ns, n ∈ ms))) H) : My.rNeO (CB K) (sp_eq K) E (tyB K) (.ref c) (.ref d) H Q := by
  obtain ⟨dx, D, B, nd, l1⟩ := B
  obtain ⟨dy, D2, C, nd2, l2⟩ := C
  exact My.x_neO B.1 (.inl ⟨d, dy, _, rfl, C.1⟩) ⟨c, dx, D, ns, _, rfl, B, .inl ⟨d, dy, D2, ms, rfl, C, _, rfl, q⟩⟩
theorem x_eqL {E : XK} {c a : Addr} {xs : List V} {ns : List Int} {n : Nat} (B : Bl K H c ns n) (s : SqL K H a xs) (q : Q (.bl false) H) : My.rEqO (CB K) (sp_eq K) E (tyB K) (.ref c) (.ref a) H Q := by
  obtain ⟨dx, D, B, nd, l1⟩ := B
  exact My.x_eqO B.1 (.inr ⟨a, xs, rfl, s⟩) ⟨c, dx, D, ns, _, rfl, B, .inr ⟨a, xs, rfl, s, _, rfl, q⟩⟩
theorem x_lenB {E : XK} {c : Addr} {ns : List Int} {n : Nat} (B : Bl K H c ns n) (hn : n ≤ 1000) (q : Q (.int (ns.length : Nat)) H) : My.rLenO (CB K) (sp_len K) E [.ref c] H Q := by
  obtain ⟨dx, D, B, nd, l1⟩ := B
  exact My.x_lenO B.1 ⟨c, dx, D, ns, rfl, B, _, rfl, by omega, by omega, q⟩
/-- three lists of ints, the same as three -/
theorem x_ne3 {p q a1 a2 a3 b1 b2 b3 : Addr} {l1 l2 l3 : List Int} (hp : SqL K H p [.ref a1, .ref a2, .ref a3]) (hq : SqL K H q [.ref b1, .ref b2, .ref b3])
    (s1 : SqL K H a1 (l1.map V.int)) (s2 : SqL K H a2 (l2.map V.int)) (s3 : SqL K H a3 (l3.map V.int)) (t1 : SqL K H b1 (l1.map V.int)) (t2 : SqL K H b2 (l2.map V.int)) (t3 : SqL K H b3 (l3.map V.int))
    (k : Q (.bl false) H) : rNeD K (.ref p) (.ref q) H Q := by
  have sh : SeqAt.shaped (.list [.list (l1.map PyData.int), .list (l2.map PyData.int), .list (l3.map PyData.int)]) = true := by
    unfold SeqAt.shaped
    simp [PyData.canLay0, PyData.canLayAll0, My.lay_ints, PyData.depth, PyData.depthAll, My.depth_ints]
  refine ⟨_, _, .lst hp (.cons (.lst s1 (My.dp_ints l1)) (.cons (.lst s2 (My.dp_ints l2)) (.cons (.lst s3 (My.dp_ints l3)) .nil))), .lst hq (.cons (.lst t1 (My.dp_ints l1)) (.cons (.lst t2 (My.dp_ints l2)) (.cons (.lst t3 (My.dp_ints l3)) .nil))), sh, sh, ?_⟩
  simp only [PyData.eqv, PyData.eqvAll, My.eqv_ints, decide_true, Bool.and_true, Bool.not_true]
  exact k
end
end K41

end

section
local macro_rules | `(tactic| walk_at "ne") => `(tactic| first | assumption | (apply Ne.symm; assumption) | exact L2.ne_of_none (by assumption) (by assumption) | exact (L2.ne_of_none (by assumption) (by assumption)).symm)
local macro_rules | `(tactic| walk_at "hp") => `(tactic| first | assumption | exact L2.upd_same | (rw [L2.upd_ne (by walk_at "ne")]; walk_at "hp"))
local macro_rules | `(tactic| walk_at "sq") => `(tactic| first | assumption | exact L2.SqL.of (by walk_at "hp") | exact My.sq_new (by walk_at "sq") (by assumption))
local macro_rules | `(tactic| walk_at "sd") => `(tactic| first | decide | omega | (unfold L2.CDivN; omega) | (unfold L2.CMul; omega) | (unfold L2.CPow; omega))
local macro_rules | `(tactic| walk_at "sx1") => `(tactic| first | with_reducible refine My.x_seq ?_ | with_reducible refine My.x_asg ?_ | with_reducible refine My.x_ret ?_ | with_reducible refine My.x_next ?_ | with_reducible refine My.x_op ?_ | with_reducible refine My.x_c ?_ | with_reducible refine My.x_ifs ?_ | with_reducible refine My.x_test ?_ | with_reducible refine My.x_exbl ?_ | with_reducible refine My.x_cons ?_ | with_reducible refine My.x_nil ?_ | with_reducible refine My.x_cb ?_ | with_reducible refine My.x_drop ?_ | with_reducible refine My.x_par ?_ | with_reducible refine My.x_exp2 ?_ | with_reducible refine My.x_aug ?_ | with_reducible refine My.x_if ?_ | with_reducible refine My.x_tB ?_ | with_reducible refine My.x_and ?_ | with_reducible refine My.x_or ?_ | with_reducible refine My.x_not ?_ | with_reducible refine My.x_retn ?_ | with_reducible refine My.x_cont ?_ | with_reducible refine My.x_brk ?_ | with_reducible refine My.x_un ?_ | with_reducible refine My.x_tfor ?_ | with_reducible refine My.x_ilist ?_ | with_reducible refine My.x_rng1 ?_ | with_reducible refine My.x_rng2 ?_ | with_reducible refine My.x_r1 ?_ | with_reducible refine My.x_call ?_ | with_reducible refine My.x_sl ?_ | with_reducible refine My.x_part ?_ | with_reducible refine My.x_nopart ?_ | with_reducible refine My.x_ii0 ?_ | with_reducible refine My.x_yes ?_ | with_reducible refine My.x_andv ?_ | with_reducible refine My.x_orv ?_ | with_reducible refine My.x_notv ?_ | with_reducible refine My.x_iT ?_ | with_reducible refine My.x_iF ?_ | with_reducible refine My.x_chain ?_ | with_reducible refine My.x_exI ?_ | with_reducible refine My.x_wipe ?_ | with_reducible refine My.x_bm ?_ | with_reducible refine My.x_bm0 ?_ | with_reducible refine My.x_gsub ?_ | with_reducible refine My.x_int1 ?_ | with_reducible refine My.x_two ?_ | with_reducible refine My.x_lst ?_ | with_reducible refine My.x_tup ?_ | with_reducible refine My.x_revL ?_ | with_reducible refine My.x_dput ?_ | with_reducible refine My.x_dget ?_ | with_reducible refine My.x_dnew ?_ | with_reducible refine My.x_dc ?_ | with_reducible refine My.x_lc ?_ | with_reducible refine My.x_ienum ?_ | with_reducible refine My.x_gcons ?_ | with_reducible refine My.x_gnil ?_ | with_reducible refine My.x_v0 ?_ | with_reducible refine My.x_v1 ?_ | with_reducible refine My.x_v2 ?_ | with_reducible refine My.x_v3 ?_ | with_reducible refine My.x_v4 ?_ | with_reducible refine My.x_v5 ?_ | with_reducible refine My.x_v6 ?_ | with_reducible refine My.x_v7 ?_ | with_reducible refine My.x_v8 ?_ | with_reducible refine My.x_v9 ?_ | with_reducible refine My.x_v10 ?_ | with_reducible refine My.x_v11 ?_ | with_reducible refine My.x_v12 ?_ | with_reducible refine My.x_v13 ?_ | with_reducible refine My.x_v14 ?_ | with_reducible refine My.x_v15 ?_ | with_reducible refine My.x_v16 ?_ | with_reducible refine My.x_v17 ?_ | with_reducible refine My.x_v18 ?_ | with_reducible refine My.x_v19 ?_ | with_reducible refine My.x_v20 ?_ | with_reducible refine My.x_v21 ?_ | with_reducible refine My.x_v22 ?_ | with_reducible refine My.x_v23 ?_ | with_reducible refine My.x_v24 ?_ | with_reducible refine My.x_v25 ?_ | with_reducible refine My.x_g0 ?_ | with_reducible refine My.x_g1 ?_ | with_reducible refine My.x_g2 ?_ | with_reducible refine My.x_g3 ?_ | with_reducible refine My.x_g4 ?_ | with_reducible refine My.x_g5 ?_ | with_reducible refine My.x_g6 ?_ | with_reducible refine My.x_g7 ?_ | with_reducible refine My.x_g8 ?_ | with_reducible refine My.x_g9 ?_ | with_reducible refine My.x_g10 ?_ | with_reducible refine My.x_g11 ?_ | with_reducible refine My.x_g12 ?_ | with_reducible refine My.x_g13 ?_ | with_reducible refine My.x_g14 ?_ | with_reducible refine My.x_g15 ?_ | with_reducible refine My.x_g16 ?_ | with_reducible refine My.x_g17 ?_ | with_reducible refine My.x_g18 ?_ | with_reducible refine My.x_g19 ?_ | with_reducible refine My.x_g20 ?_ | with_reducible refine My.x_g21 ?_ | with_reducible refine My.x_g22 ?_ | with_reducible refine My.x_g23 ?_ | with_reducible refine My.x_g24 ?_ | with_reducible refine My.x_g25 ?_)
local macro_rules | `(tactic| walk_at "sx") => `(tactic| repeat (walk_at "sx1"))
local macro_rules | `(tactic| walk_at "ln") => `(tactic| first | assumption | exact Nat.le_of_ble_eq_true rfl | (simp only [List.length_append, List.length_map, List.length_cons, List.length_nil]; simp only [PySem.sizeLine]; omega))
local macro_rules | `(tactic| walk_at "st") => `(tactic| first | assumption | exact L2.SqT.of (by walk_at "hp"))
local macro_rules | `(tactic| walk_at "go1") => `(tactic| first | walk_at "sx1" | ((with_reducible refine' My.x_ixL ?x0 ?x1 ?x2); (case x0 => walk_at "sq"); (case x1 => exact rfl)) | ((with_reducible refine' My.x_ixT ?x0 ?x1 ?x2); (case x0 => walk_at "st"); (case x1 => exact rfl)) | ((with_reducible refine' My.x_i ?x0 ?x1); (case x0 => walk_at "sd")) | ((with_reducible refine' My.x_setL ?x0 ?x1 ?x2); (case x0 => walk_at "hp"); (case x1 => exact rfl)) | ((with_reducible refine' My.x_len ?x0 ?x1); (case x0 => walk_at "sq")) | ((with_reducible refine' My.x_lenT ?x0 ?x1); (case x0 => walk_at "st")) | ((with_reducible refine' My.x_lenD ?x0 ?x1); (case x0 => walk_at "hp")) | ((with_reducible refine' My.x_append ?x0 ?x1 ?x2); (case x0 => walk_at "hp"); (case x1 => walk_at "ln")) | ((with_reducible refine' My.x_tyL ?x0 ?x1); (case x0 => walk_at "hp")) | ((with_reducible refine' My.x_ilistE ?x0 ?x1); (case x0 => walk_at "sq")) | ((with_reducible refine' My.x_ienumE ?x0 ?x1); (case x0 => walk_at "sq")) | ((with_reducible refine' My.x_sortI ?x0 ?x1); (case x0 => walk_at "sq")) | ((with_reducible refine' My.x_slL ?x0 ?x1); (case x0 => walk_at "sq")) | ((with_reducible refine' My.x_revL2 ?x0 ?x1); (case x0 => walk_at "sq")) | ((with_reducible refine' My.x_eq ?x0 ?x1); (case x0 => exact rfl)) | ((with_reducible refine' My.x_ne ?x0 ?x1); (case x0 => exact rfl)) | ((with_reducible refine' My.x_dputI ?x0 ?x1 ?x2); (case x0 => walk_at "hp"); (case x1 => walk_at "ln")) | ((with_reducible refine' My.x_dputS ?x0 ?x1 ?x2); (case x0 => walk_at "hp"); (case x1 => walk_at "ln")) | ((with_reducible refine' My.x_seqof ?x0 ?x1); (case x0 => walk_at "sq")) | ((with_reducible refine' My.x_gtup ?x0 ?x1 ?x2); (case x0 => walk_at "st"); (case x1 => exact rfl)) | ((with_reducible refine' My.x_mem1 ?x0 ?x1); (case x0 => walk_at "ln")))
local macro_rules | `(tactic| walk_at "go") => `(tactic| repeat (walk_at "go1"))
local macro_rules | `(tactic| walk_at "sx1") => `(tactic| first | with_reducible refine My.x_fld ?_ | with_reducible refine My.x_sfld ?_ | with_reducible refine My.x_meth ?_ | with_reducible refine My.x_make ?_ | with_reducible refine My.x_din ?_ | with_reducible refine My.x_dnin ?_ | with_reducible refine My.x_ikeys ?_ | with_reducible refine My.x_itup ?_ | with_reducible refine My.x_mkO ?_ | with_reducible refine My.x_vei ?_ | with_reducible refine My.x_ost ?_ | with_reducible refine My.x_nF ?_ | with_reducible refine My.x_nT ?_)
local macro_rules | `(tactic| walk_at "go1") => `(tactic| first | ((with_reducible refine' My.x_fldE ?x0 ?x1 ?x2 ?x3 ?x4); (case x0 => walk_at "hp"); (case x1 => assumption); (case x2 => assumption); (case x3 => exact rfl)) | ((with_reducible refine' My.x_sfldE ?x0 ?x1 ?x2 ?x3 ?x4 ?x5); (case x0 => walk_at "hp"); (case x1 => assumption); (case x2 => assumption); (case x3 => decide); (case x4 => exact rfl)) | ((with_reducible refine' My.x_methE ?x0 ?x1 ?x2); (case x0 => walk_at "hp"); (case x1 => exact rfl)) | ((with_reducible refine' My.x_itupE ?x0 ?x1); (case x0 => walk_at "st")))
local macro_rules | `(tactic| walk_at "sx1") => `(tactic| first | with_reducible refine K41.x_ss ?_ | with_reducible refine K41.x_listed ?_ | with_reducible refine K41.x_mkT ?_)
namespace K41
open PySem PySem.Spec PyProof.Rows L2
def sp_pair : Sp := fun vs H Q _ => ∃ (a b : Addr) (ls rs : List Int), vs = [.ref a, .ref b] ∧ H a = some (.lst (ls.map V.int)) ∧ H b = some (.lst (rs.map V.int)) ∧ InB ls ∧ InB rs ∧ ls.length ≤ 24 ∧ rs.length ≤ 24 ∧
  ∀ H', Same H H' → Q (.bl true) H'
section
variable {P : Program} {w : World} {K : PySem.W.Frag} {mg : Str → Option Value} {base : Heap} {tk : Tok}
theorem ok_pair (T : Tx K mg tk) {fd : FuncData} (F : Fd K d_law_pair_right fd) (M_B : MBl P w K mg base) (C_listed : CListed P w K mg base) (C_contains : CHas P w K mg base)
    (C_within : My.Cm P w K mg base CX0 "Blocks" "within" ["self", "other"] 3 (sp_within K)) (C_len : My.Cm P w K mg base CX0 "Blocks" "__len__" ["self"] 1 (sp_len K))
    (C_and : CBin "__and__" Rand P w K mg base) (C_or : CBin "__or__" Ror P w K mg base) (C_sub : CBin "__sub__" Rsub P w K mg base) (C_xor : CBin "__xor__" Rxor P w K mg base)
    (C_eq : My.Cm P w K mg base CX0 "Blocks" "__eq__" ["self", "other"] 1 (sp_eq K)) : FnOk P w K mg base CX0 7 (He.ga K "_law_pair_right") fd ["_law_left", "_law_right"] sp_pair := by
  have hcls := T.cls
  have hnoat := T.noat
  refine F.ok sc_law_pair_right (fun vs H Q E h => ?_) (fun cdv A outer s H vs Q E hr h => ?_)
  · obtain ⟨a, b, ls, rs, rfl, _⟩ := h
    rfl
  · obtain ⟨a, b, ls, rs, rfl, ha, hb, hil, hir, hll, hlr, q⟩ := h
    refine ⟨_, PSs.nox ((pss_cons (ps_par (i := 2) (j := 3) (by rfl) sc_law_pair_right.nd rfl rfl (by decide) rfl rfl (pa_cons (My.pe_mx M_B (hr.mono (by decide)) rfl My.passF (pa_cons (pv 0) pa_nil)) (pa_cons (My.pe_mx M_B (hr.mono (by decide)) rfl My.passF (pa_cons (pe_callTy call_tuple_of (by rfl) T.n_tuple (by decide +kernel) (pa_cons (pv 1) pa_nil)) pa_nil)) pa_nil)) (by rfl))
  (pss_cons (ps_setLc (i := 4) (own := [("_law_number", 7)]) (g := gName 7)  rfl sc_law_pair_right.nd rfl rfl (sw_true rfl rfl rfl (by decide +kernel)) (pi_list (pe_callB (cr_sortedSet rfl) (by rfl) T.n_sorted (by decide +kernel) (pa_cons (pe_callTy (My.cr_setL rfl) (by rfl) T.n_set (by decide +kernel) (pa_cons (pv 0) pa_nil)) pa_nil))) (blkOk_by (own := [("_law_number", 7)]) (N := ["_law_left", "_law_right", "_law_one", "_law_other", "_law_same", "_law_rest", "_law_more", "_law_number"]) (sc := defScope s_law_pair_right) (by decide +kernel)) (fun _ _ _ _ _ => pg_name (i := 7) sc_law_pair_right.nd rfl (Or.inl rfl)) (fun _ _ _ _ _ => pts_one (pt_cmpR (op_in_seqK (K := K) (by rfl)) (pv 7) (pv 1) (by rfl))) (fun _ _ _ _ _ => (pv 7)))
  (pss_cons (ps_setLc (i := 5) (own := [("_law_number", 7)]) (g := gName 7)  rfl sc_law_pair_right.nd rfl rfl (sw_true rfl rfl rfl (by decide +kernel)) (pi_list (pe_callB (cr_sortedSet rfl) (by rfl) T.n_sorted (by decide +kernel) (pa_cons (pe_callTy (My.cr_setL rfl) (by rfl) T.n_set (by decide +kernel) (pa_cons (pv 0) pa_nil)) pa_nil))) (blkOk_by (own := [("_law_number", 7)]) (N := ["_law_left", "_law_right", "_law_one", "_law_other", "_law_same", "_law_rest", "_law_more", "_law_number"]) (sc := defScope s_law_pair_right) (by decide +kernel)) (fun _ _ _ _ _ => pg_name (i := 7) sc_law_pair_right.nd rfl (Or.inl rfl)) (fun _ _ _ _ _ => pts_one (pt_cmpR (op_notIn_seqK (K := K) (by rfl)) (pv 7) (pv 1) (by rfl))) (fun _ _ _ _ _ => (pv 7)))
  (pss_cons (ps_setLc (i := 6) (own := [("_law_number", 7)]) (g := gName 7)  rfl sc_law_pair_right.nd rfl rfl (sw_true rfl rfl rfl (by decide +kernel)) (pi_list (pe_callB (cr_sortedSet rfl) (by rfl) T.n_sorted (by decide +kernel) (pa_cons (pe_callTy (My.cr_setL rfl) (by rfl) T.n_set (by decide +kernel) (pa_cons (pv 1) pa_nil)) pa_nil))) (blkOk_by (own := [("_law_number", 7)]) (N := ["_law_left", "_law_right", "_law_one", "_law_other", "_law_same", "_law_rest", "_law_more", "_law_number"]) (sc := defScope s_law_pair_right) (by decide +kernel)) (fun _ _ _ _ _ => pg_name (i := 7) sc_law_pair_right.nd rfl (Or.inl rfl)) (fun _ _ _ _ _ => pts_one (pt_cmpR (op_notIn_seqK (K := K) (by rfl)) (pv 7) (pv 0) (by rfl))) (fun _ _ _ _ _ => (pv 7)))
  (pss_cons (ps_if (pt_cmpR (op_neD hr.units) (pe_lst (pa_cons (My.pe_cm0 C_listed (hr.mono (by decide)) pass0 (pe_op (My.op_binO rfl C_and.spc T.sf (hr.mono (by decide)) pass0) (pv 2) (pv 3))) (pa_cons (My.pe_cm0 C_listed (hr.mono (by decide)) pass0 (pe_op (My.op_binO rfl C_sub.spc T.sf (hr.mono (by decide)) pass0) (pv 2) (pv 3))) (pa_cons (My.pe_cm0 C_listed (hr.mono (by decide)) pass0 (pe_op (My.op_binO rfl C_sub.spc T.sf (hr.mono (by decide)) pass0) (pv 3) (pv 2))) pa_nil)))) (pe_lst (pa_cons (pv 4) (pa_cons (pv 5) (pa_cons (pv 6) pa_nil)))) (nomark _))
  (pss_one (ps_ret pe_bl))
  pss_nil)
  (pss_cons (ps_if (PW.pt (pw_or (pt_cmpR (op_neD hr.units) (My.pe_cm0 C_listed (hr.mono (by decide)) pass0 (pe_op (My.op_binO rfl C_or.spc T.sf (hr.mono (by decide)) pass0) (pv 2) (pv 3))) (pe_callB (cr_sortedSet rfl) (by rfl) T.n_sorted (by decide +kernel) (pa_cons (pe_callTy (My.cr_setL rfl) (by rfl) T.n_set (by decide +kernel) (pa_cons (pe_op op_cat (pv 0) (pv 1)) pa_nil)) pa_nil)) (nomark _)) (pw_or1 (pt_cmpR (op_neD hr.units) (My.pe_cm0 C_listed (hr.mono (by decide)) pass0 (pe_op (My.op_binO rfl C_xor.spc T.sf (hr.mono (by decide)) pass0) (pv 2) (pv 3))) (pe_callB cr_sortedI (by rfl) T.n_sorted (by decide +kernel) (pa_cons (pe_op op_cat (pv 5) (pv 6)) pa_nil)) (nomark _)))))
  (pss_one (ps_ret pe_bl))
  pss_nil)
  (pss_cons (ps_if (PW.pt (pw_or (pt_cmpR op_ne (My.pe_cm C_within (hr.mono (by decide)) pass0 (pv 2) (pa_cons (pv 3) pa_nil)) (pe_cmpR (op_eqD hr.units) (pv 5) (pe_lst pa_nil) (nomark _)) (nomark _)) (pw_or (pt_cmpR op_ne (pe_cmpR (My.op_eqO C_eq.spc (hr.mono (by decide)) pass0 (hty (by exact T.subL))) (pv 2) (pv 3) (nomark _)) (pe_cmpR (op_eqD hr.units) (pe_op op_cat (pv 5) (pv 6)) (pe_lst pa_nil) (nomark _)) (nomark _)) (pw_or1 (pt_cmpR op_eq (pe_cmpR (My.op_neO C_eq.spc (hr.mono (by decide)) pass0 T.mroO T.neO (hty (by exact T.subL))) (pv 2) (pv 3) (nomark _)) (pe_cmpR (My.op_eqO C_eq.spc (hr.mono (by decide)) pass0 (hty (by exact T.subL))) (pv 2) (pv 3) (nomark _)) (nomark _))))))
  (pss_one (ps_ret pe_bl))
  pss_nil)
  (pss_one (ps_ret (pe_and (pe_cmpR (op_eqD hr.units) (My.pe_cm0 C_listed (hr.mono (by decide)) pass0 (pv 2)) (pe_callB (cr_sortedSet rfl) (by rfl) T.n_sorted (by decide +kernel) (pa_cons (pe_callTy (My.cr_setL rfl) (by rfl) T.n_set (by decide +kernel) (pa_cons (pv 0) pa_nil)) pa_nil)) (nomark _)) (pe_one (pe_cmpR (op_eqD hr.units) (pe_lst (pa_cons (pe_callB (My.call_lenO C_len.spc (hr.mono (by decide)) pass0) (by rfl) T.n_len (by decide +kernel) (pa_cons (pv 2) pa_nil)) (pa_cons (pe_callB (My.call_lenO C_len.spc (hr.mono (by decide)) pass0) (by rfl) T.n_len (by decide +kernel) (pa_cons (pv 3) pa_nil)) pa_nil))) (pe_lst (pa_cons (pe_callB My.cr_lenSet (by rfl) T.n_len (by decide +kernel) (pa_cons (pe_callTy (My.cr_setL rfl) (by rfl) T.n_set (by decide +kernel) (pa_cons (pv 0) pa_nil)) pa_nil)) (pa_cons (pe_callB My.cr_lenSet (by rfl) T.n_len (by decide +kernel) (pa_cons (pe_callTy (My.cr_setL rfl) (by rfl) T.n_set (by decide +kernel) (pa_cons (pv 1) pa_nil)) pa_nil)) pa_nil))) (nomark _)))))))))))))), ?_⟩
    refine My.x_start (σ := [some (V.ref a), some (V.ref b), none, none, none, none, none, none]) rfl ?_
    try dsimp only [cxOf, Cx.nox]
    walk_at "go"
    refine x_mkE (.inl (SqL.of ha)) hil (by omega) fun c1 n1 H1 hc1 s1 A1 m1 => ?_
    have hb1 := s1 _ _ hb
    walk_at "go"
    refine ⟨b, rs.map V.int, rfl, .inl ⟨SqL.of hb1, fun tp htp => ?_⟩⟩
    have s2 := My.Same.new (o := .tup (rs.map V.int)) s1 htp
    have k2 := My.Same.new (o := .tup (rs.map V.int)) (Same.refl H1) htp
    walk_at "go"
    refine x_mkE (.inr (SqT.of upd_same)) hir (by omega) fun c2 n2 H2 hc2 s3 A2 m2 => ?_
    have S : Same H H2 := s2.trans s3
    replace A1 := (A1.same k2).same s3
    clear s1 s2 s3 k2 hc1 hc2 htp
    -- COMPS
    walk_at "go"
    refine x_ssE (SqL.of (S _ _ ha)) (by omega) fun T3 p3 G3 t3 hp3 r3 e3 => ?_
    walk_at "go"
    intro L3 hL
    refine My.lc_runs (My.runs_list (K := K) (a := p3) V.int T3) (fun pre H' => Same G3 H' ∧ H' L3 = some (.lst ((pre.filter fun n => decide (n ∈ rs)).map V.int))) ⟨My.Same.new (Same.refl G3) hL, upd_same⟩ (fun pre post H' _ h => h.1.seq (SqL.of e3)) ?_ ?_
    · rintro pre x post H5 v H6 hpre ⟨s3, e3⟩ ⟨rfl, rfl⟩
      simp only [List.map_cons, List.map_nil, wipe, List.set_cons_succ, List.set_cons_zero]
      have hfl : (pre.filter fun n => decide (n ∈ rs)).length ≤ 64 := by
        have := List.length_filter_le (fun n => decide (n ∈ rs)) pre
        have h1 := My.nodup_len (r3.up.imp fun {a b} p => by omega : T3.Nodup) fun x hx => (r3.mem x).mp hx
        have h2 := congrArg List.length hpre
        rw [List.length_append, List.length_cons] at h2
        omega
      walk_at "go"
      refine ⟨rfl, ?_⟩
      walk_at "go"
      refine My.x_inI (SqL.of (s3 _ _ (t3 _ _ (S _ _ hb)))) ?_
      by_cases hx : x ∈ rs
      · rw [decide_eq_true hx]
        try simp only [Bool.not_true]
        walk_at "go"
        exact ⟨_, e3, by rw [List.length_map]; show _ < 2 ^ 24; omega, My.Same.mut s3 hL, by rw [upd_same, List.filter_append, List.filter_cons_of_pos (by simp [hx]), List.filter_nil, List.map_append]; rfl⟩
      · rw [decide_eq_false hx]
        try simp only [Bool.not_false]
        walk_at "go"
        exact ⟨s3, by rw [List.filter_append, List.filter_cons_of_neg (by simp [hx]), List.filter_nil, List.append_nil]; exact e3⟩
    rintro H3 ⟨s3, f3⟩
    have k3 := t3.trans s3
    replace S := S.trans k3
    replace A1 := A1.same k3
    replace A2 := A2.same k3
    have R3 : Srt (T3.filter fun n => decide (n ∈ rs)) (ls.filter fun n => decide (n ∈ rs)) := ⟨r3.up.filter _, fun x => by rw [List.mem_filter, List.mem_filter, r3.mem]⟩
    generalize T3.filter (fun n => decide (n ∈ rs)) = F3 at f3 R3 ⊢
    clear hL e3 hp3 t3 s3 k3 r3
    walk_at "go"
    refine x_ssE (SqL.of (S _ _ ha)) (by omega) fun T4 p4 G4 t4 hp4 r4 e4 => ?_
    walk_at "go"
    intro L4 hL
    refine My.lc_runs (My.runs_list (K := K) (a := p4) V.int T4) (fun pre H' => Same G4 H' ∧ H' L4 = some (.lst ((pre.filter fun n => !decide (n ∈ rs)).map V.int))) ⟨My.Same.new (Same.refl G4) hL, upd_same⟩ (fun pre post H' _ h => h.1.seq (SqL.of e4)) ?_ ?_
    · rintro pre x post H5 v H6 hpre ⟨s3, e3⟩ ⟨rfl, rfl⟩
      simp only [List.map_cons, List.map_nil, wipe, List.set_cons_succ, List.set_cons_zero]
      have hfl : (pre.filter fun n => !decide (n ∈ rs)).length ≤ 64 := by
        have := List.length_filter_le (fun n => !decide (n ∈ rs)) pre
        have h1 := My.nodup_len (r4.up.imp fun {a b} p => by omega : T4.Nodup) fun x hx => (r4.mem x).mp hx
        have h2 := congrArg List.length hpre
        rw [List.length_append, List.length_cons] at h2
        omega
      walk_at "go"
      refine ⟨rfl, ?_⟩
      walk_at "go"
      refine My.x_notinI (SqL.of (s3 _ _ (t4 _ _ (S _ _ hb)))) ?_
      by_cases hx : x ∈ rs
      · rw [decide_eq_true hx]
        try simp only [Bool.not_true]
        walk_at "go"
        exact ⟨s3, by rw [List.filter_append, List.filter_cons_of_neg (by simp [hx]), List.filter_nil, List.append_nil]; exact e3⟩
      · rw [decide_eq_false hx]
        try simp only [Bool.not_false]
        walk_at "go"
        exact ⟨_, e3, by rw [List.length_map]; show _ < 2 ^ 24; omega, My.Same.mut s3 hL, by rw [upd_same, List.filter_append, List.filter_cons_of_pos (by simp [hx]), List.filter_nil, List.map_append]; rfl⟩
    rintro H4 ⟨s3, f4⟩
    have k4 := t4.trans s3
    replace S := S.trans k4
    replace A1 := A1.same k4
    replace A2 := A2.same k4
    replace f3 := k4 _ _ f3
    have R4 : Srt (T4.filter fun n => !decide (n ∈ rs)) (ls.filter fun n => !decide (n ∈ rs)) := ⟨r4.up.filter _, fun x => by rw [List.mem_filter, List.mem_filter, r4.mem]⟩
    generalize T4.filter (fun n => !decide (n ∈ rs)) = F4 at f4 R4 ⊢
    clear hL e4 hp4 t4 s3 k4 r4
    walk_at "go"
    refine x_ssE (SqL.of (S _ _ hb)) (by omega) fun T5 p5 G5 t5 hp5 r5 e5 => ?_
    walk_at "go"
    intro L5 hL
    refine My.lc_runs (My.runs_list (K := K) (a := p5) V.int T5) (fun pre H' => Same G5 H' ∧ H' L5 = some (.lst ((pre.filter fun n => !decide (n ∈ ls)).map V.int))) ⟨My.Same.new (Same.refl G5) hL, upd_same⟩ (fun pre post H' _ h => h.1.seq (SqL.of e5)) ?_ ?_
    · rintro pre x post H5 v H6 hpre ⟨s3, e3⟩ ⟨rfl, rfl⟩
      simp only [List.map_cons, List.map_nil, wipe, List.set_cons_succ, List.set_cons_zero]
      have hfl : (pre.filter fun n => !decide (n ∈ ls)).length ≤ 64 := by
        have := List.length_filter_le (fun n => !decide (n ∈ ls)) pre
        have h1 := My.nodup_len (r5.up.imp fun {a b} p => by omega : T5.Nodup) fun x hx => (r5.mem x).mp hx
        have h2 := congrArg List.length hpre
        rw [List.length_append, List.length_cons] at h2
        omega
      walk_at "go"
      refine ⟨rfl, ?_⟩
      walk_at "go"
      refine My.x_notinI (SqL.of (s3 _ _ (t5 _ _ (S _ _ ha)))) ?_
      by_cases hx : x ∈ ls
      · rw [decide_eq_true hx]
        try simp only [Bool.not_true]
        walk_at "go"
        exact ⟨s3, by rw [List.filter_append, List.filter_cons_of_neg (by simp [hx]), List.filter_nil, List.append_nil]; exact e3⟩
      · rw [decide_eq_false hx]
        try simp only [Bool.not_false]
        walk_at "go"
        exact ⟨_, e3, by rw [List.length_map]; show _ < 2 ^ 24; omega, My.Same.mut s3 hL, by rw [upd_same, List.filter_append, List.filter_cons_of_pos (by simp [hx]), List.filter_nil, List.map_append]; rfl⟩
    rintro H5 ⟨s3, f5⟩
    have k5 := t5.trans s3
    replace S := S.trans k5
    replace A1 := A1.same k5
    replace A2 := A2.same k5
    replace f3 := k5 _ _ f3
    replace f4 := k5 _ _ f4
    have R5 : Srt (T5.filter fun n => !decide (n ∈ ls)) (rs.filter fun n => !decide (n ∈ ls)) := ⟨r5.up.filter _, fun x => by rw [List.mem_filter, List.mem_filter, r5.mem]⟩
    generalize T5.filter (fun n => !decide (n ∈ ls)) = F5 at f5 R5 ⊢
    clear hL e5 hp5 t5 s3 k5 r5
    walk_at "go"
    have i1 : InB n1 := fun n h => hil n ((m1 n).mp h)
    have i2 : InB n2 := fun n h => hir n ((m2 n).mp h)
    refine x_bin A1 A2 i1 i2 (by omega) (by omega) fun e6 u6 J6 s6 he6 E6 w6 => ?_
    refine x_listedE E6 (by omega) fun U6 q6 H6 t6 hq6 v6 g6 => ?_
    have k6 := s6.trans t6
    replace S := S.trans k6
    replace A1 := A1.same k6
    replace A2 := A2.same k6
    replace f3 := k6 _ _ f3
    replace f4 := k6 _ _ f4
    replace f5 := k6 _ _ f5
    clear s6 t6 he6 hq6 E6 k6
    walk_at "go"
    refine x_bin A1 A2 i1 i2 (by omega) (by omega) fun e7 u7 J7 s7 he7 E7 w7 => ?_
    refine x_listedE E7 (by omega) fun U7 q7 H7 t7 hq7 v7 g7 => ?_
    have k7 := s7.trans t7
    replace S := S.trans k7
    replace A1 := A1.same k7
    replace A2 := A2.same k7
    replace f3 := k7 _ _ f3
    replace f4 := k7 _ _ f4
    replace f5 := k7 _ _ f5
    replace g6 := k7 _ _ g6
    clear s7 t7 he7 hq7 E7 k7
    walk_at "go"
    refine x_bin A2 A1 i2 i1 (by omega) (by omega) fun e8 u8 J8 s8 he8 E8 w8 => ?_
    refine x_listedE E8 (by omega) fun U8 q8 H8 t8 hq8 v8 g8 => ?_
    have k8 := s8.trans t8
    replace S := S.trans k8
    replace A1 := A1.same k8
    replace A2 := A2.same k8
    replace f3 := k8 _ _ f3
    replace f4 := k8 _ _ f4
    replace f5 := k8 _ _ f5
    replace g6 := k8 _ _ g6
    replace g7 := k8 _ _ g7
    clear s8 t8 he8 hq8 E8 k8
    walk_at "go"
    intro P1 hP1
    have k9 := My.Same.new (o := .lst [V.ref q6, V.ref q7, V.ref q8]) (Same.refl H8) hP1
    have gP1 : upd H8 P1 (.lst [V.ref q6, V.ref q7, V.ref q8]) P1 = some (.lst [V.ref q6, V.ref q7, V.ref q8]) := upd_same
    generalize upd H8 P1 (.lst [V.ref q6, V.ref q7, V.ref q8]) = H9 at k9 gP1 ⊢
    replace S := S.trans k9
    replace A1 := A1.same k9
    replace A2 := A2.same k9
    replace f3 := k9 _ _ f3
    replace f4 := k9 _ _ f4
    replace f5 := k9 _ _ f5
    replace g6 := k9 _ _ g6
    replace g7 := k9 _ _ g7
    replace g8 := k9 _ _ g8
    clear k9 hP1
    walk_at "go"
    intro P2 hP2
    have k10 := My.Same.new (o := .lst [V.ref L3, V.ref L4, V.ref L5]) (Same.refl H9) hP2
    have gP2 : upd H9 P2 (.lst [V.ref L3, V.ref L4, V.ref L5]) P2 = some (.lst [V.ref L3, V.ref L4, V.ref L5]) := upd_same
    generalize upd H9 P2 (.lst [V.ref L3, V.ref L4, V.ref L5]) = H10 at k10 gP2 ⊢
    replace S := S.trans k10
    replace A1 := A1.same k10
    replace A2 := A2.same k10
    replace f3 := k10 _ _ f3
    replace f4 := k10 _ _ f4
    replace f5 := k10 _ _ f5
    replace g6 := k10 _ _ g6
    replace g7 := k10 _ _ g7
    replace g8 := k10 _ _ g8
    replace gP1 := k10 _ _ gP1
    clear k10 hP2
    obtain rfl : U6 = F3 := v6.eq R3 fun x => by rw [w6, List.mem_filter]; simp [Rand, m1, m2]
    obtain rfl : U7 = F4 := v7.eq R4 fun x => by rw [w7, List.mem_filter]; simp [Rsub, m1, m2]
    obtain rfl : U8 = F5 := v8.eq R5 fun x => by rw [w8, List.mem_filter]; simp [Rsub, m1, m2]
    refine x_ne3 (SqL.of gP1) (SqL.of gP2) (SqL.of g6) (SqL.of g7) (SqL.of g8) (SqL.of f3) (SqL.of f4) (SqL.of f5) ?_
    clear gP1 gP2 g6 g7 g8 v6 v7 v8 w6 w7 w8
    walk_at "go"
    refine x_bin A1 A2 i1 i2 (by omega) (by omega) fun e11 u11 J11 s11 he11 E11 w11 => ?_
    refine x_listedE E11 (by omega) fun U11 q11 H11 t11 hq11 v11 g11 => ?_
    have k11 := s11.trans t11
    replace S := S.trans k11
    replace A1 := A1.same k11
    replace A2 := A2.same k11
    replace f3 := k11 _ _ f3
    replace f4 := k11 _ _ f4
    replace f5 := k11 _ _ f5
    clear s11 t11 he11 hq11 E11 k11
    walk_at "go"
    refine My.x_cat (S _ _ ha) (S _ _ hb) (by rw [List.length_map, List.length_map]; show _ ≤ 2 ^ 24; omega) fun P3 hP3 => ?_
    rw [← List.map_append]
    have k12 := My.Same.new (o := .lst ((ls ++ rs).map V.int)) (Same.refl H11) hP3
    have gP3 : upd H11 P3 (.lst ((ls ++ rs).map V.int)) P3 = some (.lst ((ls ++ rs).map V.int)) := upd_same
    generalize upd H11 P3 (.lst ((ls ++ rs).map V.int)) = H12 at k12 gP3 ⊢
    replace S := S.trans k12
    replace A1 := A1.same k12
    replace A2 := A2.same k12
    replace f3 := k12 _ _ f3
    replace f4 := k12 _ _ f4
    replace f5 := k12 _ _ f5
    replace g11 := k12 _ _ g11
    clear k12 hP3
    walk_at "go"
    refine x_ssE (SqL.of gP3) (by rw [List.length_append]; omega) fun T13 p13 H13 k13 hp13 r13 e13 => ?_
    replace S := S.trans k13
    replace A1 := A1.same k13
    replace A2 := A2.same k13
    replace f3 := k13 _ _ f3
    replace f4 := k13 _ _ f4
    replace f5 := k13 _ _ f5
    replace g11 := k13 _ _ g11
    obtain rfl : U11 = T13 := v11.eq r13 fun x => by rw [w11, List.mem_append]; simp [Ror, m1, m2]
    refine My.x_neI (SqL.of g11) (SqL.of e13) ?_
    simp only [decide_true, Bool.not_true]
    clear gP3 g11 e13 r13 v11 w11 hp13 k13
    walk_at "go"
    have b7 : U7.length ≤ 24 := Nat.le_trans (My.nodup_len (strict_nodup R4.up) fun x hx => (List.mem_filter.mp ((R4.mem x).mp hx)).1) hll
    have b8 : U8.length ≤ 24 := Nat.le_trans (My.nodup_len (strict_nodup R5.up) fun x hx => (List.mem_filter.mp ((R5.mem x).mp hx)).1) hlr
    refine x_bin A1 A2 i1 i2 (by omega) (by omega) fun e14 u14 J14 s14 he14 E14 w14 => ?_
    refine x_listedE E14 (by omega) fun U14 q14 H14 t14 hq14 v14 g14 => ?_
    have k14 := s14.trans t14
    replace S := S.trans k14
    replace A1 := A1.same k14
    replace A2 := A2.same k14
    replace f3 := k14 _ _ f3
    replace f4 := k14 _ _ f4
    replace f5 := k14 _ _ f5
    clear s14 t14 he14 hq14 E14 k14
    walk_at "go"
    refine My.x_cat f4 f5 (by rw [List.length_map, List.length_map]; show _ ≤ 2 ^ 24; omega) fun P4 hP4 => ?_
    rw [← List.map_append]
    have k15 := My.Same.new (o := .lst ((U7 ++ U8).map V.int)) (Same.refl H14) hP4
    have gP4 : upd H14 P4 (.lst ((U7 ++ U8).map V.int)) P4 = some (.lst ((U7 ++ U8).map V.int)) := upd_same
    generalize upd H14 P4 (.lst ((U7 ++ U8).map V.int)) = H15 at k15 gP4 ⊢
    replace S := S.trans k15
    replace A1 := A1.same k15
    replace A2 := A2.same k15
    replace f3 := k15 _ _ f3
    replace f4 := k15 _ _ f4
    replace f5 := k15 _ _ f5
    replace g14 := k15 _ _ g14
    clear k15 hP4
    walk_at "go"
    intro T16 P5 pe16 so16 hP5
    have k16 := My.Same.new (o := .lst (T16.map V.int)) (Same.refl H15) hP5
    have gP5 : upd H15 P5 (.lst (T16.map V.int)) P5 = some (.lst (T16.map V.int)) := upd_same
    generalize upd H15 P5 (.lst (T16.map V.int)) = H16 at k16 gP5 ⊢
    replace S := S.trans k16
    replace A1 := A1.same k16
    replace A2 := A2.same k16
    replace f3 := k16 _ _ f3
    replace f4 := k16 _ _ f4
    replace f5 := k16 _ _ f5
    replace g14 := k16 _ _ g14
    clear k16 hP5
    have z16 : T16.Pairwise (· < ·) := (List.Pairwise.and so16 (pe16.nodup_iff.mpr (List.nodup_append.mpr ⟨strict_nodup R4.up, strict_nodup R5.up, fun x hx y hy e => by
      have h1 := (R4.mem x).mp hx
      have h2 := (R5.mem y).mp hy
      rw [List.mem_filter] at h1 h2
      subst e
      simp_all⟩))).imp fun {a b} ⟨p, q⟩ => by omega
    obtain rfl : U14 = T16 := sorted_same v14.up z16 fun x => by
      rw [v14.mem, w14, pe16.mem_iff, List.mem_append, R4.mem, R5.mem, List.mem_filter, List.mem_filter]
      simp [Rxor, m1, m2]
    refine My.x_neI (SqL.of g14) (SqL.of gP5) ?_
    simp only [decide_true, Bool.not_true]
    clear gP4 gP5 g14 v14 w14 pe16 so16 z16
    obtain ⟨dx1, D1, B1, nd1, l1⟩ := id A1
    obtain ⟨dx2, D2, B2, nd2, l2⟩ := id A2
    have hc1 := B1.1
    walk_at "go"
    refine ⟨c1, dx1, D1, n1, c2, dx2, D2, n2, rfl, B1, B2, i1, i2, by omega, fun H17 k17 => ?_⟩
    replace S := S.trans k17
    replace A1 := A1.same k17
    replace A2 := A2.same k17
    replace f3 := k17 _ _ f3
    replace f4 := k17 _ _ f4
    replace f5 := k17 _ _ f5
    clear B1 B2 hc1 l1 l2 k17
    walk_at "go"
    intro P6 hP6
    have k18 := My.Same.new (o := .lst []) (Same.refl H17) hP6
    have gP6 : upd H17 P6 (.lst []) P6 = some (.lst []) := upd_same
    generalize upd H17 P6 (.lst []) = H18 at k18 gP6 ⊢
    replace S := S.trans k18
    replace A1 := A1.same k18
    replace A2 := A2.same k18
    replace f3 := k18 _ _ f3
    replace f4 := k18 _ _ f4
    replace f5 := k18 _ _ f5
    clear k18 hP6
    refine My.x_eqI (ns := U7) (ms := []) (SqL.of f4) (SqL.of gP6) ?_
    clear gP6
    walk_at "go"
    have y4 : U7 = [] ↔ ∀ n ∈ n1, n ∈ n2 := by
      rw [List.eq_nil_iff_forall_not_mem]
      constructor
      · intro h n hn
        by_cases hn2 : n ∈ n2
        · exact hn2
        · exact absurd ((R4.mem n).mpr (by rw [List.mem_filter]; simp [(m1 n).mp hn, show ¬ n ∈ rs from fun z => hn2 ((m2 n).mpr z)])) (h n)
      · intro h x hx
        have := (R4.mem x).mp hx
        rw [List.mem_filter] at this
        have h2 := h x ((m1 x).mpr this.1)
        simp [(m2 x).mp h2] at this
    have y5 : U8 = [] ↔ ∀ n ∈ n2, n ∈ n1 := by
      rw [List.eq_nil_iff_forall_not_mem]
      constructor
      · intro h n hn
        by_cases hn2 : n ∈ n1
        · exact hn2
        · exact absurd ((R5.mem n).mpr (by rw [List.mem_filter]; simp [(m2 n).mp hn, show ¬ n ∈ ls from fun z => hn2 ((m1 n).mpr z)])) (h n)
      · intro h x hx
        have := (R5.mem x).mp hx
        rw [List.mem_filter] at this
        have h2 := h x ((m2 x).mpr this.1)
        simp [(m1 x).mp h2] at this
    have y6 : (n1.length = n2.length ∧ ∀ n ∈ n1, n ∈ n2) ↔ U7 ++ U8 = [] := by
      rw [List.append_eq_nil_iff, y4, y5]
      constructor
      · rintro ⟨h1, h2⟩
        refine ⟨h2, fun y hy => ?_⟩
        by_cases hy1 : y ∈ n1
        · exact hy1
        · have := My.nodup_len (List.nodup_cons.mpr ⟨hy1, nd1⟩) fun x hx => (List.mem_cons.mp hx).elim (fun e => e ▸ hy) (h2 x)
          rw [List.length_cons] at this
          omega
      · rintro ⟨h1, h2⟩
        exact ⟨perm_of nd1 nd2 fun x => ⟨h1 x, h2 x⟩, h1⟩
    have y7 : (n1.all fun n => decide (n ∈ n2)) = decide (U7 = []) := by rw [Bool.eq_iff_iff, decide_eq_true_eq, y4, List.all_eq_true]; simp
    have y8 : decide (n1.length = n2.length ∧ ∀ n ∈ n1, n ∈ n2) = decide (U7 ++ U8 = []) := decide_eq_decide.mpr y6
    rw [y7]
    simp only [decide_true, Bool.not_true]
    walk_at "go"
    refine x_eqB A1 A2 ?_
    walk_at "go"
    refine My.x_cat f4 f5 (by rw [List.length_map, List.length_map]; show _ ≤ 2 ^ 24; omega) fun P7 hP7 => ?_
    rw [← List.map_append]
    have k19 := My.Same.new (o := .lst ((U7 ++ U8).map V.int)) (Same.refl H18) hP7
    have gP7 : upd H18 P7 (.lst ((U7 ++ U8).map V.int)) P7 = some (.lst ((U7 ++ U8).map V.int)) := upd_same
    generalize upd H18 P7 (.lst ((U7 ++ U8).map V.int)) = H19 at k19 gP7 ⊢
    replace S := S.trans k19
    replace A1 := A1.same k19
    replace A2 := A2.same k19
    replace f3 := k19 _ _ f3
    replace f4 := k19 _ _ f4
    replace f5 := k19 _ _ f5
    clear k19 hP7
    walk_at "go"
    intro P8 hP8
    have k20 := My.Same.new (o := .lst []) (Same.refl H19) hP8
    have gP8 : upd H19 P8 (.lst []) P8 = some (.lst []) := upd_same
    generalize upd H19 P8 (.lst []) = H20 at k20 gP8 ⊢
    replace S := S.trans k20
    replace A1 := A1.same k20
    replace A2 := A2.same k20
    replace f3 := k20 _ _ f3
    replace f4 := k20 _ _ f4
    replace f5 := k20 _ _ f5
    replace gP7 := k20 _ _ gP7
    clear k20 hP8
    refine My.x_eqI (ns := U7 ++ U8) (ms := []) (SqL.of gP7) (SqL.of gP8) ?_
    clear gP7 gP8
    rw [y8]
    walk_at "go"
    simp only [decide_true, Bool.not_true]
    walk_at "go"
    refine x_neB A1 A2 ?_
    walk_at "go"
    refine x_eqB A1 A2 ?_
    walk_at "go"
    have y9 : ∀ d : Bool, decide (V.bl (!d) = V.bl d) = false := fun d => by cases d <;> rfl
    rw [y9]
    walk_at "go"
    refine x_listedE A1 (by omega) fun U21 q21 H21 k21 hq21 v21 g21 => ?_
    replace S := S.trans k21
    replace A1 := A1.same k21
    replace A2 := A2.same k21
    replace f3 := k21 _ _ f3
    replace f4 := k21 _ _ f4
    replace f5 := k21 _ _ f5
    walk_at "go"
    refine x_ssE (SqL.of (S _ _ ha)) (by omega) fun T22 p22 H22 k22 hp22 r22 e22 => ?_
    replace S := S.trans k22
    replace A1 := A1.same k22
    replace A2 := A2.same k22
    replace f3 := k22 _ _ f3
    replace f4 := k22 _ _ f4
    replace f5 := k22 _ _ f5
    replace g21 := k22 _ _ g21
    obtain rfl : U21 = T22 := v21.eq r22 m1
    refine My.x_eqI (SqL.of g21) (SqL.of e22) ?_
    simp only [decide_true]
    clear k21 hq21 v21 g21 k22 hp22 r22 e22
    walk_at "go"
    refine x_lenB A1 (by omega) ?_
    walk_at "go"
    refine x_lenB A2 (by omega) ?_
    walk_at "go"
    intro P9 hP9
    have k23 := My.Same.new (o := .lst [V.int (n1.length : Nat), V.int (n2.length : Nat)]) (Same.refl H22) hP9
    have gP9 : upd H22 P9 (.lst [V.int (n1.length : Nat), V.int (n2.length : Nat)]) P9 = some (.lst [V.int (n1.length : Nat), V.int (n2.length : Nat)]) := upd_same
    generalize upd H22 P9 (.lst [V.int (n1.length : Nat), V.int (n2.length : Nat)]) = H23 at k23 gP9 ⊢
    replace S := S.trans k23
    replace A1 := A1.same k23
    replace A2 := A2.same k23
    replace f3 := k23 _ _ f3
    replace f4 := k23 _ _ f4
    replace f5 := k23 _ _ f5
    clear k23 hP9
    walk_at "go"
    refine My.x_setL' (SqL.of (S _ _ ha)) (by omega) fun P10 ks1 hP10 un1 hl1 => ?_
    have k24 := My.Same.new (o := SetO w P10 (fun j => decide (j ∈ ls)) ks1.length) (Same.refl H23) hP10
    have gP10 : upd H23 P10 (SetO w P10 (fun j => decide (j ∈ ls)) ks1.length) P10 = some (SetO w P10 (fun j => decide (j ∈ ls)) ks1.length) := upd_same
    generalize upd H23 P10 (SetO w P10 (fun j => decide (j ∈ ls)) ks1.length) = H24 at k24 gP10 ⊢
    replace S := S.trans k24
    replace A1 := A1.same k24
    replace A2 := A2.same k24
    replace f3 := k24 _ _ f3
    replace f4 := k24 _ _ f4
    replace f5 := k24 _ _ f5
    replace gP9 := k24 _ _ gP9
    clear k24 hP10
    walk_at "go"
    refine My.x_lenSet gP10 (by omega) ?_
    walk_at "go"
    refine My.x_setL' (SqL.of (S _ _ hb)) (by omega) fun P11 ks2 hP11 un2 hl2 => ?_
    have k25 := My.Same.new (o := SetO w P11 (fun j => decide (j ∈ rs)) ks2.length) (Same.refl H24) hP11
    have gP11 : upd H24 P11 (SetO w P11 (fun j => decide (j ∈ rs)) ks2.length) P11 = some (SetO w P11 (fun j => decide (j ∈ rs)) ks2.length) := upd_same
    generalize upd H24 P11 (SetO w P11 (fun j => decide (j ∈ rs)) ks2.length) = H25 at k25 gP11 ⊢
    replace S := S.trans k25
    replace A1 := A1.same k25
    replace A2 := A2.same k25
    replace f3 := k25 _ _ f3
    replace f4 := k25 _ _ f4
    replace f5 := k25 _ _ f5
    replace gP9 := k25 _ _ gP9
    clear k25 hP11
    walk_at "go"
    refine My.x_lenSet gP11 (by omega) ?_
    walk_at "go"
    intro P12 hP12
    have k26 := My.Same.new (o := .lst [V.int (ks1.length : Nat), V.int (ks2.length : Nat)]) (Same.refl H25) hP12
    have gP12 : upd H25 P12 (.lst [V.int (ks1.length : Nat), V.int (ks2.length : Nat)]) P12 = some (.lst [V.int (ks1.length : Nat), V.int (ks2.length : Nat)]) := upd_same
    generalize upd H25 P12 (.lst [V.int (ks1.length : Nat), V.int (ks2.length : Nat)]) = H26 at k26 gP12 ⊢
    replace S := S.trans k26
    replace A1 := A1.same k26
    replace A2 := A2.same k26
    replace f3 := k26 _ _ f3
    replace f4 := k26 _ _ f4
    replace f5 := k26 _ _ f5
    replace gP9 := k26 _ _ gP9
    clear k26 hP12
    refine My.x_eqI (ns := [(n1.length : Int), (n2.length : Int)]) (ms := [(ks1.length : Int), (ks2.length : Int)]) (SqL.of gP9) (SqL.of gP12) ?_
    rw [perm_of nd1 un1.1 fun x => (m1 x).trans (un1.2 x).symm, perm_of nd2 un2.1 fun x => (m2 x).trans (un2.2 x).symm]
    simp only [decide_true]
    exact q _ S
end
end K41

end

section
local macro_rules | `(tactic| walk_at "ne") => `(tactic| first | assumption | (apply Ne.symm; assumption) | exact L2.ne_of_none (by assumption) (by assumption) | exact (L2.ne_of_none (by assumption) (by assumption)).symm)
local macro_rules | `(tactic| walk_at "hp") => `(tactic| first | assumption | exact L2.upd_same | (rw [L2.upd_ne (by walk_at "ne")]; walk_at "hp"))
local macro_rules | `(tactic| walk_at "sq") => `(tactic| first | assumption | exact L2.SqL.of (by walk_at "hp") | exact My.sq_new (by walk_at "sq") (by assumption))
local macro_rules | `(tactic| walk_at "sd") => `(tactic| first | decide | omega | (unfold L2.CDivN; omega) | (unfold L2.CMul; omega) | (unfold L2.CPow; omega))
local macro_rules | `(tactic| walk_at "sx1") => `(tactic| first | with_reducible refine My.x_seq ?_ | with_reducible refine My.x_asg ?_ | with_reducible refine My.x_ret ?_ | with_reducible refine My.x_next ?_ | with_reducible refine My.x_op ?_ | with_reducible refine My.x_c ?_ | with_reducible refine My.x_ifs ?_ | with_reducible refine My.x_test ?_ | with_reducible refine My.x_exbl ?_ | with_reducible refine My.x_cons ?_ | with_reducible refine My.x_nil ?_ | with_reducible refine My.x_cb ?_ | with_reducible refine My.x_drop ?_ | with_reducible refine My.x_par ?_ | with_reducible refine My.x_exp2 ?_ | with_reducible refine My.x_aug ?_ | with_reducible refine My.x_if ?_ | with_reducible refine My.x_tB ?_ | with_reducible refine My.x_and ?_ | with_reducible refine My.x_or ?_ | with_reducible refine My.x_not ?_ | with_reducible refine My.x_retn ?_ | with_reducible refine My.x_cont ?_ | with_reducible refine My.x_brk ?_ | with_reducible refine My.x_un ?_ | with_reducible refine My.x_tfor ?_ | with_reducible refine My.x_ilist ?_ | with_reducible refine My.x_rng1 ?_ | with_reducible refine My.x_rng2 ?_ | with_reducible refine My.x_r1 ?_ | with_reducible refine My.x_call ?_ | with_reducible refine My.x_sl ?_ | with_reducible refine My.x_part ?_ | with_reducible refine My.x_nopart ?_ | with_reducible refine My.x_ii0 ?_ | with_reducible refine My.x_yes ?_ | with_reducible refine My.x_andv ?_ | with_reducible refine My.x_orv ?_ | with_reducible refine My.x_notv ?_ | with_reducible refine My.x_iT ?_ | with_reducible refine My.x_iF ?_ | with_reducible refine My.x_chain ?_ | with_reducible refine My.x_exI ?_ | with_reducible refine My.x_wipe ?_ | with_reducible refine My.x_bm ?_ | with_reducible refine My.x_bm0 ?_ | with_reducible refine My.x_gsub ?_ | with_reducible refine My.x_int1 ?_ | with_reducible refine My.x_two ?_ | with_reducible refine My.x_lst ?_ | with_reducible refine My.x_tup ?_ | with_reducible refine My.x_revL ?_ | with_reducible refine My.x_dput ?_ | with_reducible refine My.x_dget ?_ | with_reducible refine My.x_dnew ?_ | with_reducible refine My.x_dc ?_ | with_reducible refine My.x_lc ?_ | with_reducible refine My.x_ienum ?_ | with_reducible refine My.x_gcons ?_ | with_reducible refine My.x_gnil ?_ | with_reducible refine My.x_v0 ?_ | with_reducible refine My.x_v1 ?_ | with_reducible refine My.x_v2 ?_ | with_reducible refine My.x_v3 ?_ | with_reducible refine My.x_v4 ?_ | with_reducible refine My.x_v5 ?_ | with_reducible refine My.x_v6 ?_ | with_reducible refine My.x_v7 ?_ | with_reducible refine My.x_v8 ?_ | with_reducible refine My.x_v9 ?_ | with_reducible refine My.x_v10 ?_ | with_reducible refine My.x_v11 ?_ | with_reducible refine My.x_v12 ?_ | with_reducible refine My.x_v13 ?_ | with_reducible refine My.x_v14 ?_ | with_reducible refine My.x_v15 ?_ | with_reducible refine My.x_v16 ?_ | with_reducible refine My.x_v17 ?_ | with_reducible refine My.x_v18 ?_ | with_reducible refine My.x_v19 ?_ | with_reducible refine My.x_v20 ?_ | with_reducible refine My.x_v21 ?_ | with_reducible refine My.x_v22 ?_ | with_reducible refine My.x_v23 ?_ | with_reducible refine My.x_v24 ?_ | with_reducible refine My.x_v25 ?_ | with_reducible refine My.x_g0 ?_ | with_reducible refine My.x_g1 ?_ | with_reducible refine My.x_g2 ?_ | with_reducible refine My.x_g3 ?_ | with_reducible refine My.x_g4 ?_ | with_reducible refine My.x_g5 ?_ | with_reducible refine My.x_g6 ?_ | with_reducible refine My.x_g7 ?_ | with_reducible refine My.x_g8 ?_ | with_reducible refine My.x_g9 ?_ | with_reducible refine My.x_g10 ?_ | with_reducible refine My.x_g11 ?_ | with_reducible refine My.x_g12 ?_ | with_reducible refine My.x_g13 ?_ | with_reducible refine My.x_g14 ?_ | with_reducible refine My.x_g15 ?_ | with_reducible refine My.x_g16 ?_ | with_reducible refine My.x_g17 ?_ | with_reducible refine My.x_g18 ?_ | with_reducible refine My.x_g19 ?_ | with_reducible refine My.x_g20 ?_ | with_reducible refine My.x_g21 ?_ | with_reducible refine My.x_g22 ?_ | with_reducible refine My.x_g23 ?_ | with_reducible refine My.x_g24 ?_ | with_reducible refine My.x_g25 ?_)
local macro_rules | `(tactic| walk_at "sx") => `(tactic| repeat (walk_at "sx1"))
local macro_rules | `(tactic| walk_at "ln") => `(tactic| first | assumption | exact Nat.le_of_ble_eq_true rfl | (simp only [List.length_append, List.length_map, List.length_cons, List.length_nil]; simp only [PySem.sizeLine]; omega))
local macro_rules | `(tactic| walk_at "st") => `(tactic| first | assumption | exact L2.SqT.of (by walk_at "hp"))
local macro_rules | `(tactic| walk_at "go1") => `(tactic| first | walk_at "sx1" | ((with_reducible refine' My.x_ixL ?x0 ?x1 ?x2); (case x0 => walk_at "sq"); (case x1 => exact rfl)) | ((with_reducible refine' My.x_ixT ?x0 ?x1 ?x2); (case x0 => walk_at "st"); (case x1 => exact rfl)) | ((with_reducible refine' My.x_i ?x0 ?x1); (case x0 => walk_at "sd")) | ((with_reducible refine' My.x_setL ?x0 ?x1 ?x2); (case x0 => walk_at "hp"); (case x1 => exact rfl)) | ((with_reducible refine' My.x_len ?x0 ?x1); (case x0 => walk_at "sq")) | ((with_reducible refine' My.x_lenT ?x0 ?x1); (case x0 => walk_at "st")) | ((with_reducible refine' My.x_lenD ?x0 ?x1); (case x0 => walk_at "hp")) | ((with_reducible refine' My.x_append ?x0 ?x1 ?x2); (case x0 => walk_at "hp"); (case x1 => walk_at "ln")) | ((with_reducible refine' My.x_tyL ?x0 ?x1); (case x0 => walk_at "hp")) | ((with_reducible refine' My.x_ilistE ?x0 ?x1); (case x0 => walk_at "sq")) | ((with_reducible refine' My.x_ienumE ?x0 ?x1); (case x0 => walk_at "sq")) | ((with_reducible refine' My.x_sortI ?x0 ?x1); (case x0 => walk_at "sq")) | ((with_reducible refine' My.x_slL ?x0 ?x1); (case x0 => walk_at "sq")) | ((with_reducible refine' My.x_revL2 ?x0 ?x1); (case x0 => walk_at "sq")) | ((with_reducible refine' My.x_eq ?x0 ?x1); (case x0 => exact rfl)) | ((with_reducible refine' My.x_ne ?x0 ?x1); (case x0 => exact rfl)) | ((with_reducible refine' My.x_dputI ?x0 ?x1 ?x2); (case x0 => walk_at "hp"); (case x1 => walk_at "ln")) | ((with_reducible refine' My.x_dputS ?x0 ?x1 ?x2); (case x0 => walk_at "hp"); (case x1 => walk_at "ln")) | ((with_reducible refine' My.x_seqof ?x0 ?x1); (case x0 => walk_at "sq")) | ((with_reducible refine' My.x_gtup ?x0 ?x1 ?x2); (case x0 => walk_at "st"); (case x1 => exact rfl)) | ((with_reducible refine' My.x_mem1 ?x0 ?x1); (case x0 => walk_at "ln")))
local macro_rules | `(tactic| walk_at "go") => `(tactic| repeat (walk_at "go1"))
local macro_rules | `(tactic| walk_at "sx1") => `(tactic| first | with_reducible refine My.x_fld ?_ | with_reducible refine My.x_sfld ?_ | with_reducible refine My.x_meth ?_ | with_reducible refine My.x_make ?_ | with_reducible refine My.x_din ?_ | with_reducible refine My.x_dnin ?_ | with_reducible refine My.x_ikeys ?_ | with_reducible refine My.x_itup ?_ | with_reducible refine My.x_mkO ?_ | with_reducible refine My.x_vei ?_ | with_reducible refine My.x_ost ?_ | with_reducible refine My.x_nF ?_ | with_reducible refine My.x_nT ?_)
local macro_rules | `(tactic| walk_at "go1") => `(tactic| first | ((with_reducible refine' My.x_fldE ?x0 ?x1 ?x2 ?x3 ?x4); (case x0 => walk_at "hp"); (case x1 => assumption); (case x2 => assumption); (case x3 => exact rfl)) | ((with_reducible refine' My.x_sfldE ?x0 ?x1 ?x2 ?x3 ?x4 ?x5); (case x0 => walk_at "hp"); (case x1 => assumption); (case x2 => assumption); (case x3 => decide); (case x4 => exact rfl)) | ((with_reducible refine' My.x_methE ?x0 ?x1 ?x2); (case x0 => walk_at "hp"); (case x1 => exact rfl)) | ((with_reducible refine' My.x_itupE ?x0 ?x1); (case x0 => walk_at "st")))
local macro_rules | `(tactic| walk_at "sx1") => `(tactic| first | with_reducible refine K41.x_ss ?_ | with_reducible refine K41.x_listed ?_ | with_reducible refine K41.x_mkT ?_ | with_reducible refine K41.x_mk0 ?_ | with_reducible refine K41.x_mkw ?_)
namespace K41
open PySem PySem.Spec PyProof.Rows L2
/-- the default of __init__ -/
abbrev t0 (K : PySem.W.Frag) : Addr := He.dflAt ("Blocks", some "__init__") 0 K
/-- Blocks made by the keyword -/
structure MKw (P : Program) (w : World) (K : PySem.W.Frag) (mg : Str → Option Value) (base : Heap) : Prop where
  ex : ∃ (f : Addr) (fd : FuncData) (g : List Value → List Value → List Value), Mk K (CB K) f ∧ FnOk P w K mg base (L2.CX P w) 3 f fd ["self", "numbers"] (sp_init K) ∧ KBn K fd ["self", "numbers"] 1 [("numbers" : Str)] g (fun vs zs => vs ++ zs)
  g : mg "Blocks" = some (.ref (CB K))
theorem pe_mkw {X : Cx} {p pos : Pos} {kws : List Keyword} {tk : TA} (M : MKw X.prog X.w X.K X.mg X.base) (hr : Room 4 X.A) (hg : Gl X "Blocks") (hkw : PK X kws tk)
    (hall : (backToKw pos (keywordEach kws X.env)).all (·.1.isSome) = true := by rfl) (hks : (backToKw pos (keywordEach kws X.env)).filterMap (·.1) = [("numbers" : Str)] := by rfl)
    (hpl : ((backTo pos (starEach [] X.env)).any (·.1) || (backToKw pos (keywordEach kws X.env)).any (·.1.isNone)) = false := by rfl) :
    PE X (.Call (.Name "Blocks" p) [] kws pos) (tMakeK (CB X.K) 0 1 (sp_init X.K) (fun vs zs => vs ++ zs) E0 tNil tk) := by
  obtain ⟨f, fd, g, m, F, kb⟩ := M.ex
  exact pe_makeK0 m F hr hg M.g kb My.passF hkw hall hks (by decide) hpl
section
variable {K : PySem.W.Frag} {w : World} {σ : L2.St} {H : Hp} {Q : VK} {te : TE} {tk : TA} {E : XK}
theorem x_mk0 {a : Addr} (h : MkB K [.ref a] H Q E) : tMake (CB K) (sp_init K) [.ref a] E tNil σ H Q := h
def MkW (K : PySem.W.Frag) (zs : List V) (H : Hp) (Q : VK) (E : XK) : Prop := ([] : List V).length = 0 ∧ zs.length = 1 ∧ ∀ x dx, H x = none → H dx = none → dx ≠ x → sp_init K ((.ref x :: []) ++ zs) (upd (upd H dx (.own x)) x (.ins (CB K) dx [])) (fun v H2 => v = .non ∧ Q (.ref x) H2) E
theorem x_mkw (h : tk σ H fun zs H2 => MkW K zs H2 Q E) : tMakeK (CB K) 0 1 (sp_init K) (fun vs zs => vs ++ zs) E tNil tk σ H Q := h
theorem x_mkwE {a : Addr} (h : MkB K [.ref a] H Q E) : MkW K [.ref a] H Q E := ⟨rfl, rfl, h⟩
end
end K41

end

section
local macro_rules | `(tactic| walk_at "ne") => `(tactic| first | assumption | (apply Ne.symm; assumption) | exact L2.ne_of_none (by assumption) (by assumption) | exact (L2.ne_of_none (by assumption) (by assumption)).symm)
local macro_rules | `(tactic| walk_at "hp") => `(tactic| first | assumption | exact L2.upd_same | (rw [L2.upd_ne (by walk_at "ne")]; walk_at "hp"))
local macro_rules | `(tactic| walk_at "sq") => `(tactic| first | assumption | exact L2.SqL.of (by walk_at "hp") | exact My.sq_new (by walk_at "sq") (by assumption))
local macro_rules | `(tactic| walk_at "sd") => `(tactic| first | decide | omega | (unfold L2.CDivN; omega) | (unfold L2.CMul; omega) | (unfold L2.CPow; omega))
local macro_rules | `(tactic| walk_at "sx1") => `(tactic| first | with_reducible refine My.x_seq ?_ | with_reducible refine My.x_asg ?_ | with_reducible refine My.x_ret ?_ | with_reducible refine My.x_next ?_ | with_reducible refine My.x_op ?_ | with_reducible refine My.x_c ?_ | with_reducible refine My.x_ifs ?_ | with_reducible refine My.x_test ?_ | with_reducible refine My.x_exbl ?_ | with_reducible refine My.x_cons ?_ | with_reducible refine My.x_nil ?_ | with_reducible refine My.x_cb ?_ | with_reducible refine My.x_drop ?_ | with_reducible refine My.x_par ?_ | with_reducible refine My.x_exp2 ?_ | with_reducible refine My.x_aug ?_ | with_reducible refine My.x_if ?_ | with_reducible refine My.x_tB ?_ | with_reducible refine My.x_and ?_ | with_reducible refine My.x_or ?_ | with_reducible refine My.x_not ?_ | with_reducible refine My.x_retn ?_ | with_reducible refine My.x_cont ?_ | with_reducible refine My.x_brk ?_ | with_reducible refine My.x_un ?_ | with_reducible refine My.x_tfor ?_ | with_reducible refine My.x_ilist ?_ | with_reducible refine My.x_rng1 ?_ | with_reducible refine My.x_rng2 ?_ | with_reducible refine My.x_r1 ?_ | with_reducible refine My.x_call ?_ | with_reducible refine My.x_sl ?_ | with_reducible refine My.x_part ?_ | with_reducible refine My.x_nopart ?_ | with_reducible refine My.x_ii0 ?_ | with_reducible refine My.x_yes ?_ | with_reducible refine My.x_andv ?_ | with_reducible refine My.x_orv ?_ | with_reducible refine My.x_notv ?_ | with_reducible refine My.x_iT ?_ | with_reducible refine My.x_iF ?_ | with_reducible refine My.x_chain ?_ | with_reducible refine My.x_exI ?_ | with_reducible refine My.x_wipe ?_ | with_reducible refine My.x_bm ?_ | with_reducible refine My.x_bm0 ?_ | with_reducible refine My.x_gsub ?_ | with_reducible refine My.x_int1 ?_ | with_reducible refine My.x_two ?_ | with_reducible refine My.x_lst ?_ | with_reducible refine My.x_tup ?_ | with_reducible refine My.x_revL ?_ | with_reducible refine My.x_dput ?_ | with_reducible refine My.x_dget ?_ | with_reducible refine My.x_dnew ?_ | with_reducible refine My.x_dc ?_ | with_reducible refine My.x_lc ?_ | with_reducible refine My.x_ienum ?_ | with_reducible refine My.x_gcons ?_ | with_reducible refine My.x_gnil ?_ | with_reducible refine My.x_v0 ?_ | with_reducible refine My.x_v1 ?_ | with_reducible refine My.x_v2 ?_ | with_reducible refine My.x_v3 ?_ | with_reducible refine My.x_v4 ?_ | with_reducible refine My.x_v5 ?_ | with_reducible refine My.x_v6 ?_ | with_reducible refine My.x_v7 ?_ | with_reducible refine My.x_v8 ?_ | with_reducible refine My.x_v9 ?_ | with_reducible refine My.x_v10 ?_ | with_reducible refine My.x_v11 ?_ | with_reducible refine My.x_v12 ?_ | with_reducible refine My.x_v13 ?_ | with_reducible refine My.x_v14 ?_ | with_reducible refine My.x_v15 ?_ | with_reducible refine My.x_v16 ?_ | with_reducible refine My.x_v17 ?_ | with_reducible refine My.x_v18 ?_ | with_reducible refine My.x_v19 ?_ | with_reducible refine My.x_v20 ?_ | with_reducible refine My.x_v21 ?_ | with_reducible refine My.x_v22 ?_ | with_reducible refine My.x_v23 ?_ | with_reducible refine My.x_v24 ?_ | with_reducible refine My.x_v25 ?_ | with_reducible refine My.x_g0 ?_ | with_reducible refine My.x_g1 ?_ | with_reducible refine My.x_g2 ?_ | with_reducible refine My.x_g3 ?_ | with_reducible refine My.x_g4 ?_ | with_reducible refine My.x_g5 ?_ | with_reducible refine My.x_g6 ?_ | with_reducible refine My.x_g7 ?_ | with_reducible refine My.x_g8 ?_ | with_reducible refine My.x_g9 ?_ | with_reducible refine My.x_g10 ?_ | with_reducible refine My.x_g11 ?_ | with_reducible refine My.x_g12 ?_ | with_reducible refine My.x_g13 ?_ | with_reducible refine My.x_g14 ?_ | with_reducible refine My.x_g15 ?_ | with_reducible refine My.x_g16 ?_ | with_reducible refine My.x_g17 ?_ | with_reducible refine My.x_g18 ?_ | with_reducible refine My.x_g19 ?_ | with_reducible refine My.x_g20 ?_ | with_reducible refine My.x_g21 ?_ | with_reducible refine My.x_g22 ?_ | with_reducible refine My.x_g23 ?_ | with_reducible refine My.x_g24 ?_ | with_reducible refine My.x_g25 ?_)
local macro_rules | `(tactic| walk_at "sx") => `(tactic| repeat (walk_at "sx1"))
local macro_rules | `(tactic| walk_at "ln") => `(tactic| first | assumption | exact Nat.le_of_ble_eq_true rfl | (simp only [List.length_append, List.length_map, List.length_cons, List.length_nil]; simp only [PySem.sizeLine]; omega))
local macro_rules | `(tactic| walk_at "st") => `(tactic| first | assumption | exact L2.SqT.of (by walk_at "hp"))
local macro_rules | `(tactic| walk_at "go1") => `(tactic| first | walk_at "sx1" | ((with_reducible refine' My.x_ixL ?x0 ?x1 ?x2); (case x0 => walk_at "sq"); (case x1 => exact rfl)) | ((with_reducible refine' My.x_ixT ?x0 ?x1 ?x2); (case x0 => walk_at "st"); (case x1 => exact rfl)) | ((with_reducible refine' My.x_i ?x0 ?x1); (case x0 => walk_at "sd")) | ((with_reducible refine' My.x_setL ?x0 ?x1 ?x2); (case x0 => walk_at "hp"); (case x1 => exact rfl)) | ((with_reducible refine' My.x_len ?x0 ?x1); (case x0 => walk_at "sq")) | ((with_reducible refine' My.x_lenT ?x0 ?x1); (case x0 => walk_at "st")) | ((with_reducible refine' My.x_lenD ?x0 ?x1); (case x0 => walk_at "hp")) | ((with_reducible refine' My.x_append ?x0 ?x1 ?x2); (case x0 => walk_at "hp"); (case x1 => walk_at "ln")) | ((with_reducible refine' My.x_tyL ?x0 ?x1); (case x0 => walk_at "hp")) | ((with_reducible refine' My.x_ilistE ?x0 ?x1); (case x0 => walk_at "sq")) | ((with_reducible refine' My.x_ienumE ?x0 ?x1); (case x0 => walk_at "sq")) | ((with_reducible refine' My.x_sortI ?x0 ?x1); (case x0 => walk_at "sq")) | ((with_reducible refine' My.x_slL ?x0 ?x1); (case x0 => walk_at "sq")) | ((with_reducible refine' My.x_revL2 ?x0 ?x1); (case x0 => walk_at "sq")) | ((with_reducible refine' My.x_eq ?x0 ?x1); (case x0 => exact rfl)) | ((with_reducible refine' My.x_ne ?x0 ?x1); (case x0 => exact rfl)) | ((with_reducible refine' My.x_dputI ?x0 ?x1 ?x2); (case x0 => walk_at "hp"); (case x1 => walk_at "ln")) | ((with_reducible refine' My.x_dputS ?x0 ?x1 ?x2); (case x0 => walk_at "hp"); (case x1 => walk_at "ln")) | ((with_reducible refine' My.x_seqof ?x0 ?x1); (case x0 => walk_at "sq")) | ((with_reducible refine' My.x_gtup ?x0 ?x1 ?x2); (case x0 => walk_at "st"); (case x1 => exact rfl)) | ((with_reducible refine' My.x_mem1 ?x0 ?x1); (case x0 => walk_at "ln")))
local macro_rules | `(tactic| walk_at "go") => `(tactic| repeat (walk_at "go1"))
local macro_rules | `(tactic| walk_at "sx1") => `(tactic| first | with_reducible refine My.x_fld ?_ | with_reducible refine My.x_sfld ?_ | with_reducible refine My.x_meth ?_ | with_reducible refine My.x_make ?_ | with_reducible refine My.x_din ?_ | with_reducible refine My.x_dnin ?_ | with_reducible refine My.x_ikeys ?_ | with_reducible refine My.x_itup ?_ | with_reducible refine My.x_mkO ?_ | with_reducible refine My.x_vei ?_ | with_reducible refine My.x_ost ?_ | with_reducible refine My.x_nF ?_ | with_reducible refine My.x_nT ?_)
local macro_rules | `(tactic| walk_at "go1") => `(tactic| first | ((with_reducible refine' My.x_fldE ?x0 ?x1 ?x2 ?x3 ?x4); (case x0 => walk_at "hp"); (case x1 => assumption); (case x2 => assumption); (case x3 => exact rfl)) | ((with_reducible refine' My.x_sfldE ?x0 ?x1 ?x2 ?x3 ?x4 ?x5); (case x0 => walk_at "hp"); (case x1 => assumption); (case x2 => assumption); (case x3 => decide); (case x4 => exact rfl)) | ((with_reducible refine' My.x_methE ?x0 ?x1 ?x2); (case x0 => walk_at "hp"); (case x1 => exact rfl)) | ((with_reducible refine' My.x_itupE ?x0 ?x1); (case x0 => walk_at "st")))
local macro_rules | `(tactic| walk_at "sx1") => `(tactic| first | with_reducible refine K41.x_ss ?_ | with_reducible refine K41.x_listed ?_ | with_reducible refine K41.x_mkT ?_ | with_reducible refine K41.x_mk0 ?_ | with_reducible refine K41.x_mkw ?_)
namespace K41
open PySem PySem.Spec PyProof.Rows L2
theorem Bl.upd {K : PySem.W.Frag} {H : Hp} {c l : Addr} {ns : List Int} {n : Nat} {xs : List V} {o : HO} (h : Bl K H c ns n) (e : H l = some (.lst xs)) : Bl K (L2.upd H l o) c ns n := by
  obtain ⟨dx, D, B, r⟩ := h
  exact ⟨dx, D, ⟨by rw [upd_ne (fun z => by have := B.1; rw [z, e] at this; cases this)]; exact B.1, by rw [upd_ne (fun z => by rw [z] at B; have := B.2; rw [e] at this; cases this)]; exact B.2⟩, r⟩
theorem sho_by {d : PyData} (h : (d.showable && (d.canLay0 && (decide (d.depth ≤ 64) && decide (d.shown.length ≤ sizeLine)))) = true) : Sho d := by
  obtain ⟨h1, h⟩ := My.ba h
  obtain ⟨h2, h⟩ := My.ba h
  obtain ⟨h3, h4⟩ := My.ba h
  exact ⟨h1, h2, of_decide_eq_true h3, of_decide_eq_true h4⟩
theorem kitN {K : PySem.W.Frag} {t : String} (h1 : kitB t "list" = some false) (h2 : kitB t "tuple" = some false) : PySem.W.kitAny K (.type t) [.type "list", .type "tuple"] = some false :=
  kitAny_cons (b := false) (kit_ty h1) (fun _ => kitAny_cons (b := false) (kit_ty h2) (fun _ => kitAny_nil) fun z => nomatch z) fun z => nomatch z
def sp_law (K : PySem.W.Frag) : Sp := fun vs H Q _ => ∃ (a : Addr) (ns : List Int), vs = [.ref a] ∧ SqL K H a (ns.map V.int) ∧ ns.length ≤ 63 ∧ ∀ H', Q (.bl true) H'
section
variable {P : Program} {w : World} {K : PySem.W.Frag} {mg : Str → Option Value} {base : Heap} {tk : Tok}
theorem ok_law (T : Tx K mg tk) (T0 : ∀ H, SqT K H (t0 K) []) {fd : FuncData} (F : Fd K d_law fd) (C_law_pool : My.Cl P w K mg base "_law_pool" ["_law_script", "_law_k"] 1 (My.sp_pool K)) (C_law_numbers : My.Cl P w K mg base "_law_numbers" ["_law_pool_here"] 2 sp_numbers)
    (C_law_pair_right : My.Cl P w K mg base "_law_pair_right" ["_law_left", "_law_right"] 7 sp_pair) (M_B : MBl P w K mg base) (M_B0 : My.Mx P w K mg base (L2.CX P w) "Blocks" ["self", "numbers"] 3 (sp_init K) [.ref (t0 K)]) (M_K : MKw P w K mg base)
    (C_listed : CListed P w K mg base) (C_contains : CHas P w K mg base) (C_len : My.Cm P w K mg base CX0 "Blocks" "__len__" ["self"] 1 (sp_len K))
    (C_eq : My.Cm P w K mg base CX0 "Blocks" "__eq__" ["self", "other"] 1 (sp_eq K)) (C_law_told : My.ClG P w K mg base CX0 "_law_told" ["_law_values"] 5 (sp_told K)) : My.FnG P w K mg base CX0 8 (He.ga K "law") fd ["_law_script"] (sp_law K) := by
  have hcls := T.cls
  have hnoat := T.noat
  refine My.FunD.okG F sc_law (fun vs H Q E h => ?_) (fun cdv A outer s H vs Q E hg hr h => ?_)
  · obtain ⟨a, ns, rfl, _⟩ := h
    rfl
  · obtain ⟨a, ns, rfl, hs, hn, q⟩ := h
    refine ⟨_, PSs.nox ((pss_cons (ps_for PassesOwn.never rfl (pi_range1 rfl T.n_range (pa_cons (pe_callB (call_max2 rfl) (by rfl) T.n_max (by decide +kernel) (pa_cons pe_int (pa_cons (pe_callB (call_min2 rfl) (by rfl) T.n_min (by decide +kernel) (pa_cons (pe_callB call_len_seq (by rfl) T.n_len (by decide +kernel) (pa_cons (pv 0) pa_nil)) (pa_cons pe_int pa_nil))) pa_nil))) pa_nil)) (pg_name (i := 1) sc_law.nd rfl (Or.inl rfl))
  (pss_cons (ps_set (i := 2) sc_law.nd rfl (Or.inl rfl) (My.pe_cl C_law_pool (hr.mono (by decide)) rfl (pa_cons (pv 0) (pa_cons (pv 1) pa_nil))))
  (pss_cons (ps_par (i := 3) (j := 4) (by rfl) sc_law.nd rfl rfl (by decide) rfl rfl (pa_cons (My.pe_cl C_law_numbers (hr.mono (by decide)) rfl (pa_cons (pv 2) pa_nil)) (pa_cons (My.pe_cl C_law_numbers (hr.mono (by decide)) rfl (pa_cons (pv 2) pa_nil)) pa_nil)) (by rfl))
  (pss_cons (ps_if (PW.pt (pw_or (pt_not (pt_val (My.pe_cl C_law_pair_right (hr.mono (by decide)) rfl (pa_cons (pv 3) (pa_cons (pv 4) pa_nil))))) (pw_or1 (pt_not (pt_val (My.pe_cl C_law_pair_right (hr.mono (by decide)) rfl (pa_cons (pv 3) (pa_cons (pe_op op_cat (pe_revL (pv 3)) (pv 3)) pa_nil))))))))
  (pss_one (ps_ret pe_bl))
  pss_nil)
  (pss_cons (ps_par (i := 5) (j := 6) (by rfl) sc_law.nd rfl rfl (by decide) rfl rfl (pa_cons (My.pe_mx M_B (hr.mono (by decide)) rfl My.passF (pa_cons (pv 3) pa_nil)) (pa_cons (pe_callB (cr_sortedSet rfl) (by rfl) T.n_sorted (by decide +kernel) (pa_cons (pe_callTy (My.cr_setL rfl) (by rfl) T.n_set (by decide +kernel) (pa_cons (pv 3) pa_nil)) pa_nil)) pa_nil)) (by rfl))
  (pss_cons (ps_expr (pe_bm PySem.F.plainAttrs_list PySem.F.slot_list_append PySem.F.type_list_append mt_append (My.pe_cm0 C_listed (hr.mono (by decide)) pass0 (pv 5)) (pa_cons pe_int pa_nil)))
  (pss_cons (ps_expr (pe_bm0 PySem.F.plainAttrs_list PySem.F.slot_list_reverse PySem.F.type_list_reverse mt_reverse (My.pe_cm0 C_listed (hr.mono (by decide)) pass0 (pv 5))))
  (pss_cons (ps_expr (pe_bm PySem.F.plainAttrs_list PySem.F.slot_list_append PySem.F.type_list_append mt_append (pv 3) (pa_cons pe_int pa_nil)))
  (pss_cons (ps_if (PW.pt (pw_or (pt_cmpR (op_neD hr.units) (My.pe_cm0 C_listed (hr.mono (by decide)) pass0 (pv 5)) (pv 6) (nomark _)) (pw_or (pt_cmpR (My.op_eqO C_eq.spc (hr.mono (by decide)) pass0 (hty (by exact T.subL))) (pv 5) (pv 6) (nomark _)) (pw_or1 (pt_cmpR op_ne (pe_cmpR (My.op_inO C_contains.spc (hr.mono (by decide)) pass0) pe_int (pv 5) (by rfl)) (pe_cmpR (op_in_seqK (K := K) (by rfl)) pe_int (pv 6) (by rfl)) (nomark _))))))
  (pss_one (ps_ret pe_bl))
  pss_nil)
  (pss_cons (ps_for PassesOwn.never rfl (pi_list (pe_lst (pa_cons pe_non (pa_cons pe_bl (pa_cons pe_str (pa_cons (pe_un un_neg pe_int) (pa_cons (pe_tup (pa_cons pe_int pa_nil)) (pa_cons (pe_lst pa_nil) (pa_cons pe_dnewK (pa_cons pe_int (pa_cons (pe_op op_pow pe_int pe_int) pa_nil))))))))))) (pg_name (i := 7) sc_law.nd rfl (Or.inl rfl))
  (pss_one (ps_if (pt_cmpR (My.op_inO C_contains.spc (hr.mono (by decide)) pass0) (pv 7) (pv 5) (by rfl))
  (pss_one (ps_ret pe_bl))
  pss_nil)))
  (pss_cons (ps_for PassesOwn.never rfl (pi_list (pe_lst (pa_cons pe_non (pa_cons pe_bl (pa_cons pe_str (pa_cons (pe_un un_neg pe_int) (pa_cons (pe_tup (pa_cons pe_int pa_nil)) (pa_cons pe_int (pa_cons (pe_op op_pow pe_int pe_int) pa_nil))))))))) (pg_name (i := 7) sc_law.nd rfl (Or.inl rfl))
  (pss_one (ps_if (pt_cmpR op_ne (My.pe_clG C_law_told (by exact hg) (hr.mono (by decide)) pass0 rfl (pa_cons (pe_lst (pa_cons pe_int (pa_cons (pv 7) (pa_cons pe_non pa_nil)))) pa_nil)) (pe_callB (call_reprB (by exact hg) (by have hq := hu100 hr; exact hq)) (by rfl) T.n_repr (by decide +kernel) (pa_cons (pv 7) pa_nil)) (nomark _))
  (pss_one (ps_ret pe_bl))
  pss_nil)))
  (pss_one (ps_for PassesOwn.never rfl (pi_list (pe_lst (pa_cons pe_non (pa_cons pe_int (pa_cons pe_str (pa_cons pe_dnewK pa_nil)))))) (pg_name (i := 8) sc_law.nd rfl (Or.inl rfl))
  (pss_one (ps_if (pt_cmpR op_ne (My.pe_clG C_law_told (by exact hg) (hr.mono (by decide)) pass0 rfl (pa_cons (pv 8) pa_nil)) (pe_callB (call_reprB (by exact hg) (by have hq := hu100 hr; exact hq)) (by rfl) T.n_repr (by decide +kernel) (pa_cons (pv 8) pa_nil)) (nomark _))
  (pss_one (ps_ret pe_bl))
  pss_nil)))))))))))))))
  (pss_cons (ps_if (pt_cmpR (op_neD hr.units) (My.pe_cm0 C_listed (hr.mono (by decide)) pass0 (My.pe_mx M_B (hr.mono (by decide)) rfl My.passF (pa_cons (pe_lst (pa_cons pe_int (pa_cons pe_int pa_nil))) pa_nil))) (pe_lst (pa_cons pe_int (pa_cons pe_int pa_nil))) (nomark _))
  (pss_one (ps_ret pe_bl))
  pss_nil)
  (pss_one (ps_ret (pe_and (pe_cmpR (My.op_eqO C_eq.spc (hr.mono (by decide)) pass0 (hty (by exact T.subL))) (My.pe_mx0 M_B0 (hr.mono (by decide)) rfl My.passF) (My.pe_mx M_B (hr.mono (by decide)) rfl My.passF (pa_cons (pe_lst pa_nil) pa_nil)) (nomark _)) (pe_and (pe_cmpR op_eq (pe_callB (My.call_lenO C_len.spc (hr.mono (by decide)) pass0) (by rfl) T.n_len (by decide +kernel) (pa_cons (My.pe_mx0 M_B0 (hr.mono (by decide)) rfl My.passF) pa_nil)) pe_int (nomark _)) (pe_one (pe_cmpR (My.op_eqO C_eq.spc (hr.mono (by decide)) pass0 (hty (by exact T.subL))) (pe_mkw M_K (hr.mono (by decide)) rfl (pk_cons (pe_tup (pa_cons pe_int (pa_cons pe_int pa_nil))) pk_nil)) (My.pe_mx M_B (hr.mono (by decide)) rfl My.passF (pa_cons (pe_lst (pa_cons pe_int pa_nil)) pa_nil)) (nomark _)))))))))), ?_⟩
    refine My.x_start (σ := [some (V.ref a), none, none, none, none, none, none, none, none]) rfl ?_
    try dsimp only [cxOf, Cx.nox]
    -- LAW
    walk_at "go"
    refine My.x_rng1E (by split <;> split <;> omega) (by rw [List.length_map]; split <;> split <;> omega) ?_
    have hj : (if (if (8 : Int) < ((ns.map V.int).length : Int) then 8 else ((ns.map V.int).length : Int)) > 1 then (if (8 : Int) < ((ns.map V.int).length : Int) then 8 else ((ns.map V.int).length : Int)) else 1).toNat ≤ 8 := by
      split <;> split <;> omega
    generalize (if (if (8 : Int) < ((ns.map V.int).length : Int) then 8 else ((ns.map V.int).length : Int)) > 1 then (if (8 : Int) < ((ns.map V.int).length : Int) then 8 else ((ns.map V.int).length : Int)) else 1).toNat = j at hj ⊢
    refine My.for_rng (fun i σ' H' => Same H H' ∧ ∃ o1 o2 o3 o4 o5 o6 o7 o8, σ' = [some (V.ref a), o1, o2, o3, o4, o5, o6, o7, o8]) ⟨Same.refl H, _, _, _, _, _, _, _, _, rfl⟩ ?_ ?_
    · rintro i σ' H1 hi ⟨S, o1, o2, o3, o4, o5, o6, o7, o8, rfl⟩
      walk_at "go"
      refine My.x_pool (S.seq hs) (by omega) (by omega) fun p H2 hp P2 B2 => ?_
      have hp0 : H p = none := S.free hp
      replace S := B2.same S hp0
      walk_at "go"
      refine ⟨p, rfl, P2, fun l1 ls H3 hil hll hl1 P3 b3 e3 => ?_⟩
      walk_at "go"
      refine ⟨p, rfl, P3, fun l2 rs H4 hir hlr hl2 P4 b4 e4 => ?_⟩
      have n1 : H l1 = none := S.free hl1
      replace S : Same H H4 := fun b o e => b4 b o (ne_of_none e hp0) (b3 b o (ne_of_none e hp0) (S b o e))
      have f1 := b4 l1 _ (P2.ne hl1).symm e3
      have f2 := e4
      clear e3 e4 b3 b4 P2 P3 P4 B2 hl1 hl2 hp hp0
      walk_at "go"
      refine ⟨l1, l2, ls, rs, rfl, f1, f2, hil, hir, by omega, by omega, fun H5 k5 => ?_⟩
      replace S := S.trans k5
      replace f1 := k5 _ _ f1
      clear k5 f2
      walk_at "go"
      intro R hR
      have k6 := My.Same.new (o := .lst (ls.map V.int).reverse) (Same.refl H5) hR
      have gR : upd H5 R (.lst (ls.map V.int).reverse) R = some (.lst (ls.map V.int).reverse) := upd_same
      generalize upd H5 R (.lst (ls.map V.int).reverse) = H6 at k6 gR ⊢
      replace S := S.trans k6
      replace f1 := k6 _ _ f1
      clear k6 hR
      walk_at "go"
      refine My.x_cat gR f1 (by rw [List.length_reverse, List.length_map]; show _ ≤ 2 ^ 24; omega) fun C hC => ?_
      rw [← List.map_reverse, ← List.map_append]
      have k7 := My.Same.new (o := .lst ((ls.reverse ++ ls).map V.int)) (Same.refl H6) hC
      have gC : upd H6 C (.lst ((ls.reverse ++ ls).map V.int)) C = some (.lst ((ls.reverse ++ ls).map V.int)) := upd_same
      generalize upd H6 C (.lst ((ls.reverse ++ ls).map V.int)) = H7 at k7 gC ⊢
      replace S := S.trans k7
      replace f1 := k7 _ _ f1
      clear k7 hC
      walk_at "go"
      refine ⟨l1, C, ls, ls.reverse ++ ls, rfl, f1, gC, hil, fun n hn => (List.mem_append.mp hn).elim (fun z => hil n (List.mem_reverse.mp z)) (hil n), by omega, by rw [List.length_append, List.length_reverse]; omega, fun H8 k8 => ?_⟩
      clear gR gC
      replace S := S.trans k8
      replace f1 := k8 _ _ f1
      clear k8
      walk_at "go"
      refine x_mkE (.inl (SqL.of f1)) hil (by omega) fun c n9 H9 hc k9 A m9 => ?_
      replace S := S.trans k9
      replace f1 := k9 _ _ f1
      clear k9 hc
      have i9 : InB n9 := fun n h => hil n ((m9 n).mp h)
      walk_at "go"
      refine x_ssE (SqL.of f1) (by omega) fun T6 p6 H10 k10 hp6 r6 e6 => ?_
      have n6 : p6 ≠ l1 := (ne_of_none f1 hp6).symm
      replace S := S.trans k10
      replace A := A.same k10
      replace f1 := k10 _ _ f1
      clear k10 hp6
      walk_at "go"
      refine x_listedE A (by omega) fun U1 q1 H11 k11 hq1 v1 g1 => ?_
      have bU := My.nodup_len (strict_nodup v1.up) fun x hx => (m9 x).mp ((v1.mem x).mp hx)
      walk_at "go"
      have k12 : Same H10 (upd H11 q1 (.lst (U1.map V.int ++ [V.int 78]))) := My.Same.mut k11 hq1
      generalize upd H11 q1 (.lst (U1.map V.int ++ [V.int 78])) = H12 at k12 ⊢
      replace S := S.trans k12
      replace A := A.same k12
      replace f1 := k12 _ _ f1
      replace e6 := k12 _ _ e6
      clear k11 k12 hq1 v1 g1 bU
      walk_at "go"
      refine x_listedE A (by omega) fun U2 q2 H13 k13 hq2 v2 g2 => ?_
      walk_at "go"
      refine ⟨q2, _, rfl, rfl, g2, ?_⟩
      have k14 : Same H12 (upd H13 q2 (.lst (U2.map V.int).reverse)) := My.Same.mut k13 hq2
      generalize upd H13 q2 (.lst (U2.map V.int).reverse) = H14 at k14 ⊢
      replace S := S.trans k14
      replace A := A.same k14
      replace f1 := k14 _ _ f1
      replace e6 := k14 _ _ e6
      clear k13 k14 hq2 v2 g2
      walk_at "go"
      replace A := A.upd (o := .lst (ls.map V.int ++ [V.int 77])) f1
      replace e6 : upd H14 l1 (.lst (ls.map V.int ++ [V.int 77])) p6 = some (.lst (T6.map V.int)) := by rw [upd_ne n6]; exact e6
      replace S := My.Same.mut (o := .lst (ls.map V.int ++ [V.int 77])) S n1
      generalize upd H14 l1 (.lst (ls.map V.int ++ [V.int 77])) = H15 at A e6 S ⊢
      clear f1
      walk_at "go"
      refine x_listedE A (by omega) fun U3 q3 H16 k16 hq3 v3 g3 => ?_
      replace S := S.trans k16
      replace A := A.same k16
      replace e6 := k16 _ _ e6
      walk_at "go"
      obtain rfl : U3 = T6 := v3.eq r6 m9
      refine My.x_neI (SqL.of g3) (SqL.of e6) ?_
      simp only [decide_true, Bool.not_true]
      clear k16 hq3 g3
      walk_at "go"
      refine x_eqL A (SqL.of e6) ?_
      walk_at "go"
      obtain ⟨dx, D, B, nd, l9⟩ := id A
      refine My.x_inO B.1 ⟨c, dx, D, n9, .int 77, rfl, B.1, .inl B.2, i9, .inl ⟨77, rfl, ?_⟩⟩
      refine ⟨_, rfl, ?_⟩
      walk_at "go"
      refine My.x_inI (SqL.of e6) ?_
      walk_at "go"
      have y7 : decide ((77 : Int) ∈ U3) = decide ((77 : Int) ∈ n9) := decide_eq_decide.mpr (v3.mem 77)
      rw [y7]
      simp only [Bool.false_eq_true, if_false, decide_true, Bool.not_true]
      clear e6 n6 B
      walk_at "go"
      intro t1 ht1
      have k17 := My.Same.new (o := .tup [V.int 1]) (Same.refl H16) ht1
      have gt1 : upd H16 t1 (.tup [V.int 1]) t1 = some (.tup [V.int 1]) := upd_same
      generalize upd H16 t1 (.tup [V.int 1]) = H17 at k17 gt1 ⊢
      replace S := S.trans k17
      replace A := A.same k17
      clear k17 ht1
      walk_at "go"
      intro l3 hl3
      have k18 := My.Same.new (o := .lst []) (Same.refl H17) hl3
      have gl3 : upd H17 l3 (.lst []) l3 = some (.lst []) := upd_same
      generalize upd H17 l3 (.lst []) = H18 at k18 gl3 ⊢
      replace S := S.trans k18
      replace A := A.same k18
      replace gt1 := k18 _ _ gt1
      clear k18 hl3
      walk_at "go"
      intro d3 hd3
      have k19 := My.Same.new (o := .dK []) (Same.refl H18) hd3
      have gd3 : upd H18 d3 (.dK []) d3 = some (.dK []) := upd_same
      generalize upd H18 d3 (.dK []) = H19 at k19 gd3 ⊢
      replace S := S.trans k19
      replace A := A.same k19
      replace gt1 := k19 _ _ gt1
      replace gl3 := k19 _ _ gl3
      clear k19 hd3
      walk_at "go"
      intro X1 hX1
      have k20 := My.Same.new (o := .lst [V.non, V.bl true, V.str ("1" : Str), V.int (-1), V.ref t1, V.ref l3, V.ref d3, V.int 1000001, V.int (10 ^ (29 : Int).toNat)]) (Same.refl H19) hX1
      have gX1 : upd H19 X1 (.lst [V.non, V.bl true, V.str ("1" : Str), V.int (-1), V.ref t1, V.ref l3, V.ref d3, V.int 1000001, V.int (10 ^ (29 : Int).toNat)]) X1 = some (.lst [V.non, V.bl true, V.str ("1" : Str), V.int (-1), V.ref t1, V.ref l3, V.ref d3, V.int 1000001, V.int (10 ^ (29 : Int).toNat)]) := upd_same
      generalize upd H19 X1 (.lst [V.non, V.bl true, V.str ("1" : Str), V.int (-1), V.ref t1, V.ref l3, V.ref d3, V.int 1000001, V.int (10 ^ (29 : Int).toNat)]) = H20 at k20 gX1 ⊢
      replace S := S.trans k20
      replace A := A.same k20
      replace gt1 := k20 _ _ gt1
      replace gl3 := k20 _ _ gl3
      replace gd3 := k20 _ _ gd3
      clear k20 hX1
      walk_at "go"
      have od1 : ∀ x ∈ ([V.non, V.bl true, V.str ("1" : Str), V.int (-1), V.ref t1, V.ref l3, V.ref d3, V.int 1000001, V.int (10 ^ (29 : Int).toNat)] : List V), Odd K H20 x := by
        intro x hx
        simp only [List.mem_cons, List.not_mem_nil, or_false] at hx
        rcases hx with rfl | rfl | rfl | rfl | rfl | rfl | rfl | rfl | rfl
        · exact .inr ⟨_, .base .non, .inl (kit_ty (by decide +kernel))⟩
        · exact .inr ⟨_, .base (.bl true), .inr ⟨kit_ty (by decide +kernel), by rfl⟩⟩
        · exact .inr ⟨_, .base (.str _), .inl (kit_ty (by decide +kernel))⟩
        · exact .inl ⟨_, rfl, by decide⟩
        · exact .inr ⟨_, My.sqt_ty (SqT.of gt1), .inl (kit_ty (by decide +kernel))⟩
        · exact .inr ⟨_, My.sql_ty (SqL.of (xs := []) gl3), .inl (kit_ty (by decide +kernel))⟩
        · exact .inr ⟨_, .base (.dK gd3), .inl (kit_ty (by decide +kernel))⟩
        · exact .inl ⟨_, rfl, by decide⟩
        · exact .inl ⟨_, rfl, by decide +kernel⟩
      refine My.for_runs (My.runs_list (K := K) (a := X1) id [V.non, V.bl true, V.str ("1" : Str), V.int (-1), V.ref t1, V.ref l3, V.ref d3, V.int 1000001, V.int (10 ^ (29 : Int).toNat)]) (fun pre σ' H' => Same H20 H' ∧ ∃ o, σ' = [some (V.ref a), some (V.int (0 + i)), some (V.ref p), some (V.ref l1), some (V.ref l2), some (V.ref c), some (V.ref p6), o, o8]) ⟨Same.refl H20, _, rfl⟩ (fun pre post σ' H' _ h => by rw [List.map_id]; exact h.1.seq (SqL.of gX1)) ?_ ?_
      · rintro pre x post σ' H21 v H22 hpre ⟨s, o, rfl⟩ ⟨rfl, rfl⟩
        have ox := (od1 v (by rw [hpre]; simp)).same s
        obtain ⟨dx, D, B, nd, l9⟩ := A.same s
        walk_at "go"
        refine My.x_inO B.1 ⟨c, dx, D, n9, v, rfl, B.1, .inl B.2, i9, .inr ⟨ox, _, rfl, ?_⟩⟩
        simp only [Bool.false_eq_true, if_false]
        walk_at "go"
        exact ⟨s, _, rfl⟩
      rintro σ' H21 ⟨k21, o7a, rfl⟩
      replace S := S.trans k21
      clear k21 od1 gX1 gt1 gl3 gd3 A
      try clear B
      walk_at "go"
      intro t2 ht2
      have k22 := My.Same.new (o := .tup [V.int 1]) (Same.refl H21) ht2
      have gt2 : upd H21 t2 (.tup [V.int 1]) t2 = some (.tup [V.int 1]) := upd_same
      generalize upd H21 t2 (.tup [V.int 1]) = H22 at k22 gt2 ⊢
      replace S := S.trans k22
      clear k22 ht2
      walk_at "go"
      intro X2 hX2
      have k23 := My.Same.new (o := .lst [V.non, V.bl true, V.str ("1" : Str), V.int (-1), V.ref t2, V.int 1000001, V.int (10 ^ (29 : Int).toNat)]) (Same.refl H22) hX2
      have gX2 : upd H22 X2 (.lst [V.non, V.bl true, V.str ("1" : Str), V.int (-1), V.ref t2, V.int 1000001, V.int (10 ^ (29 : Int).toNat)]) X2 = some (.lst [V.non, V.bl true, V.str ("1" : Str), V.int (-1), V.ref t2, V.int 1000001, V.int (10 ^ (29 : Int).toNat)]) := upd_same
      generalize upd H22 X2 (.lst [V.non, V.bl true, V.str ("1" : Str), V.int (-1), V.ref t2, V.int 1000001, V.int (10 ^ (29 : Int).toNat)]) = H23 at k23 gX2 ⊢
      replace S := S.trans k23
      replace gt2 := k23 _ _ gt2
      clear k23 hX2
      walk_at "go"
      have od2 : ∀ x ∈ ([V.non, V.bl true, V.str ("1" : Str), V.int (-1), V.ref t2, V.int 1000001, V.int (10 ^ (29 : Int).toNat)] : List V), ∃ d, Odd K H23 x ∧ Sho d ∧ ∀ H', Same H23 H' → Dp K H' x d := by
        intro x hx
        simp only [List.mem_cons, List.not_mem_nil, or_false] at hx
        rcases hx with rfl | rfl | rfl | rfl | rfl | rfl | rfl
        · exact ⟨_, .inr ⟨_, .base .non, .inl (kit_ty (by decide +kernel))⟩, sho_by (d := .none) (by decide +kernel), fun H' s => .non⟩
        · exact ⟨_, .inr ⟨_, .base (.bl true), .inr ⟨kit_ty (by decide +kernel), by rfl⟩⟩, sho_by (d := .bool true) (by decide +kernel), fun H' s => .bl true⟩
        · exact ⟨_, .inr ⟨_, .base (.str _), .inl (kit_ty (by decide +kernel))⟩, sho_by (d := .str ("1" : Str)) (by decide +kernel), fun H' s => .str _⟩
        · exact ⟨_, .inl ⟨_, rfl, by decide⟩, sho_by (d := .int (-1)) (by decide +kernel), fun H' s => .int _⟩
        · exact ⟨_, .inr ⟨_, My.sqt_ty (SqT.of gt2), .inl (kit_ty (by decide +kernel))⟩, sho_by (d := .tuple [.int 1]) (by decide +kernel), fun H' s => .tup (SqT.of (s _ _ gt2)) (.cons (.int 1) .nil)⟩
        · exact ⟨_, .inl ⟨_, rfl, by decide⟩, sho_by (d := .int 1000001) (by decide +kernel), fun H' s => .int _⟩
        · exact ⟨_, .inl ⟨_, rfl, by decide +kernel⟩, sho_by (d := .int (10 ^ (29 : Int).toNat)) (by decide +kernel), fun H' s => .int _⟩
      refine My.for_runs (My.runs_list (K := K) (a := X2) id [V.non, V.bl true, V.str ("1" : Str), V.int (-1), V.ref t2, V.int 1000001, V.int (10 ^ (29 : Int).toNat)]) (fun pre σ' H' => Same H23 H' ∧ ∃ o, σ' = [some (V.ref a), some (V.int (0 + i)), some (V.ref p), some (V.ref l1), some (V.ref l2), some (V.ref c), some (V.ref p6), o, o8]) ⟨Same.refl H23, _, rfl⟩ (fun pre post σ' H' _ h => by rw [List.map_id]; exact h.1.seq (SqL.of gX2)) ?_ ?_
      · rintro pre x post σ' H24 v H25 hpre ⟨s, o, rfl⟩ ⟨rfl, rfl⟩
        obtain ⟨d, ox, sh, dp⟩ := od2 v (by rw [hpre]; simp)
        walk_at "go"
        intro L hL
        have s2 := My.Same.new (o := .lst [V.int 3, v, V.non]) s hL
        have gL : upd H25 L (.lst [V.int 3, v, V.non]) L = some (.lst [V.int 3, v, V.non]) := upd_same
        generalize upd H25 L (.lst [V.int 3, v, V.non]) = H26 at s2 gL ⊢
        walk_at "go"
        refine ⟨_, rfl, .inl ⟨L, v, d, rfl, SqL.of gL, ox.same s2, sh, fun H' k => dp H' (s2.trans k), fun H27 k => ?_⟩⟩
        walk_at "go"
        refine x_reprD (dp _ (s2.trans k)) sh ?_
        walk_at "go"
        simp only [decide_true, Bool.not_true]
        walk_at "go"
        exact ⟨s2.trans k, _, rfl⟩
      rintro σ' H24 ⟨k24, o7b, rfl⟩
      replace S := S.trans k24
      clear k24 od2 gX2 gt2
      walk_at "go"
      intro d4 hd4
      have k25 := My.Same.new (o := .dK []) (Same.refl H24) hd4
      have gd4 : upd H24 d4 (.dK []) d4 = some (.dK []) := upd_same
      generalize upd H24 d4 (.dK []) = H25 at k25 gd4 ⊢
      replace S := S.trans k25
      clear k25 hd4
      walk_at "go"
      intro X3 hX3
      have k26 := My.Same.new (o := .lst [V.non, V.int 5, V.str ("12" : Str), V.ref d4]) (Same.refl H25) hX3
      have gX3 : upd H25 X3 (.lst [V.non, V.int 5, V.str ("12" : Str), V.ref d4]) X3 = some (.lst [V.non, V.int 5, V.str ("12" : Str), V.ref d4]) := upd_same
      generalize upd H25 X3 (.lst [V.non, V.int 5, V.str ("12" : Str), V.ref d4]) = H26 at k26 gX3 ⊢
      replace S := S.trans k26
      replace gd4 := k26 _ _ gd4
      clear k26 hX3
      walk_at "go"
      have od3 : ∀ x ∈ ([V.non, V.int 5, V.str ("12" : Str), V.ref d4] : List V), (∃ (t : Value) (d : PyData), TyX K H26 x t ∧ PySem.W.kitAny K t [.type "list", .type "tuple"] = some false ∧ Sho d ∧ ∀ H', Same H26 H' → Dp K H' x d) ∨ (∃ e : Addr, x = .ref e ∧ H26 e = some (.dK [])) := by
        intro x hx
        simp only [List.mem_cons, List.not_mem_nil, or_false] at hx
        rcases hx with rfl | rfl | rfl | rfl
        · exact .inl ⟨_, _, .base .non, kitN (by decide +kernel) (by decide +kernel), sho_by (d := .none) (by decide +kernel), fun H' s => .non⟩
        · exact .inl ⟨_, _, .base (.int 5), kitN (by decide +kernel) (by decide +kernel), sho_by (d := .int 5) (by decide +kernel), fun H' s => .int 5⟩
        · exact .inl ⟨_, _, .base (.str _), kitN (by decide +kernel) (by decide +kernel), sho_by (d := .str ("12" : Str)) (by decide +kernel), fun H' s => .str _⟩
        · exact .inr ⟨d4, rfl, gd4⟩
      refine My.for_runs (My.runs_list (K := K) (a := X3) id [V.non, V.int 5, V.str ("12" : Str), V.ref d4]) (fun pre σ' H' => Same H26 H' ∧ ∃ o o', σ' = [some (V.ref a), some (V.int (0 + i)), some (V.ref p), some (V.ref l1), some (V.ref l2), some (V.ref c), some (V.ref p6), o, o']) ⟨Same.refl H26, _, _, rfl⟩ (fun pre post σ' H' _ h => by rw [List.map_id]; exact h.1.seq (SqL.of gX3)) ?_ ?_
      · rintro pre x post σ' H27 v H28 hpre ⟨s, o, o', rfl⟩ ⟨rfl, rfl⟩
        have ox := od3 v (by rw [hpre]; simp)
        walk_at "go"
        rcases ox with ⟨t, d, ht, hk, sh, dp⟩ | ⟨e, rfl, he⟩
        · refine ⟨_, rfl, .inr (.inl ⟨t, d, My.tyx_same ht s, hk, sh, fun H' k => dp H' (s.trans k), fun H29 k => ?_⟩)⟩
          walk_at "go"
          refine x_reprD (dp _ (s.trans k)) sh ?_
          walk_at "go"
          simp only [decide_true, Bool.not_true]
          walk_at "go"
          exact ⟨s.trans k, _, _, rfl⟩
        · refine ⟨_, rfl, .inr (.inr ⟨e, rfl, s _ _ he, fun H29 k => ?_⟩)⟩
          walk_at "go"
          refine x_reprE ((s.trans k) _ _ he) ?_
          walk_at "go"
          simp only [decide_true, Bool.not_true]
          walk_at "go"
          exact ⟨s.trans k, _, _, rfl⟩
      rintro σ' H27 ⟨k27, o7c, o8c, rfl⟩
      exact ⟨S.trans k27, _, _, _, _, _, _, _, _, rfl⟩
    · rintro σ' H1 ⟨S, o1, o2, o3, o4, o5, o6, o7, o8, rfl⟩
      walk_at "go"
      intro Y1 hY1
      have k2 := My.Same.new (o := .lst [V.int 1000000, V.int 0]) (Same.refl H1) hY1
      have gY1 : upd H1 Y1 (.lst [V.int 1000000, V.int 0]) Y1 = some (.lst [V.int 1000000, V.int 0]) := upd_same
      generalize upd H1 Y1 (.lst [V.int 1000000, V.int 0]) = H2 at k2 gY1 ⊢
      replace S := S.trans k2
      clear k2 hY1
      walk_at "go"
      refine x_mkE (ns := [1000000, 0]) (.inl (SqL.of gY1)) (by intro n hn; simp only [List.mem_cons, List.not_mem_nil, or_false] at hn; rcases hn with rfl | rfl <;> decide) (by decide) fun c1 u1 H3 hc1 k3 A1 w1 => ?_
      walk_at "go"
      refine x_listedE A1 (by decide) fun U q1 H4 k4 hq1 v1 g1 => ?_
      walk_at "go"
      obtain rfl : U = [0, 1000000] := sorted_same v1.up (by decide) fun x => by rw [v1.mem, w1]; simp only [List.mem_cons, List.not_mem_nil, or_false]; exact Or.comm
      intro Y2 hY2
      refine My.x_neI (ns := [0, 1000000]) (ms := [0, 1000000]) (SqL.of (by rw [upd_ne (ne_of_none g1 hY2)]; exact g1)) (SqL.of upd_same) ?_
      simp only [decide_true, Bool.not_true]
      generalize upd H4 Y2 (.lst [V.int 0, V.int 1000000]) = H5
      clear gY1 k3 k4 A1 v1 g1 hY2 hq1
      try clear hc1 w1
      walk_at "go"
      refine x_mkE (ns := []) (.inr (T0 _)) (fun n h => nomatch h) (by decide) fun c2 u2 H6 hc2 k6 A2 w2 => ?_
      walk_at "go"
      intro Y3 hY3
      have A2b := A2.same (My.Same.new (o := .lst []) (Same.refl H6) hY3)
      have gY3 : upd H6 Y3 (.lst []) Y3 = some (.lst []) := upd_same
      generalize upd H6 Y3 (.lst []) = H7 at A2b gY3 ⊢
      walk_at "go"
      refine x_mkE (ns := []) (.inl (SqL.of gY3)) (fun n h => nomatch h) (by decide) fun c3 u3 H8 hc3 k8 A3 w3 => ?_
      walk_at "go"
      have z2 : u2 = [] := List.eq_nil_iff_forall_not_mem.mpr fun x hx => nomatch (w2 x).mp hx
      have z3 : u3 = [] := List.eq_nil_iff_forall_not_mem.mpr fun x hx => nomatch (w3 x).mp hx
      subst z2 z3
      refine x_eqB (A2b.same k8) A3 ?_
      have yT : decide (([] : List Int).length = ([] : List Int).length ∧ ∀ n ∈ ([] : List Int), n ∈ ([] : List Int)) = true := by decide
      rw [yT]
      walk_at "go"
      refine x_mkE (ns := []) (.inr (T0 _)) (fun n h => nomatch h) (by decide) fun c4 u4 H9 hc4 k9 A4 w4 => ?_
      walk_at "go"
      have z4 : u4 = [] := List.eq_nil_iff_forall_not_mem.mpr fun x hx => nomatch (w4 x).mp hx
      subst z4
      refine x_lenB A4 (by decide) ?_
      walk_at "go"
      have yZ : decide (V.int ((([] : List Int).length : Nat) : Int) = V.int 0) = true := by decide
      rw [yZ]
      walk_at "go"
      intro Y4 hY4
      have gY4 : upd H9 Y4 (.tup [V.int 2, V.int 2]) Y4 = some (.tup [V.int 2, V.int 2]) := upd_same
      generalize upd H9 Y4 (.tup [V.int 2, V.int 2]) = H10 at gY4 ⊢
      walk_at "go"
      refine x_mkwE (x_mkE (ns := [2, 2]) (.inr (SqT.of gY4)) (by intro n hn; simp only [List.mem_cons, List.not_mem_nil, or_false] at hn; rcases hn with rfl | rfl <;> decide) (by decide) fun c5 u5 H11 hc5 k11 A5 w5 => ?_)
      walk_at "go"
      intro Y5 hY5
      have A5b := A5.same (My.Same.new (o := .lst [V.int 2]) (Same.refl H11) hY5)
      have gY5 : upd H11 Y5 (.lst [V.int 2]) Y5 = some (.lst [V.int 2]) := upd_same
      generalize upd H11 Y5 (.lst [V.int 2]) = H12 at A5b gY5 ⊢
      walk_at "go"
      refine x_mkE (ns := [2]) (.inl (SqL.of gY5)) (by intro n hn; simp only [List.mem_cons, List.not_mem_nil, or_false] at hn; subst hn; decide) (by decide) fun c6 u6 H13 hc6 k13 A6 w6 => ?_
      walk_at "go"
      refine x_eqB (A5b.same k13) A6 ?_
      obtain ⟨_, _, _, nd5, _⟩ := A5
      obtain ⟨_, _, _, nd6, _⟩ := id A6
      have me : ∀ x, x ∈ u5 ↔ x ∈ u6 := fun x => by rw [w5, w6]; simp
      rw [decide_eq_true ⟨perm_of nd5 nd6 me, fun n hn => (me n).mp hn⟩]
      exact q _
end
end K41

end

section
namespace K41
open PySem PySem.Spec PyProof.Rows L2

def fn : List He.DefD := [d_InvalidBlock_init, d_is_between, d_Blocks_init, d_Blocks_listed, d_Blocks_within, d_Blocks_len, d_Blocks_contains, d_Blocks_and, d_Blocks_or, d_Blocks_sub, d_Blocks_xor, d_Blocks_eq, d_law_pool, d_law_draw, d_law_numbers, d_law_told, d_law_pair_right, d_law]
def fa : List He.Fa := [.glo "is_between", .glo "Blocks", .glo "_law_pool", .glo "_law_draw", .glo "_law_numbers", .glo "_law_told", .glo "_law_pair_right", .glo "law", .free "len", .free "int", .free "bool", .free "list", .free "tuple", .free "set", .free "sorted", .free "max", .free "min", .free "range", .free "isinstance", .free "all", .free "repr", .free "ValueError", .int "MAX_NUMBER" 1000000, .cls "Blocks", .noat "Blocks" "own_numbers", .meth "Blocks" "listed", .meth "Blocks" "within", .meth "Blocks" "__len__", .meth "Blocks" "__contains__", .meth "Blocks" "__and__", .meth "Blocks" "__or__", .meth "Blocks" "__sub__", .meth "Blocks" "__xor__", .meth "Blocks" "__eq__", .mkr "Blocks"]
def vVB (K : PySem.W.Frag) : Bool := match PySem.W.findCls K (.type "ValueError") (.type "type") "__init__" with
  | some (.val (.builtin n)) => n == "ValueError.__init__"
  | _ => false
theorem vVB_ok {K : PySem.W.Frag} (h : vVB K = true) : PySem.W.findCls K (.type "ValueError") (.type "type") "__init__" = some (.val (.builtin "ValueError.__init__")) := by
  unfold vVB at h
  split at h
  · rename_i n e
    rw [e, beq_iff_eq.mp h]
  · cases h
def tupE (K : PySem.W.Frag) (a : Addr) : Bool := match K.lookup a with
  | some ⟨.type t, _, .seq its _, _⟩ => t == "tuple" && its.toList.isEmpty
  | _ => false
theorem tupE_ok {K : PySem.W.Frag} {a : Addr} (h : tupE K a = true) (H : Hp) : SqT K H a [] := by
  unfold tupE at h
  split at h
  · rename_i t dd its n sl e
    obtain ⟨h1, h2⟩ := My.ba h
    have e1 := beq_iff_eq.mp h1
    subst e1
    have e2 := List.isEmpty_iff.mp h2
    refine .inr ⟨_, its, n, e, rfl, rfl, ?_, by rw [e2]; exact .nil⟩
    rw [← Array.length_toList, e2]
    exact Nat.zero_le _
  · cases h
def ex (K : PySem.W.Frag) : Bool := My.excTB K "InvalidBlock" "value" && (vVB K && (PySem.W.selfFirst K (CB K) && (decide (PySem.W.mroIn K (CB K) (.type "object") = some true) && (He.eqO (PySem.W.findIn K (.ref (CB K)) "__ne__") (some (some (.builtin "object.__ne__"))) &&
  (He.eqO (PySem.W.findIn K (.ref (CB K)) "__class__") (some (some (.builtin "object.__class__"))) && (He.eqO (PySem.W.specialIn K (.builtin "object.__class__") "__get__") (some (some (.builtin "getset_descriptor.__get__"))) && (decide (PySem.W.takesIn K (.builtin "object.__class__") = some true) &&
  (decide (PySem.W.kitOne K (.type "list") (.ref (CB K)) = some false) && (decide (PySem.W.subIn K (.type "list") (.ref (CB K)) = some false) && tupE K (t0 K))))))))))
abbrev R : PySem.W.OpenRow := PySem.W.OpenLaw.row PySem.Challenge.rw_livevolumes_k41_sets_of_blocks
abbrev hk : PySem.W.Hook := My.hookM 6 fa fn ex
def ob (s : PySem.W.SharedT) : He.AlD × Bool := My.obM 6 fa fn ex s
theorem ob_eq (s : PySem.W.SharedT) : ob s = hk.obs s.abs := My.obM_eq 6 fa fn ex s
def loose : List PySem.Str := ["InvalidBlock", "is_between", "MAX_NUMBER", "Blocks", "_law_pool", "_law_draw", "_law_numbers", "_law_told", "_law_pair_right"]
theorem run (w : World) : HandSHeadRun.RunEq R (PySem.W.view R.prog [13]) hk ob 1500 loose w := by
  intro os
  kernel_rfl
end K41

end

section
namespace K41
open PySem PySem.Spec PyProof.Rows L2
theorem facts {P : Program} {w : World} {K : PySem.W.Frag} {h : Heap} {mg : Str → Option Value} {f : Addr} (X : K.In h) (G : h.Ns mainGlobals mg) (hfa : mg ("law" : Str) = some (.ref f)) (c : He.SaysD fa fn K) (e : ex K = true) :
    ∃ fd : FuncData, (∀ (s : Shared) (v : Value), BindsTo s fd ⟨[v], []⟩ [("_law_script", v)]) ∧ ∀ base : Heap, K.In base → base.Ns mainGlobals mg → My.FnG P w K mg base CX0 8 f fd ["_law_script"] (sp_law K) := by
  obtain ⟨fd0, F0⟩ := c.def_ 0 (d := d_InvalidBlock_init) rfl
  obtain ⟨fd1, F1⟩ := c.def_ 1 (d := d_is_between) rfl
  obtain ⟨fd2, F2⟩ := c.def_ 2 (d := d_Blocks_init) rfl
  obtain ⟨fd3, F3⟩ := c.def_ 3 (d := d_Blocks_listed) rfl
  obtain ⟨fd4, F4⟩ := c.def_ 4 (d := d_Blocks_within) rfl
  obtain ⟨fd5, F5⟩ := c.def_ 5 (d := d_Blocks_len) rfl
  obtain ⟨fd6, F6⟩ := c.def_ 6 (d := d_Blocks_contains) rfl
  obtain ⟨fd7, F7⟩ := c.def_ 7 (d := d_Blocks_and) rfl
  obtain ⟨fd8, F8⟩ := c.def_ 8 (d := d_Blocks_or) rfl
  obtain ⟨fd9, F9⟩ := c.def_ 9 (d := d_Blocks_sub) rfl
  obtain ⟨fd10, F10⟩ := c.def_ 10 (d := d_Blocks_xor) rfl
  obtain ⟨fd11, F11⟩ := c.def_ 11 (d := d_Blocks_eq) rfl
  obtain ⟨fd12, F12⟩ := c.def_ 12 (d := d_law_pool) rfl
  obtain ⟨fd13, F13⟩ := c.def_ 13 (d := d_law_draw) rfl
  obtain ⟨fd14, F14⟩ := c.def_ 14 (d := d_law_numbers) rfl
  obtain ⟨fd15, F15⟩ := c.def_ 15 (d := d_law_told) rfl
  obtain ⟨fd16, F16⟩ := c.def_ 16 (d := d_law_pair_right) rfl
  obtain ⟨fd17, F17⟩ := c.def_ 17 (d := d_law) rfl
  obtain ⟨e1, e⟩ := My.ba e
  obtain ⟨e2, e⟩ := My.ba e
  obtain ⟨e3, e⟩ := My.ba e
  obtain ⟨e4, e⟩ := My.ba e
  obtain ⟨e5, e⟩ := My.ba e
  obtain ⟨e6, e⟩ := My.ba e
  obtain ⟨e7, e⟩ := My.ba e
  obtain ⟨e8, e⟩ := My.ba e
  obtain ⟨e9, e⟩ := My.ba e
  obtain ⟨e10, e11⟩ := My.ba e
  have ea := hfa.symm.trans (He.glo_ok X G (c.fact 7 (f := .glo "law") rfl))
  cases ea
  obtain ⟨tk, hmx⟩ := He.int_ok X G (c.fact 22 (f := .int "MAX_NUMBER" 1000000) rfl)
  have hgB := He.glo_ok X G (c.fact 1 (f := .glo "Blocks") rfl)
  have T : Tx K mg tk := ⟨He.free_ok X G (c.fact 8 (f := .free "len") rfl), He.free_ok X G (c.fact 9 (f := .free "int") rfl), He.free_ok X G (c.fact 10 (f := .free "bool") rfl), He.free_ok X G (c.fact 11 (f := .free "list") rfl), He.free_ok X G (c.fact 12 (f := .free "tuple") rfl), He.free_ok X G (c.fact 13 (f := .free "set") rfl), He.free_ok X G (c.fact 14 (f := .free "sorted") rfl), He.free_ok X G (c.fact 15 (f := .free "max") rfl), He.free_ok X G (c.fact 16 (f := .free "min") rfl), He.free_ok X G (c.fact 17 (f := .free "range") rfl), He.free_ok X G (c.fact 18 (f := .free "isinstance") rfl), He.free_ok X G (c.fact 19 (f := .free "all") rfl), He.free_ok X G (c.fact 20 (f := .free "repr") rfl), He.free_ok X G (c.fact 21 (f := .free "ValueError") rfl), hmx, hgB, vVB_ok e2, My.excTB_ok X G e1, He.cls_ok (c.fact 23 (f := .cls "Blocks") rfl), He.noat_ok (c.fact 24 (f := .noat "Blocks" "own_numbers") rfl), e3, of_decide_eq_true e4, He.eqO_ok e5, He.eqO_ok e6, He.eqO_ok e7, of_decide_eq_true e8, of_decide_eq_true e9, of_decide_eq_true e10⟩
  have b := FunD.bindsA (ps := ["_law_script"]) F17 fun _ _ _ _ _ _ us hl => match us, hl with | [_], _ => rfl
  refine ⟨fd17, fun s v => b s [v] rfl, fun base hKb hbns => ?_⟩
  have C_btw : My.Cl P w K mg base "is_between" ["value", "least", "most"] 1 (sp_betw K) := ⟨⟨fd1, ok_betw T F1, F1.bindsN fun _ _ _ _ _ _ us hl => match us, hl with | [_, _, _], _ => rfl⟩, F1.kp, He.glo_ok X G (c.fact 0 (f := .glo "is_between") rfl)⟩
  have bI : Binds K fd0 ["self", "value"] [] := F0.bindsN fun _ _ _ _ _ _ us hl => match us, hl with | [_, _], _ => rfl
  have I0 := ok_init (base := base) (P := P) (w := w) T F2 C_btw (ok_exc T F0) bI
  obtain ⟨ds, v1, b1⟩ := FunD.binds1 (ps := ["self", "numbers"]) F2 2 1 (by simp [He.DefD.dvs, d_Blocks_init]) rfl fun T kV doc pm an cdv ct us its hu hi => match us, its, hu, hi with | [_, _], [_], _, _ => ⟨_, rfl, rfl⟩
  have hds : ds = [] := by
    cases v1
    rfl
  subst hds
  obtain ⟨ds0, v0, b0⟩ := FunD.binds1 (ps := ["self", "numbers"]) F2 1 0 (by simp [He.DefD.dvs, d_Blocks_init]) rfl fun T kV doc pm an cdv ct us its hu hi => match us, its, hu, hi with | [_], [_], _, _ => ⟨_, rfl, rfl⟩
  obtain ⟨its, kb⟩ := FunD.kbindsD (ps := ["self", "numbers"]) F2 1 [("numbers" : Str)] (fun us ds ws => us ++ ws) (by simp [He.DefD.dvs, d_Blocks_init]) (fun r1 _ r3 => r1.append r3) fun T kV doc pm an cdv ct us its ws hu hi hw => match us, its, ws, hu, hi, hw with | [_], [_], [_], _, _, _ => ⟨_, rfl, rfl⟩
  have M_B : MBl P w K mg base := ⟨⟨_, fd2, [], He.mkr_ok (c.fact 34 (f := .mkr "Blocks") rfl), I0, b1, .nil⟩, hgB⟩
  have M_B0 : My.Mx P w K mg base (L2.CX P w) "Blocks" ["self", "numbers"] 3 (sp_init K) [.ref (t0 K)] := ⟨⟨_, fd2, ds0, He.mkr_ok (c.fact 34 (f := .mkr "Blocks") rfl), I0, b0, v0⟩, hgB⟩
  have M_K : MKw P w K mg base := ⟨⟨_, fd2, _, He.mkr_ok (c.fact 34 (f := .mkr "Blocks") rfl), I0, kb⟩, hgB⟩
  have C_listed : CListed P w K mg base := ⟨⟨fd3, ok_listed T F3, F3.bindsN fun _ _ _ _ _ _ us hl => match us, hl with | [_], _ => rfl⟩, He.meth_ok (c.fact 25 (f := .meth "Blocks" "listed") rfl), T.cls, My.fnIn_of F3⟩
  have C_has : CHas P w K mg base := ⟨⟨fd6, ok_has T F6 C_btw, F6.bindsN fun _ _ _ _ _ _ us hl => match us, hl with | [_, _], _ => rfl⟩, He.meth_ok (c.fact 28 (f := .meth "Blocks" "__contains__") rfl), T.cls, My.fnIn_of F6⟩
  have C_within : My.Cm P w K mg base CX0 "Blocks" "within" ["self", "other"] 3 (sp_within K) := ⟨⟨fd4, ok_within T F4 C_has, F4.bindsN fun _ _ _ _ _ _ us hl => match us, hl with | [_, _], _ => rfl⟩, He.meth_ok (c.fact 26 (f := .meth "Blocks" "within") rfl), T.cls, My.fnIn_of F4⟩
  have C_len : My.Cm P w K mg base CX0 "Blocks" "__len__" ["self"] 1 (sp_len K) := ⟨⟨fd5, ok_len T F5, F5.bindsN fun _ _ _ _ _ _ us hl => match us, hl with | [_], _ => rfl⟩, He.meth_ok (c.fact 27 (f := .meth "Blocks" "__len__") rfl), T.cls, My.fnIn_of F5⟩
  have C_and : CBin "__and__" Rand P w K mg base := ⟨⟨fd7, ok_and T F7 C_has M_B, F7.bindsN fun _ _ _ _ _ _ us hl => match us, hl with | [_, _], _ => rfl⟩, He.meth_ok (c.fact 29 (f := .meth "Blocks" "__and__") rfl), T.cls, My.fnIn_of F7⟩
  have C_or : CBin "__or__" Ror P w K mg base := ⟨⟨fd8, ok_or T F8 C_listed M_B, F8.bindsN fun _ _ _ _ _ _ us hl => match us, hl with | [_, _], _ => rfl⟩, He.meth_ok (c.fact 30 (f := .meth "Blocks" "__or__") rfl), T.cls, My.fnIn_of F8⟩
  have C_sub : CBin "__sub__" Rsub P w K mg base := ⟨⟨fd9, ok_sub T F9 C_has M_B, F9.bindsN fun _ _ _ _ _ _ us hl => match us, hl with | [_, _], _ => rfl⟩, He.meth_ok (c.fact 31 (f := .meth "Blocks" "__sub__") rfl), T.cls, My.fnIn_of F9⟩
  have C_xor : CBin "__xor__" Rxor P w K mg base := ⟨⟨fd10, ok_xor T F10 C_has C_listed M_B, F10.bindsN fun _ _ _ _ _ _ us hl => match us, hl with | [_, _], _ => rfl⟩, He.meth_ok (c.fact 32 (f := .meth "Blocks" "__xor__") rfl), T.cls, My.fnIn_of F10⟩
  have C_eq : My.Cm P w K mg base CX0 "Blocks" "__eq__" ["self", "other"] 1 (sp_eq K) := ⟨⟨fd11, ok_eq T F11, F11.bindsN fun _ _ _ _ _ _ us hl => match us, hl with | [_, _], _ => rfl⟩, He.meth_ok (c.fact 33 (f := .meth "Blocks" "__eq__") rfl), T.cls, My.fnIn_of F11⟩
  have C_draw : My.Cl P w K mg base "_law_draw" ["_law_pool_here", "_law_many"] 1 My.sp_draw := ⟨⟨fd13, ok_draw T F13, F13.bindsN fun _ _ _ _ _ _ us hl => match us, hl with | [_, _], _ => rfl⟩, F13.kp, He.glo_ok X G (c.fact 3 (f := .glo "_law_draw") rfl)⟩
  exact ok_law T (tupE_ok e11) F17 ⟨⟨fd12, ok_pool T F12, F12.bindsN fun _ _ _ _ _ _ us hl => match us, hl with | [_, _], _ => rfl⟩, F12.kp, He.glo_ok X G (c.fact 2 (f := .glo "_law_pool") rfl)⟩
    ⟨⟨fd14, ok_numbers T F14 C_draw, F14.bindsN fun _ _ _ _ _ _ us hl => match us, hl with | [_], _ => rfl⟩, F14.kp, He.glo_ok X G (c.fact 4 (f := .glo "_law_numbers") rfl)⟩
    ⟨⟨fd16, ok_pair T F16 M_B C_listed C_has C_within C_len C_and C_or C_sub C_xor C_eq, F16.bindsN fun _ _ _ _ _ _ us hl => match us, hl with | [_, _], _ => rfl⟩, F16.kp, He.glo_ok X G (c.fact 6 (f := .glo "_law_pair_right") rfl)⟩
    M_B M_B0 M_K C_listed C_has C_len C_eq
    ⟨⟨fd15, ok_told T F15 M_B, F15.bindsN fun _ _ _ _ _ _ us hl => match us, hl with | [_], _ => rfl⟩, F15.kp, He.glo_ok X G (c.fact 5 (f := .glo "_law_told") rfl)⟩
end K41
open PySem PySem.W PySem.Calls PyProof.Rows
theorem PySem.Challenge.cw_livevolumes_k41_sets_of_blocks_holds : PySem.Challenge.rw_livevolumes_k41_sets_of_blocks.Holds := by
  w_on; o_law
  refine HandSHeadRun.head_any (r := K41.R) (q := view K41.R.prog [13]) (H := K41.hk) (ob := K41.ob) (M := 1500) (loose := K41.loose) (d := HandSHeadRun.topDef K41.R.prog 13) (kwd := []) K41.ob_eq
    (by kernel_rfl) (fun s => by kernel_rfl) K41.run (by kernel_rfl) (by kernel_rfl) (by kernel_rfl) (by rfl) (by first | assumption | decide +kernel) (by decide +kernel) ⟨rfl, rfl, rfl, rfl, rfl, by decide +kernel⟩ ?hw ?hc
  case hw => w_witness2
  case hc =>
    refine My.walk_ofG (l := PySem.Challenge.rw_livevolumes_k41_sets_of_blocks) (n := 63) (k := 8) (x := "_law_script") (CX := fun _ => L2.CX0) rfl (by decide) (by kernel_rfl) ⟨rfl, by decide, by decide⟩ ?F (fun _ _ _ _ _ z => z)
    intro w mg fa h Y G hmg0
    obtain ⟨K, KX, c, e⟩ := Y
    have hmg : mg ("law" : PySem.Str) = some (.ref fa) := by
      have e : (HandSHeadRun.topDef K41.R.prog 13).name = ("law" : PySem.Str) := by kernel_rfl
      rw [← e]
      exact hmg0
    obtain ⟨fd, hb, hF⟩ := K41.facts (P := (PySem.Challenge.rw_livevolumes_k41_sets_of_blocks).prog) (w := w) KX G hmg c e
    exact ⟨K, fd, K41.sp_law K, KX, hb, fun H a ns hl _ _ hS => ⟨a, ns, rfl, hS, hl, fun _ => rfl⟩, hF⟩
#print axioms PySem.Challenge.cw_livevolumes_k41_sets_of_blocks_holds

end

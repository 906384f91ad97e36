import PyProof.Rows.All
import Wide.All
import OpenK.AllK
import Wide.FinOn
import KE.KStateDown
import Lean
import HandS.ForMost
import HandS.Exc
import HandS.Wide
import HandS.Style
import HandS.SortInts
import HandS.DictComp
import HandS.Defaults
import HandS.EndBits
import HandS.Head0
import HandS.Head1
import HandS.Head2
import HandS.HeadEnd
import HandS.HeadHook1
import HandS.HeadHook2
import PySem.Challenge.RW_livevolumes_k67_clocks_that_are_kept
set_option Elab.async false
set_option linter.all false
set_option maxRecDepth 100000
set_option maxHeartbeats 2000000
namespace My
open PySem PySem.Spec PyProof.Rows L2
section
variable {σ : L2.St} {H : Hp} {Q : VK} {nx bk ct : L2.St → Hp → Prop} {rt : VK} {t t1 t2 u : TS} {te ta tb tc : TE} {c d : TT} {g : TG} {x y v w : V}
theorem x_seq (h : t1 ⟨t2 ⟨nx, rt, bk, ct⟩, rt, bk, ct⟩ σ H) : tSeq t1 t2 ⟨nx, rt, bk, ct⟩ σ H := h
theorem x_next (h : nx σ H) : tNext ⟨nx, rt, bk, ct⟩ σ H := h
theorem x_ret (h : te σ H rt) : tRet te ⟨nx, rt, bk, ct⟩ σ H := h
theorem x_drop (h : te σ H fun _ H1 => nx σ H1) : tDrop te ⟨nx, rt, bk, ct⟩ σ H := h
theorem x_asg (h : te σ H fun x H1 => g x σ H1 nx) : tAsg te g ⟨nx, rt, bk, ct⟩ σ H := h
theorem x_par {i j : Nat} {ta : TA} (h : ta σ H fun vs H1 => ∃ v w, vs = [v, w] ∧ gName i v σ H1 fun σ1 H2 => gName j w σ1 H2 nx) : tPar i j ta ⟨nx, rt, bk, ct⟩ σ H := h
theorem x_exp2 {R : V → V → Prop} (h : R v w) : ∃ a b, [v, w] = [a, b] ∧ R a b := ⟨v, w, rfl, h⟩
theorem x_ifs (h : c σ H fun b H1 => if b = true then t ⟨nx, rt, bk, ct⟩ σ H1 else u ⟨nx, rt, bk, ct⟩ σ H1) : tIfS c t u ⟨nx, rt, bk, ct⟩ σ H := h
theorem x_c (h : Q v H) : tC v σ H Q := h
theorem x_op {r : R2} (h : ta σ H fun x H1 => tb σ H1 fun y H2 => r x y H2 Q) : tOp r ta tb σ H Q := h
theorem x_nil {Q : List V → Hp → Prop} (h : Q [] H) : tNil σ H Q := h
theorem x_cons {tr : TA} {Q : List V → Hp → Prop} (h : ta σ H fun x H1 => tr σ H1 fun xs H2 => Q (x :: xs) H2) : tCons ta tr σ H Q := h
theorem x_cb {r : List V → Hp → VK → Prop} {ta : TA} (h : ta σ H fun vs H1 => r vs H1 Q) : tCB r ta σ H Q := h
theorem x_call {sp : Sp} {dvs : List V} {E : XK} {ta : TA} (h : ta σ H fun vs H1 => sp (vs ++ dvs) H1 Q E) : tCall sp dvs E ta σ H Q := h
theorem x_test {Q : Bool → Hp → Prop} (h : te σ H fun x H' => ∃ k, x = .bl k ∧ Q k H') : tTest te σ H Q := h
theorem x_tB {Q : Bool → Hp → Prop} (h : te σ H fun x H' => ∃ k, x = .bl k ∧ Q k H') : tB te σ H Q := h
theorem x_exbl {b : Bool} {R : Bool → Prop} (h : R b) : ∃ k, V.bl b = .bl k ∧ R k := ⟨b, rfl, h⟩
theorem x_exI {i : Int} {R : Int → Prop} (h : R i) : ∃ k, V.int i = .int k ∧ R k := ⟨i, rfl, h⟩
theorem x_and {Q : Bool → Hp → Prop} (h : c σ H fun b H1 => if b = true then d σ H1 Q else Q false H1) : tAnd c d σ H Q := h
theorem x_or {Q : Bool → Hp → Prop} (h : c σ H fun b H1 => if b = true then Q true H1 else d σ H1 Q) : tOr c d σ H Q := h
theorem x_yes {Q : Bool → Hp → Prop} (h : Q true H) : tYes σ H Q := h
theorem x_tfor {wi : TI} {tb : TS} (h : wi σ H fun J H1 => ∃ W : Nat → Nat → L2.St → Hp → Prop, (∃ m, W 0 m σ H1) ∧ ∀ i m σ H, W i m σ H →
  (J.stop i H ∧ nx σ H) ∨ (J.go i H ∧ ∃ N : L2.St → Hp → Prop, (∀ σ' H', N σ' H' → ∃ m', m' < m ∧ W (i + 1) m' σ' H') ∧ ∀ x H', J.yld i H x H' → g x σ H' fun σ2 H2 => tb ⟨N, rt, nx, N⟩ σ2 H2)) : tFor wi g tb ⟨nx, rt, bk, ct⟩ σ H := h
theorem x_ilist {K : PySem.W.Frag} {R} (h : te σ H fun x H1 => ∃ a, x = .ref a ∧ (∃ xs, SqL K H1 a xs) ∧ R (Itl K a) H1) : iList K te σ H R := h
theorem x_rng1 {ta : TA} {R} (h : ta σ H fun vs H1 => ∃ j : Int, vs = [.int j] ∧ -(2 ^ 62) ≤ j ∧ j < 2 ^ 62 ∧ R (Itr 0 j.toNat) H1) : iRng1 ta σ H R := h
theorem x_ii0 {i j : Int} {g : Int → Int → V} (h : Q (g i j) H) : rI0 g (.int i) (.int j) H Q := ⟨i, j, rfl, rfl, h⟩
theorem x_sl {r : V → Option Int → Option Int → Hp → VK → Prop} {tl th : TO} (h : te σ H fun x H1 => tl σ H1 fun l H2 => th σ H2 fun u H3 => r x l u H3 Q) : tSl r te tl th σ H Q := h
theorem x_part {Q : Option Int → Hp → Prop} (h : te σ H fun x H1 => ∃ i, x = .int i ∧ Q (some i) H1) : tPart te σ H Q := h
theorem x_nopart {Q : Option Int → Hp → Prop} (h : Q none H) : tNoPart σ H Q := h
theorem x_iT {A B : Prop} (h : A) : if true = true then A else B := iteT h
theorem x_iF {A B : Prop} (h : B) : if false = true then A else B := iteF h
theorem x_bm {K : PySem.W.Frag} {T : String} {r : V → List V → Hp → VK → Prop} {t : TA} (h : te σ H fun x H1 => tyV K T x H1 ∧ t σ H1 fun xs H2 => r x xs H2 Q) : tBM K T r te t σ H Q := h
/-- a rule with a side condition -/
theorem x_i {C : Int → Int → Prop} {i j : Int} {g : Int → Int → V} (hc : C i j) (h : Q (g i j) H) : rI C g (.int i) (.int j) H Q := ⟨i, j, rfl, rfl, hc, h⟩
theorem x_dec {p : Prop} [Decidable p] {A B : Prop} (h1 : p → A) (h2 : ¬ p → B) : if decide p = true then A else B := by
  by_cases h : p
  · rw [decide_eq_true h]; exact iteT (h1 h)
  · rw [decide_eq_false h]; exact iteF (h2 h)
theorem x_lst {ta : TA} (h : ta σ H fun xs H1 => xs.length ≤ sizeLine ∧ ∀ p, H1 p = none → Q (.ref p) (upd H1 p (.lst xs))) : tLst ta σ H Q := h
theorem x_ixL {K : PySem.W.Frag} {p : Addr} {xs : List V} {i : Int} (h : SqL K H p xs) (ha : atI xs i = some v) (k : Q v H) : rIxL K (.ref p) (.int i) H Q := ⟨p, xs, i, v, rfl, rfl, h, ha, k⟩
theorem x_setL {p : Addr} {xs : List V} {i : Int} {j : Nat} {Q : Hp → Prop} (h : H p = some (.lst xs)) (hi : ixN xs.length i = some j) (k : Q (upd H p (.lst (xs.set j v)))) : rSetL (.ref p) (.int i) v H Q := ⟨p, xs, i, j, rfl, rfl, h, hi, k⟩
theorem x_mem1 {n : Nat} {A : Prop} (h : n ≤ sizeLine) (k : A) : n ≤ sizeLine ∧ A := ⟨h, k⟩
theorem x_sortDI {a : Addr} {kvs : List (Key × V)} {ks : List Int} {R : List Int → Addr → Prop} (s : H a = some (.dK kvs)) (hk : kvs.map (·.1) = ks.map Sum.inl) (l : ks.length < 64) (h : ∀ (ys : List Int) (p : Addr), ys.Perm ks → ys.Pairwise (· ≤ ·) → H p = none → R ys p) :
    ∃ (b : Addr) (kvs : List (Key × V)) (ks : List Int), [V.ref a] = [.ref b] ∧ Rd H b (.dK kvs) ∧ kvs.map (·.1) = ks.map Sum.inl ∧ ks.length < 64 ∧ ∀ (ys : List Int) (p : Addr), ys.Perm ks → ys.Pairwise (· ≤ ·) → H p = none → R ys p := ⟨a, kvs, ks, rfl, .inl s, hk, l, h⟩
theorem inV_int (i : Int) : ∀ ks : List Int, inV (.int i) (ks.map V.int) = decide (i ∈ ks)
  | [] => by simp [inV]
  | k :: r => by
    have ih := inV_int i r
    unfold inV at ih ⊢
    rw [List.map_cons, List.any_cons, ih]
    have : eqV (V.int k) (V.int i) = decide (k = i) := rfl
    rw [this, Bool.eq_iff_iff]
    simp only [Bool.or_eq_true, decide_eq_true_eq, List.mem_cons]
    exact ⟨fun q => q.imp Eq.symm id, fun q => q.imp Eq.symm id⟩
theorem flat_ints (ks : List Int) : (ks.map V.int).all flatV = true := by
  rw [List.all_eq_true]
  intro x hx
  obtain ⟨k, _, rfl⟩ := List.mem_map.mp hx
  rfl
theorem x_notinI {K : PySem.W.Frag} {p : Addr} {i : Int} {ks : List Int} (s : SqL K H p (ks.map V.int)) (h : Q (.bl (!decide (i ∈ ks))) H) : rIn K true (.int i) (.ref p) H Q :=
  ⟨p, _, rfl, .inl s, rfl, flat_ints ks, by rw [inV_int]; exact h⟩
theorem x_start {t : TS} {D : Ends} {σ σ' : L2.St} {H : Hp} (e : σ' = σ) (h : t D σ H) : t D σ' H := e ▸ h
theorem x_gsub {to ti : TE} {ts : TSet} {Q : L2.St → Hp → Prop} (h : to σ H fun o H1 => ti σ H1 fun i H2 => ts o i v H2 fun H3 => Q σ H3) : gSub to ti ts v σ H Q := h
theorem x_int1 {i : Int} {R : Prop} {Q : Int → Prop} (h : Q i) : (∃ j, [V.int i] = [.int j] ∧ Q j) ∨ R := .inl ⟨i, rfl, h⟩
theorem x_len {K : PySem.W.Frag} {a : Addr} {ys : List V} {Q : List V → Prop} (s : SqL K H a ys) (h : Q ys) : ∃ (p : Addr) (ys : List V), [V.ref a] = [.ref p] ∧ (SqL K H p ys ∨ SqT K H p ys) ∧ Q ys := ⟨a, ys, rfl, .inl s, h⟩
theorem x_lenD {a : Addr} {kvs : List (Key × V)} {Q : List (Key × V) → Prop} (s : H a = some (.dK kvs)) (h : Q kvs) : ∃ (b : Addr) (kvs : List (Key × V)), [V.ref a] = [.ref b] ∧ H b = some (.dK kvs) ∧ Q kvs := ⟨a, kvs, rfl, s, h⟩
theorem x_two {i j : Int} {Q : Int → Int → Prop} (h : Q i j) : ∃ a b : Int, [V.int i, V.int j] = [.int a, .int b] ∧ Q a b := ⟨i, j, rfl, h⟩
theorem x_sortI {K : PySem.W.Frag} {a : Addr} {ns : List Int} (s : SqL K H a (ns.map V.int)) (h : ∀ (ns' : List Int) (p : Addr), ns'.Perm ns → ns'.Pairwise (· ≤ ·) → H p = none → Q (.ref p) (upd H p (.lst (ns'.map V.int)))) : rSortedI K [.ref a] H Q := ⟨a, ns, rfl, s, h⟩
theorem x_slL {K : PySem.W.Frag} {a : Addr} {xs : List V} {lo hi : Option Int} (s : SqL K H a xs) (h : ∀ p, H p = none → Q (.ref p) (upd H p (.lst (cutV xs lo hi)))) : rSlL K (.ref a) lo hi H Q := ⟨a, xs, rfl, s, h⟩
theorem x_revL {K : PySem.W.Frag} (h : te σ H fun x H1 => ∃ a xs, x = .ref a ∧ SqL K H1 a xs ∧ ∀ p, H1 p = none → Q (.ref p) (upd H1 p (.lst xs.reverse))) : tRevL K te σ H Q := h
theorem x_revL2 {K : PySem.W.Frag} {a : Addr} {xs : List V} {R : List V → Prop} (s : SqL K H a xs) (h : R xs) : ∃ (b : Addr) (xs : List V), V.ref a = .ref b ∧ SqL K H b xs ∧ R xs := ⟨a, xs, rfl, s, h⟩
theorem x_dput {td ty tv : TE} (h : tv σ H fun v H1 => td σ H1 fun x H2 => ty σ H2 fun y H3 => ∃ a H4, x = .ref a ∧ DPut H3 a y v H4 ∧ nx σ H4) : sDPut td ty tv ⟨nx, rt, bk, ct⟩ σ H := h
theorem x_dputI {a : Addr} {kvs : List (Key × V)} {i : Int} {R : Hp → Prop} (s : H a = some (.dK kvs)) (l : kvs.length < sizeLine) (h : R (upd H a (.dK (putK kvs (Sum.inl i) v)))) : ∃ (b : Addr) (H4 : Hp), V.ref a = .ref b ∧ DPut H b (.int i) v H4 ∧ R H4 := ⟨a, _, rfl, DPut.k (k := Sum.inl i) s l, h⟩
theorem x_dget (h : ta σ H fun x H1 => tb σ H1 fun y H2 => ∃ a v, x = .ref a ∧ DGet H2 a y (some v) ∧ Q v H2) : tDGet ta tb σ H Q := h
theorem x_dgetI {a : Addr} {kvs : List (Key × V)} {i : Int} {R : V → Prop} (s : H a = some (.dK kvs)) (e : valV kvs (Sum.inl i) = some v) (h : R v) : ∃ (b : Addr) (v : V), V.ref a = .ref b ∧ DGet H b (.int i) (some v) ∧ R v := ⟨a, v, rfl, e ▸ DGet.k (k := Sum.inl i) s, h⟩
theorem x_dnew (h : ∀ p, H p = none → Q (.ref p) (upd H p (.dK []))) : tDNewK σ H Q := h
theorem x_append {l : Addr} {xs : List V} (s : H l = some (.lst xs)) (n : xs.length < sizeLine) (h : Q .non (upd H l (.lst (xs ++ [y])))) : rAppend (.ref l) [y] H Q := ⟨l, xs, y, rfl, rfl, s, n, h⟩
theorem x_tyL {K : PySem.W.Frag} {a : Addr} {xs : List V} {R : Prop} (s : H a = some (.lst xs)) (h : R) : tyV K "list" (.ref a) H ∧ R := ⟨.inl ⟨rfl, _, SqL.of s⟩, h⟩
theorem x_ilistE {K : PySem.W.Frag} {a : Addr} {xs : List V} {R : Addr → Prop} (s : SqL K H a xs) (h : R a) : ∃ b, V.ref a = .ref b ∧ (∃ xs, SqL K H b xs) ∧ R b := ⟨a, rfl, ⟨xs, s⟩, h⟩
theorem x_rng1E {j : Int} {R : Int → Prop} (h1 : -(2 ^ 62) ≤ j) (h2 : j < 2 ^ 62) (h : R j) : ∃ k : Int, [V.int j] = [.int k] ∧ -(2 ^ 62) ≤ k ∧ k < 2 ^ 62 ∧ R k := ⟨j, rfl, h1, h2, h⟩
end

theorem x_v0 {v : V} {r : L2.St} {H : Hp} {Q : VK} (h : Q v H) : tVar 0 (some v :: r) H Q := ⟨v, rfl, h⟩
theorem x_v1 {a0 : Option V} {v : V} {r : L2.St} {H : Hp} {Q : VK} (h : Q v H) : tVar 1 (a0 :: some v :: r) H Q := ⟨v, rfl, h⟩
theorem x_g1 {a0 : Option V} {v : V} {c : Option V} {r : L2.St} {H : Hp} {Q : L2.St → Hp → Prop} (h : Q (a0 :: some v :: r) H) : gName 1 v (a0 :: c :: r) H Q := h
theorem x_v2 {a0 a1 : Option V} {v : V} {r : L2.St} {H : Hp} {Q : VK} (h : Q v H) : tVar 2 (a0 :: a1 :: some v :: r) H Q := ⟨v, rfl, h⟩
theorem x_g2 {a0 a1 : Option V} {v : V} {c : Option V} {r : L2.St} {H : Hp} {Q : L2.St → Hp → Prop} (h : Q (a0 :: a1 :: some v :: r) H) : gName 2 v (a0 :: a1 :: c :: r) H Q := h
theorem x_v3 {a0 a1 a2 : Option V} {v : V} {r : L2.St} {H : Hp} {Q : VK} (h : Q v H) : tVar 3 (a0 :: a1 :: a2 :: some v :: r) H Q := ⟨v, rfl, h⟩
theorem x_g3 {a0 a1 a2 : Option V} {v : V} {c : Option V} {r : L2.St} {H : Hp} {Q : L2.St → Hp → Prop} (h : Q (a0 :: a1 :: a2 :: some v :: r) H) : gName 3 v (a0 :: a1 :: a2 :: c :: r) H Q := h
theorem x_v4 {a0 a1 a2 a3 : Option V} {v : V} {r : L2.St} {H : Hp} {Q : VK} (h : Q v H) : tVar 4 (a0 :: a1 :: a2 :: a3 :: some v :: r) H Q := ⟨v, rfl, h⟩
theorem x_g4 {a0 a1 a2 a3 : Option V} {v : V} {c : Option V} {r : L2.St} {H : Hp} {Q : L2.St → Hp → Prop} (h : Q (a0 :: a1 :: a2 :: a3 :: some v :: r) H) : gName 4 v (a0 :: a1 :: a2 :: a3 :: c :: r) H Q := h
theorem x_v5 {a0 a1 a2 a3 a4 : Option V} {v : V} {r : L2.St} {H : Hp} {Q : VK} (h : Q v H) : tVar 5 (a0 :: a1 :: a2 :: a3 :: a4 :: some v :: r) H Q := ⟨v, rfl, h⟩
theorem x_g5 {a0 a1 a2 a3 a4 : Option V} {v : V} {c : Option V} {r : L2.St} {H : Hp} {Q : L2.St → Hp → Prop} (h : Q (a0 :: a1 :: a2 :: a3 :: a4 :: some v :: r) H) : gName 5 v (a0 :: a1 :: a2 :: a3 :: a4 :: c :: r) H Q := h
theorem x_v6 {a0 a1 a2 a3 a4 a5 : Option V} {v : V} {r : L2.St} {H : Hp} {Q : VK} (h : Q v H) : tVar 6 (a0 :: a1 :: a2 :: a3 :: a4 :: a5 :: some v :: r) H Q := ⟨v, rfl, h⟩
theorem x_g6 {a0 a1 a2 a3 a4 a5 : Option V} {v : V} {c : Option V} {r : L2.St} {H : Hp} {Q : L2.St → Hp → Prop} (h : Q (a0 :: a1 :: a2 :: a3 :: a4 :: a5 :: some v :: r) H) : gName 6 v (a0 :: a1 :: a2 :: a3 :: a4 :: a5 :: c :: r) H Q := h
theorem x_v7 {a0 a1 a2 a3 a4 a5 a6 : Option V} {v : V} {r : L2.St} {H : Hp} {Q : VK} (h : Q v H) : tVar 7 (a0 :: a1 :: a2 :: a3 :: a4 :: a5 :: a6 :: some v :: r) H Q := ⟨v, rfl, h⟩
theorem x_g7 {a0 a1 a2 a3 a4 a5 a6 : Option V} {v : V} {c : Option V} {r : L2.St} {H : Hp} {Q : L2.St → Hp → Prop} (h : Q (a0 :: a1 :: a2 :: a3 :: a4 :: a5 :: a6 :: some v :: r) H) : gName 7 v (a0 :: a1 :: a2 :: a3 :: a4 :: a5 :: a6 :: c :: r) H Q := h
theorem x_v8 {a0 a1 a2 a3 a4 a5 a6 a7 : Option V} {v : V} {r : L2.St} {H : Hp} {Q : VK} (h : Q v H) : tVar 8 (a0 :: a1 :: a2 :: a3 :: a4 :: a5 :: a6 :: a7 :: some v :: r) H Q := ⟨v, rfl, h⟩
theorem x_g8 {a0 a1 a2 a3 a4 a5 a6 a7 : Option V} {v : V} {c : Option V} {r : L2.St} {H : Hp} {Q : L2.St → Hp → Prop} (h : Q (a0 :: a1 :: a2 :: a3 :: a4 :: a5 :: a6 :: a7 :: some v :: r) H) : gName 8 v (a0 :: a1 :: a2 :: a3 :: a4 :: a5 :: a6 :: a7 :: c :: r) H Q := h
theorem x_v9 {a0 a1 a2 a3 a4 a5 a6 a7 a8 : Option V} {v : V} {r : L2.St} {H : Hp} {Q : VK} (h : Q v H) : tVar 9 (a0 :: a1 :: a2 :: a3 :: a4 :: a5 :: a6 :: a7 :: a8 :: some v :: r) H Q := ⟨v, rfl, h⟩
theorem x_g9 {a0 a1 a2 a3 a4 a5 a6 a7 a8 : Option V} {v : V} {c : Option V} {r : L2.St} {H : Hp} {Q : L2.St → Hp → Prop} (h : Q (a0 :: a1 :: a2 :: a3 :: a4 :: a5 :: a6 :: a7 :: a8 :: some v :: r) H) : gName 9 v (a0 :: a1 :: a2 :: a3 :: a4 :: a5 :: a6 :: a7 :: a8 :: c :: r) H Q := h
theorem x_v10 {a0 a1 a2 a3 a4 a5 a6 a7 a8 a9 : Option V} {v : V} {r : L2.St} {H : Hp} {Q : VK} (h : Q v H) : tVar 10 (a0 :: a1 :: a2 :: a3 :: a4 :: a5 :: a6 :: a7 :: a8 :: a9 :: some v :: r) H Q := ⟨v, rfl, h⟩
theorem x_g10 {a0 a1 a2 a3 a4 a5 a6 a7 a8 a9 : Option V} {v : V} {c : Option V} {r : L2.St} {H : Hp} {Q : L2.St → Hp → Prop} (h : Q (a0 :: a1 :: a2 :: a3 :: a4 :: a5 :: a6 :: a7 :: a8 :: a9 :: some v :: r) H) : gName 10 v (a0 :: a1 :: a2 :: a3 :: a4 :: a5 :: a6 :: a7 :: a8 :: a9 :: c :: r) H Q := h
theorem x_v11 {a0 a1 a2 a3 a4 a5 a6 a7 a8 a9 a10 : Option V} {v : V} {r : L2.St} {H : Hp} {Q : VK} (h : Q v H) : tVar 11 (a0 :: a1 :: a2 :: a3 :: a4 :: a5 :: a6 :: a7 :: a8 :: a9 :: a10 :: some v :: r) H Q := ⟨v, rfl, h⟩
theorem x_g11 {a0 a1 a2 a3 a4 a5 a6 a7 a8 a9 a10 : Option V} {v : V} {c : Option V} {r : L2.St} {H : Hp} {Q : L2.St → Hp → Prop} (h : Q (a0 :: a1 :: a2 :: a3 :: a4 :: a5 :: a6 :: a7 :: a8 :: a9 :: a10 :: some v :: r) H) : gName 11 v (a0 :: a1 :: a2 :: a3 :: a4 :: a5 :: a6 :: a7 :: a8 :: a9 :: a10 :: c :: r) H Q := h


/-! ### loops over lists, by what is behind and ahead -/
section
variable {K : PySem.W.Frag} {a : Addr} {α : Type} {f : α → V} {ys : List α} {g : TG} {tb : TS} {σ : L2.St} {H : Hp} {nx : L2.St → Hp → Prop} {rt : VK}
theorem getElem?_split {ys : List α} {i : Nat} {x : α} (h : ys[i]? = some x) : ys = ys.take i ++ x :: ys.drop (i + 1) := by
  obtain ⟨hi, e⟩ := List.getElem?_eq_some_iff.mp h
  subst e
  rw [List.getElem_cons_drop, List.take_append_drop]
theorem take_snoc {ys : List α} {i : Nat} {x : α} (h : ys[i]? = some x) : ys.take (i + 1) = ys.take i ++ [x] := by
  rw [List.take_add_one, h]; rfl
theorem for_map (f : α → V) (ys : List α) (Pv : List α → L2.St → Hp → Prop) (h0 : Pv [] σ H) (hl : ∀ pre post σ H, ys = pre ++ post → Pv pre σ H → SqL K H a (ys.map f))
    (hs : ∀ pre x post σ H, ys = pre ++ x :: post → Pv pre σ H → g (f x) σ H fun σ2 H2 => tb ⟨Pv (pre ++ [x]), rt, nx, Pv (pre ++ [x])⟩ σ2 H2) (hd : ∀ σ H, Pv ys σ H → nx σ H) :
    ∃ W : Nat → Nat → L2.St → Hp → Prop, (∃ m, W 0 m σ H) ∧ ∀ i m σ H, W i m σ H →
      ((Itl K a).stop i H ∧ nx σ H) ∨ ((Itl K a).go i H ∧ ∃ N : L2.St → Hp → Prop, (∀ σ' H', N σ' H' → ∃ m', m' < m ∧ W (i + 1) m' σ' H') ∧ ∀ x H', (Itl K a).yld i H x H' → g x σ H' fun σ2 H2 => tb ⟨N, rt, nx, N⟩ σ2 H2) := by
  refine for_list (D := ⟨nx, rt, nx, nx⟩) (xs := ys.map f) (fun i σ H => Pv (ys.take i) σ H) h0 (fun i σ H _ q => hl _ (ys.drop i) σ H (List.take_append_drop i ys).symm q) (fun i x σ H hx q => ?_) fun σ H q => hd σ H ?_
  · rw [List.getElem?_map] at hx
    cases e : ys[i]? with
    | none => rw [e] at hx; cases hx
    | some y =>
      rw [e] at hx
      cases hx
      have := hs _ y _ σ H (getElem?_split e) q
      rw [← take_snoc e] at this
      exact this
  · have e : ys.take (ys.map f).length = ys := by rw [List.length_map, List.take_length]
    exact e ▸ q
theorem for_rng {lo : Int} {n : Nat} (Pv : Nat → L2.St → Hp → Prop) (h0 : Pv 0 σ H)
    (hs : ∀ i σ H, i < n → Pv i σ H → g (.int (lo + i)) σ H fun σ2 H2 => tb ⟨Pv (i + 1), rt, nx, Pv (i + 1)⟩ σ2 H2) (hd : ∀ σ H, Pv n σ H → nx σ H) :
    ∃ W : Nat → Nat → L2.St → Hp → Prop, (∃ m, W 0 m σ H) ∧ ∀ i m σ H, W i m σ H →
      ((Itr lo n).stop i H ∧ nx σ H) ∨ ((Itr lo n).go i H ∧ ∃ N : L2.St → Hp → Prop, (∀ σ' H', N σ' H' → ∃ m', m' < m ∧ W (i + 1) m' σ' H') ∧ ∀ x H', (Itr lo n).yld i H x H' → g x σ H' fun σ2 H2 => tb ⟨N, rt, nx, N⟩ σ2 H2) :=
  for_range (D := ⟨nx, rt, nx, nx⟩) Pv h0 hs hd
/-- for i, x in enumerate(xs): the pair at T -/
theorem for_enum (f : α → V) (ys : List α) (Pv : List α → L2.St → Hp → Prop) (h0 : Pv [] σ H) (hl : ∀ pre post σ H, ys = pre ++ post → Pv pre σ H → SqL K H a (ys.map f))
    (hs : ∀ pre x post T σ H, ys = pre ++ x :: post → Pv pre σ H → H T = none → g (.ref T) σ (upd H T (.tup [.int (pre.length : Nat), f x])) fun σ2 H2 => tb ⟨Pv (pre ++ [x]), rt, nx, Pv (pre ++ [x])⟩ σ2 H2) (hd : ∀ σ H, Pv ys σ H → nx σ H) :
    ∃ W : Nat → Nat → L2.St → Hp → Prop, (∃ m, W 0 m σ H) ∧ ∀ i m σ H, W i m σ H →
      ((Ite K a).stop i H ∧ nx σ H) ∨ ((Ite K a).go i H ∧ ∃ N : L2.St → Hp → Prop, (∀ σ' H', N σ' H' → ∃ m', m' < m ∧ W (i + 1) m' σ' H') ∧ ∀ x H', (Ite K a).yld i H x H' → g x σ H' fun σ2 H2 => tb ⟨N, rt, nx, N⟩ σ2 H2) := by
  refine ⟨fun i m σ H => m = ys.length - i ∧ i ≤ ys.length ∧ Pv (ys.take i) σ H, ⟨ys.length, by simp, Nat.zero_le _, h0⟩, ?_⟩
  rintro i m σ H ⟨rfl, hi, p⟩
  have q := hl _ (ys.drop i) σ H (List.take_append_drop i ys).symm p
  by_cases hlt : i < ys.length
  · have hx : ys[i]? = some ys[i] := List.getElem?_eq_getElem hlt
    refine .inr ⟨⟨ys.map f, f ys[i], q, by rw [List.getElem?_map, hx]; rfl⟩, Pv (ys.take (i + 1)), fun σ' H' p' => ⟨ys.length - (i + 1), by omega, rfl, hlt, p'⟩, fun v H' y => ?_⟩
    obtain ⟨T, x, rfl, hT, rfl, y⟩ := y
    have hxe := y _ q
    rw [List.getElem?_map, hx] at hxe
    cases hxe
    have := hs _ _ _ T σ H (getElem?_split hx) p hT
    rw [← take_snoc hx, List.length_take, Nat.min_eq_left hi] at this
    exact this
  · have e : i = ys.length := by omega
    subst e
    rw [List.take_length] at p
    exact .inl ⟨⟨ys.map f, q, by simp⟩, hd σ H p⟩
/-- {.. for x in xs ..} -/
theorem dc_map (f : α → V) (ys : List α) {tt : TT} {tk tv : TE} {vs : List Nat} {H1 : Hp} {D : Addr} {Qd : Hp → Prop} (Pv : List α → Hp → Prop) (h0 : Pv [] (upd H1 D (.dK []))) (hl : ∀ pre post H, ys = pre ++ post → Pv pre H → SqL K H a (ys.map f))
    (hs : ∀ pre x post H, ys = pre ++ x :: post → Pv pre H → g (f x) (wipe σ vs) H fun σ2 H2 => wipe σ2 vs = wipe σ vs ∧ tt σ2 H2 fun b H3 =>
      if b = true then tk σ2 H3 fun y H4 => tv σ2 H4 fun z H5 => ∃ kvs k, y = kV k ∧ H5 D = some (.dK kvs) ∧ kvs.length < sizeLine ∧ Pv (pre ++ [x]) (upd H5 D (.dK (putK kvs k z))) else Pv (pre ++ [x]) H3) (hd : ∀ H, Pv ys H → Qd H) :
    ∃ W : Nat → Nat → Hp → Prop, (∃ m, W 0 m (upd H1 D (.dK []))) ∧ ∀ i m H, W i m H →
      ((Itl K a).stop i H ∧ Qd H) ∨ ((Itl K a).go i H ∧ ∃ Nx : Hp → Prop, (∀ H', Nx H' → ∃ m', m' < m ∧ W (i + 1) m' H') ∧ ∀ x H', (Itl K a).yld i H x H' → g x (wipe σ vs) H' fun σ2 H2 => wipe σ2 vs = wipe σ vs ∧ tt σ2 H2 fun b H3 =>
        if b = true then tk σ2 H3 fun y H4 => tv σ2 H4 fun z H5 => ∃ kvs k, y = kV k ∧ H5 D = some (.dK kvs) ∧ kvs.length < sizeLine ∧ Nx (upd H5 D (.dK (putK kvs k z))) else Nx H3) := by
  refine ⟨fun i m H => m = ys.length - i ∧ i ≤ ys.length ∧ Pv (ys.take i) H, ⟨ys.length, by simp, Nat.zero_le _, h0⟩, ?_⟩
  rintro i m H ⟨rfl, hi, p⟩
  have q := hl _ (ys.drop i) H (List.take_append_drop i ys).symm p
  by_cases hlt : i < ys.length
  · have hx : ys[i]? = some ys[i] := List.getElem?_eq_getElem hlt
    refine .inr ⟨⟨ys.map f, f ys[i], q, by rw [List.getElem?_map, hx]; rfl⟩, Pv (ys.take (i + 1)), fun H' p' => ⟨ys.length - (i + 1), by omega, rfl, hlt, p'⟩, fun v H' y => ?_⟩
    obtain ⟨rfl, y⟩ := y
    have hxe := y _ q
    rw [List.getElem?_map, hx] at hxe
    cases hxe
    have := hs _ _ _ _ (getElem?_split hx) p
    rw [← take_snoc hx] at this
    exact this
  · have e : i = ys.length := by omega
    subst e
    rw [List.take_length] at p
    exact .inl ⟨⟨ys.map f, q, by simp⟩, hd H p⟩
end
/-! ### heaps -/
theorem Same.new {H0 H : Hp} {p : Addr} {o : HO} (s : Same H0 H) (h : H p = none) : Same H0 (upd H p o) := fun b u e => by
  rw [upd_ne (ne_of_none (s b u e) h)]; exact s b u e
theorem Same.mut {H0 H : Hp} {p : Addr} {o : HO} (s : Same H0 H) (h : H0 p = none) : Same H0 (upd H p o) := fun b u e => by
  rw [upd_ne (ne_of_none e h)]; exact s b u e
theorem sq_new {K : PySem.W.Frag} {H : Hp} {a p : Addr} {o : HO} {xs : List V} (h : SqL K H a xs) (n : H p = none) : SqL K (upd H p o) a xs := Same.seq (Same.new (Same.refl H) n) h
/-! ### a dict with int keys -/
theorem nodup_len {α : Type} [DecidableEq α] : ∀ {l m : List α}, l.Nodup → (∀ x ∈ l, x ∈ m) → l.length ≤ m.length
  | [], _, _, _ => Nat.zero_le _
  | a :: l, m, h, s => by
    have ha : a ∈ m := s a (by simp)
    have h2 := List.nodup_cons.mp h
    have ih := nodup_len (l := l) (m := m.erase a) h2.2 fun x hx => (List.mem_erase_of_ne (show x ≠ a from fun e => h2.1 (by rw [← e]; exact hx))).mpr (s x (List.mem_cons_of_mem _ hx))
    rw [List.length_erase_of_mem ha] at ih
    have := List.length_pos_of_mem ha
    rw [List.length_cons]
    omega
theorem any_mem : ∀ (l : List Int) (k : Int), (l.any fun y => decide (y = k)) = decide (k ∈ l)
  | [], k => by simp
  | b :: r, k => by
    rw [List.any_cons, any_mem r k, Bool.eq_iff_iff]
    simp only [Bool.or_eq_true, decide_eq_true_eq, List.mem_cons]
    exact ⟨fun q => q.imp Eq.symm id, fun q => q.imp Eq.symm id⟩
theorem keys_put {kvs : List (Key × V)} {ks : List Int} (h : kvs.map (·.1) = ks.map Sum.inl) (k : Int) (v : V) : (putK kvs (Sum.inl k) v).map (·.1) = (if k ∈ ks then ks else ks ++ [k]).map Sum.inl := by
  have ha : (kvs.any fun kv => decide (kv.1 = (Sum.inl k : Key))) = decide (k ∈ ks) := by
    have e : (kvs.any fun kv => decide (kv.1 = (Sum.inl k : Key))) = (kvs.map (·.1)).any fun y => decide (y = (Sum.inl k : Key)) := by rw [List.any_map]; rfl
    rw [e, h, List.any_map]
    have : ((fun y => decide (y = (Sum.inl k : Key))) ∘ Sum.inl) = fun y : Int => decide (y = k) := by
      funext y
      show decide ((Sum.inl y : Key) = Sum.inl k) = decide (y = k)
      by_cases q : y = k
      · subst q; simp
      · rw [decide_eq_false q, decide_eq_false fun z => q (Sum.inl.inj z)]
    rw [this]
    exact any_mem ks k
  unfold putK
  rw [ha]
  by_cases hk : k ∈ ks
  · rw [if_pos (by simpa using hk), if_pos hk, List.map_map, ← h]
    refine List.map_congr_left fun q _ => ?_
    show (if q.1 = Sum.inl k then (q.1, v) else q).1 = q.1
    split <;> rfl
  · rw [if_neg (by simpa using hk), if_neg hk, List.map_append, List.map_append, h]
    rfl
theorem valV_keys {kvs : List (Key × V)} {ks : List Int} (h : kvs.map (·.1) = ks.map Sum.inl) (k : Int) : (valV kvs (Sum.inl k)).isSome = decide (k ∈ ks) := by
  rw [← valV_any]
  have e : (kvs.any fun kv => decide (kv.1 = (Sum.inl k : Key))) = (kvs.map (·.1)).any fun y => decide (y = (Sum.inl k : Key)) := by rw [List.any_map]; rfl
  rw [e, h, List.any_map]
  have : ((fun y => decide (y = (Sum.inl k : Key))) ∘ Sum.inl) = fun y : Int => decide (y = k) := by
    funext y
    show decide ((Sum.inl y : Key) = Sum.inl k) = decide (y = k)
    by_cases q : y = k
    · subst q; simp
    · rw [decide_eq_false q, decide_eq_false fun z => q (Sum.inl.inj z)]
  rw [this]
  exact any_mem ks k
theorem nodup_put {ks : List Int} (h : ks.Nodup) (k : Int) : (if k ∈ ks then ks else ks ++ [k]).Nodup := by
  split
  · exact h
  · rename_i n
    rw [List.nodup_append]
    exact ⟨h, by simp, fun a ha b hb => by rw [List.mem_singleton.mp hb]; exact fun e => n (e ▸ ha)⟩
theorem mem_put {ks : List Int} (k x : Int) : x ∈ (if k ∈ ks then ks else ks ++ [k]) ↔ x ∈ ks ∨ x = k := by
  split
  · exact ⟨.inl, fun q => q.elim id fun e => e ▸ by assumption⟩
  · simp
theorem length_of_keys {kvs : List (Key × V)} {ks : List Int} (h : kvs.map (·.1) = ks.map Sum.inl) : kvs.length = ks.length := by
  have := congrArg List.length h
  simpa using this
/-! ### lists of ints compared -/
theorem lay_ints : ∀ ns : List Int, PyData.canLayAll0 (ns.map PyData.int) = true
  | [] => by simp [PyData.canLayAll0]
  | n :: r => by simp [PyData.canLayAll0, PyData.canLay0, lay_ints r]
theorem depth_ints : ∀ ns : List Int, PyData.depthAll (ns.map PyData.int) = 0
  | [] => by simp [PyData.depthAll]
  | n :: r => by simp [PyData.depthAll, PyData.depth, depth_ints r]
theorem shaped_ints (ns : List Int) : SeqAt.shaped (.list (ns.map PyData.int)) = true := by
  unfold SeqAt.shaped
  simp [PyData.canLay0, lay_ints, PyData.depth, depth_ints]
theorem dp_ints {K : PySem.W.Frag} {H : Hp} : ∀ ns : List Int, DpAll K H (ns.map V.int) (ns.map PyData.int)
  | [] => .nil
  | n :: r => .cons (.int n) (dp_ints r)
theorem eqv_ints : ∀ ns ms : List Int, PyData.eqvAll (ns.map PyData.int) (ms.map PyData.int) = decide (ns = ms)
  | [], [] => by simp [PyData.eqvAll]
  | [], _ :: _ => by simp [PyData.eqvAll]
  | _ :: _, [] => by simp [PyData.eqvAll]
  | n :: r, m :: q => by
    rw [List.map_cons, List.map_cons, PyData.eqvAll, eqv_ints r q, PyData.eqv, Bool.eq_iff_iff]
    simp
theorem x_eqI {K : PySem.W.Frag} {H : Hp} {Q : VK} {a b : Addr} {ns ms : List Int} (s : SqL K H a (ns.map V.int)) (t : SqL K H b (ms.map V.int)) (h : Q (.bl (decide (ns = ms))) H) : rEqD K (.ref a) (.ref b) H Q :=
  ⟨_, _, .lst s (dp_ints ns), .lst t (dp_ints ms), shaped_ints ns, shaped_ints ms, by rw [PyData.eqv, eqv_ints]; exact h⟩
theorem x_neI {K : PySem.W.Frag} {H : Hp} {Q : VK} {a b : Addr} {ns ms : List Int} (s : SqL K H a (ns.map V.int)) (t : SqL K H b (ms.map V.int)) (h : Q (.bl (!decide (ns = ms))) H) : rNeD K (.ref a) (.ref b) H Q :=
  ⟨_, _, .lst s (dp_ints ns), .lst t (dp_ints ms), shaped_ints ns, shaped_ints ms, by rw [PyData.eqv, eqv_ints]; exact h⟩
/-! ### the draws of a law -/
/-- the pool at p: a cell, a seed -/
def PoolAt (H : Hp) (p : Addr) : Prop := ∃ c s : Int, H p = some (.lst [.int c, .int s]) ∧ 0 ≤ s ∧ s < 2147483647
/-- only what stands at p may have changed -/
def But (p : Addr) (H H' : Hp) : Prop := ∀ b, b ≠ p → H' b = H b
theorem But.upd {p : Addr} {H : Hp} {o : HO} : But p H (upd H p o) := fun _ h => upd_ne h
theorem But.at {p b : Addr} {H H' : Hp} {o : Option HO} (k : But p H H') (h : H b = o) (n : b ≠ p) : H' b = o := (k b n).trans h
theorem But.same {p : Addr} {H0 H H' : Hp} (k : But p H H') (s : Same H0 H) (n : H0 p = none) : Same H0 H' := fun b o e => (k b (ne_of_none e n)).trans (s b o e)
def sp_draw : Sp := fun vs H Q _ => ∃ (p : Addr) (n c s : Int), vs = [.ref p, .int n] ∧ 0 < n ∧ n < 1073741824 ∧ H p = some (.lst [.int c, .int s]) ∧ 0 ≤ s ∧ s < 2147483647 ∧
  ∀ d c' s' : Int, 0 ≤ d → d < n → 0 ≤ s' → s' < 2147483647 → Q (.int d) (upd H p (.lst [.int c', .int s']))
theorem x_draw {H : Hp} {Q : VK} {E : XK} {p : Addr} {n : Int} (P : PoolAt H p) (n0 : 0 < n) (n1 : n < 1073741824) (h : ∀ (d : Int) (H' : Hp), 0 ≤ d → d < n → PoolAt H' p → But p H H' → Q (.int d) H') : sp_draw ([V.ref p, .int n] ++ []) H Q E := by
  obtain ⟨c, s, e, s0, s1⟩ := P
  exact ⟨p, n, c, s, rfl, n0, n1, e, s0, s1, fun d c' s' d0 d1 z0 z1 => h d _ d0 d1 ⟨c', s', upd_same, z0, z1⟩ But.upd⟩
def sp_pool (K : PySem.W.Frag) : Sp := fun vs H Q _ => ∃ (a : Addr) (ns : List Int) (k : Int), vs = [.ref a, .int k] ∧ SqL K H a (ns.map V.int) ∧ 0 ≤ k ∧ k < 1000 ∧
  ∀ (p : Addr) (c s : Int), H p = none → 0 ≤ s → s < 2147483647 → Q (.ref p) (upd H p (.lst [.int c, .int s]))
theorem x_pool {K : PySem.W.Frag} {H : Hp} {Q : VK} {E : XK} {a : Addr} {k : Int} {ns : List Int} (S : SqL K H a (ns.map V.int)) (k0 : 0 ≤ k) (k1 : k < 1000) (h : ∀ (p : Addr) (H' : Hp), H p = none → PoolAt H' p → But p H H' → Q (.ref p) H') : sp_pool K ([V.ref a, .int k] ++ []) H Q E :=
  ⟨a, ns, k, rfl, S, k0, k1, fun p c s hp s0 s1 => h p _ hp ⟨c, s, upd_same, s0, s1⟩ But.upd⟩
theorem PoolAt.new {p q : Addr} {H : Hp} {o : HO} (h : PoolAt H p) (n : H q = none) : PoolAt (L2.upd H q o) p := by
  obtain ⟨c, s, e, z⟩ := h
  exact ⟨c, s, by rw [upd_ne (ne_of_none e n)]; exact e, z⟩
theorem PoolAt.mut {p q : Addr} {H : Hp} {o : HO} (h : PoolAt H p) (n : p ≠ q) : PoolAt (L2.upd H q o) p := by
  obtain ⟨c, s, e, z⟩ := h
  exact ⟨c, s, by rw [upd_ne n]; exact e, z⟩
theorem PoolAt.sees {p : Addr} {H H' : Hp} (h : PoolAt H p) (s : Same H H') : PoolAt H' p := by
  obtain ⟨c, z, e, y⟩ := h
  exact ⟨c, z, s _ _ e, y⟩
theorem PoolAt.ne {p q : Addr} {H : Hp} (h : PoolAt H p) (n : H q = none) : p ≠ q := by
  obtain ⟨c, s, e, z⟩ := h
  exact ne_of_none e n
/-! ### steps that call for these -/
theorem x_dc {wi : TI} {g : TG} {tt : TT} {tk tv : TE} {vs : List Nat} {σ : L2.St} {H : Hp} {Q : VK} (h : wi σ H fun J H1 => ∀ D, H1 D = none → ∃ W : Nat → Nat → Hp → Prop, (∃ m, W 0 m (upd H1 D (.dK []))) ∧ ∀ i m H, W i m H →
  (J.stop i H ∧ Q (.ref D) H) ∨ (J.go i H ∧ ∃ Nx : Hp → Prop, (∀ H', Nx H' → ∃ m', m' < m ∧ W (i + 1) m' H') ∧ ∀ x H', J.yld i H x H' → g x (wipe σ vs) H' fun σ2 H2 => wipe σ2 vs = wipe σ vs ∧ tt σ2 H2 fun b H3 =>
    if b = true then tk σ2 H3 fun y H4 => tv σ2 H4 fun z H5 => ∃ kvs k, y = kV k ∧ H5 D = some (.dK kvs) ∧ kvs.length < sizeLine ∧ Nx (upd H5 D (.dK (putK kvs k z))) else Nx H3)) : tDc wi g tt tk tv vs σ H Q := h
theorem x_ienum {K : PySem.W.Frag} {ta : TA} {σ : L2.St} {H : Hp} {R} (h : ta σ H fun vs H1 => ∃ a xs, vs = [.ref a] ∧ SqL K H1 a xs ∧ R (Ite K a) H1) : iEnum K ta σ H R := h
theorem x_ienumE {K : PySem.W.Frag} {a : Addr} {xs : List V} {H : Hp} {R : Addr → Prop} (s : SqL K H a xs) (h : R a) : ∃ (b : Addr) (xs : List V), [V.ref a] = [.ref b] ∧ SqL K H b xs ∧ R b := ⟨a, xs, rfl, s, h⟩
theorem x_gtup {K : PySem.W.Frag} {n : Nat} {t : TGs} {p : Addr} {xs : List V} {σ : L2.St} {H : Hp} {Q : L2.St → Hp → Prop} (s : SqT K H p xs) (l : xs.length = n) (h : t xs σ H Q) : gTup K n t (.ref p) σ H Q := ⟨p, xs, rfl, s, l, h⟩
theorem x_gcons {t : TG} {u : TGs} {v : V} {r : List V} {σ : L2.St} {H : Hp} {Q : L2.St → Hp → Prop} (h : t v σ H fun σ' H' => u r σ' H' Q) : gCons t u (v :: r) σ H Q := ⟨v, r, rfl, h⟩
theorem x_gnil {σ : L2.St} {H : Hp} {Q : L2.St → Hp → Prop} (h : Q σ H) : gNil [] σ H Q := ⟨rfl, h⟩

/-! ### a def of the module, as its callers need it -/
structure Cl (P : Program) (w : World) (K : PySem.W.Frag) (mg : Str → Option Value) (base : Heap) (x : Str) (ps : List Str) (k : Nat) (sp : Sp) : Prop where
  ex : ∃ fd, FnOk P w K mg base CX0 k (He.ga K x) fd ps sp ∧ Binds K fd ps []
  kp : PySem.W.keepIn K (.ref (He.ga K x)) = true
  g : mg x = some (.ref (He.ga K x))
theorem pe_cl {X : Cx} {k : Nat} {ps : List Str} {sp : Sp} {x : Str} {p pos : Pos} {e : Expr} {es : List Expr} {t : TA} (C : Cl X.prog X.w X.K X.mg X.base x ps k sp) (hr : Room k X.A) (hg : Gl X x)
    (ha : PA X (e :: es) t) (hdb : (x == ("__debug__" : Str)) = false := by decide) (he : starEach (e :: es) X.env = (false, eval e X.env) :: starEach es X.env := by rfl) (hpl : (backTo pos (starEach es X.env)).any (·.1) = false := by rfl) :
    PE X (.Call (.Name x p) (e :: es) [] pos) (tCall sp [] E0 t) := by
  obtain ⟨fd, F, b⟩ := C.ex
  exact pe_call F hr hg C.g C.kp b .nil pass0 ha hdb he hpl
section
variable {X : Cx}
/-- y = {..: .. for ..}, stored within the block's frame -/
theorem ps_setDc {i : Nat} {y : Str} {py : Pos} {kx vx tg iter : Expr} {ifs : List Expr} {scope : Scope} {own : List (Str × Nat)} {pos spos : Pos} {wi : TI} {g : TG} {tt : TT} {tk tv : TE} (hc : X.calm = true) (hN : X.N.Nodup) (hy : X.N[i]? = some y) (hyl : X.env.scope.names.lookup y = some .local)
    (hsw : swapsWith (.DictComp kx vx [⟨tg, iter, ifs, 0⟩] scope pos) (some (.Name y py)) spos.line X.env = pure true) (hi : PI X tg iter wi) (ok : BlkOk X.N X.env.scope scope own)
    (hg : ∀ (s : Shared) (H : Hp) (C : Addr) (cl : List (Str × Addr)) (fp : List Addr), PG (X.blk s H scope (compEnvC scope cl C X.env) fp) tg g) (ht : ∀ (s : Shared) (H : Hp) (C : Addr) (cl : List (Str × Addr)) (fp : List Addr), PTs (X.blk s H scope (compEnvC scope cl C X.env) fp) ifs tt)
    (hk : ∀ (s : Shared) (H : Hp) (C : Addr) (cl : List (Str × Addr)) (fp : List Addr), PE (X.blk s H scope (compEnvC scope cl C X.env) fp) kx tk)
    (he : ∀ (s : Shared) (H : Hp) (C : Addr) (cl : List (Str × Addr)) (fp : List Addr), PE (X.blk s H scope (compEnvC scope cl C X.env) fp) vx tv) (hs : ∀ x, foldedSetIterable iter X.env x = pure x := by intro _; rfl) :
    PS X (.Assign [.Name y py] (.DictComp kx vx [⟨tg, iter, ifs, 0⟩] scope pos) spos) (tAsg (tDc wi g tt tk tv (own.map (·.2))) (gName i)) := by
  refine ⟨fun pins s σ H D I h => ?_⟩
  rw [exec_Assign_Name_used _ _ _ _ hsw]
  refine wpAny_bind (wpAny_standAt (wpAny_bind ?_))
  show wpAny _ X.A (do let _ ← comprehension (.DictComp kx vx [⟨tg, iter, ifs, 0⟩] scope pos) scope X.env (firstIterPos [⟨tg, iter, ifs, 0⟩] pos) newDict false (eval iter X.env) (some (assign (.Name y py) X.env))) _ _ s
  have h : tDc wi g tt tk tv (own.map (·.2)) σ H (fun x H1 => gName i x σ H1 D.nx) := h
  refine wpAny_bind (thn (dc_core (Qf := fun _ s' => SP X pins D .next s') hc hN I hi ok hg ht hk he hs h fun L C s' m H' I' q hn f => ?_) fun _ s' hq => wpAny_pure (wpAny_pure hq))
  show wpAny _ _ (assign (.Name y py) X.env (.ref L)) _ _ _
  refine wpAny_assign_Name (store_ok2 (v := V.ref L) I' hN hy (.inl hyl) rfl (fun s2 I2 ⟨a, sb, ha⟩ => ?_) (.inr hyl))
  obtain ⟨f0, f1, f2, f3, f4, f5⟩ := f
  have haC : C ≠ a := by
    rcases ha with z | z
    · rw [z]; exact f1
    · exact fun e => f4 y a z e.symm
  refine ⟨m, hn.sameBut sb haC, fun h3 sb3 => ?_⟩
  exact ⟨_, H', I2.turned (t' := s2.toks) (fun b o hb e => (sb3.2 b hb).trans e) f0 f1 f3 f4 f5, q⟩
theorem sw_trueD {kx vx : Expr} {gs : List Comprehension} {scope : Scope} {pos py : Pos} {y : Str} {l : Nat} {env : Env} (hk : env.scope.kind = .function) (hy : env.scope.names.lookup y = some .local) (hl : (py.line == pos.line) = true)
    (ha : (scope.names.any fun (n, k) => n == y && (k == .local || k == .cell)) = false) : swapsWith (.DictComp kx vx gs scope pos) (some (.Name y py)) l env = pure true := by
  have ky : env.kindOf y = some .local := hy
  have hb : env.blockKind = .function := by unfold Env.blockKind; rw [hk]; rfl
  unfold swapsWith
  simp only [hb, ky, ha, Expr.pos, hl]
  rfl
end
end My

local macro_rules | `(tactic| walk_at "ne") => `(tactic| first | assumption | (apply Ne.symm; assumption) | exact L2.ne_of_none (by assumption) (by assumption) | exact (L2.ne_of_none (by assumption) (by assumption)).symm)
local macro_rules | `(tactic| walk_at "hp") => `(tactic| first | assumption | exact L2.upd_same | (rw [L2.upd_ne (by walk_at "ne")]; walk_at "hp"))
local macro_rules | `(tactic| walk_at "sq") => `(tactic| first | assumption | exact L2.SqL.of (by walk_at "hp") | exact My.sq_new (by walk_at "sq") (by assumption))
local macro_rules | `(tactic| walk_at "sd") => `(tactic| first | decide | omega | (unfold L2.CDivN; omega) | (unfold L2.CMul; omega) | (unfold L2.CPow; omega))
local macro_rules | `(tactic| walk_at "sx1") => `(tactic| first | with_reducible refine My.x_seq ?_ | with_reducible refine My.x_asg ?_ | with_reducible refine My.x_ret ?_ | with_reducible refine My.x_next ?_ | with_reducible refine My.x_op ?_ | with_reducible refine My.x_c ?_ | with_reducible refine My.x_ifs ?_ | with_reducible refine My.x_test ?_ | with_reducible refine My.x_exbl ?_ | with_reducible refine My.x_cons ?_ | with_reducible refine My.x_nil ?_ | with_reducible refine My.x_cb ?_ | with_reducible refine My.x_drop ?_ | with_reducible refine My.x_par ?_ | with_reducible refine My.x_exp2 ?_ | with_reducible refine My.x_aug ?_ | with_reducible refine My.x_if ?_ | with_reducible refine My.x_tB ?_ | with_reducible refine My.x_and ?_ | with_reducible refine My.x_or ?_ | with_reducible refine My.x_not ?_ | with_reducible refine My.x_retn ?_ | with_reducible refine My.x_cont ?_ | with_reducible refine My.x_brk ?_ | with_reducible refine My.x_un ?_ | with_reducible refine My.x_tfor ?_ | with_reducible refine My.x_ilist ?_ | with_reducible refine My.x_rng1 ?_ | with_reducible refine My.x_rng2 ?_ | with_reducible refine My.x_r1 ?_ | with_reducible refine My.x_call ?_ | with_reducible refine My.x_sl ?_ | with_reducible refine My.x_part ?_ | with_reducible refine My.x_nopart ?_ | with_reducible refine My.x_ii0 ?_ | with_reducible refine My.x_yes ?_ | with_reducible refine My.x_andv ?_ | with_reducible refine My.x_orv ?_ | with_reducible refine My.x_notv ?_ | with_reducible refine My.x_iT ?_ | with_reducible refine My.x_iF ?_ | with_reducible refine My.x_chain ?_ | with_reducible refine My.x_exI ?_ | with_reducible refine My.x_wipe ?_ | with_reducible refine My.x_bm ?_ | with_reducible refine My.x_bm0 ?_ | with_reducible refine My.x_gsub ?_ | with_reducible refine My.x_int1 ?_ | with_reducible refine My.x_two ?_ | with_reducible refine My.x_lst ?_ | with_reducible refine My.x_tup ?_ | with_reducible refine My.x_revL ?_ | with_reducible refine My.x_dput ?_ | with_reducible refine My.x_dget ?_ | with_reducible refine My.x_dnew ?_ | with_reducible refine My.x_dc ?_ | with_reducible refine My.x_lc ?_ | with_reducible refine My.x_ienum ?_ | with_reducible refine My.x_gcons ?_ | with_reducible refine My.x_gnil ?_ | with_reducible refine My.x_v0 ?_ | with_reducible refine My.x_v1 ?_ | with_reducible refine My.x_v2 ?_ | with_reducible refine My.x_v3 ?_ | with_reducible refine My.x_v4 ?_ | with_reducible refine My.x_v5 ?_ | with_reducible refine My.x_v6 ?_ | with_reducible refine My.x_v7 ?_ | with_reducible refine My.x_v8 ?_ | with_reducible refine My.x_v9 ?_ | with_reducible refine My.x_v10 ?_ | with_reducible refine My.x_v11 ?_ | with_reducible refine My.x_v12 ?_ | with_reducible refine My.x_v13 ?_ | with_reducible refine My.x_v14 ?_ | with_reducible refine My.x_v15 ?_ | with_reducible refine My.x_v16 ?_ | with_reducible refine My.x_v17 ?_ | with_reducible refine My.x_v18 ?_ | with_reducible refine My.x_v19 ?_ | with_reducible refine My.x_v20 ?_ | with_reducible refine My.x_v21 ?_ | with_reducible refine My.x_v22 ?_ | with_reducible refine My.x_v23 ?_ | with_reducible refine My.x_v24 ?_ | with_reducible refine My.x_v25 ?_ | with_reducible refine My.x_g0 ?_ | with_reducible refine My.x_g1 ?_ | with_reducible refine My.x_g2 ?_ | with_reducible refine My.x_g3 ?_ | with_reducible refine My.x_g4 ?_ | with_reducible refine My.x_g5 ?_ | with_reducible refine My.x_g6 ?_ | with_reducible refine My.x_g7 ?_ | with_reducible refine My.x_g8 ?_ | with_reducible refine My.x_g9 ?_ | with_reducible refine My.x_g10 ?_ | with_reducible refine My.x_g11 ?_ | with_reducible refine My.x_g12 ?_ | with_reducible refine My.x_g13 ?_ | with_reducible refine My.x_g14 ?_ | with_reducible refine My.x_g15 ?_ | with_reducible refine My.x_g16 ?_ | with_reducible refine My.x_g17 ?_ | with_reducible refine My.x_g18 ?_ | with_reducible refine My.x_g19 ?_ | with_reducible refine My.x_g20 ?_ | with_reducible refine My.x_g21 ?_ | with_reducible refine My.x_g22 ?_ | with_reducible refine My.x_g23 ?_ | with_reducible refine My.x_g24 ?_ | with_reducible refine My.x_g25 ?_)
local macro_rules | `(tactic| walk_at "sx") => `(tactic| repeat (walk_at "sx1"))
local macro_rules | `(tactic| walk_at "ln") => `(tactic| first | assumption | exact Nat.le_of_ble_eq_true rfl | (simp only [List.length_append, List.length_map, List.length_cons, List.length_nil]; simp only [PySem.sizeLine]; omega))
local macro_rules | `(tactic| walk_at "st") => `(tactic| first | assumption | exact L2.SqT.of (by walk_at "hp"))
local macro_rules | `(tactic| walk_at "go1") => `(tactic| first | walk_at "sx1" | ((with_reducible refine' My.x_ixL ?x0 ?x1 ?x2); (case x0 => walk_at "sq"); (case x1 => exact rfl)) | ((with_reducible refine' My.x_ixT ?x0 ?x1 ?x2); (case x0 => walk_at "st"); (case x1 => exact rfl)) | ((with_reducible refine' My.x_i ?x0 ?x1); (case x0 => walk_at "sd")) | ((with_reducible refine' My.x_setL ?x0 ?x1 ?x2); (case x0 => walk_at "hp"); (case x1 => exact rfl)) | ((with_reducible refine' My.x_len ?x0 ?x1); (case x0 => walk_at "sq")) | ((with_reducible refine' My.x_lenT ?x0 ?x1); (case x0 => walk_at "st")) | ((with_reducible refine' My.x_lenD ?x0 ?x1); (case x0 => walk_at "hp")) | ((with_reducible refine' My.x_append ?x0 ?x1 ?x2); (case x0 => walk_at "hp"); (case x1 => walk_at "ln")) | ((with_reducible refine' My.x_tyL ?x0 ?x1); (case x0 => walk_at "hp")) | ((with_reducible refine' My.x_ilistE ?x0 ?x1); (case x0 => walk_at "sq")) | ((with_reducible refine' My.x_ienumE ?x0 ?x1); (case x0 => walk_at "sq")) | ((with_reducible refine' My.x_sortI ?x0 ?x1); (case x0 => walk_at "sq")) | ((with_reducible refine' My.x_slL ?x0 ?x1); (case x0 => walk_at "sq")) | ((with_reducible refine' My.x_revL2 ?x0 ?x1); (case x0 => walk_at "sq")) | ((with_reducible refine' My.x_eq ?x0 ?x1); (case x0 => exact rfl)) | ((with_reducible refine' My.x_ne ?x0 ?x1); (case x0 => exact rfl)) | ((with_reducible refine' My.x_dputI ?x0 ?x1 ?x2); (case x0 => walk_at "hp"); (case x1 => walk_at "ln")) | ((with_reducible refine' My.x_dputS ?x0 ?x1 ?x2); (case x0 => walk_at "hp"); (case x1 => walk_at "ln")) | ((with_reducible refine' My.x_seqof ?x0 ?x1); (case x0 => walk_at "sq")) | ((with_reducible refine' My.x_gtup ?x0 ?x1 ?x2); (case x0 => walk_at "st"); (case x1 => exact rfl)) | ((with_reducible refine' My.x_mem1 ?x0 ?x1); (case x0 => walk_at "ln")))
local macro_rules | `(tactic| walk_at "go") => `(tactic| repeat (walk_at "go1"))

/-! plain lists -/
namespace K67
open L2
/-! ### strictly ascending lists -/
theorem sorted_same : ∀ {l m : List Int}, l.Pairwise (· < ·) → m.Pairwise (· < ·) → (∀ x, x ∈ l ↔ x ∈ m) → l = m
  | [], [], _, _, _ => rfl
  | [], b :: m, _, _, h => absurd ((h b).mpr List.mem_cons_self) (by simp)
  | a :: l, [], _, _, h => absurd ((h a).mp List.mem_cons_self) (by simp)
  | a :: l, b :: m, hl, hm, h => by
    rw [List.pairwise_cons] at hl hm
    have e : a = b := by
      rcases List.mem_cons.mp ((h a).mp List.mem_cons_self) with q | q
      · exact q
      · rcases List.mem_cons.mp ((h b).mpr List.mem_cons_self) with z | z
        · exact z.symm
        · have := hl.1 b z
          have := hm.1 a q
          omega
    subst e
    rw [sorted_same hl.2 hm.2 fun x => ?_]
    constructor
    · intro hx
      rcases List.mem_cons.mp ((h x).mp (List.mem_cons_of_mem _ hx)) with q | q
      · exact absurd (hl.1 x hx) (by omega)
      · exact q
    · intro hx
      rcases List.mem_cons.mp ((h x).mpr (List.mem_cons_of_mem _ hx)) with q | q
      · exact absurd (hm.1 x hx) (by omega)
      · exact q
theorem strict_of {l : List Int} (h : l.Pairwise (· ≤ ·)) (n : l.Nodup) : l.Pairwise (· < ·) :=
  (List.Pairwise.and h n).imp fun {a b} ⟨p, q⟩ => by omega
/-- how many are greater -/
def gt (l : List Int) (x : Int) : Nat := (l.filter fun y => decide (x < y)).length
theorem gt_cons (a : Int) (l : List Int) (x : Int) : gt (a :: l) x = (if x < a then 1 else 0) + gt l x := by
  unfold gt
  by_cases h : x < a
  · rw [List.filter_cons_of_pos (by simp [h]), if_pos h, List.length_cons]; omega
  · rw [List.filter_cons_of_neg (by simp [h]), if_neg h]; omega
theorem gt_le (l : List Int) (x : Int) : gt l x ≤ l.length := List.length_filter_le _ _
theorem gt_lt {l : List Int} {x : Int} (h : x ∈ l) : gt l x < l.length := by
  induction l with
  | nil => cases h
  | cons a l ih =>
    rw [gt_cons, List.length_cons]
    have := gt_le l x
    rcases List.mem_cons.mp h with e | e
    · subst e; rw [if_neg (by omega)]; omega
    · have := ih e
      split <;> omega
theorem gt_all {l : List Int} {x : Int} (h : ∀ y ∈ l, x < y) : gt l x = l.length := by
  unfold gt
  rw [List.filter_eq_self.mpr fun y hy => by simp [h y hy]]
theorem gt_none {l : List Int} {x : Int} (h : ∀ y ∈ l, ¬ x < y) : gt l x = 0 := by
  unfold gt
  rw [List.filter_eq_nil_iff.mpr fun y hy => by simpa using h y hy]
  rfl
theorem gt_perm {l m : List Int} (h : l.Perm m) (x : Int) : gt l x = gt m x := (h.filter _).length_eq
theorem gt_append (l m : List Int) (x : Int) : gt (l ++ m) x = gt l x + gt m x := by
  unfold gt; rw [List.filter_append, List.length_append]
theorem mem_drop {x : Int} : ∀ {l : List Int} (m : Nat), l.Pairwise (· < ·) → (x ∈ l.drop m ↔ x ∈ l ∧ gt l x + m < l.length)
  | [], m, _ => by simp
  | a :: l, 0, h => by
    rw [List.drop_zero]
    exact ⟨fun q => ⟨q, by have := gt_lt q; omega⟩, fun q => q.1⟩
  | a :: l, m + 1, h => by
    rw [List.pairwise_cons] at h
    rw [List.drop_succ_cons, mem_drop m h.2, gt_cons, List.length_cons]
    constructor
    · rintro ⟨p, q⟩
      have := h.1 x p
      exact ⟨List.mem_cons_of_mem _ p, by rw [if_neg (by omega)]; omega⟩
    · rintro ⟨p, q⟩
      rcases List.mem_cons.mp p with e | e
      · subst e
        have := gt_all h.1
        rw [if_neg (by omega)] at q
        omega
      · have := h.1 x e
        rw [if_neg (by omega)] at q
        exact ⟨e, by omega⟩
/-- the last places, at most r of them -/
theorem mem_last {l : List Int} (h : l.Pairwise (· < ·)) {x r : Int} (hr : 0 ≤ r) {m : Nat} (hm : (m : Int) = if 0 < (l.length : Int) - r then (l.length : Int) - r else 0) : x ∈ l.drop m ↔ x ∈ l ∧ (gt l x : Int) < r := by
  rw [mem_drop m h]
  refine and_congr_right fun hx => ?_
  have := gt_lt hx
  split at hm <;> omega
/-! ### periods -/
section
variable (e r n : Int)
/-- the different periods of some clocks -/
def Pers (S Ps : List Int) : Prop := Ps.Nodup ∧ ∀ p, p ∈ Ps ↔ ∃ c ∈ S, c.fdiv e = p
def IsTop (S : List Int) (x : Int) : Prop := ∀ y ∈ S, y.fdiv e = x.fdiv e → y ≤ x
/-- x is kept -/
def Kept (S : List Int) (x : Int) : Prop := x ∈ S ∧ ((gt S x : Int) < r ∨ (IsTop e S x ∧ ∃ Ps, Pers e S Ps ∧ (gt Ps (x.fdiv e) : Int) < n))
end
theorem pers_gt {e : Int} {S Ps Qs : List Int} (h : Pers e S Ps) (k : Pers e S Qs) (x : Int) : gt Ps x = gt Qs x :=
  gt_perm ((List.perm_ext_iff_of_nodup h.1 k.1).mpr fun a => (h.2 a).trans (k.2 a).symm) x
theorem kept_perm {e r n : Int} {S T : List Int} (h : S.Perm T) (x : Int) : Kept e r n S x ↔ Kept e r n T x := by
  unfold Kept IsTop Pers
  simp only [h.mem_iff, gt_perm h]
/-- what is kept, in order: there is one such list -/
def KeptL (e r n : Int) (S L : List Int) : Prop := L.Pairwise (· < ·) ∧ ∀ x, x ∈ L ↔ Kept e r n S x
theorem keptL_same {e r n : Int} {S L M : List Int} (h : KeptL e r n S L) (k : KeptL e r n S M) : L = M :=
  sorted_same h.1 k.1 fun x => (h.2 x).trans (k.2 x).symm
/-! ### the elder way: two dicts -/
/-- what the dict has for a period behind some clocks -/
def lastIn (e : Int) (l : List Int) (p : Int) : Option Int := (l.filter fun c => decide (c.fdiv e = p)).getLast?
theorem lastIn_snoc (e : Int) (l : List Int) (c p : Int) : lastIn e (l ++ [c]) p = if p = c.fdiv e then some c else lastIn e l p := by
  unfold lastIn
  rw [List.filter_append]
  by_cases h : p = c.fdiv e
  · rw [if_pos h, List.filter_cons_of_pos (by simp [h]), List.filter_nil, List.getLast?_append]
    rfl
  · rw [if_neg h, List.filter_cons_of_neg (by simpa using fun q => h q.symm), List.filter_nil, List.append_nil]
theorem lastIn_top {e : Int} : ∀ {l : List Int} {p x : Int}, l.Pairwise (· < ·) → (lastIn e l p = some x ↔ x ∈ l ∧ x.fdiv e = p ∧ IsTop e l x) := by
  intro l p x h
  unfold lastIn
  constructor
  · intro q
    have hm := List.mem_of_getLast? q
    rw [List.mem_filter] at hm
    have hp : x.fdiv e = p := by simpa using hm.2
    refine ⟨hm.1, hp, fun y hy hyp => ?_⟩
    obtain ⟨ys, hys⟩ := List.getLast?_eq_some_iff.mp q
    have hs : (ys ++ [x]).Pairwise (· < ·) := hys ▸ h.filter _
    have hy2 : y ∈ ys ++ [x] := by
      rw [← hys, List.mem_filter]
      exact ⟨hy, by simpa using hyp.trans hp⟩
    rcases List.mem_append.mp hy2 with z | z
    · have := (List.pairwise_append.mp hs).2.2 y z x (by simp)
      omega
    · have := List.mem_singleton.mp z
      omega
  · rintro ⟨hx, hp, ht⟩
    have hm : x ∈ l.filter fun c => decide (c.fdiv e = p) := List.mem_filter.mpr ⟨hx, by simpa using hp⟩
    cases q : (l.filter fun c => decide (c.fdiv e = p)).getLast? with
    | none =>
      rw [List.getLast?_eq_none_iff] at q
      rw [q] at hm
      cases hm
    | some y =>
      obtain ⟨ys, hys⟩ := List.getLast?_eq_some_iff.mp q
      have hs : (ys ++ [y]).Pairwise (· < ·) := hys ▸ h.filter _
      rw [hys] at hm
      have hy : y ∈ l.filter fun c => decide (c.fdiv e = p) := hys ▸ List.mem_append_right _ (by simp)
      rw [List.mem_filter] at hy
      have hyp : y.fdiv e = p := by simpa using hy.2
      have := ht y hy.1 (hyp.trans hp.symm)
      rcases List.mem_append.mp hm with z | z
      · have := (List.pairwise_append.mp hs).2.2 x z y (by simp)
        omega
      · rw [List.mem_singleton.mp z]
/-- the dicts tell what is kept -/
theorem elder_kept {e r n : Int} (hr : 0 ≤ r) (hn : 0 ≤ n) {S Ps L : List Int} (hS : S.Pairwise (· < ·)) (hP : Ps.Pairwise (· < ·)) (hPs : Pers e S Ps) {m k : Nat}
    (hm : (m : Int) = if 0 < (S.length : Int) - r then (S.length : Int) - r else 0) (hk : (k : Int) = if 0 < (Ps.length : Int) - n then (Ps.length : Int) - n else 0)
    (hL : L.Pairwise (· < ·)) (h : ∀ x, x ∈ L ↔ x ∈ S.drop m ∨ ∃ p ∈ Ps.drop k, lastIn e S p = some x) : KeptL e r n S L := by
  refine ⟨hL, fun x => ?_⟩
  rw [h x, mem_last hS hr hm]
  constructor
  · rintro (⟨hx, hg⟩ | ⟨p, hp, hl⟩)
    · exact ⟨hx, .inl hg⟩
    · obtain ⟨hx, hxp, ht⟩ := (lastIn_top hS).mp hl
      rw [mem_last hP hn hk] at hp
      exact ⟨hx, .inr ⟨ht, Ps, hPs, by rw [hxp]; exact hp.2⟩⟩
  · rintro ⟨hx, hg | ⟨ht, Qs, hQ, hg⟩⟩
    · exact .inl ⟨hx, hg⟩
    · refine .inr ⟨x.fdiv e, ?_, (lastIn_top hS).mpr ⟨hx, rfl, ht⟩⟩
      rw [mem_last hP hn hk, pers_gt hPs hQ]
      exact ⟨(hPs.2 _).mpr ⟨x, hx, rfl⟩, hg⟩
theorem dedup_ex : ∀ l : List Int, ∃ m : List Int, m.Nodup ∧ ∀ p, p ∈ m ↔ p ∈ l
  | [] => ⟨[], List.nodup_nil, fun _ => Iff.rfl⟩
  | a :: l => by
    obtain ⟨m, h1, h2⟩ := dedup_ex l
    by_cases h : a ∈ m
    · refine ⟨m, h1, fun p => ?_⟩
      rw [h2, List.mem_cons]
      exact ⟨.inr, fun q => q.elim (fun z => z ▸ (h2 a).mp h) id⟩
    · refine ⟨a :: m, List.nodup_cons.mpr ⟨h, h1⟩, fun p => ?_⟩
      rw [List.mem_cons, List.mem_cons, h2]
/-! ### the law's way: from the greatest on -/
theorem fdiv_mono {e a b : Int} (he : 0 < e) (h : a ≤ b) : a.fdiv e ≤ b.fdiv e := by
  rw [Int.fdiv_eq_ediv_of_nonneg _ (by omega), Int.fdiv_eq_ediv_of_nonneg _ (by omega)]
  exact Int.ediv_le_ediv he h
/-- the test at a clock x with D ahead of it and R behind it: by it, x is kept -/
theorem due_test {e r n : Int} (he : 0 < e) {D R Ks : List Int} {x : Int} (hD : (D ++ x :: R).Pairwise fun a b => b < a) (nd : Ks.Nodup) (ks : ∀ p, p ∈ Ks ↔ ∃ c ∈ D, c.fdiv e = p) :
    Kept e r n (D ++ x :: R) x ↔ ((D.length : Int) < r ∨ (x.fdiv e ∉ Ks ∧ (Ks.length : Int) + 1 ≤ n)) := by
  have hp := List.pairwise_append.mp hD
  have hgt : ∀ y ∈ D, x < y := fun y hy => hp.2.2 y hy x (by simp)
  have hlt : ∀ y ∈ R, y < x := fun y hy => (List.pairwise_cons.mp hp.2.1).1 y hy
  have hg : gt (D ++ x :: R) x = D.length := by
    rw [gt_append, gt_all hgt, gt_cons, if_neg (by omega), gt_none fun y hy => by have := hlt y hy; omega]
    omega
  unfold Kept
  rw [hg]
  have hx : x ∈ D ++ x :: R := by simp
  have htop : IsTop e (D ++ x :: R) x ↔ x.fdiv e ∉ Ks := by
    constructor
    · intro h q
      obtain ⟨c, hc, hce⟩ := (ks _).mp q
      have := h c (List.mem_append_left _ hc) hce
      have := hgt c hc
      omega
    · intro h y hy hye
      rcases List.mem_append.mp hy with z | z
      · exact absurd ((ks _).mpr ⟨y, z, hye⟩) h
      · rcases List.mem_cons.mp z with z | z
        · omega
        · have := hlt y z
          omega
  have hcount : x.fdiv e ∉ Ks → ∀ Ps, Pers e (D ++ x :: R) Ps → gt Ps (x.fdiv e) = Ks.length := by
    intro hnk Ps hPs
    unfold gt
    refine List.Perm.length_eq ((List.perm_ext_iff_of_nodup (hPs.1.filter _) nd).mpr fun p => ?_)
    rw [List.mem_filter, hPs.2 p, ks p]
    constructor
    · rintro ⟨⟨c, hc, hce⟩, hlt2⟩
      have hlt3 : x.fdiv e < p := by simpa using hlt2
      rcases List.mem_append.mp hc with z | z
      · exact ⟨c, z, hce⟩
      · have hcx : c ≤ x := by
          rcases List.mem_cons.mp z with z | z
          · omega
          · have := hlt c z
            omega
        have := fdiv_mono he hcx
        omega
    · rintro ⟨c, hc, hce⟩
      refine ⟨⟨c, List.mem_append_left _ hc, hce⟩, ?_⟩
      have h1 := fdiv_mono he (show x ≤ c by have := hgt c hc; omega)
      have h2 : x.fdiv e ≠ p := fun q => hnk (q ▸ (ks p).mpr ⟨c, hc, hce⟩)
      simp only [decide_eq_true_eq]
      omega
  constructor
  · rintro ⟨_, h | ⟨ht, Ps, hPs, hg2⟩⟩
    · exact .inl h
    · have hnk := htop.mp ht
      rw [hcount hnk Ps hPs] at hg2
      exact .inr ⟨hnk, by omega⟩
  · rintro (h | ⟨hnk, hg2⟩)
    · exact ⟨hx, .inl h⟩
    · refine ⟨hx, .inr ⟨htop.mpr hnk, ?_⟩⟩
      obtain ⟨Ps, h1, h2⟩ := dedup_ex ((D ++ x :: R).map fun c => c.fdiv e)
      have hPs : Pers e (D ++ x :: R) Ps := ⟨h1, fun p => by rw [h2, List.mem_map]⟩
      exact ⟨Ps, hPs, by rw [hcount hnk Ps hPs]; omega⟩
end K67

namespace K67
open PySem PySem.Spec PyProof.Rows L2
def top (i : Nat) : Stmt := PySem.Challenge.pw_livevolumes_k67_clocks_that_are_kept.main.body.getD i (.Pass ⟨0, 0, 0, 0⟩)
abbrev s_kept_clocks : Stmt := top 1
theorem sc_kept_clocks : FnScope ["clocks", "recent", "every", "periods", "clock", "found", "last", "period"] ["clocks", "recent", "every", "periods"] (defScope s_kept_clocks) := ⟨rfl, rfl, rfl, by decide +kernel, rfl, by decide +kernel, by decide +kernel⟩
def d_kept_clocks : He.DefD := ⟨("kept_clocks", none), "kept_clocks", "kept_clocks", defArgs s_kept_clocks, defBody s_kept_clocks, defScope s_kept_clocks, [], []⟩
abbrev s_law_pool : Stmt := top 3
theorem sc_law_pool : FnScope ["_law_script", "_law_k", "_law_cell", "_law_seed"] ["_law_script", "_law_k"] (defScope s_law_pool) := ⟨rfl, rfl, rfl, by decide +kernel, rfl, by decide +kernel, by decide +kernel⟩
def d_law_pool : He.DefD := ⟨("_law_pool", none), "_law_pool", "_law_pool", defArgs s_law_pool, defBody s_law_pool, defScope s_law_pool, [], []⟩
abbrev s_law_draw : Stmt := top 4
theorem sc_law_draw : FnScope ["_law_pool_here", "_law_many", "_law_digit"] ["_law_pool_here", "_law_many"] (defScope s_law_draw) := ⟨rfl, rfl, rfl, by decide +kernel, rfl, by decide +kernel, by decide +kernel⟩
def d_law_draw : He.DefD := ⟨("_law_draw", none), "_law_draw", "_law_draw", defArgs s_law_draw, defBody s_law_draw, defScope s_law_draw, [], []⟩
abbrev s_law_due : Stmt := top 5
theorem sc_law_due : FnScope ["_law_clocks", "_law_recent", "_law_every", "_law_periods", "_law_found", "_law_some", "_law_kinds", "_law_place", "_law_clock", "_law_is_first"] ["_law_clocks", "_law_recent", "_law_every", "_law_periods"] (defScope s_law_due) := ⟨rfl, rfl, rfl, by decide +kernel, rfl, by decide +kernel, by decide +kernel⟩
def d_law_due : He.DefD := ⟨("_law_due", none), "_law_due", "_law_due", defArgs s_law_due, defBody s_law_due, defScope s_law_due, [], []⟩
abbrev s_law : Stmt := top 6
theorem sc_law : FnScope ["_law_script", "_law_k", "_law_pool_here", "_law_turn", "_law_most", "_law_clocks", "_law_place", "_law_clock", "_law_width", "_law_rule", "_law_kept", "_law_found"] ["_law_script"] (defScope s_law) := ⟨rfl, rfl, rfl, by decide +kernel, rfl, by decide +kernel, by decide +kernel⟩
def d_law : He.DefD := ⟨("law", none), "law", "law", defArgs s_law, defBody s_law, defScope s_law, [], []⟩
abbrev Fd (K : PySem.W.Frag) (d : He.DefD) (fd : FuncData) : Prop := FunD K d.name d.qual d.params d.body d.scope (d.dvs K) (d.kws K) (He.fAd K d.at_) fd
structure Tx (mg : Str → Option Value) : Prop where
  n_len : mg "len" = none
  n_int : mg "int" = none
  n_sorted : mg "sorted" = none
  n_max : mg "max" = none
  n_min : mg "min" = none
  n_list : mg "list" = none
  n_range : mg "range" = none
  n_enumerate : mg "enumerate" = none
section
variable {P : Program} {w : World} {K : PySem.W.Frag} {mg : Str → Option Value} {base : Heap}
theorem ok_draw (T : Tx mg) {fd : FuncData} (F : Fd K d_law_draw fd) : FnOk P w K mg base CX0 1 (He.ga K "_law_draw") fd ["_law_pool_here", "_law_many"] My.sp_draw := by
  refine F.ok sc_law_draw (fun vs H Q E h => ?_) (fun cdv A outer s H vs Q E hr h => ?_)
  · obtain ⟨p, n, c, s, rfl, _⟩ := h
    rfl
  · obtain ⟨p, n, c, s, rfl, n0, n1, hp, s0, s1, k⟩ := h
    refine ⟨_, PSs.nox ((pss_cons (ps_if (pt_cmpR op_gt (pe_ix ix_list (pv 0) pe_int (fun _ _ => rfl)) pe_int (nomark _))
  (pss_cons (ps_set (i := 2) sc_law_draw.nd rfl (Or.inl rfl) (pe_op op_modN (pe_callTy call_int1 (by rfl) T.n_int (by decide +kernel) (pa_cons (pe_ix ix_list (pv 0) pe_int (fun _ _ => rfl)) pa_nil)) (pv 1)))
  (pss_cons (ps_asg (pe_op op_fdivN (pe_ix ix_list (pv 0) pe_int (fun _ _ => rfl)) (pv 1)) (pg_sub (pv 0) pe_int set_list))
  (pss_one (ps_ret (pv 2)))))
  pss_nil)
  (pss_cons (ps_asg (pe_op op_modN (pe_callTy call_int1 (by rfl) T.n_int (by decide +kernel) (pa_cons (pe_op op_add (pe_op op_mul (pe_ix ix_list (pv 0) pe_int (fun _ _ => rfl)) pe_int) pe_int) pa_nil)) pe_int) (pg_sub (pv 0) pe_int set_list))
  (pss_one (ps_ret (pe_op op_modN (pe_op op_fdivN (pe_op op_modN (pe_callTy call_int1 (by rfl) T.n_int (by decide +kernel) (pa_cons (pe_op op_mul (pe_ix ix_list (pv 0) pe_int (fun _ _ => rfl)) (pe_ix ix_list (pv 0) pe_int (fun _ _ => rfl))) pa_nil)) pe_int) pe_int) (pv 1))))))), ?_⟩
    refine My.x_start (σ := [some (V.ref p), some (V.int n), none]) rfl ?_
    dsimp only [cxOf, Cx.nox]
    walk_at "go"
    refine My.x_dec (fun hc => ?_) (fun hc => ?_)
    · walk_at "go"
      exact k _ _ _ (Int.fmod_nonneg_of_pos _ n0) (Int.fmod_lt_of_pos _ n0) s0 s1
    · walk_at "go"
      have hm0 := Int.fmod_nonneg_of_pos (s * 48271 + 11) (show (0 : Int) < 2147483647 by decide)
      have hm1 := Int.fmod_lt_of_pos (s * 48271 + 11) (show (0 : Int) < 2147483647 by decide)
      refine My.x_i (.inl ⟨by omega, by omega⟩) ?_
      walk_at "go"
      exact k _ _ _ (Int.fmod_nonneg_of_pos _ n0) (Int.fmod_lt_of_pos _ n0) hm0 hm1
theorem atI_in {ns : List Int} {k : Int} (h0 : 0 ≤ k) (h : k < (ns.length : Int)) : ∃ x, atI (ns.map V.int) k = some (.int x) := by
  obtain ⟨j, rfl⟩ := Int.eq_ofNat_of_zero_le h0
  have hj : j < ns.length := by omega
  exact ⟨ns[j], atI_nat (by rw [List.getElem?_map, List.getElem?_eq_getElem hj]; rfl)⟩
theorem ok_pool (T : Tx mg) {fd : FuncData} (F : Fd K d_law_pool fd) : FnOk P w K mg base CX0 1 (He.ga K "_law_pool") fd ["_law_script", "_law_k"] (My.sp_pool K) := by
  refine F.ok sc_law_pool (fun vs H Q E h => ?_) (fun cdv A outer s H vs Q E hr h => ?_)
  · obtain ⟨a, ns, k, rfl, _⟩ := h
    rfl
  · obtain ⟨a, ns, k, rfl, hS, k0, k1, q⟩ := h
    refine ⟨_, PSs.nox ((pss_cons (ps_set (i := 2) sc_law_pool.nd rfl (Or.inl rfl) pe_int)
  (pss_cons (ps_if (pt_cmpR op_lt (pv 1) (pe_callB call_len_seq (by rfl) T.n_len (by decide +kernel) (pa_cons (pv 0) pa_nil)) (nomark _))
  (pss_one (ps_set (i := 2) sc_law_pool.nd rfl (Or.inl rfl) (pe_ix ix_list (pv 0) (pv 1) (fun _ _ => rfl))))
  pss_nil)
  (pss_cons (ps_set (i := 3) sc_law_pool.nd rfl (Or.inl rfl) (pe_op op_modN (pe_op op_pow (pe_op op_add (pe_op op_add (pe_op op_modN (pe_callTy call_int1 (by rfl) T.n_int (by decide +kernel) (pa_cons (pv 2) pa_nil)) pe_int) (pe_op op_mul (pe_op op_mul pe_int (pv 1)) (pv 1))) pe_int) pe_int) pe_int))
  (pss_cons (ps_if (pt_cmpR op_lt (pv 2) (pe_op op_pow pe_int pe_int) (nomark _))
  (pss_one (ps_set (i := 2) sc_law_pool.nd rfl (Or.inl rfl) pe_int))
  pss_nil)
  (pss_one (ps_ret (pe_lst (pa_cons (pv 2) (pa_cons (pv 3) pa_nil)))))))))), ?_⟩
    refine My.x_start (σ := [some (V.ref a), some (V.int k), none, none]) rfl ?_
    dsimp only [cxOf, Cx.nox]
    have key : ∀ c : Int, 0 ≤ c.fmod 2147483629 ∧ c.fmod 2147483629 < 2147483629 := fun c => ⟨Int.fmod_nonneg_of_pos _ (by decide), Int.fmod_lt_of_pos _ (by decide)⟩
    have kk0 : 0 ≤ 7919 * k * k := Int.mul_nonneg (by omega) k0
    have kk1 : 7919 * k * k ≤ 7919 * 1000 * 1000 := Int.mul_le_mul (by omega) (by omega) k0 (by decide)
    have ends : ∀ c z : Int, 0 ≤ z → z < 2147483647 → ∀ p, H p = none → Q (.ref p) (upd H p (.lst [.int c, .int z])) := fun c z h0 h1 p hp => q p c z hp h0 h1
    have m0 : ∀ z : Int, 0 ≤ z.fmod 2147483647 := fun z => Int.fmod_nonneg_of_pos _ (by decide)
    have m1 : ∀ z : Int, z.fmod 2147483647 < 2147483647 := fun z => Int.fmod_lt_of_pos _ (by decide)
    walk_at "go"
    refine My.x_dec (fun hc => ?_) (fun hc => ?_)
    · rw [List.length_map] at hc
      obtain ⟨x, hx⟩ := atI_in k0 hc
      walk_at "go"
      refine My.x_ixL (by walk_at "sq") hx ?_
      have hk := key x
      walk_at "go"
      refine My.x_dec (fun hc => ?_) (fun hc => ?_)
      · walk_at "go"
        exact ends _ _ (m0 _) (m1 _)
      · walk_at "go"
        exact ends _ _ (m0 _) (m1 _)
    · have hk := key 0
      walk_at "go"
      refine My.x_dec (fun hc => ?_) (fun hc => ?_)
      · walk_at "go"
        exact ends _ _ (m0 _) (m1 _)
      · walk_at "go"
        exact ends _ _ (m0 _) (m1 _)

theorem cut_drop {α : Type} (f : α → V) (xs : List α) {i : Int} (h : 0 ≤ i) : cutV (xs.map f) (some i) none = (xs.drop i.toNat).map f := by
  obtain ⟨k, rfl⟩ := Int.eq_ofNat_of_zero_le h
  have e : HT.sIx (xs.map f).length 0 (some (k : Int)) = min k (xs.map f).length := HT.sIx_nat _ _ _
  unfold cutV
  rw [e]
  show ((xs.map f).drop (min k (xs.map f).length)).take ((xs.map f).length - min k (xs.map f).length) = (xs.drop k).map f
  rw [List.map_drop, List.length_map]
  by_cases hk : k ≤ xs.length
  · rw [Nat.min_eq_left hk, List.take_of_length_le]
    rw [List.length_drop, List.length_map]
    exact Nat.le_refl _
  · rw [Nat.min_eq_right (by omega), List.drop_of_length_le (by rw [List.length_map]; exact Nat.le_refl _), List.drop_of_length_le (by rw [List.length_map]; omega), List.take_nil]
def sp_kept (K : PySem.W.Frag) : Sp := fun vs H Q _ => ∃ (a : Addr) (cs : List Int) (r e n : Int), vs = [.ref a, .int r, .int e, .int n] ∧ SqL K H a (cs.map V.int) ∧ cs.Nodup ∧ cs.length < 60 ∧ 0 ≤ r ∧ 0 < e ∧ e < 1073741824 ∧ 0 ≤ n ∧
  ∀ (p : Addr) (L : List Int) (H' : Hp), Same H H' → H p = none → H' p = some (.lst (L.map V.int)) → KeptL e r n cs L → L.length ≤ 120 → Q (.ref p) H'
theorem ok_kept (T : Tx mg) {fd : FuncData} (F : Fd K d_kept_clocks fd) : FnOk P w K mg base CX0 1 (He.ga K "kept_clocks") fd ["clocks", "recent", "every", "periods"] (sp_kept K) := by
  refine F.ok sc_kept_clocks (fun vs H Q E h => ?_) (fun cdv A outer s H vs Q E hr h => ?_)
  · obtain ⟨a, cs, r, e, n, rfl, _⟩ := h
    rfl
  · obtain ⟨a, cs, r, e, n, rfl, hS, hnd, hlen, hr0, he0, he1, hn0, q⟩ := h
    refine ⟨_, PSs.nox ((pss_cons (My.ps_setDc (i := 5) (own := [("clock", 4)]) (g := gName 4) (tt := tYes) rfl sc_kept_clocks.nd rfl rfl (My.sw_trueD rfl rfl rfl (by decide +kernel)) (pi_list (pe_slice sl_list (pe_callB cr_sortedI (by rfl) T.n_sorted (by decide +kernel) (pa_cons (pv 0) pa_nil)) (po_some (pe_callB (call_max2 rfl) (by rfl) T.n_max (by decide +kernel) (pa_cons pe_int (pa_cons (pe_op op_sub (pe_callB call_len_seq (by rfl) T.n_len (by decide +kernel) (pa_cons (pv 0) pa_nil)) (pv 1)) pa_nil)))) po_none)) (blkOk_by (own := [("clock", 4)]) (N := ["clocks", "recent", "every", "periods", "clock", "found", "last", "period"]) (sc := defScope s_kept_clocks) (by decide +kernel)) (fun _ _ _ _ _ => pg_name (i := 4) sc_kept_clocks.nd rfl (Or.inl rfl)) (fun _ _ _ _ _ => pts_nil) (fun _ _ _ _ _ => (pv 4)) (fun _ _ _ _ _ => pe_bl))
  (pss_cons (ps_set (i := 6) sc_kept_clocks.nd rfl (Or.inl rfl) pe_dnewK)
  (pss_cons (ps_for PassesOwn.never rfl (pi_list (pe_callB cr_sortedI (by rfl) T.n_sorted (by decide +kernel) (pa_cons (pv 0) pa_nil))) (pg_name (i := 4) sc_kept_clocks.nd rfl (Or.inl rfl))
  (pss_one (ps_dput (hu_of hr) (pv 6) (pe_op op_fdivN (pv 4) (pv 2)) (pv 4) rfl)))
  (pss_cons (ps_for PassesOwn.never rfl (pi_list (pe_slice sl_list (pe_callB (call_sortedDI rfl) (by rfl) T.n_sorted (by decide +kernel) (pa_cons (pv 6) pa_nil)) (po_some (pe_callB (call_max2 rfl) (by rfl) T.n_max (by decide +kernel) (pa_cons pe_int (pa_cons (pe_op op_sub (pe_callB call_lenD (by rfl) T.n_len (by decide +kernel) (pa_cons (pv 6) pa_nil)) (pv 3)) pa_nil)))) po_none)) (pg_name (i := 7) sc_kept_clocks.nd rfl (Or.inl rfl))
  (pss_one (ps_dput (hu_of hr) (pv 5) (pe_dget (hu_of hr) (pv 6) (pv 7) (fun _ _ => rfl)) pe_bl rfl)))
  (pss_one (ps_ret (pe_callB (call_sortedDI rfl) (by rfl) T.n_sorted (by decide +kernel) (pa_cons (pv 5) pa_nil))))))))), ?_⟩
    refine My.x_start (σ := [some (V.ref a), some (V.int r), some (V.int e), some (V.int n), none, none, none, none]) rfl ?_
    dsimp only [cxOf, Cx.nox]
    walk_at "go"
    intro S l1 hp1 hs1 hl1
    have hS1 : S.Pairwise (· < ·) := strict_of hs1 (hp1.nodup_iff.mpr hnd)
    walk_at "go"
    intro l2 hl2
    rw [List.length_map, cut_drop _ _ (by split <;> omega)]
    generalize hM : (if (cs.length : Int) - r > 0 then (cs.length : Int) - r else 0).toNat = M
    have hM2 : (M : Int) = if 0 < (S.length : Int) - r then (S.length : Int) - r else 0 := by
      rw [hp1.length_eq, ← hM]
      split <;> omega
    walk_at "go"
    intro D hD
    have nD2 : D ≠ l2 := fun z => by rw [z, upd_same] at hD; cases hD
    have s1 : Same H (upd H l1 (.lst (S.map V.int))) := My.Same.new (Same.refl H) hl1
    have s2 := My.Same.new (o := .lst ((S.drop M).map V.int)) s1 hl2
    have s3 := My.Same.new (o := .dK []) s2 hD
    have nD : H D = none := s2.free hD
    refine My.dc_map (K := K) (a := l2) V.int (S.drop M) (fun pre H' => Same H H' ∧ H' l2 = some (.lst ((S.drop M).map V.int)) ∧ ∃ kvs ks, H' D = some (.dK kvs) ∧ kvs.map (·.1) = ks.map Sum.inl ∧ ks.Nodup ∧ (∀ x, x ∈ ks ↔ x ∈ pre) ∧ ks.length ≤ pre.length)
      ⟨s3, by walk_at "hp", [], [], upd_same, rfl, List.nodup_nil, fun _ => Iff.rfl, Nat.le_refl _⟩ (fun pre post H' _ h => SqL.of h.2.1) ?_ ?_
    · rintro pre x post H' hpre ⟨sH, h2, kvs, ks, hd, hk, hn, hm, hl⟩
      simp only [List.map_cons, List.map_nil, wipe, List.set_cons_succ, List.set_cons_zero]
      walk_at "go"
      have hkl : kvs.length = ks.length := My.length_of_keys hk
      have hpl : pre.length ≤ S.length := by
        have := congrArg List.length hpre
        rw [List.length_drop, List.length_append, List.length_cons] at this
        omega
      have hSl := hp1.length_eq
      refine ⟨rfl, ?_⟩
      walk_at "go"
      refine ⟨kvs, Sum.inl x, rfl, hd, by show kvs.length < 2 ^ 24; omega, ?_⟩
      refine ⟨My.Same.mut sH nD, by rw [upd_ne nD2.symm]; exact h2, _, _, upd_same, My.keys_put hk x _, My.nodup_put hn x, fun y => ?_, ?_⟩
      · rw [My.mem_put, hm, List.mem_append, List.mem_singleton]
      · rw [List.length_append, List.length_singleton]
        split
        · omega
        · rw [List.length_append, List.length_singleton]; omega
    · rintro H' ⟨sH, h2, kvs, ks, hd, hk, hn, hm, hl⟩
      walk_at "go"
      clear hD nD2 s1 s2 s3 h2 hl1 hl2
      intro B hB
      have nDB : D ≠ B := ne_of_none hd hB
      have sB := My.Same.new (o := .dK []) sH hB
      have nB : H B = none := sH.free hB
      have hdB : upd H' B (.dK []) D = some (.dK kvs) := by rw [upd_ne nDB]; exact hd
      have hB2 : upd H' B (.dK []) B = some (.dK []) := upd_same
      generalize upd H' B (.dK []) = H2 at sB hdB hB2 ⊢
      have hS2 := sB.seq hS
      walk_at "go"
      intro S2 l3 hp2 hs2 hl3
      have e2 : S2 = S := sorted_same (strict_of hs2 (hp2.nodup_iff.mpr hnd)) hS1 fun x => (hp2.mem_iff).trans hp1.mem_iff.symm
      subst e2
      have nD3 : D ≠ l3 := ne_of_none hdB hl3
      have nB3 : B ≠ l3 := ne_of_none hB2 hl3
      walk_at "go"
      refine My.for_map (K := K) (a := l3) V.int S2 (fun pre σ' H' => Same H H' ∧ H' l3 = some (.lst (S2.map V.int)) ∧ H' D = some (.dK kvs) ∧ (∃ o, σ' = [some (V.ref a), some (V.int r), some (V.int e), some (V.int n), o, some (V.ref D), some (V.ref B), none]) ∧
        ∃ ls ps, H' B = some (.dK ls) ∧ ls.map (·.1) = ps.map Sum.inl ∧ Pers e pre ps ∧ (∀ p, valV ls (Sum.inl p) = (lastIn e pre p).map V.int) ∧ ps.length ≤ pre.length)
        ⟨My.Same.new sB hl3, upd_same, by rw [upd_ne nD3]; exact hdB, ⟨_, rfl⟩, [], [], by rw [upd_ne nB3]; exact hB2, rfl, ⟨List.nodup_nil, by simp⟩, fun _ => rfl, Nat.le_refl _⟩ (fun pre post σ' H' _ h => SqL.of h.2.1) ?_ ?_
      · rintro pre x post σ' H3 hpre ⟨sH3, h3, hd3, ⟨o, rfl⟩, ls, ps, hb3, hk3, hP3, hv3, hl3⟩
        have hlp : ls.length = ps.length := My.length_of_keys hk3
        have hprel : pre.length ≤ S2.length := by rw [hpre, List.length_append]; omega
        have hSl := hp1.length_eq
        walk_at "go"
        refine My.x_dputI hb3 (by show ls.length < 2 ^ 24; omega) ?_
        refine ⟨My.Same.mut sH3 nB, by rw [upd_ne nB3.symm]; exact h3, by rw [upd_ne nDB]; exact hd3, ⟨_, rfl⟩, _, _, upd_same, My.keys_put hk3 _ _, ⟨My.nodup_put hP3.1 _, fun p => ?_⟩, fun p => ?_, ?_⟩
        · rw [My.mem_put, hP3.2]
          simp only [List.mem_append, List.mem_singleton]
          exact ⟨fun z => z.elim (fun ⟨c, h1, h2⟩ => ⟨c, .inl h1, h2⟩) fun h2 => ⟨x, .inr rfl, h2.symm⟩, fun ⟨c, h1, h2⟩ => h1.elim (fun h1 => .inl ⟨c, h1, h2⟩) fun h1 => .inr (by rw [← h2, h1])⟩
        · rw [valV_put, hv3, lastIn_snoc]
          by_cases hpx : p = x.fdiv e
          · subst hpx
            simp
          · rw [if_neg hpx, if_neg fun z => hpx (Sum.inl.inj z)]
        · rw [List.length_append, List.length_singleton]
          split
          · omega
          · rw [List.length_append, List.length_singleton]; omega
      · rintro σ' H3 ⟨sH3, h3, hd3, ⟨o, rfl⟩, ls, ps, hb3, hk3, hP3, hv3, hl3⟩
        walk_at "go"
        have hSl := hp1.length_eq
        refine My.x_sortDI hb3 hk3 (by omega) ?_
        intro Ps l4 hp4 hs4 hl4
        have hP4 : Ps.Pairwise (· < ·) := strict_of hs4 (hp4.nodup_iff.mpr hP3.1)
        have hPs : Pers e S2 Ps := ⟨hp4.nodup_iff.mpr hP3.1, fun p => hp4.mem_iff.trans (hP3.2 p)⟩
        have nD4 : D ≠ l4 := ne_of_none hd3 hl4
        have nB4 : B ≠ l4 := ne_of_none hb3 hl4
        have s4 := My.Same.new (o := .lst (Ps.map V.int)) sH3 hl4
        have hd4 : upd H3 l4 (.lst (Ps.map V.int)) D = some (.dK kvs) := by rw [upd_ne nD4]; exact hd3
        have hb4 : upd H3 l4 (.lst (Ps.map V.int)) B = some (.dK ls) := by rw [upd_ne nB4]; exact hb3
        have hq4 : upd H3 l4 (.lst (Ps.map V.int)) l4 = some (.lst (Ps.map V.int)) := upd_same
        generalize upd H3 l4 (.lst (Ps.map V.int)) = H4 at s4 hd4 hb4 hq4 ⊢
        walk_at "go"
        intro l5 hl5
        rw [My.length_of_keys hk3, cut_drop _ _ (by split <;> omega)]
        generalize hk : (if (ps.length : Int) - n > 0 then (ps.length : Int) - n else 0).toNat = k
        have hk2 : (k : Int) = if 0 < (Ps.length : Int) - n then (Ps.length : Int) - n else 0 := by
          rw [hp4.length_eq, ← hk]
          split <;> omega
        have nD5 : D ≠ l5 := ne_of_none hd4 hl5
        have nB5 : B ≠ l5 := ne_of_none hb4 hl5
        walk_at "go"
        refine My.for_map (K := K) (a := l5) V.int (Ps.drop k) (fun pre σ' H' => Same H H' ∧ H' l5 = some (.lst ((Ps.drop k).map V.int)) ∧ H' B = some (.dK ls) ∧ (∃ o o', σ' = [some (V.ref a), some (V.int r), some (V.int e), some (V.int n), o, some (V.ref D), some (V.ref B), o']) ∧
          ∃ kvs ks, H' D = some (.dK kvs) ∧ kvs.map (·.1) = ks.map Sum.inl ∧ ks.Nodup ∧ (∀ x, x ∈ ks ↔ x ∈ S2.drop M ∨ ∃ p ∈ pre, lastIn e S2 p = some x))
          ⟨My.Same.new s4 hl5, upd_same, by rw [upd_ne nB5]; exact hb4, ⟨_, _, rfl⟩, kvs, ks, by rw [upd_ne nD5]; exact hd4, by assumption, hn, fun x => by simp [hm x]⟩ (fun pre post σ' H' _ h => SqL.of h.2.1) ?_ ?_
        · rintro pre p post σ' H5 hpre ⟨sH5, h5, hb5, ⟨o, o', rfl⟩, kvs, ks, hd5, hk5, hn5, hm5⟩
          have hsub : ∀ x ∈ ks, x ∈ S2 := fun x hx => ((hm5 x).mp hx).elim (fun z => List.mem_of_mem_drop z) fun ⟨p, _, z⟩ => ((lastIn_top hS1).mp z).1
          have hkl := My.length_of_keys hk5
          have hks := My.nodup_len hn5 hsub
          have hpP : p ∈ Ps := List.mem_of_mem_drop (by rw [hpre]; simp)
          obtain ⟨c, hc⟩ : ∃ c, lastIn e S2 p = some c := by
            have := My.valV_keys hk3 p
            rw [hv3 p] at this
            cases z : lastIn e S2 p with
            | some c => exact ⟨c, rfl⟩
            | none =>
              rw [z] at this
              have : p ∈ ps := hp4.mem_iff.mp hpP
              simp_all
          walk_at "go"
          refine My.x_dgetI hb5 (by rw [hv3 p, hc]; rfl) ?_
          walk_at "go"
          refine My.x_dputI hd5 (by show kvs.length < 2 ^ 24; omega) ?_
          refine ⟨My.Same.mut sH5 nD, by rw [upd_ne nD5.symm]; exact h5, by rw [upd_ne nDB.symm]; exact hb5, ⟨_, _, rfl⟩, _, _, upd_same, My.keys_put hk5 _ _, My.nodup_put hn5 _, fun x => ?_⟩
          rw [My.mem_put, hm5]
          simp only [List.mem_append, List.mem_singleton]
          constructor
          · rintro ((h | ⟨p', h1, h2⟩) | h)
            · exact .inl h
            · exact .inr ⟨p', .inl h1, h2⟩
            · exact .inr ⟨p, .inr rfl, by rw [hc, h]⟩
          · rintro (h | ⟨p', h1 | h1, h2⟩)
            · exact .inl (.inl h)
            · exact .inl (.inr ⟨p', h1, h2⟩)
            · subst h1
              rw [hc] at h2
              exact .inr (Option.some.inj h2).symm
        · rintro σ' H5 ⟨sH5, h5, hb5, ⟨o, o', rfl⟩, kvs, ks, hd5, hk5, hn5, hm5⟩
          have hsub : ∀ x ∈ ks, x ∈ S2 := fun x hx => ((hm5 x).mp hx).elim (fun z => List.mem_of_mem_drop z) fun ⟨p, _, z⟩ => ((lastIn_top hS1).mp z).1
          have hks := My.nodup_len hn5 hsub
          walk_at "go"
          refine My.x_sortDI hd5 hk5 (by omega) ?_
          intro L l6 hp6 hs6 hl6
          have hL := elder_kept hr0 hn0 hS1 hP4 hPs hM2 hk2 (strict_of hs6 (hp6.nodup_iff.mpr hn5)) (fun x => hp6.mem_iff.trans (hm5 x))
          refine q l6 L _ (My.Same.new sH5 hl6) (sH5.free hl6) upd_same ⟨hL.1, fun x => (hL.2 x).trans (kept_perm hp1 x)⟩ ?_
          have := hp6.length_eq
          omega
def sp_due (K : PySem.W.Frag) : Sp := fun vs H Q _ => ∃ (a : Addr) (cs : List Int) (r e n : Int), vs = [.ref a, .int r, .int e, .int n] ∧ SqL K H a (cs.map V.int) ∧ cs.Nodup ∧ cs.length < 60 ∧ 0 < e ∧ e < 1073741824 ∧
  ∀ (p : Addr) (L : List Int) (H' : Hp), Same H H' → H p = none → H' p = some (.lst (L.map V.int)) → KeptL e r n cs L → L.length ≤ 120 → Q (.ref p) H'
/-- behind pre: the periods, the clocks found -/
structure DI (e r n : Int) (R pre Ks Fs : List Int) : Prop where
  nd : Ks.Nodup
  ks : ∀ p, p ∈ Ks ↔ ∃ c ∈ pre, c.fdiv e = p
  fs : Fs.Pairwise fun a b => b < a
  fm : ∀ x, x ∈ Fs ↔ x ∈ pre ∧ Kept e r n R x
  kl : Ks.length ≤ pre.length
  fl : Fs.length ≤ pre.length
theorem DI.ks_old {e r n : Int} {R pre Ks Fs Gs : List Int} {x : Int} (d : DI e r n R pre Ks Fs) (h : x.fdiv e ∈ Ks) (h1 : Gs.Pairwise fun a b => b < a) (h2 : ∀ y, y ∈ Gs ↔ y ∈ pre ++ [x] ∧ Kept e r n R y) (h3 : Gs.length ≤ pre.length + 1) : DI e r n R (pre ++ [x]) Ks Gs where
  nd := d.nd
  ks p := by
    rw [d.ks]
    simp only [List.mem_append, List.mem_singleton]
    exact ⟨fun ⟨c, h1, h2⟩ => ⟨c, .inl h1, h2⟩, fun ⟨c, h1, h2⟩ => h1.elim (fun h1 => ⟨c, h1, h2⟩) fun h1 => (d.ks p).mp (by rw [← h2, h1]; exact h)⟩
  fs := h1
  fm := h2
  kl := by rw [List.length_append]; have := d.kl; omega
  fl := by rw [List.length_append]; exact h3
theorem DI.ks_new {e r n : Int} {R pre Ks Fs Gs : List Int} {x : Int} (d : DI e r n R pre Ks Fs) (h : x.fdiv e ∉ Ks) (h1 : Gs.Pairwise fun a b => b < a) (h2 : ∀ y, y ∈ Gs ↔ y ∈ pre ++ [x] ∧ Kept e r n R y) (h3 : Gs.length ≤ pre.length + 1) : DI e r n R (pre ++ [x]) (Ks ++ [x.fdiv e]) Gs where
  nd := by
    rw [List.nodup_append]
    exact ⟨d.nd, by simp, fun a ha b hb => by rw [List.mem_singleton.mp hb]; exact fun q => h (q ▸ ha)⟩
  ks p := by
    simp only [List.mem_append, List.mem_singleton, d.ks]
    exact ⟨fun z => z.elim (fun ⟨c, h1, h2⟩ => ⟨c, .inl h1, h2⟩) fun z => ⟨x, .inr rfl, z.symm⟩, fun ⟨c, h1, h2⟩ => h1.elim (fun h1 => .inl ⟨c, h1, h2⟩) fun h1 => .inr (by rw [← h2, h1])⟩
  fs := h1
  fm := h2
  kl := by rw [List.length_append, List.length_append, List.length_singleton, List.length_singleton]; have := d.kl; omega
  fl := by rw [List.length_append]; exact h3
theorem DI.yes {e r n : Int} {R pre post Ks Fs : List Int} {x : Int} (d : DI e r n R pre Ks Fs) (hR : R.Pairwise fun a b => b < a) (he : R = pre ++ x :: post) (h : Kept e r n R x) :
    ((Fs ++ [x]).Pairwise fun a b => b < a) ∧ (∀ y, y ∈ Fs ++ [x] ↔ y ∈ pre ++ [x] ∧ Kept e r n R y) ∧ (Fs ++ [x]).length ≤ pre.length + 1 := by
  refine ⟨?_, fun y => ?_, ?_⟩
  · rw [List.pairwise_append]
    refine ⟨d.fs, by simp, fun a ha b hb => ?_⟩
    rw [List.mem_singleton.mp hb]
    rw [he, List.pairwise_append] at hR
    exact hR.2.2 a ((d.fm a).mp ha).1 x (by simp)
  · simp only [List.mem_append, List.mem_singleton, d.fm]
    exact ⟨fun z => z.elim (fun z => ⟨.inl z.1, z.2⟩) fun z => ⟨.inr z, z ▸ h⟩, fun z => z.1.elim (fun q => .inl ⟨q, z.2⟩) .inr⟩
  · rw [List.length_append, List.length_singleton]; have := d.fl; omega
theorem DI.no {e r n : Int} {R pre Ks Fs : List Int} {x : Int} (d : DI e r n R pre Ks Fs) (h : ¬ Kept e r n R x) :
    (Fs.Pairwise fun a b => b < a) ∧ (∀ y, y ∈ Fs ↔ y ∈ pre ++ [x] ∧ Kept e r n R y) ∧ Fs.length ≤ pre.length + 1 := by
  refine ⟨d.fs, fun y => ?_, by have := d.fl; omega⟩
  simp only [List.mem_append, List.mem_singleton, d.fm]
  exact ⟨fun z => ⟨.inl z.1, z.2⟩, fun z => z.1.elim (fun q => ⟨q, z.2⟩) fun q => absurd (q ▸ z.2) h⟩
theorem ok_due (T : Tx mg) {fd : FuncData} (F : Fd K d_law_due fd) : FnOk P w K mg base CX0 1 (He.ga K "_law_due") fd ["_law_clocks", "_law_recent", "_law_every", "_law_periods"] (sp_due K) := by
  refine F.ok sc_law_due (fun vs H Q E h => ?_) (fun cdv A outer s H vs Q E hr h => ?_)
  · obtain ⟨a, cs, r, e, n, rfl, _⟩ := h
    rfl
  · obtain ⟨a, cs, r, e, n, rfl, hS, hnd, hlen, he0, he1, q⟩ := h
    refine ⟨_, PSs.nox ((pss_cons (ps_par (i := 4) (j := 5) (by rfl) sc_law_due.nd rfl rfl (by decide) rfl rfl (pa_cons (pe_lst pa_nil) (pa_cons (pe_revL (pe_callB cr_sortedI (by rfl) T.n_sorted (by decide +kernel) (pa_cons (pv 0) pa_nil))) pa_nil)) (by rfl))
  (pss_cons (ps_set (i := 6) sc_law_due.nd rfl (Or.inl rfl) (pe_lst pa_nil))
  (pss_cons (ps_for PassesOwn.never rfl (pi_enum (by rfl) T.n_enumerate (pa_cons (pv 5) pa_nil)) (pg_tup (by rfl) (pgs_cons (pg_name (i := 7) sc_law_due.nd rfl (Or.inl rfl)) (pgs_cons (pg_name (i := 8) sc_law_due.nd rfl (Or.inl rfl)) pgs_nil)))
  (pss_cons (ps_set (i := 9) sc_law_due.nd rfl (Or.inl rfl) (pe_cmpR op_notIn_seq (pe_op op_fdivN (pv 8) (pv 2)) (pv 6) (by rfl)))
  (pss_cons (ps_if (pt_val (pv 9))
  (pss_one (ps_expr (pe_bm PySem.F.plainAttrs_list PySem.F.slot_list_append PySem.F.type_list_append mt_append (pv 6) (pa_cons (pe_op op_fdivN (pv 8) (pv 2)) pa_nil))))
  pss_nil)
  (pss_one (ps_if (PW.pt (pw_or (pt_cmpR op_lt (pv 7) (pv 1) (nomark _)) (pw_or1 (PW.pt (pw_and (pt_val (pv 9)) (pw_and1 (pt_cmpR op_le (pe_callB call_len_seq (by rfl) T.n_len (by decide +kernel) (pa_cons (pv 6) pa_nil)) (pv 3) (nomark _))))))))
  (pss_one (ps_expr (pe_bm PySem.F.plainAttrs_list PySem.F.slot_list_append PySem.F.type_list_append mt_append (pv 4) (pa_cons (pv 8) pa_nil))))
  pss_nil)))))
  (pss_one (ps_ret (pe_revL (pv 4)))))))), ?_⟩
    refine My.x_start (σ := [some (V.ref a), some (V.int r), some (V.int e), some (V.int n), none, none, none, none, none, none]) rfl ?_
    dsimp only [cxOf, Cx.nox]
    walk_at "go"
    intro f hf
    walk_at "go"
    intro S l1 hp1 hs1 hl1
    have hS1 : S.Pairwise (· < ·) := strict_of hs1 (hp1.nodup_iff.mpr hnd)
    walk_at "go"
    intro l2 hl2
    walk_at "go"
    intro k hk
    have nf1 : f ≠ l1 := fun z => by rw [← z, upd_same] at hl1; cases hl1
    have nf2 : f ≠ l2 := fun z => by rw [← z, upd_ne nf1, upd_same] at hl2; cases hl2
    have nfk : f ≠ k := fun z => by rw [← z, upd_ne nf2, upd_ne nf1, upd_same] at hk; cases hk
    have n2k : l2 ≠ k := fun z => by rw [← z, upd_same] at hk; cases hk
    have s1 := My.Same.new (o := .lst []) (Same.refl H) hf
    have s2 := My.Same.new (o := .lst (S.map V.int)) s1 hl1
    have s3 := My.Same.new (o := .lst (S.map V.int).reverse) s2 hl2
    have s4 := My.Same.new (o := .lst []) s3 hk
    have k0 : H k = none := s3.free hk
    have hr4 : upd (upd (upd (upd H f (.lst [])) l1 (.lst (S.map V.int))) l2 (.lst (S.map V.int).reverse)) k (.lst []) l2 = some (.lst (S.reverse.map V.int)) := by
      rw [upd_ne n2k, upd_same, List.map_reverse]
    have hf4 : upd (upd (upd (upd H f (.lst [])) l1 (.lst (S.map V.int))) l2 (.lst (S.map V.int).reverse)) k (.lst []) f = some (.lst []) := by
      rw [upd_ne nfk, upd_ne nf2, upd_ne nf1, upd_same]
    have hk4 : upd (upd (upd (upd H f (.lst [])) l1 (.lst (S.map V.int))) l2 (.lst (S.map V.int).reverse)) k (.lst []) k = some (.lst []) := upd_same
    generalize upd (upd (upd (upd H f (.lst [])) l1 (.lst (S.map V.int))) l2 (.lst (S.map V.int).reverse)) k (.lst []) = H4 at s4 hr4 hf4 hk4 ⊢
    have hR : S.reverse.Pairwise fun a b => b < a := List.pairwise_reverse.mpr hS1
    have hSl := hp1.length_eq
    walk_at "go"
    refine My.for_enum (K := K) (a := l2) V.int S.reverse (fun pre σ' H' => Same H H' ∧ H' l2 = some (.lst (S.reverse.map V.int)) ∧ (∃ o p t, σ' = [some (V.ref a), some (V.int r), some (V.int e), some (V.int n), some (V.ref f), some (V.ref l2), some (V.ref k), o, p, t]) ∧
      ∃ Ks Fs, H' f = some (.lst (Fs.map V.int)) ∧ H' k = some (.lst (Ks.map V.int)) ∧ DI e r n S.reverse pre Ks Fs)
      ⟨s4, hr4, ⟨_, _, _, rfl⟩, [], [], hf4, hk4, List.nodup_nil, by simp, by simp, by simp, by simp, by simp⟩ (fun pre post σ' H' _ h => SqL.of h.2.1) ?_ ?_
    · rintro pre x post T1 σ' H5 hpre ⟨s5, h2, ⟨o, p, t, rfl⟩, Ks, Fs, hf5, hk5, hd⟩ hT
      have nfT : f ≠ T1 := ne_of_none hf5 hT
      have nkT : k ≠ T1 := ne_of_none hk5 hT
      have n2T : l2 ≠ T1 := ne_of_none h2 hT
      have s6 := My.Same.new (o := .tup [V.int (pre.length : Nat), V.int x]) s5 hT
      have h26 : upd H5 T1 (.tup [V.int (pre.length : Nat), V.int x]) l2 = some (.lst (S.reverse.map V.int)) := by rw [upd_ne n2T]; exact h2
      have hf6 : upd H5 T1 (.tup [V.int (pre.length : Nat), V.int x]) f = some (.lst (Fs.map V.int)) := by rw [upd_ne nfT]; exact hf5
      have hk6 : upd H5 T1 (.tup [V.int (pre.length : Nat), V.int x]) k = some (.lst (Ks.map V.int)) := by rw [upd_ne nkT]; exact hk5
      have hT6 : upd H5 T1 (.tup [V.int (pre.length : Nat), V.int x]) T1 = some (.tup [V.int (pre.length : Nat), V.int x]) := upd_same
      generalize upd H5 T1 (.tup [V.int (pre.length : Nat), V.int x]) = H6 at s6 h26 hf6 hk6 hT6 ⊢
      have hlR : pre.length < 60 := by
        have := congrArg List.length hpre
        rw [List.length_reverse, List.length_append, List.length_cons] at this
        omega
      have hkl := hd.kl
      have hfl := hd.fl
      have tst := due_test (r := r) (n := n) he0 (hpre ▸ hR) hd.nd hd.ks
      rw [← hpre] at tst
      walk_at "go"
      refine My.x_notinI (by walk_at "sq") ?_
      by_cases hm : x.fdiv e ∈ Ks
      · rw [decide_eq_true hm]
        simp only [Bool.not_true]
        walk_at "go"
        refine My.x_dec (fun hc => ?_) (fun hc => ?_)
        · obtain ⟨g1, g2, g3⟩ := hd.yes hR hpre (tst.mpr (.inl hc))
          walk_at "go"
          refine ⟨My.Same.mut s6 hf, by rw [upd_ne nf2.symm]; exact h26, ⟨_, _, _, rfl⟩, Ks, Fs ++ [x], by rw [upd_same, List.map_append]; rfl, by rw [upd_ne nfk.symm]; exact hk6, hd.ks_old hm g1 g2 g3⟩
        · obtain ⟨g1, g2, g3⟩ := hd.no fun z => (tst.mp z).elim hc fun z => z.1 hm
          walk_at "go"
          exact ⟨s6, h26, ⟨_, _, _, rfl⟩, Ks, Fs, hf6, hk6, hd.ks_old hm g1 g2 g3⟩
      · rw [decide_eq_false hm]
        simp only [Bool.not_false]
        walk_at "go"
        have s7 := My.Same.mut (o := .lst (Ks.map V.int ++ [V.int (x.fdiv e)])) s6 k0
        have h27 : upd H6 k (.lst (Ks.map V.int ++ [V.int (x.fdiv e)])) l2 = some (.lst (S.reverse.map V.int)) := by rw [upd_ne n2k]; exact h26
        have hf7 : upd H6 k (.lst (Ks.map V.int ++ [V.int (x.fdiv e)])) f = some (.lst (Fs.map V.int)) := by rw [upd_ne nfk]; exact hf6
        have hk7 : upd H6 k (.lst (Ks.map V.int ++ [V.int (x.fdiv e)])) k = some (.lst ((Ks ++ [x.fdiv e]).map V.int)) := by rw [upd_same, List.map_append]; rfl
        generalize upd H6 k (.lst (Ks.map V.int ++ [V.int (x.fdiv e)])) = H7 at s7 h27 hf7 hk7 ⊢
        have yes (h : Kept e r n S.reverse x) : Same H (upd H7 f (.lst (Fs.map V.int ++ [V.int x]))) ∧ upd H7 f (.lst (Fs.map V.int ++ [V.int x])) l2 = some (.lst (S.reverse.map V.int)) ∧ ∃ Ks Fs', upd H7 f (.lst (Fs.map V.int ++ [V.int x])) f = some (.lst (Fs'.map V.int)) ∧ upd H7 f (.lst (Fs.map V.int ++ [V.int x])) k = some (.lst (Ks.map V.int)) ∧ DI e r n S.reverse (pre ++ [x]) Ks Fs' := by
          obtain ⟨g1, g2, g3⟩ := hd.yes hR hpre h
          exact ⟨My.Same.mut s7 hf, by rw [upd_ne nf2.symm]; exact h27, _, Fs ++ [x], by rw [upd_same, List.map_append]; rfl, by rw [upd_ne nfk.symm]; exact hk7, hd.ks_new hm g1 g2 g3⟩
        refine My.x_dec (fun hc => ?_) (fun hc => ?_)
        · walk_at "go"
          obtain ⟨y1, y2, y3⟩ := yes (tst.mpr (.inl hc))
          exact ⟨y1, y2, ⟨_, _, _, rfl⟩, y3⟩
        · walk_at "go"
          refine My.x_dec (fun hc2 => ?_) (fun hc2 => ?_)
          · rw [List.length_map, List.length_append, List.length_singleton] at hc2
            walk_at "go"
            obtain ⟨y1, y2, y3⟩ := yes (tst.mpr (.inr ⟨hm, by omega⟩))
            exact ⟨y1, y2, ⟨_, _, _, rfl⟩, y3⟩
          · rw [List.length_map, List.length_append, List.length_singleton] at hc2
            obtain ⟨g1, g2, g3⟩ := hd.no fun z => (tst.mp z).elim hc fun z => hc2 (by omega)
            walk_at "go"
            exact ⟨s7, h27, ⟨_, _, _, rfl⟩, _, Fs, hf7, hk7, hd.ks_new hm g1 g2 g3⟩
    · rintro σ' H5 ⟨s5, h2, ⟨o, p, t, rfl⟩, Ks, Fs, hf5, hk5, hd⟩
      walk_at "go"
      intro l6 hl6
      refine q l6 Fs.reverse _ (My.Same.new s5 hl6) (s5.free hl6) (by rw [upd_same, List.map_reverse]) ⟨List.pairwise_reverse.mpr hd.fs, fun x => ?_⟩ ?_
      · rw [List.mem_reverse, hd.fm, List.mem_reverse]
        have e1 : Kept e r n S.reverse x ↔ Kept e r n cs x := kept_perm ((List.reverse_perm S).trans hp1) x
        exact ⟨fun z => e1.mp z.2, fun z => ⟨hp1.mem_iff.mpr z.1, e1.mpr z⟩⟩
      · rw [List.length_reverse]
        have := hd.fl
        rw [List.length_reverse] at this
        omega

def sp_law (K : PySem.W.Frag) : Sp := fun vs H Q _ => ∃ (a : Addr) (ns : List Int), vs = [.ref a] ∧ SqL K H a (ns.map V.int) ∧ ns.length ≤ 63 ∧ ∀ H', Q (.bl true) H'
theorem three {d : Int} (h0 : 0 ≤ d) (h1 : d < 3) {x y z : Int} {p : Int → Prop} (hx : p x) (hy : p y) (hz : p z) : ∃ m : Int, atI [V.int x, V.int y, V.int z] d = some (.int m) ∧ p m := by
  rcases (show d = 0 ∨ d = 1 ∨ d = 2 by omega) with rfl | rfl | rfl
  · exact ⟨x, rfl, hx⟩
  · exact ⟨y, rfl, hy⟩
  · exact ⟨z, rfl, hz⟩
theorem four {d : Int} (h0 : 0 ≤ d) (h1 : d < 4) {x y z u : Int} {p : Int → Prop} (hx : p x) (hy : p y) (hz : p z) (hu : p u) : ∃ m : Int, atI [V.int x, V.int y, V.int z, V.int u] d = some (.int m) ∧ p m := by
  rcases (show d = 0 ∨ d = 1 ∨ d = 2 ∨ d = 3 by omega) with rfl | rfl | rfl | rfl
  · exact ⟨x, rfl, hx⟩
  · exact ⟨y, rfl, hy⟩
  · exact ⟨z, rfl, hz⟩
  · exact ⟨u, rfl, hu⟩
theorem ok_law (T : Tx mg) {fd : FuncData} (F : Fd K d_law fd) (C_law_pool : My.Cl P w K mg base "_law_pool" ["_law_script", "_law_k"] 1 (My.sp_pool K)) (C_law_draw : My.Cl P w K mg base "_law_draw" ["_law_pool_here", "_law_many"] 1 My.sp_draw)
    (C_kept_clocks : My.Cl P w K mg base "kept_clocks" ["clocks", "recent", "every", "periods"] 1 (sp_kept K)) (C_law_due : My.Cl P w K mg base "_law_due" ["_law_clocks", "_law_recent", "_law_every", "_law_periods"] 1 (sp_due K)) :
    FnOk P w K mg base CX0 2 (He.ga K "law") fd ["_law_script"] (sp_law K) := by
  refine F.ok sc_law (fun vs H Q E h => ?_) (fun cdv A outer s H vs Q E hr h => ?_)
  · obtain ⟨a, ns, rfl, _⟩ := h
    rfl
  · obtain ⟨a, ns, rfl, hS, hlen, q⟩ := h
    refine ⟨_, PSs.nox ((pss_cons (ps_for PassesOwn.never rfl (pi_range1 rfl T.n_range (pa_cons (pe_callB (call_max2 rfl) (by rfl) T.n_max (by decide +kernel) (pa_cons pe_int (pa_cons (pe_callB (call_min2 rfl) (by rfl) T.n_min (by decide +kernel) (pa_cons (pe_callB call_len_seq (by rfl) T.n_len (by decide +kernel) (pa_cons (pv 0) pa_nil)) (pa_cons pe_int pa_nil))) pa_nil))) pa_nil)) (pg_name (i := 1) sc_law.nd rfl (Or.inl rfl))
  (pss_cons (ps_set (i := 2) sc_law.nd rfl (Or.inl rfl) (My.pe_cl C_law_pool (hr.mono (by decide)) rfl (pa_cons (pv 0) (pa_cons (pv 1) pa_nil))))
  (pss_one (ps_for PassesOwn.never rfl (pi_range1 rfl T.n_range (pa_cons pe_int pa_nil)) (pg_name (i := 3) sc_law.nd rfl (Or.inl rfl))
  (pss_cons (ps_par (i := 4) (j := 5) (by rfl) sc_law.nd rfl rfl (by decide) rfl rfl (pa_cons (pe_ix ix_list (pe_lst (pa_cons pe_int (pa_cons pe_int (pa_cons pe_int pa_nil)))) (My.pe_cl C_law_draw (hr.mono (by decide)) rfl (pa_cons (pv 2) (pa_cons pe_int pa_nil))) (fun _ _ => rfl)) (pa_cons (pe_lst pa_nil) pa_nil)) (by rfl))
  (pss_cons (ps_for PassesOwn.never rfl (pi_range1 rfl T.n_range (pa_cons (My.pe_cl C_law_draw (hr.mono (by decide)) rfl (pa_cons (pv 2) (pa_cons pe_int pa_nil))) pa_nil)) (pg_name (i := 6) sc_law.nd rfl (Or.inl rfl))
  (pss_cons (ps_set (i := 7) sc_law.nd rfl (Or.inl rfl) (pe_op op_add pe_int (My.pe_cl C_law_draw (hr.mono (by decide)) rfl (pa_cons (pv 2) (pa_cons (pv 4) pa_nil)))))
  (pss_one (ps_if (pt_cmpR op_notIn_seq (pv 7) (pv 5) (by rfl))
  (pss_one (ps_expr (pe_bm PySem.F.plainAttrs_list PySem.F.slot_list_append PySem.F.type_list_append mt_append (pv 5) (pa_cons (pv 7) pa_nil))))
  pss_nil))))
  (pss_cons (ps_set (i := 8) sc_law.nd rfl (Or.inl rfl) (pe_ix ix_list (pe_lst (pa_cons pe_int (pa_cons pe_int (pa_cons pe_int (pa_cons (pe_op op_add pe_int (My.pe_cl C_law_draw (hr.mono (by decide)) rfl (pa_cons (pv 2) (pa_cons pe_int pa_nil)))) pa_nil))))) (My.pe_cl C_law_draw (hr.mono (by decide)) rfl (pa_cons (pv 2) (pa_cons pe_int pa_nil))) (fun _ _ => rfl)))
  (pss_cons (ps_set (i := 9) sc_law.nd rfl (Or.inl rfl) (pe_lst (pa_cons (pe_op op_add pe_int (My.pe_cl C_law_draw (hr.mono (by decide)) rfl (pa_cons (pv 2) (pa_cons pe_int pa_nil)))) (pa_cons (pv 8) (pa_cons (pe_op op_add pe_int (My.pe_cl C_law_draw (hr.mono (by decide)) rfl (pa_cons (pv 2) (pa_cons pe_int pa_nil)))) pa_nil)))))
  (pss_cons (ps_set (i := 10) sc_law.nd rfl (Or.inl rfl) (pe_callTy call_list_of (by rfl) T.n_list (by decide +kernel) (pa_cons (pv 5) pa_nil)))
  (pss_cons (ps_set (i := 11) sc_law.nd rfl (Or.inl rfl) (My.pe_cl C_kept_clocks (hr.mono (by decide)) rfl (pa_cons (pv 5) (pa_cons (pe_ix ix_list (pv 9) pe_int (fun _ _ => rfl)) (pa_cons (pe_ix ix_list (pv 9) pe_int (fun _ _ => rfl)) (pa_cons (pe_ix ix_list (pv 9) pe_int (fun _ _ => rfl)) pa_nil))))))
  (pss_cons (ps_if (PW.pt (pw_or (pt_cmpR (op_neD hr.units) (pv 11) (My.pe_cl C_law_due (hr.mono (by decide)) rfl (pa_cons (pv 5) (pa_cons (pe_ix ix_list (pv 9) pe_int (fun _ _ => rfl)) (pa_cons (pe_ix ix_list (pv 9) pe_int (fun _ _ => rfl)) (pa_cons (pe_ix ix_list (pv 9) pe_int (fun _ _ => rfl)) pa_nil))))) (nomark _)) (pw_or1 (pt_cmpR (op_neD hr.units) (pv 5) (pv 10) (nomark _)))))
  (pss_one (ps_ret pe_bl))
  pss_nil)
  (pss_cons (ps_expr (pe_bm PySem.F.plainAttrs_list PySem.F.slot_list_append PySem.F.type_list_append mt_append (pv 11) (pa_cons pe_non pa_nil)))
  (pss_one (ps_if (pt_cmpR (op_neD hr.units) (My.pe_cl C_kept_clocks (hr.mono (by decide)) rfl (pa_cons (pv 5) (pa_cons (pe_ix ix_list (pv 9) pe_int (fun _ _ => rfl)) (pa_cons (pe_ix ix_list (pv 9) pe_int (fun _ _ => rfl)) (pa_cons (pe_ix ix_list (pv 9) pe_int (fun _ _ => rfl)) pa_nil))))) (My.pe_cl C_law_due (hr.mono (by decide)) rfl (pa_cons (pv 5) (pa_cons (pe_ix ix_list (pv 9) pe_int (fun _ _ => rfl)) (pa_cons (pe_ix ix_list (pv 9) pe_int (fun _ _ => rfl)) (pa_cons (pe_ix ix_list (pv 9) pe_int (fun _ _ => rfl)) pa_nil))))) (nomark _))
  (pss_one (ps_ret pe_bl))
  pss_nil))))))))))))))
  (pss_one (ps_ret (pe_cmpR (op_eqD hr.units) (My.pe_cl C_kept_clocks (hr.mono (by decide)) rfl (pa_cons (pe_lst pa_nil) (pa_cons pe_int (pa_cons pe_int (pa_cons pe_int pa_nil))))) (pe_lst pa_nil) (nomark _)))))), ?_⟩
    refine My.x_start (σ := [some (V.ref a), none, none, none, none, none, none, none, none, none, none, none]) rfl ?_
    dsimp only [cxOf, Cx.nox]
    walk_at "go"
    refine My.x_rng1E (by split <;> split <;> omega) (by rw [List.length_map]; split <;> split <;> omega) ?_
    have hj : (if (if (12 : Int) < ((ns.map V.int).length : Int) then 12 else ((ns.map V.int).length : Int)) > 1 then (if (12 : Int) < ((ns.map V.int).length : Int) then 12 else ((ns.map V.int).length : Int)) else 1).toNat ≤ 12 := by
      split <;> split <;> omega
    generalize (if (if (12 : Int) < ((ns.map V.int).length : Int) then 12 else ((ns.map V.int).length : Int)) > 1 then (if (12 : Int) < ((ns.map V.int).length : Int) then 12 else ((ns.map V.int).length : Int)) else 1).toNat = j at hj ⊢
    refine My.for_rng (fun i σ' H' => Same H H' ∧ ∃ o1 o2 o3 o4 o5 o6 o7 o8 o9 o10 o11, σ' = [some (V.ref a), o1, o2, o3, o4, o5, o6, o7, o8, o9, o10, o11]) ⟨Same.refl H, _, _, _, _, _, _, _, _, _, _, _, rfl⟩ ?_ ?_
    · rintro i σ' H1 hi ⟨s1, o1, o2, o3, o4, o5, o6, o7, o8, o9, o10, o11, rfl⟩
      walk_at "go"
      refine My.x_pool (s1.seq hS) (by omega) (by omega) fun p H2 hp P2 B2 => ?_
      have hp0 : H p = none := s1.free hp
      have s2 := B2.same s1 hp0
      walk_at "go"
      refine My.x_rng1E (by decide) (by decide) ?_
      refine My.for_rng (fun i' σ' H' => Same H H' ∧ My.PoolAt H' p ∧ ∃ o3 o4 o5 o6 o7 o8 o9 o10 o11, σ' = [some (V.ref a), some (V.int (0 + i)), some (V.ref p), o3, o4, o5, o6, o7, o8, o9, o10, o11]) ⟨s2, P2, _, _, _, _, _, _, _, _, _, rfl⟩ ?_ ?_
      · rintro i' σ' H3 hi' ⟨s3, P3, o3, o4, o5, o6, o7, o8, o9, o10, o11, rfl⟩
        walk_at "go"
        intro l1 hl1
        have s4 := My.Same.new (o := .lst [V.int 15, V.int 60, V.int 99999]) s3 hl1
        have P4 := P3.new (o := .lst [V.int 15, V.int 60, V.int 99999]) hl1
        have np1 := P3.ne hl1
        have e4 : upd H3 l1 (.lst [V.int 15, V.int 60, V.int 99999]) l1 = some (.lst [V.int 15, V.int 60, V.int 99999]) := upd_same
        generalize upd H3 l1 (.lst [V.int 15, V.int 60, V.int 99999]) = H4 at s4 P4 e4 ⊢
        walk_at "go"
        refine My.x_draw P4 (by decide) (by decide) fun d H5 d0 d1 P5 B5 => ?_
        have s5 := B5.same s4 hp0
        have e5 := B5.at e4 np1.symm
        obtain ⟨most, hm, hm0, hm1⟩ := three (p := fun x => 0 < x ∧ x ≤ 99999) d0 d1 (x := 15) (y := 60) (z := 99999) (by decide) (by decide) (by decide)
        walk_at "go"
        refine My.x_ixL (by walk_at "sq") hm ?_
        walk_at "go"
        intro cl hcl
        have np2 := P5.ne hcl
        have hc0 : H cl = none := s5.free hcl
        have s6 := My.Same.new (o := .lst []) s5 hcl
        have P6 := P5.new (o := .lst []) hcl
        have e6 : upd H5 cl (.lst []) cl = some (.lst []) := upd_same
        generalize upd H5 cl (.lst []) = H6 at s6 P6 e6 ⊢
        walk_at "go"
        refine My.x_draw P6 (by decide) (by decide) fun d2 H7 d20 d21 P7 B7 => ?_
        have s7 := B7.same s6 hp0
        have e7 := B7.at e6 np2.symm
        walk_at "go"
        refine My.x_rng1E (by omega) (by omega) ?_
        refine My.for_rng (fun i3 σ' H' => Same H H' ∧ My.PoolAt H' p ∧ (∃ cs : List Int, H' cl = some (.lst (cs.map V.int)) ∧ cs.Nodup ∧ cs.length ≤ i3) ∧
          ∃ o6 o7 o8 o9 o10 o11, σ' = [some (V.ref a), some (V.int (0 + i)), some (V.ref p), some (V.int (0 + i')), some (V.int most), some (V.ref cl), o6, o7, o8, o9, o10, o11])
          ⟨s7, P7, ⟨[], e7, List.nodup_nil, Nat.le_refl _⟩, _, _, _, _, _, _, rfl⟩ ?_ ?_
        · rintro i3 σ' H8 hi3 ⟨s8, P8, ⟨cs, e8, n8, l8⟩, o6, o7, o8, o9, o10, o11, rfl⟩
          walk_at "go"
          refine My.x_draw P8 (by omega) (by omega) fun d3 H9 d30 d31 P9 B9 => ?_
          have s9 := B9.same s8 hp0
          have e9 := B9.at e8 np2.symm
          walk_at "go"
          refine My.x_notinI (by walk_at "sq") ?_
          by_cases hin : 1 + d3 ∈ cs
          · rw [decide_eq_true hin]
            simp only [Bool.not_true]
            walk_at "go"
            exact ⟨s9, P9, ⟨cs, e9, n8, by omega⟩, _, _, _, _, _, _, rfl⟩
          · rw [decide_eq_false hin]
            simp only [Bool.not_false]
            walk_at "go"
            refine ⟨My.Same.mut s9 hc0, P9.mut np2, ⟨cs ++ [1 + d3], by rw [upd_same, List.map_append]; rfl, ?_, by rw [List.length_append, List.length_singleton]; omega⟩, _, _, _, _, _, _, rfl⟩
            rw [List.nodup_append]
            exact ⟨n8, by simp, fun x hx y hy => by rw [List.mem_singleton.mp hy]; exact fun z => hin (z ▸ hx)⟩
        · rintro σ' H8 ⟨s8, P8, ⟨cs, e8, n8, l8⟩, o6, o7, o8, o9, o10, o11, rfl⟩
          have l8b : cs.length < 60 := by omega
          clear e4 e5 e6 e7 hl1 hcl P4 P5 P6 P7 s4 s5 s6 s7 B5 B7
          walk_at "go"
          refine My.x_draw P8 (by decide) (by decide) fun d3 H9 d30 d31 P9 B9 => ?_
          have s9 := B9.same s8 hp0
          have e9 := B9.at e8 np2.symm
          walk_at "go"
          intro l2 hl2
          have np3 := P9.ne hl2
          have s10 := My.Same.new (o := .lst [V.int 1, V.int 3, V.int 10, V.int (1 + d3)]) s9 hl2
          have P10 := P9.new (o := .lst [V.int 1, V.int 3, V.int 10, V.int (1 + d3)]) hl2
          have e10 : upd H9 l2 (.lst [V.int 1, V.int 3, V.int 10, V.int (1 + d3)]) cl = some (.lst (cs.map V.int)) := by rw [upd_ne (ne_of_none e9 hl2)]; exact e9
          have f10 : upd H9 l2 (.lst [V.int 1, V.int 3, V.int 10, V.int (1 + d3)]) l2 = some (.lst [V.int 1, V.int 3, V.int 10, V.int (1 + d3)]) := upd_same
          generalize upd H9 l2 (.lst [V.int 1, V.int 3, V.int 10, V.int (1 + d3)]) = H10 at s10 P10 e10 f10 ⊢
          walk_at "go"
          refine My.x_draw P10 (by decide) (by decide) fun d4 H11 d40 d41 P11 B11 => ?_
          have s11 := B11.same s10 hp0
          have e11 := B11.at e10 np2.symm
          have f11 := B11.at f10 np3.symm
          obtain ⟨wd, hw, hw0, hw1⟩ := four (p := fun x => 0 < x ∧ x ≤ 9999) d40 d41 (x := 1) (y := 3) (z := 10) (u := 1 + d3) (by decide) (by decide) (by decide) (by omega)
          walk_at "go"
          refine My.x_ixL (by walk_at "sq") hw ?_
          walk_at "go"
          refine My.x_draw P11 (by decide) (by decide) fun d5 H12 d50 d51 P12 B12 => ?_
          have s12 := B12.same s11 hp0
          have e12 := B12.at e11 np2.symm
          walk_at "go"
          refine My.x_draw P12 (by decide) (by decide) fun d6 H13 d60 d61 P13 B13 => ?_
          have s13 := B13.same s12 hp0
          have e13 := B13.at e12 np2.symm
          walk_at "go"
          intro rl hrl
          have np4 := P13.ne hrl
          have s14 := My.Same.new (o := .lst [V.int (1 + d5), V.int wd, V.int (1 + d6)]) s13 hrl
          have P14 := P13.new (o := .lst [V.int (1 + d5), V.int wd, V.int (1 + d6)]) hrl
          have e14 : upd H13 rl (.lst [V.int (1 + d5), V.int wd, V.int (1 + d6)]) cl = some (.lst (cs.map V.int)) := by rw [upd_ne (ne_of_none e13 hrl)]; exact e13
          have f14 : upd H13 rl (.lst [V.int (1 + d5), V.int wd, V.int (1 + d6)]) rl = some (.lst [V.int (1 + d5), V.int wd, V.int (1 + d6)]) := upd_same
          generalize upd H13 rl (.lst [V.int (1 + d5), V.int wd, V.int (1 + d6)]) = H14 at s14 P14 e14 f14 ⊢
          clear e9 e10 e11 e12 e13 f10 f11 P9 P10 P11 P12 P13 s9 s10 s11 s12 s13 B9 B11 B12 B13 hl2 hrl P8 e8
          walk_at "go"
          intro kl hkl
          have s15 := My.Same.new (o := .lst (cs.map V.int)) s14 hkl
          have P15 := P14.new (o := .lst (cs.map V.int)) hkl
          have e15 : upd H14 kl (.lst (cs.map V.int)) cl = some (.lst (cs.map V.int)) := by rw [upd_ne (ne_of_none e14 hkl)]; exact e14
          have f15 : upd H14 kl (.lst (cs.map V.int)) rl = some (.lst [V.int (1 + d5), V.int wd, V.int (1 + d6)]) := by rw [upd_ne (ne_of_none f14 hkl)]; exact f14
          have k15 : upd H14 kl (.lst (cs.map V.int)) kl = some (.lst (cs.map V.int)) := upd_same
          generalize upd H14 kl (.lst (cs.map V.int)) = H15 at s15 P15 e15 f15 k15 ⊢
          clear e14 f14 P14 s14 hkl
          walk_at "go"
          refine ⟨cl, cs, 1 + d5, wd, 1 + d6, rfl, SqL.of e15, n8, l8b, by omega, by omega, by omega, by omega, fun fl L H16 s16 hfl hL KL lL => ?_⟩
          have sH16 : Same H H16 := s15.trans s16
          have P16 := P15.sees s16
          walk_at "go"
          have e16 := s16 _ _ e15
          have f16 := s16 _ _ f15
          have k16 := s16 _ _ k15
          walk_at "go"
          refine ⟨cl, cs, 1 + d5, wd, 1 + d6, rfl, SqL.of e16, n8, l8b, by omega, by omega, fun ul M H17 s17 hul hM KM lM => ?_⟩
          have eLM : L = M := keptL_same KL KM
          subst eLM
          have sH17 : Same H H17 := sH16.trans s17
          have P17 := P16.sees s17
          have e17 := s17 _ _ e16
          have f17 := s17 _ _ f16
          have k17 := s17 _ _ k16
          have hL17 := s17 _ _ hL
          walk_at "go"
          refine My.x_neI (by walk_at "sq") (by walk_at "sq") ?_
          simp only [decide_true, Bool.not_true]
          walk_at "go"
          refine My.x_neI (by walk_at "sq") (by walk_at "sq") ?_
          simp only [decide_true, Bool.not_true]
          walk_at "go"
          have nfl : H fl = none := s15.free hfl
          have npf : p ≠ fl := fun z => by
            obtain ⟨c, sd, hc, _⟩ := P15
            rw [z, hfl] at hc
            cases hc
          have ncf : cl ≠ fl := fun z => by rw [z, hfl] at e15; cases e15
          have nrf : rl ≠ fl := fun z => by rw [z, hfl] at f15; cases f15
          have s18 := My.Same.mut (o := .lst (L.map V.int ++ [V.non])) sH17 nfl
          have P18 := P17.mut (o := .lst (L.map V.int ++ [V.non])) npf
          have e18 : upd H17 fl (.lst (L.map V.int ++ [V.non])) cl = some (.lst (cs.map V.int)) := by rw [upd_ne ncf]; exact e17
          have f18 : upd H17 fl (.lst (L.map V.int ++ [V.non])) rl = some (.lst [V.int (1 + d5), V.int wd, V.int (1 + d6)]) := by rw [upd_ne nrf]; exact f17
          generalize upd H17 fl (.lst (L.map V.int ++ [V.non])) = H18 at s18 P18 e18 f18 ⊢
          walk_at "go"
          refine ⟨cl, cs, 1 + d5, wd, 1 + d6, rfl, SqL.of e18, n8, l8b, by omega, by omega, by omega, by omega, fun gl L2 H19 s19 hgl hL2 KL2 lL2 => ?_⟩
          have e19 := s19 _ _ e18
          have f19 := s19 _ _ f18
          have P19 := P18.sees s19
          walk_at "go"
          refine ⟨cl, cs, 1 + d5, wd, 1 + d6, rfl, SqL.of e19, n8, l8b, by omega, by omega, fun vl M2 H20 s20 hvl hM2 KM2 lM2 => ?_⟩
          have eLM2 : L2 = M2 := keptL_same KL2 KM2
          subst eLM2
          have hL20 := s20 _ _ hL2
          have P20 := P19.sees s20
          walk_at "go"
          refine My.x_neI (by walk_at "sq") (by walk_at "sq") ?_
          simp only [decide_true, Bool.not_true]
          walk_at "go"
          exact ⟨(s18.trans s19).trans s20, P20, _, _, _, _, _, _, _, _, _, rfl⟩
      · rintro σ' H3 ⟨s3, P3, o3, o4, o5, o6, o7, o8, o9, o10, o11, rfl⟩
        exact ⟨s3, _, _, _, _, _, _, _, _, _, _, _, rfl⟩
    · rintro σ' H1 ⟨s1, o1, o2, o3, o4, o5, o6, o7, o8, o9, o10, o11, rfl⟩
      walk_at "go"
      intro el hel
      walk_at "go"
      refine ⟨el, [], 3, 7, 2, rfl, SqL.of upd_same, List.nodup_nil, by decide, by decide, by decide, by decide, by decide, fun fl L H16 s16 hfl hL KL lL => ?_⟩
      have eL : L = [] := List.eq_nil_iff_forall_not_mem.mpr fun x hx => by
        have := ((KL.2 x).mp hx).1
        cases this
      subst eL
      walk_at "go"
      intro zl hzl
      refine My.x_eqI (ns := []) (ms := []) (SqL.of ?_) (SqL.of upd_same) ?_
      · rw [upd_ne (ne_of_none hL hzl)]; exact hL
      · simp only [decide_true]
        exact q _
end
/-! ### the head -/
def fn : List He.DefD := [d_kept_clocks, d_law_pool, d_law_draw, d_law_due, d_law]
def fa : List He.Fa := [.glo "kept_clocks", .glo "_law_pool", .glo "_law_draw", .glo "_law_due", .glo "law", .free "len", .free "int", .free "sorted", .free "max", .free "min", .free "list", .free "range", .free "enumerate"]
abbrev R : PySem.W.OpenRow := PySem.W.OpenLaw.row PySem.Challenge.rw_livevolumes_k67_clocks_that_are_kept
abbrev hk : PySem.W.Hook := He.hookD 4 fa fn
def ob (s : PySem.W.SharedT) : He.AlD := He.obsDG 4 fa fn (HandSHeadRun.getT s)
theorem ob_eq (s : PySem.W.SharedT) : ob s = hk.obs s.abs := He.obsDG_eq (HandSHeadRun.getT_eq s)
theorem run (w : World) : HandSHeadRun.RunEq R (PySem.W.view R.prog [6]) hk ob 800 ["kept_clocks", "_law_pool", "_law_draw", "_law_due"] w := by
  intro os
  kernel_rfl
theorem facts {P : Program} {w : World} {K : PySem.W.Frag} {h : Heap} {mg : Str → Option Value} {f : Addr} (X : K.In h) (G : h.Ns mainGlobals mg) (hfa : mg ("law" : Str) = some (.ref f)) (c : He.SaysD fa fn K) :
    ∃ fd : FuncData, (∀ (s : Shared) (v : Value), BindsTo s fd ⟨[v], []⟩ [("_law_script", v)]) ∧ ∀ base : Heap, K.In base → base.Ns mainGlobals mg → FnOk P w K mg base CX0 2 f fd ["_law_script"] (sp_law K) := by
  obtain ⟨fd0, F0⟩ := c.def_ 0 (d := d_kept_clocks) rfl
  obtain ⟨fd1, F1⟩ := c.def_ 1 (d := d_law_pool) rfl
  obtain ⟨fd2, F2⟩ := c.def_ 2 (d := d_law_draw) rfl
  obtain ⟨fd3, F3⟩ := c.def_ 3 (d := d_law_due) rfl
  obtain ⟨fd4, F4⟩ := c.def_ 4 (d := d_law) rfl
  have e := hfa.symm.trans (He.glo_ok X G (c.fact 4 (f := .glo "law") rfl))
  cases e
  have T : Tx mg := ⟨He.free_ok X G (c.fact 5 rfl), He.free_ok X G (c.fact 6 rfl), He.free_ok X G (c.fact 7 rfl), He.free_ok X G (c.fact 8 rfl), He.free_ok X G (c.fact 9 rfl), He.free_ok X G (c.fact 10 rfl), He.free_ok X G (c.fact 11 rfl), He.free_ok X G (c.fact 12 rfl)⟩
  have b := FunD.bindsA (ps := ["_law_script"]) F4 fun _ _ _ _ _ _ us hl => match us, hl with | [_], _ => rfl
  exact ⟨fd4, fun s v => b s [v] rfl, fun base _ _ => ok_law T F4
    ⟨⟨fd1, ok_pool T F1, F1.bindsN fun _ _ _ _ _ _ us hl => match us, hl with | [_, _], _ => rfl⟩, F1.kp, He.glo_ok X G (c.fact 1 (f := .glo "_law_pool") rfl)⟩
    ⟨⟨fd2, ok_draw T F2, F2.bindsN fun _ _ _ _ _ _ us hl => match us, hl with | [_, _], _ => rfl⟩, F2.kp, He.glo_ok X G (c.fact 2 (f := .glo "_law_draw") rfl)⟩
    ⟨⟨fd0, ok_kept T F0, F0.bindsN fun _ _ _ _ _ _ us hl => match us, hl with | [_, _, _, _], _ => rfl⟩, F0.kp, He.glo_ok X G (c.fact 0 (f := .glo "kept_clocks") rfl)⟩
    ⟨⟨fd3, ok_due T F3, F3.bindsN fun _ _ _ _ _ _ us hl => match us, hl with | [_, _, _, _], _ => rfl⟩, F3.kp, He.glo_ok X G (c.fact 3 (f := .glo "_law_due") rfl)⟩⟩
end K67
open PySem PySem.W PySem.Calls PyProof.Rows
theorem PySem.Challenge.cw_livevolumes_k67_clocks_that_are_kept_holds : PySem.Challenge.rw_livevolumes_k67_clocks_that_are_kept.Holds := by
  w_on; o_law
  refine HandSHeadRun.head_any (r := K67.R) (q := view K67.R.prog [6]) (H := K67.hk) (ob := K67.ob) (M := 800) (loose := ["kept_clocks", "_law_pool", "_law_draw", "_law_due"]) (d := HandSHeadRun.topDef K67.R.prog 6) (kwd := []) K67.ob_eq
    (by kernel_rfl) (fun s => by kernel_rfl) K67.run (by kernel_rfl) (by kernel_rfl) (by kernel_rfl) (by rfl) (by first | assumption | decide +kernel) (by decide +kernel) ⟨rfl, rfl, rfl, rfl, rfl, by decide +kernel⟩ ?hw ?hc
  case hw => w_witness2
  case hc =>
    refine L2.walk_ofE (l := PySem.Challenge.rw_livevolumes_k67_clocks_that_are_kept) (n := 63) (k := 2) (x := "_law_script") (CX := L2.CX0) rfl (by decide) (by kernel_rfl) ⟨rfl, by decide, by decide⟩ ?F (fun _ _ _ _ z => z)
    intro w mg fa h Y G hmg0
    obtain ⟨K, KX, c⟩ := Y
    have hmg : mg ("law" : PySem.Str) = some (.ref fa) := by
      have e : (HandSHeadRun.topDef K67.R.prog 6).name = ("law" : PySem.Str) := by kernel_rfl
      rw [← e]
      exact hmg0
    obtain ⟨fd, hb, hF⟩ := K67.facts (P := (PySem.Challenge.rw_livevolumes_k67_clocks_that_are_kept).prog) (w := w) KX G hmg c
    exact ⟨K, fd, K67.sp_law K, KX, hb, fun H a ns hl _ hS => ⟨a, ns, rfl, hS, hl, fun _ => rfl⟩, hF⟩
#print axioms PySem.Challenge.cw_livevolumes_k67_clocks_that_are_kept_holds
